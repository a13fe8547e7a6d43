/- What each function computes, printed by a program out of the translation; what is printed is checked in the equations. -/
import Derived.Test.YtdofdihhmbbbhaaGreatF1
set_option linter.unusedVariables false
set_option linter.unusedSimpArgs false
set_option linter.unusedSectionVars false
namespace Go.M
noncomputable section
abbrev pZ:Type:=ACR×Unit
def iQ(p0:AAZ):Option pZ:=
 some (((decide ((p0.length:Int)>1048576)),()),())
abbrev Sf:Type:=AC8×ADN
abbrev U3:Type:=List Int→Int→Int→Option Sf
def Vh(R3:U3)(t0:AAZ)(t3 t4:Int):Option Sf:=
 cond ((decide (t4<(t0.length:Int))))
  (cond (decide (t4<4000))
   (if(0:Int)≤t4∧t4<(t0.length:Int)then(
   R3 t0 (Yo .i64 (AX ((AX ((AX (t3*131))+(AX ((t0.getD (t4.toNat) 0)))))+7)) 1073741823) (AX (t4+1)))else none)
  (some (((),()),((t0,0,t3,()),()))))
 (some (((),()),((t0,0,t3,()),())))
def Me:Nat→U3
 |0=>fun _ _ _=>none
 |n+1=>Vh (Me n)
def Vx(R3:U3)(p0:AAZ):Option Sf:=
 R3 p0 (AX (17817+(p0.length:Int))) 0
def V8(p0:AAZ):Option Sf:=Vx (Me AZ) p0
abbrev jq:Type:=ACx×ADN
def JG(AH:AAZ)(AJ AM:Int):Option jq:=
 let x2:Int:=AX ((AX (AM*6364136223846793005))+1442695040888963407)
 let x3:Int:=ADq .i64 (x2.fdiv (2^33)) (x2.fdiv (2^45))
 cond ((decide (AJ<(AH.length:Int))))
  (if(0:Int)≤AJ∧AJ<(AH.length:Int)then(
  some ((Yo .i64 (AX ((Yo .i64 x3 255)+(AX ((AH.getD (AJ.toNat) 0))))) 255,()),((AH,AX (AJ+1),x2,()),())))else none)
 (some ((Yo .i64 x3 255,()),((AH,AJ,x2,()),())))
abbrev Fj:Type:=ACx×ADN
def AF(p1:Int)(AH:AAZ)(AJ AM:Int):Option Fj:=
 cond (decide (p1≤0))
  (some ((0,()),((AH,AJ,AM,()),())))
 (cond (decide (p1≤256))
  ((JG AH AJ AM).bind fun u1=>
  if p1=0 then none else(
  some ((u1.1.1.tmod p1,()),((u1.2.1.1,u1.2.1.2.1,u1.2.1.2.2.1,()),()))))
 ((JG AH AJ AM).bind fun u2=>
 (JG u2.2.1.1 u2.2.1.2.1 u2.2.1.2.2.1).bind fun u3=>
 (JG u3.2.1.1 u3.2.1.2.1 u3.2.1.2.2.1).bind fun u4=>
 (JG u4.2.1.1 u4.2.1.2.1 u4.2.1.2.2.1).bind fun u5=>
 if p1=0 then none else(
 some ((((AX ((AX ((AX ((AX (u2.1.1*16777216))+(AX (u3.1.1*65536))))+(AX (u4.1.1*256))))+u5.1.1)).tmod p1),()),((u5.2.1.1,u5.2.1.2.1,u5.2.1.2.2.1,()),())))))
abbrev J5:Type:=ACR×ADN
def Ao(p1:Int)(AH:AAZ)(AJ AM:Int):Option J5:=
 (AF p1 AH AJ AM).bind fun u1=>
 some ((u1.1.1==0,()),((u1.2.1.1,u1.2.1.2.1,u1.2.1.2.2.1,()),()))
abbrev Ja:Type:=ADU×AEg
abbrev MS:Type:=Int→Int→List Int→Int→Int→Int→List Int→Int→List Int→Option Ja
def OD(R4:MS)(t4 t5:Int)(AH:AAZ)(AJ AM Ai:Int)(b2:AAZ)(Xr:Int)(b4:AAZ):Option Ja:=
 cond (decide (t5<t4))
  ((AF 5 AH AJ AM).bind fun u3=>
  if b4.length+1≤Dd then(
  R4 t4 (AX (t5+1)) u3.2.1.1 u3.2.1.2.1 u3.2.1.2.2.1 Ai b2 Xr (b4++[u3.1.1]))else none)
 ((Ao 2 AH AJ AM).bind fun u5=>
 cond (u5.1.1)
  (some ((((),2,()),()),((u5.2.1.1,u5.2.1.2.1,u5.2.1.2.2.1,()),b4,())))
 (some ((((),Xr,()),()),((u5.2.1.1,u5.2.1.2.1,u5.2.1.2.2.1,()),b4,()))))
def GR:Nat→MS
 |0=>fun _ _ _ _ _ _ _ _ _=>none
 |n+1=>OD (GR n)
def Oj(R4:MS)(AH:AAZ)(AJ AM:Int):Option Ja:=
 (AF 3 AH AJ AM).bind fun u1=>
 (AF 5 u1.2.1.1 u1.2.1.2.1 u1.2.1.2.2.1).bind fun u2=>
 R4 (AX (3+u2.1.1)) 0 u2.2.1.1 u2.2.1.2.1 u2.2.1.2.2.1 0 [] (AX (1+u1.1.1)) []
def Iu(AH:AAZ)(AJ AM:Int):Option Ja:=Oj (GR AZ) AH AJ AM
abbrev bp:Type:=ACx×ADN
def Bp(p1 AH:AAZ)(AJ AM:Int):Option bp:=
 (AF (p1.length:Int) AH AJ AM).bind fun u1=>
 if(0:Int)≤u1.1.1∧u1.1.1<(p1.length:Int)then(
 some (((p1.getD (u1.1.1.toNat) 0),()),((u1.2.1.1,u1.2.1.2.1,u1.2.1.2.2.1,()),())))else none
abbrev VE:Type:=ADU×AEg
def NT(AH:AAZ)(AJ AM:Int):Option VE:=
 (Iu AH AJ AM).bind fun u1=>
 (AF 20 u1.2.1.1 u1.2.1.2.1 u1.2.1.2.2.1).bind fun u2=>
 cond (u2.1.1==0)
  ((Bp [0,4,5] u2.2.1.1 u2.2.1.2.1 u2.2.1.2.2.1).bind fun u3=>
  some ((((),u3.1.1,()),()),((u3.2.1.1,u3.2.1.2.1,u3.2.1.2.2.1,()),u1.2.2.1,())))
 (cond (u2.1.1==1)
  ((Bp [(-1),7,8] u2.2.1.1 u2.2.1.2.1 u2.2.1.2.2.1).bind fun u4=>
  if(0:Int)≤(0:Int)∧(0:Int)<(u1.2.2.1.length:Int)then(
  some ((((),u1.1.1.2.1,()),()),((u4.2.1.1,u4.2.1.2.1,u4.2.1.2.2.1,()),(u1.2.2.1.set 0 u4.1.1),())))else none)
 (cond (u2.1.1==2)
  ((Bp [0,8,9] u2.2.1.1 u2.2.1.2.1 u2.2.1.2.2.1).bind fun u6=>
  if(0:Int)≤u6.1.1∧u6.1.1≤u6.1.1∧u6.1.1≤(Dd:Int)then(
  some ((((),u1.1.1.2.1,()),()),((u6.2.1.1,u6.2.1.2.1,u6.2.1.2.2.1,()),(List.replicate (u6.1.1.toNat) 0),())))else none)
 (some ((((),u1.1.1.2.1,()),()),((u2.2.1.1,u2.2.1.2.1,u2.2.1.2.2.1,()),u1.2.2.1,())))))
abbrev et:Type:=AC8×AC7
def Uw(p0:AAZ):Option et:=
 if 0+p0.length≤Dd then(
 some (((),()),(p0,())))else none
abbrev jT:Type:=ACR×Unit
def Cv(p0 p1 p2:Int):Option jT:=
 cond (decide (p0≥p1))
  (some ((decide (p0≤p2),()),()))
 (some ((false,()),()))
abbrev M3:Type:=ACR×Unit
abbrev Pe:Type:=List Int→Int→Int→List Int→Int→Option M3
def RV(R2:Pe)(t6:AAZ)(t7 t8:Int)(AH:AAZ)(AJ:Int):Option M3:=
 cond (decide (t8<t7))
  (if(0:Int)≤t8∧t8<(t6.length:Int)then(
  (Cv (t6.getD (t8.toNat) 0) 0 7).bind fun u2=>
  cond (!u2.1.1)
   (some ((false,()),()))
  (R2 t6 t7 (AX (t8+1)) AH AJ))else none)
 ((Cv (AH.length:Int) 1 8).bind fun u3=>
 cond (u3.1.1)
  ((Cv AJ 1 4).bind fun u4=>
  some ((u4.1.1,()),()))
 (some ((false,()),())))
def JA:Nat→Pe
 |0=>fun _ _ _ _ _=>none
 |n+1=>RV (JA n)
def Ro(R2:Pe)(p0:ABd):Option M3:=
 R2 p0.1 (p0.1.length:Int) 0 p0.1 p0.2.1
def DW(p0:ABd):Option M3:=Ro (JA AZ) p0
abbrev OM:Type:=ACR×Unit
abbrev RM:Type:=List Int→Int→List Int→Int→Int→Option OM
def NQ(R2:RM)(t0:AAZ)(t1:Int)(t7:AAZ)(t8 t9:Int):Option OM:=
 cond (decide (t9<t8))
  (if(0:Int)≤t9∧t9<(t7.length:Int)then(
  let x1:Int:=(t7.getD (t9.toNat) 0)
  (Cv x1 0 t1).bind fun u2=>
  cond (!u2.1.1)
   (some ((false,()),()))
  (cond (decide (t9>0))
   (if(0:Int)≤AX (t9-1)∧AX (t9-1)<(t0.length:Int)then(
   cond (decide ((t0.getD ((AX (t9-1)).toNat) 0)≥x1))
    (some ((false,()),()))
   (R2 t0 t1 t7 t8 (AX (t9+1))))else none)
  (R2 t0 t1 t7 t8 (AX (t9+1)))))else none)
 (some ((true,()),()))
def Ho:Nat→RM
 |0=>fun _ _ _ _ _=>none
 |n+1=>NQ (Ho n)
def Sz(R2:RM)(p0:AAZ)(p1:Int):Option OM:=
 R2 p0 p1 p0 (p0.length:Int) 0
def SF(p0:AAZ)(p1:Int):Option OM:=Sz (Ho AZ) p0 p1
abbrev gJ:Type:=ACR×Unit
def Fa(p0:ABd)(p1:AAZ):Option gJ:=
 (DW (p0.1,p0.2.1,())).bind fun u1=>
 cond (u1.1.1)
  ((SF p1 (AX ((p0.1.length:Int)-1))).bind fun u3=>
  some ((u3.1.1,()),()))
 (some ((false,()),()))
abbrev gP:Type:=ACR×Unit
def Hy(p0:Int):Option gP:=
 (Cv p0 1 30).bind fun u1=>
 some ((u1.1.1,()),())
abbrev kz:Type:=ACR×Unit
def aB(p0:Int):Option kz:=
 (Cv p0 1 60).bind fun u1=>
 some ((u1.1.1,()),())
abbrev gj:Type:=ACR×Unit
def Cx(p0:Int):Option gj:=
 (Hy (AX (p0.tdiv 4294967296))).bind fun u2=>
 cond (u2.1.1)
  ((aB (p0.tmod 4294967296)).bind fun u3=>
  some ((u3.1.1,()),()))
 (some ((false,()),()))
abbrev jb:Type:=ACR×Unit
def Gk(p0:ACu):Option jb:=
 some (((decide ((p0.length:Int)≤40)),()),())
abbrev gO:Type:=ACx×Unit
def IA(p0:Int):Option gO:=
 (Cx p0).bind fun u1=>
 cond (!u1.1.1)
  (some ((0,()),()))
 (some (((AX (p0.tdiv 4294967296)),()),()))
abbrev fT:Type:=ACR×Unit
def O6(p0:ADQ):Option fT:=
 (Cv p0.2.1 0 30).bind fun u1=>
 cond (u1.1.1)
  (cond (p0.2.1==0)
   (cond (!p0.2.2.1)
    ((Cx p0.1).bind fun u2=>
    cond (u2.1.1)
     ((Gk p0.2.2.2.1).bind fun u3=>
     some ((u3.1.1,()),()))
    (some ((false,()),())))
   (cond (decide (p0.2.1>0))
    ((Cx p0.1).bind fun u4=>
    cond (u4.1.1)
     (cond (p0.2.2.2.1==[])
      ((Gk p0.2.2.2.1).bind fun u5=>
      some ((u5.1.1,()),()))
     (some ((false,()),())))
    (some ((false,()),())))
   ((Cx p0.1).bind fun u6=>
   cond (u6.1.1)
    (some ((false,()),()))
   (some ((false,()),())))))
  ((IA p0.1).bind fun u7=>
  let x8:Bool:=decide (p0.2.1>u7.1.1)
  cond (!p0.2.2.1)
   ((Cx p0.1).bind fun u9=>
   cond (u9.1.1)
    (cond (x8)
     ((Gk p0.2.2.2.1).bind fun Hc=>
     some ((Hc.1.1,()),()))
    (some ((false,()),())))
   (some ((false,()),())))
  (cond (decide (p0.2.1>0))
   ((Cx p0.1).bind fun QE=>
   cond (QE.1.1)
    (cond (x8)
     (cond (p0.2.2.2.1==[])
      ((Gk p0.2.2.2.1).bind fun C7=>
      some ((C7.1.1,()),()))
     (some ((false,()),())))
    (some ((false,()),())))
   (some ((false,()),())))
  ((Cx p0.1).bind fun Tt=>
  cond (Tt.1.1)
   (cond (x8)
    (some ((false,()),()))
   (some ((false,()),())))
  (some ((false,()),()))))))
 (cond (!p0.2.2.1)
  ((Cx p0.1).bind fun Kp=>
  cond (Kp.1.1)
   (some ((false,()),()))
  (some ((false,()),())))
 (cond (decide (p0.2.1>0))
  ((Cx p0.1).bind fun iZ=>
  cond (iZ.1.1)
   (some ((false,()),()))
  (some ((false,()),())))
 ((Cx p0.1).bind fun u16=>
 cond (u16.1.1)
  (some ((false,()),()))
 (some ((false,()),())))))
abbrev Lu:Type:=ACR×Unit
abbrev N6:Type:=ABV→Int→Int→Option Lu
def LF(R2:N6)(t5:ABV)(t6 t7:Int):Option Lu:=
 cond (decide (t7<t6))
  (if(0:Int)≤t7∧t7<(t5.length:Int)then(
  (O6 ((t5.getD (t7.toNat) (0,0,false,[],())).1,(t5.getD (t7.toNat) (0,0,false,[],())).2.1,(t5.getD (t7.toNat) (0,0,false,[],())).2.2.1,(t5.getD (t7.toNat) (0,0,false,[],())).2.2.2.1,())).bind fun u1=>
  cond (!u1.1.1)
   (some ((false,()),()))
  (R2 t5 t6 (AX (t7+1))))else none)
 (some ((true,()),()))
def GI:Nat→N6
 |0=>fun _ _ _=>none
 |n+1=>LF (GI n)
def Ql(R2:N6)(p0:ABV):Option Lu:=
 R2 p0 (p0.length:Int) 0
def LU(p0:ABV):Option Lu:=Ql (GI AZ) p0
abbrev Ia:Type:=ACR×Unit
abbrev LH:Type:=ABV→ABV→Int→Int→Option Ia
def I8(R2:LH)(t0 t5:ABV)(t6 t7:Int):Option Ia:=
 cond (decide (t7<t6))
  (if(0:Int)≤t7∧t7<(t5.length:Int)then(
  cond (decide (t7>0))
   (if(0:Int)≤AX (t7-1)∧AX (t7-1)<(t0.length:Int)then(
   cond (decide (((t0.getD ((AX (t7-1)).toNat) (0,0,false,[],())).1)≥((t5.getD (t7.toNat) (0,0,false,[],())).1)))
    (some ((false,()),()))
   (R2 t0 t5 t6 (AX (t7+1))))else none)
  (R2 t0 t5 t6 (AX (t7+1))))else none)
 (some ((true,()),()))
def EJ:Nat→LH
 |0=>fun _ _ _ _=>none
 |n+1=>I8 (EJ n)
def Nf(R2:LH)(p0:ABV):Option Ia:=
 R2 p0 p0 (p0.length:Int) 0
def Hv(p0:ABV):Option Ia:=Nf (EJ AZ) p0
abbrev fm:Type:=ACR×Unit
def SG(p0:AC1):Option fm:=
 cond ((decide ((p0.1.length:Int)>200)))
  (some ((false,()),()))
 (cond (decide ((p0.2.1.length:Int)>20))
  (some ((false,()),()))
 ((LU p0.1).bind fun u3=>
 cond (u3.1.1)
  ((LU p0.2.1).bind fun u4=>
  cond (u4.1.1)
   ((Hv p0.1).bind fun u5=>
   cond (u5.1.1)
    ((Cv p0.2.2.1 0 30).bind fun u6=>
    some ((u6.1.1,()),()))
   (some ((false,()),())))
  (some ((false,()),())))
 (some ((false,()),()))))
abbrev Gd:Type:=ACx×Unit
abbrev I2:Type:=List Int→Int→Int→Int→Option Gd
def Lh(R2:I2)(t0:AAZ)(t1 t7 t8:Int):Option Gd:=
 cond (decide (t8<t7))
  (if(0:Int)≤t8∧t8<(t0.length:Int)then(
  cond (t1==(t0.getD (t8.toNat) 0))
   (some ((t8,()),()))
  (R2 t0 t1 t7 (AX (t8+1))))else none)
 (some (((-1),()),()))
def EV:Nat→I2
 |0=>fun _ _ _ _=>none
 |n+1=>Lh (EV n)
def LD(R2:I2)(p0:AAZ)(p1:Int):Option Gd:=
 R2 p0 p1 (p0.length:Int) 0
def LY(p0:AAZ)(p1:Int):Option Gd:=LD (EV AZ) p0 p1
abbrev Tx:Type:=ACR×Unit
def EL(p0:AAZ)(p1:Int):Option Tx:=
 (LY p0 p1).bind fun u1=>
 some ((decide (u1.1.1≥0),()),())
abbrev jJ:Type:=ACR×Unit
def UK(p0:Int)(p1:AC7):Option jJ:=
 (EL p1.1 p0).bind fun u1=>
 some ((!u1.1.1,()),())
abbrev CZ:Type:=ACx×Unit
abbrev DF:Type:=List Int→(AC7×Unit)→Int→Int→Option CZ
def Ex(R2:DF)(t0:AAZ)(t1:AC7×Unit)(t7 t8:Int):Option CZ:=
 cond (decide (t8<t7))
  (if(0:Int)≤t8∧t8<(t0.length:Int)then(
  (UK (t0.getD (t8.toNat) 0) t1.1).bind fun u2=>
  cond (u2.1.1)
   (some ((t8,()),()))
  (R2 t0 (t1.1,()) t7 (AX (t8+1))))else none)
 (some (((-1),()),()))
def CW:Nat→DF
 |0=>fun _ _ _ _=>none
 |n+1=>Ex (CW n)
def Em(R2:DF)(p0:AAZ)(p1:AC7×Unit):Option CZ:=
 R2 p0 (p1.1,()) (p0.length:Int) 0
def Df(p0:AAZ)(p1:AC7×Unit):Option CZ:=Em (CW AZ) p0 p1
abbrev CU:Type:=AC8×(Unit×List Int×Unit)
abbrev C8:Type:=(AC7×Unit)→Int→Int→List Int→Option CU
def EY(R5:C8)(t1:AC7×Unit)(t5 t6:Int)(b0:AAZ):Option CU:=
 cond ((decide (t6<(b0.length:Int))))
  (if(0:Int)≤t6∧t6<(b0.length:Int)then(
  let x3:Int:=(b0.getD (t6.toNat) 0)
  (UK x3 t1.1).bind fun u4=>
  cond (!u4.1.1)
   (if(0:Int)≤t5∧t5<(b0.length:Int)then(
   R5 (t1.1,()) (AX (t5+1)) (AX (t6+1)) (b0.set (t5.toNat) x3))else none)
  (R5 (t1.1,()) t5 (AX (t6+1)) b0))else none)
 (if(0:Int)≤t5∧t5≤(b0.length:Int)∧(b0.length:Int)≤(b0.length:Int)then(
 let x6:AAZ:=(b0.take (t5.toNat)++List.replicate (((b0.length:Int).toNat)-(t5.toNat)) 0++b0.drop ((t5.toNat)+(((b0.length:Int).toNat)-(t5.toNat))))
 if(0:Int)≤(0:Int)∧(0:Int)≤t5∧t5≤(x6.length:Int)then(
 some (((),()),((),((x6.drop 0).take ((t5.toNat)-0)),())))else none)else none)
def CP:Nat→C8
 |0=>fun _ _ _ _=>none
 |n+1=>EY (CP n)
def EZ(R5:C8)(p1:AC7×Unit)(b0:AAZ):Option CU:=
 (Df b0 (p1.1,())).bind fun u1=>
 cond (u1.1.1==(-1))
  (some (((),()),((),b0,())))
 (R5 (p1.1,()) u1.1.1 (AX (u1.1.1+1)) b0)
def Dc(p1:AC7×Unit)(b0:AAZ):Option CU:=EZ (CP AZ) p1 b0
abbrev nQ:Type:=AC8×AC7
def Yc(p0 p1:AAZ):Option nQ:=
 (Uw p0).bind fun u1=>
 (Dc ((p1,()),()) u1.2.1).bind fun u2=>
 some (((),()),(u2.2.2.1,()))
abbrev Yt:Type:=ACR×Unit
def Kj(p0:ACg)(p1:Int):Option Yt:=
 (Yc [p1] p0.2.2.2.1).bind fun u1=>
 some ((decide ((u1.2.1.length:Int)>0),()),())
abbrev QA:Type:=ACx×Unit
abbrev S3:Type:=List Int→Int→Int→List Int→Int→List Int→Option QA
def Ul(R5:S3)(t13:AAZ)(t14 t15:Int)(AH:AAZ)(AJ:Int)(b1:AAZ):Option QA:=
 cond (decide (t15<t14))
  (if(0:Int)≤t15∧t15<(t13.length:Int)then(
  let x2:Int:=(t13.getD (t15.toNat) 0)
  if(0:Int)≤x2∧x2<(AH.length:Int)then(
  (EL b1 (AH.getD (x2.toNat) 0)).bind fun u4=>
  cond (!u4.1.1)
   (if(0:Int)≤x2∧x2<(AH.length:Int)then(
   if b1.length+1≤Dd then(
   R5 t13 t14 (AX (t15+1)) AH AJ (b1++[(AH.getD (x2.toNat) 0)]))else none)else none)
  (R5 t13 t14 (AX (t15+1)) AH AJ b1))else none)else none)
 (some (((b1.length:Int),()),()))
def LQ:Nat→S3
 |0=>fun _ _ _ _ _ _=>none
 |n+1=>Ul (LQ n)
def T1(R5:S3)(p0:ABd)(p1:AAZ):Option QA:=
 (Fa (p0.1,p0.2.1,()) p1).bind fun u1=>
 cond (!u1.1.1)
  (some (((-1),()),()))
 (R5 p1 (p1.length:Int) 0 p0.1 p0.2.1 [])
def T3(p0:ABd)(p1:AAZ):Option QA:=T1 (LQ AZ) p0 p1
abbrev la:Type:=ACR×Unit
def P5(p0:ABd)(p1:AAZ):Option la:=
 (Fa (p0.1,p0.2.1,()) p1).bind fun u1=>
 cond (u1.1.1)
  ((T3 (p0.1,p0.2.1,()) p1).bind fun u2=>
  some (((decide (u2.1.1≥p0.2.1)),()),()))
 (some ((false,()),()))
abbrev HY:Type:=ACR×Unit
abbrev JV:Type:=ACg→ABU→Int→Int→Option HY
def Hf(R4:JV)(t0:ACg)(t32:ABU)(t33 t34:Int):Option HY:=
 cond (decide (t34<t33))
  (if(0:Int)≤t34∧t34<(t32.length:Int)then(
  (SG ((t32.getD (t34.toNat) ([],[],0,())).1,(t32.getD (t34.toNat) ([],[],0,())).2.1,(t32.getD (t34.toNat) ([],[],0,())).2.2.1,())).bind fun u5=>
  cond (!u5.1.1)
   (some ((false,()),()))
  ((Kj t0 t34).bind fun u6=>
  cond (u6.1.1)
   (cond (decide ((AX ((AX ((((t32.getD (t34.toNat) ([],[],0,())).1).length:Int)+(((t32.getD (t34.toNat) ([],[],0,())).2.1).length:Int)))+((t32.getD (t34.toNat) ([],[],0,())).2.2.1)))>0))
    (some ((false,()),()))
   (R4 t0 t32 t33 (AX (t34+1))))
  (R4 t0 t32 t33 (AX (t34+1)))))else none)
 (cond (t0.2.2.2.2.2.2.2.2.2.2.1)
  (some ((true,()),()))
 ((P5 (t0.1,t0.2.1,()) t0.2.2.2.1).bind fun C7=>
 some ((!C7.1.1,()),())))
def DZ:Nat→JV
 |0=>fun _ _ _ _=>none
 |n+1=>Hf (DZ n)
def MK(R4:JV)(p0:ACg):Option HY:=
 cond (((p0.2.2.1.length:Int) !=(p0.1.length:Int)))
  (some ((false,()),()))
 ((Fa (p0.1,p0.2.1,()) p0.2.2.2.1).bind fun u3=>
 cond (!u3.1.1)
  (some ((false,()),()))
 (R4 p0 p0.2.2.1 (p0.2.2.1.length:Int) 0))
def IW(p0:ACg):Option HY:=MK (DZ AZ) p0
abbrev lp:Type:=ACR×Unit
def Wo(p0:ABd)(p1:AEt):Option lp:=
 (P5 (p0.1,p0.2.1,()) p1.1).bind fun u1=>
 cond (u1.1.1)
  ((Cv p1.2.2.1 0 60).bind fun u2=>
  cond (u2.1.1)
   (cond (p1.2.1)
    (some ((true,()),()))
   (some ((p1.2.2.1==0,()),())))
  (some ((false,()),())))
 (some ((false,()),()))
abbrev Se:Type:=ACR×Unit
abbrev U9:Type:=ABK→Int→Int→List Int→Int→ABK→Int→Option Se
def P1(R2:U9)(t9:ABK)(t10 t11:Int)(AH:AAZ)(AJ:Int)(Aw:ABK)(Ai:Int):Option Se:=
 cond (decide (t11<t10))
  (if(0:Int)≤t11∧t11<(t9.length:Int)then(
  (Wo (AH,AJ,()) ((t9.getD (t11.toNat) ([],false,0,())).1,(t9.getD (t11.toNat) ([],false,0,())).2.1,(t9.getD (t11.toNat) ([],false,0,())).2.2.1,())).bind fun u1=>
  cond (!u1.1.1)
   (some ((false,()),()))
  (cond (((t9.getD (t11.toNat) ([],false,0,())).2.1))
   (cond (t11==(AX ((Aw.length:Int)-1)))
    (some ((false,()),()))
   (cond (decide (t11>0))
    (if(0:Int)≤AX (t11-1)∧AX (t11-1)<(Aw.length:Int)then(
    cond (!((Aw.getD ((AX (t11-1)).toNat) ([],false,0,())).2.1))
     (some ((false,()),()))
    (R2 t9 t10 (AX (t11+1)) AH AJ Aw Ai))else none)
   (R2 t9 t10 (AX (t11+1)) AH AJ Aw Ai)))
  (R2 t9 t10 (AX (t11+1)) AH AJ Aw Ai)))else none)
 (cond (Ai==0)
  ((DW (AH,AJ,())).bind fun u5=>
  cond (u5.1.1)
   (cond ((decide ((Aw.length:Int)≤30)))
    (some ((true,()),()))
   (some ((false,()),())))
  (some ((false,()),())))
 ((IA Ai).bind fun u7=>
 (Cv u7.1.1 1 (Aw.length:Int)).bind fun u8=>
 (DW (AH,AJ,())).bind fun u9=>
 cond (u9.1.1)
  (cond ((decide ((Aw.length:Int)≤30)))
   (some ((u8.1.1,()),()))
  (some ((false,()),())))
 (some ((false,()),()))))
def IU:Nat→U9
 |0=>fun _ _ _ _ _ _ _=>none
 |n+1=>P1 (IU n)
def Vr(R2:U9)(p0:ABd)(p1:ACv):Option Se:=
 R2 p1.1 (p1.1.length:Int) 0 p0.1 p0.2.1 p1.1 p1.2.1
def WZ(p0:ABd)(p1:ACv):Option Se:=Vr (IU AZ) p0 p1
abbrev gr:Type:=ACx×Unit
def Wm(p0:Bool):Option gr:=
 cond (p0)
  (some ((1,()),()))
 (some ((0,()),()))
abbrev NA:Type:=ACR×Unit
abbrev Pu:Type:=Int→ACs→Int→Int→List Int→Int→Int→ACs→Option NA
def Rc(R3:Pu)(t5:Int)(t9:ACs)(t10 t11:Int)(AH:AAZ)(AJ Aw:Int)(Ai:ACs):Option NA:=
 cond (decide (t11<t10))
  (if(0:Int)≤t11∧t11<(t9.length:Int)then(
  (Gk ((t9.getD (t11.toNat) ([],[],false,())).1)).bind fun u3=>
  cond (!u3.1.1)
   (some ((false,()),()))
  ((Fa (AH,AJ,()) ((t9.getD (t11.toNat) ([],[],false,())).2.1)).bind fun u4=>
  cond (!u4.1.1)
   (some ((false,()),()))
  ((P5 (AH,AJ,()) ((t9.getD (t11.toNat) ([],[],false,())).2.1)).bind fun u6=>
  cond (((t9.getD (t11.toNat) ([],[],false,())).2.2.1) !=u6.1.1)
   (some ((false,()),()))
  ((Wm (!((t9.getD (t11.toNat) ([],[],false,())).2.2.1))).bind fun u8=>
  R3 (AX (t5+u8.1.1)) t9 t10 (AX (t11+1)) AH AJ Aw Ai))))else none)
 ((DW (AH,AJ,())).bind fun u9=>
 cond (u9.1.1)
  ((Hy Aw).bind fun Hc=>
  cond (Hc.1.1)
   (cond ((decide ((Ai.length:Int)≤60)))
    (some ((decide (t5≤6),()),()))
   (some ((false,()),())))
  (some ((false,()),())))
 (some ((false,()),())))
def I4:Nat→Pu
 |0=>fun _ _ _ _ _ _ _ _=>none
 |n+1=>Rc (I4 n)
def Rn(R3:Pu)(p0:ABd)(p1:ACy):Option NA:=
 R3 0 p1.2.1 (p1.2.1.length:Int) 0 p0.1 p0.2.1 p1.1 p1.2.1
def QK(p0:ABd)(p1:ACy):Option NA:=Rn (I4 AZ) p0 p1
abbrev Xf:Type:=ACR×Unit
def HQ(p0:ACg)(p1:Int):Option Xf:=
 (Cv p1 1 (p0.2.2.2.2.1.length:Int)).bind fun u2=>
 some ((u2.1.1,()),())
abbrev Gf:Type:=ACR×Unit
abbrev JB:Type:=ACg→ABX→Int→Int→Option Gf
def HD(R2:JB)(t0:ACg)(t8:ABX)(t9 t10:Int):Option Gf:=
 cond (decide (t10<t9))
  (if(0:Int)≤t10∧t10<(t8.length:Int)then(
  (QK (t0.1,t0.2.1,()) ((t8.getD (t10.toNat) (0,[],())).1,(t8.getD (t10.toNat) (0,[],())).2.1,())).bind fun u2=>
  cond (!u2.1.1)
   (some ((false,()),()))
  ((HQ t0 ((t8.getD (t10.toNat) (0,[],())).1)).bind fun u4=>
  cond (!u4.1.1)
   (some ((false,()),()))
  (cond (decide (t10>0))
   (if(0:Int)≤AX (t10-1)∧AX (t10-1)<(t0.2.2.2.2.2.2.1.length:Int)then(
   cond (decide (((t0.2.2.2.2.2.2.1.getD ((AX (t10-1)).toNat) (0,[],())).1)≥((t8.getD (t10.toNat) (0,[],())).1)))
    (some ((false,()),()))
   (R2 t0 t8 t9 (AX (t10+1))))else none)
  (R2 t0 t8 t9 (AX (t10+1))))))else none)
 (some ((decide ((t0.2.2.2.2.2.2.1.length:Int)≤4),()),()))
def DG:Nat→JB
 |0=>fun _ _ _ _=>none
 |n+1=>HD (DG n)
def LP(R2:JB)(p0:ACg):Option Gf:=
 R2 p0 p0.2.2.2.2.2.2.1 (p0.2.2.2.2.2.2.1.length:Int) 0
def IF(p0:ACg):Option Gf:=LP (DG AZ) p0
abbrev lC:Type:=ACx×Unit
def Tb(p0:Int):Option lC:=
 (Cx p0).bind fun u1=>
 cond (!u1.1.1)
  (some ((0,()),()))
 (some ((p0.tmod 4294967296,()),()))
abbrev gk:Type:=ACx×Unit
def Ru(p0:ACp):Option gk:=
 cond ((p0.2.2.2.1.length:Int)==0)
  (some ((0,()),()))
 (let x2:Int:=(p0.2.2.2.1.length:Int)
 if(0:Int)≤AX (x2-1)∧AX (x2-1)<(p0.2.2.2.1.length:Int)then(
 (Tb ((p0.2.2.2.1.getD ((AX (x2-1)).toNat) (0,0,false,[],())).1)).bind fun u4=>
 some ((u4.1.1,()),()))else none)
abbrev QR:Type:=ACR×Unit
abbrev Tf:Type:=ABV→Int→Int→Int→Int→List Int→ABV→Bool→List AAZ→Option QR
def N9(R2:Tf)(t6:ABV)(t7 t8 AH AJ:Int)(AM:AAZ)(BS:ABV)(Bi:Bool)(BW:List AAZ):Option QR:=
 cond (decide (t8<t7))
  (if(0:Int)≤t8∧t8<(t6.length:Int)then(
  (O6 ((t6.getD (t8.toNat) (0,0,false,[],())).1,(t6.getD (t8.toNat) (0,0,false,[],())).2.1,(t6.getD (t8.toNat) (0,0,false,[],())).2.2.1,(t6.getD (t8.toNat) (0,0,false,[],())).2.2.2.1,())).bind fun u2=>
  cond (!u2.1.1)
   (some ((false,()),()))
  ((IA ((t6.getD (t8.toNat) (0,0,false,[],())).1)).bind fun u4=>
  cond (u4.1.1 !=AJ)
   (some ((false,()),()))
  (cond (decide (((t6.getD (t8.toNat) (0,0,false,[],())).2.1)≥AH))
   (some ((false,()),()))
  (R2 t6 t7 (AX (t8+1)) AH AJ AM BS Bi BW))))else none)
 ((Hv BS).bind fun u6=>
 some ((u6.1.1,()),()))
def Ir:Nat→Tf
 |0=>fun _ _ _ _ _ _ _ _ _=>none
 |n+1=>N9 (Ir n)
def T4(R2:Tf)(p0:ACp):Option QR:=
 R2 p0.2.2.2.1 (p0.2.2.2.1.length:Int) 0 p0.1 p0.2.1 p0.2.2.1 p0.2.2.2.1 p0.2.2.2.2.1 p0.2.2.2.2.2.1
def Qs(p0:ACp):Option QR:=T4 (Ir AZ) p0
abbrev QB:Type:=ACR×Unit
abbrev TV:Type:=List AAZ→Int→Int→List Int→Int→Int→Int→List Int→ABV→Bool→List AAZ→Option QB
def Oz(R2:TV)(t10:List AAZ)(t11 t12:Int)(AH:AAZ)(AJ Aw Ai:Int)(CS:AAZ)(Jp:ABV)(PJ:Bool)(EE:List AAZ):Option QB:=
 cond (decide (t12<t11))
  (if(0:Int)≤t12∧t12<(t10.length:Int)then(
  (Fa (AH,AJ,()) (t10.getD (t12.toNat) [])).bind fun u2=>
  cond (!u2.1.1)
   (some ((false,()),()))
  (R2 t10 t11 (AX (t12+1)) AH AJ Aw Ai CS Jp PJ EE))else none)
 (cond (PJ)
  ((Ru (Aw,Ai,CS,Jp,PJ,EE,())).bind fun u3=>
  (Hy Ai).bind fun u4=>
  cond (u4.1.1)
   ((Cv Aw (AX (Ai+1)) 30).bind fun u5=>
   (DW (AH,AJ,())).bind fun u6=>
   cond (u6.1.1)
    (cond (u5.1.1)
     ((Fa (AH,AJ,()) CS).bind fun u7=>
     cond (u7.1.1)
      ((Qs (Aw,Ai,CS,Jp,PJ,EE,())).bind fun u8=>
      cond (u8.1.1)
       (some ((((EE.length:Int)==u3.1.1),()),()))
      (some ((false,()),())))
     (some ((false,()),())))
    (some ((false,()),())))
   (some ((false,()),())))
  ((DW (AH,AJ,())).bind fun Hc=>
  cond (Hc.1.1)
   (some ((false,()),()))
  (some ((false,()),()))))
 ((Hy Ai).bind fun QE=>
 cond (QE.1.1)
  ((Cv Aw (AX (Ai+1)) 30).bind fun C7=>
  (DW (AH,AJ,())).bind fun Tt=>
  cond (Tt.1.1)
   (cond (C7.1.1)
    ((Fa (AH,AJ,()) CS).bind fun Kp=>
    cond (Kp.1.1)
     ((Qs (Aw,Ai,CS,Jp,PJ,EE,())).bind fun iZ=>
     cond (iZ.1.1)
      (some ((((EE.length:Int)==0),()),()))
     (some ((false,()),())))
    (some ((false,()),())))
   (some ((false,()),())))
  (some ((false,()),())))
 ((DW (AH,AJ,())).bind fun V1=>
 cond (V1.1.1)
  (some ((false,()),()))
 (some ((false,()),())))))
def Iv:Nat→TV
 |0=>fun _ _ _ _ _ _ _ _ _ _ _=>none
 |n+1=>Oz (Iv n)
def Uo(R2:TV)(p0:ABd)(p1:ACp):Option QB:=
 R2 p1.2.2.2.2.2.1 (p1.2.2.2.2.2.1.length:Int) 0 p0.1 p0.2.1 p1.1 p1.2.1 p1.2.2.1 p1.2.2.2.1 p1.2.2.2.2.1 p1.2.2.2.2.2.1
def UI(p0:ABd)(p1:ACp):Option QB:=Uo (Iv AZ) p0 p1
abbrev MG:Type:=ACx×Unit
abbrev Oo:Type:=ABK→Int→Int→Option MG
def Lg(R2:Oo)(t6:ABK)(t7 t8:Int):Option MG:=
 cond (decide (t8<t7))
  (if(0:Int)≤t8∧t8<(t6.length:Int)then(
  cond (!((t6.getD (t8.toNat) ([],false,0,())).2.1))
   (some ((AX (t8+1),()),()))
  (R2 t6 t7 (AX (t8+1))))else none)
 (some ((0,()),()))
def GH:Nat→Oo
 |0=>fun _ _ _=>none
 |n+1=>Lg (GH n)
def QS(R2:Oo)(p0:ACv):Option MG:=
 R2 p0.1 (p0.1.length:Int) 0
def Ov(p0:ACv):Option MG:=QS (GH AZ) p0
abbrev H_:Type:=ACR×Unit
abbrev KG:Type:=ACg→ABZ→Int→Int→Option H_
def IG(R2:KG)(t0:ACg)(t8:ABZ)(t9 t10:Int):Option H_:=
 cond (decide (t10<t9))
  (if(0:Int)≤t10∧t10<(t8.length:Int)then(
  (UI (t0.1,t0.2.1,()) ((t8.getD (t10.toNat) (0,0,[],[],false,[],())).1,(t8.getD (t10.toNat) (0,0,[],[],false,[],())).2.1,(t8.getD (t10.toNat) (0,0,[],[],false,[],())).2.2.1,(t8.getD (t10.toNat) (0,0,[],[],false,[],())).2.2.2.1,(t8.getD (t10.toNat) (0,0,[],[],false,[],())).2.2.2.2.1,(t8.getD (t10.toNat) (0,0,[],[],false,[],())).2.2.2.2.2.1,())).bind fun u2=>
  cond (!u2.1.1)
   (some ((false,()),()))
  (cond (((t8.getD (t10.toNat) (0,0,[],[],false,[],())).1) !=(t0.2.2.2.2.1.length:Int))
   (some ((false,()),()))
  ((Ov (t0.2.2.2.2.1,t0.2.2.2.2.2.1,())).bind fun u6=>
  cond (((t8.getD (t10.toNat) (0,0,[],[],false,[],())).2.1) !=u6.1.1)
   (some ((false,()),()))
  (R2 t0 t8 t9 (AX (t10+1))))))else none)
 (some ((decide ((t0.2.2.2.2.2.2.2.1.length:Int)≤1),()),()))
def Du:Nat→KG
 |0=>fun _ _ _ _=>none
 |n+1=>IG (Du n)
def MZ(R2:KG)(p0:ACg):Option H_:=
 R2 p0 p0.2.2.2.2.2.2.2.1 (p0.2.2.2.2.2.2.2.1.length:Int) 0
def Jm(p0:ACg):Option H_:=MZ (Du AZ) p0
abbrev eF:Type:=ACR×Unit
def Uv(p0:AC2):Option eF:=
 (Cv p0.1 1 31).bind fun u1=>
 cond (u1.1.1)
  ((Cv p0.2.1 1 61).bind fun u2=>
  cond (u2.1.1)
   (some ((decide ((p0.2.2.1.length:Int)≤120),()),()))
  (some ((false,()),())))
 (some ((false,()),()))
abbrev Ga:Type:=ACR×Unit
abbrev I_:Type:=ACg→ABT→Int→Int→Option Ga
def HE(R2:I_)(t0:ACg)(t8:ABT)(t9 t10:Int):Option Ga:=
 cond (decide (t10<t9))
  (if(0:Int)≤t10∧t10<(t8.length:Int)then(
  (Uv ((t8.getD (t10.toNat) (0,0,[],())).1,(t8.getD (t10.toNat) (0,0,[],())).2.1,(t8.getD (t10.toNat) (0,0,[],())).2.2.1,())).bind fun u2=>
  cond (!u2.1.1)
   (some ((false,()),()))
  (R2 t0 t8 t9 (AX (t10+1))))else none)
 (some (((t0.2.2.2.2.2.2.2.2.1.length:Int)==2,()),()))
def DH:Nat→I_
 |0=>fun _ _ _ _=>none
 |n+1=>HE (DH n)
def Lb(R2:I_)(p0:ACg):Option Ga:=
 R2 p0 p0.2.2.2.2.2.2.2.2.1 (p0.2.2.2.2.2.2.2.2.1.length:Int) 0
def H9(p0:ACg):Option Ga:=Lb (DH AZ) p0
abbrev IV:Type:=ACR×Unit
abbrev K3:Type:=ACg→ABW→Int→Int→Option IV
def JC(R2:K3)(t0:ACg)(t8:ABW)(t9 t10:Int):Option IV:=
 cond (decide (t10<t9))
  (if(0:Int)≤t10∧t10<(t8.length:Int)then(
  (IA ((t8.getD (t10.toNat) (0,[],false,())).1)).bind fun u3=>
  (HQ t0 u3.1.1).bind fun u4=>
  cond (!u4.1.1)
   (some ((false,()),()))
  ((Gk ((t8.getD (t10.toNat) (0,[],false,())).2.1)).bind fun u6=>
  cond (!u6.1.1)
   (some ((false,()),()))
  (cond (decide (t10>0))
   (if(0:Int)≤AX (t10-1)∧AX (t10-1)<(t0.2.2.2.2.2.2.2.2.2.1.length:Int)then(
   cond (decide (((t0.2.2.2.2.2.2.2.2.2.1.getD ((AX (t10-1)).toNat) (0,[],false,())).1)≥((t8.getD (t10.toNat) (0,[],false,())).1)))
    (some ((false,()),()))
   (R2 t0 t8 t9 (AX (t10+1))))else none)
  (R2 t0 t8 t9 (AX (t10+1))))))else none)
 (some ((decide ((t0.2.2.2.2.2.2.2.2.2.1.length:Int)≤120),()),()))
def EU:Nat→K3
 |0=>fun _ _ _ _=>none
 |n+1=>JC (EU n)
def Nv(R2:K3)(p0:ACg):Option IV:=
 R2 p0 p0.2.2.2.2.2.2.2.2.2.1 (p0.2.2.2.2.2.2.2.2.2.1.length:Int) 0
def Ka(p0:ACg):Option IV:=Nv (EU AZ) p0
abbrev gM:Type:=ACR×Unit
def C_(p0:ACg):Option gM:=
 (DW (p0.1,p0.2.1,())).bind fun u1=>
 cond (u1.1.1)
  ((IW (p0.1,p0.2.1,p0.2.2.1,p0.2.2.2.1,p0.2.2.2.2.1,p0.2.2.2.2.2.1,p0.2.2.2.2.2.2.1,p0.2.2.2.2.2.2.2.1,p0.2.2.2.2.2.2.2.2.1,p0.2.2.2.2.2.2.2.2.2.1,p0.2.2.2.2.2.2.2.2.2.2.1,())).bind fun u2=>
  cond (u2.1.1)
   ((WZ (p0.1,p0.2.1,()) (p0.2.2.2.2.1,p0.2.2.2.2.2.1,())).bind fun u3=>
   cond (u3.1.1)
    ((IF (p0.1,p0.2.1,p0.2.2.1,p0.2.2.2.1,p0.2.2.2.2.1,p0.2.2.2.2.2.1,p0.2.2.2.2.2.2.1,p0.2.2.2.2.2.2.2.1,p0.2.2.2.2.2.2.2.2.1,p0.2.2.2.2.2.2.2.2.2.1,p0.2.2.2.2.2.2.2.2.2.2.1,())).bind fun u4=>
    cond (u4.1.1)
     ((Jm (p0.1,p0.2.1,p0.2.2.1,p0.2.2.2.1,p0.2.2.2.2.1,p0.2.2.2.2.2.1,p0.2.2.2.2.2.2.1,p0.2.2.2.2.2.2.2.1,p0.2.2.2.2.2.2.2.2.1,p0.2.2.2.2.2.2.2.2.2.1,p0.2.2.2.2.2.2.2.2.2.2.1,())).bind fun u5=>
     cond (u5.1.1)
      ((H9 (p0.1,p0.2.1,p0.2.2.1,p0.2.2.2.1,p0.2.2.2.2.1,p0.2.2.2.2.2.1,p0.2.2.2.2.2.2.1,p0.2.2.2.2.2.2.2.1,p0.2.2.2.2.2.2.2.2.1,p0.2.2.2.2.2.2.2.2.2.1,p0.2.2.2.2.2.2.2.2.2.2.1,())).bind fun u6=>
      cond (u6.1.1)
       ((Ka (p0.1,p0.2.1,p0.2.2.1,p0.2.2.2.1,p0.2.2.2.2.1,p0.2.2.2.2.2.1,p0.2.2.2.2.2.2.1,p0.2.2.2.2.2.2.2.1,p0.2.2.2.2.2.2.2.2.1,p0.2.2.2.2.2.2.2.2.2.1,p0.2.2.2.2.2.2.2.2.2.2.1,())).bind fun u7=>
       some ((u7.1.1,()),()))
      (some ((false,()),())))
     (some ((false,()),())))
    (some ((false,()),())))
   (some ((false,()),())))
  (some ((false,()),())))
 (some ((false,()),()))
abbrev mg:Type:=ACR×Unit
def Be(p0 p1 p2:Int):Option mg:=
 cond (decide (p0≥p1))
  (some ((decide (p0≤p2),()),()))
 (some ((false,()),()))
abbrev Mv:Type:=ACR×Unit
abbrev Pc:Type:=Int→List Int→Int→Option Mv
def Rp(R4:Pc)(t3:Int)(AH:AAZ)(AJ:Int):Option Mv:=
 cond ((decide (t3<(AH.length:Int))))
  (if(0:Int)≤t3∧t3<(AH.length:Int)then(
  (Be (AH.getD (t3.toNat) 0) 0 7).bind fun u5=>
  cond (!u5.1.1)
   (some ((false,()),()))
  (R4 (AX (t3+1)) AH AJ))else none)
 (some ((true,()),()))
def Ig:Nat→Pc
 |0=>fun _ _ _=>none
 |n+1=>Rp (Ig n)
def Rh(R4:Pc)(p0:ABd):Option Mv:=
 (Be (p0.1.length:Int) 1 8).bind fun u1=>
 cond (!u1.1.1)
  (some ((false,()),()))
 ((Be p0.2.1 1 4).bind fun u2=>
 cond (!u2.1.1)
  (some ((false,()),()))
 (R4 0 p0.1 p0.2.1))
def Ec(p0:ABd):Option Mv:=Rh (Ig AZ) p0
abbrev iY:Type:=ACR×Unit
def L4(p0:Int)(p1:AC2):Option iY:=
 (IA p0).bind fun u1=>
 cond ((decide (u1.1.1<p1.1)))
  (some ((true,()),()))
 (cond (u1.1.1==p1.1)
  ((Tb p0).bind fun u3=>
  some (((decide (u3.1.1<p1.2.1)),()),()))
 (some ((false,()),())))
abbrev eC:Type:=ACR×Unit
def QG(p0:ADV):Option eC:=
 cond (p0.1==1)
  (some ((true,()),()))
 (cond (p0.1==2)
  (some ((true,()),()))
 (some ((p0.1==3,()),())))
abbrev GF:Type:=ACR×Unit
abbrev JJ:Type:=ABT→Int→Int→List Int→Int→ABU→List Int→ABK→Int→ABX→ABZ→ABT→ABW→Bool→Option GF
abbrev JK:Type:=Int→Bool→ABT→Int→Int→AC0→Int→Int→List Int→Int→ABU→List Int→ABK→Int→ABX→ABZ→ABT→ABW→Bool→Option GF
def KL(R2:JJ)(R6:JK)(t10:ABT)(t11 t12:Int)(AH:AAZ)(AJ:Int)(AM:ABU)(BS:AAZ)(Bi:ABK)(BW:Int)(BR:ABX)(BM:ABZ)(A6:ABT)(BT:ABW)(Ar:Bool):Option GF:=
 cond (decide (t12<t11))
  (if(0:Int)≤t12∧t12<(t10.length:Int)then(
  R6 0 false t10 t11 t12 ((t10.getD (t12.toNat) (0,0,[],())).2.2.1) (((t10.getD (t12.toNat) (0,0,[],())).2.2.1).length:Int) 0 AH AJ AM BS Bi BW BR BM A6 BT Ar)else none)
 ((C_ (AH,AJ,AM,BS,Bi,BW,BR,BM,A6,BT,Ar,())).bind fun u3=>
 some ((u3.1.1,()),()))
def PO(R2:JJ)(R6:JK)(t5:Int)(t6:Bool)(t10:ABT)(t11 t12:Int)(t17:AC0)(t18 t19:Int)(AH:AAZ)(AJ:Int)(AM:ABU)(BS:AAZ)(Bi:ABK)(BW:Int)(BR:ABX)(BM:ABZ)(A6:ABT)(BT:ABW)(Ar:Bool):Option GF:=
 cond (decide (t19<t18))
  (if(0:Int)≤t19∧t19<(t17.length:Int)then(
  (QG ((t17.getD (t19.toNat) (0,0,[],())).1,(t17.getD (t19.toNat) (0,0,[],())).2.1,(t17.getD (t19.toNat) (0,0,[],())).2.2.1,())).bind fun u4=>
  cond (!u4.1.1)
   (R6 t5 t6 t10 t11 t12 t17 t18 (AX (t19+1)) AH AJ AM BS Bi BW BR BM A6 BT Ar)
  (cond (t6)
   (cond (decide (((t17.getD (t19.toNat) (0,0,[],())).2.1)≤t5))
    (some ((false,()),()))
   (R6 ((t17.getD (t19.toNat) (0,0,[],())).2.1) true t10 t11 t12 t17 t18 (AX (t19+1)) AH AJ AM BS Bi BW BR BM A6 BT Ar))
  (R6 ((t17.getD (t19.toNat) (0,0,[],())).2.1) true t10 t11 t12 t17 t18 (AX (t19+1)) AH AJ AM BS Bi BW BR BM A6 BT Ar)))else none)
 (R2 t10 t11 (AX (t12+1)) AH AJ AM BS Bi BW BR BM A6 BT Ar)
mutual
def DN:Nat→JJ
 |0=>fun _ _ _ _ _ _ _ _ _ _ _ _ _ _=>none
 |n+1=>KL (DN n) (FL n)
def FL:Nat→JK
 |0=>fun _ _ _ _ _ _ _ _ _ _ _ _ _ _ _ _ _ _ _=>none
 |n+1=>PO (DN n) (FL n)
end
def PW(R2:JJ)(R6:JK)(p0:ACg):Option GF:=
 R2 p0.2.2.2.2.2.2.2.2.1 (p0.2.2.2.2.2.2.2.2.1.length:Int) 0 p0.1 p0.2.1 p0.2.2.1 p0.2.2.2.1 p0.2.2.2.2.1 p0.2.2.2.2.2.1 p0.2.2.2.2.2.2.1 p0.2.2.2.2.2.2.2.1 p0.2.2.2.2.2.2.2.2.1 p0.2.2.2.2.2.2.2.2.2.1 p0.2.2.2.2.2.2.2.2.2.2.1
def Jy(p0:ACg):Option GF:=PW (DN AZ) (FL AZ) p0
abbrev QJ:Type:=AGQ×Unit
abbrev Te:Type:=Int→ABW→Int→Int→Option QJ
def T9(R2:Te)(t1:Int)(t9:ABW)(t10 t11:Int):Option QJ:=
 cond (decide (t11<t10))
  (if(0:Int)≤t11∧t11<(t9.length:Int)then(
  cond (((t9.getD (t11.toNat) (0,[],false,())).1)==t1)
   (some (((((t9.getD (t11.toNat) (0,[],false,())).2.1),true,()),()),()))
  (R2 t1 t9 t10 (AX (t11+1))))else none)
 (some ((([],false,()),()),()))
def LS:Nat→Te
 |0=>fun _ _ _ _=>none
 |n+1=>T9 (LS n)
def UR(R2:Te)(p0:ACg)(p1:Int):Option QJ:=
 R2 p1 p0.2.2.2.2.2.2.2.2.2.1 (p0.2.2.2.2.2.2.2.2.2.1.length:Int) 0
def UG(p0:ACg)(p1:Int):Option QJ:=UR (LS AZ) p0 p1
abbrev G6:Type:=ACR×Unit
abbrev KT:Type:=ABT→Int→Int→List Int→Int→ABU→List Int→ABK→Int→ABX→ABZ→ABT→ABW→Bool→Option G6
abbrev Ks:Type:=ABT→Int→Int→AC0→Int→Int→List Int→Int→ABU→List Int→ABK→Int→ABX→ABZ→ABT→ABW→Bool→Option G6
def LX(R2:KT)(R5:Ks)(t10:ABT)(t11 t12:Int)(AH:AAZ)(AJ:Int)(AM:ABU)(BS:AAZ)(Bi:ABK)(BW:Int)(BR:ABX)(BM:ABZ)(A6:ABT)(BT:ABW)(Ar:Bool):Option G6:=
 cond (decide (t12<t11))
  (if(0:Int)≤t12∧t12<(t10.length:Int)then(
  R5 t10 t11 t12 ((t10.getD (t12.toNat) (0,0,[],())).2.2.1) (((t10.getD (t12.toNat) (0,0,[],())).2.2.1).length:Int) 0 AH AJ AM BS Bi BW BR BM A6 BT Ar)else none)
 ((C_ (AH,AJ,AM,BS,Bi,BW,BR,BM,A6,BT,Ar,())).bind fun u3=>
 some ((u3.1.1,()),()))
def K0(R2:KT)(R5:Ks)(t10:ABT)(t11 t12:Int)(t17:AC0)(t18 t19:Int)(AH:AAZ)(AJ:Int)(AM:ABU)(BS:AAZ)(Bi:ABK)(BW:Int)(BR:ABX)(BM:ABZ)(A6:ABT)(BT:ABW)(Ar:Bool):Option G6:=
 cond (decide (t19<t18))
  (if(0:Int)≤t19∧t19<(t17.length:Int)then(
  (UG (AH,AJ,AM,BS,Bi,BW,BR,BM,A6,BT,Ar,()) ((t17.getD (t19.toNat) (0,0,[],())).2.1)).bind fun u5=>
  cond (((t17.getD (t19.toNat) (0,0,[],())).1)==1)
   (cond (!u5.1.1.2.1)
    (some ((false,()),()))
   (cond (!(u5.1.1.1==((t17.getD (t19.toNat) (0,0,[],())).2.2.1)))
    (some ((false,()),()))
   (R5 t10 t11 t12 t17 t18 (AX (t19+1)) AH AJ AM BS Bi BW BR BM A6 BT Ar)))
  (R5 t10 t11 t12 t17 t18 (AX (t19+1)) AH AJ AM BS Bi BW BR BM A6 BT Ar))else none)
 (R2 t10 t11 (AX (t12+1)) AH AJ AM BS Bi BW BR BM A6 BT Ar)
mutual
def Dq:Nat→KT
 |0=>fun _ _ _ _ _ _ _ _ _ _ _ _ _ _=>none
 |n+1=>LX (Dq n) (Ew n)
def Ew:Nat→Ks
 |0=>fun _ _ _ _ _ _ _ _ _ _ _ _ _ _ _ _ _=>none
 |n+1=>K0 (Dq n) (Ew n)
end
def Qb(R2:KT)(R5:Ks)(p0:ACg):Option G6:=
 R2 p0.2.2.2.2.2.2.2.2.1 (p0.2.2.2.2.2.2.2.2.1.length:Int) 0 p0.1 p0.2.1 p0.2.2.1 p0.2.2.2.1 p0.2.2.2.2.1 p0.2.2.2.2.2.1 p0.2.2.2.2.2.2.1 p0.2.2.2.2.2.2.2.1 p0.2.2.2.2.2.2.2.2.1 p0.2.2.2.2.2.2.2.2.2.1 p0.2.2.2.2.2.2.2.2.2.2.1
def Lc(p0:ACg):Option G6:=Qb (Dq AZ) (Ew AZ) p0
abbrev Um:Type:=AGQ×Unit
abbrev Wf:Type:=Int→AC0→Int→Int→Option Um
def XI(R2:Wf)(t1:Int)(t9:AC0)(t10 t11:Int):Option Um:=
 cond (decide (t11<t10))
  (if(0:Int)≤t11∧t11<(t9.length:Int)then(
  cond (((t9.getD (t11.toNat) (0,0,[],())).1)==1)
   (cond (((t9.getD (t11.toNat) (0,0,[],())).2.1)==t1)
    (some (((((t9.getD (t11.toNat) (0,0,[],())).2.2.1),true,()),()),()))
   (R2 t1 t9 t10 (AX (t11+1))))
  (R2 t1 t9 t10 (AX (t11+1))))else none)
 (some ((([],false,()),()),()))
def Og:Nat→Wf
 |0=>fun _ _ _ _=>none
 |n+1=>XI (Og n)
def W8(R2:Wf)(p0:AC2)(p1:Int):Option Um:=
 R2 p1 p0.2.2.1 (p0.2.2.1.length:Int) 0
def Py(p0:AC2)(p1:Int):Option Um:=W8 (Og AZ) p0 p1
abbrev G9:Type:=ACR×Unit
abbrev KZ:Type:=ABT→Int→Int→List Int→Int→ABU→List Int→ABK→Int→ABX→ABZ→ABT→ABW→Bool→Option G9
abbrev Kc:Type:=ABT→Int→Int→ABW→Int→Int→List Int→Int→ABU→List Int→ABK→Int→ABX→ABZ→ABT→ABW→Bool→Int→Int→AC0→Option G9
def LI(R4:KZ)(R7:Kc)(t19:ABT)(t20 t21:Int)(AH:AAZ)(AJ:Int)(AM:ABU)(BS:AAZ)(Bi:ABK)(BW:Int)(BR:ABX)(BM:ABZ)(A6:ABT)(BT:ABW)(Ar:Bool):Option G9:=
 cond (decide (t21<t20))
  (if(0:Int)≤t21∧t21<(t19.length:Int)then(
  R7 t19 t20 t21 BT (BT.length:Int) 0 AH AJ AM BS Bi BW BR BM A6 BT Ar ((t19.getD (t21.toNat) (0,0,[],())).1) ((t19.getD (t21.toNat) (0,0,[],())).2.1) ((t19.getD (t21.toNat) (0,0,[],())).2.2.1))else none)
 (some ((true,()),()))
def LC(R4:KZ)(R7:Kc)(t19:ABT)(t20 t21:Int)(t26:ABW)(t27 t28:Int)(AH:AAZ)(AJ:Int)(AM:ABU)(BS:AAZ)(Bi:ABK)(BW:Int)(BR:ABX)(BM:ABZ)(A6:ABT)(BT:ABW)(Ar:Bool)(Aw Ai:Int)(CS:AC0):Option G9:=
 cond (decide (t28<t27))
  (if(0:Int)≤t28∧t28<(t26.length:Int)then(
  (Py (Aw,Ai,CS,()) ((t26.getD (t28.toNat) (0,[],false,())).1)).bind fun u7=>
  cond (((t26.getD (t28.toNat) (0,[],false,())).2.2.1))
   (cond (decide (((t26.getD (t28.toNat) (0,[],false,())).1)>BW))
    ((L4 ((t26.getD (t28.toNat) (0,[],false,())).1) (Aw,Ai,CS,())).bind fun QE=>
    cond (QE.1.1)
     (cond (!u7.1.1.2.1)
      (some ((false,()),()))
     (R7 t19 t20 t21 t26 t27 (AX (t28+1)) AH AJ AM BS Bi BW BR BM A6 BT Ar Aw Ai CS))
    (R7 t19 t20 t21 t26 t27 (AX (t28+1)) AH AJ AM BS Bi BW BR BM A6 BT Ar Aw Ai CS))
   (R7 t19 t20 t21 t26 t27 (AX (t28+1)) AH AJ AM BS Bi BW BR BM A6 BT Ar Aw Ai CS))
  (R7 t19 t20 t21 t26 t27 (AX (t28+1)) AH AJ AM BS Bi BW BR BM A6 BT Ar Aw Ai CS))else none)
 (R4 t19 t20 (AX (t21+1)) AH AJ AM BS Bi BW BR BM A6 BT Ar)
mutual
def Dl:Nat→KZ
 |0=>fun _ _ _ _ _ _ _ _ _ _ _ _ _ _=>none
 |n+1=>LI (Dl n) (Eo n)
def Eo:Nat→Kc
 |0=>fun _ _ _ _ _ _ _ _ _ _ _ _ _ _ _ _ _ _ _ _=>none
 |n+1=>LC (Dl n) (Eo n)
end
def Qr(R4:KZ)(R7:Kc)(p0:ACg):Option G9:=
 (C_ (p0.1,p0.2.1,p0.2.2.1,p0.2.2.2.1,p0.2.2.2.2.1,p0.2.2.2.2.2.1,p0.2.2.2.2.2.2.1,p0.2.2.2.2.2.2.2.1,p0.2.2.2.2.2.2.2.2.1,p0.2.2.2.2.2.2.2.2.2.1,p0.2.2.2.2.2.2.2.2.2.2.1,())).bind fun u1=>
 cond (!u1.1.1)
  ((C_ (p0.1,p0.2.1,p0.2.2.1,p0.2.2.2.1,p0.2.2.2.2.1,p0.2.2.2.2.2.1,p0.2.2.2.2.2.2.1,p0.2.2.2.2.2.2.2.1,p0.2.2.2.2.2.2.2.2.1,p0.2.2.2.2.2.2.2.2.2.1,p0.2.2.2.2.2.2.2.2.2.2.1,())).bind fun u2=>
  some ((u2.1.1,()),()))
 (cond (p0.2.2.2.2.2.2.2.2.2.2.1)
  ((C_ (p0.1,p0.2.1,p0.2.2.1,p0.2.2.2.1,p0.2.2.2.2.1,p0.2.2.2.2.2.1,p0.2.2.2.2.2.2.1,p0.2.2.2.2.2.2.2.1,p0.2.2.2.2.2.2.2.2.1,p0.2.2.2.2.2.2.2.2.2.1,p0.2.2.2.2.2.2.2.2.2.2.1,())).bind fun u4=>
  some ((u4.1.1,()),()))
 (R4 p0.2.2.2.2.2.2.2.2.1 (p0.2.2.2.2.2.2.2.2.1.length:Int) 0 p0.1 p0.2.1 p0.2.2.1 p0.2.2.2.1 p0.2.2.2.2.1 p0.2.2.2.2.2.1 p0.2.2.2.2.2.2.1 p0.2.2.2.2.2.2.2.1 p0.2.2.2.2.2.2.2.2.1 p0.2.2.2.2.2.2.2.2.2.1 p0.2.2.2.2.2.2.2.2.2.2.1))
def K6(p0:ACg):Option G9:=Qr (Dl AZ) (Eo AZ) p0
abbrev GD:Type:=ACR×Unit
abbrev JI:Type:=ABT→Int→Int→Option GD
abbrev JL:Type:=ABT→Int→Int→AC0→Int→Int→Option GD
def KH(R4:JI)(R7:JL)(t17:ABT)(t18 t19:Int):Option GD:=
 cond (decide (t19<t18))
  (if(0:Int)≤t19∧t19<(t17.length:Int)then(
  R7 t17 t18 t19 ((t17.getD (t19.toNat) (0,0,[],())).2.2.1) (((t17.getD (t19.toNat) (0,0,[],())).2.2.1).length:Int) 0)else none)
 (some ((true,()),()))
def KR(R4:JI)(R7:JL)(t17:ABT)(t18 t19:Int)(t24:AC0)(t25 t26:Int):Option GD:=
 cond (decide (t26<t25))
  (if(0:Int)≤t26∧t26<(t24.length:Int)then(
  cond (((t24.getD (t26.toNat) (0,0,[],())).1)==3)
   (some ((false,()),()))
  (R7 t17 t18 t19 t24 t25 (AX (t26+1))))else none)
 (R4 t17 t18 (AX (t19+1)))
mutual
def Cf:Nat→JI
 |0=>fun _ _ _=>none
 |n+1=>KH (Cf n) (EB n)
def EB:Nat→JL
 |0=>fun _ _ _ _ _ _=>none
 |n+1=>KR (Cf n) (EB n)
end
def PM(R4:JI)(R7:JL)(p0:ACg):Option GD:=
 (C_ (p0.1,p0.2.1,p0.2.2.1,p0.2.2.2.1,p0.2.2.2.2.1,p0.2.2.2.2.2.1,p0.2.2.2.2.2.2.1,p0.2.2.2.2.2.2.2.1,p0.2.2.2.2.2.2.2.2.1,p0.2.2.2.2.2.2.2.2.2.1,p0.2.2.2.2.2.2.2.2.2.2.1,())).bind fun u1=>
 cond (!u1.1.1)
  ((C_ (p0.1,p0.2.1,p0.2.2.1,p0.2.2.2.1,p0.2.2.2.2.1,p0.2.2.2.2.2.1,p0.2.2.2.2.2.2.1,p0.2.2.2.2.2.2.2.1,p0.2.2.2.2.2.2.2.2.1,p0.2.2.2.2.2.2.2.2.2.1,p0.2.2.2.2.2.2.2.2.2.2.1,())).bind fun u2=>
  some ((u2.1.1,()),()))
 (cond (p0.2.2.2.2.2.2.2.2.2.2.1)
  ((C_ (p0.1,p0.2.1,p0.2.2.1,p0.2.2.2.1,p0.2.2.2.2.1,p0.2.2.2.2.2.1,p0.2.2.2.2.2.2.1,p0.2.2.2.2.2.2.2.1,p0.2.2.2.2.2.2.2.2.1,p0.2.2.2.2.2.2.2.2.2.1,p0.2.2.2.2.2.2.2.2.2.2.1,())).bind fun u4=>
  some ((u4.1.1,()),()))
 (R4 p0.2.2.2.2.2.2.2.2.1 (p0.2.2.2.2.2.2.2.2.1.length:Int) 0))
def Jt(p0:ACg):Option GD:=PM (Cf AZ) (EB AZ) p0
abbrev Gu:Type:=ACR×Unit
abbrev KY:Type:=ABT→Int→Int→List Int→Int→ABU→List Int→ABK→Int→ABX→ABZ→ABT→ABW→Bool→Option Gu
abbrev Kd:Type:=ABT→Int→Int→AC0→Int→Int→List Int→Int→ABU→List Int→ABK→Int→ABX→ABZ→ABT→ABW→Bool→Option Gu
def LV(R4:KY)(R7:Kd)(t22:ABT)(t23 t24:Int)(AH:AAZ)(AJ:Int)(AM:ABU)(BS:AAZ)(Bi:ABK)(BW:Int)(BR:ABX)(BM:ABZ)(A6:ABT)(BT:ABW)(Ar:Bool):Option Gu:=
 cond (decide (t24<t23))
  (if(0:Int)≤t24∧t24<(t22.length:Int)then(
  R7 t22 t23 t24 ((t22.getD (t24.toNat) (0,0,[],())).2.2.1) (((t22.getD (t24.toNat) (0,0,[],())).2.2.1).length:Int) 0 AH AJ AM BS Bi BW BR BM A6 BT Ar)else none)
 (some ((true,()),()))
def K_(R4:KY)(R7:Kd)(t22:ABT)(t23 t24:Int)(t29:AC0)(t30 t31:Int)(AH:AAZ)(AJ:Int)(AM:ABU)(BS:AAZ)(Bi:ABK)(BW:Int)(BR:ABX)(BM:ABZ)(A6:ABT)(BT:ABW)(Ar:Bool):Option Gu:=
 cond (decide (t31<t30))
  (if(0:Int)≤t31∧t31<(t29.length:Int)then(
  (Cx ((t29.getD (t31.toNat) (0,0,[],())).2.1)).bind fun u8=>
  cond (u8.1.1)
   (if(0:Int)≤(0:Int)∧(0:Int)<(A6.length:Int)then(
   (L4 ((t29.getD (t31.toNat) (0,0,[],())).2.1) ((A6.getD 0 (0,0,[],())).1,(A6.getD 0 (0,0,[],())).2.1,(A6.getD 0 (0,0,[],())).2.2.1,())).bind fun Hc=>
   cond (Hc.1.1)
    (if(0:Int)≤(1:Int)∧(1:Int)<(A6.length:Int)then(
    (L4 ((t29.getD (t31.toNat) (0,0,[],())).2.1) ((A6.getD 1 (0,0,[],())).1,(A6.getD 1 (0,0,[],())).2.1,(A6.getD 1 (0,0,[],())).2.2.1,())).bind fun C7=>
    cond (((t29.getD (t31.toNat) (0,0,[],())).1) !=1)
     (R7 t22 t23 t24 t29 t30 (AX (t31+1)) AH AJ AM BS Bi BW BR BM A6 BT Ar)
    (cond (decide (((t29.getD (t31.toNat) (0,0,[],())).2.1)≤BW))
     (R7 t22 t23 t24 t29 t30 (AX (t31+1)) AH AJ AM BS Bi BW BR BM A6 BT Ar)
    (cond (!C7.1.1)
     (R7 t22 t23 t24 t29 t30 (AX (t31+1)) AH AJ AM BS Bi BW BR BM A6 BT Ar)
    (if(0:Int)≤(0:Int)∧(0:Int)<(A6.length:Int)then(
    (Py ((A6.getD 0 (0,0,[],())).1,(A6.getD 0 (0,0,[],())).2.1,(A6.getD 0 (0,0,[],())).2.2.1,()) ((t29.getD (t31.toNat) (0,0,[],())).2.1)).bind fun u16=>
    if(0:Int)≤(1:Int)∧(1:Int)<(A6.length:Int)then(
    (Py ((A6.getD 1 (0,0,[],())).1,(A6.getD 1 (0,0,[],())).2.1,(A6.getD 1 (0,0,[],())).2.2.1,()) ((t29.getD (t31.toNat) (0,0,[],())).2.1)).bind fun Sk=>
    cond ((u16.1.1.2.1 !=Sk.1.1.2.1))
     (some ((false,()),()))
    (cond ((!(u16.1.1.1==Sk.1.1.1)))
     (some ((false,()),()))
    (R7 t22 t23 t24 t29 t30 (AX (t31+1)) AH AJ AM BS Bi BW BR BM A6 BT Ar)))else none)else none))))else none)
   (cond (((t29.getD (t31.toNat) (0,0,[],())).1) !=1)
    (R7 t22 t23 t24 t29 t30 (AX (t31+1)) AH AJ AM BS Bi BW BR BM A6 BT Ar)
   (cond (decide (((t29.getD (t31.toNat) (0,0,[],())).2.1)≤BW))
    (R7 t22 t23 t24 t29 t30 (AX (t31+1)) AH AJ AM BS Bi BW BR BM A6 BT Ar)
   (R7 t22 t23 t24 t29 t30 (AX (t31+1)) AH AJ AM BS Bi BW BR BM A6 BT Ar))))else none)
  (cond (((t29.getD (t31.toNat) (0,0,[],())).1) !=1)
   (R7 t22 t23 t24 t29 t30 (AX (t31+1)) AH AJ AM BS Bi BW BR BM A6 BT Ar)
  (cond (decide (((t29.getD (t31.toNat) (0,0,[],())).2.1)≤BW))
   (R7 t22 t23 t24 t29 t30 (AX (t31+1)) AH AJ AM BS Bi BW BR BM A6 BT Ar)
  (R7 t22 t23 t24 t29 t30 (AX (t31+1)) AH AJ AM BS Bi BW BR BM A6 BT Ar))))else none)
 (R4 t22 t23 (AX (t24+1)) AH AJ AM BS Bi BW BR BM A6 BT Ar)
mutual
def Dn:Nat→KY
 |0=>fun _ _ _ _ _ _ _ _ _ _ _ _ _ _=>none
 |n+1=>LV (Dn n) (Eh n)
def Eh:Nat→Kd
 |0=>fun _ _ _ _ _ _ _ _ _ _ _ _ _ _ _ _ _=>none
 |n+1=>K_ (Dn n) (Eh n)
end
def Qy(R4:KY)(R7:Kd)(p0:ACg):Option Gu:=
 (C_ (p0.1,p0.2.1,p0.2.2.1,p0.2.2.2.1,p0.2.2.2.2.1,p0.2.2.2.2.2.1,p0.2.2.2.2.2.2.1,p0.2.2.2.2.2.2.2.1,p0.2.2.2.2.2.2.2.2.1,p0.2.2.2.2.2.2.2.2.2.1,p0.2.2.2.2.2.2.2.2.2.2.1,())).bind fun u1=>
 cond (!u1.1.1)
  ((C_ (p0.1,p0.2.1,p0.2.2.1,p0.2.2.2.1,p0.2.2.2.2.1,p0.2.2.2.2.2.1,p0.2.2.2.2.2.2.1,p0.2.2.2.2.2.2.2.1,p0.2.2.2.2.2.2.2.2.1,p0.2.2.2.2.2.2.2.2.2.1,p0.2.2.2.2.2.2.2.2.2.2.1,())).bind fun u2=>
  some ((u2.1.1,()),()))
 (cond (p0.2.2.2.2.2.2.2.2.2.2.1)
  ((C_ (p0.1,p0.2.1,p0.2.2.1,p0.2.2.2.1,p0.2.2.2.2.1,p0.2.2.2.2.2.1,p0.2.2.2.2.2.2.1,p0.2.2.2.2.2.2.2.1,p0.2.2.2.2.2.2.2.2.1,p0.2.2.2.2.2.2.2.2.2.1,p0.2.2.2.2.2.2.2.2.2.2.1,())).bind fun u4=>
  some ((u4.1.1,()),()))
 (R4 p0.2.2.2.2.2.2.2.2.1 (p0.2.2.2.2.2.2.2.2.1.length:Int) 0 p0.1 p0.2.1 p0.2.2.1 p0.2.2.2.1 p0.2.2.2.2.1 p0.2.2.2.2.2.1 p0.2.2.2.2.2.2.1 p0.2.2.2.2.2.2.2.1 p0.2.2.2.2.2.2.2.2.1 p0.2.2.2.2.2.2.2.2.2.1 p0.2.2.2.2.2.2.2.2.2.2.1))
def LO(p0:ACg):Option Gu:=Qy (Dn AZ) (Eh AZ) p0
abbrev dz:Type:=ACR×Unit
def Mk(p0:ACg):Option dz:=
 (Jy (p0.1,p0.2.1,p0.2.2.1,p0.2.2.2.1,p0.2.2.2.2.1,p0.2.2.2.2.2.1,p0.2.2.2.2.2.2.1,p0.2.2.2.2.2.2.2.1,p0.2.2.2.2.2.2.2.2.1,p0.2.2.2.2.2.2.2.2.2.1,p0.2.2.2.2.2.2.2.2.2.2.1,())).bind fun u1=>
 cond (u1.1.1)
  ((Lc (p0.1,p0.2.1,p0.2.2.1,p0.2.2.2.1,p0.2.2.2.2.1,p0.2.2.2.2.2.1,p0.2.2.2.2.2.2.1,p0.2.2.2.2.2.2.2.1,p0.2.2.2.2.2.2.2.2.1,p0.2.2.2.2.2.2.2.2.2.1,p0.2.2.2.2.2.2.2.2.2.2.1,())).bind fun u2=>
  cond (u2.1.1)
   ((K6 (p0.1,p0.2.1,p0.2.2.1,p0.2.2.2.1,p0.2.2.2.2.1,p0.2.2.2.2.2.1,p0.2.2.2.2.2.2.1,p0.2.2.2.2.2.2.2.1,p0.2.2.2.2.2.2.2.2.1,p0.2.2.2.2.2.2.2.2.2.1,p0.2.2.2.2.2.2.2.2.2.2.1,())).bind fun u3=>
   cond (u3.1.1)
    ((Jt (p0.1,p0.2.1,p0.2.2.1,p0.2.2.2.1,p0.2.2.2.2.1,p0.2.2.2.2.2.1,p0.2.2.2.2.2.2.1,p0.2.2.2.2.2.2.2.1,p0.2.2.2.2.2.2.2.2.1,p0.2.2.2.2.2.2.2.2.2.1,p0.2.2.2.2.2.2.2.2.2.2.1,())).bind fun u4=>
    cond (u4.1.1)
     ((LO (p0.1,p0.2.1,p0.2.2.1,p0.2.2.2.1,p0.2.2.2.2.1,p0.2.2.2.2.2.1,p0.2.2.2.2.2.2.1,p0.2.2.2.2.2.2.2.1,p0.2.2.2.2.2.2.2.2.1,p0.2.2.2.2.2.2.2.2.2.1,p0.2.2.2.2.2.2.2.2.2.2.1,())).bind fun u5=>
     some ((u5.1.1,()),()))
    (some ((false,()),())))
   (some ((false,()),())))
  (some ((false,()),())))
 (some ((false,()),()))
abbrev U1:Type:=ACx×Unit
def Qp(p0:AAZ)(p1 p2:Int):Option U1:=
 let x1:Int:=AX ((p0.length:Int).tdiv 4)
 cond ((decide ((AX (p1+x1))>p2)))
  (some ((p2,()),()))
 (some ((AX (p1+x1),()),()))
abbrev Rz:Type:=ACR×Unit
abbrev U2:Type:=List Int→Int→Int→Int→Option Rz
def Pz(R2:U2)(t0:AAZ)(t1 t2 t7:Int):Option Rz:=
 cond ((decide (t7<(t0.length:Int))))
  (if(0:Int)≤t7∧t7<(t0.length:Int)then(
  (Be (t0.getD (t7.toNat) 0) t1 t2).bind fun u3=>
  cond (!u3.1.1)
   (some ((false,()),()))
  (cond (decide (t7>0))
   (if(0:Int)≤AX (t7-1)∧AX (t7-1)<(t0.length:Int)then(
   if(0:Int)≤t7∧t7<(t0.length:Int)then(
   cond (decide ((t0.getD ((AX (t7-1)).toNat) 0)≥(t0.getD (t7.toNat) 0)))
    (some ((false,()),()))
   (R2 t0 t1 t2 (AX (t7+1))))else none)else none)
  (R2 t0 t1 t2 (AX (t7+1)))))else none)
 (some ((true,()),()))
def KD:Nat→U2
 |0=>fun _ _ _ _=>none
 |n+1=>Pz (KD n)
def Vv(R2:U2)(p0:AAZ)(p1 p2:Int):Option Rz:=
 R2 p0 p1 p2 0
def TL(p0:AAZ)(p1 p2:Int):Option Rz:=Vv (KD AZ) p0 p1 p2
abbrev gU:Type:=ACR×Unit
def Eg(p0:ABd)(p1:AAZ):Option gU:=
 (Ec (p0.1,p0.2.1,())).bind fun u1=>
 cond (u1.1.1)
  ((TL p1 0 (AX ((p0.1.length:Int)-1))).bind fun u3=>
  some ((u3.1.1,()),()))
 (some ((false,()),()))
abbrev QC:Type:=ACx×Unit
abbrev S_:Type:=List Int→Int→Int→List Int→Int→List Bool→Option QC
def UC(R4:S_)(t1:AAZ)(t6 t7:Int)(AH:AAZ)(AJ:Int)(b1:List Bool):Option QC:=
 cond ((decide (t7<(t1.length:Int))))
  (if(0:Int)≤t7∧t7<(t1.length:Int)then(
  let x3:Int:=(t1.getD (t7.toNat) 0)
  if(0:Int)≤x3∧x3<(AH.length:Int)then(
  let x4:Int:=(AH.getD (x3.toNat) 0)
  if(0:Int)≤x4∧x4<(b1.length:Int)then(
  cond (!(b1.getD (x4.toNat) false))
   (if(0:Int)≤x4∧x4<(b1.length:Int)then(
   R4 t1 (AX (t6+1)) (AX (t7+1)) AH AJ (b1.set (x4.toNat) true))else none)
  (R4 t1 t6 (AX (t7+1)) AH AJ b1))else none)else none)else none)
 (some ((t6,()),()))
def LN:Nat→S_
 |0=>fun _ _ _ _ _ _=>none
 |n+1=>UC (LN n)
def UB(R4:S_)(p0:ABd)(p1:AAZ):Option QC:=
 R4 p1 0 0 p0.1 p0.2.1 (List.replicate 8 false)
def Q_(p0:ABd)(p1:AAZ):Option QC:=UB (LN AZ) p0 p1
abbrev bP:Type:=ACR×Unit
def DU(p0:ABd)(p1:AAZ):Option bP:=
 (Eg (p0.1,p0.2.1,()) p1).bind fun u1=>
 cond (u1.1.1)
  ((Q_ (p0.1,p0.2.1,()) p1).bind fun u2=>
  some (((decide (u2.1.1≥p0.2.1)),()),()))
 (some ((false,()),()))
abbrev bm:Type:=AEA×AFD
def Tc:Option bm:=
 some (((1,1,(),()),()),([],()))
abbrev dv:Type:=((AEH×Bool×Unit)×Unit)×ADR
def FY(p0:ABd):Option dv:=
 (Ec (p0.1,p0.2.1,())).bind fun u1=>
 cond (!u1.1.1)
  (some (((((),0,(),(),(),0,(),(),(),(),false,()),false,()),()),([],[],[],[],[],[],[],[],())))
 (if 0+p0.1.length≤Dd then(
 if(0:Int)≤(p0.1.length:Int)∧(p0.1.length:Int)≤(p0.1.length:Int)∧(p0.1.length:Int)≤(Dd:Int)then(
 (Tc).bind fun u3=>
 (Tc).bind fun u4=>
 some (((((),p0.2.1,(),(),(),0,(),(),(),(),false,()),true,()),()),(p0.1,(List.replicate ((p0.1.length:Int).toNat) ([],[],0,())),[],[],[],[],[(u3.1.1.1,u3.1.1.2.1,u3.2.1,()),(u4.1.1.1,u4.1.1.2.1,u4.2.1,())],[],())))else none)else none)
abbrev Lr:Type:=ACx×Unit
def Dk(p0 p1:Int):Option Lr:=
 cond (decide (p0>p1))
  (some ((p0,()),()))
 (some ((p1,()),()))
abbrev Es:Type:=ACR×Unit
abbrev Ut:Type:=List Int→Int→Int→Option Es
def Pr(R2:Ut)(t0:AAZ)(t1 t5:Int):Option Es:=
 cond ((decide (t5<(t0.length:Int))))
  (if(0:Int)≤t5∧t5<(t0.length:Int)then(
  cond ((t0.getD (t5.toNat) 0)==t1)
   (some ((true,()),()))
  (R2 t0 t1 (AX (t5+1))))else none)
 (some ((false,()),()))
def IH:Nat→Ut
 |0=>fun _ _ _=>none
 |n+1=>Pr (IH n)
def P4(R2:Ut)(p0:AAZ)(p1:Int):Option Es:=
 R2 p0 p1 0
def CG(p0:AAZ)(p1:Int):Option Es:=P4 (IH AZ) p0 p1
abbrev Sc:Type:=AC8×AC7
abbrev Ur:Type:=List Int→Int→Bool→Int→List Int→Option Sc
def L_(R4:Ur)(t0:AAZ)(t1:Int)(t6:Bool)(t7:Int)(b0:AAZ):Option Sc:=
 cond ((decide (t7<(t0.length:Int))))
  (cond (!t6)
   (if(0:Int)≤t7∧t7<(t0.length:Int)then(
   cond (decide ((t0.getD (t7.toNat) 0)>t1))
    (if b0.length+1≤Dd then(
    if(0:Int)≤t7∧t7<(t0.length:Int)then(
    if(b0++[t1]).length+1≤Dd then(
    R4 t0 t1 true (AX (t7+1)) ((b0++[t1])++[(t0.getD (t7.toNat) 0)]))else none)else none)else none)
   (if(0:Int)≤t7∧t7<(t0.length:Int)then(
   if b0.length+1≤Dd then(
   R4 t0 t1 t6 (AX (t7+1)) (b0++[(t0.getD (t7.toNat) 0)]))else none)else none))else none)
  (if(0:Int)≤t7∧t7<(t0.length:Int)then(
  if b0.length+1≤Dd then(
  R4 t0 t1 t6 (AX (t7+1)) (b0++[(t0.getD (t7.toNat) 0)]))else none)else none))
 (cond (!t6)
  (if b0.length+1≤Dd then(
  some (((),()),(b0++[t1],())))else none)
 (some (((),()),(b0,()))))
def Fb:Nat→Ur
 |0=>fun _ _ _ _ _=>none
 |n+1=>L_ (Fb n)
def Pl(R4:Ur)(p0:AAZ)(p1:Int):Option Sc:=
 (CG p0 p1).bind fun u1=>
 R4 p0 p1 u1.1.1 0 []
def GM(p0:AAZ)(p1:Int):Option Sc:=Pl (Fb AZ) p0 p1
abbrev FU:Type:=AC8×AEg
abbrev MR:Type:=Int→Int→List Int→Int→Int→List Int→Int→List Int→Option FU
def O9(R4:MR)(t6 t7:Int)(AH:AAZ)(AJ AM:Int)(Aw:AAZ)(Ai:Int)(b2:AAZ):Option FU:=
 cond (decide (t7<t6))
  ((Dk (Aw.length:Int) 1).bind fun u3=>
  (AF u3.1.1 AH AJ AM).bind fun u4=>
  (GM b2 u4.1.1).bind fun u5=>
  R4 t6 (AX (t7+1)) u4.2.1.1 u4.2.1.2.1 u4.2.1.2.2.1 Aw Ai u5.2.1)
 ((Ao 20 AH AJ AM).bind fun u6=>
 cond (u6.1.1)
  ((Bp [(-1),0,(Aw.length:Int)] u6.2.1.1 u6.2.1.2.1 u6.2.1.2.2.1).bind fun u7=>
  if b2.length+1≤Dd then(
  some (((),()),((u7.2.1.1,u7.2.1.2.1,u7.2.1.2.2.1,()),b2++[u7.1.1],())))else none)
 (some (((),()),((u6.2.1.1,u6.2.1.2.1,u6.2.1.2.2.1,()),b2,()))))
def GV:Nat→MR
 |0=>fun _ _ _ _ _ _ _ _=>none
 |n+1=>O9 (GV n)
def Od(R4:MR)(p1:ABd)(AH:AAZ)(AJ AM:Int):Option FU:=
 (AF (AX ((p1.1.length:Int)+2)) AH AJ AM).bind fun u2=>
 R4 u2.1.1 0 u2.2.1.1 u2.2.1.2.1 u2.2.1.2.2.1 p1.1 p1.2.1 []
def Db(p1:ABd)(AH:AAZ)(AJ AM:Int):Option FU:=Od (GV AZ) p1 AH AJ AM
abbrev L8:Type:=AC8×AEg
abbrev OB:Type:=Int→List Int→Int→Int→List Int→Int→List Int→Option L8
def Qu(R3:OB)(t6:Int)(AH:AAZ)(AJ AM:Int)(Aw:AAZ)(Ai:Int)(b2:AAZ):Option L8:=
 cond ((decide (t6<(Aw.length:Int))))
  ((DU (Aw,Ai,()) b2).bind fun u3=>
  cond (!u3.1.1)
   ((GM b2 t6).bind fun u4=>
   R3 (AX (t6+1)) AH AJ AM Aw Ai u4.2.1)
  (some (((),()),((AH,AJ,AM,()),b2,()))))
 (some (((),()),((AH,AJ,AM,()),b2,())))
def IE:Nat→OB
 |0=>fun _ _ _ _ _ _ _=>none
 |n+1=>Qu (IE n)
def Qe(R3:OB)(p1:ABd)(AH:AAZ)(AJ AM:Int):Option L8:=
 (Db (p1.1,p1.2.1,()) AH AJ AM).bind fun u1=>
 R3 0 u1.2.1.1 u1.2.1.2.1 u1.2.1.2.2.1 p1.1 p1.2.1 u1.2.2.1
def Fg(p1:ABd)(AH:AAZ)(AJ AM:Int):Option L8:=Qe (IE AZ) p1 AH AJ AM
abbrev MD:Type:=ACx×Unit
abbrev Oe:Type:=List Int→Int→Int→Option MD
def QU(R5:Oe)(t0:AAZ)(t3 t4:Int):Option MD:=
 cond ((decide (t4<(t0.length:Int))))
  (if(0:Int)≤t4∧t4<(t0.length:Int)then(
  let x3:Int:=(t0.getD (t4.toNat) 0)
  if x3<0 then none else(
  R5 t0 (bOr .i64 t3 (AX (1*2^(min x3.toNat 64)))) (AX (t4+1))))else none)
 (some ((t3,()),()))
def ID:Nat→Oe
 |0=>fun _ _ _=>none
 |n+1=>QU (ID n)
def Qh(R5:Oe)(p0:AAZ):Option MD:=
 (TL p0 0 7).bind fun u1=>
 cond (!u1.1.1)
  (some (((-1),()),()))
 (R5 p0 0 0)
def Iw(p0:AAZ):Option MD:=Qh (ID AZ) p0
abbrev MB:Type:=ACx×Unit
abbrev O_:Type:=Int→ABK→Int→Option MB
def LG(R2:O_)(t3:Int)(AH:ABK)(AJ:Int):Option MB:=
 cond ((decide (t3<(AH.length:Int))))
  (if(0:Int)≤t3∧t3<(AH.length:Int)then(
  cond (!((AH.getD (t3.toNat) ([],false,0,())).2.1))
   (some ((AX (t3+1),()),()))
  (R2 (AX (t3+1)) AH AJ))else none)
 (some ((0,()),()))
def GC:Nat→O_
 |0=>fun _ _ _=>none
 |n+1=>LG (GC n)
def QZ(R2:O_)(p0:ACv):Option MB:=
 R2 0 p0.1 p0.2.1
def HC(p0:ACv):Option MB:=QZ (GC AZ) p0
abbrev E9:Type:=AC8×AC7
def B4(p0:ACv)(p1:Int):Option E9:=
 (Be p1 1 (p0.1.length:Int)).bind fun u1=>
 cond (!u1.1.1)
  (some (((),()),([],())))
 (if(0:Int)≤AX (p1-1)∧AX (p1-1)<(p0.1.length:Int)then(
 if 0+((p0.1.getD ((AX (p1-1)).toNat) ([],false,0,())).1).length≤Dd then(
 some (((),()),(((p0.1.getD ((AX (p1-1)).toNat) ([],false,0,())).1),())))else none)else none)
abbrev JP:Type:=AFT×ADN
abbrev Ld:Type:=Int→Int→Int→List Int→Int→Int→List Int→Int→ABU→List Int→ABK→Int→ABX→ABZ→ABT→ABW→Bool→Int→Int→Int→Int→List UInt8→Int→Int→List Int→ABV→Bool→List AAZ→Option JP
def Nb(so:Ld)(t7 t8 t9:Int)(AH:AAZ)(AJ AM:Int)(Aw:AAZ)(Ai:Int)(CS:ABU)(Jp:AAZ)(PJ:ABK)(EE:Int)(AFi:ABX)(AEV:ABZ)(ADl:ABT)(AF5:ABW)(Fq:Bool)(Gw Ha ed AEI:Int)(N1:ACu)(ZY Xr:Int)(AFC:AAZ)(AGI:ABV)(AF2:Bool)(rm:List AAZ):Option JP:=
 cond ((decide (t9<(rm.length:Int))))
  (if(0:Int)≤t9∧t9<(rm.length:Int)then(
  (DU (Aw,Ai,()) (rm.getD (t9.toNat) [])).bind fun v_=>
  cond (!v_.1.1)
   ((Ao 3 AH AJ AM).bind fun VB=>
   cond (!VB.1.1)
    (so t7 (AX (t9+1)) (AX (t9+1)) VB.2.1.1 VB.2.1.2.1 VB.2.1.2.2.1 Aw Ai CS Jp PJ EE AFi AEV ADl AF5 Fq Gw Ha ed AEI N1 ZY Xr AFC AGI AF2 rm)
   (so t7 t8 (AX (t9+1)) VB.2.1.1 VB.2.1.2.1 VB.2.1.2.2.1 Aw Ai CS Jp PJ EE AFi AEV ADl AF5 Fq Gw Ha ed AEI N1 ZY Xr AFC AGI AF2 rm))
  (so t7 t8 (AX (t9+1)) AH AJ AM Aw Ai CS Jp PJ EE AFi AEV ADl AF5 Fq Gw Ha ed AEI N1 ZY Xr AFC AGI AF2 rm))else none)
 (some (((11,0,t8,t7,[],()),()),((AH,AJ,AM,()),())))
def EH:Nat→Ld
 |0=>fun _ _ _ _ _ _ _ _ _ _ _ _ _ _ _ _ _ _ _ _ _ _ _ _ _ _ _ _=>none
 |n+1=>Nb (EH n)
def O8(so:Ld)(p1:ACg)(AH:AAZ)(AJ AM:Int):Option JP:=
 cond ((p1.2.2.2.2.2.2.2.1.length:Int)==0)
  (some (((8,0,0,0,[],()),()),((AH,AJ,AM,()),())))
 (if(0:Int)≤(0:Int)∧(0:Int)<(p1.2.2.2.2.2.2.2.1.length:Int)then(
 (B4 (p1.2.2.2.2.1,p1.2.2.2.2.2.1,()) ((p1.2.2.2.2.2.2.2.1.getD 0 (0,0,[],[],false,[],())).2.1)).bind fun u3=>
 (AF (u3.2.1.length:Int) AH AJ AM).bind fun u5=>
 if(0:Int)≤u5.1.1∧u5.1.1<(u3.2.1.length:Int)then(
 let x6:Int:=(u3.2.1.getD (u5.1.1.toNat) 0)
 cond (!((p1.2.2.2.2.2.2.2.1.getD 0 (0,0,[],[],false,[],())).2.2.2.2.1))
  ((Ao 4 u5.2.1.1 u5.2.1.2.1 u5.2.1.2.2.1).bind fun u8=>
  cond (u8.1.1)
   (some (((10,0,0,0,[],()),()),((u8.2.1.1,u8.2.1.2.1,u8.2.1.2.2.1,()),())))
  (cond (!((p1.2.2.2.2.2.2.2.1.getD 0 (0,0,[],[],false,[],())).2.2.2.2.1))
   (some (((9,x6,0,0,[],()),()),((u8.2.1.1,u8.2.1.2.1,u8.2.1.2.2.1,()),())))
  ((Ao 6 u8.2.1.1 u8.2.1.2.1 u8.2.1.2.2.1).bind fun Hc=>
  cond (Hc.1.1)
   (some (((12,0,0,0,[],()),()),((Hc.2.1.1,Hc.2.1.2.1,Hc.2.1.2.2.1,()),())))
  ((Ao 3 Hc.2.1.1 Hc.2.1.2.1 Hc.2.1.2.2.1).bind fun QE=>
  cond (QE.1.1)
   (some (((4,x6,0,0,[],()),()),((QE.2.1.1,QE.2.1.2.1,QE.2.1.2.2.1,()),())))
  ((Dk (((p1.2.2.2.2.2.2.2.1.getD 0 (0,0,[],[],false,[],())).2.2.2.2.2.1).length:Int) 1).bind fun Tt=>
  (AF Tt.1.1 QE.2.1.1 QE.2.1.2.1 QE.2.1.2.2.1).bind fun Kp=>
  so x6 (AX (1+Kp.1.1)) 0 Kp.2.1.1 Kp.2.1.2.1 Kp.2.1.2.2.1 p1.1 p1.2.1 p1.2.2.1 p1.2.2.2.1 p1.2.2.2.2.1 p1.2.2.2.2.2.1 p1.2.2.2.2.2.2.1 p1.2.2.2.2.2.2.2.1 p1.2.2.2.2.2.2.2.2.1 p1.2.2.2.2.2.2.2.2.2.1 p1.2.2.2.2.2.2.2.2.2.2.1 0 0 0 0 [] ((p1.2.2.2.2.2.2.2.1.getD 0 (0,0,[],[],false,[],())).1) ((p1.2.2.2.2.2.2.2.1.getD 0 (0,0,[],[],false,[],())).2.1) ((p1.2.2.2.2.2.2.2.1.getD 0 (0,0,[],[],false,[],())).2.2.1) ((p1.2.2.2.2.2.2.2.1.getD 0 (0,0,[],[],false,[],())).2.2.2.1) ((p1.2.2.2.2.2.2.2.1.getD 0 (0,0,[],[],false,[],())).2.2.2.2.1) ((p1.2.2.2.2.2.2.2.1.getD 0 (0,0,[],[],false,[],())).2.2.2.2.2.1))))))
 (cond (!((p1.2.2.2.2.2.2.2.1.getD 0 (0,0,[],[],false,[],())).2.2.2.2.1))
  (some (((9,x6,0,0,[],()),()),((u5.2.1.1,u5.2.1.2.1,u5.2.1.2.2.1,()),())))
 ((Ao 6 u5.2.1.1 u5.2.1.2.1 u5.2.1.2.2.1).bind fun u16=>
 cond (u16.1.1)
  (some (((12,0,0,0,[],()),()),((u16.2.1.1,u16.2.1.2.1,u16.2.1.2.2.1,()),())))
 ((Ao 3 u16.2.1.1 u16.2.1.2.1 u16.2.1.2.2.1).bind fun V1=>
 cond (V1.1.1)
  (some (((4,x6,0,0,[],()),()),((V1.2.1.1,V1.2.1.2.1,V1.2.1.2.2.1,()),())))
 ((Dk (((p1.2.2.2.2.2.2.2.1.getD 0 (0,0,[],[],false,[],())).2.2.2.2.2.1).length:Int) 1).bind fun Zc=>
 (AF Zc.1.1 V1.2.1.1 V1.2.1.2.1 V1.2.1.2.2.1).bind fun Qa=>
 so x6 (AX (1+Qa.1.1)) 0 Qa.2.1.1 Qa.2.1.2.1 Qa.2.1.2.2.1 p1.1 p1.2.1 p1.2.2.1 p1.2.2.2.1 p1.2.2.2.2.1 p1.2.2.2.2.2.1 p1.2.2.2.2.2.2.1 p1.2.2.2.2.2.2.2.1 p1.2.2.2.2.2.2.2.2.1 p1.2.2.2.2.2.2.2.2.2.1 p1.2.2.2.2.2.2.2.2.2.2.1 0 0 0 0 [] ((p1.2.2.2.2.2.2.2.1.getD 0 (0,0,[],[],false,[],())).1) ((p1.2.2.2.2.2.2.2.1.getD 0 (0,0,[],[],false,[],())).2.1) ((p1.2.2.2.2.2.2.2.1.getD 0 (0,0,[],[],false,[],())).2.2.1) ((p1.2.2.2.2.2.2.2.1.getD 0 (0,0,[],[],false,[],())).2.2.2.1) ((p1.2.2.2.2.2.2.2.1.getD 0 (0,0,[],[],false,[],())).2.2.2.2.1) ((p1.2.2.2.2.2.2.2.1.getD 0 (0,0,[],[],false,[],())).2.2.2.2.2.1))))))else none)else none)
def I6(p1:ACg)(AH:AAZ)(AJ AM:Int):Option JP:=O8 (EH AZ) p1 AH AJ AM
abbrev jI:Type:=(List UInt8×Unit)×ADN
def E8(p1:List ACu)(AH:AAZ)(AJ AM:Int):Option jI:=
 (AF (p1.length:Int) AH AJ AM).bind fun u1=>
 if(0:Int)≤u1.1.1∧u1.1.1<(p1.length:Int)then(
 some (((p1.getD (u1.1.1.toNat) []),()),((u1.2.1.1,u1.2.1.2.1,u1.2.1.2.2.1,()),())))else none
abbrev kd:Type:=ACx×Unit
def PZ(p0 p1:Int):Option kd:=
 cond (decide (p0<p1))
  (some ((p0,()),()))
 (some ((p1,()),()))
abbrev Yi:Type:=AFT×ADN
def Ef(p1:ACg)(AH:AAZ)(AJ AM:Int):Option Yi:=
 (AF (p1.2.2.2.2.2.2.1.length:Int) AH AJ AM).bind fun u2=>
 (Ao 3 u2.2.1.1 u2.2.1.2.1 u2.2.1.2.2.1).bind fun u3=>
 cond (!u3.1.1)
  (let x4:Int:=(p1.2.2.2.2.2.2.1.length:Int)
  if(0:Int)≤AX (x4-1)∧AX (x4-1)<(p1.2.2.2.2.2.2.1.length:Int)then(
  (B4 (p1.2.2.2.2.1,p1.2.2.2.2.2.1,()) ((p1.2.2.2.2.2.2.1.getD ((AX (x4-1)).toNat) (0,[],())).1)).bind fun u6=>
  (AF (u6.2.1.length:Int) u3.2.1.1 u3.2.1.2.1 u3.2.1.2.2.1).bind fun u8=>
  if(0:Int)≤u8.1.1∧u8.1.1<(u6.2.1.length:Int)then(
  let x9:Int:=(u6.2.1.getD (u8.1.1.toNat) 0)
  let WH:Int:=(((p1.2.2.2.2.2.2.1.getD ((AX (x4-1)).toNat) (0,[],())).2.1).length:Int)
  cond (WH==0)
   ((E8 [[],[97],[98,99],[100]] u8.2.1.1 u8.2.1.2.1 u8.2.1.2.2.1).bind fun QE=>
   some (((2,AX (x4-1),0,0,QE.1.1,()),()),((QE.2.1.1,QE.2.1.2.1,QE.2.1.2.2.1,()),())))
  ((Ao 7 u8.2.1.1 u8.2.1.2.1 u8.2.1.2.2.1).bind fun C7=>
  cond (C7.1.1)
   ((E8 [[],[97],[98,99],[100]] C7.2.1.1 C7.2.1.2.1 C7.2.1.2.2.1).bind fun Tt=>
   some (((2,AX (x4-1),0,0,Tt.1.1,()),()),((Tt.2.1.1,Tt.2.1.2.1,Tt.2.1.2.2.1,()),())))
  ((Ao 3 C7.2.1.1 C7.2.1.2.1 C7.2.1.2.2.1).bind fun Kp=>
  cond (Kp.1.1)
   (some (((4,x9,0,0,[],()),()),((Kp.2.1.1,Kp.2.1.2.1,Kp.2.1.2.2.1,()),())))
  ((PZ WH 3).bind fun iZ=>
  (AF iZ.1.1 Kp.2.1.1 Kp.2.1.2.1 Kp.2.1.2.2.1).bind fun u16=>
  some (((3,AX (x4-1),AX (WH-u16.1.1),x9,[],()),()),((u16.2.1.1,u16.2.1.2.1,u16.2.1.2.2.1,()),()))))))else none)else none)
 (if(0:Int)≤u2.1.1∧u2.1.1<(p1.2.2.2.2.2.2.1.length:Int)then(
 (B4 (p1.2.2.2.2.1,p1.2.2.2.2.2.1,()) ((p1.2.2.2.2.2.2.1.getD (u2.1.1.toNat) (0,[],())).1)).bind fun Sk=>
 (AF (Sk.2.1.length:Int) u3.2.1.1 u3.2.1.2.1 u3.2.1.2.2.1).bind fun Qa=>
 if(0:Int)≤Qa.1.1∧Qa.1.1<(Sk.2.1.length:Int)then(
 let x21:Int:=(Sk.2.1.getD (Qa.1.1.toNat) 0)
 let x22:Int:=(((p1.2.2.2.2.2.2.1.getD (u2.1.1.toNat) (0,[],())).2.1).length:Int)
 cond (x22==0)
  ((E8 [[],[97],[98,99],[100]] Qa.2.1.1 Qa.2.1.2.1 Qa.2.1.2.2.1).bind fun VB=>
  some (((2,u2.1.1,0,0,VB.1.1,()),()),((VB.2.1.1,VB.2.1.2.1,VB.2.1.2.2.1,()),())))
 ((Ao 7 Qa.2.1.1 Qa.2.1.2.1 Qa.2.1.2.2.1).bind fun Jo=>
 cond (Jo.1.1)
  ((E8 [[],[97],[98,99],[100]] Jo.2.1.1 Jo.2.1.2.1 Jo.2.1.2.2.1).bind fun ag=>
  some (((2,u2.1.1,0,0,ag.1.1,()),()),((ag.2.1.1,ag.2.1.2.1,ag.2.1.2.2.1,()),())))
 ((Ao 3 Jo.2.1.1 Jo.2.1.2.1 Jo.2.1.2.2.1).bind fun aD=>
 cond (aD.1.1)
  (some (((4,x21,0,0,[],()),()),((aD.2.1.1,aD.2.1.2.1,aD.2.1.2.2.1,()),())))
 ((PZ x22 3).bind fun a_=>
 (AF a_.1.1 aD.2.1.1 aD.2.1.2.1 aD.2.1.2.2.1).bind fun Pt=>
 some (((3,u2.1.1,AX (x22-Pt.1.1),x21,[],()),()),((Pt.2.1.1,Pt.2.1.2.1,Pt.2.1.2.2.1,()),()))))))else none)else none)
abbrev Zk:Type:=AFT×ADN
def MF(p1:ACg)(AH:AAZ)(AJ AM:Int):Option Zk:=
 cond ((p1.2.2.2.2.2.2.1.length:Int)==0)
  ((Fg (p1.1,p1.2.1,()) AH AJ AM).bind fun u3=>
  (Iw u3.2.2.1).bind fun u4=>
  some (((1,u4.1.1,0,0,[],()),()),((u3.2.1.1,u3.2.1.2.1,u3.2.1.2.2.1,()),())))
 ((Ao 30 AH AJ AM).bind fun u5=>
 cond (u5.1.1)
  ((Fg (p1.1,p1.2.1,()) u5.2.1.1 u5.2.1.2.1 u5.2.1.2.2.1).bind fun u6=>
  (Iw u6.2.2.1).bind fun u7=>
  some (((1,u7.1.1,0,0,[],()),()),((u6.2.1.1,u6.2.1.2.1,u6.2.1.2.2.1,()),())))
 ((AF (p1.2.2.1.length:Int) u5.2.1.1 u5.2.1.2.1 u5.2.1.2.2.1).bind fun u8=>
 (AF 44 u8.2.1.1 u8.2.1.2.1 u8.2.1.2.2.1).bind fun u9=>
 cond (u9.1.1==0)
  ((AF 16 u9.2.1.1 u9.2.1.2.1 u9.2.1.2.2.1).bind fun Hc=>
  some (((5,u8.1.1,Hc.1.1,0,[],()),()),((Hc.2.1.1,Hc.2.1.2.1,Hc.2.1.2.2.1,()),())))
 (cond (u9.1.1==1)
  (cond ((p1.2.2.2.1.length:Int)==0)
   (some (((6,u8.1.1,0,0,[],()),()),((u9.2.1.1,u9.2.1.2.1,u9.2.1.2.2.1,()),())))
  ((Ao 12 u9.2.1.1 u9.2.1.2.1 u9.2.1.2.2.1).bind fun C7=>
  cond (C7.1.1)
   (some (((6,u8.1.1,0,0,[],()),()),((C7.2.1.1,C7.2.1.2.1,C7.2.1.2.2.1,()),())))
  (if(0:Int)≤(0:Int)∧(0:Int)<(p1.2.2.2.1.length:Int)then(
  some (((7,(p1.2.2.2.1.getD 0 0),0,0,[],()),()),((C7.2.1.1,C7.2.1.2.1,C7.2.1.2.2.1,()),())))else none)))
 (cond (u9.1.1==2)
  ((AF (p1.2.2.2.2.2.2.1.length:Int) u9.2.1.1 u9.2.1.2.1 u9.2.1.2.2.1).bind fun iZ=>
  some (((15,iZ.1.1,0,0,[],()),()),((iZ.2.1.1,iZ.2.1.2.1,iZ.2.1.2.2.1,()),())))
 (cond (u9.1.1==3)
  ((Ao 3 u9.2.1.1 u9.2.1.2.1 u9.2.1.2.2.1).bind fun u16=>
  cond (u16.1.1)
   (cond (decide ((p1.2.2.2.2.2.2.2.2.2.1.length:Int)>0))
    ((AF (p1.2.2.2.2.2.2.2.2.2.1.length:Int) u16.2.1.1 u16.2.1.2.1 u16.2.1.2.2.1).bind fun Zc=>
    if(0:Int)≤Zc.1.1∧Zc.1.1<(p1.2.2.2.2.2.2.2.2.2.1.length:Int)then(
    some (((13,((p1.2.2.2.2.2.2.2.2.2.1.getD (Zc.1.1.toNat) (0,[],false,())).1),0,0,[],()),()),((Zc.2.1.1,Zc.2.1.2.1,Zc.2.1.2.2.1,()),())))else none)
   (some (((16,u8.1.1,0,0,[],()),()),((u16.2.1.1,u16.2.1.2.1,u16.2.1.2.2.1,()),()))))
  (some (((16,u8.1.1,0,0,[],()),()),((u16.2.1.1,u16.2.1.2.1,u16.2.1.2.2.1,()),()))))
 (cond (u9.1.1==4)
  ((Ao 2 u9.2.1.1 u9.2.1.2.1 u9.2.1.2.2.1).bind fun fL=>
  cond (fL.1.1)
   ((AF 256 fL.2.1.1 fL.2.1.2.1 fL.2.1.2.2.1).bind fun v_=>
   (AF 2 v_.2.1.1 v_.2.1.2.1 v_.2.1.2.2.1).bind fun VB=>
   some (((14,VB.1.1,v_.1.1,0,[],()),()),((VB.2.1.1,VB.2.1.2.1,VB.2.1.2.2.1,()),())))
  ((AF 2 fL.2.1.1 fL.2.1.2.1 fL.2.1.2.2.1).bind fun Jo=>
  some (((14,Jo.1.1,255,0,[],()),()),((Jo.2.1.1,Jo.2.1.2.1,Jo.2.1.2.2.1,()),()))))
 (cond (u9.1.1==5)
  ((Ao 2 u9.2.1.1 u9.2.1.2.1 u9.2.1.2.2.1).bind fun ag=>
  cond (ag.1.1)
   ((AF 256 ag.2.1.1 ag.2.1.2.1 ag.2.1.2.2.1).bind fun aD=>
   (AF 2 aD.2.1.1 aD.2.1.2.1 aD.2.1.2.2.1).bind fun a_=>
   some (((14,a_.1.1,aD.1.1,0,[],()),()),((a_.2.1.1,a_.2.1.2.1,a_.2.1.2.2.1,()),())))
  ((AF 2 ag.2.1.1 ag.2.1.2.1 ag.2.1.2.2.1).bind fun Pt=>
  some (((14,Pt.1.1,255,0,[],()),()),((Pt.2.1.1,Pt.2.1.2.1,Pt.2.1.2.2.1,()),()))))
 (cond (u9.1.1==6)
  ((Ao 2 u9.2.1.1 u9.2.1.2.1 u9.2.1.2.2.1).bind fun Xl=>
  cond (Xl.1.1)
   ((AF 256 Xl.2.1.1 Xl.2.1.2.1 Xl.2.1.2.2.1).bind fun jd=>
   (AF 2 jd.2.1.1 jd.2.1.2.1 jd.2.1.2.2.1).bind fun di=>
   some (((14,di.1.1,jd.1.1,0,[],()),()),((di.2.1.1,di.2.1.2.1,di.2.1.2.2.1,()),())))
  ((AF 2 Xl.2.1.1 Xl.2.1.2.1 Xl.2.1.2.2.1).bind fun u32=>
  some (((14,u32.1.1,255,0,[],()),()),((u32.2.1.1,u32.2.1.2.1,u32.2.1.2.2.1,()),()))))
 (cond (u9.1.1==7)
  ((Ao 2 u9.2.1.1 u9.2.1.2.1 u9.2.1.2.2.1).bind fun WK=>
  cond (WK.1.1)
   ((AF 256 WK.2.1.1 WK.2.1.2.1 WK.2.1.2.2.1).bind fun u34=>
   (AF 2 u34.2.1.1 u34.2.1.2.1 u34.2.1.2.2.1).bind fun u35=>
   some (((14,u35.1.1,u34.1.1,0,[],()),()),((u35.2.1.1,u35.2.1.2.1,u35.2.1.2.2.1,()),())))
  ((AF 2 WK.2.1.1 WK.2.1.2.1 WK.2.1.2.2.1).bind fun u36=>
  some (((14,u36.1.1,255,0,[],()),()),((u36.2.1.1,u36.2.1.2.1,u36.2.1.2.2.1,()),()))))
 (cond (u9.1.1==8)
  ((Ao 2 u9.2.1.1 u9.2.1.2.1 u9.2.1.2.2.1).bind fun tF=>
  cond (tF.1.1)
   ((AF 256 tF.2.1.1 tF.2.1.2.1 tF.2.1.2.2.1).bind fun u38=>
   (AF 2 u38.2.1.1 u38.2.1.2.1 u38.2.1.2.2.1).bind fun dT=>
   some (((14,dT.1.1,u38.1.1,0,[],()),()),((dT.2.1.1,dT.2.1.2.1,dT.2.1.2.2.1,()),())))
  ((AF 2 tF.2.1.1 tF.2.1.2.1 tF.2.1.2.2.1).bind fun u40=>
  some (((14,u40.1.1,255,0,[],()),()),((u40.2.1.1,u40.2.1.2.1,u40.2.1.2.2.1,()),()))))
 (cond (decide ((p1.2.2.2.2.1.length:Int)>1))
  ((HC (p1.2.2.2.2.1,p1.2.2.2.2.2.1,())).bind fun u43=>
  cond ((decide (u43.1.1<(p1.2.2.2.2.1.length:Int))))
   ((Ao 3 u9.2.1.1 u9.2.1.2.1 u9.2.1.2.2.1).bind fun u45=>
   cond (!u45.1.1)
    ((I6 (p1.1,p1.2.1,p1.2.2.1,p1.2.2.2.1,p1.2.2.2.2.1,p1.2.2.2.2.2.1,p1.2.2.2.2.2.2.1,p1.2.2.2.2.2.2.2.1,p1.2.2.2.2.2.2.2.2.1,p1.2.2.2.2.2.2.2.2.2.1,p1.2.2.2.2.2.2.2.2.2.2.1,()) u45.2.1.1 u45.2.1.2.1 u45.2.1.2.2.1).bind fun u46=>
    some (((u46.1.1.1,u46.1.1.2.1,u46.1.1.2.2.1,u46.1.1.2.2.2.1,u46.1.1.2.2.2.2.1,()),()),((u46.2.1.1,u46.2.1.2.1,u46.2.1.2.2.1,()),())))
   ((Ef (p1.1,p1.2.1,p1.2.2.1,p1.2.2.2.1,p1.2.2.2.2.1,p1.2.2.2.2.2.1,p1.2.2.2.2.2.2.1,p1.2.2.2.2.2.2.2.1,p1.2.2.2.2.2.2.2.2.1,p1.2.2.2.2.2.2.2.2.2.1,p1.2.2.2.2.2.2.2.2.2.2.1,()) u45.2.1.1 u45.2.1.2.1 u45.2.1.2.2.1).bind fun dh=>
   some (((dh.1.1.1,dh.1.1.2.1,dh.1.1.2.2.1,dh.1.1.2.2.2.1,dh.1.1.2.2.2.2.1,()),()),((dh.2.1.1,dh.2.1.2.1,dh.2.1.2.2.1,()),()))))
  ((Ef (p1.1,p1.2.1,p1.2.2.1,p1.2.2.2.1,p1.2.2.2.2.1,p1.2.2.2.2.2.1,p1.2.2.2.2.2.2.1,p1.2.2.2.2.2.2.2.1,p1.2.2.2.2.2.2.2.2.1,p1.2.2.2.2.2.2.2.2.2.1,p1.2.2.2.2.2.2.2.2.2.2.1,()) u9.2.1.1 u9.2.1.2.1 u9.2.1.2.2.1).bind fun u48=>
  some (((u48.1.1.1,u48.1.1.2.1,u48.1.1.2.2.1,u48.1.1.2.2.2.1,u48.1.1.2.2.2.2.1,()),()),((u48.2.1.1,u48.2.1.2.1,u48.2.1.2.2.1,()),()))))
 ((Ef (p1.1,p1.2.1,p1.2.2.1,p1.2.2.2.1,p1.2.2.2.2.1,p1.2.2.2.2.2.1,p1.2.2.2.2.2.2.1,p1.2.2.2.2.2.2.2.1,p1.2.2.2.2.2.2.2.2.1,p1.2.2.2.2.2.2.2.2.2.1,p1.2.2.2.2.2.2.2.2.2.2.1,()) u9.2.1.1 u9.2.1.2.1 u9.2.1.2.2.1).bind fun u49=>
 some (((u49.1.1.1,u49.1.1.2.1,u49.1.1.2.2.1,u49.1.1.2.2.2.1,u49.1.1.2.2.2.2.1,()),()),((u49.2.1.1,u49.2.1.2.1,u49.2.1.2.2.1,()),()))))))))))))))
abbrev ig:Type:=ACR×Unit
def Ep(p0:Int):Option ig:=
 cond (decide (p0>0))
  ((Be (AX (p0.tdiv 4294967296)) 1 30).bind fun u2=>
  cond (u2.1.1)
   ((Be (p0.tmod 4294967296) 1 60).bind fun u3=>
   some ((u3.1.1,()),()))
  (some ((false,()),())))
 (some ((false,()),()))
abbrev F6:Type:=ACx×Unit
def B_(p0:Int):Option F6:=
 (Ep p0).bind fun u1=>
 cond (!u1.1.1)
  (some ((0,()),()))
 (some (((AX (p0.tdiv 4294967296)),()),()))
abbrev gB:Type:=ACR×Unit
def JQ(p0:ADQ):Option gB:=
 (Ep p0.1).bind fun u1=>
 cond (!u1.1.1)
  (some ((false,()),()))
 ((Be p0.2.1 0 30).bind fun u2=>
 cond (!u2.1.1)
  (some ((false,()),()))
 (cond (decide (p0.2.1>0))
  ((B_ p0.1).bind fun u3=>
  cond ((decide (p0.2.1≤u3.1.1)))
   (some ((false,()),()))
  (cond (decide ((p0.2.2.2.1.length:Int)>40))
   (some ((false,()),()))
  (cond (!p0.2.2.1)
   (some ((true,()),()))
  (cond (decide (p0.2.1>0))
   (some ((p0.2.2.2.1==[],()),()))
  (some ((false,()),()))))))
 (cond (decide ((p0.2.2.2.1.length:Int)>40))
  (some ((false,()),()))
 (cond (!p0.2.2.1)
  (some ((true,()),()))
 (cond (decide (p0.2.1>0))
  (some ((p0.2.2.2.1==[],()),()))
 (some ((false,()),())))))))
abbrev QQ:Type:=ACR×Unit
abbrev Tr:Type:=ABV→Int→Option QQ
def N_(R4:Tr)(t0:ABV)(t5:Int):Option QQ:=
 cond ((decide (t5<(t0.length:Int))))
  (if(0:Int)≤t5∧t5<(t0.length:Int)then(
  (JQ ((t0.getD (t5.toNat) (0,0,false,[],())).1,(t0.getD (t5.toNat) (0,0,false,[],())).2.1,(t0.getD (t5.toNat) (0,0,false,[],())).2.2.1,(t0.getD (t5.toNat) (0,0,false,[],())).2.2.2.1,())).bind fun u3=>
  cond (!u3.1.1)
   (some ((false,()),()))
  (R4 t0 (AX (t5+1))))else none)
 (some ((true,()),()))
def I3:Nat→Tr
 |0=>fun _ _=>none
 |n+1=>N_ (I3 n)
def UM(R4:Tr)(p0:ABV)(p1:Int):Option QQ:=
 cond ((decide ((p0.length:Int)>p1)))
  (some ((false,()),()))
 (R4 p0 0)
def Qv(p0:ABV)(p1:Int):Option QQ:=UM (I3 AZ) p0 p1
abbrev Rv:Type:=ACR×Unit
abbrev Uy:Type:=ABV→Int→Option Rv
def Lv(R2:Uy)(t0:ABV)(t3:Int):Option Rv:=
 cond ((decide (t3<(t0.length:Int))))
  (if(0:Int)≤AX (t3-1)∧AX (t3-1)<(t0.length:Int)then(
  if(0:Int)≤t3∧t3<(t0.length:Int)then(
  cond (decide (((t0.getD ((AX (t3-1)).toNat) (0,0,false,[],())).1)≥((t0.getD (t3.toNat) (0,0,false,[],())).1)))
   (some ((false,()),()))
  (R2 t0 (AX (t3+1))))else none)else none)
 (some ((true,()),()))
def Ed:Nat→Uy
 |0=>fun _ _=>none
 |n+1=>Lv (Ed n)
def Vj(R2:Uy)(p0:ABV):Option Rv:=
 R2 p0 1
def S4(p0:ABV):Option Rv:=Vj (Ed AZ) p0
abbrev iA:Type:=ACR×Unit
def El(p0:AC1):Option iA:=
 (Qv p0.1 200).bind fun u1=>
 cond (u1.1.1)
  ((Qv p0.2.1 20).bind fun u2=>
  cond (u2.1.1)
   ((S4 p0.1).bind fun u3=>
   cond (u3.1.1)
    ((Be p0.2.2.1 0 30).bind fun u4=>
    some ((u4.1.1,()),()))
   (some ((false,()),())))
  (some ((false,()),())))
 (some ((false,()),()))
abbrev iO:Type:=ACR×Unit
def WU(p0:AC1):Option iO:=
 cond (((p0.1.length:Int)==0))
  (cond ((p0.2.1.length:Int)==0)
   (some ((p0.2.2.1==0,()),()))
  (some ((false,()),())))
 (some ((false,()),()))
abbrev M_:Type:=ACR×Unit
abbrev Ph:Type:=Int→List Int→Int→ABU→List Int→ABK→Int→ABX→ABZ→ABT→ABW→Bool→Option M_
def MM(R4:Ph)(t3:Int)(AH:AAZ)(AJ:Int)(AM:ABU)(BS:AAZ)(Bi:ABK)(BW:Int)(BR:ABX)(BM:ABZ)(A6:ABT)(BT:ABW)(Ar:Bool):Option M_:=
 cond ((decide (t3<(AM.length:Int))))
  (if(0:Int)≤t3∧t3<(AM.length:Int)then(
  (El ((AM.getD (t3.toNat) ([],[],0,())).1,(AM.getD (t3.toNat) ([],[],0,())).2.1,(AM.getD (t3.toNat) ([],[],0,())).2.2.1,())).bind fun u8=>
  cond (!u8.1.1)
   (some ((false,()),()))
  ((CG BS t3).bind fun u9=>
  cond (u9.1.1)
   (if(0:Int)≤t3∧t3<(AM.length:Int)then(
   (WU ((AM.getD (t3.toNat) ([],[],0,())).1,(AM.getD (t3.toNat) ([],[],0,())).2.1,(AM.getD (t3.toNat) ([],[],0,())).2.2.1,())).bind fun Hc=>
   cond (!Hc.1.1)
    (some ((false,()),()))
   (R4 (AX (t3+1)) AH AJ AM BS Bi BW BR BM A6 BT Ar))else none)
  (R4 (AX (t3+1)) AH AJ AM BS Bi BW BR BM A6 BT Ar)))else none)
 (some ((true,()),()))
def G2:Nat→Ph
 |0=>fun _ _ _ _ _ _ _ _ _ _ _ _=>none
 |n+1=>MM (G2 n)
def RZ(R4:Ph)(p0:ACg):Option M_:=
 (Ec (p0.1,p0.2.1,())).bind fun u1=>
 cond (!u1.1.1)
  (some ((false,()),()))
 (cond (((p0.2.2.1.length:Int) !=(p0.1.length:Int)))
  (some ((false,()),()))
 ((Eg (p0.1,p0.2.1,()) p0.2.2.2.1).bind fun u4=>
 cond (!u4.1.1)
  (some ((false,()),()))
 ((DU (p0.1,p0.2.1,()) p0.2.2.2.1).bind fun u5=>
 cond (u5.1.1)
  (cond (!p0.2.2.2.2.2.2.2.2.2.2.1)
   (some ((false,()),()))
  (R4 0 p0.1 p0.2.1 p0.2.2.1 p0.2.2.2.1 p0.2.2.2.2.1 p0.2.2.2.2.2.1 p0.2.2.2.2.2.2.1 p0.2.2.2.2.2.2.2.1 p0.2.2.2.2.2.2.2.2.1 p0.2.2.2.2.2.2.2.2.2.1 p0.2.2.2.2.2.2.2.2.2.2.1))
 (R4 0 p0.1 p0.2.1 p0.2.2.1 p0.2.2.2.1 p0.2.2.2.2.1 p0.2.2.2.2.2.1 p0.2.2.2.2.2.2.1 p0.2.2.2.2.2.2.2.1 p0.2.2.2.2.2.2.2.2.1 p0.2.2.2.2.2.2.2.2.2.1 p0.2.2.2.2.2.2.2.2.2.2.1))))
def P9(p0:ACg):Option M_:=RZ (G2 AZ) p0
abbrev N7:Type:=ACR×Unit
abbrev VI:Type:=Int→Int→List Int→Int→ABK→Int→Option N7
def Pm(R5:VI)(t5 t6:Int)(AH:AAZ)(AJ:Int)(Aw:ABK)(Ai:Int):Option N7:=
 cond (decide (t6<t5))
  (if(0:Int)≤t6∧t6<(Aw.length:Int)then(
  (DU (AH,AJ,()) ((Aw.getD (t6.toNat) ([],false,0,())).1)).bind fun u6=>
  cond (!u6.1.1)
   (some ((false,()),()))
  ((Be ((Aw.getD (t6.toNat) ([],false,0,())).2.2.1) 0 60).bind fun u8=>
  cond (!u8.1.1)
   (some ((false,()),()))
  (cond (!((Aw.getD (t6.toNat) ([],false,0,())).2.1))
   (cond (((Aw.getD (t6.toNat) ([],false,0,())).2.2.1) !=0)
    (some ((false,()),()))
   (cond (((Aw.getD (t6.toNat) ([],false,0,())).2.1))
    (cond (t6==(AX (t5-1)))
     (some ((false,()),()))
    (cond (decide (t6>0))
     (if(0:Int)≤AX (t6-1)∧AX (t6-1)<(Aw.length:Int)then(
     cond (!((Aw.getD ((AX (t6-1)).toNat) ([],false,0,())).2.1))
      (some ((false,()),()))
     (R5 t5 (AX (t6+1)) AH AJ Aw Ai))else none)
    (R5 t5 (AX (t6+1)) AH AJ Aw Ai)))
   (R5 t5 (AX (t6+1)) AH AJ Aw Ai)))
  (cond (((Aw.getD (t6.toNat) ([],false,0,())).2.1))
   (cond (t6==(AX (t5-1)))
    (some ((false,()),()))
   (cond (decide (t6>0))
    (if(0:Int)≤AX (t6-1)∧AX (t6-1)<(Aw.length:Int)then(
    cond (!((Aw.getD ((AX (t6-1)).toNat) ([],false,0,())).2.1))
     (some ((false,()),()))
    (R5 t5 (AX (t6+1)) AH AJ Aw Ai))else none)
   (R5 t5 (AX (t6+1)) AH AJ Aw Ai)))
  (R5 t5 (AX (t6+1)) AH AJ Aw Ai)))))else none)
 (some ((true,()),()))
def IK:Nat→VI
 |0=>fun _ _ _ _ _ _=>none
 |n+1=>Pm (IK n)
def Vy(R5:VI)(p0:ABd)(p1:ACv):Option N7:=
 (Ec (p0.1,p0.2.1,())).bind fun u1=>
 cond (!u1.1.1)
  (some ((false,()),()))
 (cond ((decide ((p1.1.length:Int)>30)))
  (some ((false,()),()))
 (cond (p1.2.1 !=0)
  ((Ep p1.2.1).bind fun u3=>
  cond (!u3.1.1)
   (some ((false,()),()))
  ((B_ p1.2.1).bind fun u4=>
  cond ((decide (u4.1.1>(p1.1.length:Int))))
   (some ((false,()),()))
  (R5 (p1.1.length:Int) 0 p0.1 p0.2.1 p1.1 p1.2.1)))
 (R5 (p1.1.length:Int) 0 p0.1 p0.2.1 p1.1 p1.2.1)))
def JW(p0:ABd)(p1:ACv):Option N7:=Vy (IK AZ) p0 p1
abbrev J3:Type:=ACR×Unit
abbrev Po:Type:=Int→Int→List Int→Int→Int→ACs→Option J3
def Rb(R5:Po)(t5 t6:Int)(AH:AAZ)(AJ Aw:Int)(Ai:ACs):Option J3:=
 cond ((decide (t6<(Ai.length:Int))))
  (if(0:Int)≤t6∧t6<(Ai.length:Int)then(
  cond ((decide ((((Ai.getD (t6.toNat) ([],[],false,())).1).length:Int)>40)))
   (some ((false,()),()))
  ((Eg (AH,AJ,()) ((Ai.getD (t6.toNat) ([],[],false,())).2.1)).bind fun u7=>
  cond (!u7.1.1)
   (some ((false,()),()))
  ((DU (AH,AJ,()) ((Ai.getD (t6.toNat) ([],[],false,())).2.1)).bind fun u9=>
  cond (u9.1.1 !=((Ai.getD (t6.toNat) ([],[],false,())).2.2.1))
   (some ((false,()),()))
  (cond (!((Ai.getD (t6.toNat) ([],[],false,())).2.2.1))
   (R5 (AX (t5+1)) (AX (t6+1)) AH AJ Aw Ai)
  (R5 t5 (AX (t6+1)) AH AJ Aw Ai)))))else none)
 (some ((decide (t5≤6),()),()))
def Ih:Nat→Po
 |0=>fun _ _ _ _ _ _=>none
 |n+1=>Rb (Ih n)
def Ri(R5:Po)(p0:ABd)(p1:ACy):Option J3:=
 (Ec (p0.1,p0.2.1,())).bind fun u1=>
 cond (!u1.1.1)
  (some ((false,()),()))
 ((Be p1.1 1 30).bind fun u2=>
 cond (!u2.1.1)
  (some ((false,()),()))
 (cond (decide ((p1.2.1.length:Int)>60))
  (some ((false,()),()))
 (R5 0 0 p0.1 p0.2.1 p1.1 p1.2.1)))
def FX(p0:ABd)(p1:ACy):Option J3:=Ri (Ih AZ) p0 p1
abbrev Hu:Type:=ACx×Unit
def FP(p0:Int):Option Hu:=
 (Ep p0).bind fun u1=>
 cond (!u1.1.1)
  (some ((0,()),()))
 (some ((p0.tmod 4294967296,()),()))
abbrev jU:Type:=ACx×Unit
def Np(p0:ACp):Option jU:=
 cond ((p0.2.2.2.1.length:Int)==0)
  (some ((0,()),()))
 (let x2:Int:=(p0.2.2.2.1.length:Int)
 if(0:Int)≤AX (x2-1)∧AX (x2-1)<(p0.2.2.2.1.length:Int)then(
 (FP ((p0.2.2.2.1.getD ((AX (x2-1)).toNat) (0,0,false,[],())).1)).bind fun u4=>
 some ((u4.1.1,()),()))else none)
abbrev KB:Type:=ACR×Unit
abbrev OE:Type:=Int→List Int→Int→Int→Int→List Int→ABV→Bool→List AAZ→Option KB
abbrev PA:Type:=Int→List Int→Int→Int→Int→List Int→ABV→Bool→List AAZ→Option KB
def OU(R4:OE)(R9:PA)(t5:Int)(AH:AAZ)(AJ Aw Ai:Int)(CS:AAZ)(Jp:ABV)(PJ:Bool)(EE:List AAZ):Option KB:=
 cond ((decide (t5<(Jp.length:Int))))
  (if(0:Int)≤t5∧t5<(Jp.length:Int)then(
  (JQ ((Jp.getD (t5.toNat) (0,0,false,[],())).1,(Jp.getD (t5.toNat) (0,0,false,[],())).2.1,(Jp.getD (t5.toNat) (0,0,false,[],())).2.2.1,(Jp.getD (t5.toNat) (0,0,false,[],())).2.2.2.1,())).bind fun u7=>
  cond (!u7.1.1)
   (some ((false,()),()))
  (if(0:Int)≤t5∧t5<(Jp.length:Int)then(
  (B_ ((Jp.getD (t5.toNat) (0,0,false,[],())).1)).bind fun u9=>
  cond (u9.1.1 !=Ai)
   (some ((false,()),()))
  (if(0:Int)≤t5∧t5<(Jp.length:Int)then(
  cond (decide (((Jp.getD (t5.toNat) (0,0,false,[],())).2.1)≥Aw))
   (some ((false,()),()))
  (R4 (AX (t5+1)) AH AJ Aw Ai CS Jp PJ EE))else none))else none))else none)
 (R9 0 AH AJ Aw Ai CS Jp PJ EE)
def PB(R4:OE)(R9:PA)(t6:Int)(AH:AAZ)(AJ Aw Ai:Int)(CS:AAZ)(Jp:ABV)(PJ:Bool)(EE:List AAZ):Option KB:=
 cond ((decide (t6<(EE.length:Int))))
  (if(0:Int)≤t6∧t6<(EE.length:Int)then(
  (Eg (AH,AJ,()) (EE.getD (t6.toNat) [])).bind fun C7=>
  cond (!C7.1.1)
   (some ((false,()),()))
  (R9 (AX (t6+1)) AH AJ Aw Ai CS Jp PJ EE))else none)
 (cond (!PJ)
  (some ((((EE.length:Int)==0),()),()))
 ((Np (Aw,Ai,CS,Jp,PJ,EE,())).bind fun Kp=>
 some ((((EE.length:Int)==Kp.1.1),()),())))
mutual
def HG:Nat→OE
 |0=>fun _ _ _ _ _ _ _ _ _=>none
 |n+1=>OU (HG n) (Fy n)
def Fy:Nat→PA
 |0=>fun _ _ _ _ _ _ _ _ _=>none
 |n+1=>PB (HG n) (Fy n)
end
def T8(R4:OE)(R9:PA)(p0:ABd)(p1:ACp):Option KB:=
 (Ec (p0.1,p0.2.1,())).bind fun u1=>
 cond (!u1.1.1)
  (some ((false,()),()))
 ((Be p1.2.1 1 30).bind fun u2=>
 cond (!u2.1.1)
  (some ((false,()),()))
 ((Be p1.1 (AX (p1.2.1+1)) 30).bind fun u3=>
 cond (!u3.1.1)
  (some ((false,()),()))
 ((Eg (p0.1,p0.2.1,()) p1.2.2.1).bind fun u4=>
 cond (!u4.1.1)
  (some ((false,()),()))
 ((S4 p1.2.2.2.1).bind fun u5=>
 cond (!u5.1.1)
  (some ((false,()),()))
 (R4 0 p0.1 p0.2.1 p1.1 p1.2.1 p1.2.2.1 p1.2.2.2.1 p1.2.2.2.2.1 p1.2.2.2.2.2.1)))))
def Gg(p0:ABd)(p1:ACp):Option KB:=T8 (HG AZ) (Fy AZ) p0 p1
abbrev G1:Type:=ACR×Unit
abbrev Kf:Type:=Int→Int→List Int→Int→ABU→List Int→ABK→Int→ABX→ABZ→ABT→ABW→Bool→Option G1
abbrev Jk:Type:=Int→Int→List Int→Int→ABU→List Int→ABK→Int→ABX→ABZ→ABT→ABW→Bool→Option G1
def Kz(R5:Kf)(R10:Jk)(t3 t4:Int)(AH:AAZ)(AJ:Int)(AM:ABU)(BS:AAZ)(Bi:ABK)(BW:Int)(BR:ABX)(BM:ABZ)(A6:ABT)(BT:ABW)(Ar:Bool):Option G1:=
 cond ((decide (t4<(BR.length:Int))))
  (if(0:Int)≤t4∧t4<(BR.length:Int)then(
  (FX (AH,AJ,()) ((BR.getD (t4.toNat) (0,[],())).1,(BR.getD (t4.toNat) (0,[],())).2.1,())).bind fun u6=>
  cond (!u6.1.1)
   (some ((false,()),()))
  (if(0:Int)≤t4∧t4<(BR.length:Int)then(
  cond (decide (((BR.getD (t4.toNat) (0,[],())).1)>t3))
   (some ((false,()),()))
  (cond (decide (t4>0))
   (if(0:Int)≤AX (t4-1)∧AX (t4-1)<(BR.length:Int)then(
   if(0:Int)≤t4∧t4<(BR.length:Int)then(
   cond (decide (((BR.getD ((AX (t4-1)).toNat) (0,[],())).1)≥((BR.getD (t4.toNat) (0,[],())).1)))
    (some ((false,()),()))
   (R5 t3 (AX (t4+1)) AH AJ AM BS Bi BW BR BM A6 BT Ar))else none)else none)
  (R5 t3 (AX (t4+1)) AH AJ AM BS Bi BW BR BM A6 BT Ar)))else none))else none)
 (R10 t3 0 AH AJ AM BS Bi BW BR BM A6 BT Ar)
def KK(R5:Kf)(R10:Jk)(t3 t5:Int)(AH:AAZ)(AJ:Int)(AM:ABU)(BS:AAZ)(Bi:ABK)(BW:Int)(BR:ABX)(BM:ABZ)(A6:ABT)(BT:ABW)(Ar:Bool):Option G1:=
 cond ((decide (t5<(BM.length:Int))))
  (if(0:Int)≤t5∧t5<(BM.length:Int)then(
  (Gg (AH,AJ,()) ((BM.getD (t5.toNat) (0,0,[],[],false,[],())).1,(BM.getD (t5.toNat) (0,0,[],[],false,[],())).2.1,(BM.getD (t5.toNat) (0,0,[],[],false,[],())).2.2.1,(BM.getD (t5.toNat) (0,0,[],[],false,[],())).2.2.2.1,(BM.getD (t5.toNat) (0,0,[],[],false,[],())).2.2.2.2.1,(BM.getD (t5.toNat) (0,0,[],[],false,[],())).2.2.2.2.2.1,())).bind fun QE=>
  cond (!QE.1.1)
   (some ((false,()),()))
  (cond (((BM.getD (t5.toNat) (0,0,[],[],false,[],())).1) !=t3)
   (some ((false,()),()))
  ((HC (Bi,BW,())).bind fun Kp=>
  cond (((BM.getD (t5.toNat) (0,0,[],[],false,[],())).2.1) !=Kp.1.1)
   (some ((false,()),()))
  (R10 t3 (AX (t5+1)) AH AJ AM BS Bi BW BR BM A6 BT Ar))))else none)
 (some ((true,()),()))
mutual
def Ei:Nat→Kf
 |0=>fun _ _ _ _ _ _ _ _ _ _ _ _ _=>none
 |n+1=>Kz (Ei n) (DJ n)
def DJ:Nat→Jk
 |0=>fun _ _ _ _ _ _ _ _ _ _ _ _ _=>none
 |n+1=>KK (Ei n) (DJ n)
end
def Q2(R5:Kf)(R10:Jk)(p0:ACg):Option G1:=
 (JW (p0.1,p0.2.1,()) (p0.2.2.2.2.1,p0.2.2.2.2.2.1,())).bind fun u2=>
 cond (!u2.1.1)
  (some ((false,()),()))
 (cond (decide ((p0.2.2.2.2.2.2.1.length:Int)>4))
  (some ((false,()),()))
 (cond (decide ((p0.2.2.2.2.2.2.2.1.length:Int)>1))
  (some ((false,()),()))
 (R5 (p0.2.2.2.2.1.length:Int) 0 p0.1 p0.2.1 p0.2.2.1 p0.2.2.2.1 p0.2.2.2.2.1 p0.2.2.2.2.2.1 p0.2.2.2.2.2.2.1 p0.2.2.2.2.2.2.2.1 p0.2.2.2.2.2.2.2.2.1 p0.2.2.2.2.2.2.2.2.2.1 p0.2.2.2.2.2.2.2.2.2.2.1)))
def O3(p0:ACg):Option G1:=Q2 (Ei AZ) (DJ AZ) p0
abbrev eV:Type:=ACR×Unit
def J6(p0:AC2):Option eV:=
 (Be p0.1 1 31).bind fun u1=>
 cond (u1.1.1)
  ((Be p0.2.1 1 61).bind fun u2=>
  cond (u2.1.1)
   (some ((decide ((p0.2.2.1.length:Int)≤120),()),()))
  (some ((false,()),())))
 (some ((false,()),()))
abbrev OT:Type:=ACR×Unit
abbrev RF:Type:=Int→List Int→Int→ABU→List Int→ABK→Int→ABX→ABZ→ABT→ABW→Bool→Option OT
def NO(R4:RF)(t3:Int)(AH:AAZ)(AJ:Int)(AM:ABU)(BS:AAZ)(Bi:ABK)(BW:Int)(BR:ABX)(BM:ABZ)(A6:ABT)(BT:ABW)(Ar:Bool):Option OT:=
 cond ((decide (t3<(BT.length:Int))))
  (if(0:Int)≤t3∧t3<(BT.length:Int)then(
  (Ep ((BT.getD (t3.toNat) (0,[],false,())).1)).bind fun u4=>
  cond (!u4.1.1)
   (some ((false,()),()))
  ((B_ ((BT.getD (t3.toNat) (0,[],false,())).1)).bind fun u6=>
  cond ((decide (u6.1.1>(Bi.length:Int))))
   (some ((false,()),()))
  (cond ((decide ((((BT.getD (t3.toNat) (0,[],false,())).2.1).length:Int)>40)))
   (some ((false,()),()))
  (cond (decide (t3>0))
   (if(0:Int)≤AX (t3-1)∧AX (t3-1)<(BT.length:Int)then(
   cond (decide (((BT.getD ((AX (t3-1)).toNat) (0,[],false,())).1)≥((BT.getD (t3.toNat) (0,[],false,())).1)))
    (some ((false,()),()))
   (R4 (AX (t3+1)) AH AJ AM BS Bi BW BR BM A6 BT Ar))else none)
  (R4 (AX (t3+1)) AH AJ AM BS Bi BW BR BM A6 BT Ar)))))else none)
 (some ((true,()),()))
def Hp:Nat→RF
 |0=>fun _ _ _ _ _ _ _ _ _ _ _ _=>none
 |n+1=>NO (Hp n)
def Tk(R4:RF)(p0:ACg):Option OT:=
 cond (decide ((p0.2.2.2.2.2.2.2.2.2.1.length:Int)>120))
  (some ((false,()),()))
 (R4 0 p0.1 p0.2.1 p0.2.2.1 p0.2.2.2.1 p0.2.2.2.2.1 p0.2.2.2.2.2.1 p0.2.2.2.2.2.2.1 p0.2.2.2.2.2.2.2.1 p0.2.2.2.2.2.2.2.2.1 p0.2.2.2.2.2.2.2.2.2.1 p0.2.2.2.2.2.2.2.2.2.2.1)
def SW(p0:ACg):Option OT:=Tk (Hp AZ) p0
abbrev gn:Type:=ACR×Unit
def Eu(p0:ACg):Option gn:=
 (P9 (p0.1,p0.2.1,p0.2.2.1,p0.2.2.2.1,p0.2.2.2.2.1,p0.2.2.2.2.2.1,p0.2.2.2.2.2.2.1,p0.2.2.2.2.2.2.2.1,p0.2.2.2.2.2.2.2.2.1,p0.2.2.2.2.2.2.2.2.2.1,p0.2.2.2.2.2.2.2.2.2.2.1,())).bind fun u1=>
 cond (u1.1.1)
  ((O3 (p0.1,p0.2.1,p0.2.2.1,p0.2.2.2.1,p0.2.2.2.2.1,p0.2.2.2.2.2.1,p0.2.2.2.2.2.2.1,p0.2.2.2.2.2.2.2.1,p0.2.2.2.2.2.2.2.2.1,p0.2.2.2.2.2.2.2.2.2.1,p0.2.2.2.2.2.2.2.2.2.2.1,())).bind fun u2=>
  cond (u2.1.1)
   (cond ((p0.2.2.2.2.2.2.2.2.1.length:Int)==2)
    (if(0:Int)≤(0:Int)∧(0:Int)<(p0.2.2.2.2.2.2.2.2.1.length:Int)then(
    (J6 ((p0.2.2.2.2.2.2.2.2.1.getD 0 (0,0,[],())).1,(p0.2.2.2.2.2.2.2.2.1.getD 0 (0,0,[],())).2.1,(p0.2.2.2.2.2.2.2.2.1.getD 0 (0,0,[],())).2.2.1,())).bind fun u4=>
    cond (u4.1.1)
     (if(0:Int)≤(1:Int)∧(1:Int)<(p0.2.2.2.2.2.2.2.2.1.length:Int)then(
     (J6 ((p0.2.2.2.2.2.2.2.2.1.getD 1 (0,0,[],())).1,(p0.2.2.2.2.2.2.2.2.1.getD 1 (0,0,[],())).2.1,(p0.2.2.2.2.2.2.2.2.1.getD 1 (0,0,[],())).2.2.1,())).bind fun u5=>
     cond (u5.1.1)
      ((SW (p0.1,p0.2.1,p0.2.2.1,p0.2.2.2.1,p0.2.2.2.2.1,p0.2.2.2.2.2.1,p0.2.2.2.2.2.2.1,p0.2.2.2.2.2.2.2.1,p0.2.2.2.2.2.2.2.2.1,p0.2.2.2.2.2.2.2.2.2.1,p0.2.2.2.2.2.2.2.2.2.2.1,())).bind fun u6=>
      some ((u6.1.1,()),()))
     (some ((false,()),())))else none)
    (some ((false,()),())))else none)
   (some ((false,()),())))
  (some ((false,()),())))
 (some ((false,()),()))
abbrev eG:Type:=AFT×Unit
def VH(p0:AC3):Option eG:=
 cond (p0.1==1)
  (some (((p0.1,p0.2.1,0,0,[],()),()),()))
 (cond (p0.1==4)
  (some (((p0.1,p0.2.1,0,0,[],()),()),()))
 (cond (p0.1==6)
  (some (((p0.1,p0.2.1,0,0,[],()),()),()))
 (cond (p0.1==7)
  (some (((p0.1,p0.2.1,0,0,[],()),()),()))
 (cond (p0.1==9)
  (some (((p0.1,p0.2.1,0,0,[],()),()),()))
 (cond (p0.1==13)
  (some (((p0.1,p0.2.1,0,0,[],()),()),()))
 (cond (p0.1==15)
  (some (((p0.1,p0.2.1,0,0,[],()),()),()))
 (cond (p0.1==16)
  (some (((p0.1,p0.2.1,0,0,[],()),()),()))
 (cond (p0.1==2)
  (some (((p0.1,p0.2.1,0,0,p0.2.2.2.2.1,()),()),()))
 (cond (p0.1==3)
  (some (((p0.1,p0.2.1,p0.2.2.1,p0.2.2.2.1,[],()),()),()))
 (cond (p0.1==5)
  (some (((p0.1,p0.2.1,p0.2.2.1,0,[],()),()),()))
 (cond (p0.1==14)
  (some (((p0.1,p0.2.1,p0.2.2.1,0,[],()),()),()))
 (cond (p0.1==11)
  (some (((p0.1,0,p0.2.2.1,p0.2.2.2.1,[],()),()),()))
 (some (((p0.1,0,0,0,[],()),()),()))))))))))))))
abbrev jj:Type:=ACR×Unit
def T7(p0:AC3):Option jj:=
 (Be p0.1 1 16).bind fun u1=>
 cond (u1.1.1)
  ((VH (p0.1,p0.2.1,p0.2.2.1,p0.2.2.2.1,p0.2.2.2.2.1,())).bind fun u2=>
  cond (((p0.1==u2.1.1.1)&&((p0.2.1==u2.1.1.2.1)&&((p0.2.2.1==u2.1.1.2.2.1)&&((p0.2.2.2.1==u2.1.1.2.2.2.1)&&((p0.2.2.2.2.1==u2.1.1.2.2.2.2.1)&&true))))))
   (some ((decide ((p0.2.2.2.2.1.length:Int)≤40),()),()))
  (some ((false,()),())))
 (some ((false,()),()))
abbrev D1:Type:=ADU×AFY
abbrev TU:Type:=Int→ABK→Int→Int→ABK→Int→ABK→Option D1
def Uc(R3:TU)(t4:Int)(AH:ABK)(AJ Ai:Int)(b2:ABK)(Xr:Int)(b4:ABK):Option D1:=
 cond ((decide (t4<(AH.length:Int))))
  (if(0:Int)≤t4∧t4<(AH.length:Int)then(
  if 0+((AH.getD (t4.toNat) ([],false,0,())).1).length≤Dd then(
  if b4.length+1≤Dd then(
  R3 (AX (t4+1)) AH AJ Ai b2 Xr (b4++[(((AH.getD (t4.toNat) ([],false,0,())).1),(AH.getD (t4.toNat) ([],false,0,())).2.1,(AH.getD (t4.toNat) ([],false,0,())).2.2.1,())]))else none)else none)else none)
 (some ((((),Xr,()),()),(b4,())))
def Ky:Nat→TU
 |0=>fun _ _ _ _ _ _ _=>none
 |n+1=>Uc (Ky n)
def UQ(R3:TU)(p0:ACv):Option D1:=
 R3 0 p0.1 p0.2.1 0 [] p0.2.1 []
def EK(p0:ACv):Option D1:=UQ (Ky AZ) p0
abbrev IP:Type:=AEP×ADY
def DQ(p0:AC1):Option IP:=
 if 0+p0.1.length≤Dd then(
 if 0+p0.2.1.length≤Dd then(
 some ((((),(),p0.2.2.1,()),()),(p0.1,p0.2.1,())))else none)else none
abbrev Dy:Type:=AFa×AFk
abbrev TA:Type:=Int→Int→ACs→Int→ACs→Int→ACs→Option Dy
def N2(R3:TA)(t4 AH:Int)(AJ:ACs)(Aw:Int)(b2:ACs)(ZY:Int)(b4:ACs):Option Dy:=
 cond ((decide (t4<(AJ.length:Int))))
  (if(0:Int)≤t4∧t4<(AJ.length:Int)then(
  if 0+((AJ.getD (t4.toNat) ([],[],false,())).2.1).length≤Dd then(
  if b4.length+1≤Dd then(
  R3 (AX (t4+1)) AH AJ Aw b2 ZY (b4++[((AJ.getD (t4.toNat) ([],[],false,())).1,((AJ.getD (t4.toNat) ([],[],false,())).2.1),(AJ.getD (t4.toNat) ([],[],false,())).2.2.1,())]))else none)else none)else none)
 (some (((ZY,(),()),()),(b4,())))
def HV:Nat→TA
 |0=>fun _ _ _ _ _ _ _=>none
 |n+1=>N2 (HV n)
def Oh(R3:TA)(p0:ACy):Option Dy:=
 R3 0 p0.1 p0.2.1 0 [] p0.1 []
def C2(p0:ACy):Option Dy:=Oh (HV AZ) p0
abbrev Ee:Type:=ADd×ADt
abbrev TX:Type:=Int→Int→Int→List Int→ABV→Bool→List AAZ→Int→Int→Bool→List Int→ABV→List AAZ→Int→Int→Bool→List Int→ABV→List AAZ→Option Ee
def Ot(R3:TX)(t4 AH AJ:Int)(AM:AAZ)(BS:ABV)(Bi:Bool)(BW:List AAZ)(Aw Ai:Int)(PJ:Bool)(b2:AAZ)(b3:ABV)(b4:List AAZ)(vH tf:Int)(tL:Bool)(b6:AAZ)(b7:ABV)(b8:List AAZ):Option Ee:=
 cond ((decide (t4<(BW.length:Int))))
  (if(0:Int)≤t4∧t4<(BW.length:Int)then(
  if 0+(BW.getD (t4.toNat) []).length≤Dd then(
  if b8.length+1≤Dd then(
  R3 (AX (t4+1)) AH AJ AM BS Bi BW Aw Ai PJ b2 b3 b4 vH tf tL b6 b7 (b8++[(BW.getD (t4.toNat) [])]))else none)else none)else none)
 (some (((vH,tf,(),(),tL,(),()),()),(b6,b7,b8,())))
def F5:Nat→TX
 |0=>fun _ _ _ _ _ _ _ _ _ _ _ _ _ _ _ _ _ _ _=>none
 |n+1=>Ot (F5 n)
def Ke(R3:TX)(p0:ACp):Option Ee:=
 if 0+p0.2.2.1.length≤Dd then(
 if 0+p0.2.2.2.1.length≤Dd then(
 R3 0 p0.1 p0.2.1 p0.2.2.1 p0.2.2.2.1 p0.2.2.2.2.1 p0.2.2.2.2.2.1 0 0 false [] [] [] p0.1 p0.2.1 p0.2.2.2.2.1 p0.2.2.1 p0.2.2.2.1 [])else none)else none
def C3(p0:ACp):Option Ee:=Ke (F5 AZ) p0
abbrev HJ:Type:=AEA×AFD
def Bo(p0:AC2):Option HJ:=
 if 0+p0.2.2.1.length≤Dd then(
 some (((p0.1,p0.2.1,(),()),()),(p0.2.2.1,())))else none
abbrev D3:Type:=AD0×ADR
abbrev Hm:Type:=Int→List Int→Int→ABU→List Int→ABK→Int→ABX→ABZ→ABT→ABW→Bool→Int→Int→Bool→List Int→ABU→List Int→ABK→ABX→ABZ→ABT→ABW→Int→Int→Bool→List Int→ABU→List Int→ABK→ABX→ABZ→ABT→ABW→Option D3
abbrev Hj:Type:=Int→List Int→Int→ABU→List Int→ABK→Int→ABX→ABZ→ABT→ABW→Bool→Int→Int→Bool→List Int→ABU→List Int→ABK→ABX→ABZ→ABT→ABW→Int→Int→Bool→List Int→ABU→List Int→ABK→ABX→ABZ→ABT→ABW→Option D3
abbrev G3:Type:=Int→List Int→Int→ABU→List Int→ABK→Int→ABX→ABZ→ABT→ABW→Bool→Int→Int→Bool→List Int→ABU→List Int→ABK→ABX→ABZ→ABT→ABW→Int→Int→Bool→List Int→ABU→List Int→ABK→ABX→ABZ→ABT→ABW→Option D3
abbrev Gv:Type:=Int→List Int→Int→ABU→List Int→ABK→Int→ABX→ABZ→ABT→ABW→Bool→Int→Int→Bool→List Int→ABU→List Int→ABK→ABX→ABZ→ABT→ABW→Int→Int→Bool→List Int→ABU→List Int→ABK→ABX→ABZ→ABT→ABW→Option D3
def NP(R3:Hm)(R7:Hj)(jy:G3)(fB:Gv)(t4:Int)(AH:AAZ)(AJ:Int)(AM:ABU)(BS:AAZ)(Bi:ABK)(BW:Int)(BR:ABX)(BM:ABZ)(A6:ABT)(BT:ABW)(Ar:Bool)(Ai EE:Int)(Fq:Bool)(b2:AAZ)(b3:ABU)(b4:AAZ)(b5:ABK)(b6:ABX)(b7:ABZ)(b8:ABT)(b9:ABW)(Dx FV:Int)(DC:Bool)(Ge:AAZ)(D2:ABU)(GJ:AAZ)(F8:ABK)(ES:ABX)(Ey:ABZ)(FF:ABT)(VZ:ABW):Option D3:=
 cond ((decide (t4<(AM.length:Int))))
  (if(0:Int)≤t4∧t4<(AM.length:Int)then(
  (DQ ((AM.getD (t4.toNat) ([],[],0,())).1,(AM.getD (t4.toNat) ([],[],0,())).2.1,(AM.getD (t4.toNat) ([],[],0,())).2.2.1,())).bind fun pX=>
  if D2.length+1≤Dd then(
  R3 (AX (t4+1)) AH AJ AM BS Bi BW BR BM A6 BT Ar Ai EE Fq b2 b3 b4 b5 b6 b7 b8 b9 Dx FV DC Ge (D2++[(pX.2.1,pX.2.2.1,pX.1.1.2.2.1,())]) GJ F8 ES Ey FF VZ)else none)else none)
 (R7 0 AH AJ AM BS Bi BW BR BM A6 BT Ar Ai EE Fq b2 b3 b4 b5 b6 b7 b8 b9 Dx FV DC Ge D2 GJ F8 ES Ey FF VZ)
def NF(R3:Hm)(R7:Hj)(jy:G3)(fB:Gv)(t5:Int)(AH:AAZ)(AJ:Int)(AM:ABU)(BS:AAZ)(Bi:ABK)(BW:Int)(BR:ABX)(BM:ABZ)(A6:ABT)(BT:ABW)(Ar:Bool)(Ai EE:Int)(Fq:Bool)(b2:AAZ)(b3:ABU)(b4:AAZ)(b5:ABK)(b6:ABX)(b7:ABZ)(b8:ABT)(b9:ABW)(Dx FV:Int)(DC:Bool)(Ge:AAZ)(D2:ABU)(GJ:AAZ)(F8:ABK)(ES:ABX)(Ey:ABZ)(FF:ABT)(VZ:ABW):Option D3:=
 cond ((decide (t5<(BR.length:Int))))
  (if(0:Int)≤t5∧t5<(BR.length:Int)then(
  (C2 ((BR.getD (t5.toNat) (0,[],())).1,(BR.getD (t5.toNat) (0,[],())).2.1,())).bind fun tN=>
  if ES.length+1≤Dd then(
  R7 (AX (t5+1)) AH AJ AM BS Bi BW BR BM A6 BT Ar Ai EE Fq b2 b3 b4 b5 b6 b7 b8 b9 Dx FV DC Ge D2 GJ F8 (ES++[(tN.1.1.1,tN.2.1,())]) Ey FF VZ)else none)else none)
 (jy 0 AH AJ AM BS Bi BW BR BM A6 BT Ar Ai EE Fq b2 b3 b4 b5 b6 b7 b8 b9 Dx FV DC Ge D2 GJ F8 ES Ey FF VZ)
def MX(R3:Hm)(R7:Hj)(jy:G3)(fB:Gv)(t6:Int)(AH:AAZ)(AJ:Int)(AM:ABU)(BS:AAZ)(Bi:ABK)(BW:Int)(BR:ABX)(BM:ABZ)(A6:ABT)(BT:ABW)(Ar:Bool)(Ai EE:Int)(Fq:Bool)(b2:AAZ)(b3:ABU)(b4:AAZ)(b5:ABK)(b6:ABX)(b7:ABZ)(b8:ABT)(b9:ABW)(Dx FV:Int)(DC:Bool)(Ge:AAZ)(D2:ABU)(GJ:AAZ)(F8:ABK)(ES:ABX)(Ey:ABZ)(FF:ABT)(VZ:ABW):Option D3:=
 cond ((decide (t6<(BM.length:Int))))
  (if(0:Int)≤t6∧t6<(BM.length:Int)then(
  (C3 ((BM.getD (t6.toNat) (0,0,[],[],false,[],())).1,(BM.getD (t6.toNat) (0,0,[],[],false,[],())).2.1,(BM.getD (t6.toNat) (0,0,[],[],false,[],())).2.2.1,(BM.getD (t6.toNat) (0,0,[],[],false,[],())).2.2.2.1,(BM.getD (t6.toNat) (0,0,[],[],false,[],())).2.2.2.2.1,(BM.getD (t6.toNat) (0,0,[],[],false,[],())).2.2.2.2.2.1,())).bind fun cy=>
  if Ey.length+1≤Dd then(
  jy (AX (t6+1)) AH AJ AM BS Bi BW BR BM A6 BT Ar Ai EE Fq b2 b3 b4 b5 b6 b7 b8 b9 Dx FV DC Ge D2 GJ F8 ES (Ey++[(cy.1.1.1,cy.1.1.2.1,cy.2.1,cy.2.2.1,cy.1.1.2.2.2.2.1,cy.2.2.2.1,())]) FF VZ)else none)else none)
 (fB 0 AH AJ AM BS Bi BW BR BM A6 BT Ar Ai EE Fq b2 b3 b4 b5 b6 b7 b8 b9 Dx FV DC Ge D2 GJ F8 ES Ey FF VZ)
def MN(R3:Hm)(R7:Hj)(jy:G3)(fB:Gv)(t7:Int)(AH:AAZ)(AJ:Int)(AM:ABU)(BS:AAZ)(Bi:ABK)(BW:Int)(BR:ABX)(BM:ABZ)(A6:ABT)(BT:ABW)(Ar:Bool)(Ai EE:Int)(Fq:Bool)(b2:AAZ)(b3:ABU)(b4:AAZ)(b5:ABK)(b6:ABX)(b7:ABZ)(b8:ABT)(b9:ABW)(Dx FV:Int)(DC:Bool)(Ge:AAZ)(D2:ABU)(GJ:AAZ)(F8:ABK)(ES:ABX)(Ey:ABZ)(FF:ABT)(VZ:ABW):Option D3:=
 cond ((decide (t7<(A6.length:Int))))
  (if(0:Int)≤t7∧t7<(A6.length:Int)then(
  (Bo ((A6.getD (t7.toNat) (0,0,[],())).1,(A6.getD (t7.toNat) (0,0,[],())).2.1,(A6.getD (t7.toNat) (0,0,[],())).2.2.1,())).bind fun og=>
  if FF.length+1≤Dd then(
  fB (AX (t7+1)) AH AJ AM BS Bi BW BR BM A6 BT Ar Ai EE Fq b2 b3 b4 b5 b6 b7 b8 b9 Dx FV DC Ge D2 GJ F8 ES Ey (FF++[(og.1.1.1,og.1.1.2.1,og.2.1,())]) VZ)else none)else none)
 (some ((((),Dx,(),(),(),FV,(),(),(),(),DC,()),()),(Ge,D2,GJ,F8,ES,Ey,FF,VZ,())))
mutual
def Bz:Nat→Hm
 |0=>fun _ _ _ _ _ _ _ _ _ _ _ _ _ _ _ _ _ _ _ _ _ _ _ _ _ _ _ _ _ _ _ _ _ _=>none
 |n+1=>NP (Bz n) (CA n) (Bt n) (Bv n)
def CA:Nat→Hj
 |0=>fun _ _ _ _ _ _ _ _ _ _ _ _ _ _ _ _ _ _ _ _ _ _ _ _ _ _ _ _ _ _ _ _ _ _=>none
 |n+1=>NF (Bz n) (CA n) (Bt n) (Bv n)
def Bt:Nat→G3
 |0=>fun _ _ _ _ _ _ _ _ _ _ _ _ _ _ _ _ _ _ _ _ _ _ _ _ _ _ _ _ _ _ _ _ _ _=>none
 |n+1=>MX (Bz n) (CA n) (Bt n) (Bv n)
def Bv:Nat→Gv
 |0=>fun _ _ _ _ _ _ _ _ _ _ _ _ _ _ _ _ _ _ _ _ _ _ _ _ _ _ _ _ _ _ _ _ _ _=>none
 |n+1=>MN (Bz n) (CA n) (Bt n) (Bv n)
end
def NH(R3:Hm)(R7:Hj)(jy:G3)(fB:Gv)(p0:ACg):Option D3:=
 if 0+p0.1.length≤Dd then(
 if 0+p0.2.2.2.1.length≤Dd then(
 (EK (p0.2.2.2.2.1,p0.2.2.2.2.2.1,())).bind fun u2=>
 if 0+p0.2.2.2.2.2.2.2.2.2.1.length≤Dd then(
 R3 0 p0.1 p0.2.1 p0.2.2.1 p0.2.2.2.1 p0.2.2.2.2.1 p0.2.2.2.2.2.1 p0.2.2.2.2.2.2.1 p0.2.2.2.2.2.2.2.1 p0.2.2.2.2.2.2.2.2.1 p0.2.2.2.2.2.2.2.2.2.1 p0.2.2.2.2.2.2.2.2.2.2.1 0 0 false [] [] [] [] [] [] [] [] p0.2.1 u2.1.1.2.1 p0.2.2.2.2.2.2.2.2.2.2.1 p0.1 [] p0.2.2.2.1 u2.2.1 [] [] [] p0.2.2.2.2.2.2.2.2.2.1)else none)else none)else none
def L7(p0:ACg):Option D3:=NH (Bz AZ) (CA AZ) (Bt AZ) (Bv AZ) p0
abbrev Lt:Type:=AC8×AC7
abbrev Ox:Type:=Int→Int→List Int→Option Lt
def LA(R3:Ox)(t0 t4:Int)(b0:AAZ):Option Lt:=
 cond (decide (t4<8))
  ((Be t0 0 255).bind fun u1=>
  cond (u1.1.1)
   (if t4<0 then none else(
   cond (((Yo .i64 (t0.fdiv (2^(min t4.toNat 64))) 1)==1))
    (if b0.length+1≤Dd then(
    R3 t0 (AX (t4+1)) (b0++[t4]))else none)
   (R3 t0 (AX (t4+1)) b0)))
  (some (((),()),(b0,()))))
 (some (((),()),(b0,())))
def F7:Nat→Ox
 |0=>fun _ _ _=>none
 |n+1=>LA (F7 n)
def Q1(R3:Ox)(p0:Int):Option Lt:=
 R3 p0 0 []
def Li(p0:Int):Option Lt:=Q1 (F7 AZ) p0
abbrev gy:Type:=((AGc×Int×Bool×Unit)×Unit)×AFY
def JN(p0:ABd)(p1:ACv)(p2:AAZ):Option gy:=
 (JW (p0.1,p0.2.1,()) (p1.1,p1.2.1,())).bind fun u1=>
 cond (!u1.1.1)
  (some (((((),0,()),0,false,()),()),([],())))
 ((EK (p1.1,p1.2.1,())).bind fun u2=>
 (DU (p0.1,p0.2.1,()) p2).bind fun u3=>
 cond (!u3.1.1)
  (some (((((),u2.1.1.2.1,()),0,false,()),()),(u2.2.1,())))
 (cond (((p1.1.length:Int)==30))
  (some (((((),u2.1.1.2.1,()),0,false,()),()),(u2.2.1,())))
 (if 0+p2.length≤Dd then(
 if u2.2.1.length+1≤Dd then(
 let x5:ABK:=u2.2.1++[(p2,false,0,())]
 some (((((),u2.1.1.2.1,()),(x5.length:Int),true,()),()),(x5,())))else none)else none)))
abbrev Xw:Type:=ADK×(List Int×ABU×List Int×Unit×Unit×Unit×ABT×ABW×ABK×ABX×ABZ×Unit)
def R_(Bk Bn:Int)(Az:Bool)(p1:AC3)(b0:AAZ)(b1:ABU)(b2:AAZ)(b3:ABK)(b4:ABX)(b5:ABZ)(b6:ABT)(b7:ABW):Option Xw:=
 cond (((b4.length:Int)==4))
  (some (((((),Bk,(),(),(),Bn,(),(),(),(),Az,()),4,()),()),(b0,b1,b2,(),(),(),b6,b7,b3,b4,b5,())))
 ((Li p1.2.1).bind fun u2=>
 (JN (b0,Bk,()) (b3,Bn,()) u2.2.1).bind fun u3=>
 cond (!u3.1.1.2.2.1)
  (some (((((),Bk,(),(),(),Bn,(),(),(),(),Az,()),4,()),()),(b0,b1,b2,(),(),(),b6,b7,b3,b4,b5,())))
 (if b4.length+1≤Dd then(
 some (((((),Bk,(),(),(),u3.1.1.1.2.1,(),(),(),(),Az,()),0,()),()),(b0,b1,b2,(),(),(),b6,b7,u3.2.1,(b4++[(u3.1.1.2.1,[],())]),[],())))else none))
abbrev cG:Type:=ACR×Unit
def Ix(p0:ACg)(p1:Int):Option cG:=
 (Be p1 0 (AX ((p0.2.2.2.2.2.2.1.length:Int)-1))).bind fun u2=>
 some ((u2.1.1,()),())
abbrev cV:Type:=((AGe×Int×Bool×Unit)×Unit)×AFk
def Et(p0:ABd)(p1:ACy)(p2:ACu):Option cV:=
 (FX (p0.1,p0.2.1,()) (p1.1,p1.2.1,())).bind fun u1=>
 cond (!u1.1.1)
  (some ((((0,(),()),0,false,()),()),([],())))
 ((C2 (p1.1,p1.2.1,())).bind fun u2=>
 if u2.2.1.length+1≤Dd then(
 let x3:ACs:=u2.2.1++[(p2,[],false,())]
 (FX (p0.1,p0.2.1,()) (u2.1.1.1,x3,())).bind fun u4=>
 cond (!u4.1.1)
  ((C2 (p1.1,p1.2.1,())).bind fun u5=>
  some ((((u5.1.1.1,(),()),0,false,()),()),(u5.2.1,())))
 (some ((((u2.1.1.1,(),()),(x3.length:Int),true,()),()),(x3,()))))else none)
abbrev Fl:Type:=ACx×Unit
def Bh(p0 p1:Int):Option Fl:=
 some ((AX ((AX (4294967296*p0))+p1),()),())
abbrev II:Type:=ADK×(List Int×ABU×List Int×ABK×ABX×ABZ×ABT×Unit×ABW×Unit)
abbrev Oy:Type:=Int→List Int→ABU→List Int→ABK→ABX→ABZ→ABT→ABW→Int→Int→Bool→Int→Int→Bool→List Int→ABU→List Int→ABK→ABX→ABZ→ABT→ABW→Int→List UInt8→Bool→Option II
abbrev M5:Type:=Bool→Int→List Int→ABU→List Int→ABK→ABX→ABZ→ABT→ABW→Int→Int→Bool→Int→Int→Bool→List Int→ABU→List Int→ABK→ABX→ABZ→ABT→ABW→Int→List UInt8→Bool→ABW→Option II
def UZ(R9:Oy)(so:M5)(t10:Int)(b0:AAZ)(b1:ABU)(b2:AAZ)(b3:ABK)(b4:ABX)(b5:ABZ)(b6:ABT)(b7:ABW)(Ci Cp:Int)(Bj:Bool)(Ds EN:Int)(CQ:Bool)(Nd:AAZ)(Ge:ABU)(D2:AAZ)(GJ:ABK)(F8:ABX)(ES:ABZ)(Ey:ABT)(FF:ABW)(B6:Int)(CM:ACu)(B8:Bool):Option II:=
 cond ((decide (t10<(b7.length:Int))))
  (if(0:Int)≤t10∧t10<(b7.length:Int)then(
  cond (((b7.getD (t10.toNat) (0,[],false,())).1)==B6)
   (some (((((),Ci,(),(),(),Cp,(),(),(),(),Bj,()),4,()),()),(b0,b1,b2,b3,b4,b5,b6,(),b7,())))
  (R9 (AX (t10+1)) b0 b1 b2 b3 b4 b5 b6 b7 Ci Cp Bj Ds EN CQ Nd Ge D2 GJ F8 ES Ey FF B6 CM B8))else none)
 (so false 0 b0 b1 b2 b3 b4 b5 b6 b7 Ci Cp Bj Ds EN CQ Nd Ge D2 GJ F8 ES Ey FF B6 CM B8 [])
def TT(R9:Oy)(so:M5)(t12:Bool)(t13:Int)(b0:AAZ)(b1:ABU)(b2:AAZ)(b3:ABK)(b4:ABX)(b5:ABZ)(b6:ABT)(b7:ABW)(Ci Cp:Int)(Bj:Bool)(Ds EN:Int)(CQ:Bool)(Nd:AAZ)(Ge:ABU)(D2:AAZ)(GJ:ABK)(F8:ABX)(ES:ABZ)(Ey:ABT)(FF:ABW)(B6:Int)(CM:ACu)(B8:Bool)(lG:ABW):Option II:=
 cond ((decide (t13<(b7.length:Int))))
  (cond (!t12)
   (if(0:Int)≤t13∧t13<(b7.length:Int)then(
   cond (decide (((b7.getD (t13.toNat) (0,[],false,())).1)>B6))
    (if lG.length+1≤Dd then(
    let x18:ABW:=lG++[(B6,CM,B8,())]
    if(0:Int)≤t13∧t13<(b7.length:Int)then(
    if x18.length+1≤Dd then(
    so true (AX (t13+1)) b0 b1 b2 b3 b4 b5 b6 b7 Ci Cp Bj Ds EN CQ Nd Ge D2 GJ F8 ES Ey FF B6 CM B8 (x18++[((b7.getD (t13.toNat) (0,[],false,())).1,(b7.getD (t13.toNat) (0,[],false,())).2.1,(b7.getD (t13.toNat) (0,[],false,())).2.2.1,())]))else none)else none)else none)
   (if(0:Int)≤t13∧t13<(b7.length:Int)then(
   if lG.length+1≤Dd then(
   so t12 (AX (t13+1)) b0 b1 b2 b3 b4 b5 b6 b7 Ci Cp Bj Ds EN CQ Nd Ge D2 GJ F8 ES Ey FF B6 CM B8 (lG++[((b7.getD (t13.toNat) (0,[],false,())).1,(b7.getD (t13.toNat) (0,[],false,())).2.1,(b7.getD (t13.toNat) (0,[],false,())).2.2.1,())]))else none)else none))else none)
  (if(0:Int)≤t13∧t13<(b7.length:Int)then(
  if lG.length+1≤Dd then(
  so t12 (AX (t13+1)) b0 b1 b2 b3 b4 b5 b6 b7 Ci Cp Bj Ds EN CQ Nd Ge D2 GJ F8 ES Ey FF B6 CM B8 (lG++[((b7.getD (t13.toNat) (0,[],false,())).1,(b7.getD (t13.toNat) (0,[],false,())).2.1,(b7.getD (t13.toNat) (0,[],false,())).2.2.1,())]))else none)else none))
 (cond (!t12)
  (if lG.length+1≤Dd then(
  some (((((),Ci,(),(),(),Cp,(),(),(),(),Bj,()),0,()),()),(b0,b1,b2,b3,b4,b5,b6,(),(lG++[(B6,CM,B8,())]),())))else none)
 (some (((((),Ci,(),(),(),Cp,(),(),(),(),Bj,()),0,()),()),(b0,b1,b2,b3,b4,b5,b6,(),lG,()))))
mutual
def Il:Nat→Oy
 |0=>fun _ _ _ _ _ _ _ _ _ _ _ _ _ _ _ _ _ _ _ _ _ _ _ _ _ _=>none
 |n+1=>UZ (Il n) (Hn n)
def Hn:Nat→M5
 |0=>fun _ _ _ _ _ _ _ _ _ _ _ _ _ _ _ _ _ _ _ _ _ _ _ _ _ _ _ _=>none
 |n+1=>TT (Il n) (Hn n)
end
def Ui(R9:Oy)(so:M5)(Bk Bn:Int)(Az:Bool)(p1:AC3)(b0:AAZ)(b1:ABU)(b2:AAZ)(b3:ABK)(b4:ABX)(b5:ABZ)(b6:ABT)(b7:ABW):Option II:=
 (Ix (b0,Bk,b1,b2,b3,Bn,b4,b5,b6,b7,Az,()) p1.2.1).bind fun u1=>
 cond (!u1.1.1)
  (some (((((),Bk,(),(),(),Bn,(),(),(),(),Az,()),2,()),()),(b0,b1,b2,b3,b4,b5,b6,(),b7,())))
 (if(0:Int)≤p1.2.1∧p1.2.1<(b4.length:Int)then(
 (Et (b0,Bk,()) ((b4.getD (p1.2.1.toNat) (0,[],())).1,(b4.getD (p1.2.1.toNat) (0,[],())).2.1,()) p1.2.2.2.2.1).bind fun u2=>
 cond (!u2.1.1.2.2.1)
  (some (((((),Bk,(),(),(),Bn,(),(),(),(),Az,()),4,()),()),(b0,b1,b2,b3,b4,b5,b6,(),b7,())))
 (cond (((b7.length:Int)==120))
  (some (((((),Bk,(),(),(),Bn,(),(),(),(),Az,()),4,()),()),(b0,b1,b2,b3,b4,b5,b6,(),b7,())))
 (if(0:Int)≤p1.2.1∧p1.2.1<(b4.length:Int)then(
 (Bh u2.1.1.1.1 u2.1.1.2.1).bind fun u5=>
 R9 0 b0 b1 b2 b3 (b4.set (p1.2.1.toNat) (u2.1.1.1.1,u2.2.1,())) b5 b6 b7 Bk Bn Az 0 0 false [] [] [] [] [] [] [] [] u5.1.1 p1.2.2.2.2.1 false)else none)))else none)
def US(Bk Bn:Int)(Az:Bool)(p1:AC3)(b0:AAZ)(b1:ABU)(b2:AAZ)(b3:ABK)(b4:ABX)(b5:ABZ)(b6:ABT)(b7:ABW):Option II:=Ui (Il AZ) (Hn AZ) Bk Bn Az p1 b0 b1 b2 b3 b4 b5 b6 b7
abbrev g8:Type:=ACx×Unit
def FW(p0:ACg)(p1:Int):Option g8:=
 (Be p1 0 (AX ((p0.2.2.1.length:Int)-1))).bind fun u2=>
 cond (!u2.1.1)
  (some ((2,()),()))
 ((CG p0.2.2.2.1 p1).bind fun u3=>
 cond (u3.1.1)
  (some ((3,()),()))
 (some ((0,()),())))
abbrev fz:Type:=ACR×Unit
def SJ(p0:AC1)(p1:ADQ):Option fz:=
 cond (p1.2.1==0)
  ((B_ p1.1).bind fun u1=>
  some (((decide (u1.1.1>p0.2.2.1)),()),()))
 (some (((decide (p1.2.1>p0.2.2.1)),()),()))
abbrev ec:Type:=ADX×ADY
def KC(p0:AC1)(p1:ADQ):Option ec:=
 (El (p0.1,p0.2.1,p0.2.2.1,())).bind fun u1=>
 cond (!u1.1.1)
  (some (((((),(),0,()),false,()),()),([],[],())))
 ((DQ (p0.1,p0.2.1,p0.2.2.1,())).bind fun u2=>
 (JQ (p1.1,p1.2.1,p1.2.2.1,p1.2.2.2.1,())).bind fun u3=>
 cond (!u3.1.1)
  (some (((((),(),u2.1.1.2.2.1,()),false,()),()),(u2.2.1,u2.2.2.1,())))
 ((SJ (p0.1,p0.2.1,p0.2.2.1,()) (p1.1,p1.2.1,p1.2.2.1,p1.2.2.2.1,())).bind fun u4=>
 cond (!u4.1.1)
  (some (((((),(),u2.1.1.2.2.1,()),false,()),()),(u2.2.1,u2.2.2.1,())))
 (cond ((p0.2.1.length:Int)==20)
  (some (((((),(),u2.1.1.2.2.1,()),false,()),()),(u2.2.1,u2.2.2.1,())))
 (if u2.2.2.1.length+1≤Dd then(
 some (((((),(),u2.1.1.2.2.1,()),true,()),()),(u2.2.1,(u2.2.2.1++[(p1.1,p1.2.1,p1.2.2.1,p1.2.2.2.1,())]),())))else none))))
abbrev Wz:Type:=ADK×ADR
def QM(Bk Bn:Int)(Az:Bool)(p1:AC3)(b0:AAZ)(b1:ABU)(b2:AAZ)(b3:ABK)(b4:ABX)(b5:ABZ)(b6:ABT)(b7:ABW):Option Wz:=
 (Ix (b0,Bk,b1,b2,b3,Bn,b4,b5,b6,b7,Az,()) p1.2.1).bind fun u1=>
 cond (!u1.1.1)
  (some (((((),Bk,(),(),(),Bn,(),(),(),(),Az,()),2,()),()),(b0,b1,b2,b3,b4,b5,b6,b7,())))
 (if(0:Int)≤p1.2.1∧p1.2.1<(b4.length:Int)then(
 (Be p1.2.2.1 1 (((b4.getD (p1.2.1.toNat) (0,[],())).2.1).length:Int)).bind fun u3=>
 cond (!u3.1.1)
  (some (((((),Bk,(),(),(),Bn,(),(),(),(),Az,()),2,()),()),(b0,b1,b2,b3,b4,b5,b6,b7,())))
 ((FW (b0,Bk,b1,b2,b3,Bn,b4,b5,b6,b7,Az,()) p1.2.2.2.1).bind fun u4=>
 cond (u4.1.1 !=0)
  (some (((((),Bk,(),(),(),Bn,(),(),(),(),Az,()),u4.1.1,()),()),(b0,b1,b2,b3,b4,b5,b6,b7,())))
 ((B4 (b3,Bn,()) ((b4.getD (p1.2.1.toNat) (0,[],())).1)).bind fun u6=>
 (CG u6.2.1 p1.2.2.2.1).bind fun u7=>
 cond (!u7.1.1)
  (some (((((),Bk,(),(),(),Bn,(),(),(),(),Az,()),2,()),()),(b0,b1,b2,b3,b4,b5,b6,b7,())))
 (if(0:Int)≤p1.2.2.2.1∧p1.2.2.2.1<(b1.length:Int)then(
 if(0:Int)≤AX (p1.2.2.1-1)∧AX (p1.2.2.1-1)<(((b4.getD (p1.2.1.toNat) (0,[],())).2.1).length:Int)then(
 (Bh ((b4.getD (p1.2.1.toNat) (0,[],())).1) p1.2.2.1).bind fun Hc=>
 (KC ((b1.getD (p1.2.2.2.1.toNat) ([],[],0,())).1,(b1.getD (p1.2.2.2.1.toNat) ([],[],0,())).2.1,(b1.getD (p1.2.2.2.1.toNat) ([],[],0,())).2.2.1,()) (Hc.1.1,0,false,((((b4.getD (p1.2.1.toNat) (0,[],())).2.1).getD ((AX (p1.2.2.1-1)).toNat) ([],[],false,())).1),())).bind fun QE=>
 cond (!QE.1.1.2.1)
  (some (((((),Bk,(),(),(),Bn,(),(),(),(),Az,()),4,()),()),(b0,b1,b2,b3,b4,b5,b6,b7,())))
 (if(0:Int)≤p1.2.2.2.1∧p1.2.2.2.1<(b1.length:Int)then(
 some (((((),Bk,(),(),(),Bn,(),(),(),(),Az,()),0,()),()),(b0,(b1.set (p1.2.2.2.1.toNat) (QE.2.1,QE.2.2.1,QE.1.1.1.2.2.1,())),b2,b3,b4,b5,b6,b7,())))else none))else none)else none))))else none)
abbrev jW:Type:=AGg×Unit
def Nq(p0 p1:ADQ):Option jW:=
 cond ((decide (p1.2.1>p0.2.1)))
  (some (((p1.1,p1.2.1,p1.2.2.1,p1.2.2.2.1,()),()),()))
 (some (((p0.1,p0.2.1,p0.2.2.1,p0.2.2.2.1,()),()),()))
abbrev QF:Type:=AC8×AGl
abbrev Th:Type:=ABV→Bool→Int→Int→Int→Bool→List UInt8→ABV→Option QF
def Oi(R4:Th)(t0:ABV)(t6:Bool)(t7 AH AJ:Int)(AM:Bool)(BS:ACu)(b1:ABV):Option QF:=
 cond ((decide (t7<(t0.length:Int))))
  (cond (!t6)
   (if(0:Int)≤t7∧t7<(t0.length:Int)then(
   cond (((t0.getD (t7.toNat) (0,0,false,[],())).1)==AH)
    (if(0:Int)≤t7∧t7<(t0.length:Int)then(
    (Nq ((t0.getD (t7.toNat) (0,0,false,[],())).1,(t0.getD (t7.toNat) (0,0,false,[],())).2.1,(t0.getD (t7.toNat) (0,0,false,[],())).2.2.1,(t0.getD (t7.toNat) (0,0,false,[],())).2.2.2.1,()) (AH,AJ,AM,BS,())).bind fun u3=>
    if b1.length+1≤Dd then(
    R4 t0 true (AX (t7+1)) AH AJ AM BS (b1++[(u3.1.1.1,u3.1.1.2.1,u3.1.1.2.2.1,u3.1.1.2.2.2.1,())]))else none)else none)
   (cond (!t6)
    (if(0:Int)≤t7∧t7<(t0.length:Int)then(
    cond (decide (((t0.getD (t7.toNat) (0,0,false,[],())).1)>AH))
     (if b1.length+1≤Dd then(
     let x6:ABV:=b1++[(AH,AJ,AM,BS,())]
     if(0:Int)≤t7∧t7<(t0.length:Int)then(
     if x6.length+1≤Dd then(
     R4 t0 true (AX (t7+1)) AH AJ AM BS (x6++[((t0.getD (t7.toNat) (0,0,false,[],())).1,(t0.getD (t7.toNat) (0,0,false,[],())).2.1,(t0.getD (t7.toNat) (0,0,false,[],())).2.2.1,(t0.getD (t7.toNat) (0,0,false,[],())).2.2.2.1,())]))else none)else none)else none)
    (if(0:Int)≤t7∧t7<(t0.length:Int)then(
    if b1.length+1≤Dd then(
    R4 t0 t6 (AX (t7+1)) AH AJ AM BS (b1++[((t0.getD (t7.toNat) (0,0,false,[],())).1,(t0.getD (t7.toNat) (0,0,false,[],())).2.1,(t0.getD (t7.toNat) (0,0,false,[],())).2.2.1,(t0.getD (t7.toNat) (0,0,false,[],())).2.2.2.1,())]))else none)else none))else none)
   (if(0:Int)≤t7∧t7<(t0.length:Int)then(
   if b1.length+1≤Dd then(
   R4 t0 t6 (AX (t7+1)) AH AJ AM BS (b1++[((t0.getD (t7.toNat) (0,0,false,[],())).1,(t0.getD (t7.toNat) (0,0,false,[],())).2.1,(t0.getD (t7.toNat) (0,0,false,[],())).2.2.1,(t0.getD (t7.toNat) (0,0,false,[],())).2.2.2.1,())]))else none)else none)))else none)
  (cond (!t6)
   (if(0:Int)≤t7∧t7<(t0.length:Int)then(
   cond (decide (((t0.getD (t7.toNat) (0,0,false,[],())).1)>AH))
    (if b1.length+1≤Dd then(
    let W3:ABV:=b1++[(AH,AJ,AM,BS,())]
    if(0:Int)≤t7∧t7<(t0.length:Int)then(
    if W3.length+1≤Dd then(
    R4 t0 true (AX (t7+1)) AH AJ AM BS (W3++[((t0.getD (t7.toNat) (0,0,false,[],())).1,(t0.getD (t7.toNat) (0,0,false,[],())).2.1,(t0.getD (t7.toNat) (0,0,false,[],())).2.2.1,(t0.getD (t7.toNat) (0,0,false,[],())).2.2.2.1,())]))else none)else none)else none)
   (if(0:Int)≤t7∧t7<(t0.length:Int)then(
   if b1.length+1≤Dd then(
   R4 t0 t6 (AX (t7+1)) AH AJ AM BS (b1++[((t0.getD (t7.toNat) (0,0,false,[],())).1,(t0.getD (t7.toNat) (0,0,false,[],())).2.1,(t0.getD (t7.toNat) (0,0,false,[],())).2.2.1,(t0.getD (t7.toNat) (0,0,false,[],())).2.2.2.1,())]))else none)else none))else none)
  (if(0:Int)≤t7∧t7<(t0.length:Int)then(
  if b1.length+1≤Dd then(
  R4 t0 t6 (AX (t7+1)) AH AJ AM BS (b1++[((t0.getD (t7.toNat) (0,0,false,[],())).1,(t0.getD (t7.toNat) (0,0,false,[],())).2.1,(t0.getD (t7.toNat) (0,0,false,[],())).2.2.1,(t0.getD (t7.toNat) (0,0,false,[],())).2.2.2.1,())]))else none)else none)))
 (cond (!t6)
  (if b1.length+1≤Dd then(
  some (((),()),((b1++[(AH,AJ,AM,BS,())]),())))else none)
 (some (((),()),(b1,()))))
def HL:Nat→Th
 |0=>fun _ _ _ _ _ _ _ _=>none
 |n+1=>Oi (HL n)
def T_(R4:Th)(p0:ABV)(p1:ADQ):Option QF:=
 R4 p0 false 0 p1.1 p1.2.1 p1.2.2.1 p1.2.2.2.1 []
def NS(p0:ABV)(p1:ADQ):Option QF:=T_ (HL AZ) p0 p1
abbrev Km:Type:=ADX×ADY
abbrev NM:Type:=Int→Int→ABV→ABV→Int→Int→ABV→ABV→Int→ABV→ABV→Option Km
def PN(R5:NM)(t1 t7:Int)(AH AJ:ABV)(AM CS:Int)(b2 b3:ABV)(K9:Int)(b5 b6:ABV):Option Km:=
 cond ((decide (t7<(AJ.length:Int))))
  (if t7<0 then none else(
  cond (((Yo .i64 (t1.fdiv (2^(min t7.toNat 64))) 1)==1))
   (if(0:Int)≤t7∧t7<(AJ.length:Int)then(
   (NS b5 ((AJ.getD (t7.toNat) (0,0,false,[],())).1,(AJ.getD (t7.toNat) (0,0,false,[],())).2.1,(AJ.getD (t7.toNat) (0,0,false,[],())).2.2.1,(AJ.getD (t7.toNat) (0,0,false,[],())).2.2.2.1,())).bind fun u5=>
   R5 t1 (AX (t7+1)) AH AJ AM CS b2 b3 K9 u5.2.1 b6)else none)
  (R5 t1 (AX (t7+1)) AH AJ AM CS b2 b3 K9 b5 b6)))
 ((Be t1 0 1048575).bind fun u6=>
 cond (!u6.1.1)
  ((DQ (AH,AJ,AM,())).bind fun u7=>
  some (((((),(),u7.1.1.2.2.1,()),false,()),()),(u7.2.1,u7.2.2.1,())))
 (cond ((decide ((b5.length:Int)>200)))
  ((DQ (AH,AJ,AM,())).bind fun u9=>
  some (((((),(),u9.1.1.2.2.1,()),false,()),()),(u9.2.1,u9.2.2.1,())))
 (some (((((),(),K9,()),true,()),()),(b5,b6,())))))
def HA:Nat→NM
 |0=>fun _ _ _ _ _ _ _ _ _ _ _=>none
 |n+1=>PN (HA n)
def PK(R5:NM)(p0:AC1)(p1:Int):Option Km:=
 (El (p0.1,p0.2.1,p0.2.2.1,())).bind fun u1=>
 cond (!u1.1.1)
  (some (((((),(),0,()),false,()),()),([],[],())))
 (if 0+p0.1.length≤Dd then(
 R5 p1 0 p0.1 p0.2.1 p0.2.2.1 0 [] [] p0.2.2.1 p0.1 [])else none)
def Js(p0:AC1)(p1:Int):Option Km:=PK (HA AZ) p0 p1
abbrev c_:Type:=ADX×ADY
def HF(p0:AC1):Option c_:=
 (Js (p0.1,p0.2.1,p0.2.2.1,()) 1048575).bind fun u1=>
 some (((((),(),u1.1.1.1.2.2.1,()),u1.1.1.2.1,()),()),(u1.2.1,u1.2.2.1,()))
abbrev Ej:Type:=(AHm×Unit)×Unit
abbrev U6:Type:=ABV→Int→Int→Int→Int→Bool→List UInt8→Option Ej
def Vu(R2:U6)(t0:ABV)(t1 t6 AH AJ:Int)(AM:Bool)(BS:ACu):Option Ej:=
 cond ((decide (t6<(t0.length:Int))))
  (if(0:Int)≤t6∧t6<(t0.length:Int)then(
  cond (((t0.getD (t6.toNat) (0,0,false,[],())).1)==t1)
   (if(0:Int)≤t6∧t6<(t0.length:Int)then(
   some (((((t0.getD (t6.toNat) (0,0,false,[],())).1,(t0.getD (t6.toNat) (0,0,false,[],())).2.1,(t0.getD (t6.toNat) (0,0,false,[],())).2.2.1,(t0.getD (t6.toNat) (0,0,false,[],())).2.2.2.1,()),true,()),()),()))else none)
  (R2 t0 t1 (AX (t6+1)) AH AJ AM BS))else none)
 (some ((((0,0,false,[],()),false,()),()),()))
def Mp:Nat→U6
 |0=>fun _ _ _ _ _ _ _=>none
 |n+1=>Vu (Mp n)
def Vf(R2:U6)(p0:ABV)(p1:Int):Option Ej:=
 R2 p0 p1 0 0 0 false []
def FT(p0:ABV)(p1:Int):Option Ej:=Vf (Mp AZ) p0 p1
abbrev EP:Type:=AHD×AFk
def Cm(p0:ABd)(p1:ACy)(p2 p3:Int):Option EP:=
 (FX (p0.1,p0.2.1,()) (p1.1,p1.2.1,())).bind fun u1=>
 cond (!u1.1.1)
  (some ((((0,(),()),false,()),()),([],())))
 ((C2 (p1.1,p1.2.1,())).bind fun u2=>
 (Be p2 1 (p1.2.1.length:Int)).bind fun u4=>
 cond (!u4.1.1)
  (some ((((u2.1.1.1,(),()),false,()),()),(u2.2.1,())))
 ((Be p3 0 (AX ((p0.1.length:Int)-1))).bind fun u6=>
 cond (!u6.1.1)
  (some ((((u2.1.1.1,(),()),false,()),()),(u2.2.1,())))
 (if(0:Int)≤AX (p2-1)∧AX (p2-1)<(p1.2.1.length:Int)then(
 cond (((p1.2.1.getD ((AX (p2-1)).toNat) ([],[],false,())).2.2.1))
  (some ((((u2.1.1.1,(),()),false,()),()),(u2.2.1,())))
 (if(0:Int)≤AX (p2-1)∧AX (p2-1)<(u2.2.1.length:Int)then(
 (GM ((u2.2.1.getD ((AX (p2-1)).toNat) ([],[],false,())).2.1) p3).bind fun u8=>
 if(0:Int)≤AX (p2-1)∧AX (p2-1)<(u2.2.1.length:Int)then(
 let x9:ACs:=(u2.2.1.set ((AX (p2-1)).toNat) ((u2.2.1.getD ((AX (p2-1)).toNat) ([],[],false,())).1,u8.2.1,(u2.2.1.getD ((AX (p2-1)).toNat) ([],[],false,())).2.2.1,()))
 if(0:Int)≤AX (p2-1)∧AX (p2-1)<(x9.length:Int)then(
 (DU (p0.1,p0.2.1,()) ((x9.getD ((AX (p2-1)).toNat) ([],[],false,())).2.1)).bind fun Hc=>
 if(0:Int)≤AX (p2-1)∧AX (p2-1)<(x9.length:Int)then(
 some ((((u2.1.1.1,(),()),true,()),()),((x9.set ((AX (p2-1)).toNat) ((x9.getD ((AX (p2-1)).toNat) ([],[],false,())).1,(x9.getD ((AX (p2-1)).toNat) ([],[],false,())).2.1,Hc.1.1,())),())))else none)else none)else none)else none))else none)))
abbrev cN:Type:=((Int×Bool×Unit)×Unit)×Unit
def O4(p0 p1:Int):Option cN:=
 (Be p0 1 30).bind fun u1=>
 cond (!u1.1.1)
  (some (((0,false,()),()),()))
 ((Be p1 1 60).bind fun u2=>
 cond (!u2.1.1)
  (some (((0,false,()),()),()))
 (some (((AX ((AX (4294967296*p0))+p1),true,()),()),())))
abbrev ER:Type:=(AHm×Unit)×Unit
def DL(p0:ACp)(p1:Int):Option ER:=
 (O4 p0.2.1 p1).bind fun u1=>
 cond (!p0.2.2.2.2.1)
  (some ((((0,0,false,[],()),false,()),()),()))
 (cond (!u1.1.1.2.1)
  (some ((((0,0,false,[],()),false,()),()),()))
 (cond (decide (p1>(p0.2.2.2.2.2.1.length:Int)))
  (some ((((0,0,false,[],()),false,()),()),()))
 ((FT p0.2.2.2.1 u1.1.1.1).bind fun u3=>
 cond (u3.1.1.2.1)
  (some ((((u1.1.1.1,p0.1,u3.1.1.1.2.2.1,u3.1.1.1.2.2.2.1,()),true,()),()),()))
 (some ((((u1.1.1.1,p0.1,true,[],()),true,()),()),())))))
abbrev Co:Type:=AEb×ADt
def DA(p0:ABd)(p1:ACp)(p2 p3:Int):Option Co:=
 (Gg (p0.1,p0.2.1,()) (p1.1,p1.2.1,p1.2.2.1,p1.2.2.2.1,p1.2.2.2.2.1,p1.2.2.2.2.2.1,())).bind fun u1=>
 cond (!u1.1.1)
  (some ((((0,0,(),(),false,(),()),false,()),()),([],[],[],())))
 ((C3 (p1.1,p1.2.1,p1.2.2.1,p1.2.2.2.1,p1.2.2.2.2.1,p1.2.2.2.2.2.1,())).bind fun u2=>
 (Be p2 1 (p1.2.2.2.2.2.1.length:Int)).bind fun u4=>
 cond (!u4.1.1)
  (some ((((u2.1.1.1,u2.1.1.2.1,(),(),u2.1.1.2.2.2.2.1,(),()),false,()),()),(u2.2.1,u2.2.2.1,u2.2.2.2.1,())))
 ((Be p3 0 (AX ((p0.1.length:Int)-1))).bind fun u6=>
 cond (!u6.1.1)
  (some ((((u2.1.1.1,u2.1.1.2.1,(),(),u2.1.1.2.2.2.2.1,(),()),false,()),()),(u2.2.1,u2.2.2.1,u2.2.2.2.1,())))
 (if(0:Int)≤AX (p2-1)∧AX (p2-1)<(u2.2.2.2.1.length:Int)then(
 (GM (u2.2.2.2.1.getD ((AX (p2-1)).toNat) []) p3).bind fun u7=>
 if(0:Int)≤AX (p2-1)∧AX (p2-1)<(u2.2.2.2.1.length:Int)then(
 some ((((u2.1.1.1,u2.1.1.2.1,(),(),u2.1.1.2.2.2.2.1,(),()),true,()),()),(u2.2.1,u2.2.2.1,(u2.2.2.2.1.set ((AX (p2-1)).toNat) u7.2.1),())))else none)else none)))
abbrev BQ:Type:=AD0×ADR
abbrev GO:Type:=Int→Int→List Int→ABU→List Int→ABK→ABX→ABZ→ABT→ABW→Int→Int→Bool→Int→Int→Bool→List Int→ABU→List Int→ABK→ABX→ABZ→ABT→ABW→ABV→ABV→Int→Option BQ
abbrev GP:Type:=Int→Int→Int→Int→Int→Bool→List Int→ABU→List Int→ABK→ABX→ABZ→ABT→ABW→Int→Int→Bool→Int→Int→Bool→List Int→ABU→List Int→ABK→ABX→ABZ→ABT→ABW→ABV→ABV→Int→Int→ACs→Option BQ
abbrev FR:Type:=Int→Int→Int→Int→Int→Bool→List Int→ABU→List Int→ABK→ABX→ABZ→ABT→ABW→Int→Int→Bool→Int→Int→Bool→List Int→ABU→List Int→ABK→ABX→ABZ→ABT→ABW→ABV→ABV→Int→Int→ACs→Option BQ
abbrev FQ:Type:=Int→Int→List Int→ABU→List Int→ABK→ABX→ABZ→ABT→ABW→Int→Int→Bool→Int→Int→Bool→List Int→ABU→List Int→ABK→ABX→ABZ→ABT→ABW→ABV→ABV→Int→Option BQ
abbrev FM:Type:=Int→Int→Int→List Int→ABU→List Int→ABK→ABX→ABZ→ABT→ABW→Int→Int→Bool→Int→Int→Bool→List Int→ABU→List Int→ABK→ABX→ABZ→ABT→ABW→ABV→ABV→Int→Int→Int→List Int→ABV→Bool→List AAZ→Option BQ
def JR(R3:GO)(R8:GP)(fB:FR)(R21:FQ)(R25:FM)(t1 t6:Int)(b0:AAZ)(b1:ABU)(b2:AAZ)(b3:ABK)(b4:ABX)(b5:ABZ)(b6:ABT)(b7:ABW)(Ci Cp:Int)(Bj:Bool)(Ds EN:Int)(CQ:Bool)(Nd:AAZ)(Ge:ABU)(D2:AAZ)(GJ:ABK)(F8:ABX)(ES:ABZ)(Ey:ABT)(FF:ABW)(B6 CM:ABV)(B8:Int):Option BQ:=
 cond ((decide (t6<(b4.length:Int))))
  (if(0:Int)≤t6∧t6<(b4.length:Int)then(
  (B4 (b3,Cp,()) ((b4.getD (t6.toNat) (0,[],())).1)).bind fun u3=>
  (CG u3.2.1 t1).bind fun u4=>
  cond (!u4.1.1)
   (R3 t1 (AX (t6+1)) b0 b1 b2 b3 b4 b5 b6 b7 Ci Cp Bj Ds EN CQ Nd Ge D2 GJ F8 ES Ey FF B6 CM B8)
  (let x5:Int:=(b4.getD (t6.toNat) (0,[],())).1
  cond (decide (B8≥x5))
   (R3 t1 (AX (t6+1)) b0 b1 b2 b3 b4 b5 b6 b7 Ci Cp Bj Ds EN CQ Nd Ge D2 GJ F8 ES Ey FF B6 CM B8)
  (R8 t1 t6 1 B8 x5 (decide (B8≥x5)) b0 b1 b2 b3 b4 b5 b6 b7 Ci Cp Bj Ds EN CQ Nd Ge D2 GJ F8 ES Ey FF B6 CM B8 ((b4.getD (t6.toNat) (0,[],())).1) ((b4.getD (t6.toNat) (0,[],())).2.1))))else none)
 (R21 t1 0 b0 b1 b2 b3 b4 b5 b6 b7 Ci Cp Bj Ds EN CQ Nd Ge D2 GJ F8 ES Ey FF B6 CM B8)
def Jf(R3:GO)(R8:GP)(fB:FR)(R21:FQ)(R25:FM)(t1 t6 t8 t47 t49:Int)(t50:Bool)(b0:AAZ)(b1:ABU)(b2:AAZ)(b3:ABK)(b4:ABX)(b5:ABZ)(b6:ABT)(b7:ABW)(Ci Cp:Int)(Bj:Bool)(Ds EN:Int)(CQ:Bool)(Nd:AAZ)(Ge:ABU)(D2:AAZ)(GJ:ABK)(F8:ABX)(ES:ABZ)(Ey:ABT)(FF:ABW)(B6 CM:ABV)(B8 C9:Int)(Bq:ACs):Option BQ:=
 cond ((decide (t8≤(Bq.length:Int))))
  ((Bh C9 t8).bind fun u7=>
  (FT B6 u7.1.1).bind fun u8=>
  cond (!u8.1.1.2.1)
   (R8 t1 t6 (AX (t8+1)) t47 t49 t50 b0 b1 b2 b3 b4 b5 b6 b7 Ci Cp Bj Ds EN CQ Nd Ge D2 GJ F8 ES Ey FF B6 CM B8 C9 Bq)
  (cond (u8.1.1.1.2.1 !=0)
   (R8 t1 t6 (AX (t8+1)) t47 t49 t50 b0 b1 b2 b3 b4 b5 b6 b7 Ci Cp Bj Ds EN CQ Nd Ge D2 GJ F8 ES Ey FF B6 CM B8 C9 Bq)
  (if(0:Int)≤AX (t8-1)∧AX (t8-1)<(Bq.length:Int)then(
  cond (((Bq.getD ((AX (t8-1)).toNat) ([],[],false,())).2.2.1))
   (R8 t1 t6 (AX (t8+1)) t47 t49 t50 b0 b1 b2 b3 b4 b5 b6 b7 Ci Cp Bj Ds EN CQ Nd Ge D2 GJ F8 ES Ey FF B6 CM B8 C9 Bq)
  ((Cm (b0,Ci,()) (C9,Bq,()) t8 t1).bind fun Hc=>
  R8 t1 t6 (AX (t8+1)) t47 t49 t50 b0 b1 b2 b3 b4 b5 b6 b7 Ci Cp Bj Ds EN CQ Nd Ge D2 GJ F8 ES Ey FF B6 CM B8 Hc.1.1.1.1 Hc.2.1))else none)))
 (if(0:Int)≤t6∧t6<(b4.length:Int)then(
 fB t1 t6 0 t47 t49 t50 b0 b1 b2 b3 (b4.set (t6.toNat) (C9,Bq,())) b5 b6 b7 Ci Cp Bj Ds EN CQ Nd Ge D2 GJ F8 ES Ey FF B6 CM B8 C9 Bq)else none)
def Ic(R3:GO)(R8:GP)(fB:FR)(R21:FQ)(R25:FM)(t1 t6 t11 t47 t49:Int)(t50:Bool)(b0:AAZ)(b1:ABU)(b2:AAZ)(b3:ABK)(b4:ABX)(b5:ABZ)(b6:ABT)(b7:ABW)(Ci Cp:Int)(Bj:Bool)(Ds EN:Int)(CQ:Bool)(Nd:AAZ)(Ge:ABU)(D2:AAZ)(GJ:ABK)(F8:ABX)(ES:ABZ)(Ey:ABT)(FF:ABW)(B6 CM:ABV)(B8 C9:Int)(Bq:ACs):Option BQ:=
 cond ((decide (t11<(b7.length:Int))))
  (if(0:Int)≤t11∧t11<(b7.length:Int)then(
  let x65:Int:=(b7.getD (t11.toNat) (0,[],false,())).1
  (B_ x65).bind fun u66=>
  cond (u66.1.1==C9)
   ((FP x65).bind fun u67=>
   cond ((decide (u67.1.1≤(Bq.length:Int))))
    ((FP x65).bind fun u69=>
    if(0:Int)≤AX (u69.1.1-1)∧AX (u69.1.1-1)<(Bq.length:Int)then(
    cond (((Bq.getD ((AX (u69.1.1-1)).toNat) ([],[],false,())).2.2.1))
     (if(0:Int)≤t11∧t11<(b7.length:Int)then(
     fB t1 t6 (AX (t11+1)) t47 t49 t50 b0 b1 b2 b3 b4 b5 b6 (b7.set (t11.toNat) ((b7.getD (t11.toNat) (0,[],false,())).1,(b7.getD (t11.toNat) (0,[],false,())).2.1,true,())) Ci Cp Bj Ds EN CQ Nd Ge D2 GJ F8 ES Ey FF B6 CM B8 C9 Bq)else none)
    (fB t1 t6 (AX (t11+1)) t47 t49 t50 b0 b1 b2 b3 b4 b5 b6 b7 Ci Cp Bj Ds EN CQ Nd Ge D2 GJ F8 ES Ey FF B6 CM B8 C9 Bq))else none)
   (fB t1 t6 (AX (t11+1)) t47 t49 t50 b0 b1 b2 b3 b4 b5 b6 b7 Ci Cp Bj Ds EN CQ Nd Ge D2 GJ F8 ES Ey FF B6 CM B8 C9 Bq))
  (fB t1 t6 (AX (t11+1)) t47 t49 t50 b0 b1 b2 b3 b4 b5 b6 b7 Ci Cp Bj Ds EN CQ Nd Ge D2 GJ F8 ES Ey FF B6 CM B8 C9 Bq))else none)
 (R3 t1 (AX (t6+1)) b0 b1 b2 b3 b4 b5 b6 b7 Ci Cp Bj Ds EN CQ Nd Ge D2 GJ F8 ES Ey FF B6 CM B8)
def IY(R3:GO)(R8:GP)(fB:FR)(R21:FQ)(R25:FM)(t1 t13:Int)(b0:AAZ)(b1:ABU)(b2:AAZ)(b3:ABK)(b4:ABX)(b5:ABZ)(b6:ABT)(b7:ABW)(Ci Cp:Int)(Bj:Bool)(Ds EN:Int)(CQ:Bool)(Nd:AAZ)(Ge:ABU)(D2:AAZ)(GJ:ABK)(F8:ABX)(ES:ABZ)(Ey:ABT)(FF:ABW)(B6 CM:ABV)(B8:Int):Option BQ:=
 cond ((decide (t13<(b5.length:Int))))
  (if(0:Int)≤t13∧t13<(b5.length:Int)then(
  R25 t1 t13 1 b0 b1 b2 b3 b4 b5 b6 b7 Ci Cp Bj Ds EN CQ Nd Ge D2 GJ F8 ES Ey FF B6 CM B8 ((b5.getD (t13.toNat) (0,0,[],[],false,[],())).1) ((b5.getD (t13.toNat) (0,0,[],[],false,[],())).2.1) ((b5.getD (t13.toNat) (0,0,[],[],false,[],())).2.2.1) ((b5.getD (t13.toNat) (0,0,[],[],false,[],())).2.2.2.1) ((b5.getD (t13.toNat) (0,0,[],[],false,[],())).2.2.2.2.1) ((b5.getD (t13.toNat) (0,0,[],[],false,[],())).2.2.2.2.2.1))else none)
 (some ((((),Ci,(),(),(),Cp,(),(),(),(),Bj,()),()),(b0,b1,b2,b3,b4,b5,b6,b7,())))
def GS(R3:GO)(R8:GP)(fB:FR)(R21:FQ)(R25:FM)(t1 t13 t15:Int)(b0:AAZ)(b1:ABU)(b2:AAZ)(b3:ABK)(b4:ABX)(b5:ABZ)(b6:ABT)(b7:ABW)(Ci Cp:Int)(Bj:Bool)(Ds EN:Int)(CQ:Bool)(Nd:AAZ)(Ge:ABU)(D2:AAZ)(GJ:ABK)(F8:ABX)(ES:ABZ)(Ey:ABT)(FF:ABW)(B6 CM:ABV)(B8 C9 Bq:Int)(Va:AAZ)(Vp:ABV)(Vb:Bool)(Q8:List AAZ):Option BQ:=
 if(0:Int)≤t13∧t13<(b5.length:Int)then(
 cond (decide (t15≤(((b5.getD (t13.toNat) (0,0,[],[],false,[],())).2.2.2.2.2.1).length:Int)))
  ((B4 (b3,Cp,()) Bq).bind fun u74=>
  (CG u74.2.1 t1).bind fun u75=>
  cond (u75.1.1)
   ((DL (C9,Bq,Va,Vp,Vb,Q8,()) t15).bind fun tT=>
   (FT B6 tT.1.1.1.1).bind fun uL=>
   cond (uL.1.1.2.1)
    (cond (((uL.1.1.1.1==tT.1.1.1.1)&&((uL.1.1.1.2.1==tT.1.1.1.2.1)&&((uL.1.1.1.2.2.1==tT.1.1.1.2.2.1)&&((uL.1.1.1.2.2.2.1==tT.1.1.1.2.2.2.1)&&true)))))
     ((DA (b0,Ci,()) (C9,Bq,Va,Vp,Vb,Q8,()) t15 t1).bind fun rI=>
     R25 t1 t13 (AX (t15+1)) b0 b1 b2 b3 b4 b5 b6 b7 Ci Cp Bj Ds EN CQ Nd Ge D2 GJ F8 ES Ey FF B6 CM B8 rI.1.1.1.1 rI.1.1.1.2.1 rI.2.1 rI.2.2.1 rI.1.1.1.2.2.2.2.1 rI.2.2.2.1)
    (R25 t1 t13 (AX (t15+1)) b0 b1 b2 b3 b4 b5 b6 b7 Ci Cp Bj Ds EN CQ Nd Ge D2 GJ F8 ES Ey FF B6 CM B8 C9 Bq Va Vp Vb Q8))
   (R25 t1 t13 (AX (t15+1)) b0 b1 b2 b3 b4 b5 b6 b7 Ci Cp Bj Ds EN CQ Nd Ge D2 GJ F8 ES Ey FF B6 CM B8 C9 Bq Va Vp Vb Q8))
  (if(0:Int)≤t13∧t13<(b5.length:Int)then(
  R21 t1 (AX (t13+1)) b0 b1 b2 b3 b4 (b5.set (t13.toNat) (C9,Bq,Va,Vp,Vb,Q8,())) b6 b7 Ci Cp Bj Ds EN CQ Nd Ge D2 GJ F8 ES Ey FF B6 CM B8)else none))
 (if(0:Int)≤t13∧t13<(b5.length:Int)then(
 R21 t1 (AX (t13+1)) b0 b1 b2 b3 b4 (b5.set (t13.toNat) (C9,Bq,Va,Vp,Vb,Q8,())) b6 b7 Ci Cp Bj Ds EN CQ Nd Ge D2 GJ F8 ES Ey FF B6 CM B8)else none))else none
mutual
def BD:Nat→GO
 |0=>fun _ _ _ _ _ _ _ _ _ _ _ _ _ _ _ _ _ _ _ _ _ _ _ _ _ _ _=>none
 |n+1=>JR (BD n) (An n) (Aq n) (BG n) (A9 n)
def An:Nat→GP
 |0=>fun _ _ _ _ _ _ _ _ _ _ _ _ _ _ _ _ _ _ _ _ _ _ _ _ _ _ _ _ _ _ _ _ _=>none
 |n+1=>Jf (BD n) (An n) (Aq n) (BG n) (A9 n)
def Aq:Nat→FR
 |0=>fun _ _ _ _ _ _ _ _ _ _ _ _ _ _ _ _ _ _ _ _ _ _ _ _ _ _ _ _ _ _ _ _ _=>none
 |n+1=>Ic (BD n) (An n) (Aq n) (BG n) (A9 n)
def BG:Nat→FQ
 |0=>fun _ _ _ _ _ _ _ _ _ _ _ _ _ _ _ _ _ _ _ _ _ _ _ _ _ _ _=>none
 |n+1=>IY (BD n) (An n) (Aq n) (BG n) (A9 n)
def A9:Nat→FM
 |0=>fun _ _ _ _ _ _ _ _ _ _ _ _ _ _ _ _ _ _ _ _ _ _ _ _ _ _ _ _ _ _ _ _ _ _=>none
 |n+1=>GS (BD n) (An n) (Aq n) (BG n) (A9 n)
end
def NB(R3:GO)(R8:GP)(fB:FR)(R21:FQ)(R25:FM)(Bk Bn:Int)(Az:Bool)(p1:Int)(b0:AAZ)(b1:ABU)(b2:AAZ)(b3:ABK)(b4:ABX)(b5:ABZ)(b6:ABT)(b7:ABW):Option BQ:=
 if(0:Int)≤p1∧p1<(b1.length:Int)then(
 R3 p1 0 b0 b1 b2 b3 b4 b5 b6 b7 Bk Bn Az 0 0 false [] [] [] [] [] [] [] [] ((b1.getD (p1.toNat) ([],[],0,())).1) ((b1.getD (p1.toNat) ([],[],0,())).2.1) ((b1.getD (p1.toNat) ([],[],0,())).2.2.1))else none
def Ry(Bk Bn:Int)(Az:Bool)(p1:Int)(b0:AAZ)(b1:ABU)(b2:AAZ)(b3:ABK)(b4:ABX)(b5:ABZ)(b6:ABT)(b7:ABW):Option BQ:=NB (BD AZ) (An AZ) (Aq AZ) (BG AZ) (A9 AZ) Bk Bn Az p1 b0 b1 b2 b3 b4 b5 b6 b7
abbrev gD:Type:=ADK×ADR
def SH(Bk Bn:Int)(Az:Bool)(p1:AC3)(b0:AAZ)(b1:ABU)(b2:AAZ)(b3:ABK)(b4:ABX)(b5:ABZ)(b6:ABT)(b7:ABW):Option gD:=
 (FW (b0,Bk,b1,b2,b3,Bn,b4,b5,b6,b7,Az,()) p1.2.1).bind fun u1=>
 cond (u1.1.1 !=0)
  (some (((((),Bk,(),(),(),Bn,(),(),(),(),Az,()),u1.1.1,()),()),(b0,b1,b2,b3,b4,b5,b6,b7,())))
 (if(0:Int)≤p1.2.1∧p1.2.1<(b1.length:Int)then(
 (HF ((b1.getD (p1.2.1.toNat) ([],[],0,())).1,(b1.getD (p1.2.1.toNat) ([],[],0,())).2.1,(b1.getD (p1.2.1.toNat) ([],[],0,())).2.2.1,())).bind fun u2=>
 cond (!u2.1.1.2.1)
  (some (((((),Bk,(),(),(),Bn,(),(),(),(),Az,()),4,()),()),(b0,b1,b2,b3,b4,b5,b6,b7,())))
 (if(0:Int)≤p1.2.1∧p1.2.1<(b1.length:Int)then(
 (Ry Bk Bn Az p1.2.1 b0 (b1.set (p1.2.1.toNat) (u2.2.1,u2.2.2.1,u2.1.1.1.2.2.1,())) b2 b3 b4 b5 b6 b7).bind fun u4=>
 some (((((),u4.1.1.2.1,(),(),(),u4.1.1.2.2.2.2.2.1,(),(),(),(),u4.1.1.2.2.2.2.2.2.2.2.2.2.1,()),0,()),()),(u4.2.1,u4.2.2.1,u4.2.2.2.1,u4.2.2.2.2.1,u4.2.2.2.2.2.1,u4.2.2.2.2.2.2.1,u4.2.2.2.2.2.2.2.1,u4.2.2.2.2.2.2.2.2.1,())))else none))else none)
abbrev QI:Type:=AC8×AC7
abbrev TO:Type:=List Int→List Int→Int→List Int→Option QI
def Ue(R3:TO)(t0 t1:AAZ)(t6:Int)(b0:AAZ):Option QI:=
 cond ((decide (t6<(t0.length:Int))))
  (if(0:Int)≤t6∧t6<(t0.length:Int)then(
  (CG t1 (t0.getD (t6.toNat) 0)).bind fun u3=>
  cond (!u3.1.1)
   (if(0:Int)≤t6∧t6<(t0.length:Int)then(
   if b0.length+1≤Dd then(
   R3 t0 t1 (AX (t6+1)) (b0++[(t0.getD (t6.toNat) 0)]))else none)else none)
  (R3 t0 t1 (AX (t6+1)) b0))else none)
 (some (((),()),(b0,())))
def LL:Nat→TO
 |0=>fun _ _ _ _=>none
 |n+1=>Ue (LL n)
def UA(R3:TO)(p0 p1:AAZ):Option QI:=
 R3 p0 p1 0 []
def Gq(p0 p1:AAZ):Option QI:=UA (LL AZ) p0 p1
abbrev Ib:Type:=AHD×AFk
abbrev LR:Type:=Int→Int→Int→ACs→Int→ACs→Option Ib
def NU(R5:LR)(t2 t9 AH:Int)(b1:ACs)(Gw:Int)(b3:ACs):Option Ib:=
 cond ((decide (t9<(b3.length:Int))))
  (if(0:Int)≤t9∧t9<(b3.length:Int)then(
  cond (!((b3.getD (t9.toNat) ([],[],false,())).2.2.1))
   (if(0:Int)≤t9∧t9<(b3.length:Int)then(
   (Gq ((b3.getD (t9.toNat) ([],[],false,())).2.1) [t2]).bind fun u5=>
   if(0:Int)≤t9∧t9<(b3.length:Int)then(
   R5 t2 (AX (t9+1)) AH b1 Gw (b3.set (t9.toNat) ((b3.getD (t9.toNat) ([],[],false,())).1,u5.2.1,(b3.getD (t9.toNat) ([],[],false,())).2.2.1,())))else none)else none)
  (R5 t2 (AX (t9+1)) AH b1 Gw b3))else none)
 (some ((((Gw,(),()),true,()),()),(b3,())))
def F4:Nat→LR
 |0=>fun _ _ _ _ _ _=>none
 |n+1=>NU (F4 n)
def Nl(R5:LR)(p0:ABd)(p1:ACy)(p2:Int):Option Ib:=
 (FX (p0.1,p0.2.1,()) (p1.1,p1.2.1,())).bind fun u1=>
 cond (!u1.1.1)
  (some ((((0,(),()),false,()),()),([],())))
 ((C2 (p1.1,p1.2.1,())).bind fun u2=>
 R5 p2 0 0 [] u2.1.1.1 u2.2.1)
def Kr(p0:ABd)(p1:ACy)(p2:Int):Option Ib:=Nl (F4 AZ) p0 p1 p2
abbrev Kq:Type:=AEb×ADt
abbrev ND:Type:=Int→Int→Int→Int→Bool→List Int→ABV→List AAZ→Int→Int→Bool→List Int→ABV→List AAZ→Option Kq
def PR(R5:ND)(t2 t9 AH AJ:Int)(Bi:Bool)(b1:AAZ)(b2:ABV)(b3:List AAZ)(mm jg:Int)(AKA:Bool)(b5:AAZ)(b6:ABV)(b7:List AAZ):Option Kq:=
 cond ((decide (t9<(b7.length:Int))))
  (if(0:Int)≤t9∧t9<(b7.length:Int)then(
  (Gq (b7.getD (t9.toNat) []) [t2]).bind fun u4=>
  if(0:Int)≤t9∧t9<(b7.length:Int)then(
  R5 t2 (AX (t9+1)) AH AJ Bi b1 b2 b3 mm jg AKA b5 b6 (b7.set (t9.toNat) u4.2.1))else none)else none)
 (some ((((mm,jg,(),(),AKA,(),()),true,()),()),(b5,b6,b7,())))
def HS:Nat→ND
 |0=>fun _ _ _ _ _ _ _ _ _ _ _ _ _ _=>none
 |n+1=>PR (HS n)
def PU(R5:ND)(p0:ABd)(p1:ACp)(p2:Int):Option Kq:=
 (Gg (p0.1,p0.2.1,()) (p1.1,p1.2.1,p1.2.2.1,p1.2.2.2.1,p1.2.2.2.2.1,p1.2.2.2.2.2.1,())).bind fun u1=>
 cond (!u1.1.1)
  (some ((((0,0,(),(),false,(),()),false,()),()),([],[],[],())))
 ((C3 (p1.1,p1.2.1,p1.2.2.1,p1.2.2.2.1,p1.2.2.2.2.1,p1.2.2.2.2.2.1,())).bind fun u2=>
 R5 p2 0 0 0 false [] [] [] u2.1.1.1 u2.1.1.2.1 u2.1.1.2.2.2.2.1 u2.2.1 u2.2.2.1 u2.2.2.2.1)
def M1(p0:ABd)(p1:ACp)(p2:Int):Option Kq:=PU (HS AZ) p0 p1 p2
abbrev HM:Type:=ADK×AHr
abbrev Mz:Type:=Int→List Int→ABU→List Int→ABK→ABX→ABZ→ABT→ABW→Int→Int→Bool→List Int→Int→Int→Int→Int→List UInt8→Int→Int→Bool→List Int→ABU→List Int→ABK→ABX→ABZ→ABT→ABW→Option HM
abbrev Lx:Type:=Int→List Int→ABU→List Int→ABK→ABX→ABZ→ABT→ABW→Int→Int→Bool→List Int→Int→Int→Int→Int→List UInt8→Int→Int→Bool→List Int→ABU→List Int→ABK→ABX→ABZ→ABT→ABW→Option HM
def Ts(R7:Mz)(jy:Lx)(t7:Int)(b0:AAZ)(b1:ABU)(b2:AAZ)(b3:ABK)(b4:ABX)(b5:ABZ)(b6:ABT)(b7:ABW)(Ci Cp:Int)(Bj:Bool)(b9:AAZ)(qJ Dx pz p9:Int)(qS:ACu)(qT qc:Int)(ln:Bool)(D2:AAZ)(GJ:ABU)(F8:AAZ)(ES:ABK)(Ey:ABX)(FF:ABZ)(VZ:ABT)(lG:ABW):Option HM:=
 cond ((decide (t7<(b4.length:Int))))
  (if(0:Int)≤t7∧t7<(b4.length:Int)then(
  (Kr (b0,Ci,()) ((b4.getD (t7.toNat) (0,[],())).1,(b4.getD (t7.toNat) (0,[],())).2.1,()) Dx).bind fun u5=>
  if(0:Int)≤t7∧t7<(b4.length:Int)then(
  R7 (AX (t7+1)) b0 b1 b2 b3 (b4.set (t7.toNat) (u5.1.1.1.1,u5.2.1,())) b5 b6 b7 Ci Cp Bj b9 qJ Dx pz p9 qS qT qc ln D2 GJ F8 ES Ey FF VZ lG)else none)else none)
 (jy 0 b0 b1 b2 b3 b4 b5 b6 b7 Ci Cp Bj b9 qJ Dx pz p9 qS qT qc ln D2 GJ F8 ES Ey FF VZ lG)
def Rm(R7:Mz)(jy:Lx)(t8:Int)(b0:AAZ)(b1:ABU)(b2:AAZ)(b3:ABK)(b4:ABX)(b5:ABZ)(b6:ABT)(b7:ABW)(Ci Cp:Int)(Bj:Bool)(b9:AAZ)(qJ Dx pz p9:Int)(qS:ACu)(qT qc:Int)(ln:Bool)(D2:AAZ)(GJ:ABU)(F8:AAZ)(ES:ABK)(Ey:ABX)(FF:ABZ)(VZ:ABT)(lG:ABW):Option HM:=
 cond ((decide (t8<(b5.length:Int))))
  (if(0:Int)≤t8∧t8<(b5.length:Int)then(
  (M1 (b0,Ci,()) ((b5.getD (t8.toNat) (0,0,[],[],false,[],())).1,(b5.getD (t8.toNat) (0,0,[],[],false,[],())).2.1,(b5.getD (t8.toNat) (0,0,[],[],false,[],())).2.2.1,(b5.getD (t8.toNat) (0,0,[],[],false,[],())).2.2.2.1,(b5.getD (t8.toNat) (0,0,[],[],false,[],())).2.2.2.2.1,(b5.getD (t8.toNat) (0,0,[],[],false,[],())).2.2.2.2.2.1,()) Dx).bind fun u8=>
  if(0:Int)≤t8∧t8<(b5.length:Int)then(
  jy (AX (t8+1)) b0 b1 b2 b3 b4 (b5.set (t8.toNat) (u8.1.1.1.1,u8.1.1.1.2.1,u8.2.1,u8.2.2.1,u8.1.1.1.2.2.2.2.1,u8.2.2.2.1,())) b6 b7 Ci Cp Bj b9 qJ Dx pz p9 qS qT qc ln D2 GJ F8 ES Ey FF VZ lG)else none)else none)
 (cond (Bj)
  (some (((((),Ci,(),(),(),Cp,(),(),(),(),true,()),0,()),()),(b0,b1,(),b3,b4,b5,b6,b7,b9,())))
 ((DU (b0,Ci,()) b9).bind fun Hc=>
 some (((((),Ci,(),(),(),Cp,(),(),(),(),Hc.1.1,()),0,()),()),(b0,b1,(),b3,b4,b5,b6,b7,b9,()))))
mutual
def Hs:Nat→Mz
 |0=>fun _ _ _ _ _ _ _ _ _ _ _ _ _ _ _ _ _ _ _ _ _ _ _ _ _ _ _ _ _=>none
 |n+1=>Ts (Hs n) (G8 n)
def G8:Nat→Lx
 |0=>fun _ _ _ _ _ _ _ _ _ _ _ _ _ _ _ _ _ _ _ _ _ _ _ _ _ _ _ _ _=>none
 |n+1=>Rm (Hs n) (G8 n)
end
def TM(R7:Mz)(jy:Lx)(Bk Bn:Int)(Az:Bool)(p1:AC3)(b0:AAZ)(b1:ABU)(b2:AAZ)(b3:ABK)(b4:ABX)(b5:ABZ)(b6:ABT)(b7:ABW):Option HM:=
 (FW (b0,Bk,b1,b2,b3,Bn,b4,b5,b6,b7,Az,()) p1.2.1).bind fun u1=>
 cond (u1.1.1 !=0)
  (some (((((),Bk,(),(),(),Bn,(),(),(),(),Az,()),u1.1.1,()),()),(b0,b1,(),b3,b4,b5,b6,b7,b2,())))
 (if(0:Int)≤p1.2.1∧p1.2.1<(b1.length:Int)then(
 (GM b2 p1.2.1).bind fun u3=>
 R7 0 b0 (b1.set (p1.2.1.toNat) ([],[],0,())) b2 b3 b4 b5 b6 b7 Bk Bn Az u3.2.1 p1.1 p1.2.1 p1.2.2.1 p1.2.2.2.1 p1.2.2.2.2.1 0 0 false [] [] [] [] [] [] [] [])else none)
def Sh(Bk Bn:Int)(Az:Bool)(p1:AC3)(b0:AAZ)(b1:ABU)(b2:AAZ)(b3:ABK)(b4:ABX)(b5:ABZ)(b6:ABT)(b7:ABW):Option HM:=TM (Hs AZ) (G8 AZ) Bk Bn Az p1 b0 b1 b2 b3 b4 b5 b6 b7
abbrev jO:Type:=ACR×Unit
def UX(p0:ABd)(p1:AAZ):Option jO:=
 (Eg (p0.1,p0.2.1,()) p1).bind fun u1=>
 cond (u1.1.1)
  ((DU (p0.1,p0.2.1,()) p1).bind fun u2=>
  some ((!u2.1.1,()),()))
 (some ((false,()),()))
abbrev Hh:Type:=AC8×AGl
abbrev L2:Type:=ABU→Int→ABV→Option Hh
abbrev L3:Type:=ABU→Int→Int→ABV→Option Hh
def RX(R3:L2)(R6:L3)(t0:ABU)(t4:Int)(b0:ABV):Option Hh:=
 cond ((decide (t4<(t0.length:Int))))
  (R6 t0 t4 0 b0)
 (some (((),()),(b0,())))
def Rq(R3:L2)(R6:L3)(t0:ABU)(t4 t5:Int)(b0:ABV):Option Hh:=
 if(0:Int)≤t4∧t4<(t0.length:Int)then(
 cond (decide (t5<(((t0.getD (t4.toNat) ([],[],0,())).1).length:Int)))
  (if(0:Int)≤t4∧t4<(t0.length:Int)then(
  if(0:Int)≤t5∧t5<(((t0.getD (t4.toNat) ([],[],0,())).1).length:Int)then(
  (NS b0 ((((t0.getD (t4.toNat) ([],[],0,())).1).getD (t5.toNat) (0,0,false,[],())).1,(((t0.getD (t4.toNat) ([],[],0,())).1).getD (t5.toNat) (0,0,false,[],())).2.1,(((t0.getD (t4.toNat) ([],[],0,())).1).getD (t5.toNat) (0,0,false,[],())).2.2.1,(((t0.getD (t4.toNat) ([],[],0,())).1).getD (t5.toNat) (0,0,false,[],())).2.2.2.1,())).bind fun u3=>
  R6 t0 t4 (AX (t5+1)) u3.2.1)else none)else none)
 (R3 t0 (AX (t4+1)) b0))else none
mutual
def G4:Nat→L2
 |0=>fun _ _ _=>none
 |n+1=>RX (G4 n) (Gt n)
def Gt:Nat→L3
 |0=>fun _ _ _ _=>none
 |n+1=>Rq (G4 n) (Gt n)
end
def Yn(R3:L2)(R6:L3)(p0:ABU):Option Hh:=
 R3 p0 0 []
def VF(p0:ABU):Option Hh:=Yn (G4 AZ) (Gt AZ) p0
abbrev K5:Type:=ADX×(ABU×ABV×ABV×Unit)
abbrev SC:Type:=List Int→Int→Int→ABU→Int→ABV→ABV→Int→ABV→ABV→ABU→Option K5
abbrev QL:Type:=Int→Int→ABU→Int→ABV→ABV→Int→ABV→ABV→ABU→Option K5
def W7(R6:SC)(jy:QL)(t2:AAZ)(t4 t14:Int)(b0:ABU)(CS:Int)(b2 b3:ABV)(K9:Int)(b5 b6:ABV)(b7:ABU):Option K5:=
 cond ((decide (t14<(b0.length:Int))))
  ((CG t2 t14).bind fun u6=>
  cond (!u6.1.1)
   (if(0:Int)≤t14∧t14<(b0.length:Int)then(
   if b7.length+1≤Dd then(
   R6 t2 t4 (AX (t14+1)) b0 CS b2 b3 K9 b5 b6 (b7++[((b0.getD (t14.toNat) ([],[],0,())).1,(b0.getD (t14.toNat) ([],[],0,())).2.1,(b0.getD (t14.toNat) ([],[],0,())).2.2.1,())]))else none)else none)
  (R6 t2 t4 (AX (t14+1)) b0 CS b2 b3 K9 b5 b6 b7))
 (jy t4 0 b0 CS b2 b3 K9 b5 b6 b7)
def VW(R6:SC)(jy:QL)(t4 t15:Int)(b0:ABU)(CS:Int)(b2 b3:ABV)(K9:Int)(b5 b6:ABV)(b7:ABU):Option K5:=
 cond ((decide (t15<(b7.length:Int))))
  (if(0:Int)≤t15∧t15<(b7.length:Int)then(
  (El ((b7.getD (t15.toNat) ([],[],0,())).1,(b7.getD (t15.toNat) ([],[],0,())).2.1,(b7.getD (t15.toNat) ([],[],0,())).2.2.1,())).bind fun u9=>
  cond (!u9.1.1)
   (some (((((),(),K9,()),false,()),()),(b0,b5,b6,())))
  (jy t4 (AX (t15+1)) b0 CS b2 b3 K9 b5 b6 b7))else none)
 ((VF b7).bind fun Hc=>
 (El (Hc.2.1,[],t4,())).bind fun QE=>
 cond (!QE.1.1)
  (some (((((),(),K9,()),false,()),()),(b0,b5,b6,())))
 (some (((((),(),t4,()),true,()),()),(b0,Hc.2.1,[],()))))
mutual
def MA:Nat→SC
 |0=>fun _ _ _ _ _ _ _ _ _ _ _=>none
 |n+1=>W7 (MA n) (J7 n)
def J7:Nat→QL
 |0=>fun _ _ _ _ _ _ _ _ _ _=>none
 |n+1=>VW (MA n) (J7 n)
end
def XD(R6:SC)(jy:QL)(p0:ABd)(p2:AAZ)(p3 p4:Int)(b0:ABU):Option K5:=
 (Ec (p0.1,p0.2.1,())).bind fun u1=>
 cond (!u1.1.1)
  (some (((((),(),0,()),false,()),()),(b0,[],[],())))
 (cond (((b0.length:Int) !=(p0.1.length:Int)))
  (some (((((),(),0,()),false,()),()),(b0,[],[],())))
 ((UX (p0.1,p0.2.1,()) p2).bind fun u3=>
 cond (!u3.1.1)
  (some (((((),(),0,()),false,()),()),(b0,[],[],())))
 ((CG p2 p3).bind fun u4=>
 cond (!u4.1.1)
  (some (((((),(),0,()),false,()),()),(b0,[],[],())))
 (R6 p2 p4 0 b0 0 [] [] 0 [] [] []))))
def YO(p0:ABd)(p2:AAZ)(p3 p4:Int)(b0:ABU):Option K5:=XD (MA AZ) (J7 AZ) p0 p2 p3 p4 b0
abbrev gb:Type:=ADK×AHr
def SE(Bk Bn:Int)(Az:Bool)(p1:AC3)(b0:AAZ)(b1:ABU)(b2:AAZ)(b3:ABK)(b4:ABX)(b5:ABZ)(b6:ABT)(b7:ABW):Option gb:=
 (CG b2 p1.2.1).bind fun u1=>
 cond (!u1.1.1)
  (some (((((),Bk,(),(),(),Bn,(),(),(),(),Az,()),2,()),()),(b0,b1,(),b3,b4,b5,b6,b7,b2,())))
 ((Dk (AX ((b3.length:Int)-1)) 0).bind fun u3=>
 (YO (b0,Bk,()) b2 p1.2.1 u3.1.1 b1).bind fun u4=>
 cond (!u4.1.1.2.1)
  (some (((((),Bk,(),(),(),Bn,(),(),(),(),Az,()),4,()),()),(b0,u4.2.1,(),b3,b4,b5,b6,b7,b2,())))
 (if(0:Int)≤p1.2.1∧p1.2.1<(u4.2.1.length:Int)then(
 (Gq b2 [p1.2.1]).bind fun u6=>
 some (((((),Bk,(),(),(),Bn,(),(),(),(),Az,()),0,()),()),(b0,(u4.2.1.set (p1.2.1.toNat) (u4.2.2.1,u4.2.2.2.1,u4.1.1.1.2.2.1,())),(),b3,b4,b5,b6,b7,u6.2.1,())))else none))
abbrev I1:Type:=ADd×ADt
def Jl(p0 p1:Int):Option I1:=
 some (((p1,p0,(),(),false,(),()),()),([],[],[],()))
abbrev X4:Type:=ADK×(List Int×ABU×List Int×ABK×ABX×Unit×ABT×ABW×ABZ×Unit)
def Sa(Bk Bn:Int)(Az:Bool)(b0:AAZ)(b1:ABU)(b2:AAZ)(b3:ABK)(b4:ABX)(b5:ABZ)(b6:ABT)(b7:ABW):Option X4:=
 (HC (b3,Bn,())).bind fun u1=>
 cond ((decide ((b3.length:Int)<2)))
  (some (((((),Bk,(),(),(),Bn,(),(),(),(),Az,()),2,()),()),(b0,b1,b2,b3,b4,(),b6,b7,b5,())))
 (cond ((u1.1.1==(b3.length:Int)))
  (some (((((),Bk,(),(),(),Bn,(),(),(),(),Az,()),2,()),()),(b0,b1,b2,b3,b4,(),b6,b7,b5,())))
 (cond ((decide ((b5.length:Int)>0)))
  (some (((((),Bk,(),(),(),Bn,(),(),(),(),Az,()),4,()),()),(b0,b1,b2,b3,b4,(),b6,b7,b5,())))
 ((Jl u1.1.1 (b3.length:Int)).bind fun u5=>
 some (((((),Bk,(),(),(),Bn,(),(),(),(),Az,()),0,()),()),(b0,b1,b2,b3,b4,(),b6,b7,[(u5.1.1.1,u5.1.1.2.1,u5.2.1,u5.2.2.1,u5.1.1.2.2.2.2.1,u5.2.2.2.1,())],())))))
abbrev cb:Type:=ADX×ADY
def LW(p0:AC1)(p1:Int):Option cb:=
 (El (p0.1,p0.2.1,p0.2.2.1,())).bind fun u1=>
 cond (!u1.1.1)
  (some (((((),(),0,()),false,()),()),([],[],())))
 ((HF (p0.1,p0.2.1,p0.2.2.1,())).bind fun u2=>
 cond (!u2.1.1.2.1)
  ((DQ (p0.1,p0.2.1,p0.2.2.1,())).bind fun u3=>
  some (((((),(),u3.1.1.2.2.1,()),false,()),()),(u3.2.1,u3.2.2.1,())))
 ((Be p1 0 30).bind fun u4=>
 cond (!u4.1.1)
  ((DQ (p0.1,p0.2.1,p0.2.2.1,())).bind fun u5=>
  some (((((),(),u5.1.1.2.2.1,()),false,()),()),(u5.2.1,u5.2.2.1,())))
 ((Dk u2.1.1.1.2.2.1 p1).bind fun u6=>
 some (((((),(),u6.1.1,()),true,()),()),(u2.2.1,u2.2.2.1,())))))
abbrev D7:Type:=AC8×AGl
abbrev Pp:Type:=Int→Int→ABV→ABV→Int→ABV→Option D7
def MP(R3:Pp)(t1 t6:Int)(AH AJ:ABV)(AM:Int)(b1:ABV):Option D7:=
 cond ((decide (t6<(AH.length:Int))))
  ((El (AH,AJ,AM,())).bind fun u2=>
  cond (u2.1.1)
   (if(0:Int)≤t6∧t6<(AH.length:Int)then(
   (B_ ((AH.getD (t6.toNat) (0,0,false,[],())).1)).bind fun u4=>
   cond (u4.1.1==t1)
    (if(0:Int)≤t6∧t6<(AH.length:Int)then(
    if b1.length+1≤Dd then(
    R3 t1 (AX (t6+1)) AH AJ AM (b1++[((AH.getD (t6.toNat) (0,0,false,[],())).1,(AH.getD (t6.toNat) (0,0,false,[],())).2.1,(AH.getD (t6.toNat) (0,0,false,[],())).2.2.1,(AH.getD (t6.toNat) (0,0,false,[],())).2.2.2.1,())]))else none)else none)
   (R3 t1 (AX (t6+1)) AH AJ AM b1))else none)
  (some (((),()),(b1,()))))
 (some (((),()),(b1,())))
def G5:Nat→Pp
 |0=>fun _ _ _ _ _ _=>none
 |n+1=>MP (G5 n)
def Re(R3:Pp)(p0:AC1)(p1:Int):Option D7:=
 R3 p1 0 p0.1 p0.2.1 p0.2.2.1 []
def Gm(p0:AC1)(p1:Int):Option D7:=Re (G5 AZ) p0 p1
abbrev D8:Type:=AEb×ADt
abbrev Pg:Type:=ABV→Int→List Int→Int→Int→Int→List Int→ABV→Bool→List AAZ→Int→Int→Bool→List Int→ABV→List AAZ→Int→Int→Bool→List Int→ABV→List AAZ→Option D8
def RW(R6:Pg)(t3:ABV)(t11:Int)(AH:AAZ)(AJ Aw Ai:Int)(CS:AAZ)(Jp:ABV)(PJ:Bool)(EE:List AAZ)(Gw Ha:Int)(N1:Bool)(b3:AAZ)(b4:ABV)(b5:List AAZ)(KI JE:Int)(KM:Bool)(b7:AAZ)(b8:ABV)(b9:List AAZ):Option D8:=
 cond ((decide (t11<(t3.length:Int))))
  (if(0:Int)≤t11∧t11<(t3.length:Int)then(
  (B_ ((t3.getD (t11.toNat) (0,0,false,[],())).1)).bind fun u6=>
  cond (u6.1.1==Ai)
   (if(0:Int)≤t11∧t11<(t3.length:Int)then(
   (NS b8 ((t3.getD (t11.toNat) (0,0,false,[],())).1,(t3.getD (t11.toNat) (0,0,false,[],())).2.1,(t3.getD (t11.toNat) (0,0,false,[],())).2.2.1,(t3.getD (t11.toNat) (0,0,false,[],())).2.2.2.1,())).bind fun u7=>
   R6 t3 (AX (t11+1)) AH AJ Aw Ai CS Jp PJ EE Gw Ha N1 b3 b4 b5 KI JE KM b7 u7.2.1 b9)else none)
  (R6 t3 (AX (t11+1)) AH AJ Aw Ai CS Jp PJ EE Gw Ha N1 b3 b4 b5 KI JE KM b7 b8 b9))else none)
 (cond (PJ)
  ((C3 (Aw,Ai,CS,Jp,PJ,EE,())).bind fun u8=>
  some ((((u8.1.1.1,u8.1.1.2.1,(),(),u8.1.1.2.2.2.2.1,(),()),false,()),()),(u8.2.1,u8.2.2.1,u8.2.2.2.1,())))
 ((Gg (AH,AJ,()) (KI,JE,b7,b8,KM,b9,())).bind fun u9=>
 cond (!u9.1.1)
  ((C3 (Aw,Ai,CS,Jp,PJ,EE,())).bind fun Hc=>
  some ((((Hc.1.1.1,Hc.1.1.2.1,(),(),Hc.1.1.2.2.2.2.1,(),()),false,()),()),(Hc.2.1,Hc.2.2.1,Hc.2.2.2.1,())))
 (some ((((KI,JE,(),(),KM,(),()),true,()),()),(b7,b8,b9,())))))
def Ip:Nat→Pg
 |0=>fun _ _ _ _ _ _ _ _ _ _ _ _ _ _ _ _ _ _ _ _ _ _=>none
 |n+1=>RW (Ip n)
def Rs(R6:Pg)(p0:ABd)(p1:ACp)(p2:Int)(p3:ABV):Option D8:=
 (Gg (p0.1,p0.2.1,()) (p1.1,p1.2.1,p1.2.2.1,p1.2.2.2.1,p1.2.2.2.2.1,p1.2.2.2.2.2.1,())).bind fun u1=>
 cond (!u1.1.1)
  (some ((((0,0,(),(),false,(),()),false,()),()),([],[],[],())))
 ((C3 (p1.1,p1.2.1,p1.2.2.1,p1.2.2.2.1,p1.2.2.2.2.1,p1.2.2.2.2.2.1,())).bind fun u2=>
 (GM u2.2.1 p2).bind fun u3=>
 R6 p3 0 p0.1 p0.2.1 p1.1 p1.2.1 p1.2.2.1 p1.2.2.2.1 p1.2.2.2.2.1 p1.2.2.2.2.2.1 0 0 false [] [] [] u2.1.1.1 u2.1.1.2.1 u2.1.1.2.2.2.2.1 u3.2.1 u2.2.2.1 u2.2.2.2.1)
def Gj(p0:ABd)(p1:ACp)(p2:Int)(p3:ABV):Option D8:=Rs (Ip AZ) p0 p1 p2 p3
abbrev gI:Type:=ADK×ADR
def SB(Bk Bn:Int)(Az:Bool)(p1:AC3)(b0:AAZ)(b1:ABU)(b2:AAZ)(b3:ABK)(b4:ABX)(b5:ABZ)(b6:ABT)(b7:ABW):Option gI:=
 cond (((b5.length:Int)==0))
  (some (((((),Bk,(),(),(),Bn,(),(),(),(),Az,()),2,()),()),(b0,b1,b2,b3,b4,b5,b6,b7,())))
 (if(0:Int)≤(0:Int)∧(0:Int)<(b5.length:Int)then(
 (FW (b0,Bk,b1,b2,b3,Bn,b4,b5,b6,b7,Az,()) p1.2.1).bind fun u2=>
 cond (u2.1.1 !=0)
  (some (((((),Bk,(),(),(),Bn,(),(),(),(),Az,()),u2.1.1,()),()),(b0,b1,b2,b3,b4,b5,b6,b7,())))
 ((B4 (b3,Bn,()) ((b5.getD 0 (0,0,[],[],false,[],())).2.1)).bind fun u4=>
 (CG u4.2.1 p1.2.1).bind fun u5=>
 cond (!u5.1.1)
  (some (((((),Bk,(),(),(),Bn,(),(),(),(),Az,()),2,()),()),(b0,b1,b2,b3,b4,b5,b6,b7,())))
 (if(0:Int)≤p1.2.1∧p1.2.1<(b1.length:Int)then(
 (LW ((b1.getD (p1.2.1.toNat) ([],[],0,())).1,(b1.getD (p1.2.1.toNat) ([],[],0,())).2.1,(b1.getD (p1.2.1.toNat) ([],[],0,())).2.2.1,()) (AX (((b5.getD 0 (0,0,[],[],false,[],())).1)-1))).bind fun u7=>
 (Gm (u7.2.1,u7.2.2.1,u7.1.1.1.2.2.1,()) ((b5.getD 0 (0,0,[],[],false,[],())).2.1)).bind fun u9=>
 (Gj (b0,Bk,()) ((b5.getD 0 (0,0,[],[],false,[],())).1,(b5.getD 0 (0,0,[],[],false,[],())).2.1,(b5.getD 0 (0,0,[],[],false,[],())).2.2.1,(b5.getD 0 (0,0,[],[],false,[],())).2.2.2.1,(b5.getD 0 (0,0,[],[],false,[],())).2.2.2.2.1,(b5.getD 0 (0,0,[],[],false,[],())).2.2.2.2.2.1,()) p1.2.1 u9.2.1).bind fun Hc=>
 cond (!u7.1.1.2.1)
  (some (((((),Bk,(),(),(),Bn,(),(),(),(),Az,()),4,()),()),(b0,b1,b2,b3,b4,b5,b6,b7,())))
 (cond (!Hc.1.1.2.1)
  (some (((((),Bk,(),(),(),Bn,(),(),(),(),Az,()),4,()),()),(b0,b1,b2,b3,b4,b5,b6,b7,())))
 (if(0:Int)≤p1.2.1∧p1.2.1<(b1.length:Int)then(
 if(0:Int)≤(0:Int)∧(0:Int)<(b5.length:Int)then(
 some (((((),Bk,(),(),(),Bn,(),(),(),(),Az,()),0,()),()),(b0,(b1.set (p1.2.1.toNat) (u7.2.1,u7.2.2.1,u7.1.1.1.2.2.1,())),b2,b3,b4,(b5.set 0 (Hc.1.1.1.1,Hc.1.1.1.2.1,Hc.2.1,Hc.2.2.1,Hc.1.1.1.2.2.2.2.1,Hc.2.2.2.1,())),b6,b7,())))else none)else none)))else none)))else none)
abbrev jo:Type:=AC8×AC7
def Hz(p0 p1:AAZ):Option jo:=
 (Gq p0 p1).bind fun u1=>
 (Gq p0 u1.2.1).bind fun u2=>
 some (((),()),(u2.2.1,()))
abbrev jD:Type:=ACR×Unit
def H3(p0:ABd)(p1 p2:AAZ):Option jD:=
 (DU (p0.1,p0.2.1,()) p1).bind fun u1=>
 cond (!u1.1.1)
  (some ((false,()),()))
 ((Eg (p0.1,p0.2.1,()) p2).bind fun u2=>
 cond (!u2.1.1)
  (some ((false,()),()))
 ((Gq p2 p1).bind fun u3=>
 cond (decide ((u3.2.1.length:Int)>0))
  (some ((false,()),()))
 ((Gq p1 p2).bind fun u5=>
 (Q_ (p0.1,p0.2.1,()) u5.2.1).bind fun u6=>
 some (((decide (u6.1.1<p0.2.1)),()),()))))
abbrev EA:Type:=AEb×ADt
abbrev Pq:Type:=Int→Int→Int→List Int→ABV→Bool→List AAZ→Int→Int→Bool→List Int→ABV→List AAZ→Int→Int→Bool→List Int→ABV→List AAZ→Option EA
def Rl(R8:Pq)(t9 AH AJ:Int)(AM:AAZ)(BS:ABV)(Bi:Bool)(BW:List AAZ)(Aw Ai:Int)(PJ:Bool)(b2:AAZ)(b3:ABV)(b4:List AAZ)(vH tf:Int)(tL:Bool)(b6:AAZ)(b7:ABV)(b8:List AAZ):Option EA:=
 (Np (AH,AJ,AM,BS,Bi,BW,())).bind fun u5=>
 cond (decide (t9<u5.1.1))
  (if b8.length+1≤Dd then(
  R8 (AX (t9+1)) AH AJ AM BS Bi BW Aw Ai PJ b2 b3 b4 vH tf tL b6 b7 (b8++[[]]))else none)
 (some ((((vH,tf,(),(),tL,(),()),true,()),()),(b6,b7,b8,())))
def Ij:Nat→Pq
 |0=>fun _ _ _ _ _ _ _ _ _ _ _ _ _ _ _ _ _ _ _=>none
 |n+1=>Rl (Ij n)
def Ra(R8:Pq)(p0:ABd)(p1:ACp)(p2:AAZ):Option EA:=
 (Gg (p0.1,p0.2.1,()) (p1.1,p1.2.1,p1.2.2.1,p1.2.2.2.1,p1.2.2.2.2.1,p1.2.2.2.2.2.1,())).bind fun u1=>
 cond (!u1.1.1)
  (some ((((0,0,(),(),false,(),()),false,()),()),([],[],[],())))
 ((C3 (p1.1,p1.2.1,p1.2.2.1,p1.2.2.2.1,p1.2.2.2.2.1,p1.2.2.2.2.2.1,())).bind fun u2=>
 cond (p1.2.2.2.2.1)
  (some ((((u2.1.1.1,u2.1.1.2.1,(),(),u2.1.1.2.2.2.2.1,(),()),false,()),()),(u2.2.1,u2.2.2.1,u2.2.2.2.1,())))
 ((Hz p1.2.2.1 p2).bind fun u3=>
 (H3 (p0.1,p0.2.1,()) p2 u3.2.1).bind fun u4=>
 cond (!u4.1.1)
  (some ((((u2.1.1.1,u2.1.1.2.1,(),(),u2.1.1.2.2.2.2.1,(),()),false,()),()),(u2.2.1,u2.2.2.1,u2.2.2.2.1,())))
 (R8 0 p1.1 p1.2.1 p1.2.2.1 p1.2.2.2.1 p1.2.2.2.2.1 p1.2.2.2.2.2.1 0 0 false [] [] [] u2.1.1.1 u2.1.1.2.1 true u2.2.1 u2.2.2.1 u2.2.2.2.1)))
def Gl(p0:ABd)(p1:ACp)(p2:AAZ):Option EA:=Ra (Ij AZ) p0 p1 p2
abbrev ga:Type:=ADK×ADR
def SN(Bk Bn:Int)(Az:Bool)(b0:AAZ)(b1:ABU)(b2:AAZ)(b3:ABK)(b4:ABX)(b5:ABZ)(b6:ABT)(b7:ABW):Option ga:=
 cond (((b5.length:Int)==0))
  (some (((((),Bk,(),(),(),Bn,(),(),(),(),Az,()),2,()),()),(b0,b1,b2,b3,b4,b5,b6,b7,())))
 (if(0:Int)≤(0:Int)∧(0:Int)<(b5.length:Int)then(
 if(0:Int)≤(0:Int)∧(0:Int)<(b5.length:Int)then(
 (B4 (b3,Bn,()) ((b5.getD 0 (0,0,[],[],false,[],())).2.1)).bind fun u3=>
 (Gl (b0,Bk,()) ((b5.getD 0 (0,0,[],[],false,[],())).1,(b5.getD 0 (0,0,[],[],false,[],())).2.1,(b5.getD 0 (0,0,[],[],false,[],())).2.2.1,(b5.getD 0 (0,0,[],[],false,[],())).2.2.2.1,(b5.getD 0 (0,0,[],[],false,[],())).2.2.2.2.1,(b5.getD 0 (0,0,[],[],false,[],())).2.2.2.2.2.1,()) u3.2.1).bind fun u4=>
 cond (!u4.1.1.2.1)
  (some (((((),Bk,(),(),(),Bn,(),(),(),(),Az,()),4,()),()),(b0,b1,b2,b3,b4,b5,b6,b7,())))
 (if(0:Int)≤(0:Int)∧(0:Int)<(b5.length:Int)then(
 some (((((),Bk,(),(),(),Bn,(),(),(),(),Az,()),0,()),()),(b0,b1,b2,b3,b4,(b5.set 0 (u4.1.1.1.1,u4.1.1.1.2.1,u4.2.1,u4.2.2.1,u4.1.1.1.2.2.2.2.1,u4.2.2.2.1,())),b6,b7,())))else none))else none)else none)
abbrev jH:Type:=ADK×ADR
def Uk(Bk Bn:Int)(Az:Bool)(p1:AC3)(b0:AAZ)(b1:ABU)(b2:AAZ)(b3:ABK)(b4:ABX)(b5:ABZ)(b6:ABT)(b7:ABW):Option jH:=
 cond (((b5.length:Int)==0))
  (some (((((),Bk,(),(),(),Bn,(),(),(),(),Az,()),2,()),()),(b0,b1,b2,b3,b4,b5,b6,b7,())))
 (if(0:Int)≤(0:Int)∧(0:Int)<(b5.length:Int)then(
 (DL ((b5.getD 0 (0,0,[],[],false,[],())).1,(b5.getD 0 (0,0,[],[],false,[],())).2.1,(b5.getD 0 (0,0,[],[],false,[],())).2.2.1,(b5.getD 0 (0,0,[],[],false,[],())).2.2.2.1,(b5.getD 0 (0,0,[],[],false,[],())).2.2.2.2.1,(b5.getD 0 (0,0,[],[],false,[],())).2.2.2.2.2.1,()) p1.2.2.1).bind fun u2=>
 cond (!u2.1.1.2.1)
  (some (((((),Bk,(),(),(),Bn,(),(),(),(),Az,()),2,()),()),(b0,b1,b2,b3,b4,b5,b6,b7,())))
 ((FW (b0,Bk,b1,b2,b3,Bn,b4,b5,b6,b7,Az,()) p1.2.2.2.1).bind fun u3=>
 cond (u3.1.1 !=0)
  (some (((((),Bk,(),(),(),Bn,(),(),(),(),Az,()),u3.1.1,()),()),(b0,b1,b2,b3,b4,b5,b6,b7,())))
 (if(0:Int)≤(0:Int)∧(0:Int)<(b5.length:Int)then(
 (B4 (b3,Bn,()) ((b5.getD 0 (0,0,[],[],false,[],())).2.1)).bind fun u5=>
 (CG u5.2.1 p1.2.2.2.1).bind fun u6=>
 cond (!u6.1.1)
  (some (((((),Bk,(),(),(),Bn,(),(),(),(),Az,()),2,()),()),(b0,b1,b2,b3,b4,b5,b6,b7,())))
 (if(0:Int)≤p1.2.2.2.1∧p1.2.2.2.1<(b1.length:Int)then(
 (KC ((b1.getD (p1.2.2.2.1.toNat) ([],[],0,())).1,(b1.getD (p1.2.2.2.1.toNat) ([],[],0,())).2.1,(b1.getD (p1.2.2.2.1.toNat) ([],[],0,())).2.2.1,()) (u2.1.1.1.1,u2.1.1.1.2.1,u2.1.1.1.2.2.1,u2.1.1.1.2.2.2.1,())).bind fun u7=>
 cond (!u7.1.1.2.1)
  (some (((((),Bk,(),(),(),Bn,(),(),(),(),Az,()),4,()),()),(b0,b1,b2,b3,b4,b5,b6,b7,())))
 (if(0:Int)≤p1.2.2.2.1∧p1.2.2.2.1<(b1.length:Int)then(
 some (((((),Bk,(),(),(),Bn,(),(),(),(),Az,()),0,()),()),(b0,(b1.set (p1.2.2.2.1.toNat) (u7.2.1,u7.2.2.1,u7.1.1.1.2.2.1,())),b2,b3,b4,b5,b6,b7,())))else none))else none))else none)))else none)
abbrev MH:Type:=ACR×Unit
abbrev OP:Type:=Int→List Int→Int→Int→Int→List Int→ABV→Bool→List AAZ→Option MH
def Q5(R4:OP)(t5:Int)(AH:AAZ)(AJ Aw Ai:Int)(CS:AAZ)(Jp:ABV)(PJ:Bool)(EE:List AAZ):Option MH:=
 cond ((decide (t5<(EE.length:Int))))
  (if(0:Int)≤t5∧t5<(EE.length:Int)then(
  (DU (AH,AJ,()) (EE.getD (t5.toNat) [])).bind fun u3=>
  cond (!u3.1.1)
   (some ((false,()),()))
  (R4 (AX (t5+1)) AH AJ Aw Ai CS Jp PJ EE))else none)
 (some ((true,()),()))
def H7:Nat→OP
 |0=>fun _ _ _ _ _ _ _ _ _=>none
 |n+1=>Q5 (H7 n)
def QW(R4:OP)(p0:ABd)(p1:ACp):Option MH:=
 (Gg (p0.1,p0.2.1,()) (p1.1,p1.2.1,p1.2.2.1,p1.2.2.2.1,p1.2.2.2.2.1,p1.2.2.2.2.2.1,())).bind fun u1=>
 cond (!u1.1.1)
  (some ((false,()),()))
 (cond (!p1.2.2.2.2.1)
  (some ((false,()),()))
 (R4 0 p0.1 p0.2.1 p1.1 p1.2.1 p1.2.2.1 p1.2.2.2.1 p1.2.2.2.2.1 p1.2.2.2.2.2.1))
def PD(p0:ABd)(p1:ACp):Option MH:=QW (H7 AZ) p0 p1
abbrev dp:Type:=AHE×AFY
def Mt(p0:ABd)(p1:ACv)(p2 p3:Int):Option dp:=
 (JW (p0.1,p0.2.1,()) (p1.1,p1.2.1,())).bind fun u1=>
 cond (!u1.1.1)
  (some (((((),0,()),false,()),()),([],())))
 ((EK (p1.1,p1.2.1,())).bind fun u2=>
 (HC (p1.1,p1.2.1,())).bind fun u3=>
 cond ((p2 !=(p1.1.length:Int)))
  (some (((((),u2.1.1.2.1,()),false,()),()),(u2.2.1,())))
 (cond (u3.1.1==0)
  (some (((((),u2.1.1.2.1,()),false,()),()),(u2.2.1,())))
 (cond (p2==u3.1.1)
  (some (((((),u2.1.1.2.1,()),false,()),()),(u2.2.1,())))
 ((Be p3 0 60).bind fun u5=>
 cond (!u5.1.1)
  (some (((((),u2.1.1.2.1,()),false,()),()),(u2.2.1,())))
 (if(0:Int)≤AX (u3.1.1-1)∧AX (u3.1.1-1)<(u2.2.1.length:Int)then(
 let x6:ABK:=(u2.2.1.set ((AX (u3.1.1-1)).toNat) ((u2.2.1.getD ((AX (u3.1.1-1)).toNat) ([],false,0,())).1,true,(u2.2.1.getD ((AX (u3.1.1-1)).toNat) ([],false,0,())).2.2.1,()))
 if(0:Int)≤AX (u3.1.1-1)∧AX (u3.1.1-1)<(x6.length:Int)then(
 some (((((),u2.1.1.2.1,()),true,()),()),((x6.set ((AX (u3.1.1-1)).toNat) ((x6.getD ((AX (u3.1.1-1)).toNat) ([],false,0,())).1,(x6.getD ((AX (u3.1.1-1)).toNat) ([],false,0,())).2.1,p3,())),())))else none)else none)))))
abbrev XC:Type:=ADK×(List Int×ABU×List Int×Unit×ABX×Unit×ABT×ABW×ABK×ABZ×Unit)
def QP(Bk Bn:Int)(Az:Bool)(b0:AAZ)(b1:ABU)(b2:AAZ)(b3:ABK)(b4:ABX)(b5:ABZ)(b6:ABT)(b7:ABW):Option XC:=
 cond (((b5.length:Int)==0))
  (some (((((),Bk,(),(),(),Bn,(),(),(),(),Az,()),2,()),()),(b0,b1,b2,(),b4,(),b6,b7,b3,b5,())))
 (if(0:Int)≤(0:Int)∧(0:Int)<(b5.length:Int)then(
 (PD (b0,Bk,()) ((b5.getD 0 (0,0,[],[],false,[],())).1,(b5.getD 0 (0,0,[],[],false,[],())).2.1,(b5.getD 0 (0,0,[],[],false,[],())).2.2.1,(b5.getD 0 (0,0,[],[],false,[],())).2.2.2.1,(b5.getD 0 (0,0,[],[],false,[],())).2.2.2.2.1,(b5.getD 0 (0,0,[],[],false,[],())).2.2.2.2.2.1,())).bind fun u2=>
 cond (!u2.1.1)
  (some (((((),Bk,(),(),(),Bn,(),(),(),(),Az,()),5,()),()),(b0,b1,b2,(),b4,(),b6,b7,b3,b5,())))
 (if(0:Int)≤(0:Int)∧(0:Int)<(b5.length:Int)then(
 if(0:Int)≤(0:Int)∧(0:Int)<(b5.length:Int)then(
 (Mt (b0,Bk,()) (b3,Bn,()) ((b5.getD 0 (0,0,[],[],false,[],())).1) (((b5.getD 0 (0,0,[],[],false,[],())).2.2.2.2.2.1).length:Int)).bind fun u5=>
 cond (!u5.1.1.2.1)
  (some (((((),Bk,(),(),(),Bn,(),(),(),(),Az,()),4,()),()),(b0,b1,b2,(),b4,(),b6,b7,b3,b5,())))
 (some (((((),Bk,(),(),(),u5.1.1.1.2.1,(),(),(),(),Az,()),0,()),()),(b0,b1,b2,(),b4,(),b6,b7,u5.2.1,[],()))))else none)else none))else none)
abbrev ib:Type:=AHE×AFY
def OL(p0:ABd)(p1:ACv)(p2:Int):Option ib:=
 (JW (p0.1,p0.2.1,()) (p1.1,p1.2.1,())).bind fun u1=>
 cond (!u1.1.1)
  (some (((((),0,()),false,()),()),([],())))
 ((EK (p1.1,p1.2.1,())).bind fun u2=>
 (Ep p2).bind fun u3=>
 cond (!u3.1.1)
  (some (((((),u2.1.1.2.1,()),false,()),()),(u2.2.1,())))
 ((B_ p2).bind fun u4=>
 cond ((decide (u4.1.1>(p1.1.length:Int))))
  (some (((((),u2.1.1.2.1,()),false,()),()),(u2.2.1,())))
 ((Dk u2.1.1.2.1 p2).bind fun u6=>
 some (((((),u6.1.1,()),true,()),()),(u2.2.1,())))))
abbrev Kh:Type:=ACx×Unit
abbrev NJ:Type:=Int→Int→ACs→Option Kh
def PV(R2:NJ)(t3 AH:Int)(AJ:ACs):Option Kh:=
 cond ((decide (t3<(AJ.length:Int))))
  (if(0:Int)≤t3∧t3<(AJ.length:Int)then(
  cond (((AJ.getD (t3.toNat) ([],[],false,())).2.2.1))
   (R2 (AX (t3+1)) AH AJ)
  (some ((t3,()),())))else none)
 (some ((t3,()),()))
def HO:Nat→NJ
 |0=>fun _ _ _=>none
 |n+1=>PV (HO n)
def XS(R2:NJ)(p0:ACy):Option Kh:=
 R2 0 p0.1 p0.2.1
def RH(p0:ACy):Option Kh:=XS (HO AZ) p0
abbrev QN:Type:=ACx×Unit
abbrev Tg:Type:=Int→Int→List Int→Int→ABU→List Int→ABK→Int→ABX→ABZ→ABT→ABW→Bool→Option QN
def T6(R2:Tg)(t1 t5:Int)(AH:AAZ)(AJ:Int)(AM:ABU)(BS:AAZ)(Bi:ABK)(BW:Int)(BR:ABX)(BM:ABZ)(A6:ABT)(BT:ABW)(Ar:Bool):Option QN:=
 cond ((decide (t5<(BR.length:Int))))
  (if(0:Int)≤t5∧t5<(BR.length:Int)then(
  cond (((BR.getD (t5.toNat) (0,[],())).1)==t1)
   (if(0:Int)≤t5∧t5<(BR.length:Int)then(
   (RH ((BR.getD (t5.toNat) (0,[],())).1,(BR.getD (t5.toNat) (0,[],())).2.1,())).bind fun u3=>
   some ((u3.1.1,()),()))else none)
  (R2 t1 (AX (t5+1)) AH AJ AM BS Bi BW BR BM A6 BT Ar))else none)
 (some ((0,()),()))
def Lf:Nat→Tg
 |0=>fun _ _ _ _ _ _ _ _ _ _ _ _ _=>none
 |n+1=>T6 (Lf n)
def aK(R2:Tg)(p0:ACg)(p1:Int):Option QN:=
 R2 p1 0 p0.1 p0.2.1 p0.2.2.1 p0.2.2.2.1 p0.2.2.2.2.1 p0.2.2.2.2.2.1 p0.2.2.2.2.2.2.1 p0.2.2.2.2.2.2.2.1 p0.2.2.2.2.2.2.2.2.1 p0.2.2.2.2.2.2.2.2.2.1 p0.2.2.2.2.2.2.2.2.2.2.1
def YJ(p0:ACg)(p1:Int):Option QN:=aK (Lf AZ) p0 p1
abbrev Ki:Type:=AC8×(ADS×Unit)
abbrev NK:Type:=Int→List Int→Int→ABU→List Int→ABK→Int→ABX→ABZ→ABT→ABW→Bool→Int→Int→AC0→ADS→List Int→Option Ki
def PQ(R4:NK)(t9:Int)(AH:AAZ)(AJ:Int)(AM:ABU)(BS:AAZ)(Bi:ABK)(BW:Int)(BR:ABX)(BM:ABZ)(A6:ABT)(BT:ABW)(Ar:Bool)(Aw Ai:Int)(CS:AC0)(b2:ADS)(b3:AAZ):Option Ki:=
 cond ((decide (t9<(b3.length:Int))))
  (if(0:Int)≤t9∧t9<(b3.length:Int)then(
  (FW (AH,AJ,AM,BS,Bi,BW,BR,BM,A6,BT,Ar,()) (b3.getD (t9.toNat) 0)).bind fun u4=>
  cond (u4.1.1 !=0)
   (R4 (AX (t9+1)) AH AJ AM BS Bi BW BR BM A6 BT Ar Aw Ai CS b2 b3)
  (if(0:Int)≤t9∧t9<(b3.length:Int)then(
  let x5:Int:=(b3.getD (t9.toNat) 0)
  if(0:Int)≤x5∧x5<(AM.length:Int)then(
  (Bh Aw Ai).bind fun u6=>
  (FT ((AM.getD (x5.toNat) ([],[],0,())).1) u6.1.1).bind fun u7=>
  if(0:Int)≤t9∧t9<(b3.length:Int)then(
  if b2.length+1≤Dd then(
  R4 (AX (t9+1)) AH AJ AM BS Bi BW BR BM A6 BT Ar Aw Ai CS (b2++[((b3.getD (t9.toNat) 0),u7.1.1.2.1,u7.1.1.1.1,u7.1.1.1.2.1,u7.1.1.1.2.2.1,u7.1.1.1.2.2.2.1,())]) b3)else none)else none)else none)else none))else none)
 (some (((),()),(b2,())))
def HH:Nat→NK
 |0=>fun _ _ _ _ _ _ _ _ _ _ _ _ _ _ _ _ _=>none
 |n+1=>PQ (HH n)
def PL(R4:NK)(p0:ACg)(p1:AC2)(p2:Int):Option Ki:=
 (Li p2).bind fun u1=>
 R4 0 p0.1 p0.2.1 p0.2.2.1 p0.2.2.2.1 p0.2.2.2.2.1 p0.2.2.2.2.2.1 p0.2.2.2.2.2.2.1 p0.2.2.2.2.2.2.2.1 p0.2.2.2.2.2.2.2.2.1 p0.2.2.2.2.2.2.2.2.2.1 p0.2.2.2.2.2.2.2.2.2.2.1 p1.1 p1.2.1 p1.2.2.1 [] u1.2.1
def M4(p0:ACg)(p1:AC2)(p2:Int):Option Ki:=PL (HH AZ) p0 p1 p2
abbrev M7:Type:=((Unit×Bool×Unit)×Unit)×AC7
abbrev P3:Type:=ADS→Int→List Int→Int→List Int→Option M7
def Rj(R3:P3)(t1:ADS)(t7:Int)(AH:AAZ)(AJ:Int)(b1:AAZ):Option M7:=
 cond ((decide (t7<(t1.length:Int))))
  (if(0:Int)≤t7∧t7<(t1.length:Int)then(
  if b1.length+1≤Dd then(
  R3 t1 (AX (t7+1)) AH AJ (b1++[((t1.getD (t7.toNat) (0,false,0,0,false,[],())).1)]))else none)else none)
 ((Eg (AH,AJ,()) b1).bind fun u3=>
 some ((((),u3.1.1,()),()),(b1,())))
def Iy:Nat→P3
 |0=>fun _ _ _ _ _=>none
 |n+1=>Rj (Iy n)
def Yk(R3:P3)(p0:ABd)(p1:ADS):Option M7:=
 R3 p1 0 p0.1 p0.2.1 []
def Uu(p0:ABd)(p1:ADS):Option M7:=Yk (Iy AZ) p0 p1
abbrev iV:Type:=AEA×AFD
def GY(p0:AC2)(p1:ADV)(p2 p3:Int):Option iV:=
 (Bo (p0.1,p0.2.1,p0.2.2.1,())).bind fun u1=>
 if u1.2.1.length+1≤Dd then(
 some (((p2,p3,(),()),()),((u1.2.1++[(p1.1,p1.2.1,p1.2.2.1,())]),())))else none
abbrev O0:Type:=(ADV×Unit)×Unit
abbrev RD:Type:=List Int→Int→ADS→Bool→Int→Int→Int→List UInt8→Int→Int→Bool→List UInt8→Option O0
def Sq(R4:RD)(t0:AAZ)(t1:Int)(t2:ADS)(t8:Bool)(t9 AH AJ:Int)(AM:ACu)(Aw Ai:Int)(CS:Bool)(Jp:ACu):Option O0:=
 cond ((decide (t9<(t2.length:Int))))
  (if(0:Int)≤t9∧t9<(t2.length:Int)then(
  cond (!((t2.getD (t9.toNat) (0,false,0,0,false,[],())).2.1))
   (R4 t0 t1 t2 t8 (AX (t9+1)) AH AJ AM Aw Ai CS Jp)
  ((CG t0 ((t2.getD (t9.toNat) (0,false,0,0,false,[],())).1)).bind fun u4=>
  cond (!u4.1.1)
   (R4 t0 t1 t2 t8 (AX (t9+1)) AH AJ AM Aw Ai CS Jp)
  ((JQ ((t2.getD (t9.toNat) (0,false,0,0,false,[],())).2.2.1,(t2.getD (t9.toNat) (0,false,0,0,false,[],())).2.2.2.1,(t2.getD (t9.toNat) (0,false,0,0,false,[],())).2.2.2.2.1,(t2.getD (t9.toNat) (0,false,0,0,false,[],())).2.2.2.2.2.1,())).bind fun u5=>
  cond (!u5.1.1)
   (R4 t0 t1 t2 t8 (AX (t9+1)) AH AJ AM Aw Ai CS Jp)
  (cond (((t2.getD (t9.toNat) (0,false,0,0,false,[],())).2.2.1) !=t1)
   (R4 t0 t1 t2 t8 (AX (t9+1)) AH AJ AM Aw Ai CS Jp)
  (cond (!t8)
   ((Nq ((t2.getD (t9.toNat) (0,false,0,0,false,[],())).2.2.1,(t2.getD (t9.toNat) (0,false,0,0,false,[],())).2.2.2.1,(t2.getD (t9.toNat) (0,false,0,0,false,[],())).2.2.2.2.1,(t2.getD (t9.toNat) (0,false,0,0,false,[],())).2.2.2.2.2.1,()) ((t2.getD (t9.toNat) (0,false,0,0,false,[],())).2.2.1,(t2.getD (t9.toNat) (0,false,0,0,false,[],())).2.2.2.1,(t2.getD (t9.toNat) (0,false,0,0,false,[],())).2.2.2.2.1,(t2.getD (t9.toNat) (0,false,0,0,false,[],())).2.2.2.2.2.1,())).bind fun u7=>
   R4 t0 t1 t2 true (AX (t9+1)) AH AJ AM u7.1.1.1 u7.1.1.2.1 u7.1.1.2.2.1 u7.1.1.2.2.2.1)
  ((Nq (Aw,Ai,CS,Jp,()) ((t2.getD (t9.toNat) (0,false,0,0,false,[],())).2.2.1,(t2.getD (t9.toNat) (0,false,0,0,false,[],())).2.2.2.1,(t2.getD (t9.toNat) (0,false,0,0,false,[],())).2.2.2.2.1,(t2.getD (t9.toNat) (0,false,0,0,false,[],())).2.2.2.2.2.1,())).bind fun u8=>
  R4 t0 t1 t2 true (AX (t9+1)) AH AJ AM u8.1.1.1 u8.1.1.2.1 u8.1.1.2.2.1 u8.1.1.2.2.2.1))))))else none)
 (cond (!t8)
  (some (((3,t1,[],()),()),()))
 (cond (CS)
  (some (((2,t1,[],()),()),()))
 (some (((1,t1,Jp,()),()),()))))
def J0:Nat→RD
 |0=>fun _ _ _ _ _ _ _ _ _ _ _ _=>none
 |n+1=>Sq (J0 n)
def Zi(R4:RD)(p0:AAZ)(p1:Int)(p2:ADS):Option O0:=
 R4 p0 p1 p2 false 0 0 0 [] 0 0 false []
def Jn(p0:AAZ)(p1:Int)(p2:ADS):Option O0:=Zi (J0 AZ) p0 p1 p2
abbrev Ug:Type:=((AHy×Int×Unit)×Unit)×AFD
def My(p0:ABd)(p1:ACv)(p2:Int)(p3:AC2)(p4:ADS):Option Ug:=
 (Uu (p0.1,p0.2.1,()) p4).bind fun u1=>
 (JW (p0.1,p0.2.1,()) (p1.1,p1.2.1,())).bind fun u2=>
 cond (!u2.1.1)
  (some ((((0,0,(),()),1,()),()),([],())))
 ((J6 (p3.1,p3.2.1,p3.2.2.1,())).bind fun u3=>
 cond (!u3.1.1)
  (some ((((0,0,(),()),1,()),()),([],())))
 (cond (!u1.1.1.2.1)
  (some ((((0,0,(),()),1,()),()),([],())))
 (cond ((decide (p3.1>(p1.1.length:Int))))
  ((Bo (p3.1,p3.2.1,p3.2.2.1,())).bind fun u5=>
  some ((((u5.1.1.1,u5.1.1.2.1,(),()),2,()),()),(u5.2.1,())))
 (cond ((p3.2.2.1.length:Int)==120)
  ((Bo (p3.1,p3.2.1,p3.2.2.1,())).bind fun u7=>
  some ((((u7.1.1.1,u7.1.1.2.1,(),()),2,()),()),(u7.2.1,())))
 (if(0:Int)≤AX (p3.1-1)∧AX (p3.1-1)<(p1.1.length:Int)then(
 (Bh p3.1 p3.2.1).bind fun u8=>
 cond ((decide (p1.2.1≥u8.1.1)))
  ((B_ p1.2.1).bind fun Hc=>
  (FP p1.2.1).bind fun QE=>
  (GY (p3.1,p3.2.1,p3.2.2.1,()) (5,p1.2.1,[],()) Hc.1.1 (AX (QE.1.1+1))).bind fun C7=>
  some ((((C7.1.1.1,C7.1.1.2.1,(),()),0,()),()),(C7.2.1,())))
 (cond (((p1.1.getD ((AX (p3.1-1)).toNat) ([],false,0,())).2.1))
  (cond ((decide (p3.2.1>((p1.1.getD ((AX (p3.1-1)).toNat) ([],false,0,())).2.2.1))))
   ((GY (p3.1,p3.2.1,p3.2.2.1,()) (4,AX (p3.1+1),[],()) (AX (p3.1+1)) 1).bind fun u16=>
   some ((((u16.1.1.1,u16.1.1.2.1,(),()),0,()),()),(u16.2.1,())))
  (cond (!((p1.1.getD ((AX (p3.1-1)).toNat) ([],false,0,())).2.1))
   (cond (decide (p3.2.1>p2))
    ((Bo (p3.1,p3.2.1,p3.2.2.1,())).bind fun Sk=>
    some ((((Sk.1.1.1,Sk.1.1.2.1,(),()),2,()),()),(Sk.2.1,())))
   (cond (decide (p3.2.1>60))
    ((Bo (p3.1,p3.2.1,p3.2.2.1,())).bind fun Zc=>
    some ((((Zc.1.1.1,Zc.1.1.2.1,(),()),2,()),()),(Zc.2.1,())))
   ((Hz u1.2.1 ((p1.1.getD ((AX (p3.1-1)).toNat) ([],false,0,())).1)).bind fun Qa=>
   (H3 (p0.1,p0.2.1,()) ((p1.1.getD ((AX (p3.1-1)).toNat) ([],false,0,())).1) Qa.2.1).bind fun fL=>
   cond (!fL.1.1)
    ((Bo (p3.1,p3.2.1,p3.2.2.1,())).bind fun v_=>
    some ((((v_.1.1.1,v_.1.1.2.1,(),()),3,()),()),(v_.2.1,())))
   ((Jn ((p1.1.getD ((AX (p3.1-1)).toNat) ([],false,0,())).1) u8.1.1 p4).bind fun VB=>
   (GY (p3.1,p3.2.1,p3.2.2.1,()) (VB.1.1.1,VB.1.1.2.1,VB.1.1.2.2.1,()) p3.1 (AX (p3.2.1+1))).bind fun Jo=>
   some ((((Jo.1.1.1,Jo.1.1.2.1,(),()),0,()),()),(Jo.2.1,()))))))
  (cond (decide (p3.2.1>60))
   ((Bo (p3.1,p3.2.1,p3.2.2.1,())).bind fun ag=>
   some ((((ag.1.1.1,ag.1.1.2.1,(),()),2,()),()),(ag.2.1,())))
  ((Hz u1.2.1 ((p1.1.getD ((AX (p3.1-1)).toNat) ([],false,0,())).1)).bind fun aD=>
  (H3 (p0.1,p0.2.1,()) ((p1.1.getD ((AX (p3.1-1)).toNat) ([],false,0,())).1) aD.2.1).bind fun a_=>
  cond (!a_.1.1)
   ((Bo (p3.1,p3.2.1,p3.2.2.1,())).bind fun Pt=>
   some ((((Pt.1.1.1,Pt.1.1.2.1,(),()),3,()),()),(Pt.2.1,())))
  ((Jn ((p1.1.getD ((AX (p3.1-1)).toNat) ([],false,0,())).1) u8.1.1 p4).bind fun Xl=>
  (GY (p3.1,p3.2.1,p3.2.2.1,()) (Xl.1.1.1,Xl.1.1.2.1,Xl.1.1.2.2.1,()) p3.1 (AX (p3.2.1+1))).bind fun jd=>
  some ((((jd.1.1.1,jd.1.1.2.1,(),()),0,()),()),(jd.2.1,())))))))
 (cond (!((p1.1.getD ((AX (p3.1-1)).toNat) ([],false,0,())).2.1))
  (cond (decide (p3.2.1>p2))
   ((Bo (p3.1,p3.2.1,p3.2.2.1,())).bind fun u32=>
   some ((((u32.1.1.1,u32.1.1.2.1,(),()),2,()),()),(u32.2.1,())))
  (cond (decide (p3.2.1>60))
   ((Bo (p3.1,p3.2.1,p3.2.2.1,())).bind fun WK=>
   some ((((WK.1.1.1,WK.1.1.2.1,(),()),2,()),()),(WK.2.1,())))
  ((Hz u1.2.1 ((p1.1.getD ((AX (p3.1-1)).toNat) ([],false,0,())).1)).bind fun u34=>
  (H3 (p0.1,p0.2.1,()) ((p1.1.getD ((AX (p3.1-1)).toNat) ([],false,0,())).1) u34.2.1).bind fun u35=>
  cond (!u35.1.1)
   ((Bo (p3.1,p3.2.1,p3.2.2.1,())).bind fun u36=>
   some ((((u36.1.1.1,u36.1.1.2.1,(),()),3,()),()),(u36.2.1,())))
  ((Jn ((p1.1.getD ((AX (p3.1-1)).toNat) ([],false,0,())).1) u8.1.1 p4).bind fun tF=>
  (GY (p3.1,p3.2.1,p3.2.2.1,()) (tF.1.1.1,tF.1.1.2.1,tF.1.1.2.2.1,()) p3.1 (AX (p3.2.1+1))).bind fun u38=>
  some ((((u38.1.1.1,u38.1.1.2.1,(),()),0,()),()),(u38.2.1,()))))))
 (cond (decide (p3.2.1>60))
  ((Bo (p3.1,p3.2.1,p3.2.2.1,())).bind fun dT=>
  some ((((dT.1.1.1,dT.1.1.2.1,(),()),2,()),()),(dT.2.1,())))
 ((Hz u1.2.1 ((p1.1.getD ((AX (p3.1-1)).toNat) ([],false,0,())).1)).bind fun u40=>
 (H3 (p0.1,p0.2.1,()) ((p1.1.getD ((AX (p3.1-1)).toNat) ([],false,0,())).1) u40.2.1).bind fun u41=>
 cond (!u41.1.1)
  ((Bo (p3.1,p3.2.1,p3.2.2.1,())).bind fun u42=>
  some ((((u42.1.1.1,u42.1.1.2.1,(),()),3,()),()),(u42.2.1,())))
 ((Jn ((p1.1.getD ((AX (p3.1-1)).toNat) ([],false,0,())).1) u8.1.1 p4).bind fun u43=>
 (GY (p3.1,p3.2.1,p3.2.2.1,()) (u43.1.1.1,u43.1.1.2.1,u43.1.1.2.2.1,()) p3.1 (AX (p3.2.1+1))).bind fun u44=>
 some ((((u44.1.1.1,u44.1.1.2.1,(),()),0,()),()),(u44.2.1,()))))))))else none)))))
abbrev fc:Type:=ADK×ADR
def Sj(Bk Bn:Int)(Az:Bool)(p1:AC3)(b0:AAZ)(b1:ABU)(b2:AAZ)(b3:ABK)(b4:ABX)(b5:ABZ)(b6:ABT)(b7:ABW):Option fc:=
 (Be p1.2.1 0 1).bind fun u1=>
 cond (!u1.1.1)
  (some (((((),Bk,(),(),(),Bn,(),(),(),(),Az,()),2,()),()),(b0,b1,b2,b3,b4,b5,b6,b7,())))
 (if(0:Int)≤p1.2.1∧p1.2.1<(b6.length:Int)then(
 if(0:Int)≤p1.2.1∧p1.2.1<(b6.length:Int)then(
 if(0:Int)≤p1.2.1∧p1.2.1<(b6.length:Int)then(
 (YJ (b0,Bk,b1,b2,b3,Bn,b4,b5,b6,b7,Az,()) ((b6.getD (p1.2.1.toNat) (0,0,[],())).1)).bind fun u3=>
 (M4 (b0,Bk,b1,b2,b3,Bn,b4,b5,b6,b7,Az,()) ((b6.getD (p1.2.1.toNat) (0,0,[],())).1,(b6.getD (p1.2.1.toNat) (0,0,[],())).2.1,(b6.getD (p1.2.1.toNat) (0,0,[],())).2.2.1,()) p1.2.2.1).bind fun u4=>
 (My (b0,Bk,()) (b3,Bn,()) u3.1.1 ((b6.getD (p1.2.1.toNat) (0,0,[],())).1,(b6.getD (p1.2.1.toNat) (0,0,[],())).2.1,(b6.getD (p1.2.1.toNat) (0,0,[],())).2.2.1,()) u4.2.1).bind fun u5=>
 cond (u5.1.1.2.1 !=0)
  (some (((((),Bk,(),(),(),Bn,(),(),(),(),Az,()),5,()),()),(b0,b1,b2,b3,b4,b5,b6,b7,())))
 (if(0:Int)≤p1.2.1∧p1.2.1<(b6.length:Int)then(
 some (((((),Bk,(),(),(),Bn,(),(),(),(),Az,()),0,()),()),(b0,b1,b2,b3,b4,b5,(b6.set (p1.2.1.toNat) (u5.1.1.1.1,u5.1.1.1.2.1,u5.2.1,())),b7,())))else none))else none)else none)else none)
abbrev Kw:Type:=ADK×(List Int×ABU×List Int×ABK×Unit×ABZ×ABT×ABW×ABX×Unit)
abbrev RJ:Type:=Int→List Int→ABU→List Int→ABK→ABX→ABZ→ABT→ABW→Int→Int→Bool→Int→Int→Int→Int→List UInt8→Int→Int→Bool→List Int→ABU→List Int→ABK→ABX→ABZ→ABT→ABW→ABX→Option Kw
def TY(R5:RJ)(t7:Int)(b0:AAZ)(b1:ABU)(b2:AAZ)(b3:ABK)(b4:ABX)(b5:ABZ)(b6:ABT)(b7:ABW)(Ci Cp:Int)(Bj:Bool)(AJj Ds AIc AJE:Int)(AIP:ACu)(Dx FV:Int)(DC:Bool)(Ge:AAZ)(D2:ABU)(GJ:AAZ)(F8:ABK)(ES:ABX)(Ey:ABZ)(FF:ABT)(VZ:ABW)(lG:ABX):Option Kw:=
 cond ((decide (t7<(b4.length:Int))))
  (cond (t7 !=Ds)
   (if(0:Int)≤t7∧t7<(b4.length:Int)then(
   if lG.length+1≤Dd then(
   R5 (AX (t7+1)) b0 b1 b2 b3 b4 b5 b6 b7 Ci Cp Bj AJj Ds AIc AJE AIP Dx FV DC Ge D2 GJ F8 ES Ey FF VZ (lG++[((b4.getD (t7.toNat) (0,[],())).1,(b4.getD (t7.toNat) (0,[],())).2.1,())]))else none)else none)
  (R5 (AX (t7+1)) b0 b1 b2 b3 b4 b5 b6 b7 Ci Cp Bj AJj Ds AIc AJE AIP Dx FV DC Ge D2 GJ F8 ES Ey FF VZ lG))
 (some (((((),Ci,(),(),(),Cp,(),(),(),(),Bj,()),0,()),()),(b0,b1,b2,b3,(),b5,b6,b7,lG,())))
def Jz:Nat→RJ
 |0=>fun _ _ _ _ _ _ _ _ _ _ _ _ _ _ _ _ _ _ _ _ _ _ _ _ _ _ _ _ _=>none
 |n+1=>TY (Jz n)
def TH(R5:RJ)(Bk Bn:Int)(Az:Bool)(p1:AC3)(b0:AAZ)(b1:ABU)(b2:AAZ)(b3:ABK)(b4:ABX)(b5:ABZ)(b6:ABT)(b7:ABW):Option Kw:=
 (Ix (b0,Bk,b1,b2,b3,Bn,b4,b5,b6,b7,Az,()) p1.2.1).bind fun u1=>
 cond (!u1.1.1)
  (some (((((),Bk,(),(),(),Bn,(),(),(),(),Az,()),2,()),()),(b0,b1,b2,b3,(),b5,b6,b7,b4,())))
 (R5 0 b0 b1 b2 b3 b4 b5 b6 b7 Bk Bn Az p1.1 p1.2.1 p1.2.2.1 p1.2.2.2.1 p1.2.2.2.2.1 0 0 false [] [] [] [] [] [] [] [] [])
def Rx(Bk Bn:Int)(Az:Bool)(p1:AC3)(b0:AAZ)(b1:ABU)(b2:AAZ)(b3:ABK)(b4:ABX)(b5:ABZ)(b6:ABT)(b7:ABW):Option Kw:=TH (Jz AZ) Bk Bn Az p1 b0 b1 b2 b3 b4 b5 b6 b7
abbrev Lw:Type:=ADX×ADY
abbrev OG:Type:=Int→Int→ABV→ABV→Int→Int→ABV→ABV→Int→ABV→ABV→Option Lw
def Qn(R8:OG)(t1 t7:Int)(AH AJ:ABV)(AM CS:Int)(b2 b3:ABV)(K9:Int)(b5 b6:ABV):Option Lw:=
 cond ((decide (t7<(AH.length:Int))))
  (if(0:Int)≤t7∧t7<(AH.length:Int)then(
  cond (decide (((AH.getD (t7.toNat) (0,0,false,[],())).1)>t1))
   (if(0:Int)≤t7∧t7<(AH.length:Int)then(
   if b5.length+1≤Dd then(
   R8 t1 (AX (t7+1)) AH AJ AM CS b2 b3 K9 (b5++[((AH.getD (t7.toNat) (0,0,false,[],())).1,(AH.getD (t7.toNat) (0,0,false,[],())).2.1,(AH.getD (t7.toNat) (0,0,false,[],())).2.2.1,(AH.getD (t7.toNat) (0,0,false,[],())).2.2.2.1,())]) b6)else none)else none)
  (R8 t1 (AX (t7+1)) AH AJ AM CS b2 b3 K9 b5 b6))else none)
 (some (((((),(),K9,()),true,()),()),(b5,b6,())))
def H5:Nat→OG
 |0=>fun _ _ _ _ _ _ _ _ _ _ _=>none
 |n+1=>Qn (H5 n)
def Qk(R8:OG)(p0:AC1)(p1:Int):Option Lw:=
 (El (p0.1,p0.2.1,p0.2.2.1,())).bind fun u1=>
 cond (!u1.1.1)
  (some (((((),(),0,()),false,()),()),([],[],())))
 ((DQ (p0.1,p0.2.1,p0.2.2.1,())).bind fun u2=>
 (Ep p1).bind fun u3=>
 cond (!u3.1.1)
  (some (((((),(),u2.1.1.2.2.1,()),false,()),()),(u2.2.1,u2.2.2.1,())))
 (R8 p1 0 p0.1 p0.2.1 p0.2.2.1 0 [] [] u2.1.1.2.2.1 [] u2.2.2.1))
def Ob(p0:AC1)(p1:Int):Option Lw:=Qk (H5 AZ) p0 p1
abbrev d_:Type:=ADK×ADR
def P8(Bk Bn:Int)(Az:Bool)(p1:AC3)(b0:AAZ)(b1:ABU)(b2:AAZ)(b3:ABK)(b4:ABX)(b5:ABZ)(b6:ABT)(b7:ABW):Option d_:=
 (FW (b0,Bk,b1,b2,b3,Bn,b4,b5,b6,b7,Az,()) p1.2.1).bind fun u1=>
 cond (u1.1.1 !=0)
  (some (((((),Bk,(),(),(),Bn,(),(),(),(),Az,()),u1.1.1,()),()),(b0,b1,b2,b3,b4,b5,b6,b7,())))
 (if(0:Int)≤p1.2.1∧p1.2.1<(b1.length:Int)then(
 (Js ((b1.getD (p1.2.1.toNat) ([],[],0,())).1,(b1.getD (p1.2.1.toNat) ([],[],0,())).2.1,(b1.getD (p1.2.1.toNat) ([],[],0,())).2.2.1,()) p1.2.2.1).bind fun u2=>
 cond (p1.1==16)
  (if(0:Int)≤p1.2.1∧p1.2.1<(b1.length:Int)then(
  (Ob ((b1.getD (p1.2.1.toNat) ([],[],0,())).1,(b1.getD (p1.2.1.toNat) ([],[],0,())).2.1,(b1.getD (p1.2.1.toNat) ([],[],0,())).2.2.1,()) Bn).bind fun u3=>
  cond (!u3.1.1.2.1)
   (some (((((),Bk,(),(),(),Bn,(),(),(),(),Az,()),4,()),()),(b0,b1,b2,b3,b4,b5,b6,b7,())))
  (if(0:Int)≤p1.2.1∧p1.2.1<(b1.length:Int)then(
  some (((((),Bk,(),(),(),Bn,(),(),(),(),Az,()),0,()),()),(b0,(b1.set (p1.2.1.toNat) (u3.2.1,u3.2.2.1,u3.1.1.1.2.2.1,())),b2,b3,b4,b5,b6,b7,())))else none))else none)
 (cond (!u2.1.1.2.1)
  (some (((((),Bk,(),(),(),Bn,(),(),(),(),Az,()),4,()),()),(b0,b1,b2,b3,b4,b5,b6,b7,())))
 (if(0:Int)≤p1.2.1∧p1.2.1<(b1.length:Int)then(
 some (((((),Bk,(),(),(),Bn,(),(),(),(),Az,()),0,()),()),(b0,(b1.set (p1.2.1.toNat) (u2.2.1,u2.2.2.1,u2.1.1.1.2.2.1,())),b2,b3,b4,b5,b6,b7,())))else none)))else none)
abbrev aN:Type:=ADK×(List Int×ABU×Unit×Unit×Unit×Unit×ABT×Unit×List Int×ABK×ABX×ABZ×ABW×Unit)
def V5(Bk Bn:Int)(Az:Bool)(p1:AC3)(b0:AAZ)(b1:ABU)(b2:AAZ)(b3:ABK)(b4:ABX)(b5:ABZ)(b6:ABT)(b7:ABW):Option aN:=
 cond (p1.1==1)
  ((R_ Bk Bn Az (p1.1,p1.2.1,p1.2.2.1,p1.2.2.2.1,p1.2.2.2.2.1,()) b0 b1 b2 b3 b4 b5 b6 b7).bind fun u1=>
  some (((((),u1.1.1.1.2.1,(),(),(),u1.1.1.1.2.2.2.2.2.1,(),(),(),(),u1.1.1.1.2.2.2.2.2.2.2.2.2.2.1,()),u1.1.1.2.1,()),()),(u1.2.1,u1.2.2.1,(),(),(),(),u1.2.2.2.2.2.2.2.1,(),u1.2.2.2.1,u1.2.2.2.2.2.2.2.2.2.1,u1.2.2.2.2.2.2.2.2.2.2.1,u1.2.2.2.2.2.2.2.2.2.2.2.1,u1.2.2.2.2.2.2.2.2.1,())))
 (cond (p1.1==2)
  ((US Bk Bn Az (p1.1,p1.2.1,p1.2.2.1,p1.2.2.2.1,p1.2.2.2.2.1,()) b0 b1 b2 b3 b4 b5 b6 b7).bind fun u5=>
  some (((((),u5.1.1.1.2.1,(),(),(),u5.1.1.1.2.2.2.2.2.1,(),(),(),(),u5.1.1.1.2.2.2.2.2.2.2.2.2.2.1,()),u5.1.1.2.1,()),()),(u5.2.1,u5.2.2.1,(),(),(),(),u5.2.2.2.2.2.2.2.1,(),u5.2.2.2.1,u5.2.2.2.2.1,u5.2.2.2.2.2.1,u5.2.2.2.2.2.2.1,u5.2.2.2.2.2.2.2.2.2.1,())))
 (cond (p1.1==3)
  ((QM Bk Bn Az (p1.1,p1.2.1,p1.2.2.1,p1.2.2.2.1,p1.2.2.2.2.1,()) b0 b1 b2 b3 b4 b5 b6 b7).bind fun u7=>
  some (((((),u7.1.1.1.2.1,(),(),(),u7.1.1.1.2.2.2.2.2.1,(),(),(),(),u7.1.1.1.2.2.2.2.2.2.2.2.2.2.1,()),u7.1.1.2.1,()),()),(u7.2.1,u7.2.2.1,(),(),(),(),u7.2.2.2.2.2.2.2.1,(),u7.2.2.2.1,u7.2.2.2.2.1,u7.2.2.2.2.2.1,u7.2.2.2.2.2.2.1,u7.2.2.2.2.2.2.2.2.1,())))
 (cond (p1.1==4)
  ((SH Bk Bn Az (p1.1,p1.2.1,p1.2.2.1,p1.2.2.2.1,p1.2.2.2.2.1,()) b0 b1 b2 b3 b4 b5 b6 b7).bind fun u8=>
  some (((((),u8.1.1.1.2.1,(),(),(),u8.1.1.1.2.2.2.2.2.1,(),(),(),(),u8.1.1.1.2.2.2.2.2.2.2.2.2.2.1,()),u8.1.1.2.1,()),()),(u8.2.1,u8.2.2.1,(),(),(),(),u8.2.2.2.2.2.2.2.1,(),u8.2.2.2.1,u8.2.2.2.2.1,u8.2.2.2.2.2.1,u8.2.2.2.2.2.2.1,u8.2.2.2.2.2.2.2.2.1,())))
 (cond (p1.1==6)
  ((Sh Bk Bn Az (p1.1,p1.2.1,p1.2.2.1,p1.2.2.2.1,p1.2.2.2.2.1,()) b0 b1 b2 b3 b4 b5 b6 b7).bind fun u9=>
  some (((((),u9.1.1.1.2.1,(),(),(),u9.1.1.1.2.2.2.2.2.1,(),(),(),(),u9.1.1.1.2.2.2.2.2.2.2.2.2.2.1,()),u9.1.1.2.1,()),()),(u9.2.1,u9.2.2.1,(),(),(),(),u9.2.2.2.2.2.2.2.1,(),u9.2.2.2.2.2.2.2.2.2.1,u9.2.2.2.2.1,u9.2.2.2.2.2.1,u9.2.2.2.2.2.2.1,u9.2.2.2.2.2.2.2.2.1,())))
 (cond (p1.1==7)
  ((SE Bk Bn Az (p1.1,p1.2.1,p1.2.2.1,p1.2.2.2.1,p1.2.2.2.2.1,()) b0 b1 b2 b3 b4 b5 b6 b7).bind fun QE=>
  some (((((),QE.1.1.1.2.1,(),(),(),QE.1.1.1.2.2.2.2.2.1,(),(),(),(),QE.1.1.1.2.2.2.2.2.2.2.2.2.2.1,()),QE.1.1.2.1,()),()),(QE.2.1,QE.2.2.1,(),(),(),(),QE.2.2.2.2.2.2.2.1,(),QE.2.2.2.2.2.2.2.2.2.1,QE.2.2.2.2.1,QE.2.2.2.2.2.1,QE.2.2.2.2.2.2.1,QE.2.2.2.2.2.2.2.2.1,())))
 (cond (p1.1==8)
  ((Sa Bk Bn Az b0 b1 b2 b3 b4 b5 b6 b7).bind fun Kp=>
  some (((((),Kp.1.1.1.2.1,(),(),(),Kp.1.1.1.2.2.2.2.2.1,(),(),(),(),Kp.1.1.1.2.2.2.2.2.2.2.2.2.2.1,()),Kp.1.1.2.1,()),()),(Kp.2.1,Kp.2.2.1,(),(),(),(),Kp.2.2.2.2.2.2.2.1,(),Kp.2.2.2.1,Kp.2.2.2.2.1,Kp.2.2.2.2.2.1,Kp.2.2.2.2.2.2.2.2.2.1,Kp.2.2.2.2.2.2.2.2.1,())))
 (cond (p1.1==9)
  ((SB Bk Bn Az (p1.1,p1.2.1,p1.2.2.1,p1.2.2.2.1,p1.2.2.2.2.1,()) b0 b1 b2 b3 b4 b5 b6 b7).bind fun V1=>
  some (((((),V1.1.1.1.2.1,(),(),(),V1.1.1.1.2.2.2.2.2.1,(),(),(),(),V1.1.1.1.2.2.2.2.2.2.2.2.2.2.1,()),V1.1.1.2.1,()),()),(V1.2.1,V1.2.2.1,(),(),(),(),V1.2.2.2.2.2.2.2.1,(),V1.2.2.2.1,V1.2.2.2.2.1,V1.2.2.2.2.2.1,V1.2.2.2.2.2.2.1,V1.2.2.2.2.2.2.2.2.1,())))
 (cond (p1.1==10)
  ((SN Bk Bn Az b0 b1 b2 b3 b4 b5 b6 b7).bind fun Zc=>
  some (((((),Zc.1.1.1.2.1,(),(),(),Zc.1.1.1.2.2.2.2.2.1,(),(),(),(),Zc.1.1.1.2.2.2.2.2.2.2.2.2.2.1,()),Zc.1.1.2.1,()),()),(Zc.2.1,Zc.2.2.1,(),(),(),(),Zc.2.2.2.2.2.2.2.1,(),Zc.2.2.2.1,Zc.2.2.2.2.1,Zc.2.2.2.2.2.1,Zc.2.2.2.2.2.2.1,Zc.2.2.2.2.2.2.2.2.1,())))
 (cond (p1.1==11)
  ((Uk Bk Bn Az (p1.1,p1.2.1,p1.2.2.1,p1.2.2.2.1,p1.2.2.2.2.1,()) b0 b1 b2 b3 b4 b5 b6 b7).bind fun fL=>
  some (((((),fL.1.1.1.2.1,(),(),(),fL.1.1.1.2.2.2.2.2.1,(),(),(),(),fL.1.1.1.2.2.2.2.2.2.2.2.2.2.1,()),fL.1.1.2.1,()),()),(fL.2.1,fL.2.2.1,(),(),(),(),fL.2.2.2.2.2.2.2.1,(),fL.2.2.2.1,fL.2.2.2.2.1,fL.2.2.2.2.2.1,fL.2.2.2.2.2.2.1,fL.2.2.2.2.2.2.2.2.1,())))
 (cond (p1.1==12)
  ((QP Bk Bn Az b0 b1 b2 b3 b4 b5 b6 b7).bind fun VB=>
  some (((((),VB.1.1.1.2.1,(),(),(),VB.1.1.1.2.2.2.2.2.1,(),(),(),(),VB.1.1.1.2.2.2.2.2.2.2.2.2.2.1,()),VB.1.1.2.1,()),()),(VB.2.1,VB.2.2.1,(),(),(),(),VB.2.2.2.2.2.2.2.1,(),VB.2.2.2.1,VB.2.2.2.2.2.2.2.2.2.1,VB.2.2.2.2.2.1,VB.2.2.2.2.2.2.2.2.2.2.1,VB.2.2.2.2.2.2.2.2.1,())))
 (cond (p1.1==13)
  ((OL (b0,Bk,()) (b3,Bn,()) p1.2.1).bind fun a_=>
  cond (!a_.1.1.2.1)
   (some (((((),Bk,(),(),(),Bn,(),(),(),(),Az,()),4,()),()),(b0,b1,(),(),(),(),b6,(),b2,b3,b4,b5,b7,())))
  (some (((((),Bk,(),(),(),a_.1.1.1.2.1,(),(),(),(),Az,()),0,()),()),(b0,b1,(),(),(),(),b6,(),b2,a_.2.1,b4,b5,b7,()))))
 (cond (p1.1==14)
  ((Sj Bk Bn Az (p1.1,p1.2.1,p1.2.2.1,p1.2.2.2.1,p1.2.2.2.2.1,()) b0 b1 b2 b3 b4 b5 b6 b7).bind fun Pt=>
  some (((((),Pt.1.1.1.2.1,(),(),(),Pt.1.1.1.2.2.2.2.2.1,(),(),(),(),Pt.1.1.1.2.2.2.2.2.2.2.2.2.2.1,()),Pt.1.1.2.1,()),()),(Pt.2.1,Pt.2.2.1,(),(),(),(),Pt.2.2.2.2.2.2.2.1,(),Pt.2.2.2.1,Pt.2.2.2.2.1,Pt.2.2.2.2.2.1,Pt.2.2.2.2.2.2.1,Pt.2.2.2.2.2.2.2.2.1,())))
 (cond (p1.1==15)
  ((Rx Bk Bn Az (p1.1,p1.2.1,p1.2.2.1,p1.2.2.2.1,p1.2.2.2.2.1,()) b0 b1 b2 b3 b4 b5 b6 b7).bind fun jd=>
  some (((((),jd.1.1.1.2.1,(),(),(),jd.1.1.1.2.2.2.2.2.1,(),(),(),(),jd.1.1.1.2.2.2.2.2.2.2.2.2.2.1,()),jd.1.1.2.1,()),()),(jd.2.1,jd.2.2.1,(),(),(),(),jd.2.2.2.2.2.2.2.1,(),jd.2.2.2.1,jd.2.2.2.2.1,jd.2.2.2.2.2.2.2.2.2.1,jd.2.2.2.2.2.2.1,jd.2.2.2.2.2.2.2.2.1,())))
 ((P8 Bk Bn Az (p1.1,p1.2.1,p1.2.2.1,p1.2.2.2.1,p1.2.2.2.2.1,()) b0 b1 b2 b3 b4 b5 b6 b7).bind fun WK=>
 some (((((),WK.1.1.1.2.1,(),(),(),WK.1.1.1.2.2.2.2.2.1,(),(),(),(),WK.1.1.1.2.2.2.2.2.2.2.2.2.2.1,()),WK.1.1.2.1,()),()),(WK.2.1,WK.2.2.1,(),(),(),(),WK.2.2.2.2.2.2.2.1,(),WK.2.2.2.1,WK.2.2.2.2.1,WK.2.2.2.2.2.1,WK.2.2.2.2.2.2.1,WK.2.2.2.2.2.2.2.2.1,()))))))))))))))))
abbrev gh:Type:=ADK×ADR
def SY(p0:ACg)(p1:AC3):Option gh:=
 (Eu (p0.1,p0.2.1,p0.2.2.1,p0.2.2.2.1,p0.2.2.2.2.1,p0.2.2.2.2.2.1,p0.2.2.2.2.2.2.1,p0.2.2.2.2.2.2.2.1,p0.2.2.2.2.2.2.2.2.1,p0.2.2.2.2.2.2.2.2.2.1,p0.2.2.2.2.2.2.2.2.2.2.1,())).bind fun u1=>
 cond (!u1.1.1)
  (some (((((),0,(),(),(),0,(),(),(),(),false,()),1,()),()),([],[],[],[],[],[],[],[],())))
 ((T7 (p1.1,p1.2.1,p1.2.2.1,p1.2.2.2.1,p1.2.2.2.2.1,())).bind fun u2=>
 cond (!u2.1.1)
  (some (((((),0,(),(),(),0,(),(),(),(),false,()),1,()),()),([],[],[],[],[],[],[],[],())))
 ((L7 (p0.1,p0.2.1,p0.2.2.1,p0.2.2.2.1,p0.2.2.2.2.1,p0.2.2.2.2.2.1,p0.2.2.2.2.2.2.1,p0.2.2.2.2.2.2.2.1,p0.2.2.2.2.2.2.2.2.1,p0.2.2.2.2.2.2.2.2.2.1,p0.2.2.2.2.2.2.2.2.2.2.1,())).bind fun u3=>
 (V5 u3.1.1.2.1 u3.1.1.2.2.2.2.2.1 u3.1.1.2.2.2.2.2.2.2.2.2.2.1 (p1.1,p1.2.1,p1.2.2.1,p1.2.2.2.1,p1.2.2.2.2.1,()) u3.2.1 u3.2.2.1 u3.2.2.2.1 u3.2.2.2.2.1 u3.2.2.2.2.2.1 u3.2.2.2.2.2.2.1 u3.2.2.2.2.2.2.2.1 u3.2.2.2.2.2.2.2.2.1).bind fun u4=>
 cond (u4.1.1.2.1 !=0)
  ((L7 (p0.1,p0.2.1,p0.2.2.1,p0.2.2.2.1,p0.2.2.2.2.1,p0.2.2.2.2.2.1,p0.2.2.2.2.2.2.1,p0.2.2.2.2.2.2.2.1,p0.2.2.2.2.2.2.2.2.1,p0.2.2.2.2.2.2.2.2.2.1,p0.2.2.2.2.2.2.2.2.2.2.1,())).bind fun Hc=>
  some (((((),Hc.1.1.2.1,(),(),(),Hc.1.1.2.2.2.2.2.1,(),(),(),(),Hc.1.1.2.2.2.2.2.2.2.2.2.2.1,()),u4.1.1.2.1,()),()),(Hc.2.1,Hc.2.2.1,Hc.2.2.2.1,Hc.2.2.2.2.1,Hc.2.2.2.2.2.1,Hc.2.2.2.2.2.2.1,Hc.2.2.2.2.2.2.2.1,Hc.2.2.2.2.2.2.2.2.1,())))
 (some (((((),u4.1.1.1.2.1,(),(),(),u4.1.1.1.2.2.2.2.2.1,(),(),(),(),u4.1.1.1.2.2.2.2.2.2.2.2.2.2.1,()),u4.1.1.2.1,()),()),(u4.2.1,u4.2.2.1,u4.2.2.2.2.2.2.2.2.2.1,u4.2.2.2.2.2.2.2.2.2.2.1,u4.2.2.2.2.2.2.2.2.2.2.2.1,u4.2.2.2.2.2.2.2.2.2.2.2.2.1,u4.2.2.2.2.2.2.2.1,u4.2.2.2.2.2.2.2.2.2.2.2.2.2.1,())))))
abbrev CT:Type:=(AHz×Unit)×(AC_×Unit×Unit×Unit×Unit×Unit×Unit×Unit×Unit×(List AC3)×List Int×ABU×List Int×ABK×ABX×ABZ×ABT×ABW×Unit)
abbrev Fh:Type:=Int→Int→List Int→Int→Int→Int→Int→Bool→List Int→ABU→List Int→ABK→ABX→ABZ→ABT→ABW→Int→Int→Bool→List Int→ABU→List Int→ABK→ABX→ABZ→ABT→ABW→Int→List Int→List Int→Option CT
abbrev Fi:Type:=Int→List Int→Int→Int→Int→Int→Bool→List Int→ABU→List Int→ABK→ABX→ABZ→ABT→ABW→Int→Int→Bool→List Int→ABU→List Int→ABK→ABX→ABZ→ABT→ABW→Int→List Int→List Int→Option CT
abbrev FH:Type:=Int→Int→List Int→Int→Int→Int→Int→Bool→List Int→ABU→List Int→ABK→ABX→ABZ→ABT→ABW→Int→Int→Bool→List Int→ABU→List Int→ABK→ABX→ABZ→ABT→ABW→Int→Int→Bool→Int→Int→Bool→List Int→ABU→List Int→ABK→ABX→ABZ→ABT→ABW→(List AC3)→Option CT
def Nh(R4:Fh)(R7:Fi)(R14:FH)(t1 t9:Int)(AH:AAZ)(AJ AM Ai EE:Int)(Fq:Bool)(b2:AAZ)(b3:ABU)(b4:AAZ)(b5:ABK)(b6:ABX)(b7:ABZ)(b8:ABT)(b9:ABW)(Dx FV:Int)(DC:Bool)(Ge:AAZ)(D2:ABU)(GJ:AAZ)(F8:ABK)(ES:ABX)(Ey:ABZ)(FF:ABT)(VZ:ABW)(Bq:Int)(b20 b21:AAZ):Option CT:=
 cond ((decide (t9<(b20.length:Int))))
  (if b21.length+1≤Dd then(
  R4 t1 (AX (t9+1)) AH AJ AM Ai EE Fq b2 b3 b4 b5 b6 b7 b8 b9 Dx FV DC Ge D2 GJ F8 ES Ey FF VZ Bq b20 (b21++[t9]))else none)
 (R7 t1 AH AJ AM Ai EE Fq b2 b3 b4 b5 b6 b7 b8 b9 Dx FV DC Ge D2 GJ F8 ES Ey FF VZ Bq b20 b21)
def Nr(R4:Fh)(R7:Fi)(R14:FH)(t1:Int)(AH:AAZ)(AJ AM Ai EE:Int)(Fq:Bool)(b2:AAZ)(b3:ABU)(b4:AAZ)(b5:ABK)(b6:ABX)(b7:ABZ)(b8:ABT)(b9:ABW)(Dx FV:Int)(DC:Bool)(Ge:AAZ)(D2:ABU)(GJ:AAZ)(F8:ABK)(ES:ABX)(Ey:ABZ)(FF:ABT)(VZ:ABW)(Bq:Int)(b20 b21:AAZ):Option CT:=
 cond (decide (Bq>1))
  ((DU (b20,Bq,()) b21).bind fun u3=>
  cond (!u3.1.1)
   (R7 t1 AH AJ AM Ai EE Fq b2 b3 b4 b5 b6 b7 b8 b9 Dx FV DC Ge D2 GJ F8 ES Ey FF VZ (AX (Bq-1)) b20 b21)
  ((FY (b20,Bq,())).bind fun u4=>
  (AF (AX (t1+1)) AH AJ AM).bind fun u5=>
  R14 u5.1.1 0 u5.2.1.1 u5.2.1.2.1 u5.2.1.2.2.1 Ai EE Fq b2 b3 b4 b5 b6 b7 b8 b9 Dx FV DC Ge D2 GJ F8 ES Ey FF VZ u4.1.1.1.2.1 u4.1.1.1.2.2.2.2.2.1 u4.1.1.1.2.2.2.2.2.2.2.2.2.2.1 u4.1.1.1.2.1 u4.1.1.1.2.2.2.2.2.1 u4.1.1.1.2.2.2.2.2.2.2.2.2.2.1 u4.2.1 u4.2.2.1 u4.2.2.2.1 u4.2.2.2.2.1 u4.2.2.2.2.2.1 u4.2.2.2.2.2.2.1 u4.2.2.2.2.2.2.2.1 u4.2.2.2.2.2.2.2.2.1 []))
 ((FY (b20,Bq,())).bind fun u6=>
 (AF (AX (t1+1)) AH AJ AM).bind fun u7=>
 R14 u7.1.1 0 u7.2.1.1 u7.2.1.2.1 u7.2.1.2.2.1 Ai EE Fq b2 b3 b4 b5 b6 b7 b8 b9 Dx FV DC Ge D2 GJ F8 ES Ey FF VZ u6.1.1.1.2.1 u6.1.1.1.2.2.2.2.2.1 u6.1.1.1.2.2.2.2.2.2.2.2.2.2.1 u6.1.1.1.2.1 u6.1.1.1.2.2.2.2.2.1 u6.1.1.1.2.2.2.2.2.2.2.2.2.2.1 u6.2.1 u6.2.2.1 u6.2.2.2.1 u6.2.2.2.2.1 u6.2.2.2.2.2.1 u6.2.2.2.2.2.2.1 u6.2.2.2.2.2.2.2.1 u6.2.2.2.2.2.2.2.2.1 [])
def Mn(R4:Fh)(R7:Fi)(R14:FH)(t14 t15:Int)(AH:AAZ)(AJ AM Ai EE:Int)(Fq:Bool)(b2:AAZ)(b3:ABU)(b4:AAZ)(b5:ABK)(b6:ABX)(b7:ABZ)(b8:ABT)(b9:ABW)(Dx FV:Int)(DC:Bool)(Ge:AAZ)(D2:ABU)(GJ:AAZ)(F8:ABK)(ES:ABX)(Ey:ABZ)(FF:ABT)(VZ:ABW)(Bq Q8:Int)(o5:Bool)(p7 p_:Int)(lV:Bool)(b29:AAZ)(b30:ABU)(b31:AAZ)(b32:ABK)(b33:ABX)(b34:ABZ)(b35:ABT)(b36:ABW)(b37:List AC3):Option CT:=
 cond (decide (t15<t14))
  ((MF (b29,p7,b30,b31,b32,p_,b33,b34,b35,b36,lV,()) AH AJ AM).bind fun u8=>
  if b37.length+1≤Dd then(
  let x9:List AC3:=b37++[(u8.1.1.1,u8.1.1.2.1,u8.1.1.2.2.1,u8.1.1.2.2.2.1,u8.1.1.2.2.2.2.1,())]
  (SY (b29,p7,b30,b31,b32,p_,b33,b34,b35,b36,lV,()) (u8.1.1.1,u8.1.1.2.1,u8.1.1.2.2.1,u8.1.1.2.2.2.1,u8.1.1.2.2.2.2.1,())).bind fun Hc=>
  cond (Hc.1.1.2.1==0)
   (R14 t14 (AX (t15+1)) u8.2.1.1 u8.2.1.2.1 u8.2.1.2.2.1 Ai EE Fq b2 b3 b4 b5 b6 b7 b8 b9 Dx FV DC Ge D2 GJ F8 ES Ey FF VZ Bq Q8 o5 Hc.1.1.1.2.1 Hc.1.1.1.2.2.2.2.2.1 Hc.1.1.1.2.2.2.2.2.2.2.2.2.2.1 Hc.2.1 Hc.2.2.1 Hc.2.2.2.1 Hc.2.2.2.2.1 Hc.2.2.2.2.2.1 Hc.2.2.2.2.2.2.1 Hc.2.2.2.2.2.2.2.1 Hc.2.2.2.2.2.2.2.2.1 x9)
  (R14 t14 (AX (t15+1)) u8.2.1.1 u8.2.1.2.1 u8.2.1.2.2.1 Ai EE Fq b2 b3 b4 b5 b6 b7 b8 b9 Dx FV DC Ge D2 GJ F8 ES Ey FF VZ Bq Q8 o5 p7 p_ lV b29 b30 b31 b32 b33 b34 b35 b36 x9))else none)
 (some (((((),Bq,(),(),(),Q8,(),(),(),(),o5,()),(),((),p7,(),(),(),p_,(),(),(),(),lV,()),()),()),((AH,AJ,AM,()),(),(),(),(),(),(),(),(),b37,b29,b30,b31,b32,b33,b34,b35,b36,())))
mutual
def DO:Nat→Fh
 |0=>fun _ _ _ _ _ _ _ _ _ _ _ _ _ _ _ _ _ _ _ _ _ _ _ _ _ _ _ _ _ _=>none
 |n+1=>Nh (DO n) (DT n) (Cj n)
def DT:Nat→Fi
 |0=>fun _ _ _ _ _ _ _ _ _ _ _ _ _ _ _ _ _ _ _ _ _ _ _ _ _ _ _ _ _=>none
 |n+1=>Nr (DO n) (DT n) (Cj n)
def Cj:Nat→FH
 |0=>fun _ _ _ _ _ _ _ _ _ _ _ _ _ _ _ _ _ _ _ _ _ _ _ _ _ _ _ _ _ _ _ _ _ _ _ _ _ _ _ _ _ _=>none
 |n+1=>Mn (DO n) (DT n) (Cj n)
end
def Nk(R4:Fh)(R7:Fi)(R14:FH)(p1:Int)(AH:AAZ)(AJ AM:Int):Option CT:=
 (Iu AH AJ AM).bind fun u1=>
 R4 p1 0 u1.2.1.1 u1.2.1.2.1 u1.2.1.2.2.1 0 0 false [] [] [] [] [] [] [] [] 0 0 false [] [] [] [] [] [] [] [] u1.1.1.2.1 u1.2.2.1 []
def H0(p1:Int)(AH:AAZ)(AJ AM:Int):Option CT:=Nk (DO AZ) (DT AZ) (Cj AZ) p1 AH AJ AM
abbrev ZQ:Type:=AGg×ADN
def JD(AH:AAZ)(AJ AM:Int):Option ZQ:=
 (AF 3 AH AJ AM).bind fun u1=>
 (AF 6 u1.2.1.1 u1.2.1.2.1 u1.2.1.2.2.1).bind fun u2=>
 (Bh (AX (1+u1.1.1)) (AX (1+u2.1.1))).bind fun u3=>
 (E8 [[],[97],[98,99],[0],[119,111,114,100]] u2.2.1.1 u2.2.1.2.1 u2.2.1.2.2.1).bind fun u4=>
 (Ao 3 u4.2.1.1 u4.2.1.2.1 u4.2.1.2.2.1).bind fun u5=>
 cond (u5.1.1)
  ((B_ u3.1.1).bind fun u6=>
  (AF 3 u5.2.1.1 u5.2.1.2.1 u5.2.1.2.2.1).bind fun u7=>
  let x8:Int:=AX ((AX (u6.1.1+1))+u7.1.1)
  (Ao 2 u7.2.1.1 u7.2.1.2.1 u7.2.1.2.2.1).bind fun u9=>
  cond (u9.1.1)
   (some (((u3.1.1,x8,true,[],()),()),((u9.2.1.1,u9.2.1.2.1,u9.2.1.2.2.1,()),())))
  (some (((u3.1.1,x8,false,u4.1.1,()),()),((u9.2.1.1,u9.2.1.2.1,u9.2.1.2.2.1,()),()))))
 (some (((u3.1.1,0,false,u4.1.1,()),()),((u5.2.1.1,u5.2.1.2.1,u5.2.1.2.2.1,()),())))
abbrev Bu:Type:=AEP×AH0
abbrev GW:Type:=Int→Int→List Int→Int→Int→Int→ABV→ABV→Int→ABV→ABV→Option Bu
abbrev Fv:Type:=Int→List Int→Int→Int→Int→ABV→ABV→Int→ABV→ABV→Option Bu
abbrev Fu:Type:=Int→Int→List Int→Int→Int→Int→ABV→ABV→Int→ABV→ABV→Option Bu
def Oc(R4:GW)(R20:Fv)(R23:Fu)(t4 t5:Int)(AH:AAZ)(AJ AM CS:Int)(b2 b3:ABV)(K9:Int)(b5 b6:ABV):Option Bu:=
 cond (decide (t5<t4))
  ((JD AH AJ AM).bind fun u2=>
  (KC (b5,b6,K9,()) (u2.1.1.1,u2.1.1.2.1,u2.1.1.2.2.1,u2.1.1.2.2.2.1,())).bind fun u3=>
  (AF 6 u2.2.1.1 u2.2.1.2.1 u2.2.1.2.2.1).bind fun u4=>
  cond (u4.1.1==0)
   ((HF (b5,b6,K9,())).bind fun u5=>
   cond (u5.1.1.2.1)
    (R4 t4 (AX (t5+1)) u4.2.1.1 u4.2.1.2.1 u4.2.1.2.2.1 CS b2 b3 u5.1.1.1.2.2.1 u5.2.1 u5.2.2.1)
   (R4 t4 (AX (t5+1)) u4.2.1.1 u4.2.1.2.1 u4.2.1.2.2.1 CS b2 b3 K9 b5 b6))
  (cond (u4.1.1==1)
   ((HF (u3.2.1,u3.2.2.1,u3.1.1.1.2.2.1,())).bind fun u6=>
   cond (u6.1.1.2.1)
    (R4 t4 (AX (t5+1)) u4.2.1.1 u4.2.1.2.1 u4.2.1.2.2.1 CS b2 b3 u6.1.1.1.2.2.1 u6.2.1 u6.2.2.1)
   (R4 t4 (AX (t5+1)) u4.2.1.1 u4.2.1.2.1 u4.2.1.2.2.1 CS b2 b3 K9 b5 b6))
  (cond (u4.1.1==2)
   ((Ao 3 u4.2.1.1 u4.2.1.2.1 u4.2.1.2.2.1).bind fun u7=>
   cond (u7.1.1)
    ((AF 4 u7.2.1.1 u7.2.1.2.1 u7.2.1.2.2.1).bind fun u8=>
    (LW (b5,b6,K9,()) u8.1.1).bind fun u9=>
    cond (u9.1.1.2.1)
     (R4 t4 (AX (t5+1)) u8.2.1.1 u8.2.1.2.1 u8.2.1.2.2.1 CS b2 b3 u9.1.1.1.2.2.1 u9.2.1 u9.2.2.1)
    (R4 t4 (AX (t5+1)) u8.2.1.1 u8.2.1.2.1 u8.2.1.2.2.1 CS b2 b3 K9 b5 b6))
   (cond (u3.1.1.2.1)
    (R4 t4 (AX (t5+1)) u7.2.1.1 u7.2.1.2.1 u7.2.1.2.2.1 CS b2 b3 u3.1.1.1.2.2.1 u3.2.1 u3.2.2.1)
   (R4 t4 (AX (t5+1)) u7.2.1.1 u7.2.1.2.1 u7.2.1.2.2.1 CS b2 b3 K9 b5 b6)))
  (cond (u3.1.1.2.1)
   (R4 t4 (AX (t5+1)) u4.2.1.1 u4.2.1.2.1 u4.2.1.2.2.1 CS b2 b3 u3.1.1.1.2.2.1 u3.2.1 u3.2.2.1)
  (R4 t4 (AX (t5+1)) u4.2.1.1 u4.2.1.2.1 u4.2.1.2.2.1 CS b2 b3 K9 b5 b6)))))
 ((Ao 40 AH AJ AM).bind fun ag=>
 cond (ag.1.1)
  (R20 1 ag.2.1.1 ag.2.1.2.1 ag.2.1.2.2.1 CS b2 b3 K9 [] b6)
 (some ((((),(),K9,()),()),((ag.2.1.1,ag.2.1.2.1,ag.2.1.2.2.1,()),b5,b6,()))))
def Nt(R4:GW)(R20:Fv)(R23:Fu)(t8:Int)(AH:AAZ)(AJ AM CS:Int)(b2 b3:ABV)(K9:Int)(b5 b6:ABV):Option Bu:=
 cond (decide (t8≤4))
  (R23 t8 1 AH AJ AM CS b2 b3 K9 b5 b6)
 (some ((((),(),K9,()),()),((AH,AJ,AM,()),b5,b6,())))
def Nm(R4:GW)(R20:Fv)(R23:Fu)(t8 t9:Int)(AH:AAZ)(AJ AM CS:Int)(b2 b3:ABV)(K9:Int)(b5 b6:ABV):Option Bu:=
 cond (decide (t9≤50))
  ((Bh t8 t9).bind fun aD=>
  if b5.length+1≤Dd then(
  R23 t8 (AX (t9+1)) AH AJ AM CS b2 b3 K9 (b5++[(aD.1.1,0,false,[],())]) b6)else none)
 (R20 (AX (t8+1)) AH AJ AM CS b2 b3 K9 b5 b6)
mutual
def C6:Nat→GW
 |0=>fun _ _ _ _ _ _ _ _ _ _ _=>none
 |n+1=>Oc (C6 n) (DS n) (DM n)
def DS:Nat→Fv
 |0=>fun _ _ _ _ _ _ _ _ _ _=>none
 |n+1=>Nt (C6 n) (DS n) (DM n)
def DM:Nat→Fu
 |0=>fun _ _ _ _ _ _ _ _ _ _ _=>none
 |n+1=>Nm (C6 n) (DS n) (DM n)
end
def O2(R4:GW)(R20:Fv)(R23:Fu)(AH:AAZ)(AJ AM:Int):Option Bu:=
 (AF 8 AH AJ AM).bind fun u1=>
 R4 u1.1.1 0 u1.2.1.1 u1.2.1.2.1 u1.2.1.2.2.1 0 [] [] 0 [] []
def EO(AH:AAZ)(AJ AM:Int):Option Bu:=O2 (C6 AZ) (DS AZ) (DM AZ) AH AJ AM
abbrev NN:Type:=ACx×ADN
def Cl(AH:AAZ)(AJ AM:Int):Option NN:=
 (AF 3 AH AJ AM).bind fun u1=>
 (AF 6 u1.2.1.1 u1.2.1.2.1 u1.2.1.2.2.1).bind fun u2=>
 (Bh (AX (1+u1.1.1)) (AX (1+u2.1.1))).bind fun u3=>
 (AF 15 u2.2.1.1 u2.2.1.2.1 u2.2.1.2.2.1).bind fun u4=>
 cond (u4.1.1==0)
  ((Bp [0,(-1),4294967296,4294967297,9223372036854775807,(-9223372036854775808)] u4.2.1.1 u4.2.1.2.1 u4.2.1.2.2.1).bind fun u5=>
  some ((u5.1.1,()),((u5.2.1.1,u5.2.1.2.1,u5.2.1.2.2.1,()),())))
 (cond (u4.1.1==1)
  ((Bp [0,30,31] u4.2.1.1 u4.2.1.2.1 u4.2.1.2.2.1).bind fun u6=>
  (Bp [0,60,61] u6.2.1.1 u6.2.1.2.1 u6.2.1.2.2.1).bind fun u7=>
  (Bh u6.1.1 u7.1.1).bind fun u8=>
  some ((u8.1.1,()),((u7.2.1.1,u7.2.1.2.1,u7.2.1.2.2.1,()),())))
 (some ((u3.1.1,()),((u4.2.1.1,u4.2.1.2.1,u4.2.1.2.2.1,()),()))))
abbrev iz:Type:=AGg×ADN
def NX(AH:AAZ)(AJ AM:Int):Option iz:=
 (JD AH AJ AM).bind fun u1=>
 (AF 15 u1.2.1.1 u1.2.1.2.1 u1.2.1.2.2.1).bind fun u2=>
 cond (u2.1.1==0)
  ((Cl u2.2.1.1 u2.2.1.2.1 u2.2.1.2.2.1).bind fun u3=>
  some (((u3.1.1,u1.1.1.2.1,u1.1.1.2.2.1,u1.1.1.2.2.2.1,()),()),((u3.2.1.1,u3.2.1.2.1,u3.2.1.2.2.1,()),())))
 (cond (u2.1.1==1)
  ((Bp [(-1),1,30,31] u2.2.1.1 u2.2.1.2.1 u2.2.1.2.2.1).bind fun u4=>
  some (((u1.1.1.1,u4.1.1,u1.1.1.2.2.1,u1.1.1.2.2.2.1,()),()),((u4.2.1.1,u4.2.1.2.1,u4.2.1.2.2.1,()),())))
 (cond (u2.1.1==2)
  (some (((u1.1.1.1,u1.1.1.2.1,true,u1.1.1.2.2.2.1,()),()),((u2.2.1.1,u2.2.1.2.1,u2.2.1.2.2.1,()),())))
 (cond (u2.1.1==3)
  ((AF 2 u2.2.1.1 u2.2.1.2.1 u2.2.1.2.2.1).bind fun u5=>
  if(0:Int)≤(AX (40+u5.1.1))∧(AX (40+u5.1.1))≤(AX (40+u5.1.1))∧(AX (40+u5.1.1))≤(Dd:Int)then(
  some (((u1.1.1.1,u1.1.1.2.1,u1.1.1.2.2.1,((List.replicate ((AX (40+u5.1.1)).toNat) 0).map fun n:Int=>UInt8.ofNat n.toNat),()),()),((u5.2.1.1,u5.2.1.2.1,u5.2.1.2.2.1,()),())))else none)
 (some (((u1.1.1.1,u1.1.1.2.1,u1.1.1.2.2.1,u1.1.1.2.2.2.1,()),()),((u2.2.1.1,u2.2.1.2.1,u2.2.1.2.2.1,()),()))))))
abbrev J_:Type:=AEP×AH0
abbrev RN:Type:=List Int→Int→Int→Int→ABV→ABV→Int→ABV→ABV→Option J_
def Tq(R10:RN)(AH:AAZ)(AJ AM CS:Int)(b2 b3:ABV)(K9:Int)(b5 b6:ABV):Option J_:=
 (AF 2 AH AJ AM).bind fun Kp=>
 cond ((decide ((b6.length:Int)<(AX (20+Kp.1.1)))))
  ((Bh 5 1).bind fun u16=>
  if b6.length+1≤Dd then(
  R10 Kp.2.1.1 Kp.2.1.2.1 Kp.2.1.2.2.1 CS b2 b3 K9 b5 (b6++[(u16.1.1,0,false,[],())]))else none)
 (some ((((),(),K9,()),()),((Kp.2.1.1,Kp.2.1.2.1,Kp.2.1.2.2.1,()),b5,b6,())))
def Jx:Nat→RN
 |0=>fun _ _ _ _ _ _ _ _ _=>none
 |n+1=>Tq (Jx n)
def UU(R10:RN)(AH:AAZ)(AJ AM:Int):Option J_:=
 (EO AH AJ AM).bind fun u1=>
 (AF 25 u1.2.1.1 u1.2.1.2.1 u1.2.1.2.2.1).bind fun u2=>
 cond (u2.1.1==0)
  ((Bp [(-1),30,31] u2.2.1.1 u2.2.1.2.1 u2.2.1.2.2.1).bind fun u3=>
  some ((((),(),u3.1.1,()),()),((u3.2.1.1,u3.2.1.2.1,u3.2.1.2.2.1,()),u1.2.2.1,u1.2.2.2.1,())))
 (cond (u2.1.1==1)
  ((NX u2.2.1.1 u2.2.1.2.1 u2.2.1.2.2.1).bind fun u4=>
  if u1.2.2.1.length+1≤Dd then(
  some ((((),(),u1.1.1.2.2.1,()),()),((u4.2.1.1,u4.2.1.2.1,u4.2.1.2.2.1,()),(u1.2.2.1++[(u4.1.1.1,u4.1.1.2.1,u4.1.1.2.2.1,u4.1.1.2.2.2.1,())]),u1.2.2.2.1,())))else none)
 (cond (u2.1.1==2)
  ((NX u2.2.1.1 u2.2.1.2.1 u2.2.1.2.2.1).bind fun u9=>
  if u1.2.2.2.1.length+1≤Dd then(
  some ((((),(),u1.1.1.2.2.1,()),()),((u9.2.1.1,u9.2.1.2.1,u9.2.1.2.2.1,()),u1.2.2.1,(u1.2.2.2.1++[(u9.1.1.1,u9.1.1.2.1,u9.1.1.2.2.1,u9.1.1.2.2.2.1,())]),())))else none)
 (cond (u2.1.1==3)
  (R10 u2.2.1.1 u2.2.1.2.1 u2.2.1.2.2.1 0 [] [] u1.1.1.2.2.1 u1.2.2.1 u1.2.2.2.1)
 (some ((((),(),u1.1.1.2.2.1,()),()),((u2.2.1.1,u2.2.1.2.1,u2.2.1.2.2.1,()),u1.2.2.1,u1.2.2.2.1,()))))))
def Qm(AH:AAZ)(AJ AM:Int):Option J_:=UU (Jx AZ) AH AJ AM
abbrev Jc:Type:=ADU×AH1
abbrev MT:Type:=Int→List Int→Int→Int→List Int→Int→Int→ABK→Int→ABK→Option Jc
def OJ(R3:MT)(t6:Int)(AH:AAZ)(AJ AM:Int)(Aw:AAZ)(Ai Ha:Int)(b3:ABK)(jg:Int)(b5:ABK):Option Jc:=
 (AF 7 AH AJ AM).bind fun u1=>
 cond (decide (t6<u1.1.1))
  ((Fg (Aw,Ai,()) u1.2.1.1 u1.2.1.2.1 u1.2.1.2.2.1).bind fun u2=>
  (JN (Aw,Ai,()) (b5,jg,()) u2.2.2.1).bind fun u3=>
  (AF 4 u2.2.1.1 u2.2.1.2.1 u2.2.1.2.2.1).bind fun u4=>
  cond (u4.1.1==0)
   ((AF 5 u4.2.1.1 u4.2.1.2.1 u4.2.1.2.2.1).bind fun u5=>
   (Mt (Aw,Ai,()) (b5,jg,()) (b5.length:Int) u5.1.1).bind fun u6=>
   cond (u6.1.1.2.1)
    (R3 (AX (t6+1)) u5.2.1.1 u5.2.1.2.1 u5.2.1.2.2.1 Aw Ai Ha b3 u6.1.1.1.2.1 u6.2.1)
   (R3 (AX (t6+1)) u5.2.1.1 u5.2.1.2.1 u5.2.1.2.2.1 Aw Ai Ha b3 jg b5))
  (cond (u4.1.1==1)
   ((AF 2 u4.2.1.1 u4.2.1.2.1 u4.2.1.2.2.1).bind fun u7=>
   (AF 4 u7.2.1.1 u7.2.1.2.1 u7.2.1.2.2.1).bind fun u8=>
   (Bh (AX (1+u7.1.1)) (AX (1+u8.1.1))).bind fun u9=>
   (OL (Aw,Ai,()) (b5,jg,()) u9.1.1).bind fun Hc=>
   cond (Hc.1.1.2.1)
    (R3 (AX (t6+1)) u8.2.1.1 u8.2.1.2.1 u8.2.1.2.2.1 Aw Ai Ha b3 Hc.1.1.1.2.1 Hc.2.1)
   (R3 (AX (t6+1)) u8.2.1.1 u8.2.1.2.1 u8.2.1.2.2.1 Aw Ai Ha b3 jg b5))
  (cond (u3.1.1.2.2.1)
   (R3 (AX (t6+1)) u4.2.1.1 u4.2.1.2.1 u4.2.1.2.2.1 Aw Ai Ha b3 u3.1.1.1.2.1 u3.2.1)
  (R3 (AX (t6+1)) u4.2.1.1 u4.2.1.2.1 u4.2.1.2.2.1 Aw Ai Ha b3 jg b5))))
 (some ((((),jg,()),()),((u1.2.1.1,u1.2.1.2.1,u1.2.1.2.2.1,()),b5,())))
def E4:Nat→MT
 |0=>fun _ _ _ _ _ _ _ _ _ _=>none
 |n+1=>OJ (E4 n)
def PE(R3:MT)(p1:ABd)(AH:AAZ)(AJ AM:Int):Option Jc:=
 R3 0 AH AJ AM p1.1 p1.2.1 0 [] 0 []
def Lq(p1:ABd)(AH:AAZ)(AJ AM:Int):Option Jc:=PE (E4 AZ) p1 AH AJ AM
abbrev J8:Type:=ADU×AH1
abbrev RQ:Type:=List Int→List Int→Int→Int→Int→ABK→Int→ABK→Option J8
def S1(R17:RQ)(t7 AH:AAZ)(AJ AM Ai:Int)(b2:ABK)(Xr:Int)(b4:ABK):Option J8:=
 (AF 2 AH AJ AM).bind fun QE=>
 cond ((decide ((b4.length:Int)<(AX (30+QE.1.1)))))
  (if b4.length+1≤Dd then(
  R17 t7 QE.2.1.1 QE.2.1.2.1 QE.2.1.2.2.1 Ai b2 Xr (b4++[(t7,false,0,())]))else none)
 (some ((((),Xr,()),()),((QE.2.1.1,QE.2.1.2.1,QE.2.1.2.2.1,()),b4,())))
def J2:Nat→RQ
 |0=>fun _ _ _ _ _ _ _ _=>none
 |n+1=>S1 (J2 n)
def UE(R17:RQ)(p1:ABd)(AH:AAZ)(AJ AM:Int):Option J8:=
 (Lq (p1.1,p1.2.1,()) AH AJ AM).bind fun u1=>
 let x2:Int:=(u1.2.2.1.length:Int)
 (AF 25 u1.2.1.1 u1.2.1.2.1 u1.2.1.2.2.1).bind fun u3=>
 cond (u3.1.1==0)
  ((Cl u3.2.1.1 u3.2.1.2.1 u3.2.1.2.2.1).bind fun u4=>
  some ((((),u4.1.1,()),()),((u4.2.1.1,u4.2.1.2.1,u4.2.1.2.2.1,()),u1.2.2.1,())))
 (cond (u3.1.1==1)
  (cond (decide (x2>0))
   (if(0:Int)≤AX (x2-1)∧AX (x2-1)<(u1.2.2.1.length:Int)then(
   some ((((),u1.1.1.2.1,()),()),((u3.2.1.1,u3.2.1.2.1,u3.2.1.2.2.1,()),(u1.2.2.1.set ((AX (x2-1)).toNat) ((u1.2.2.1.getD ((AX (x2-1)).toNat) ([],false,0,())).1,true,(u1.2.2.1.getD ((AX (x2-1)).toNat) ([],false,0,())).2.2.1,())),())))else none)
  (some ((((),u1.1.1.2.1,()),()),((u3.2.1.1,u3.2.1.2.1,u3.2.1.2.2.1,()),u1.2.2.1,()))))
 (cond (u3.1.1==2)
  (cond (decide (x2>0))
   ((Bp [(-1),1,60,61] u3.2.1.1 u3.2.1.2.1 u3.2.1.2.2.1).bind fun u6=>
   if(0:Int)≤(0:Int)∧(0:Int)<(u1.2.2.1.length:Int)then(
   some ((((),u1.1.1.2.1,()),()),((u6.2.1.1,u6.2.1.2.1,u6.2.1.2.2.1,()),(u1.2.2.1.set 0 ((u1.2.2.1.getD 0 ([],false,0,())).1,(u1.2.2.1.getD 0 ([],false,0,())).2.1,u6.1.1,())),())))else none)
  (some ((((),u1.1.1.2.1,()),()),((u3.2.1.1,u3.2.1.2.1,u3.2.1.2.2.1,()),u1.2.2.1,()))))
 (cond (u3.1.1==3)
  (cond (decide (x2>0))
   ((Db (p1.1,p1.2.1,()) u3.2.1.1 u3.2.1.2.1 u3.2.1.2.2.1).bind fun u8=>
   if(0:Int)≤(0:Int)∧(0:Int)<(u1.2.2.1.length:Int)then(
   some ((((),u1.1.1.2.1,()),()),((u8.2.1.1,u8.2.1.2.1,u8.2.1.2.2.1,()),(u1.2.2.1.set 0 (u8.2.2.1,(u1.2.2.1.getD 0 ([],false,0,())).2.1,(u1.2.2.1.getD 0 ([],false,0,())).2.2.1,())),())))else none)
  (some ((((),u1.1.1.2.1,()),()),((u3.2.1.1,u3.2.1.2.1,u3.2.1.2.2.1,()),u1.2.2.1,()))))
 (cond (u3.1.1==4)
  ((Fg (p1.1,p1.2.1,()) u3.2.1.1 u3.2.1.2.1 u3.2.1.2.2.1).bind fun Hc=>
  R17 Hc.2.2.1 Hc.2.1.1 Hc.2.1.2.1 Hc.2.1.2.2.1 0 [] u1.1.1.2.1 u1.2.2.1)
 (some ((((),u1.1.1.2.1,()),()),((u3.2.1.1,u3.2.1.2.1,u3.2.1.2.2.1,()),u1.2.2.1,())))))))
def QT(p1:ABd)(AH:AAZ)(AJ AM:Int):Option J8:=UE (J2 AZ) p1 AH AJ AM
abbrev JY:Type:=AFa×AH2
abbrev MO:Type:=Int→List Int→Int→Int→List Int→Int→Int→ACs→Int→ACs→Option JY
def OI(R3:MO)(t6:Int)(AH:AAZ)(AJ AM:Int)(Aw:AAZ)(Ai Gw:Int)(b3:ACs)(mm:Int)(b5:ACs):Option JY:=
 (AF 14 AH AJ AM).bind fun u2=>
 cond (decide (t6<u2.1.1))
  ((E8 [[],[97],[98,99]] u2.2.1.1 u2.2.1.2.1 u2.2.1.2.2.1).bind fun u3=>
  (Et (Aw,Ai,()) (mm,b5,()) u3.1.1).bind fun u4=>
  (Ao 2 u3.2.1.1 u3.2.1.2.1 u3.2.1.2.2.1).bind fun u5=>
  cond (u5.1.1)
   ((Dk (b5.length:Int) 1).bind fun u6=>
   (AF u6.1.1 u5.2.1.1 u5.2.1.2.1 u5.2.1.2.2.1).bind fun u7=>
   (AF (Aw.length:Int) u7.2.1.1 u7.2.1.2.1 u7.2.1.2.2.1).bind fun u8=>
   (Cm (Aw,Ai,()) (mm,b5,()) (AX (1+u7.1.1)) u8.1.1).bind fun u9=>
   cond (u9.1.1.2.1)
    (R3 (AX (t6+1)) u8.2.1.1 u8.2.1.2.1 u8.2.1.2.2.1 Aw Ai Gw b3 u9.1.1.1.1 u9.2.1)
   (R3 (AX (t6+1)) u8.2.1.1 u8.2.1.2.1 u8.2.1.2.2.1 Aw Ai Gw b3 mm b5))
  (cond (u4.1.1.2.2.1)
   (R3 (AX (t6+1)) u5.2.1.1 u5.2.1.2.1 u5.2.1.2.2.1 Aw Ai Gw b3 u4.1.1.1.1 u4.2.1)
  (R3 (AX (t6+1)) u5.2.1.1 u5.2.1.2.1 u5.2.1.2.2.1 Aw Ai Gw b3 mm b5)))
 (some (((mm,(),()),()),((u2.2.1.1,u2.2.1.2.1,u2.2.1.2.2.1,()),b5,())))
def GU:Nat→MO
 |0=>fun _ _ _ _ _ _ _ _ _ _=>none
 |n+1=>OI (GU n)
def N4(R3:MO)(p1:ABd)(AH:AAZ)(AJ AM:Int):Option JY:=
 (AF 4 AH AJ AM).bind fun u1=>
 R3 0 u1.2.1.1 u1.2.1.2.1 u1.2.1.2.2.1 p1.1 p1.2.1 0 [] (AX (1+u1.1.1)) []
def MC(p1:ABd)(AH:AAZ)(AJ AM:Int):Option JY:=N4 (GU AZ) p1 AH AJ AM
abbrev KA:Type:=AFa×AH2
abbrev RE:Type:=List Int→Int→Int→Int→ACs→Int→ACs→Option KA
def NL(jy:RE)(AH:AAZ)(AJ AM Aw:Int)(b2:ACs)(ZY:Int)(b4:ACs):Option KA:=
 cond ((decide ((b4.length:Int)<60)))
  (cond ((decide ((b4.length:Int)>0)))
   (if(0:Int)≤(0:Int)∧(0:Int)<(b4.length:Int)then(
   if b4.length+1≤Dd then(
   jy AH AJ AM Aw b2 ZY (b4++[((b4.getD 0 ([],[],false,())).1,(b4.getD 0 ([],[],false,())).2.1,(b4.getD 0 ([],[],false,())).2.2.1,())]))else none)else none)
  (some (((ZY,(),()),()),((AH,AJ,AM,()),b4,()))))
 (some (((ZY,(),()),()),((AH,AJ,AM,()),b4,())))
def FC:Nat→RE
 |0=>fun _ _ _ _ _ _ _=>none
 |n+1=>NL (FC n)
def Kt(jy:RE)(p1:ABd)(AH:AAZ)(AJ AM:Int):Option KA:=
 (MC (p1.1,p1.2.1,()) AH AJ AM).bind fun u1=>
 (AF 25 u1.2.1.1 u1.2.1.2.1 u1.2.1.2.2.1).bind fun u2=>
 cond (u2.1.1==0)
  ((Bp [0,30,31] u2.2.1.1 u2.2.1.2.1 u2.2.1.2.2.1).bind fun u3=>
  some (((u3.1.1,(),()),()),((u3.2.1.1,u3.2.1.2.1,u3.2.1.2.2.1,()),u1.2.2.1,())))
 (cond (u2.1.1==1)
  (cond (decide ((u1.2.2.1.length:Int)>0))
   (if(0:Int)≤(0:Int)∧(0:Int)<(u1.2.2.1.length:Int)then(
   if(0:Int)≤(0:Int)∧(0:Int)<(u1.2.2.1.length:Int)then(
   some (((u1.1.1.1,(),()),()),((u2.2.1.1,u2.2.1.2.1,u2.2.1.2.2.1,()),(u1.2.2.1.set 0 ((u1.2.2.1.getD 0 ([],[],false,())).1,(u1.2.2.1.getD 0 ([],[],false,())).2.1,!((u1.2.2.1.getD 0 ([],[],false,())).2.2.1),())),())))else none)else none)
  (some (((u1.1.1.1,(),()),()),((u2.2.1.1,u2.2.1.2.1,u2.2.1.2.2.1,()),u1.2.2.1,()))))
 (cond (u2.1.1==2)
  ((AF 2 u2.2.1.1 u2.2.1.2.1 u2.2.1.2.2.1).bind fun u7=>
  if(0:Int)≤(AX (40+u7.1.1))∧(AX (40+u7.1.1))≤(AX (40+u7.1.1))∧(AX (40+u7.1.1))≤(Dd:Int)then(
  if u1.2.2.1.length+1≤Dd then(
  some (((u1.1.1.1,(),()),()),((u7.2.1.1,u7.2.1.2.1,u7.2.1.2.2.1,()),(u1.2.2.1++[(((List.replicate ((AX (40+u7.1.1)).toNat) 0).map fun n:Int=>UInt8.ofNat n.toNat),[],false,())]),())))else none)else none)
 (cond (u2.1.1==3)
  (jy u2.2.1.1 u2.2.1.2.1 u2.2.1.2.2.1 0 [] u1.1.1.1 u1.2.2.1)
 (some (((u1.1.1.1,(),()),()),((u2.2.1.1,u2.2.1.2.1,u2.2.1.2.2.1,()),u1.2.2.1,()))))))
def LZ(p1:ABd)(AH:AAZ)(AJ AM:Int):Option KA:=Kt (FC AZ) p1 AH AJ AM
abbrev Ek:Type:=AC8×AC7
abbrev RG:Type:=Int→List Int→Int→List Int→Option Ek
def S7(R3:RG)(t6:Int)(AH:AAZ)(AJ:Int)(b1:AAZ):Option Ek:=
 cond ((decide (t6<(AH.length:Int))))
  ((DU (AH,AJ,()) b1).bind fun u2=>
  cond (!u2.1.1)
   ((GM b1 t6).bind fun u3=>
   R3 (AX (t6+1)) AH AJ u3.2.1)
  (some (((),()),(b1,()))))
 (some (((),()),(b1,())))
def J1:Nat→RG
 |0=>fun _ _ _ _=>none
 |n+1=>S7 (J1 n)
def Sw(R3:RG)(p0:ABd)(p1:ACp):Option Ek:=
 if 0+p1.2.2.1.length≤Dd then(
 R3 0 p0.1 p0.2.1 p1.2.2.1)else none
def Jg(p0:ABd)(p1:ACp):Option Ek:=Sw (J1 AZ) p0 p1
abbrev FK:Type:=ADd×AH3
abbrev IX:Type:=Int→Int→List Int→Int→Int→List Int→Int→Int→Int→Bool→List Int→ABV→List AAZ→Int→Int→Bool→List Int→ABV→List AAZ→Option FK
abbrev H8:Type:=Int→List Int→Int→Int→List Int→Int→Int→Int→Bool→List Int→ABV→List AAZ→Int→Int→Bool→List Int→ABV→List AAZ→Option FK
def Ji(R4:IX)(fB:H8)(t6 t7:Int)(AH:AAZ)(AJ AM:Int)(Aw:AAZ)(Ai Gw Ha:Int)(N1:Bool)(b3:AAZ)(b4:ABV)(b5:List AAZ)(KI JE:Int)(KM:Bool)(b7:AAZ)(b8:ABV)(b9:List AAZ):Option FK:=
 cond (decide (t7<t6))
  ((AF (Aw.length:Int) AH AJ AM).bind fun u4=>
  (EO u4.2.1.1 u4.2.1.2.1 u4.2.1.2.2.1).bind fun u5=>
  (Gm (u5.2.2.1,u5.2.2.2.1,u5.1.1.2.2.1,()) JE).bind fun u6=>
  (Gj (Aw,Ai,()) (KI,JE,b7,b8,KM,b9,()) u4.1.1 u6.2.1).bind fun u7=>
  cond (u7.1.1.2.1)
   (R4 t6 (AX (t7+1)) u5.2.1.1 u5.2.1.2.1 u5.2.1.2.2.1 Aw Ai Gw Ha N1 b3 b4 b5 u7.1.1.1.1 u7.1.1.1.2.1 u7.1.1.1.2.2.2.2.1 u7.2.1 u7.2.2.1 u7.2.2.2.1)
  (R4 t6 (AX (t7+1)) u5.2.1.1 u5.2.1.2.1 u5.2.1.2.2.1 Aw Ai Gw Ha N1 b3 b4 b5 KI JE KM b7 b8 b9))
 ((Ao 3 AH AJ AM).bind fun Sk=>
 cond (Sk.1.1)
  (some (((KI,JE,(),(),KM,(),()),()),((Sk.2.1.1,Sk.2.1.2.1,Sk.2.1.2.2.1,()),b7,b8,b9,())))
 ((Jg (Aw,Ai,()) (KI,JE,b7,b8,KM,b9,())).bind fun Zc=>
 (Gl (Aw,Ai,()) (KI,JE,b7,b8,KM,b9,()) Zc.2.1).bind fun Qa=>
 cond (Qa.1.1.2.1)
  (fB 0 Sk.2.1.1 Sk.2.1.2.1 Sk.2.1.2.2.1 Aw Ai Gw Ha N1 b3 b4 b5 Qa.1.1.1.1 Qa.1.1.1.2.1 Qa.1.1.1.2.2.2.2.1 Qa.2.1 Qa.2.2.1 Qa.2.2.2.1)
 (fB 0 Sk.2.1.1 Sk.2.1.2.1 Sk.2.1.2.2.1 Aw Ai Gw Ha N1 b3 b4 b5 KI JE KM b7 b8 b9)))
def Ik(R4:IX)(fB:H8)(t12:Int)(AH:AAZ)(AJ AM:Int)(Aw:AAZ)(Ai Gw Ha:Int)(N1:Bool)(b3:AAZ)(b4:ABV)(b5:List AAZ)(KI JE:Int)(KM:Bool)(b7:AAZ)(b8:ABV)(b9:List AAZ):Option FK:=
 (AF 9 AH AJ AM).bind fun Jo=>
 cond ((decide (t12<Jo.1.1)))
  ((Dk (b9.length:Int) 1).bind fun aD=>
  (AF aD.1.1 Jo.2.1.1 Jo.2.1.2.1 Jo.2.1.2.2.1).bind fun a_=>
  (AF (Aw.length:Int) a_.2.1.1 a_.2.1.2.1 a_.2.1.2.2.1).bind fun Pt=>
  (DA (Aw,Ai,()) (KI,JE,b7,b8,KM,b9,()) (AX (1+a_.1.1)) Pt.1.1).bind fun Xl=>
  cond (Xl.1.1.2.1)
   (fB (AX (t12+1)) Pt.2.1.1 Pt.2.1.2.1 Pt.2.1.2.2.1 Aw Ai Gw Ha N1 b3 b4 b5 Xl.1.1.1.1 Xl.1.1.1.2.1 Xl.1.1.1.2.2.2.2.1 Xl.2.1 Xl.2.2.1 Xl.2.2.2.1)
  (fB (AX (t12+1)) Pt.2.1.1 Pt.2.1.2.1 Pt.2.1.2.2.1 Aw Ai Gw Ha N1 b3 b4 b5 KI JE KM b7 b8 b9))
 (some (((KI,JE,(),(),KM,(),()),()),((Jo.2.1.1,Jo.2.1.2.1,Jo.2.1.2.2.1,()),b7,b8,b9,())))
mutual
def BV:Nat→IX
 |0=>fun _ _ _ _ _ _ _ _ _ _ _ _ _ _ _ _ _ _ _=>none
 |n+1=>Ji (BV n) (Ay n)
def Ay:Nat→H8
 |0=>fun _ _ _ _ _ _ _ _ _ _ _ _ _ _ _ _ _ _=>none
 |n+1=>Ik (BV n) (Ay n)
end
def JS(R4:IX)(fB:H8)(p1:ABd)(AH:AAZ)(AJ AM:Int):Option FK:=
 (AF 2 AH AJ AM).bind fun u1=>
 (Jl (AX (1+u1.1.1)) 4).bind fun u2=>
 (AF 5 u1.2.1.1 u1.2.1.2.1 u1.2.1.2.2.1).bind fun u3=>
 R4 u3.1.1 0 u3.2.1.1 u3.2.1.2.1 u3.2.1.2.2.1 p1.1 p1.2.1 0 0 false [] [] [] u2.1.1.1 u2.1.1.2.1 u2.1.1.2.2.2.2.1 u2.2.1 u2.2.2.1 u2.2.2.2.1
def I0(p1:ABd)(AH:AAZ)(AJ AM:Int):Option FK:=JS (BV AZ) (Ay AZ) p1 AH AJ AM
abbrev U0:Type:=ADd×AH3
def Qo(p1:ABd)(AH:AAZ)(AJ AM:Int):Option U0:=
 (I0 (p1.1,p1.2.1,()) AH AJ AM).bind fun u1=>
 (AF 25 u1.2.1.1 u1.2.1.2.1 u1.2.1.2.2.1).bind fun u2=>
 cond (u2.1.1==0)
  ((Bp [u1.1.1.2.1,30,31] u2.2.1.1 u2.2.1.2.1 u2.2.1.2.2.1).bind fun u3=>
  some (((u3.1.1,u1.1.1.2.1,(),(),u1.1.1.2.2.2.2.1,(),()),()),((u3.2.1.1,u3.2.1.2.1,u3.2.1.2.2.1,()),u1.2.2.1,u1.2.2.2.1,u1.2.2.2.2.1,())))
 (cond (u2.1.1==1)
  (some (((u1.1.1.1,u1.1.1.2.1,(),(),!u1.1.1.2.2.2.2.1,(),()),()),((u2.2.1.1,u2.2.1.2.1,u2.2.1.2.2.1,()),u1.2.2.1,u1.2.2.2.1,u1.2.2.2.2.1,())))
 (cond (u2.1.1==2)
  ((Db (p1.1,p1.2.1,()) u2.2.1.1 u2.2.1.2.1 u2.2.1.2.2.1).bind fun u4=>
  if u1.2.2.2.2.1.length+1≤Dd then(
  some (((u1.1.1.1,u1.1.1.2.1,(),(),u1.1.1.2.2.2.2.1,(),()),()),((u4.2.1.1,u4.2.1.2.1,u4.2.1.2.2.1,()),u1.2.2.1,u1.2.2.2.1,(u1.2.2.2.2.1++[u4.2.2.1]),())))else none)
 (cond (u2.1.1==3)
  ((NX u2.2.1.1 u2.2.1.2.1 u2.2.1.2.2.1).bind fun u9=>
  if u1.2.2.2.1.length+1≤Dd then(
  some (((u1.1.1.1,u1.1.1.2.1,(),(),u1.1.1.2.2.2.2.1,(),()),()),((u9.2.1.1,u9.2.1.2.1,u9.2.1.2.2.1,()),u1.2.2.1,(u1.2.2.2.1++[(u9.1.1.1,u9.1.1.2.1,u9.1.1.2.2.1,u9.1.1.2.2.2.1,())]),u1.2.2.2.2.1,())))else none)
 (cond (u2.1.1==4)
  ((Db (p1.1,p1.2.1,()) u2.2.1.1 u2.2.1.2.1 u2.2.1.2.2.1).bind fun Kp=>
  some (((u1.1.1.1,u1.1.1.2.1,(),(),u1.1.1.2.2.2.2.1,(),()),()),((Kp.2.1.1,Kp.2.1.2.1,Kp.2.1.2.2.1,()),Kp.2.2.1,u1.2.2.2.1,u1.2.2.2.2.1,())))
 (some (((u1.1.1.1,u1.1.1.2.1,(),(),u1.1.1.2.2.2.2.1,(),()),()),((u2.2.1.1,u2.2.1.2.1,u2.2.1.2.2.1,()),u1.2.2.1,u1.2.2.2.1,u1.2.2.2.2.1,())))))))
abbrev EM:Type:=AEA×(AC_×AC0×Unit)
abbrev KS:Type:=Int→List Int→Int→Int→Int→Int→AC0→Int→Int→AC0→Option EM
def Mf(R3:KS)(t4:Int)(AH:AAZ)(AJ AM Aw Ai:Int)(b2:AC0)(ZY Xr:Int)(b4:AC0):Option EM:=
 (AF 4 AH AJ AM).bind fun u3=>
 cond (decide (t4<u3.1.1))
  ((AF 5 u3.2.1.1 u3.2.1.2.1 u3.2.1.2.2.1).bind fun u4=>
  (Cl u4.2.1.1 u4.2.1.2.1 u4.2.1.2.2.1).bind fun u5=>
  if b4.length+1≤Dd then(
  R3 (AX (t4+1)) u5.2.1.1 u5.2.1.2.1 u5.2.1.2.2.1 Aw Ai b2 ZY Xr (b4++[(AX (1+u4.1.1),u5.1.1,[],())]))else none)
 ((AF 25 u3.2.1.1 u3.2.1.2.1 u3.2.1.2.2.1).bind fun Tt=>
 cond (Tt.1.1==0)
  ((Bp [0,31,32] Tt.2.1.1 Tt.2.1.2.1 Tt.2.1.2.2.1).bind fun Kp=>
  some (((Kp.1.1,Xr,(),()),()),((Kp.2.1.1,Kp.2.1.2.1,Kp.2.1.2.2.1,()),b4,())))
 (cond (Tt.1.1==1)
  ((Bp [0,60,61,62] Tt.2.1.1 Tt.2.1.2.1 Tt.2.1.2.2.1).bind fun iZ=>
  some (((ZY,iZ.1.1,(),()),()),((iZ.2.1.1,iZ.2.1.2.1,iZ.2.1.2.2.1,()),b4,())))
 (cond (Tt.1.1==2)
  ((AF 2 Tt.2.1.1 Tt.2.1.2.1 Tt.2.1.2.2.1).bind fun u16=>
  if(0:Int)≤(AX (120+u16.1.1))∧(AX (120+u16.1.1))≤(AX (120+u16.1.1))∧(AX (120+u16.1.1))≤(Dd:Int)then(
  some (((ZY,Xr,(),()),()),((u16.2.1.1,u16.2.1.2.1,u16.2.1.2.2.1,()),(List.replicate ((AX (120+u16.1.1)).toNat) (0,0,[],())),())))else none)
 (some (((ZY,Xr,(),()),()),((Tt.2.1.1,Tt.2.1.2.1,Tt.2.1.2.2.1,()),b4,()))))))
def FJ:Nat→KS
 |0=>fun _ _ _ _ _ _ _ _ _ _=>none
 |n+1=>Mf (FJ n)
def Mh(R3:KS)(AH:AAZ)(AJ AM:Int):Option EM:=
 (AF 3 AH AJ AM).bind fun u1=>
 (AF 5 u1.2.1.1 u1.2.1.2.1 u1.2.1.2.2.1).bind fun u2=>
 R3 0 u2.2.1.1 u2.2.1.2.1 u2.2.1.2.2.1 0 0 [] (AX (1+u1.1.1)) (AX (1+u2.1.1)) []
def HK(AH:AAZ)(AJ AM:Int):Option EM:=Mh (FJ AZ) AH AJ AM
abbrev Yl:Type:=AD0×(AC_×List Int×ABU×List Int×ABK×ABX×ABZ×ABT×ABW×Unit)
def GK(p1 AH:AAZ)(AJ AM:Int):Option Yl:=
 (Qp p1 40 90).bind fun u1=>
 (H0 u1.1.1 AH AJ AM).bind fun u2=>
 let x4:AAZ:=u2.2.2.2.2.2.2.2.2.2.2.2.1
 let x5:ABU:=u2.2.2.2.2.2.2.2.2.2.2.2.2.1
 let x6:AAZ:=u2.2.2.2.2.2.2.2.2.2.2.2.2.2.1
 let x7:ABK:=u2.2.2.2.2.2.2.2.2.2.2.2.2.2.2.1
 let x8:ABX:=u2.2.2.2.2.2.2.2.2.2.2.2.2.2.2.2.1
 let x9:ABZ:=u2.2.2.2.2.2.2.2.2.2.2.2.2.2.2.2.2.1
 let WH:ABT:=u2.2.2.2.2.2.2.2.2.2.2.2.2.2.2.2.2.2.1
 let W3:ABW:=u2.2.2.2.2.2.2.2.2.2.2.2.2.2.2.2.2.2.2.1
 (AF 40 u2.2.1.1 u2.2.1.2.1 u2.2.1.2.2.1).bind fun C7=>
 cond (C7.1.1==0)
  ((Db (x4,u2.1.1.2.2.1.2.1,()) C7.2.1.1 C7.2.1.2.1 C7.2.1.2.2.1).bind fun Tt=>
  some ((((),u2.1.1.2.2.1.2.1,(),(),(),u2.1.1.2.2.1.2.2.2.2.2.1,(),(),(),(),u2.1.1.2.2.1.2.2.2.2.2.2.2.2.2.2.1,()),()),((Tt.2.1.1,Tt.2.1.2.1,Tt.2.1.2.2.1,()),x4,x5,Tt.2.2.1,x7,x8,x9,WH,W3,())))
 (cond (C7.1.1==1)
  ((Qm C7.2.1.1 C7.2.1.2.1 C7.2.1.2.2.1).bind fun Kp=>
  if(0:Int)≤(0:Int)∧(0:Int)<(x5.length:Int)then(
  some ((((),u2.1.1.2.2.1.2.1,(),(),(),u2.1.1.2.2.1.2.2.2.2.2.1,(),(),(),(),u2.1.1.2.2.1.2.2.2.2.2.2.2.2.2.2.1,()),()),((Kp.2.1.1,Kp.2.1.2.1,Kp.2.1.2.2.1,()),x4,(x5.set 0 (Kp.2.2.1,Kp.2.2.2.1,Kp.1.1.2.2.1,())),x6,x7,x8,x9,WH,W3,())))else none)
 (cond (C7.1.1==2)
  ((QT (x4,u2.1.1.2.2.1.2.1,()) C7.2.1.1 C7.2.1.2.1 C7.2.1.2.2.1).bind fun u16=>
  some ((((),u2.1.1.2.2.1.2.1,(),(),(),u16.1.1.2.1,(),(),(),(),u2.1.1.2.2.1.2.2.2.2.2.2.2.2.2.2.1,()),()),((u16.2.1.1,u16.2.1.2.1,u16.2.1.2.2.1,()),x4,x5,x6,u16.2.2.1,x8,x9,WH,W3,())))
 (cond (C7.1.1==3)
  ((LZ (x4,u2.1.1.2.2.1.2.1,()) C7.2.1.1 C7.2.1.2.1 C7.2.1.2.2.1).bind fun V1=>
  if x8.length+1≤Dd then(
  some ((((),u2.1.1.2.2.1.2.1,(),(),(),u2.1.1.2.2.1.2.2.2.2.2.1,(),(),(),(),u2.1.1.2.2.1.2.2.2.2.2.2.2.2.2.2.1,()),()),((V1.2.1.1,V1.2.1.2.1,V1.2.1.2.2.1,()),x4,x5,x6,x7,(x8++[(V1.1.1.1,V1.2.2.1,())]),x9,WH,W3,())))else none)
 (cond (C7.1.1==4)
  ((Qo (x4,u2.1.1.2.2.1.2.1,()) C7.2.1.1 C7.2.1.2.1 C7.2.1.2.2.1).bind fun Jo=>
  if x9.length+1≤Dd then(
  some ((((),u2.1.1.2.2.1.2.1,(),(),(),u2.1.1.2.2.1.2.2.2.2.2.1,(),(),(),(),u2.1.1.2.2.1.2.2.2.2.2.2.2.2.2.2.1,()),()),((Jo.2.1.1,Jo.2.1.2.1,Jo.2.1.2.2.1,()),x4,x5,x6,x7,x8,(x9++[(Jo.1.1.1,Jo.1.1.2.1,Jo.2.2.1,Jo.2.2.2.1,Jo.1.1.2.2.2.2.1,Jo.2.2.2.2.1,())]),WH,W3,())))else none)
 (cond (C7.1.1==5)
  ((HK C7.2.1.1 C7.2.1.2.1 C7.2.1.2.2.1).bind fun di=>
  if(0:Int)≤(0:Int)∧(0:Int)<(WH.length:Int)then(
  some ((((),u2.1.1.2.2.1.2.1,(),(),(),u2.1.1.2.2.1.2.2.2.2.2.1,(),(),(),(),u2.1.1.2.2.1.2.2.2.2.2.2.2.2.2.2.1,()),()),((di.2.1.1,di.2.1.2.1,di.2.1.2.2.1,()),x4,x5,x6,x7,x8,x9,(WH.set 0 (di.1.1.1,di.1.1.2.1,di.2.2.1,())),W3,())))else none)
 (cond (C7.1.1==6)
  ((Cl C7.2.1.1 C7.2.1.2.1 C7.2.1.2.2.1).bind fun WK=>
  if W3.length+1≤Dd then(
  some ((((),u2.1.1.2.2.1.2.1,(),(),(),u2.1.1.2.2.1.2.2.2.2.2.1,(),(),(),(),u2.1.1.2.2.1.2.2.2.2.2.2.2.2.2.2.1,()),()),((WK.2.1.1,WK.2.1.2.1,WK.2.1.2.2.1,()),x4,x5,x6,x7,x8,x9,WH,(W3++[(WK.1.1,[],false,())]),())))else none)
 (cond (C7.1.1==7)
  (some ((((),u2.1.1.2.2.1.2.1,(),(),(),u2.1.1.2.2.1.2.2.2.2.2.1,(),(),(),(),!u2.1.1.2.2.1.2.2.2.2.2.2.2.2.2.2.1,()),()),((C7.2.1.1,C7.2.1.2.1,C7.2.1.2.2.1,()),x4,x5,x6,x7,x8,x9,WH,W3,())))
 (cond (C7.1.1==8)
  ((NT C7.2.1.1 C7.2.1.2.1 C7.2.1.2.2.1).bind fun dT=>
  some ((((),dT.1.1.2.1,(),(),(),u2.1.1.2.2.1.2.2.2.2.2.1,(),(),(),(),u2.1.1.2.2.1.2.2.2.2.2.2.2.2.2.2.1,()),()),((dT.2.1.1,dT.2.1.2.1,dT.2.1.2.2.1,()),dT.2.2.1,x5,x6,x7,x8,x9,WH,W3,())))
 (some ((((),u2.1.1.2.2.1.2.1,(),(),(),u2.1.1.2.2.1.2.2.2.2.2.1,(),(),(),(),u2.1.1.2.2.1.2.2.2.2.2.2.2.2.2.2.1,()),()),((C7.2.1.1,C7.2.1.2.1,C7.2.1.2.2.1,()),x4,x5,x6,x7,x8,x9,WH,W3,())))))))))))
abbrev Yh:Type:=ACx×ADN
def Kn(p1:ACg)(AH:AAZ)(AJ AM:Int):Option Yh:=
 cond (decide ((p1.2.2.2.2.2.2.2.2.2.1.length:Int)>0))
  ((Ao 4 AH AJ AM).bind fun u2=>
  cond (!u2.1.1)
   ((AF (p1.2.2.2.2.2.2.2.2.2.1.length:Int) u2.2.1.1 u2.2.1.2.1 u2.2.1.2.2.1).bind fun u4=>
   if(0:Int)≤u4.1.1∧u4.1.1<(p1.2.2.2.2.2.2.2.2.2.1.length:Int)then(
   some ((((p1.2.2.2.2.2.2.2.2.2.1.getD (u4.1.1.toNat) (0,[],false,())).1),()),((u4.2.1.1,u4.2.1.2.1,u4.2.1.2.2.1,()),())))else none)
  ((Cl u2.2.1.1 u2.2.1.2.1 u2.2.1.2.2.1).bind fun u6=>
  some ((u6.1.1,()),((u6.2.1.1,u6.2.1.2.1,u6.2.1.2.2.1,()),()))))
 ((Cl AH AJ AM).bind fun u7=>
 some ((u7.1.1,()),((u7.2.1.1,u7.2.1.2.1,u7.2.1.2.2.1,()),())))
abbrev It:Type:=AD0×ADR
def SD(p0:AAZ):Option It:=
 (V8 p0).bind fun u1=>
 (GK p0 u1.2.1.1 u1.2.1.2.1 u1.2.1.2.2.1).bind fun u2=>
 let x3:ABW:=u2.2.2.2.2.2.2.2.2.2.1
 (Eu (u2.2.2.1,u2.1.1.2.1,u2.2.2.2.1,u2.2.2.2.2.1,u2.2.2.2.2.2.1,u2.1.1.2.2.2.2.2.1,u2.2.2.2.2.2.2.1,u2.2.2.2.2.2.2.2.1,u2.2.2.2.2.2.2.2.2.1,x3,u2.1.1.2.2.2.2.2.2.2.2.2.2.1,())).bind fun u4=>
 cond (!u4.1.1)
  (some ((((),u2.1.1.2.1,(),(),(),u2.1.1.2.2.2.2.2.1,(),(),(),(),u2.1.1.2.2.2.2.2.2.2.2.2.2.1,()),()),(u2.2.2.1,u2.2.2.2.1,u2.2.2.2.2.1,u2.2.2.2.2.2.1,u2.2.2.2.2.2.2.1,u2.2.2.2.2.2.2.2.1,u2.2.2.2.2.2.2.2.2.1,x3,())))
 ((AF 2 u2.2.1.1 u2.2.1.2.1 u2.2.1.2.2.1).bind fun u5=>
 if(0:Int)≤u5.1.1∧u5.1.1<(u2.2.2.2.2.2.2.2.2.1.length:Int)then(
 let x6:Int:=(((u2.2.2.2.2.2.2.2.2.1.getD (u5.1.1.toNat) (0,0,[],())).2.2.1).length:Int)
 cond (x6==0)
  (some ((((),u2.1.1.2.1,(),(),(),u2.1.1.2.2.2.2.2.1,(),(),(),(),u2.1.1.2.2.2.2.2.2.2.2.2.2.1,()),()),(u2.2.2.1,u2.2.2.2.1,u2.2.2.2.2.1,u2.2.2.2.2.2.1,u2.2.2.2.2.2.2.1,u2.2.2.2.2.2.2.2.1,u2.2.2.2.2.2.2.2.2.1,x3,())))
 ((AF x6 u5.2.1.1 u5.2.1.2.1 u5.2.1.2.2.1).bind fun u7=>
 (AF 9 u7.2.1.1 u7.2.1.2.1 u7.2.1.2.2.1).bind fun u8=>
 cond (u8.1.1==0)
  (if(0:Int)≤u5.1.1∧u5.1.1<(u2.2.2.2.2.2.2.2.2.1.length:Int)then(
  (AF 5 u8.2.1.1 u8.2.1.2.1 u8.2.1.2.2.1).bind fun u9=>
  if(0:Int)≤u7.1.1∧u7.1.1<(((u2.2.2.2.2.2.2.2.2.1.getD (u5.1.1.toNat) (0,0,[],())).2.2.1).length:Int)then(
  some ((((),u2.1.1.2.1,(),(),(),u2.1.1.2.2.2.2.2.1,(),(),(),(),u2.1.1.2.2.2.2.2.2.2.2.2.2.1,()),()),(u2.2.2.1,u2.2.2.2.1,u2.2.2.2.2.1,u2.2.2.2.2.2.1,u2.2.2.2.2.2.2.1,u2.2.2.2.2.2.2.2.1,(u2.2.2.2.2.2.2.2.2.1.set (u5.1.1.toNat) ((u2.2.2.2.2.2.2.2.2.1.getD (u5.1.1.toNat) (0,0,[],())).1,(u2.2.2.2.2.2.2.2.2.1.getD (u5.1.1.toNat) (0,0,[],())).2.1,(((u2.2.2.2.2.2.2.2.2.1.getD (u5.1.1.toNat) (0,0,[],())).2.2.1).set (u7.1.1.toNat) (AX (1+u9.1.1),(((u2.2.2.2.2.2.2.2.2.1.getD (u5.1.1.toNat) (0,0,[],())).2.2.1).getD (u7.1.1.toNat) (0,0,[],())).2.1,(((u2.2.2.2.2.2.2.2.2.1.getD (u5.1.1.toNat) (0,0,[],())).2.2.1).getD (u7.1.1.toNat) (0,0,[],())).2.2.1,())),())),x3,())))else none)else none)
 (cond (u8.1.1==1)
  (if(0:Int)≤u5.1.1∧u5.1.1<(u2.2.2.2.2.2.2.2.2.1.length:Int)then(
  if(0:Int)≤u7.1.1∧u7.1.1<(((u2.2.2.2.2.2.2.2.2.1.getD (u5.1.1.toNat) (0,0,[],())).2.2.1).length:Int)then(
  some ((((),u2.1.1.2.1,(),(),(),u2.1.1.2.2.2.2.2.1,(),(),(),(),u2.1.1.2.2.2.2.2.2.2.2.2.2.1,()),()),(u2.2.2.1,u2.2.2.2.1,u2.2.2.2.2.1,u2.2.2.2.2.2.1,u2.2.2.2.2.2.2.1,u2.2.2.2.2.2.2.2.1,(u2.2.2.2.2.2.2.2.2.1.set (u5.1.1.toNat) ((u2.2.2.2.2.2.2.2.2.1.getD (u5.1.1.toNat) (0,0,[],())).1,(u2.2.2.2.2.2.2.2.2.1.getD (u5.1.1.toNat) (0,0,[],())).2.1,(((u2.2.2.2.2.2.2.2.2.1.getD (u5.1.1.toNat) (0,0,[],())).2.2.1).set (u7.1.1.toNat) ((((u2.2.2.2.2.2.2.2.2.1.getD (u5.1.1.toNat) (0,0,[],())).2.2.1).getD (u7.1.1.toNat) (0,0,[],())).1,(((u2.2.2.2.2.2.2.2.2.1.getD (u5.1.1.toNat) (0,0,[],())).2.2.1).getD (u7.1.1.toNat) (0,0,[],())).2.1,[122],())),())),x3,())))else none)else none)
 (cond (u8.1.1==2)
  (if(0:Int)≤u5.1.1∧u5.1.1<(u2.2.2.2.2.2.2.2.2.1.length:Int)then(
  if(0:Int)≤(0:Int)∧(0:Int)≤AX (x6-1)∧AX (x6-1)≤(((u2.2.2.2.2.2.2.2.2.1.getD (u5.1.1.toNat) (0,0,[],())).2.2.1).length:Int)then(
  if(0:Int)≤u5.1.1∧u5.1.1<(u2.2.2.2.2.2.2.2.2.1.length:Int)then(
  some ((((),u2.1.1.2.1,(),(),(),u2.1.1.2.2.2.2.2.1,(),(),(),(),u2.1.1.2.2.2.2.2.2.2.2.2.2.1,()),()),(u2.2.2.1,u2.2.2.2.1,u2.2.2.2.2.1,u2.2.2.2.2.2.1,u2.2.2.2.2.2.2.1,u2.2.2.2.2.2.2.2.1,(u2.2.2.2.2.2.2.2.2.1.set (u5.1.1.toNat) ((u2.2.2.2.2.2.2.2.2.1.getD (u5.1.1.toNat) (0,0,[],())).1,(u2.2.2.2.2.2.2.2.2.1.getD (u5.1.1.toNat) (0,0,[],())).2.1,((((u2.2.2.2.2.2.2.2.2.1.getD (u5.1.1.toNat) (0,0,[],())).2.2.1).drop 0).take (((AX (x6-1)).toNat)-0)),())),x3,())))else none)else none)else none)
 (cond (u8.1.1==3)
  (if(0:Int)≤u5.1.1∧u5.1.1<(u2.2.2.2.2.2.2.2.2.1.length:Int)then(
  (Kn (u2.2.2.1,u2.1.1.2.1,u2.2.2.2.1,u2.2.2.2.2.1,u2.2.2.2.2.2.1,u2.1.1.2.2.2.2.2.1,u2.2.2.2.2.2.2.1,u2.2.2.2.2.2.2.2.1,u2.2.2.2.2.2.2.2.2.1,x3,u2.1.1.2.2.2.2.2.2.2.2.2.2.1,()) u8.2.1.1 u8.2.1.2.1 u8.2.1.2.2.1).bind fun iZ=>
  if(0:Int)≤u7.1.1∧u7.1.1<(((u2.2.2.2.2.2.2.2.2.1.getD (u5.1.1.toNat) (0,0,[],())).2.2.1).length:Int)then(
  some ((((),u2.1.1.2.1,(),(),(),u2.1.1.2.2.2.2.2.1,(),(),(),(),u2.1.1.2.2.2.2.2.2.2.2.2.2.1,()),()),(u2.2.2.1,u2.2.2.2.1,u2.2.2.2.2.1,u2.2.2.2.2.2.1,u2.2.2.2.2.2.2.1,u2.2.2.2.2.2.2.2.1,(u2.2.2.2.2.2.2.2.2.1.set (u5.1.1.toNat) ((u2.2.2.2.2.2.2.2.2.1.getD (u5.1.1.toNat) (0,0,[],())).1,(u2.2.2.2.2.2.2.2.2.1.getD (u5.1.1.toNat) (0,0,[],())).2.1,(((u2.2.2.2.2.2.2.2.2.1.getD (u5.1.1.toNat) (0,0,[],())).2.2.1).set (u7.1.1.toNat) ((((u2.2.2.2.2.2.2.2.2.1.getD (u5.1.1.toNat) (0,0,[],())).2.2.1).getD (u7.1.1.toNat) (0,0,[],())).1,iZ.1.1,(((u2.2.2.2.2.2.2.2.2.1.getD (u5.1.1.toNat) (0,0,[],())).2.2.1).getD (u7.1.1.toNat) (0,0,[],())).2.2.1,())),())),x3,())))else none)else none)
 (some ((((),u2.1.1.2.1,(),(),(),u2.1.1.2.2.2.2.2.1,(),(),(),(),u2.1.1.2.2.2.2.2.2.2.2.2.2.1,()),()),(u2.2.2.1,u2.2.2.2.1,u2.2.2.2.2.1,u2.2.2.2.2.2.1,u2.2.2.2.2.2.2.1,u2.2.2.2.2.2.2.2.1,u2.2.2.2.2.2.2.2.2.1,x3,()))))))))else none)
abbrev Yj:Type:=AD0×ADR
def OA(p0:AAZ):Option Yj:=
 (SD p0).bind fun u1=>
 some ((((),u1.1.1.2.1,(),(),(),u1.1.1.2.2.2.2.2.1,(),(),(),(),u1.1.1.2.2.2.2.2.2.2.2.2.2.1,()),()),(u1.2.1,u1.2.2.1,u1.2.2.2.1,u1.2.2.2.2.1,u1.2.2.2.2.2.1,u1.2.2.2.2.2.2.1,u1.2.2.2.2.2.2.2.1,u1.2.2.2.2.2.2.2.2.1,()))
abbrev cO:Type:=ACR×Unit
def Ss(p0:ADV):Option cO:=
 (Be p0.1 1 3).bind fun u1=>
 some ((u1.1.1,()),())
abbrev M0:Type:=ACR×Unit
abbrev P7:Type:=Int→Int→Int→Int→AC0→Option M0
def Rr(R3:P7)(t3 t4 AH AJ:Int)(AM:AC0):Option M0:=
 cond ((decide (t4<(AM.length:Int))))
  (if(0:Int)≤t4∧t4<(AM.length:Int)then(
  (Ss ((AM.getD (t4.toNat) (0,0,[],())).1,(AM.getD (t4.toNat) (0,0,[],())).2.1,(AM.getD (t4.toNat) (0,0,[],())).2.2.1,())).bind fun u2=>
  cond (!u2.1.1)
   (R3 t3 (AX (t4+1)) AH AJ AM)
  (cond (decide (t3≥0))
   (if(0:Int)≤t3∧t3<(AM.length:Int)then(
   if(0:Int)≤t4∧t4<(AM.length:Int)then(
   cond (decide (((AM.getD (t3.toNat) (0,0,[],())).2.1)≥((AM.getD (t4.toNat) (0,0,[],())).2.1)))
    (some ((false,()),()))
   (R3 t4 (AX (t4+1)) AH AJ AM))else none)else none)
  (R3 t4 (AX (t4+1)) AH AJ AM)))else none)
 (some ((true,()),()))
def Is:Nat→P7
 |0=>fun _ _ _ _ _=>none
 |n+1=>Rr (Is n)
def Rk(R3:P7)(p0:AC2):Option M0:=
 R3 (-1) 0 p0.1 p0.2.1 p0.2.2.1
def Ma(p0:AC2):Option M0:=Rk (Is AZ) p0
abbrev af:Type:=ACR×Unit
def Mu(p0:ACg):Option af:=
 (Eu (p0.1,p0.2.1,p0.2.2.1,p0.2.2.2.1,p0.2.2.2.2.1,p0.2.2.2.2.2.1,p0.2.2.2.2.2.2.1,p0.2.2.2.2.2.2.2.1,p0.2.2.2.2.2.2.2.2.1,p0.2.2.2.2.2.2.2.2.2.1,p0.2.2.2.2.2.2.2.2.2.2.1,())).bind fun u1=>
 cond (u1.1.1)
  (if(0:Int)≤(0:Int)∧(0:Int)<(p0.2.2.2.2.2.2.2.2.1.length:Int)then(
  (Ma ((p0.2.2.2.2.2.2.2.2.1.getD 0 (0,0,[],())).1,(p0.2.2.2.2.2.2.2.2.1.getD 0 (0,0,[],())).2.1,(p0.2.2.2.2.2.2.2.2.1.getD 0 (0,0,[],())).2.2.1,())).bind fun u2=>
  cond (u2.1.1)
   (if(0:Int)≤(1:Int)∧(1:Int)<(p0.2.2.2.2.2.2.2.2.1.length:Int)then(
   (Ma ((p0.2.2.2.2.2.2.2.2.1.getD 1 (0,0,[],())).1,(p0.2.2.2.2.2.2.2.2.1.getD 1 (0,0,[],())).2.1,(p0.2.2.2.2.2.2.2.2.1.getD 1 (0,0,[],())).2.2.1,())).bind fun u3=>
   some ((u3.1.1,()),()))else none)
  (some ((false,()),())))else none)
 (some ((false,()),()))
abbrev OC:Type:=ACR×Unit
abbrev RK:Type:=Int→List Int→Int→ABU→List Int→ABK→Int→ABX→ABZ→ABT→ABW→Bool→Int→Int→List UInt8→Option OC
def TC(R2:RK)(t5:Int)(AH:AAZ)(AJ:Int)(AM:ABU)(BS:AAZ)(Bi:ABK)(BW:Int)(BR:ABX)(BM:ABZ)(A6:ABT)(BT:ABW)(Ar:Bool)(Aw Ai:Int)(CS:ACu):Option OC:=
 cond ((decide (t5<(BT.length:Int))))
  (if(0:Int)≤t5∧t5<(BT.length:Int)then(
  cond (((BT.getD (t5.toNat) (0,[],false,())).1)==Ai)
   (if(0:Int)≤t5∧t5<(BT.length:Int)then(
   cond (((BT.getD (t5.toNat) (0,[],false,())).2.1)==CS)
    (some ((true,()),()))
   (R2 (AX (t5+1)) AH AJ AM BS Bi BW BR BM A6 BT Ar Aw Ai CS))else none)
  (R2 (AX (t5+1)) AH AJ AM BS Bi BW BR BM A6 BT Ar Aw Ai CS))else none)
 (some ((false,()),()))
def Ju:Nat→RK
 |0=>fun _ _ _ _ _ _ _ _ _ _ _ _ _ _ _=>none
 |n+1=>TC (Ju n)
def TG(R2:RK)(p0:ACg)(p1:ADV):Option OC:=
 R2 0 p0.1 p0.2.1 p0.2.2.1 p0.2.2.2.1 p0.2.2.2.2.1 p0.2.2.2.2.2.1 p0.2.2.2.2.2.2.1 p0.2.2.2.2.2.2.2.1 p0.2.2.2.2.2.2.2.2.1 p0.2.2.2.2.2.2.2.2.2.1 p0.2.2.2.2.2.2.2.2.2.2.1 p1.1 p1.2.1 p1.2.2.1
def Rw(p0:ACg)(p1:ADV):Option OC:=TG (Ju AZ) p0 p1
abbrev G7:Type:=ACR×Unit
abbrev Ko:Type:=Int→List Int→Int→ABU→List Int→ABK→Int→ABX→ABZ→ABT→ABW→Bool→Option G7
abbrev KW:Type:=Int→Int→List Int→Int→ABU→List Int→ABK→Int→ABX→ABZ→ABT→ABW→Bool→Option G7
def LJ(R4:Ko)(R7:KW)(t3:Int)(AH:AAZ)(AJ:Int)(AM:ABU)(BS:AAZ)(Bi:ABK)(BW:Int)(BR:ABX)(BM:ABZ)(A6:ABT)(BT:ABW)(Ar:Bool):Option G7:=
 cond (decide (t3<2))
  (R7 t3 0 AH AJ AM BS Bi BW BR BM A6 BT Ar)
 (some ((true,()),()))
def Kx(R4:Ko)(R7:KW)(t3 t4:Int)(AH:AAZ)(AJ:Int)(AM:ABU)(BS:AAZ)(Bi:ABK)(BW:Int)(BR:ABX)(BM:ABZ)(A6:ABT)(BT:ABW)(Ar:Bool):Option G7:=
 if(0:Int)≤t3∧t3<(A6.length:Int)then(
 cond (decide (t4<(((A6.getD (t3.toNat) (0,0,[],())).2.2.1).length:Int)))
  (if(0:Int)≤t3∧t3<(A6.length:Int)then(
  if(0:Int)≤t4∧t4<(((A6.getD (t3.toNat) (0,0,[],())).2.2.1).length:Int)then(
  cond (((((A6.getD (t3.toNat) (0,0,[],())).2.2.1).getD (t4.toNat) (0,0,[],())).1)==1)
   ((Rw (AH,AJ,AM,BS,Bi,BW,BR,BM,A6,BT,Ar,()) ((((A6.getD (t3.toNat) (0,0,[],())).2.2.1).getD (t4.toNat) (0,0,[],())).1,(((A6.getD (t3.toNat) (0,0,[],())).2.2.1).getD (t4.toNat) (0,0,[],())).2.1,(((A6.getD (t3.toNat) (0,0,[],())).2.2.1).getD (t4.toNat) (0,0,[],())).2.2.1,())).bind fun u4=>
   cond (!u4.1.1)
    (some ((false,()),()))
   (R7 t3 (AX (t4+1)) AH AJ AM BS Bi BW BR BM A6 BT Ar))
  (R7 t3 (AX (t4+1)) AH AJ AM BS Bi BW BR BM A6 BT Ar))else none)else none)
 (R4 (AX (t3+1)) AH AJ AM BS Bi BW BR BM A6 BT Ar))else none
mutual
def Dp:Nat→Ko
 |0=>fun _ _ _ _ _ _ _ _ _ _ _ _=>none
 |n+1=>LJ (Dp n) (En n)
def En:Nat→KW
 |0=>fun _ _ _ _ _ _ _ _ _ _ _ _ _=>none
 |n+1=>Kx (Dp n) (En n)
end
def Q4(R4:Ko)(R7:KW)(p0:ACg):Option G7:=
 (Eu (p0.1,p0.2.1,p0.2.2.1,p0.2.2.2.1,p0.2.2.2.2.1,p0.2.2.2.2.2.1,p0.2.2.2.2.2.2.1,p0.2.2.2.2.2.2.2.1,p0.2.2.2.2.2.2.2.2.1,p0.2.2.2.2.2.2.2.2.2.1,p0.2.2.2.2.2.2.2.2.2.2.1,())).bind fun u1=>
 cond (!u1.1.1)
  (some ((false,()),()))
 (R4 0 p0.1 p0.2.1 p0.2.2.1 p0.2.2.2.1 p0.2.2.2.2.1 p0.2.2.2.2.2.1 p0.2.2.2.2.2.2.1 p0.2.2.2.2.2.2.2.1 p0.2.2.2.2.2.2.2.2.1 p0.2.2.2.2.2.2.2.2.2.1 p0.2.2.2.2.2.2.2.2.2.2.1)
def OQ(p0:ACg):Option G7:=Q4 (Dp AZ) (En AZ) p0
abbrev O7:Type:=AGQ×Unit
abbrev RL:Type:=Int→Int→Int→Int→AC0→Option O7
def TQ(R2:RL)(t1 t6 AH AJ:Int)(AM:AC0):Option O7:=
 cond ((decide (t6<(AM.length:Int))))
  (if(0:Int)≤t6∧t6<(AM.length:Int)then(
  cond (((AM.getD (t6.toNat) (0,0,[],())).1)==1)
   (if(0:Int)≤t6∧t6<(AM.length:Int)then(
   cond (((AM.getD (t6.toNat) (0,0,[],())).2.1)==t1)
    (if(0:Int)≤t6∧t6<(AM.length:Int)then(
    some (((((AM.getD (t6.toNat) (0,0,[],())).2.2.1),true,()),()),()))else none)
   (R2 t1 (AX (t6+1)) AH AJ AM))else none)
  (R2 t1 (AX (t6+1)) AH AJ AM))else none)
 (some ((([],false,()),()),()))
def Jv:Nat→RL
 |0=>fun _ _ _ _ _=>none
 |n+1=>TQ (Jv n)
def S2(R2:RL)(p0:AC2)(p1:Int):Option O7:=
 R2 p1 0 p0.1 p0.2.1 p0.2.2.1
def JO(p0:AC2)(p1:Int):Option O7:=S2 (Jv AZ) p0 p1
abbrev cX:Type:=ACR×Unit
def Ft(p0:AC2)(p1:Int):Option cX:=
 (Bh p0.1 p0.2.1).bind fun u1=>
 some ((decide (u1.1.1>p1),()),())
abbrev Gx:Type:=ACR×Unit
abbrev Kg:Type:=Int→List Int→Int→ABU→List Int→ABK→Int→ABX→ABZ→ABT→ABW→Bool→Option Gx
abbrev KU:Type:=Int→Int→Bool→Bool→List Int→Int→ABU→List Int→ABK→Int→ABX→ABZ→ABT→ABW→Bool→Option Gx
def LM(R4:Kg)(R7:KU)(t3:Int)(AH:AAZ)(AJ:Int)(AM:ABU)(BS:AAZ)(Bi:ABK)(BW:Int)(BR:ABX)(BM:ABZ)(A6:ABT)(BT:ABW)(Ar:Bool):Option Gx:=
 cond (decide (t3<2))
  (cond (!Ar)
   (R7 t3 0 Ar (!Ar) AH AJ AM BS Bi BW BR BM A6 BT Ar)
  (some ((true,()),())))
 (some ((true,()),()))
def K7(R4:Kg)(R7:KU)(t3 t4:Int)(t15 t16:Bool)(AH:AAZ)(AJ:Int)(AM:ABU)(BS:AAZ)(Bi:ABK)(BW:Int)(BR:ABX)(BM:ABZ)(A6:ABT)(BT:ABW)(Ar:Bool):Option Gx:=
 cond ((decide (t4<(BT.length:Int))))
  (if(0:Int)≤t4∧t4<(BT.length:Int)then(
  if(0:Int)≤t3∧t3<(A6.length:Int)then(
  (JO ((A6.getD (t3.toNat) (0,0,[],())).1,(A6.getD (t3.toNat) (0,0,[],())).2.1,(A6.getD (t3.toNat) (0,0,[],())).2.2.1,()) ((BT.getD (t4.toNat) (0,[],false,())).1)).bind fun u4=>
  cond (((BT.getD (t4.toNat) (0,[],false,())).2.2.1))
   (cond (decide (((BT.getD (t4.toNat) (0,[],false,())).1)>BW))
    (if(0:Int)≤t3∧t3<(A6.length:Int)then(
    (Ft ((A6.getD (t3.toNat) (0,0,[],())).1,(A6.getD (t3.toNat) (0,0,[],())).2.1,(A6.getD (t3.toNat) (0,0,[],())).2.2.1,()) ((BT.getD (t4.toNat) (0,[],false,())).1)).bind fun u8=>
    cond (u8.1.1)
     (cond (!u4.1.1.2.1)
      (some ((false,()),()))
     (R7 t3 (AX (t4+1)) t15 t16 AH AJ AM BS Bi BW BR BM A6 BT Ar))
    (R7 t3 (AX (t4+1)) t15 t16 AH AJ AM BS Bi BW BR BM A6 BT Ar))else none)
   (R7 t3 (AX (t4+1)) t15 t16 AH AJ AM BS Bi BW BR BM A6 BT Ar))
  (R7 t3 (AX (t4+1)) t15 t16 AH AJ AM BS Bi BW BR BM A6 BT Ar))else none)else none)
 (R4 (AX (t3+1)) AH AJ AM BS Bi BW BR BM A6 BT Ar)
mutual
def Dm:Nat→Kg
 |0=>fun _ _ _ _ _ _ _ _ _ _ _ _=>none
 |n+1=>LM (Dm n) (Er n)
def Er:Nat→KU
 |0=>fun _ _ _ _ _ _ _ _ _ _ _ _ _ _ _=>none
 |n+1=>K7 (Dm n) (Er n)
end
def Qd(R4:Kg)(R7:KU)(p0:ACg):Option Gx:=
 (Eu (p0.1,p0.2.1,p0.2.2.1,p0.2.2.2.1,p0.2.2.2.2.1,p0.2.2.2.2.2.1,p0.2.2.2.2.2.2.1,p0.2.2.2.2.2.2.2.1,p0.2.2.2.2.2.2.2.2.1,p0.2.2.2.2.2.2.2.2.2.1,p0.2.2.2.2.2.2.2.2.2.2.1,())).bind fun u1=>
 cond (!u1.1.1)
  (some ((false,()),()))
 (R4 0 p0.1 p0.2.1 p0.2.2.1 p0.2.2.2.1 p0.2.2.2.2.1 p0.2.2.2.2.2.1 p0.2.2.2.2.2.2.1 p0.2.2.2.2.2.2.2.1 p0.2.2.2.2.2.2.2.2.1 p0.2.2.2.2.2.2.2.2.2.1 p0.2.2.2.2.2.2.2.2.2.2.1)
def OV(p0:ACg):Option Gx:=Qd (Dm AZ) (Er AZ) p0
abbrev F9:Type:=ACR×Unit
abbrev Je:Type:=Int→List Int→Int→ABU→List Int→ABK→Int→ABX→ABZ→ABT→ABW→Bool→Option F9
abbrev Jb:Type:=Int→Int→Bool→Bool→List Int→Int→ABU→List Int→ABK→Int→ABX→ABZ→ABT→ABW→Bool→Option F9
def KE(R4:Je)(R7:Jb)(t3:Int)(AH:AAZ)(AJ:Int)(AM:ABU)(BS:AAZ)(Bi:ABK)(BW:Int)(BR:ABX)(BM:ABZ)(A6:ABT)(BT:ABW)(Ar:Bool):Option F9:=
 cond (decide (t3<2))
  (cond (!Ar)
   (R7 t3 0 Ar (!Ar) AH AJ AM BS Bi BW BR BM A6 BT Ar)
  (some ((true,()),())))
 (some ((true,()),()))
def KJ(R4:Je)(R7:Jb)(t3 t4:Int)(t12 t13:Bool)(AH:AAZ)(AJ:Int)(AM:ABU)(BS:AAZ)(Bi:ABK)(BW:Int)(BR:ABX)(BM:ABZ)(A6:ABT)(BT:ABW)(Ar:Bool):Option F9:=
 if(0:Int)≤t3∧t3<(A6.length:Int)then(
 cond (decide (t4<(((A6.getD (t3.toNat) (0,0,[],())).2.2.1).length:Int)))
  (if(0:Int)≤t3∧t3<(A6.length:Int)then(
  if(0:Int)≤t4∧t4<(((A6.getD (t3.toNat) (0,0,[],())).2.2.1).length:Int)then(
  cond (((((A6.getD (t3.toNat) (0,0,[],())).2.2.1).getD (t4.toNat) (0,0,[],())).1)==3)
   (some ((false,()),()))
  (R7 t3 (AX (t4+1)) t12 t13 AH AJ AM BS Bi BW BR BM A6 BT Ar))else none)else none)
 (R4 (AX (t3+1)) AH AJ AM BS Bi BW BR BM A6 BT Ar))else none
mutual
def Ce:Nat→Je
 |0=>fun _ _ _ _ _ _ _ _ _ _ _ _=>none
 |n+1=>KE (Ce n) (EC n)
def EC:Nat→Jb
 |0=>fun _ _ _ _ _ _ _ _ _ _ _ _ _ _ _=>none
 |n+1=>KJ (Ce n) (EC n)
end
def PS(R4:Je)(R7:Jb)(p0:ACg):Option F9:=
 (Eu (p0.1,p0.2.1,p0.2.2.1,p0.2.2.2.1,p0.2.2.2.2.1,p0.2.2.2.2.2.1,p0.2.2.2.2.2.2.1,p0.2.2.2.2.2.2.2.1,p0.2.2.2.2.2.2.2.2.1,p0.2.2.2.2.2.2.2.2.2.1,p0.2.2.2.2.2.2.2.2.2.2.1,())).bind fun u1=>
 cond (!u1.1.1)
  (some ((false,()),()))
 (R4 0 p0.1 p0.2.1 p0.2.2.1 p0.2.2.2.1 p0.2.2.2.2.1 p0.2.2.2.2.2.1 p0.2.2.2.2.2.2.1 p0.2.2.2.2.2.2.2.1 p0.2.2.2.2.2.2.2.2.1 p0.2.2.2.2.2.2.2.2.2.1 p0.2.2.2.2.2.2.2.2.2.2.1)
def M8(p0:ACg):Option F9:=PS (Ce AZ) (EC AZ) p0
abbrev Mx:Type:=ACR×Unit
abbrev Pf:Type:=Int→List Int→Int→ABU→List Int→ABK→Int→ABX→ABZ→ABT→ABW→Bool→Int→Int→AC0→Int→Int→AC0→Option Mx
def MV(R2:Pf)(t7:Int)(AH:AAZ)(AJ:Int)(AM:ABU)(BS:AAZ)(Bi:ABK)(BW:Int)(BR:ABX)(BM:ABZ)(A6:ABT)(BT:ABW)(Ar:Bool)(Aw Ai:Int)(CS:AC0)(Gw Ha:Int)(ed:AC0):Option Mx:=
 cond ((decide (t7<(CS.length:Int))))
  (if(0:Int)≤t7∧t7<(CS.length:Int)then(
  cond (((CS.getD (t7.toNat) (0,0,[],())).1) !=1)
   (R2 (AX (t7+1)) AH AJ AM BS Bi BW BR BM A6 BT Ar Aw Ai CS Gw Ha ed)
  ((Ep ((CS.getD (t7.toNat) (0,0,[],())).2.1)).bind fun u4=>
  cond (!u4.1.1)
   (R2 (AX (t7+1)) AH AJ AM BS Bi BW BR BM A6 BT Ar Aw Ai CS Gw Ha ed)
  (cond (decide (((CS.getD (t7.toNat) (0,0,[],())).2.1)≤BW))
   (R2 (AX (t7+1)) AH AJ AM BS Bi BW BR BM A6 BT Ar Aw Ai CS Gw Ha ed)
  ((Ft (Aw,Ai,CS,()) ((CS.getD (t7.toNat) (0,0,[],())).2.1)).bind fun u7=>
  cond (!u7.1.1)
   (R2 (AX (t7+1)) AH AJ AM BS Bi BW BR BM A6 BT Ar Aw Ai CS Gw Ha ed)
  ((Ft (Gw,Ha,ed,()) ((CS.getD (t7.toNat) (0,0,[],())).2.1)).bind fun u9=>
  cond (!u9.1.1)
   (R2 (AX (t7+1)) AH AJ AM BS Bi BW BR BM A6 BT Ar Aw Ai CS Gw Ha ed)
  ((JO (Aw,Ai,CS,()) ((CS.getD (t7.toNat) (0,0,[],())).2.1)).bind fun QE=>
  (JO (Gw,Ha,ed,()) ((CS.getD (t7.toNat) (0,0,[],())).2.1)).bind fun Tt=>
  cond (!Tt.1.1.2.1)
   (some ((false,()),()))
  (cond ((!(Tt.1.1.1==QE.1.1.1)))
   (some ((false,()),()))
  (R2 (AX (t7+1)) AH AJ AM BS Bi BW BR BM A6 BT Ar Aw Ai CS Gw Ha ed))))))))else none)
 (some ((true,()),()))
def Gz:Nat→Pf
 |0=>fun _ _ _ _ _ _ _ _ _ _ _ _ _ _ _ _ _ _=>none
 |n+1=>MV (Gz n)
def RY(R2:Pf)(p0:ACg)(p1 p2:AC2):Option Mx:=
 R2 0 p0.1 p0.2.1 p0.2.2.1 p0.2.2.2.1 p0.2.2.2.2.1 p0.2.2.2.2.2.1 p0.2.2.2.2.2.2.1 p0.2.2.2.2.2.2.2.1 p0.2.2.2.2.2.2.2.2.1 p0.2.2.2.2.2.2.2.2.2.1 p0.2.2.2.2.2.2.2.2.2.2.1 p1.1 p1.2.1 p1.2.2.1 p2.1 p2.2.1 p2.2.2.1
def Mr(p0:ACg)(p1 p2:AC2):Option Mx:=RY (Gz AZ) p0 p1 p2
abbrev cg:Type:=ACR×Unit
def OH(p0:ACg):Option cg:=
 (Eu (p0.1,p0.2.1,p0.2.2.1,p0.2.2.2.1,p0.2.2.2.2.1,p0.2.2.2.2.2.1,p0.2.2.2.2.2.2.1,p0.2.2.2.2.2.2.2.1,p0.2.2.2.2.2.2.2.2.1,p0.2.2.2.2.2.2.2.2.2.1,p0.2.2.2.2.2.2.2.2.2.2.1,())).bind fun u1=>
 cond (!u1.1.1)
  (some ((false,()),()))
 (cond (p0.2.2.2.2.2.2.2.2.2.2.1)
  (some ((true,()),()))
 (if(0:Int)≤(0:Int)∧(0:Int)<(p0.2.2.2.2.2.2.2.2.1.length:Int)then(
 if(0:Int)≤(1:Int)∧(1:Int)<(p0.2.2.2.2.2.2.2.2.1.length:Int)then(
 (Mr (p0.1,p0.2.1,p0.2.2.1,p0.2.2.2.1,p0.2.2.2.2.1,p0.2.2.2.2.2.1,p0.2.2.2.2.2.2.1,p0.2.2.2.2.2.2.2.1,p0.2.2.2.2.2.2.2.2.1,p0.2.2.2.2.2.2.2.2.2.1,p0.2.2.2.2.2.2.2.2.2.2.1,()) ((p0.2.2.2.2.2.2.2.2.1.getD 0 (0,0,[],())).1,(p0.2.2.2.2.2.2.2.2.1.getD 0 (0,0,[],())).2.1,(p0.2.2.2.2.2.2.2.2.1.getD 0 (0,0,[],())).2.2.1,()) ((p0.2.2.2.2.2.2.2.2.1.getD 1 (0,0,[],())).1,(p0.2.2.2.2.2.2.2.2.1.getD 1 (0,0,[],())).2.1,(p0.2.2.2.2.2.2.2.2.1.getD 1 (0,0,[],())).2.2.1,())).bind fun u3=>
 cond (u3.1.1)
  (if(0:Int)≤(1:Int)∧(1:Int)<(p0.2.2.2.2.2.2.2.2.1.length:Int)then(
  if(0:Int)≤(0:Int)∧(0:Int)<(p0.2.2.2.2.2.2.2.2.1.length:Int)then(
  (Mr (p0.1,p0.2.1,p0.2.2.1,p0.2.2.2.1,p0.2.2.2.2.1,p0.2.2.2.2.2.1,p0.2.2.2.2.2.2.1,p0.2.2.2.2.2.2.2.1,p0.2.2.2.2.2.2.2.2.1,p0.2.2.2.2.2.2.2.2.2.1,p0.2.2.2.2.2.2.2.2.2.2.1,()) ((p0.2.2.2.2.2.2.2.2.1.getD 1 (0,0,[],())).1,(p0.2.2.2.2.2.2.2.2.1.getD 1 (0,0,[],())).2.1,(p0.2.2.2.2.2.2.2.2.1.getD 1 (0,0,[],())).2.2.1,()) ((p0.2.2.2.2.2.2.2.2.1.getD 0 (0,0,[],())).1,(p0.2.2.2.2.2.2.2.2.1.getD 0 (0,0,[],())).2.1,(p0.2.2.2.2.2.2.2.2.1.getD 0 (0,0,[],())).2.2.1,())).bind fun u4=>
  some ((u4.1.1,()),()))else none)else none)
 (some ((false,()),())))else none)else none))
abbrev dr:Type:=ACR×Unit
def Ml(p0:AAZ):Option dr:=
 (iQ p0).bind fun u1=>
 cond (u1.1.1)
  (some ((true,()),()))
 ((OA p0).bind fun u2=>
 (Jy (u2.2.1,u2.1.1.2.1,u2.2.2.1,u2.2.2.2.1,u2.2.2.2.2.1,u2.1.1.2.2.2.2.2.1,u2.2.2.2.2.2.1,u2.2.2.2.2.2.2.1,u2.2.2.2.2.2.2.2.1,u2.2.2.2.2.2.2.2.2.1,u2.1.1.2.2.2.2.2.2.2.2.2.2.1,())).bind fun u3=>
 (Lc (u2.2.1,u2.1.1.2.1,u2.2.2.1,u2.2.2.2.1,u2.2.2.2.2.1,u2.1.1.2.2.2.2.2.1,u2.2.2.2.2.2.1,u2.2.2.2.2.2.2.1,u2.2.2.2.2.2.2.2.1,u2.2.2.2.2.2.2.2.2.1,u2.1.1.2.2.2.2.2.2.2.2.2.2.1,())).bind fun u4=>
 (K6 (u2.2.1,u2.1.1.2.1,u2.2.2.1,u2.2.2.2.1,u2.2.2.2.2.1,u2.1.1.2.2.2.2.2.1,u2.2.2.2.2.2.1,u2.2.2.2.2.2.2.1,u2.2.2.2.2.2.2.2.1,u2.2.2.2.2.2.2.2.2.1,u2.1.1.2.2.2.2.2.2.2.2.2.2.1,())).bind fun u5=>
 (Jt (u2.2.1,u2.1.1.2.1,u2.2.2.1,u2.2.2.2.1,u2.2.2.2.2.1,u2.1.1.2.2.2.2.2.1,u2.2.2.2.2.2.1,u2.2.2.2.2.2.2.1,u2.2.2.2.2.2.2.2.1,u2.2.2.2.2.2.2.2.2.1,u2.1.1.2.2.2.2.2.2.2.2.2.2.1,())).bind fun u6=>
 (LO (u2.2.1,u2.1.1.2.1,u2.2.2.1,u2.2.2.2.1,u2.2.2.2.2.1,u2.1.1.2.2.2.2.2.1,u2.2.2.2.2.2.1,u2.2.2.2.2.2.2.1,u2.2.2.2.2.2.2.2.1,u2.2.2.2.2.2.2.2.2.1,u2.1.1.2.2.2.2.2.2.2.2.2.2.1,())).bind fun u7=>
 (Mu (u2.2.1,u2.1.1.2.1,u2.2.2.1,u2.2.2.2.1,u2.2.2.2.2.1,u2.1.1.2.2.2.2.2.1,u2.2.2.2.2.2.1,u2.2.2.2.2.2.2.1,u2.2.2.2.2.2.2.2.1,u2.2.2.2.2.2.2.2.2.1,u2.1.1.2.2.2.2.2.2.2.2.2.2.1,())).bind fun u8=>
 cond (u3.1.1 !=u8.1.1)
  (some ((false,()),()))
 ((OQ (u2.2.1,u2.1.1.2.1,u2.2.2.1,u2.2.2.2.1,u2.2.2.2.2.1,u2.1.1.2.2.2.2.2.1,u2.2.2.2.2.2.1,u2.2.2.2.2.2.2.1,u2.2.2.2.2.2.2.2.1,u2.2.2.2.2.2.2.2.2.1,u2.1.1.2.2.2.2.2.2.2.2.2.2.1,())).bind fun u9=>
 cond (u4.1.1 !=u9.1.1)
  (some ((false,()),()))
 ((OV (u2.2.1,u2.1.1.2.1,u2.2.2.1,u2.2.2.2.1,u2.2.2.2.2.1,u2.1.1.2.2.2.2.2.1,u2.2.2.2.2.2.1,u2.2.2.2.2.2.2.1,u2.2.2.2.2.2.2.2.1,u2.2.2.2.2.2.2.2.2.1,u2.1.1.2.2.2.2.2.2.2.2.2.2.1,())).bind fun Hc=>
 cond (u5.1.1 !=Hc.1.1)
  (some ((false,()),()))
 ((M8 (u2.2.1,u2.1.1.2.1,u2.2.2.1,u2.2.2.2.1,u2.2.2.2.2.1,u2.1.1.2.2.2.2.2.1,u2.2.2.2.2.2.1,u2.2.2.2.2.2.2.1,u2.2.2.2.2.2.2.2.1,u2.2.2.2.2.2.2.2.2.1,u2.1.1.2.2.2.2.2.2.2.2.2.2.1,())).bind fun QE=>
 cond (u6.1.1 !=QE.1.1)
  (some ((false,()),()))
 ((OH (u2.2.1,u2.1.1.2.1,u2.2.2.1,u2.2.2.2.1,u2.2.2.2.2.1,u2.1.1.2.2.2.2.2.1,u2.2.2.2.2.2.1,u2.2.2.2.2.2.2.1,u2.2.2.2.2.2.2.2.1,u2.2.2.2.2.2.2.2.2.1,u2.1.1.2.2.2.2.2.2.2.2.2.2.1,())).bind fun C7=>
 cond (u7.1.1 !=C7.1.1)
  (some ((false,()),()))
 ((Eu (u2.2.1,u2.1.1.2.1,u2.2.2.1,u2.2.2.2.1,u2.2.2.2.2.1,u2.1.1.2.2.2.2.2.1,u2.2.2.2.2.2.1,u2.2.2.2.2.2.2.1,u2.2.2.2.2.2.2.2.1,u2.2.2.2.2.2.2.2.2.1,u2.1.1.2.2.2.2.2.2.2.2.2.2.1,())).bind fun Tt=>
 cond (!Tt.1.1)
  (cond (!u3.1.1)
   (cond (!u4.1.1)
    (cond (!u5.1.1)
     (cond (!u6.1.1)
      (cond (!u7.1.1)
       ((Mk (u2.2.1,u2.1.1.2.1,u2.2.2.1,u2.2.2.2.1,u2.2.2.2.2.1,u2.1.1.2.2.2.2.2.1,u2.2.2.2.2.2.1,u2.2.2.2.2.2.2.1,u2.2.2.2.2.2.2.2.1,u2.2.2.2.2.2.2.2.2.1,u2.1.1.2.2.2.2.2.2.2.2.2.2.1,())).bind fun Kp=>
       some ((!Kp.1.1,()),()))
      (some ((false,()),())))
     (some ((false,()),())))
    (some ((false,()),())))
   (some ((false,()),())))
  (some ((false,()),())))
 ((Mk (u2.2.1,u2.1.1.2.1,u2.2.2.1,u2.2.2.2.1,u2.2.2.2.2.1,u2.1.1.2.2.2.2.2.1,u2.2.2.2.2.2.1,u2.2.2.2.2.2.2.1,u2.2.2.2.2.2.2.2.1,u2.2.2.2.2.2.2.2.2.1,u2.1.1.2.2.2.2.2.2.2.2.2.2.1,())).bind fun iZ=>
 cond (u3.1.1)
  (cond (u4.1.1)
   (cond (u5.1.1)
    (cond (u6.1.1)
     (cond (iZ.1.1==u7.1.1)
      (cond (!u2.1.1.2.2.2.2.2.2.2.2.2.2.1)
       (some ((true,()),()))
      (cond (u5.1.1)
       (cond (u6.1.1)
        (some ((u7.1.1,()),()))
       (some ((false,()),())))
      (some ((false,()),()))))
     (some ((false,()),())))
    (cond (iZ.1.1==false)
     (cond (!u2.1.1.2.2.2.2.2.2.2.2.2.2.1)
      (some ((true,()),()))
     (cond (u5.1.1)
      (cond (u6.1.1)
       (some ((u7.1.1,()),()))
      (some ((false,()),())))
     (some ((false,()),()))))
    (some ((false,()),()))))
   (cond (iZ.1.1==false)
    (cond (!u2.1.1.2.2.2.2.2.2.2.2.2.2.1)
     (some ((true,()),()))
    (cond (u5.1.1)
     (cond (u6.1.1)
      (some ((u7.1.1,()),()))
     (some ((false,()),())))
    (some ((false,()),()))))
   (some ((false,()),()))))
  (cond (iZ.1.1==false)
   (cond (!u2.1.1.2.2.2.2.2.2.2.2.2.2.1)
    (some ((true,()),()))
   (cond (u5.1.1)
    (cond (u6.1.1)
     (some ((u7.1.1,()),()))
    (some ((false,()),())))
   (some ((false,()),()))))
  (some ((false,()),()))))
 (cond (iZ.1.1==false)
  (cond (!u2.1.1.2.2.2.2.2.2.2.2.2.2.1)
   (some ((true,()),()))
  (cond (u5.1.1)
   (cond (u6.1.1)
    (some ((u7.1.1,()),()))
   (some ((false,()),())))
  (some ((false,()),()))))
 (some ((false,()),()))))))))))
end
end Go.M
