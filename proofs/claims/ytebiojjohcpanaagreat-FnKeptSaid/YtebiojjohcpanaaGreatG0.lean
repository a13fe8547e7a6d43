/- What each function computes, printed by a program out of the translation; what is printed is checked in the equations. -/
import Derived.Test.YtebiojjohcpanaaGreatF1
set_option linter.unusedVariables false
set_option linter.unusedSimpArgs false
set_option linter.unusedSectionVars false
namespace Go.M
noncomputable section
abbrev TN:Type:=ABT×Unit
def XG(p0:AAH):Option TN:=
 some (((decide ((p0.length:Int)>1048576)),()),())
abbrev V_:Type:=ACL×ADg
abbrev ZD:Type:=List Int→Int→Int→Option V_
def Zv(R3:ZD)(t0:AAH)(t3 t4:Int):Option V_:=
 cond ((decide (t4<(t0.length:Int))))
  (cond (decide (t4<4000))
   (if(0:Int)≤t4∧t4<(t0.length:Int)then(
   R3 t0 (cZ .i64 (AZ ((AZ ((AZ (t3*131))+(AZ ((t0.getD (t4.toNat) 0)))))+7)) 1073741823) (AZ (t4+1)))else none)
  (some (((),()),((t0,0,t3,()),()))))
 (some (((),()),((t0,0,t3,()),())))
def Pu:Nat→ZD
 |0=>fun _ _ _=>none
 |n+1=>Zv (Pu n)
def Z5(R3:ZD)(p0:AAH):Option V_:=
 R3 p0 (AZ (17817+(p0.length:Int))) 0
def bY(p0:AAH):Option V_:=Z5 (Pu Ae) p0
abbrev rj:Type:=ABg×ADg
def Ly(AR:AAH)(AF Ai:Int):Option rj:=
 let x2:Int:=AZ ((AZ (Ai*6364136223846793005))+1442695040888963407)
 let x3:Int:=AS1 .i64 (x2.fdiv (2^33)) (x2.fdiv (2^45))
 cond ((decide (AF<(AR.length:Int))))
  (if(0:Int)≤AF∧AF<(AR.length:Int)then(
  some ((cZ .i64 (AZ ((cZ .i64 x3 255)+(AZ ((AR.getD (AF.toNat) 0))))) 255,()),((AR,AZ (AF+1),x2,()),())))else none)
 (some ((cZ .i64 x3 255,()),((AR,AF,x2,()),())))
abbrev oN:Type:=ABg×ADg
def Am(p1:Int)(AR:AAH)(AF Ai:Int):Option oN:=
 cond (decide (p1≤0))
  (some ((0,()),((AR,AF,Ai,()),())))
 (cond (decide (p1≤256))
  ((Ly AR AF Ai).bind fun u1=>
  if p1=0 then none else(
  some ((u1.1.1.tmod p1,()),((u1.2.1.1,u1.2.1.2.1,u1.2.1.2.2.1,()),()))))
 ((Ly AR AF Ai).bind fun u2=>
 (Ly u2.2.1.1 u2.2.1.2.1 u2.2.1.2.2.1).bind fun u3=>
 (Ly u3.2.1.1 u3.2.1.2.1 u3.2.1.2.2.1).bind fun u4=>
 (Ly u4.2.1.1 u4.2.1.2.1 u4.2.1.2.2.1).bind fun u5=>
 if p1=0 then none else(
 some ((((AZ ((AZ ((AZ ((AZ (u2.1.1*16777216))+(AZ (u3.1.1*65536))))+(AZ (u4.1.1*256))))+u5.1.1)).tmod p1),()),((u5.2.1.1,u5.2.1.2.1,u5.2.1.2.2.1,()),())))))
abbrev q9:Type:=ABT×ADg
def B6(p1:Int)(AR:AAH)(AF Ai:Int):Option q9:=
 (Am p1 AR AF Ai).bind fun u1=>
 some ((u1.1.1==0,()),((u1.2.1.1,u1.2.1.2.1,u1.2.1.2.2.1,()),()))
abbrev MJ:Type:=AEx×AGM
abbrev Pb:Type:=Int→Int→List Int→Int→Int→Int→List Int→Int→List Int→Option MJ
def RN(R4:Pb)(t4 t5:Int)(AR:AAH)(AF Ai Bf:Int)(b2:AAH)(cw:Int)(b4:AAH):Option MJ:=
 cond (decide (t5<t4))
  ((Am 5 AR AF Ai).bind fun u3=>
  if b4.length+1≤Dw then(
  R4 t4 (AZ (t5+1)) u3.2.1.1 u3.2.1.2.1 u3.2.1.2.2.1 Bf b2 cw (b4++[u3.1.1]))else none)
 ((B6 2 AR AF Ai).bind fun u5=>
 cond (u5.1.1)
  (some ((((),2,()),()),((u5.2.1.1,u5.2.1.2.1,u5.2.1.2.2.1,()),b4,())))
 (some ((((),cw,()),()),((u5.2.1.1,u5.2.1.2.1,u5.2.1.2.2.1,()),b4,()))))
def IW:Nat→Pb
 |0=>fun _ _ _ _ _ _ _ _ _=>none
 |n+1=>RN (IW n)
def SX(R4:Pb)(AR:AAH)(AF Ai:Int):Option MJ:=
 (Am 3 AR AF Ai).bind fun u1=>
 (Am 5 u1.2.1.1 u1.2.1.2.1 u1.2.1.2.2.1).bind fun u2=>
 R4 (AZ (3+u2.1.1)) 0 u2.2.1.1 u2.2.1.2.1 u2.2.1.2.2.1 0 [] (AZ (1+u1.1.1)) []
def O9(AR:AAH)(AF Ai:Int):Option MJ:=SX (IW Ae) AR AF Ai
abbrev kL:Type:=ABg×ADg
def N_(p1 AR:AAH)(AF Ai:Int):Option kL:=
 (Am (p1.length:Int) AR AF Ai).bind fun u1=>
 if(0:Int)≤u1.1.1∧u1.1.1<(p1.length:Int)then(
 some (((p1.getD (u1.1.1.toNat) 0),()),((u1.2.1.1,u1.2.1.2.1,u1.2.1.2.2.1,()),())))else none
abbrev bm:Type:=ACL×ACr
def DG(p0:AAH):Option bm:=
 if 0+p0.length≤Dw then(
 some (((),()),(p0,())))else none
abbrev iR:Type:=AEx×ACr
def QF(p0:ABL):Option iR:=
 (DG p0.1).bind fun u1=>
 some ((((),p0.2.1,()),()),(u1.2.1,()))
abbrev Mz:Type:=ABT×Unit
def A3(p0 p1 p2:Int):Option Mz:=
 cond (decide (p0≥p1))
  (some ((decide (p0≤p2),()),()))
 (some ((false,()),()))
abbrev P3:Type:=ABT×Unit
abbrev TE:Type:=List Int→Int→Int→List Int→Int→Option P3
def VJ(R2:TE)(t6:AAH)(t7 t8:Int)(AR:AAH)(AF:Int):Option P3:=
 cond (decide (t8<t7))
  (if(0:Int)≤t8∧t8<(t6.length:Int)then(
  (A3 (t6.getD (t8.toNat) 0) 0 7).bind fun u2=>
  cond (!u2.1.1)
   (some ((false,()),()))
  (R2 t6 t7 (AZ (t8+1)) AR AF))else none)
 ((A3 (AR.length:Int) 1 8).bind fun u3=>
 cond (u3.1.1)
  ((A3 AF 1 4).bind fun u4=>
  some ((u4.1.1,()),()))
 (some ((false,()),())))
def Lr:Nat→TE
 |0=>fun _ _ _ _ _=>none
 |n+1=>VJ (Lr n)
def Vm(R2:TE)(p0:ABL):Option P3:=
 R2 p0.1 (p0.1.length:Int) 0 p0.1 p0.2.1
def E4(p0:ABL):Option P3:=Vm (Lr Ae) p0
abbrev Rq:Type:=ABT×Unit
abbrev VB:Type:=List Int→Int→List Int→Int→Int→Option Rq
def QM(R2:VB)(t0:AAH)(t1:Int)(t7:AAH)(t8 t9:Int):Option Rq:=
 cond (decide (t9<t8))
  (if(0:Int)≤t9∧t9<(t7.length:Int)then(
  let x1:Int:=(t7.getD (t9.toNat) 0)
  (A3 x1 0 t1).bind fun u2=>
  cond (!u2.1.1)
   (some ((false,()),()))
  (cond (decide (t9>0))
   (if(0:Int)≤AZ (t9-1)∧AZ (t9-1)<(t0.length:Int)then(
   cond (decide ((t0.getD ((AZ (t9-1)).toNat) 0)≥x1))
    (some ((false,()),()))
   (R2 t0 t1 t7 t8 (AZ (t9+1))))else none)
  (R2 t0 t1 t7 t8 (AZ (t9+1)))))else none)
 (some ((true,()),()))
def J7:Nat→VB
 |0=>fun _ _ _ _ _=>none
 |n+1=>QM (J7 n)
def XO(R2:VB)(p0:AAH)(p1:Int):Option Rq:=
 R2 p0 p1 p0 (p0.length:Int) 0
def Vq(p0:AAH)(p1:Int):Option Rq:=XO (J7 Ae) p0 p1
abbrev oT:Type:=ABT×Unit
def EA(p0:ABL)(p1:AAH):Option oT:=
 (E4 (p0.1,p0.2.1,())).bind fun u1=>
 cond (u1.1.1)
  ((Vq p1 (AZ ((p0.1.length:Int)-1))).bind fun u3=>
  some ((u3.1.1,()),()))
 (some ((false,()),()))
abbrev oE:Type:=ABT×Unit
def Hb(p0:Int):Option oE:=
 (A3 p0 1 30).bind fun u1=>
 some ((u1.1.1,()),())
abbrev uv:Type:=ABT×Unit
def XU(p0:Int):Option uv:=
 (A3 p0 1 60).bind fun u1=>
 some ((u1.1.1,()),())
abbrev pe:Type:=ABT×Unit
def D7(p0:Int):Option pe:=
 (Hb (AZ (p0.tdiv 4294967296))).bind fun u2=>
 cond (u2.1.1)
  ((XU (p0.tmod 4294967296)).bind fun u3=>
  some ((u3.1.1,()),()))
 (some ((false,()),()))
abbrev rN:Type:=ABT×Unit
def GK(p0:ACD):Option rN:=
 some (((decide ((p0.length:Int)≤40)),()),())
abbrev qn:Type:=ABg×Unit
def FI(p0:Int):Option qn:=
 (D7 p0).bind fun u1=>
 cond (!u1.1.1)
  (some ((0,()),()))
 (some (((AZ (p0.tdiv 4294967296)),()),()))
abbrev oJ:Type:=ABT×Unit
def L3(p0:ADG):Option oJ:=
 (A3 p0.2.1 0 30).bind fun u1=>
 cond (u1.1.1)
  (cond (p0.2.1==0)
   (cond (!p0.2.2.1)
    ((D7 p0.1).bind fun u2=>
    cond (u2.1.1)
     ((GK p0.2.2.2.1).bind fun u3=>
     some ((u3.1.1,()),()))
    (some ((false,()),())))
   (cond (decide (p0.2.1>0))
    ((D7 p0.1).bind fun u4=>
    cond (u4.1.1)
     (cond (p0.2.2.2.1==[])
      ((GK p0.2.2.2.1).bind fun u5=>
      some ((u5.1.1,()),()))
     (some ((false,()),())))
    (some ((false,()),())))
   ((D7 p0.1).bind fun u6=>
   cond (u6.1.1)
    (some ((false,()),()))
   (some ((false,()),())))))
  ((FI p0.1).bind fun u7=>
  let x8:Bool:=decide (p0.2.1>u7.1.1)
  cond (!p0.2.2.1)
   ((D7 p0.1).bind fun u9=>
   cond (u9.1.1)
    (cond (x8)
     ((GK p0.2.2.2.1).bind fun EY=>
     some ((EY.1.1,()),()))
    (some ((false,()),())))
   (some ((false,()),())))
  (cond (decide (p0.2.1>0))
   ((D7 p0.1).bind fun Nj=>
   cond (Nj.1.1)
    (cond (x8)
     (cond (p0.2.2.2.1==[])
      ((GK p0.2.2.2.1).bind fun bp=>
      some ((bp.1.1,()),()))
     (some ((false,()),())))
    (some ((false,()),())))
   (some ((false,()),())))
  ((D7 p0.1).bind fun WW=>
  cond (WW.1.1)
   (cond (x8)
    (some ((false,()),()))
   (some ((false,()),())))
  (some ((false,()),()))))))
 (cond (!p0.2.2.1)
  ((D7 p0.1).bind fun VP=>
  cond (VP.1.1)
   (some ((false,()),()))
  (some ((false,()),())))
 (cond (decide (p0.2.1>0))
  ((D7 p0.1).bind fun u15=>
  cond (u15.1.1)
   (some ((false,()),()))
  (some ((false,()),())))
 ((D7 p0.1).bind fun u16=>
 cond (u16.1.1)
  (some ((false,()),()))
 (some ((false,()),())))))
abbrev O4:Type:=ABT×Unit
abbrev RS:Type:=ABE→Int→Int→Option O4
def Nw(R2:RS)(t5:ABE)(t6 t7:Int):Option O4:=
 cond (decide (t7<t6))
  (if(0:Int)≤t7∧t7<(t5.length:Int)then(
  (L3 ((t5.getD (t7.toNat) (0,0,false,[],())).1,(t5.getD (t7.toNat) (0,0,false,[],())).2.1,(t5.getD (t7.toNat) (0,0,false,[],())).2.2.1,(t5.getD (t7.toNat) (0,0,false,[],())).2.2.2.1,())).bind fun u1=>
  cond (!u1.1.1)
   (some ((false,()),()))
  (R2 t5 t6 (AZ (t7+1))))else none)
 (some ((true,()),()))
def H_:Nat→RS
 |0=>fun _ _ _=>none
 |n+1=>Nw (H_ n)
def UL(R2:RS)(p0:ABE):Option O4:=
 R2 p0 (p0.length:Int) 0
def OM(p0:ABE):Option O4:=UL (H_ Ae) p0
abbrev Ks:Type:=ABT×Unit
abbrev N3:Type:=ABE→ABE→Int→Int→Option Ks
def LA(R2:N3)(t0 t5:ABE)(t6 t7:Int):Option Ks:=
 cond (decide (t7<t6))
  (if(0:Int)≤t7∧t7<(t5.length:Int)then(
  cond (decide (t7>0))
   (if(0:Int)≤AZ (t7-1)∧AZ (t7-1)<(t0.length:Int)then(
   cond (decide (((t0.getD ((AZ (t7-1)).toNat) (0,0,false,[],())).1)≥((t5.getD (t7.toNat) (0,0,false,[],())).1)))
    (some ((false,()),()))
   (R2 t0 t5 t6 (AZ (t7+1))))else none)
  (R2 t0 t5 t6 (AZ (t7+1))))else none)
 (some ((true,()),()))
def F6:Nat→N3
 |0=>fun _ _ _ _=>none
 |n+1=>LA (F6 n)
def Qn(R2:N3)(p0:ABE):Option Ks:=
 R2 p0 p0 (p0.length:Int) 0
def KH(p0:ABE):Option Ks:=Qn (F6 Ae) p0
abbrev o_:Type:=ABT×Unit
def FF(p0:ACc):Option o_:=
 cond ((decide ((p0.1.length:Int)>200)))
  (some ((false,()),()))
 (cond (decide ((p0.2.1.length:Int)>20))
  (some ((false,()),()))
 ((OM p0.1).bind fun u3=>
 cond (u3.1.1)
  ((OM p0.2.1).bind fun u4=>
  cond (u4.1.1)
   ((KH p0.1).bind fun u5=>
   cond (u5.1.1)
    ((A3 p0.2.2.1 0 30).bind fun u6=>
    some ((u6.1.1,()),()))
   (some ((false,()),())))
  (some ((false,()),())))
 (some ((false,()),()))))
abbrev Ip:Type:=ABg×Unit
abbrev Lg:Type:=List Int→Int→Int→Int→Option Ip
def OL(R2:Lg)(t0:AAH)(t1 t7 t8:Int):Option Ip:=
 cond (decide (t8<t7))
  (if(0:Int)≤t8∧t8<(t0.length:Int)then(
  cond (t1==(t0.getD (t8.toNat) 0))
   (some ((t8,()),()))
  (R2 t0 t1 t7 (AZ (t8+1))))else none)
 (some (((-1),()),()))
def GF:Nat→Lg
 |0=>fun _ _ _ _=>none
 |n+1=>OL (GF n)
def OZ(R2:Lg)(p0:AAH)(p1:Int):Option Ip:=
 R2 p0 p1 (p0.length:Int) 0
def N8(p0:AAH)(p1:Int):Option Ip:=OZ (GF Ae) p0 p1
abbrev Xu:Type:=ABT×Unit
def Bo(p0:AAH)(p1:Int):Option Xu:=
 (N8 p0 p1).bind fun u1=>
 some ((decide (u1.1.1≥0),()),())
abbrev rm:Type:=ABT×Unit
def Q7(p0:Int)(p1:ACr):Option rm:=
 (Bo p1.1 p0).bind fun u1=>
 some ((!u1.1.1,()),())
abbrev DS:Type:=ABg×Unit
abbrev Ee:Type:=List Int→(ACr×Unit)→Int→Int→Option DS
def D_(R2:Ee)(t0:AAH)(t1:ACr×Unit)(t7 t8:Int):Option DS:=
 cond (decide (t8<t7))
  (if(0:Int)≤t8∧t8<(t0.length:Int)then(
  (Q7 (t0.getD (t8.toNat) 0) t1.1).bind fun u2=>
  cond (u2.1.1)
   (some ((t8,()),()))
  (R2 t0 (t1.1,()) t7 (AZ (t8+1))))else none)
 (some (((-1),()),()))
def B8:Nat→Ee
 |0=>fun _ _ _ _=>none
 |n+1=>D_ (B8 n)
def D8(R2:Ee)(p0:AAH)(p1:ACr×Unit):Option DS:=
 R2 p0 (p1.1,()) (p0.length:Int) 0
def Dk(p0:AAH)(p1:ACr×Unit):Option DS:=D8 (B8 Ae) p0 p1
abbrev DJ:Type:=ACL×AGN
abbrev EU:Type:=(ACr×Unit)→Int→Int→List Int→Option DJ
def D2(R5:EU)(t1:ACr×Unit)(t5 t6:Int)(b0:AAH):Option DJ:=
 cond ((decide (t6<(b0.length:Int))))
  (if(0:Int)≤t6∧t6<(b0.length:Int)then(
  let x3:Int:=(b0.getD (t6.toNat) 0)
  (Q7 x3 t1.1).bind fun u4=>
  cond (!u4.1.1)
   (if(0:Int)≤t5∧t5<(b0.length:Int)then(
   R5 (t1.1,()) (AZ (t5+1)) (AZ (t6+1)) (b0.set (t5.toNat) x3))else none)
  (R5 (t1.1,()) t5 (AZ (t6+1)) b0))else none)
 (if(0:Int)≤t5∧t5≤(b0.length:Int)∧(b0.length:Int)≤(b0.length:Int)then(
 let x6:AAH:=(b0.take (t5.toNat)++List.replicate (((b0.length:Int).toNat)-(t5.toNat)) 0++b0.drop ((t5.toNat)+(((b0.length:Int).toNat)-(t5.toNat))))
 if(0:Int)≤(0:Int)∧(0:Int)≤t5∧t5≤(x6.length:Int)then(
 some (((),()),((),((x6.drop 0).take ((t5.toNat)-0)),())))else none)else none)
def Bu:Nat→EU
 |0=>fun _ _ _ _=>none
 |n+1=>D2 (Bu n)
def Dz(R5:EU)(p1:ACr×Unit)(b0:AAH):Option DJ:=
 (Dk b0 (p1.1,())).bind fun u1=>
 cond (u1.1.1==(-1))
  (some (((),()),((),b0,())))
 (R5 (p1.1,()) u1.1.1 (AZ (u1.1.1+1)) b0)
def Co(p1:ACr×Unit)(b0:AAH):Option DJ:=Dz (Bu Ae) p1 b0
abbrev xJ:Type:=ACL×ACr
def M9(p0 p1:AAH):Option xJ:=
 (DG p0).bind fun u1=>
 (Co ((p1,()),()) u1.2.1).bind fun u2=>
 some (((),()),(u2.2.2.1,()))
abbrev Kx:Type:=ABT×Unit
def C6(p0:ABN)(p1:Int):Option Kx:=
 (M9 [p1] p0.2.2.2.1).bind fun u1=>
 some ((decide ((u1.2.1.length:Int)>0),()),())
abbrev Tv:Type:=ABg×Unit
abbrev W3:Type:=List Int→Int→Int→List Int→Int→List Int→Option Tv
def YI(R5:W3)(t13:AAH)(t14 t15:Int)(AR:AAH)(AF:Int)(b1:AAH):Option Tv:=
 cond (decide (t15<t14))
  (if(0:Int)≤t15∧t15<(t13.length:Int)then(
  let x2:Int:=(t13.getD (t15.toNat) 0)
  if(0:Int)≤x2∧x2<(AR.length:Int)then(
  (Bo b1 (AR.getD (x2.toNat) 0)).bind fun u4=>
  cond (!u4.1.1)
   (if(0:Int)≤x2∧x2<(AR.length:Int)then(
   if b1.length+1≤Dw then(
   R5 t13 t14 (AZ (t15+1)) AR AF (b1++[(AR.getD (x2.toNat) 0)]))else none)else none)
  (R5 t13 t14 (AZ (t15+1)) AR AF b1))else none)else none)
 (some (((b1.length:Int),()),()))
def N6:Nat→W3
 |0=>fun _ _ _ _ _ _=>none
 |n+1=>YI (N6 n)
def YJ(R5:W3)(p0:ABL)(p1:AAH):Option Tv:=
 (EA (p0.1,p0.2.1,()) p1).bind fun u1=>
 cond (!u1.1.1)
  (some (((-1),()),()))
 (R5 p1 (p1.length:Int) 0 p0.1 p0.2.1 [])
def Yk(p0:ABL)(p1:AAH):Option Tv:=YJ (N6 Ae) p0 p1
abbrev jT:Type:=ABT×Unit
def Gc(p0:ABL)(p1:AAH):Option jT:=
 (EA (p0.1,p0.2.1,()) p1).bind fun u1=>
 cond (u1.1.1)
  ((Yk (p0.1,p0.2.1,()) p1).bind fun u2=>
  some (((decide (u2.1.1≥p0.2.1)),()),()))
 (some ((false,()),()))
abbrev Jo:Type:=ABT×Unit
abbrev MB:Type:=ABN→AAh→Int→Int→Option Jo
def Jt(R4:MB)(t0:ABN)(t32:AAh)(t33 t34:Int):Option Jo:=
 cond (decide (t34<t33))
  (if(0:Int)≤t34∧t34<(t32.length:Int)then(
  (FF ((t32.getD (t34.toNat) ([],[],0,())).1,(t32.getD (t34.toNat) ([],[],0,())).2.1,(t32.getD (t34.toNat) ([],[],0,())).2.2.1,())).bind fun u5=>
  cond (!u5.1.1)
   (some ((false,()),()))
  ((C6 t0 t34).bind fun u6=>
  cond (u6.1.1)
   (cond (decide ((AZ ((AZ ((((t32.getD (t34.toNat) ([],[],0,())).1).length:Int)+(((t32.getD (t34.toNat) ([],[],0,())).2.1).length:Int)))+((t32.getD (t34.toNat) ([],[],0,())).2.2.1)))>0))
    (some ((false,()),()))
   (R4 t0 t32 t33 (AZ (t34+1))))
  (R4 t0 t32 t33 (AZ (t34+1)))))else none)
 (cond (t0.2.2.2.2.2.2.2.2.2.2.1)
  (some ((true,()),()))
 ((Gc (t0.1,t0.2.1,()) t0.2.2.2.1).bind fun bp=>
 some ((!bp.1.1,()),())))
def FH:Nat→MB
 |0=>fun _ _ _ _=>none
 |n+1=>Jt (FH n)
def PO(R4:MB)(p0:ABN):Option Jo:=
 cond (((p0.2.2.1.length:Int) !=(p0.1.length:Int)))
  (some ((false,()),()))
 ((EA (p0.1,p0.2.1,()) p0.2.2.2.1).bind fun u3=>
 cond (!u3.1.1)
  (some ((false,()),()))
 (R4 p0 p0.2.2.1 (p0.2.2.1.length:Int) 0))
def Kr(p0:ABN):Option Jo:=PO (FH Ae) p0
abbrev ux:Type:=ABT×Unit
def ah(p0:ABL)(p1:AFc):Option ux:=
 (Gc (p0.1,p0.2.1,()) p1.1).bind fun u1=>
 cond (u1.1.1)
  ((A3 p1.2.2.1 0 60).bind fun u2=>
  cond (u2.1.1)
   (cond (p1.2.1)
    (some ((true,()),()))
   (some ((p1.2.2.1==0,()),())))
  (some ((false,()),())))
 (some ((false,()),()))
abbrev RM:Type:=ABT×Unit
abbrev ZJ:Type:=AAo→Int→Int→List Int→Int→AAo→Int→Option RM
def TS(R2:ZJ)(t9:AAo)(t10 t11:Int)(AR:AAH)(AF:Int)(CZ:AAo)(Bf:Int):Option RM:=
 cond (decide (t11<t10))
  (if(0:Int)≤t11∧t11<(t9.length:Int)then(
  (ah (AR,AF,()) ((t9.getD (t11.toNat) ([],false,0,())).1,(t9.getD (t11.toNat) ([],false,0,())).2.1,(t9.getD (t11.toNat) ([],false,0,())).2.2.1,())).bind fun u1=>
  cond (!u1.1.1)
   (some ((false,()),()))
  (cond (((t9.getD (t11.toNat) ([],false,0,())).2.1))
   (cond (t11==(AZ ((CZ.length:Int)-1)))
    (some ((false,()),()))
   (cond (decide (t11>0))
    (if(0:Int)≤AZ (t11-1)∧AZ (t11-1)<(CZ.length:Int)then(
    cond (!((CZ.getD ((AZ (t11-1)).toNat) ([],false,0,())).2.1))
     (some ((false,()),()))
    (R2 t9 t10 (AZ (t11+1)) AR AF CZ Bf))else none)
   (R2 t9 t10 (AZ (t11+1)) AR AF CZ Bf)))
  (R2 t9 t10 (AZ (t11+1)) AR AF CZ Bf)))else none)
 (cond (Bf==0)
  ((E4 (AR,AF,())).bind fun u5=>
  cond (u5.1.1)
   (cond ((decide ((CZ.length:Int)≤30)))
    (some ((true,()),()))
   (some ((false,()),())))
  (some ((false,()),())))
 ((FI Bf).bind fun u7=>
 (A3 u7.1.1 1 (CZ.length:Int)).bind fun u8=>
 (E4 (AR,AF,())).bind fun u9=>
 cond (u9.1.1)
  (cond ((decide ((CZ.length:Int)≤30)))
   (some ((u8.1.1,()),()))
  (some ((false,()),())))
 (some ((false,()),()))))
def Kg:Nat→ZJ
 |0=>fun _ _ _ _ _ _ _=>none
 |n+1=>TS (Kg n)
def aI(R2:ZJ)(p0:ABL)(p1:ABk):Option RM:=
 R2 p1.1 (p1.1.length:Int) 0 p0.1 p0.2.1 p1.1 p1.2.1
def Kc(p0:ABL)(p1:ABk):Option RM:=aI (Kg Ae) p0 p1
abbrev ov:Type:=ABg×Unit
def ae(p0:Bool):Option ov:=
 cond (p0)
  (some ((1,()),()))
 (some ((0,()),()))
abbrev Mf:Type:=ABT×Unit
abbrev Th:Type:=Int→AB7→Int→Int→List Int→Int→Int→AB7→Option Mf
def Vb(R3:Th)(t5:Int)(t9:AB7)(t10 t11:Int)(AR:AAH)(AF CZ:Int)(Bf:AB7):Option Mf:=
 cond (decide (t11<t10))
  (if(0:Int)≤t11∧t11<(t9.length:Int)then(
  (GK ((t9.getD (t11.toNat) ([],[],false,())).1)).bind fun u3=>
  cond (!u3.1.1)
   (some ((false,()),()))
  ((EA (AR,AF,()) ((t9.getD (t11.toNat) ([],[],false,())).2.1)).bind fun u4=>
  cond (!u4.1.1)
   (some ((false,()),()))
  ((Gc (AR,AF,()) ((t9.getD (t11.toNat) ([],[],false,())).2.1)).bind fun u6=>
  cond (((t9.getD (t11.toNat) ([],[],false,())).2.2.1) !=u6.1.1)
   (some ((false,()),()))
  ((ae (!((t9.getD (t11.toNat) ([],[],false,())).2.2.1))).bind fun u8=>
  R3 (AZ (t5+u8.1.1)) t9 t10 (AZ (t11+1)) AR AF CZ Bf))))else none)
 ((E4 (AR,AF,())).bind fun u9=>
 cond (u9.1.1)
  ((Hb CZ).bind fun EY=>
  cond (EY.1.1)
   (cond ((decide ((Bf.length:Int)≤60)))
    (some ((decide (t5≤6),()),()))
   (some ((false,()),())))
  (some ((false,()),())))
 (some ((false,()),())))
def LG:Nat→Th
 |0=>fun _ _ _ _ _ _ _ _=>none
 |n+1=>Vb (LG n)
def VL(R3:Th)(p0:ABL)(p1:ACI):Option Mf:=
 R3 0 p1.2.1 (p1.2.1.length:Int) 0 p0.1 p0.2.1 p1.1 p1.2.1
def GW(p0:ABL)(p1:ACI):Option Mf:=VL (LG Ae) p0 p1
abbrev dr:Type:=ABT×Unit
def JJ(p0:ABN)(p1:Int):Option dr:=
 (A3 p1 1 (p0.2.2.2.2.1.length:Int)).bind fun u2=>
 some ((u2.1.1,()),())
abbrev Ij:Type:=ABT×Unit
abbrev LQ:Type:=ABN→AA1→Int→Int→Option Ij
def JQ(R2:LQ)(t0:ABN)(t8:AA1)(t9 t10:Int):Option Ij:=
 cond (decide (t10<t9))
  (if(0:Int)≤t10∧t10<(t8.length:Int)then(
  (GW (t0.1,t0.2.1,()) ((t8.getD (t10.toNat) (0,[],())).1,(t8.getD (t10.toNat) (0,[],())).2.1,())).bind fun u2=>
  cond (!u2.1.1)
   (some ((false,()),()))
  ((JJ t0 ((t8.getD (t10.toNat) (0,[],())).1)).bind fun u4=>
  cond (!u4.1.1)
   (some ((false,()),()))
  (cond (decide (t10>0))
   (if(0:Int)≤AZ (t10-1)∧AZ (t10-1)<(t0.2.2.2.2.2.2.1.length:Int)then(
   cond (decide (((t0.2.2.2.2.2.2.1.getD ((AZ (t10-1)).toNat) (0,[],())).1)≥((t8.getD (t10.toNat) (0,[],())).1)))
    (some ((false,()),()))
   (R2 t0 t8 t9 (AZ (t10+1))))else none)
  (R2 t0 t8 t9 (AZ (t10+1))))))else none)
 (some ((decide ((t0.2.2.2.2.2.2.1.length:Int)≤4),()),()))
def Eg:Nat→LQ
 |0=>fun _ _ _ _=>none
 |n+1=>JQ (Eg n)
def Oc(R2:LQ)(p0:ABN):Option Ij:=
 R2 p0 p0.2.2.2.2.2.2.1 (p0.2.2.2.2.2.2.1.length:Int) 0
def KE(p0:ABN):Option Ij:=Oc (Eg Ae) p0
abbrev uN:Type:=ABg×Unit
def TF(p0:Int):Option uN:=
 (D7 p0).bind fun u1=>
 cond (!u1.1.1)
  (some ((0,()),()))
 (some ((p0.tmod 4294967296,()),()))
abbrev pJ:Type:=ABg×Unit
def Rv(p0:ABZ):Option pJ:=
 cond ((p0.2.2.2.1.length:Int)==0)
  (some ((0,()),()))
 (let x2:Int:=(p0.2.2.2.1.length:Int)
 if(0:Int)≤AZ (x2-1)∧AZ (x2-1)<(p0.2.2.2.1.length:Int)then(
 (TF ((p0.2.2.2.1.getD ((AZ (x2-1)).toNat) (0,0,false,[],())).1)).bind fun u4=>
 some ((u4.1.1,()),()))else none)
abbrev Tp:Type:=ABT×Unit
abbrev Wv:Type:=ABE→Int→Int→Int→Int→List Int→ABE→Bool→List AAH→Option Tp
def RR(R2:Wv)(t6:ABE)(t7 t8 AR AF:Int)(Ai:AAH)(Bk:ABE)(B_:Bool)(AU:List AAH):Option Tp:=
 cond (decide (t8<t7))
  (if(0:Int)≤t8∧t8<(t6.length:Int)then(
  (L3 ((t6.getD (t8.toNat) (0,0,false,[],())).1,(t6.getD (t8.toNat) (0,0,false,[],())).2.1,(t6.getD (t8.toNat) (0,0,false,[],())).2.2.1,(t6.getD (t8.toNat) (0,0,false,[],())).2.2.2.1,())).bind fun u2=>
  cond (!u2.1.1)
   (some ((false,()),()))
  ((FI ((t6.getD (t8.toNat) (0,0,false,[],())).1)).bind fun u4=>
  cond (u4.1.1 !=AF)
   (some ((false,()),()))
  (cond (decide (((t6.getD (t8.toNat) (0,0,false,[],())).2.1)≥AR))
   (some ((false,()),()))
  (R2 t6 t7 (AZ (t8+1)) AR AF Ai Bk B_ AU))))else none)
 ((KH Bk).bind fun u6=>
 some ((u6.1.1,()),()))
def LW:Nat→Wv
 |0=>fun _ _ _ _ _ _ _ _ _=>none
 |n+1=>RR (LW n)
def Xz(R2:Wv)(p0:ABZ):Option Tp:=
 R2 p0.2.2.2.1 (p0.2.2.2.1.length:Int) 0 p0.1 p0.2.1 p0.2.2.1 p0.2.2.2.1 p0.2.2.2.2.1 p0.2.2.2.2.2.1
def Ul(p0:ABZ):Option Tp:=Xz (LW Ae) p0
abbrev T5:Type:=ABT×Unit
abbrev Wq:Type:=List AAH→Int→Int→List Int→Int→Int→Int→List Int→ABE→Bool→List AAH→Option T5
def RV(R2:Wq)(t10:List AAH)(t11 t12:Int)(AR:AAH)(AF CZ Bf:Int)(EF:AAH)(Gy:ABE)(MI:Bool)(EE:List AAH):Option T5:=
 cond (decide (t12<t11))
  (if(0:Int)≤t12∧t12<(t10.length:Int)then(
  (EA (AR,AF,()) (t10.getD (t12.toNat) [])).bind fun u2=>
  cond (!u2.1.1)
   (some ((false,()),()))
  (R2 t10 t11 (AZ (t12+1)) AR AF CZ Bf EF Gy MI EE))else none)
 (cond (MI)
  ((Rv (CZ,Bf,EF,Gy,MI,EE,())).bind fun u3=>
  (Hb Bf).bind fun u4=>
  cond (u4.1.1)
   ((A3 CZ (AZ (Bf+1)) 30).bind fun u5=>
   (E4 (AR,AF,())).bind fun u6=>
   cond (u6.1.1)
    (cond (u5.1.1)
     ((EA (AR,AF,()) EF).bind fun u7=>
     cond (u7.1.1)
      ((Ul (CZ,Bf,EF,Gy,MI,EE,())).bind fun u8=>
      cond (u8.1.1)
       (some ((((EE.length:Int)==u3.1.1),()),()))
      (some ((false,()),())))
     (some ((false,()),())))
    (some ((false,()),())))
   (some ((false,()),())))
  ((E4 (AR,AF,())).bind fun EY=>
  cond (EY.1.1)
   (some ((false,()),()))
  (some ((false,()),()))))
 ((Hb Bf).bind fun Nj=>
 cond (Nj.1.1)
  ((A3 CZ (AZ (Bf+1)) 30).bind fun bp=>
  (E4 (AR,AF,())).bind fun WW=>
  cond (WW.1.1)
   (cond (bp.1.1)
    ((EA (AR,AF,()) EF).bind fun VP=>
    cond (VP.1.1)
     ((Ul (CZ,Bf,EF,Gy,MI,EE,())).bind fun u15=>
     cond (u15.1.1)
      (some ((((EE.length:Int)==0),()),()))
     (some ((false,()),())))
    (some ((false,()),())))
   (some ((false,()),())))
  (some ((false,()),())))
 ((E4 (AR,AF,())).bind fun fR=>
 cond (fR.1.1)
  (some ((false,()),()))
 (some ((false,()),())))))
def K7:Nat→Wq
 |0=>fun _ _ _ _ _ _ _ _ _ _ _=>none
 |n+1=>RV (K7 n)
def YE(R2:Wq)(p0:ABL)(p1:ABZ):Option T5:=
 R2 p1.2.2.2.2.2.1 (p1.2.2.2.2.2.1.length:Int) 0 p0.1 p0.2.1 p1.1 p1.2.1 p1.2.2.1 p1.2.2.2.1 p1.2.2.2.2.1 p1.2.2.2.2.2.1
def Hv(p0:ABL)(p1:ABZ):Option T5:=YE (K7 Ae) p0 p1
abbrev O3:Type:=ABg×Unit
abbrev SJ:Type:=AAo→Int→Int→Option O3
def Of(R2:SJ)(t6:AAo)(t7 t8:Int):Option O3:=
 cond (decide (t8<t7))
  (if(0:Int)≤t8∧t8<(t6.length:Int)then(
  cond (!((t6.getD (t8.toNat) ([],false,0,())).2.1))
   (some ((AZ (t8+1),()),()))
  (R2 t6 t7 (AZ (t8+1))))else none)
 (some ((0,()),()))
def IB:Nat→SJ
 |0=>fun _ _ _=>none
 |n+1=>Of (IB n)
def Uf(R2:SJ)(p0:ABk):Option O3:=
 R2 p0.1 (p0.1.length:Int) 0
def Lq(p0:ABk):Option O3:=Uf (IB Ae) p0
abbrev KU:Type:=ABT×Unit
abbrev NC:Type:=ABN→ABB→Int→Int→Option KU
def Kj(R2:NC)(t0:ABN)(t8:ABB)(t9 t10:Int):Option KU:=
 cond (decide (t10<t9))
  (if(0:Int)≤t10∧t10<(t8.length:Int)then(
  (Hv (t0.1,t0.2.1,()) ((t8.getD (t10.toNat) (0,0,[],[],false,[],())).1,(t8.getD (t10.toNat) (0,0,[],[],false,[],())).2.1,(t8.getD (t10.toNat) (0,0,[],[],false,[],())).2.2.1,(t8.getD (t10.toNat) (0,0,[],[],false,[],())).2.2.2.1,(t8.getD (t10.toNat) (0,0,[],[],false,[],())).2.2.2.2.1,(t8.getD (t10.toNat) (0,0,[],[],false,[],())).2.2.2.2.2.1,())).bind fun u2=>
  cond (!u2.1.1)
   (some ((false,()),()))
  (cond (((t8.getD (t10.toNat) (0,0,[],[],false,[],())).1) !=(t0.2.2.2.2.1.length:Int))
   (some ((false,()),()))
  ((Lq (t0.2.2.2.2.1,t0.2.2.2.2.2.1,())).bind fun u6=>
  cond (((t8.getD (t10.toNat) (0,0,[],[],false,[],())).2.1) !=u6.1.1)
   (some ((false,()),()))
  (R2 t0 t8 t9 (AZ (t10+1))))))else none)
 (some ((decide ((t0.2.2.2.2.2.2.2.1.length:Int)≤1),()),()))
def FY:Nat→NC
 |0=>fun _ _ _ _=>none
 |n+1=>Kj (FY n)
def Pn(R2:NC)(p0:ABN):Option KU:=
 R2 p0 p0.2.2.2.2.2.2.2.1 (p0.2.2.2.2.2.2.2.1.length:Int) 0
def L7(p0:ABN):Option KU:=Pn (FY Ae) p0
abbrev mn:Type:=ABT×Unit
def Tx(p0:ADF):Option mn:=
 (A3 p0.1 1 31).bind fun u1=>
 cond (u1.1.1)
  ((A3 p0.2.1 1 61).bind fun u2=>
  cond (u2.1.1)
   (some ((decide ((p0.2.2.1.length:Int)≤120),()),()))
  (some ((false,()),())))
 (some ((false,()),()))
abbrev Ii:Type:=ABT×Unit
abbrev K9:Type:=ABN→AAs→Int→Int→Option Ii
def JG(R2:K9)(t0:ABN)(t8:AAs)(t9 t10:Int):Option Ii:=
 cond (decide (t10<t9))
  (if(0:Int)≤t10∧t10<(t8.length:Int)then(
  (Tx ((t8.getD (t10.toNat) (0,0,[],())).1,(t8.getD (t10.toNat) (0,0,[],())).2.1,(t8.getD (t10.toNat) (0,0,[],())).2.2.1,())).bind fun u2=>
  cond (!u2.1.1)
   (some ((false,()),()))
  (R2 t0 t8 t9 (AZ (t10+1))))else none)
 (some (((t0.2.2.2.2.2.2.2.2.1.length:Int)==2,()),()))
def Ef:Nat→K9
 |0=>fun _ _ _ _=>none
 |n+1=>JG (Ef n)
def Ns(R2:K9)(p0:ABN):Option Ii:=
 R2 p0 p0.2.2.2.2.2.2.2.2.1 (p0.2.2.2.2.2.2.2.2.1.length:Int) 0
def KL(p0:ABN):Option Ii:=Ns (Ef Ae) p0
abbrev Kv:Type:=ABT×Unit
abbrev Oi:Type:=ABN→AAX→Int→Int→Option Kv
def Ln(R2:Oi)(t0:ABN)(t8:AAX)(t9 t10:Int):Option Kv:=
 cond (decide (t10<t9))
  (if(0:Int)≤t10∧t10<(t8.length:Int)then(
  (FI ((t8.getD (t10.toNat) (0,[],false,())).1)).bind fun u3=>
  (JJ t0 u3.1.1).bind fun u4=>
  cond (!u4.1.1)
   (some ((false,()),()))
  ((GK ((t8.getD (t10.toNat) (0,[],false,())).2.1)).bind fun u6=>
  cond (!u6.1.1)
   (some ((false,()),()))
  (cond (decide (t10>0))
   (if(0:Int)≤AZ (t10-1)∧AZ (t10-1)<(t0.2.2.2.2.2.2.2.2.2.1.length:Int)then(
   cond (decide (((t0.2.2.2.2.2.2.2.2.2.1.getD ((AZ (t10-1)).toNat) (0,[],false,())).1)≥((t8.getD (t10.toNat) (0,[],false,())).1)))
    (some ((false,()),()))
   (R2 t0 t8 t9 (AZ (t10+1))))else none)
  (R2 t0 t8 t9 (AZ (t10+1))))))else none)
 (some ((decide ((t0.2.2.2.2.2.2.2.2.2.1.length:Int)≤120),()),()))
def GL:Nat→Oi
 |0=>fun _ _ _ _=>none
 |n+1=>Ln (GL n)
def RG(R2:Oi)(p0:ABN):Option Kv:=
 R2 p0 p0.2.2.2.2.2.2.2.2.2.1 (p0.2.2.2.2.2.2.2.2.2.1.length:Int) 0
def NY(p0:ABN):Option Kv:=RG (GL Ae) p0
abbrev oX:Type:=ABT×Unit
def Fq(p0:ABN):Option oX:=
 (E4 (p0.1,p0.2.1,())).bind fun u1=>
 cond (u1.1.1)
  ((Kr (p0.1,p0.2.1,p0.2.2.1,p0.2.2.2.1,p0.2.2.2.2.1,p0.2.2.2.2.2.1,p0.2.2.2.2.2.2.1,p0.2.2.2.2.2.2.2.1,p0.2.2.2.2.2.2.2.2.1,p0.2.2.2.2.2.2.2.2.2.1,p0.2.2.2.2.2.2.2.2.2.2.1,())).bind fun u2=>
  cond (u2.1.1)
   ((Kc (p0.1,p0.2.1,()) (p0.2.2.2.2.1,p0.2.2.2.2.2.1,())).bind fun u3=>
   cond (u3.1.1)
    ((KE (p0.1,p0.2.1,p0.2.2.1,p0.2.2.2.1,p0.2.2.2.2.1,p0.2.2.2.2.2.1,p0.2.2.2.2.2.2.1,p0.2.2.2.2.2.2.2.1,p0.2.2.2.2.2.2.2.2.1,p0.2.2.2.2.2.2.2.2.2.1,p0.2.2.2.2.2.2.2.2.2.2.1,())).bind fun u4=>
    cond (u4.1.1)
     ((L7 (p0.1,p0.2.1,p0.2.2.1,p0.2.2.2.1,p0.2.2.2.2.1,p0.2.2.2.2.2.1,p0.2.2.2.2.2.2.1,p0.2.2.2.2.2.2.2.1,p0.2.2.2.2.2.2.2.2.1,p0.2.2.2.2.2.2.2.2.2.1,p0.2.2.2.2.2.2.2.2.2.2.1,())).bind fun u5=>
     cond (u5.1.1)
      ((KL (p0.1,p0.2.1,p0.2.2.1,p0.2.2.2.1,p0.2.2.2.2.1,p0.2.2.2.2.2.1,p0.2.2.2.2.2.2.1,p0.2.2.2.2.2.2.2.1,p0.2.2.2.2.2.2.2.2.1,p0.2.2.2.2.2.2.2.2.2.1,p0.2.2.2.2.2.2.2.2.2.2.1,())).bind fun u6=>
      cond (u6.1.1)
       ((NY (p0.1,p0.2.1,p0.2.2.1,p0.2.2.2.1,p0.2.2.2.2.1,p0.2.2.2.2.2.1,p0.2.2.2.2.2.2.1,p0.2.2.2.2.2.2.2.1,p0.2.2.2.2.2.2.2.2.1,p0.2.2.2.2.2.2.2.2.2.1,p0.2.2.2.2.2.2.2.2.2.2.1,())).bind fun u7=>
       some ((u7.1.1,()),()))
      (some ((false,()),())))
     (some ((false,()),())))
    (some ((false,()),())))
   (some ((false,()),())))
  (some ((false,()),())))
 (some ((false,()),()))
abbrev xK:Type:=ABT×Unit
def CK(p0 p1 p2:Int):Option xK:=
 cond (decide (p0≥p1))
  (some ((decide (p0≤p2),()),()))
 (some ((false,()),()))
abbrev QD:Type:=ABT×Unit
abbrev TK:Type:=Int→List Int→Int→Option QD
def Va(R4:TK)(t3:Int)(AR:AAH)(AF:Int):Option QD:=
 cond ((decide (t3<(AR.length:Int))))
  (if(0:Int)≤t3∧t3<(AR.length:Int)then(
  (CK (AR.getD (t3.toNat) 0) 0 7).bind fun u5=>
  cond (!u5.1.1)
   (some ((false,()),()))
  (R4 (AZ (t3+1)) AR AF))else none)
 (some ((true,()),()))
def LP:Nat→TK
 |0=>fun _ _ _=>none
 |n+1=>Va (LP n)
def VM(R4:TK)(p0:ABL):Option QD:=
 (CK (p0.1.length:Int) 1 8).bind fun u1=>
 cond (!u1.1.1)
  (some ((false,()),()))
 ((CK p0.2.1 1 4).bind fun u2=>
 cond (!u2.1.1)
  (some ((false,()),()))
 (R4 0 p0.1 p0.2.1))
def GU(p0:ABL):Option QD:=VM (LP Ae) p0
abbrev pv:Type:=AGO×Unit
def bJ(p0:Int):Option pv:=
 cond (p0==8)
  (some (([],()),()))
 (cond (p0==10)
  (some (([],()),()))
 (cond (p0==12)
  (some (([],()),()))
 (cond (p0==2)
  (some (([65,84],()),()))
 (cond (p0==3)
  (some (([65,66,67],()),()))
 (cond (p0==5)
  (some (([65,66],()),()))
 (cond (p0==14)
  (some (([65,66],()),()))
 (cond (p0==11)
  (some (([66,67],()),()))
 (cond (p0==13)
  (some (([80],()),()))
 (some (([65],()),()))))))))))
abbrev Pv:Type:=ABT×Unit
abbrev XE:Type:=Int→Int→Int→Int→Int→Int→List UInt8→Int→Int→Int→Int→List UInt8→List Int→Option Pv
def DT(R4:XE)(t12 t13 AR AF Ai Bk:Int)(B_:ACD)(CZ Bf EF Gy:Int)(MI:ACD)(b2:AAH):Option Pv:=
 cond (decide (t13<t12))
  (if(0:Int)≤t13∧t13<(b2.length:Int)then(
  let x3:Int:=(b2.getD (t13.toNat) 0)
  cond (x3==65)
   (R4 t12 (AZ (t13+1)) AR AF Ai Bk B_ CZ 0 EF Gy MI b2)
  (cond (x3==80)
   (R4 t12 (AZ (t13+1)) AR AF Ai Bk B_ CZ 0 EF Gy MI b2)
  (cond (x3==66)
   (R4 t12 (AZ (t13+1)) AR AF Ai Bk B_ CZ Bf 0 Gy MI b2)
  (cond (x3==67)
   (R4 t12 (AZ (t13+1)) AR AF Ai Bk B_ CZ Bf EF 0 MI b2)
  (cond (x3==84)
   (R4 t12 (AZ (t13+1)) AR AF Ai Bk B_ CZ Bf EF Gy [] b2)
  (R4 t12 (AZ (t13+1)) AR AF Ai Bk B_ CZ Bf EF Gy MI b2))))))else none)
 ((A3 AR 1 16).bind fun u4=>
 cond (u4.1.1)
  (cond (((CZ==0)&&((Bf==0)&&((EF==0)&&((Gy==0)&&((MI==[])&&true))))))
   ((GK B_).bind fun u6=>
   some ((u6.1.1,()),()))
  (some ((false,()),())))
 (some ((false,()),())))
def Dp:Nat→XE
 |0=>fun _ _ _ _ _ _ _ _ _ _ _ _ _=>none
 |n+1=>DT (Dp n)
def YF(R4:XE)(p0:ACh):Option Pv:=
 (bJ p0.1).bind fun u1=>
 if u1.1.1.length≤Dw then(
 let x2:AAH:=(u1.1.1.map fun c=>(c.toNat:Int))
 R4 (x2.length:Int) 0 p0.1 p0.2.1 p0.2.2.1 p0.2.2.2.1 p0.2.2.2.2.1 0 p0.2.1 p0.2.2.1 p0.2.2.2.1 p0.2.2.2.2.1 x2)else none
def Yt(p0:ACh):Option Pv:=YF (Dp Ae) p0
abbrev IU:Type:=AEx×ADz
abbrev N9:Type:=AAo→Int→Int→Int→AAo→Int→AAo→Option IU
def RH(R3:N9)(t10:AAo)(t11 t12 AF:Int)(b1:AAo)(mc:Int)(b3:AAo):Option IU:=
 cond (decide (t12<t11))
  (if(0:Int)≤t12∧t12<(t10.length:Int)then(
  (DG ((t10.getD (t12.toNat) ([],false,0,())).1)).bind fun u1=>
  if b3.length+1≤Dw then(
  R3 t10 t11 (AZ (t12+1)) AF b1 mc (b3++[(u1.2.1,(t10.getD (t12.toNat) ([],false,0,())).2.1,(t10.getD (t12.toNat) ([],false,0,())).2.2.1,())]))else none)else none)
 (some ((((),mc,()),()),(b3,())))
def Ht:Nat→N9
 |0=>fun _ _ _ _ _ _ _=>none
 |n+1=>RH (Ht n)
def Qm(R3:N9)(p0:ABk):Option IU:=
 R3 p0.1 (p0.1.length:Int) 0 0 [] p0.2.1 []
def Ed(p0:ABk):Option IU:=Qm (Ht Ae) p0
abbrev gk:Type:=ACL×AEq
def I9(p0:ABE):Option gk:=
 if 0+p0.length≤Dw then(
 some (((),()),(p0,())))else none
abbrev kC:Type:=AGP×ADM
def DB(p0:ACc):Option kC:=
 (I9 p0.1).bind fun u1=>
 (I9 p0.2.1).bind fun u2=>
 some ((((),(),p0.2.2.1,()),()),(u1.2.1,u2.2.1,()))
abbrev Ka:Type:=AGQ×AD7
abbrev Qg:Type:=AB7→Int→Int→Int→AB7→Int→AB7→Option Ka
def S4(R3:Qg)(t10:AB7)(t11 t12 AR:Int)(b1:AB7)(Zw:Int)(b3:AB7):Option Ka:=
 cond (decide (t12<t11))
  (if(0:Int)≤t12∧t12<(t10.length:Int)then(
  (DG ((t10.getD (t12.toNat) ([],[],false,())).2.1)).bind fun u2=>
  if b3.length+1≤Dw then(
  R3 t10 t11 (AZ (t12+1)) AR b1 Zw (b3++[((t10.getD (t12.toNat) ([],[],false,())).1,u2.2.1,(t10.getD (t12.toNat) ([],[],false,())).2.2.1,())]))else none)else none)
 (some (((Zw,(),()),()),(b3,())))
def JV:Nat→Qg
 |0=>fun _ _ _ _ _ _ _=>none
 |n+1=>S4 (JV n)
def Sk(R3:Qg)(p0:ACI):Option Ka:=
 R3 p0.2.1 (p0.2.1.length:Int) 0 0 [] p0.1 []
def Ft(p0:ACI):Option Ka:=Sk (JV Ae) p0
abbrev QI:Type:=AE1×ADN
abbrev TT:Type:=List AAH→Int→Int→Int→Int→Bool→List Int→ABE→List AAH→Int→Int→Bool→List Int→ABE→List AAH→Option QI
def Vg(R4:TT)(t17:List AAH)(t18 t19 AR AF:Int)(B_:Bool)(b1:AAH)(b2:ABE)(b3:List AAH)(wq xc:Int)(wV:Bool)(b5:AAH)(b6:ABE)(b7:List AAH):Option QI:=
 cond (decide (t19<t18))
  (if(0:Int)≤t19∧t19<(t17.length:Int)then(
  (DG (t17.getD (t19.toNat) [])).bind fun u4=>
  if b7.length+1≤Dw then(
  R4 t17 t18 (AZ (t19+1)) AR AF B_ b1 b2 b3 wq xc wV b5 b6 (b7++[u4.2.1]))else none)else none)
 (some (((wq,xc,(),(),wV,(),()),()),(b5,b6,b7,())))
def LJ:Nat→TT
 |0=>fun _ _ _ _ _ _ _ _ _ _ _ _ _ _ _=>none
 |n+1=>Vg (LJ n)
def VI(R4:TT)(p0:ABZ):Option QI:=
 (DG p0.2.2.1).bind fun u1=>
 (I9 p0.2.2.2.1).bind fun u2=>
 R4 p0.2.2.2.2.2.1 (p0.2.2.2.2.2.1.length:Int) 0 0 0 false [] [] [] p0.1 p0.2.1 p0.2.2.2.2.1 u1.2.1 u2.2.1 []
def GX(p0:ABZ):Option QI:=VI (LJ Ae) p0
abbrev jC:Type:=AFi×AEs
def Mv(p0:ADF):Option jC:=
 if 0+p0.2.2.1.length≤Dw then(
 some (((p0.1,p0.2.1,(),()),()),(p0.2.2.1,())))else none
abbrev EN:Type:=AFl×ADK
abbrev IE:Type:=AAh→Int→Int→List Int→Int→AAh→List Int→AAo→Int→AA1→ABB→AAs→AAX→Bool→Int→Int→Bool→List Int→AAh→List Int→AAo→AA1→ABB→AAs→AAX→Int→Int→Bool→List Int→AAh→List Int→AAo→AA1→ABB→AAs→AAX→Option EN
abbrev H5:Type:=AA1→Int→Int→List Int→Int→AAh→List Int→AAo→Int→AA1→ABB→AAs→AAX→Bool→Int→Int→Bool→List Int→AAh→List Int→AAo→AA1→ABB→AAs→AAX→Int→Int→Bool→List Int→AAh→List Int→AAo→AA1→ABB→AAs→AAX→Option EN
abbrev HT:Type:=ABB→Int→Int→List Int→Int→AAh→List Int→AAo→Int→AA1→ABB→AAs→AAX→Bool→Int→Int→Bool→List Int→AAh→List Int→AAo→AA1→ABB→AAs→AAX→Int→Int→Bool→List Int→AAh→List Int→AAo→AA1→ABB→AAs→AAX→Option EN
abbrev HY:Type:=AAs→Int→Int→List Int→Int→AAh→List Int→AAo→Int→AA1→ABB→AAs→AAX→Bool→Int→Int→Bool→List Int→AAh→List Int→AAo→AA1→ABB→AAs→AAX→Int→Int→Bool→List Int→AAh→List Int→AAo→AA1→ABB→AAs→AAX→Option EN
def UE(R3:IE)(R8:H5)(R13:HT)(R18:HY)(t25:AAh)(t26 t27:Int)(AR:AAH)(AF:Int)(Ai:AAh)(Bk:AAH)(B_:AAo)(AU:Int)(B9:AA1)(B4:ABB)(CH:AAs)(CT:AAX)(AK:Bool)(Bf EE:Int)(FB:Bool)(b2:AAH)(b3:AAh)(b4:AAH)(b5:AAo)(b6:AA1)(b7:ABB)(b8:AAs)(b9:AAX)(Dr Eh:Int)(C4:Bool)(GO:AAH)(D5:AAh)(G6:AAH)(G7:AAo)(EV:AA1)(FA:ABB)(Fl:AAs)(Uy:AAX):Option EN:=
 cond (decide (t27<t26))
  (if(0:Int)≤t27∧t27<(t25.length:Int)then(
  (DB ((t25.getD (t27.toNat) ([],[],0,())).1,(t25.getD (t27.toNat) ([],[],0,())).2.1,(t25.getD (t27.toNat) ([],[],0,())).2.2.1,())).bind fun u15=>
  if D5.length+1≤Dw then(
  R3 t25 t26 (AZ (t27+1)) AR AF Ai Bk B_ AU B9 B4 CH CT AK Bf EE FB b2 b3 b4 b5 b6 b7 b8 b9 Dr Eh C4 GO (D5++[(u15.2.1,u15.2.2.1,u15.1.1.2.2.1,())]) G6 G7 EV FA Fl Uy)else none)else none)
 (R8 B9 (B9.length:Int) 0 AR AF Ai Bk B_ AU B9 B4 CH CT AK Bf EE FB b2 b3 b4 b5 b6 b7 b8 b9 Dr Eh C4 GO D5 G6 G7 EV FA Fl Uy)
def Uq(R3:IE)(R8:H5)(R13:HT)(R18:HY)(t40:AA1)(t41 t42:Int)(AR:AAH)(AF:Int)(Ai:AAh)(Bk:AAH)(B_:AAo)(AU:Int)(B9:AA1)(B4:ABB)(CH:AAs)(CT:AAX)(AK:Bool)(Bf EE:Int)(FB:Bool)(b2:AAH)(b3:AAh)(b4:AAH)(b5:AAo)(b6:AA1)(b7:ABB)(b8:AAs)(b9:AAX)(Dr Eh:Int)(C4:Bool)(GO:AAH)(D5:AAh)(G6:AAH)(G7:AAo)(EV:AA1)(FA:ABB)(Fl:AAs)(Uy:AAX):Option EN:=
 cond (decide (t42<t41))
  (if(0:Int)≤t42∧t42<(t40.length:Int)then(
  (Ft ((t40.getD (t42.toNat) (0,[],())).1,(t40.getD (t42.toNat) (0,[],())).2.1,())).bind fun P2=>
  if EV.length+1≤Dw then(
  R8 t40 t41 (AZ (t42+1)) AR AF Ai Bk B_ AU B9 B4 CH CT AK Bf EE FB b2 b3 b4 b5 b6 b7 b8 b9 Dr Eh C4 GO D5 G6 G7 (EV++[(P2.1.1.1,P2.2.1,())]) FA Fl Uy)else none)else none)
 (R13 B4 (B4.length:Int) 0 AR AF Ai Bk B_ AU B9 B4 CH CT AK Bf EE FB b2 b3 b4 b5 b6 b7 b8 b9 Dr Eh C4 GO D5 G6 G7 EV FA Fl Uy)
def Si(R3:IE)(R8:H5)(R13:HT)(R18:HY)(t55:ABB)(t56 t57:Int)(AR:AAH)(AF:Int)(Ai:AAh)(Bk:AAH)(B_:AAo)(AU:Int)(B9:AA1)(B4:ABB)(CH:AAs)(CT:AAX)(AK:Bool)(Bf EE:Int)(FB:Bool)(b2:AAH)(b3:AAh)(b4:AAH)(b5:AAo)(b6:AA1)(b7:ABB)(b8:AAs)(b9:AAX)(Dr Eh:Int)(C4:Bool)(GO:AAH)(D5:AAh)(G6:AAH)(G7:AAo)(EV:AA1)(FA:ABB)(Fl:AAs)(Uy:AAX):Option EN:=
 cond (decide (t57<t56))
  (if(0:Int)≤t57∧t57<(t55.length:Int)then(
  (GX ((t55.getD (t57.toNat) (0,0,[],[],false,[],())).1,(t55.getD (t57.toNat) (0,0,[],[],false,[],())).2.1,(t55.getD (t57.toNat) (0,0,[],[],false,[],())).2.2.1,(t55.getD (t57.toNat) (0,0,[],[],false,[],())).2.2.2.1,(t55.getD (t57.toNat) (0,0,[],[],false,[],())).2.2.2.2.1,(t55.getD (t57.toNat) (0,0,[],[],false,[],())).2.2.2.2.2.1,())).bind fun fP=>
  if FA.length+1≤Dw then(
  R13 t55 t56 (AZ (t57+1)) AR AF Ai Bk B_ AU B9 B4 CH CT AK Bf EE FB b2 b3 b4 b5 b6 b7 b8 b9 Dr Eh C4 GO D5 G6 G7 EV (FA++[(fP.1.1.1,fP.1.1.2.1,fP.2.1,fP.2.2.1,fP.1.1.2.2.2.2.1,fP.2.2.2.1,())]) Fl Uy)else none)else none)
 (R18 CH (CH.length:Int) 0 AR AF Ai Bk B_ AU B9 B4 CH CT AK Bf EE FB b2 b3 b4 b5 b6 b7 b8 b9 Dr Eh C4 GO D5 G6 G7 EV FA Fl Uy)
def S9(R3:IE)(R8:H5)(R13:HT)(R18:HY)(t70:AAs)(t71 t72:Int)(AR:AAH)(AF:Int)(Ai:AAh)(Bk:AAH)(B_:AAo)(AU:Int)(B9:AA1)(B4:ABB)(CH:AAs)(CT:AAX)(AK:Bool)(Bf EE:Int)(FB:Bool)(b2:AAH)(b3:AAh)(b4:AAH)(b5:AAo)(b6:AA1)(b7:ABB)(b8:AAs)(b9:AAX)(Dr Eh:Int)(C4:Bool)(GO:AAH)(D5:AAh)(G6:AAH)(G7:AAo)(EV:AA1)(FA:ABB)(Fl:AAs)(Uy:AAX):Option EN:=
 cond (decide (t72<t71))
  (if(0:Int)≤t72∧t72<(t70.length:Int)then(
  (Mv ((t70.getD (t72.toNat) (0,0,[],())).1,(t70.getD (t72.toNat) (0,0,[],())).2.1,(t70.getD (t72.toNat) (0,0,[],())).2.2.1,())).bind fun nV=>
  if Fl.length+1≤Dw then(
  R18 t70 t71 (AZ (t72+1)) AR AF Ai Bk B_ AU B9 B4 CH CT AK Bf EE FB b2 b3 b4 b5 b6 b7 b8 b9 Dr Eh C4 GO D5 G6 G7 EV FA (Fl++[(nV.1.1.1,nV.1.1.2.1,nV.2.1,())]) Uy)else none)else none)
 (if 0+CT.length≤Dw then(
 some ((((),Dr,(),(),(),Eh,(),(),(),(),C4,()),()),(GO,D5,G6,G7,EV,FA,Fl,CT,())))else none)
mutual
def FW:Nat→IE
 |0=>fun _ _ _ _ _ _ _ _ _ _ _ _ _ _ _ _ _ _ _ _ _ _ _ _ _ _ _ _ _ _ _ _ _ _ _ _=>none
 |n+1=>UE (FW n) (FV n) (En n) (Ek n)
def FV:Nat→H5
 |0=>fun _ _ _ _ _ _ _ _ _ _ _ _ _ _ _ _ _ _ _ _ _ _ _ _ _ _ _ _ _ _ _ _ _ _ _ _=>none
 |n+1=>Uq (FW n) (FV n) (En n) (Ek n)
def En:Nat→HT
 |0=>fun _ _ _ _ _ _ _ _ _ _ _ _ _ _ _ _ _ _ _ _ _ _ _ _ _ _ _ _ _ _ _ _ _ _ _ _=>none
 |n+1=>Si (FW n) (FV n) (En n) (Ek n)
def Ek:Nat→HY
 |0=>fun _ _ _ _ _ _ _ _ _ _ _ _ _ _ _ _ _ _ _ _ _ _ _ _ _ _ _ _ _ _ _ _ _ _ _ _=>none
 |n+1=>S9 (FW n) (FV n) (En n) (Ek n)
end
def UO(R3:IE)(R8:H5)(R13:HT)(R18:HY)(p0:ABN):Option EN:=
 (QF (p0.1,p0.2.1,())).bind fun u2=>
 (DG p0.2.2.2.1).bind fun u3=>
 (Ed (p0.2.2.2.2.1,p0.2.2.2.2.2.1,())).bind fun u4=>
 R3 p0.2.2.1 (p0.2.2.1.length:Int) 0 p0.1 p0.2.1 p0.2.2.1 p0.2.2.2.1 p0.2.2.2.2.1 p0.2.2.2.2.2.1 p0.2.2.2.2.2.2.1 p0.2.2.2.2.2.2.2.1 p0.2.2.2.2.2.2.2.2.1 p0.2.2.2.2.2.2.2.2.2.1 p0.2.2.2.2.2.2.2.2.2.2.1 0 0 false [] [] [] [] [] [] [] [] u2.1.1.2.1 u4.1.1.2.1 p0.2.2.2.2.2.2.2.2.2.2.1 u2.2.1 [] u3.2.1 u4.2.1 [] [] [] []
def OA(p0:ABN):Option EN:=UO (FW Ae) (FV Ae) (En Ae) (Ek Ae) p0
abbrev Ll:Type:=AEd×Unit
def Dq(p0 p1:Int):Option Ll:=
 (Hb p0).bind fun u1=>
 cond (!u1.1.1)
  (some (((0,false,()),()),()))
 ((XU p1).bind fun u2=>
 cond (!u2.1.1)
  (some (((0,false,()),()),()))
 (some (((AZ ((AZ (4294967296*p0))+p1),true,()),()),())))
abbrev HQ:Type:=ACL×ACr
abbrev Rw:Type:=Int→Int→List Int→Option HQ
def Ut(R5:Rw)(t0 t10:Int)(b0:AAH):Option HQ:=
 cond (decide (t10<8))
  (if t10<0 then none else(
  cond (((cZ .i64 (t0.fdiv (2^(min t10.toNat 64))) 1)==1))
   (if b0.length+1≤Dw then(
   R5 t0 (AZ (t10+1)) (b0++[t10]))else none)
  (R5 t0 (AZ (t10+1)) b0)))
 (some (((),()),(b0,())))
def KK:Nat→Rw
 |0=>fun _ _ _=>none
 |n+1=>Ut (KK n)
def UN(R5:Rw)(p0:Int):Option HQ:=
 (A3 p0 0 255).bind fun u1=>
 cond (!u1.1.1)
  (some (((),()),([],())))
 (R5 p0 0 [])
def Hm(p0:Int):Option HQ:=UN (KK Ae) p0
abbrev kO:Type:=ABg×Unit
def Rg(p0:ADG)(p1:Int):Option kO:=
 cond (decide (p0.1<p1))
  (some (((-1),()),()))
 (cond (decide (p0.1>p1))
  (some ((1,()),()))
 (some ((0,()),())))
abbrev BV:Type:=AEd×Unit
abbrev B7:Type:=ABE→Int→Int→Int→Int→Option BV
def Ct(R3:B7)(t0:ABE)(t1 t8 t9 t10:Int):Option BV:=
 cond (decide (t9<t10))
  (let x2:Int:=AZ ((IntKind.wrap .u64 (AZ (t9+t10))).fdiv (2^1))
  if(0:Int)≤x2∧x2<(t0.length:Int)then(
  (Rg ((t0.getD (x2.toNat) (0,0,false,[],())).1,(t0.getD (x2.toNat) (0,0,false,[],())).2.1,(t0.getD (x2.toNat) (0,0,false,[],())).2.2.1,(t0.getD (x2.toNat) (0,0,false,[],())).2.2.2.1,()) t1).bind fun u3=>
  cond (decide (u3.1.1<0))
   (R3 t0 t1 t8 (AZ (x2+1)) t10)
  (R3 t0 t1 t8 t9 x2))else none)
 (cond (decide (t9<t8))
  (if(0:Int)≤t9∧t9<(t0.length:Int)then(
  (Rg ((t0.getD (t9.toNat) (0,0,false,[],())).1,(t0.getD (t9.toNat) (0,0,false,[],())).2.1,(t0.getD (t9.toNat) (0,0,false,[],())).2.2.1,(t0.getD (t9.toNat) (0,0,false,[],())).2.2.2.1,()) t1).bind fun u4=>
  some (((t9,u4.1.1==0,()),()),()))else none)
 (some (((t9,false,()),()),())))
def A0:Nat→B7
 |0=>fun _ _ _ _ _=>none
 |n+1=>Ct (A0 n)
def Cw(R3:B7)(p0:ABE)(p1:Int):Option BV:=
 R3 p0 p1 (p0.length:Int) 0 (p0.length:Int)
def CG(p0:ABE)(p1:Int):Option BV:=Cw (A0 Ae) p0 p1
abbrev pk:Type:=AEd×Unit
def SD(p0:ABE)(p1:Int):Option pk:=
 (CG p0 p1).bind fun u1=>
 some (((u1.1.1.1,u1.1.1.2.1,()),()),())
abbrev Mw:Type:=AE8×Unit
def GS(p0:ACc)(p1:Int):Option Mw:=
 (FF (p0.1,p0.2.1,p0.2.2.1,())).bind fun u1=>
 cond (!u1.1.1)
  (some ((((0,0,false,[],()),false,()),()),()))
 ((SD p0.1 p1).bind fun u2=>
 cond (!u2.1.1.2.1)
  (some ((((0,0,false,[],()),false,()),()),()))
 (if(0:Int)≤u2.1.1.1∧u2.1.1.1<(p0.1.length:Int)then(
 some (((((p0.1.getD (u2.1.1.1.toNat) (0,0,false,[],())).1,(p0.1.getD (u2.1.1.1.toNat) (0,0,false,[],())).2.1,(p0.1.getD (u2.1.1.1.toNat) (0,0,false,[],())).2.2.1,(p0.1.getD (u2.1.1.1.toNat) (0,0,false,[],())).2.2.2.1,()),true,()),()),()))else none))
abbrev Nc:Type:=ABg×Unit
abbrev Qe:Type:=AB7→Int→Int→Int→AB7→Option Nc
def Su(R2:Qe)(t6:AB7)(t7 t8 AR:Int)(AF:AB7):Option Nc:=
 cond (decide (t8<t7))
  (if(0:Int)≤t8∧t8<(t6.length:Int)then(
  cond (!((t6.getD (t8.toNat) ([],[],false,())).2.2.1))
   (some ((t8,()),()))
  (R2 t6 t7 (AZ (t8+1)) AR AF))else none)
 (some (((AF.length:Int),()),()))
def JX:Nat→Qe
 |0=>fun _ _ _ _ _=>none
 |n+1=>Su (JX n)
def S2(R2:Qe)(p0:ACI):Option Nc:=
 R2 p0.2.1 (p0.2.1.length:Int) 0 p0.1 p0.2.1
def P_(p0:ACI):Option Nc:=S2 (JX Ae) p0
abbrev M3:Type:=ABg×Unit
abbrev WX:Type:=Int→AA1→Int→Int→Option M3
def Yh(R2:WX)(t1:Int)(t8:AA1)(t9 t10:Int):Option M3:=
 cond (decide (t10<t9))
  (if(0:Int)≤t10∧t10<(t8.length:Int)then(
  cond (((t8.getD (t10.toNat) (0,[],())).1)==t1)
   ((P_ ((t8.getD (t10.toNat) (0,[],())).1,(t8.getD (t10.toNat) (0,[],())).2.1,())).bind fun u3=>
   some ((u3.1.1,()),()))
  (R2 t1 t8 t9 (AZ (t10+1))))else none)
 (some ((0,()),()))
def Nt:Nat→WX
 |0=>fun _ _ _ _=>none
 |n+1=>Yh (Nt n)
def YD(R2:WX)(p0:ABN)(p1:Int):Option M3:=
 R2 p1 p0.2.2.2.2.2.2.1 (p0.2.2.2.2.2.2.1.length:Int) 0
def Q4(p0:ABN)(p1:Int):Option M3:=YD (Nt Ae) p0 p1
abbrev RT:Type:=ACL×ACr
abbrev VD:Type:=ACv→Int→Int→List Int→Option RT
def XK(R3:VD)(t7:ACv)(t8 t9:Int)(b0:AAH):Option RT:=
 cond (decide (t9<t8))
  (if(0:Int)≤t9∧t9<(t7.length:Int)then(
  if b0.length+1≤Dw then(
  R3 t7 t8 (AZ (t9+1)) (b0++[((t7.getD (t9.toNat) (0,false,0,0,false,[],())).1)]))else none)else none)
 (some (((),()),(b0,())))
def Mn:Nat→VD
 |0=>fun _ _ _ _=>none
 |n+1=>XK (Mn n)
def Xd(R3:VD)(p0:ACv):Option RT:=
 R3 p0 (p0.length:Int) 0 []
def PI(p0:ACv):Option RT:=Xd (Mn Ae) p0
abbrev qP:Type:=ABT×Unit
def MU(p0:Int)(p1:ADF):Option qP:=
 (FI p0).bind fun u1=>
 cond ((decide (u1.1.1<p1.1)))
  (some ((true,()),()))
 (cond (u1.1.1==p1.1)
  ((TF p0).bind fun u3=>
  some (((decide (u3.1.1<p1.2.1)),()),()))
 (some ((false,()),())))
abbrev gO:Type:=ACL×AGW
def FG(p1:AFD)(AR AF:Int)(b1:ADH):Option gO:=
 if b1.length+1≤Dw then(
 some (((()),()),((AR,AF,(),()),(),(b1++[(p1.1,p1.2.1,p1.2.2.1,())]),())))else none
abbrev Yd:Type:=ACL×ACr
abbrev bc:Type:=List Int→List Int→Int→Int→List Int→Option Yd
def cB(R5:bc)(t2 t22:AAH)(t23 t24:Int)(b0:AAH):Option Yd:=
 cond (decide (t24<t23))
  (if(0:Int)≤t24∧t24<(t22.length:Int)then(
  let x3:Int:=(t22.getD (t24.toNat) 0)
  (Bo t2 x3).bind fun u4=>
  cond (!u4.1.1)
   (if b0.length+1≤Dw then(
   R5 t2 t22 t23 (AZ (t24+1)) (b0++[x3]))else none)
  (R5 t2 t22 t23 (AZ (t24+1)) b0))else none)
 (some (((),()),(b0,())))
def RQ:Nat→bc
 |0=>fun _ _ _ _ _=>none
 |n+1=>cB (RQ n)
def cD(R5:bc)(p0:ABL)(p1 p2:AAH):Option Yd:=
 (EA (p0.1,p0.2.1,()) p1).bind fun u1=>
 cond (!u1.1.1)
  (some (((),()),([],())))
 ((EA (p0.1,p0.2.1,()) p2).bind fun u2=>
 cond (!u2.1.1)
  (some (((),()),([],())))
 (R5 p2 p1 (p1.length:Int) 0 []))
def eE(p0:ABL)(p1 p2:AAH):Option Yd:=cD (RQ Ae) p0 p1 p2
abbrev rX:Type:=ABT×Unit
def G3(p0:ABL)(p1 p2:AAH):Option rX:=
 (EA (p0.1,p0.2.1,()) p2).bind fun u1=>
 cond (!u1.1.1)
  (some ((false,()),()))
 ((Gc (p0.1,p0.2.1,()) p1).bind fun u2=>
 cond (!u2.1.1)
  (some ((false,()),()))
 ((M9 p2 p1).bind fun u3=>
 cond (((u3.2.1.length:Int) !=(p2.length:Int)))
  (some ((false,()),()))
 ((eE (p0.1,p0.2.1,()) p1 p2).bind fun u6=>
 (Gc (p0.1,p0.2.1,()) u6.2.1).bind fun u7=>
 some ((!u7.1.1,()),()))))
abbrev rZ:Type:=(ADG×Unit)×Unit
def Q1(p0 p1:ADG):Option rZ:=
 cond ((decide (p1.2.1>p0.2.1)))
  (some (((p1.1,p1.2.1,p1.2.2.1,p1.2.2.2.1,()),()),()))
 (some (((p0.1,p0.2.1,p0.2.2.1,p0.2.2.2.1,()),()),()))
abbrev Tn:Type:=AE8×Unit
abbrev Wi:Type:=List Int→Int→Bool→ACv→Int→Int→Int→Int→Bool→List UInt8→Int→Int→Bool→List UInt8→Option Tn
def Yj(R3:Wi)(t1:AAH)(t2:Int)(t9:Bool)(t13:ACv)(t14 t15 AR AF:Int)(Ai:Bool)(Bk:ACD)(CZ Bf:Int)(EF:Bool)(Gy:ACD):Option Tn:=
 cond (decide (t15<t14))
  (if(0:Int)≤t15∧t15<(t13.length:Int)then(
  cond (!((t13.getD (t15.toNat) (0,false,0,0,false,[],())).2.1))
   (R3 t1 t2 t9 t13 t14 (AZ (t15+1)) AR AF Ai Bk CZ Bf EF Gy)
  ((Bo t1 ((t13.getD (t15.toNat) (0,false,0,0,false,[],())).1)).bind fun u3=>
  cond (!u3.1.1)
   (R3 t1 t2 t9 t13 t14 (AZ (t15+1)) AR AF Ai Bk CZ Bf EF Gy)
  ((L3 ((t13.getD (t15.toNat) (0,false,0,0,false,[],())).2.2.1,(t13.getD (t15.toNat) (0,false,0,0,false,[],())).2.2.2.1,(t13.getD (t15.toNat) (0,false,0,0,false,[],())).2.2.2.2.1,(t13.getD (t15.toNat) (0,false,0,0,false,[],())).2.2.2.2.2.1,())).bind fun u4=>
  cond (!u4.1.1)
   (R3 t1 t2 t9 t13 t14 (AZ (t15+1)) AR AF Ai Bk CZ Bf EF Gy)
  (cond (((t13.getD (t15.toNat) (0,false,0,0,false,[],())).2.2.1) !=t2)
   (R3 t1 t2 t9 t13 t14 (AZ (t15+1)) AR AF Ai Bk CZ Bf EF Gy)
  (cond (!t9)
   ((Q1 ((t13.getD (t15.toNat) (0,false,0,0,false,[],())).2.2.1,(t13.getD (t15.toNat) (0,false,0,0,false,[],())).2.2.2.1,(t13.getD (t15.toNat) (0,false,0,0,false,[],())).2.2.2.2.1,(t13.getD (t15.toNat) (0,false,0,0,false,[],())).2.2.2.2.2.1,()) ((t13.getD (t15.toNat) (0,false,0,0,false,[],())).2.2.1,(t13.getD (t15.toNat) (0,false,0,0,false,[],())).2.2.2.1,(t13.getD (t15.toNat) (0,false,0,0,false,[],())).2.2.2.2.1,(t13.getD (t15.toNat) (0,false,0,0,false,[],())).2.2.2.2.2.1,())).bind fun u6=>
   R3 t1 t2 true t13 t14 (AZ (t15+1)) AR AF Ai Bk u6.1.1.1 u6.1.1.2.1 u6.1.1.2.2.1 u6.1.1.2.2.2.1)
  ((Q1 (CZ,Bf,EF,Gy,()) ((t13.getD (t15.toNat) (0,false,0,0,false,[],())).2.2.1,(t13.getD (t15.toNat) (0,false,0,0,false,[],())).2.2.2.1,(t13.getD (t15.toNat) (0,false,0,0,false,[],())).2.2.2.2.1,(t13.getD (t15.toNat) (0,false,0,0,false,[],())).2.2.2.2.2.1,())).bind fun u7=>
  R3 t1 t2 true t13 t14 (AZ (t15+1)) AR AF Ai Bk u7.1.1.1 u7.1.1.2.1 u7.1.1.2.2.1 u7.1.1.2.2.2.1))))))else none)
 (some ((((CZ,Bf,EF,Gy,()),t9,()),()),()))
def OV:Nat→Wi
 |0=>fun _ _ _ _ _ _ _ _ _ _ _ _ _ _=>none
 |n+1=>Yj (OV n)
def Yb(R3:Wi)(p0:ACv)(p1:AAH)(p2:Int):Option Tn:=
 R3 p1 p2 false p0 (p0.length:Int) 0 0 0 false [] 0 0 false []
def Yi(p0:ACv)(p1:AAH)(p2:Int):Option Tn:=Yb (OV Ae) p0 p1 p2
abbrev e9:Type:=ACL×AGW
def C_(p1:ACv)(p2:AAH)(AR AF:Int)(b1:ADH):Option e9:=
 (Dq AR AF).bind fun u1=>
 (Yi p1 p2 u1.1.1.1).bind fun u2=>
 cond (!u2.1.1.2.1)
  ((FG (3,u1.1.1.1,[],()) AR AF b1).bind fun u3=>
  some (((()),()),((u3.2.1.1,AZ (u3.2.1.2.1+1),(),()),(),u3.2.2.2.1,())))
 (cond (u2.1.1.1.2.2.1)
  ((FG (2,u1.1.1.1,[],()) AR AF b1).bind fun u4=>
  some (((()),()),((u4.2.1.1,AZ (u4.2.1.2.1+1),(),()),(),u4.2.2.2.1,())))
 ((FG (1,u1.1.1.1,u2.1.1.1.2.2.2.1,()) AR AF b1).bind fun u5=>
 some (((()),()),((u5.2.1.1,AZ (u5.2.1.2.1+1),(),()),(),u5.2.2.2.1,()))))
abbrev KV:Type:=(AGX×Unit)×AEs
def J4(p0:ABL)(p1:ABk)(p2:Int)(p3:ADF)(p4:ACv):Option KV:=
 (Kc (p0.1,p0.2.1,()) (p1.1,p1.2.1,())).bind fun u1=>
 cond (!u1.1.1)
  (some ((((0,0,(),()),1,()),()),([],())))
 ((Tx (p3.1,p3.2.1,p3.2.2.1,())).bind fun u2=>
 cond (!u2.1.1)
  (some ((((0,0,(),()),1,()),()),([],())))
 ((PI p4).bind fun u3=>
 (EA (p0.1,p0.2.1,()) u3.2.1).bind fun u4=>
 cond (!u4.1.1)
  (some ((((0,0,(),()),1,()),()),([],())))
 ((Mv (p3.1,p3.2.1,p3.2.2.1,())).bind fun u5=>
 cond ((decide (p3.1>(p1.1.length:Int))))
  (some ((((u5.1.1.1,u5.1.1.2.1,(),()),2,()),()),(u5.2.1,())))
 (cond ((p3.2.2.1.length:Int)==120)
  (some ((((u5.1.1.1,u5.1.1.2.1,(),()),2,()),()),(u5.2.1,())))
 (cond (decide (p1.2.1>0))
  ((MU p1.2.1 (p3.1,p3.2.1,p3.2.2.1,())).bind fun u8=>
  cond (!u8.1.1)
   ((FG (5,p1.2.1,[],()) u5.1.1.1 u5.1.1.2.1 u5.2.1).bind fun u9=>
   (FI p1.2.1).bind fun EY=>
   (TF p1.2.1).bind fun Nj=>
   some ((((EY.1.1,AZ (Nj.1.1+1),(),()),0,()),()),(u9.2.2.2.1,())))
  (if(0:Int)≤AZ (p3.1-1)∧AZ (p3.1-1)<(p1.1.length:Int)then(
  (PI p4).bind fun bp=>
  (M9 bp.2.1 ((p1.1.getD ((AZ (p3.1-1)).toNat) ([],false,0,())).1)).bind fun WW=>
  cond (((p1.1.getD ((AZ (p3.1-1)).toNat) ([],false,0,())).2.1))
   (cond ((decide (p3.2.1>((p1.1.getD ((AZ (p3.1-1)).toNat) ([],false,0,())).2.2.1))))
    ((FG (4,AZ (p3.1+1),[],()) u5.1.1.1 u5.1.1.2.1 u5.2.1).bind fun fR=>
    some ((((AZ (p3.1+1),1,(),()),0,()),()),(fR.2.2.2.1,())))
   (cond (!((p1.1.getD ((AZ (p3.1-1)).toNat) ([],false,0,())).2.1))
    (cond (decide (p3.2.1>p2))
     (some ((((u5.1.1.1,u5.1.1.2.1,(),()),2,()),()),(u5.2.1,())))
    (cond (decide (p3.2.1>60))
     (some ((((u5.1.1.1,u5.1.1.2.1,(),()),2,()),()),(u5.2.1,())))
    ((G3 (p0.1,p0.2.1,()) ((p1.1.getD ((AZ (p3.1-1)).toNat) ([],false,0,())).1) WW.2.1).bind fun gN=>
    cond (!gN.1.1)
     (some ((((u5.1.1.1,u5.1.1.2.1,(),()),3,()),()),(u5.2.1,())))
    ((C_ p4 WW.2.1 u5.1.1.1 u5.1.1.2.1 u5.2.1).bind fun P2=>
    some ((((P2.2.1.1,P2.2.1.2.1,(),()),0,()),()),(P2.2.2.2.1,()))))))
   (cond (decide (p3.2.1>60))
    (some ((((u5.1.1.1,u5.1.1.2.1,(),()),2,()),()),(u5.2.1,())))
   ((G3 (p0.1,p0.2.1,()) ((p1.1.getD ((AZ (p3.1-1)).toNat) ([],false,0,())).1) WW.2.1).bind fun fX=>
   cond (!fX.1.1)
    (some ((((u5.1.1.1,u5.1.1.2.1,(),()),3,()),()),(u5.2.1,())))
   ((C_ p4 WW.2.1 u5.1.1.1 u5.1.1.2.1 u5.2.1).bind fun u22=>
   some ((((u22.2.1.1,u22.2.1.2.1,(),()),0,()),()),(u22.2.2.2.1,())))))))
  (cond (!((p1.1.getD ((AZ (p3.1-1)).toNat) ([],false,0,())).2.1))
   (cond (decide (p3.2.1>p2))
    (some ((((u5.1.1.1,u5.1.1.2.1,(),()),2,()),()),(u5.2.1,())))
   (cond (decide (p3.2.1>60))
    (some ((((u5.1.1.1,u5.1.1.2.1,(),()),2,()),()),(u5.2.1,())))
   ((G3 (p0.1,p0.2.1,()) ((p1.1.getD ((AZ (p3.1-1)).toNat) ([],false,0,())).1) WW.2.1).bind fun Xp=>
   cond (!Xp.1.1)
    (some ((((u5.1.1.1,u5.1.1.2.1,(),()),3,()),()),(u5.2.1,())))
   ((C_ p4 WW.2.1 u5.1.1.1 u5.1.1.2.1 u5.2.1).bind fun fP=>
   some ((((fP.2.1.1,fP.2.1.2.1,(),()),0,()),()),(fP.2.2.2.1,()))))))
  (cond (decide (p3.2.1>60))
   (some ((((u5.1.1.1,u5.1.1.2.1,(),()),2,()),()),(u5.2.1,())))
  ((G3 (p0.1,p0.2.1,()) ((p1.1.getD ((AZ (p3.1-1)).toNat) ([],false,0,())).1) WW.2.1).bind fun jr=>
  cond (!jr.1.1)
   (some ((((u5.1.1.1,u5.1.1.2.1,(),()),3,()),()),(u5.2.1,())))
  ((C_ p4 WW.2.1 u5.1.1.1 u5.1.1.2.1 u5.2.1).bind fun ve=>
  some ((((ve.2.1.1,ve.2.1.2.1,(),()),0,()),()),(ve.2.2.2.1,())))))))else none))
 (if(0:Int)≤AZ (p3.1-1)∧AZ (p3.1-1)<(p1.1.length:Int)then(
 (PI p4).bind fun Xq=>
 (M9 Xq.2.1 ((p1.1.getD ((AZ (p3.1-1)).toNat) ([],false,0,())).1)).bind fun tO=>
 cond (((p1.1.getD ((AZ (p3.1-1)).toNat) ([],false,0,())).2.1))
  (cond ((decide (p3.2.1>((p1.1.getD ((AZ (p3.1-1)).toNat) ([],false,0,())).2.2.1))))
   ((FG (4,AZ (p3.1+1),[],()) u5.1.1.1 u5.1.1.2.1 u5.2.1).bind fun lq=>
   some ((((AZ (p3.1+1),1,(),()),0,()),()),(lq.2.2.2.1,())))
  (cond (!((p1.1.getD ((AZ (p3.1-1)).toNat) ([],false,0,())).2.1))
   (cond (decide (p3.2.1>p2))
    (some ((((u5.1.1.1,u5.1.1.2.1,(),()),2,()),()),(u5.2.1,())))
   (cond (decide (p3.2.1>60))
    (some ((((u5.1.1.1,u5.1.1.2.1,(),()),2,()),()),(u5.2.1,())))
   ((G3 (p0.1,p0.2.1,()) ((p1.1.getD ((AZ (p3.1-1)).toNat) ([],false,0,())).1) tO.2.1).bind fun u35=>
   cond (!u35.1.1)
    (some ((((u5.1.1.1,u5.1.1.2.1,(),()),3,()),()),(u5.2.1,())))
   ((C_ p4 tO.2.1 u5.1.1.1 u5.1.1.2.1 u5.2.1).bind fun u36=>
   some ((((u36.2.1.1,u36.2.1.2.1,(),()),0,()),()),(u36.2.2.2.1,()))))))
  (cond (decide (p3.2.1>60))
   (some ((((u5.1.1.1,u5.1.1.2.1,(),()),2,()),()),(u5.2.1,())))
  ((G3 (p0.1,p0.2.1,()) ((p1.1.getD ((AZ (p3.1-1)).toNat) ([],false,0,())).1) tO.2.1).bind fun mK=>
  cond (!mK.1.1)
   (some ((((u5.1.1.1,u5.1.1.2.1,(),()),3,()),()),(u5.2.1,())))
  ((C_ p4 tO.2.1 u5.1.1.1 u5.1.1.2.1 u5.2.1).bind fun u38=>
  some ((((u38.2.1.1,u38.2.1.2.1,(),()),0,()),()),(u38.2.2.2.1,())))))))
 (cond (!((p1.1.getD ((AZ (p3.1-1)).toNat) ([],false,0,())).2.1))
  (cond (decide (p3.2.1>p2))
   (some ((((u5.1.1.1,u5.1.1.2.1,(),()),2,()),()),(u5.2.1,())))
  (cond (decide (p3.2.1>60))
   (some ((((u5.1.1.1,u5.1.1.2.1,(),()),2,()),()),(u5.2.1,())))
  ((G3 (p0.1,p0.2.1,()) ((p1.1.getD ((AZ (p3.1-1)).toNat) ([],false,0,())).1) tO.2.1).bind fun u40=>
  cond (!u40.1.1)
   (some ((((u5.1.1.1,u5.1.1.2.1,(),()),3,()),()),(u5.2.1,())))
  ((C_ p4 tO.2.1 u5.1.1.1 u5.1.1.2.1 u5.2.1).bind fun u41=>
  some ((((u41.2.1.1,u41.2.1.2.1,(),()),0,()),()),(u41.2.2.2.1,()))))))
 (cond (decide (p3.2.1>60))
  (some ((((u5.1.1.1,u5.1.1.2.1,(),()),2,()),()),(u5.2.1,())))
 ((G3 (p0.1,p0.2.1,()) ((p1.1.getD ((AZ (p3.1-1)).toNat) ([],false,0,())).1) tO.2.1).bind fun u42=>
 cond (!u42.1.1)
  (some ((((u5.1.1.1,u5.1.1.2.1,(),()),3,()),()),(u5.2.1,())))
 ((C_ p4 tO.2.1 u5.1.1.1 u5.1.1.2.1 u5.2.1).bind fun u43=>
 some ((((u43.2.1.1,u43.2.1.2.1,(),()),0,()),()),(u43.2.2.2.1,())))))))else none))))))
abbrev KY:Type:=ABg×ADP
abbrev QW:Type:=Int→Int→Int→Int→Int→Int→Bool→List Int→AAh→List Int→AAo→AA1→ABB→AAs→AAX→Int→Int→ADH→ACv→List Int→Option KY
def NK(R7:QW)(t1 t8 t44 t45 AF AU:Int)(AK:Bool)(b1:AAH)(b2:AAh)(b3:AAH)(b4:AAo)(b5:AA1)(b6:ABB)(b7:AAs)(b8:AAX)(iL EM:Int)(dG:ADH)(MG:ACv)(GO:AAH):Option KY:=
 cond (decide (t45<t44))
  (if(0:Int)≤t45∧t45<(GO.length:Int)then(
  let x8:Int:=(GO.getD (t45.toNat) 0)
  cond ((decide (x8<(b2.length:Int))))
   ((C6 (b1,AF,b2,b3,b4,AU,b5,b6,b7,b8,AK,()) x8).bind fun EY=>
   cond (!EY.1.1)
    (if(0:Int)≤x8∧x8<(b2.length:Int)then(
    (GS ((b2.getD (x8.toNat) ([],[],0,())).1,(b2.getD (x8.toNat) ([],[],0,())).2.1,(b2.getD (x8.toNat) ([],[],0,())).2.2.1,()) t8).bind fun Nj=>
    if MG.length+1≤Dw then(
    R7 t1 t8 t44 (AZ (t45+1)) AF AU AK b1 b2 b3 b4 b5 b6 b7 b8 iL EM dG (MG++[(x8,Nj.1.1.2.1,Nj.1.1.1.1,Nj.1.1.1.2.1,Nj.1.1.1.2.2.1,Nj.1.1.1.2.2.2.1,())]) GO)else none)else none)
   (R7 t1 t8 t44 (AZ (t45+1)) AF AU AK b1 b2 b3 b4 b5 b6 b7 b8 iL EM dG MG GO))
  (R7 t1 t8 t44 (AZ (t45+1)) AF AU AK b1 b2 b3 b4 b5 b6 b7 b8 iL EM dG MG GO))else none)
 ((Q4 (b1,AF,b2,b3,b4,AU,b5,b6,b7,b8,AK,()) iL).bind fun WW=>
 (J4 (b1,AF,()) (b4,AU,()) WW.1.1 (iL,EM,dG,()) MG).bind fun VP=>
 cond (VP.1.1.2.1 !=0)
  (some ((5,()),(((),AF,(),(),(),AU,(),(),(),(),AK,()),b1,b2,b3,b4,b5,b6,b7,b8,())))
 (if(0:Int)≤t1∧t1<(b7.length:Int)then(
 some ((0,()),(((),AF,(),(),(),AU,(),(),(),(),AK,()),b1,b2,b3,b4,b5,b6,(b7.set (t1.toNat) (VP.1.1.1.1,VP.1.1.1.2.1,VP.2.1,())),b8,())))else none))
def DC:Nat→QW
 |0=>fun _ _ _ _ _ _ _ _ _ _ _ _ _ _ _ _ _ _ _ _=>none
 |n+1=>NK (DC n)
def NI(R7:QW)(p1 p2 AF AU:Int)(AK:Bool)(b1:AAH)(b2:AAh)(b3:AAH)(b4:AAo)(b5:AA1)(b6:ABB)(b7:AAs)(b8:AAX):Option KY:=
 (A3 p1 0 (AZ ((b7.length:Int)-1))).bind fun u2=>
 cond (!u2.1.1)
  (some ((2,()),(((),AF,(),(),(),AU,(),(),(),(),AK,()),b1,b2,b3,b4,b5,b6,b7,b8,())))
 (if(0:Int)≤p1∧p1<(b7.length:Int)then(
 (Dq ((b7.getD (p1.toNat) (0,0,[],())).1) ((b7.getD (p1.toNat) (0,0,[],())).2.1)).bind fun u5=>
 (Hm p2).bind fun u6=>
 R7 p1 u5.1.1.1 (u6.2.1.length:Int) 0 AF AU AK b1 b2 b3 b4 b5 b6 b7 b8 ((b7.getD (p1.toNat) (0,0,[],())).1) ((b7.getD (p1.toNat) (0,0,[],())).2.1) ((b7.getD (p1.toNat) (0,0,[],())).2.2.1) [] u6.2.1)else none)
def Mp(p1 p2 AF AU:Int)(AK:Bool)(b1:AAH)(b2:AAh)(b3:AAH)(b4:AAo)(b5:AA1)(b6:ABB)(b7:AAs)(b8:AAX):Option KY:=NI (DC Ae) p1 p2 AF AU AK b1 b2 b3 b4 b5 b6 b7 b8
abbrev X8:Type:=((List UInt8×Bool×Unit)×Unit)×Unit
abbrev ai:Type:=Int→ADH→Int→Int→Option X8
def cH(R2:ai)(t1:Int)(t9:ADH)(t10 t11:Int):Option X8:=
 cond (decide (t11<t10))
  (if(0:Int)≤t11∧t11<(t9.length:Int)then(
  cond (((t9.getD (t11.toNat) (0,0,[],())).1)==1)
   (cond (((t9.getD (t11.toNat) (0,0,[],())).2.1)==t1)
    (some (((((t9.getD (t11.toNat) (0,0,[],())).2.2.1),true,()),()),()))
   (R2 t1 t9 t10 (AZ (t11+1))))
  (R2 t1 t9 t10 (AZ (t11+1))))else none)
 (some ((([],false,()),()),()))
def RP:Nat→ai
 |0=>fun _ _ _ _=>none
 |n+1=>cH (RP n)
def cN(R2:ai)(p0:ADF)(p1:Int):Option X8:=
 R2 p1 p0.2.2.1 (p0.2.2.1.length:Int) 0
def aH(p0:ADF)(p1:Int):Option X8:=cN (RP Ae) p0 p1
abbrev Dn:Type:=ABT×Unit
abbrev NV:Type:=AAs→Int→Int→List Int→Int→AAh→List Int→AAo→Int→AA1→ABB→AAs→AAX→Bool→Option Dn
abbrev Nb:Type:=AAs→Int→Int→AAX→Int→Int→List Int→Int→AAh→List Int→AAo→Int→AA1→ABB→AAs→AAX→Bool→Int→Int→ADH→Option Dn
def Np(R4:NV)(R7:Nb)(t19:AAs)(t20 t21:Int)(AR:AAH)(AF:Int)(Ai:AAh)(Bk:AAH)(B_:AAo)(AU:Int)(B9:AA1)(B4:ABB)(CH:AAs)(CT:AAX)(AK:Bool):Option Dn:=
 cond (decide (t21<t20))
  (if(0:Int)≤t21∧t21<(t19.length:Int)then(
  R7 t19 t20 t21 CT (CT.length:Int) 0 AR AF Ai Bk B_ AU B9 B4 CH CT AK ((t19.getD (t21.toNat) (0,0,[],())).1) ((t19.getD (t21.toNat) (0,0,[],())).2.1) ((t19.getD (t21.toNat) (0,0,[],())).2.2.1))else none)
 (some ((true,()),()))
def Nx(R4:NV)(R7:Nb)(t19:AAs)(t20 t21:Int)(t26:AAX)(t27 t28:Int)(AR:AAH)(AF:Int)(Ai:AAh)(Bk:AAH)(B_:AAo)(AU:Int)(B9:AA1)(B4:ABB)(CH:AAs)(CT:AAX)(AK:Bool)(CZ Bf:Int)(EF:ADH):Option Dn:=
 cond (decide (t28<t27))
  (if(0:Int)≤t28∧t28<(t26.length:Int)then(
  (aH (CZ,Bf,EF,()) ((t26.getD (t28.toNat) (0,[],false,())).1)).bind fun u7=>
  cond (((t26.getD (t28.toNat) (0,[],false,())).2.2.1))
   (cond (decide (((t26.getD (t28.toNat) (0,[],false,())).1)>AU))
    ((MU ((t26.getD (t28.toNat) (0,[],false,())).1) (CZ,Bf,EF,())).bind fun Nj=>
    cond (Nj.1.1)
     (cond (!u7.1.1.2.1)
      (some ((false,()),()))
     (R7 t19 t20 t21 t26 t27 (AZ (t28+1)) AR AF Ai Bk B_ AU B9 B4 CH CT AK CZ Bf EF))
    (R7 t19 t20 t21 t26 t27 (AZ (t28+1)) AR AF Ai Bk B_ AU B9 B4 CH CT AK CZ Bf EF))
   (R7 t19 t20 t21 t26 t27 (AZ (t28+1)) AR AF Ai Bk B_ AU B9 B4 CH CT AK CZ Bf EF))
  (R7 t19 t20 t21 t26 t27 (AZ (t28+1)) AR AF Ai Bk B_ AU B9 B4 CH CT AK CZ Bf EF))else none)
 (R4 t19 t20 (AZ (t21+1)) AR AF Ai Bk B_ AU B9 B4 CH CT AK)
mutual
def FT:Nat→NV
 |0=>fun _ _ _ _ _ _ _ _ _ _ _ _ _ _=>none
 |n+1=>Np (FT n) (Gt n)
def Gt:Nat→Nb
 |0=>fun _ _ _ _ _ _ _ _ _ _ _ _ _ _ _ _ _ _ _ _=>none
 |n+1=>Nx (FT n) (Gt n)
end
def Ua(R4:NV)(R7:Nb)(p0:ABN):Option Dn:=
 (Fq (p0.1,p0.2.1,p0.2.2.1,p0.2.2.2.1,p0.2.2.2.2.1,p0.2.2.2.2.2.1,p0.2.2.2.2.2.2.1,p0.2.2.2.2.2.2.2.1,p0.2.2.2.2.2.2.2.2.1,p0.2.2.2.2.2.2.2.2.2.1,p0.2.2.2.2.2.2.2.2.2.2.1,())).bind fun u1=>
 cond (!u1.1.1)
  ((Fq (p0.1,p0.2.1,p0.2.2.1,p0.2.2.2.1,p0.2.2.2.2.1,p0.2.2.2.2.2.1,p0.2.2.2.2.2.2.1,p0.2.2.2.2.2.2.2.1,p0.2.2.2.2.2.2.2.2.1,p0.2.2.2.2.2.2.2.2.2.1,p0.2.2.2.2.2.2.2.2.2.2.1,())).bind fun u2=>
  some ((u2.1.1,()),()))
 (cond (p0.2.2.2.2.2.2.2.2.2.2.1)
  ((Fq (p0.1,p0.2.1,p0.2.2.1,p0.2.2.2.1,p0.2.2.2.2.1,p0.2.2.2.2.2.1,p0.2.2.2.2.2.2.1,p0.2.2.2.2.2.2.2.1,p0.2.2.2.2.2.2.2.2.1,p0.2.2.2.2.2.2.2.2.2.1,p0.2.2.2.2.2.2.2.2.2.2.1,())).bind fun u4=>
  some ((u4.1.1,()),()))
 (R4 p0.2.2.2.2.2.2.2.2.1 (p0.2.2.2.2.2.2.2.2.1.length:Int) 0 p0.1 p0.2.1 p0.2.2.1 p0.2.2.2.1 p0.2.2.2.2.1 p0.2.2.2.2.2.1 p0.2.2.2.2.2.2.1 p0.2.2.2.2.2.2.2.1 p0.2.2.2.2.2.2.2.2.1 p0.2.2.2.2.2.2.2.2.2.1 p0.2.2.2.2.2.2.2.2.2.2.1))
def Fc(p0:ABN):Option Dn:=Ua (FT Ae) (Gt Ae) p0
abbrev DN:Type:=ABT×Unit
abbrev Mb:Type:=AAs→Int→Int→Option DN
abbrev MS:Type:=AAs→Int→Int→ADH→Int→Int→Option DN
def NH(R4:Mb)(R7:MS)(t17:AAs)(t18 t19:Int):Option DN:=
 cond (decide (t19<t18))
  (if(0:Int)≤t19∧t19<(t17.length:Int)then(
  R7 t17 t18 t19 ((t17.getD (t19.toNat) (0,0,[],())).2.2.1) (((t17.getD (t19.toNat) (0,0,[],())).2.2.1).length:Int) 0)else none)
 (some ((true,()),()))
def NA(R4:Mb)(R7:MS)(t17:AAs)(t18 t19:Int)(t24:ADH)(t25 t26:Int):Option DN:=
 cond (decide (t26<t25))
  (if(0:Int)≤t26∧t26<(t24.length:Int)then(
  cond (((t24.getD (t26.toNat) (0,0,[],())).1)==3)
   (some ((false,()),()))
  (R7 t17 t18 t19 t24 t25 (AZ (t26+1))))else none)
 (R4 t17 t18 (AZ (t19+1)))
mutual
def Db:Nat→Mb
 |0=>fun _ _ _=>none
 |n+1=>NH (Db n) (Fu n)
def Fu:Nat→MS
 |0=>fun _ _ _ _ _ _=>none
 |n+1=>NA (Db n) (Fu n)
end
def Sp(R4:Mb)(R7:MS)(p0:ABN):Option DN:=
 (Fq (p0.1,p0.2.1,p0.2.2.1,p0.2.2.2.1,p0.2.2.2.2.1,p0.2.2.2.2.2.1,p0.2.2.2.2.2.2.1,p0.2.2.2.2.2.2.2.1,p0.2.2.2.2.2.2.2.2.1,p0.2.2.2.2.2.2.2.2.2.1,p0.2.2.2.2.2.2.2.2.2.2.1,())).bind fun u1=>
 cond (!u1.1.1)
  ((Fq (p0.1,p0.2.1,p0.2.2.1,p0.2.2.2.1,p0.2.2.2.2.1,p0.2.2.2.2.2.1,p0.2.2.2.2.2.2.1,p0.2.2.2.2.2.2.2.1,p0.2.2.2.2.2.2.2.2.1,p0.2.2.2.2.2.2.2.2.2.1,p0.2.2.2.2.2.2.2.2.2.2.1,())).bind fun u2=>
  some ((u2.1.1,()),()))
 (cond (p0.2.2.2.2.2.2.2.2.2.2.1)
  ((Fq (p0.1,p0.2.1,p0.2.2.1,p0.2.2.2.1,p0.2.2.2.2.1,p0.2.2.2.2.2.1,p0.2.2.2.2.2.2.1,p0.2.2.2.2.2.2.2.1,p0.2.2.2.2.2.2.2.2.1,p0.2.2.2.2.2.2.2.2.2.1,p0.2.2.2.2.2.2.2.2.2.2.1,())).bind fun u4=>
  some ((u4.1.1,()),()))
 (R4 p0.2.2.2.2.2.2.2.2.1 (p0.2.2.2.2.2.2.2.2.1.length:Int) 0))
def E8(p0:ABN):Option DN:=Sp (Db Ae) (Fu Ae) p0
abbrev qz:Type:=ABg×Unit
def YA(p0:AAH)(p1 p2:Int):Option qz:=
 let x1:Int:=AZ ((p0.length:Int).tdiv 4)
 cond ((decide ((AZ (p1+x1))>p2)))
  (some ((p2,()),()))
 (some ((AZ (p1+x1),()),()))
abbrev WE:Type:=ABT×Unit
abbrev ZC:Type:=List Int→Int→Int→Int→Option WE
def Tg(R2:ZC)(t0:AAH)(t1 t2 t7:Int):Option WE:=
 cond ((decide (t7<(t0.length:Int))))
  (if(0:Int)≤t7∧t7<(t0.length:Int)then(
  (CK (t0.getD (t7.toNat) 0) t1 t2).bind fun u3=>
  cond (!u3.1.1)
   (some ((false,()),()))
  (cond (decide (t7>0))
   (if(0:Int)≤AZ (t7-1)∧AZ (t7-1)<(t0.length:Int)then(
   if(0:Int)≤t7∧t7<(t0.length:Int)then(
   cond (decide ((t0.getD ((AZ (t7-1)).toNat) 0)≥(t0.getD (t7.toNat) 0)))
    (some ((false,()),()))
   (R2 t0 t1 t2 (AZ (t7+1))))else none)else none)
  (R2 t0 t1 t2 (AZ (t7+1)))))else none)
 (some ((true,()),()))
def Mx:Nat→ZC
 |0=>fun _ _ _ _=>none
 |n+1=>Tg (Mx n)
def Zp(R2:ZC)(p0:AAH)(p1 p2:Int):Option WE:=
 R2 p0 p1 p2 0
def We(p0:AAH)(p1 p2:Int):Option WE:=Zp (Mx Ae) p0 p1 p2
abbrev qB:Type:=ABT×Unit
def Gr(p0:ABL)(p1:AAH):Option qB:=
 (GU (p0.1,p0.2.1,())).bind fun u1=>
 cond (u1.1.1)
  ((We p1 0 (AZ ((p0.1.length:Int)-1))).bind fun u3=>
  some ((u3.1.1,()),()))
 (some ((false,()),()))
abbrev UC:Type:=ABg×Unit
abbrev XD:Type:=List Int→Int→Int→List Int→Int→List Bool→Option UC
def YM(R4:XD)(t1:AAH)(t6 t7:Int)(AR:AAH)(AF:Int)(b1:List Bool):Option UC:=
 cond ((decide (t7<(t1.length:Int))))
  (if(0:Int)≤t7∧t7<(t1.length:Int)then(
  let x3:Int:=(t1.getD (t7.toNat) 0)
  if(0:Int)≤x3∧x3<(AR.length:Int)then(
  let x4:Int:=(AR.getD (x3.toNat) 0)
  if(0:Int)≤x4∧x4<(b1.length:Int)then(
  cond (!(b1.getD (x4.toNat) false))
   (if(0:Int)≤x4∧x4<(b1.length:Int)then(
   R4 t1 (AZ (t6+1)) (AZ (t7+1)) AR AF (b1.set (x4.toNat) true))else none)
  (R4 t1 t6 (AZ (t7+1)) AR AF b1))else none)else none)else none)
 (some ((t6,()),()))
def N2:Nat→XD
 |0=>fun _ _ _ _ _ _=>none
 |n+1=>YM (N2 n)
def Yc(R4:XD)(p0:ABL)(p1:AAH):Option UC:=
 R4 p1 0 0 p0.1 p0.2.1 (List.replicate 8 false)
def US(p0:ABL)(p1:AAH):Option UC:=Yc (N2 Ae) p0 p1
abbrev iK:Type:=ABT×Unit
def FQ(p0:ABL)(p1:AAH):Option iK:=
 (Gr (p0.1,p0.2.1,()) p1).bind fun u1=>
 cond (u1.1.1)
  ((US (p0.1,p0.2.1,()) p1).bind fun u2=>
  some (((decide (u2.1.1≥p0.2.1)),()),()))
 (some ((false,()),()))
abbrev lL:Type:=AFi×AEs
def XX:Option lL:=
 some (((1,1,(),()),()),([],()))
abbrev nA:Type:=((ADQ×Bool×Unit)×Unit)×ADK
def Hc(p0:ABL):Option nA:=
 (GU (p0.1,p0.2.1,())).bind fun u1=>
 cond (!u1.1.1)
  (some (((((),0,(),(),(),0,(),(),(),(),false,()),false,()),()),([],[],[],[],[],[],[],[],())))
 (if 0+p0.1.length≤Dw then(
 if(0:Int)≤(p0.1.length:Int)∧(p0.1.length:Int)≤(p0.1.length:Int)∧(p0.1.length:Int)≤(Dw:Int)then(
 (XX).bind fun u3=>
 (XX).bind fun u4=>
 some (((((),p0.2.1,(),(),(),0,(),(),(),(),false,()),true,()),()),(p0.1,(List.replicate ((p0.1.length:Int).toNat) ([],[],0,())),[],[],[],[],[(u3.1.1.1,u3.1.1.2.1,u3.2.1,()),(u4.1.1.1,u4.1.1.2.1,u4.2.1,())],[],())))else none)else none)
abbrev uH:Type:=ABg×Unit
def L9(p0 p1:Int):Option uH:=
 cond (decide (p0>p1))
  (some ((p0,()),()))
 (some ((p1,()),()))
abbrev Gi:Type:=ABT×Unit
abbrev ZW:Type:=List Int→Int→Int→Option Gi
def aK(R2:ZW)(t0:AAH)(t1 t5:Int):Option Gi:=
 cond ((decide (t5<(t0.length:Int))))
  (if(0:Int)≤t5∧t5<(t0.length:Int)then(
  cond ((t0.getD (t5.toNat) 0)==t1)
   (some ((true,()),()))
  (R2 t0 t1 (AZ (t5+1))))else none)
 (some ((false,()),()))
def Pm:Nat→ZW
 |0=>fun _ _ _=>none
 |n+1=>aK (Pm n)
def Z3(R2:ZW)(p0:AAH)(p1:Int):Option Gi:=
 R2 p0 p1 0
def DK(p0:AAH)(p1:Int):Option Gi:=Z3 (Pm Ae) p0 p1
abbrev V4:Type:=ACL×ACr
abbrev ZQ:Type:=List Int→Int→Bool→Int→List Int→Option V4
def TM(R4:ZQ)(t0:AAH)(t1:Int)(t6:Bool)(t7:Int)(b0:AAH):Option V4:=
 cond ((decide (t7<(t0.length:Int))))
  (cond (!t6)
   (if(0:Int)≤t7∧t7<(t0.length:Int)then(
   cond (decide ((t0.getD (t7.toNat) 0)>t1))
    (if b0.length+1≤Dw then(
    if(0:Int)≤t7∧t7<(t0.length:Int)then(
    if(b0++[t1]).length+1≤Dw then(
    R4 t0 t1 true (AZ (t7+1)) ((b0++[t1])++[(t0.getD (t7.toNat) 0)]))else none)else none)else none)
   (if(0:Int)≤t7∧t7<(t0.length:Int)then(
   if b0.length+1≤Dw then(
   R4 t0 t1 t6 (AZ (t7+1)) (b0++[(t0.getD (t7.toNat) 0)]))else none)else none))else none)
  (if(0:Int)≤t7∧t7<(t0.length:Int)then(
  if b0.length+1≤Dw then(
  R4 t0 t1 t6 (AZ (t7+1)) (b0++[(t0.getD (t7.toNat) 0)]))else none)else none))
 (cond (!t6)
  (if b0.length+1≤Dw then(
  some (((),()),(b0++[t1],())))else none)
 (some (((),()),(b0,()))))
def Ke:Nat→ZQ
 |0=>fun _ _ _ _ _=>none
 |n+1=>TM (Ke n)
def Zq(R4:ZQ)(p0:AAH)(p1:Int):Option V4:=
 (DK p0 p1).bind fun u1=>
 R4 p0 p1 u1.1.1 0 []
def L8(p0:AAH)(p1:Int):Option V4:=Zq (Ke Ae) p0 p1
abbrev MK:Type:=ACL×AGM
abbrev Pe:Type:=Int→Int→List Int→Int→Int→List Int→Int→List Int→Option MK
def SK(R4:Pe)(t6 t7:Int)(AR:AAH)(AF Ai:Int)(CZ:AAH)(Bf:Int)(b2:AAH):Option MK:=
 cond (decide (t7<t6))
  ((L9 (CZ.length:Int) 1).bind fun u3=>
  (Am u3.1.1 AR AF Ai).bind fun u4=>
  (L8 b2 u4.1.1).bind fun u5=>
  R4 t6 (AZ (t7+1)) u4.2.1.1 u4.2.1.2.1 u4.2.1.2.2.1 CZ Bf u5.2.1)
 ((B6 20 AR AF Ai).bind fun u6=>
 cond (u6.1.1)
  ((N_ [(-1),0,(CZ.length:Int)] u6.2.1.1 u6.2.1.2.1 u6.2.1.2.2.1).bind fun u7=>
  if b2.length+1≤Dw then(
  some (((),()),((u7.2.1.1,u7.2.1.2.1,u7.2.1.2.2.1,()),b2++[u7.1.1],())))else none)
 (some (((),()),((u6.2.1.1,u6.2.1.2.1,u6.2.1.2.2.1,()),b2,()))))
def IM:Nat→Pe
 |0=>fun _ _ _ _ _ _ _ _=>none
 |n+1=>SK (IM n)
def Rh(R4:Pe)(p1:ABL)(AR:AAH)(AF Ai:Int):Option MK:=
 (Am (AZ ((p1.1.length:Int)+2)) AR AF Ai).bind fun u2=>
 R4 u2.1.1 0 u2.2.1.1 u2.2.1.2.1 u2.2.1.2.2.1 p1.1 p1.2.1 []
def Oo(p1:ABL)(AR:AAH)(AF Ai:Int):Option MK:=Rh (IM Ae) p1 AR AF Ai
abbrev O0:Type:=ACL×AGM
abbrev Ry:Type:=Int→List Int→Int→Int→List Int→Int→List Int→Option O0
def UH(R3:Ry)(t6:Int)(AR:AAH)(AF Ai:Int)(CZ:AAH)(Bf:Int)(b2:AAH):Option O0:=
 cond ((decide (t6<(CZ.length:Int))))
  ((FQ (CZ,Bf,()) b2).bind fun u3=>
  cond (!u3.1.1)
   ((L8 b2 t6).bind fun u4=>
   R3 (AZ (t6+1)) AR AF Ai CZ Bf u4.2.1)
  (some (((),()),((AR,AF,Ai,()),b2,()))))
 (some (((),()),((AR,AF,Ai,()),b2,())))
def KO:Nat→Ry
 |0=>fun _ _ _ _ _ _ _=>none
 |n+1=>UH (KO n)
def Uj(R3:Ry)(p1:ABL)(AR:AAH)(AF Ai:Int):Option O0:=
 (Oo (p1.1,p1.2.1,()) AR AF Ai).bind fun u1=>
 R3 0 u1.2.1.1 u1.2.1.2.1 u1.2.1.2.2.1 p1.1 p1.2.1 u1.2.2.1
def LY(p1:ABL)(AR:AAH)(AF Ai:Int):Option O0:=Uj (KO Ae) p1 AR AF Ai
abbrev Ox:Type:=ABg×Unit
abbrev Rb:Type:=List Int→Int→Int→Option Ox
def UY(R5:Rb)(t0:AAH)(t3 t4:Int):Option Ox:=
 cond ((decide (t4<(t0.length:Int))))
  (if(0:Int)≤t4∧t4<(t0.length:Int)then(
  let x3:Int:=(t0.getD (t4.toNat) 0)
  if x3<0 then none else(
  R5 t0 (bOr .i64 t3 (AZ (1*2^(min x3.toNat 64)))) (AZ (t4+1))))else none)
 (some ((t3,()),()))
def KM:Nat→Rb
 |0=>fun _ _ _=>none
 |n+1=>UY (KM n)
def UI(R5:Rb)(p0:AAH):Option Ox:=
 (We p0 0 7).bind fun u1=>
 cond (!u1.1.1)
  (some (((-1),()),()))
 (R5 p0 0 0)
def Li(p0:AAH):Option Ox:=UI (KM Ae) p0
abbrev O1:Type:=ABg×Unit
abbrev SA:Type:=Int→AAo→Int→Option O1
def OI(R2:SA)(t3:Int)(AR:AAo)(AF:Int):Option O1:=
 cond ((decide (t3<(AR.length:Int))))
  (if(0:Int)≤t3∧t3<(AR.length:Int)then(
  cond (!((AR.getD (t3.toNat) ([],false,0,())).2.1))
   (some ((AZ (t3+1),()),()))
  (R2 (AZ (t3+1)) AR AF))else none)
 (some ((0,()),()))
def IC:Nat→SA
 |0=>fun _ _ _=>none
 |n+1=>OI (IC n)
def UT(R2:SA)(p0:ABk):Option O1:=
 R2 0 p0.1 p0.2.1
def JO(p0:ABk):Option O1:=UT (IC Ae) p0
abbrev G8:Type:=ACL×ACr
def Ce(p0:ABk)(p1:Int):Option G8:=
 (CK p1 1 (p0.1.length:Int)).bind fun u1=>
 cond (!u1.1.1)
  (some (((),()),([],())))
 (if(0:Int)≤AZ (p1-1)∧AZ (p1-1)<(p0.1.length:Int)then(
 if 0+((p0.1.getD ((AZ (p1-1)).toNat) ([],false,0,())).1).length≤Dw then(
 some (((),()),(((p0.1.getD ((AZ (p1-1)).toNat) ([],false,0,())).1),())))else none)else none)
abbrev L2:Type:=AFs×ADg
abbrev Oa:Type:=Int→Int→Int→List Int→Int→Int→List Int→Int→AAh→List Int→AAo→Int→AA1→ABB→AAs→AAX→Bool→Int→Int→Int→Int→List UInt8→Int→Int→List Int→ABE→Bool→List AAH→Option L2
def Qu(R16:Oa)(t7 t8 t9:Int)(AR:AAH)(AF Ai:Int)(CZ:AAH)(Bf:Int)(EF:AAh)(Gy:AAH)(MI:AAo)(EE:Int)(AOO:AA1)(AR4:ABB)(AOM:AAs)(APz:AAX)(FB:Bool)(Zw mc ARN ANX:Int)(uL:ACD)(jk cw:Int)(uW:AAH)(ARQ:ABE)(APi:Bool)(ACJ:List AAH):Option L2:=
 cond ((decide (t9<(ACJ.length:Int))))
  (if(0:Int)≤t9∧t9<(ACJ.length:Int)then(
  (FQ (CZ,Bf,()) (ACJ.getD (t9.toNat) [])).bind fun u22=>
  cond (!u22.1.1)
   ((B6 3 AR AF Ai).bind fun ZX=>
   cond (!ZX.1.1)
    (R16 t7 (AZ (t9+1)) (AZ (t9+1)) ZX.2.1.1 ZX.2.1.2.1 ZX.2.1.2.2.1 CZ Bf EF Gy MI EE AOO AR4 AOM APz FB Zw mc ARN ANX uL jk cw uW ARQ APi ACJ)
   (R16 t7 t8 (AZ (t9+1)) ZX.2.1.1 ZX.2.1.2.1 ZX.2.1.2.2.1 CZ Bf EF Gy MI EE AOO AR4 AOM APz FB Zw mc ARN ANX uL jk cw uW ARQ APi ACJ))
  (R16 t7 t8 (AZ (t9+1)) AR AF Ai CZ Bf EF Gy MI EE AOO AR4 AOM APz FB Zw mc ARN ANX uL jk cw uW ARQ APi ACJ))else none)
 (some (((11,0,t8,t7,[],()),()),((AR,AF,Ai,()),())))
def F9:Nat→Oa
 |0=>fun _ _ _ _ _ _ _ _ _ _ _ _ _ _ _ _ _ _ _ _ _ _ _ _ _ _ _ _=>none
 |n+1=>Qu (F9 n)
def RO(R16:Oa)(p1:ABN)(AR:AAH)(AF Ai:Int):Option L2:=
 cond ((p1.2.2.2.2.2.2.2.1.length:Int)==0)
  (some (((8,0,0,0,[],()),()),((AR,AF,Ai,()),())))
 (if(0:Int)≤(0:Int)∧(0:Int)<(p1.2.2.2.2.2.2.2.1.length:Int)then(
 (Ce (p1.2.2.2.2.1,p1.2.2.2.2.2.1,()) ((p1.2.2.2.2.2.2.2.1.getD 0 (0,0,[],[],false,[],())).2.1)).bind fun u3=>
 (Am (u3.2.1.length:Int) AR AF Ai).bind fun u5=>
 if(0:Int)≤u5.1.1∧u5.1.1<(u3.2.1.length:Int)then(
 let x6:Int:=(u3.2.1.getD (u5.1.1.toNat) 0)
 cond (!((p1.2.2.2.2.2.2.2.1.getD 0 (0,0,[],[],false,[],())).2.2.2.2.1))
  ((B6 4 u5.2.1.1 u5.2.1.2.1 u5.2.1.2.2.1).bind fun u8=>
  cond (u8.1.1)
   (some (((10,0,0,0,[],()),()),((u8.2.1.1,u8.2.1.2.1,u8.2.1.2.2.1,()),())))
  (cond (!((p1.2.2.2.2.2.2.2.1.getD 0 (0,0,[],[],false,[],())).2.2.2.2.1))
   (some (((9,x6,0,0,[],()),()),((u8.2.1.1,u8.2.1.2.1,u8.2.1.2.2.1,()),())))
  ((B6 6 u8.2.1.1 u8.2.1.2.1 u8.2.1.2.2.1).bind fun EY=>
  cond (EY.1.1)
   (some (((12,0,0,0,[],()),()),((EY.2.1.1,EY.2.1.2.1,EY.2.1.2.2.1,()),())))
  ((B6 3 EY.2.1.1 EY.2.1.2.1 EY.2.1.2.2.1).bind fun Nj=>
  cond (Nj.1.1)
   (some (((4,x6,0,0,[],()),()),((Nj.2.1.1,Nj.2.1.2.1,Nj.2.1.2.2.1,()),())))
  ((L9 (((p1.2.2.2.2.2.2.2.1.getD 0 (0,0,[],[],false,[],())).2.2.2.2.2.1).length:Int) 1).bind fun WW=>
  (Am WW.1.1 Nj.2.1.1 Nj.2.1.2.1 Nj.2.1.2.2.1).bind fun VP=>
  R16 x6 (AZ (1+VP.1.1)) 0 VP.2.1.1 VP.2.1.2.1 VP.2.1.2.2.1 p1.1 p1.2.1 p1.2.2.1 p1.2.2.2.1 p1.2.2.2.2.1 p1.2.2.2.2.2.1 p1.2.2.2.2.2.2.1 p1.2.2.2.2.2.2.2.1 p1.2.2.2.2.2.2.2.2.1 p1.2.2.2.2.2.2.2.2.2.1 p1.2.2.2.2.2.2.2.2.2.2.1 0 0 0 0 [] ((p1.2.2.2.2.2.2.2.1.getD 0 (0,0,[],[],false,[],())).1) ((p1.2.2.2.2.2.2.2.1.getD 0 (0,0,[],[],false,[],())).2.1) ((p1.2.2.2.2.2.2.2.1.getD 0 (0,0,[],[],false,[],())).2.2.1) ((p1.2.2.2.2.2.2.2.1.getD 0 (0,0,[],[],false,[],())).2.2.2.1) ((p1.2.2.2.2.2.2.2.1.getD 0 (0,0,[],[],false,[],())).2.2.2.2.1) ((p1.2.2.2.2.2.2.2.1.getD 0 (0,0,[],[],false,[],())).2.2.2.2.2.1))))))
 (cond (!((p1.2.2.2.2.2.2.2.1.getD 0 (0,0,[],[],false,[],())).2.2.2.2.1))
  (some (((9,x6,0,0,[],()),()),((u5.2.1.1,u5.2.1.2.1,u5.2.1.2.2.1,()),())))
 ((B6 6 u5.2.1.1 u5.2.1.2.1 u5.2.1.2.2.1).bind fun u16=>
 cond (u16.1.1)
  (some (((12,0,0,0,[],()),()),((u16.2.1.1,u16.2.1.2.1,u16.2.1.2.2.1,()),())))
 ((B6 3 u16.2.1.1 u16.2.1.2.1 u16.2.1.2.2.1).bind fun fR=>
 cond (fR.1.1)
  (some (((4,x6,0,0,[],()),()),((fR.2.1.1,fR.2.1.2.1,fR.2.1.2.2.1,()),())))
 ((L9 (((p1.2.2.2.2.2.2.2.1.getD 0 (0,0,[],[],false,[],())).2.2.2.2.2.1).length:Int) 1).bind fun gN=>
 (Am gN.1.1 fR.2.1.1 fR.2.1.2.1 fR.2.1.2.2.1).bind fun P2=>
 R16 x6 (AZ (1+P2.1.1)) 0 P2.2.1.1 P2.2.1.2.1 P2.2.1.2.2.1 p1.1 p1.2.1 p1.2.2.1 p1.2.2.2.1 p1.2.2.2.2.1 p1.2.2.2.2.2.1 p1.2.2.2.2.2.2.1 p1.2.2.2.2.2.2.2.1 p1.2.2.2.2.2.2.2.2.1 p1.2.2.2.2.2.2.2.2.2.1 p1.2.2.2.2.2.2.2.2.2.2.1 0 0 0 0 [] ((p1.2.2.2.2.2.2.2.1.getD 0 (0,0,[],[],false,[],())).1) ((p1.2.2.2.2.2.2.2.1.getD 0 (0,0,[],[],false,[],())).2.1) ((p1.2.2.2.2.2.2.2.1.getD 0 (0,0,[],[],false,[],())).2.2.1) ((p1.2.2.2.2.2.2.2.1.getD 0 (0,0,[],[],false,[],())).2.2.2.1) ((p1.2.2.2.2.2.2.2.1.getD 0 (0,0,[],[],false,[],())).2.2.2.2.1) ((p1.2.2.2.2.2.2.2.1.getD 0 (0,0,[],[],false,[],())).2.2.2.2.2.1))))))else none)else none)
def Lj(p1:ABN)(AR:AAH)(AF Ai:Int):Option L2:=RO (F9 Ae) p1 AR AF Ai
abbrev rY:Type:=AGO×ADg
def It(p1:List ACD)(AR:AAH)(AF Ai:Int):Option rY:=
 (Am (p1.length:Int) AR AF Ai).bind fun u1=>
 if(0:Int)≤u1.1.1∧u1.1.1<(p1.length:Int)then(
 some (((p1.getD (u1.1.1.toNat) []),()),((u1.2.1.1,u1.2.1.2.1,u1.2.1.2.2.1,()),())))else none
abbrev um:Type:=ABg×Unit
def TG(p0 p1:Int):Option um:=
 cond (decide (p0<p1))
  (some ((p0,()),()))
 (some ((p1,()),()))
abbrev ef:Type:=AFs×ADg
def Gp(p1:ABN)(AR:AAH)(AF Ai:Int):Option ef:=
 (Am (p1.2.2.2.2.2.2.1.length:Int) AR AF Ai).bind fun u2=>
 (B6 3 u2.2.1.1 u2.2.1.2.1 u2.2.1.2.2.1).bind fun u3=>
 cond (!u3.1.1)
  (let x4:Int:=(p1.2.2.2.2.2.2.1.length:Int)
  if(0:Int)≤AZ (x4-1)∧AZ (x4-1)<(p1.2.2.2.2.2.2.1.length:Int)then(
  (Ce (p1.2.2.2.2.1,p1.2.2.2.2.2.1,()) ((p1.2.2.2.2.2.2.1.getD ((AZ (x4-1)).toNat) (0,[],())).1)).bind fun u6=>
  (Am (u6.2.1.length:Int) u3.2.1.1 u3.2.1.2.1 u3.2.1.2.2.1).bind fun u8=>
  if(0:Int)≤u8.1.1∧u8.1.1<(u6.2.1.length:Int)then(
  let x9:Int:=(u6.2.1.getD (u8.1.1.toNat) 0)
  let x10:Int:=(((p1.2.2.2.2.2.2.1.getD ((AZ (x4-1)).toNat) (0,[],())).2.1).length:Int)
  cond (x10==0)
   ((It [[],[97],[98,99],[100]] u8.2.1.1 u8.2.1.2.1 u8.2.1.2.2.1).bind fun Nj=>
   some (((2,AZ (x4-1),0,0,Nj.1.1,()),()),((Nj.2.1.1,Nj.2.1.2.1,Nj.2.1.2.2.1,()),())))
  ((B6 7 u8.2.1.1 u8.2.1.2.1 u8.2.1.2.2.1).bind fun bp=>
  cond (bp.1.1)
   ((It [[],[97],[98,99],[100]] bp.2.1.1 bp.2.1.2.1 bp.2.1.2.2.1).bind fun WW=>
   some (((2,AZ (x4-1),0,0,WW.1.1,()),()),((WW.2.1.1,WW.2.1.2.1,WW.2.1.2.2.1,()),())))
  ((B6 3 bp.2.1.1 bp.2.1.2.1 bp.2.1.2.2.1).bind fun VP=>
  cond (VP.1.1)
   (some (((4,x9,0,0,[],()),()),((VP.2.1.1,VP.2.1.2.1,VP.2.1.2.2.1,()),())))
  ((TG x10 3).bind fun u15=>
  (Am u15.1.1 VP.2.1.1 VP.2.1.2.1 VP.2.1.2.2.1).bind fun u16=>
  some (((3,AZ (x4-1),AZ (x10-u16.1.1),x9,[],()),()),((u16.2.1.1,u16.2.1.2.1,u16.2.1.2.2.1,()),()))))))else none)else none)
 (if(0:Int)≤u2.1.1∧u2.1.1<(p1.2.2.2.2.2.2.1.length:Int)then(
 (Ce (p1.2.2.2.2.1,p1.2.2.2.2.2.1,()) ((p1.2.2.2.2.2.2.1.getD (u2.1.1.toNat) (0,[],())).1)).bind fun q6=>
 (Am (q6.2.1.length:Int) u3.2.1.1 u3.2.1.2.1 u3.2.1.2.2.1).bind fun P2=>
 if(0:Int)≤P2.1.1∧P2.1.1<(q6.2.1.length:Int)then(
 let x21:Int:=(q6.2.1.getD (P2.1.1.toNat) 0)
 let x22:Int:=(((p1.2.2.2.2.2.2.1.getD (u2.1.1.toNat) (0,[],())).2.1).length:Int)
 cond (x22==0)
  ((It [[],[97],[98,99],[100]] P2.2.1.1 P2.2.1.2.1 P2.2.1.2.2.1).bind fun ZX=>
  some (((2,u2.1.1,0,0,ZX.1.1,()),()),((ZX.2.1.1,ZX.2.1.2.1,ZX.2.1.2.2.1,()),())))
 ((B6 7 P2.2.1.1 P2.2.1.2.1 P2.2.1.2.2.1).bind fun Xp=>
 cond (Xp.1.1)
  ((It [[],[97],[98,99],[100]] Xp.2.1.1 Xp.2.1.2.1 Xp.2.1.2.2.1).bind fun fP=>
  some (((2,u2.1.1,0,0,fP.1.1,()),()),((fP.2.1.1,fP.2.1.2.1,fP.2.1.2.2.1,()),())))
 ((B6 3 Xp.2.1.1 Xp.2.1.2.1 Xp.2.1.2.2.1).bind fun jr=>
 cond (jr.1.1)
  (some (((4,x21,0,0,[],()),()),((jr.2.1.1,jr.2.1.2.1,jr.2.1.2.2.1,()),())))
 ((TG x22 3).bind fun ve=>
 (Am ve.1.1 jr.2.1.1 jr.2.1.2.1 jr.2.1.2.2.1).bind fun Xq=>
 some (((3,u2.1.1,AZ (x22-Xq.1.1),x21,[],()),()),((Xq.2.1.1,Xq.2.1.2.1,Xq.2.1.2.2.1,()),()))))))else none)else none)
abbrev gi:Type:=AFs×ADg
def Om(p1:ABN)(AR:AAH)(AF Ai:Int):Option gi:=
 cond ((p1.2.2.2.2.2.2.1.length:Int)==0)
  ((LY (p1.1,p1.2.1,()) AR AF Ai).bind fun u3=>
  (Li u3.2.2.1).bind fun u4=>
  some (((1,u4.1.1,0,0,[],()),()),((u3.2.1.1,u3.2.1.2.1,u3.2.1.2.2.1,()),())))
 ((B6 30 AR AF Ai).bind fun u5=>
 cond (u5.1.1)
  ((LY (p1.1,p1.2.1,()) u5.2.1.1 u5.2.1.2.1 u5.2.1.2.2.1).bind fun u6=>
  (Li u6.2.2.1).bind fun u7=>
  some (((1,u7.1.1,0,0,[],()),()),((u6.2.1.1,u6.2.1.2.1,u6.2.1.2.2.1,()),())))
 ((Am (p1.2.2.1.length:Int) u5.2.1.1 u5.2.1.2.1 u5.2.1.2.2.1).bind fun u8=>
 (Am 44 u8.2.1.1 u8.2.1.2.1 u8.2.1.2.2.1).bind fun u9=>
 cond (u9.1.1==0)
  ((Am 16 u9.2.1.1 u9.2.1.2.1 u9.2.1.2.2.1).bind fun EY=>
  some (((5,u8.1.1,EY.1.1,0,[],()),()),((EY.2.1.1,EY.2.1.2.1,EY.2.1.2.2.1,()),())))
 (cond (u9.1.1==1)
  (cond ((p1.2.2.2.1.length:Int)==0)
   (some (((6,u8.1.1,0,0,[],()),()),((u9.2.1.1,u9.2.1.2.1,u9.2.1.2.2.1,()),())))
  ((B6 12 u9.2.1.1 u9.2.1.2.1 u9.2.1.2.2.1).bind fun bp=>
  cond (bp.1.1)
   (some (((6,u8.1.1,0,0,[],()),()),((bp.2.1.1,bp.2.1.2.1,bp.2.1.2.2.1,()),())))
  (if(0:Int)≤(0:Int)∧(0:Int)<(p1.2.2.2.1.length:Int)then(
  some (((7,(p1.2.2.2.1.getD 0 0),0,0,[],()),()),((bp.2.1.1,bp.2.1.2.1,bp.2.1.2.2.1,()),())))else none)))
 (cond (u9.1.1==2)
  ((Am (p1.2.2.2.2.2.2.1.length:Int) u9.2.1.1 u9.2.1.2.1 u9.2.1.2.2.1).bind fun u15=>
  some (((15,u15.1.1,0,0,[],()),()),((u15.2.1.1,u15.2.1.2.1,u15.2.1.2.2.1,()),())))
 (cond (u9.1.1==3)
  ((B6 3 u9.2.1.1 u9.2.1.2.1 u9.2.1.2.2.1).bind fun u16=>
  cond (u16.1.1)
   (cond (decide ((p1.2.2.2.2.2.2.2.2.2.1.length:Int)>0))
    ((Am (p1.2.2.2.2.2.2.2.2.2.1.length:Int) u16.2.1.1 u16.2.1.2.1 u16.2.1.2.2.1).bind fun gN=>
    if(0:Int)≤gN.1.1∧gN.1.1<(p1.2.2.2.2.2.2.2.2.2.1.length:Int)then(
    some (((13,((p1.2.2.2.2.2.2.2.2.2.1.getD (gN.1.1.toNat) (0,[],false,())).1),0,0,[],()),()),((gN.2.1.1,gN.2.1.2.1,gN.2.1.2.2.1,()),())))else none)
   (some (((16,u8.1.1,0,0,[],()),()),((u16.2.1.1,u16.2.1.2.1,u16.2.1.2.2.1,()),()))))
  (some (((16,u8.1.1,0,0,[],()),()),((u16.2.1.1,u16.2.1.2.1,u16.2.1.2.2.1,()),()))))
 (cond (u9.1.1==4)
  ((B6 2 u9.2.1.1 u9.2.1.2.1 u9.2.1.2.2.1).bind fun fX=>
  cond (fX.1.1)
   ((Am 256 fX.2.1.1 fX.2.1.2.1 fX.2.1.2.2.1).bind fun u22=>
   (Am 2 u22.2.1.1 u22.2.1.2.1 u22.2.1.2.2.1).bind fun ZX=>
   some (((14,ZX.1.1,u22.1.1,0,[],()),()),((ZX.2.1.1,ZX.2.1.2.1,ZX.2.1.2.2.1,()),())))
  ((Am 2 fX.2.1.1 fX.2.1.2.1 fX.2.1.2.2.1).bind fun Xp=>
  some (((14,Xp.1.1,255,0,[],()),()),((Xp.2.1.1,Xp.2.1.2.1,Xp.2.1.2.2.1,()),()))))
 (cond (u9.1.1==5)
  ((B6 2 u9.2.1.1 u9.2.1.2.1 u9.2.1.2.2.1).bind fun fP=>
  cond (fP.1.1)
   ((Am 256 fP.2.1.1 fP.2.1.2.1 fP.2.1.2.2.1).bind fun jr=>
   (Am 2 jr.2.1.1 jr.2.1.2.1 jr.2.1.2.2.1).bind fun ve=>
   some (((14,ve.1.1,jr.1.1,0,[],()),()),((ve.2.1.1,ve.2.1.2.1,ve.2.1.2.2.1,()),())))
  ((Am 2 fP.2.1.1 fP.2.1.2.1 fP.2.1.2.2.1).bind fun Xq=>
  some (((14,Xq.1.1,255,0,[],()),()),((Xq.2.1.1,Xq.2.1.2.1,Xq.2.1.2.2.1,()),()))))
 (cond (u9.1.1==6)
  ((B6 2 u9.2.1.1 u9.2.1.2.1 u9.2.1.2.2.1).bind fun tO=>
  cond (tO.1.1)
   ((Am 256 tO.2.1.1 tO.2.1.2.1 tO.2.1.2.2.1).bind fun nV=>
   (Am 2 nV.2.1.1 nV.2.1.2.1 nV.2.1.2.2.1).bind fun vm=>
   some (((14,vm.1.1,nV.1.1,0,[],()),()),((vm.2.1.1,vm.2.1.2.1,vm.2.1.2.2.1,()),())))
  ((Am 2 tO.2.1.1 tO.2.1.2.1 tO.2.1.2.2.1).bind fun u32=>
  some (((14,u32.1.1,255,0,[],()),()),((u32.2.1.1,u32.2.1.2.1,u32.2.1.2.2.1,()),()))))
 (cond (u9.1.1==7)
  ((B6 2 u9.2.1.1 u9.2.1.2.1 u9.2.1.2.2.1).bind fun lq=>
  cond (lq.1.1)
   ((Am 256 lq.2.1.1 lq.2.1.2.1 lq.2.1.2.2.1).bind fun uF=>
   (Am 2 uF.2.1.1 uF.2.1.2.1 uF.2.1.2.2.1).bind fun u35=>
   some (((14,u35.1.1,uF.1.1,0,[],()),()),((u35.2.1.1,u35.2.1.2.1,u35.2.1.2.2.1,()),())))
  ((Am 2 lq.2.1.1 lq.2.1.2.1 lq.2.1.2.2.1).bind fun u36=>
  some (((14,u36.1.1,255,0,[],()),()),((u36.2.1.1,u36.2.1.2.1,u36.2.1.2.2.1,()),()))))
 (cond (u9.1.1==8)
  ((B6 2 u9.2.1.1 u9.2.1.2.1 u9.2.1.2.2.1).bind fun mK=>
  cond (mK.1.1)
   ((Am 256 mK.2.1.1 mK.2.1.2.1 mK.2.1.2.2.1).bind fun u38=>
   (Am 2 u38.2.1.1 u38.2.1.2.1 u38.2.1.2.2.1).bind fun u39=>
   some (((14,u39.1.1,u38.1.1,0,[],()),()),((u39.2.1.1,u39.2.1.2.1,u39.2.1.2.2.1,()),())))
  ((Am 2 mK.2.1.1 mK.2.1.2.1 mK.2.1.2.2.1).bind fun u40=>
  some (((14,u40.1.1,255,0,[],()),()),((u40.2.1.1,u40.2.1.2.1,u40.2.1.2.2.1,()),()))))
 (cond (decide ((p1.2.2.2.2.1.length:Int)>1))
  ((JO (p1.2.2.2.2.1,p1.2.2.2.2.2.1,())).bind fun u43=>
  cond ((decide (u43.1.1<(p1.2.2.2.2.1.length:Int))))
   ((B6 3 u9.2.1.1 u9.2.1.2.1 u9.2.1.2.2.1).bind fun u45=>
   cond (!u45.1.1)
    ((Lj (p1.1,p1.2.1,p1.2.2.1,p1.2.2.2.1,p1.2.2.2.2.1,p1.2.2.2.2.2.1,p1.2.2.2.2.2.2.1,p1.2.2.2.2.2.2.2.1,p1.2.2.2.2.2.2.2.2.1,p1.2.2.2.2.2.2.2.2.2.1,p1.2.2.2.2.2.2.2.2.2.2.1,()) u45.2.1.1 u45.2.1.2.1 u45.2.1.2.2.1).bind fun rL=>
    some (((rL.1.1.1,rL.1.1.2.1,rL.1.1.2.2.1,rL.1.1.2.2.2.1,rL.1.1.2.2.2.2.1,()),()),((rL.2.1.1,rL.2.1.2.1,rL.2.1.2.2.1,()),())))
   ((Gp (p1.1,p1.2.1,p1.2.2.1,p1.2.2.2.1,p1.2.2.2.2.1,p1.2.2.2.2.2.1,p1.2.2.2.2.2.2.1,p1.2.2.2.2.2.2.2.1,p1.2.2.2.2.2.2.2.2.1,p1.2.2.2.2.2.2.2.2.2.1,p1.2.2.2.2.2.2.2.2.2.2.1,()) u45.2.1.1 u45.2.1.2.1 u45.2.1.2.2.1).bind fun mM=>
   some (((mM.1.1.1,mM.1.1.2.1,mM.1.1.2.2.1,mM.1.1.2.2.2.1,mM.1.1.2.2.2.2.1,()),()),((mM.2.1.1,mM.2.1.2.1,mM.2.1.2.2.1,()),()))))
  ((Gp (p1.1,p1.2.1,p1.2.2.1,p1.2.2.2.1,p1.2.2.2.2.1,p1.2.2.2.2.2.1,p1.2.2.2.2.2.2.1,p1.2.2.2.2.2.2.2.1,p1.2.2.2.2.2.2.2.2.1,p1.2.2.2.2.2.2.2.2.2.1,p1.2.2.2.2.2.2.2.2.2.2.1,()) u9.2.1.1 u9.2.1.2.1 u9.2.1.2.2.1).bind fun u48=>
  some (((u48.1.1.1,u48.1.1.2.1,u48.1.1.2.2.1,u48.1.1.2.2.2.1,u48.1.1.2.2.2.2.1,()),()),((u48.2.1.1,u48.2.1.2.1,u48.2.1.2.2.1,()),()))))
 ((Gp (p1.1,p1.2.1,p1.2.2.1,p1.2.2.2.1,p1.2.2.2.2.1,p1.2.2.2.2.2.1,p1.2.2.2.2.2.2.1,p1.2.2.2.2.2.2.2.1,p1.2.2.2.2.2.2.2.2.1,p1.2.2.2.2.2.2.2.2.2.1,p1.2.2.2.2.2.2.2.2.2.2.1,()) u9.2.1.1 u9.2.1.2.1 u9.2.1.2.2.1).bind fun rk=>
 some (((rk.1.1.1,rk.1.1.2.1,rk.1.1.2.2.1,rk.1.1.2.2.2.1,rk.1.1.2.2.2.2.1,()),()),((rk.2.1.1,rk.2.1.2.1,rk.2.1.2.2.1,()),()))))))))))))))
abbrev oy:Type:=ABT×Unit
def Hd(p0:Int):Option oy:=
 cond (decide (p0>0))
  ((CK (AZ (p0.tdiv 4294967296)) 1 30).bind fun u2=>
  cond (u2.1.1)
   ((CK (p0.tmod 4294967296) 1 60).bind fun u3=>
   some ((u3.1.1,()),()))
  (some ((false,()),())))
 (some ((false,()),()))
abbrev Hw:Type:=ABg×Unit
def C0(p0:Int):Option Hw:=
 (Hd p0).bind fun u1=>
 cond (!u1.1.1)
  (some ((0,()),()))
 (some (((AZ (p0.tdiv 4294967296)),()),()))
abbrev pV:Type:=ABT×Unit
def MH(p0:ADG):Option pV:=
 (Hd p0.1).bind fun u1=>
 cond (!u1.1.1)
  (some ((false,()),()))
 ((CK p0.2.1 0 30).bind fun u2=>
 cond (!u2.1.1)
  (some ((false,()),()))
 (cond (decide (p0.2.1>0))
  ((C0 p0.1).bind fun u3=>
  cond ((decide (p0.2.1≤u3.1.1)))
   (some ((false,()),()))
  (cond (decide ((p0.2.2.2.1.length:Int)>40))
   (some ((false,()),()))
  (cond (!p0.2.2.1)
   (some ((true,()),()))
  (cond (decide (p0.2.1>0))
   (some ((p0.2.2.2.1==[],()),()))
  (some ((false,()),()))))))
 (cond (decide ((p0.2.2.2.1.length:Int)>40))
  (some ((false,()),()))
 (cond (!p0.2.2.1)
  (some ((true,()),()))
 (cond (decide (p0.2.1>0))
  (some ((p0.2.2.2.1==[],()),()))
 (some ((false,()),())))))))
abbrev Tq:Type:=ABT×Unit
abbrev XY:Type:=ABE→Int→Option Tq
def Rl(R4:XY)(t0:ABE)(t5:Int):Option Tq:=
 cond ((decide (t5<(t0.length:Int))))
  (if(0:Int)≤t5∧t5<(t0.length:Int)then(
  (MH ((t0.getD (t5.toNat) (0,0,false,[],())).1,(t0.getD (t5.toNat) (0,0,false,[],())).2.1,(t0.getD (t5.toNat) (0,0,false,[],())).2.2.1,(t0.getD (t5.toNat) (0,0,false,[],())).2.2.2.1,())).bind fun u3=>
  cond (!u3.1.1)
   (some ((false,()),()))
  (R4 t0 (AZ (t5+1))))else none)
 (some ((true,()),()))
def LD:Nat→XY
 |0=>fun _ _=>none
 |n+1=>Rl (LD n)
def Ym(R4:XY)(p0:ABE)(p1:Int):Option Tq:=
 cond ((decide ((p0.length:Int)>p1)))
  (some ((false,()),()))
 (R4 p0 0)
def Ue(p0:ABE)(p1:Int):Option Tq:=Ym (LD Ae) p0 p1
abbrev WG:Type:=ABT×Unit
abbrev ZK:Type:=ABE→Int→Option WG
def PC(R2:ZK)(t0:ABE)(t3:Int):Option WG:=
 cond ((decide (t3<(t0.length:Int))))
  (if(0:Int)≤AZ (t3-1)∧AZ (t3-1)<(t0.length:Int)then(
  if(0:Int)≤t3∧t3<(t0.length:Int)then(
  cond (decide (((t0.getD ((AZ (t3-1)).toNat) (0,0,false,[],())).1)≥((t0.getD (t3.toNat) (0,0,false,[],())).1)))
   (some ((false,()),()))
  (R2 t0 (AZ (t3+1))))else none)else none)
 (some ((true,()),()))
def GV:Nat→ZK
 |0=>fun _ _=>none
 |n+1=>PC (GV n)
def Z8(R2:ZK)(p0:ABE):Option WG:=
 R2 p0 1
def XT(p0:ABE):Option WG:=Z8 (GV Ae) p0
abbrev qa:Type:=ABT×Unit
def Ge(p0:ACc):Option qa:=
 (Ue p0.1 200).bind fun u1=>
 cond (u1.1.1)
  ((Ue p0.2.1 20).bind fun u2=>
  cond (u2.1.1)
   ((XT p0.1).bind fun u3=>
   cond (u3.1.1)
    ((CK p0.2.2.1 0 30).bind fun u4=>
    some ((u4.1.1,()),()))
   (some ((false,()),())))
  (some ((false,()),())))
 (some ((false,()),()))
abbrev pY:Type:=ABT×Unit
def bR(p0:ACc):Option pY:=
 cond (((p0.1.length:Int)==0))
  (cond ((p0.2.1.length:Int)==0)
   (some ((p0.2.2.1==0,()),()))
  (some ((false,()),())))
 (some ((false,()),()))
abbrev P6:Type:=ABT×Unit
abbrev Tj:Type:=Int→List Int→Int→AAh→List Int→AAo→Int→AA1→ABB→AAs→AAX→Bool→Option P6
def Pd(R4:Tj)(t3:Int)(AR:AAH)(AF:Int)(Ai:AAh)(Bk:AAH)(B_:AAo)(AU:Int)(B9:AA1)(B4:ABB)(CH:AAs)(CT:AAX)(AK:Bool):Option P6:=
 cond ((decide (t3<(Ai.length:Int))))
  (if(0:Int)≤t3∧t3<(Ai.length:Int)then(
  (Ge ((Ai.getD (t3.toNat) ([],[],0,())).1,(Ai.getD (t3.toNat) ([],[],0,())).2.1,(Ai.getD (t3.toNat) ([],[],0,())).2.2.1,())).bind fun u8=>
  cond (!u8.1.1)
   (some ((false,()),()))
  ((DK Bk t3).bind fun u9=>
  cond (u9.1.1)
   (if(0:Int)≤t3∧t3<(Ai.length:Int)then(
   (bR ((Ai.getD (t3.toNat) ([],[],0,())).1,(Ai.getD (t3.toNat) ([],[],0,())).2.1,(Ai.getD (t3.toNat) ([],[],0,())).2.2.1,())).bind fun EY=>
   cond (!EY.1.1)
    (some ((false,()),()))
   (R4 (AZ (t3+1)) AR AF Ai Bk B_ AU B9 B4 CH CT AK))else none)
  (R4 (AZ (t3+1)) AR AF Ai Bk B_ AU B9 B4 CH CT AK)))else none)
 (some ((true,()),()))
def JC:Nat→Tj
 |0=>fun _ _ _ _ _ _ _ _ _ _ _ _=>none
 |n+1=>Pd (JC n)
def Vi(R4:Tj)(p0:ABN):Option P6:=
 (GU (p0.1,p0.2.1,())).bind fun u1=>
 cond (!u1.1.1)
  (some ((false,()),()))
 (cond (((p0.2.2.1.length:Int) !=(p0.1.length:Int)))
  (some ((false,()),()))
 ((Gr (p0.1,p0.2.1,()) p0.2.2.2.1).bind fun u4=>
 cond (!u4.1.1)
  (some ((false,()),()))
 ((FQ (p0.1,p0.2.1,()) p0.2.2.2.1).bind fun u5=>
 cond (u5.1.1)
  (cond (!p0.2.2.2.2.2.2.2.2.2.2.1)
   (some ((false,()),()))
  (R4 0 p0.1 p0.2.1 p0.2.2.1 p0.2.2.2.1 p0.2.2.2.2.1 p0.2.2.2.2.2.1 p0.2.2.2.2.2.2.1 p0.2.2.2.2.2.2.2.1 p0.2.2.2.2.2.2.2.2.1 p0.2.2.2.2.2.2.2.2.2.1 p0.2.2.2.2.2.2.2.2.2.2.1))
 (R4 0 p0.1 p0.2.1 p0.2.2.1 p0.2.2.2.1 p0.2.2.2.2.1 p0.2.2.2.2.2.1 p0.2.2.2.2.2.2.1 p0.2.2.2.2.2.2.2.1 p0.2.2.2.2.2.2.2.2.1 p0.2.2.2.2.2.2.2.2.2.1 p0.2.2.2.2.2.2.2.2.2.2.1))))
def T_(p0:ABN):Option P6:=Vi (JC Ae) p0
abbrev RX:Type:=ABT×Unit
abbrev Zb:Type:=Int→Int→List Int→Int→AAo→Int→Option RX
def TU(R5:Zb)(t5 t6:Int)(AR:AAH)(AF:Int)(CZ:AAo)(Bf:Int):Option RX:=
 cond (decide (t6<t5))
  (if(0:Int)≤t6∧t6<(CZ.length:Int)then(
  (FQ (AR,AF,()) ((CZ.getD (t6.toNat) ([],false,0,())).1)).bind fun u6=>
  cond (!u6.1.1)
   (some ((false,()),()))
  ((CK ((CZ.getD (t6.toNat) ([],false,0,())).2.2.1) 0 60).bind fun u8=>
  cond (!u8.1.1)
   (some ((false,()),()))
  (cond (!((CZ.getD (t6.toNat) ([],false,0,())).2.1))
   (cond (((CZ.getD (t6.toNat) ([],false,0,())).2.2.1) !=0)
    (some ((false,()),()))
   (cond (((CZ.getD (t6.toNat) ([],false,0,())).2.1))
    (cond (t6==(AZ (t5-1)))
     (some ((false,()),()))
    (cond (decide (t6>0))
     (if(0:Int)≤AZ (t6-1)∧AZ (t6-1)<(CZ.length:Int)then(
     cond (!((CZ.getD ((AZ (t6-1)).toNat) ([],false,0,())).2.1))
      (some ((false,()),()))
     (R5 t5 (AZ (t6+1)) AR AF CZ Bf))else none)
    (R5 t5 (AZ (t6+1)) AR AF CZ Bf)))
   (R5 t5 (AZ (t6+1)) AR AF CZ Bf)))
  (cond (((CZ.getD (t6.toNat) ([],false,0,())).2.1))
   (cond (t6==(AZ (t5-1)))
    (some ((false,()),()))
   (cond (decide (t6>0))
    (if(0:Int)≤AZ (t6-1)∧AZ (t6-1)<(CZ.length:Int)then(
    cond (!((CZ.getD ((AZ (t6-1)).toNat) ([],false,0,())).2.1))
     (some ((false,()),()))
    (R5 t5 (AZ (t6+1)) AR AF CZ Bf))else none)
   (R5 t5 (AZ (t6+1)) AR AF CZ Bf)))
  (R5 t5 (AZ (t6+1)) AR AF CZ Bf)))))else none)
 (some ((true,()),()))
def Kd:Nat→Zb
 |0=>fun _ _ _ _ _ _=>none
 |n+1=>TU (Kd n)
def aQ(R5:Zb)(p0:ABL)(p1:ABk):Option RX:=
 (GU (p0.1,p0.2.1,())).bind fun u1=>
 cond (!u1.1.1)
  (some ((false,()),()))
 (cond ((decide ((p1.1.length:Int)>30)))
  (some ((false,()),()))
 (cond (p1.2.1 !=0)
  ((Hd p1.2.1).bind fun u3=>
  cond (!u3.1.1)
   (some ((false,()),()))
  ((C0 p1.2.1).bind fun u4=>
  cond ((decide (u4.1.1>(p1.1.length:Int))))
   (some ((false,()),()))
  (R5 (p1.1.length:Int) 0 p0.1 p0.2.1 p1.1 p1.2.1)))
 (R5 (p1.1.length:Int) 0 p0.1 p0.2.1 p1.1 p1.2.1)))
def MQ(p0:ABL)(p1:ABk):Option RX:=aQ (Kd Ae) p0 p1
abbrev Mg:Type:=ABT×Unit
abbrev Tk:Type:=Int→Int→List Int→Int→Int→AB7→Option Mg
def VH(R5:Tk)(t5 t6:Int)(AR:AAH)(AF CZ:Int)(Bf:AB7):Option Mg:=
 cond ((decide (t6<(Bf.length:Int))))
  (if(0:Int)≤t6∧t6<(Bf.length:Int)then(
  cond ((decide ((((Bf.getD (t6.toNat) ([],[],false,())).1).length:Int)>40)))
   (some ((false,()),()))
  ((Gr (AR,AF,()) ((Bf.getD (t6.toNat) ([],[],false,())).2.1)).bind fun u7=>
  cond (!u7.1.1)
   (some ((false,()),()))
  ((FQ (AR,AF,()) ((Bf.getD (t6.toNat) ([],[],false,())).2.1)).bind fun u9=>
  cond (u9.1.1 !=((Bf.getD (t6.toNat) ([],[],false,())).2.2.1))
   (some ((false,()),()))
  (cond (!((Bf.getD (t6.toNat) ([],[],false,())).2.2.1))
   (R5 (AZ (t5+1)) (AZ (t6+1)) AR AF CZ Bf)
  (R5 t5 (AZ (t6+1)) AR AF CZ Bf)))))else none)
 (some ((decide (t5≤6),()),()))
def LK:Nat→Tk
 |0=>fun _ _ _ _ _ _=>none
 |n+1=>VH (LK n)
def Vf(R5:Tk)(p0:ABL)(p1:ACI):Option Mg:=
 (GU (p0.1,p0.2.1,())).bind fun u1=>
 cond (!u1.1.1)
  (some ((false,()),()))
 ((CK p1.1 1 30).bind fun u2=>
 cond (!u2.1.1)
  (some ((false,()),()))
 (cond (decide ((p1.2.1.length:Int)>60))
  (some ((false,()),()))
 (R5 0 0 p0.1 p0.2.1 p1.1 p1.2.1)))
def Hh(p0:ABL)(p1:ACI):Option Mg:=Vf (LK Ae) p0 p1
abbrev KI:Type:=ABg×Unit
def HM(p0:Int):Option KI:=
 (Hd p0).bind fun u1=>
 cond (!u1.1.1)
  (some ((0,()),()))
 (some ((p0.tmod 4294967296,()),()))
abbrev qy:Type:=ABg×Unit
def Q8(p0:ABZ):Option qy:=
 cond ((p0.2.2.2.1.length:Int)==0)
  (some ((0,()),()))
 (let x2:Int:=(p0.2.2.2.1.length:Int)
 if(0:Int)≤AZ (x2-1)∧AZ (x2-1)<(p0.2.2.2.1.length:Int)then(
 (HM ((p0.2.2.2.1.getD ((AZ (x2-1)).toNat) (0,0,false,[],())).1)).bind fun u4=>
 some ((u4.1.1,()),()))else none)
abbrev My:Type:=ABT×Unit
abbrev SU:Type:=Int→List Int→Int→Int→Int→List Int→ABE→Bool→List AAH→Option My
abbrev Rp:Type:=Int→List Int→Int→Int→Int→List Int→ABE→Bool→List AAH→Option My
def SI(R4:SU)(R9:Rp)(t5:Int)(AR:AAH)(AF CZ Bf:Int)(EF:AAH)(Gy:ABE)(MI:Bool)(EE:List AAH):Option My:=
 cond ((decide (t5<(Gy.length:Int))))
  (if(0:Int)≤t5∧t5<(Gy.length:Int)then(
  (MH ((Gy.getD (t5.toNat) (0,0,false,[],())).1,(Gy.getD (t5.toNat) (0,0,false,[],())).2.1,(Gy.getD (t5.toNat) (0,0,false,[],())).2.2.1,(Gy.getD (t5.toNat) (0,0,false,[],())).2.2.2.1,())).bind fun u7=>
  cond (!u7.1.1)
   (some ((false,()),()))
  (if(0:Int)≤t5∧t5<(Gy.length:Int)then(
  (C0 ((Gy.getD (t5.toNat) (0,0,false,[],())).1)).bind fun u9=>
  cond (u9.1.1 !=Bf)
   (some ((false,()),()))
  (if(0:Int)≤t5∧t5<(Gy.length:Int)then(
  cond (decide (((Gy.getD (t5.toNat) (0,0,false,[],())).2.1)≥CZ))
   (some ((false,()),()))
  (R4 (AZ (t5+1)) AR AF CZ Bf EF Gy MI EE))else none))else none))else none)
 (R9 0 AR AF CZ Bf EF Gy MI EE)
def SM(R4:SU)(R9:Rp)(t6:Int)(AR:AAH)(AF CZ Bf:Int)(EF:AAH)(Gy:ABE)(MI:Bool)(EE:List AAH):Option My:=
 cond ((decide (t6<(EE.length:Int))))
  (if(0:Int)≤t6∧t6<(EE.length:Int)then(
  (Gr (AR,AF,()) (EE.getD (t6.toNat) [])).bind fun bp=>
  cond (!bp.1.1)
   (some ((false,()),()))
  (R9 (AZ (t6+1)) AR AF CZ Bf EF Gy MI EE))else none)
 (cond (!MI)
  (some ((((EE.length:Int)==0),()),()))
 ((Q8 (CZ,Bf,EF,Gy,MI,EE,())).bind fun VP=>
 some ((((EE.length:Int)==VP.1.1),()),())))
mutual
def JZ:Nat→SU
 |0=>fun _ _ _ _ _ _ _ _ _=>none
 |n+1=>SI (JZ n) (Hr n)
def Hr:Nat→Rp
 |0=>fun _ _ _ _ _ _ _ _ _=>none
 |n+1=>SM (JZ n) (Hr n)
end
def Yz(R4:SU)(R9:Rp)(p0:ABL)(p1:ABZ):Option My:=
 (GU (p0.1,p0.2.1,())).bind fun u1=>
 cond (!u1.1.1)
  (some ((false,()),()))
 ((CK p1.2.1 1 30).bind fun u2=>
 cond (!u2.1.1)
  (some ((false,()),()))
 ((CK p1.1 (AZ (p1.2.1+1)) 30).bind fun u3=>
 cond (!u3.1.1)
  (some ((false,()),()))
 ((Gr (p0.1,p0.2.1,()) p1.2.2.1).bind fun u4=>
 cond (!u4.1.1)
  (some ((false,()),()))
 ((XT p1.2.2.2.1).bind fun u5=>
 cond (!u5.1.1)
  (some ((false,()),()))
 (R4 0 p0.1 p0.2.1 p1.1 p1.2.1 p1.2.2.1 p1.2.2.2.1 p1.2.2.2.2.1 p1.2.2.2.2.2.1)))))
def Ix(p0:ABL)(p1:ABZ):Option My:=Yz (JZ Ae) (Hr Ae) p0 p1
abbrev I_:Type:=ABT×Unit
abbrev NQ:Type:=Int→Int→List Int→Int→AAh→List Int→AAo→Int→AA1→ABB→AAs→AAX→Bool→Option I_
abbrev ML:Type:=Int→Int→List Int→Int→AAh→List Int→AAo→Int→AA1→ABB→AAs→AAX→Bool→Option I_
def OS(R5:NQ)(R10:ML)(t3 t4:Int)(AR:AAH)(AF:Int)(Ai:AAh)(Bk:AAH)(B_:AAo)(AU:Int)(B9:AA1)(B4:ABB)(CH:AAs)(CT:AAX)(AK:Bool):Option I_:=
 cond ((decide (t4<(B9.length:Int))))
  (if(0:Int)≤t4∧t4<(B9.length:Int)then(
  (Hh (AR,AF,()) ((B9.getD (t4.toNat) (0,[],())).1,(B9.getD (t4.toNat) (0,[],())).2.1,())).bind fun u6=>
  cond (!u6.1.1)
   (some ((false,()),()))
  (if(0:Int)≤t4∧t4<(B9.length:Int)then(
  cond (decide (((B9.getD (t4.toNat) (0,[],())).1)>t3))
   (some ((false,()),()))
  (cond (decide (t4>0))
   (if(0:Int)≤AZ (t4-1)∧AZ (t4-1)<(B9.length:Int)then(
   if(0:Int)≤t4∧t4<(B9.length:Int)then(
   cond (decide (((B9.getD ((AZ (t4-1)).toNat) (0,[],())).1)≥((B9.getD (t4.toNat) (0,[],())).1)))
    (some ((false,()),()))
   (R5 t3 (AZ (t4+1)) AR AF Ai Bk B_ AU B9 B4 CH CT AK))else none)else none)
  (R5 t3 (AZ (t4+1)) AR AF Ai Bk B_ AU B9 B4 CH CT AK)))else none))else none)
 (R10 t3 0 AR AF Ai Bk B_ AU B9 B4 CH CT AK)
def NF(R5:NQ)(R10:ML)(t3 t5:Int)(AR:AAH)(AF:Int)(Ai:AAh)(Bk:AAH)(B_:AAo)(AU:Int)(B9:AA1)(B4:ABB)(CH:AAs)(CT:AAX)(AK:Bool):Option I_:=
 cond ((decide (t5<(B4.length:Int))))
  (if(0:Int)≤t5∧t5<(B4.length:Int)then(
  (Ix (AR,AF,()) ((B4.getD (t5.toNat) (0,0,[],[],false,[],())).1,(B4.getD (t5.toNat) (0,0,[],[],false,[],())).2.1,(B4.getD (t5.toNat) (0,0,[],[],false,[],())).2.2.1,(B4.getD (t5.toNat) (0,0,[],[],false,[],())).2.2.2.1,(B4.getD (t5.toNat) (0,0,[],[],false,[],())).2.2.2.2.1,(B4.getD (t5.toNat) (0,0,[],[],false,[],())).2.2.2.2.2.1,())).bind fun Nj=>
  cond (!Nj.1.1)
   (some ((false,()),()))
  (cond (((B4.getD (t5.toNat) (0,0,[],[],false,[],())).1) !=t3)
   (some ((false,()),()))
  ((JO (B_,AU,())).bind fun VP=>
  cond (((B4.getD (t5.toNat) (0,0,[],[],false,[],())).2.1) !=VP.1.1)
   (some ((false,()),()))
  (R10 t3 (AZ (t5+1)) AR AF Ai Bk B_ AU B9 B4 CH CT AK))))else none)
 (some ((true,()),()))
mutual
def Gg:Nat→NQ
 |0=>fun _ _ _ _ _ _ _ _ _ _ _ _ _=>none
 |n+1=>OS (Gg n) (Ex n)
def Ex:Nat→ML
 |0=>fun _ _ _ _ _ _ _ _ _ _ _ _ _=>none
 |n+1=>NF (Gg n) (Ex n)
end
def Ur(R5:NQ)(R10:ML)(p0:ABN):Option I_:=
 (MQ (p0.1,p0.2.1,()) (p0.2.2.2.2.1,p0.2.2.2.2.2.1,())).bind fun u2=>
 cond (!u2.1.1)
  (some ((false,()),()))
 (cond (decide ((p0.2.2.2.2.2.2.1.length:Int)>4))
  (some ((false,()),()))
 (cond (decide ((p0.2.2.2.2.2.2.2.1.length:Int)>1))
  (some ((false,()),()))
 (R5 (p0.2.2.2.2.1.length:Int) 0 p0.1 p0.2.1 p0.2.2.1 p0.2.2.2.1 p0.2.2.2.2.1 p0.2.2.2.2.2.1 p0.2.2.2.2.2.2.1 p0.2.2.2.2.2.2.2.1 p0.2.2.2.2.2.2.2.2.1 p0.2.2.2.2.2.2.2.2.2.1 p0.2.2.2.2.2.2.2.2.2.2.1)))
def RL(p0:ABN):Option I_:=Ur (Gg Ae) (Ex Ae) p0
abbrev mh:Type:=ABT×Unit
def M7(p0:ADF):Option mh:=
 (CK p0.1 1 31).bind fun u1=>
 cond (u1.1.1)
  ((CK p0.2.1 1 61).bind fun u2=>
  cond (u2.1.1)
   (some ((decide ((p0.2.2.1.length:Int)≤120),()),()))
  (some ((false,()),())))
 (some ((false,()),()))
abbrev SO:Type:=ABT×Unit
abbrev VA:Type:=Int→List Int→Int→AAh→List Int→AAo→Int→AA1→ABB→AAs→AAX→Bool→Option SO
def Qj(R4:VA)(t3:Int)(AR:AAH)(AF:Int)(Ai:AAh)(Bk:AAH)(B_:AAo)(AU:Int)(B9:AA1)(B4:ABB)(CH:AAs)(CT:AAX)(AK:Bool):Option SO:=
 cond ((decide (t3<(CT.length:Int))))
  (if(0:Int)≤t3∧t3<(CT.length:Int)then(
  (Hd ((CT.getD (t3.toNat) (0,[],false,())).1)).bind fun u4=>
  cond (!u4.1.1)
   (some ((false,()),()))
  ((C0 ((CT.getD (t3.toNat) (0,[],false,())).1)).bind fun u6=>
  cond ((decide (u6.1.1>(B_.length:Int))))
   (some ((false,()),()))
  (cond ((decide ((((CT.getD (t3.toNat) (0,[],false,())).2.1).length:Int)>40)))
   (some ((false,()),()))
  (cond (decide (t3>0))
   (if(0:Int)≤AZ (t3-1)∧AZ (t3-1)<(CT.length:Int)then(
   cond (decide (((CT.getD ((AZ (t3-1)).toNat) (0,[],false,())).1)≥((CT.getD (t3.toNat) (0,[],false,())).1)))
    (some ((false,()),()))
   (R4 (AZ (t3+1)) AR AF Ai Bk B_ AU B9 B4 CH CT AK))else none)
  (R4 (AZ (t3+1)) AR AF Ai Bk B_ AU B9 B4 CH CT AK)))))else none)
 (some ((true,()),()))
def J6:Nat→VA
 |0=>fun _ _ _ _ _ _ _ _ _ _ _ _=>none
 |n+1=>Qj (J6 n)
def Xb(R4:VA)(p0:ABN):Option SO:=
 cond (decide ((p0.2.2.2.2.2.2.2.2.2.1.length:Int)>120))
  (some ((false,()),()))
 (R4 0 p0.1 p0.2.1 p0.2.2.1 p0.2.2.2.1 p0.2.2.2.2.1 p0.2.2.2.2.2.1 p0.2.2.2.2.2.2.1 p0.2.2.2.2.2.2.2.1 p0.2.2.2.2.2.2.2.2.1 p0.2.2.2.2.2.2.2.2.2.1 p0.2.2.2.2.2.2.2.2.2.2.1)
def Vu(p0:ABN):Option SO:=Xb (J6 Ae) p0
abbrev ph:Type:=ABT×Unit
def Vn(p0:ABN):Option ph:=
 (T_ (p0.1,p0.2.1,p0.2.2.1,p0.2.2.2.1,p0.2.2.2.2.1,p0.2.2.2.2.2.1,p0.2.2.2.2.2.2.1,p0.2.2.2.2.2.2.2.1,p0.2.2.2.2.2.2.2.2.1,p0.2.2.2.2.2.2.2.2.2.1,p0.2.2.2.2.2.2.2.2.2.2.1,())).bind fun u1=>
 cond (u1.1.1)
  ((RL (p0.1,p0.2.1,p0.2.2.1,p0.2.2.2.1,p0.2.2.2.2.1,p0.2.2.2.2.2.1,p0.2.2.2.2.2.2.1,p0.2.2.2.2.2.2.2.1,p0.2.2.2.2.2.2.2.2.1,p0.2.2.2.2.2.2.2.2.2.1,p0.2.2.2.2.2.2.2.2.2.2.1,())).bind fun u2=>
  cond (u2.1.1)
   (cond ((p0.2.2.2.2.2.2.2.2.1.length:Int)==2)
    (if(0:Int)≤(0:Int)∧(0:Int)<(p0.2.2.2.2.2.2.2.2.1.length:Int)then(
    (M7 ((p0.2.2.2.2.2.2.2.2.1.getD 0 (0,0,[],())).1,(p0.2.2.2.2.2.2.2.2.1.getD 0 (0,0,[],())).2.1,(p0.2.2.2.2.2.2.2.2.1.getD 0 (0,0,[],())).2.2.1,())).bind fun u4=>
    cond (u4.1.1)
     (if(0:Int)≤(1:Int)∧(1:Int)<(p0.2.2.2.2.2.2.2.2.1.length:Int)then(
     (M7 ((p0.2.2.2.2.2.2.2.2.1.getD 1 (0,0,[],())).1,(p0.2.2.2.2.2.2.2.2.1.getD 1 (0,0,[],())).2.1,(p0.2.2.2.2.2.2.2.2.1.getD 1 (0,0,[],())).2.2.1,())).bind fun u5=>
     cond (u5.1.1)
      ((Vu (p0.1,p0.2.1,p0.2.2.1,p0.2.2.2.1,p0.2.2.2.2.1,p0.2.2.2.2.2.1,p0.2.2.2.2.2.2.1,p0.2.2.2.2.2.2.2.1,p0.2.2.2.2.2.2.2.2.1,p0.2.2.2.2.2.2.2.2.2.1,p0.2.2.2.2.2.2.2.2.2.2.1,())).bind fun u6=>
      some ((u6.1.1,()),()))
     (some ((false,()),())))else none)
    (some ((false,()),())))else none)
   (some ((false,()),())))
  (some ((false,()),())))
 (some ((false,()),()))
abbrev mz:Type:=AFs×Unit
def ZO(p0:ACh):Option mz:=
 cond (p0.1==1)
  (some (((p0.1,p0.2.1,0,0,[],()),()),()))
 (cond (p0.1==4)
  (some (((p0.1,p0.2.1,0,0,[],()),()),()))
 (cond (p0.1==6)
  (some (((p0.1,p0.2.1,0,0,[],()),()),()))
 (cond (p0.1==7)
  (some (((p0.1,p0.2.1,0,0,[],()),()),()))
 (cond (p0.1==9)
  (some (((p0.1,p0.2.1,0,0,[],()),()),()))
 (cond (p0.1==13)
  (some (((p0.1,p0.2.1,0,0,[],()),()),()))
 (cond (p0.1==15)
  (some (((p0.1,p0.2.1,0,0,[],()),()),()))
 (cond (p0.1==16)
  (some (((p0.1,p0.2.1,0,0,[],()),()),()))
 (cond (p0.1==2)
  (some (((p0.1,p0.2.1,0,0,p0.2.2.2.2.1,()),()),()))
 (cond (p0.1==3)
  (some (((p0.1,p0.2.1,p0.2.2.1,p0.2.2.2.1,[],()),()),()))
 (cond (p0.1==5)
  (some (((p0.1,p0.2.1,p0.2.2.1,0,[],()),()),()))
 (cond (p0.1==14)
  (some (((p0.1,p0.2.1,p0.2.2.1,0,[],()),()),()))
 (cond (p0.1==11)
  (some (((p0.1,0,p0.2.2.1,p0.2.2.2.1,[],()),()),()))
 (some (((p0.1,0,0,0,[],()),()),()))))))))))))))
abbrev rR:Type:=ABT×Unit
def Yx(p0:ACh):Option rR:=
 (CK p0.1 1 16).bind fun u1=>
 cond (u1.1.1)
  ((ZO (p0.1,p0.2.1,p0.2.2.1,p0.2.2.2.1,p0.2.2.2.2.1,())).bind fun u2=>
  cond (((p0.1==u2.1.1.1)&&((p0.2.1==u2.1.1.2.1)&&((p0.2.2.1==u2.1.1.2.2.1)&&((p0.2.2.2.1==u2.1.1.2.2.2.1)&&((p0.2.2.2.2.1==u2.1.1.2.2.2.2.1)&&true))))))
   (some ((decide ((p0.2.2.2.2.1.length:Int)≤40),()),()))
  (some ((false,()),())))
 (some ((false,()),()))
abbrev FZ:Type:=AEx×ADz
abbrev Wb:Type:=Int→AAo→Int→Int→AAo→Int→AAo→Option FZ
def Yg(R3:Wb)(t4:Int)(AR:AAo)(AF Bf:Int)(b2:AAo)(cw:Int)(b4:AAo):Option FZ:=
 cond ((decide (t4<(AR.length:Int))))
  (if(0:Int)≤t4∧t4<(AR.length:Int)then(
  if 0+((AR.getD (t4.toNat) ([],false,0,())).1).length≤Dw then(
  if b4.length+1≤Dw then(
  R3 (AZ (t4+1)) AR AF Bf b2 cw (b4++[(((AR.getD (t4.toNat) ([],false,0,())).1),(AR.getD (t4.toNat) ([],false,0,())).2.1,(AR.getD (t4.toNat) ([],false,0,())).2.2.1,())]))else none)else none)else none)
 (some ((((),cw,()),()),(b4,())))
def Nq:Nat→Wb
 |0=>fun _ _ _ _ _ _ _=>none
 |n+1=>Yg (Nq n)
def X6(R3:Wb)(p0:ABk):Option FZ:=
 R3 0 p0.1 p0.2.1 0 [] p0.2.1 []
def GH(p0:ABk):Option FZ:=X6 (Nq Ae) p0
abbrev Ki:Type:=AGP×ADM
def Er(p0:ACc):Option Ki:=
 if 0+p0.1.length≤Dw then(
 if 0+p0.2.1.length≤Dw then(
 some ((((),(),p0.2.2.1,()),()),(p0.1,p0.2.1,())))else none)else none
abbrev Fe:Type:=AGQ×AD7
abbrev Xl:Type:=Int→Int→AB7→Int→AB7→Int→AB7→Option Fe
def YX(R3:Xl)(t4 AR:Int)(AF:AB7)(CZ:Int)(b2:AB7)(jk:Int)(b4:AB7):Option Fe:=
 cond ((decide (t4<(AF.length:Int))))
  (if(0:Int)≤t4∧t4<(AF.length:Int)then(
  if 0+((AF.getD (t4.toNat) ([],[],false,())).2.1).length≤Dw then(
  if b4.length+1≤Dw then(
  R3 (AZ (t4+1)) AR AF CZ b2 jk (b4++[((AF.getD (t4.toNat) ([],[],false,())).1,((AF.getD (t4.toNat) ([],[],false,())).2.1),(AF.getD (t4.toNat) ([],[],false,())).2.2.1,())]))else none)else none)else none)
 (some (((jk,(),()),()),(b4,())))
def OQ:Nat→Xl
 |0=>fun _ _ _ _ _ _ _=>none
 |n+1=>YX (OQ n)
def Yf(R3:Xl)(p0:ACI):Option Fe:=
 R3 0 p0.1 p0.2.1 0 [] p0.1 []
def FU(p0:ACI):Option Fe:=Yf (OQ Ae) p0
abbrev GZ:Type:=AE1×ADN
abbrev Xk:Type:=Int→Int→Int→List Int→ABE→Bool→List AAH→Int→Int→Bool→List Int→ABE→List AAH→Int→Int→Bool→List Int→ABE→List AAH→Option GZ
def Rn(R3:Xk)(t4 AR AF:Int)(Ai:AAH)(Bk:ABE)(B_:Bool)(AU:List AAH)(CZ Bf:Int)(MI:Bool)(b2:AAH)(b3:ABE)(b4:List AAH)(AEC AD8:Int)(AE2:Bool)(b6:AAH)(b7:ABE)(b8:List AAH):Option GZ:=
 cond ((decide (t4<(AU.length:Int))))
  (if(0:Int)≤t4∧t4<(AU.length:Int)then(
  if 0+(AU.getD (t4.toNat) []).length≤Dw then(
  if b8.length+1≤Dw then(
  R3 (AZ (t4+1)) AR AF Ai Bk B_ AU CZ Bf MI b2 b3 b4 AEC AD8 AE2 b6 b7 (b8++[(AU.getD (t4.toNat) [])]))else none)else none)else none)
 (some (((AEC,AD8,(),(),AE2,(),()),()),(b6,b7,b8,())))
def Hz:Nat→Xk
 |0=>fun _ _ _ _ _ _ _ _ _ _ _ _ _ _ _ _ _ _ _=>none
 |n+1=>Rn (Hz n)
def NX(R3:Xk)(p0:ABZ):Option GZ:=
 if 0+p0.2.2.1.length≤Dw then(
 if 0+p0.2.2.2.1.length≤Dw then(
 R3 0 p0.1 p0.2.1 p0.2.2.1 p0.2.2.2.1 p0.2.2.2.2.1 p0.2.2.2.2.2.1 0 0 false [] [] [] p0.1 p0.2.1 p0.2.2.2.2.1 p0.2.2.1 p0.2.2.2.1 [])else none)else none
def ET(p0:ABZ):Option GZ:=NX (Hz Ae) p0
abbrev JL:Type:=AFi×AEs
def CR(p0:ADF):Option JL:=
 if 0+p0.2.2.1.length≤Dw then(
 some (((p0.1,p0.2.1,(),()),()),(p0.2.2.1,())))else none
abbrev Fa:Type:=AFl×ADK
abbrev J8:Type:=Int→List Int→Int→AAh→List Int→AAo→Int→AA1→ABB→AAs→AAX→Bool→Int→Int→Bool→List Int→AAh→List Int→AAo→AA1→ABB→AAs→AAX→Int→Int→Bool→List Int→AAh→List Int→AAo→AA1→ABB→AAs→AAX→Option Fa
abbrev J2:Type:=Int→List Int→Int→AAh→List Int→AAo→Int→AA1→ABB→AAs→AAX→Bool→Int→Int→Bool→List Int→AAh→List Int→AAo→AA1→ABB→AAs→AAX→Int→Int→Bool→List Int→AAh→List Int→AAo→AA1→ABB→AAs→AAX→Option Fa
abbrev I1:Type:=Int→List Int→Int→AAh→List Int→AAo→Int→AA1→ABB→AAs→AAX→Bool→Int→Int→Bool→List Int→AAh→List Int→AAo→AA1→ABB→AAs→AAX→Int→Int→Bool→List Int→AAh→List Int→AAo→AA1→ABB→AAs→AAX→Option Fa
abbrev I0:Type:=Int→List Int→Int→AAh→List Int→AAo→Int→AA1→ABB→AAs→AAX→Bool→Int→Int→Bool→List Int→AAh→List Int→AAo→AA1→ABB→AAs→AAX→Int→Int→Bool→List Int→AAh→List Int→AAo→AA1→ABB→AAs→AAX→Option Fa
def QV(R3:J8)(R7:J2)(yG:I1)(ir:I0)(t4:Int)(AR:AAH)(AF:Int)(Ai:AAh)(Bk:AAH)(B_:AAo)(AU:Int)(B9:AA1)(B4:ABB)(CH:AAs)(CT:AAX)(AK:Bool)(Bf EE:Int)(FB:Bool)(b2:AAH)(b3:AAh)(b4:AAH)(b5:AAo)(b6:AA1)(b7:ABB)(b8:AAs)(b9:AAX)(Dr Eh:Int)(C4:Bool)(GO:AAH)(D5:AAh)(G6:AAH)(G7:AAo)(EV:AA1)(FA:ABB)(Fl:AAs)(Uy:AAX):Option Fa:=
 cond ((decide (t4<(Ai.length:Int))))
  (if(0:Int)≤t4∧t4<(Ai.length:Int)then(
  (Er ((Ai.getD (t4.toNat) ([],[],0,())).1,(Ai.getD (t4.toNat) ([],[],0,())).2.1,(Ai.getD (t4.toNat) ([],[],0,())).2.2.1,())).bind fun zR=>
  if D5.length+1≤Dw then(
  R3 (AZ (t4+1)) AR AF Ai Bk B_ AU B9 B4 CH CT AK Bf EE FB b2 b3 b4 b5 b6 b7 b8 b9 Dr Eh C4 GO (D5++[(zR.2.1,zR.2.2.1,zR.1.1.2.2.1,())]) G6 G7 EV FA Fl Uy)else none)else none)
 (R7 0 AR AF Ai Bk B_ AU B9 B4 CH CT AK Bf EE FB b2 b3 b4 b5 b6 b7 b8 b9 Dr Eh C4 GO D5 G6 G7 EV FA Fl Uy)
def QT(R3:J8)(R7:J2)(yG:I1)(ir:I0)(t5:Int)(AR:AAH)(AF:Int)(Ai:AAh)(Bk:AAH)(B_:AAo)(AU:Int)(B9:AA1)(B4:ABB)(CH:AAs)(CT:AAX)(AK:Bool)(Bf EE:Int)(FB:Bool)(b2:AAH)(b3:AAh)(b4:AAH)(b5:AAo)(b6:AA1)(b7:ABB)(b8:AAs)(b9:AAX)(Dr Eh:Int)(C4:Bool)(GO:AAH)(D5:AAh)(G6:AAH)(G7:AAo)(EV:AA1)(FA:ABB)(Fl:AAs)(Uy:AAX):Option Fa:=
 cond ((decide (t5<(B9.length:Int))))
  (if(0:Int)≤t5∧t5<(B9.length:Int)then(
  (FU ((B9.getD (t5.toNat) (0,[],())).1,(B9.getD (t5.toNat) (0,[],())).2.1,())).bind fun AFO=>
  if EV.length+1≤Dw then(
  R7 (AZ (t5+1)) AR AF Ai Bk B_ AU B9 B4 CH CT AK Bf EE FB b2 b3 b4 b5 b6 b7 b8 b9 Dr Eh C4 GO D5 G6 G7 (EV++[(AFO.1.1.1,AFO.2.1,())]) FA Fl Uy)else none)else none)
 (yG 0 AR AF Ai Bk B_ AU B9 B4 CH CT AK Bf EE FB b2 b3 b4 b5 b6 b7 b8 b9 Dr Eh C4 GO D5 G6 G7 EV FA Fl Uy)
def PT(R3:J8)(R7:J2)(yG:I1)(ir:I0)(t6:Int)(AR:AAH)(AF:Int)(Ai:AAh)(Bk:AAH)(B_:AAo)(AU:Int)(B9:AA1)(B4:ABB)(CH:AAs)(CT:AAX)(AK:Bool)(Bf EE:Int)(FB:Bool)(b2:AAH)(b3:AAh)(b4:AAH)(b5:AAo)(b6:AA1)(b7:ABB)(b8:AAs)(b9:AAX)(Dr Eh:Int)(C4:Bool)(GO:AAH)(D5:AAh)(G6:AAH)(G7:AAo)(EV:AA1)(FA:ABB)(Fl:AAs)(Uy:AAX):Option Fa:=
 cond ((decide (t6<(B4.length:Int))))
  (if(0:Int)≤t6∧t6<(B4.length:Int)then(
  (ET ((B4.getD (t6.toNat) (0,0,[],[],false,[],())).1,(B4.getD (t6.toNat) (0,0,[],[],false,[],())).2.1,(B4.getD (t6.toNat) (0,0,[],[],false,[],())).2.2.1,(B4.getD (t6.toNat) (0,0,[],[],false,[],())).2.2.2.1,(B4.getD (t6.toNat) (0,0,[],[],false,[],())).2.2.2.2.1,(B4.getD (t6.toNat) (0,0,[],[],false,[],())).2.2.2.2.2.1,())).bind fun lJ=>
  if FA.length+1≤Dw then(
  yG (AZ (t6+1)) AR AF Ai Bk B_ AU B9 B4 CH CT AK Bf EE FB b2 b3 b4 b5 b6 b7 b8 b9 Dr Eh C4 GO D5 G6 G7 EV (FA++[(lJ.1.1.1,lJ.1.1.2.1,lJ.2.1,lJ.2.2.1,lJ.1.1.2.2.2.2.1,lJ.2.2.2.1,())]) Fl Uy)else none)else none)
 (ir 0 AR AF Ai Bk B_ AU B9 B4 CH CT AK Bf EE FB b2 b3 b4 b5 b6 b7 b8 b9 Dr Eh C4 GO D5 G6 G7 EV FA Fl Uy)
def PX(R3:J8)(R7:J2)(yG:I1)(ir:I0)(t7:Int)(AR:AAH)(AF:Int)(Ai:AAh)(Bk:AAH)(B_:AAo)(AU:Int)(B9:AA1)(B4:ABB)(CH:AAs)(CT:AAX)(AK:Bool)(Bf EE:Int)(FB:Bool)(b2:AAH)(b3:AAh)(b4:AAH)(b5:AAo)(b6:AA1)(b7:ABB)(b8:AAs)(b9:AAX)(Dr Eh:Int)(C4:Bool)(GO:AAH)(D5:AAh)(G6:AAH)(G7:AAo)(EV:AA1)(FA:ABB)(Fl:AAs)(Uy:AAX):Option Fa:=
 cond ((decide (t7<(CH.length:Int))))
  (if(0:Int)≤t7∧t7<(CH.length:Int)then(
  (CR ((CH.getD (t7.toNat) (0,0,[],())).1,(CH.getD (t7.toNat) (0,0,[],())).2.1,(CH.getD (t7.toNat) (0,0,[],())).2.2.1,())).bind fun zE=>
  if Fl.length+1≤Dw then(
  ir (AZ (t7+1)) AR AF Ai Bk B_ AU B9 B4 CH CT AK Bf EE FB b2 b3 b4 b5 b6 b7 b8 b9 Dr Eh C4 GO D5 G6 G7 EV FA (Fl++[(zE.1.1.1,zE.1.1.2.1,zE.2.1,())]) Uy)else none)else none)
 (some ((((),Dr,(),(),(),Eh,(),(),(),(),C4,()),()),(GO,D5,G6,G7,EV,FA,Fl,Uy,())))
mutual
def Cc:Nat→J8
 |0=>fun _ _ _ _ _ _ _ _ _ _ _ _ _ _ _ _ _ _ _ _ _ _ _ _ _ _ _ _ _ _ _ _ _ _=>none
 |n+1=>QV (Cc n) (Cq n) (CY n) (CW n)
def Cq:Nat→J2
 |0=>fun _ _ _ _ _ _ _ _ _ _ _ _ _ _ _ _ _ _ _ _ _ _ _ _ _ _ _ _ _ _ _ _ _ _=>none
 |n+1=>QT (Cc n) (Cq n) (CY n) (CW n)
def CY:Nat→I1
 |0=>fun _ _ _ _ _ _ _ _ _ _ _ _ _ _ _ _ _ _ _ _ _ _ _ _ _ _ _ _ _ _ _ _ _ _=>none
 |n+1=>PT (Cc n) (Cq n) (CY n) (CW n)
def CW:Nat→I0
 |0=>fun _ _ _ _ _ _ _ _ _ _ _ _ _ _ _ _ _ _ _ _ _ _ _ _ _ _ _ _ _ _ _ _ _ _=>none
 |n+1=>PX (Cc n) (Cq n) (CY n) (CW n)
end
def QX(R3:J8)(R7:J2)(yG:I1)(ir:I0)(p0:ABN):Option Fa:=
 if 0+p0.1.length≤Dw then(
 if 0+p0.2.2.2.1.length≤Dw then(
 (GH (p0.2.2.2.2.1,p0.2.2.2.2.2.1,())).bind fun u2=>
 if 0+p0.2.2.2.2.2.2.2.2.2.1.length≤Dw then(
 R3 0 p0.1 p0.2.1 p0.2.2.1 p0.2.2.2.1 p0.2.2.2.2.1 p0.2.2.2.2.2.1 p0.2.2.2.2.2.2.1 p0.2.2.2.2.2.2.2.1 p0.2.2.2.2.2.2.2.2.1 p0.2.2.2.2.2.2.2.2.2.1 p0.2.2.2.2.2.2.2.2.2.2.1 0 0 false [] [] [] [] [] [] [] [] p0.2.1 u2.1.1.2.1 p0.2.2.2.2.2.2.2.2.2.2.1 p0.1 [] p0.2.2.2.1 u2.2.1 [] [] [] p0.2.2.2.2.2.2.2.2.2.1)else none)else none)else none
def O7(p0:ABN):Option Fa:=QX (Cc Ae) (Cq Ae) (CY Ae) (CW Ae) p0
abbrev Oz:Type:=ACL×ACr
abbrev Rs:Type:=Int→Int→List Int→Option Oz
def Ob(R3:Rs)(t0 t4:Int)(b0:AAH):Option Oz:=
 cond (decide (t4<8))
  ((CK t0 0 255).bind fun u1=>
  cond (u1.1.1)
   (if t4<0 then none else(
   cond (((cZ .i64 (t0.fdiv (2^(min t4.toNat 64))) 1)==1))
    (if b0.length+1≤Dw then(
    R3 t0 (AZ (t4+1)) (b0++[t4]))else none)
   (R3 t0 (AZ (t4+1)) b0)))
  (some (((),()),(b0,()))))
 (some (((),()),(b0,())))
def IF:Nat→Rs
 |0=>fun _ _ _=>none
 |n+1=>Ob (IF n)
def UM(R3:Rs)(p0:Int):Option Oz:=
 R3 p0 0 []
def Og(p0:Int):Option Oz:=UM (IF Ae) p0
abbrev qJ:Type:=(AGY×Unit)×ADz
def PA(p0:ABL)(p1:ABk)(p2:AAH):Option qJ:=
 (MQ (p0.1,p0.2.1,()) (p1.1,p1.2.1,())).bind fun u1=>
 cond (!u1.1.1)
  (some (((((),0,()),0,false,()),()),([],())))
 ((GH (p1.1,p1.2.1,())).bind fun u2=>
 (FQ (p0.1,p0.2.1,()) p2).bind fun u3=>
 cond (!u3.1.1)
  (some (((((),u2.1.1.2.1,()),0,false,()),()),(u2.2.1,())))
 (cond (((p1.1.length:Int)==30))
  (some (((((),u2.1.1.2.1,()),0,false,()),()),(u2.2.1,())))
 (if 0+p2.length≤Dw then(
 if u2.2.1.length+1≤Dw then(
 let x5:AAo:=u2.2.1++[(p2,false,0,())]
 some (((((),u2.1.1.2.1,()),(x5.length:Int),true,()),()),(x5,())))else none)else none)))
abbrev dA:Type:=ADJ×(List Int×AAh×List Int×Unit×Unit×Unit×AAs×AAX×AAo×AA1×ABB×Unit)
def V1(CP CS:Int)(BT:Bool)(p1:ACh)(b0:AAH)(b1:AAh)(b2:AAH)(b3:AAo)(b4:AA1)(b5:ABB)(b6:AAs)(b7:AAX):Option dA:=
 cond (((b4.length:Int)==4))
  (some (((((),CP,(),(),(),CS,(),(),(),(),BT,()),4,()),()),(b0,b1,b2,(),(),(),b6,b7,b3,b4,b5,())))
 ((Og p1.2.1).bind fun u2=>
 (PA (b0,CP,()) (b3,CS,()) u2.2.1).bind fun u3=>
 cond (!u3.1.1.2.2.1)
  (some (((((),CP,(),(),(),CS,(),(),(),(),BT,()),4,()),()),(b0,b1,b2,(),(),(),b6,b7,b3,b4,b5,())))
 (if b4.length+1≤Dw then(
 some (((((),CP,(),(),(),u3.1.1.1.2.1,(),(),(),(),BT,()),0,()),()),(b0,b1,b2,(),(),(),b6,b7,u3.2.1,(b4++[(u3.1.1.2.1,[],())]),[],())))else none))
abbrev lN:Type:=ABT×Unit
def K_(p0:ABN)(p1:Int):Option lN:=
 (CK p1 0 (AZ ((p0.2.2.2.2.2.2.1.length:Int)-1))).bind fun u2=>
 some ((u2.1.1,()),())
abbrev lK:Type:=(AGZ×Unit)×AD7
def Lb(p0:ABL)(p1:ACI)(p2:ACD):Option lK:=
 (Hh (p0.1,p0.2.1,()) (p1.1,p1.2.1,())).bind fun u1=>
 cond (!u1.1.1)
  (some ((((0,(),()),0,false,()),()),([],())))
 ((FU (p1.1,p1.2.1,())).bind fun u2=>
 if u2.2.1.length+1≤Dw then(
 let x3:AB7:=u2.2.1++[(p2,[],false,())]
 (Hh (p0.1,p0.2.1,()) (u2.1.1.1,x3,())).bind fun u4=>
 cond (!u4.1.1)
  ((FU (p1.1,p1.2.1,())).bind fun u5=>
  some ((((u5.1.1.1,(),()),0,false,()),()),(u5.2.1,())))
 (some ((((u2.1.1.1,(),()),(x3.length:Int),true,()),()),(x3,()))))else none)
abbrev Hk:Type:=ABg×Unit
def Ec(p0 p1:Int):Option Hk:=
 some ((AZ ((AZ (4294967296*p0))+p1),()),())
abbrev Kh:Type:=ADJ×(List Int×AAh×List Int×AAo×AA1×ABB×AAs×Unit×AAX×Unit)
abbrev SE:Type:=Int→List Int→AAh→List Int→AAo→AA1→ABB→AAs→AAX→Int→Int→Bool→Int→Int→Bool→List Int→AAh→List Int→AAo→AA1→ABB→AAs→AAX→Int→List UInt8→Bool→Option Kh
abbrev QA:Type:=Bool→Int→List Int→AAh→List Int→AAo→AA1→ABB→AAs→AAX→Int→Int→Bool→Int→Int→Bool→List Int→AAh→List Int→AAo→AA1→ABB→AAs→AAX→Int→List UInt8→Bool→AAX→Option Kh
def Yl(R9:SE)(R16:QA)(t10:Int)(b0:AAH)(b1:AAh)(b2:AAH)(b3:AAo)(b4:AA1)(b5:ABB)(b6:AAs)(b7:AAX)(Dg Dv:Int)(CN:Bool)(EM GA:Int)(DE:Bool)(MG:AAH)(GO:AAh)(D5:AAH)(G6:AAo)(G7:AA1)(EV:ABB)(FA:AAs)(Fl:AAX)(Ch:Int)(C8:ACD)(Cl:Bool):Option Kh:=
 cond ((decide (t10<(b7.length:Int))))
  (if(0:Int)≤t10∧t10<(b7.length:Int)then(
  cond (((b7.getD (t10.toNat) (0,[],false,())).1)==Ch)
   (some (((((),Dg,(),(),(),Dv,(),(),(),(),CN,()),4,()),()),(b0,b1,b2,b3,b4,b5,b6,(),b7,())))
  (R9 (AZ (t10+1)) b0 b1 b2 b3 b4 b5 b6 b7 Dg Dv CN EM GA DE MG GO D5 G6 G7 EV FA Fl Ch C8 Cl))else none)
 (R16 false 0 b0 b1 b2 b3 b4 b5 b6 b7 Dg Dv CN EM GA DE MG GO D5 G6 G7 EV FA Fl Ch C8 Cl [])
def XZ(R9:SE)(R16:QA)(t12:Bool)(t13:Int)(b0:AAH)(b1:AAh)(b2:AAH)(b3:AAo)(b4:AA1)(b5:ABB)(b6:AAs)(b7:AAX)(Dg Dv:Int)(CN:Bool)(EM GA:Int)(DE:Bool)(MG:AAH)(GO:AAh)(D5:AAH)(G6:AAo)(G7:AA1)(EV:ABB)(FA:AAs)(Fl:AAX)(Ch:Int)(C8:ACD)(Cl:Bool)(vK:AAX):Option Kh:=
 cond ((decide (t13<(b7.length:Int))))
  (cond (!t12)
   (if(0:Int)≤t13∧t13<(b7.length:Int)then(
   cond (decide (((b7.getD (t13.toNat) (0,[],false,())).1)>Ch))
    (if vK.length+1≤Dw then(
    let x18:AAX:=vK++[(Ch,C8,Cl,())]
    if(0:Int)≤t13∧t13<(b7.length:Int)then(
    if x18.length+1≤Dw then(
    R16 true (AZ (t13+1)) b0 b1 b2 b3 b4 b5 b6 b7 Dg Dv CN EM GA DE MG GO D5 G6 G7 EV FA Fl Ch C8 Cl (x18++[((b7.getD (t13.toNat) (0,[],false,())).1,(b7.getD (t13.toNat) (0,[],false,())).2.1,(b7.getD (t13.toNat) (0,[],false,())).2.2.1,())]))else none)else none)else none)
   (if(0:Int)≤t13∧t13<(b7.length:Int)then(
   if vK.length+1≤Dw then(
   R16 t12 (AZ (t13+1)) b0 b1 b2 b3 b4 b5 b6 b7 Dg Dv CN EM GA DE MG GO D5 G6 G7 EV FA Fl Ch C8 Cl (vK++[((b7.getD (t13.toNat) (0,[],false,())).1,(b7.getD (t13.toNat) (0,[],false,())).2.1,(b7.getD (t13.toNat) (0,[],false,())).2.2.1,())]))else none)else none))else none)
  (if(0:Int)≤t13∧t13<(b7.length:Int)then(
  if vK.length+1≤Dw then(
  R16 t12 (AZ (t13+1)) b0 b1 b2 b3 b4 b5 b6 b7 Dg Dv CN EM GA DE MG GO D5 G6 G7 EV FA Fl Ch C8 Cl (vK++[((b7.getD (t13.toNat) (0,[],false,())).1,(b7.getD (t13.toNat) (0,[],false,())).2.1,(b7.getD (t13.toNat) (0,[],false,())).2.2.1,())]))else none)else none))
 (cond (!t12)
  (if vK.length+1≤Dw then(
  some (((((),Dg,(),(),(),Dv,(),(),(),(),CN,()),0,()),()),(b0,b1,b2,b3,b4,b5,b6,(),(vK++[(Ch,C8,Cl,())]),())))else none)
 (some (((((),Dg,(),(),(),Dv,(),(),(),(),CN,()),0,()),()),(b0,b1,b2,b3,b4,b5,b6,(),vK,()))))
mutual
def LZ:Nat→SE
 |0=>fun _ _ _ _ _ _ _ _ _ _ _ _ _ _ _ _ _ _ _ _ _ _ _ _ _ _=>none
 |n+1=>Yl (LZ n) (Jz n)
def Jz:Nat→QA
 |0=>fun _ _ _ _ _ _ _ _ _ _ _ _ _ _ _ _ _ _ _ _ _ _ _ _ _ _ _ _=>none
 |n+1=>XZ (LZ n) (Jz n)
end
def YK(R9:SE)(R16:QA)(CP CS:Int)(BT:Bool)(p1:ACh)(b0:AAH)(b1:AAh)(b2:AAH)(b3:AAo)(b4:AA1)(b5:ABB)(b6:AAs)(b7:AAX):Option Kh:=
 (K_ (b0,CP,b1,b2,b3,CS,b4,b5,b6,b7,BT,()) p1.2.1).bind fun u1=>
 cond (!u1.1.1)
  (some (((((),CP,(),(),(),CS,(),(),(),(),BT,()),2,()),()),(b0,b1,b2,b3,b4,b5,b6,(),b7,())))
 (if(0:Int)≤p1.2.1∧p1.2.1<(b4.length:Int)then(
 (Lb (b0,CP,()) ((b4.getD (p1.2.1.toNat) (0,[],())).1,(b4.getD (p1.2.1.toNat) (0,[],())).2.1,()) p1.2.2.2.2.1).bind fun u2=>
 cond (!u2.1.1.2.2.1)
  (some (((((),CP,(),(),(),CS,(),(),(),(),BT,()),4,()),()),(b0,b1,b2,b3,b4,b5,b6,(),b7,())))
 (cond (((b7.length:Int)==120))
  (some (((((),CP,(),(),(),CS,(),(),(),(),BT,()),4,()),()),(b0,b1,b2,b3,b4,b5,b6,(),b7,())))
 (if(0:Int)≤p1.2.1∧p1.2.1<(b4.length:Int)then(
 (Ec u2.1.1.1.1 u2.1.1.2.1).bind fun u5=>
 R9 0 b0 b1 b2 b3 (b4.set (p1.2.1.toNat) (u2.1.1.1.1,u2.2.1,())) b5 b6 b7 CP CS BT 0 0 false [] [] [] [] [] [] [] [] u5.1.1 p1.2.2.2.2.1 false)else none)))else none)
def YC(CP CS:Int)(BT:Bool)(p1:ACh)(b0:AAH)(b1:AAh)(b2:AAH)(b3:AAo)(b4:AA1)(b5:ABB)(b6:AAs)(b7:AAX):Option Kh:=YK (LZ Ae) (Jz Ae) CP CS BT p1 b0 b1 b2 b3 b4 b5 b6 b7
abbrev pt:Type:=ABg×Unit
def He(p0:ABN)(p1:Int):Option pt:=
 (CK p1 0 (AZ ((p0.2.2.1.length:Int)-1))).bind fun u2=>
 cond (!u2.1.1)
  (some ((2,()),()))
 ((DK p0.2.2.2.1 p1).bind fun u3=>
 cond (u3.1.1)
  (some ((3,()),()))
 (some ((0,()),())))
abbrev qm:Type:=ABT×Unit
def WN(p0:ACc)(p1:ADG):Option qm:=
 cond (p1.2.1==0)
  ((C0 p1.1).bind fun u1=>
  some (((decide (u1.1.1>p0.2.2.1)),()),()))
 (some (((decide (p1.2.1>p0.2.2.1)),()),()))
abbrev mW:Type:=ADO×ADM
def Pp(p0:ACc)(p1:ADG):Option mW:=
 (Ge (p0.1,p0.2.1,p0.2.2.1,())).bind fun u1=>
 cond (!u1.1.1)
  (some (((((),(),0,()),false,()),()),([],[],())))
 ((Er (p0.1,p0.2.1,p0.2.2.1,())).bind fun u2=>
 (MH (p1.1,p1.2.1,p1.2.2.1,p1.2.2.2.1,())).bind fun u3=>
 cond (!u3.1.1)
  (some (((((),(),u2.1.1.2.2.1,()),false,()),()),(u2.2.1,u2.2.2.1,())))
 ((WN (p0.1,p0.2.1,p0.2.2.1,()) (p1.1,p1.2.1,p1.2.2.1,p1.2.2.2.1,())).bind fun u4=>
 cond (!u4.1.1)
  (some (((((),(),u2.1.1.2.2.1,()),false,()),()),(u2.2.1,u2.2.2.1,())))
 (cond ((p0.2.1.length:Int)==20)
  (some (((((),(),u2.1.1.2.2.1,()),false,()),()),(u2.2.1,u2.2.2.1,())))
 (if u2.2.2.1.length+1≤Dw then(
 some (((((),(),u2.1.1.2.2.1,()),true,()),()),(u2.2.1,(u2.2.2.1++[(p1.1,p1.2.1,p1.2.2.1,p1.2.2.2.1,())]),())))else none))))
abbrev cK:Type:=ADJ×ADK
def Tt(CP CS:Int)(BT:Bool)(p1:ACh)(b0:AAH)(b1:AAh)(b2:AAH)(b3:AAo)(b4:AA1)(b5:ABB)(b6:AAs)(b7:AAX):Option cK:=
 (K_ (b0,CP,b1,b2,b3,CS,b4,b5,b6,b7,BT,()) p1.2.1).bind fun u1=>
 cond (!u1.1.1)
  (some (((((),CP,(),(),(),CS,(),(),(),(),BT,()),2,()),()),(b0,b1,b2,b3,b4,b5,b6,b7,())))
 (if(0:Int)≤p1.2.1∧p1.2.1<(b4.length:Int)then(
 (CK p1.2.2.1 1 (((b4.getD (p1.2.1.toNat) (0,[],())).2.1).length:Int)).bind fun u3=>
 cond (!u3.1.1)
  (some (((((),CP,(),(),(),CS,(),(),(),(),BT,()),2,()),()),(b0,b1,b2,b3,b4,b5,b6,b7,())))
 ((He (b0,CP,b1,b2,b3,CS,b4,b5,b6,b7,BT,()) p1.2.2.2.1).bind fun u4=>
 cond (u4.1.1 !=0)
  (some (((((),CP,(),(),(),CS,(),(),(),(),BT,()),u4.1.1,()),()),(b0,b1,b2,b3,b4,b5,b6,b7,())))
 ((Ce (b3,CS,()) ((b4.getD (p1.2.1.toNat) (0,[],())).1)).bind fun u6=>
 (DK u6.2.1 p1.2.2.2.1).bind fun u7=>
 cond (!u7.1.1)
  (some (((((),CP,(),(),(),CS,(),(),(),(),BT,()),2,()),()),(b0,b1,b2,b3,b4,b5,b6,b7,())))
 (if(0:Int)≤p1.2.2.2.1∧p1.2.2.2.1<(b1.length:Int)then(
 if(0:Int)≤AZ (p1.2.2.1-1)∧AZ (p1.2.2.1-1)<(((b4.getD (p1.2.1.toNat) (0,[],())).2.1).length:Int)then(
 (Ec ((b4.getD (p1.2.1.toNat) (0,[],())).1) p1.2.2.1).bind fun EY=>
 (Pp ((b1.getD (p1.2.2.2.1.toNat) ([],[],0,())).1,(b1.getD (p1.2.2.2.1.toNat) ([],[],0,())).2.1,(b1.getD (p1.2.2.2.1.toNat) ([],[],0,())).2.2.1,()) (EY.1.1,0,false,((((b4.getD (p1.2.1.toNat) (0,[],())).2.1).getD ((AZ (p1.2.2.1-1)).toNat) ([],[],false,())).1),())).bind fun Nj=>
 cond (!Nj.1.1.2.1)
  (some (((((),CP,(),(),(),CS,(),(),(),(),BT,()),4,()),()),(b0,b1,b2,b3,b4,b5,b6,b7,())))
 (if(0:Int)≤p1.2.2.2.1∧p1.2.2.2.1<(b1.length:Int)then(
 some (((((),CP,(),(),(),CS,(),(),(),(),BT,()),0,()),()),(b0,(b1.set (p1.2.2.2.1.toNat) (Nj.2.1,Nj.2.2.1,Nj.1.1.1.2.2.1,())),b2,b3,b4,b5,b6,b7,())))else none))else none)else none))))else none)
abbrev rf:Type:=(ADG×Unit)×Unit
def RF(p0 p1:ADG):Option rf:=
 cond ((decide (p1.2.1>p0.2.1)))
  (some (((p1.1,p1.2.1,p1.2.2.1,p1.2.2.2.1,()),()),()))
 (some (((p0.1,p0.2.1,p0.2.2.1,p0.2.2.2.1,()),()),()))
abbrev UB:Type:=ACL×AEq
abbrev Wl:Type:=ABE→Bool→Int→Int→Int→Bool→List UInt8→ABE→Option UB
def SG(R4:Wl)(t0:ABE)(t6:Bool)(t7 AR AF:Int)(Ai:Bool)(Bk:ACD)(b1:ABE):Option UB:=
 cond ((decide (t7<(t0.length:Int))))
  (cond (!t6)
   (if(0:Int)≤t7∧t7<(t0.length:Int)then(
   cond (((t0.getD (t7.toNat) (0,0,false,[],())).1)==AR)
    (if(0:Int)≤t7∧t7<(t0.length:Int)then(
    (RF ((t0.getD (t7.toNat) (0,0,false,[],())).1,(t0.getD (t7.toNat) (0,0,false,[],())).2.1,(t0.getD (t7.toNat) (0,0,false,[],())).2.2.1,(t0.getD (t7.toNat) (0,0,false,[],())).2.2.2.1,()) (AR,AF,Ai,Bk,())).bind fun u3=>
    if b1.length+1≤Dw then(
    R4 t0 true (AZ (t7+1)) AR AF Ai Bk (b1++[(u3.1.1.1,u3.1.1.2.1,u3.1.1.2.2.1,u3.1.1.2.2.2.1,())]))else none)else none)
   (cond (!t6)
    (if(0:Int)≤t7∧t7<(t0.length:Int)then(
    cond (decide (((t0.getD (t7.toNat) (0,0,false,[],())).1)>AR))
     (if b1.length+1≤Dw then(
     let x6:ABE:=b1++[(AR,AF,Ai,Bk,())]
     if(0:Int)≤t7∧t7<(t0.length:Int)then(
     if x6.length+1≤Dw then(
     R4 t0 true (AZ (t7+1)) AR AF Ai Bk (x6++[((t0.getD (t7.toNat) (0,0,false,[],())).1,(t0.getD (t7.toNat) (0,0,false,[],())).2.1,(t0.getD (t7.toNat) (0,0,false,[],())).2.2.1,(t0.getD (t7.toNat) (0,0,false,[],())).2.2.2.1,())]))else none)else none)else none)
    (if(0:Int)≤t7∧t7<(t0.length:Int)then(
    if b1.length+1≤Dw then(
    R4 t0 t6 (AZ (t7+1)) AR AF Ai Bk (b1++[((t0.getD (t7.toNat) (0,0,false,[],())).1,(t0.getD (t7.toNat) (0,0,false,[],())).2.1,(t0.getD (t7.toNat) (0,0,false,[],())).2.2.1,(t0.getD (t7.toNat) (0,0,false,[],())).2.2.2.1,())]))else none)else none))else none)
   (if(0:Int)≤t7∧t7<(t0.length:Int)then(
   if b1.length+1≤Dw then(
   R4 t0 t6 (AZ (t7+1)) AR AF Ai Bk (b1++[((t0.getD (t7.toNat) (0,0,false,[],())).1,(t0.getD (t7.toNat) (0,0,false,[],())).2.1,(t0.getD (t7.toNat) (0,0,false,[],())).2.2.1,(t0.getD (t7.toNat) (0,0,false,[],())).2.2.2.1,())]))else none)else none)))else none)
  (cond (!t6)
   (if(0:Int)≤t7∧t7<(t0.length:Int)then(
   cond (decide (((t0.getD (t7.toNat) (0,0,false,[],())).1)>AR))
    (if b1.length+1≤Dw then(
    let x11:ABE:=b1++[(AR,AF,Ai,Bk,())]
    if(0:Int)≤t7∧t7<(t0.length:Int)then(
    if x11.length+1≤Dw then(
    R4 t0 true (AZ (t7+1)) AR AF Ai Bk (x11++[((t0.getD (t7.toNat) (0,0,false,[],())).1,(t0.getD (t7.toNat) (0,0,false,[],())).2.1,(t0.getD (t7.toNat) (0,0,false,[],())).2.2.1,(t0.getD (t7.toNat) (0,0,false,[],())).2.2.2.1,())]))else none)else none)else none)
   (if(0:Int)≤t7∧t7<(t0.length:Int)then(
   if b1.length+1≤Dw then(
   R4 t0 t6 (AZ (t7+1)) AR AF Ai Bk (b1++[((t0.getD (t7.toNat) (0,0,false,[],())).1,(t0.getD (t7.toNat) (0,0,false,[],())).2.1,(t0.getD (t7.toNat) (0,0,false,[],())).2.2.1,(t0.getD (t7.toNat) (0,0,false,[],())).2.2.2.1,())]))else none)else none))else none)
  (if(0:Int)≤t7∧t7<(t0.length:Int)then(
  if b1.length+1≤Dw then(
  R4 t0 t6 (AZ (t7+1)) AR AF Ai Bk (b1++[((t0.getD (t7.toNat) (0,0,false,[],())).1,(t0.getD (t7.toNat) (0,0,false,[],())).2.1,(t0.getD (t7.toNat) (0,0,false,[],())).2.2.1,(t0.getD (t7.toNat) (0,0,false,[],())).2.2.2.1,())]))else none)else none)))
 (cond (!t6)
  (if b1.length+1≤Dw then(
  some (((),()),((b1++[(AR,AF,Ai,Bk,())]),())))else none)
 (some (((),()),(b1,()))))
def JI:Nat→Wl
 |0=>fun _ _ _ _ _ _ _ _=>none
 |n+1=>SG (JI n)
def X5(R4:Wl)(p0:ABE)(p1:ADG):Option UB:=
 R4 p0 false 0 p1.1 p1.2.1 p1.2.2.1 p1.2.2.2.1 []
def Q5(p0:ABE)(p1:ADG):Option UB:=X5 (JI Ae) p0 p1
abbrev NZ:Type:=ADO×ADM
abbrev QY:Type:=Int→Int→ABE→ABE→Int→Int→ABE→ABE→Int→ABE→ABE→Option NZ
def Ss(R5:QY)(t1 t7:Int)(AR AF:ABE)(Ai EF:Int)(b2 b3:ABE)(bH:Int)(b5 b6:ABE):Option NZ:=
 cond ((decide (t7<(AF.length:Int))))
  (if t7<0 then none else(
  cond (((cZ .i64 (t1.fdiv (2^(min t7.toNat 64))) 1)==1))
   (if(0:Int)≤t7∧t7<(AF.length:Int)then(
   (Q5 b5 ((AF.getD (t7.toNat) (0,0,false,[],())).1,(AF.getD (t7.toNat) (0,0,false,[],())).2.1,(AF.getD (t7.toNat) (0,0,false,[],())).2.2.1,(AF.getD (t7.toNat) (0,0,false,[],())).2.2.2.1,())).bind fun u5=>
   R5 t1 (AZ (t7+1)) AR AF Ai EF b2 b3 bH u5.2.1 b6)else none)
  (R5 t1 (AZ (t7+1)) AR AF Ai EF b2 b3 bH b5 b6)))
 ((CK t1 0 1048575).bind fun u6=>
 cond (!u6.1.1)
  ((Er (AR,AF,Ai,())).bind fun u7=>
  some (((((),(),u7.1.1.2.2.1,()),false,()),()),(u7.2.1,u7.2.2.1,())))
 (cond ((decide ((b5.length:Int)>200)))
  ((Er (AR,AF,Ai,())).bind fun u9=>
  some (((((),(),u9.1.1.2.2.1,()),false,()),()),(u9.2.1,u9.2.2.1,())))
 (some (((((),(),bH,()),true,()),()),(b5,b6,())))))
def JT:Nat→QY
 |0=>fun _ _ _ _ _ _ _ _ _ _ _=>none
 |n+1=>Ss (JT n)
def Sw(R5:QY)(p0:ACc)(p1:Int):Option NZ:=
 (Ge (p0.1,p0.2.1,p0.2.2.1,())).bind fun u1=>
 cond (!u1.1.1)
  (some (((((),(),0,()),false,()),()),([],[],())))
 (if 0+p0.1.length≤Dw then(
 R5 p1 0 p0.1 p0.2.1 p0.2.2.1 0 [] [] p0.2.2.1 p0.1 [])else none)
def Mh(p0:ACc)(p1:Int):Option NZ:=Sw (JT Ae) p0 p1
abbrev k_:Type:=ADO×ADM
def OD(p0:ACc):Option k_:=
 (Mh (p0.1,p0.2.1,p0.2.2.1,()) 1048575).bind fun u1=>
 some (((((),(),u1.1.1.1.2.2.1,()),u1.1.1.2.1,()),()),(u1.2.1,u1.2.2.1,()))
abbrev Gn:Type:=AE8×Unit
abbrev ZF:Type:=ABE→Int→Int→Int→Int→Bool→List UInt8→Option Gn
def aT(R2:ZF)(t0:ABE)(t1 t6 AR AF:Int)(Ai:Bool)(Bk:ACD):Option Gn:=
 cond ((decide (t6<(t0.length:Int))))
  (if(0:Int)≤t6∧t6<(t0.length:Int)then(
  cond (((t0.getD (t6.toNat) (0,0,false,[],())).1)==t1)
   (if(0:Int)≤t6∧t6<(t0.length:Int)then(
   some (((((t0.getD (t6.toNat) (0,0,false,[],())).1,(t0.getD (t6.toNat) (0,0,false,[],())).2.1,(t0.getD (t6.toNat) (0,0,false,[],())).2.2.1,(t0.getD (t6.toNat) (0,0,false,[],())).2.2.2.1,()),true,()),()),()))else none)
  (R2 t0 t1 (AZ (t6+1)) AR AF Ai Bk))else none)
 (some ((((0,0,false,[],()),false,()),()),()))
def Pt:Nat→ZF
 |0=>fun _ _ _ _ _ _ _=>none
 |n+1=>aT (Pt n)
def Zk(R2:ZF)(p0:ABE)(p1:Int):Option Gn:=
 R2 p0 p1 0 0 0 false []
def HV(p0:ABE)(p1:Int):Option Gn:=Zk (Pt Ae) p0 p1
abbrev F_:Type:=AFJ×AD7
def Fg(p0:ABL)(p1:ACI)(p2 p3:Int):Option F_:=
 (Hh (p0.1,p0.2.1,()) (p1.1,p1.2.1,())).bind fun u1=>
 cond (!u1.1.1)
  (some ((((0,(),()),false,()),()),([],())))
 ((FU (p1.1,p1.2.1,())).bind fun u2=>
 (CK p2 1 (p1.2.1.length:Int)).bind fun u4=>
 cond (!u4.1.1)
  (some ((((u2.1.1.1,(),()),false,()),()),(u2.2.1,())))
 ((CK p3 0 (AZ ((p0.1.length:Int)-1))).bind fun u6=>
 cond (!u6.1.1)
  (some ((((u2.1.1.1,(),()),false,()),()),(u2.2.1,())))
 (if(0:Int)≤AZ (p2-1)∧AZ (p2-1)<(p1.2.1.length:Int)then(
 cond (((p1.2.1.getD ((AZ (p2-1)).toNat) ([],[],false,())).2.2.1))
  (some ((((u2.1.1.1,(),()),false,()),()),(u2.2.1,())))
 (if(0:Int)≤AZ (p2-1)∧AZ (p2-1)<(u2.2.1.length:Int)then(
 (L8 ((u2.2.1.getD ((AZ (p2-1)).toNat) ([],[],false,())).2.1) p3).bind fun u8=>
 if(0:Int)≤AZ (p2-1)∧AZ (p2-1)<(u2.2.1.length:Int)then(
 let x9:AB7:=(u2.2.1.set ((AZ (p2-1)).toNat) ((u2.2.1.getD ((AZ (p2-1)).toNat) ([],[],false,())).1,u8.2.1,(u2.2.1.getD ((AZ (p2-1)).toNat) ([],[],false,())).2.2.1,()))
 if(0:Int)≤AZ (p2-1)∧AZ (p2-1)<(x9.length:Int)then(
 (FQ (p0.1,p0.2.1,()) ((x9.getD ((AZ (p2-1)).toNat) ([],[],false,())).2.1)).bind fun EY=>
 if(0:Int)≤AZ (p2-1)∧AZ (p2-1)<(x9.length:Int)then(
 some ((((u2.1.1.1,(),()),true,()),()),((x9.set ((AZ (p2-1)).toNat) ((x9.getD ((AZ (p2-1)).toNat) ([],[],false,())).1,(x9.getD ((AZ (p2-1)).toNat) ([],[],false,())).2.1,EY.1.1,())),())))else none)else none)else none)else none))else none)))
abbrev kG:Type:=AEd×Unit
def SH(p0 p1:Int):Option kG:=
 (CK p0 1 30).bind fun u1=>
 cond (!u1.1.1)
  (some (((0,false,()),()),()))
 ((CK p1 1 60).bind fun u2=>
 cond (!u2.1.1)
  (some (((0,false,()),()),()))
 (some (((AZ ((AZ (4294967296*p0))+p1),true,()),()),())))
abbrev F7:Type:=AE8×Unit
def Ew(p0:ABZ)(p1:Int):Option F7:=
 (SH p0.2.1 p1).bind fun u1=>
 cond (!p0.2.2.2.2.1)
  (some ((((0,0,false,[],()),false,()),()),()))
 (cond (!u1.1.1.2.1)
  (some ((((0,0,false,[],()),false,()),()),()))
 (cond (decide (p1>(p0.2.2.2.2.2.1.length:Int)))
  (some ((((0,0,false,[],()),false,()),()),()))
 ((HV p0.2.2.2.1 u1.1.1.1).bind fun u3=>
 cond (u3.1.1.2.1)
  (some ((((u1.1.1.1,p0.1,u3.1.1.1.2.2.1,u3.1.1.1.2.2.2.1,()),true,()),()),()))
 (some ((((u1.1.1.1,p0.1,true,[],()),true,()),()),())))))
abbrev Hp:Type:=AEP×ADN
def Hi(p0:ABL)(p1:ABZ)(p2 p3:Int):Option Hp:=
 (Ix (p0.1,p0.2.1,()) (p1.1,p1.2.1,p1.2.2.1,p1.2.2.2.1,p1.2.2.2.2.1,p1.2.2.2.2.2.1,())).bind fun u1=>
 cond (!u1.1.1)
  (some ((((0,0,(),(),false,(),()),false,()),()),([],[],[],())))
 ((ET (p1.1,p1.2.1,p1.2.2.1,p1.2.2.2.1,p1.2.2.2.2.1,p1.2.2.2.2.2.1,())).bind fun u2=>
 (CK p2 1 (p1.2.2.2.2.2.1.length:Int)).bind fun u4=>
 cond (!u4.1.1)
  (some ((((u2.1.1.1,u2.1.1.2.1,(),(),u2.1.1.2.2.2.2.1,(),()),false,()),()),(u2.2.1,u2.2.2.1,u2.2.2.2.1,())))
 ((CK p3 0 (AZ ((p0.1.length:Int)-1))).bind fun u6=>
 cond (!u6.1.1)
  (some ((((u2.1.1.1,u2.1.1.2.1,(),(),u2.1.1.2.2.2.2.1,(),()),false,()),()),(u2.2.1,u2.2.2.1,u2.2.2.2.1,())))
 (if(0:Int)≤AZ (p2-1)∧AZ (p2-1)<(u2.2.2.2.1.length:Int)then(
 (L8 (u2.2.2.2.1.getD ((AZ (p2-1)).toNat) []) p3).bind fun u7=>
 if(0:Int)≤AZ (p2-1)∧AZ (p2-1)<(u2.2.2.2.1.length:Int)then(
 some ((((u2.1.1.1,u2.1.1.2.1,(),(),u2.1.1.2.2.2.2.1,(),()),true,()),()),(u2.2.1,u2.2.2.1,(u2.2.2.2.1.set ((AZ (p2-1)).toNat) u7.2.1),())))else none)else none)))
abbrev Bz:Type:=AFl×ADK
abbrev IJ:Type:=Int→Int→List Int→AAh→List Int→AAo→AA1→ABB→AAs→AAX→Int→Int→Bool→Int→Int→Bool→List Int→AAh→List Int→AAo→AA1→ABB→AAs→AAX→ABE→ABE→Int→Option Bz
abbrev II:Type:=Int→Int→Int→Int→Int→Bool→List Int→AAh→List Int→AAo→AA1→ABB→AAs→AAX→Int→Int→Bool→Int→Int→Bool→List Int→AAh→List Int→AAo→AA1→ABB→AAs→AAX→ABE→ABE→Int→Int→AB7→Option Bz
abbrev HK:Type:=Int→Int→Int→Int→Int→Bool→List Int→AAh→List Int→AAo→AA1→ABB→AAs→AAX→Int→Int→Bool→Int→Int→Bool→List Int→AAh→List Int→AAo→AA1→ABB→AAs→AAX→ABE→ABE→Int→Int→AB7→Option Bz
abbrev HI:Type:=Int→Int→List Int→AAh→List Int→AAo→AA1→ABB→AAs→AAX→Int→Int→Bool→Int→Int→Bool→List Int→AAh→List Int→AAo→AA1→ABB→AAs→AAX→ABE→ABE→Int→Option Bz
abbrev HW:Type:=Int→Int→Int→List Int→AAh→List Int→AAo→AA1→ABB→AAs→AAX→Int→Int→Bool→Int→Int→Bool→List Int→AAh→List Int→AAo→AA1→ABB→AAs→AAX→ABE→ABE→Int→Int→Int→List Int→ABE→Bool→List AAH→Option Bz
def Mc(R3:IJ)(R8:II)(ir:HK)(R21:HI)(R25:HW)(t1 t6:Int)(b0:AAH)(b1:AAh)(b2:AAH)(b3:AAo)(b4:AA1)(b5:ABB)(b6:AAs)(b7:AAX)(Dg Dv:Int)(CN:Bool)(EM GA:Int)(DE:Bool)(MG:AAH)(GO:AAh)(D5:AAH)(G6:AAo)(G7:AA1)(EV:ABB)(FA:AAs)(Fl:AAX)(Ch C8:ABE)(Cl:Int):Option Bz:=
 cond ((decide (t6<(b4.length:Int))))
  (if(0:Int)≤t6∧t6<(b4.length:Int)then(
  (Ce (b3,Dv,()) ((b4.getD (t6.toNat) (0,[],())).1)).bind fun u3=>
  (DK u3.2.1 t1).bind fun u4=>
  cond (!u4.1.1)
   (R3 t1 (AZ (t6+1)) b0 b1 b2 b3 b4 b5 b6 b7 Dg Dv CN EM GA DE MG GO D5 G6 G7 EV FA Fl Ch C8 Cl)
  (let x5:Int:=(b4.getD (t6.toNat) (0,[],())).1
  cond (decide (Cl≥x5))
   (R3 t1 (AZ (t6+1)) b0 b1 b2 b3 b4 b5 b6 b7 Dg Dv CN EM GA DE MG GO D5 G6 G7 EV FA Fl Ch C8 Cl)
  (R8 t1 t6 1 Cl x5 (decide (Cl≥x5)) b0 b1 b2 b3 b4 b5 b6 b7 Dg Dv CN EM GA DE MG GO D5 G6 G7 EV FA Fl Ch C8 Cl ((b4.getD (t6.toNat) (0,[],())).1) ((b4.getD (t6.toNat) (0,[],())).2.1))))else none)
 (R21 t1 0 b0 b1 b2 b3 b4 b5 b6 b7 Dg Dv CN EM GA DE MG GO D5 G6 G7 EV FA Fl Ch C8 Cl)
def MF(R3:IJ)(R8:II)(ir:HK)(R21:HI)(R25:HW)(t1 t6 t8 t47 t49:Int)(t50:Bool)(b0:AAH)(b1:AAh)(b2:AAH)(b3:AAo)(b4:AA1)(b5:ABB)(b6:AAs)(b7:AAX)(Dg Dv:Int)(CN:Bool)(EM GA:Int)(DE:Bool)(MG:AAH)(GO:AAh)(D5:AAH)(G6:AAo)(G7:AA1)(EV:ABB)(FA:AAs)(Fl:AAX)(Ch C8:ABE)(Cl DW:Int)(CV:AB7):Option Bz:=
 cond ((decide (t8≤(CV.length:Int))))
  ((Ec DW t8).bind fun u7=>
  (HV Ch u7.1.1).bind fun u8=>
  cond (!u8.1.1.2.1)
   (R8 t1 t6 (AZ (t8+1)) t47 t49 t50 b0 b1 b2 b3 b4 b5 b6 b7 Dg Dv CN EM GA DE MG GO D5 G6 G7 EV FA Fl Ch C8 Cl DW CV)
  (cond (u8.1.1.1.2.1 !=0)
   (R8 t1 t6 (AZ (t8+1)) t47 t49 t50 b0 b1 b2 b3 b4 b5 b6 b7 Dg Dv CN EM GA DE MG GO D5 G6 G7 EV FA Fl Ch C8 Cl DW CV)
  (if(0:Int)≤AZ (t8-1)∧AZ (t8-1)<(CV.length:Int)then(
  cond (((CV.getD ((AZ (t8-1)).toNat) ([],[],false,())).2.2.1))
   (R8 t1 t6 (AZ (t8+1)) t47 t49 t50 b0 b1 b2 b3 b4 b5 b6 b7 Dg Dv CN EM GA DE MG GO D5 G6 G7 EV FA Fl Ch C8 Cl DW CV)
  ((Fg (b0,Dg,()) (DW,CV,()) t8 t1).bind fun EY=>
  R8 t1 t6 (AZ (t8+1)) t47 t49 t50 b0 b1 b2 b3 b4 b5 b6 b7 Dg Dv CN EM GA DE MG GO D5 G6 G7 EV FA Fl Ch C8 Cl EY.1.1.1.1 EY.2.1))else none)))
 (if(0:Int)≤t6∧t6<(b4.length:Int)then(
 ir t1 t6 0 t47 t49 t50 b0 b1 b2 b3 (b4.set (t6.toNat) (DW,CV,())) b5 b6 b7 Dg Dv CN EM GA DE MG GO D5 G6 G7 EV FA Fl Ch C8 Cl DW CV)else none)
def Ko(R3:IJ)(R8:II)(ir:HK)(R21:HI)(R25:HW)(t1 t6 t11 t47 t49:Int)(t50:Bool)(b0:AAH)(b1:AAh)(b2:AAH)(b3:AAo)(b4:AA1)(b5:ABB)(b6:AAs)(b7:AAX)(Dg Dv:Int)(CN:Bool)(EM GA:Int)(DE:Bool)(MG:AAH)(GO:AAh)(D5:AAH)(G6:AAo)(G7:AA1)(EV:ABB)(FA:AAs)(Fl:AAX)(Ch C8:ABE)(Cl DW:Int)(CV:AB7):Option Bz:=
 cond ((decide (t11<(b7.length:Int))))
  (if(0:Int)≤t11∧t11<(b7.length:Int)then(
  let x65:Int:=(b7.getD (t11.toNat) (0,[],false,())).1
  (C0 x65).bind fun u66=>
  cond (u66.1.1==DW)
   ((HM x65).bind fun u67=>
   cond ((decide (u67.1.1≤(CV.length:Int))))
    ((HM x65).bind fun u69=>
    if(0:Int)≤AZ (u69.1.1-1)∧AZ (u69.1.1-1)<(CV.length:Int)then(
    cond (((CV.getD ((AZ (u69.1.1-1)).toNat) ([],[],false,())).2.2.1))
     (if(0:Int)≤t11∧t11<(b7.length:Int)then(
     ir t1 t6 (AZ (t11+1)) t47 t49 t50 b0 b1 b2 b3 b4 b5 b6 (b7.set (t11.toNat) ((b7.getD (t11.toNat) (0,[],false,())).1,(b7.getD (t11.toNat) (0,[],false,())).2.1,true,())) Dg Dv CN EM GA DE MG GO D5 G6 G7 EV FA Fl Ch C8 Cl DW CV)else none)
    (ir t1 t6 (AZ (t11+1)) t47 t49 t50 b0 b1 b2 b3 b4 b5 b6 b7 Dg Dv CN EM GA DE MG GO D5 G6 G7 EV FA Fl Ch C8 Cl DW CV))else none)
   (ir t1 t6 (AZ (t11+1)) t47 t49 t50 b0 b1 b2 b3 b4 b5 b6 b7 Dg Dv CN EM GA DE MG GO D5 G6 G7 EV FA Fl Ch C8 Cl DW CV))
  (ir t1 t6 (AZ (t11+1)) t47 t49 t50 b0 b1 b2 b3 b4 b5 b6 b7 Dg Dv CN EM GA DE MG GO D5 G6 G7 EV FA Fl Ch C8 Cl DW CV))else none)
 (R3 t1 (AZ (t6+1)) b0 b1 b2 b3 b4 b5 b6 b7 Dg Dv CN EM GA DE MG GO D5 G6 G7 EV FA Fl Ch C8 Cl)
def Kz(R3:IJ)(R8:II)(ir:HK)(R21:HI)(R25:HW)(t1 t13:Int)(b0:AAH)(b1:AAh)(b2:AAH)(b3:AAo)(b4:AA1)(b5:ABB)(b6:AAs)(b7:AAX)(Dg Dv:Int)(CN:Bool)(EM GA:Int)(DE:Bool)(MG:AAH)(GO:AAh)(D5:AAH)(G6:AAo)(G7:AA1)(EV:ABB)(FA:AAs)(Fl:AAX)(Ch C8:ABE)(Cl:Int):Option Bz:=
 cond ((decide (t13<(b5.length:Int))))
  (if(0:Int)≤t13∧t13<(b5.length:Int)then(
  R25 t1 t13 1 b0 b1 b2 b3 b4 b5 b6 b7 Dg Dv CN EM GA DE MG GO D5 G6 G7 EV FA Fl Ch C8 Cl ((b5.getD (t13.toNat) (0,0,[],[],false,[],())).1) ((b5.getD (t13.toNat) (0,0,[],[],false,[],())).2.1) ((b5.getD (t13.toNat) (0,0,[],[],false,[],())).2.2.1) ((b5.getD (t13.toNat) (0,0,[],[],false,[],())).2.2.2.1) ((b5.getD (t13.toNat) (0,0,[],[],false,[],())).2.2.2.2.1) ((b5.getD (t13.toNat) (0,0,[],[],false,[],())).2.2.2.2.2.1))else none)
 (some ((((),Dg,(),(),(),Dv,(),(),(),(),CN,()),()),(b0,b1,b2,b3,b4,b5,b6,b7,())))
def IV(R3:IJ)(R8:II)(ir:HK)(R21:HI)(R25:HW)(t1 t13 t15:Int)(b0:AAH)(b1:AAh)(b2:AAH)(b3:AAo)(b4:AA1)(b5:ABB)(b6:AAs)(b7:AAX)(Dg Dv:Int)(CN:Bool)(EM GA:Int)(DE:Bool)(MG:AAH)(GO:AAh)(D5:AAH)(G6:AAo)(G7:AA1)(EV:ABB)(FA:AAs)(Fl:AAX)(Ch C8:ABE)(Cl DW CV:Int)(UF:AAH)(Ui:ABE)(Uw:Bool)(UG:List AAH):Option Bz:=
 if(0:Int)≤t13∧t13<(b5.length:Int)then(
 cond (decide (t15≤(((b5.getD (t13.toNat) (0,0,[],[],false,[],())).2.2.2.2.2.1).length:Int)))
  ((Ce (b3,Dv,()) CV).bind fun u74=>
  (DK u74.2.1 t1).bind fun u75=>
  cond (u75.1.1)
   ((Ew (DW,CV,UF,Ui,Uw,UG,()) t15).bind fun u76=>
   (HV Ch u76.1.1.1.1).bind fun u77=>
   cond (u77.1.1.2.1)
    (cond (((u77.1.1.1.1==u76.1.1.1.1)&&((u77.1.1.1.2.1==u76.1.1.1.2.1)&&((u77.1.1.1.2.2.1==u76.1.1.1.2.2.1)&&((u77.1.1.1.2.2.2.1==u76.1.1.1.2.2.2.1)&&true)))))
     ((Hi (b0,Dg,()) (DW,CV,UF,Ui,Uw,UG,()) t15 t1).bind fun u79=>
     R25 t1 t13 (AZ (t15+1)) b0 b1 b2 b3 b4 b5 b6 b7 Dg Dv CN EM GA DE MG GO D5 G6 G7 EV FA Fl Ch C8 Cl u79.1.1.1.1 u79.1.1.1.2.1 u79.2.1 u79.2.2.1 u79.1.1.1.2.2.2.2.1 u79.2.2.2.1)
    (R25 t1 t13 (AZ (t15+1)) b0 b1 b2 b3 b4 b5 b6 b7 Dg Dv CN EM GA DE MG GO D5 G6 G7 EV FA Fl Ch C8 Cl DW CV UF Ui Uw UG))
   (R25 t1 t13 (AZ (t15+1)) b0 b1 b2 b3 b4 b5 b6 b7 Dg Dv CN EM GA DE MG GO D5 G6 G7 EV FA Fl Ch C8 Cl DW CV UF Ui Uw UG))
  (if(0:Int)≤t13∧t13<(b5.length:Int)then(
  R21 t1 (AZ (t13+1)) b0 b1 b2 b3 b4 (b5.set (t13.toNat) (DW,CV,UF,Ui,Uw,UG,())) b6 b7 Dg Dv CN EM GA DE MG GO D5 G6 G7 EV FA Fl Ch C8 Cl)else none))
 (if(0:Int)≤t13∧t13<(b5.length:Int)then(
 R21 t1 (AZ (t13+1)) b0 b1 b2 b3 b4 (b5.set (t13.toNat) (DW,CV,UF,Ui,Uw,UG,())) b6 b7 Dg Dv CN EM GA DE MG GO D5 G6 G7 EV FA Fl Ch C8 Cl)else none))else none
mutual
def Be:Nat→IJ
 |0=>fun _ _ _ _ _ _ _ _ _ _ _ _ _ _ _ _ _ _ _ _ _ _ _ _ _ _ _=>none
 |n+1=>Mc (Be n) (BC n) (BD n) (Bh n) (Bb n)
def BC:Nat→II
 |0=>fun _ _ _ _ _ _ _ _ _ _ _ _ _ _ _ _ _ _ _ _ _ _ _ _ _ _ _ _ _ _ _ _ _=>none
 |n+1=>MF (Be n) (BC n) (BD n) (Bh n) (Bb n)
def BD:Nat→HK
 |0=>fun _ _ _ _ _ _ _ _ _ _ _ _ _ _ _ _ _ _ _ _ _ _ _ _ _ _ _ _ _ _ _ _ _=>none
 |n+1=>Ko (Be n) (BC n) (BD n) (Bh n) (Bb n)
def Bh:Nat→HI
 |0=>fun _ _ _ _ _ _ _ _ _ _ _ _ _ _ _ _ _ _ _ _ _ _ _ _ _ _ _=>none
 |n+1=>Kz (Be n) (BC n) (BD n) (Bh n) (Bb n)
def Bb:Nat→HW
 |0=>fun _ _ _ _ _ _ _ _ _ _ _ _ _ _ _ _ _ _ _ _ _ _ _ _ _ _ _ _ _ _ _ _ _ _=>none
 |n+1=>IV (Be n) (BC n) (BD n) (Bh n) (Bb n)
end
def QR(R3:IJ)(R8:II)(ir:HK)(R21:HI)(R25:HW)(CP CS:Int)(BT:Bool)(p1:Int)(b0:AAH)(b1:AAh)(b2:AAH)(b3:AAo)(b4:AA1)(b5:ABB)(b6:AAs)(b7:AAX):Option Bz:=
 if(0:Int)≤p1∧p1<(b1.length:Int)then(
 R3 p1 0 b0 b1 b2 b3 b4 b5 b6 b7 CP CS BT 0 0 false [] [] [] [] [] [] [] [] ((b1.getD (p1.toNat) ([],[],0,())).1) ((b1.getD (p1.toNat) ([],[],0,())).2.1) ((b1.getD (p1.toNat) ([],[],0,())).2.2.1))else none
def Vo(CP CS:Int)(BT:Bool)(p1:Int)(b0:AAH)(b1:AAh)(b2:AAH)(b3:AAo)(b4:AA1)(b5:ABB)(b6:AAs)(b7:AAX):Option Bz:=QR (Be Ae) (BC Ae) (BD Ae) (Bh Ae) (Bb Ae) CP CS BT p1 b0 b1 b2 b3 b4 b5 b6 b7
abbrev o7:Type:=ADJ×ADK
def V0(CP CS:Int)(BT:Bool)(p1:ACh)(b0:AAH)(b1:AAh)(b2:AAH)(b3:AAo)(b4:AA1)(b5:ABB)(b6:AAs)(b7:AAX):Option o7:=
 (He (b0,CP,b1,b2,b3,CS,b4,b5,b6,b7,BT,()) p1.2.1).bind fun u1=>
 cond (u1.1.1 !=0)
  (some (((((),CP,(),(),(),CS,(),(),(),(),BT,()),u1.1.1,()),()),(b0,b1,b2,b3,b4,b5,b6,b7,())))
 (if(0:Int)≤p1.2.1∧p1.2.1<(b1.length:Int)then(
 (OD ((b1.getD (p1.2.1.toNat) ([],[],0,())).1,(b1.getD (p1.2.1.toNat) ([],[],0,())).2.1,(b1.getD (p1.2.1.toNat) ([],[],0,())).2.2.1,())).bind fun u2=>
 cond (!u2.1.1.2.1)
  (some (((((),CP,(),(),(),CS,(),(),(),(),BT,()),4,()),()),(b0,b1,b2,b3,b4,b5,b6,b7,())))
 (if(0:Int)≤p1.2.1∧p1.2.1<(b1.length:Int)then(
 (Vo CP CS BT p1.2.1 b0 (b1.set (p1.2.1.toNat) (u2.2.1,u2.2.2.1,u2.1.1.1.2.2.1,())) b2 b3 b4 b5 b6 b7).bind fun u4=>
 some (((((),u4.1.1.2.1,(),(),(),u4.1.1.2.2.2.2.2.1,(),(),(),(),u4.1.1.2.2.2.2.2.2.2.2.2.2.1,()),0,()),()),(u4.2.1,u4.2.2.1,u4.2.2.2.1,u4.2.2.2.2.1,u4.2.2.2.2.2.1,u4.2.2.2.2.2.2.1,u4.2.2.2.2.2.2.2.1,u4.2.2.2.2.2.2.2.2.1,())))else none))else none)
abbrev Ts:Type:=ACL×ACr
abbrev Xm:Type:=List Int→List Int→Int→List Int→Option Ts
def X4(R3:Xm)(t0 t1:AAH)(t6:Int)(b0:AAH):Option Ts:=
 cond ((decide (t6<(t0.length:Int))))
  (if(0:Int)≤t6∧t6<(t0.length:Int)then(
  (DK t1 (t0.getD (t6.toNat) 0)).bind fun u3=>
  cond (!u3.1.1)
   (if(0:Int)≤t6∧t6<(t0.length:Int)then(
   if b0.length+1≤Dw then(
   R3 t0 t1 (AZ (t6+1)) (b0++[(t0.getD (t6.toNat) 0)]))else none)else none)
  (R3 t0 t1 (AZ (t6+1)) b0))else none)
 (some (((),()),(b0,())))
def OO:Nat→Xm
 |0=>fun _ _ _ _=>none
 |n+1=>X4 (OO n)
def YT(R3:Xm)(p0 p1:AAH):Option Ts:=
 R3 p0 p1 0 []
def Ir(p0 p1:AAH):Option Ts:=YT (OO Ae) p0 p1
abbrev Kt:Type:=AFJ×AD7
abbrev Oe:Type:=Int→Int→Int→AB7→Int→AB7→Option Kt
def Q_(R5:Oe)(t2 t9 AR:Int)(b1:AB7)(Zw:Int)(b3:AB7):Option Kt:=
 cond ((decide (t9<(b3.length:Int))))
  (if(0:Int)≤t9∧t9<(b3.length:Int)then(
  cond (!((b3.getD (t9.toNat) ([],[],false,())).2.2.1))
   (if(0:Int)≤t9∧t9<(b3.length:Int)then(
   (Ir ((b3.getD (t9.toNat) ([],[],false,())).2.1) [t2]).bind fun u5=>
   if(0:Int)≤t9∧t9<(b3.length:Int)then(
   R5 t2 (AZ (t9+1)) AR b1 Zw (b3.set (t9.toNat) ((b3.getD (t9.toNat) ([],[],false,())).1,u5.2.1,(b3.getD (t9.toNat) ([],[],false,())).2.2.1,())))else none)else none)
  (R5 t2 (AZ (t9+1)) AR b1 Zw b3))else none)
 (some ((((Zw,(),()),true,()),()),(b3,())))
def Hs:Nat→Oe
 |0=>fun _ _ _ _ _ _=>none
 |n+1=>Q_ (Hs n)
def Qo(R5:Oe)(p0:ABL)(p1:ACI)(p2:Int):Option Kt:=
 (Hh (p0.1,p0.2.1,()) (p1.1,p1.2.1,())).bind fun u1=>
 cond (!u1.1.1)
  (some ((((0,(),()),false,()),()),([],())))
 ((FU (p1.1,p1.2.1,())).bind fun u2=>
 R5 p2 0 0 [] u2.1.1.1 u2.2.1)
def Nd(p0:ABL)(p1:ACI)(p2:Int):Option Kt:=Qo (Hs Ae) p0 p1 p2
abbrev Ni:Type:=AEP×ADN
abbrev Qd:Type:=Int→Int→Int→Int→Bool→List Int→ABE→List AAH→Int→Int→Bool→List Int→ABE→List AAH→Option Ni
def Sz(R5:Qd)(t2 t9 AR AF:Int)(B_:Bool)(b1:AAH)(b2:ABE)(b3:List AAH)(wq xc:Int)(wV:Bool)(b5:AAH)(b6:ABE)(b7:List AAH):Option Ni:=
 cond ((decide (t9<(b7.length:Int))))
  (if(0:Int)≤t9∧t9<(b7.length:Int)then(
  (Ir (b7.getD (t9.toNat) []) [t2]).bind fun u4=>
  if(0:Int)≤t9∧t9<(b7.length:Int)then(
  R5 t2 (AZ (t9+1)) AR AF B_ b1 b2 b3 wq xc wV b5 b6 (b7.set (t9.toNat) u4.2.1))else none)else none)
 (some ((((wq,xc,(),(),wV,(),()),true,()),()),(b5,b6,b7,())))
def Jd:Nat→Qd
 |0=>fun _ _ _ _ _ _ _ _ _ _ _ _ _ _=>none
 |n+1=>Sz (Jd n)
def Sj(R5:Qd)(p0:ABL)(p1:ABZ)(p2:Int):Option Ni:=
 (Ix (p0.1,p0.2.1,()) (p1.1,p1.2.1,p1.2.2.1,p1.2.2.2.1,p1.2.2.2.2.1,p1.2.2.2.2.2.1,())).bind fun u1=>
 cond (!u1.1.1)
  (some ((((0,0,(),(),false,(),()),false,()),()),([],[],[],())))
 ((ET (p1.1,p1.2.1,p1.2.2.1,p1.2.2.2.1,p1.2.2.2.2.1,p1.2.2.2.2.2.1,())).bind fun u2=>
 R5 p2 0 0 0 false [] [] [] u2.1.1.1 u2.1.1.2.1 u2.1.1.2.2.2.2.1 u2.2.1 u2.2.2.1 u2.2.2.2.1)
def QH(p0:ABL)(p1:ABZ)(p2:Int):Option Ni:=Sj (Jd Ae) p0 p1 p2
abbrev JW:Type:=ADJ×AGa
abbrev P9:Type:=Int→List Int→AAh→List Int→AAo→AA1→ABB→AAs→AAX→Int→Int→Bool→List Int→Int→Int→Int→Int→List UInt8→Int→Int→Bool→List Int→AAh→List Int→AAo→AA1→ABB→AAs→AAX→Option JW
abbrev Ov:Type:=Int→List Int→AAh→List Int→AAo→AA1→ABB→AAs→AAX→Int→Int→Bool→List Int→Int→Int→Int→Int→List UInt8→Int→Int→Bool→List Int→AAh→List Int→AAo→AA1→ABB→AAs→AAX→Option JW
def Ww(R7:P9)(yG:Ov)(t7:Int)(b0:AAH)(b1:AAh)(b2:AAH)(b3:AAo)(b4:AA1)(b5:ABB)(b6:AAs)(b7:AAX)(Dg Dv:Int)(CN:Bool)(b9:AAH)(ABD Dr AA_ ABQ:Int)(AAS:ACD)(AAb AAF:Int)(tz:Bool)(D5:AAH)(G6:AAh)(G7:AAH)(EV:AAo)(FA:AA1)(Fl:ABB)(Uy:AAs)(vK:AAX):Option JW:=
 cond ((decide (t7<(b4.length:Int))))
  (if(0:Int)≤t7∧t7<(b4.length:Int)then(
  (Nd (b0,Dg,()) ((b4.getD (t7.toNat) (0,[],())).1,(b4.getD (t7.toNat) (0,[],())).2.1,()) Dr).bind fun u5=>
  if(0:Int)≤t7∧t7<(b4.length:Int)then(
  R7 (AZ (t7+1)) b0 b1 b2 b3 (b4.set (t7.toNat) (u5.1.1.1.1,u5.2.1,())) b5 b6 b7 Dg Dv CN b9 ABD Dr AA_ ABQ AAS AAb AAF tz D5 G6 G7 EV FA Fl Uy vK)else none)else none)
 (yG 0 b0 b1 b2 b3 b4 b5 b6 b7 Dg Dv CN b9 ABD Dr AA_ ABQ AAS AAb AAF tz D5 G6 G7 EV FA Fl Uy vK)
def Ve(R7:P9)(yG:Ov)(t8:Int)(b0:AAH)(b1:AAh)(b2:AAH)(b3:AAo)(b4:AA1)(b5:ABB)(b6:AAs)(b7:AAX)(Dg Dv:Int)(CN:Bool)(b9:AAH)(ABD Dr AA_ ABQ:Int)(AAS:ACD)(AAb AAF:Int)(tz:Bool)(D5:AAH)(G6:AAh)(G7:AAH)(EV:AAo)(FA:AA1)(Fl:ABB)(Uy:AAs)(vK:AAX):Option JW:=
 cond ((decide (t8<(b5.length:Int))))
  (if(0:Int)≤t8∧t8<(b5.length:Int)then(
  (QH (b0,Dg,()) ((b5.getD (t8.toNat) (0,0,[],[],false,[],())).1,(b5.getD (t8.toNat) (0,0,[],[],false,[],())).2.1,(b5.getD (t8.toNat) (0,0,[],[],false,[],())).2.2.1,(b5.getD (t8.toNat) (0,0,[],[],false,[],())).2.2.2.1,(b5.getD (t8.toNat) (0,0,[],[],false,[],())).2.2.2.2.1,(b5.getD (t8.toNat) (0,0,[],[],false,[],())).2.2.2.2.2.1,()) Dr).bind fun u8=>
  if(0:Int)≤t8∧t8<(b5.length:Int)then(
  yG (AZ (t8+1)) b0 b1 b2 b3 b4 (b5.set (t8.toNat) (u8.1.1.1.1,u8.1.1.1.2.1,u8.2.1,u8.2.2.1,u8.1.1.1.2.2.2.2.1,u8.2.2.2.1,())) b6 b7 Dg Dv CN b9 ABD Dr AA_ ABQ AAS AAb AAF tz D5 G6 G7 EV FA Fl Uy vK)else none)else none)
 (cond (CN)
  (some (((((),Dg,(),(),(),Dv,(),(),(),(),true,()),0,()),()),(b0,b1,(),b3,b4,b5,b6,b7,b9,())))
 ((FQ (b0,Dg,()) b9).bind fun EY=>
 some (((((),Dg,(),(),(),Dv,(),(),(),(),EY.1.1,()),0,()),()),(b0,b1,(),b3,b4,b5,b6,b7,b9,()))))
mutual
def KB:Nat→P9
 |0=>fun _ _ _ _ _ _ _ _ _ _ _ _ _ _ _ _ _ _ _ _ _ _ _ _ _ _ _ _ _=>none
 |n+1=>Ww (KB n) (I3 n)
def I3:Nat→Ov
 |0=>fun _ _ _ _ _ _ _ _ _ _ _ _ _ _ _ _ _ _ _ _ _ _ _ _ _ _ _ _ _=>none
 |n+1=>Ve (KB n) (I3 n)
end
def XW(R7:P9)(yG:Ov)(CP CS:Int)(BT:Bool)(p1:ACh)(b0:AAH)(b1:AAh)(b2:AAH)(b3:AAo)(b4:AA1)(b5:ABB)(b6:AAs)(b7:AAX):Option JW:=
 (He (b0,CP,b1,b2,b3,CS,b4,b5,b6,b7,BT,()) p1.2.1).bind fun u1=>
 cond (u1.1.1 !=0)
  (some (((((),CP,(),(),(),CS,(),(),(),(),BT,()),u1.1.1,()),()),(b0,b1,(),b3,b4,b5,b6,b7,b2,())))
 (if(0:Int)≤p1.2.1∧p1.2.1<(b1.length:Int)then(
 (L8 b2 p1.2.1).bind fun u3=>
 R7 0 b0 (b1.set (p1.2.1.toNat) ([],[],0,())) b2 b3 b4 b5 b6 b7 CP CS BT u3.2.1 p1.1 p1.2.1 p1.2.2.1 p1.2.2.2.1 p1.2.2.2.2.1 0 0 false [] [] [] [] [] [] [] [])else none)
def V9(CP CS:Int)(BT:Bool)(p1:ACh)(b0:AAH)(b1:AAh)(b2:AAH)(b3:AAo)(b4:AA1)(b5:ABB)(b6:AAs)(b7:AAX):Option JW:=XW (KB Ae) (I3 Ae) CP CS BT p1 b0 b1 b2 b3 b4 b5 b6 b7
abbrev rb:Type:=ABT×Unit
def YS(p0:ABL)(p1:AAH):Option rb:=
 (Gr (p0.1,p0.2.1,()) p1).bind fun u1=>
 cond (u1.1.1)
  ((FQ (p0.1,p0.2.1,()) p1).bind fun u2=>
  some ((!u2.1.1,()),()))
 (some ((false,()),()))
abbrev J0:Type:=ACL×AEq
abbrev O2:Type:=AAh→Int→ABE→Option J0
abbrev PG:Type:=AAh→Int→Int→ABE→Option J0
def Vc(R3:O2)(R6:PG)(t0:AAh)(t4:Int)(b0:ABE):Option J0:=
 cond ((decide (t4<(t0.length:Int))))
  (R6 t0 t4 0 b0)
 (some (((),()),(b0,())))
def VK(R3:O2)(R6:PG)(t0:AAh)(t4 t5:Int)(b0:ABE):Option J0:=
 if(0:Int)≤t4∧t4<(t0.length:Int)then(
 cond (decide (t5<(((t0.getD (t4.toNat) ([],[],0,())).1).length:Int)))
  (if(0:Int)≤t4∧t4<(t0.length:Int)then(
  if(0:Int)≤t5∧t5<(((t0.getD (t4.toNat) ([],[],0,())).1).length:Int)then(
  (Q5 b0 ((((t0.getD (t4.toNat) ([],[],0,())).1).getD (t5.toNat) (0,0,false,[],())).1,(((t0.getD (t4.toNat) ([],[],0,())).1).getD (t5.toNat) (0,0,false,[],())).2.1,(((t0.getD (t4.toNat) ([],[],0,())).1).getD (t5.toNat) (0,0,false,[],())).2.2.1,(((t0.getD (t4.toNat) ([],[],0,())).1).getD (t5.toNat) (0,0,false,[],())).2.2.2.1,())).bind fun u3=>
  R6 t0 t4 (AZ (t5+1)) u3.2.1)else none)else none)
 (R3 t0 (AZ (t4+1)) b0))else none
mutual
def JD:Nat→O2
 |0=>fun _ _ _=>none
 |n+1=>Vc (JD n) (JA n)
def JA:Nat→PG
 |0=>fun _ _ _ _=>none
 |n+1=>VK (JD n) (JA n)
end
def ew(R3:O2)(R6:PG)(p0:AAh):Option J0:=
 R3 p0 0 []
def Za(p0:AAh):Option J0:=ew (JD Ae) (JA Ae) p0
abbrev OP:Type:=ADO×AGb
abbrev WC:Type:=List Int→Int→Int→AAh→Int→ABE→ABE→Int→ABE→ABE→AAh→Option OP
abbrev Tw:Type:=Int→Int→AAh→Int→ABE→ABE→Int→ABE→ABE→AAh→Option OP
def cG(R6:WC)(yG:Tw)(t2:AAH)(t4 t14:Int)(b0:AAh)(EF:Int)(b2 b3:ABE)(bH:Int)(b5 b6:ABE)(b7:AAh):Option OP:=
 cond ((decide (t14<(b0.length:Int))))
  ((DK t2 t14).bind fun u6=>
  cond (!u6.1.1)
   (if(0:Int)≤t14∧t14<(b0.length:Int)then(
   if b7.length+1≤Dw then(
   R6 t2 t4 (AZ (t14+1)) b0 EF b2 b3 bH b5 b6 (b7++[((b0.getD (t14.toNat) ([],[],0,())).1,(b0.getD (t14.toNat) ([],[],0,())).2.1,(b0.getD (t14.toNat) ([],[],0,())).2.2.1,())]))else none)else none)
  (R6 t2 t4 (AZ (t14+1)) b0 EF b2 b3 bH b5 b6 b7))
 (yG t4 0 b0 EF b2 b3 bH b5 b6 b7)
def aP(R6:WC)(yG:Tw)(t4 t15:Int)(b0:AAh)(EF:Int)(b2 b3:ABE)(bH:Int)(b5 b6:ABE)(b7:AAh):Option OP:=
 cond ((decide (t15<(b7.length:Int))))
  (if(0:Int)≤t15∧t15<(b7.length:Int)then(
  (Ge ((b7.getD (t15.toNat) ([],[],0,())).1,(b7.getD (t15.toNat) ([],[],0,())).2.1,(b7.getD (t15.toNat) ([],[],0,())).2.2.1,())).bind fun u9=>
  cond (!u9.1.1)
   (some (((((),(),bH,()),false,()),()),(b0,b5,b6,())))
  (yG t4 (AZ (t15+1)) b0 EF b2 b3 bH b5 b6 b7))else none)
 ((Za b7).bind fun EY=>
 (Ge (EY.2.1,[],t4,())).bind fun Nj=>
 cond (!Nj.1.1)
  (some (((((),(),bH,()),false,()),()),(b0,b5,b6,())))
 (some (((((),(),t4,()),true,()),()),(b0,EY.2.1,[],()))))
mutual
def PD:Nat→WC
 |0=>fun _ _ _ _ _ _ _ _ _ _ _=>none
 |n+1=>cG (PD n) (M4 n)
def M4:Nat→Tw
 |0=>fun _ _ _ _ _ _ _ _ _ _=>none
 |n+1=>aP (PD n) (M4 n)
end
def cI(R6:WC)(yG:Tw)(p0:ABL)(p2:AAH)(p3 p4:Int)(b0:AAh):Option OP:=
 (GU (p0.1,p0.2.1,())).bind fun u1=>
 cond (!u1.1.1)
  (some (((((),(),0,()),false,()),()),(b0,[],[],())))
 (cond (((b0.length:Int) !=(p0.1.length:Int)))
  (some (((((),(),0,()),false,()),()),(b0,[],[],())))
 ((YS (p0.1,p0.2.1,()) p2).bind fun u3=>
 cond (!u3.1.1)
  (some (((((),(),0,()),false,()),()),(b0,[],[],())))
 ((DK p2 p3).bind fun u4=>
 cond (!u4.1.1)
  (some (((((),(),0,()),false,()),()),(b0,[],[],())))
 (R6 p2 p4 0 b0 0 [] [] 0 [] [] []))))
def eS(p0:ABL)(p2:AAH)(p3 p4:Int)(b0:AAh):Option OP:=cI (PD Ae) (M4 Ae) p0 p2 p3 p4 b0
abbrev p7:Type:=ADJ×AGa
def Vv(CP CS:Int)(BT:Bool)(p1:ACh)(b0:AAH)(b1:AAh)(b2:AAH)(b3:AAo)(b4:AA1)(b5:ABB)(b6:AAs)(b7:AAX):Option p7:=
 (DK b2 p1.2.1).bind fun u1=>
 cond (!u1.1.1)
  (some (((((),CP,(),(),(),CS,(),(),(),(),BT,()),2,()),()),(b0,b1,(),b3,b4,b5,b6,b7,b2,())))
 ((L9 (AZ ((b3.length:Int)-1)) 0).bind fun u3=>
 (eS (b0,CP,()) b2 p1.2.1 u3.1.1 b1).bind fun u4=>
 cond (!u4.1.1.2.1)
  (some (((((),CP,(),(),(),CS,(),(),(),(),BT,()),4,()),()),(b0,u4.2.1,(),b3,b4,b5,b6,b7,b2,())))
 (if(0:Int)≤p1.2.1∧p1.2.1<(u4.2.1.length:Int)then(
 (Ir b2 [p1.2.1]).bind fun u6=>
 some (((((),CP,(),(),(),CS,(),(),(),(),BT,()),0,()),()),(b0,(u4.2.1.set (p1.2.1.toNat) (u4.2.2.1,u4.2.2.2.1,u4.1.1.1.2.2.1,())),(),b3,b4,b5,b6,b7,u6.2.1,())))else none))
abbrev pS:Type:=AE1×ADN
def jZ(p0 p1:Int):Option pS:=
 some (((p1,p0,(),(),false,(),()),()),([],[],[],()))
abbrev dP:Type:=ADJ×(List Int×AAh×List Int×AAo×AA1×Unit×AAs×AAX×ABB×Unit)
def Vx(CP CS:Int)(BT:Bool)(b0:AAH)(b1:AAh)(b2:AAH)(b3:AAo)(b4:AA1)(b5:ABB)(b6:AAs)(b7:AAX):Option dP:=
 (JO (b3,CS,())).bind fun u1=>
 cond ((decide ((b3.length:Int)<2)))
  (some (((((),CP,(),(),(),CS,(),(),(),(),BT,()),2,()),()),(b0,b1,b2,b3,b4,(),b6,b7,b5,())))
 (cond ((u1.1.1==(b3.length:Int)))
  (some (((((),CP,(),(),(),CS,(),(),(),(),BT,()),2,()),()),(b0,b1,b2,b3,b4,(),b6,b7,b5,())))
 (cond ((decide ((b5.length:Int)>0)))
  (some (((((),CP,(),(),(),CS,(),(),(),(),BT,()),4,()),()),(b0,b1,b2,b3,b4,(),b6,b7,b5,())))
 ((jZ u1.1.1 (b3.length:Int)).bind fun u5=>
 some (((((),CP,(),(),(),CS,(),(),(),(),BT,()),0,()),()),(b0,b1,b2,b3,b4,(),b6,b7,[(u5.1.1.1,u5.1.1.2.1,u5.2.1,u5.2.2.1,u5.1.1.2.2.2.2.1,u5.2.2.2.1,())],())))))
abbrev jz:Type:=ADO×ADM
def SR(p0:ACc)(p1:Int):Option jz:=
 (Ge (p0.1,p0.2.1,p0.2.2.1,())).bind fun u1=>
 cond (!u1.1.1)
  (some (((((),(),0,()),false,()),()),([],[],())))
 ((OD (p0.1,p0.2.1,p0.2.2.1,())).bind fun u2=>
 cond (!u2.1.1.2.1)
  ((Er (p0.1,p0.2.1,p0.2.2.1,())).bind fun u3=>
  some (((((),(),u3.1.1.2.2.1,()),false,()),()),(u3.2.1,u3.2.2.1,())))
 ((CK p1 0 30).bind fun u4=>
 cond (!u4.1.1)
  ((Er (p0.1,p0.2.1,p0.2.2.1,())).bind fun u5=>
  some (((((),(),u5.1.1.2.2.1,()),false,()),()),(u5.2.1,u5.2.2.1,())))
 ((L9 u2.1.1.1.2.2.1 p1).bind fun u6=>
 some (((((),(),u6.1.1,()),true,()),()),(u2.2.1,u2.2.2.1,())))))
abbrev Py:Type:=ACL×AEq
abbrev TY:Type:=Int→Int→ABE→ABE→Int→ABE→Option Py
def PU(R3:TY)(t1 t6:Int)(AR AF:ABE)(Ai:Int)(b1:ABE):Option Py:=
 cond ((decide (t6<(AR.length:Int))))
  ((Ge (AR,AF,Ai,())).bind fun u2=>
  cond (u2.1.1)
   (if(0:Int)≤t6∧t6<(AR.length:Int)then(
   (C0 ((AR.getD (t6.toNat) (0,0,false,[],())).1)).bind fun u4=>
   cond (u4.1.1==t1)
    (if(0:Int)≤t6∧t6<(AR.length:Int)then(
    if b1.length+1≤Dw then(
    R3 t1 (AZ (t6+1)) AR AF Ai (b1++[((AR.getD (t6.toNat) (0,0,false,[],())).1,(AR.getD (t6.toNat) (0,0,false,[],())).2.1,(AR.getD (t6.toNat) (0,0,false,[],())).2.2.1,(AR.getD (t6.toNat) (0,0,false,[],())).2.2.2.1,())]))else none)else none)
   (R3 t1 (AZ (t6+1)) AR AF Ai b1))else none)
  (some (((),()),(b1,()))))
 (some (((),()),(b1,())))
def JB:Nat→TY
 |0=>fun _ _ _ _ _ _=>none
 |n+1=>PU (JB n)
def VN(R3:TY)(p0:ACc)(p1:Int):Option Py:=
 R3 p1 0 p0.1 p0.2.1 p0.2.2.1 []
def T2(p0:ACc)(p1:Int):Option Py:=VN (JB Ae) p0 p1
abbrev QJ:Type:=AEP×ADN
abbrev Tc:Type:=ABE→Int→List Int→Int→Int→Int→List Int→ABE→Bool→List AAH→Int→Int→Bool→List Int→ABE→List AAH→Int→Int→Bool→List Int→ABE→List AAH→Option QJ
def VX(R6:Tc)(t3:ABE)(t11:Int)(AR:AAH)(AF CZ Bf:Int)(EF:AAH)(Gy:ABE)(MI:Bool)(EE:List AAH)(Zw mc:Int)(uL:Bool)(b3:AAH)(b4:ABE)(b5:List AAH)(tW uw:Int)(uK:Bool)(b7:AAH)(b8:ABE)(b9:List AAH):Option QJ:=
 cond ((decide (t11<(t3.length:Int))))
  (if(0:Int)≤t11∧t11<(t3.length:Int)then(
  (C0 ((t3.getD (t11.toNat) (0,0,false,[],())).1)).bind fun u6=>
  cond (u6.1.1==Bf)
   (if(0:Int)≤t11∧t11<(t3.length:Int)then(
   (Q5 b8 ((t3.getD (t11.toNat) (0,0,false,[],())).1,(t3.getD (t11.toNat) (0,0,false,[],())).2.1,(t3.getD (t11.toNat) (0,0,false,[],())).2.2.1,(t3.getD (t11.toNat) (0,0,false,[],())).2.2.2.1,())).bind fun u7=>
   R6 t3 (AZ (t11+1)) AR AF CZ Bf EF Gy MI EE Zw mc uL b3 b4 b5 tW uw uK b7 u7.2.1 b9)else none)
  (R6 t3 (AZ (t11+1)) AR AF CZ Bf EF Gy MI EE Zw mc uL b3 b4 b5 tW uw uK b7 b8 b9))else none)
 (cond (MI)
  ((ET (CZ,Bf,EF,Gy,MI,EE,())).bind fun u8=>
  some ((((u8.1.1.1,u8.1.1.2.1,(),(),u8.1.1.2.2.2.2.1,(),()),false,()),()),(u8.2.1,u8.2.2.1,u8.2.2.2.1,())))
 ((Ix (AR,AF,()) (tW,uw,b7,b8,uK,b9,())).bind fun u9=>
 cond (!u9.1.1)
  ((ET (CZ,Bf,EF,Gy,MI,EE,())).bind fun EY=>
  some ((((EY.1.1.1,EY.1.1.2.1,(),(),EY.1.1.2.2.2.2.1,(),()),false,()),()),(EY.2.1,EY.2.2.1,EY.2.2.2.1,())))
 (some ((((tW,uw,(),(),uK,(),()),true,()),()),(b7,b8,b9,())))))
def Lo:Nat→Tc
 |0=>fun _ _ _ _ _ _ _ _ _ _ _ _ _ _ _ _ _ _ _ _ _ _=>none
 |n+1=>VX (Lo n)
def VY(R6:Tc)(p0:ABL)(p1:ABZ)(p2:Int)(p3:ABE):Option QJ:=
 (Ix (p0.1,p0.2.1,()) (p1.1,p1.2.1,p1.2.2.1,p1.2.2.2.1,p1.2.2.2.2.1,p1.2.2.2.2.2.1,())).bind fun u1=>
 cond (!u1.1.1)
  (some ((((0,0,(),(),false,(),()),false,()),()),([],[],[],())))
 ((ET (p1.1,p1.2.1,p1.2.2.1,p1.2.2.2.1,p1.2.2.2.2.1,p1.2.2.2.2.2.1,())).bind fun u2=>
 (L8 u2.2.1 p2).bind fun u3=>
 R6 p3 0 p0.1 p0.2.1 p1.1 p1.2.1 p1.2.2.1 p1.2.2.2.1 p1.2.2.2.2.1 p1.2.2.2.2.2.1 0 0 false [] [] [] u2.1.1.1 u2.1.1.2.1 u2.1.1.2.2.2.2.1 u3.2.1 u2.2.2.1 u2.2.2.2.1)
def T4(p0:ABL)(p1:ABZ)(p2:Int)(p3:ABE):Option QJ:=VY (Lo Ae) p0 p1 p2 p3
abbrev pd:Type:=ADJ×ADK
def WM(CP CS:Int)(BT:Bool)(p1:ACh)(b0:AAH)(b1:AAh)(b2:AAH)(b3:AAo)(b4:AA1)(b5:ABB)(b6:AAs)(b7:AAX):Option pd:=
 cond (((b5.length:Int)==0))
  (some (((((),CP,(),(),(),CS,(),(),(),(),BT,()),2,()),()),(b0,b1,b2,b3,b4,b5,b6,b7,())))
 (if(0:Int)≤(0:Int)∧(0:Int)<(b5.length:Int)then(
 (He (b0,CP,b1,b2,b3,CS,b4,b5,b6,b7,BT,()) p1.2.1).bind fun u2=>
 cond (u2.1.1 !=0)
  (some (((((),CP,(),(),(),CS,(),(),(),(),BT,()),u2.1.1,()),()),(b0,b1,b2,b3,b4,b5,b6,b7,())))
 ((Ce (b3,CS,()) ((b5.getD 0 (0,0,[],[],false,[],())).2.1)).bind fun u4=>
 (DK u4.2.1 p1.2.1).bind fun u5=>
 cond (!u5.1.1)
  (some (((((),CP,(),(),(),CS,(),(),(),(),BT,()),2,()),()),(b0,b1,b2,b3,b4,b5,b6,b7,())))
 (if(0:Int)≤p1.2.1∧p1.2.1<(b1.length:Int)then(
 (SR ((b1.getD (p1.2.1.toNat) ([],[],0,())).1,(b1.getD (p1.2.1.toNat) ([],[],0,())).2.1,(b1.getD (p1.2.1.toNat) ([],[],0,())).2.2.1,()) (AZ (((b5.getD 0 (0,0,[],[],false,[],())).1)-1))).bind fun u7=>
 (T2 (u7.2.1,u7.2.2.1,u7.1.1.1.2.2.1,()) ((b5.getD 0 (0,0,[],[],false,[],())).2.1)).bind fun u9=>
 (T4 (b0,CP,()) ((b5.getD 0 (0,0,[],[],false,[],())).1,(b5.getD 0 (0,0,[],[],false,[],())).2.1,(b5.getD 0 (0,0,[],[],false,[],())).2.2.1,(b5.getD 0 (0,0,[],[],false,[],())).2.2.2.1,(b5.getD 0 (0,0,[],[],false,[],())).2.2.2.2.1,(b5.getD 0 (0,0,[],[],false,[],())).2.2.2.2.2.1,()) p1.2.1 u9.2.1).bind fun EY=>
 cond (!u7.1.1.2.1)
  (some (((((),CP,(),(),(),CS,(),(),(),(),BT,()),4,()),()),(b0,b1,b2,b3,b4,b5,b6,b7,())))
 (cond (!EY.1.1.2.1)
  (some (((((),CP,(),(),(),CS,(),(),(),(),BT,()),4,()),()),(b0,b1,b2,b3,b4,b5,b6,b7,())))
 (if(0:Int)≤p1.2.1∧p1.2.1<(b1.length:Int)then(
 if(0:Int)≤(0:Int)∧(0:Int)<(b5.length:Int)then(
 some (((((),CP,(),(),(),CS,(),(),(),(),BT,()),0,()),()),(b0,(b1.set (p1.2.1.toNat) (u7.2.1,u7.2.2.1,u7.1.1.1.2.2.1,())),b2,b3,b4,(b5.set 0 (EY.1.1.1.1,EY.1.1.1.2.1,EY.2.1,EY.2.2.1,EY.1.1.1.2.2.2.2.1,EY.2.2.2.1,())),b6,b7,())))else none)else none)))else none)))else none)
abbrev rK:Type:=ACL×ACr
def Kb(p0 p1:AAH):Option rK:=
 (Ir p0 p1).bind fun u1=>
 (Ir p0 u1.2.1).bind fun u2=>
 some (((),()),(u2.2.1,()))
abbrev q_:Type:=ABT×Unit
def KP(p0:ABL)(p1 p2:AAH):Option q_:=
 (FQ (p0.1,p0.2.1,()) p1).bind fun u1=>
 cond (!u1.1.1)
  (some ((false,()),()))
 ((Gr (p0.1,p0.2.1,()) p2).bind fun u2=>
 cond (!u2.1.1)
  (some ((false,()),()))
 ((Ir p2 p1).bind fun u3=>
 cond (decide ((u3.2.1.length:Int)>0))
  (some ((false,()),()))
 ((Ir p1 p2).bind fun u5=>
 (US (p0.1,p0.2.1,()) u5.2.1).bind fun u6=>
 some (((decide (u6.1.1<p0.2.1)),()),()))))
abbrev P0:Type:=AEP×ADN
abbrev TP:Type:=Int→Int→Int→List Int→ABE→Bool→List AAH→Int→Int→Bool→List Int→ABE→List AAH→Int→Int→Bool→List Int→ABE→List AAH→Option P0
def VG(R8:TP)(t9 AR AF:Int)(Ai:AAH)(Bk:ABE)(B_:Bool)(AU:List AAH)(CZ Bf:Int)(MI:Bool)(b2:AAH)(b3:ABE)(b4:List AAH)(AEC AD8:Int)(AE2:Bool)(b6:AAH)(b7:ABE)(b8:List AAH):Option P0:=
 (Q8 (AR,AF,Ai,Bk,B_,AU,())).bind fun u5=>
 cond (decide (t9<u5.1.1))
  (if b8.length+1≤Dw then(
  R8 (AZ (t9+1)) AR AF Ai Bk B_ AU CZ Bf MI b2 b3 b4 AEC AD8 AE2 b6 b7 (b8++[[]]))else none)
 (some ((((AEC,AD8,(),(),AE2,(),()),true,()),()),(b6,b7,b8,())))
def K6:Nat→TP
 |0=>fun _ _ _ _ _ _ _ _ _ _ _ _ _ _ _ _ _ _ _=>none
 |n+1=>VG (K6 n)
def VS(R8:TP)(p0:ABL)(p1:ABZ)(p2:AAH):Option P0:=
 (Ix (p0.1,p0.2.1,()) (p1.1,p1.2.1,p1.2.2.1,p1.2.2.2.1,p1.2.2.2.2.1,p1.2.2.2.2.2.1,())).bind fun u1=>
 cond (!u1.1.1)
  (some ((((0,0,(),(),false,(),()),false,()),()),([],[],[],())))
 ((ET (p1.1,p1.2.1,p1.2.2.1,p1.2.2.2.1,p1.2.2.2.2.1,p1.2.2.2.2.2.1,())).bind fun u2=>
 cond (p1.2.2.2.2.1)
  (some ((((u2.1.1.1,u2.1.1.2.1,(),(),u2.1.1.2.2.2.2.1,(),()),false,()),()),(u2.2.1,u2.2.2.1,u2.2.2.2.1,())))
 ((Kb p1.2.2.1 p2).bind fun u3=>
 (KP (p0.1,p0.2.1,()) p2 u3.2.1).bind fun u4=>
 cond (!u4.1.1)
  (some ((((u2.1.1.1,u2.1.1.2.1,(),(),u2.1.1.2.2.2.2.1,(),()),false,()),()),(u2.2.1,u2.2.2.1,u2.2.2.2.1,())))
 (R8 0 p1.1 p1.2.1 p1.2.2.1 p1.2.2.2.1 p1.2.2.2.2.1 p1.2.2.2.2.2.1 0 0 false [] [] [] u2.1.1.1 u2.1.1.2.1 true u2.2.1 u2.2.2.1 u2.2.2.2.1)))
def Tu(p0:ABL)(p1:ABZ)(p2:AAH):Option P0:=VS (K6 Ae) p0 p1 p2
abbrev qg:Type:=ADJ×ADK
def V3(CP CS:Int)(BT:Bool)(b0:AAH)(b1:AAh)(b2:AAH)(b3:AAo)(b4:AA1)(b5:ABB)(b6:AAs)(b7:AAX):Option qg:=
 cond (((b5.length:Int)==0))
  (some (((((),CP,(),(),(),CS,(),(),(),(),BT,()),2,()),()),(b0,b1,b2,b3,b4,b5,b6,b7,())))
 (if(0:Int)≤(0:Int)∧(0:Int)<(b5.length:Int)then(
 if(0:Int)≤(0:Int)∧(0:Int)<(b5.length:Int)then(
 (Ce (b3,CS,()) ((b5.getD 0 (0,0,[],[],false,[],())).2.1)).bind fun u3=>
 (Tu (b0,CP,()) ((b5.getD 0 (0,0,[],[],false,[],())).1,(b5.getD 0 (0,0,[],[],false,[],())).2.1,(b5.getD 0 (0,0,[],[],false,[],())).2.2.1,(b5.getD 0 (0,0,[],[],false,[],())).2.2.2.1,(b5.getD 0 (0,0,[],[],false,[],())).2.2.2.2.1,(b5.getD 0 (0,0,[],[],false,[],())).2.2.2.2.2.1,()) u3.2.1).bind fun u4=>
 cond (!u4.1.1.2.1)
  (some (((((),CP,(),(),(),CS,(),(),(),(),BT,()),4,()),()),(b0,b1,b2,b3,b4,b5,b6,b7,())))
 (if(0:Int)≤(0:Int)∧(0:Int)<(b5.length:Int)then(
 some (((((),CP,(),(),(),CS,(),(),(),(),BT,()),0,()),()),(b0,b1,b2,b3,b4,(b5.set 0 (u4.1.1.1.1,u4.1.1.1.2.1,u4.2.1,u4.2.2.1,u4.1.1.1.2.2.2.2.1,u4.2.2.2.1,())),b6,b7,())))else none))else none)else none)
abbrev rU:Type:=ADJ×ADK
def Yr(CP CS:Int)(BT:Bool)(p1:ACh)(b0:AAH)(b1:AAh)(b2:AAH)(b3:AAo)(b4:AA1)(b5:ABB)(b6:AAs)(b7:AAX):Option rU:=
 cond (((b5.length:Int)==0))
  (some (((((),CP,(),(),(),CS,(),(),(),(),BT,()),2,()),()),(b0,b1,b2,b3,b4,b5,b6,b7,())))
 (if(0:Int)≤(0:Int)∧(0:Int)<(b5.length:Int)then(
 (Ew ((b5.getD 0 (0,0,[],[],false,[],())).1,(b5.getD 0 (0,0,[],[],false,[],())).2.1,(b5.getD 0 (0,0,[],[],false,[],())).2.2.1,(b5.getD 0 (0,0,[],[],false,[],())).2.2.2.1,(b5.getD 0 (0,0,[],[],false,[],())).2.2.2.2.1,(b5.getD 0 (0,0,[],[],false,[],())).2.2.2.2.2.1,()) p1.2.2.1).bind fun u2=>
 cond (!u2.1.1.2.1)
  (some (((((),CP,(),(),(),CS,(),(),(),(),BT,()),2,()),()),(b0,b1,b2,b3,b4,b5,b6,b7,())))
 ((He (b0,CP,b1,b2,b3,CS,b4,b5,b6,b7,BT,()) p1.2.2.2.1).bind fun u3=>
 cond (u3.1.1 !=0)
  (some (((((),CP,(),(),(),CS,(),(),(),(),BT,()),u3.1.1,()),()),(b0,b1,b2,b3,b4,b5,b6,b7,())))
 (if(0:Int)≤(0:Int)∧(0:Int)<(b5.length:Int)then(
 (Ce (b3,CS,()) ((b5.getD 0 (0,0,[],[],false,[],())).2.1)).bind fun u5=>
 (DK u5.2.1 p1.2.2.2.1).bind fun u6=>
 cond (!u6.1.1)
  (some (((((),CP,(),(),(),CS,(),(),(),(),BT,()),2,()),()),(b0,b1,b2,b3,b4,b5,b6,b7,())))
 (if(0:Int)≤p1.2.2.2.1∧p1.2.2.2.1<(b1.length:Int)then(
 (Pp ((b1.getD (p1.2.2.2.1.toNat) ([],[],0,())).1,(b1.getD (p1.2.2.2.1.toNat) ([],[],0,())).2.1,(b1.getD (p1.2.2.2.1.toNat) ([],[],0,())).2.2.1,()) (u2.1.1.1.1,u2.1.1.1.2.1,u2.1.1.1.2.2.1,u2.1.1.1.2.2.2.1,())).bind fun u7=>
 cond (!u7.1.1.2.1)
  (some (((((),CP,(),(),(),CS,(),(),(),(),BT,()),4,()),()),(b0,b1,b2,b3,b4,b5,b6,b7,())))
 (if(0:Int)≤p1.2.2.2.1∧p1.2.2.2.1<(b1.length:Int)then(
 some (((((),CP,(),(),(),CS,(),(),(),(),BT,()),0,()),()),(b0,(b1.set (p1.2.2.2.1.toNat) (u7.2.1,u7.2.2.1,u7.1.1.1.2.2.1,())),b2,b3,b4,b5,b6,b7,())))else none))else none))else none)))else none)
abbrev PH:Type:=ABT×Unit
abbrev Rc:Type:=Int→List Int→Int→Int→Int→List Int→ABE→Bool→List AAH→Option PH
def Ud(R4:Rc)(t5:Int)(AR:AAH)(AF CZ Bf:Int)(EF:AAH)(Gy:ABE)(MI:Bool)(EE:List AAH):Option PH:=
 cond ((decide (t5<(EE.length:Int))))
  (if(0:Int)≤t5∧t5<(EE.length:Int)then(
  (FQ (AR,AF,()) (EE.getD (t5.toNat) [])).bind fun u3=>
  cond (!u3.1.1)
   (some ((false,()),()))
  (R4 (AZ (t5+1)) AR AF CZ Bf EF Gy MI EE))else none)
 (some ((true,()),()))
def KW:Nat→Rc
 |0=>fun _ _ _ _ _ _ _ _ _=>none
 |n+1=>Ud (KW n)
def Ub(R4:Rc)(p0:ABL)(p1:ABZ):Option PH:=
 (Ix (p0.1,p0.2.1,()) (p1.1,p1.2.1,p1.2.2.1,p1.2.2.2.1,p1.2.2.2.2.1,p1.2.2.2.2.2.1,())).bind fun u1=>
 cond (!u1.1.1)
  (some ((false,()),()))
 (cond (!p1.2.2.2.2.1)
  (some ((false,()),()))
 (R4 0 p0.1 p0.2.1 p1.1 p1.2.1 p1.2.2.1 p1.2.2.2.1 p1.2.2.2.2.1 p1.2.2.2.2.2.1))
def SC(p0:ABL)(p1:ABZ):Option PH:=Ub (KW Ae) p0 p1
abbrev nK:Type:=AFb×ADz
def T1(p0:ABL)(p1:ABk)(p2 p3:Int):Option nK:=
 (MQ (p0.1,p0.2.1,()) (p1.1,p1.2.1,())).bind fun u1=>
 cond (!u1.1.1)
  (some (((((),0,()),false,()),()),([],())))
 ((GH (p1.1,p1.2.1,())).bind fun u2=>
 (JO (p1.1,p1.2.1,())).bind fun u3=>
 cond ((p2 !=(p1.1.length:Int)))
  (some (((((),u2.1.1.2.1,()),false,()),()),(u2.2.1,())))
 (cond (u3.1.1==0)
  (some (((((),u2.1.1.2.1,()),false,()),()),(u2.2.1,())))
 (cond (p2==u3.1.1)
  (some (((((),u2.1.1.2.1,()),false,()),()),(u2.2.1,())))
 ((CK p3 0 60).bind fun u5=>
 cond (!u5.1.1)
  (some (((((),u2.1.1.2.1,()),false,()),()),(u2.2.1,())))
 (if(0:Int)≤AZ (u3.1.1-1)∧AZ (u3.1.1-1)<(u2.2.1.length:Int)then(
 let x6:AAo:=(u2.2.1.set ((AZ (u3.1.1-1)).toNat) ((u2.2.1.getD ((AZ (u3.1.1-1)).toNat) ([],false,0,())).1,true,(u2.2.1.getD ((AZ (u3.1.1-1)).toNat) ([],false,0,())).2.2.1,()))
 if(0:Int)≤AZ (u3.1.1-1)∧AZ (u3.1.1-1)<(x6.length:Int)then(
 some (((((),u2.1.1.2.1,()),true,()),()),((x6.set ((AZ (u3.1.1-1)).toNat) ((x6.getD ((AZ (u3.1.1-1)).toNat) ([],false,0,())).1,(x6.getD ((AZ (u3.1.1-1)).toNat) ([],false,0,())).2.1,p3,())),())))else none)else none)))))
abbrev bg:Type:=ADJ×(List Int×AAh×List Int×Unit×AA1×Unit×AAs×AAX×AAo×ABB×Unit)
def Tz(CP CS:Int)(BT:Bool)(b0:AAH)(b1:AAh)(b2:AAH)(b3:AAo)(b4:AA1)(b5:ABB)(b6:AAs)(b7:AAX):Option bg:=
 cond (((b5.length:Int)==0))
  (some (((((),CP,(),(),(),CS,(),(),(),(),BT,()),2,()),()),(b0,b1,b2,(),b4,(),b6,b7,b3,b5,())))
 (if(0:Int)≤(0:Int)∧(0:Int)<(b5.length:Int)then(
 (SC (b0,CP,()) ((b5.getD 0 (0,0,[],[],false,[],())).1,(b5.getD 0 (0,0,[],[],false,[],())).2.1,(b5.getD 0 (0,0,[],[],false,[],())).2.2.1,(b5.getD 0 (0,0,[],[],false,[],())).2.2.2.1,(b5.getD 0 (0,0,[],[],false,[],())).2.2.2.2.1,(b5.getD 0 (0,0,[],[],false,[],())).2.2.2.2.2.1,())).bind fun u2=>
 cond (!u2.1.1)
  (some (((((),CP,(),(),(),CS,(),(),(),(),BT,()),5,()),()),(b0,b1,b2,(),b4,(),b6,b7,b3,b5,())))
 (if(0:Int)≤(0:Int)∧(0:Int)<(b5.length:Int)then(
 if(0:Int)≤(0:Int)∧(0:Int)<(b5.length:Int)then(
 (T1 (b0,CP,()) (b3,CS,()) ((b5.getD 0 (0,0,[],[],false,[],())).1) (((b5.getD 0 (0,0,[],[],false,[],())).2.2.2.2.2.1).length:Int)).bind fun u5=>
 cond (!u5.1.1.2.1)
  (some (((((),CP,(),(),(),CS,(),(),(),(),BT,()),4,()),()),(b0,b1,b2,(),b4,(),b6,b7,b3,b5,())))
 (some (((((),CP,(),(),(),u5.1.1.1.2.1,(),(),(),(),BT,()),0,()),()),(b0,b1,b2,(),b4,(),b6,b7,u5.2.1,[],()))))else none)else none))else none)
abbrev pR:Type:=AFb×ADz
def Vs(p0:ABL)(p1:ABk)(p2:Int):Option pR:=
 (MQ (p0.1,p0.2.1,()) (p1.1,p1.2.1,())).bind fun u1=>
 cond (!u1.1.1)
  (some (((((),0,()),false,()),()),([],())))
 ((GH (p1.1,p1.2.1,())).bind fun u2=>
 (Hd p2).bind fun u3=>
 cond (!u3.1.1)
  (some (((((),u2.1.1.2.1,()),false,()),()),(u2.2.1,())))
 ((C0 p2).bind fun u4=>
 cond ((decide (u4.1.1>(p1.1.length:Int))))
  (some (((((),u2.1.1.2.1,()),false,()),()),(u2.2.1,())))
 ((L9 u2.1.1.2.1 p2).bind fun u6=>
 some (((((),u6.1.1,()),true,()),()),(u2.2.1,())))))
abbrev NP:Type:=ABg×Unit
abbrev QZ:Type:=Int→Int→AB7→Option NP
def Sx(R2:QZ)(t3 AR:Int)(AF:AB7):Option NP:=
 cond ((decide (t3<(AF.length:Int))))
  (if(0:Int)≤t3∧t3<(AF.length:Int)then(
  cond (((AF.getD (t3.toNat) ([],[],false,())).2.2.1))
   (R2 (AZ (t3+1)) AR AF)
  (some ((t3,()),())))else none)
 (some ((t3,()),()))
def Ja:Nat→QZ
 |0=>fun _ _ _=>none
 |n+1=>Sx (Ja n)
def cW(R2:QZ)(p0:ACI):Option NP:=
 R2 0 p0.1 p0.2.1
def U1(p0:ACI):Option NP:=cW (Ja Ae) p0
abbrev Tl:Type:=ABg×Unit
abbrev XQ:Type:=Int→Int→List Int→Int→AAh→List Int→AAo→Int→AA1→ABB→AAs→AAX→Bool→Option Tl
def YB(R2:XQ)(t1 t5:Int)(AR:AAH)(AF:Int)(Ai:AAh)(Bk:AAH)(B_:AAo)(AU:Int)(B9:AA1)(B4:ABB)(CH:AAs)(CT:AAX)(AK:Bool):Option Tl:=
 cond ((decide (t5<(B9.length:Int))))
  (if(0:Int)≤t5∧t5<(B9.length:Int)then(
  cond (((B9.getD (t5.toNat) (0,[],())).1)==t1)
   (if(0:Int)≤t5∧t5<(B9.length:Int)then(
   (U1 ((B9.getD (t5.toNat) (0,[],())).1,(B9.getD (t5.toNat) (0,[],())).2.1,())).bind fun u3=>
   some ((u3.1.1,()),()))else none)
  (R2 t1 (AZ (t5+1)) AR AF Ai Bk B_ AU B9 B4 CH CT AK))else none)
 (some ((0,()),()))
def OY:Nat→XQ
 |0=>fun _ _ _ _ _ _ _ _ _ _ _ _ _=>none
 |n+1=>YB (OY n)
def iM(R2:XQ)(p0:ABN)(p1:Int):Option Tl:=
 R2 p1 0 p0.1 p0.2.1 p0.2.2.1 p0.2.2.2.1 p0.2.2.2.2.1 p0.2.2.2.2.2.1 p0.2.2.2.2.2.2.1 p0.2.2.2.2.2.2.2.1 p0.2.2.2.2.2.2.2.2.1 p0.2.2.2.2.2.2.2.2.2.1 p0.2.2.2.2.2.2.2.2.2.2.1
def dN(p0:ABN)(p1:Int):Option Tl:=iM (OY Ae) p0 p1
abbrev NT:Type:=ACL×(ACv×Unit)
abbrev Qh:Type:=Int→List Int→Int→AAh→List Int→AAo→Int→AA1→ABB→AAs→AAX→Bool→Int→Int→ADH→ACv→List Int→Option NT
def Sq(R4:Qh)(t9:Int)(AR:AAH)(AF:Int)(Ai:AAh)(Bk:AAH)(B_:AAo)(AU:Int)(B9:AA1)(B4:ABB)(CH:AAs)(CT:AAX)(AK:Bool)(CZ Bf:Int)(EF:ADH)(b2:ACv)(b3:AAH):Option NT:=
 cond ((decide (t9<(b3.length:Int))))
  (if(0:Int)≤t9∧t9<(b3.length:Int)then(
  (He (AR,AF,Ai,Bk,B_,AU,B9,B4,CH,CT,AK,()) (b3.getD (t9.toNat) 0)).bind fun u4=>
  cond (u4.1.1 !=0)
   (R4 (AZ (t9+1)) AR AF Ai Bk B_ AU B9 B4 CH CT AK CZ Bf EF b2 b3)
  (if(0:Int)≤t9∧t9<(b3.length:Int)then(
  let x5:Int:=(b3.getD (t9.toNat) 0)
  if(0:Int)≤x5∧x5<(Ai.length:Int)then(
  (Ec CZ Bf).bind fun u6=>
  (HV ((Ai.getD (x5.toNat) ([],[],0,())).1) u6.1.1).bind fun u7=>
  if(0:Int)≤t9∧t9<(b3.length:Int)then(
  if b2.length+1≤Dw then(
  R4 (AZ (t9+1)) AR AF Ai Bk B_ AU B9 B4 CH CT AK CZ Bf EF (b2++[((b3.getD (t9.toNat) 0),u7.1.1.2.1,u7.1.1.1.1,u7.1.1.1.2.1,u7.1.1.1.2.2.1,u7.1.1.1.2.2.2.1,())]) b3)else none)else none)else none)else none))else none)
 (some (((),()),(b2,())))
def JH:Nat→Qh
 |0=>fun _ _ _ _ _ _ _ _ _ _ _ _ _ _ _ _ _=>none
 |n+1=>Sq (JH n)
def S1(R4:Qh)(p0:ABN)(p1:ADF)(p2:Int):Option NT:=
 (Og p2).bind fun u1=>
 R4 0 p0.1 p0.2.1 p0.2.2.1 p0.2.2.2.1 p0.2.2.2.2.1 p0.2.2.2.2.2.1 p0.2.2.2.2.2.2.1 p0.2.2.2.2.2.2.2.1 p0.2.2.2.2.2.2.2.2.1 p0.2.2.2.2.2.2.2.2.2.1 p0.2.2.2.2.2.2.2.2.2.2.1 p1.1 p1.2.1 p1.2.2.1 [] u1.2.1
def Pz(p0:ABN)(p1:ADF)(p2:Int):Option NT:=S1 (JH Ae) p0 p1 p2
abbrev QE:Type:=((Unit×Bool×Unit)×Unit)×ACr
abbrev Td:Type:=ACv→Int→List Int→Int→List Int→Option QE
def Vk(R3:Td)(t1:ACv)(t7:Int)(AR:AAH)(AF:Int)(b1:AAH):Option QE:=
 cond ((decide (t7<(t1.length:Int))))
  (if(0:Int)≤t7∧t7<(t1.length:Int)then(
  if b1.length+1≤Dw then(
  R3 t1 (AZ (t7+1)) AR AF (b1++[((t1.getD (t7.toNat) (0,false,0,0,false,[],())).1)]))else none)else none)
 ((Gr (AR,AF,()) b1).bind fun u3=>
 some ((((),u3.1.1,()),()),(b1,())))
def LB:Nat→Td
 |0=>fun _ _ _ _ _=>none
 |n+1=>Vk (LB n)
def e_(R3:Td)(p0:ABL)(p1:ACv):Option QE:=
 R3 p1 0 p0.1 p0.2.1 []
def ZN(p0:ABL)(p1:ACv):Option QE:=e_ (LB Ae) p0 p1
abbrev pW:Type:=AFi×AEs
def Ia(p0:ADF)(p1:AFD)(p2 p3:Int):Option pW:=
 (CR (p0.1,p0.2.1,p0.2.2.1,())).bind fun u1=>
 if u1.2.1.length+1≤Dw then(
 some (((p2,p3,(),()),()),((u1.2.1++[(p1.1,p1.2.1,p1.2.2.1,())]),())))else none
abbrev R_:Type:=(AFD×Unit)×Unit
abbrev U6:Type:=List Int→Int→ACv→Bool→Int→Int→Int→List UInt8→Int→Int→Bool→List UInt8→Option R_
def Wc(R4:U6)(t0:AAH)(t1:Int)(t2:ACv)(t8:Bool)(t9 AR AF:Int)(Ai:ACD)(CZ Bf:Int)(EF:Bool)(Gy:ACD):Option R_:=
 cond ((decide (t9<(t2.length:Int))))
  (if(0:Int)≤t9∧t9<(t2.length:Int)then(
  cond (!((t2.getD (t9.toNat) (0,false,0,0,false,[],())).2.1))
   (R4 t0 t1 t2 t8 (AZ (t9+1)) AR AF Ai CZ Bf EF Gy)
  ((DK t0 ((t2.getD (t9.toNat) (0,false,0,0,false,[],())).1)).bind fun u4=>
  cond (!u4.1.1)
   (R4 t0 t1 t2 t8 (AZ (t9+1)) AR AF Ai CZ Bf EF Gy)
  ((MH ((t2.getD (t9.toNat) (0,false,0,0,false,[],())).2.2.1,(t2.getD (t9.toNat) (0,false,0,0,false,[],())).2.2.2.1,(t2.getD (t9.toNat) (0,false,0,0,false,[],())).2.2.2.2.1,(t2.getD (t9.toNat) (0,false,0,0,false,[],())).2.2.2.2.2.1,())).bind fun u5=>
  cond (!u5.1.1)
   (R4 t0 t1 t2 t8 (AZ (t9+1)) AR AF Ai CZ Bf EF Gy)
  (cond (((t2.getD (t9.toNat) (0,false,0,0,false,[],())).2.2.1) !=t1)
   (R4 t0 t1 t2 t8 (AZ (t9+1)) AR AF Ai CZ Bf EF Gy)
  (cond (!t8)
   ((RF ((t2.getD (t9.toNat) (0,false,0,0,false,[],())).2.2.1,(t2.getD (t9.toNat) (0,false,0,0,false,[],())).2.2.2.1,(t2.getD (t9.toNat) (0,false,0,0,false,[],())).2.2.2.2.1,(t2.getD (t9.toNat) (0,false,0,0,false,[],())).2.2.2.2.2.1,()) ((t2.getD (t9.toNat) (0,false,0,0,false,[],())).2.2.1,(t2.getD (t9.toNat) (0,false,0,0,false,[],())).2.2.2.1,(t2.getD (t9.toNat) (0,false,0,0,false,[],())).2.2.2.2.1,(t2.getD (t9.toNat) (0,false,0,0,false,[],())).2.2.2.2.2.1,())).bind fun u7=>
   R4 t0 t1 t2 true (AZ (t9+1)) AR AF Ai u7.1.1.1 u7.1.1.2.1 u7.1.1.2.2.1 u7.1.1.2.2.2.1)
  ((RF (CZ,Bf,EF,Gy,()) ((t2.getD (t9.toNat) (0,false,0,0,false,[],())).2.2.1,(t2.getD (t9.toNat) (0,false,0,0,false,[],())).2.2.2.1,(t2.getD (t9.toNat) (0,false,0,0,false,[],())).2.2.2.2.1,(t2.getD (t9.toNat) (0,false,0,0,false,[],())).2.2.2.2.2.1,())).bind fun u8=>
  R4 t0 t1 t2 true (AZ (t9+1)) AR AF Ai u8.1.1.1 u8.1.1.2.1 u8.1.1.2.2.1 u8.1.1.2.2.2.1))))))else none)
 (cond (!t8)
  (some (((3,t1,[],()),()),()))
 (cond (EF)
  (some (((2,t1,[],()),()),()))
 (some (((1,t1,Gy,()),()),()))))
def Ms:Nat→U6
 |0=>fun _ _ _ _ _ _ _ _ _ _ _ _=>none
 |n+1=>Wc (Ms n)
def gq(R4:U6)(p0:AAH)(p1:Int)(p2:ACv):Option R_:=
 R4 p0 p1 p2 false 0 0 0 [] 0 0 false []
def MR(p0:AAH)(p1:Int)(p2:ACv):Option R_:=gq (Ms Ae) p0 p1 p2
abbrev YP:Type:=(AGX×Unit)×AEs
def P8(p0:ABL)(p1:ABk)(p2:Int)(p3:ADF)(p4:ACv):Option YP:=
 (ZN (p0.1,p0.2.1,()) p4).bind fun u1=>
 (MQ (p0.1,p0.2.1,()) (p1.1,p1.2.1,())).bind fun u2=>
 cond (!u2.1.1)
  (some ((((0,0,(),()),1,()),()),([],())))
 ((M7 (p3.1,p3.2.1,p3.2.2.1,())).bind fun u3=>
 cond (!u3.1.1)
  (some ((((0,0,(),()),1,()),()),([],())))
 (cond (!u1.1.1.2.1)
  (some ((((0,0,(),()),1,()),()),([],())))
 (cond ((decide (p3.1>(p1.1.length:Int))))
  ((CR (p3.1,p3.2.1,p3.2.2.1,())).bind fun u5=>
  some ((((u5.1.1.1,u5.1.1.2.1,(),()),2,()),()),(u5.2.1,())))
 (cond ((p3.2.2.1.length:Int)==120)
  ((CR (p3.1,p3.2.1,p3.2.2.1,())).bind fun u7=>
  some ((((u7.1.1.1,u7.1.1.2.1,(),()),2,()),()),(u7.2.1,())))
 (if(0:Int)≤AZ (p3.1-1)∧AZ (p3.1-1)<(p1.1.length:Int)then(
 (Ec p3.1 p3.2.1).bind fun u8=>
 cond ((decide (p1.2.1≥u8.1.1)))
  ((C0 p1.2.1).bind fun EY=>
  (HM p1.2.1).bind fun Nj=>
  (Ia (p3.1,p3.2.1,p3.2.2.1,()) (5,p1.2.1,[],()) EY.1.1 (AZ (Nj.1.1+1))).bind fun bp=>
  some ((((bp.1.1.1,bp.1.1.2.1,(),()),0,()),()),(bp.2.1,())))
 (cond (((p1.1.getD ((AZ (p3.1-1)).toNat) ([],false,0,())).2.1))
  (cond ((decide (p3.2.1>((p1.1.getD ((AZ (p3.1-1)).toNat) ([],false,0,())).2.2.1))))
   ((Ia (p3.1,p3.2.1,p3.2.2.1,()) (4,AZ (p3.1+1),[],()) (AZ (p3.1+1)) 1).bind fun u16=>
   some ((((u16.1.1.1,u16.1.1.2.1,(),()),0,()),()),(u16.2.1,())))
  (cond (!((p1.1.getD ((AZ (p3.1-1)).toNat) ([],false,0,())).2.1))
   (cond (decide (p3.2.1>p2))
    ((CR (p3.1,p3.2.1,p3.2.2.1,())).bind fun q6=>
    some ((((q6.1.1.1,q6.1.1.2.1,(),()),2,()),()),(q6.2.1,())))
   (cond (decide (p3.2.1>60))
    ((CR (p3.1,p3.2.1,p3.2.2.1,())).bind fun gN=>
    some ((((gN.1.1.1,gN.1.1.2.1,(),()),2,()),()),(gN.2.1,())))
   ((Kb u1.2.1 ((p1.1.getD ((AZ (p3.1-1)).toNat) ([],false,0,())).1)).bind fun P2=>
   (KP (p0.1,p0.2.1,()) ((p1.1.getD ((AZ (p3.1-1)).toNat) ([],false,0,())).1) P2.2.1).bind fun fX=>
   cond (!fX.1.1)
    ((CR (p3.1,p3.2.1,p3.2.2.1,())).bind fun u22=>
    some ((((u22.1.1.1,u22.1.1.2.1,(),()),3,()),()),(u22.2.1,())))
   ((MR ((p1.1.getD ((AZ (p3.1-1)).toNat) ([],false,0,())).1) u8.1.1 p4).bind fun ZX=>
   (Ia (p3.1,p3.2.1,p3.2.2.1,()) (ZX.1.1.1,ZX.1.1.2.1,ZX.1.1.2.2.1,()) p3.1 (AZ (p3.2.1+1))).bind fun Xp=>
   some ((((Xp.1.1.1,Xp.1.1.2.1,(),()),0,()),()),(Xp.2.1,()))))))
  (cond (decide (p3.2.1>60))
   ((CR (p3.1,p3.2.1,p3.2.2.1,())).bind fun fP=>
   some ((((fP.1.1.1,fP.1.1.2.1,(),()),2,()),()),(fP.2.1,())))
  ((Kb u1.2.1 ((p1.1.getD ((AZ (p3.1-1)).toNat) ([],false,0,())).1)).bind fun jr=>
  (KP (p0.1,p0.2.1,()) ((p1.1.getD ((AZ (p3.1-1)).toNat) ([],false,0,())).1) jr.2.1).bind fun ve=>
  cond (!ve.1.1)
   ((CR (p3.1,p3.2.1,p3.2.2.1,())).bind fun Xq=>
   some ((((Xq.1.1.1,Xq.1.1.2.1,(),()),3,()),()),(Xq.2.1,())))
  ((MR ((p1.1.getD ((AZ (p3.1-1)).toNat) ([],false,0,())).1) u8.1.1 p4).bind fun tO=>
  (Ia (p3.1,p3.2.1,p3.2.2.1,()) (tO.1.1.1,tO.1.1.2.1,tO.1.1.2.2.1,()) p3.1 (AZ (p3.2.1+1))).bind fun nV=>
  some ((((nV.1.1.1,nV.1.1.2.1,(),()),0,()),()),(nV.2.1,())))))))
 (cond (!((p1.1.getD ((AZ (p3.1-1)).toNat) ([],false,0,())).2.1))
  (cond (decide (p3.2.1>p2))
   ((CR (p3.1,p3.2.1,p3.2.2.1,())).bind fun u32=>
   some ((((u32.1.1.1,u32.1.1.2.1,(),()),2,()),()),(u32.2.1,())))
  (cond (decide (p3.2.1>60))
   ((CR (p3.1,p3.2.1,p3.2.2.1,())).bind fun lq=>
   some ((((lq.1.1.1,lq.1.1.2.1,(),()),2,()),()),(lq.2.1,())))
  ((Kb u1.2.1 ((p1.1.getD ((AZ (p3.1-1)).toNat) ([],false,0,())).1)).bind fun uF=>
  (KP (p0.1,p0.2.1,()) ((p1.1.getD ((AZ (p3.1-1)).toNat) ([],false,0,())).1) uF.2.1).bind fun u35=>
  cond (!u35.1.1)
   ((CR (p3.1,p3.2.1,p3.2.2.1,())).bind fun u36=>
   some ((((u36.1.1.1,u36.1.1.2.1,(),()),3,()),()),(u36.2.1,())))
  ((MR ((p1.1.getD ((AZ (p3.1-1)).toNat) ([],false,0,())).1) u8.1.1 p4).bind fun mK=>
  (Ia (p3.1,p3.2.1,p3.2.2.1,()) (mK.1.1.1,mK.1.1.2.1,mK.1.1.2.2.1,()) p3.1 (AZ (p3.2.1+1))).bind fun u38=>
  some ((((u38.1.1.1,u38.1.1.2.1,(),()),0,()),()),(u38.2.1,()))))))
 (cond (decide (p3.2.1>60))
  ((CR (p3.1,p3.2.1,p3.2.2.1,())).bind fun u39=>
  some ((((u39.1.1.1,u39.1.1.2.1,(),()),2,()),()),(u39.2.1,())))
 ((Kb u1.2.1 ((p1.1.getD ((AZ (p3.1-1)).toNat) ([],false,0,())).1)).bind fun u40=>
 (KP (p0.1,p0.2.1,()) ((p1.1.getD ((AZ (p3.1-1)).toNat) ([],false,0,())).1) u40.2.1).bind fun u41=>
 cond (!u41.1.1)
  ((CR (p3.1,p3.2.1,p3.2.2.1,())).bind fun u42=>
  some ((((u42.1.1.1,u42.1.1.2.1,(),()),3,()),()),(u42.2.1,())))
 ((MR ((p1.1.getD ((AZ (p3.1-1)).toNat) ([],false,0,())).1) u8.1.1 p4).bind fun u43=>
 (Ia (p3.1,p3.2.1,p3.2.2.1,()) (u43.1.1.1,u43.1.1.2.1,u43.1.1.2.2.1,()) p3.1 (AZ (p3.2.1+1))).bind fun u44=>
 some ((((u44.1.1.1,u44.1.1.2.1,(),()),0,()),()),(u44.2.1,()))))))))else none)))))
abbrev qC:Type:=ADJ×ADK
def Vy(CP CS:Int)(BT:Bool)(p1:ACh)(b0:AAH)(b1:AAh)(b2:AAH)(b3:AAo)(b4:AA1)(b5:ABB)(b6:AAs)(b7:AAX):Option qC:=
 (CK p1.2.1 0 1).bind fun u1=>
 cond (!u1.1.1)
  (some (((((),CP,(),(),(),CS,(),(),(),(),BT,()),2,()),()),(b0,b1,b2,b3,b4,b5,b6,b7,())))
 (if(0:Int)≤p1.2.1∧p1.2.1<(b6.length:Int)then(
 if(0:Int)≤p1.2.1∧p1.2.1<(b6.length:Int)then(
 if(0:Int)≤p1.2.1∧p1.2.1<(b6.length:Int)then(
 (dN (b0,CP,b1,b2,b3,CS,b4,b5,b6,b7,BT,()) ((b6.getD (p1.2.1.toNat) (0,0,[],())).1)).bind fun u3=>
 (Pz (b0,CP,b1,b2,b3,CS,b4,b5,b6,b7,BT,()) ((b6.getD (p1.2.1.toNat) (0,0,[],())).1,(b6.getD (p1.2.1.toNat) (0,0,[],())).2.1,(b6.getD (p1.2.1.toNat) (0,0,[],())).2.2.1,()) p1.2.2.1).bind fun u4=>
 (P8 (b0,CP,()) (b3,CS,()) u3.1.1 ((b6.getD (p1.2.1.toNat) (0,0,[],())).1,(b6.getD (p1.2.1.toNat) (0,0,[],())).2.1,(b6.getD (p1.2.1.toNat) (0,0,[],())).2.2.1,()) u4.2.1).bind fun u5=>
 cond (u5.1.1.2.1 !=0)
  (some (((((),CP,(),(),(),CS,(),(),(),(),BT,()),5,()),()),(b0,b1,b2,b3,b4,b5,b6,b7,())))
 (if(0:Int)≤p1.2.1∧p1.2.1<(b6.length:Int)then(
 some (((((),CP,(),(),(),CS,(),(),(),(),BT,()),0,()),()),(b0,b1,b2,b3,b4,b5,(b6.set (p1.2.1.toNat) (u5.1.1.1.1,u5.1.1.1.2.1,u5.2.1,())),b7,())))else none))else none)else none)else none)
abbrev ON:Type:=ADJ×(List Int×AAh×List Int×AAo×Unit×ABB×AAs×AAX×AA1×Unit)
abbrev VF:Type:=Int→List Int→AAh→List Int→AAo→AA1→ABB→AAs→AAX→Int→Int→Bool→Int→Int→Int→Int→List UInt8→Int→Int→Bool→List Int→AAh→List Int→AAo→AA1→ABB→AAs→AAX→AA1→Option ON
def Wf(R5:VF)(t7:Int)(b0:AAH)(b1:AAh)(b2:AAH)(b3:AAo)(b4:AA1)(b5:ABB)(b6:AAs)(b7:AAX)(Dg Dv:Int)(CN:Bool)(iL EM dG AVA:Int)(AUa:ACD)(Dr Eh:Int)(C4:Bool)(GO:AAH)(D5:AAh)(G6:AAH)(G7:AAo)(EV:AA1)(FA:ABB)(Fl:AAs)(Uy:AAX)(vK:AA1):Option ON:=
 cond ((decide (t7<(b4.length:Int))))
  (cond (t7 !=EM)
   (if(0:Int)≤t7∧t7<(b4.length:Int)then(
   if vK.length+1≤Dw then(
   R5 (AZ (t7+1)) b0 b1 b2 b3 b4 b5 b6 b7 Dg Dv CN iL EM dG AVA AUa Dr Eh C4 GO D5 G6 G7 EV FA Fl Uy (vK++[((b4.getD (t7.toNat) (0,[],())).1,(b4.getD (t7.toNat) (0,[],())).2.1,())]))else none)else none)
  (R5 (AZ (t7+1)) b0 b1 b2 b3 b4 b5 b6 b7 Dg Dv CN iL EM dG AVA AUa Dr Eh C4 GO D5 G6 G7 EV FA Fl Uy vK))
 (some (((((),Dg,(),(),(),Dv,(),(),(),(),CN,()),0,()),()),(b0,b1,b2,b3,(),b5,b6,b7,vK,())))
def Mi:Nat→VF
 |0=>fun _ _ _ _ _ _ _ _ _ _ _ _ _ _ _ _ _ _ _ _ _ _ _ _ _ _ _ _ _=>none
 |n+1=>Wf (Mi n)
def Wy(R5:VF)(CP CS:Int)(BT:Bool)(p1:ACh)(b0:AAH)(b1:AAh)(b2:AAH)(b3:AAo)(b4:AA1)(b5:ABB)(b6:AAs)(b7:AAX):Option ON:=
 (K_ (b0,CP,b1,b2,b3,CS,b4,b5,b6,b7,BT,()) p1.2.1).bind fun u1=>
 cond (!u1.1.1)
  (some (((((),CP,(),(),(),CS,(),(),(),(),BT,()),2,()),()),(b0,b1,b2,b3,(),b5,b6,b7,b4,())))
 (R5 0 b0 b1 b2 b3 b4 b5 b6 b7 CP CS BT p1.1 p1.2.1 p1.2.2.1 p1.2.2.2.1 p1.2.2.2.2.1 0 0 false [] [] [] [] [] [] [] [] [])
def Vr(CP CS:Int)(BT:Bool)(p1:ACh)(b0:AAH)(b1:AAh)(b2:AAH)(b3:AAo)(b4:AA1)(b5:ABB)(b6:AAs)(b7:AAX):Option ON:=Wy (Mi Ae) CP CS BT p1 b0 b1 b2 b3 b4 b5 b6 b7
abbrev O8:Type:=ADO×ADM
abbrev RU:Type:=Int→Int→ABE→ABE→Int→Int→ABE→ABE→Int→ABE→ABE→Option O8
def Us(R8:RU)(t1 t7:Int)(AR AF:ABE)(Ai EF:Int)(b2 b3:ABE)(bH:Int)(b5 b6:ABE):Option O8:=
 cond ((decide (t7<(AR.length:Int))))
  (if(0:Int)≤t7∧t7<(AR.length:Int)then(
  cond (decide (((AR.getD (t7.toNat) (0,0,false,[],())).1)>t1))
   (if(0:Int)≤t7∧t7<(AR.length:Int)then(
   if b5.length+1≤Dw then(
   R8 t1 (AZ (t7+1)) AR AF Ai EF b2 b3 bH (b5++[((AR.getD (t7.toNat) (0,0,false,[],())).1,(AR.getD (t7.toNat) (0,0,false,[],())).2.1,(AR.getD (t7.toNat) (0,0,false,[],())).2.2.1,(AR.getD (t7.toNat) (0,0,false,[],())).2.2.2.1,())]) b6)else none)else none)
  (R8 t1 (AZ (t7+1)) AR AF Ai EF b2 b3 bH b5 b6))else none)
 (some (((((),(),bH,()),true,()),()),(b5,b6,())))
def KR:Nat→RU
 |0=>fun _ _ _ _ _ _ _ _ _ _ _=>none
 |n+1=>Us (KR n)
def UD(R8:RU)(p0:ACc)(p1:Int):Option O8:=
 (Ge (p0.1,p0.2.1,p0.2.2.1,())).bind fun u1=>
 cond (!u1.1.1)
  (some (((((),(),0,()),false,()),()),([],[],())))
 ((Er (p0.1,p0.2.1,p0.2.2.1,())).bind fun u2=>
 (Hd p1).bind fun u3=>
 cond (!u3.1.1)
  (some (((((),(),u2.1.1.2.2.1,()),false,()),()),(u2.2.1,u2.2.2.1,())))
 (R8 p1 0 p0.1 p0.2.1 p0.2.2.1 0 [] [] u2.1.1.2.2.1 [] u2.2.2.1))
def SY(p0:ACc)(p1:Int):Option O8:=UD (KR Ae) p0 p1
abbrev mY:Type:=ADJ×ADK
def T3(CP CS:Int)(BT:Bool)(p1:ACh)(b0:AAH)(b1:AAh)(b2:AAH)(b3:AAo)(b4:AA1)(b5:ABB)(b6:AAs)(b7:AAX):Option mY:=
 (He (b0,CP,b1,b2,b3,CS,b4,b5,b6,b7,BT,()) p1.2.1).bind fun u1=>
 cond (u1.1.1 !=0)
  (some (((((),CP,(),(),(),CS,(),(),(),(),BT,()),u1.1.1,()),()),(b0,b1,b2,b3,b4,b5,b6,b7,())))
 (if(0:Int)≤p1.2.1∧p1.2.1<(b1.length:Int)then(
 (Mh ((b1.getD (p1.2.1.toNat) ([],[],0,())).1,(b1.getD (p1.2.1.toNat) ([],[],0,())).2.1,(b1.getD (p1.2.1.toNat) ([],[],0,())).2.2.1,()) p1.2.2.1).bind fun u2=>
 cond (p1.1==16)
  (if(0:Int)≤p1.2.1∧p1.2.1<(b1.length:Int)then(
  (SY ((b1.getD (p1.2.1.toNat) ([],[],0,())).1,(b1.getD (p1.2.1.toNat) ([],[],0,())).2.1,(b1.getD (p1.2.1.toNat) ([],[],0,())).2.2.1,()) CS).bind fun u3=>
  cond (!u3.1.1.2.1)
   (some (((((),CP,(),(),(),CS,(),(),(),(),BT,()),4,()),()),(b0,b1,b2,b3,b4,b5,b6,b7,())))
  (if(0:Int)≤p1.2.1∧p1.2.1<(b1.length:Int)then(
  some (((((),CP,(),(),(),CS,(),(),(),(),BT,()),0,()),()),(b0,(b1.set (p1.2.1.toNat) (u3.2.1,u3.2.2.1,u3.1.1.1.2.2.1,())),b2,b3,b4,b5,b6,b7,())))else none))else none)
 (cond (!u2.1.1.2.1)
  (some (((((),CP,(),(),(),CS,(),(),(),(),BT,()),4,()),()),(b0,b1,b2,b3,b4,b5,b6,b7,())))
 (if(0:Int)≤p1.2.1∧p1.2.1<(b1.length:Int)then(
 some (((((),CP,(),(),(),CS,(),(),(),(),BT,()),0,()),()),(b0,(b1.set (p1.2.1.toNat) (u2.2.1,u2.2.2.1,u2.1.1.1.2.2.1,())),b2,b3,b4,b5,b6,b7,())))else none)))else none)
abbrev iO:Type:=ADJ×(List Int×AAh×Unit×Unit×Unit×Unit×AAs×Unit×List Int×AAo×AA1×ABB×AAX×Unit)
def bU(CP CS:Int)(BT:Bool)(p1:ACh)(b0:AAH)(b1:AAh)(b2:AAH)(b3:AAo)(b4:AA1)(b5:ABB)(b6:AAs)(b7:AAX):Option iO:=
 cond (p1.1==1)
  ((V1 CP CS BT (p1.1,p1.2.1,p1.2.2.1,p1.2.2.2.1,p1.2.2.2.2.1,()) b0 b1 b2 b3 b4 b5 b6 b7).bind fun u1=>
  some (((((),u1.1.1.1.2.1,(),(),(),u1.1.1.1.2.2.2.2.2.1,(),(),(),(),u1.1.1.1.2.2.2.2.2.2.2.2.2.2.1,()),u1.1.1.2.1,()),()),(u1.2.1,u1.2.2.1,(),(),(),(),u1.2.2.2.2.2.2.2.1,(),u1.2.2.2.1,u1.2.2.2.2.2.2.2.2.2.1,u1.2.2.2.2.2.2.2.2.2.2.1,u1.2.2.2.2.2.2.2.2.2.2.2.1,u1.2.2.2.2.2.2.2.2.1,())))
 (cond (p1.1==2)
  ((YC CP CS BT (p1.1,p1.2.1,p1.2.2.1,p1.2.2.2.1,p1.2.2.2.2.1,()) b0 b1 b2 b3 b4 b5 b6 b7).bind fun u5=>
  some (((((),u5.1.1.1.2.1,(),(),(),u5.1.1.1.2.2.2.2.2.1,(),(),(),(),u5.1.1.1.2.2.2.2.2.2.2.2.2.2.1,()),u5.1.1.2.1,()),()),(u5.2.1,u5.2.2.1,(),(),(),(),u5.2.2.2.2.2.2.2.1,(),u5.2.2.2.1,u5.2.2.2.2.1,u5.2.2.2.2.2.1,u5.2.2.2.2.2.2.1,u5.2.2.2.2.2.2.2.2.2.1,())))
 (cond (p1.1==3)
  ((Tt CP CS BT (p1.1,p1.2.1,p1.2.2.1,p1.2.2.2.1,p1.2.2.2.2.1,()) b0 b1 b2 b3 b4 b5 b6 b7).bind fun u7=>
  some (((((),u7.1.1.1.2.1,(),(),(),u7.1.1.1.2.2.2.2.2.1,(),(),(),(),u7.1.1.1.2.2.2.2.2.2.2.2.2.2.1,()),u7.1.1.2.1,()),()),(u7.2.1,u7.2.2.1,(),(),(),(),u7.2.2.2.2.2.2.2.1,(),u7.2.2.2.1,u7.2.2.2.2.1,u7.2.2.2.2.2.1,u7.2.2.2.2.2.2.1,u7.2.2.2.2.2.2.2.2.1,())))
 (cond (p1.1==4)
  ((V0 CP CS BT (p1.1,p1.2.1,p1.2.2.1,p1.2.2.2.1,p1.2.2.2.2.1,()) b0 b1 b2 b3 b4 b5 b6 b7).bind fun u8=>
  some (((((),u8.1.1.1.2.1,(),(),(),u8.1.1.1.2.2.2.2.2.1,(),(),(),(),u8.1.1.1.2.2.2.2.2.2.2.2.2.2.1,()),u8.1.1.2.1,()),()),(u8.2.1,u8.2.2.1,(),(),(),(),u8.2.2.2.2.2.2.2.1,(),u8.2.2.2.1,u8.2.2.2.2.1,u8.2.2.2.2.2.1,u8.2.2.2.2.2.2.1,u8.2.2.2.2.2.2.2.2.1,())))
 (cond (p1.1==6)
  ((V9 CP CS BT (p1.1,p1.2.1,p1.2.2.1,p1.2.2.2.1,p1.2.2.2.2.1,()) b0 b1 b2 b3 b4 b5 b6 b7).bind fun u9=>
  some (((((),u9.1.1.1.2.1,(),(),(),u9.1.1.1.2.2.2.2.2.1,(),(),(),(),u9.1.1.1.2.2.2.2.2.2.2.2.2.2.1,()),u9.1.1.2.1,()),()),(u9.2.1,u9.2.2.1,(),(),(),(),u9.2.2.2.2.2.2.2.1,(),u9.2.2.2.2.2.2.2.2.2.1,u9.2.2.2.2.1,u9.2.2.2.2.2.1,u9.2.2.2.2.2.2.1,u9.2.2.2.2.2.2.2.2.1,())))
 (cond (p1.1==7)
  ((Vv CP CS BT (p1.1,p1.2.1,p1.2.2.1,p1.2.2.2.1,p1.2.2.2.2.1,()) b0 b1 b2 b3 b4 b5 b6 b7).bind fun Nj=>
  some (((((),Nj.1.1.1.2.1,(),(),(),Nj.1.1.1.2.2.2.2.2.1,(),(),(),(),Nj.1.1.1.2.2.2.2.2.2.2.2.2.2.1,()),Nj.1.1.2.1,()),()),(Nj.2.1,Nj.2.2.1,(),(),(),(),Nj.2.2.2.2.2.2.2.1,(),Nj.2.2.2.2.2.2.2.2.2.1,Nj.2.2.2.2.1,Nj.2.2.2.2.2.1,Nj.2.2.2.2.2.2.1,Nj.2.2.2.2.2.2.2.2.1,())))
 (cond (p1.1==8)
  ((Vx CP CS BT b0 b1 b2 b3 b4 b5 b6 b7).bind fun VP=>
  some (((((),VP.1.1.1.2.1,(),(),(),VP.1.1.1.2.2.2.2.2.1,(),(),(),(),VP.1.1.1.2.2.2.2.2.2.2.2.2.2.1,()),VP.1.1.2.1,()),()),(VP.2.1,VP.2.2.1,(),(),(),(),VP.2.2.2.2.2.2.2.1,(),VP.2.2.2.1,VP.2.2.2.2.1,VP.2.2.2.2.2.1,VP.2.2.2.2.2.2.2.2.2.1,VP.2.2.2.2.2.2.2.2.1,())))
 (cond (p1.1==9)
  ((WM CP CS BT (p1.1,p1.2.1,p1.2.2.1,p1.2.2.2.1,p1.2.2.2.2.1,()) b0 b1 b2 b3 b4 b5 b6 b7).bind fun fR=>
  some (((((),fR.1.1.1.2.1,(),(),(),fR.1.1.1.2.2.2.2.2.1,(),(),(),(),fR.1.1.1.2.2.2.2.2.2.2.2.2.2.1,()),fR.1.1.2.1,()),()),(fR.2.1,fR.2.2.1,(),(),(),(),fR.2.2.2.2.2.2.2.1,(),fR.2.2.2.1,fR.2.2.2.2.1,fR.2.2.2.2.2.1,fR.2.2.2.2.2.2.1,fR.2.2.2.2.2.2.2.2.1,())))
 (cond (p1.1==10)
  ((V3 CP CS BT b0 b1 b2 b3 b4 b5 b6 b7).bind fun gN=>
  some (((((),gN.1.1.1.2.1,(),(),(),gN.1.1.1.2.2.2.2.2.1,(),(),(),(),gN.1.1.1.2.2.2.2.2.2.2.2.2.2.1,()),gN.1.1.2.1,()),()),(gN.2.1,gN.2.2.1,(),(),(),(),gN.2.2.2.2.2.2.2.1,(),gN.2.2.2.1,gN.2.2.2.2.1,gN.2.2.2.2.2.1,gN.2.2.2.2.2.2.1,gN.2.2.2.2.2.2.2.2.1,())))
 (cond (p1.1==11)
  ((Yr CP CS BT (p1.1,p1.2.1,p1.2.2.1,p1.2.2.2.1,p1.2.2.2.2.1,()) b0 b1 b2 b3 b4 b5 b6 b7).bind fun fX=>
  some (((((),fX.1.1.1.2.1,(),(),(),fX.1.1.1.2.2.2.2.2.1,(),(),(),(),fX.1.1.1.2.2.2.2.2.2.2.2.2.2.1,()),fX.1.1.2.1,()),()),(fX.2.1,fX.2.2.1,(),(),(),(),fX.2.2.2.2.2.2.2.1,(),fX.2.2.2.1,fX.2.2.2.2.1,fX.2.2.2.2.2.1,fX.2.2.2.2.2.2.1,fX.2.2.2.2.2.2.2.2.1,())))
 (cond (p1.1==12)
  ((Tz CP CS BT b0 b1 b2 b3 b4 b5 b6 b7).bind fun ZX=>
  some (((((),ZX.1.1.1.2.1,(),(),(),ZX.1.1.1.2.2.2.2.2.1,(),(),(),(),ZX.1.1.1.2.2.2.2.2.2.2.2.2.2.1,()),ZX.1.1.2.1,()),()),(ZX.2.1,ZX.2.2.1,(),(),(),(),ZX.2.2.2.2.2.2.2.1,(),ZX.2.2.2.1,ZX.2.2.2.2.2.2.2.2.2.1,ZX.2.2.2.2.2.1,ZX.2.2.2.2.2.2.2.2.2.2.1,ZX.2.2.2.2.2.2.2.2.1,())))
 (cond (p1.1==13)
  ((Vs (b0,CP,()) (b3,CS,()) p1.2.1).bind fun ve=>
  cond (!ve.1.1.2.1)
   (some (((((),CP,(),(),(),CS,(),(),(),(),BT,()),4,()),()),(b0,b1,(),(),(),(),b6,(),b2,b3,b4,b5,b7,())))
  (some (((((),CP,(),(),(),ve.1.1.1.2.1,(),(),(),(),BT,()),0,()),()),(b0,b1,(),(),(),(),b6,(),b2,ve.2.1,b4,b5,b7,()))))
 (cond (p1.1==14)
  ((Vy CP CS BT (p1.1,p1.2.1,p1.2.2.1,p1.2.2.2.1,p1.2.2.2.2.1,()) b0 b1 b2 b3 b4 b5 b6 b7).bind fun Xq=>
  some (((((),Xq.1.1.1.2.1,(),(),(),Xq.1.1.1.2.2.2.2.2.1,(),(),(),(),Xq.1.1.1.2.2.2.2.2.2.2.2.2.2.1,()),Xq.1.1.2.1,()),()),(Xq.2.1,Xq.2.2.1,(),(),(),(),Xq.2.2.2.2.2.2.2.1,(),Xq.2.2.2.1,Xq.2.2.2.2.1,Xq.2.2.2.2.2.1,Xq.2.2.2.2.2.2.1,Xq.2.2.2.2.2.2.2.2.1,())))
 (cond (p1.1==15)
  ((Vr CP CS BT (p1.1,p1.2.1,p1.2.2.1,p1.2.2.2.1,p1.2.2.2.2.1,()) b0 b1 b2 b3 b4 b5 b6 b7).bind fun nV=>
  some (((((),nV.1.1.1.2.1,(),(),(),nV.1.1.1.2.2.2.2.2.1,(),(),(),(),nV.1.1.1.2.2.2.2.2.2.2.2.2.2.1,()),nV.1.1.2.1,()),()),(nV.2.1,nV.2.2.1,(),(),(),(),nV.2.2.2.2.2.2.2.1,(),nV.2.2.2.1,nV.2.2.2.2.1,nV.2.2.2.2.2.2.2.2.2.1,nV.2.2.2.2.2.2.1,nV.2.2.2.2.2.2.2.2.1,())))
 ((T3 CP CS BT (p1.1,p1.2.1,p1.2.2.1,p1.2.2.2.1,p1.2.2.2.2.1,()) b0 b1 b2 b3 b4 b5 b6 b7).bind fun lq=>
 some (((((),lq.1.1.1.2.1,(),(),(),lq.1.1.1.2.2.2.2.2.1,(),(),(),(),lq.1.1.1.2.2.2.2.2.2.2.2.2.2.1,()),lq.1.1.2.1,()),()),(lq.2.1,lq.2.2.1,(),(),(),(),lq.2.2.2.2.2.2.2.1,(),lq.2.2.2.1,lq.2.2.2.2.1,lq.2.2.2.2.2.1,lq.2.2.2.2.2.2.1,lq.2.2.2.2.2.2.2.2.1,()))))))))))))))))
abbrev K8:Type:=ADJ×ADK
def IZ(p0:ABN)(p1:ACh):Option K8:=
 (Vn (p0.1,p0.2.1,p0.2.2.1,p0.2.2.2.1,p0.2.2.2.2.1,p0.2.2.2.2.2.1,p0.2.2.2.2.2.2.1,p0.2.2.2.2.2.2.2.1,p0.2.2.2.2.2.2.2.2.1,p0.2.2.2.2.2.2.2.2.2.1,p0.2.2.2.2.2.2.2.2.2.2.1,())).bind fun u1=>
 cond (!u1.1.1)
  (some (((((),0,(),(),(),0,(),(),(),(),false,()),1,()),()),([],[],[],[],[],[],[],[],())))
 ((Yx (p1.1,p1.2.1,p1.2.2.1,p1.2.2.2.1,p1.2.2.2.2.1,())).bind fun u2=>
 cond (!u2.1.1)
  (some (((((),0,(),(),(),0,(),(),(),(),false,()),1,()),()),([],[],[],[],[],[],[],[],())))
 ((O7 (p0.1,p0.2.1,p0.2.2.1,p0.2.2.2.1,p0.2.2.2.2.1,p0.2.2.2.2.2.1,p0.2.2.2.2.2.2.1,p0.2.2.2.2.2.2.2.1,p0.2.2.2.2.2.2.2.2.1,p0.2.2.2.2.2.2.2.2.2.1,p0.2.2.2.2.2.2.2.2.2.2.1,())).bind fun u3=>
 (bU u3.1.1.2.1 u3.1.1.2.2.2.2.2.1 u3.1.1.2.2.2.2.2.2.2.2.2.2.1 (p1.1,p1.2.1,p1.2.2.1,p1.2.2.2.1,p1.2.2.2.2.1,()) u3.2.1 u3.2.2.1 u3.2.2.2.1 u3.2.2.2.2.1 u3.2.2.2.2.2.1 u3.2.2.2.2.2.2.1 u3.2.2.2.2.2.2.2.1 u3.2.2.2.2.2.2.2.2.1).bind fun u4=>
 cond (u4.1.1.2.1 !=0)
  ((O7 (p0.1,p0.2.1,p0.2.2.1,p0.2.2.2.1,p0.2.2.2.2.1,p0.2.2.2.2.2.1,p0.2.2.2.2.2.2.1,p0.2.2.2.2.2.2.2.1,p0.2.2.2.2.2.2.2.2.1,p0.2.2.2.2.2.2.2.2.2.1,p0.2.2.2.2.2.2.2.2.2.2.1,())).bind fun EY=>
  some (((((),EY.1.1.2.1,(),(),(),EY.1.1.2.2.2.2.2.1,(),(),(),(),EY.1.1.2.2.2.2.2.2.2.2.2.2.1,()),u4.1.1.2.1,()),()),(EY.2.1,EY.2.2.1,EY.2.2.2.1,EY.2.2.2.2.1,EY.2.2.2.2.2.1,EY.2.2.2.2.2.2.1,EY.2.2.2.2.2.2.2.1,EY.2.2.2.2.2.2.2.2.1,())))
 (some (((((),u4.1.1.1.2.1,(),(),(),u4.1.1.1.2.2.2.2.2.1,(),(),(),(),u4.1.1.1.2.2.2.2.2.2.2.2.2.2.1,()),u4.1.1.2.1,()),()),(u4.2.1,u4.2.2.1,u4.2.2.2.2.2.2.2.2.2.1,u4.2.2.2.2.2.2.2.2.2.2.1,u4.2.2.2.2.2.2.2.2.2.2.2.1,u4.2.2.2.2.2.2.2.2.2.2.2.2.1,u4.2.2.2.2.2.2.2.1,u4.2.2.2.2.2.2.2.2.2.2.2.2.2.1,())))))
abbrev OE:Type:=AFl×ADK
abbrev Hf:Type:=ACL×(AAX×Unit)
abbrev Wu:Type:=ADH→Int→Int→AAX→Option Hf
def Yo(R5:Wu)(t27:ADH)(t28 t29:Int)(b0:AAX):Option Hf:=
 cond (decide (t29<t28))
  (if(0:Int)≤t29∧t29<(t27.length:Int)then(
  cond (((t27.getD (t29.toNat) (0,0,[],())).1)==1)
   (if b0.length+1≤Dw then(
   R5 t27 t28 (AZ (t29+1)) (b0++[(((t27.getD (t29.toNat) (0,0,[],())).2.1),((t27.getD (t29.toNat) (0,0,[],())).2.2.1),true,())]))else none)
  (R5 t27 t28 (AZ (t29+1)) b0))else none)
 (some (((),()),(b0,())))
def Ls:Nat→Wu
 |0=>fun _ _ _ _=>none
 |n+1=>Yo (Ls n)
def X3(R5:Wu)(p0:ABN)(p1:Int):Option Hf:=
 (Fq (p0.1,p0.2.1,p0.2.2.1,p0.2.2.2.1,p0.2.2.2.2.1,p0.2.2.2.2.2.1,p0.2.2.2.2.2.2.1,p0.2.2.2.2.2.2.2.1,p0.2.2.2.2.2.2.2.2.1,p0.2.2.2.2.2.2.2.2.2.1,p0.2.2.2.2.2.2.2.2.2.2.1,())).bind fun u1=>
 cond (!u1.1.1)
  (some (((),()),([],())))
 ((A3 p1 0 (AZ ((p0.2.2.2.2.2.2.2.2.1.length:Int)-1))).bind fun u3=>
 cond (!u3.1.1)
  (some (((),()),([],())))
 (if(0:Int)≤p1∧p1<(p0.2.2.2.2.2.2.2.2.1.length:Int)then(
 R5 ((p0.2.2.2.2.2.2.2.2.1.getD (p1.toNat) (0,0,[],())).2.2.1) (((p0.2.2.2.2.2.2.2.2.1.getD (p1.toNat) (0,0,[],())).2.2.1).length:Int) 0 [])else none))
def L1(p0:ABN)(p1:Int):Option Hf:=X3 (Ls Ae) p0 p1
abbrev Il:Type:=ACL×(AAX×Unit)
abbrev Zc:Type:=AAX→Int→Int→List Int→Int→AAh→List Int→AAo→Int→AA1→ABB→AAs→AAX→Bool→AAX→Option Il
def Zu(R5:Zc)(t12:AAX)(t13 t14:Int)(AR:AAH)(AF:Int)(Ai:AAh)(Bk:AAH)(B_:AAo)(AU:Int)(B9:AA1)(B4:ABB)(CH:AAs)(CT:AAX)(AK:Bool)(b1:AAX):Option Il:=
 cond (decide (t14<t13))
  (if(0:Int)≤t14∧t14<(t12.length:Int)then(
  cond (((t12.getD (t14.toNat) (0,[],false,())).2.2.1))
   (cond (decide (((t12.getD (t14.toNat) (0,[],false,())).1)>AU))
    (if b1.length+1≤Dw then(
    R5 t12 t13 (AZ (t14+1)) AR AF Ai Bk B_ AU B9 B4 CH CT AK (b1++[((t12.getD (t14.toNat) (0,[],false,())).1,(t12.getD (t14.toNat) (0,[],false,())).2.1,(t12.getD (t14.toNat) (0,[],false,())).2.2.1,())]))else none)
   (R5 t12 t13 (AZ (t14+1)) AR AF Ai Bk B_ AU B9 B4 CH CT AK b1))
  (R5 t12 t13 (AZ (t14+1)) AR AF Ai Bk B_ AU B9 B4 CH CT AK b1))else none)
 (some (((),()),(b1,())))
def Pf:Nat→Zc
 |0=>fun _ _ _ _ _ _ _ _ _ _ _ _ _ _ _=>none
 |n+1=>Zu (Pf n)
def Zs(R5:Zc)(p0:ABN):Option Il:=
 (Fq (p0.1,p0.2.1,p0.2.2.1,p0.2.2.2.1,p0.2.2.2.2.1,p0.2.2.2.2.2.1,p0.2.2.2.2.2.2.1,p0.2.2.2.2.2.2.2.1,p0.2.2.2.2.2.2.2.2.1,p0.2.2.2.2.2.2.2.2.2.1,p0.2.2.2.2.2.2.2.2.2.2.1,())).bind fun u1=>
 cond (!u1.1.1)
  (some (((),()),([],())))
 (R5 p0.2.2.2.2.2.2.2.2.2.1 (p0.2.2.2.2.2.2.2.2.2.1.length:Int) 0 p0.1 p0.2.1 p0.2.2.1 p0.2.2.2.1 p0.2.2.2.2.1 p0.2.2.2.2.2.1 p0.2.2.2.2.2.2.1 p0.2.2.2.2.2.2.2.1 p0.2.2.2.2.2.2.2.2.1 p0.2.2.2.2.2.2.2.2.2.1 p0.2.2.2.2.2.2.2.2.2.2.1 [])
def Oh(p0:ABN):Option Il:=Zs (Pf Ae) p0
abbrev cQ:Type:=AEx×ADz
def EL(p0:ABL)(p1:ABk):Option cQ:=
 (Kc (p0.1,p0.2.1,()) (p1.1,p1.2.1,())).bind fun u1=>
 cond (!u1.1.1)
  (some ((((),0,()),()),([],())))
 ((Ed (p1.1,p1.2.1,())).bind fun u2=>
 some ((((),u2.1.1.2.1,()),()),(u2.2.1,())))
abbrev dH:Type:=(AGY×Unit)×ADz
def L6(p0:ABL)(p1:ABk)(p2:AAH):Option dH:=
 (Kc (p0.1,p0.2.1,()) (p1.1,p1.2.1,())).bind fun u1=>
 cond (!u1.1.1)
  ((EL (p0.1,p0.2.1,()) (p1.1,p1.2.1,())).bind fun u2=>
  some (((((),u2.1.1.2.1,()),0,false,()),()),(u2.2.1,())))
 ((Gc (p0.1,p0.2.1,()) p2).bind fun u3=>
 cond (!u3.1.1)
  ((EL (p0.1,p0.2.1,()) (p1.1,p1.2.1,())).bind fun u4=>
  some (((((),u4.1.1.2.1,()),0,false,()),()),(u4.2.1,())))
 (cond (((p1.1.length:Int)==30))
  ((EL (p0.1,p0.2.1,()) (p1.1,p1.2.1,())).bind fun u6=>
  some (((((),u6.1.1.2.1,()),0,false,()),()),(u6.2.1,())))
 ((Ed (p1.1,p1.2.1,())).bind fun u7=>
 (DG p2).bind fun u8=>
 if u7.2.1.length+1≤Dw then(
 let x9:AAo:=u7.2.1++[(u8.2.1,false,0,())]
 some (((((),u7.1.1.2.1,()),(x9.length:Int),true,()),()),(x9,())))else none)))
abbrev YY:Type:=ABg×(ADQ×List Int×AAh×List Int×Unit×Unit×Unit×AAs×AAX×AAo×AA1×ABB×Unit)
def KC(p1 AF AU:Int)(AK:Bool)(b1:AAH)(b2:AAh)(b3:AAH)(b4:AAo)(b5:AA1)(b6:ABB)(b7:AAs)(b8:AAX):Option YY:=
 cond (((b5.length:Int)==4))
  (some ((4,()),(((),AF,(),(),(),AU,(),(),(),(),AK,()),b1,b2,b3,(),(),(),b7,b8,b4,b5,b6,())))
 ((Hm p1).bind fun u2=>
 (L6 (b1,AF,()) (b4,AU,()) u2.2.1).bind fun u3=>
 cond (!u3.1.1.2.2.1)
  (some ((4,()),(((),AF,(),(),(),AU,(),(),(),(),AK,()),b1,b2,b3,(),(),(),b7,b8,b4,b5,b6,())))
 (if b5.length+1≤Dw then(
 some ((0,()),(((),AF,(),(),(),u3.1.1.1.2.1,(),(),(),(),AK,()),b1,b2,b3,(),(),(),b7,b8,u3.2.1,(b5++[(u3.1.1.2.1,[],())]),[],())))else none))
abbrev W5:Type:=AGQ×AD7
def EO(p0:ABL)(p1:ACI):Option W5:=
 (GW (p0.1,p0.2.1,()) (p1.1,p1.2.1,())).bind fun u1=>
 cond (!u1.1.1)
  (some (((0,(),()),()),([],())))
 ((Ft (p1.1,p1.2.1,())).bind fun u2=>
 some (((u2.1.1.1,(),()),()),(u2.2.1,())))
abbrev aM:Type:=(AGZ×Unit)×AD7
def Jh(p0:ABL)(p1:ACI)(p2:ACD):Option aM:=
 (Ft (p1.1,p1.2.1,())).bind fun u1=>
 if u1.2.1.length+1≤Dw then(
 let x2:AB7:=u1.2.1++[(p2,[],false,())]
 (GW (p0.1,p0.2.1,()) (p1.1,p1.2.1,())).bind fun u3=>
 cond (!u3.1.1)
  ((EO (p0.1,p0.2.1,()) (p1.1,p1.2.1,())).bind fun u4=>
  some ((((u4.1.1.1,(),()),0,false,()),()),(u4.2.1,())))
 ((GW (p0.1,p0.2.1,()) (u1.1.1.1,x2,())).bind fun u5=>
 cond (!u5.1.1)
  ((EO (p0.1,p0.2.1,()) (p1.1,p1.2.1,())).bind fun u6=>
  some ((((u6.1.1.1,(),()),0,false,()),()),(u6.2.1,())))
 (some ((((u1.1.1.1,(),()),(x2.length:Int),true,()),()),(x2,())))))else none
abbrev cV:Type:=ABg×Unit
def Kw(p0:ADS)(p1:Int):Option cV:=
 some ((AZ (p0.1-p1),()),())
abbrev BM:Type:=AEd×Unit
abbrev Bp:Type:=AAX→Int→Int→Int→Int→Option BM
def Cm(R3:Bp)(t0:AAX)(t1 t8 t9 t10:Int):Option BM:=
 cond (decide (t9<t10))
  (let x2:Int:=AZ ((IntKind.wrap .u64 (AZ (t9+t10))).fdiv (2^1))
  if(0:Int)≤x2∧x2<(t0.length:Int)then(
  (Kw ((t0.getD (x2.toNat) (0,[],false,())).1,(t0.getD (x2.toNat) (0,[],false,())).2.1,(t0.getD (x2.toNat) (0,[],false,())).2.2.1,()) t1).bind fun u3=>
  cond (decide (u3.1.1<0))
   (R3 t0 t1 t8 (AZ (x2+1)) t10)
  (R3 t0 t1 t8 t9 x2))else none)
 (cond (decide (t9<t8))
  (if(0:Int)≤t9∧t9<(t0.length:Int)then(
  (Kw ((t0.getD (t9.toNat) (0,[],false,())).1,(t0.getD (t9.toNat) (0,[],false,())).2.1,(t0.getD (t9.toNat) (0,[],false,())).2.2.1,()) t1).bind fun u4=>
  some (((t9,u4.1.1==0,()),()),()))else none)
 (some (((t9,false,()),()),())))
def Aw:Nat→Bp
 |0=>fun _ _ _ _ _=>none
 |n+1=>Cm (Aw n)
def Ck(R3:Bp)(p0:AAX)(p1:Int):Option BM:=
 R3 p0 p1 (p0.length:Int) 0 (p0.length:Int)
def BQ(p0:AAX)(p1:Int):Option BM:=Ck (Aw Ae) p0 p1
abbrev VQ:Type:=AEd×Unit
def H6(p0:ABN)(p1:Int):Option VQ:=
 (BQ p0.2.2.2.2.2.2.2.2.2.1 p1).bind fun u1=>
 some (((u1.1.1.1,u1.1.1.2.1,()),()),())
abbrev Is:Type:=ACL×(Unit×AAX×Unit)
def EJ(p1:Int)(p2 b0:AAX):Option Is:=(xD p1 p2 b0).map fun l=>(((),()),((),l,()))
abbrev aA:Type:=ABg×(ADQ×List Int×AAh×List Int×AAo×AA1×ABB×AAs×Unit×AAX×Unit)
def Ld(p1:Int)(p2:ACD)(AF AU:Int)(AK:Bool)(b1:AAH)(b2:AAh)(b3:AAH)(b4:AAo)(b5:AA1)(b6:ABB)(b7:AAs)(b8:AAX):Option aA:=
 (A3 p1 0 (AZ ((b5.length:Int)-1))).bind fun u2=>
 cond (!u2.1.1)
  (some ((2,()),(((),AF,(),(),(),AU,(),(),(),(),AK,()),b1,b2,b3,b4,b5,b6,b7,(),b8,())))
 (if(0:Int)≤p1∧p1<(b5.length:Int)then(
 (Jh (b1,AF,()) ((b5.getD (p1.toNat) (0,[],())).1,(b5.getD (p1.toNat) (0,[],())).2.1,()) p2).bind fun u3=>
 (Dq u3.1.1.1.1 u3.1.1.2.1).bind fun u4=>
 (H6 (b1,AF,b2,b3,b4,AU,b5,b6,b7,b8,AK,()) u4.1.1.1).bind fun u5=>
 cond (!u3.1.1.2.2.1)
  (some ((4,()),(((),AF,(),(),(),AU,(),(),(),(),AK,()),b1,b2,b3,b4,b5,b6,b7,(),b8,())))
 (cond (((b8.length:Int)==120))
  (some ((4,()),(((),AF,(),(),(),AU,(),(),(),(),AK,()),b1,b2,b3,b4,b5,b6,b7,(),b8,())))
 (cond (u5.1.1.2.1)
  (some ((4,()),(((),AF,(),(),(),AU,(),(),(),(),AK,()),b1,b2,b3,b4,b5,b6,b7,(),b8,())))
 (if(0:Int)≤p1∧p1<(b5.length:Int)then(
 (EJ u5.1.1.1 [(u4.1.1.1,p2,false,())] b8).bind fun u8=>
 some ((0,()),(((),AF,(),(),(),AU,(),(),(),(),AK,()),b1,b2,b3,b4,(b5.set (p1.toNat) (u3.1.1.1.1,u3.2.1,())),b6,b7,(),u8.2.2.1,())))else none))))else none)
abbrev cT:Type:=ABg×Unit
def EP(p0:ABN)(p1:Int):Option cT:=
 (A3 p1 0 (AZ ((p0.2.2.1.length:Int)-1))).bind fun u2=>
 cond (!u2.1.1)
  (some ((2,()),()))
 ((C6 p0 p1).bind fun u3=>
 cond (u3.1.1)
  (some ((3,()),()))
 (some ((0,()),())))
abbrev bj:Type:=ACL×ACr
def Iq(p0:ABk)(p1:Int):Option bj:=
 (A3 p1 1 (p0.1.length:Int)).bind fun u1=>
 cond (!u1.1.1)
  (some (((),()),([],())))
 (if(0:Int)≤AZ (p1-1)∧AZ (p1-1)<(p0.1.length:Int)then(
 (DG ((p0.1.getD ((AZ (p1-1)).toNat) ([],false,0,())).1)).bind fun u2=>
 some (((),()),(u2.2.1,())))else none)
abbrev ID:Type:=ABg×Unit
def Dj(p0:ABN)(p1 p2:Int):Option ID:=
 (EP p0 p1).bind fun u1=>
 cond (u1.1.1==0)
  ((Iq (p0.2.2.2.2.1,p0.2.2.2.2.2.1,()) p2).bind fun u2=>
  (Bo u2.2.1 p1).bind fun u3=>
  cond (!u3.1.1)
   (some ((2,()),()))
  (some ((u1.1.1,()),())))
 (some ((u1.1.1,()),()))
abbrev iU:Type:=AGP×ADM
def Dl(p0:ACc):Option iU:=
 (FF (p0.1,p0.2.1,p0.2.2.1,())).bind fun u1=>
 cond (!u1.1.1)
  (some ((((),(),0,()),()),([],[],())))
 ((DB (p0.1,p0.2.1,p0.2.2.1,())).bind fun u2=>
 some ((((),(),u2.1.1.2.2.1,()),()),(u2.2.1,u2.2.2.1,())))
abbrev mu:Type:=ADO×ADM
def T7(p0:ACc)(p1:ADG):Option mu:=
 (FF (p0.1,p0.2.1,p0.2.2.1,())).bind fun u1=>
 cond (!u1.1.1)
  ((Dl (p0.1,p0.2.1,p0.2.2.1,())).bind fun u2=>
  some (((((),(),u2.1.1.2.2.1,()),false,()),()),(u2.2.1,u2.2.2.1,())))
 ((L3 (p1.1,p1.2.1,p1.2.2.1,p1.2.2.2.1,())).bind fun u3=>
 cond (!u3.1.1)
  ((Dl (p0.1,p0.2.1,p0.2.2.1,())).bind fun u4=>
  some (((((),(),u4.1.1.2.2.1,()),false,()),()),(u4.2.1,u4.2.2.1,())))
 (cond ((p0.2.1.length:Int)==20)
  ((Dl (p0.1,p0.2.1,p0.2.2.1,())).bind fun u6=>
  some (((((),(),u6.1.1.2.2.1,()),false,()),()),(u6.2.1,u6.2.2.1,())))
 (cond (p1.2.1==0)
  ((FI p1.1).bind fun u7=>
  cond ((decide (u7.1.1≤p0.2.2.1)))
   ((DB (p0.1,p0.2.1,p0.2.2.1,())).bind fun u9=>
   some (((((),(),u9.1.1.2.2.1,()),false,()),()),(u9.2.1,u9.2.2.1,())))
  (cond (decide (p1.2.1>0))
   (cond ((decide (p1.2.1≤p0.2.2.1)))
    ((DB (p0.1,p0.2.1,p0.2.2.1,())).bind fun Nj=>
    some (((((),(),Nj.1.1.2.2.1,()),false,()),()),(Nj.2.1,Nj.2.2.1,())))
   ((DB (p0.1,p0.2.1,p0.2.2.1,())).bind fun bp=>
   if bp.2.2.1.length+1≤Dw then(
   some (((((),(),bp.1.1.2.2.1,()),true,()),()),(bp.2.1,(bp.2.2.1++[(p1.1,p1.2.1,p1.2.2.1,p1.2.2.2.1,())]),())))else none))
  ((DB (p0.1,p0.2.1,p0.2.2.1,())).bind fun VP=>
  if VP.2.2.1.length+1≤Dw then(
  some (((((),(),VP.1.1.2.2.1,()),true,()),()),(VP.2.1,(VP.2.2.1++[(p1.1,p1.2.1,p1.2.2.1,p1.2.2.2.1,())]),())))else none)))
 (cond (decide (p1.2.1>0))
  (cond ((decide (p1.2.1≤p0.2.2.1)))
   ((DB (p0.1,p0.2.1,p0.2.2.1,())).bind fun fR=>
   some (((((),(),fR.1.1.2.2.1,()),false,()),()),(fR.2.1,fR.2.2.1,())))
  ((DB (p0.1,p0.2.1,p0.2.2.1,())).bind fun q6=>
  if q6.2.2.1.length+1≤Dw then(
  some (((((),(),q6.1.1.2.2.1,()),true,()),()),(q6.2.1,(q6.2.2.1++[(p1.1,p1.2.1,p1.2.2.1,p1.2.2.2.1,())]),())))else none))
 ((DB (p0.1,p0.2.1,p0.2.2.1,())).bind fun P2=>
 if P2.2.2.1.length+1≤Dw then(
 some (((((),(),P2.1.1.2.2.1,()),true,()),()),(P2.2.1,(P2.2.2.1++[(p1.1,p1.2.1,p1.2.2.1,p1.2.2.2.1,())]),())))else none)))))
abbrev cz:Type:=ABg×Unit
def J1(p0:Bool):Option cz:=
 cond (p0)
  (some ((0,()),()))
 (some ((4,()),()))
abbrev Zn:Type:=ABg×ADP
def Lc(p1:Int)(p2:ADG)(AF AU:Int)(AK:Bool)(b1:AAH)(b2:AAh)(b3:AAH)(b4:AAo)(b5:AA1)(b6:ABB)(b7:AAs)(b8:AAX):Option Zn:=
 if(0:Int)≤p1∧p1<(b2.length:Int)then(
 (T7 ((b2.getD (p1.toNat) ([],[],0,())).1,(b2.getD (p1.toNat) ([],[],0,())).2.1,(b2.getD (p1.toNat) ([],[],0,())).2.2.1,()) (p2.1,p2.2.1,p2.2.2.1,p2.2.2.2.1,())).bind fun u1=>
 cond (u1.1.1.2.1)
  (if(0:Int)≤p1∧p1<(b2.length:Int)then(
  (J1 u1.1.1.2.1).bind fun u3=>
  some ((u3.1.1,()),(((),AF,(),(),(),AU,(),(),(),(),AK,()),b1,(b2.set (p1.toNat) (u1.2.1,u1.2.2.1,u1.1.1.1.2.2.1,())),b3,b4,b5,b6,b7,b8,())))else none)
 ((J1 u1.1.1.2.1).bind fun u4=>
 some ((u4.1.1,()),(((),AF,(),(),(),AU,(),(),(),(),AK,()),b1,b2,b3,b4,b5,b6,b7,b8,()))))else none
abbrev iE:Type:=ABg×ADP
def I6(p1:ACh)(AF AU:Int)(AK:Bool)(b1:AAH)(b2:AAh)(b3:AAH)(b4:AAo)(b5:AA1)(b6:ABB)(b7:AAs)(b8:AAX):Option iE:=
 (A3 p1.2.1 0 (AZ ((b5.length:Int)-1))).bind fun u2=>
 cond (!u2.1.1)
  (some ((2,()),(((),AF,(),(),(),AU,(),(),(),(),AK,()),b1,b2,b3,b4,b5,b6,b7,b8,())))
 (if(0:Int)≤p1.2.1∧p1.2.1<(b5.length:Int)then(
 (A3 p1.2.2.1 1 (((b5.getD (p1.2.1.toNat) (0,[],())).2.1).length:Int)).bind fun u4=>
 cond (!u4.1.1)
  (some ((2,()),(((),AF,(),(),(),AU,(),(),(),(),AK,()),b1,b2,b3,b4,b5,b6,b7,b8,())))
 ((Dj (b1,AF,b2,b3,b4,AU,b5,b6,b7,b8,AK,()) p1.2.2.2.1 ((b5.getD (p1.2.1.toNat) (0,[],())).1)).bind fun u6=>
 cond (u6.1.1 !=0)
  (some ((u6.1.1,()),(((),AF,(),(),(),AU,(),(),(),(),AK,()),b1,b2,b3,b4,b5,b6,b7,b8,())))
 ((Dq ((b5.getD (p1.2.1.toNat) (0,[],())).1) p1.2.2.1).bind fun u8=>
 if(0:Int)≤AZ (p1.2.2.1-1)∧AZ (p1.2.2.1-1)<(((b5.getD (p1.2.1.toNat) (0,[],())).2.1).length:Int)then(
 (Lc p1.2.2.2.1 (u8.1.1.1,0,false,((((b5.getD (p1.2.1.toNat) (0,[],())).2.1).getD ((AZ (p1.2.2.1-1)).toNat) ([],[],false,())).1),()) AF AU AK b1 b2 b3 b4 b5 b6 b7 b8).bind fun EY=>
 some ((EY.1.1,()),(((),EY.2.1.2.1,(),(),(),EY.2.1.2.2.2.2.2.1,(),(),(),(),EY.2.1.2.2.2.2.2.2.2.2.2.2.1,()),EY.2.2.1,EY.2.2.2.1,EY.2.2.2.2.1,EY.2.2.2.2.2.1,EY.2.2.2.2.2.2.1,EY.2.2.2.2.2.2.2.1,EY.2.2.2.2.2.2.2.2.1,EY.2.2.2.2.2.2.2.2.2.1,())))else none)))else none)
abbrev PL:Type:=ACL×AGR
def Dx(p1:Int)(p2 b0:ABE):Option PL:=(xD p1 p2 b0).map fun l=>(((),()),((),l,()))
abbrev xI:Type:=ACL×AGR
def WS(p1:ADG)(b0:ABE):Option xI:=
 (SD b0 p1.1).bind fun u1=>
 cond (!u1.1.1.2.1)
  ((Dx u1.1.1.1 [(p1.1,p1.2.1,p1.2.2.1,p1.2.2.2.1,())] b0).bind fun u2=>
  some (((),()),((),u2.2.2.1,())))
 (if(0:Int)≤u1.1.1.1∧u1.1.1.1<(b0.length:Int)then(
 (Q1 ((b0.getD (u1.1.1.1.toNat) (0,0,false,[],())).1,(b0.getD (u1.1.1.1.toNat) (0,0,false,[],())).2.1,(b0.getD (u1.1.1.1.toNat) (0,0,false,[],())).2.2.1,(b0.getD (u1.1.1.1.toNat) (0,0,false,[],())).2.2.2.1,()) (p1.1,p1.2.1,p1.2.2.1,p1.2.2.2.1,())).bind fun u3=>
 if(0:Int)≤u1.1.1.1∧u1.1.1.1<(b0.length:Int)then(
 some (((),()),((),(b0.set (u1.1.1.1.toNat) (u3.1.1.1,u3.1.1.2.1,u3.1.1.2.2.1,u3.1.1.2.2.2.1,())),())))else none)else none)
abbrev Nf:Type:=ADO×ADM
abbrev Qc:Type:=Int→ABE→Int→Int→ABE→ABE→Int→Int→ABE→ABE→Int→ABE→ABE→Option Nf
def S8(R6:Qc)(t1:Int)(t23:ABE)(t24 t25:Int)(AR AF:ABE)(Ai EF:Int)(b2 b3:ABE)(bH:Int)(b5 b6:ABE):Option Nf:=
 cond (decide (t25<t24))
  (if(0:Int)≤t25∧t25<(t23.length:Int)then(
  if t25<0 then none else(
  cond (((cZ .i64 (t1.fdiv (2^(min t25.toNat 64))) 1)==1))
   ((WS ((t23.getD (t25.toNat) (0,0,false,[],())).1,(t23.getD (t25.toNat) (0,0,false,[],())).2.1,(t23.getD (t25.toNat) (0,0,false,[],())).2.2.1,(t23.getD (t25.toNat) (0,0,false,[],())).2.2.2.1,()) b5).bind fun u9=>
   R6 t1 t23 t24 (AZ (t25+1)) AR AF Ai EF b2 b3 bH u9.2.2.1 b6)
  (R6 t1 t23 t24 (AZ (t25+1)) AR AF Ai EF b2 b3 bH b5 b6)))else none)
 (cond ((decide ((b5.length:Int)>200)))
  ((DB (AR,AF,Ai,())).bind fun Nj=>
  some (((((),(),Nj.1.1.2.2.1,()),false,()),()),(Nj.2.1,Nj.2.2.1,())))
 (some (((((),(),bH,()),true,()),()),(b5,b6,()))))
def Jc:Nat→Qc
 |0=>fun _ _ _ _ _ _ _ _ _ _ _ _ _=>none
 |n+1=>S8 (Jc n)
def TA(R6:Qc)(p0:ACc)(p1:Int):Option Nf:=
 (FF (p0.1,p0.2.1,p0.2.2.1,())).bind fun u1=>
 cond (!u1.1.1)
  ((Dl (p0.1,p0.2.1,p0.2.2.1,())).bind fun u2=>
  some (((((),(),u2.1.1.2.2.1,()),false,()),()),(u2.2.1,u2.2.2.1,())))
 ((A3 p1 0 1048575).bind fun u3=>
 cond (!u3.1.1)
  ((Dl (p0.1,p0.2.1,p0.2.2.1,())).bind fun u4=>
  some (((((),(),u4.1.1.2.2.1,()),false,()),()),(u4.2.1,u4.2.2.1,())))
 ((DB (p0.1,p0.2.1,p0.2.2.1,())).bind fun u5=>
 R6 p1 p0.2.1 (p0.2.1.length:Int) 0 p0.1 p0.2.1 p0.2.2.1 0 [] [] u5.1.1.2.2.1 u5.2.1 []))
def Mj(p0:ACc)(p1:Int):Option Nf:=TA (Jc Ae) p0 p1
abbrev kt:Type:=ADO×ADM
def Od(p0:ACc):Option kt:=
 (Mj (p0.1,p0.2.1,p0.2.2.1,()) 1048575).bind fun u1=>
 some (((((),(),u1.1.1.1.2.2.1,()),u1.1.1.2.1,()),()),(u1.2.1,u1.2.2.1,()))
abbrev mV:Type:=ABT×Unit
def cmp_isNaN_int(p0:Int):Option mV:=
 some ((p0 !=p0,()),())
abbrev oU:Type:=ABT×Unit
def cmp_Less_int(p0 p1:Int):Option oU:=
 (cmp_isNaN_int p0).bind fun u1=>
 cond (u1.1.1)
  ((cmp_isNaN_int p1).bind fun u2=>
  cond (!u2.1.1)
   (some ((true,()),()))
  (some ((decide (p0<p1),()),())))
 (some ((decide (p0<p1),()),()))
abbrev hU:Type:=ABT×Unit
def Oy(p0:Int):Option hU:=
 some ((p0 !=p0,()),())
abbrev FR:Type:=AEd×Unit
abbrev HN:Type:=List Int→Int→Int→Int→Int→Option FR
def Jq(R3:HN)(t0:AAH)(t1 t6 t7 t8:Int):Option FR:=
 cond (decide (t7<t8))
  (let x2:Int:=AZ ((IntKind.wrap .u64 (AZ (t7+t8))).fdiv (2^1))
  if(0:Int)≤x2∧x2<(t0.length:Int)then(
  (cmp_Less_int (t0.getD (x2.toNat) 0) t1).bind fun u4=>
  cond (u4.1.1)
   (R3 t0 t1 t6 (AZ (x2+1)) t8)
  (R3 t0 t1 t6 t7 x2))else none)
 (cond (decide (t7<t6))
  (if(0:Int)≤t7∧t7<(t0.length:Int)then(
  cond ((t0.getD (t7.toNat) 0)==t1)
   (some (((t7,true,()),()),()))
  (if(0:Int)≤t7∧t7<(t0.length:Int)then(
  (Oy (t0.getD (t7.toNat) 0)).bind fun u7=>
  cond (u7.1.1)
   ((Oy t1).bind fun u8=>
   some (((t7,u8.1.1,()),()),()))
  (some (((t7,false,()),()),())))else none))else none)
 (some (((t7,false,()),()),())))
def Dm:Nat→HN
 |0=>fun _ _ _ _ _=>none
 |n+1=>Jq (Dm n)
def Jr(R3:HN)(p0:AAH)(p1:Int):Option FR:=
 R3 p0 p1 (p0.length:Int) 0 (p0.length:Int)
def GN(p0:AAH)(p1:Int):Option FR:=Jr (Dm Ae) p0 p1
abbrev Zx:Type:=ACL×AGN
def Jn(p1:Int)(p2 b0:AAH):Option Zx:=(xD p1 p2 b0).map fun l=>(((),()),((),l,()))
abbrev m_:Type:=ACL×ACr
def Kk(p0:AAH)(p1:Int):Option m_:=
 (DG p0).bind fun u1=>
 (GN u1.2.1 p1).bind fun u2=>
 cond (!u2.1.1.2.1)
  ((Jn u2.1.1.1 [p1] u1.2.1).bind fun u3=>
  some (((),()),(u3.2.2.1,())))
 (some (((),()),(u1.2.1,())))
abbrev lF:Type:=AFJ×AD7
def Sa(p0:ABL)(p1:ACI)(p2 p3:Int):Option lF:=
 (GW (p0.1,p0.2.1,()) (p1.1,p1.2.1,())).bind fun u1=>
 cond (!u1.1.1)
  ((EO (p0.1,p0.2.1,()) (p1.1,p1.2.1,())).bind fun u2=>
  some ((((u2.1.1.1,(),()),false,()),()),(u2.2.1,())))
 ((A3 p2 1 (p1.2.1.length:Int)).bind fun u4=>
 cond (!u4.1.1)
  ((EO (p0.1,p0.2.1,()) (p1.1,p1.2.1,())).bind fun u5=>
  some ((((u5.1.1.1,(),()),false,()),()),(u5.2.1,())))
 (if(0:Int)≤AZ (p2-1)∧AZ (p2-1)<(p1.2.1.length:Int)then(
 cond (((p1.2.1.getD ((AZ (p2-1)).toNat) ([],[],false,())).2.2.1))
  ((EO (p0.1,p0.2.1,()) (p1.1,p1.2.1,())).bind fun u7=>
  some ((((u7.1.1.1,(),()),false,()),()),(u7.2.1,())))
 ((A3 p3 0 (AZ ((p0.1.length:Int)-1))).bind fun u9=>
 cond (!u9.1.1)
  ((EO (p0.1,p0.2.1,()) (p1.1,p1.2.1,())).bind fun EY=>
  some ((((EY.1.1.1,(),()),false,()),()),(EY.2.1,())))
 ((Ft (p1.1,p1.2.1,())).bind fun Nj=>
 if(0:Int)≤AZ (p2-1)∧AZ (p2-1)<(Nj.2.1.length:Int)then(
 (Kk ((Nj.2.1.getD ((AZ (p2-1)).toNat) ([],[],false,())).2.1) p3).bind fun bp=>
 let x13:AB7:=(Nj.2.1.set ((AZ (p2-1)).toNat) ((Nj.2.1.getD ((AZ (p2-1)).toNat) ([],[],false,())).1,bp.2.1,(Nj.2.1.getD ((AZ (p2-1)).toNat) ([],[],false,())).2.2.1,()))
 (Gc (p0.1,p0.2.1,()) ((x13.getD ((AZ (p2-1)).toNat) ([],[],false,())).2.1)).bind fun VP=>
 some ((((Nj.1.1.1,(),()),true,()),()),((x13.set ((AZ (p2-1)).toNat) ((x13.getD ((AZ (p2-1)).toNat) ([],[],false,())).1,(x13.getD ((AZ (p2-1)).toNat) ([],[],false,())).2.1,VP.1.1,())),())))else none)))else none))
abbrev GC:Type:=ACL×ADP
abbrev Kn:Type:=Int→Int→Int→Int→Int→Bool→List Int→AAh→List Int→AAo→AA1→ABB→AAs→AAX→Option GC
def Io(R1:Kn)(t1 t2 t6 AF AU:Int)(AK:Bool)(b1:AAH)(b2:AAh)(b3:AAH)(b4:AAo)(b5:AA1)(b6:ABB)(b7:AAs)(b8:AAX):Option GC:=
 if(0:Int)≤t1∧t1<(b5.length:Int)then(
 cond (decide (t6≤(((b5.getD (t1.toNat) (0,[],())).2.1).length:Int)))
  (if(0:Int)≤t1∧t1<(b5.length:Int)then(
  (Dq ((b5.getD (t1.toNat) (0,[],())).1) t6).bind fun u3=>
  if(0:Int)≤t2∧t2<(b2.length:Int)then(
  (GS ((b2.getD (t2.toNat) ([],[],0,())).1,(b2.getD (t2.toNat) ([],[],0,())).2.1,(b2.getD (t2.toNat) ([],[],0,())).2.2.1,()) u3.1.1.1).bind fun u4=>
  if(0:Int)≤t1∧t1<(b5.length:Int)then(
  if(0:Int)≤AZ (t6-1)∧AZ (t6-1)<(((b5.getD (t1.toNat) (0,[],())).2.1).length:Int)then(
  cond (((((b5.getD (t1.toNat) (0,[],())).2.1).getD ((AZ (t6-1)).toNat) ([],[],false,())).2.2.1))
   (R1 t1 t2 (AZ (t6+1)) AF AU AK b1 b2 b3 b4 b5 b6 b7 b8)
  (cond (!u4.1.1.2.1)
   (R1 t1 t2 (AZ (t6+1)) AF AU AK b1 b2 b3 b4 b5 b6 b7 b8)
  (cond (u4.1.1.1.2.1 !=0)
   (R1 t1 t2 (AZ (t6+1)) AF AU AK b1 b2 b3 b4 b5 b6 b7 b8)
  (if(0:Int)≤t1∧t1<(b5.length:Int)then(
  (Sa (b1,AF,()) ((b5.getD (t1.toNat) (0,[],())).1,(b5.getD (t1.toNat) (0,[],())).2.1,()) t6 t2).bind fun u6=>
  if(0:Int)≤t1∧t1<(b5.length:Int)then(
  let x7:AA1:=(b5.set (t1.toNat) (u6.1.1.1.1,u6.2.1,()))
  (H6 (b1,AF,b2,b3,b4,AU,x7,b6,b7,b8,AK,()) u3.1.1.1).bind fun u8=>
  cond (u8.1.1.2.1)
   (if(0:Int)≤t1∧t1<(x7.length:Int)then(
   if(0:Int)≤AZ (t6-1)∧AZ (t6-1)<(((x7.getD (t1.toNat) (0,[],())).2.1).length:Int)then(
   cond (((((x7.getD (t1.toNat) (0,[],())).2.1).getD ((AZ (t6-1)).toNat) ([],[],false,())).2.2.1))
    (if(0:Int)≤u8.1.1.1∧u8.1.1.1<(b8.length:Int)then(
    R1 t1 t2 (AZ (t6+1)) AF AU AK b1 b2 b3 b4 x7 b6 b7 (b8.set (u8.1.1.1.toNat) ((b8.getD (u8.1.1.1.toNat) (0,[],false,())).1,(b8.getD (u8.1.1.1.toNat) (0,[],false,())).2.1,true,())))else none)
   (R1 t1 t2 (AZ (t6+1)) AF AU AK b1 b2 b3 b4 x7 b6 b7 b8))else none)else none)
  (R1 t1 t2 (AZ (t6+1)) AF AU AK b1 b2 b3 b4 x7 b6 b7 b8))else none)else none))))else none)else none)else none)else none)
 (some (((()),()),(((),AF,(),(),(),AU,(),(),(),(),AK,()),b1,b2,b3,b4,b5,b6,b7,b8,()))))else none
def C3:Nat→Kn
 |0=>fun _ _ _ _ _ _ _ _ _ _ _ _ _ _=>none
 |n+1=>Io (C3 n)
def NU(R1:Kn)(p1 p2 AF AU:Int)(AK:Bool)(b1:AAH)(b2:AAh)(b3:AAH)(b4:AAo)(b5:AA1)(b6:ABB)(b7:AAs)(b8:AAX):Option GC:=
 R1 p1 p2 1 AF AU AK b1 b2 b3 b4 b5 b6 b7 b8
def NL(p1 p2 AF AU:Int)(AK:Bool)(b1:AAH)(b2:AAh)(b3:AAH)(b4:AAo)(b5:AA1)(b6:ABB)(b7:AAs)(b8:AAX):Option GC:=NU (C3 Ae) p1 p2 AF AU AK b1 b2 b3 b4 b5 b6 b7 b8
abbrev I8:Type:=AE8×Unit
abbrev Re:Type:=Int→ABE→Int→Int→Int→Int→List Int→ABE→Bool→List AAH→Int→Int→Bool→List UInt8→Option I8
def Uh(R5:Re)(t6:Int)(t33:ABE)(t34 t35 AR AF:Int)(Ai:AAH)(Bk:ABE)(B_:Bool)(AU:List AAH)(CZ Bf:Int)(EF:Bool)(Gy:ACD):Option I8:=
 cond (decide (t35<t34))
  (if(0:Int)≤t35∧t35<(t33.length:Int)then(
  cond (((t33.getD (t35.toNat) (0,0,false,[],())).1)==t6)
   (some ((((t6,AR,((t33.getD (t35.toNat) (0,0,false,[],())).2.2.1),((t33.getD (t35.toNat) (0,0,false,[],())).2.2.2.1),()),true,()),()),()))
  (R5 t6 t33 t34 (AZ (t35+1)) AR AF Ai Bk B_ AU CZ Bf EF Gy))else none)
 (some ((((t6,AR,true,[],()),true,()),()),()))
def KT:Nat→Re
 |0=>fun _ _ _ _ _ _ _ _ _ _ _ _ _ _=>none
 |n+1=>Uh (KT n)
def Um(R5:Re)(p0:ABZ)(p1:Int):Option I8:=
 (Dq p0.2.1 p1).bind fun u1=>
 cond (!u1.1.1.2.1)
  (some ((((0,0,false,[],()),false,()),()),()))
 (cond (!p0.2.2.2.2.1)
  (some ((((0,0,false,[],()),false,()),()),()))
 (cond (decide (p1>(p0.2.2.2.2.2.1.length:Int)))
  (some ((((0,0,false,[],()),false,()),()),()))
 (R5 u1.1.1.1 p0.2.2.2.1 (p0.2.2.2.1.length:Int) 0 p0.1 p0.2.1 p0.2.2.1 p0.2.2.2.1 p0.2.2.2.2.1 p0.2.2.2.2.2.1 0 0 false [])))
def Je(p0:ABZ)(p1:Int):Option I8:=Um (KT Ae) p0 p1
abbrev jv:Type:=AE1×ADN
def Es(p0:ABL)(p1:ABZ):Option jv:=
 (Hv (p0.1,p0.2.1,()) (p1.1,p1.2.1,p1.2.2.1,p1.2.2.2.1,p1.2.2.2.2.1,p1.2.2.2.2.2.1,())).bind fun u1=>
 cond (!u1.1.1)
  (some (((0,0,(),(),false,(),()),()),([],[],[],())))
 ((GX (p1.1,p1.2.1,p1.2.2.1,p1.2.2.2.1,p1.2.2.2.2.1,p1.2.2.2.2.2.1,())).bind fun u2=>
 some (((u2.1.1.1,u2.1.1.2.1,(),(),u2.1.1.2.2.2.2.1,(),()),()),(u2.2.1,u2.2.2.1,u2.2.2.2.1,())))
abbrev W7:Type:=AEP×ADN
def O_(p0:ABL)(p1:ABZ)(p2 p3:Int):Option W7:=
 (Hv (p0.1,p0.2.1,()) (p1.1,p1.2.1,p1.2.2.1,p1.2.2.2.1,p1.2.2.2.2.1,p1.2.2.2.2.2.1,())).bind fun u1=>
 cond (!u1.1.1)
  ((Es (p0.1,p0.2.1,()) (p1.1,p1.2.1,p1.2.2.1,p1.2.2.2.1,p1.2.2.2.2.1,p1.2.2.2.2.2.1,())).bind fun u2=>
  some ((((u2.1.1.1,u2.1.1.2.1,(),(),u2.1.1.2.2.2.2.1,(),()),false,()),()),(u2.2.1,u2.2.2.1,u2.2.2.2.1,())))
 ((A3 p2 1 (p1.2.2.2.2.2.1.length:Int)).bind fun u4=>
 cond (!u4.1.1)
  ((Es (p0.1,p0.2.1,()) (p1.1,p1.2.1,p1.2.2.1,p1.2.2.2.1,p1.2.2.2.2.1,p1.2.2.2.2.2.1,())).bind fun u5=>
  some ((((u5.1.1.1,u5.1.1.2.1,(),(),u5.1.1.2.2.2.2.1,(),()),false,()),()),(u5.2.1,u5.2.2.1,u5.2.2.2.1,())))
 ((A3 p3 0 (AZ ((p0.1.length:Int)-1))).bind fun u7=>
 cond (!u7.1.1)
  ((Es (p0.1,p0.2.1,()) (p1.1,p1.2.1,p1.2.2.1,p1.2.2.2.1,p1.2.2.2.2.1,p1.2.2.2.2.2.1,())).bind fun u8=>
  some ((((u8.1.1.1,u8.1.1.2.1,(),(),u8.1.1.2.2.2.2.1,(),()),false,()),()),(u8.2.1,u8.2.2.1,u8.2.2.2.1,())))
 ((GX (p1.1,p1.2.1,p1.2.2.1,p1.2.2.2.1,p1.2.2.2.2.1,p1.2.2.2.2.2.1,())).bind fun u9=>
 if(0:Int)≤AZ (p2-1)∧AZ (p2-1)<(u9.2.2.2.1.length:Int)then(
 (Kk (u9.2.2.2.1.getD ((AZ (p2-1)).toNat) []) p3).bind fun EY=>
 if(0:Int)≤AZ (p2-1)∧AZ (p2-1)<(u9.2.2.2.1.length:Int)then(
 some ((((u9.1.1.1,u9.1.1.2.1,(),(),u9.1.1.2.2.2.2.1,(),()),true,()),()),(u9.2.1,u9.2.2.1,(u9.2.2.2.1.set ((AZ (p2-1)).toNat) EY.2.1),())))else none)else none)))
abbrev Jk:Type:=ACL×ADP
abbrev ME:Type:=Int→Int→Int→Int→Int→Bool→List Int→AAh→List Int→AAo→AA1→ABB→AAs→AAX→Option Jk
def HA(R1:ME)(t1 t2 t6 AF AU:Int)(AK:Bool)(b1:AAH)(b2:AAh)(b3:AAH)(b4:AAo)(b5:AA1)(b6:ABB)(b7:AAs)(b8:AAX):Option Jk:=
 if(0:Int)≤t1∧t1<(b6.length:Int)then(
 cond (decide (t6≤(((b6.getD (t1.toNat) (0,0,[],[],false,[],())).2.2.2.2.2.1).length:Int)))
  (if(0:Int)≤t1∧t1<(b6.length:Int)then(
  (Je ((b6.getD (t1.toNat) (0,0,[],[],false,[],())).1,(b6.getD (t1.toNat) (0,0,[],[],false,[],())).2.1,(b6.getD (t1.toNat) (0,0,[],[],false,[],())).2.2.1,(b6.getD (t1.toNat) (0,0,[],[],false,[],())).2.2.2.1,(b6.getD (t1.toNat) (0,0,[],[],false,[],())).2.2.2.2.1,(b6.getD (t1.toNat) (0,0,[],[],false,[],())).2.2.2.2.2.1,()) t6).bind fun u2=>
  if(0:Int)≤t2∧t2<(b2.length:Int)then(
  (GS ((b2.getD (t2.toNat) ([],[],0,())).1,(b2.getD (t2.toNat) ([],[],0,())).2.1,(b2.getD (t2.toNat) ([],[],0,())).2.2.1,()) u2.1.1.1.1).bind fun u3=>
  cond (u2.1.1.2.1)
   (cond (u3.1.1.2.1)
    (cond (((u3.1.1.1.1==u2.1.1.1.1)&&((u3.1.1.1.2.1==u2.1.1.1.2.1)&&((u3.1.1.1.2.2.1==u2.1.1.1.2.2.1)&&((u3.1.1.1.2.2.2.1==u2.1.1.1.2.2.2.1)&&true)))))
     (if(0:Int)≤t1∧t1<(b6.length:Int)then(
     (O_ (b1,AF,()) ((b6.getD (t1.toNat) (0,0,[],[],false,[],())).1,(b6.getD (t1.toNat) (0,0,[],[],false,[],())).2.1,(b6.getD (t1.toNat) (0,0,[],[],false,[],())).2.2.1,(b6.getD (t1.toNat) (0,0,[],[],false,[],())).2.2.2.1,(b6.getD (t1.toNat) (0,0,[],[],false,[],())).2.2.2.2.1,(b6.getD (t1.toNat) (0,0,[],[],false,[],())).2.2.2.2.2.1,()) t6 t2).bind fun u5=>
     if(0:Int)≤t1∧t1<(b6.length:Int)then(
     R1 t1 t2 (AZ (t6+1)) AF AU AK b1 b2 b3 b4 b5 (b6.set (t1.toNat) (u5.1.1.1.1,u5.1.1.1.2.1,u5.2.1,u5.2.2.1,u5.1.1.1.2.2.2.2.1,u5.2.2.2.1,())) b7 b8)else none)else none)
    (R1 t1 t2 (AZ (t6+1)) AF AU AK b1 b2 b3 b4 b5 b6 b7 b8))
   (R1 t1 t2 (AZ (t6+1)) AF AU AK b1 b2 b3 b4 b5 b6 b7 b8))
  (R1 t1 t2 (AZ (t6+1)) AF AU AK b1 b2 b3 b4 b5 b6 b7 b8))else none)else none)
 (some (((()),()),(((),AF,(),(),(),AU,(),(),(),(),AK,()),b1,b2,b3,b4,b5,b6,b7,b8,()))))else none
def BU:Nat→ME
 |0=>fun _ _ _ _ _ _ _ _ _ _ _ _ _ _=>none
 |n+1=>HA (BU n)
def Ju(R1:ME)(p1 p2 AF AU:Int)(AK:Bool)(b1:AAH)(b2:AAh)(b3:AAH)(b4:AAo)(b5:AA1)(b6:ABB)(b7:AAs)(b8:AAX):Option Jk:=
 R1 p1 p2 1 AF AU AK b1 b2 b3 b4 b5 b6 b7 b8
def K0(p1 p2 AF AU:Int)(AK:Bool)(b1:AAH)(b2:AAh)(b3:AAH)(b4:AAo)(b5:AA1)(b6:ABB)(b7:AAs)(b8:AAX):Option Jk:=Ju (BU Ae) p1 p2 AF AU AK b1 b2 b3 b4 b5 b6 b7 b8
abbrev H4:Type:=ABg×ADP
abbrev L_:Type:=Int→Int→Int→Int→Int→Bool→List Int→AAh→List Int→AAo→AA1→ABB→AAs→AAX→Int→Option H4
abbrev Ky:Type:=Int→Int→Int→Int→Int→Bool→List Int→AAh→List Int→AAo→AA1→ABB→AAs→AAX→Option H4
def NJ(R9:L_)(ir:Ky)(t1 t42 t43 AF AU:Int)(AK:Bool)(b1:AAH)(b2:AAh)(b3:AAH)(b4:AAo)(b5:AA1)(b6:ABB)(b7:AAs)(b8:AAX)(dG:Int):Option H4:=
 cond (decide (t43<t42))
  (if(0:Int)≤t43∧t43<(b5.length:Int)then(
  cond (decide (((b5.getD (t43.toNat) (0,[],())).1)>dG))
   ((Iq (b4,AU,()) ((b5.getD (t43.toNat) (0,[],())).1)).bind fun u6=>
   (Bo u6.2.1 t1).bind fun u7=>
   cond (u7.1.1)
    ((NL t43 t1 AF AU AK b1 b2 b3 b4 b5 b6 b7 b8).bind fun u8=>
    R9 t1 t42 (AZ (t43+1)) u8.2.1.2.1 u8.2.1.2.2.2.2.2.1 u8.2.1.2.2.2.2.2.2.2.2.2.2.1 u8.2.2.1 u8.2.2.2.1 u8.2.2.2.2.1 u8.2.2.2.2.2.1 u8.2.2.2.2.2.2.1 u8.2.2.2.2.2.2.2.1 u8.2.2.2.2.2.2.2.2.1 u8.2.2.2.2.2.2.2.2.2.1 dG)
   (R9 t1 t42 (AZ (t43+1)) AF AU AK b1 b2 b3 b4 b5 b6 b7 b8 dG))
  (R9 t1 t42 (AZ (t43+1)) AF AU AK b1 b2 b3 b4 b5 b6 b7 b8 dG))else none)
 (ir t1 (b6.length:Int) 0 AF AU AK b1 b2 b3 b4 b5 b6 b7 b8)
def MT(R9:L_)(ir:Ky)(t1 t73 t74 AF AU:Int)(AK:Bool)(b1:AAH)(b2:AAh)(b3:AAH)(b4:AAo)(b5:AA1)(b6:ABB)(b7:AAs)(b8:AAX):Option H4:=
 cond (decide (t74<t73))
  (if(0:Int)≤t74∧t74<(b6.length:Int)then(
  (Iq (b4,AU,()) ((b6.getD (t74.toNat) (0,0,[],[],false,[],())).2.1)).bind fun Nj=>
  (Bo Nj.2.1 t1).bind fun bp=>
  cond (bp.1.1)
   ((K0 t74 t1 AF AU AK b1 b2 b3 b4 b5 b6 b7 b8).bind fun WW=>
   ir t1 t73 (AZ (t74+1)) WW.2.1.2.1 WW.2.1.2.2.2.2.2.1 WW.2.1.2.2.2.2.2.2.2.2.2.2.1 WW.2.2.1 WW.2.2.2.1 WW.2.2.2.2.1 WW.2.2.2.2.2.1 WW.2.2.2.2.2.2.1 WW.2.2.2.2.2.2.2.1 WW.2.2.2.2.2.2.2.2.1 WW.2.2.2.2.2.2.2.2.2.1)
  (ir t1 t73 (AZ (t74+1)) AF AU AK b1 b2 b3 b4 b5 b6 b7 b8))else none)
 (some ((0,()),(((),AF,(),(),(),AU,(),(),(),(),AK,()),b1,b2,b3,b4,b5,b6,b7,b8,())))
mutual
def Ez:Nat→L_
 |0=>fun _ _ _ _ _ _ _ _ _ _ _ _ _ _ _=>none
 |n+1=>NJ (Ez n) (FP n)
def FP:Nat→Ky
 |0=>fun _ _ _ _ _ _ _ _ _ _ _ _ _ _=>none
 |n+1=>MT (Ez n) (FP n)
end
def S3(R9:L_)(ir:Ky)(p1 AF AU:Int)(AK:Bool)(b1:AAH)(b2:AAh)(b3:AAH)(b4:AAo)(b5:AA1)(b6:ABB)(b7:AAs)(b8:AAX):Option H4:=
 (EP (b1,AF,b2,b3,b4,AU,b5,b6,b7,b8,AK,()) p1).bind fun u1=>
 cond (u1.1.1 !=0)
  (some ((u1.1.1,()),(((),AF,(),(),(),AU,(),(),(),(),AK,()),b1,b2,b3,b4,b5,b6,b7,b8,())))
 (if(0:Int)≤p1∧p1<(b2.length:Int)then(
 (Od ((b2.getD (p1.toNat) ([],[],0,())).1,(b2.getD (p1.toNat) ([],[],0,())).2.1,(b2.getD (p1.toNat) ([],[],0,())).2.2.1,())).bind fun u2=>
 cond (!u2.1.1.2.1)
  (some ((4,()),(((),AF,(),(),(),AU,(),(),(),(),AK,()),b1,b2,b3,b4,b5,b6,b7,b8,())))
 (if(0:Int)≤p1∧p1<(b2.length:Int)then(
 R9 p1 (b5.length:Int) 0 AF AU AK b1 (b2.set (p1.toNat) (u2.2.1,u2.2.2.1,u2.1.1.1.2.2.1,())) b3 b4 b5 b6 b7 b8 u2.1.1.1.2.2.1)else none))else none)
def QK(p1 AF AU:Int)(AK:Bool)(b1:AAH)(b2:AAh)(b3:AAH)(b4:AAo)(b5:AA1)(b6:ABB)(b7:AAs)(b8:AAX):Option H4:=S3 (Ez Ae) (FP Ae) p1 AF AU AK b1 b2 b3 b4 b5 b6 b7 b8
abbrev gF:Type:=ABg×ADP
def On(p1 p2 AF AU:Int)(AK:Bool)(b1:AAH)(b2:AAh)(b3:AAH)(b4:AAo)(b5:AA1)(b6:ABB)(b7:AAs)(b8:AAX):Option gF:=
 (EP (b1,AF,b2,b3,b4,AU,b5,b6,b7,b8,AK,()) p1).bind fun u1=>
 cond (u1.1.1 !=0)
  (some ((u1.1.1,()),(((),AF,(),(),(),AU,(),(),(),(),AK,()),b1,b2,b3,b4,b5,b6,b7,b8,())))
 (if(0:Int)≤p1∧p1<(b2.length:Int)then(
 (Mj ((b2.getD (p1.toNat) ([],[],0,())).1,(b2.getD (p1.toNat) ([],[],0,())).2.1,(b2.getD (p1.toNat) ([],[],0,())).2.2.1,()) p2).bind fun u2=>
 if(0:Int)≤p1∧p1<(b2.length:Int)then(
 (J1 u2.1.1.2.1).bind fun u4=>
 some ((u4.1.1,()),(((),AF,(),(),(),AU,(),(),(),(),AK,()),b1,(b2.set (p1.toNat) (u2.2.1,u2.2.2.1,u2.1.1.1.2.2.1,())),b3,b4,b5,b6,b7,b8,())))else none)else none)
abbrev cr:Type:=ABT×Unit
def MP(p0:Int)(p1:ABg):Option cr:=
 some ((p0==p1.1,()),())
abbrev Cj:Type:=ABg×Unit
abbrev DZ:Type:=List Int→ADI→Int→Int→Option Cj
def E9(R2:DZ)(t0:AAH)(t1:ADI)(t7 t8:Int):Option Cj:=
 cond (decide (t8<t7))
  (if(0:Int)≤t8∧t8<(t0.length:Int)then(
  (MP (t0.getD (t8.toNat) 0) t1.1).bind fun u2=>
  cond (u2.1.1)
   (some ((t8,()),()))
  (R2 t0 (t1.1,()) t7 (AZ (t8+1))))else none)
 (some (((-1),()),()))
def Bw:Nat→DZ
 |0=>fun _ _ _ _=>none
 |n+1=>E9 (Bw n)
def E_(R2:DZ)(p0:AAH)(p1:ADI):Option Cj:=
 R2 p0 (p1.1,()) (p0.length:Int) 0
def D1(p0:AAH)(p1:ADI):Option Cj:=E_ (Bw Ae) p0 p1
abbrev Cd:Type:=ACL×AGN
abbrev DQ:Type:=ADI→Int→Int→List Int→Option Cd
def El(R5:DQ)(t1:ADI)(t5 t6:Int)(b0:AAH):Option Cd:=
 cond ((decide (t6<(b0.length:Int))))
  (if(0:Int)≤t6∧t6<(b0.length:Int)then(
  let x3:Int:=(b0.getD (t6.toNat) 0)
  (MP x3 t1.1).bind fun u4=>
  cond (!u4.1.1)
   (if(0:Int)≤t5∧t5<(b0.length:Int)then(
   R5 (t1.1,()) (AZ (t5+1)) (AZ (t6+1)) (b0.set (t5.toNat) x3))else none)
  (R5 (t1.1,()) t5 (AZ (t6+1)) b0))else none)
 (if(0:Int)≤t5∧t5≤(b0.length:Int)∧(b0.length:Int)≤(b0.length:Int)then(
 let x6:AAH:=(b0.take (t5.toNat)++List.replicate (((b0.length:Int).toNat)-(t5.toNat)) 0++b0.drop ((t5.toNat)+(((b0.length:Int).toNat)-(t5.toNat))))
 if(0:Int)≤(0:Int)∧(0:Int)≤t5∧t5≤(x6.length:Int)then(
 some (((),()),((),((x6.drop 0).take ((t5.toNat)-0)),())))else none)else none)
def Br:Nat→DQ
 |0=>fun _ _ _ _=>none
 |n+1=>El (Br n)
def Ey(R5:DQ)(p1:ADI)(b0:AAH):Option Cd:=
 (D1 b0 (p1.1,())).bind fun u1=>
 cond (u1.1.1==(-1))
  (some (((),()),((),b0,())))
 (R5 (p1.1,()) u1.1.1 (AZ (u1.1.1+1)) b0)
def Cp(p1:ADI)(b0:AAH):Option Cd:=Ey (Br Ae) p1 b0
abbrev XA:Type:=ACL×ACr
def HH(p0:AAH)(p1:Int):Option XA:=
 (DG p0).bind fun u1=>
 (Cp ((p1,()),()) u1.2.1).bind fun u2=>
 some (((),()),(u2.2.2.1,()))
abbrev Ku:Type:=AFJ×AD7
abbrev OU:Type:=Int→AB7→Int→Int→Int→AB7→Int→AB7→Option Ku
def Qw(R5:OU)(t2:Int)(t19:AB7)(t20 t21 AR:Int)(b1:AB7)(Zw:Int)(b3:AB7):Option Ku:=
 cond (decide (t21<t20))
  (if(0:Int)≤t21∧t21<(t19.length:Int)then(
  cond (!((t19.getD (t21.toNat) ([],[],false,())).2.2.1))
   ((HH ((t19.getD (t21.toNat) ([],[],false,())).2.1) t2).bind fun u5=>
   if(0:Int)≤t21∧t21<(b3.length:Int)then(
   R5 t2 t19 t20 (AZ (t21+1)) AR b1 Zw (b3.set (t21.toNat) ((b3.getD (t21.toNat) ([],[],false,())).1,u5.2.1,(b3.getD (t21.toNat) ([],[],false,())).2.2.1,())))else none)
  (R5 t2 t19 t20 (AZ (t21+1)) AR b1 Zw b3))else none)
 (some ((((Zw,(),()),true,()),()),(b3,())))
def Hj:Nat→OU
 |0=>fun _ _ _ _ _ _ _ _=>none
 |n+1=>Qw (Hj n)
def Q6(R5:OU)(p0:ABL)(p1:ACI)(p2:Int):Option Ku:=
 (GW (p0.1,p0.2.1,()) (p1.1,p1.2.1,())).bind fun u1=>
 cond (!u1.1.1)
  (some ((((0,(),()),false,()),()),([],())))
 ((Ft (p1.1,p1.2.1,())).bind fun u2=>
 R5 p2 p1.2.1 (p1.2.1.length:Int) 0 0 [] u2.1.1.1 u2.2.1)
def Ng(p0:ABL)(p1:ACI)(p2:Int):Option Ku:=Q6 (Hj Ae) p0 p1 p2
abbrev Na:Type:=AEP×ADN
abbrev Qf:Type:=Int→List AAH→Int→Int→Int→Int→Bool→List Int→ABE→List AAH→Int→Int→Bool→List Int→ABE→List AAH→Option Na
def Sl(R5:Qf)(t2:Int)(t19:List AAH)(t20 t21 AR AF:Int)(B_:Bool)(b1:AAH)(b2:ABE)(b3:List AAH)(wq xc:Int)(wV:Bool)(b5:AAH)(b6:ABE)(b7:List AAH):Option Na:=
 cond (decide (t21<t20))
  (if(0:Int)≤t21∧t21<(t19.length:Int)then(
  (HH (t19.getD (t21.toNat) []) t2).bind fun u4=>
  if(0:Int)≤t21∧t21<(b7.length:Int)then(
  R5 t2 t19 t20 (AZ (t21+1)) AR AF B_ b1 b2 b3 wq xc wV b5 b6 (b7.set (t21.toNat) u4.2.1))else none)else none)
 (some ((((wq,xc,(),(),wV,(),()),true,()),()),(b5,b6,b7,())))
def JY:Nat→Qf
 |0=>fun _ _ _ _ _ _ _ _ _ _ _ _ _ _ _ _=>none
 |n+1=>Sl (JY n)
def S5(R5:Qf)(p0:ABL)(p1:ABZ)(p2:Int):Option Na:=
 (Hv (p0.1,p0.2.1,()) (p1.1,p1.2.1,p1.2.2.1,p1.2.2.2.1,p1.2.2.2.2.1,p1.2.2.2.2.2.1,())).bind fun u1=>
 cond (!u1.1.1)
  (some ((((0,0,(),(),false,(),()),false,()),()),([],[],[],())))
 ((GX (p1.1,p1.2.1,p1.2.2.1,p1.2.2.2.1,p1.2.2.2.2.1,p1.2.2.2.2.2.1,())).bind fun u2=>
 R5 p2 p1.2.2.2.2.2.1 (p1.2.2.2.2.2.1.length:Int) 0 0 0 false [] [] [] u2.1.1.1 u2.1.1.2.1 u2.1.1.2.2.2.2.1 u2.2.1 u2.2.2.1 u2.2.2.2.1)
def P5(p0:ABL)(p1:ABZ)(p2:Int):Option Na:=S5 (JY Ae) p0 p1 p2
abbrev Gl:Type:=ABg×AGc
abbrev MA:Type:=Int→Int→Int→Int→Int→Bool→List Int→AAh→List Int→AAo→AA1→ABB→AAs→AAX→List Int→Option Gl
abbrev Kq:Type:=Int→Int→Int→Int→Int→Bool→List Int→AAh→List Int→AAo→AA1→ABB→AAs→AAX→List Int→Option Gl
def Sn(R7:MA)(R12:Kq)(t1 t36 t37 AF AU:Int)(AK:Bool)(b1:AAH)(b2:AAh)(b3:AAH)(b4:AAo)(b5:AA1)(b6:ABB)(b7:AAs)(b8:AAX)(b9:AAH):Option Gl:=
 cond (decide (t37<t36))
  (if(0:Int)≤t37∧t37<(b5.length:Int)then(
  (Ng (b1,AF,()) ((b5.getD (t37.toNat) (0,[],())).1,(b5.getD (t37.toNat) (0,[],())).2.1,()) t1).bind fun u4=>
  if(0:Int)≤t37∧t37<(b5.length:Int)then(
  R7 t1 t36 (AZ (t37+1)) AF AU AK b1 b2 b3 b4 (b5.set (t37.toNat) (u4.1.1.1.1,u4.2.1,())) b6 b7 b8 b9)else none)else none)
 (R12 t1 (b6.length:Int) 0 AF AU AK b1 b2 b3 b4 b5 b6 b7 b8 b9)
def RW(R7:MA)(R12:Kq)(t1 t63 t64 AF AU:Int)(AK:Bool)(b1:AAH)(b2:AAh)(b3:AAH)(b4:AAo)(b5:AA1)(b6:ABB)(b7:AAs)(b8:AAX)(b9:AAH):Option Gl:=
 cond (decide (t64<t63))
  (if(0:Int)≤t64∧t64<(b6.length:Int)then(
  (P5 (b1,AF,()) ((b6.getD (t64.toNat) (0,0,[],[],false,[],())).1,(b6.getD (t64.toNat) (0,0,[],[],false,[],())).2.1,(b6.getD (t64.toNat) (0,0,[],[],false,[],())).2.2.1,(b6.getD (t64.toNat) (0,0,[],[],false,[],())).2.2.2.1,(b6.getD (t64.toNat) (0,0,[],[],false,[],())).2.2.2.2.1,(b6.getD (t64.toNat) (0,0,[],[],false,[],())).2.2.2.2.2.1,()) t1).bind fun u6=>
  if(0:Int)≤t64∧t64<(b6.length:Int)then(
  R12 t1 t63 (AZ (t64+1)) AF AU AK b1 b2 b3 b4 b5 (b6.set (t64.toNat) (u6.1.1.1.1,u6.1.1.1.2.1,u6.2.1,u6.2.2.1,u6.1.1.1.2.2.2.2.1,u6.2.2.2.1,())) b7 b8 b9)else none)else none)
 (cond (AK)
  (some ((0,()),(((),AF,(),(),(),AU,(),(),(),(),true,()),b1,b2,(),b4,b5,b6,b7,b8,b9,())))
 ((Gc (b1,AF,()) b9).bind fun u8=>
 some ((0,()),(((),AF,(),(),(),AU,(),(),(),(),u8.1.1,()),b1,b2,(),b4,b5,b6,b7,b8,b9,()))))
mutual
def HU:Nat→MA
 |0=>fun _ _ _ _ _ _ _ _ _ _ _ _ _ _ _=>none
 |n+1=>Sn (HU n) (Gx n)
def Gx:Nat→Kq
 |0=>fun _ _ _ _ _ _ _ _ _ _ _ _ _ _ _=>none
 |n+1=>RW (HU n) (Gx n)
end
def Sr(R7:MA)(R12:Kq)(p1 AF AU:Int)(AK:Bool)(b1:AAH)(b2:AAh)(b3:AAH)(b4:AAo)(b5:AA1)(b6:ABB)(b7:AAs)(b8:AAX):Option Gl:=
 (EP (b1,AF,b2,b3,b4,AU,b5,b6,b7,b8,AK,()) p1).bind fun u1=>
 cond (u1.1.1 !=0)
  (some ((u1.1.1,()),(((),AF,(),(),(),AU,(),(),(),(),AK,()),b1,b2,(),b4,b5,b6,b7,b8,b3,())))
 (if(0:Int)≤p1∧p1<(b2.length:Int)then(
 (Kk b3 p1).bind fun u3=>
 R7 p1 (b5.length:Int) 0 AF AU AK b1 (b2.set (p1.toNat) ([],[],0,())) b3 b4 b5 b6 b7 b8 u3.2.1)else none)
def QB(p1 AF AU:Int)(AK:Bool)(b1:AAH)(b2:AAh)(b3:AAH)(b4:AAo)(b5:AA1)(b6:ABB)(b7:AAs)(b8:AAX):Option Gl:=Sr (HU Ae) (Gx Ae) p1 AF AU AK b1 b2 b3 b4 b5 b6 b7 b8
abbrev rS:Type:=ABT×Unit
def X7(p0:ABL)(p1:AAH):Option rS:=
 (EA (p0.1,p0.2.1,()) p1).bind fun u1=>
 cond (u1.1.1)
  ((Gc (p0.1,p0.2.1,()) p1).bind fun u2=>
  some ((!u2.1.1,()),()))
 (some ((false,()),()))
abbrev Ot:Type:=ACL×AEq
abbrev T6:Type:=AAh→Int→Int→ABE→Option Ot
abbrev To:Type:=AAh→Int→Int→ABE→Int→Int→ABE→Option Ot
def Zo(R3:T6)(R8:To)(t9:AAh)(t10 t11:Int)(b0:ABE):Option Ot:=
 cond (decide (t11<t10))
  (if(0:Int)≤t11∧t11<(t9.length:Int)then(
  (FF ((t9.getD (t11.toNat) ([],[],0,())).1,(t9.getD (t11.toNat) ([],[],0,())).2.1,(t9.getD (t11.toNat) ([],[],0,())).2.2.1,())).bind fun u1=>
  cond (!u1.1.1)
   (some (((),()),([],())))
  (R8 t9 t10 t11 ((t9.getD (t11.toNat) ([],[],0,())).1) (((t9.getD (t11.toNat) ([],[],0,())).1).length:Int) 0 b0))else none)
 (some (((),()),(b0,())))
def Zr(R3:T6)(R8:To)(t9:AAh)(t10 t11:Int)(t19:ABE)(t20 t21:Int)(b0:ABE):Option Ot:=
 cond (decide (t21<t20))
  (if(0:Int)≤t21∧t21<(t19.length:Int)then(
  (WS ((t19.getD (t21.toNat) (0,0,false,[],())).1,(t19.getD (t21.toNat) (0,0,false,[],())).2.1,(t19.getD (t21.toNat) (0,0,false,[],())).2.2.1,(t19.getD (t21.toNat) (0,0,false,[],())).2.2.2.1,()) b0).bind fun u3=>
  R8 t9 t10 t11 t19 t20 (AZ (t21+1)) u3.2.2.1)else none)
 (R3 t9 t10 (AZ (t11+1)) b0)
mutual
def M5:Nat→T6
 |0=>fun _ _ _ _=>none
 |n+1=>Zo (M5 n) (M6 n)
def M6:Nat→To
 |0=>fun _ _ _ _ _ _ _=>none
 |n+1=>Zr (M5 n) (M6 n)
end
def kZ(R3:T6)(R8:To)(p0:AAh):Option Ot:=
 R3 p0 (p0.length:Int) 0 []
def gg(p0:AAh):Option Ot:=kZ (M5 Ae) (M6 Ae) p0
abbrev UQ:Type:=ADO×AGb
abbrev bZ:Type:=List Int→Int→Int→Int→AAh→Int→ABE→ABE→AAh→Option UQ
def bq(R5:bZ)(t2:AAH)(t4 t37 t38:Int)(b0:AAh)(EF:Int)(b2 b3:ABE)(b4:AAh):Option UQ:=
 cond (decide (t38<t37))
  (if(0:Int)≤t38∧t38<(b0.length:Int)then(
  (Bo t2 t38).bind fun u4=>
  cond (u4.1.1)
   (R5 t2 t4 t37 (AZ (t38+1)) b0 EF b2 b3 b4)
  ((FF ((b0.getD (t38.toNat) ([],[],0,())).1,(b0.getD (t38.toNat) ([],[],0,())).2.1,(b0.getD (t38.toNat) ([],[],0,())).2.2.1,())).bind fun u5=>
  cond (!u5.1.1)
   (some (((((),(),0,()),false,()),()),(b0,[],[],())))
  (if b4.length+1≤Dw then(
  R5 t2 t4 t37 (AZ (t38+1)) b0 EF b2 b3 (b4++[((b0.getD (t38.toNat) ([],[],0,())).1,(b0.getD (t38.toNat) ([],[],0,())).2.1,(b0.getD (t38.toNat) ([],[],0,())).2.2.1,())]))else none)))else none)
 ((gg b4).bind fun u7=>
 (FF (u7.2.1,[],t4,())).bind fun u8=>
 cond (!u8.1.1)
  (some (((((),(),0,()),false,()),()),(b0,[],[],())))
 (some (((((),(),t4,()),true,()),()),(b0,u7.2.1,[],()))))
def Ru:Nat→bZ
 |0=>fun _ _ _ _ _ _ _ _ _=>none
 |n+1=>bq (Ru n)
def cF(R5:bZ)(p0:ABL)(p2:AAH)(p3 p4:Int)(b0:AAh):Option UQ:=
 cond (((b0.length:Int) !=(p0.1.length:Int)))
  (some (((((),(),0,()),false,()),()),(b0,[],[],())))
 ((X7 (p0.1,p0.2.1,()) p2).bind fun u2=>
 cond (!u2.1.1)
  (some (((((),(),0,()),false,()),()),(b0,[],[],())))
 ((Bo p2 p3).bind fun u3=>
 cond (!u3.1.1)
  (some (((((),(),0,()),false,()),()),(b0,[],[],())))
 (R5 p2 p4 (b0.length:Int) 0 b0 0 [] [] [])))
def Zm(p0:ABL)(p2:AAH)(p3 p4:Int)(b0:AAh):Option UQ:=cF (Ru Ae) p0 p2 p3 p4 b0
abbrev jA:Type:=ABg×AGc
def J5(p1 AF AU:Int)(AK:Bool)(b1:AAH)(b2:AAh)(b3:AAH)(b4:AAo)(b5:AA1)(b6:ABB)(b7:AAs)(b8:AAX):Option jA:=
 (A3 p1 0 (AZ ((b2.length:Int)-1))).bind fun u2=>
 cond (!u2.1.1)
  (some ((2,()),(((),AF,(),(),(),AU,(),(),(),(),AK,()),b1,b2,(),b4,b5,b6,b7,b8,b3,())))
 ((C6 (b1,AF,b2,b3,b4,AU,b5,b6,b7,b8,AK,()) p1).bind fun u3=>
 cond (!u3.1.1)
  (some ((2,()),(((),AF,(),(),(),AU,(),(),(),(),AK,()),b1,b2,(),b4,b5,b6,b7,b8,b3,())))
 (let x4:Int:=AZ ((b4.length:Int)-1)
 (Zm (b1,AF,()) b3 p1 (if 0>x4 then 0 else x4) b2).bind fun u6=>
 cond (!u6.1.1.2.1)
  (some ((4,()),(((),AF,(),(),(),AU,(),(),(),(),AK,()),b1,u6.2.1,(),b4,b5,b6,b7,b8,b3,())))
 (if(0:Int)≤p1∧p1<(u6.2.1.length:Int)then(
 (HH b3 p1).bind fun u8=>
 some ((0,()),(((),AF,(),(),(),AU,(),(),(),(),AK,()),b1,(u6.2.1.set (p1.toNat) (u6.2.2.1,u6.2.2.2.1,u6.1.1.1.2.2.1,())),(),b4,b5,b6,b7,b8,u8.2.1,())))else none)))
abbrev qf:Type:=AE1×ADN
def ix(p0 p1:Int):Option qf:=
 some (((p1,p0,(),(),false,(),()),()),([],[],[],()))
abbrev YR:Type:=ABg×(ADQ×List Int×AAh×List Int×AAo×AA1×Unit×AAs×AAX×ABB×Unit)
def P7(AF AU:Int)(AK:Bool)(b1:AAH)(b2:AAh)(b3:AAH)(b4:AAo)(b5:AA1)(b6:ABB)(b7:AAs)(b8:AAX):Option YR:=
 (Lq (b4,AU,())).bind fun u1=>
 cond ((decide ((b4.length:Int)<2)))
  (some ((2,()),(((),AF,(),(),(),AU,(),(),(),(),AK,()),b1,b2,b3,b4,b5,(),b7,b8,b6,())))
 (cond ((u1.1.1==(b4.length:Int)))
  (some ((2,()),(((),AF,(),(),(),AU,(),(),(),(),AK,()),b1,b2,b3,b4,b5,(),b7,b8,b6,())))
 (cond ((decide ((b6.length:Int)>0)))
  (some ((4,()),(((),AF,(),(),(),AU,(),(),(),(),AK,()),b1,b2,b3,b4,b5,(),b7,b8,b6,())))
 ((ix u1.1.1 (b4.length:Int)).bind fun u5=>
 some ((0,()),(((),AF,(),(),(),AU,(),(),(),(),AK,()),b1,b2,b3,b4,b5,(),b7,b8,[(u5.1.1.1,u5.1.1.2.1,u5.2.1,u5.2.2.1,u5.1.1.2.2.2.2.1,u5.2.2.2.1,())],())))))
abbrev TX:Type:=ADO×ADM
def N5(p0:ACc)(p1:Int):Option TX:=
 (Od (p0.1,p0.2.1,p0.2.2.1,())).bind fun u1=>
 cond (!u1.1.1.2.1)
  ((Dl (p0.1,p0.2.1,p0.2.2.1,())).bind fun u2=>
  some (((((),(),u2.1.1.2.2.1,()),false,()),()),(u2.2.1,u2.2.2.1,())))
 ((A3 p1 0 30).bind fun u3=>
 cond (!u3.1.1)
  ((Dl (p0.1,p0.2.1,p0.2.2.1,())).bind fun u4=>
  some (((((),(),u4.1.1.2.2.1,()),false,()),()),(u4.2.1,u4.2.2.1,())))
 (some (((((),(),(if p1>u1.1.1.1.2.2.1 then p1 else u1.1.1.1.2.2.1),()),true,()),()),(u1.2.1,u1.2.2.1,()))))
abbrev J3:Type:=ACL×AEq
abbrev TZ:Type:=Int→ABE→Int→Int→ABE→Option J3
def Vl(R5:TZ)(t1:Int)(t14:ABE)(t15 t16:Int)(b0:ABE):Option J3:=
 cond (decide (t16<t15))
  (if(0:Int)≤t16∧t16<(t14.length:Int)then(
  (FI ((t14.getD (t16.toNat) (0,0,false,[],())).1)).bind fun u3=>
  cond (u3.1.1==t1)
   (if b0.length+1≤Dw then(
   R5 t1 t14 t15 (AZ (t16+1)) (b0++[((t14.getD (t16.toNat) (0,0,false,[],())).1,(t14.getD (t16.toNat) (0,0,false,[],())).2.1,(t14.getD (t16.toNat) (0,0,false,[],())).2.2.1,(t14.getD (t16.toNat) (0,0,false,[],())).2.2.2.1,())]))else none)
  (R5 t1 t14 t15 (AZ (t16+1)) b0))else none)
 (some (((),()),(b0,())))
def LV:Nat→TZ
 |0=>fun _ _ _ _ _=>none
 |n+1=>Vl (LV n)
def VU(R5:TZ)(p0:ACc)(p1:Int):Option J3:=
 (FF (p0.1,p0.2.1,p0.2.2.1,())).bind fun u1=>
 cond (!u1.1.1)
  (some (((),()),([],())))
 (R5 p1 p0.1 (p0.1.length:Int) 0 [])
def Pk(p0:ACc)(p1:Int):Option J3:=VU (LV Ae) p0 p1
abbrev Jy:Type:=AEP×ADN
abbrev Ti:Type:=ABE→Int→Int→List Int→Int→Int→Int→List Int→ABE→Bool→List AAH→Int→Int→Bool→List Int→ABE→List AAH→Int→Int→Bool→List Int→ABE→List AAH→Option Jy
def VW(R6:Ti)(t31:ABE)(t32 t33:Int)(AR:AAH)(AF CZ Bf:Int)(EF:AAH)(Gy:ABE)(MI:Bool)(EE:List AAH)(Zw mc:Int)(uL:Bool)(b3:AAH)(b4:ABE)(b5:List AAH)(tW uw:Int)(uK:Bool)(b7:AAH)(b8:ABE)(b9:List AAH):Option Jy:=
 cond (decide (t33<t32))
  (if(0:Int)≤t33∧t33<(t31.length:Int)then(
  (FI ((t31.getD (t33.toNat) (0,0,false,[],())).1)).bind fun u7=>
  cond (u7.1.1==Bf)
   ((WS ((t31.getD (t33.toNat) (0,0,false,[],())).1,(t31.getD (t33.toNat) (0,0,false,[],())).2.1,(t31.getD (t33.toNat) (0,0,false,[],())).2.2.1,(t31.getD (t33.toNat) (0,0,false,[],())).2.2.2.1,()) b8).bind fun u8=>
   R6 t31 t32 (AZ (t33+1)) AR AF CZ Bf EF Gy MI EE Zw mc uL b3 b4 b5 tW uw uK b7 u8.2.2.1 b9)
  (R6 t31 t32 (AZ (t33+1)) AR AF CZ Bf EF Gy MI EE Zw mc uL b3 b4 b5 tW uw uK b7 b8 b9))else none)
 ((Hv (AR,AF,()) (tW,uw,b7,b8,uK,b9,())).bind fun u9=>
 cond (!u9.1.1)
  ((GX (CZ,Bf,EF,Gy,MI,EE,())).bind fun EY=>
  some ((((EY.1.1.1,EY.1.1.2.1,(),(),EY.1.1.2.2.2.2.1,(),()),false,()),()),(EY.2.1,EY.2.2.1,EY.2.2.2.1,())))
 (some ((((tW,uw,(),(),uK,(),()),true,()),()),(b7,b8,b9,()))))
def Lk:Nat→Ti
 |0=>fun _ _ _ _ _ _ _ _ _ _ _ _ _ _ _ _ _ _ _ _ _ _ _=>none
 |n+1=>VW (Lk n)
def VV(R6:Ti)(p0:ABL)(p1:ABZ)(p2:Int)(p3:ABE):Option Jy:=
 (Hv (p0.1,p0.2.1,()) (p1.1,p1.2.1,p1.2.2.1,p1.2.2.2.1,p1.2.2.2.2.1,p1.2.2.2.2.2.1,())).bind fun u1=>
 cond (!u1.1.1)
  ((Es (p0.1,p0.2.1,()) (p1.1,p1.2.1,p1.2.2.1,p1.2.2.2.1,p1.2.2.2.2.1,p1.2.2.2.2.2.1,())).bind fun u2=>
  some ((((u2.1.1.1,u2.1.1.2.1,(),(),u2.1.1.2.2.2.2.1,(),()),false,()),()),(u2.2.1,u2.2.2.1,u2.2.2.2.1,())))
 (cond (p1.2.2.2.2.1)
  ((Es (p0.1,p0.2.1,()) (p1.1,p1.2.1,p1.2.2.1,p1.2.2.2.1,p1.2.2.2.2.1,p1.2.2.2.2.2.1,())).bind fun u3=>
  some ((((u3.1.1.1,u3.1.1.2.1,(),(),u3.1.1.2.2.2.2.1,(),()),false,()),()),(u3.2.1,u3.2.2.1,u3.2.2.2.1,())))
 ((GX (p1.1,p1.2.1,p1.2.2.1,p1.2.2.2.1,p1.2.2.2.2.1,p1.2.2.2.2.2.1,())).bind fun u4=>
 (Kk u4.2.1 p2).bind fun u5=>
 R6 p3 (p3.length:Int) 0 p0.1 p0.2.1 p1.1 p1.2.1 p1.2.2.1 p1.2.2.2.1 p1.2.2.2.2.1 p1.2.2.2.2.2.1 0 0 false [] [] [] u4.1.1.1 u4.1.1.2.1 u4.1.1.2.2.2.2.1 u5.2.1 u4.2.2.1 u4.2.2.2.1))
def Px(p0:ABL)(p1:ABZ)(p2:Int)(p3:ABE):Option Jy:=VV (Lk Ae) p0 p1 p2 p3
abbrev jY:Type:=ABg×ADP
def Jx(p1 AF AU:Int)(AK:Bool)(b1:AAH)(b2:AAh)(b3:AAH)(b4:AAo)(b5:AA1)(b6:ABB)(b7:AAs)(b8:AAX):Option jY:=
 cond (((b6.length:Int)==0))
  (some ((2,()),(((),AF,(),(),(),AU,(),(),(),(),AK,()),b1,b2,b3,b4,b5,b6,b7,b8,())))
 (if(0:Int)≤(0:Int)∧(0:Int)<(b6.length:Int)then(
 (Dj (b1,AF,b2,b3,b4,AU,b5,b6,b7,b8,AK,()) p1 ((b6.getD 0 (0,0,[],[],false,[],())).2.1)).bind fun u3=>
 cond (u3.1.1 !=0)
  (some ((u3.1.1,()),(((),AF,(),(),(),AU,(),(),(),(),AK,()),b1,b2,b3,b4,b5,b6,b7,b8,())))
 (if(0:Int)≤p1∧p1<(b2.length:Int)then(
 (N5 ((b2.getD (p1.toNat) ([],[],0,())).1,(b2.getD (p1.toNat) ([],[],0,())).2.1,(b2.getD (p1.toNat) ([],[],0,())).2.2.1,()) (AZ (((b6.getD 0 (0,0,[],[],false,[],())).1)-1))).bind fun u5=>
 (Pk (u5.2.1,u5.2.2.1,u5.1.1.1.2.2.1,()) ((b6.getD 0 (0,0,[],[],false,[],())).2.1)).bind fun u7=>
 (Px (b1,AF,()) ((b6.getD 0 (0,0,[],[],false,[],())).1,(b6.getD 0 (0,0,[],[],false,[],())).2.1,(b6.getD 0 (0,0,[],[],false,[],())).2.2.1,(b6.getD 0 (0,0,[],[],false,[],())).2.2.2.1,(b6.getD 0 (0,0,[],[],false,[],())).2.2.2.2.1,(b6.getD 0 (0,0,[],[],false,[],())).2.2.2.2.2.1,()) p1 u7.2.1).bind fun u8=>
 cond (!u5.1.1.2.1)
  (some ((4,()),(((),AF,(),(),(),AU,(),(),(),(),AK,()),b1,b2,b3,b4,b5,b6,b7,b8,())))
 (cond (!u8.1.1.2.1)
  (some ((4,()),(((),AF,(),(),(),AU,(),(),(),(),AK,()),b1,b2,b3,b4,b5,b6,b7,b8,())))
 (if(0:Int)≤p1∧p1<(b2.length:Int)then(
 if(0:Int)≤(0:Int)∧(0:Int)<(b6.length:Int)then(
 some ((0,()),(((),AF,(),(),(),AU,(),(),(),(),AK,()),b1,(b2.set (p1.toNat) (u5.2.1,u5.2.2.1,u5.1.1.1.2.2.1,())),b3,b4,b5,(b6.set 0 (u8.1.1.1.1,u8.1.1.1.2.1,u8.2.1,u8.2.2.1,u8.1.1.1.2.2.2.2.1,u8.2.2.2.1,())),b7,b8,())))else none)else none)))else none))else none)
abbrev bu:Type:=AEP×ADN
def Pw(p0:ABL)(p1:ABZ)(p2:AAH):Option bu:=
 (Hv (p0.1,p0.2.1,()) (p1.1,p1.2.1,p1.2.2.1,p1.2.2.2.1,p1.2.2.2.2.1,p1.2.2.2.2.2.1,())).bind fun u1=>
 cond (!u1.1.1)
  ((Es (p0.1,p0.2.1,()) (p1.1,p1.2.1,p1.2.2.1,p1.2.2.2.1,p1.2.2.2.2.1,p1.2.2.2.2.2.1,())).bind fun u2=>
  some ((((u2.1.1.1,u2.1.1.2.1,(),(),u2.1.1.2.2.2.2.1,(),()),false,()),()),(u2.2.1,u2.2.2.1,u2.2.2.2.1,())))
 (cond (p1.2.2.2.2.1)
  ((Es (p0.1,p0.2.1,()) (p1.1,p1.2.1,p1.2.2.1,p1.2.2.2.1,p1.2.2.2.2.1,p1.2.2.2.2.2.1,())).bind fun u3=>
  some ((((u3.1.1.1,u3.1.1.2.1,(),(),u3.1.1.2.2.2.2.1,(),()),false,()),()),(u3.2.1,u3.2.2.1,u3.2.2.2.1,())))
 ((M9 p1.2.2.1 p2).bind fun u4=>
 (G3 (p0.1,p0.2.1,()) p2 u4.2.1).bind fun u5=>
 cond (!u5.1.1)
  ((Es (p0.1,p0.2.1,()) (p1.1,p1.2.1,p1.2.2.1,p1.2.2.2.1,p1.2.2.2.2.1,p1.2.2.2.2.2.1,())).bind fun u6=>
  some ((((u6.1.1.1,u6.1.1.2.1,(),(),u6.1.1.2.2.2.2.1,(),()),false,()),()),(u6.2.1,u6.2.2.1,u6.2.2.2.1,())))
 ((GX (p1.1,p1.2.1,p1.2.2.1,p1.2.2.2.1,p1.2.2.2.2.1,p1.2.2.2.2.2.1,())).bind fun u7=>
 (Rv (p1.1,p1.2.1,p1.2.2.1,p1.2.2.2.1,p1.2.2.2.2.1,p1.2.2.2.2.2.1,())).bind fun u8=>
 if(0:Int)≤u8.1.1∧u8.1.1≤u8.1.1∧u8.1.1≤(Dw:Int)then(
 some ((((u7.1.1.1,u7.1.1.2.1,(),(),true,(),()),true,()),()),(u7.2.1,u7.2.2.1,(List.replicate (u8.1.1.toNat) []),())))else none)))
abbrev jJ:Type:=ABg×ADP
def KA(AF AU:Int)(AK:Bool)(b1:AAH)(b2:AAh)(b3:AAH)(b4:AAo)(b5:AA1)(b6:ABB)(b7:AAs)(b8:AAX):Option jJ:=
 cond (((b6.length:Int)==0))
  (some ((2,()),(((),AF,(),(),(),AU,(),(),(),(),AK,()),b1,b2,b3,b4,b5,b6,b7,b8,())))
 (if(0:Int)≤(0:Int)∧(0:Int)<(b6.length:Int)then(
 if(0:Int)≤(0:Int)∧(0:Int)<(b6.length:Int)then(
 (Iq (b4,AU,()) ((b6.getD 0 (0,0,[],[],false,[],())).2.1)).bind fun u3=>
 (Pw (b1,AF,()) ((b6.getD 0 (0,0,[],[],false,[],())).1,(b6.getD 0 (0,0,[],[],false,[],())).2.1,(b6.getD 0 (0,0,[],[],false,[],())).2.2.1,(b6.getD 0 (0,0,[],[],false,[],())).2.2.2.1,(b6.getD 0 (0,0,[],[],false,[],())).2.2.2.2.1,(b6.getD 0 (0,0,[],[],false,[],())).2.2.2.2.2.1,()) u3.2.1).bind fun u4=>
 if(0:Int)≤(0:Int)∧(0:Int)<(b6.length:Int)then(
 (J1 u4.1.1.2.1).bind fun u6=>
 some ((u6.1.1,()),(((),AF,(),(),(),AU,(),(),(),(),AK,()),b1,b2,b3,b4,b5,(b6.set 0 (u4.1.1.1.1,u4.1.1.1.2.1,u4.2.1,u4.2.2.1,u4.1.1.1.2.2.2.2.1,u4.2.2.2.1,())),b7,b8,())))else none)else none)else none)
abbrev lU:Type:=ABg×ADP
def R0(p1 p2 AF AU:Int)(AK:Bool)(b1:AAH)(b2:AAh)(b3:AAH)(b4:AAo)(b5:AA1)(b6:ABB)(b7:AAs)(b8:AAX):Option lU:=
 cond (((b6.length:Int)==0))
  (some ((2,()),(((),AF,(),(),(),AU,(),(),(),(),AK,()),b1,b2,b3,b4,b5,b6,b7,b8,())))
 (if(0:Int)≤(0:Int)∧(0:Int)<(b6.length:Int)then(
 (Je ((b6.getD 0 (0,0,[],[],false,[],())).1,(b6.getD 0 (0,0,[],[],false,[],())).2.1,(b6.getD 0 (0,0,[],[],false,[],())).2.2.1,(b6.getD 0 (0,0,[],[],false,[],())).2.2.2.1,(b6.getD 0 (0,0,[],[],false,[],())).2.2.2.2.1,(b6.getD 0 (0,0,[],[],false,[],())).2.2.2.2.2.1,()) p1).bind fun u2=>
 cond (!u2.1.1.2.1)
  (some ((2,()),(((),AF,(),(),(),AU,(),(),(),(),AK,()),b1,b2,b3,b4,b5,b6,b7,b8,())))
 (if(0:Int)≤(0:Int)∧(0:Int)<(b6.length:Int)then(
 (Dj (b1,AF,b2,b3,b4,AU,b5,b6,b7,b8,AK,()) p2 ((b6.getD 0 (0,0,[],[],false,[],())).2.1)).bind fun u4=>
 cond (u4.1.1 !=0)
  (some ((u4.1.1,()),(((),AF,(),(),(),AU,(),(),(),(),AK,()),b1,b2,b3,b4,b5,b6,b7,b8,())))
 ((Lc p2 (u2.1.1.1.1,u2.1.1.1.2.1,u2.1.1.1.2.2.1,u2.1.1.1.2.2.2.1,()) AF AU AK b1 b2 b3 b4 b5 b6 b7 b8).bind fun u5=>
 some ((u5.1.1,()),(((),u5.2.1.2.1,(),(),(),u5.2.1.2.2.2.2.2.1,(),(),(),(),u5.2.1.2.2.2.2.2.2.2.2.2.2.1,()),u5.2.2.1,u5.2.2.2.1,u5.2.2.2.2.1,u5.2.2.2.2.2.1,u5.2.2.2.2.2.2.1,u5.2.2.2.2.2.2.2.1,u5.2.2.2.2.2.2.2.2.1,u5.2.2.2.2.2.2.2.2.2.1,()))))else none))else none)
abbrev LU:Type:=ABT×Unit
abbrev Rk:Type:=List AAH→Int→Int→List Int→Int→Option LU
def UP(R4:Rk)(t17:List AAH)(t18 t19:Int)(AR:AAH)(AF:Int):Option LU:=
 cond (decide (t19<t18))
  (if(0:Int)≤t19∧t19<(t17.length:Int)then(
  (Gc (AR,AF,()) (t17.getD (t19.toNat) [])).bind fun u3=>
  cond (!u3.1.1)
   (some ((false,()),()))
  (R4 t17 t18 (AZ (t19+1)) AR AF))else none)
 (some ((true,()),()))
def KJ:Nat→Rk
 |0=>fun _ _ _ _ _=>none
 |n+1=>UP (KJ n)
def UU(R4:Rk)(p0:ABL)(p1:ABZ):Option LU:=
 (Hv (p0.1,p0.2.1,()) (p1.1,p1.2.1,p1.2.2.1,p1.2.2.2.1,p1.2.2.2.2.1,p1.2.2.2.2.2.1,())).bind fun u1=>
 cond (!u1.1.1)
  (some ((false,()),()))
 (cond (!p1.2.2.2.2.1)
  (some ((false,()),()))
 (R4 p1.2.2.2.2.2.1 (p1.2.2.2.2.2.1.length:Int) 0 p0.1 p0.2.1))
def OX(p0:ABL)(p1:ABZ):Option LU:=UU (KJ Ae) p0 p1
abbrev cJ:Type:=AFb×ADz
def Pj(p0:ABL)(p1:ABk)(p2 p3:Int):Option cJ:=
 (Lq (p1.1,p1.2.1,())).bind fun u1=>
 (Kc (p0.1,p0.2.1,()) (p1.1,p1.2.1,())).bind fun u2=>
 cond (!u2.1.1)
  ((EL (p0.1,p0.2.1,()) (p1.1,p1.2.1,())).bind fun u3=>
  some (((((),u3.1.1.2.1,()),false,()),()),(u3.2.1,())))
 (cond ((p2 !=(p1.1.length:Int)))
  ((EL (p0.1,p0.2.1,()) (p1.1,p1.2.1,())).bind fun u5=>
  some (((((),u5.1.1.2.1,()),false,()),()),(u5.2.1,())))
 (cond (u1.1.1==p2)
  ((EL (p0.1,p0.2.1,()) (p1.1,p1.2.1,())).bind fun u6=>
  some (((((),u6.1.1.2.1,()),false,()),()),(u6.2.1,())))
 ((A3 p3 0 60).bind fun u7=>
 cond (!u7.1.1)
  ((EL (p0.1,p0.2.1,()) (p1.1,p1.2.1,())).bind fun u8=>
  some (((((),u8.1.1.2.1,()),false,()),()),(u8.2.1,())))
 ((Ed (p1.1,p1.2.1,())).bind fun u9=>
 if(0:Int)≤AZ (u1.1.1-1)∧AZ (u1.1.1-1)<(u9.2.1.length:Int)then(
 let x10:AAo:=(u9.2.1.set ((AZ (u1.1.1-1)).toNat) ((u9.2.1.getD ((AZ (u1.1.1-1)).toNat) ([],false,0,())).1,true,(u9.2.1.getD ((AZ (u1.1.1-1)).toNat) ([],false,0,())).2.2.1,()))
 if(0:Int)≤AZ (u1.1.1-1)∧AZ (u1.1.1-1)<(x10.length:Int)then(
 some (((((),u9.1.1.2.1,()),true,()),()),((x10.set ((AZ (u1.1.1-1)).toNat) ((x10.getD ((AZ (u1.1.1-1)).toNat) ([],false,0,())).1,(x10.getD ((AZ (u1.1.1-1)).toNat) ([],false,0,())).2.1,p3,())),())))else none)else none))))
abbrev Wj:Type:=ABg×(ADQ×List Int×AAh×List Int×Unit×AA1×Unit×AAs×AAX×AAo×ABB×Unit)
def I4(AF AU:Int)(AK:Bool)(b1:AAH)(b2:AAh)(b3:AAH)(b4:AAo)(b5:AA1)(b6:ABB)(b7:AAs)(b8:AAX):Option Wj:=
 cond (((b6.length:Int)==0))
  (some ((2,()),(((),AF,(),(),(),AU,(),(),(),(),AK,()),b1,b2,b3,(),b5,(),b7,b8,b4,b6,())))
 (if(0:Int)≤(0:Int)∧(0:Int)<(b6.length:Int)then(
 (OX (b1,AF,()) ((b6.getD 0 (0,0,[],[],false,[],())).1,(b6.getD 0 (0,0,[],[],false,[],())).2.1,(b6.getD 0 (0,0,[],[],false,[],())).2.2.1,(b6.getD 0 (0,0,[],[],false,[],())).2.2.2.1,(b6.getD 0 (0,0,[],[],false,[],())).2.2.2.2.1,(b6.getD 0 (0,0,[],[],false,[],())).2.2.2.2.2.1,())).bind fun u2=>
 cond (!u2.1.1)
  (some ((5,()),(((),AF,(),(),(),AU,(),(),(),(),AK,()),b1,b2,b3,(),b5,(),b7,b8,b4,b6,())))
 (if(0:Int)≤(0:Int)∧(0:Int)<(b6.length:Int)then(
 if(0:Int)≤(0:Int)∧(0:Int)<(b6.length:Int)then(
 (Pj (b1,AF,()) (b4,AU,()) ((b6.getD 0 (0,0,[],[],false,[],())).1) (((b6.getD 0 (0,0,[],[],false,[],())).2.2.2.2.2.1).length:Int)).bind fun u5=>
 cond (u5.1.1.2.1)
  ((J1 u5.1.1.2.1).bind fun u6=>
  some ((u6.1.1,()),(((),AF,(),(),(),u5.1.1.1.2.1,(),(),(),(),AK,()),b1,b2,b3,(),b5,(),b7,b8,u5.2.1,[],())))
 ((J1 u5.1.1.2.1).bind fun u7=>
 some ((u7.1.1,()),(((),AF,(),(),(),AU,(),(),(),(),AK,()),b1,b2,b3,(),b5,(),b7,b8,b4,b6,()))))else none)else none))else none)
abbrev qV:Type:=AFb×ADz
def Vt(p0:ABL)(p1:ABk)(p2:Int):Option qV:=
 (Kc (p0.1,p0.2.1,()) (p1.1,p1.2.1,())).bind fun u1=>
 cond (!u1.1.1)
  ((EL (p0.1,p0.2.1,()) (p1.1,p1.2.1,())).bind fun u2=>
  some (((((),u2.1.1.2.1,()),false,()),()),(u2.2.1,())))
 ((FI p2).bind fun u3=>
 (A3 u3.1.1 1 (p1.1.length:Int)).bind fun u4=>
 cond (!u4.1.1)
  ((EL (p0.1,p0.2.1,()) (p1.1,p1.2.1,())).bind fun u5=>
  some (((((),u5.1.1.2.1,()),false,()),()),(u5.2.1,())))
 ((Ed (p1.1,p1.2.1,())).bind fun u6=>
 some (((((),(if p2>u6.1.1.2.1 then p2 else u6.1.1.2.1),()),true,()),()),(u6.2.1,()))))
abbrev hI:Type:=ABT×Unit
def PB(p0:ADG)(p1:ABg):Option hI:=
 some ((decide (p0.1≤p1.1),()),())
abbrev Bn:Type:=ABg×Unit
abbrev CX:Type:=ABE→ADI→Int→Int→Option Bn
def DY(R2:CX)(t0:ABE)(t1:ADI)(t7 t8:Int):Option Bn:=
 cond (decide (t8<t7))
  (if(0:Int)≤t8∧t8<(t0.length:Int)then(
  (PB ((t0.getD (t8.toNat) (0,0,false,[],())).1,(t0.getD (t8.toNat) (0,0,false,[],())).2.1,(t0.getD (t8.toNat) (0,0,false,[],())).2.2.1,(t0.getD (t8.toNat) (0,0,false,[],())).2.2.2.1,()) t1.1).bind fun u1=>
  cond (u1.1.1)
   (some ((t8,()),()))
  (R2 t0 (t1.1,()) t7 (AZ (t8+1))))else none)
 (some (((-1),()),()))
def BL:Nat→CX
 |0=>fun _ _ _ _=>none
 |n+1=>DY (BL n)
def DV(R2:CX)(p0:ABE)(p1:ADI):Option Bn:=
 R2 p0 (p1.1,()) (p0.length:Int) 0
def Cn(p0:ABE)(p1:ADI):Option Bn:=DV (BL Ae) p0 p1
abbrev Bl:Type:=ACL×AGR
abbrev CU:Type:=ADI→Int→Int→ABE→Option Bl
def DM(R5:CU)(t1:ADI)(t5 t6:Int)(b0:ABE):Option Bl:=
 cond ((decide (t6<(b0.length:Int))))
  (if(0:Int)≤t6∧t6<(b0.length:Int)then(
  (PB ((b0.getD (t6.toNat) (0,0,false,[],())).1,(b0.getD (t6.toNat) (0,0,false,[],())).2.1,(b0.getD (t6.toNat) (0,0,false,[],())).2.2.1,(b0.getD (t6.toNat) (0,0,false,[],())).2.2.2.1,()) t1.1).bind fun u3=>
  cond (!u3.1.1)
   (if(0:Int)≤t5∧t5<(b0.length:Int)then(
   R5 (t1.1,()) (AZ (t5+1)) (AZ (t6+1)) (b0.set (t5.toNat) ((b0.getD (t6.toNat) (0,0,false,[],())).1,(b0.getD (t6.toNat) (0,0,false,[],())).2.1,(b0.getD (t6.toNat) (0,0,false,[],())).2.2.1,(b0.getD (t6.toNat) (0,0,false,[],())).2.2.2.1,())))else none)
  (R5 (t1.1,()) t5 (AZ (t6+1)) b0))else none)
 (if(0:Int)≤t5∧t5≤(b0.length:Int)∧(b0.length:Int)≤(b0.length:Int)then(
 let x5:ABE:=(b0.take (t5.toNat)++List.replicate (((b0.length:Int).toNat)-(t5.toNat)) (0,0,false,[],())++b0.drop ((t5.toNat)+(((b0.length:Int).toNat)-(t5.toNat))))
 if(0:Int)≤(0:Int)∧(0:Int)≤t5∧t5≤(x5.length:Int)then(
 some (((),()),((),((x5.drop 0).take ((t5.toNat)-0)),())))else none)else none)
def BG:Nat→CU
 |0=>fun _ _ _ _=>none
 |n+1=>DM (BG n)
def DU(R5:CU)(p1:ADI)(b0:ABE):Option Bl:=
 (Cn b0 (p1.1,())).bind fun u1=>
 cond (u1.1.1==(-1))
  (some (((),()),((),b0,())))
 (R5 (p1.1,()) u1.1.1 (AZ (u1.1.1+1)) b0)
def Bt(p1:ADI)(b0:ABE):Option Bl:=DU (BG Ae) p1 b0
abbrev kU:Type:=ADO×ADM
def RZ(p0:ACc)(p1:Int):Option kU:=
 (FF (p0.1,p0.2.1,p0.2.2.1,())).bind fun u1=>
 cond (!u1.1.1)
  ((Dl (p0.1,p0.2.1,p0.2.2.1,())).bind fun u2=>
  some (((((),(),u2.1.1.2.2.1,()),false,()),()),(u2.2.1,u2.2.2.1,())))
 ((D7 p1).bind fun u3=>
 cond (!u3.1.1)
  ((Dl (p0.1,p0.2.1,p0.2.2.1,())).bind fun u4=>
  some (((((),(),u4.1.1.2.2.1,()),false,()),()),(u4.2.1,u4.2.2.1,())))
 ((DB (p0.1,p0.2.1,p0.2.2.1,())).bind fun u5=>
 (Bt ((p1,()),()) u5.2.1).bind fun u6=>
 some (((((),(),u5.1.1.2.2.1,()),true,()),()),(u6.2.2.1,u5.2.2.1,()))))
abbrev gw:Type:=ABg×ADP
def Ol(p1 AF AU:Int)(AK:Bool)(b1:AAH)(b2:AAh)(b3:AAH)(b4:AAo)(b5:AA1)(b6:ABB)(b7:AAs)(b8:AAX):Option gw:=
 (EP (b1,AF,b2,b3,b4,AU,b5,b6,b7,b8,AK,()) p1).bind fun u1=>
 cond (u1.1.1 !=0)
  (some ((u1.1.1,()),(((),AF,(),(),(),AU,(),(),(),(),AK,()),b1,b2,b3,b4,b5,b6,b7,b8,())))
 (if(0:Int)≤p1∧p1<(b2.length:Int)then(
 (RZ ((b2.getD (p1.toNat) ([],[],0,())).1,(b2.getD (p1.toNat) ([],[],0,())).2.1,(b2.getD (p1.toNat) ([],[],0,())).2.2.1,()) AU).bind fun u2=>
 if(0:Int)≤p1∧p1<(b2.length:Int)then(
 (J1 u2.1.1.2.1).bind fun u4=>
 some ((u4.1.1,()),(((),AF,(),(),(),AU,(),(),(),(),AK,()),b1,(b2.set (p1.toNat) (u2.2.1,u2.2.2.1,u2.1.1.1.2.2.1,())),b3,b4,b5,b6,b7,b8,())))else none)else none)
abbrev Nk:Type:=ACL×(Unit×AA1×Unit)
def FC(p1 p2:Int)(b0:AA1):Option Nk:=(AEo p1 p2 b0).map fun l=>(((),()),((),l,()))
abbrev cA:Type:=ABg×(ADQ×List Int×AAh×Unit×Unit×Unit×Unit×AAs×Unit×List Int×AAo×AA1×ABB×AAX×Unit)
def T9(p1:ACh)(AF AU:Int)(AK:Bool)(b1:AAH)(b2:AAh)(b3:AAH)(b4:AAo)(b5:AA1)(b6:ABB)(b7:AAs)(b8:AAX):Option cA:=
 cond (p1.1==1)
  ((KC p1.2.1 AF AU AK b1 b2 b3 b4 b5 b6 b7 b8).bind fun u1=>
  some ((u1.1.1,()),(((),u1.2.1.2.1,(),(),(),u1.2.1.2.2.2.2.2.1,(),(),(),(),u1.2.1.2.2.2.2.2.2.2.2.2.2.1,()),u1.2.2.1,u1.2.2.2.1,(),(),(),(),u1.2.2.2.2.2.2.2.2.1,(),u1.2.2.2.2.1,u1.2.2.2.2.2.2.2.2.2.2.1,u1.2.2.2.2.2.2.2.2.2.2.2.1,u1.2.2.2.2.2.2.2.2.2.2.2.2.1,u1.2.2.2.2.2.2.2.2.2.1,())))
 (cond (p1.1==2)
  ((Ld p1.2.1 p1.2.2.2.2.1 AF AU AK b1 b2 b3 b4 b5 b6 b7 b8).bind fun u6=>
  some ((u6.1.1,()),(((),u6.2.1.2.1,(),(),(),u6.2.1.2.2.2.2.2.1,(),(),(),(),u6.2.1.2.2.2.2.2.2.2.2.2.2.1,()),u6.2.2.1,u6.2.2.2.1,(),(),(),(),u6.2.2.2.2.2.2.2.2.1,(),u6.2.2.2.2.1,u6.2.2.2.2.2.1,u6.2.2.2.2.2.2.1,u6.2.2.2.2.2.2.2.1,u6.2.2.2.2.2.2.2.2.2.2.1,())))
 (cond (p1.1==3)
  ((I6 (p1.1,p1.2.1,p1.2.2.1,p1.2.2.2.1,p1.2.2.2.2.1,()) AF AU AK b1 b2 b3 b4 b5 b6 b7 b8).bind fun u8=>
  some ((u8.1.1,()),(((),u8.2.1.2.1,(),(),(),u8.2.1.2.2.2.2.2.1,(),(),(),(),u8.2.1.2.2.2.2.2.2.2.2.2.2.1,()),u8.2.2.1,u8.2.2.2.1,(),(),(),(),u8.2.2.2.2.2.2.2.2.1,(),u8.2.2.2.2.1,u8.2.2.2.2.2.1,u8.2.2.2.2.2.2.1,u8.2.2.2.2.2.2.2.1,u8.2.2.2.2.2.2.2.2.2.1,())))
 (cond (p1.1==4)
  ((QK p1.2.1 AF AU AK b1 b2 b3 b4 b5 b6 b7 b8).bind fun EY=>
  some ((EY.1.1,()),(((),EY.2.1.2.1,(),(),(),EY.2.1.2.2.2.2.2.1,(),(),(),(),EY.2.1.2.2.2.2.2.2.2.2.2.2.1,()),EY.2.2.1,EY.2.2.2.1,(),(),(),(),EY.2.2.2.2.2.2.2.2.1,(),EY.2.2.2.2.1,EY.2.2.2.2.2.1,EY.2.2.2.2.2.2.1,EY.2.2.2.2.2.2.2.1,EY.2.2.2.2.2.2.2.2.2.1,())))
 (cond (p1.1==5)
  ((On p1.2.1 p1.2.2.1 AF AU AK b1 b2 b3 b4 b5 b6 b7 b8).bind fun WW=>
  some ((WW.1.1,()),(((),WW.2.1.2.1,(),(),(),WW.2.1.2.2.2.2.2.1,(),(),(),(),WW.2.1.2.2.2.2.2.2.2.2.2.2.1,()),WW.2.2.1,WW.2.2.2.1,(),(),(),(),WW.2.2.2.2.2.2.2.2.1,(),WW.2.2.2.2.1,WW.2.2.2.2.2.1,WW.2.2.2.2.2.2.1,WW.2.2.2.2.2.2.2.1,WW.2.2.2.2.2.2.2.2.2.1,())))
 (cond (p1.1==6)
  ((QB p1.2.1 AF AU AK b1 b2 b3 b4 b5 b6 b7 b8).bind fun u16=>
  some ((u16.1.1,()),(((),u16.2.1.2.1,(),(),(),u16.2.1.2.2.2.2.2.1,(),(),(),(),u16.2.1.2.2.2.2.2.2.2.2.2.2.1,()),u16.2.2.1,u16.2.2.2.1,(),(),(),(),u16.2.2.2.2.2.2.2.2.1,(),u16.2.2.2.2.2.2.2.2.2.2.1,u16.2.2.2.2.2.1,u16.2.2.2.2.2.2.1,u16.2.2.2.2.2.2.2.1,u16.2.2.2.2.2.2.2.2.2.1,())))
 (cond (p1.1==7)
  ((J5 p1.2.1 AF AU AK b1 b2 b3 b4 b5 b6 b7 b8).bind fun P2=>
  some ((P2.1.1,()),(((),P2.2.1.2.1,(),(),(),P2.2.1.2.2.2.2.2.1,(),(),(),(),P2.2.1.2.2.2.2.2.2.2.2.2.2.1,()),P2.2.2.1,P2.2.2.2.1,(),(),(),(),P2.2.2.2.2.2.2.2.2.1,(),P2.2.2.2.2.2.2.2.2.2.2.1,P2.2.2.2.2.2.1,P2.2.2.2.2.2.2.1,P2.2.2.2.2.2.2.2.1,P2.2.2.2.2.2.2.2.2.2.1,())))
 (cond (p1.1==8)
  ((P7 AF AU AK b1 b2 b3 b4 b5 b6 b7 b8).bind fun Xp=>
  some ((Xp.1.1,()),(((),Xp.2.1.2.1,(),(),(),Xp.2.1.2.2.2.2.2.1,(),(),(),(),Xp.2.1.2.2.2.2.2.2.2.2.2.2.1,()),Xp.2.2.1,Xp.2.2.2.1,(),(),(),(),Xp.2.2.2.2.2.2.2.2.1,(),Xp.2.2.2.2.1,Xp.2.2.2.2.2.1,Xp.2.2.2.2.2.2.1,Xp.2.2.2.2.2.2.2.2.2.2.1,Xp.2.2.2.2.2.2.2.2.2.1,())))
 (cond (p1.1==9)
  ((Jx p1.2.1 AF AU AK b1 b2 b3 b4 b5 b6 b7 b8).bind fun Xq=>
  some ((Xq.1.1,()),(((),Xq.2.1.2.1,(),(),(),Xq.2.1.2.2.2.2.2.1,(),(),(),(),Xq.2.1.2.2.2.2.2.2.2.2.2.2.1,()),Xq.2.2.1,Xq.2.2.2.1,(),(),(),(),Xq.2.2.2.2.2.2.2.2.1,(),Xq.2.2.2.2.1,Xq.2.2.2.2.2.1,Xq.2.2.2.2.2.2.1,Xq.2.2.2.2.2.2.2.1,Xq.2.2.2.2.2.2.2.2.2.1,())))
 (cond (p1.1==10)
  ((KA AF AU AK b1 b2 b3 b4 b5 b6 b7 b8).bind fun vm=>
  some ((vm.1.1,()),(((),vm.2.1.2.1,(),(),(),vm.2.1.2.2.2.2.2.1,(),(),(),(),vm.2.1.2.2.2.2.2.2.2.2.2.2.1,()),vm.2.2.1,vm.2.2.2.1,(),(),(),(),vm.2.2.2.2.2.2.2.2.1,(),vm.2.2.2.2.1,vm.2.2.2.2.2.1,vm.2.2.2.2.2.2.1,vm.2.2.2.2.2.2.2.1,vm.2.2.2.2.2.2.2.2.2.1,())))
 (cond (p1.1==11)
  ((R0 p1.2.2.1 p1.2.2.2.1 AF AU AK b1 b2 b3 b4 b5 b6 b7 b8).bind fun uF=>
  some ((uF.1.1,()),(((),uF.2.1.2.1,(),(),(),uF.2.1.2.2.2.2.2.1,(),(),(),(),uF.2.1.2.2.2.2.2.2.2.2.2.2.1,()),uF.2.2.1,uF.2.2.2.1,(),(),(),(),uF.2.2.2.2.2.2.2.2.1,(),uF.2.2.2.2.1,uF.2.2.2.2.2.1,uF.2.2.2.2.2.2.1,uF.2.2.2.2.2.2.2.1,uF.2.2.2.2.2.2.2.2.2.1,())))
 (cond (p1.1==12)
  ((I4 AF AU AK b1 b2 b3 b4 b5 b6 b7 b8).bind fun mK=>
  some ((mK.1.1,()),(((),mK.2.1.2.1,(),(),(),mK.2.1.2.2.2.2.2.1,(),(),(),(),mK.2.1.2.2.2.2.2.2.2.2.2.2.1,()),mK.2.2.1,mK.2.2.2.1,(),(),(),(),mK.2.2.2.2.2.2.2.2.1,(),mK.2.2.2.2.1,mK.2.2.2.2.2.2.2.2.2.2.1,mK.2.2.2.2.2.2.1,mK.2.2.2.2.2.2.2.2.2.2.2.1,mK.2.2.2.2.2.2.2.2.2.1,())))
 (cond (p1.1==13)
  ((Vt (b1,AF,()) (b4,AU,()) p1.2.1).bind fun u42=>
  (J1 u42.1.1.2.1).bind fun u43=>
  some ((u43.1.1,()),(((),AF,(),(),(),u42.1.1.1.2.1,(),(),(),(),AK,()),b1,b2,(),(),(),(),b7,(),b3,u42.2.1,b5,b6,b8,())))
 (cond (p1.1==14)
  ((Mp p1.2.1 p1.2.2.1 AF AU AK b1 b2 b3 b4 b5 b6 b7 b8).bind fun rL=>
  some ((rL.1.1,()),(((),rL.2.1.2.1,(),(),(),rL.2.1.2.2.2.2.2.1,(),(),(),(),rL.2.1.2.2.2.2.2.2.2.2.2.2.1,()),rL.2.2.1,rL.2.2.2.1,(),(),(),(),rL.2.2.2.2.2.2.2.2.1,(),rL.2.2.2.2.1,rL.2.2.2.2.2.1,rL.2.2.2.2.2.2.1,rL.2.2.2.2.2.2.2.1,rL.2.2.2.2.2.2.2.2.2.1,())))
 (cond (p1.1==16)
  ((Ol p1.2.1 AF AU AK b1 b2 b3 b4 b5 b6 b7 b8).bind fun rk=>
  some ((rk.1.1,()),(((),rk.2.1.2.1,(),(),(),rk.2.1.2.2.2.2.2.1,(),(),(),(),rk.2.1.2.2.2.2.2.2.2.2.2.2.1,()),rk.2.2.1,rk.2.2.2.1,(),(),(),(),rk.2.2.2.2.2.2.2.2.1,(),rk.2.2.2.2.1,rk.2.2.2.2.2.1,rk.2.2.2.2.2.2.1,rk.2.2.2.2.2.2.2.1,rk.2.2.2.2.2.2.2.2.2.1,())))
 ((A3 p1.2.1 0 (AZ ((b5.length:Int)-1))).bind fun u53=>
 cond (!u53.1.1)
  (some ((2,()),(((),AF,(),(),(),AU,(),(),(),(),AK,()),b1,b2,(),(),(),(),b7,(),b3,b4,b5,b6,b8,())))
 ((FC p1.2.1 (AZ (p1.2.1+1)) b5).bind fun u54=>
 some ((0,()),(((),AF,(),(),(),AU,(),(),(),(),AK,()),b1,b2,(),(),(),(),b7,(),b3,b4,u54.2.2.1,b6,b8,()))))))))))))))))))
abbrev LC:Type:=ADJ×ADK
def Ha(p0:ABN)(p1:ACh):Option LC:=
 (Fq (p0.1,p0.2.1,p0.2.2.1,p0.2.2.2.1,p0.2.2.2.2.1,p0.2.2.2.2.2.1,p0.2.2.2.2.2.2.1,p0.2.2.2.2.2.2.2.1,p0.2.2.2.2.2.2.2.2.1,p0.2.2.2.2.2.2.2.2.2.1,p0.2.2.2.2.2.2.2.2.2.2.1,())).bind fun u1=>
 cond (!u1.1.1)
  (some (((((),0,(),(),(),0,(),(),(),(),false,()),1,()),()),([],[],[],[],[],[],[],[],())))
 ((Yt (p1.1,p1.2.1,p1.2.2.1,p1.2.2.2.1,p1.2.2.2.2.1,())).bind fun u2=>
 cond (!u2.1.1)
  (some (((((),0,(),(),(),0,(),(),(),(),false,()),1,()),()),([],[],[],[],[],[],[],[],())))
 ((OA (p0.1,p0.2.1,p0.2.2.1,p0.2.2.2.1,p0.2.2.2.2.1,p0.2.2.2.2.2.1,p0.2.2.2.2.2.2.1,p0.2.2.2.2.2.2.2.1,p0.2.2.2.2.2.2.2.2.1,p0.2.2.2.2.2.2.2.2.2.1,p0.2.2.2.2.2.2.2.2.2.2.1,())).bind fun u3=>
 (T9 (p1.1,p1.2.1,p1.2.2.1,p1.2.2.2.1,p1.2.2.2.2.1,()) u3.1.1.2.1 u3.1.1.2.2.2.2.2.1 u3.1.1.2.2.2.2.2.2.2.2.2.2.1 u3.2.1 u3.2.2.1 u3.2.2.2.1 u3.2.2.2.2.1 u3.2.2.2.2.2.1 u3.2.2.2.2.2.2.1 u3.2.2.2.2.2.2.2.1 u3.2.2.2.2.2.2.2.2.1).bind fun u4=>
 cond (u4.1.1 !=0)
  ((OA (p0.1,p0.2.1,p0.2.2.1,p0.2.2.2.1,p0.2.2.2.2.1,p0.2.2.2.2.2.1,p0.2.2.2.2.2.2.1,p0.2.2.2.2.2.2.2.1,p0.2.2.2.2.2.2.2.2.1,p0.2.2.2.2.2.2.2.2.2.1,p0.2.2.2.2.2.2.2.2.2.2.1,())).bind fun EY=>
  some (((((),EY.1.1.2.1,(),(),(),EY.1.1.2.2.2.2.2.1,(),(),(),(),EY.1.1.2.2.2.2.2.2.2.2.2.2.1,()),u4.1.1,()),()),(EY.2.1,EY.2.2.1,EY.2.2.2.1,EY.2.2.2.2.1,EY.2.2.2.2.2.1,EY.2.2.2.2.2.2.1,EY.2.2.2.2.2.2.2.1,EY.2.2.2.2.2.2.2.2.1,())))
 (some (((((),u4.2.1.2.1,(),(),(),u4.2.1.2.2.2.2.2.1,(),(),(),(),u4.2.1.2.2.2.2.2.2.2.2.2.2.1,()),0,()),()),(u4.2.2.1,u4.2.2.2.1,u4.2.2.2.2.2.2.2.2.2.2.1,u4.2.2.2.2.2.2.2.2.2.2.2.1,u4.2.2.2.2.2.2.2.2.2.2.2.2.1,u4.2.2.2.2.2.2.2.2.2.2.2.2.2.1,u4.2.2.2.2.2.2.2.2.1,u4.2.2.2.2.2.2.2.2.2.2.2.2.2.2.1,())))))
abbrev ES:Type:=((AGS×Unit×AGS×Unit)×Unit)×(ADL×AEY×Unit)
abbrev Hu:Type:=Int→Int→List Int→Int→Int→Int→Int→Bool→List Int→AAh→List Int→AAo→AA1→ABB→AAs→AAX→Int→Int→Bool→List Int→AAh→List Int→AAo→AA1→ABB→AAs→AAX→Int→List Int→List Int→Option ES
abbrev Hy:Type:=Int→List Int→List Int→Int→Int→Int→Int→Bool→List Int→AAh→List Int→AAo→AA1→ABB→AAs→AAX→Int→Int→Bool→List Int→AAh→List Int→AAo→AA1→ABB→AAs→AAX→List Int→Int→Option ES
abbrev HB:Type:=Int→Int→List Int→Int→Int→Int→Int→Bool→List Int→AAh→List Int→AAo→AA1→ABB→AAs→AAX→Int→Int→Bool→List Int→AAh→List Int→AAo→AA1→ABB→AAs→AAX→List Int→Int→AAh→List Int→AAo→Int→AA1→ABB→AAs→AAX→Bool→List Int→Int→AAh→List Int→AAo→Int→AA1→ABB→AAs→AAX→Bool→AEY→Option ES
def Q2(R4:Hu)(R7:Hy)(R14:HB)(t1 t9:Int)(AR:AAH)(AF Ai Bf EE:Int)(FB:Bool)(b2:AAH)(b3:AAh)(b4:AAH)(b5:AAo)(b6:AA1)(b7:ABB)(b8:AAs)(b9:AAX)(Dr Eh:Int)(C4:Bool)(GO:AAH)(D5:AAh)(G6:AAH)(G7:AAo)(EV:AA1)(FA:ABB)(Fl:AAs)(Uy:AAX)(CV:Int)(b20 b21:AAH):Option ES:=
 cond ((decide (t9<(b20.length:Int))))
  (if b21.length+1≤Dw then(
  R4 t1 (AZ (t9+1)) AR AF Ai Bf EE FB b2 b3 b4 b5 b6 b7 b8 b9 Dr Eh C4 GO D5 G6 G7 EV FA Fl Uy CV b20 (b21++[t9]))else none)
 (R7 t1 b21 AR AF Ai Bf EE FB b2 b3 b4 b5 b6 b7 b8 b9 Dr Eh C4 GO D5 G6 G7 EV FA Fl Uy b20 CV)
def Qx(R4:Hu)(R7:Hy)(R14:HB)(t1:Int)(t8 AR:AAH)(AF Ai Bf EE:Int)(FB:Bool)(b2:AAH)(b3:AAh)(b4:AAH)(b5:AAo)(b6:AA1)(b7:ABB)(b8:AAs)(b9:AAX)(Dr Eh:Int)(C4:Bool)(GO:AAH)(D5:AAh)(G6:AAH)(G7:AAo)(EV:AA1)(FA:ABB)(Fl:AAs)(Uy:AAX)(DW:AAH)(CV:Int):Option ES:=
 cond (decide (CV>1))
  ((FQ (DW,CV,()) t8).bind fun u3=>
  cond (!u3.1.1)
   (R7 t1 t8 AR AF Ai Bf EE FB b2 b3 b4 b5 b6 b7 b8 b9 Dr Eh C4 GO D5 G6 G7 EV FA Fl Uy DW (AZ (CV-1)))
  ((Hc (DW,CV,())).bind fun u4=>
  (Am (AZ (t1+1)) AR AF Ai).bind fun u5=>
  R14 u5.1.1 0 u5.2.1.1 u5.2.1.2.1 u5.2.1.2.2.1 Bf EE FB b2 b3 b4 b5 b6 b7 b8 b9 Dr Eh C4 GO D5 G6 G7 EV FA Fl Uy u4.2.1 u4.1.1.1.2.1 u4.2.2.1 u4.2.2.2.1 u4.2.2.2.2.1 u4.1.1.1.2.2.2.2.2.1 u4.2.2.2.2.2.1 u4.2.2.2.2.2.2.1 u4.2.2.2.2.2.2.2.1 u4.2.2.2.2.2.2.2.2.1 u4.1.1.1.2.2.2.2.2.2.2.2.2.2.1 u4.2.1 u4.1.1.1.2.1 u4.2.2.1 u4.2.2.2.1 u4.2.2.2.2.1 u4.1.1.1.2.2.2.2.2.1 u4.2.2.2.2.2.1 u4.2.2.2.2.2.2.1 u4.2.2.2.2.2.2.2.1 u4.2.2.2.2.2.2.2.2.1 u4.1.1.1.2.2.2.2.2.2.2.2.2.2.1 []))
 ((Hc (DW,CV,())).bind fun u6=>
 (Am (AZ (t1+1)) AR AF Ai).bind fun u7=>
 R14 u7.1.1 0 u7.2.1.1 u7.2.1.2.1 u7.2.1.2.2.1 Bf EE FB b2 b3 b4 b5 b6 b7 b8 b9 Dr Eh C4 GO D5 G6 G7 EV FA Fl Uy u6.2.1 u6.1.1.1.2.1 u6.2.2.1 u6.2.2.2.1 u6.2.2.2.2.1 u6.1.1.1.2.2.2.2.2.1 u6.2.2.2.2.2.1 u6.2.2.2.2.2.2.1 u6.2.2.2.2.2.2.2.1 u6.2.2.2.2.2.2.2.2.1 u6.1.1.1.2.2.2.2.2.2.2.2.2.2.1 u6.2.1 u6.1.1.1.2.1 u6.2.2.1 u6.2.2.2.1 u6.2.2.2.2.1 u6.1.1.1.2.2.2.2.2.1 u6.2.2.2.2.2.1 u6.2.2.2.2.2.2.1 u6.2.2.2.2.2.2.2.1 u6.2.2.2.2.2.2.2.2.1 u6.1.1.1.2.2.2.2.2.2.2.2.2.2.1 [])
def Pq(R4:Hu)(R7:Hy)(R14:HB)(t14 t15:Int)(AR:AAH)(AF Ai Bf EE:Int)(FB:Bool)(b2:AAH)(b3:AAh)(b4:AAH)(b5:AAo)(b6:AA1)(b7:ABB)(b8:AAs)(b9:AAX)(Dr Eh:Int)(C4:Bool)(GO:AAH)(D5:AAh)(G6:AAH)(G7:AAo)(EV:AA1)(FA:ABB)(Fl:AAs)(Uy:AAX)(DW:AAH)(CV:Int)(UF:AAh)(Ui:AAH)(Uw:AAo)(UG:Int)(AFe:AA1)(AEm:ABB)(AFx:AAs)(AEc:AAX)(zG:Bool)(AAe:AAH)(AAw:Int)(AAv:AAh)(ABO:AAH)(AAd:AAo)(ABP:Int)(AAW:AA1)(ABM:ABB)(ABF:AAs)(AAx:AAX)(ui:Bool)(b21:AEY):Option ES:=
 cond (decide (t15<t14))
  ((Om (AAe,AAw,AAv,ABO,AAd,ABP,AAW,ABM,ABF,AAx,ui,()) AR AF Ai).bind fun u8=>
  if b21.length+1≤Dw then(
  let x9:AEY:=b21++[(u8.1.1.1,u8.1.1.2.1,u8.1.1.2.2.1,u8.1.1.2.2.2.1,u8.1.1.2.2.2.2.1,())]
  (IZ (AAe,AAw,AAv,ABO,AAd,ABP,AAW,ABM,ABF,AAx,ui,()) (u8.1.1.1,u8.1.1.2.1,u8.1.1.2.2.1,u8.1.1.2.2.2.1,u8.1.1.2.2.2.2.1,())).bind fun EY=>
  cond (EY.1.1.2.1==0)
   (R14 t14 (AZ (t15+1)) u8.2.1.1 u8.2.1.2.1 u8.2.1.2.2.1 Bf EE FB b2 b3 b4 b5 b6 b7 b8 b9 Dr Eh C4 GO D5 G6 G7 EV FA Fl Uy DW CV UF Ui Uw UG AFe AEm AFx AEc zG EY.2.1 EY.1.1.1.2.1 EY.2.2.1 EY.2.2.2.1 EY.2.2.2.2.1 EY.1.1.1.2.2.2.2.2.1 EY.2.2.2.2.2.1 EY.2.2.2.2.2.2.1 EY.2.2.2.2.2.2.2.1 EY.2.2.2.2.2.2.2.2.1 EY.1.1.1.2.2.2.2.2.2.2.2.2.2.1 x9)
  (R14 t14 (AZ (t15+1)) u8.2.1.1 u8.2.1.2.1 u8.2.1.2.2.1 Bf EE FB b2 b3 b4 b5 b6 b7 b8 b9 Dr Eh C4 GO D5 G6 G7 EV FA Fl Uy DW CV UF Ui Uw UG AFe AEm AFx AEc zG AAe AAw AAv ABO AAd ABP AAW ABM ABF AAx ui x9))else none)
 (some ((((DW,CV,UF,Ui,Uw,UG,AFe,AEm,AFx,AEc,zG,()),(),(AAe,AAw,AAv,ABO,AAd,ABP,AAW,ABM,ABF,AAx,ui,()),()),()),((AR,AF,Ai,()),b21,())))
mutual
def Eo:Nat→Hu
 |0=>fun _ _ _ _ _ _ _ _ _ _ _ _ _ _ _ _ _ _ _ _ _ _ _ _ _ _ _ _ _ _=>none
 |n+1=>Q2 (Eo n) (Ei n) (Di n)
def Ei:Nat→Hy
 |0=>fun _ _ _ _ _ _ _ _ _ _ _ _ _ _ _ _ _ _ _ _ _ _ _ _ _ _ _ _ _=>none
 |n+1=>Qx (Eo n) (Ei n) (Di n)
def Di:Nat→HB
 |0=>fun _ _ _ _ _ _ _ _ _ _ _ _ _ _ _ _ _ _ _ _ _ _ _ _ _ _ _ _ _ _ _ _ _ _ _ _ _ _ _ _ _ _ _ _ _ _ _ _ _ _=>none
 |n+1=>Pq (Eo n) (Ei n) (Di n)
end
def Q3(R4:Hu)(R7:Hy)(R14:HB)(p1:Int)(AR:AAH)(AF Ai:Int):Option ES:=
 (O9 AR AF Ai).bind fun u1=>
 R4 p1 0 u1.2.1.1 u1.2.1.2.1 u1.2.1.2.2.1 0 0 false [] [] [] [] [] [] [] [] 0 0 false [] [] [] [] [] [] [] [] u1.1.1.2.1 u1.2.2.1 []
def NW(p1:Int)(AR:AAH)(AF Ai:Int):Option ES:=Q3 (Eo Ae) (Ei Ae) (Di Ae) p1 AR AF Ai
abbrev Gm:Type:=((AGS×Unit×Unit)×Unit)×(AEY×Unit)
def G2(p0:AAH):Option Gm:=
 (bY p0).bind fun u1=>
 (YA p0 100 190).bind fun u2=>
 (NW u2.1.1 u1.2.1.1 u1.2.1.2.1 u1.2.1.2.2.1).bind fun u3=>
 some ((((u3.1.1.1.1,u3.1.1.1.2.1,u3.1.1.1.2.2.1,u3.1.1.1.2.2.2.1,u3.1.1.1.2.2.2.2.1,u3.1.1.1.2.2.2.2.2.1,u3.1.1.1.2.2.2.2.2.2.1,u3.1.1.1.2.2.2.2.2.2.2.1,u3.1.1.1.2.2.2.2.2.2.2.2.1,u3.1.1.1.2.2.2.2.2.2.2.2.2.1,u3.1.1.1.2.2.2.2.2.2.2.2.2.2.1,()),(),()),()),(u3.2.2.1,()))
abbrev Ea:Type:=ABT×Unit
abbrev QS:Type:=AAX→Int→Int→List UInt8→Bool→Option Ea
def S7(R2:QS)(t0:AAX)(t5 AR:Int)(AF:ACD)(Ai:Bool):Option Ea:=
 cond ((decide (t5<(t0.length:Int))))
  (if(0:Int)≤t5∧t5<(t0.length:Int)then(
  cond (((((t0.getD (t5.toNat) (0,[],false,())).1)==AR)&&((((t0.getD (t5.toNat) (0,[],false,())).2.1)==AF)&&((((t0.getD (t5.toNat) (0,[],false,())).2.2.1)==Ai)&&true))))
   (some ((true,()),()))
  (R2 t0 (AZ (t5+1)) AR AF Ai))else none)
 (some ((false,()),()))
def Jg:Nat→QS
 |0=>fun _ _ _ _ _=>none
 |n+1=>S7 (Jg n)
def Sv(R2:QS)(p0:AAX)(p1:ADS):Option Ea:=
 R2 p0 0 p1.1 p1.2.1 p1.2.2.1
def G1(p0:AAX)(p1:ADS):Option Ea:=Sv (Jg Ae) p0 p1
abbrev Hg:Type:=ABT×Unit
abbrev OG:Type:=Int→List Int→Int→AAh→List Int→AAo→Int→AA1→ABB→AAs→AAX→Bool→AEY→Option Hg
abbrev Mu:Type:=Int→List Int→Int→AAh→List Int→AAo→Int→AA1→ABB→AAs→AAX→Bool→AAX→Option Hg
abbrev Mm:Type:=Int→Int→Bool→Bool→List Int→Int→AAh→List Int→AAo→Int→AA1→ABB→AAs→AAX→Bool→AAX→AAX→Int→Int→ADH→Option Hg
def Nh(R5:OG)(ir:Mu)(R20:Mm)(t5:Int)(AR:AAH)(AF:Int)(Ai:AAh)(Bk:AAH)(B_:AAo)(AU:Int)(B9:AA1)(B4:ABB)(CH:AAs)(CT:AAX)(AK:Bool)(b1:AEY):Option Hg:=
 cond ((decide (t5<(b1.length:Int))))
  (if(0:Int)≤t5∧t5<(b1.length:Int)then(
  (Ha (AR,AF,Ai,Bk,B_,AU,B9,B4,CH,CT,AK,()) ((b1.getD (t5.toNat) (0,0,0,0,[],())).1,(b1.getD (t5.toNat) (0,0,0,0,[],())).2.1,(b1.getD (t5.toNat) (0,0,0,0,[],())).2.2.1,(b1.getD (t5.toNat) (0,0,0,0,[],())).2.2.2.1,(b1.getD (t5.toNat) (0,0,0,0,[],())).2.2.2.2.1,())).bind fun u4=>
  if(0:Int)≤t5∧t5<(b1.length:Int)then(
  (IZ (AR,AF,Ai,Bk,B_,AU,B9,B4,CH,CT,AK,()) ((b1.getD (t5.toNat) (0,0,0,0,[],())).1,(b1.getD (t5.toNat) (0,0,0,0,[],())).2.1,(b1.getD (t5.toNat) (0,0,0,0,[],())).2.2.1,(b1.getD (t5.toNat) (0,0,0,0,[],())).2.2.2.1,(b1.getD (t5.toNat) (0,0,0,0,[],())).2.2.2.2.1,())).bind fun u5=>
  cond ((u4.1.1.2.1 !=u5.1.1.2.1))
   (some ((false,()),()))
  (cond (u4.1.1.2.1==0)
   (R5 (AZ (t5+1)) u4.2.1 u4.1.1.1.2.1 u4.2.2.1 u4.2.2.2.1 u4.2.2.2.2.1 u4.1.1.1.2.2.2.2.2.1 u4.2.2.2.2.2.1 u4.2.2.2.2.2.2.1 u4.2.2.2.2.2.2.2.1 u4.2.2.2.2.2.2.2.2.1 u4.1.1.1.2.2.2.2.2.2.2.2.2.2.1 b1)
  (R5 (AZ (t5+1)) AR AF Ai Bk B_ AU B9 B4 CH CT AK b1)))else none)else none)
 ((Oh (AR,AF,Ai,Bk,B_,AU,B9,B4,CH,CT,AK,())).bind fun u16=>
 ir 0 AR AF Ai Bk B_ AU B9 B4 CH CT AK u16.2.1)
def MM(R5:OG)(ir:Mu)(R20:Mm)(t11:Int)(AR:AAH)(AF:Int)(Ai:AAh)(Bk:AAH)(B_:AAo)(AU:Int)(B9:AA1)(B4:ABB)(CH:AAs)(CT:AAX)(AK:Bool)(b1:AAX):Option Hg:=
 cond (decide (t11<2))
  (cond (!AK)
   ((L1 (AR,AF,Ai,Bk,B_,AU,B9,B4,CH,CT,AK,()) t11).bind fun fR=>
   if(0:Int)≤t11∧t11<(CH.length:Int)then(
   R20 t11 0 AK (!AK) AR AF Ai Bk B_ AU B9 B4 CH CT AK b1 fR.2.1 ((CH.getD (t11.toNat) (0,0,[],())).1) ((CH.getD (t11.toNat) (0,0,[],())).2.1) ((CH.getD (t11.toNat) (0,0,[],())).2.2.1))else none)
  ((Fc (AR,AF,Ai,Bk,B_,AU,B9,B4,CH,CT,AK,())).bind fun q6=>
  cond (q6.1.1)
   ((E8 (AR,AF,Ai,Bk,B_,AU,B9,B4,CH,CT,AK,())).bind fun gN=>
   some ((gN.1.1,()),()))
  (some ((false,()),()))))
 ((Fc (AR,AF,Ai,Bk,B_,AU,B9,B4,CH,CT,AK,())).bind fun P2=>
 cond (P2.1.1)
  ((E8 (AR,AF,Ai,Bk,B_,AU,B9,B4,CH,CT,AK,())).bind fun fX=>
  some ((fX.1.1,()),()))
 (some ((false,()),())))
def QU(R5:OG)(ir:Mu)(R20:Mm)(t11 t14:Int)(t58 t59:Bool)(AR:AAH)(AF:Int)(Ai:AAh)(Bk:AAH)(B_:AAo)(AU:Int)(B9:AA1)(B4:ABB)(CH:AAs)(CT:AAX)(AK:Bool)(b1 b2:AAX)(jk cw:Int)(uW:ADH):Option Hg:=
 cond ((decide (t14<(b1.length:Int))))
  (if(0:Int)≤t14∧t14<(b1.length:Int)then(
  cond ((decide ((AZ ((AZ (4294967296*jk))+cw))>((b1.getD (t14.toNat) (0,[],false,())).1))))
   (if(0:Int)≤t14∧t14<(b1.length:Int)then(
   (G1 b2 ((b1.getD (t14.toNat) (0,[],false,())).1,(b1.getD (t14.toNat) (0,[],false,())).2.1,(b1.getD (t14.toNat) (0,[],false,())).2.2.1,())).bind fun jr=>
   cond (!jr.1.1)
    (some ((false,()),()))
   (R20 t11 (AZ (t14+1)) t58 t59 AR AF Ai Bk B_ AU B9 B4 CH CT AK b1 b2 jk cw uW))else none)
  (R20 t11 (AZ (t14+1)) t58 t59 AR AF Ai Bk B_ AU B9 B4 CH CT AK b1 b2 jk cw uW))else none)
 (ir (AZ (t11+1)) AR AF Ai Bk B_ AU B9 B4 CH CT AK b1)
mutual
def Ci:Nat→OG
 |0=>fun _ _ _ _ _ _ _ _ _ _ _ _ _=>none
 |n+1=>Nh (Ci n) (Cb n) (C7 n)
def Cb:Nat→Mu
 |0=>fun _ _ _ _ _ _ _ _ _ _ _ _ _=>none
 |n+1=>MM (Ci n) (Cb n) (C7 n)
def C7:Nat→Mm
 |0=>fun _ _ _ _ _ _ _ _ _ _ _ _ _ _ _ _ _ _ _ _=>none
 |n+1=>QU (Ci n) (Cb n) (C7 n)
end
def Rr(R5:OG)(ir:Mu)(R20:Mm)(p0:AAH):Option Hg:=
 (XG p0).bind fun u1=>
 cond (u1.1.1)
  (some ((true,()),()))
 ((G2 p0).bind fun u2=>
 R5 0 u2.1.1.1.1 u2.1.1.1.2.1 u2.1.1.1.2.2.1 u2.1.1.1.2.2.2.1 u2.1.1.1.2.2.2.2.1 u2.1.1.1.2.2.2.2.2.1 u2.1.1.1.2.2.2.2.2.2.1 u2.1.1.1.2.2.2.2.2.2.2.1 u2.1.1.1.2.2.2.2.2.2.2.2.1 u2.1.1.1.2.2.2.2.2.2.2.2.2.1 u2.1.1.1.2.2.2.2.2.2.2.2.2.2.1 u2.2.1)
def Ql(p0:AAH):Option Hg:=Rr (Ci Ae) (Cb Ae) (C7 Ae) p0
end
end Go.M
