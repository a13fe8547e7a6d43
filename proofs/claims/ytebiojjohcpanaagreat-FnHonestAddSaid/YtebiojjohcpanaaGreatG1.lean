/- What each function computes, printed by a program out of the translation; what is printed is checked in the equations. -/
import Derived.Test.YtebiojjohcpanaaGreatG0
set_option linter.unusedVariables false
set_option linter.unusedSimpArgs false
set_option linter.unusedSectionVars false
namespace Go.M
noncomputable section
abbrev pw:Type:=ADe×ADd
def Kd(p0:ABf)(p1:ADW):Option pw:=
 (ND (p0.1,p0.2.1,p0.2.2.1,p0.2.2.2.1,p0.2.2.2.2.1,p0.2.2.2.2.2.1,p0.2.2.2.2.2.2.1,p0.2.2.2.2.2.2.2.1,p0.2.2.2.2.2.2.2.2.1,p0.2.2.2.2.2.2.2.2.2.1,p0.2.2.2.2.2.2.2.2.2.2.1,())).bind fun u1=>
 cond (!u1.1.1)
  (some (((((),0,(),(),(),0,(),(),(),(),false,()),1,()),()),([],[],[],[],[],[],[],[],())))
 ((ZE (p1.1,p1.2.1,p1.2.2.1,p1.2.2.2.1,p1.2.2.2.2.1,())).bind fun u2=>
 cond (!u2.1.1)
  (some (((((),0,(),(),(),0,(),(),(),(),false,()),1,()),()),([],[],[],[],[],[],[],[],())))
 ((H8 (p0.1,p0.2.1,p0.2.2.1,p0.2.2.2.1,p0.2.2.2.2.1,p0.2.2.2.2.2.1,p0.2.2.2.2.2.2.1,p0.2.2.2.2.2.2.2.1,p0.2.2.2.2.2.2.2.2.1,p0.2.2.2.2.2.2.2.2.2.1,p0.2.2.2.2.2.2.2.2.2.2.1,())).bind fun u3=>
 (Ux (p1.1,p1.2.1,p1.2.2.1,p1.2.2.2.1,p1.2.2.2.2.1,()) u3.1.1.2.1 u3.1.1.2.2.2.2.2.1 u3.1.1.2.2.2.2.2.2.2.2.2.2.1 u3.2.1 u3.2.2.1 u3.2.2.2.1 u3.2.2.2.2.1 u3.2.2.2.2.2.1 u3.2.2.2.2.2.2.1 u3.2.2.2.2.2.2.2.1 u3.2.2.2.2.2.2.2.2.1).bind fun u4=>
 cond (u4.1.1 !=0)
  ((H8 (p0.1,p0.2.1,p0.2.2.1,p0.2.2.2.1,p0.2.2.2.2.1,p0.2.2.2.2.2.1,p0.2.2.2.2.2.2.1,p0.2.2.2.2.2.2.2.1,p0.2.2.2.2.2.2.2.2.1,p0.2.2.2.2.2.2.2.2.2.1,p0.2.2.2.2.2.2.2.2.2.2.1,())).bind fun D9=>
  some (((((),D9.1.1.2.1,(),(),(),D9.1.1.2.2.2.2.2.1,(),(),(),(),D9.1.1.2.2.2.2.2.2.2.2.2.2.1,()),u4.1.1,()),()),(D9.2.1,D9.2.2.1,D9.2.2.2.1,D9.2.2.2.2.1,D9.2.2.2.2.2.1,D9.2.2.2.2.2.2.1,D9.2.2.2.2.2.2.2.1,D9.2.2.2.2.2.2.2.2.1,())))
 (some (((((),u4.2.1.2.1,(),(),(),u4.2.1.2.2.2.2.2.1,(),(),(),(),u4.2.1.2.2.2.2.2.2.2.2.2.2.1,()),0,()),()),(u4.2.2.1,u4.2.2.2.1,u4.2.2.2.2.2.2.2.2.2.2.1,u4.2.2.2.2.2.2.2.2.2.2.2.1,u4.2.2.2.2.2.2.2.2.2.2.2.2.1,u4.2.2.2.2.2.2.2.2.2.2.2.2.2.1,u4.2.2.2.2.2.2.2.2.1,u4.2.2.2.2.2.2.2.2.2.2.2.2.2.2.1,())))))
abbrev Pp:Type:=ACx×ADA
abbrev Tk:Type:=Int→AAa→Int→Int→List Int→Option Pp
def Ov(R5:Tk)(t1:Int)(t16:AAa)(t17 t18:Int)(b0:AAG):Option Pp:=
 cond (decide (t18<t17))
  (if(0:Int)≤t18∧t18<(t16.length:Int)then(
  (Fq ((t16.getD (t18.toNat) ([],[],0,())).1,(t16.getD (t18.toNat) ([],[],0,())).2.1,(t16.getD (t18.toNat) ([],[],0,())).2.2.1,()) t1).bind fun u3=>
  cond (u3.1.1.2.1)
   (if b0.length+1≤DE then(
   R5 t1 t16 t17 (AS (t18+1)) (b0++[t18]))else none)
  (R5 t1 t16 t17 (AS (t18+1)) b0))else none)
 (some (((),()),(b0,())))
def IW:Nat→Tk
 |0=>fun _ _ _ _ _=>none
 |n+1=>Ov (IW n)
def Vp(R5:Tk)(p0:ABf)(p1:Int):Option Pp:=
 (ND (p0.1,p0.2.1,p0.2.2.1,p0.2.2.2.1,p0.2.2.2.2.1,p0.2.2.2.2.2.1,p0.2.2.2.2.2.2.1,p0.2.2.2.2.2.2.2.1,p0.2.2.2.2.2.2.2.2.1,p0.2.2.2.2.2.2.2.2.2.1,p0.2.2.2.2.2.2.2.2.2.2.1,())).bind fun u1=>
 cond (!u1.1.1)
  (some (((),()),([],())))
 (R5 p1 p0.2.2.1 (p0.2.2.1.length:Int) 0 [])
def TF(p0:ABf)(p1:Int):Option Pp:=Vp (IW Ac) p0 p1
abbrev Vq:Type:=((ADs×Int×List UInt8×Unit)×Unit)×ADd
def Mm(p0:AAG):Option Vq:=
 (cE p0).bind fun u1=>
 (IX p0 u1.2.1.1 u1.2.1.2.1 u1.2.1.2.2.1).bind fun u2=>
 let x3:AAl:=u2.2.2.2.2.2.2.2.2.2.1
 (BA 5 u2.2.1.1 u2.2.1.2.1 u2.2.1.2.2.1).bind fun u5=>
 cond (u5.1.1)
  ((AL 5 u5.2.1.1 u5.2.1.2.1 u5.2.1.2.2.1).bind fun u6=>
  (Fh [[],[97],[98,99]] u6.2.1.1 u6.2.1.2.1 u6.2.1.2.2.1).bind fun u7=>
  some (((((),u2.1.1.2.1,(),(),(),u2.1.1.2.2.2.2.2.1,(),(),(),(),u2.1.1.2.2.2.2.2.2.2.2.2.2.1,()),AS (u6.1.1-1),u7.1.1,()),()),(u2.2.2.1,u2.2.2.2.1,u2.2.2.2.2.1,u2.2.2.2.2.2.1,u2.2.2.2.2.2.2.1,u2.2.2.2.2.2.2.2.1,u2.2.2.2.2.2.2.2.2.1,x3,())))
 ((Fh [[],[97],[98,99]] u5.2.1.1 u5.2.1.2.1 u5.2.1.2.2.1).bind fun u8=>
 some (((((),u2.1.1.2.1,(),(),(),u2.1.1.2.2.2.2.2.1,(),(),(),(),u2.1.1.2.2.2.2.2.2.2.2.2.2.1,()),AS ((u2.2.2.2.2.2.2.1.length:Int)-1),u8.1.1,()),()),(u2.2.2.1,u2.2.2.2.1,u2.2.2.2.2.1,u2.2.2.2.2.2.1,u2.2.2.2.2.2.2.1,u2.2.2.2.2.2.2.2.1,u2.2.2.2.2.2.2.2.2.1,x3,())))
abbrev jq:Type:=AFn×ADd
def Qu(p0:ABf):Option jq:=
 (ND (p0.1,p0.2.1,p0.2.2.1,p0.2.2.2.1,p0.2.2.2.2.1,p0.2.2.2.2.2.1,p0.2.2.2.2.2.2.1,p0.2.2.2.2.2.2.2.1,p0.2.2.2.2.2.2.2.2.1,p0.2.2.2.2.2.2.2.2.2.1,p0.2.2.2.2.2.2.2.2.2.2.1,())).bind fun u1=>
 cond (!u1.1.1)
  (some ((((),0,(),(),(),0,(),(),(),(),false,()),()),([],[],[],[],[],[],[],[],())))
 ((H8 (p0.1,p0.2.1,p0.2.2.1,p0.2.2.2.1,p0.2.2.2.2.1,p0.2.2.2.2.2.1,p0.2.2.2.2.2.2.1,p0.2.2.2.2.2.2.2.1,p0.2.2.2.2.2.2.2.2.1,p0.2.2.2.2.2.2.2.2.2.1,p0.2.2.2.2.2.2.2.2.2.2.1,())).bind fun u2=>
 some ((((),u2.1.1.2.1,(),(),(),u2.1.1.2.2.2.2.2.1,(),(),(),(),u2.1.1.2.2.2.2.2.2.2.2.2.2.1,()),()),(u2.2.1,u2.2.2.1,u2.2.2.2.1,u2.2.2.2.2.1,u2.2.2.2.2.2.1,u2.2.2.2.2.2.2.1,u2.2.2.2.2.2.2.2.1,u2.2.2.2.2.2.2.2.2.1,())))
abbrev OA:Type:=ACx×ADA
abbrev RS:Type:=List Int→Int→Int→List Int→Option OA
def N5(R3:RS)(t13:AAG)(t14 t15:Int)(b0:AAG):Option OA:=
 cond (decide (t15<t14))
  (if(0:Int)≤t15∧t15<(t13.length:Int)then(
  (GI b0 (t13.getD (t15.toNat) 0)).bind fun u4=>
  R3 t13 t14 (AS (t15+1)) u4.2.1)else none)
 (some (((),()),(b0,())))
def HT:Nat→RS
 |0=>fun _ _ _ _=>none
 |n+1=>N5 (HT n)
def T3(R3:RS)(p0:ABf)(p1:Int):Option OA:=
 (Hl (p0.2.2.2.2.1,p0.2.2.2.2.2.1,()) p1).bind fun u1=>
 R3 p0.2.2.2.1 (p0.2.2.2.1.length:Int) 0 u1.2.1
def Qn(p0:ABf)(p1:Int):Option OA:=T3 (HT Ac) p0 p1
abbrev MS:Type:=AGp×ADd
abbrev TB:Type:=Int→Int→Int→Int→List Int→Int→AAa→List Int→AAX→Int→AAt→AA9→ABQ→AAl→Bool→Int→Int→Bool→List Int→AAa→List Int→AAX→AAt→AA9→ABQ→AAl→Int→Int→Bool→List Int→AAa→List Int→AAX→AAt→AA9→ABQ→AAl→Int→List Int→Option MS
def O4(R7:TB)(t1 t11 t42 t43:Int)(AM:AAG)(AE:Int)(Ab:AAa)(Cq:AAG)(DW:AAX)(AZ:Int)(DT:AAt)(DI:AA9)(Eb:ABQ)(EI:AAl)(AN:Bool)(Ar Di:Int)(D4:Bool)(b2:AAG)(b3:AAa)(b4:AAG)(b5:AAX)(b6:AAt)(b7:AA9)(b8:ABQ)(b9:AAl)(Cr DJ:Int)(CB:Bool)(FC:AAG)(DR:AAa)(FV:AAG)(FU:AAX)(Dq:AAt)(EB:AA9)(EJ:ABQ)(QO:AAl)(DQ:Int)(qz:AAG):Option MS:=
 cond (decide (t43<t42))
  (if(0:Int)≤t43∧t43<(qz.length:Int)then(
  let x7:Int:=(qz.getD (t43.toNat) 0)
  (Kd (FC,Cr,DR,FV,FU,DJ,Dq,EB,EJ,QO,CB,()) (3,t1,t11,x7,[],())).bind fun u8=>
  (Kd (u8.2.1,u8.1.1.1.2.1,u8.2.2.1,u8.2.2.2.1,u8.2.2.2.2.1,u8.1.1.1.2.2.2.2.2.1,u8.2.2.2.2.2.1,u8.2.2.2.2.2.2.1,u8.2.2.2.2.2.2.2.1,u8.2.2.2.2.2.2.2.2.1,u8.1.1.1.2.2.2.2.2.2.2.2.2.2.1,()) (4,x7,0,0,[],())).bind fun u9=>
  R7 t1 t11 t42 (AS (t43+1)) AM AE Ab Cq DW AZ DT DI Eb EI AN Ar Di D4 b2 b3 b4 b5 b6 b7 b8 b9 u9.1.1.1.2.1 u9.1.1.1.2.2.2.2.2.1 u9.1.1.1.2.2.2.2.2.2.2.2.2.2.1 u9.2.1 u9.2.2.1 u9.2.2.2.1 u9.2.2.2.2.1 u9.2.2.2.2.2.1 u9.2.2.2.2.2.2.1 u9.2.2.2.2.2.2.2.1 u9.2.2.2.2.2.2.2.2.1 DQ qz)else none)
 ((DA DQ t11).bind fun D9=>
 (Ed (FC,Cr,DR,FV,FU,DJ,Dq,EB,EJ,QO,CB,()) D9.1.1.1).bind fun Kg=>
 cond (!Kg.1.1.2.1)
  ((H8 (AM,AE,Ab,Cq,DW,AZ,DT,DI,Eb,EI,AN,())).bind fun Dj=>
  some (((((),Dj.1.1.2.1,(),(),(),Dj.1.1.2.2.2.2.2.1,(),(),(),(),Dj.1.1.2.2.2.2.2.2.2.2.2.2.1,()),false,()),()),(Dj.2.1,Dj.2.2.1,Dj.2.2.2.1,Dj.2.2.2.2.1,Dj.2.2.2.2.2.1,Dj.2.2.2.2.2.2.1,Dj.2.2.2.2.2.2.2.1,Dj.2.2.2.2.2.2.2.2.1,())))
 (if(0:Int)≤Kg.1.1.1∧Kg.1.1.1<(QO.length:Int)then(
 cond (!((QO.getD (Kg.1.1.1.toNat) (0,[],false,())).2.2.1))
  ((H8 (AM,AE,Ab,Cq,DW,AZ,DT,DI,Eb,EI,AN,())).bind fun Zb=>
  some (((((),Zb.1.1.2.1,(),(),(),Zb.1.1.2.2.2.2.2.1,(),(),(),(),Zb.1.1.2.2.2.2.2.2.2.2.2.2.1,()),false,()),()),(Zb.2.1,Zb.2.2.1,Zb.2.2.2.1,Zb.2.2.2.2.1,Zb.2.2.2.2.2.1,Zb.2.2.2.2.2.2.1,Zb.2.2.2.2.2.2.2.1,Zb.2.2.2.2.2.2.2.2.1,())))
 (some (((((),Cr,(),(),(),DJ,(),(),(),(),CB,()),true,()),()),(FC,DR,FV,FU,Dq,EB,EJ,QO,()))))else none))
def IZ:Nat→TB
 |0=>fun _ _ _ _ _ _ _ _ _ _ _ _ _ _ _ _ _ _ _ _ _ _ _ _ _ _ _ _ _ _ _ _ _ _ _ _ _ _ _=>none
 |n+1=>O4 (IZ n)
def Vn(R7:TB)(p0:ABf)(p1:Int)(p2:ABp):Option MS:=
 (Kd (p0.1,p0.2.1,p0.2.2.1,p0.2.2.2.1,p0.2.2.2.2.1,p0.2.2.2.2.2.1,p0.2.2.2.2.2.2.1,p0.2.2.2.2.2.2.2.1,p0.2.2.2.2.2.2.2.2.1,p0.2.2.2.2.2.2.2.2.2.1,p0.2.2.2.2.2.2.2.2.2.2.1,()) (2,p1,0,0,p2,())).bind fun u1=>
 cond (u1.1.1.2.1 !=0)
  ((Qu (p0.1,p0.2.1,p0.2.2.1,p0.2.2.2.1,p0.2.2.2.2.1,p0.2.2.2.2.2.1,p0.2.2.2.2.2.2.1,p0.2.2.2.2.2.2.2.1,p0.2.2.2.2.2.2.2.2.1,p0.2.2.2.2.2.2.2.2.2.1,p0.2.2.2.2.2.2.2.2.2.2.1,())).bind fun u2=>
  some (((((),u2.1.1.2.1,(),(),(),u2.1.1.2.2.2.2.2.1,(),(),(),(),u2.1.1.2.2.2.2.2.2.2.2.2.2.1,()),false,()),()),(u2.2.1,u2.2.2.1,u2.2.2.2.1,u2.2.2.2.2.1,u2.2.2.2.2.2.1,u2.2.2.2.2.2.2.1,u2.2.2.2.2.2.2.2.1,u2.2.2.2.2.2.2.2.2.1,())))
 (if(0:Int)≤p1∧p1<(u1.2.2.2.2.2.1.length:Int)then(
 (Qn (u1.2.1,u1.1.1.1.2.1,u1.2.2.1,u1.2.2.2.1,u1.2.2.2.2.1,u1.1.1.1.2.2.2.2.2.1,u1.2.2.2.2.2.1,u1.2.2.2.2.2.2.1,u1.2.2.2.2.2.2.2.1,u1.2.2.2.2.2.2.2.2.1,u1.1.1.1.2.2.2.2.2.2.2.2.2.2.1,()) ((u1.2.2.2.2.2.1.getD (p1.toNat) (0,[],())).1)).bind fun u5=>
 R7 p1 (((u1.2.2.2.2.2.1.getD (p1.toNat) (0,[],())).2.1).length:Int) (u5.2.1.length:Int) 0 p0.1 p0.2.1 p0.2.2.1 p0.2.2.2.1 p0.2.2.2.2.1 p0.2.2.2.2.2.1 p0.2.2.2.2.2.2.1 p0.2.2.2.2.2.2.2.1 p0.2.2.2.2.2.2.2.2.1 p0.2.2.2.2.2.2.2.2.2.1 p0.2.2.2.2.2.2.2.2.2.2.1 0 0 false [] [] [] [] [] [] [] [] u1.1.1.1.2.1 u1.1.1.1.2.2.2.2.2.1 u1.1.1.1.2.2.2.2.2.2.2.2.2.2.1 u1.2.1 u1.2.2.1 u1.2.2.2.1 u1.2.2.2.2.1 u1.2.2.2.2.2.1 u1.2.2.2.2.2.2.1 u1.2.2.2.2.2.2.2.1 u1.2.2.2.2.2.2.2.2.1 ((u1.2.2.2.2.2.1.getD (p1.toNat) (0,[],())).1) u5.2.1)else none)
def Sx(p0:ABf)(p1:Int)(p2:ABp):Option MS:=Vn (IZ Ac) p0 p1 p2
abbrev oT:Type:=ACx×ADA
def aY(p0:ABf)(p1:AAG):Option oT:=
 (H7 p1 p0.2.2.2.1).bind fun u1=>
 some (((),()),(u1.2.1,()))
abbrev TO:Type:=ABk×Unit
abbrev WC:Type:=Int→Int→List Int→Int→AAa→List Int→AAX→Int→AAt→AA9→ABQ→AAl→Bool→Option TO
def RN(R2:WC)(t1 t5:Int)(AM:AAG)(AE:Int)(Ab:AAa)(Cq:AAG)(DW:AAX)(AZ:Int)(DT:AAt)(DI:AA9)(Eb:ABQ)(EI:AAl)(AN:Bool):Option TO:=
 cond ((decide (t5<(EI.length:Int))))
  (if(0:Int)≤t5∧t5<(EI.length:Int)then(
  cond (((EI.getD (t5.toNat) (0,[],false,())).1)==t1)
   (if(0:Int)≤t5∧t5<(EI.length:Int)then(
   some ((((EI.getD (t5.toNat) (0,[],false,())).2.2.1),()),()))else none)
  (R2 t1 (AS (t5+1)) AM AE Ab Cq DW AZ DT DI Eb EI AN))else none)
 (some ((false,()),()))
def KP:Nat→WC
 |0=>fun _ _ _ _ _ _ _ _ _ _ _ _ _=>none
 |n+1=>RN (KP n)
def ir(R2:WC)(p0:ABf)(p1:Int):Option TO:=
 R2 p1 0 p0.1 p0.2.1 p0.2.2.1 p0.2.2.2.1 p0.2.2.2.2.1 p0.2.2.2.2.2.1 p0.2.2.2.2.2.2.1 p0.2.2.2.2.2.2.2.1 p0.2.2.2.2.2.2.2.2.1 p0.2.2.2.2.2.2.2.2.2.1 p0.2.2.2.2.2.2.2.2.2.2.1
def bm(p0:ABf)(p1:Int):Option TO:=ir (KP Ac) p0 p1
abbrev JM:Type:=AGp×ADd
abbrev Mj:Type:=Int→Int→Int→List Int→Int→AAa→List Int→AAX→Int→AAt→AA9→ABQ→AAl→Bool→Int→Int→Bool→List Int→AAa→List Int→AAX→AAt→AA9→ABQ→AAl→Int→Int→Bool→List Int→AAa→List Int→AAX→AAt→AA9→ABQ→AAl→Int→AB4→List Int→Option JM
abbrev Mp:Type:=Int→Int→Int→Int→List Int→Int→AAa→List Int→AAX→Int→AAt→AA9→ABQ→AAl→Bool→Int→Int→Bool→List Int→AAa→List Int→AAX→AAt→AA9→ABQ→AAl→Int→Int→Bool→List Int→AAa→List Int→AAX→AAt→AA9→ABQ→AAl→Int→AB4→List Int→AFt→Option JM
def HP(R10:Mj)(uI:Mp)(t1 t11 t13:Int)(AM:AAG)(AE:Int)(Ab:AAa)(Cq:AAG)(DW:AAX)(AZ:Int)(DT:AAt)(DI:AA9)(Eb:ABQ)(EI:AAl)(AN:Bool)(Ar Di:Int)(D4:Bool)(b2:AAG)(b3:AAa)(b4:AAG)(b5:AAX)(b6:AAt)(b7:AA9)(b8:ABQ)(b9:AAl)(Cr DJ:Int)(CB:Bool)(FC:AAG)(DR:AAa)(FV:AAG)(FU:AAX)(Dq:AAt)(EB:AA9)(EJ:ABQ)(QO:AAl)(DQ:Int)(CC:AB4)(qz:AAG):Option JM:=
 cond ((decide (t13<(qz.length:Int))))
  (if(0:Int)≤t13∧t13<(qz.length:Int)then(
  if(0:Int)≤t13∧t13<(qz.length:Int)then(
  uI t1 t11 t13 0 AM AE Ab Cq DW AZ DT DI Eb EI AN Ar Di D4 b2 b3 b4 b5 b6 b7 b8 b9 Cr DJ CB FC DR FV FU Dq EB EJ QO DQ CC qz [(3,t1,t11,(qz.getD (t13.toNat) 0),[],()),(4,(qz.getD (t13.toNat) 0),0,0,[],())])else none)else none)
 ((CN DQ t11).bind fun Kg=>
 (bm (FC,Cr,DR,FV,FU,DJ,Dq,EB,EJ,QO,CB,()) Kg.1.1).bind fun Dj=>
 cond (!Dj.1.1)
  ((Kn (AM,AE,Ab,Cq,DW,AZ,DT,DI,Eb,EI,AN,())).bind fun J9=>
  some (((((),J9.1.1.2.1,(),(),(),J9.1.1.2.2.2.2.2.1,(),(),(),(),J9.1.1.2.2.2.2.2.2.2.2.2.2.1,()),false,()),()),(J9.2.1,J9.2.2.1,J9.2.2.2.1,J9.2.2.2.2.1,J9.2.2.2.2.2.1,J9.2.2.2.2.2.2.1,J9.2.2.2.2.2.2.2.1,J9.2.2.2.2.2.2.2.2.1,())))
 (some (((((),Cr,(),(),(),DJ,(),(),(),(),CB,()),true,()),()),(FC,DR,FV,FU,Dq,EB,EJ,QO,()))))
def HL(R10:Mj)(uI:Mp)(t1 t11 t13 t15:Int)(AM:AAG)(AE:Int)(Ab:AAa)(Cq:AAG)(DW:AAX)(AZ:Int)(DT:AAt)(DI:AA9)(Eb:ABQ)(EI:AAl)(AN:Bool)(Ar Di:Int)(D4:Bool)(b2:AAG)(b3:AAa)(b4:AAG)(b5:AAX)(b6:AAt)(b7:AA9)(b8:ABQ)(b9:AAl)(Cr DJ:Int)(CB:Bool)(FC:AAG)(DR:AAa)(FV:AAG)(FU:AAX)(Dq:AAt)(EB:AA9)(EJ:ABQ)(QO:AAl)(DQ:Int)(CC:AB4)(qz:AAG)(wE:AFt):Option JM:=
 cond (decide (t15<2))
  (if(0:Int)≤t15∧t15<(wE.length:Int)then(
  (P0 (FC,Cr,DR,FV,FU,DJ,Dq,EB,EJ,QO,CB,()) ((wE.getD (t15.toNat) (0,0,0,0,[],())).1,(wE.getD (t15.toNat) (0,0,0,0,[],())).2.1,(wE.getD (t15.toNat) (0,0,0,0,[],())).2.2.1,(wE.getD (t15.toNat) (0,0,0,0,[],())).2.2.2.1,(wE.getD (t15.toNat) (0,0,0,0,[],())).2.2.2.2.1,())).bind fun Zb=>
  cond (Zb.1.1.2.1==0)
   (uI t1 t11 t13 (AS (t15+1)) AM AE Ab Cq DW AZ DT DI Eb EI AN Ar Di D4 b2 b3 b4 b5 b6 b7 b8 b9 Zb.1.1.1.2.1 Zb.1.1.1.2.2.2.2.2.1 Zb.1.1.1.2.2.2.2.2.2.2.2.2.2.1 Zb.2.1 Zb.2.2.1 Zb.2.2.2.1 Zb.2.2.2.2.1 Zb.2.2.2.2.2.1 Zb.2.2.2.2.2.2.1 Zb.2.2.2.2.2.2.2.1 Zb.2.2.2.2.2.2.2.2.1 DQ CC qz wE)
  (uI t1 t11 t13 (AS (t15+1)) AM AE Ab Cq DW AZ DT DI Eb EI AN Ar Di D4 b2 b3 b4 b5 b6 b7 b8 b9 Cr DJ CB FC DR FV FU Dq EB EJ QO DQ CC qz wE))else none)
 (R10 t1 t11 (AS (t13+1)) AM AE Ab Cq DW AZ DT DI Eb EI AN Ar Di D4 b2 b3 b4 b5 b6 b7 b8 b9 Cr DJ CB FC DR FV FU Dq EB EJ QO DQ CC qz)
mutual
def EE:Nat→Mj
 |0=>fun _ _ _ _ _ _ _ _ _ _ _ _ _ _ _ _ _ _ _ _ _ _ _ _ _ _ _ _ _ _ _ _ _ _ _ _ _ _ _=>none
 |n+1=>HP (EE n) (Dc n)
def Dc:Nat→Mp
 |0=>fun _ _ _ _ _ _ _ _ _ _ _ _ _ _ _ _ _ _ _ _ _ _ _ _ _ _ _ _ _ _ _ _ _ _ _ _ _ _ _ _ _=>none
 |n+1=>HL (EE n) (Dc n)
end
def VG(R10:Mj)(uI:Mp)(p0:ABf)(p1:Int)(p2:ABp):Option JM:=
 (Sa (p0.1,p0.2.1,p0.2.2.1,p0.2.2.2.1,p0.2.2.2.2.1,p0.2.2.2.2.2.1,p0.2.2.2.2.2.2.1,p0.2.2.2.2.2.2.2.1,p0.2.2.2.2.2.2.2.2.1,p0.2.2.2.2.2.2.2.2.2.1,p0.2.2.2.2.2.2.2.2.2.2.1,())).bind fun u1=>
 cond (!u1.1.1)
  (some (((((),0,(),(),(),0,(),(),(),(),false,()),false,()),()),([],[],[],[],[],[],[],[],())))
 ((P0 (p0.1,p0.2.1,p0.2.2.1,p0.2.2.2.1,p0.2.2.2.2.1,p0.2.2.2.2.2.1,p0.2.2.2.2.2.2.1,p0.2.2.2.2.2.2.2.1,p0.2.2.2.2.2.2.2.2.1,p0.2.2.2.2.2.2.2.2.2.1,p0.2.2.2.2.2.2.2.2.2.2.1,()) (2,p1,0,0,p2,())).bind fun u2=>
 cond (u2.1.1.2.1 !=0)
  ((Kn (p0.1,p0.2.1,p0.2.2.1,p0.2.2.2.1,p0.2.2.2.2.1,p0.2.2.2.2.2.1,p0.2.2.2.2.2.2.1,p0.2.2.2.2.2.2.2.1,p0.2.2.2.2.2.2.2.2.1,p0.2.2.2.2.2.2.2.2.2.1,p0.2.2.2.2.2.2.2.2.2.2.1,())).bind fun u3=>
  some (((((),u3.1.1.2.1,(),(),(),u3.1.1.2.2.2.2.2.1,(),(),(),(),u3.1.1.2.2.2.2.2.2.2.2.2.2.1,()),false,()),()),(u3.2.1,u3.2.2.1,u3.2.2.2.1,u3.2.2.2.2.1,u3.2.2.2.2.2.1,u3.2.2.2.2.2.2.1,u3.2.2.2.2.2.2.2.1,u3.2.2.2.2.2.2.2.2.1,())))
 (if(0:Int)≤p1∧p1<(u2.2.2.2.2.2.1.length:Int)then(
 (CK (u2.2.2.2.2.1,u2.1.1.1.2.2.2.2.2.1,()) ((u2.2.2.2.2.2.1.getD (p1.toNat) (0,[],())).1)).bind fun u6=>
 (aY (u2.2.1,u2.1.1.1.2.1,u2.2.2.1,u2.2.2.2.1,u2.2.2.2.2.1,u2.1.1.1.2.2.2.2.2.1,u2.2.2.2.2.2.1,u2.2.2.2.2.2.2.1,u2.2.2.2.2.2.2.2.1,u2.2.2.2.2.2.2.2.2.1,u2.1.1.1.2.2.2.2.2.2.2.2.2.2.1,()) u6.2.1).bind fun u7=>
 R10 p1 (((u2.2.2.2.2.2.1.getD (p1.toNat) (0,[],())).2.1).length:Int) 0 p0.1 p0.2.1 p0.2.2.1 p0.2.2.2.1 p0.2.2.2.2.1 p0.2.2.2.2.2.1 p0.2.2.2.2.2.2.1 p0.2.2.2.2.2.2.2.1 p0.2.2.2.2.2.2.2.2.1 p0.2.2.2.2.2.2.2.2.2.1 p0.2.2.2.2.2.2.2.2.2.2.1 0 0 false [] [] [] [] [] [] [] [] u2.1.1.1.2.1 u2.1.1.1.2.2.2.2.2.1 u2.1.1.1.2.2.2.2.2.2.2.2.2.2.1 u2.2.1 u2.2.2.1 u2.2.2.2.1 u2.2.2.2.2.1 u2.2.2.2.2.2.1 u2.2.2.2.2.2.2.1 u2.2.2.2.2.2.2.2.1 u2.2.2.2.2.2.2.2.2.1 ((u2.2.2.2.2.2.1.getD (p1.toNat) (0,[],())).1) ((u2.2.2.2.2.2.1.getD (p1.toNat) (0,[],())).2.1) u7.2.1)else none))
def SI(p0:ABf)(p1:Int)(p2:ABp):Option JM:=VG (EE Ac) (Dc Ac) p0 p1 p2
abbrev NC:Type:=ABk×Unit
abbrev PI:Type:=List UInt8→Int→Bool→Bool→Int→Int→Int→Bool→List Int→AAa→List Int→AAX→AAt→AA9→ABQ→AAl→Int→Int→Bool→List Int→AAa→List Int→AAX→AAt→AA9→ABQ→AAl→Option NC
def L6(uI:PI)(t5:ABp)(t11:Int)(t12 t13:Bool)(t14 AE AZ:Int)(AN:Bool)(b1:AAG)(b2:AAa)(b3:AAG)(b4:AAX)(b5:AAt)(b6:AA9)(b7:ABQ)(b8:AAl)(Dr FM:Int)(Cl:Bool)(Mf:AAG)(FC:AAa)(DR:AAG)(FV:AAX)(FU:AAt)(Dq:AA9)(EB:ABQ)(EJ:AAl):Option NC:=
 cond ((decide (t14<(EJ.length:Int))))
  (cond (t13)
   (uI t5 t11 t12 true (AS (t14+1)) AE AZ AN b1 b2 b3 b4 b5 b6 b7 b8 Dr FM Cl Mf FC DR FV FU Dq EB EJ)
  (if(0:Int)≤t14∧t14<(EJ.length:Int)then(
  cond (((EJ.getD (t14.toNat) (0,[],false,())).1)==t11)
   (if(0:Int)≤t14∧t14<(EJ.length:Int)then(
   cond (((EJ.getD (t14.toNat) (0,[],false,())).2.2.1))
    (if(0:Int)≤t14∧t14<(EJ.length:Int)then(
    uI t5 t11 t12 (((EJ.getD (t14.toNat) (0,[],false,())).2.1)==t5) (AS (t14+1)) AE AZ AN b1 b2 b3 b4 b5 b6 b7 b8 Dr FM Cl Mf FC DR FV FU Dq EB EJ)else none)
   (uI t5 t11 t12 false (AS (t14+1)) AE AZ AN b1 b2 b3 b4 b5 b6 b7 b8 Dr FM Cl Mf FC DR FV FU Dq EB EJ))else none)
  (uI t5 t11 t12 false (AS (t14+1)) AE AZ AN b1 b2 b3 b4 b5 b6 b7 b8 Dr FM Cl Mf FC DR FV FU Dq EB EJ))else none))
 (cond (t12)
  (cond (t13)
   ((TF (Mf,Dr,FC,DR,FV,FM,FU,Dq,EB,EJ,Cl,()) t11).bind fun u16=>
   (GF (Mf,Dr,()) u16.2.1).bind fun Xb=>
   cond (Xb.1.1)
    (cond (((EJ.length:Int)==(AS ((b8.length:Int)+1))))
     ((ND (Mf,Dr,FC,DR,FV,FM,FU,Dq,EB,EJ,Cl,())).bind fun Li=>
     some ((Li.1.1,()),()))
    (some ((false,()),())))
   (some ((false,()),())))
  (some ((false,()),())))
 (some ((false,()),())))
def E9:Nat→PI
 |0=>fun _ _ _ _ _ _ _ _ _ _ _ _ _ _ _ _ _ _ _ _ _ _ _ _ _ _ _=>none
 |n+1=>L6 (E9 n)
def SX(uI:PI)(p0:AAG):Option NC:=
 (rr p0).bind fun u1=>
 cond (u1.1.1)
  (some ((true,()),()))
 ((Mm p0).bind fun u2=>
 (Sx (u2.2.1,u2.1.1.1.2.1,u2.2.2.1,u2.2.2.2.1,u2.2.2.2.2.1,u2.1.1.1.2.2.2.2.2.1,u2.2.2.2.2.2.1,u2.2.2.2.2.2.2.1,u2.2.2.2.2.2.2.2.1,u2.2.2.2.2.2.2.2.2.1,u2.1.1.1.2.2.2.2.2.2.2.2.2.2.1,()) u2.1.1.2.1 u2.1.1.2.2.1).bind fun u3=>
 (SI (u2.2.1,u2.1.1.1.2.1,u2.2.2.1,u2.2.2.2.1,u2.2.2.2.2.1,u2.1.1.1.2.2.2.2.2.1,u2.2.2.2.2.2.1,u2.2.2.2.2.2.2.1,u2.2.2.2.2.2.2.2.1,u2.2.2.2.2.2.2.2.2.1,u2.1.1.1.2.2.2.2.2.2.2.2.2.2.1,()) u2.1.1.2.1 u2.1.1.2.2.1).bind fun u4=>
 cond ((u3.1.1.2.1 !=u4.1.1.2.1))
  (some ((false,()),()))
 (cond (!u3.1.1.2.1)
  (cond ((u3.2.2.2.2.2.2.2.2.1.length:Int)==(u2.2.2.2.2.2.2.2.2.1.length:Int))
   (some ((true,()),()))
  (some (((u3.2.2.1.length:Int)==0,()),())))
 (if(0:Int)≤u2.1.1.2.1∧u2.1.1.2.1<(u3.2.2.2.2.2.1.length:Int)then(
 (DA ((u3.2.2.2.2.2.1.getD (u2.1.1.2.1.toNat) (0,[],())).1) (((u3.2.2.2.2.2.1.getD (u2.1.1.2.1.toNat) (0,[],())).2.1).length:Int)).bind fun Kg=>
 uI u2.1.1.2.2.1 Kg.1.1.1 Kg.1.1.2.1 false 0 u2.1.1.1.2.1 u2.1.1.1.2.2.2.2.2.1 u2.1.1.1.2.2.2.2.2.2.2.2.2.2.1 u2.2.1 u2.2.2.1 u2.2.2.2.1 u2.2.2.2.2.1 u2.2.2.2.2.2.1 u2.2.2.2.2.2.2.1 u2.2.2.2.2.2.2.2.1 u2.2.2.2.2.2.2.2.2.1 u3.1.1.1.2.1 u3.1.1.1.2.2.2.2.2.1 u3.1.1.1.2.2.2.2.2.2.2.2.2.2.1 u3.2.1 u3.2.2.1 u3.2.2.2.1 u3.2.2.2.2.1 u3.2.2.2.2.2.1 u3.2.2.2.2.2.2.1 u3.2.2.2.2.2.2.2.1 u3.2.2.2.2.2.2.2.2.1)else none)))
def MH(p0:AAG):Option NC:=SX (E9 Ac) p0
end
end Go.M
