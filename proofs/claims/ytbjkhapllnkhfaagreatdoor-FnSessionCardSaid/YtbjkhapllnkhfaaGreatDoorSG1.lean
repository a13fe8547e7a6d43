/- What each function computes, printed by a program out of the translation; what is printed is checked in the equations. -/
import Derived.Test.YtbjkhapllnkhfaaGreatDoorSG0
set_option linter.unusedVariables false
set_option linter.unusedSimpArgs false
set_option linter.unusedSectionVars false
namespace Go.M
open Go.Fw
noncomputable section
abbrev ny:Type:=AEg×Unit
def Fi(p0:Int):Option ny:=
 (FE p0).bind fun u1=>
 cond (!u1.1.1)
  (some (([],()),()))
 ((Cn p0).bind fun u2=>
 (Pl u2.1.1).bind fun u3=>
 if 1+u3.1.1.length<=CN then(
 if([101]++u3.1.1).length+1<=CN then(
 let x4:ABF:=([101]++u3.1.1)++[46]
 (Gl p0).bind fun u5=>
 (Pl u5.1.1).bind fun u6=>
 if x4.length+u6.1.1.length<=CN then(
 some ((x4++u6.1.1,()),()))else none)else none)else none)
abbrev n0:Type:=AEg×Unit
def G1(p0:AFL):Option n0:=
 cond (p0.1==1)
  (cond (p0.2.2.1==[])
   ((Fi p0.2.1).bind fun u1=>
   if 5+u1.1.1.length<=CN then(
   some ((([100,97,116,97,32]++u1.1.1),()),()))else none)
  ((Fi p0.2.1).bind fun u3=>
  if 5+u3.1.1.length<=CN then(
  let x4:ABF:=[100,97,116,97,32]++u3.1.1
  if x4.length+1<=CN then(
  if(x4++[32]).length+p0.2.2.1.length<=CN then(
  some ((((x4++[32])++p0.2.2.1),()),()))else none)else none)else none))
 (cond (p0.1==2)
  ((Fi p0.2.1).bind fun u6=>
  if 5+u6.1.1.length<=CN then(
  some ((([104,111,108,101,32]++u6.1.1),()),()))else none)
 (cond (p0.1==3)
  ((Fi p0.2.1).bind fun u8=>
  if 5+u8.1.1.length<=CN then(
  some ((([108,111,115,115,32]++u8.1.1),()),()))else none)
 (cond (p0.1==4)
  ((Pl p0.2.1).bind fun Dk=>
  if 4+Dk.1.1.length<=CN then(
  some ((([101,114,97,32]++Dk.1.1),()),()))else none)
 (cond (p0.1==5)
  ((Fi p0.2.1).bind fun Md=>
  if 5+Md.1.1.length<=CN then(
  some ((([116,114,105,109,32]++Md.1.1),()),()))else none)
 (some (([],()),()))))))
abbrev cI:Type:=AEg×Unit
def iY(p0:AB0)(p1:ABF):Option cI:=
 cond ((p1==[106,117,100,103,101]))
  ((V4 (p0.1,p0.2.1,p0.2.2.1,p0.2.2.2.1,p0.2.2.2.2.1,p0.2.2.2.2.2.1,p0.2.2.2.2.2.2.1,p0.2.2.2.2.2.2.2.1,p0.2.2.2.2.2.2.2.2.1,p0.2.2.2.2.2.2.2.2.2.1,p0.2.2.2.2.2.2.2.2.2.2.1,())).bind fun u2=>
  cond (u2.1.1)
   (some (([121,101,115],()),()))
  (some (([110,111],()),())))
 (cond ((p1==[111,117,116,32,48]))
  (if(0:Int)<=(4:Int)/\(4:Int)<(p1.length:Int)then(
  let x5:Int:=AQ ((AQ (((p1.getD 4 0).toNat:Int)))-48)
  if(0:Int)<=x5/\x5<(p0.2.2.2.2.2.2.2.2.1.length:Int)then(
  cond ((((p0.2.2.2.2.2.2.2.2.1.getD (x5.toNat) (0,0,[],())).2.2.1).length:Int)==0)
   (some (([110,111,110,101],()),()))
  (let x7:Int:=(((p0.2.2.2.2.2.2.2.2.1.getD (x5.toNat) (0,0,[],())).2.2.1).length:Int)
  if(0:Int)<=AQ (x7-1)/\AQ (x7-1)<(((p0.2.2.2.2.2.2.2.2.1.getD (x5.toNat) (0,0,[],())).2.2.1).length:Int)then(
  (G1 ((((p0.2.2.2.2.2.2.2.2.1.getD (x5.toNat) (0,0,[],())).2.2.1).getD ((AQ (x7-1)).toNat) (0,0,[],())).1,(((p0.2.2.2.2.2.2.2.2.1.getD (x5.toNat) (0,0,[],())).2.2.1).getD ((AQ (x7-1)).toNat) (0,0,[],())).2.1,(((p0.2.2.2.2.2.2.2.2.1.getD (x5.toNat) (0,0,[],())).2.2.1).getD ((AQ (x7-1)).toNat) (0,0,[],())).2.2.1,())).bind fun u8=>
  some ((u8.1.1,()),()))else none))else none)else none)
 (cond ((p1==[111,117,116,32,49]))
  (if(0:Int)<=(4:Int)/\(4:Int)<(p1.length:Int)then(
  let x15:Int:=AQ ((AQ (((p1.getD 4 0).toNat:Int)))-48)
  if(0:Int)<=x15/\x15<(p0.2.2.2.2.2.2.2.2.1.length:Int)then(
  cond ((((p0.2.2.2.2.2.2.2.2.1.getD (x15.toNat) (0,0,[],())).2.2.1).length:Int)==0)
   (some (([110,111,110,101],()),()))
  (let x17:Int:=(((p0.2.2.2.2.2.2.2.2.1.getD (x15.toNat) (0,0,[],())).2.2.1).length:Int)
  if(0:Int)<=AQ (x17-1)/\AQ (x17-1)<(((p0.2.2.2.2.2.2.2.2.1.getD (x15.toNat) (0,0,[],())).2.2.1).length:Int)then(
  (G1 ((((p0.2.2.2.2.2.2.2.2.1.getD (x15.toNat) (0,0,[],())).2.2.1).getD ((AQ (x17-1)).toNat) (0,0,[],())).1,(((p0.2.2.2.2.2.2.2.2.1.getD (x15.toNat) (0,0,[],())).2.2.1).getD ((AQ (x17-1)).toNat) (0,0,[],())).2.1,(((p0.2.2.2.2.2.2.2.2.1.getD (x15.toNat) (0,0,[],())).2.2.1).getD ((AQ (x17-1)).toNat) (0,0,[],())).2.2.1,())).bind fun cf=>
  some ((cf.1.1,()),()))else none))else none)else none)
 (some (([],()),()))))
abbrev vQ:Type:=AEg×Unit
def TM(p0:Int):Option vQ:=
 if(0:Int)<=p0/\p0<17 then(
 some ((([[],[111,112,101,110],[97,100,100],[115,116,111,114,101],[115,121,110,99],[99,114,97,115,104],[108,111,115,101],[102,105,108,108],[109,101,110,100],[115,101,97,108],[112,108,97,110],[102,105,120],[99,108,111,115,101],[116,114,105,109],[114,101,97,100],[100,114,111,112],[112,114,117,110,101]].getD (p0.toNat) []),()),()))else none
abbrev sJ:Type:=ACL×ADH
def UB(p0:ADJ):Option sJ:=
 cond (p0.1==8)
  (some (((),()),([],())))
 (cond (p0.1==10)
  (some (((),()),([],())))
 (cond (p0.1==12)
  (some (((),()),([],())))
 (cond (p0.1==13)
  (some (((),()),([],())))
 (cond (p0.1==3)
  (some (((),()),([p0.2.1,p0.2.2.1,p0.2.2.2.1],())))
 (cond (p0.1==5)
  (some (((),()),([p0.2.1,p0.2.2.1],())))
 (cond (p0.1==14)
  (some (((),()),([p0.2.1,p0.2.2.1],())))
 (cond (p0.1==11)
  (some (((),()),([p0.2.2.1,p0.2.2.2.1],())))
 (some (((),()),([p0.2.1],()))))))))))
abbrev RC:Type:=((Int×Int×Unit)×Unit)×Unit
abbrev TF:Type:=List UInt8->Int->Int->Int->Option RC
def T0(R3:TF)(t0:ABF)(t1 t6 t7:Int):Option RC:=
 cond ((decide (t1<(t0.length:Int))))
  (if(0:Int)<=t1/\t1<(t0.length:Int)then(
  cond (decide (((t0.getD (t1.toNat) 0).toNat:Int)>=48))
   (if(0:Int)<=t1/\t1<(t0.length:Int)then(
   cond (decide (((t0.getD (t1.toNat) 0).toNat:Int)<=57))
    (cond ((decide ((AQ (t1-t6))<11)))
     (if(0:Int)<=t1/\t1<(t0.length:Int)then(
     R3 t0 (AQ (t1+1)) t6 (AQ ((AQ ((AQ (10*t7))+(AQ (((t0.getD (t1.toNat) 0).toNat:Int)))))-48)))else none)
    (cond (t1==t6)
     (some ((((-1),t1,()),()),()))
    (cond ((decide ((AQ (t1-t6))>10)))
     (some ((((-1),t1,()),()),()))
    (some (((t7,t1,()),()),())))))
   (cond (t1==t6)
    (some ((((-1),t1,()),()),()))
   (cond ((decide ((AQ (t1-t6))>10)))
    (some ((((-1),t1,()),()),()))
   (some (((t7,t1,()),()),())))))else none)
  (cond (t1==t6)
   (some ((((-1),t1,()),()),()))
  (cond ((decide ((AQ (t1-t6))>10)))
   (some ((((-1),t1,()),()),()))
  (some (((t7,t1,()),()),())))))else none)
 (cond (t1==t6)
  (some ((((-1),t1,()),()),()))
 (cond ((decide ((AQ (t1-t6))>10)))
  (some ((((-1),t1,()),()),()))
 (some (((t7,t1,()),()),()))))
def Ly:Nat->TF
 |0=>fun _ _ _ _=>none
 |n+1=>T0 (Ly n)
def lX(R3:TF)(p0:ABF)(p1:Int):Option RC:=
 R3 p0 p1 p1 0
def W6(p0:ABF)(p1:Int):Option RC:=lX (Ly AW) p0 p1
abbrev yu:Type:=AGA×Unit
def e_(p0:Int)(p1:AAA):Option yu:=
 cond (p0==11)
  (if(0:Int)<=(0:Int)/\(0:Int)<(p1.length:Int)then(
  if(0:Int)<=(1:Int)/\(1:Int)<(p1.length:Int)then(
  some (((p0,0,(p1.getD 0 0),(p1.getD 1 0),[],()),()),()))else none)else none)
 (cond ((decide ((p1.length:Int)>0)))
  (if(0:Int)<=(0:Int)/\(0:Int)<(p1.length:Int)then(
  cond ((decide ((p1.length:Int)>1)))
   (if(0:Int)<=(1:Int)/\(1:Int)<(p1.length:Int)then(
   cond ((decide ((p1.length:Int)>2)))
    (if(0:Int)<=(2:Int)/\(2:Int)<(p1.length:Int)then(
    some (((p0,(p1.getD 0 0),(p1.getD 1 0),(p1.getD 2 0),[],()),()),()))else none)
   (some (((p0,(p1.getD 0 0),(p1.getD 1 0),0,[],()),()),())))else none)
  (cond ((decide ((p1.length:Int)>2)))
   (if(0:Int)<=(2:Int)/\(2:Int)<(p1.length:Int)then(
   some (((p0,(p1.getD 0 0),0,(p1.getD 2 0),[],()),()),()))else none)
  (some (((p0,(p1.getD 0 0),0,0,[],()),()),()))))else none)
 (some (((p0,0,0,0,[],()),()),())))
abbrev Kg:Type:=AF_×Unit
abbrev QX:Type:=Int->Int->Int->Int->Int->List UInt8->Option Kg
abbrev OX:Type:=List UInt8->Int->Int->Int->Int->Int->List UInt8->List Int->Option Kg
def Iu(R4:QX)(ja:OX)(t4 AK AF AZ BD:Int)(BI:ABF):Option Kg:=
 cond ((decide (t4<(BI.length:Int))))
  (if(0:Int)<=t4/\t4<(BI.length:Int)then(
  cond (((BI.getD (t4.toNat) 0).toNat:Int)==10)
   (some ((([],false,()),()),()))
  (R4 (AQ (t4+1)) AK AF AZ BD BI))else none)
 ((TM AK).bind fun u5=>
 (UB (AK,AF,AZ,BD,BI,())).bind fun u6=>
 ja u5.1.1 0 AK AF AZ BD BI u6.2.1)
def IE(R4:QX)(ja:OX)(t5:ABF)(t7 AK AF AZ BD:Int)(BI:ABF)(b1:AAA):Option Kg:=
 cond ((decide (t7<(b1.length:Int))))
  (if(0:Int)<=t7/\t7<(b1.length:Int)then(
  (CF (b1.getD (t7.toNat) 0) 0 9999999999).bind fun u9=>
  cond (!u9.1.1)
   (some ((([],false,()),()),()))
  (if t5.length+1<=CN then(
  if(0:Int)<=t7/\t7<(b1.length:Int)then(
  (Pl (b1.getD (t7.toNat) 0)).bind fun Ed=>
  if(t5++[32]).length+Ed.1.1.length<=CN then(
  ja ((t5++[32])++Ed.1.1) (AQ (t7+1)) AK AF AZ BD BI b1)else none)else none)else none))else none)
 (cond (AK==2)
  (if t5.length+1<=CN then(
  if(t5++[32]).length+BI.length<=CN then(
  some ((((t5++[32])++BI,true,()),()),()))else none)else none)
 (cond (AK==13)
  (if t5.length+1<=CN then(
  (Fi AF).bind fun Nr=>
  if(t5++[32]).length+Nr.1.1.length<=CN then(
  some (((((t5++[32])++Nr.1.1),true,()),()),()))else none)else none)
 (some (((t5,true,()),()),()))))
mutual
def E_:Nat->QX
 |0=>fun _ _ _ _ _ _=>none
 |n+1=>Iu (E_ n) (ET n)
def ET:Nat->OX
 |0=>fun _ _ _ _ _ _ _ _=>none
 |n+1=>IE (E_ n) (ET n)
end
def X9(R4:QX)(ja:OX)(p0:ADJ):Option Kg:=
 (W0 (p0.1,p0.2.1,p0.2.2.1,p0.2.2.2.1,p0.2.2.2.2.1,())).bind fun u1=>
 cond (!u1.1.1)
  (some ((([],false,()),()),()))
 (cond (p0.1==13)
  ((FE p0.2.1).bind fun u2=>
  cond (!u2.1.1)
   (some ((([],false,()),()),()))
  (R4 0 p0.1 p0.2.1 p0.2.2.1 p0.2.2.2.1 p0.2.2.2.2.1))
 (R4 0 p0.1 p0.2.1 p0.2.2.1 p0.2.2.2.1 p0.2.2.2.2.1))
def JE(p0:ADJ):Option Kg:=X9 (E_ AW) (ET AW) p0
abbrev nn:Type:=AFf×Unit
def UT(p0:ABF):Option nn:=
 cond ((decide ((p0.length:Int)<4)))
  (some (((0,false,()),()),()))
 ((W6 p0 1).bind fun u2=>
 (W6 p0 (AQ (u2.1.1.2.1+1))).bind fun u3=>
 (Ps u2.1.1.1 u3.1.1.1).bind fun u4=>
 cond (!u4.1.1.2.1)
  (some (((0,false,()),()),()))
 ((Fi u4.1.1.1).bind fun u5=>
 cond (!(u5.1.1==p0))
  (some (((0,false,()),()),()))
 (some (((u4.1.1.1,true,()),()),()))))
abbrev HS:Type:=(AI8×Unit)×Unit
abbrev Oh:Type:=List UInt8->Int->Int->Int->Int->Int->List UInt8->Int->Int->Int->Int->List UInt8->Option HS
abbrev Mr:Type:=List UInt8->Int->Int->Int->Int->Int->Int->Int->Int->List UInt8->Int->Int->Int->Int->List UInt8->List Int->Option HS
def H8(R3:Oh)(ja:Mr)(t0:ABF)(t5 AK AF AZ BD:Int)(BI:ABF)(Bn BL CM EG:Int)(HF:ABF):Option HS:=
 cond (decide (t5<=16))
  ((TM t5).bind fun u1=>
  cond ((decide ((t0.length:Int)<(u1.1.1.length:Int))))
   (R3 t0 (AQ (t5+1)) AK AF AZ BD BI Bn BL CM EG HF)
  (let x4:Int:=(u1.1.1.length:Int)
  if(0:Int)<=(0:Int)/\(0:Int)<=x4/\x4<=(t0.length:Int)then(
  cond (!(((t0.drop 0).take ((x4.toNat)-0))==u1.1.1))
   (R3 t0 (AQ (t5+1)) AK AF AZ BD BI Bn BL CM EG HF)
  ((UB (t5,0,0,0,[],())).bind fun u6=>
  ja t0 t5 (u6.2.1.length:Int) (u1.1.1.length:Int) 0 AK AF AZ BD BI Bn BL CM EG HF []))else none))
 (some ((((Bn,BL,CM,EG,HF,()),false,()),()),()))
def HK(R3:Oh)(ja:Mr)(t0:ABF)(t5 t7 t8 t10 AK AF AZ BD:Int)(BI:ABF)(Bn BL CM EG:Int)(HF:ABF)(b2:AAA):Option HS:=
 cond (decide (t10<t7))
  ((W6 t0 (AQ (t8+1))).bind fun u9=>
  cond ((decide (u9.1.1.1<0)))
   (some ((((Bn,BL,CM,EG,HF,()),false,()),()),()))
  (if b2.length+1<=CN then(
  ja t0 t5 t7 u9.1.1.2.1 (AQ (t10+1)) AK AF AZ BD BI Bn BL CM EG HF (b2++[u9.1.1.1]))else none))
 ((e_ t5 b2).bind fun Ed=>
 cond (t5==2)
  ((NO (AQ (t8+1)) (t0.length:Int)).bind fun Md=>
  if(0:Int)<=Md.1.1/\Md.1.1<=(t0.length:Int)/\(t0.length:Int)<=(t0.length:Int)then(
  let x13:ABF:=((t0.drop (Md.1.1.toNat)).take (((t0.length:Int).toNat)-(Md.1.1.toNat)))
  (JE (Ed.1.1.1,Ed.1.1.2.1,Ed.1.1.2.2.1,Ed.1.1.2.2.2.1,x13,())).bind fun Mc=>
  cond (!Mc.1.1.2.1)
   (some ((((Bn,BL,CM,EG,HF,()),false,()),()),()))
  (cond (!(Mc.1.1.1==t0))
   (some ((((Bn,BL,CM,EG,HF,()),false,()),()),()))
  (some ((((Ed.1.1.1,Ed.1.1.2.1,Ed.1.1.2.2.1,Ed.1.1.2.2.2.1,x13,()),true,()),()),()))))else none)
 (cond (t5==13)
  ((NO (AQ (t8+1)) (t0.length:Int)).bind fun K9=>
  if(0:Int)<=K9.1.1/\K9.1.1<=(t0.length:Int)/\(t0.length:Int)<=(t0.length:Int)then(
  (UT ((t0.drop (K9.1.1.toNat)).take (((t0.length:Int).toNat)-(K9.1.1.toNat)))).bind fun jV=>
  (JE (Ed.1.1.1,jV.1.1.1,Ed.1.1.2.2.1,Ed.1.1.2.2.2.1,Ed.1.1.2.2.2.2.1,())).bind fun cf=>
  cond (!cf.1.1.2.1)
   (some ((((Bn,BL,CM,EG,HF,()),false,()),()),()))
  (cond (!(cf.1.1.1==t0))
   (some ((((Bn,BL,CM,EG,HF,()),false,()),()),()))
  (some ((((Ed.1.1.1,jV.1.1.1,Ed.1.1.2.2.1,Ed.1.1.2.2.2.1,Ed.1.1.2.2.2.2.1,()),true,()),()),()))))else none)
 ((JE (Ed.1.1.1,Ed.1.1.2.1,Ed.1.1.2.2.1,Ed.1.1.2.2.2.1,Ed.1.1.2.2.2.2.1,())).bind fun cj=>
 cond (!cj.1.1.2.1)
  (some ((((Bn,BL,CM,EG,HF,()),false,()),()),()))
 (cond (!(cj.1.1.1==t0))
  (some ((((Bn,BL,CM,EG,HF,()),false,()),()),()))
 (some ((((Ed.1.1.1,Ed.1.1.2.1,Ed.1.1.2.2.1,Ed.1.1.2.2.2.1,Ed.1.1.2.2.2.2.1,()),true,()),()),()))))))
mutual
def Dw:Nat->Oh
 |0=>fun _ _ _ _ _ _ _ _ _ _ _ _=>none
 |n+1=>H8 (Dw n) (D8 n)
def D8:Nat->Mr
 |0=>fun _ _ _ _ _ _ _ _ _ _ _ _ _ _ _ _=>none
 |n+1=>HK (Dw n) (D8 n)
end
def W_(R3:Oh)(ja:Mr)(p0:ABF):Option HS:=
 R3 p0 1 0 0 0 0 [] 0 0 0 0 []
def T3(p0:ABF):Option HS:=W_ (Dw AW) (D8 AW) p0
abbrev pE:Type:=(AI9×Unit)×AEw
def MC(p0:AB0)(p1:ABF):Option pE:=
 (Mz (p0.1,p0.2.1,p0.2.2.1,p0.2.2.2.1,p0.2.2.2.2.1,p0.2.2.2.2.2.1,p0.2.2.2.2.2.2.1,p0.2.2.2.2.2.2.2.1,p0.2.2.2.2.2.2.2.2.1,p0.2.2.2.2.2.2.2.2.2.1,p0.2.2.2.2.2.2.2.2.2.2.1,())).bind fun u1=>
 (Gq (p0.1,p0.2.1,p0.2.2.1,p0.2.2.2.1,p0.2.2.2.2.1,p0.2.2.2.2.2.1,p0.2.2.2.2.2.2.1,p0.2.2.2.2.2.2.2.1,p0.2.2.2.2.2.2.2.2.1,p0.2.2.2.2.2.2.2.2.2.1,p0.2.2.2.2.2.2.2.2.2.2.1,())).bind fun u2=>
 cond (!u2.1.1)
  (some (((((),u1.1.1.2.1,(),(),(),u1.1.1.2.2.2.2.2.1,(),(),(),(),u1.1.1.2.2.2.2.2.2.2.2.2.2.1,()),[98,97,100],()),()),(u1.2.1,u1.2.2.1,u1.2.2.2.1,u1.2.2.2.2.1,u1.2.2.2.2.2.1,u1.2.2.2.2.2.2.1,u1.2.2.2.2.2.2.2.1,u1.2.2.2.2.2.2.2.2.1,())))
 (cond (p1==[])
  (some (((((),u1.1.1.2.1,(),(),(),u1.1.1.2.2.2.2.2.1,(),(),(),(),u1.1.1.2.2.2.2.2.2.2.2.2.2.1,()),[],()),()),(u1.2.1,u1.2.2.1,u1.2.2.2.1,u1.2.2.2.2.1,u1.2.2.2.2.2.1,u1.2.2.2.2.2.2.1,u1.2.2.2.2.2.2.2.1,u1.2.2.2.2.2.2.2.2.1,())))
 (if(0:Int)<=(0:Int)/\(0:Int)<(p1.length:Int)then(
 cond (((p1.getD 0 0).toNat:Int)==35)
  (some (((((),u1.1.1.2.1,(),(),(),u1.1.1.2.2.2.2.2.1,(),(),(),(),u1.1.1.2.2.2.2.2.2.2.2.2.2.1,()),[],()),()),(u1.2.1,u1.2.2.1,u1.2.2.2.1,u1.2.2.2.2.1,u1.2.2.2.2.2.1,u1.2.2.2.2.2.2.1,u1.2.2.2.2.2.2.2.1,u1.2.2.2.2.2.2.2.2.1,())))
 ((iY (p0.1,p0.2.1,p0.2.2.1,p0.2.2.2.1,p0.2.2.2.2.1,p0.2.2.2.2.2.1,p0.2.2.2.2.2.2.1,p0.2.2.2.2.2.2.2.1,p0.2.2.2.2.2.2.2.2.1,p0.2.2.2.2.2.2.2.2.2.1,p0.2.2.2.2.2.2.2.2.2.2.1,()) p1).bind fun u4=>
 cond (!(u4.1.1==[]))
  (some (((((),u1.1.1.2.1,(),(),(),u1.1.1.2.2.2.2.2.1,(),(),(),(),u1.1.1.2.2.2.2.2.2.2.2.2.2.1,()),u4.1.1,()),()),(u1.2.1,u1.2.2.1,u1.2.2.2.1,u1.2.2.2.2.1,u1.2.2.2.2.2.1,u1.2.2.2.2.2.2.1,u1.2.2.2.2.2.2.2.1,u1.2.2.2.2.2.2.2.2.1,())))
 (cond ((p1==[111,117,116,32,48]))
  (some (((((),u1.1.1.2.1,(),(),(),u1.1.1.2.2.2.2.2.1,(),(),(),(),u1.1.1.2.2.2.2.2.2.2.2.2.2.1,()),u4.1.1,()),()),(u1.2.1,u1.2.2.1,u1.2.2.2.1,u1.2.2.2.2.1,u1.2.2.2.2.2.1,u1.2.2.2.2.2.2.1,u1.2.2.2.2.2.2.2.1,u1.2.2.2.2.2.2.2.2.1,())))
 (cond ((p1==[111,117,116,32,49]))
  (some (((((),u1.1.1.2.1,(),(),(),u1.1.1.2.2.2.2.2.1,(),(),(),(),u1.1.1.2.2.2.2.2.2.2.2.2.2.1,()),u4.1.1,()),()),(u1.2.1,u1.2.2.1,u1.2.2.2.1,u1.2.2.2.2.1,u1.2.2.2.2.2.1,u1.2.2.2.2.2.2.1,u1.2.2.2.2.2.2.2.1,u1.2.2.2.2.2.2.2.2.1,())))
 ((T3 p1).bind fun u7=>
 cond (!u7.1.1.2.1)
  (some (((((),u1.1.1.2.1,(),(),(),u1.1.1.2.2.2.2.2.1,(),(),(),(),u1.1.1.2.2.2.2.2.2.2.2.2.2.1,()),[119,104,97,116],()),()),(u1.2.1,u1.2.2.1,u1.2.2.2.1,u1.2.2.2.2.1,u1.2.2.2.2.2.1,u1.2.2.2.2.2.2.1,u1.2.2.2.2.2.2.2.1,u1.2.2.2.2.2.2.2.2.1,())))
 ((TE (p0.1,p0.2.1,p0.2.2.1,p0.2.2.2.1,p0.2.2.2.2.1,p0.2.2.2.2.2.1,p0.2.2.2.2.2.2.1,p0.2.2.2.2.2.2.2.1,p0.2.2.2.2.2.2.2.2.1,p0.2.2.2.2.2.2.2.2.2.1,p0.2.2.2.2.2.2.2.2.2.2.1,()) (u7.1.1.1.1,u7.1.1.1.2.1,u7.1.1.1.2.2.1,u7.1.1.1.2.2.2.1,u7.1.1.1.2.2.2.2.1,())).bind fun u8=>
 if(0:Int)<=u8.1.1.2.1/\u8.1.1.2.1<6 then(
 some (((((),u8.1.1.1.2.1,(),(),(),u8.1.1.1.2.2.2.2.2.1,(),(),(),(),u8.1.1.1.2.2.2.2.2.2.2.2.2.2.1,()),([[111,107],[98,97,100],[110,111,110,101],[108,111,115,116],[114,101,102,117,115,101,100],[119,97,105,116]].getD (u8.1.1.2.1.toNat) []),()),()),(u8.2.1,u8.2.2.1,u8.2.2.2.1,u8.2.2.2.2.1,u8.2.2.2.2.2.1,u8.2.2.2.2.2.2.1,u8.2.2.2.2.2.2.2.1,u8.2.2.2.2.2.2.2.2.1,())))else none))))))else none))
abbrev Gk:Type:=(AI_×Unit)×Unit
abbrev RL:Type:=List UInt8->Int->Int->Int->Int->Bool->List Int->AAd->List Int->AAf->ABE->ABI->AAs->AA8->List ABF->Option Gk
abbrev QB:Type:=List UInt8->Int->Int->Int->Bool->List Int->AAd->List Int->AAf->ABE->ABI->AAs->AA8->List ABF->Option Gk
def Mt(R7:RL)(R18:QB)(t1:ABF)(t9 t10 AF AO:Int)(AH:Bool)(b1:AAA)(b2:AAd)(b3:AAA)(b4:AAf)(b5:ABE)(b6:ABI)(b7:AAs)(b8:AA8)(b9:List ABF):Option Gk:=
 cond ((decide (t10<(t1.length:Int))))
  (if(0:Int)<=t10/\t10<(t1.length:Int)then(
  cond (((t1.getD (t10.toNat) 0).toNat:Int)==10)
   (if(0:Int)<=t9/\t9<=t10/\t10<=(t1.length:Int)then(
   if b9.length+1<=CN then(
   R7 t1 (AQ (t10+1)) (AQ (t10+1)) AF AO AH b1 b2 b3 b4 b5 b6 b7 b8 (b9++[((t1.drop (t9.toNat)).take ((t10.toNat)-(t9.toNat)))]))else none)else none)
  (R7 t1 t9 (AQ (t10+1)) AF AO AH b1 b2 b3 b4 b5 b6 b7 b8 b9))else none)
 (cond ((decide (t9<(t1.length:Int))))
  (if(0:Int)<=t9/\t9<=(t1.length:Int)/\(t1.length:Int)<=(t1.length:Int)then(
  let x7:ABF:=((t1.drop (t9.toNat)).take (((t1.length:Int).toNat)-(t9.toNat)))
  if b9.length+1<=CN then(
  cond (decide (((b9++[x7]).length:Int)>200))
   (some ((([],(-2),()),()),()))
  (R18 [] 0 AF AO AH b1 b2 b3 b4 b5 b6 b7 b8 (b9++[x7])))else none)else none)
 (cond ((decide ((b9.length:Int)>200)))
  (some ((([],(-2),()),()),()))
 (R18 [] 0 AF AO AH b1 b2 b3 b4 b5 b6 b7 b8 b9)))
def LR(R7:RL)(R18:QB)(t11:ABF)(t12 AF AO:Int)(AH:Bool)(b1:AAA)(b2:AAd)(b3:AAA)(b4:AAf)(b5:ABE)(b6:ABI)(b7:AAs)(b8:AA8)(b9:List ABF):Option Gk:=
 cond ((decide (t12<(b9.length:Int))))
  (if(0:Int)<=t12/\t12<(b9.length:Int)then(
  (MC (b1,AF,b2,b3,b4,AO,b5,b6,b7,b8,AH,()) (b9.getD (t12.toNat) [])).bind fun Md=>
  let x13:AA8:=Md.2.2.2.2.2.2.2.2.1
  cond (!(Md.1.1.2.1==[]))
   (if t11.length+Md.1.1.2.1.length<=CN then(
   if(t11++Md.1.1.2.1).length+1<=CN then(
   R18 ((t11++Md.1.1.2.1)++[10]) (AQ (t12+1)) Md.1.1.1.2.1 Md.1.1.1.2.2.2.2.2.1 Md.1.1.1.2.2.2.2.2.2.2.2.2.2.1 Md.2.1 Md.2.2.1 Md.2.2.2.1 Md.2.2.2.2.1 Md.2.2.2.2.2.1 Md.2.2.2.2.2.2.1 Md.2.2.2.2.2.2.2.1 x13 b9)else none)else none)
  (R18 t11 (AQ (t12+1)) Md.1.1.1.2.1 Md.1.1.1.2.2.2.2.2.1 Md.1.1.1.2.2.2.2.2.2.2.2.2.2.1 Md.2.1 Md.2.2.1 Md.2.2.2.1 Md.2.2.2.2.1 Md.2.2.2.2.2.1 Md.2.2.2.2.2.2.1 Md.2.2.2.2.2.2.2.1 x13 b9))else none)
 (some (((t11,(b9.length:Int),()),()),()))
mutual
def Ij:Nat->RL
 |0=>fun _ _ _ _ _ _ _ _ _ _ _ _ _ _ _=>none
 |n+1=>Mt (Ij n) (HX n)
def HX:Nat->QB
 |0=>fun _ _ _ _ _ _ _ _ _ _ _ _ _ _=>none
 |n+1=>LR (Ij n) (HX n)
end
def aF(R7:RL)(R18:QB)(p0:ABx)(p1:ABF):Option Gk:=
 (Ey (p0.1,p0.2.1,())).bind fun u1=>
 cond (!u1.1.1.2.1)
  (some ((([],(-1),()),()),()))
 (cond ((decide ((p1.length:Int)>20000)))
  (some ((([],(-1),()),()),()))
 (R7 p1 0 0 u1.1.1.1.2.1 u1.1.1.1.2.2.2.2.2.1 u1.1.1.1.2.2.2.2.2.2.2.2.2.2.1 u1.2.1 u1.2.2.1 u1.2.2.2.1 u1.2.2.2.2.1 u1.2.2.2.2.2.1 u1.2.2.2.2.2.2.1 u1.2.2.2.2.2.2.2.1 u1.2.2.2.2.2.2.2.2.1 []))
def Ub(p0:ABx)(p1:ABF):Option Gk:=aF (Ij AW) (HX AW) p0 p1
abbrev rV:Type:=AJA×Unit
def strings_Split(p0:ABF)(p1:ABF):Option rV:=(yQ p0 p1).map fun l=>((l,()),())
abbrev su:Type:=AEg×Unit
def strconv_Itoa(p0:Int):Option su:=(ADv p0).map fun l=>((l,()),())
abbrev wY:Type:=AEg×Unit
def HA(p0:Int):Option wY:=
 (strconv_Itoa p0).bind fun u1=>
 some ((u1.1.1,()),())
abbrev o8:Type:=AEg×Unit
def Ee(p0:Int):Option o8:=
 (DB p0).bind fun u1=>
 cond (!u1.1.1)
  (some (([],()),()))
 ((EU p0).bind fun u2=>
 (HA u2.1.1).bind fun u3=>
 if 1+u3.1.1.length<=CN then(
 if([101]++u3.1.1).length+1<=CN then(
 let x4:ABF:=([101]++u3.1.1)++[46]
 (SU p0).bind fun u5=>
 (HA u5.1.1).bind fun u6=>
 if x4.length+u6.1.1.length<=CN then(
 some ((x4++u6.1.1,()),()))else none)else none)else none)
abbrev oI:Type:=AEg×Unit
def PZ(p0:AFL):Option oI:=
 cond (p0.1==1)
  (cond (p0.2.2.1==[])
   ((Ee p0.2.1).bind fun u1=>
   if 5+u1.1.1.length<=CN then(
   some ((([100,97,116,97,32]++u1.1.1),()),()))else none)
  ((Ee p0.2.1).bind fun u3=>
  if 5+u3.1.1.length<=CN then(
  let x4:ABF:=[100,97,116,97,32]++u3.1.1
  if x4.length+1<=CN then(
  if(x4++[32]).length+p0.2.2.1.length<=CN then(
  some ((((x4++[32])++p0.2.2.1),()),()))else none)else none)else none))
 (cond (p0.1==2)
  ((Ee p0.2.1).bind fun u6=>
  if 5+u6.1.1.length<=CN then(
  some ((([104,111,108,101,32]++u6.1.1),()),()))else none)
 (cond (p0.1==3)
  ((Ee p0.2.1).bind fun u8=>
  if 5+u8.1.1.length<=CN then(
  some ((([108,111,115,115,32]++u8.1.1),()),()))else none)
 (cond (p0.1==4)
  ((HA (if 0>p0.2.1 then 0 else p0.2.1)).bind fun Ed=>
  if 4+Ed.1.1.length<=CN then(
  some ((([101,114,97,32]++Ed.1.1),()),()))else none)
 (cond (p0.1==5)
  ((Ee p0.2.1).bind fun Nr=>
  if 5+Nr.1.1.length<=CN then(
  some ((([116,114,105,109,32]++Nr.1.1),()),()))else none)
 (some (([],()),()))))))
abbrev q9:Type:=AEg×Unit
def Ns(p0:ADU):Option q9:=
 cond ((p0.2.2.1.length:Int)==0)
  (some (([110,111,110,101],()),()))
 (let x2:Int:=(p0.2.2.1.length:Int)
 if(0:Int)<=AQ (x2-1)/\AQ (x2-1)<(p0.2.2.1.length:Int)then(
 (PZ ((p0.2.2.1.getD ((AQ (x2-1)).toNat) (0,0,[],())).1,(p0.2.2.1.getD ((AQ (x2-1)).toNat) (0,0,[],())).2.1,(p0.2.2.1.getD ((AQ (x2-1)).toNat) (0,0,[],())).2.2.1,())).bind fun u3=>
 some ((u3.1.1,()),()))else none)
abbrev jk:Type:=((List UInt8×List UInt8×Bool×Unit)×Unit)×Unit
def strings_Cut(p0:ABF)(p1:ABF):Option jk:=(AKF p0 p1).map fun l=>(((l.1,l.2.1,l.2.2,()),()),())
abbrev oS:Type:=ACL×AJA
def PJ:Option oS:=
 some (((),()),([[111,112,101,110],[97,100,100],[115,116,111,114,101],[115,121,110,99],[99,114,97,115,104],[108,111,115,101],[102,105,108,108],[109,101,110,100],[115,101,97,108],[112,108,97,110],[102,105,120],[99,108,111,115,101],[116,114,105,109],[114,101,97,100],[100,114,111,112],[112,114,117,110,101]],()))
abbrev XY:Type:=AB2×Unit
def KH(p0:List ABF)(p1:ABF):Option XY:=(zY p0 p1).map fun l=>((l,()),())
abbrev mW:Type:=AFf×Unit
def Kj(p0:ABF)(p1:Int):Option mW:=(Ei p0 p1).map fun l=>(((l.1,l.2,()),()),())
abbrev iR:Type:=AEg×Unit
def strings_TrimPrefix(p0:ABF)(p1:ABF):Option iR:=(qJ p0 p1).map fun l=>((l,()),())
abbrev dY:Type:=AFf×Unit
def Pd(p0:ABF):Option dY:=
 (strings_TrimPrefix p0 [101]).bind fun u1=>
 (strings_Cut u1.1.1 [46]).bind fun u2=>
 (Kj u2.1.1.1 2).bind fun u3=>
 (Kj u2.1.1.2.1 2).bind fun u4=>
 (DR u3.1.1.1 u4.1.1.1).bind fun u5=>
 cond (!u3.1.1.2.1)
  (some (((0,false,()),()),()))
 (cond (!u4.1.1.2.1)
  (some (((0,false,()),()),()))
 (cond (!u5.1.1.2.1)
  (some (((0,false,()),()),()))
 ((Ee u5.1.1.1).bind fun u6=>
 cond (!(u6.1.1==p0))
  (some (((0,false,()),()),()))
 (some (((u5.1.1.1,true,()),()),())))))
abbrev iH:Type:=AEg×AGA
def Mn(p1:Int)(p2:ABF)(AK AF AZ BD:Int)(BI:ABF):Option iH:=
 cond (p1==84)
  (some (([],()),((AK,AF,AZ,BD,p2,()),())))
 ((strings_Cut p2 [32]).bind fun u1=>
 (Kj u1.1.1.1 10).bind fun u2=>
 cond (p1==65)
  (some ((u1.1.1.2.1,()),((AK,u2.1.1.1,AZ,BD,BI,()),())))
 (cond (p1==66)
  (some ((u1.1.1.2.1,()),((AK,AF,u2.1.1.1,BD,BI,()),())))
 (cond (p1==67)
  (some ((u1.1.1.2.1,()),((AK,AF,AZ,u2.1.1.1,BI,()),())))
 (cond (p1==80)
  ((Pd u1.1.1.1).bind fun u3=>
  some ((u1.1.1.2.1,()),((AK,u3.1.1.1,AZ,BD,BI,()),())))
 (some ((u1.1.1.2.1,()),((AK,AF,AZ,BD,BI,()),())))))))
abbrev kR:Type:=ABz×Unit
def strings_Contains(p0:ABF)(p1:ABF):Option kR:=(jB p0 p1).map fun l=>((l,()),())
abbrev dH:Type:=AF_×Unit
def Tz(p0:ADJ)(p1:Int):Option dH:=
 cond (p1==84)
  ((strings_Contains p0.2.2.2.2.1 [10]).bind fun u1=>
  some (((p0.2.2.2.2.1,!u1.1.1,()),()),()))
 (cond (p1==80)
  ((Ee p0.2.1).bind fun u2=>
  (DB p0.2.1).bind fun u3=>
  some (((u2.1.1,u3.1.1,()),()),()))
 (cond (p1==66)
  ((HA p0.2.2.1).bind fun u4=>
  cond ((decide (p0.2.2.1>=0)))
   (some (((u4.1.1,decide ((u4.1.1.length:Int)<=10),()),()),()))
  (some (((u4.1.1,false,()),()),())))
 (cond (p1==67)
  ((HA p0.2.2.2.1).bind fun u7=>
  cond ((decide (p0.2.2.2.1>=0)))
   (some (((u7.1.1,decide ((u7.1.1.length:Int)<=10),()),()),()))
  (some (((u7.1.1,false,()),()),())))
 ((HA p0.2.1).bind fun Dk=>
 cond (decide (p0.2.1>=0))
  (some (((Dk.1.1,decide ((Dk.1.1.length:Int)<=10),()),()),()))
 (some (((Dk.1.1,false,()),()),()))))))
abbrev Rf:Type:=AF_×Unit
abbrev VW:Type:=List UInt8->Int->Int->Int->Int->Int->Int->List UInt8->List Int->Option Rf
def Is(R5:VW)(t4:ABF)(t22 t23 AK AF AZ BD:Int)(BI:ABF)(b1:AAA):Option Rf:=
 cond (decide (t23<t22))
  (if(0:Int)<=t23/\t23<(b1.length:Int)then(
  (Tz (AK,AF,AZ,BD,BI,()) (b1.getD (t23.toNat) 0)).bind fun u7=>
  cond (!u7.1.1.2.1)
   (some ((([],false,()),()),()))
  (if 1+u7.1.1.1.length<=CN then(
  if t4.length+([32]++u7.1.1.1).length<=CN then(
  R5 (t4++([32]++u7.1.1.1)) t22 (AQ (t23+1)) AK AF AZ BD BI b1)else none)else none))else none)
 (some (((t4,true,()),()),()))
def Jd:Nat->VW
 |0=>fun _ _ _ _ _ _ _ _ _=>none
 |n+1=>Is (Jd n)
def X2(R5:VW)(p0:ADJ):Option Rf:=
 (XD (p0.1,p0.2.1,p0.2.2.1,p0.2.2.2.1,p0.2.2.2.2.1,())).bind fun u1=>
 cond (!u1.1.1)
  (some ((([],false,()),()),()))
 ((PJ).bind fun u2=>
 if(0:Int)<=AQ (p0.1-1)/\AQ (p0.1-1)<(u2.2.1.length:Int)then(
 (QE p0.1).bind fun u4=>
 if u4.1.1.length<=CN then(
 let x5:AAA:=(u4.1.1.map fun c=>(c.toNat:Int))
 R5 (u2.2.1.getD ((AQ (p0.1-1)).toNat) []) (x5.length:Int) 0 p0.1 p0.2.1 p0.2.2.1 p0.2.2.2.1 p0.2.2.2.2.1 x5)else none)else none)
def WK(p0:ADJ):Option Rf:=X2 (Jd AW) p0
abbrev QD:Type:=(AI8×Unit)×Unit
abbrev Tg:Type:=List UInt8->List UInt8->Int->Int->Int->Int->Int->Int->List UInt8->Int->Int->Int->Int->List UInt8->List Int->Option QD
def H0(R6:Tg)(t0 t5:ABF)(t31 t32 AK AF AZ BD:Int)(BI:ABF)(Bn BL CM EG:Int)(HF:ABF)(b2:AAA):Option QD:=
 cond (decide (t32<t31))
  (if(0:Int)<=t32/\t32<(b2.length:Int)then(
  (Mn (b2.getD (t32.toNat) 0) t5 Bn BL CM EG HF).bind fun u8=>
  R6 t0 u8.1.1 t31 (AQ (t32+1)) AK AF AZ BD BI u8.2.1.1 u8.2.1.2.1 u8.2.1.2.2.1 u8.2.1.2.2.2.1 u8.2.1.2.2.2.2.1 b2)else none)
 ((WK (Bn,BL,CM,EG,HF,())).bind fun u9=>
 cond (!u9.1.1.2.1)
  (some ((((0,0,0,0,[],()),false,()),()),()))
 (cond (!(u9.1.1.1==t0))
  (some ((((0,0,0,0,[],()),false,()),()),()))
 (some ((((Bn,BL,CM,EG,HF,()),true,()),()),()))))
def IH:Nat->Tg
 |0=>fun _ _ _ _ _ _ _ _ _ _ _ _ _ _ _=>none
 |n+1=>H0 (IH n)
def XG(R6:Tg)(p0:ABF):Option QD:=
 (strings_Cut p0 [32]).bind fun u1=>
 (PJ).bind fun u2=>
 (KH u2.2.1 u1.1.1.1).bind fun u3=>
 cond (((AQ (1+u3.1.1))==0))
  (some ((((0,0,0,0,[],()),false,()),()),()))
 ((QE (AQ (1+u3.1.1))).bind fun u5=>
 if u5.1.1.length<=CN then(
 let x6:AAA:=(u5.1.1.map fun c=>(c.toNat:Int))
 R6 p0 u1.1.1.2.1 (x6.length:Int) 0 0 0 0 0 [] (AQ (1+u3.1.1)) 0 0 0 [] x6)else none)
def TK(p0:ABF):Option QD:=XG (IH AW) p0
abbrev cq:Type:=(AI9×Unit)×AEw
def Dn(p0:AB0)(p1:ABF):Option cq:=
 (Cz (p0.1,p0.2.1,p0.2.2.1,p0.2.2.2.1,p0.2.2.2.2.1,p0.2.2.2.2.2.1,p0.2.2.2.2.2.2.1,p0.2.2.2.2.2.2.2.1,p0.2.2.2.2.2.2.2.2.1,p0.2.2.2.2.2.2.2.2.2.1,p0.2.2.2.2.2.2.2.2.2.2.1,())).bind fun u1=>
 cond (!u1.1.1)
  ((Dm (p0.1,p0.2.1,p0.2.2.1,p0.2.2.2.1,p0.2.2.2.2.1,p0.2.2.2.2.2.1,p0.2.2.2.2.2.2.1,p0.2.2.2.2.2.2.2.1,p0.2.2.2.2.2.2.2.2.1,p0.2.2.2.2.2.2.2.2.2.1,p0.2.2.2.2.2.2.2.2.2.2.1,())).bind fun u2=>
  some (((((),u2.1.1.2.1,(),(),(),u2.1.1.2.2.2.2.2.1,(),(),(),(),u2.1.1.2.2.2.2.2.2.2.2.2.2.1,()),[98,97,100],()),()),(u2.2.1,u2.2.2.1,u2.2.2.2.1,u2.2.2.2.2.1,u2.2.2.2.2.2.1,u2.2.2.2.2.2.2.1,u2.2.2.2.2.2.2.2.1,u2.2.2.2.2.2.2.2.2.1,())))
 (cond (p1==[])
  ((Dm (p0.1,p0.2.1,p0.2.2.1,p0.2.2.2.1,p0.2.2.2.2.1,p0.2.2.2.2.2.1,p0.2.2.2.2.2.2.1,p0.2.2.2.2.2.2.2.1,p0.2.2.2.2.2.2.2.2.1,p0.2.2.2.2.2.2.2.2.2.1,p0.2.2.2.2.2.2.2.2.2.2.1,())).bind fun u3=>
  some (((((),u3.1.1.2.1,(),(),(),u3.1.1.2.2.2.2.2.1,(),(),(),(),u3.1.1.2.2.2.2.2.2.2.2.2.2.1,()),[],()),()),(u3.2.1,u3.2.2.1,u3.2.2.2.1,u3.2.2.2.2.1,u3.2.2.2.2.2.1,u3.2.2.2.2.2.2.1,u3.2.2.2.2.2.2.2.1,u3.2.2.2.2.2.2.2.2.1,())))
 (if(0:Int)<=(0:Int)/\(0:Int)<(p1.length:Int)then(
 cond (((p1.getD 0 0).toNat:Int)==35)
  ((Dm (p0.1,p0.2.1,p0.2.2.1,p0.2.2.2.1,p0.2.2.2.2.1,p0.2.2.2.2.2.1,p0.2.2.2.2.2.2.1,p0.2.2.2.2.2.2.2.1,p0.2.2.2.2.2.2.2.2.1,p0.2.2.2.2.2.2.2.2.2.1,p0.2.2.2.2.2.2.2.2.2.2.1,())).bind fun u5=>
  some (((((),u5.1.1.2.1,(),(),(),u5.1.1.2.2.2.2.2.1,(),(),(),(),u5.1.1.2.2.2.2.2.2.2.2.2.2.1,()),[],()),()),(u5.2.1,u5.2.2.1,u5.2.2.2.1,u5.2.2.2.2.1,u5.2.2.2.2.2.1,u5.2.2.2.2.2.2.1,u5.2.2.2.2.2.2.2.1,u5.2.2.2.2.2.2.2.2.1,())))
 (cond ((p1==[106,117,100,103,101]))
  ((V6 (p0.1,p0.2.1,p0.2.2.1,p0.2.2.2.1,p0.2.2.2.2.1,p0.2.2.2.2.2.1,p0.2.2.2.2.2.2.1,p0.2.2.2.2.2.2.2.1,p0.2.2.2.2.2.2.2.2.1,p0.2.2.2.2.2.2.2.2.2.1,p0.2.2.2.2.2.2.2.2.2.2.1,())).bind fun u7=>
  cond (u7.1.1)
   ((Dm (p0.1,p0.2.1,p0.2.2.1,p0.2.2.2.1,p0.2.2.2.2.1,p0.2.2.2.2.2.1,p0.2.2.2.2.2.2.1,p0.2.2.2.2.2.2.2.1,p0.2.2.2.2.2.2.2.2.1,p0.2.2.2.2.2.2.2.2.2.1,p0.2.2.2.2.2.2.2.2.2.2.1,())).bind fun u8=>
   some (((((),u8.1.1.2.1,(),(),(),u8.1.1.2.2.2.2.2.1,(),(),(),(),u8.1.1.2.2.2.2.2.2.2.2.2.2.1,()),[121,101,115],()),()),(u8.2.1,u8.2.2.1,u8.2.2.2.1,u8.2.2.2.2.1,u8.2.2.2.2.2.1,u8.2.2.2.2.2.2.1,u8.2.2.2.2.2.2.2.1,u8.2.2.2.2.2.2.2.2.1,())))
  ((Dm (p0.1,p0.2.1,p0.2.2.1,p0.2.2.2.1,p0.2.2.2.2.1,p0.2.2.2.2.2.1,p0.2.2.2.2.2.2.1,p0.2.2.2.2.2.2.2.1,p0.2.2.2.2.2.2.2.2.1,p0.2.2.2.2.2.2.2.2.2.1,p0.2.2.2.2.2.2.2.2.2.2.1,())).bind fun u9=>
  some (((((),u9.1.1.2.1,(),(),(),u9.1.1.2.2.2.2.2.1,(),(),(),(),u9.1.1.2.2.2.2.2.2.2.2.2.2.1,()),[110,111],()),()),(u9.2.1,u9.2.2.1,u9.2.2.2.1,u9.2.2.2.2.1,u9.2.2.2.2.2.1,u9.2.2.2.2.2.2.1,u9.2.2.2.2.2.2.2.1,u9.2.2.2.2.2.2.2.2.1,()))))
 (cond ((p1==[111,117,116,32,48]))
  (if(0:Int)<=(0:Int)/\(0:Int)<(p0.2.2.2.2.2.2.2.2.1.length:Int)then(
  (Dm (p0.1,p0.2.1,p0.2.2.1,p0.2.2.2.1,p0.2.2.2.2.1,p0.2.2.2.2.2.1,p0.2.2.2.2.2.2.1,p0.2.2.2.2.2.2.2.1,p0.2.2.2.2.2.2.2.2.1,p0.2.2.2.2.2.2.2.2.2.1,p0.2.2.2.2.2.2.2.2.2.2.1,())).bind fun Ed=>
  (Ns ((p0.2.2.2.2.2.2.2.2.1.getD 0 (0,0,[],())).1,(p0.2.2.2.2.2.2.2.2.1.getD 0 (0,0,[],())).2.1,(p0.2.2.2.2.2.2.2.2.1.getD 0 (0,0,[],())).2.2.1,())).bind fun Nr=>
  some (((((),Ed.1.1.2.1,(),(),(),Ed.1.1.2.2.2.2.2.1,(),(),(),(),Ed.1.1.2.2.2.2.2.2.2.2.2.2.1,()),Nr.1.1,()),()),(Ed.2.1,Ed.2.2.1,Ed.2.2.2.1,Ed.2.2.2.2.1,Ed.2.2.2.2.2.1,Ed.2.2.2.2.2.2.1,Ed.2.2.2.2.2.2.2.1,Ed.2.2.2.2.2.2.2.2.1,())))else none)
 (cond ((p1==[111,117,116,32,49]))
  (if(0:Int)<=(1:Int)/\(1:Int)<(p0.2.2.2.2.2.2.2.2.1.length:Int)then(
  (Dm (p0.1,p0.2.1,p0.2.2.1,p0.2.2.2.1,p0.2.2.2.2.1,p0.2.2.2.2.2.1,p0.2.2.2.2.2.2.1,p0.2.2.2.2.2.2.2.1,p0.2.2.2.2.2.2.2.2.1,p0.2.2.2.2.2.2.2.2.2.1,p0.2.2.2.2.2.2.2.2.2.2.1,())).bind fun K9=>
  (Ns ((p0.2.2.2.2.2.2.2.2.1.getD 1 (0,0,[],())).1,(p0.2.2.2.2.2.2.2.2.1.getD 1 (0,0,[],())).2.1,(p0.2.2.2.2.2.2.2.2.1.getD 1 (0,0,[],())).2.2.1,())).bind fun jV=>
  some (((((),K9.1.1.2.1,(),(),(),K9.1.1.2.2.2.2.2.1,(),(),(),(),K9.1.1.2.2.2.2.2.2.2.2.2.2.1,()),jV.1.1,()),()),(K9.2.1,K9.2.2.1,K9.2.2.2.1,K9.2.2.2.2.1,K9.2.2.2.2.2.1,K9.2.2.2.2.2.2.1,K9.2.2.2.2.2.2.2.1,K9.2.2.2.2.2.2.2.2.1,())))else none)
 ((TK p1).bind fun cf=>
 cond (!cf.1.1.2.1)
  ((Dm (p0.1,p0.2.1,p0.2.2.1,p0.2.2.2.1,p0.2.2.2.2.1,p0.2.2.2.2.2.1,p0.2.2.2.2.2.2.1,p0.2.2.2.2.2.2.2.1,p0.2.2.2.2.2.2.2.2.1,p0.2.2.2.2.2.2.2.2.2.1,p0.2.2.2.2.2.2.2.2.2.2.1,())).bind fun cj=>
  some (((((),cj.1.1.2.1,(),(),(),cj.1.1.2.2.2.2.2.1,(),(),(),(),cj.1.1.2.2.2.2.2.2.2.2.2.2.1,()),[119,104,97,116],()),()),(cj.2.1,cj.2.2.1,cj.2.2.2.1,cj.2.2.2.2.1,cj.2.2.2.2.2.1,cj.2.2.2.2.2.2.1,cj.2.2.2.2.2.2.2.1,cj.2.2.2.2.2.2.2.2.1,())))
 ((Mk (p0.1,p0.2.1,p0.2.2.1,p0.2.2.2.1,p0.2.2.2.2.1,p0.2.2.2.2.2.1,p0.2.2.2.2.2.2.1,p0.2.2.2.2.2.2.2.1,p0.2.2.2.2.2.2.2.2.1,p0.2.2.2.2.2.2.2.2.2.1,p0.2.2.2.2.2.2.2.2.2.2.1,()) (cf.1.1.1.1,cf.1.1.1.2.1,cf.1.1.1.2.2.1,cf.1.1.1.2.2.2.1,cf.1.1.1.2.2.2.2.1,())).bind fun di=>
 if(0:Int)<=di.1.1.2.1/\di.1.1.2.1<6 then(
 some (((((),di.1.1.1.2.1,(),(),(),di.1.1.1.2.2.2.2.2.1,(),(),(),(),di.1.1.1.2.2.2.2.2.2.2.2.2.2.1,()),([[111,107],[98,97,100],[110,111,110,101],[108,111,115,116],[114,101,102,117,115,101,100],[119,97,105,116]].getD (di.1.1.2.1.toNat) []),()),()),(di.2.1,di.2.2.1,di.2.2.2.1,di.2.2.2.2.1,di.2.2.2.2.2.1,di.2.2.2.2.2.2.1,di.2.2.2.2.2.2.2.1,di.2.2.2.2.2.2.2.2.1,())))else none))))))else none))
abbrev KA:Type:=(AI_×Unit)×Unit
abbrev VM:Type:=List ABF->List UInt8->List ABF->Int->Int->Int->Int->Bool->List Int->AAd->List Int->AAf->ABE->ABI->AAs->AA8->Option KA
def G6(ja:VM)(t6:List ABF)(t9:ABF)(t45:List ABF)(t46 t47 AF AO:Int)(AH:Bool)(b1:AAA)(b2:AAd)(b3:AAA)(b4:AAf)(b5:ABE)(b6:ABI)(b7:AAs)(b8:AA8):Option KA:=
 cond (decide (t47<t46))
  (if(0:Int)<=t47/\t47<(t45.length:Int)then(
  (Dn (b1,AF,b2,b3,b4,AO,b5,b6,b7,b8,AH,()) (t45.getD (t47.toNat) [])).bind fun Mc=>
  let x15:AA8:=Mc.2.2.2.2.2.2.2.2.1
  cond (!(Mc.1.1.2.1==[]))
   (if Mc.1.1.2.1.length+1<=CN then(
   if t9.length+(Mc.1.1.2.1++[10]).length<=CN then(
   ja t6 (t9++(Mc.1.1.2.1++[10])) t45 t46 (AQ (t47+1)) Mc.1.1.1.2.1 Mc.1.1.1.2.2.2.2.2.1 Mc.1.1.1.2.2.2.2.2.2.2.2.2.2.1 Mc.2.1 Mc.2.2.1 Mc.2.2.2.1 Mc.2.2.2.2.1 Mc.2.2.2.2.2.1 Mc.2.2.2.2.2.2.1 Mc.2.2.2.2.2.2.2.1 x15)else none)else none)
  (ja t6 t9 t45 t46 (AQ (t47+1)) Mc.1.1.1.2.1 Mc.1.1.1.2.2.2.2.2.1 Mc.1.1.1.2.2.2.2.2.2.2.2.2.2.1 Mc.2.1 Mc.2.2.1 Mc.2.2.2.1 Mc.2.2.2.2.1 Mc.2.2.2.2.2.1 Mc.2.2.2.2.2.2.1 Mc.2.2.2.2.2.2.2.1 x15))else none)
 (some (((t9,(t6.length:Int),()),()),()))
def JP:Nat->VM
 |0=>fun _ _ _ _ _ _ _ _ _ _ _ _ _ _ _ _=>none
 |n+1=>G6 (JP n)
def aE(ja:VM)(p0:ABx)(p1:ABF):Option KA:=
 (strings_Split p1 [10]).bind fun u1=>
 let x2:Int:=(u1.1.1.length:Int)
 if(0:Int)<=AQ (x2-1)/\AQ (x2-1)<(u1.1.1.length:Int)then(
 cond ((u1.1.1.getD ((AQ (x2-1)).toNat) [])==[])
  (let x4:Int:=(u1.1.1.length:Int)
  if(0:Int)<=(0:Int)/\(0:Int)<=AQ (x4-1)/\AQ (x4-1)<=(u1.1.1.length:Int)then(
  (Du (p0.1,p0.2.1,())).bind fun u5=>
  cond ((decide ((p1.length:Int)>20000)))
   (some ((([],(-1),()),()),()))
  (cond (!u5.1.1.2.1)
   (some ((([],(-1),()),()),()))
  (cond (decide ((((u1.1.1.drop 0).take (((AQ (x4-1)).toNat)-0)).length:Int)>200))
   (some ((([],(-2),()),()),()))
  (ja ((u1.1.1.drop 0).take (((AQ (x4-1)).toNat)-0)) [] ((u1.1.1.drop 0).take (((AQ (x4-1)).toNat)-0)) (((u1.1.1.drop 0).take (((AQ (x4-1)).toNat)-0)).length:Int) 0 u5.1.1.1.2.1 u5.1.1.1.2.2.2.2.2.1 u5.1.1.1.2.2.2.2.2.2.2.2.2.2.1 u5.2.1 u5.2.2.1 u5.2.2.2.1 u5.2.2.2.2.1 u5.2.2.2.2.2.1 u5.2.2.2.2.2.2.1 u5.2.2.2.2.2.2.2.1 u5.2.2.2.2.2.2.2.2.1))))else none)
 ((Du (p0.1,p0.2.1,())).bind fun u9=>
 cond ((decide ((p1.length:Int)>20000)))
  (some ((([],(-1),()),()),()))
 (cond (!u9.1.1.2.1)
  (some ((([],(-1),()),()),()))
 (cond (decide ((u1.1.1.length:Int)>200))
  (some ((([],(-2),()),()),()))
 (ja u1.1.1 [] u1.1.1 (u1.1.1.length:Int) 0 u9.1.1.1.2.1 u9.1.1.1.2.2.2.2.2.1 u9.1.1.1.2.2.2.2.2.2.2.2.2.2.1 u9.2.1 u9.2.2.1 u9.2.2.2.1 u9.2.2.2.2.1 u9.2.2.2.2.2.1 u9.2.2.2.2.2.2.1 u9.2.2.2.2.2.2.2.1 u9.2.2.2.2.2.2.2.2.1)))))else none
def QJ(p0:ABx)(p1:ABF):Option KA:=aE (JP AW) p0 p1
abbrev wU:Type:=AEg×AFK
def Mh(p1:ABF)(p2:List ABF)(AK:AAA)(AF AZ:Int):Option wU:=
 (Ag (AQ ((p1.length:Int)+1)) AK AF AZ).bind fun u2=>
 (Ag 3 u2.2.1.1 u2.2.1.2.1 u2.2.1.2.2.1).bind fun u3=>
 cond (u3.1.1==0)
  (if(0:Int)<=(0:Int)/\(0:Int)<=u2.1.1/\u2.1.1<=(p1.length:Int)then(
  some ((((p1.drop 0).take ((u2.1.1.toNat)-0)),()),((u3.2.1.1,u3.2.1.2.1,u3.2.1.2.2.1,()),())))else none)
 (cond (u3.1.1==1)
  (if(0:Int)<=(0:Int)/\(0:Int)<=u2.1.1/\u2.1.1<=(p1.length:Int)then(
  let x5:ABF:=((p1.drop 0).take ((u2.1.1.toNat)-0))
  (FX p2 u3.2.1.1 u3.2.1.2.1 u3.2.1.2.2.1).bind fun u6=>
  if x5.length+u6.1.1.length<=CN then(
  (NO (AQ (u2.1.1+1)) (p1.length:Int)).bind fun u7=>
  if(0:Int)<=u7.1.1/\u7.1.1<=(p1.length:Int)/\(p1.length:Int)<=(p1.length:Int)then(
  let x8:ABF:=((p1.drop (u7.1.1.toNat)).take (((p1.length:Int).toNat)-(u7.1.1.toNat)))
  if(x5++u6.1.1).length+x8.length<=CN then(
  some (((x5++u6.1.1)++x8,()),((u6.2.1.1,u6.2.1.2.1,u6.2.1.2.2.1,()),())))else none)else none)else none)else none)
 (if(0:Int)<=(0:Int)/\(0:Int)<=u2.1.1/\u2.1.1<=(p1.length:Int)then(
 let x9:ABF:=((p1.drop 0).take ((u2.1.1.toNat)-0))
 if(0:Int)<=u2.1.1/\u2.1.1<=(p1.length:Int)/\(p1.length:Int)<=(p1.length:Int)then(
 let x10:ABF:=((p1.drop (u2.1.1.toNat)).take (((p1.length:Int).toNat)-(u2.1.1.toNat)))
 (FX p2 u3.2.1.1 u3.2.1.2.1 u3.2.1.2.2.1).bind fun Ed=>
 if x9.length+Ed.1.1.length<=CN then(
 if(x9++Ed.1.1).length+x10.length<=CN then(
 some ((((x9++Ed.1.1)++x10),()),((Ed.2.1.1,Ed.2.1.2.1,Ed.2.1.2.2.1,()),())))else none)else none)else none)else none))
abbrev j7:Type:=AEg×AFK
def Qc(p1:AB0)(AK:AAA)(AF AZ:Int):Option j7:=
 (FX [[106,117,100,103,101],[111,117,116,32,48],[111,117,116,32,49],[],[35],[104,101,108,112],[111,117,116,32,50],[109,101,110,100,32],[116,114,105,109,32,101,49,46,49],[112,108,97,110]] AK AF AZ).bind fun u1=>
 (BW 4 u1.2.1.1 u1.2.1.2.1 u1.2.1.2.2.1).bind fun u2=>
 cond (!u2.1.1)
  ((Gq (p1.1,p1.2.1,p1.2.2.1,p1.2.2.2.1,p1.2.2.2.2.1,p1.2.2.2.2.2.1,p1.2.2.2.2.2.2.1,p1.2.2.2.2.2.2.2.1,p1.2.2.2.2.2.2.2.2.1,p1.2.2.2.2.2.2.2.2.2.1,p1.2.2.2.2.2.2.2.2.2.2.1,())).bind fun u3=>
  cond (u3.1.1)
   ((QL (p1.1,p1.2.1,p1.2.2.1,p1.2.2.2.1,p1.2.2.2.2.1,p1.2.2.2.2.2.1,p1.2.2.2.2.2.2.1,p1.2.2.2.2.2.2.2.1,p1.2.2.2.2.2.2.2.2.1,p1.2.2.2.2.2.2.2.2.2.1,p1.2.2.2.2.2.2.2.2.2.2.1,()) u2.2.1.1 u2.2.1.2.1 u2.2.1.2.2.1).bind fun u4=>
   (JE (u4.1.1.1,u4.1.1.2.1,u4.1.1.2.2.1,u4.1.1.2.2.2.1,u4.1.1.2.2.2.2.1,())).bind fun u5=>
   cond (u5.1.1.2.1)
    ((BW 12 u4.2.1.1 u4.2.1.2.1 u4.2.1.2.2.1).bind fun u6=>
    cond (u6.1.1)
     ((Mh u5.1.1.1 [[32],[48],[120],[57],[35],[97,100,100],[101,49,46,49]] u6.2.1.1 u6.2.1.2.1 u6.2.1.2.2.1).bind fun u7=>
     some ((u7.1.1,()),((u7.2.1.1,u7.2.1.2.1,u7.2.1.2.2.1,()),())))
    (some ((u5.1.1.1,()),((u6.2.1.1,u6.2.1.2.1,u6.2.1.2.2.1,()),()))))
   ((BW 12 u4.2.1.1 u4.2.1.2.1 u4.2.1.2.2.1).bind fun u8=>
   cond (u8.1.1)
    ((Mh u1.1.1 [[32],[48],[120],[57],[35],[97,100,100],[101,49,46,49]] u8.2.1.1 u8.2.1.2.1 u8.2.1.2.2.1).bind fun u9=>
    some ((u9.1.1,()),((u9.2.1.1,u9.2.1.2.1,u9.2.1.2.2.1,()),())))
   (some ((u1.1.1,()),((u8.2.1.1,u8.2.1.2.1,u8.2.1.2.2.1,()),())))))
  ((BW 12 u2.2.1.1 u2.2.1.2.1 u2.2.1.2.2.1).bind fun Dk=>
  cond (Dk.1.1)
   ((Mh u1.1.1 [[32],[48],[120],[57],[35],[97,100,100],[101,49,46,49]] Dk.2.1.1 Dk.2.1.2.1 Dk.2.1.2.2.1).bind fun Ed=>
   some ((Ed.1.1,()),((Ed.2.1.1,Ed.2.1.2.1,Ed.2.1.2.2.1,()),())))
  (some ((u1.1.1,()),((Dk.2.1.1,Dk.2.1.2.1,Dk.2.1.2.2.1,()),())))))
 ((BW 12 u2.2.1.1 u2.2.1.2.1 u2.2.1.2.2.1).bind fun Md=>
 cond (Md.1.1)
  ((Mh u1.1.1 [[32],[48],[120],[57],[35],[97,100,100],[101,49,46,49]] Md.2.1.1 Md.2.1.2.1 Md.2.1.2.2.1).bind fun Nr=>
  some ((Nr.1.1,()),((Nr.2.1.1,Nr.2.1.2.1,Nr.2.1.2.2.1,()),())))
 (some ((u1.1.1,()),((Md.2.1.1,Md.2.1.2.1,Md.2.1.2.2.1,()),()))))
abbrev D5:Type:=((AHd×List UInt8×Unit)×Unit)×ADH
abbrev It:Type:=Bool->List UInt8->Int->Int->Int->List Int->List Int->Int->Int->Int->List Int->Int->Int->Bool->List Int->AAd->List Int->AAf->ABE->ABI->AAs->AA8->Option D5
abbrev H6:Type:=List UInt8->Int->Int->List Int->Int->List Int->Option D5
abbrev Hv:Type:=List UInt8->Int->List Int->Int->List Int->Option D5
def Gn(R9:It)(R17:H6)(R21:Hv)(t7:Bool)(t8:ABF)(t9 t10 AF:Int)(b1 Qm:AAA)(SC jK cQ:Int)(b4:AAA)(ABq AU5:Int)(ALc:Bool)(b6:AAA)(b7:AAd)(b8:AAA)(b9:AAf)(PX:ABE)(Hh:ABI)(EW:AAs)(Ii:AA8):Option D5:=
 cond (decide (t10<t9))
  (cond (t7)
   ((Qc (b6,ABq,b7,b8,b9,AU5,PX,Hh,EW,Ii,ALc,()) Qm SC jK).bind fun Ed=>
   if t8.length+Ed.1.1.length<=CN then(
   if(t8++Ed.1.1).length+1<=CN then(
   (MC (b6,ABq,b7,b8,b9,AU5,PX,Hh,EW,Ii,ALc,()) Ed.1.1).bind fun Nr=>
   R9 t7 ((t8++Ed.1.1)++[10]) t9 (AQ (t10+1)) AF b1 Ed.2.1.1 Ed.2.1.2.1 Ed.2.1.2.2.1 cQ b4 Nr.1.1.1.2.1 Nr.1.1.1.2.2.2.2.2.1 Nr.1.1.1.2.2.2.2.2.2.2.2.2.2.1 Nr.2.1 Nr.2.2.1 Nr.2.2.2.1 Nr.2.2.2.2.1 Nr.2.2.2.2.2.1 Nr.2.2.2.2.2.2.1 Nr.2.2.2.2.2.2.2.1 Nr.2.2.2.2.2.2.2.2.1)else none)else none)
  ((Ag 40 Qm SC jK).bind fun K9=>
  cond (K9.1.1==0)
   (R17 t8 0 AF b1 cQ b4)
  (cond (K9.1.1==1)
   (R21 t8 AF b1 cQ b4)
  (cond (K9.1.1==2)
   (if t8.length+5<=CN then(
   some (((((),cQ,()),(t8++[106,117,100,103,101]),()),()),(b4,())))else none)
  (cond (K9.1.1==3)
   (if t8.length+5<=CN then(
   some (((((),cQ,()),(t8++[106,117,100,103,101]),()),()),(b4,())))else none)
  (some (((((),cQ,()),t8,()),()),(b4,()))))))))
 ((Ag 40 Qm SC jK).bind fun cf=>
 cond (cf.1.1==0)
  (R17 t8 0 AF b1 cQ b4)
 (cond (cf.1.1==1)
  (R21 t8 AF b1 cQ b4)
 (cond (cf.1.1==2)
  (if t8.length+5<=CN then(
  some (((((),cQ,()),(t8++[106,117,100,103,101]),()),()),(b4,())))else none)
 (cond (cf.1.1==3)
  (if t8.length+5<=CN then(
  some (((((),cQ,()),(t8++[106,117,100,103,101]),()),()),(b4,())))else none)
 (some (((((),cQ,()),t8,()),()),(b4,())))))))
def MR(R9:It)(R17:H6)(R21:Hv)(t8:ABF)(t12 AF:Int)(b1:AAA)(SC:Int)(b3:AAA):Option D5:=
 cond (decide (t12<200))
  (if t8.length+1<=CN then(
  R17 (t8++[10]) (AQ (t12+1)) AF b1 SC b3)else none)
 (some (((((),SC,()),t8,()),()),(b3,())))
def MW(R9:It)(R17:H6)(R21:Hv)(t8:ABF)(AF:Int)(b1:AAA)(SC:Int)(b3:AAA):Option D5:=
 cond ((decide ((t8.length:Int)<=20000)))
  (if t8.length+123<=CN then(
  R21 (t8++[35,32,97,32,108,105,110,101,32,116,104,97,116,32,105,115,32,108,111,110,103,101,114,32,116,104,97,110,32,109,111,115,116,32,111,102,32,116,104,101,32,111,116,104,101,114,115,44,32,116,111,32,99,111,109,101,32,116,111,32,116,104,101,32,108,105,109,105,116,32,111,102,32,97,32,115,101,115,115,105,111,110,32,115,111,111,110,32,101,110,111,117,103,104,44,32,116,104,97,116,32,105,115,32,97,108,108,32,116,104,97,116,32,105,116,32,105,115,32,102,111,114,10]) AF b1 SC b3)else none)
 (some (((((),SC,()),t8,()),()),(b3,())))
mutual
def EN:Nat->It
 |0=>fun _ _ _ _ _ _ _ _ _ _ _ _ _ _ _ _ _ _ _ _ _ _=>none
 |n+1=>Gn (EN n) (Ek n) (El n)
def Ek:Nat->H6
 |0=>fun _ _ _ _ _ _=>none
 |n+1=>MR (EN n) (Ek n) (El n)
def El:Nat->Hv
 |0=>fun _ _ _ _ _=>none
 |n+1=>MW (EN n) (Ek n) (El n)
end
def Tt(R9:It)(R17:H6)(R21:Hv)(p0:AAA):Option D5:=
 (eg p0).bind fun u1=>
 (MN u1.2.1.1 u1.2.1.2.1 u1.2.1.2.2.1).bind fun u2=>
 (BW 15 u2.2.1.1 u2.2.1.2.1 u2.2.1.2.2.1).bind fun u3=>
 cond (u3.1.1)
  ((ay u3.2.1.1 u3.2.1.2.1 u3.2.1.2.2.1).bind fun u4=>
  (Ey (u4.2.2.1,u4.1.1.2.1,())).bind fun u5=>
  (Sv p0 40 90).bind fun u6=>
  (Ag (AQ (u6.1.1+1)) u4.2.1.1 u4.2.1.2.1 u4.2.1.2.2.1).bind fun u7=>
  R9 u5.1.1.2.1 [] u7.1.1 0 0 [] u7.2.1.1 u7.2.1.2.1 u7.2.1.2.2.1 u4.1.1.2.1 u4.2.2.1 u5.1.1.1.2.1 u5.1.1.1.2.2.2.2.2.1 u5.1.1.1.2.2.2.2.2.2.2.2.2.2.1 u5.2.1 u5.2.2.1 u5.2.2.2.1 u5.2.2.2.2.1 u5.2.2.2.2.2.1 u5.2.2.2.2.2.2.1 u5.2.2.2.2.2.2.2.1 u5.2.2.2.2.2.2.2.2.1)
 ((Ey (u2.2.2.1,u2.1.1.2.1,())).bind fun u8=>
 (Sv p0 40 90).bind fun u9=>
 (Ag (AQ (u9.1.1+1)) u3.2.1.1 u3.2.1.2.1 u3.2.1.2.2.1).bind fun Dk=>
 R9 u8.1.1.2.1 [] Dk.1.1 0 0 [] Dk.2.1.1 Dk.2.1.2.1 Dk.2.1.2.2.1 u2.1.1.2.1 u2.2.2.1 u8.1.1.1.2.1 u8.1.1.1.2.2.2.2.2.1 u8.1.1.1.2.2.2.2.2.2.2.2.2.2.1 u8.2.1 u8.2.2.1 u8.2.2.2.1 u8.2.2.2.2.1 u8.2.2.2.2.2.1 u8.2.2.2.2.2.2.1 u8.2.2.2.2.2.2.2.1 u8.2.2.2.2.2.2.2.2.1)
def QF(p0:AAA):Option D5:=Tt (EN AW) (Ek AW) (El AW) p0
abbrev L7:Type:=ABz×Unit
abbrev SG:Type:=List UInt8->List UInt8->Int->Bool->List UInt8->Int->Int->Int->Int->Int->Bool->List Int->AAd->List Int->AAf->ABE->ABI->AAs->AA8->Option L7
def HL(gQ:SG)(t4 t5:ABF)(t6:Int)(t10:Bool)(t11:ABF)(t12 t13 t14 AF AO:Int)(AH:Bool)(b1:AAA)(b2:AAd)(b3:AAA)(b4:AAf)(b5:ABE)(b6:ABI)(b7:AAs)(b8:AA8):Option L7:=
 cond ((decide (t14<=(t4.length:Int))))
  (cond ((decide (t14<(t4.length:Int))))
   (if(0:Int)<=t14/\t14<(t4.length:Int)then(
   cond (((t4.getD (t14.toNat) 0).toNat:Int) !=10)
    (gQ t4 t5 t6 t10 t11 t12 t13 (AQ (t14+1)) AF AO AH b1 b2 b3 b4 b5 b6 b7 b8)
   (cond ((t14==(t4.length:Int)))
    (cond ((t12==(t4.length:Int)))
     (gQ t4 t5 t6 t10 t11 t12 t13 (AQ (t14+1)) AF AO AH b1 b2 b3 b4 b5 b6 b7 b8)
    (if(0:Int)<=t12/\t12<=t14/\t14<=(t4.length:Int)then(
    (Dn (b1,AF,b2,b3,b4,AO,b5,b6,b7,b8,AH,()) ((t4.drop (t12.toNat)).take ((t14.toNat)-(t12.toNat)))).bind fun K9=>
    let x16:AA8:=K9.2.2.2.2.2.2.2.2.1
    cond (!(K9.1.1.2.1==[]))
     (if t11.length+K9.1.1.2.1.length<=CN then(
     if(t11++K9.1.1.2.1).length+1<=CN then(
     gQ t4 t5 t6 t10 ((t11++K9.1.1.2.1)++[10]) (AQ (t14+1)) (AQ (t13+1)) (AQ (t14+1)) K9.1.1.1.2.1 K9.1.1.1.2.2.2.2.2.1 K9.1.1.1.2.2.2.2.2.2.2.2.2.2.1 K9.2.1 K9.2.2.1 K9.2.2.2.1 K9.2.2.2.2.1 K9.2.2.2.2.2.1 K9.2.2.2.2.2.2.1 K9.2.2.2.2.2.2.2.1 x16)else none)else none)
    (gQ t4 t5 t6 t10 t11 (AQ (t14+1)) (AQ (t13+1)) (AQ (t14+1)) K9.1.1.1.2.1 K9.1.1.1.2.2.2.2.2.1 K9.1.1.1.2.2.2.2.2.2.2.2.2.2.1 K9.2.1 K9.2.2.1 K9.2.2.2.1 K9.2.2.2.2.1 K9.2.2.2.2.2.1 K9.2.2.2.2.2.2.1 K9.2.2.2.2.2.2.2.1 x16))else none))
   (if(0:Int)<=t12/\t12<=t14/\t14<=(t4.length:Int)then(
   (Dn (b1,AF,b2,b3,b4,AO,b5,b6,b7,b8,AH,()) ((t4.drop (t12.toNat)).take ((t14.toNat)-(t12.toNat)))).bind fun eE=>
   let x23:AA8:=eE.2.2.2.2.2.2.2.2.1
   cond (!(eE.1.1.2.1==[]))
    (if t11.length+eE.1.1.2.1.length<=CN then(
    if(t11++eE.1.1.2.1).length+1<=CN then(
    gQ t4 t5 t6 t10 ((t11++eE.1.1.2.1)++[10]) (AQ (t14+1)) (AQ (t13+1)) (AQ (t14+1)) eE.1.1.1.2.1 eE.1.1.1.2.2.2.2.2.1 eE.1.1.1.2.2.2.2.2.2.2.2.2.2.1 eE.2.1 eE.2.2.1 eE.2.2.2.1 eE.2.2.2.2.1 eE.2.2.2.2.2.1 eE.2.2.2.2.2.2.1 eE.2.2.2.2.2.2.2.1 x23)else none)else none)
   (gQ t4 t5 t6 t10 t11 (AQ (t14+1)) (AQ (t13+1)) (AQ (t14+1)) eE.1.1.1.2.1 eE.1.1.1.2.2.2.2.2.1 eE.1.1.1.2.2.2.2.2.2.2.2.2.2.1 eE.2.1 eE.2.2.1 eE.2.2.2.1 eE.2.2.2.2.1 eE.2.2.2.2.2.1 eE.2.2.2.2.2.2.1 eE.2.2.2.2.2.2.2.1 x23))else none)))else none)
  (cond ((t14==(t4.length:Int)))
   (cond ((t12==(t4.length:Int)))
    (gQ t4 t5 t6 t10 t11 t12 t13 (AQ (t14+1)) AF AO AH b1 b2 b3 b4 b5 b6 b7 b8)
   (if(0:Int)<=t12/\t12<=t14/\t14<=(t4.length:Int)then(
   (Dn (b1,AF,b2,b3,b4,AO,b5,b6,b7,b8,AH,()) ((t4.drop (t12.toNat)).take ((t14.toNat)-(t12.toNat)))).bind fun cP=>
   let x32:AA8:=cP.2.2.2.2.2.2.2.2.1
   cond (!(cP.1.1.2.1==[]))
    (if t11.length+cP.1.1.2.1.length<=CN then(
    if(t11++cP.1.1.2.1).length+1<=CN then(
    gQ t4 t5 t6 t10 ((t11++cP.1.1.2.1)++[10]) (AQ (t14+1)) (AQ (t13+1)) (AQ (t14+1)) cP.1.1.1.2.1 cP.1.1.1.2.2.2.2.2.1 cP.1.1.1.2.2.2.2.2.2.2.2.2.2.1 cP.2.1 cP.2.2.1 cP.2.2.2.1 cP.2.2.2.2.1 cP.2.2.2.2.2.1 cP.2.2.2.2.2.2.1 cP.2.2.2.2.2.2.2.1 x32)else none)else none)
   (gQ t4 t5 t6 t10 t11 (AQ (t14+1)) (AQ (t13+1)) (AQ (t14+1)) cP.1.1.1.2.1 cP.1.1.1.2.2.2.2.2.1 cP.1.1.1.2.2.2.2.2.2.2.2.2.2.1 cP.2.1 cP.2.2.1 cP.2.2.2.1 cP.2.2.2.2.1 cP.2.2.2.2.2.1 cP.2.2.2.2.2.2.1 cP.2.2.2.2.2.2.2.1 x32))else none))
  (if(0:Int)<=t12/\t12<=t14/\t14<=(t4.length:Int)then(
  (Dn (b1,AF,b2,b3,b4,AO,b5,b6,b7,b8,AH,()) ((t4.drop (t12.toNat)).take ((t14.toNat)-(t12.toNat)))).bind fun fT=>
  let x39:AA8:=fT.2.2.2.2.2.2.2.2.1
  cond (!(fT.1.1.2.1==[]))
   (if t11.length+fT.1.1.2.1.length<=CN then(
   if(t11++fT.1.1.2.1).length+1<=CN then(
   gQ t4 t5 t6 t10 ((t11++fT.1.1.2.1)++[10]) (AQ (t14+1)) (AQ (t13+1)) (AQ (t14+1)) fT.1.1.1.2.1 fT.1.1.1.2.2.2.2.2.1 fT.1.1.1.2.2.2.2.2.2.2.2.2.2.1 fT.2.1 fT.2.2.1 fT.2.2.2.1 fT.2.2.2.2.1 fT.2.2.2.2.2.1 fT.2.2.2.2.2.2.1 fT.2.2.2.2.2.2.2.1 x39)else none)else none)
  (gQ t4 t5 t6 t10 t11 (AQ (t14+1)) (AQ (t13+1)) (AQ (t14+1)) fT.1.1.1.2.1 fT.1.1.1.2.2.2.2.2.1 fT.1.1.1.2.2.2.2.2.2.2.2.2.2.1 fT.2.1 fT.2.2.1 fT.2.2.2.1 fT.2.2.2.2.1 fT.2.2.2.2.2.1 fT.2.2.2.2.2.2.1 fT.2.2.2.2.2.2.2.1 x39))else none)))
 (cond (t10)
  (cond (t11==t5)
   (some ((t13==t6,()),()))
  (some ((false,()),())))
 (some ((false,()),())))
def F8:Nat->SG
 |0=>fun _ _ _ _ _ _ _ _ _ _ _ _ _ _ _ _ _ _ _=>none
 |n+1=>HL (F8 n)
def Wc(gQ:SG)(p0:AAA):Option L7:=
 (tP p0).bind fun u1=>
 cond (u1.1.1)
  (some ((true,()),()))
 ((QF p0).bind fun u2=>
 (QJ (u2.2.1,u2.1.1.1.2.1,()) u2.1.1.2.1).bind fun u3=>
 (Ub (u2.2.1,u2.1.1.1.2.1,()) u2.1.1.2.1).bind fun u4=>
 cond ((u3.1.1.2.1 !=u4.1.1.2.1))
  (some ((false,()),()))
 (cond ((!(u3.1.1.1==u4.1.1.1)))
  (some ((false,()),()))
 (cond ((decide (u3.1.1.2.1<0)))
  (some ((u3.1.1.1==[],()),()))
 ((Du (u2.2.1,u2.1.1.1.2.1,())).bind fun u8=>
 gQ u2.1.1.2.1 u3.1.1.1 u3.1.1.2.1 u8.1.1.2.1 [] 0 0 0 u8.1.1.1.2.1 u8.1.1.1.2.2.2.2.2.1 u8.1.1.1.2.2.2.2.2.2.2.2.2.2.1 u8.2.1 u8.2.2.1 u8.2.2.2.1 u8.2.2.2.2.1 u8.2.2.2.2.2.1 u8.2.2.2.2.2.2.1 u8.2.2.2.2.2.2.2.1 u8.2.2.2.2.2.2.2.2.1))))
def O7(p0:AAA):Option L7:=Wc (F8 AW) p0
end
end Go.M
