/- What each function computes, printed by a program out of the translation; what is printed is checked in the equations. -/
import Derived.Test.YtdkfcaidapdecaaGreatG0
set_option linter.unusedVariables false
set_option linter.unusedSimpArgs false
set_option linter.unusedSectionVars false
namespace Go.M
noncomputable section
abbrev oh:Type:=AB_×ACf
def PB(p0:ABV)(p1:ABe):Option oh:=
 (SY (p0.1,p0.2.1,p0.2.2.1,p0.2.2.2.1,p0.2.2.2.2.1,p0.2.2.2.2.2.1,p0.2.2.2.2.2.2.1,p0.2.2.2.2.2.2.2.1,p0.2.2.2.2.2.2.2.2.1,p0.2.2.2.2.2.2.2.2.2.1,p0.2.2.2.2.2.2.2.2.2.2.1,())).bind fun u1=>
 cond (!u1.1.1)
  (some (((((),0,(),(),(),0,(),(),(),(),false,()),1,()),()),([],[],[],[],[],[],[],[],())))
 ((VN (p1.1,p1.2.1,p1.2.2.1,p1.2.2.2.1,p1.2.2.2.2.1,())).bind fun u2=>
 cond (!u2.1.1)
  (some (((((),0,(),(),(),0,(),(),(),(),false,()),1,()),()),([],[],[],[],[],[],[],[],())))
 ((Oa (p0.1,p0.2.1,p0.2.2.1,p0.2.2.2.1,p0.2.2.2.2.1,p0.2.2.2.2.2.1,p0.2.2.2.2.2.2.1,p0.2.2.2.2.2.2.2.1,p0.2.2.2.2.2.2.2.2.1,p0.2.2.2.2.2.2.2.2.2.1,p0.2.2.2.2.2.2.2.2.2.2.1,())).bind fun u3=>
 (Ue (p1.1,p1.2.1,p1.2.2.1,p1.2.2.2.1,p1.2.2.2.2.1,()) u3.1.1.2.1 u3.1.1.2.2.2.2.2.1 u3.1.1.2.2.2.2.2.2.2.2.2.2.1 u3.2.1 u3.2.2.1 u3.2.2.2.1 u3.2.2.2.2.1 u3.2.2.2.2.2.1 u3.2.2.2.2.2.2.1 u3.2.2.2.2.2.2.2.1 u3.2.2.2.2.2.2.2.2.1).bind fun u4=>
 cond (u4.1.1 !=0)
  ((Oa (p0.1,p0.2.1,p0.2.2.1,p0.2.2.2.1,p0.2.2.2.2.1,p0.2.2.2.2.2.1,p0.2.2.2.2.2.2.1,p0.2.2.2.2.2.2.2.1,p0.2.2.2.2.2.2.2.2.1,p0.2.2.2.2.2.2.2.2.2.1,p0.2.2.2.2.2.2.2.2.2.2.1,())).bind fun D5=>
  some (((((),D5.1.1.2.1,(),(),(),D5.1.1.2.2.2.2.2.1,(),(),(),(),D5.1.1.2.2.2.2.2.2.2.2.2.2.1,()),u4.1.1,()),()),(D5.2.1,D5.2.2.1,D5.2.2.2.1,D5.2.2.2.2.1,D5.2.2.2.2.2.1,D5.2.2.2.2.2.2.1,D5.2.2.2.2.2.2.2.1,D5.2.2.2.2.2.2.2.2.1,())))
 (some (((((),u4.2.1.2.1,(),(),(),u4.2.1.2.2.2.2.2.1,(),(),(),(),u4.2.1.2.2.2.2.2.2.2.2.2.2.1,()),0,()),()),(u4.2.2.1,u4.2.2.2.1,u4.2.2.2.2.2.2.2.2.2.2.1,u4.2.2.2.2.2.2.2.2.2.2.2.1,u4.2.2.2.2.2.2.2.2.2.2.2.2.1,u4.2.2.2.2.2.2.2.2.2.2.2.2.2.1,u4.2.2.2.2.2.2.2.2.1,u4.2.2.2.2.2.2.2.2.2.2.2.2.2.2.1,())))))
abbrev mO:Type:=AEo×ACp
def UF(p1:ABe)(AM:AAF)(AE Ac:Int):Option mO:=
 (AJ 20 AM AE Ac).bind fun u1=>
 cond (u1.1.1==0)
  ((AJ 18 u1.2.1.1 u1.2.1.2.1 u1.2.1.2.2.1).bind fun u2=>
  some (((u2.1.1,p1.2.1,p1.2.2.1,p1.2.2.2.1,p1.2.2.2.2.1,()),()),((u2.2.1.1,u2.2.1.2.1,u2.2.1.2.2.1,()),())))
 (cond (u1.1.1==1)
  ((CB [(-1),8,9223372036854775807,0,1048576] u1.2.1.1 u1.2.1.2.1 u1.2.1.2.2.1).bind fun u3=>
  some (((p1.1,u3.1.1,p1.2.2.1,p1.2.2.2.1,p1.2.2.2.2.1,()),()),((u3.2.1.1,u3.2.1.2.1,u3.2.1.2.2.1,()),())))
 (cond (u1.1.1==2)
  ((CB [(-1),0,61,1048576] u1.2.1.1 u1.2.1.2.1 u1.2.1.2.2.1).bind fun u4=>
  some (((p1.1,p1.2.1,u4.1.1,p1.2.2.2.1,p1.2.2.2.2.1,()),()),((u4.2.1.1,u4.2.1.2.1,u4.2.1.2.2.1,()),())))
 (cond (u1.1.1==3)
  (some (((p1.1,p1.2.1,p1.2.2.1,AU (p1.2.2.2.1+1),p1.2.2.2.2.1,()),()),((u1.2.1.1,u1.2.1.2.1,u1.2.1.2.2.1,()),())))
 (cond (u1.1.1==4)
  ((AJ 2 u1.2.1.1 u1.2.1.2.1 u1.2.1.2.2.1).bind fun u5=>
  if(0:Int)≤(AU (40+u5.1.1))∧(AU (40+u5.1.1))≤(AU (40+u5.1.1))∧(AU (40+u5.1.1))≤(DF:Int)then(
  some (((p1.1,p1.2.1,p1.2.2.1,p1.2.2.2.1,((List.replicate ((AU (40+u5.1.1)).toNat) 0).map fun n:Int=>UInt8.ofNat n.toNat),()),()),((u5.2.1.1,u5.2.1.2.1,u5.2.1.2.2.1,()),())))else none)
 (some (((p1.1,p1.2.1,p1.2.2.1,p1.2.2.2.1,p1.2.2.2.2.1,()),()),((u1.2.1.1,u1.2.1.2.1,u1.2.1.2.2.1,()),())))))))
abbrev Wy:Type:=((ADi×ABe×Unit)×Unit)×ACf
def PZ(p0:AAF):Option Wy:=
 (bB p0).bind fun u1=>
 (IP p0 u1.2.1.1 u1.2.1.2.1 u1.2.1.2.2.1).bind fun u2=>
 let x3:AAa:=u2.2.2.2.2.2.2.2.2.2.1
 (PO (u2.2.2.1,u2.1.1.2.1,u2.2.2.2.1,u2.2.2.2.2.1,u2.2.2.2.2.2.1,u2.1.1.2.2.2.2.2.1,u2.2.2.2.2.2.2.1,u2.2.2.2.2.2.2.2.1,u2.2.2.2.2.2.2.2.2.1,x3,u2.1.1.2.2.2.2.2.2.2.2.2.2.1,())).bind fun u4=>
 cond (!u4.1.1)
  (some (((((),u2.1.1.2.1,(),(),(),u2.1.1.2.2.2.2.2.1,(),(),(),(),u2.1.1.2.2.2.2.2.2.2.2.2.2.1,()),(8,0,0,0,[],()),()),()),(u2.2.2.1,u2.2.2.2.1,u2.2.2.2.2.1,u2.2.2.2.2.2.1,u2.2.2.2.2.2.2.1,u2.2.2.2.2.2.2.2.1,u2.2.2.2.2.2.2.2.2.1,x3,())))
 ((Lj (u2.2.2.1,u2.1.1.2.1,u2.2.2.2.1,u2.2.2.2.2.1,u2.2.2.2.2.2.1,u2.1.1.2.2.2.2.2.1,u2.2.2.2.2.2.2.1,u2.2.2.2.2.2.2.2.1,u2.2.2.2.2.2.2.2.2.1,x3,u2.1.1.2.2.2.2.2.2.2.2.2.2.1,()) u2.2.1.1 u2.2.1.2.1 u2.2.1.2.2.1).bind fun u5=>
 (UF (u5.1.1.1,u5.1.1.2.1,u5.1.1.2.2.1,u5.1.1.2.2.2.1,u5.1.1.2.2.2.2.1,()) u5.2.1.1 u5.2.1.2.1 u5.2.1.2.2.1).bind fun u6=>
 some (((((),u2.1.1.2.1,(),(),(),u2.1.1.2.2.2.2.2.1,(),(),(),(),u2.1.1.2.2.2.2.2.2.2.2.2.2.1,()),(u6.1.1.1,u6.1.1.2.1,u6.1.1.2.2.1,u6.1.1.2.2.2.1,u6.1.1.2.2.2.2.1,()),()),()),(u2.2.2.1,u2.2.2.2.1,u2.2.2.2.2.1,u2.2.2.2.2.2.1,u2.2.2.2.2.2.2.1,u2.2.2.2.2.2.2.2.1,u2.2.2.2.2.2.2.2.2.1,x3,())))
abbrev Na:Type:=ABU×Unit
abbrev QK:Type:=Int→Int→Int→Bool→List Int→AAT→List Int→AAP→AAj→AAo→AAs→AAa→Int→Int→Bool→List Int→AAT→List Int→AAP→AAj→AAo→AAs→AAa→Option Na
abbrev QU:Type:=Int→Int→Int→Bool→List Int→AAT→List Int→AAP→AAj→AAo→AAs→AAa→Int→Int→Bool→List Int→AAT→List Int→AAP→AAj→AAo→AAs→AAa→Option Na
def Jm(R13:QK)(R18:QU)(t9 AE Aa:Int)(AN:Bool)(b1:AAF)(b2:AAT)(b3:AAF)(b4:AAP)(b5:AAj)(b6:AAo)(b7:AAs)(b8:AAa)(Dp FD:Int)(Ch:Bool)(MV:AAF)(Fl:AAT)(DX:AAF)(F7:AAP)(GV:AAj)(Dv:AAo)(D_:AAs)(E8:AAa):Option Na:=
 cond (decide (t9<2))
  (if(0:Int)≤t9∧t9<(D_.length:Int)then(
  if(0:Int)≤t9∧t9<(D_.length:Int)then(
  if(0:Int)≤t9∧t9<(b7.length:Int)then(
  if(0:Int)≤t9∧t9<(b7.length:Int)then(
  cond ((decide ((AU ((AU (4294967296*((D_.getD (t9.toNat) (0,0,[],())).1)))+((D_.getD (t9.toNat) (0,0,[],())).2.1)))<(AU ((AU (4294967296*((b7.getD (t9.toNat) (0,0,[],())).1)))+((b7.getD (t9.toNat) (0,0,[],())).2.1))))))
   (some ((false,()),()))
  (if(0:Int)≤t9∧t9<(D_.length:Int)then(
  if(0:Int)≤t9∧t9<(b7.length:Int)then(
  cond (decide ((((D_.getD (t9.toNat) (0,0,[],())).2.2.1).length:Int)<(((b7.getD (t9.toNat) (0,0,[],())).2.2.1).length:Int)))
   (some ((false,()),()))
  (R13 (AU (t9+1)) AE Aa AN b1 b2 b3 b4 b5 b6 b7 b8 Dp FD Ch MV Fl DX F7 GV Dv D_ E8))else none)else none))else none)else none)else none)else none)
 (R18 0 AE Aa AN b1 b2 b3 b4 b5 b6 b7 b8 Dp FD Ch MV Fl DX F7 GV Dv D_ E8)
def Jw(R13:QK)(R18:QU)(t10 AE Aa:Int)(AN:Bool)(b1:AAF)(b2:AAT)(b3:AAF)(b4:AAP)(b5:AAj)(b6:AAo)(b7:AAs)(b8:AAa)(Dp FD:Int)(Ch:Bool)(MV:AAF)(Fl:AAT)(DX:AAF)(F7:AAP)(GV:AAj)(Dv:AAo)(D_:AAs)(E8:AAa):Option Na:=
 cond ((decide (t10<(b4.length:Int))))
  (if(0:Int)≤t10∧t10<(b4.length:Int)then(
  cond (((b4.getD (t10.toNat) ([],false,0,())).2.1))
   (if(0:Int)≤t10∧t10<(F7.length:Int)then(
   cond (!((F7.getD (t10.toNat) ([],false,0,())).2.1))
    (some ((false,()),()))
   (if(0:Int)≤t10∧t10<(F7.length:Int)then(
   if(0:Int)≤t10∧t10<(b4.length:Int)then(
   cond (((F7.getD (t10.toNat) ([],false,0,())).2.2.1) !=((b4.getD (t10.toNat) ([],false,0,())).2.2.1))
    (some ((false,()),()))
   (R18 (AU (t10+1)) AE Aa AN b1 b2 b3 b4 b5 b6 b7 b8 Dp FD Ch MV Fl DX F7 GV Dv D_ E8))else none)else none))else none)
  (R18 (AU (t10+1)) AE Aa AN b1 b2 b3 b4 b5 b6 b7 b8 Dp FD Ch MV Fl DX F7 GV Dv D_ E8))else none)
 ((SY (MV,Dp,Fl,DX,F7,FD,GV,Dv,D_,E8,Ch,())).bind fun aT=>
 cond (aT.1.1)
  (cond (Ch)
   (some (((decide ((E8.length:Int)≥(b8.length:Int))),()),()))
  (cond (!AN)
   (some (((decide ((E8.length:Int)≥(b8.length:Int))),()),()))
  (some ((false,()),()))))
 (some ((false,()),())))
mutual
def Fy:Nat→QK
 |0=>fun _ _ _ _ _ _ _ _ _ _ _ _ _ _ _ _ _ _ _ _ _ _ _=>none
 |n+1=>Jm (Fy n) (Fq n)
def Fq:Nat→QU
 |0=>fun _ _ _ _ _ _ _ _ _ _ _ _ _ _ _ _ _ _ _ _ _ _ _=>none
 |n+1=>Jw (Fy n) (Fq n)
end
def YL(R13:QK)(R18:QU)(p0:AAF):Option Na:=
 (nT p0).bind fun u1=>
 cond (u1.1.1)
  (some ((true,()),()))
 ((PZ p0).bind fun u2=>
 (PB (u2.2.1,u2.1.1.1.2.1,u2.2.2.1,u2.2.2.2.1,u2.2.2.2.2.1,u2.1.1.1.2.2.2.2.2.1,u2.2.2.2.2.2.1,u2.2.2.2.2.2.2.1,u2.2.2.2.2.2.2.2.1,u2.2.2.2.2.2.2.2.2.1,u2.1.1.1.2.2.2.2.2.2.2.2.2.2.1,()) (u2.1.1.2.1.1,u2.1.1.2.1.2.1,u2.1.1.2.1.2.2.1,u2.1.1.2.1.2.2.2.1,u2.1.1.2.1.2.2.2.2.1,())).bind fun u3=>
 (SR (u2.2.1,u2.1.1.1.2.1,u2.2.2.1,u2.2.2.2.1,u2.2.2.2.2.1,u2.1.1.1.2.2.2.2.2.1,u2.2.2.2.2.2.1,u2.2.2.2.2.2.2.1,u2.2.2.2.2.2.2.2.1,u2.2.2.2.2.2.2.2.2.1,u2.1.1.1.2.2.2.2.2.2.2.2.2.2.1,()) (u2.1.1.2.1.1,u2.1.1.2.1.2.1,u2.1.1.2.1.2.2.1,u2.1.1.2.1.2.2.2.1,u2.1.1.2.1.2.2.2.2.1,())).bind fun u4=>
 cond ((u3.1.1.2.1 !=u4.1.1.2.1))
  (some ((false,()),()))
 (cond (u3.1.1.2.1==1)
  (cond ((u3.2.2.1.length:Int)==0)
   ((PO (u2.2.1,u2.1.1.1.2.1,u2.2.2.1,u2.2.2.2.1,u2.2.2.2.2.1,u2.1.1.1.2.2.2.2.2.1,u2.2.2.2.2.2.1,u2.2.2.2.2.2.2.1,u2.2.2.2.2.2.2.2.1,u2.2.2.2.2.2.2.2.2.1,u2.1.1.1.2.2.2.2.2.2.2.2.2.2.1,())).bind fun u7=>
   cond (!u7.1.1)
    (some ((true,()),()))
   ((VN (u2.1.1.2.1.1,u2.1.1.2.1.2.1,u2.1.1.2.1.2.2.1,u2.1.1.2.1.2.2.2.1,u2.1.1.2.1.2.2.2.2.1,())).bind fun u8=>
   some ((!u8.1.1,()),())))
  (some ((false,()),())))
 (cond (u3.1.1.2.1 !=0)
  (cond ((u3.2.2.2.2.2.2.2.2.1.length:Int)==(u2.2.2.2.2.2.2.2.2.1.length:Int))
   (cond ((u3.2.2.2.1.length:Int)==(u2.2.2.2.1.length:Int))
    (cond ((u3.2.2.2.2.2.1.length:Int)==(u2.2.2.2.2.2.1.length:Int))
     (if(0:Int)≤(0:Int)∧(0:Int)<(u3.2.2.2.2.2.2.2.1.length:Int)then(
     if(0:Int)≤(0:Int)∧(0:Int)<(u2.2.2.2.2.2.2.2.1.length:Int)then(
     some (((((u3.2.2.2.2.2.2.2.1.getD 0 (0,0,[],())).2.2.1).length:Int)==(((u2.2.2.2.2.2.2.2.1.getD 0 (0,0,[],())).2.2.1).length:Int),()),()))else none)else none)
    (some ((false,()),())))
   (some ((false,()),())))
  (some ((false,()),())))
 (R13 0 u2.1.1.1.2.1 u2.1.1.1.2.2.2.2.2.1 u2.1.1.1.2.2.2.2.2.2.2.2.2.2.1 u2.2.1 u2.2.2.1 u2.2.2.2.1 u2.2.2.2.2.1 u2.2.2.2.2.2.1 u2.2.2.2.2.2.2.1 u2.2.2.2.2.2.2.2.1 u2.2.2.2.2.2.2.2.2.1 u3.1.1.1.2.1 u3.1.1.1.2.2.2.2.2.1 u3.1.1.1.2.2.2.2.2.2.2.2.2.2.1 u3.2.1 u3.2.2.1 u3.2.2.2.1 u3.2.2.2.2.1 u3.2.2.2.2.2.1 u3.2.2.2.2.2.2.1 u3.2.2.2.2.2.2.2.1 u3.2.2.2.2.2.2.2.2.1))))
def Uj(p0:AAF):Option Na:=YL (Fy Ab) (Fq Ab) p0
end
end Go.M
