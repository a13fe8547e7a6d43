/- What each function computes, printed by a program out of the translation; what is printed is checked in the equations. -/
import Derived.Test.YtdkfcaidapdecaaGreatG0
set_option linter.unusedVariables false
set_option linter.unusedSimpArgs false
set_option linter.unusedSectionVars false
namespace Go.M
noncomputable section
abbrev pU:Type:=ACa×ACb
def Pz(p0:ABi)(p1:ACS):Option pU:=
 (Su (p0.1,p0.2.1,p0.2.2.1,p0.2.2.2.1,p0.2.2.2.2.1,p0.2.2.2.2.2.1,p0.2.2.2.2.2.2.1,p0.2.2.2.2.2.2.2.1,p0.2.2.2.2.2.2.2.2.1,p0.2.2.2.2.2.2.2.2.2.1,p0.2.2.2.2.2.2.2.2.2.2.1,())).bind fun u1=>
 cond (!u1.1.1)
  (some (((((),0,(),(),(),0,(),(),(),(),false,()),1,()),()),([],[],[],[],[],[],[],[],())))
 ((Yu (p1.1,p1.2.1,p1.2.2.1,p1.2.2.2.1,p1.2.2.2.2.1,())).bind fun u2=>
 cond (!u2.1.1)
  (some (((((),0,(),(),(),0,(),(),(),(),false,()),1,()),()),([],[],[],[],[],[],[],[],())))
 ((MC (p0.1,p0.2.1,p0.2.2.1,p0.2.2.2.1,p0.2.2.2.2.1,p0.2.2.2.2.2.1,p0.2.2.2.2.2.2.1,p0.2.2.2.2.2.2.2.1,p0.2.2.2.2.2.2.2.2.1,p0.2.2.2.2.2.2.2.2.2.1,p0.2.2.2.2.2.2.2.2.2.2.1,())).bind fun u3=>
 (Ut (p1.1,p1.2.1,p1.2.2.1,p1.2.2.2.1,p1.2.2.2.2.1,()) u3.1.1.2.1 u3.1.1.2.2.2.2.2.1 u3.1.1.2.2.2.2.2.2.2.2.2.2.1 u3.2.1 u3.2.2.1 u3.2.2.2.1 u3.2.2.2.2.1 u3.2.2.2.2.2.1 u3.2.2.2.2.2.2.1 u3.2.2.2.2.2.2.2.1 u3.2.2.2.2.2.2.2.2.1).bind fun u4=>
 cond (u4.1.1 !=0)
  ((MC (p0.1,p0.2.1,p0.2.2.1,p0.2.2.2.1,p0.2.2.2.2.1,p0.2.2.2.2.2.1,p0.2.2.2.2.2.2.1,p0.2.2.2.2.2.2.2.1,p0.2.2.2.2.2.2.2.2.1,p0.2.2.2.2.2.2.2.2.2.1,p0.2.2.2.2.2.2.2.2.2.2.1,())).bind fun Dd=>
  some (((((),Dd.1.1.2.1,(),(),(),Dd.1.1.2.2.2.2.2.1,(),(),(),(),Dd.1.1.2.2.2.2.2.2.2.2.2.2.1,()),u4.1.1,()),()),(Dd.2.1,Dd.2.2.1,Dd.2.2.2.1,Dd.2.2.2.2.1,Dd.2.2.2.2.2.1,Dd.2.2.2.2.2.2.1,Dd.2.2.2.2.2.2.2.1,Dd.2.2.2.2.2.2.2.2.1,())))
 (some (((((),u4.2.1.2.1,(),(),(),u4.2.1.2.2.2.2.2.1,(),(),(),(),u4.2.1.2.2.2.2.2.2.2.2.2.2.1,()),0,()),()),(u4.2.2.1,u4.2.2.2.1,u4.2.2.2.2.2.2.2.2.2.2.1,u4.2.2.2.2.2.2.2.2.2.2.2.1,u4.2.2.2.2.2.2.2.2.2.2.2.2.1,u4.2.2.2.2.2.2.2.2.2.2.2.2.2.1,u4.2.2.2.2.2.2.2.2.1,u4.2.2.2.2.2.2.2.2.2.2.2.2.2.2.1,())))))
abbrev ET:Type:=((AGa×Unit×AGa×Unit)×Unit)×(ACW×ACV×Unit)
abbrev H4:Type:=Int→Int→List Int→Int→Int→Int→Int→Bool→List Int→AAh→List Int→AAg→AAq→AA2→AA3→AAo→Int→Int→Bool→List Int→AAh→List Int→AAg→AAq→AA2→AA3→AAo→Int→List Int→List Int→Option ET
abbrev H_:Type:=Int→List Int→List Int→Int→Int→Int→Int→Bool→List Int→AAh→List Int→AAg→AAq→AA2→AA3→AAo→Int→Int→Bool→List Int→AAh→List Int→AAg→AAq→AA2→AA3→AAo→List Int→Int→Option ET
abbrev HN:Type:=Int→Int→List Int→Int→Int→Int→Int→Bool→List Int→AAh→List Int→AAg→AAq→AA2→AA3→AAo→Int→Int→Bool→List Int→AAh→List Int→AAg→AAq→AA2→AA3→AAo→List Int→Int→AAh→List Int→AAg→Int→AAq→AA2→AA3→AAo→Bool→List Int→Int→AAh→List Int→AAg→Int→AAq→AA2→AA3→AAo→Bool→ACV→Option ET
def Rg(R4:H4)(R7:H_)(xz:HN)(t1 t9:Int)(AL:AAD)(AE AY Ap DT:Int)(Dg:Bool)(b2:AAD)(b3:AAh)(b4:AAD)(b5:AAg)(b6:AAq)(b7:AA2)(b8:AA3)(b9:AAo)(Cb C1:Int)(Bu:Bool)(Ef:AAD)(DI:AAh)(FU:AAD)(FZ:AAg)(De:AAq)(D4:AA2)(Ea:AA3)(Od:AAo)(Bw:Int)(b20 tC:AAD):Option ET:=
 cond ((decide (t9<(b20.length:Int))))
  (if tC.length+1≤C7 then(
  R4 t1 (AS (t9+1)) AL AE AY Ap DT Dg b2 b3 b4 b5 b6 b7 b8 b9 Cb C1 Bu Ef DI FU FZ De D4 Ea Od Bw b20 (tC++[t9]))else none)
 (R7 t1 tC AL AE AY Ap DT Dg b2 b3 b4 b5 b6 b7 b8 b9 Cb C1 Bu Ef DI FU FZ De D4 Ea Od b20 Bw)
def SB(R4:H4)(R7:H_)(xz:HN)(t1:Int)(t8 AL:AAD)(AE AY Ap DT:Int)(Dg:Bool)(b2:AAD)(b3:AAh)(b4:AAD)(b5:AAg)(b6:AAq)(b7:AA2)(b8:AA3)(b9:AAo)(Cb C1:Int)(Bu:Bool)(Ef:AAD)(DI:AAh)(FU:AAD)(FZ:AAg)(De:AAq)(D4:AA2)(Ea:AA3)(Od:AAo)(DW:AAD)(Bw:Int):Option ET:=
 cond (decide (Bw>1))
  ((EX (DW,Bw,()) t8).bind fun u3=>
  cond (!u3.1.1)
   (R7 t1 t8 AL AE AY Ap DT Dg b2 b3 b4 b5 b6 b7 b8 b9 Cb C1 Bu Ef DI FU FZ De D4 Ea Od DW (AS (Bw-1)))
  ((E9 (DW,Bw,())).bind fun u4=>
  (AJ (AS (t1+1)) AL AE AY).bind fun u5=>
  xz u5.1.1 0 u5.2.1.1 u5.2.1.2.1 u5.2.1.2.2.1 Ap DT Dg b2 b3 b4 b5 b6 b7 b8 b9 Cb C1 Bu Ef DI FU FZ De D4 Ea Od u4.2.1 u4.1.1.1.2.1 u4.2.2.1 u4.2.2.2.1 u4.2.2.2.2.1 u4.1.1.1.2.2.2.2.2.1 u4.2.2.2.2.2.1 u4.2.2.2.2.2.2.1 u4.2.2.2.2.2.2.2.1 u4.2.2.2.2.2.2.2.2.1 u4.1.1.1.2.2.2.2.2.2.2.2.2.2.1 u4.2.1 u4.1.1.1.2.1 u4.2.2.1 u4.2.2.2.1 u4.2.2.2.2.1 u4.1.1.1.2.2.2.2.2.1 u4.2.2.2.2.2.1 u4.2.2.2.2.2.2.1 u4.2.2.2.2.2.2.2.1 u4.2.2.2.2.2.2.2.2.1 u4.1.1.1.2.2.2.2.2.2.2.2.2.2.1 []))
 ((E9 (DW,Bw,())).bind fun u6=>
 (AJ (AS (t1+1)) AL AE AY).bind fun u7=>
 xz u7.1.1 0 u7.2.1.1 u7.2.1.2.1 u7.2.1.2.2.1 Ap DT Dg b2 b3 b4 b5 b6 b7 b8 b9 Cb C1 Bu Ef DI FU FZ De D4 Ea Od u6.2.1 u6.1.1.1.2.1 u6.2.2.1 u6.2.2.2.1 u6.2.2.2.2.1 u6.1.1.1.2.2.2.2.2.1 u6.2.2.2.2.2.1 u6.2.2.2.2.2.2.1 u6.2.2.2.2.2.2.2.1 u6.2.2.2.2.2.2.2.2.1 u6.1.1.1.2.2.2.2.2.2.2.2.2.2.1 u6.2.1 u6.1.1.1.2.1 u6.2.2.1 u6.2.2.2.1 u6.2.2.2.2.1 u6.1.1.1.2.2.2.2.2.1 u6.2.2.2.2.2.1 u6.2.2.2.2.2.2.1 u6.2.2.2.2.2.2.2.1 u6.2.2.2.2.2.2.2.2.1 u6.1.1.1.2.2.2.2.2.2.2.2.2.2.1 [])
def Qb(R4:H4)(R7:H_)(xz:HN)(t14 t15:Int)(AL:AAD)(AE AY Ap DT:Int)(Dg:Bool)(b2:AAD)(b3:AAh)(b4:AAD)(b5:AAg)(b6:AAq)(b7:AA2)(b8:AA3)(b9:AAo)(Cb C1:Int)(Bu:Bool)(Ef:AAD)(DI:AAh)(FU:AAD)(FZ:AAg)(De:AAq)(D4:AA2)(Ea:AA3)(Od:AAo)(DW:AAD)(Bw:Int)(Vo:AAh)(Ve:AAD)(VK:AAg)(QR:Int)(AFG:AAq)(AFO:AA2)(ADS:AA3)(ACg:AAo)(h_:Bool)(zd:AAD)(AAC:Int)(zh:AAh)(AAM:AAD)(AAB:AAg)(AAN:Int)(AAL:AAq)(zZ:AA2)(zS:AA3)(AAO:AAo)(tV:Bool)(tC:ACV):Option ET:=
 cond (decide (t15<t14))
  ((Ls (zd,AAC,zh,AAM,AAB,AAN,AAL,zZ,zS,AAO,tV,()) AL AE AY).bind fun u8=>
  if tC.length+1≤C7 then(
  let x9:ACV:=tC++[(u8.1.1.1,u8.1.1.2.1,u8.1.1.2.2.1,u8.1.1.2.2.2.1,u8.1.1.2.2.2.2.1,())]
  (Pf (zd,AAC,zh,AAM,AAB,AAN,AAL,zZ,zS,AAO,tV,()) (u8.1.1.1,u8.1.1.2.1,u8.1.1.2.2.1,u8.1.1.2.2.2.1,u8.1.1.2.2.2.2.1,())).bind fun Dd=>
  cond (Dd.1.1.2.1==0)
   (xz t14 (AS (t15+1)) u8.2.1.1 u8.2.1.2.1 u8.2.1.2.2.1 Ap DT Dg b2 b3 b4 b5 b6 b7 b8 b9 Cb C1 Bu Ef DI FU FZ De D4 Ea Od DW Bw Vo Ve VK QR AFG AFO ADS ACg h_ Dd.2.1 Dd.1.1.1.2.1 Dd.2.2.1 Dd.2.2.2.1 Dd.2.2.2.2.1 Dd.1.1.1.2.2.2.2.2.1 Dd.2.2.2.2.2.1 Dd.2.2.2.2.2.2.1 Dd.2.2.2.2.2.2.2.1 Dd.2.2.2.2.2.2.2.2.1 Dd.1.1.1.2.2.2.2.2.2.2.2.2.2.1 x9)
  (xz t14 (AS (t15+1)) u8.2.1.1 u8.2.1.2.1 u8.2.1.2.2.1 Ap DT Dg b2 b3 b4 b5 b6 b7 b8 b9 Cb C1 Bu Ef DI FU FZ De D4 Ea Od DW Bw Vo Ve VK QR AFG AFO ADS ACg h_ zd AAC zh AAM AAB AAN AAL zZ zS AAO tV x9))else none)
 (some ((((DW,Bw,Vo,Ve,VK,QR,AFG,AFO,ADS,ACg,h_,()),(),(zd,AAC,zh,AAM,AAB,AAN,AAL,zZ,zS,AAO,tV,()),()),()),((AL,AE,AY,()),tC,())))
mutual
def Eo:Nat→H4
 |0=>fun _ _ _ _ _ _ _ _ _ _ _ _ _ _ _ _ _ _ _ _ _ _ _ _ _ _ _ _ _ _=>none
 |n+1=>Rg (Eo n) (Ew n) (Df n)
def Ew:Nat→H_
 |0=>fun _ _ _ _ _ _ _ _ _ _ _ _ _ _ _ _ _ _ _ _ _ _ _ _ _ _ _ _ _=>none
 |n+1=>SB (Eo n) (Ew n) (Df n)
def Df:Nat→HN
 |0=>fun _ _ _ _ _ _ _ _ _ _ _ _ _ _ _ _ _ _ _ _ _ _ _ _ _ _ _ _ _ _ _ _ _ _ _ _ _ _ _ _ _ _ _ _ _ _ _ _ _ _=>none
 |n+1=>Qb (Eo n) (Ew n) (Df n)
end
def Rr(R4:H4)(R7:H_)(xz:HN)(p1:Int)(AL:AAD)(AE AY:Int):Option ET:=
 (JX AL AE AY).bind fun u1=>
 R4 p1 0 u1.2.1.1 u1.2.1.2.1 u1.2.1.2.2.1 0 0 false [] [] [] [] [] [] [] [] 0 0 false [] [] [] [] [] [] [] [] u1.1.1.2.1 u1.2.2.1 []
def OT(p1:Int)(AL:AAD)(AE AY:Int):Option ET:=Rr (Eo AX) (Ew AX) (Df AX) p1 AL AE AY
abbrev FO:Type:=((AGa×Unit×Unit)×Unit)×(ACV×Unit)
abbrev O2:Type:=Int→Int→Bool→List Int→AAh→List Int→AAg→AAq→AA2→AA3→AAo→List Int→Int→Int→List Int→Int→AAh→List Int→AAg→Int→AAq→AA2→AA3→AAo→Bool→ACV→Option FO
def Rs(R6:O2)(AE Aa:Int)(AM:Bool)(b1:AAD)(b2:AAh)(b3:AAD)(b4:AAg)(b5:AAq)(b6:AA2)(b7:AA3)(b8:AAo)(fm:AAD)(Dw cA:Int)(pO:AAD)(Cb:Int)(o3:AAh)(qS:AAD)(oN:AAg)(C1:Int)(AMv:AAq)(AMM:AA2)(ANH:AA3)(AL7:AAo)(Bu:Bool)(Ef:ACV):Option FO:=
 (AJ 2 fm Dw cA).bind fun u9=>
 cond ((decide ((Ef.length:Int)<(AS (200+u9.1.1)))))
  (if Ef.length+1≤C7 then(
  R6 AE Aa AM b1 b2 b3 b4 b5 b6 b7 b8 u9.2.1.1 u9.2.1.2.1 u9.2.1.2.2.1 pO Cb o3 qS oN C1 AMv AMM ANH AL7 Bu (Ef++[(8,0,0,0,[],())]))else none)
 (some ((((pO,Cb,o3,qS,oN,C1,AMv,AMM,ANH,AL7,Bu,()),(),()),()),(Ef,())))
def H3:Nat→O2
 |0=>fun _ _ _ _ _ _ _ _ _ _ _ _ _ _ _ _ _ _ _ _ _ _ _ _ _ _=>none
 |n+1=>Rs (H3 n)
def RV(R6:O2)(p0:AAD):Option FO:=
 (bt p0).bind fun u1=>
 (Mb p0 40 90).bind fun u2=>
 (OT u2.1.1 u1.2.1.1 u1.2.1.2.1 u1.2.1.2.2.1).bind fun u3=>
 (A5 12 u3.2.1.1 u3.2.1.2.1 u3.2.1.2.2.1).bind fun u4=>
 cond (u4.1.1)
  ((IY p0 u4.2.1.1 u4.2.1.2.1 u4.2.1.2.2.1).bind fun u5=>
  let x6:AAo:=u5.2.2.2.2.2.2.2.2.2.1
  (A5 60 u5.2.1.1 u5.2.1.2.1 u5.2.1.2.2.1).bind fun u7=>
  cond (u7.1.1)
   (R6 0 0 false [] [] [] [] [] [] [] [] u7.2.1.1 u7.2.1.2.1 u7.2.1.2.2.1 u5.2.2.1 u5.1.1.2.1 u5.2.2.2.1 u5.2.2.2.2.1 u5.2.2.2.2.2.1 u5.1.1.2.2.2.2.2.1 u5.2.2.2.2.2.2.1 u5.2.2.2.2.2.2.2.1 u5.2.2.2.2.2.2.2.2.1 x6 u5.1.1.2.2.2.2.2.2.2.2.2.2.1 u3.2.2.1)
  (some ((((u5.2.2.1,u5.1.1.2.1,u5.2.2.2.1,u5.2.2.2.2.1,u5.2.2.2.2.2.1,u5.1.1.2.2.2.2.2.1,u5.2.2.2.2.2.2.1,u5.2.2.2.2.2.2.2.1,u5.2.2.2.2.2.2.2.2.1,x6,u5.1.1.2.2.2.2.2.2.2.2.2.2.1,()),(),()),()),(u3.2.2.1,()))))
 ((A5 60 u4.2.1.1 u4.2.1.2.1 u4.2.1.2.2.1).bind fun u8=>
 cond (u8.1.1)
  (R6 0 0 false [] [] [] [] [] [] [] [] u8.2.1.1 u8.2.1.2.1 u8.2.1.2.2.1 u3.1.1.1.1 u3.1.1.1.2.1 u3.1.1.1.2.2.1 u3.1.1.1.2.2.2.1 u3.1.1.1.2.2.2.2.1 u3.1.1.1.2.2.2.2.2.1 u3.1.1.1.2.2.2.2.2.2.1 u3.1.1.1.2.2.2.2.2.2.2.1 u3.1.1.1.2.2.2.2.2.2.2.2.1 u3.1.1.1.2.2.2.2.2.2.2.2.2.1 u3.1.1.1.2.2.2.2.2.2.2.2.2.2.1 u3.2.2.1)
 (some ((((u3.1.1.1.1,u3.1.1.1.2.1,u3.1.1.1.2.2.1,u3.1.1.1.2.2.2.1,u3.1.1.1.2.2.2.2.1,u3.1.1.1.2.2.2.2.2.1,u3.1.1.1.2.2.2.2.2.2.1,u3.1.1.1.2.2.2.2.2.2.2.1,u3.1.1.1.2.2.2.2.2.2.2.2.1,u3.1.1.1.2.2.2.2.2.2.2.2.2.1,u3.1.1.1.2.2.2.2.2.2.2.2.2.2.1,()),(),()),()),(u3.2.2.1,()))))
def K3(p0:AAD):Option FO:=RV (H3 AX) p0
abbrev Ii:Type:=(AMI×Unit)×AMR
abbrev UQ:Type:=ACV→Int→Int→Int→Int→Bool→List Int→AAh→List Int→AAg→AAq→AA2→AA3→AAo→Int→Int→Bool→List Int→AAh→List Int→AAg→AAq→AA2→AA3→AAo→List Int→Option Ii
def Wc(R6:UQ)(t25:ACV)(t26 t27 AE Aa:Int)(AM:Bool)(b1:AAD)(b2:AAh)(b3:AAD)(b4:AAg)(b5:AAq)(b6:AA2)(b7:AA3)(b8:AAo)(Dw Fc:Int)(Cv:Bool)(NG:AAD)(Ef:AAh)(DI:AAD)(FU:AAg)(FZ:AAq)(De:AA2)(D4:AA3)(Ea:AAo)(Od:AAD):Option Ii:=
 cond (decide (t27<t26))
  (if(0:Int)≤t27∧t27<(t25.length:Int)then(
  (Pz (NG,Dw,Ef,DI,FU,Fc,FZ,De,D4,Ea,Cv,()) ((t25.getD (t27.toNat) (0,0,0,0,[],())).1,(t25.getD (t27.toNat) (0,0,0,0,[],())).2.1,(t25.getD (t27.toNat) (0,0,0,0,[],())).2.2.1,(t25.getD (t27.toNat) (0,0,0,0,[],())).2.2.2.1,(t25.getD (t27.toNat) (0,0,0,0,[],())).2.2.2.2.1,())).bind fun u4=>
  cond (u4.1.1.2.1==0)
   (if Od.length+1≤C7 then(
   R6 t25 t26 (AS (t27+1)) AE Aa AM b1 b2 b3 b4 b5 b6 b7 b8 u4.1.1.1.2.1 u4.1.1.1.2.2.2.2.2.1 u4.1.1.1.2.2.2.2.2.2.2.2.2.2.1 u4.2.1 u4.2.2.1 u4.2.2.2.1 u4.2.2.2.2.1 u4.2.2.2.2.2.1 u4.2.2.2.2.2.2.1 u4.2.2.2.2.2.2.2.1 u4.2.2.2.2.2.2.2.2.1 (Od++[u4.1.1.2.1]))else none)
  (if Od.length+1≤C7 then(
  R6 t25 t26 (AS (t27+1)) AE Aa AM b1 b2 b3 b4 b5 b6 b7 b8 Dw Fc Cv NG Ef DI FU FZ De D4 Ea (Od++[u4.1.1.2.1]))else none))else none)
 (some (((((),Dw,(),(),(),Fc,(),(),(),(),Cv,()),(),()),()),(NG,Ef,DI,FU,FZ,De,D4,Ea,Od,())))
def MG:Nat→UQ
 |0=>fun _ _ _ _ _ _ _ _ _ _ _ _ _ _ _ _ _ _ _ _ _ _ _ _ _ _=>none
 |n+1=>Wc (MG n)
def Wp(R6:UQ)(p0:ABi)(p1:ACV):Option Ii:=
 (MC (p0.1,p0.2.1,p0.2.2.1,p0.2.2.2.1,p0.2.2.2.2.1,p0.2.2.2.2.2.1,p0.2.2.2.2.2.2.1,p0.2.2.2.2.2.2.2.1,p0.2.2.2.2.2.2.2.2.1,p0.2.2.2.2.2.2.2.2.2.1,p0.2.2.2.2.2.2.2.2.2.2.1,())).bind fun u1=>
 cond ((decide ((p1.length:Int)>200)))
  (some (((((),u1.1.1.2.1,(),(),(),u1.1.1.2.2.2.2.2.1,(),(),(),(),u1.1.1.2.2.2.2.2.2.2.2.2.2.1,()),(),()),()),(u1.2.1,u1.2.2.1,u1.2.2.2.1,u1.2.2.2.2.1,u1.2.2.2.2.2.1,u1.2.2.2.2.2.2.1,u1.2.2.2.2.2.2.2.1,u1.2.2.2.2.2.2.2.2.1,[],())))
 ((Su (p0.1,p0.2.1,p0.2.2.1,p0.2.2.2.1,p0.2.2.2.2.1,p0.2.2.2.2.2.1,p0.2.2.2.2.2.2.1,p0.2.2.2.2.2.2.2.1,p0.2.2.2.2.2.2.2.2.1,p0.2.2.2.2.2.2.2.2.2.1,p0.2.2.2.2.2.2.2.2.2.2.1,())).bind fun u3=>
 cond (!u3.1.1)
  (some (((((),u1.1.1.2.1,(),(),(),u1.1.1.2.2.2.2.2.1,(),(),(),(),u1.1.1.2.2.2.2.2.2.2.2.2.2.1,()),(),()),()),(u1.2.1,u1.2.2.1,u1.2.2.2.1,u1.2.2.2.2.1,u1.2.2.2.2.2.1,u1.2.2.2.2.2.2.1,u1.2.2.2.2.2.2.2.1,u1.2.2.2.2.2.2.2.2.1,[],())))
 (R6 p1 (p1.length:Int) 0 0 0 false [] [] [] [] [] [] [] [] u1.1.1.2.1 u1.1.1.2.2.2.2.2.1 u1.1.1.2.2.2.2.2.2.2.2.2.2.1 u1.2.1 u1.2.2.1 u1.2.2.2.1 u1.2.2.2.2.1 u1.2.2.2.2.2.1 u1.2.2.2.2.2.2.1 u1.2.2.2.2.2.2.2.1 u1.2.2.2.2.2.2.2.2.1 []))
def LG(p0:ABi)(p1:ACV):Option Ii:=Wp (MG AX) p0 p1
abbrev Ic:Type:=(AMI×Unit)×AMR
abbrev UL:Type:=ACV→Int→Int→Int→Bool→List Int→AAh→List Int→AAg→AAq→AA2→AA3→AAo→List Int→Int→Int→Bool→List Int→AAh→List Int→AAg→AAq→AA2→AA3→AAo→Option Ic
def WV(R6:UL)(t1:ACV)(t8 AE Aa:Int)(AM:Bool)(b1:AAD)(b2:AAh)(b3:AAD)(b4:AAg)(b5:AAq)(b6:AA2)(b7:AA3)(b8:AAo)(b9:AAD)(Cb C1:Int)(Bu:Bool)(Ef:AAD)(DI:AAh)(FU:AAD)(FZ:AAg)(De:AAq)(D4:AA2)(Ea:AA3)(Od:AAo):Option Ic:=
 cond ((decide (t8<(t1.length:Int))))
  (if(0:Int)≤t8∧t8<(t1.length:Int)then(
  (Pf (Ef,Cb,DI,FU,FZ,C1,De,D4,Ea,Od,Bu,()) ((t1.getD (t8.toNat) (0,0,0,0,[],())).1,(t1.getD (t8.toNat) (0,0,0,0,[],())).2.1,(t1.getD (t8.toNat) (0,0,0,0,[],())).2.2.1,(t1.getD (t8.toNat) (0,0,0,0,[],())).2.2.2.1,(t1.getD (t8.toNat) (0,0,0,0,[],())).2.2.2.2.1,())).bind fun u5=>
  if b9.length+1≤C7 then(
  cond (u5.1.1.2.1==0)
   (R6 t1 (AS (t8+1)) AE Aa AM b1 b2 b3 b4 b5 b6 b7 b8 (b9++[u5.1.1.2.1]) u5.1.1.1.2.1 u5.1.1.1.2.2.2.2.2.1 u5.1.1.1.2.2.2.2.2.2.2.2.2.2.1 u5.2.1 u5.2.2.1 u5.2.2.2.1 u5.2.2.2.2.1 u5.2.2.2.2.2.1 u5.2.2.2.2.2.2.1 u5.2.2.2.2.2.2.2.1 u5.2.2.2.2.2.2.2.2.1)
  (R6 t1 (AS (t8+1)) AE Aa AM b1 b2 b3 b4 b5 b6 b7 b8 (b9++[u5.1.1.2.1]) Cb C1 Bu Ef DI FU FZ De D4 Ea Od))else none)else none)
 (some (((((),Cb,(),(),(),C1,(),(),(),(),Bu,()),(),()),()),(Ef,DI,FU,FZ,De,D4,Ea,Od,b9,())))
def MS:Nat→UL
 |0=>fun _ _ _ _ _ _ _ _ _ _ _ _ _ _ _ _ _ _ _ _ _ _ _ _ _=>none
 |n+1=>WV (MS n)
def WZ(R6:UL)(p0:ABi)(p1:ACV):Option Ic:=
 (Mc (p0.1,p0.2.1,p0.2.2.1,p0.2.2.2.1,p0.2.2.2.2.1,p0.2.2.2.2.2.1,p0.2.2.2.2.2.2.1,p0.2.2.2.2.2.2.2.1,p0.2.2.2.2.2.2.2.2.1,p0.2.2.2.2.2.2.2.2.2.1,p0.2.2.2.2.2.2.2.2.2.2.1,())).bind fun u1=>
 (Sn (p0.1,p0.2.1,p0.2.2.1,p0.2.2.2.1,p0.2.2.2.2.1,p0.2.2.2.2.2.1,p0.2.2.2.2.2.2.1,p0.2.2.2.2.2.2.2.1,p0.2.2.2.2.2.2.2.2.1,p0.2.2.2.2.2.2.2.2.2.1,p0.2.2.2.2.2.2.2.2.2.2.1,())).bind fun u2=>
 cond (!u2.1.1)
  (some (((((),u1.1.1.2.1,(),(),(),u1.1.1.2.2.2.2.2.1,(),(),(),(),u1.1.1.2.2.2.2.2.2.2.2.2.2.1,()),(),()),()),(u1.2.1,u1.2.2.1,u1.2.2.2.1,u1.2.2.2.2.1,u1.2.2.2.2.2.1,u1.2.2.2.2.2.2.1,u1.2.2.2.2.2.2.2.1,u1.2.2.2.2.2.2.2.2.1,[],())))
 (cond ((decide ((p1.length:Int)>200)))
  (some (((((),u1.1.1.2.1,(),(),(),u1.1.1.2.2.2.2.2.1,(),(),(),(),u1.1.1.2.2.2.2.2.2.2.2.2.2.1,()),(),()),()),(u1.2.1,u1.2.2.1,u1.2.2.2.1,u1.2.2.2.2.1,u1.2.2.2.2.2.1,u1.2.2.2.2.2.2.1,u1.2.2.2.2.2.2.2.1,u1.2.2.2.2.2.2.2.2.1,[],())))
 (R6 p1 0 0 0 false [] [] [] [] [] [] [] [] [] u1.1.1.2.1 u1.1.1.2.2.2.2.2.1 u1.1.1.2.2.2.2.2.2.2.2.2.2.1 u1.2.1 u1.2.2.1 u1.2.2.2.1 u1.2.2.2.2.1 u1.2.2.2.2.2.1 u1.2.2.2.2.2.2.1 u1.2.2.2.2.2.2.2.1 u1.2.2.2.2.2.2.2.2.1))
def QY(p0:ABi)(p1:ACV):Option Ic:=WZ (MS AX) p0 p1
abbrev KL:Type:=ABV×Unit
abbrev Uf:Type:=List Int→List Int→Int→Option KL
def Ww(R4:Uf)(t0 t1:AAD)(t5:Int):Option KL:=
 cond ((decide (t5<(t0.length:Int))))
  (if(0:Int)≤t5∧t5<(t0.length:Int)then(
  if(0:Int)≤t5∧t5<(t1.length:Int)then(
  cond ((t0.getD (t5.toNat) 0) !=(t1.getD (t5.toNat) 0))
   (some ((false,()),()))
  (R4 t0 t1 (AS (t5+1))))else none)else none)
 (some ((true,()),()))
def MO:Nat→Uf
 |0=>fun _ _ _=>none
 |n+1=>Ww (MO n)
def Wh(R4:Uf)(p0 p1:AAD):Option KL:=
 cond (((p0.length:Int) !=(p1.length:Int)))
  (some ((false,()),()))
 (R4 p0 p1 0)
def Nc(p0 p1:AAD):Option KL:=Wh (MO AX) p0 p1
abbrev IX:Type:=ABV×Unit
abbrev RM:Type:=ACU→ACU→Int→Option IX
def Tj(R4:RM)(t0 t1:ACU)(t5:Int):Option IX:=
 cond ((decide (t5<(t0.length:Int))))
  (if(0:Int)≤t5∧t5<(t0.length:Int)then(
  if(0:Int)≤t5∧t5<(t1.length:Int)then(
  cond ((!((((t0.getD (t5.toNat) (0,0,[],())).1)==((t1.getD (t5.toNat) (0,0,[],())).1))&&((((t0.getD (t5.toNat) (0,0,[],())).2.1)==((t1.getD (t5.toNat) (0,0,[],())).2.1))&&((((t0.getD (t5.toNat) (0,0,[],())).2.2.1)==((t1.getD (t5.toNat) (0,0,[],())).2.2.1))&&true)))))
   (some ((false,()),()))
  (R4 t0 t1 (AS (t5+1))))else none)else none)
 (some ((true,()),()))
def Jv:Nat→RM
 |0=>fun _ _ _=>none
 |n+1=>Tj (Jv n)
def T1(R4:RM)(p0 p1:ACU):Option IX:=
 cond (((p0.length:Int) !=(p1.length:Int)))
  (some ((false,()),()))
 (R4 p0 p1 0)
def Kc(p0 p1:ACU):Option IX:=T1 (Jv AX) p0 p1
abbrev uz:Type:=ABV×Unit
def RR(p0:AAD):Option uz:=
 (jY p0).bind fun u1=>
 cond (u1.1.1)
  (some ((true,()),()))
 ((K3 p0).bind fun u2=>
 (LG (u2.1.1.1.1,u2.1.1.1.2.1,u2.1.1.1.2.2.1,u2.1.1.1.2.2.2.1,u2.1.1.1.2.2.2.2.1,u2.1.1.1.2.2.2.2.2.1,u2.1.1.1.2.2.2.2.2.2.1,u2.1.1.1.2.2.2.2.2.2.2.1,u2.1.1.1.2.2.2.2.2.2.2.2.1,u2.1.1.1.2.2.2.2.2.2.2.2.2.1,u2.1.1.1.2.2.2.2.2.2.2.2.2.2.1,()) u2.2.1).bind fun u3=>
 let x4:AAD:=u3.2.2.2.2.2.2.2.2.2.1
 (QY (u2.1.1.1.1,u2.1.1.1.2.1,u2.1.1.1.2.2.1,u2.1.1.1.2.2.2.1,u2.1.1.1.2.2.2.2.1,u2.1.1.1.2.2.2.2.2.1,u2.1.1.1.2.2.2.2.2.2.1,u2.1.1.1.2.2.2.2.2.2.2.1,u2.1.1.1.2.2.2.2.2.2.2.2.1,u2.1.1.1.2.2.2.2.2.2.2.2.2.1,u2.1.1.1.2.2.2.2.2.2.2.2.2.2.1,()) u2.2.1).bind fun u5=>
 (Nc x4 u5.2.2.2.2.2.2.2.2.2.1).bind fun u7=>
 cond (!u7.1.1)
  (some ((false,()),()))
 (cond (((x4.length:Int)==0))
  (some (((u3.2.2.2.2.2.2.2.2.1.length:Int)==(u2.1.1.1.2.2.2.2.2.2.2.2.2.1.length:Int),()),()))
 ((jA p0 1).bind fun LR=>
 let x12:Int:=(u2.2.1.length:Int)
 if AS (x12+1)=0 then none else(
 let gd:Int:=LR.1.1.tmod (AS (x12+1))
 if(0:Int)≤(0:Int)∧(0:Int)≤gd∧gd≤(u2.2.1.length:Int)then(
 (LG (u2.1.1.1.1,u2.1.1.1.2.1,u2.1.1.1.2.2.1,u2.1.1.1.2.2.2.1,u2.1.1.1.2.2.2.2.1,u2.1.1.1.2.2.2.2.2.1,u2.1.1.1.2.2.2.2.2.2.1,u2.1.1.1.2.2.2.2.2.2.2.1,u2.1.1.1.2.2.2.2.2.2.2.2.1,u2.1.1.1.2.2.2.2.2.2.2.2.2.1,u2.1.1.1.2.2.2.2.2.2.2.2.2.2.1,()) ((u2.2.1.drop 0).take ((gd.toNat)-0))).bind fun F5=>
 let x16:AAD:=F5.2.2.2.2.2.2.2.2.2.1
 if(0:Int)≤gd∧gd≤(u2.2.1.length:Int)∧(u2.2.1.length:Int)≤(u2.2.1.length:Int)then(
 (LG (F5.2.1,F5.1.1.1.2.1,F5.2.2.1,F5.2.2.2.1,F5.2.2.2.2.1,F5.1.1.1.2.2.2.2.2.1,F5.2.2.2.2.2.1,F5.2.2.2.2.2.2.1,F5.2.2.2.2.2.2.2.1,F5.2.2.2.2.2.2.2.2.1,F5.1.1.1.2.2.2.2.2.2.2.2.2.2.1,()) ((u2.2.1.drop (gd.toNat)).take (((u2.2.1.length:Int).toNat)-(gd.toNat)))).bind fun PS=>
 cond (((x16.length:Int)==gd))
  (cond (((AS ((x16.length:Int)+(PS.2.2.2.2.2.2.2.2.2.1.length:Int)))==(x4.length:Int)))
   (cond (((PS.2.2.2.2.2.2.2.2.1.length:Int)==(u3.2.2.2.2.2.2.2.2.1.length:Int)))
    ((Nc PS.2.2.2.1 u3.2.2.2.1).bind fun Yj=>
    cond (Yj.1.1)
     (if(0:Int)≤(0:Int)∧(0:Int)<(PS.2.2.2.2.2.2.2.1.length:Int)then(
     if(0:Int)≤(0:Int)∧(0:Int)<(u3.2.2.2.2.2.2.2.1.length:Int)then(
     (Kc ((PS.2.2.2.2.2.2.2.1.getD 0 (0,0,[],())).2.2.1) ((u3.2.2.2.2.2.2.2.1.getD 0 (0,0,[],())).2.2.1)).bind fun cw=>
     cond (cw.1.1)
      (if(0:Int)≤(1:Int)∧(1:Int)<(PS.2.2.2.2.2.2.2.1.length:Int)then(
      if(0:Int)≤(1:Int)∧(1:Int)<(u3.2.2.2.2.2.2.2.1.length:Int)then(
      (Kc ((PS.2.2.2.2.2.2.2.1.getD 1 (0,0,[],())).2.2.1) ((u3.2.2.2.2.2.2.2.1.getD 1 (0,0,[],())).2.2.1)).bind fun bW=>
      some ((bW.1.1,()),()))else none)else none)
     (some ((false,()),())))else none)else none)
    (some ((false,()),())))
   (some ((false,()),())))
  (some ((false,()),())))
 (some ((false,()),())))else none)else none))))
end
end Go.M
