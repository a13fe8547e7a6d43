/- What each function computes, printed by a program out of the translation; what is printed is checked in the equations. -/
import Derived.Test.YtbjkhapllnkhfaaGreatDoorG0
set_option linter.unusedVariables false
set_option linter.unusedSimpArgs false
set_option linter.unusedSectionVars false
namespace Go.M
open Go.Fw
noncomputable section
abbrev GR:Type:=(AHP×Unit)×Unit
abbrev Qf:Type:=List UInt8->Int->Int->Int->Int->Bool->List Int->AAT->List Int->AAU->AAX->AAY->AAV->AAW->List AAZ->Option GR
abbrev Pp:Type:=List UInt8->Int->Int->Int->Bool->List Int->AAT->List Int->AAU->AAX->AAY->AAV->AAW->List AAZ->Option GR
def MW(R7:Qf)(R18:Pp)(t1:AAZ)(t9 t10 AF AM:Int)(AG:Bool)(b1:AAN)(b2:AAT)(b3:AAN)(b4:AAU)(b5:AAX)(b6:AAY)(b7:AAV)(b8:AAW)(b9:List AAZ):Option GR:=
 cond ((decide (t10<(t1.length:Int))))
  (if(0:Int)<=t10/\t10<(t1.length:Int)then(
  cond (((t1.getD (t10.toNat) 0).toNat:Int)==10)
   (if(0:Int)<=t9/\t9<=t10/\t10<=(t1.length:Int)then(
   if b9.length+1<=Cm then(
   R7 t1 (AW (t10+1)) (AW (t10+1)) AF AM AG b1 b2 b3 b4 b5 b6 b7 b8 (b9++[((t1.drop (t9.toNat)).take ((t10.toNat)-(t9.toNat)))]))else none)else none)
  (R7 t1 t9 (AW (t10+1)) AF AM AG b1 b2 b3 b4 b5 b6 b7 b8 b9))else none)
 (cond ((decide (t9<(t1.length:Int))))
  (if(0:Int)<=t9/\t9<=(t1.length:Int)/\(t1.length:Int)<=(t1.length:Int)then(
  let x7:AAZ:=((t1.drop (t9.toNat)).take (((t1.length:Int).toNat)-(t9.toNat)))
  if b9.length+1<=Cm then(
  cond (decide (((b9++[x7]).length:Int)>200))
   (some ((([],(-2),()),()),()))
  (R18 [] 0 AF AM AG b1 b2 b3 b4 b5 b6 b7 b8 (b9++[x7])))else none)else none)
 (cond ((decide ((b9.length:Int)>200)))
  (some ((([],(-2),()),()),()))
 (R18 [] 0 AF AM AG b1 b2 b3 b4 b5 b6 b7 b8 b9)))
def K5(R7:Qf)(R18:Pp)(t11:AAZ)(t12 AF AM:Int)(AG:Bool)(b1:AAN)(b2:AAT)(b3:AAN)(b4:AAU)(b5:AAX)(b6:AAY)(b7:AAV)(b8:AAW)(b9:List AAZ):Option GR:=
 cond ((decide (t12<(b9.length:Int))))
  (if(0:Int)<=t12/\t12<(b9.length:Int)then(
  (Ob (b1,AF,b2,b3,b4,AM,b5,b6,b7,b8,AG,()) (b9.getD (t12.toNat) [])).bind fun Th=>
  let x13:AAW:=Th.2.2.2.2.2.2.2.2.1
  cond (!(Th.1.1.2.1==[]))
   (if t11.length+Th.1.1.2.1.length<=Cm then(
   if(t11++Th.1.1.2.1).length+1<=Cm then(
   R18 ((t11++Th.1.1.2.1)++[10]) (AW (t12+1)) Th.1.1.1.2.1 Th.1.1.1.2.2.2.2.2.1 Th.1.1.1.2.2.2.2.2.2.2.2.2.2.1 Th.2.1 Th.2.2.1 Th.2.2.2.1 Th.2.2.2.2.1 Th.2.2.2.2.2.1 Th.2.2.2.2.2.2.1 Th.2.2.2.2.2.2.2.1 x13 b9)else none)else none)
  (R18 t11 (AW (t12+1)) Th.1.1.1.2.1 Th.1.1.1.2.2.2.2.2.1 Th.1.1.1.2.2.2.2.2.2.2.2.2.2.1 Th.2.1 Th.2.2.1 Th.2.2.2.1 Th.2.2.2.2.1 Th.2.2.2.2.2.1 Th.2.2.2.2.2.2.1 Th.2.2.2.2.2.2.2.1 x13 b9))else none)
 (some (((t11,(b9.length:Int),()),()),()))
mutual
def II:Nat->Qf
 |0=>fun _ _ _ _ _ _ _ _ _ _ _ _ _ _ _=>none
 |n+1=>MW (II n) (HG n)
def HG:Nat->Pp
 |0=>fun _ _ _ _ _ _ _ _ _ _ _ _ _ _=>none
 |n+1=>K5 (II n) (HG n)
end
def YG(R7:Qf)(R18:Pp)(p0:AAb)(p1:AAZ):Option GR:=
 (HV (p0.1,p0.2.1,())).bind fun u1=>
 cond (!u1.1.1.2.1)
  (some ((([],(-1),()),()),()))
 (cond ((decide ((p1.length:Int)>20000)))
  (some ((([],(-1),()),()),()))
 (R7 p1 0 0 u1.1.1.1.2.1 u1.1.1.1.2.2.2.2.2.1 u1.1.1.1.2.2.2.2.2.2.2.2.2.2.1 u1.2.1 u1.2.2.1 u1.2.2.2.1 u1.2.2.2.2.1 u1.2.2.2.2.2.1 u1.2.2.2.2.2.2.1 u1.2.2.2.2.2.2.2.1 u1.2.2.2.2.2.2.2.2.1 []))
def Ps(p0:AAb)(p1:AAZ):Option GR:=YG (II AX) (HG AX) p0 p1
abbrev oy:Type:=AHQ×Unit
def strings_Split(p0:AAZ)(p1:AAZ):Option oy:=(xe p0 p1).map fun l=>((l,()),())
abbrev rh:Type:=ADQ×Unit
def strconv_Itoa(p0:Int):Option rh:=(ACm p0).map fun l=>((l,()),())
abbrev uV:Type:=ADQ×Unit
def Gw(p0:Int):Option uV:=
 (strconv_Itoa p0).bind fun u1=>
 some ((u1.1.1,()),())
abbrev mQ:Type:=ADQ×Unit
def Eb(p0:Int):Option mQ:=
 (C_ p0).bind fun u1=>
 cond (!u1.1.1)
  (some (([],()),()))
 ((EM p0).bind fun u2=>
 (Gw u2.1.1).bind fun u3=>
 if 1+u3.1.1.length<=Cm then(
 if([101]++u3.1.1).length+1<=Cm then(
 let x4:AAZ:=([101]++u3.1.1)++[46]
 (Q0 p0).bind fun u5=>
 (Gw u5.1.1).bind fun u6=>
 if x4.length+u6.1.1.length<=Cm then(
 some ((x4++u6.1.1,()),()))else none)else none)else none)
abbrev nf:Type:=ADQ×Unit
def Ov(p0:ADa):Option nf:=
 cond (p0.1==1)
  (cond (p0.2.2.1==[])
   ((Eb p0.2.1).bind fun u1=>
   if 5+u1.1.1.length<=Cm then(
   some ((([100,97,116,97,32]++u1.1.1),()),()))else none)
  ((Eb p0.2.1).bind fun u3=>
  if 5+u3.1.1.length<=Cm then(
  let x4:AAZ:=[100,97,116,97,32]++u3.1.1
  if x4.length+1<=Cm then(
  if(x4++[32]).length+p0.2.2.1.length<=Cm then(
  some ((((x4++[32])++p0.2.2.1),()),()))else none)else none)else none))
 (cond (p0.1==2)
  ((Eb p0.2.1).bind fun u6=>
  if 5+u6.1.1.length<=Cm then(
  some ((([104,111,108,101,32]++u6.1.1),()),()))else none)
 (cond (p0.1==3)
  ((Eb p0.2.1).bind fun u8=>
  if 5+u8.1.1.length<=Cm then(
  some ((([108,111,115,115,32]++u8.1.1),()),()))else none)
 (cond (p0.1==4)
  ((Gw (if 0>p0.2.1 then 0 else p0.2.1)).bind fun Hj=>
  if 4+Hj.1.1.length<=Cm then(
  some ((([101,114,97,32]++Hj.1.1),()),()))else none)
 (cond (p0.1==5)
  ((Eb p0.2.1).bind fun WL=>
  if 5+WL.1.1.length<=Cm then(
  some ((([116,114,105,109,32]++WL.1.1),()),()))else none)
 (some (([],()),()))))))
abbrev qH:Type:=ADQ×Unit
def NI(p0:ACD):Option qH:=
 cond ((p0.2.2.1.length:Int)==0)
  (some (([110,111,110,101],()),()))
 (let x2:Int:=(p0.2.2.1.length:Int)
 if(0:Int)<=AW (x2-1)/\AW (x2-1)<(p0.2.2.1.length:Int)then(
 (Ov ((p0.2.2.1.getD ((AW (x2-1)).toNat) (0,0,[],())).1,(p0.2.2.1.getD ((AW (x2-1)).toNat) (0,0,[],())).2.1,(p0.2.2.1.getD ((AW (x2-1)).toNat) (0,0,[],())).2.2.1,())).bind fun u3=>
 some ((u3.1.1,()),()))else none)
abbrev iD:Type:=((List UInt8×List UInt8×Bool×Unit)×Unit)×Unit
def strings_Cut(p0:AAZ)(p1:AAZ):Option iD:=(AIL p0 p1).map fun l=>(((l.1,l.2.1,l.2.2,()),()),())
abbrev l6:Type:=ABW×AHQ
def OG:Option l6:=
 some (((),()),([[111,112,101,110],[97,100,100],[115,116,111,114,101],[115,121,110,99],[99,114,97,115,104],[108,111,115,101],[102,105,108,108],[109,101,110,100],[115,101,97,108],[112,108,97,110],[102,105,120],[99,108,111,115,101],[116,114,105,109],[114,101,97,100],[100,114,111,112],[112,114,117,110,101]],()))
abbrev WR:Type:=AAv×Unit
def JV(p0:List AAZ)(p1:AAZ):Option WR:=(xW p0 p1).map fun l=>((l,()),())
abbrev lR:Type:=ADw×Unit
def KL(p0:AAZ)(p1:Int):Option lR:=(Ed p0 p1).map fun l=>(((l.1,l.2,()),()),())
abbrev gJ:Type:=ADQ×Unit
def strings_TrimPrefix(p0:AAZ)(p1:AAZ):Option gJ:=(oF p0 p1).map fun l=>((l,()),())
abbrev bP:Type:=ADw×Unit
def Ou(p0:AAZ):Option bP:=
 (strings_TrimPrefix p0 [101]).bind fun u1=>
 (strings_Cut u1.1.1 [46]).bind fun u2=>
 (KL u2.1.1.1 2).bind fun u3=>
 (KL u2.1.1.2.1 2).bind fun u4=>
 (DP u3.1.1.1 u4.1.1.1).bind fun u5=>
 cond (!u3.1.1.2.1)
  (some (((0,false,()),()),()))
 (cond (!u4.1.1.2.1)
  (some (((0,false,()),()),()))
 (cond (!u5.1.1.2.1)
  (some (((0,false,()),()),()))
 ((Eb u5.1.1.1).bind fun u6=>
 cond (!(u6.1.1==p0))
  (some (((0,false,()),()),()))
 (some (((u5.1.1.1,true,()),()),())))))
abbrev ey:Type:=ADQ×AFP
def Ma(p1:Int)(p2:AAZ)(AQ AF Ah BA:Int)(BH:AAZ):Option ey:=
 cond (p1==84)
  (some (([],()),((AQ,AF,Ah,BA,p2,()),())))
 ((strings_Cut p2 [32]).bind fun u1=>
 (KL u1.1.1.1 10).bind fun u2=>
 cond (p1==65)
  (some ((u1.1.1.2.1,()),((AQ,u2.1.1.1,Ah,BA,BH,()),())))
 (cond (p1==66)
  (some ((u1.1.1.2.1,()),((AQ,AF,u2.1.1.1,BA,BH,()),())))
 (cond (p1==67)
  (some ((u1.1.1.2.1,()),((AQ,AF,Ah,u2.1.1.1,BH,()),())))
 (cond (p1==80)
  ((Ou u1.1.1.1).bind fun u3=>
  some ((u1.1.1.2.1,()),((AQ,u3.1.1.1,Ah,BA,BH,()),())))
 (some ((u1.1.1.2.1,()),((AQ,AF,Ah,BA,BH,()),())))))))
abbrev iW:Type:=AAg×Unit
def strings_Contains(p0:AAZ)(p1:AAZ):Option iW:=(gf p0 p1).map fun l=>((l,()),())
abbrev bR:Type:=AEV×Unit
def TK(p0:ABX)(p1:Int):Option bR:=
 cond (p1==84)
  ((strings_Contains p0.2.2.2.2.1 [10]).bind fun u1=>
  some (((p0.2.2.2.2.1,!u1.1.1,()),()),()))
 (cond (p1==80)
  ((Eb p0.2.1).bind fun u2=>
  (C_ p0.2.1).bind fun u3=>
  some (((u2.1.1,u3.1.1,()),()),()))
 (cond (p1==66)
  ((Gw p0.2.2.1).bind fun u4=>
  cond ((decide (p0.2.2.1>=0)))
   (some (((u4.1.1,decide ((u4.1.1.length:Int)<=10),()),()),()))
  (some (((u4.1.1,false,()),()),())))
 (cond (p1==67)
  ((Gw p0.2.2.2.1).bind fun u7=>
  cond ((decide (p0.2.2.2.1>=0)))
   (some (((u7.1.1,decide ((u7.1.1.length:Int)<=10),()),()),()))
  (some (((u7.1.1,false,()),()),())))
 ((Gw p0.2.1).bind fun FE=>
 cond (decide (p0.2.1>=0))
  (some (((FE.1.1,decide ((FE.1.1.length:Int)<=10),()),()),()))
 (some (((FE.1.1,false,()),()),()))))))
abbrev QZ:Type:=AEV×Unit
abbrev Uk:Type:=List UInt8->Int->Int->Int->Int->Int->Int->List UInt8->List Int->Option QZ
def IZ(R5:Uk)(t4:AAZ)(t22 t23 AQ AF Ah BA:Int)(BH:AAZ)(b1:AAN):Option QZ:=
 cond (decide (t23<t22))
  (if(0:Int)<=t23/\t23<(b1.length:Int)then(
  (TK (AQ,AF,Ah,BA,BH,()) (b1.getD (t23.toNat) 0)).bind fun u7=>
  cond (!u7.1.1.2.1)
   (some ((([],false,()),()),()))
  (if 1+u7.1.1.1.length<=Cm then(
  if t4.length+([32]++u7.1.1.1).length<=Cm then(
  R5 (t4++([32]++u7.1.1.1)) t22 (AW (t23+1)) AQ AF Ah BA BH b1)else none)else none))else none)
 (some (((t4,true,()),()),()))
def JC:Nat->Uk
 |0=>fun _ _ _ _ _ _ _ _ _=>none
 |n+1=>IZ (JC n)
def Wj(R5:Uk)(p0:ABX):Option QZ:=
 (Vk (p0.1,p0.2.1,p0.2.2.1,p0.2.2.2.1,p0.2.2.2.2.1,())).bind fun u1=>
 cond (!u1.1.1)
  (some ((([],false,()),()),()))
 ((OG).bind fun u2=>
 if(0:Int)<=AW (p0.1-1)/\AW (p0.1-1)<(u2.2.1.length:Int)then(
 (PO p0.1).bind fun u4=>
 if u4.1.1.length<=Cm then(
 let x5:AAN:=(u4.1.1.map fun c=>(c.toNat:Int))
 R5 (u2.2.1.getD ((AW (p0.1-1)).toNat) []) (x5.length:Int) 0 p0.1 p0.2.1 p0.2.2.1 p0.2.2.2.1 p0.2.2.2.2.1 x5)else none)else none)
def VE(p0:ABX):Option QZ:=Wj (JC AX) p0
abbrev Pn:Type:=(AHN×Unit)×Unit
abbrev SG:Type:=List UInt8->List UInt8->Int->Int->Int->Int->Int->Int->List UInt8->Int->Int->Int->Int->List UInt8->List Int->Option Pn
def Hc(R6:SG)(t0 t5:AAZ)(t31 t32 AQ AF Ah BA:Int)(BH:AAZ)(B7 Ba CO EX:Int)(Hu:AAZ)(b2:AAN):Option Pn:=
 cond (decide (t32<t31))
  (if(0:Int)<=t32/\t32<(b2.length:Int)then(
  (Ma (b2.getD (t32.toNat) 0) t5 B7 Ba CO EX Hu).bind fun u8=>
  R6 t0 u8.1.1 t31 (AW (t32+1)) AQ AF Ah BA BH u8.2.1.1 u8.2.1.2.1 u8.2.1.2.2.1 u8.2.1.2.2.2.1 u8.2.1.2.2.2.2.1 b2)else none)
 ((VE (B7,Ba,CO,EX,Hu,())).bind fun u9=>
 cond (!u9.1.1.2.1)
  (some ((((0,0,0,0,[],()),false,()),()),()))
 (cond (!(u9.1.1.1==t0))
  (some ((((0,0,0,0,[],()),false,()),()),()))
 (some ((((B7,Ba,CO,EX,Hu,()),true,()),()),()))))
def H0:Nat->SG
 |0=>fun _ _ _ _ _ _ _ _ _ _ _ _ _ _ _=>none
 |n+1=>Hc (H0 n)
def Vr(R6:SG)(p0:AAZ):Option Pn:=
 (strings_Cut p0 [32]).bind fun u1=>
 (OG).bind fun u2=>
 (JV u2.2.1 u1.1.1.1).bind fun u3=>
 cond (((AW (1+u3.1.1))==0))
  (some ((((0,0,0,0,[],()),false,()),()),()))
 ((PO (AW (1+u3.1.1))).bind fun u5=>
 if u5.1.1.length<=Cm then(
 let x6:AAN:=(u5.1.1.map fun c=>(c.toNat:Int))
 R6 p0 u1.1.1.2.1 (x6.length:Int) 0 0 0 0 0 [] (AW (1+u3.1.1)) 0 0 0 [] x6)else none)
def Te(p0:AAZ):Option Pn:=Vr (H0 AX) p0
abbrev cM:Type:=(AHO×Unit)×ADG
def O5(p0:AAi)(p1:AAZ):Option cM:=
 (Cw (p0.1,p0.2.1,p0.2.2.1,p0.2.2.2.1,p0.2.2.2.2.1,p0.2.2.2.2.2.1,p0.2.2.2.2.2.2.1,p0.2.2.2.2.2.2.2.1,p0.2.2.2.2.2.2.2.2.1,p0.2.2.2.2.2.2.2.2.2.1,p0.2.2.2.2.2.2.2.2.2.2.1,())).bind fun u1=>
 cond (!u1.1.1)
  ((Dk (p0.1,p0.2.1,p0.2.2.1,p0.2.2.2.1,p0.2.2.2.2.1,p0.2.2.2.2.2.1,p0.2.2.2.2.2.2.1,p0.2.2.2.2.2.2.2.1,p0.2.2.2.2.2.2.2.2.1,p0.2.2.2.2.2.2.2.2.2.1,p0.2.2.2.2.2.2.2.2.2.2.1,())).bind fun u2=>
  some (((((),u2.1.1.2.1,(),(),(),u2.1.1.2.2.2.2.2.1,(),(),(),(),u2.1.1.2.2.2.2.2.2.2.2.2.2.1,()),[98,97,100],()),()),(u2.2.1,u2.2.2.1,u2.2.2.2.1,u2.2.2.2.2.1,u2.2.2.2.2.2.1,u2.2.2.2.2.2.2.1,u2.2.2.2.2.2.2.2.1,u2.2.2.2.2.2.2.2.2.1,())))
 (cond (p1==[])
  ((Dk (p0.1,p0.2.1,p0.2.2.1,p0.2.2.2.1,p0.2.2.2.2.1,p0.2.2.2.2.2.1,p0.2.2.2.2.2.2.1,p0.2.2.2.2.2.2.2.1,p0.2.2.2.2.2.2.2.2.1,p0.2.2.2.2.2.2.2.2.2.1,p0.2.2.2.2.2.2.2.2.2.2.1,())).bind fun u3=>
  some (((((),u3.1.1.2.1,(),(),(),u3.1.1.2.2.2.2.2.1,(),(),(),(),u3.1.1.2.2.2.2.2.2.2.2.2.2.1,()),[],()),()),(u3.2.1,u3.2.2.1,u3.2.2.2.1,u3.2.2.2.2.1,u3.2.2.2.2.2.1,u3.2.2.2.2.2.2.1,u3.2.2.2.2.2.2.2.1,u3.2.2.2.2.2.2.2.2.1,())))
 (if(0:Int)<=(0:Int)/\(0:Int)<(p1.length:Int)then(
 cond (((p1.getD 0 0).toNat:Int)==35)
  ((Dk (p0.1,p0.2.1,p0.2.2.1,p0.2.2.2.1,p0.2.2.2.2.1,p0.2.2.2.2.2.1,p0.2.2.2.2.2.2.1,p0.2.2.2.2.2.2.2.1,p0.2.2.2.2.2.2.2.2.1,p0.2.2.2.2.2.2.2.2.2.1,p0.2.2.2.2.2.2.2.2.2.2.1,())).bind fun u5=>
  some (((((),u5.1.1.2.1,(),(),(),u5.1.1.2.2.2.2.2.1,(),(),(),(),u5.1.1.2.2.2.2.2.2.2.2.2.2.1,()),[],()),()),(u5.2.1,u5.2.2.1,u5.2.2.2.1,u5.2.2.2.2.1,u5.2.2.2.2.2.1,u5.2.2.2.2.2.2.1,u5.2.2.2.2.2.2.2.1,u5.2.2.2.2.2.2.2.2.1,())))
 (cond ((p1==[106,117,100,103,101]))
  ((VM (p0.1,p0.2.1,p0.2.2.1,p0.2.2.2.1,p0.2.2.2.2.1,p0.2.2.2.2.2.1,p0.2.2.2.2.2.2.1,p0.2.2.2.2.2.2.2.1,p0.2.2.2.2.2.2.2.2.1,p0.2.2.2.2.2.2.2.2.2.1,p0.2.2.2.2.2.2.2.2.2.2.1,())).bind fun u7=>
  cond (u7.1.1)
   ((Dk (p0.1,p0.2.1,p0.2.2.1,p0.2.2.2.1,p0.2.2.2.2.1,p0.2.2.2.2.2.1,p0.2.2.2.2.2.2.1,p0.2.2.2.2.2.2.2.1,p0.2.2.2.2.2.2.2.2.1,p0.2.2.2.2.2.2.2.2.2.1,p0.2.2.2.2.2.2.2.2.2.2.1,())).bind fun u8=>
   some (((((),u8.1.1.2.1,(),(),(),u8.1.1.2.2.2.2.2.1,(),(),(),(),u8.1.1.2.2.2.2.2.2.2.2.2.2.1,()),[121,101,115],()),()),(u8.2.1,u8.2.2.1,u8.2.2.2.1,u8.2.2.2.2.1,u8.2.2.2.2.2.1,u8.2.2.2.2.2.2.1,u8.2.2.2.2.2.2.2.1,u8.2.2.2.2.2.2.2.2.1,())))
  ((Dk (p0.1,p0.2.1,p0.2.2.1,p0.2.2.2.1,p0.2.2.2.2.1,p0.2.2.2.2.2.1,p0.2.2.2.2.2.2.1,p0.2.2.2.2.2.2.2.1,p0.2.2.2.2.2.2.2.2.1,p0.2.2.2.2.2.2.2.2.2.1,p0.2.2.2.2.2.2.2.2.2.2.1,())).bind fun u9=>
  some (((((),u9.1.1.2.1,(),(),(),u9.1.1.2.2.2.2.2.1,(),(),(),(),u9.1.1.2.2.2.2.2.2.2.2.2.2.1,()),[110,111],()),()),(u9.2.1,u9.2.2.1,u9.2.2.2.1,u9.2.2.2.2.1,u9.2.2.2.2.2.1,u9.2.2.2.2.2.2.1,u9.2.2.2.2.2.2.2.1,u9.2.2.2.2.2.2.2.2.1,()))))
 (cond ((p1==[111,117,116,32,48]))
  (if(0:Int)<=(0:Int)/\(0:Int)<(p0.2.2.2.2.2.2.2.2.1.length:Int)then(
  (Dk (p0.1,p0.2.1,p0.2.2.1,p0.2.2.2.1,p0.2.2.2.2.1,p0.2.2.2.2.2.1,p0.2.2.2.2.2.2.1,p0.2.2.2.2.2.2.2.1,p0.2.2.2.2.2.2.2.2.1,p0.2.2.2.2.2.2.2.2.2.1,p0.2.2.2.2.2.2.2.2.2.2.1,())).bind fun Hj=>
  (NI ((p0.2.2.2.2.2.2.2.2.1.getD 0 (0,0,[],())).1,(p0.2.2.2.2.2.2.2.2.1.getD 0 (0,0,[],())).2.1,(p0.2.2.2.2.2.2.2.2.1.getD 0 (0,0,[],())).2.2.1,())).bind fun WL=>
  some (((((),Hj.1.1.2.1,(),(),(),Hj.1.1.2.2.2.2.2.1,(),(),(),(),Hj.1.1.2.2.2.2.2.2.2.2.2.2.1,()),WL.1.1,()),()),(Hj.2.1,Hj.2.2.1,Hj.2.2.2.1,Hj.2.2.2.2.1,Hj.2.2.2.2.2.1,Hj.2.2.2.2.2.2.1,Hj.2.2.2.2.2.2.2.1,Hj.2.2.2.2.2.2.2.2.1,())))else none)
 (cond ((p1==[111,117,116,32,49]))
  (if(0:Int)<=(1:Int)/\(1:Int)<(p0.2.2.2.2.2.2.2.2.1.length:Int)then(
  (Dk (p0.1,p0.2.1,p0.2.2.1,p0.2.2.2.1,p0.2.2.2.2.1,p0.2.2.2.2.2.1,p0.2.2.2.2.2.2.1,p0.2.2.2.2.2.2.2.1,p0.2.2.2.2.2.2.2.2.1,p0.2.2.2.2.2.2.2.2.2.1,p0.2.2.2.2.2.2.2.2.2.2.1,())).bind fun qQ=>
  (NI ((p0.2.2.2.2.2.2.2.2.1.getD 1 (0,0,[],())).1,(p0.2.2.2.2.2.2.2.2.1.getD 1 (0,0,[],())).2.1,(p0.2.2.2.2.2.2.2.2.1.getD 1 (0,0,[],())).2.2.1,())).bind fun qF=>
  some (((((),qQ.1.1.2.1,(),(),(),qQ.1.1.2.2.2.2.2.1,(),(),(),(),qQ.1.1.2.2.2.2.2.2.2.2.2.2.1,()),qF.1.1,()),()),(qQ.2.1,qQ.2.2.1,qQ.2.2.2.1,qQ.2.2.2.2.1,qQ.2.2.2.2.2.1,qQ.2.2.2.2.2.2.1,qQ.2.2.2.2.2.2.2.1,qQ.2.2.2.2.2.2.2.2.1,())))else none)
 ((Te p1).bind fun rZ=>
 cond (!rZ.1.1.2.1)
  ((Dk (p0.1,p0.2.1,p0.2.2.1,p0.2.2.2.1,p0.2.2.2.2.1,p0.2.2.2.2.2.1,p0.2.2.2.2.2.2.1,p0.2.2.2.2.2.2.2.1,p0.2.2.2.2.2.2.2.2.1,p0.2.2.2.2.2.2.2.2.2.1,p0.2.2.2.2.2.2.2.2.2.2.1,())).bind fun gr=>
  some (((((),gr.1.1.2.1,(),(),(),gr.1.1.2.2.2.2.2.1,(),(),(),(),gr.1.1.2.2.2.2.2.2.2.2.2.2.1,()),[119,104,97,116],()),()),(gr.2.1,gr.2.2.1,gr.2.2.2.1,gr.2.2.2.2.1,gr.2.2.2.2.2.1,gr.2.2.2.2.2.2.1,gr.2.2.2.2.2.2.2.1,gr.2.2.2.2.2.2.2.2.1,())))
 ((MT (p0.1,p0.2.1,p0.2.2.1,p0.2.2.2.1,p0.2.2.2.2.1,p0.2.2.2.2.2.1,p0.2.2.2.2.2.2.1,p0.2.2.2.2.2.2.2.1,p0.2.2.2.2.2.2.2.2.1,p0.2.2.2.2.2.2.2.2.2.1,p0.2.2.2.2.2.2.2.2.2.2.1,()) (rZ.1.1.1.1,rZ.1.1.1.2.1,rZ.1.1.1.2.2.1,rZ.1.1.1.2.2.2.1,rZ.1.1.1.2.2.2.2.1,())).bind fun hY=>
 if(0:Int)<=hY.1.1.2.1/\hY.1.1.2.1<6 then(
 some (((((),hY.1.1.1.2.1,(),(),(),hY.1.1.1.2.2.2.2.2.1,(),(),(),(),hY.1.1.1.2.2.2.2.2.2.2.2.2.2.1,()),([[111,107],[98,97,100],[110,111,110,101],[108,111,115,116],[114,101,102,117,115,101,100],[119,97,105,116]].getD (hY.1.1.2.1.toNat) []),()),()),(hY.2.1,hY.2.2.1,hY.2.2.2.1,hY.2.2.2.2.1,hY.2.2.2.2.2.1,hY.2.2.2.2.2.2.1,hY.2.2.2.2.2.2.2.1,hY.2.2.2.2.2.2.2.2.1,())))else none))))))else none))
abbrev Jc:Type:=(AHP×Unit)×Unit
abbrev Uq:Type:=List AAZ->List UInt8->List AAZ->Int->Int->Int->Int->Bool->List Int->AAT->List Int->AAU->AAX->AAY->AAV->AAW->Option Jc
def LJ(iH:Uq)(t6:List AAZ)(t9:AAZ)(t45:List AAZ)(t46 t47 AF AM:Int)(AG:Bool)(b1:AAN)(b2:AAT)(b3:AAN)(b4:AAU)(b5:AAX)(b6:AAY)(b7:AAV)(b8:AAW):Option Jc:=
 cond (decide (t47<t46))
  (if(0:Int)<=t47/\t47<(t45.length:Int)then(
  (O5 (b1,AF,b2,b3,b4,AM,b5,b6,b7,b8,AG,()) (t45.getD (t47.toNat) [])).bind fun Pd=>
  let x15:AAW:=Pd.2.2.2.2.2.2.2.2.1
  cond (!(Pd.1.1.2.1==[]))
   (if Pd.1.1.2.1.length+1<=Cm then(
   if t9.length+(Pd.1.1.2.1++[10]).length<=Cm then(
   iH t6 (t9++(Pd.1.1.2.1++[10])) t45 t46 (AW (t47+1)) Pd.1.1.1.2.1 Pd.1.1.1.2.2.2.2.2.1 Pd.1.1.1.2.2.2.2.2.2.2.2.2.2.1 Pd.2.1 Pd.2.2.1 Pd.2.2.2.1 Pd.2.2.2.2.1 Pd.2.2.2.2.2.1 Pd.2.2.2.2.2.2.1 Pd.2.2.2.2.2.2.2.1 x15)else none)else none)
  (iH t6 t9 t45 t46 (AW (t47+1)) Pd.1.1.1.2.1 Pd.1.1.1.2.2.2.2.2.1 Pd.1.1.1.2.2.2.2.2.2.2.2.2.2.1 Pd.2.1 Pd.2.2.1 Pd.2.2.2.1 Pd.2.2.2.2.1 Pd.2.2.2.2.2.1 Pd.2.2.2.2.2.2.1 Pd.2.2.2.2.2.2.2.1 x15))else none)
 (some (((t9,(t6.length:Int),()),()),()))
def JF:Nat->Uq
 |0=>fun _ _ _ _ _ _ _ _ _ _ _ _ _ _ _ _=>none
 |n+1=>LJ (JF n)
def ZE(iH:Uq)(p0:AAb)(p1:AAZ):Option Jc:=
 (strings_Split p1 [10]).bind fun u1=>
 let x2:Int:=(u1.1.1.length:Int)
 if(0:Int)<=AW (x2-1)/\AW (x2-1)<(u1.1.1.length:Int)then(
 cond ((u1.1.1.getD ((AW (x2-1)).toNat) [])==[])
  (let x4:Int:=(u1.1.1.length:Int)
  if(0:Int)<=(0:Int)/\(0:Int)<=AW (x4-1)/\AW (x4-1)<=(u1.1.1.length:Int)then(
  (ED (p0.1,p0.2.1,())).bind fun u5=>
  cond ((decide ((p1.length:Int)>20000)))
   (some ((([],(-1),()),()),()))
  (cond (!u5.1.1.2.1)
   (some ((([],(-1),()),()),()))
  (cond (decide ((((u1.1.1.drop 0).take (((AW (x4-1)).toNat)-0)).length:Int)>200))
   (some ((([],(-2),()),()),()))
  (iH ((u1.1.1.drop 0).take (((AW (x4-1)).toNat)-0)) [] ((u1.1.1.drop 0).take (((AW (x4-1)).toNat)-0)) (((u1.1.1.drop 0).take (((AW (x4-1)).toNat)-0)).length:Int) 0 u5.1.1.1.2.1 u5.1.1.1.2.2.2.2.2.1 u5.1.1.1.2.2.2.2.2.2.2.2.2.2.1 u5.2.1 u5.2.2.1 u5.2.2.2.1 u5.2.2.2.2.1 u5.2.2.2.2.2.1 u5.2.2.2.2.2.2.1 u5.2.2.2.2.2.2.2.1 u5.2.2.2.2.2.2.2.2.1))))else none)
 ((ED (p0.1,p0.2.1,())).bind fun u9=>
 cond ((decide ((p1.length:Int)>20000)))
  (some ((([],(-1),()),()),()))
 (cond (!u9.1.1.2.1)
  (some ((([],(-1),()),()),()))
 (cond (decide ((u1.1.1.length:Int)>200))
  (some ((([],(-2),()),()),()))
 (iH u1.1.1 [] u1.1.1 (u1.1.1.length:Int) 0 u9.1.1.1.2.1 u9.1.1.1.2.2.2.2.2.1 u9.1.1.1.2.2.2.2.2.2.2.2.2.2.1 u9.2.1 u9.2.2.1 u9.2.2.2.1 u9.2.2.2.2.1 u9.2.2.2.2.2.1 u9.2.2.2.2.2.2.1 u9.2.2.2.2.2.2.2.1 u9.2.2.2.2.2.2.2.2.1)))))else none
def Mk(p0:AAb)(p1:AAZ):Option Jc:=ZE (JF AX) p0 p1
abbrev eW:Type:=AAg×Unit
def IY(p0:AAb)(p1:AAZ):Option eW:=
 cond ((decide ((p1.length:Int)>1048576)))
  (some ((true,()),()))
 ((VO (p0.1,p0.2.1,()) 1048576).bind fun u2=>
 cond (decide (u2.1.1<0))
  (some ((true,()),()))
 ((M7 (p0.1,p0.2.1,())).bind fun u3=>
 (Ps (u3.2.1,u3.1.1.2.1,()) p1).bind fun u4=>
 (M7 (p0.1,p0.2.1,())).bind fun u5=>
 (Mk (u5.2.1,u5.1.1.2.1,()) p1).bind fun u6=>
 cond ((!(u6.1.1.1==u4.1.1.1)))
  (some ((false,()),()))
 (cond ((u6.1.1.2.1 !=u4.1.1.2.1))
  (some ((false,()),()))
 ((M7 (p0.1,p0.2.1,())).bind fun u9=>
 (Uu (u5.2.1,u5.1.1.2.1,()) (u9.2.1,u9.1.1.2.1,())).bind fun FE=>
 cond (!FE.1.1)
  (some ((false,()),()))
 (some ((true,()),()))))))
end
end Go.M
