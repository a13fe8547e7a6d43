/- What each function computes, printed by a program out of the translation; what is printed is checked in the equations. -/
import Derived.Test.YtancechjahedgaaDoorF1
set_option linter.unusedVariables false
set_option linter.unusedSimpArgs false
set_option linter.unusedSectionVars false
namespace Go.M
open Go.Fw
noncomputable section
abbrev JM:Type:=T9×Unit
def Dt(p0 p1 p2:Int):Option JM:=
 cond (decide (p0≥p1))
  (some ((decide (p0≤p2),()),()))
 (some ((false,()),()))
abbrev IL:Type:=T9×Unit
def Ej(p0:Int):Option IL:=
 (Dt p0 1 30).bind fun u1=>
 some ((u1.1.1,()),())
abbrev Jv:Type:=T9×Unit
def GC(p0:Int):Option Jv:=
 (Dt p0 1 60).bind fun u1=>
 some ((u1.1.1,()),())
abbrev IC:Type:=T9×Unit
def B9(p0:Int):Option IC:=
 (Ej (NO (p0.tdiv 4294967296))).bind fun u2=>
 cond (u2.1.1)
  ((GC (p0.tmod 4294967296)).bind fun u3=>
  some ((u3.1.1,()),()))
 (some ((false,()),()))
abbrev I0:Type:=UC×Unit
def DN(p0:Int):Option I0:=
 (B9 p0).bind fun u1=>
 cond (!u1.1.1)
  (some ((0,()),()))
 (some (((NO (p0.tdiv 4294967296)),()),()))
abbrev J7:Type:=UC×Unit
def ES(p0:Int):Option J7:=
 (B9 p0).bind fun u1=>
 cond (!u1.1.1)
  (some ((0,()),()))
 (some ((p0.tmod 4294967296,()),()))
abbrev KX:Type:=T9×Unit
def ED(p0 p1 p2:Int):Option KX:=
 cond (decide (p0≥p1))
  (some ((decide (p0≤p2),()),()))
 (some ((false,()),()))
abbrev Ib:Type:=T9×Unit
def B8(p0:Int):Option Ib:=
 cond (decide (p0>0))
  ((ED (NO (p0.tdiv 4294967296)) 1 30).bind fun u2=>
  cond (u2.1.1)
   ((ED (p0.tmod 4294967296) 1 60).bind fun u3=>
   some ((u3.1.1,()),()))
  (some ((false,()),())))
 (some ((false,()),()))
abbrev IG:Type:=UC×Unit
def DK(p0:Int):Option IG:=
 (B8 p0).bind fun u1=>
 cond (!u1.1.1)
  (some ((0,()),()))
 (some (((NO (p0.tdiv 4294967296)),()),()))
abbrev Jt:Type:=UC×Unit
def EX(p0:Int):Option Jt:=
 (B8 p0).bind fun u1=>
 cond (!u1.1.1)
  (some ((0,()),()))
 (some ((p0.tmod 4294967296,()),()))
abbrev Da:Type:=((Unit×Int×Unit×Unit×Unit×Int×Unit×Unit×Unit×Unit×Bool×Unit)×Unit)×(List Int×(List (List UE×List UE×Int×Unit))×List Int×(List (List Int×Bool×Int×Unit))×(List (Int×List (List UInt8×List Int×Bool×Unit)×Unit))×(List (Int×Int×List Int×List UE×Bool×List (List Int)×Unit))×(List (Int×Int×List T_×Unit))×(List (Int×List UInt8×Bool×Unit))×Unit)
abbrev H4:Type:=UC×Unit
def ET(p0:T_)(p1:Int):Option H4:=
 let x1:Int:=(p0.2.2.1.length:Int)
 cond ((decide ((NO (p1-x1))<0)))
  (some (((-1),()),()))
 (some ((NO (p1-x1),()),()))
abbrev Iv:Type:=(T_×Unit)×Unit
def DG(p0:T_):Option Iv:=
 some (((p0.1,p0.2.1,p0.2.2.1,()),()),())
abbrev DF:Type:=UA×Unit
abbrev D8:Type:=Int→List UInt8→Option DF
def BW(R4:D8)(t0:Int)(t3:List UInt8):Option DF:=
 cond (decide (t0>0))
  (let x2:List UInt8:=([w8 ((NO (48+(t0.tmod 10))))].map fun n:Int=>UInt8.ofNat n.toNat)
  if x2.length+t3.length≤Dp then(
  R4 (NO (t0.tdiv 10)) (x2++t3))else none)
 (some ((t3,()),()))
def Bj:Nat→D8
 |0=>fun _ _=>none
 |n+1=>BW (Bj n)
def EO(R4:D8)(p0:Int):Option DF:=
 cond (decide (p0≤0))
  (some (([48],()),()))
 (R4 p0 [])
def CP(p0:Int):Option DF:=EO (Bj Mi) p0
abbrev G9:Type:=UA×Unit
def Ax(p0:Int):Option G9:=
 (B8 p0).bind fun u1=>
 cond (!u1.1.1)
  (some (([],()),()))
 ((DK p0).bind fun u2=>
 (CP u2.1.1).bind fun u3=>
 if 1+u3.1.1.length≤Dp then(
 if([101]++u3.1.1).length+1≤Dp then(
 let x4:List UInt8:=([101]++u3.1.1)++[46]
 (EX p0).bind fun u5=>
 (CP u5.1.1).bind fun u6=>
 if x4.length+u6.1.1.length≤Dp then(
 some ((x4++u6.1.1,()),()))else none)else none)else none)
abbrev G5:Type:=UA×Unit
def Bc(p0:T_):Option G5:=
 cond (p0.1==1)
  (cond (p0.2.2.1==[])
   ((Ax p0.2.1).bind fun u1=>
   if 5+u1.1.1.length≤Dp then(
   some ((([100,97,116,97,32]++u1.1.1),()),()))else none)
  ((Ax p0.2.1).bind fun u3=>
  if 5+u3.1.1.length≤Dp then(
  let x4:List UInt8:=[100,97,116,97,32]++u3.1.1
  if x4.length+1≤Dp then(
  if(x4++[32]).length+p0.2.2.1.length≤Dp then(
  some ((((x4++[32])++p0.2.2.1),()),()))else none)else none)else none))
 (cond (p0.1==2)
  ((Ax p0.2.1).bind fun u6=>
  if 5+u6.1.1.length≤Dp then(
  some ((([104,111,108,101,32]++u6.1.1),()),()))else none)
 (cond (p0.1==3)
  ((Ax p0.2.1).bind fun u8=>
  if 5+u8.1.1.length≤Dp then(
  some ((([108,111,115,115,32]++u8.1.1),()),()))else none)
 (cond (p0.1==4)
  ((CP p0.2.1).bind fun R2=>
  if 4+R2.1.1.length≤Dp then(
  some ((([101,114,97,32]++R2.1.1),()),()))else none)
 (cond (p0.1==5)
  ((Ax p0.2.1).bind fun R9=>
  if 5+R9.1.1.length≤Dp then(
  some ((([116,114,105,109,32]++R9.1.1),()),()))else none)
 (some (([],()),()))))))
abbrev Ix:Type:=UA×Unit
def strconv_Itoa(p0:Int):Option Ix:=(Lx p0).map fun l=>((l,()),())
abbrev JF:Type:=UA×Unit
def Be(p0:Int):Option JF:=
 (strconv_Itoa p0).bind fun u1=>
 some ((u1.1.1,()),())
abbrev HD:Type:=UA×Unit
def Ay(p0:Int):Option HD:=
 (B9 p0).bind fun u1=>
 cond (!u1.1.1)
  (some (([],()),()))
 ((DN p0).bind fun u2=>
 (Be u2.1.1).bind fun u3=>
 if 1+u3.1.1.length≤Dp then(
 if([101]++u3.1.1).length+1≤Dp then(
 let x4:List UInt8:=([101]++u3.1.1)++[46]
 (ES p0).bind fun u5=>
 (Be u5.1.1).bind fun u6=>
 if x4.length+u6.1.1.length≤Dp then(
 some ((x4++u6.1.1,()),()))else none)else none)else none)
abbrev G3:Type:=UA×Unit
def Cb(p0:T_):Option G3:=
 cond (p0.1==1)
  (cond (p0.2.2.1==[])
   ((Ay p0.2.1).bind fun u1=>
   if 5+u1.1.1.length≤Dp then(
   some ((([100,97,116,97,32]++u1.1.1),()),()))else none)
  ((Ay p0.2.1).bind fun u3=>
  if 5+u3.1.1.length≤Dp then(
  let x4:List UInt8:=[100,97,116,97,32]++u3.1.1
  if x4.length+1≤Dp then(
  if(x4++[32]).length+p0.2.2.1.length≤Dp then(
  some ((((x4++[32])++p0.2.2.1),()),()))else none)else none)else none))
 (cond (p0.1==2)
  ((Ay p0.2.1).bind fun u6=>
  if 5+u6.1.1.length≤Dp then(
  some ((([104,111,108,101,32]++u6.1.1),()),()))else none)
 (cond (p0.1==3)
  ((Ay p0.2.1).bind fun u8=>
  if 5+u8.1.1.length≤Dp then(
  some ((([108,111,115,115,32]++u8.1.1),()),()))else none)
 (cond (p0.1==4)
  ((Be (if 0>p0.2.1 then 0 else p0.2.1)).bind fun SI=>
  if 4+SI.1.1.length≤Dp then(
  some ((([101,114,97,32]++SI.1.1),()),()))else none)
 (cond (p0.1==5)
  ((Ay p0.2.1).bind fun SV=>
  if 5+SV.1.1.length≤Dp then(
  some ((([116,114,105,109,32]++SV.1.1),()),()))else none)
 (some (([],()),()))))))
abbrev EH:Type:=T9×Unit
def Av(p0:T_):Option EH:=
 (ET (p0.1,p0.2.1,p0.2.2.1,()) 1048576).bind fun u1=>
 cond (decide (u1.1.1<0))
  (some ((true,()),()))
 ((DG (p0.1,p0.2.1,p0.2.2.1,())).bind fun u2=>
 (Bc (u2.1.1.1,u2.1.1.2.1,u2.1.1.2.2.1,())).bind fun u3=>
 (DG (p0.1,p0.2.1,p0.2.2.1,())).bind fun u4=>
 (Cb (u4.1.1.1,u4.1.1.2.1,u4.1.1.2.2.1,())).bind fun u5=>
 cond (!(u5.1.1==u3.1.1))
  (some ((false,()),()))
 (some ((true,()),())))
end
end Go.M
