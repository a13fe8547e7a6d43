/- What each function computes, printed by a program out of the translation; what is printed is checked in the equations. -/
import Derived.Test.YtancechjahedgaaDoorF1
set_option linter.unusedVariables false
set_option linter.unusedSimpArgs false
set_option linter.unusedSectionVars false
namespace Go.M
open Go.Fw
noncomputable section
abbrev L8:Type:=ZG×Unit
def DX(p0 p1 p2:Int):Option L8:=
 cond (decide (p0≥p1))
  (some ((decide (p0≤p2),()),()))
 (some ((false,()),()))
abbrev Kv:Type:=ZG×Unit
def Dd(p0:Int):Option Kv:=
 (DX p0 1 30).bind fun u1=>
 some ((u1.1.1,()),())
abbrev M5:Type:=ZG×Unit
def FO(p0:Int):Option M5:=
 (DX p0 1 60).bind fun u1=>
 some ((u1.1.1,()),())
abbrev K0:Type:=ZG×Unit
def CN(p0:Int):Option K0:=
 (Dd (EY (p0.tdiv 4294967296))).bind fun u2=>
 cond (u2.1.1)
  ((FO (p0.tmod 4294967296)).bind fun u3=>
  some ((u3.1.1,()),()))
 (some ((false,()),()))
abbrev L9:Type:=ZG×Unit
def Fj(p0:ZC):Option L9:=
 some (((decide ((p0.length:Int)≤40)),()),())
abbrev LM:Type:=ZJ×Unit
def Eg(p0:Int):Option LM:=
 (CN p0).bind fun u1=>
 cond (!u1.1.1)
  (some ((0,()),()))
 (some (((EY (p0.tdiv 4294967296)),()),()))
abbrev Mp:Type:=ZJ×Unit
def Gm(p0:Int):Option Mp:=
 (CN p0).bind fun u1=>
 cond (!u1.1.1)
  (some ((0,()),()))
 (some ((p0.tmod 4294967296,()),()))
abbrev Ni:Type:=ZG×Unit
def C5(p0 p1 p2:Int):Option Ni:=
 cond (decide (p0≥p1))
  (some ((decide (p0≤p2),()),()))
 (some ((false,()),()))
abbrev Ki:Type:=ZH×Unit
def C4(p0:Int):Option Ki:=
 cond (p0==8)
  (some (([],()),()))
 (cond (p0==10)
  (some (([],()),()))
 (cond (p0==12)
  (some (([],()),()))
 (cond (p0==2)
  (some (([65,84],()),()))
 (cond (p0==3)
  (some (([65,66,67],()),()))
 (cond (p0==5)
  (some (([65,66],()),()))
 (cond (p0==14)
  (some (([65,66],()),()))
 (cond (p0==11)
  (some (([66,67],()),()))
 (cond (p0==13)
  (some (([80],()),()))
 (some (([65],()),()))))))))))
abbrev DC:Type:=ZG×Unit
abbrev E9:Type:=Int→Int→Int→Int→Int→Int→List UInt8→Int→Int→Int→Int→List UInt8→List Int→Option DC
def AX(R4:E9)(t12 t13 C7 Dq D4 Df:Int)(Cp:ZC)(Eb E8 Er Ep:Int)(Et:ZC)(b2:List Int):Option DC:=
 cond (decide (t13<t12))
  (if(0:Int)≤t13∧t13<(b2.length:Int)then(
  let x3:Int:=(b2.getD (t13.toNat) 0)
  cond (x3==65)
   (R4 t12 (EY (t13+1)) C7 Dq D4 Df Cp Eb 0 Er Ep Et b2)
  (cond (x3==80)
   (R4 t12 (EY (t13+1)) C7 Dq D4 Df Cp Eb 0 Er Ep Et b2)
  (cond (x3==66)
   (R4 t12 (EY (t13+1)) C7 Dq D4 Df Cp Eb E8 0 Ep Et b2)
  (cond (x3==67)
   (R4 t12 (EY (t13+1)) C7 Dq D4 Df Cp Eb E8 Er 0 Et b2)
  (cond (x3==84)
   (R4 t12 (EY (t13+1)) C7 Dq D4 Df Cp Eb E8 Er Ep [] b2)
  (R4 t12 (EY (t13+1)) C7 Dq D4 Df Cp Eb E8 Er Ep Et b2))))))else none)
 ((DX C7 1 16).bind fun u4=>
 cond (u4.1.1)
  (cond (((Eb==0)&&((E8==0)&&((Er==0)&&((Ep==0)&&((Et==[])&&true))))))
   ((Fj Cp).bind fun u6=>
   some ((u6.1.1,()),()))
  (some ((false,()),())))
 (some ((false,()),())))
def Ab:Nat→E9
 |0=>fun _ _ _ _ _ _ _ _ _ _ _ _ _=>none
 |n+1=>AX (Ab n)
def Fh(R4:E9)(p0:ZF):Option DC:=
 (C4 p0.1).bind fun u1=>
 if u1.1.1.length≤GC then(
 let x2:List Int:=(u1.1.1.map fun c=>(c.toNat:Int))
 R4 (x2.length:Int) 0 p0.1 p0.2.1 p0.2.2.1 p0.2.2.2.1 p0.2.2.2.2.1 0 p0.2.1 p0.2.2.1 p0.2.2.2.1 p0.2.2.2.2.1 x2)else none
def Fl(p0:ZF):Option DC:=Fh (Ab F5) p0
abbrev JT:Type:=ZK×Unit
def Da(p0 p1:Int):Option JT:=
 (Dd p0).bind fun u1=>
 cond (!u1.1.1)
  (some (((0,false,()),()),()))
 ((FO p1).bind fun u2=>
 cond (!u2.1.1)
  (some (((0,false,()),()),()))
 (some (((EY ((EY (4294967296*p0))+p1),true,()),()),())))
abbrev M0:Type:=ZJ×Unit
def E6(p0 p1:Int):Option M0:=
 cond (decide (p0<p1))
  (some ((p0,()),()))
 (some ((p1,()),()))
abbrev LQ:Type:=ZG×Unit
def CT(p0:Int):Option LQ:=
 cond (decide (p0>0))
  ((C5 (EY (p0.tdiv 4294967296)) 1 30).bind fun u2=>
  cond (u2.1.1)
   ((C5 (p0.tmod 4294967296) 1 60).bind fun u3=>
   some ((u3.1.1,()),()))
  (some ((false,()),())))
 (some ((false,()),()))
abbrev LX:Type:=ZJ×Unit
def En(p0:Int):Option LX:=
 (CT p0).bind fun u1=>
 cond (!u1.1.1)
  (some ((0,()),()))
 (some (((EY (p0.tdiv 4294967296)),()),()))
abbrev NR:Type:=ZJ×Unit
def Gd(p0:Int):Option NR:=
 (CT p0).bind fun u1=>
 cond (!u1.1.1)
  (some ((0,()),()))
 (some ((p0.tmod 4294967296,()),()))
abbrev KG:Type:=ZM×Unit
def Fv(p0:ZF):Option KG:=
 cond (p0.1==1)
  (some (((p0.1,p0.2.1,0,0,[],()),()),()))
 (cond (p0.1==4)
  (some (((p0.1,p0.2.1,0,0,[],()),()),()))
 (cond (p0.1==6)
  (some (((p0.1,p0.2.1,0,0,[],()),()),()))
 (cond (p0.1==7)
  (some (((p0.1,p0.2.1,0,0,[],()),()),()))
 (cond (p0.1==9)
  (some (((p0.1,p0.2.1,0,0,[],()),()),()))
 (cond (p0.1==13)
  (some (((p0.1,p0.2.1,0,0,[],()),()),()))
 (cond (p0.1==15)
  (some (((p0.1,p0.2.1,0,0,[],()),()),()))
 (cond (p0.1==16)
  (some (((p0.1,p0.2.1,0,0,[],()),()),()))
 (cond (p0.1==2)
  (some (((p0.1,p0.2.1,0,0,p0.2.2.2.2.1,()),()),()))
 (cond (p0.1==3)
  (some (((p0.1,p0.2.1,p0.2.2.1,p0.2.2.2.1,[],()),()),()))
 (cond (p0.1==5)
  (some (((p0.1,p0.2.1,p0.2.2.1,0,[],()),()),()))
 (cond (p0.1==14)
  (some (((p0.1,p0.2.1,p0.2.2.1,0,[],()),()),()))
 (cond (p0.1==11)
  (some (((p0.1,0,p0.2.2.1,p0.2.2.2.1,[],()),()),()))
 (some (((p0.1,0,0,0,[],()),()),()))))))))))))))
abbrev L4:Type:=ZG×Unit
def Fa(p0:ZF):Option L4:=
 (C5 p0.1 1 16).bind fun u1=>
 cond (u1.1.1)
  ((Fv (p0.1,p0.2.1,p0.2.2.1,p0.2.2.2.1,p0.2.2.2.2.1,())).bind fun u2=>
  cond (((p0.1==u2.1.1.1)&&((p0.2.1==u2.1.1.2.1)&&((p0.2.2.1==u2.1.1.2.2.1)&&((p0.2.2.2.1==u2.1.1.2.2.2.1)&&((p0.2.2.2.2.1==u2.1.1.2.2.2.2.1)&&true))))))
   (some ((decide ((p0.2.2.2.2.1.length:Int)≤40),()),()))
  (some ((false,()),())))
 (some ((false,()),()))
abbrev Jb:Type:=ZK×Unit
def Dj(p0 p1:Int):Option Jb:=
 (C5 p0 1 30).bind fun u1=>
 cond (!u1.1.1)
  (some (((0,false,()),()),()))
 ((C5 p1 1 60).bind fun u2=>
 cond (!u2.1.1)
  (some (((0,false,()),()),()))
 (some (((EY ((EY (4294967296*p0))+p1),true,()),()),())))
abbrev FH:Type:=((Unit×Int×Unit×Unit×Unit×Int×Unit×Unit×Unit×Unit×Bool×Unit)×Unit)×(List Int×(List (List ZN×List ZN×Int×Unit))×List Int×(List (List Int×Bool×Int×Unit))×(List (Int×List (List UInt8×List Int×Bool×Unit)×Unit))×(List (Int×Int×List Int×List ZN×Bool×List (List Int)×Unit))×(List (Int×Int×List (Int×Int×List UInt8×Unit)×Unit))×(List (Int×List UInt8×Bool×Unit))×Unit)
abbrev Eu:Type:=ZH×Unit
abbrev F4:Type:=Int→List UInt8→Option Eu
def CF(R4:F4)(t0:Int)(t3:ZC):Option Eu:=
 cond (decide (t0>0))
  (let x2:ZC:=([w8 ((EY (48+(t0.tmod 10))))].map fun n:Int=>UInt8.ofNat n.toNat)
  if x2.length+t3.length≤GC then(
  R4 (EY (t0.tdiv 10)) (x2++t3))else none)
 (some ((t3,()),()))
def CX:Nat→F4
 |0=>fun _ _=>none
 |n+1=>CF (CX n)
def GN(R4:F4)(p0:Int):Option Eu:=
 cond (decide (p0≤0))
  (some (([48],()),()))
 (R4 p0 [])
def ED(p0:Int):Option Eu:=GN (CX F5) p0
abbrev JS:Type:=ZH×Unit
def Cy(p0:Int):Option JS:=
 (CT p0).bind fun u1=>
 cond (!u1.1.1)
  (some (([],()),()))
 ((En p0).bind fun u2=>
 (ED u2.1.1).bind fun u3=>
 if 1+u3.1.1.length≤GC then(
 if([101]++u3.1.1).length+1≤GC then(
 let x4:ZC:=([101]++u3.1.1)++[46]
 (Gd p0).bind fun u5=>
 (ED u5.1.1).bind fun u6=>
 if x4.length+u6.1.1.length≤GC then(
 some ((x4++u6.1.1,()),()))else none)else none)else none)
abbrev Kh:Type:=ZH×Unit
def strconv_Itoa(p0:Int):Option Kh:=(PR p0).map fun l=>((l,()),())
abbrev MA:Type:=ZH×Unit
def Bh(p0:Int):Option MA:=
 (strconv_Itoa p0).bind fun u1=>
 some ((u1.1.1,()),())
abbrev JK:Type:=ZH×Unit
def CA(p0:Int):Option JK:=
 (CN p0).bind fun u1=>
 cond (!u1.1.1)
  (some (([],()),()))
 ((Eg p0).bind fun u2=>
 (Bh u2.1.1).bind fun u3=>
 if 1+u3.1.1.length≤GC then(
 if([101]++u3.1.1).length+1≤GC then(
 let x4:ZC:=([101]++u3.1.1)++[46]
 (Gm p0).bind fun u5=>
 (Bh u5.1.1).bind fun u6=>
 if x4.length+u6.1.1.length≤GC then(
 some ((x4++u6.1.1,()),()))else none)else none)else none)
abbrev Kz:Type:=ZH×Unit
def De(p0:Int):Option Kz:=
 if(0:Int)≤p0∧p0<17 then(
 some ((([[],[111,112,101,110],[97,100,100],[115,116,111,114,101],[115,121,110,99],[99,114,97,115,104],[108,111,115,101],[102,105,108,108],[109,101,110,100],[115,101,97,108],[112,108,97,110],[102,105,120],[99,108,111,115,101],[116,114,105,109],[114,101,97,100],[100,114,111,112],[112,114,117,110,101]].getD (p0.toNat) []),()),()))else none
abbrev LI:Type:=(Unit×Unit)×(List Int×Unit)
def Db(p0:ZF):Option LI:=
 cond (p0.1==8)
  (some (((),()),([],())))
 (cond (p0.1==10)
  (some (((),()),([],())))
 (cond (p0.1==12)
  (some (((),()),([],())))
 (cond (p0.1==13)
  (some (((),()),([],())))
 (cond (p0.1==3)
  (some (((),()),([p0.2.1,p0.2.2.1,p0.2.2.2.1],())))
 (cond (p0.1==5)
  (some (((),()),([p0.2.1,p0.2.2.1],())))
 (cond (p0.1==14)
  (some (((),()),([p0.2.1,p0.2.2.1],())))
 (cond (p0.1==11)
  (some (((),()),([p0.2.2.1,p0.2.2.2.1],())))
 (some (((),()),([p0.2.1],()))))))))))
abbrev B4:Type:=ZO×Unit
abbrev C1:Type:=Int→Int→Int→Int→Int→List UInt8→Option B4
abbrev Cf:Type:=List UInt8→Int→Int→Int→Int→Int→List UInt8→List Int→Option B4
def BU(R4:C1)(R2:Cf)(t4 C7 Dq D4 Df:Int)(Cp:ZC):Option B4:=
 cond ((decide (t4<(Cp.length:Int))))
  (if(0:Int)≤t4∧t4<(Cp.length:Int)then(
  cond (((Cp.getD (t4.toNat) 0).toNat:Int)==10)
   (some ((([],false,()),()),()))
  (R4 (EY (t4+1)) C7 Dq D4 Df Cp))else none)
 ((De C7).bind fun u5=>
 (Db (C7,Dq,D4,Df,Cp,())).bind fun u6=>
 R2 u5.1.1 0 C7 Dq D4 Df Cp u6.2.1)
def BH(R4:C1)(R2:Cf)(t5:ZC)(t7 C7 Dq D4 Df:Int)(Cp:ZC)(b1:List Int):Option B4:=
 cond ((decide (t7<(b1.length:Int))))
  (if(0:Int)≤t7∧t7<(b1.length:Int)then(
  (C5 (b1.getD (t7.toNat) 0) 0 9999999999).bind fun u9=>
  cond (!u9.1.1)
   (some ((([],false,()),()),()))
  (if t5.length+1≤GC then(
  if(0:Int)≤t7∧t7<(b1.length:Int)then(
  (ED (b1.getD (t7.toNat) 0)).bind fun JC=>
  if(t5++[32]).length+JC.1.1.length≤GC then(
  R2 ((t5++[32])++JC.1.1) (EY (t7+1)) C7 Dq D4 Df Cp b1)else none)else none)else none))else none)
 (cond (C7==2)
  (if t5.length+1≤GC then(
  if(t5++[32]).length+Cp.length≤GC then(
  some ((((t5++[32])++Cp,true,()),()),()))else none)else none)
 (cond (C7==13)
  (if t5.length+1≤GC then(
  (Cy Dq).bind fun Wz=>
  if(t5++[32]).length+Wz.1.1.length≤GC then(
  some (((((t5++[32])++Wz.1.1),true,()),()),()))else none)else none)
 (some (((t5,true,()),()),()))))
mutual
def An:Nat→C1
 |0=>fun _ _ _ _ _ _=>none
 |n+1=>BU (An n) (Aj n)
def Aj:Nat→Cf
 |0=>fun _ _ _ _ _ _ _ _=>none
 |n+1=>BH (An n) (Aj n)
end
def Ec(R4:C1)(R2:Cf)(p0:ZF):Option B4:=
 (Fa (p0.1,p0.2.1,p0.2.2.1,p0.2.2.2.1,p0.2.2.2.2.1,())).bind fun u1=>
 cond (!u1.1.1)
  (some ((([],false,()),()),()))
 (cond (p0.1==13)
  ((CT p0.2.1).bind fun u2=>
  cond (!u2.1.1)
   (some ((([],false,()),()),()))
  (R4 0 p0.1 p0.2.1 p0.2.2.1 p0.2.2.2.1 p0.2.2.2.2.1))
 (R4 0 p0.1 p0.2.1 p0.2.2.1 p0.2.2.2.1 p0.2.2.2.2.1))
def B8(p0:ZF):Option B4:=Ec (An F5) (Aj F5) p0
abbrev JO:Type:=(Unit×Unit)×(List ZC×Unit)
def Cq:Option JO:=
 some (((),()),([[111,112,101,110],[97,100,100],[115,116,111,114,101],[115,121,110,99],[99,114,97,115,104],[108,111,115,101],[102,105,108,108],[109,101,110,100],[115,101,97,108],[112,108,97,110],[102,105,120],[99,108,111,115,101],[116,114,105,109],[114,101,97,100],[100,114,111,112],[112,114,117,110,101]],()))
abbrev IC:Type:=ZG×Unit
def strings_Contains(p0:ZC)(p1:ZC):Option IC:=(Hn p0 p1).map fun l=>((l,()),())
abbrev GX:Type:=ZO×Unit
def Dy(p0:ZF)(p1:Int):Option GX:=
 cond (p1==84)
  ((strings_Contains p0.2.2.2.2.1 [10]).bind fun u1=>
  some (((p0.2.2.2.2.1,!u1.1.1,()),()),()))
 (cond (p1==80)
  ((CA p0.2.1).bind fun u2=>
  (CN p0.2.1).bind fun u3=>
  some (((u2.1.1,u3.1.1,()),()),()))
 (cond (p1==66)
  ((Bh p0.2.2.1).bind fun u4=>
  cond ((decide (p0.2.2.1≥0)))
   (some (((u4.1.1,decide ((u4.1.1.length:Int)≤10),()),()),()))
  (some (((u4.1.1,false,()),()),())))
 (cond (p1==67)
  ((Bh p0.2.2.2.1).bind fun u7=>
  cond ((decide (p0.2.2.2.1≥0)))
   (some (((u7.1.1,decide ((u7.1.1.length:Int)≤10),()),()),()))
  (some (((u7.1.1,false,()),()),())))
 ((Bh p0.2.1).bind fun WE=>
 cond (decide (p0.2.1≥0))
  (some (((WE.1.1,decide ((WE.1.1.length:Int)≤10),()),()),()))
 (some (((WE.1.1,false,()),()),()))))))
abbrev DH:Type:=ZO×Unit
abbrev D9:Type:=List UInt8→Int→Int→Int→Int→Int→Int→List UInt8→List Int→Option DH
def BV(R5:D9)(t4:ZC)(t22 t23 C7 Dq D4 Df:Int)(Cp:ZC)(b1:List Int):Option DH:=
 cond (decide (t23<t22))
  (if(0:Int)≤t23∧t23<(b1.length:Int)then(
  (Dy (C7,Dq,D4,Df,Cp,()) (b1.getD (t23.toNat) 0)).bind fun u7=>
  cond (!u7.1.1.2.1)
   (some ((([],false,()),()),()))
  (if 1+u7.1.1.1.length≤GC then(
  if t4.length+([32]++u7.1.1.1).length≤GC then(
  R5 (t4++([32]++u7.1.1.1)) t22 (EY (t23+1)) C7 Dq D4 Df Cp b1)else none)else none))else none)
 (some (((t4,true,()),()),()))
def Bk:Nat→D9
 |0=>fun _ _ _ _ _ _ _ _ _=>none
 |n+1=>BV (Bk n)
def Ee(R5:D9)(p0:ZF):Option DH:=
 (Fl (p0.1,p0.2.1,p0.2.2.1,p0.2.2.2.1,p0.2.2.2.2.1,())).bind fun u1=>
 cond (!u1.1.1)
  (some ((([],false,()),()),()))
 ((Cq).bind fun u2=>
 if(0:Int)≤EY (p0.1-1)∧EY (p0.1-1)<(u2.2.1.length:Int)then(
 (C4 p0.1).bind fun u4=>
 if u4.1.1.length≤GC then(
 let x5:List Int:=(u4.1.1.map fun c=>(c.toNat:Int))
 R5 (u2.2.1.getD ((EY (p0.1-1)).toNat) []) (x5.length:Int) 0 p0.1 p0.2.1 p0.2.2.1 p0.2.2.2.1 p0.2.2.2.2.1 x5)else none)else none)
def EH(p0:ZF):Option DH:=Ee (Bk F5) p0
abbrev DD:Type:=((Int×Int×Unit)×Unit)×Unit
abbrev D3:Type:=List UInt8→Int→Int→Int→Option DD
def Dc(R3:D3)(t0:ZC)(t1 t6 t7:Int):Option DD:=
 cond ((decide (t1<(t0.length:Int))))
  (if(0:Int)≤t1∧t1<(t0.length:Int)then(
  cond (decide (((t0.getD (t1.toNat) 0).toNat:Int)≥48))
   (if(0:Int)≤t1∧t1<(t0.length:Int)then(
   cond (decide (((t0.getD (t1.toNat) 0).toNat:Int)≤57))
    (cond ((decide ((EY (t1-t6))<11)))
     (if(0:Int)≤t1∧t1<(t0.length:Int)then(
     R3 t0 (EY (t1+1)) t6 (EY ((EY ((EY (10*t7))+(EY (((t0.getD (t1.toNat) 0).toNat:Int)))))-48)))else none)
    (cond (t1==t6)
     (some ((((-1),t1,()),()),()))
    (cond ((decide ((EY (t1-t6))>10)))
     (some ((((-1),t1,()),()),()))
    (some (((t7,t1,()),()),())))))
   (cond (t1==t6)
    (some ((((-1),t1,()),()),()))
   (cond ((decide ((EY (t1-t6))>10)))
    (some ((((-1),t1,()),()),()))
   (some (((t7,t1,()),()),())))))else none)
  (cond (t1==t6)
   (some ((((-1),t1,()),()),()))
  (cond ((decide ((EY (t1-t6))>10)))
   (some ((((-1),t1,()),()),()))
  (some (((t7,t1,()),()),())))))else none)
 (cond (t1==t6)
  (some ((((-1),t1,()),()),()))
 (cond ((decide ((EY (t1-t6))>10)))
  (some ((((-1),t1,()),()),()))
 (some (((t7,t1,()),()),()))))
def CH:Nat→D3
 |0=>fun _ _ _ _=>none
 |n+1=>Dc (CH n)
def Ic(R3:D3)(p0:ZC)(p1:Int):Option DD:=
 R3 p0 p1 p1 0
def EW(p0:ZC)(p1:Int):Option DD:=Ic (CH F5) p0 p1
abbrev M1:Type:=ZM×Unit
def Gh(p0:Int)(p1:List Int):Option M1:=
 cond (p0==11)
  (if(0:Int)≤(0:Int)∧(0:Int)<(p1.length:Int)then(
  if(0:Int)≤(1:Int)∧(1:Int)<(p1.length:Int)then(
  some (((p0,0,(p1.getD 0 0),(p1.getD 1 0),[],()),()),()))else none)else none)
 (cond ((decide ((p1.length:Int)>0)))
  (if(0:Int)≤(0:Int)∧(0:Int)<(p1.length:Int)then(
  cond ((decide ((p1.length:Int)>1)))
   (if(0:Int)≤(1:Int)∧(1:Int)<(p1.length:Int)then(
   cond ((decide ((p1.length:Int)>2)))
    (if(0:Int)≤(2:Int)∧(2:Int)<(p1.length:Int)then(
    some (((p0,(p1.getD 0 0),(p1.getD 1 0),(p1.getD 2 0),[],()),()),()))else none)
   (some (((p0,(p1.getD 0 0),(p1.getD 1 0),0,[],()),()),())))else none)
  (cond ((decide ((p1.length:Int)>2)))
   (if(0:Int)≤(2:Int)∧(2:Int)<(p1.length:Int)then(
   some (((p0,(p1.getD 0 0),0,(p1.getD 2 0),[],()),()),()))else none)
  (some (((p0,(p1.getD 0 0),0,0,[],()),()),()))))else none)
 (some (((p0,0,0,0,[],()),()),())))
abbrev Jk:Type:=ZK×Unit
def D1(p0:ZC):Option Jk:=
 cond ((decide ((p0.length:Int)<4)))
  (some (((0,false,()),()),()))
 ((EW p0 1).bind fun u2=>
 (EW p0 (EY (u2.1.1.2.1+1))).bind fun u3=>
 (Dj u2.1.1.1 u3.1.1.1).bind fun u4=>
 cond (!u4.1.1.2.1)
  (some (((0,false,()),()),()))
 ((Cy u4.1.1.1).bind fun u5=>
 cond (!(u5.1.1==p0))
  (some (((0,false,()),()),()))
 (some (((u4.1.1.1,true,()),()),()))))
abbrev BC:Type:=(ZP×Unit)×Unit
abbrev Ch:Type:=List UInt8→Int→Int→Int→Int→Int→List UInt8→Int→Int→Int→Int→List UInt8→Option BC
abbrev CM:Type:=List UInt8→Int→Int→Int→Int→Int→Int→Int→Int→List UInt8→Int→Int→Int→Int→List UInt8→List Int→Option BC
def BI(R3:Ch)(R2:CM)(t0:ZC)(t5 C7 Dq D4 Df:Int)(Cp:ZC)(Eb E8 Er Ep:Int)(Et:ZC):Option BC:=
 cond (decide (t5≤16))
  ((De t5).bind fun u1=>
  cond ((decide ((t0.length:Int)<(u1.1.1.length:Int))))
   (R3 t0 (EY (t5+1)) C7 Dq D4 Df Cp Eb E8 Er Ep Et)
  (let x4:Int:=(u1.1.1.length:Int)
  if(0:Int)≤(0:Int)∧(0:Int)≤x4∧x4≤(t0.length:Int)then(
  cond (!(((t0.drop 0).take ((x4.toNat)-0))==u1.1.1))
   (R3 t0 (EY (t5+1)) C7 Dq D4 Df Cp Eb E8 Er Ep Et)
  ((Db (t5,0,0,0,[],())).bind fun u6=>
  R2 t0 t5 (u6.2.1.length:Int) (u1.1.1.length:Int) 0 C7 Dq D4 Df Cp Eb E8 Er Ep Et []))else none))
 (some ((((Eb,E8,Er,Ep,Et,()),false,()),()),()))
def A_(R3:Ch)(R2:CM)(t0:ZC)(t5 t7 t8 t10 C7 Dq D4 Df:Int)(Cp:ZC)(Eb E8 Er Ep:Int)(Et:ZC)(b2:List Int):Option BC:=
 cond (decide (t10<t7))
  ((EW t0 (EY (t8+1))).bind fun u9=>
  cond ((decide (u9.1.1.1<0)))
   (some ((((Eb,E8,Er,Ep,Et,()),false,()),()),()))
  (if b2.length+1≤GC then(
  R2 t0 t5 t7 u9.1.1.2.1 (EY (t10+1)) C7 Dq D4 Df Cp Eb E8 Er Ep Et (b2++[u9.1.1.1]))else none))
 ((Gh t5 b2).bind fun JC=>
 cond (t5==2)
  ((E6 (EY (t8+1)) (t0.length:Int)).bind fun VO=>
  if(0:Int)≤VO.1.1∧VO.1.1≤(t0.length:Int)∧(t0.length:Int)≤(t0.length:Int)then(
  let Wh:ZC:=((t0.drop (VO.1.1.toNat)).take (((t0.length:Int).toNat)-(VO.1.1.toNat)))
  (B8 (JC.1.1.1,JC.1.1.2.1,JC.1.1.2.2.1,JC.1.1.2.2.2.1,Wh,())).bind fun U6=>
  cond (!U6.1.1.2.1)
   (some ((((Eb,E8,Er,Ep,Et,()),false,()),()),()))
  (cond (!(U6.1.1.1==t0))
   (some ((((Eb,E8,Er,Ep,Et,()),false,()),()),()))
  (some ((((JC.1.1.1,JC.1.1.2.1,JC.1.1.2.2.1,JC.1.1.2.2.2.1,Wh,()),true,()),()),()))))else none)
 (cond (t5==13)
  ((E6 (EY (t8+1)) (t0.length:Int)).bind fun VC=>
  if(0:Int)≤VC.1.1∧VC.1.1≤(t0.length:Int)∧(t0.length:Int)≤(t0.length:Int)then(
  (D1 ((t0.drop (VC.1.1.toNat)).take (((t0.length:Int).toNat)-(VC.1.1.toNat)))).bind fun XA=>
  (B8 (JC.1.1.1,XA.1.1.1,JC.1.1.2.2.1,JC.1.1.2.2.2.1,JC.1.1.2.2.2.2.1,())).bind fun Wu=>
  cond (!Wu.1.1.2.1)
   (some ((((Eb,E8,Er,Ep,Et,()),false,()),()),()))
  (cond (!(Wu.1.1.1==t0))
   (some ((((Eb,E8,Er,Ep,Et,()),false,()),()),()))
  (some ((((JC.1.1.1,XA.1.1.1,JC.1.1.2.2.1,JC.1.1.2.2.2.1,JC.1.1.2.2.2.2.1,()),true,()),()),()))))else none)
 ((B8 (JC.1.1.1,JC.1.1.2.1,JC.1.1.2.2.1,JC.1.1.2.2.2.1,JC.1.1.2.2.2.2.1,())).bind fun Wx=>
 cond (!Wx.1.1.2.1)
  (some ((((Eb,E8,Er,Ep,Et,()),false,()),()),()))
 (cond (!(Wx.1.1.1==t0))
  (some ((((Eb,E8,Er,Ep,Et,()),false,()),()),()))
 (some ((((JC.1.1.1,JC.1.1.2.1,JC.1.1.2.2.1,JC.1.1.2.2.2.1,JC.1.1.2.2.2.2.1,()),true,()),()),()))))))
mutual
def Ae:Nat→Ch
 |0=>fun _ _ _ _ _ _ _ _ _ _ _ _=>none
 |n+1=>BI (Ae n) (Ag n)
def Ag:Nat→CM
 |0=>fun _ _ _ _ _ _ _ _ _ _ _ _ _ _ _ _=>none
 |n+1=>A_ (Ae n) (Ag n)
end
def EP(R3:Ch)(R2:CM)(p0:ZC):Option BC:=
 R3 p0 1 0 0 0 0 [] 0 0 0 0 []
def Dl(p0:ZC):Option BC:=EP (Ae F5) (Ag F5) p0
abbrev H0:Type:=((List UInt8×List UInt8×Bool×Unit)×Unit)×Unit
def strings_Cut(p0:ZC)(p1:ZC):Option H0:=(SO p0 p1).map fun l=>(((l.1,l.2.1,l.2.2,()),()),())
abbrev Ea:Type:=ZJ×Unit
def Bn(p0:List ZC)(p1:ZC):Option Ea:=(Mm p0 p1).map fun l=>((l,()),())
abbrev IZ:Type:=ZK×Unit
def Bv(p0:ZC)(p1:Int):Option IZ:=(Am p0 p1).map fun l=>(((l.1,l.2,()),()),())
abbrev Hf:Type:=ZH×Unit
def strings_TrimPrefix(p0:ZC)(p1:ZC):Option Hf:=(J4 p0 p1).map fun l=>((l,()),())
abbrev GG:Type:=ZK×Unit
def Co(p0:ZC):Option GG:=
 (strings_TrimPrefix p0 [101]).bind fun u1=>
 (strings_Cut u1.1.1 [46]).bind fun u2=>
 (Bv u2.1.1.1 2).bind fun u3=>
 (Bv u2.1.1.2.1 2).bind fun u4=>
 (Da u3.1.1.1 u4.1.1.1).bind fun u5=>
 cond (!u3.1.1.2.1)
  (some (((0,false,()),()),()))
 (cond (!u4.1.1.2.1)
  (some (((0,false,()),()),()))
 (cond (!u5.1.1.2.1)
  (some (((0,false,()),()),()))
 ((CA u5.1.1.1).bind fun u6=>
 cond (!(u6.1.1==p0))
  (some (((0,false,()),()),()))
 (some (((u5.1.1.1,true,()),()),())))))
abbrev HE:Type:=ZH×ZM
def CP(p1:Int)(p2:ZC)(C7 Dq D4 Df:Int)(Cp:ZC):Option HE:=
 cond (p1==84)
  (some (([],()),((C7,Dq,D4,Df,p2,()),())))
 ((strings_Cut p2 [32]).bind fun u1=>
 (Bv u1.1.1.1 10).bind fun u2=>
 cond (p1==65)
  (some ((u1.1.1.2.1,()),((C7,u2.1.1.1,D4,Df,Cp,()),())))
 (cond (p1==66)
  (some ((u1.1.1.2.1,()),((C7,Dq,u2.1.1.1,Df,Cp,()),())))
 (cond (p1==67)
  (some ((u1.1.1.2.1,()),((C7,Dq,D4,u2.1.1.1,Cp,()),())))
 (cond (p1==80)
  ((Co u1.1.1.1).bind fun u3=>
  some ((u1.1.1.2.1,()),((C7,u3.1.1.1,D4,Df,Cp,()),())))
 (some ((u1.1.1.2.1,()),((C7,Dq,D4,Df,Cp,()),())))))))
abbrev C6:Type:=(ZP×Unit)×Unit
abbrev Dv:Type:=List UInt8→List UInt8→Int→Int→Int→Int→Int→Int→List UInt8→Int→Int→Int→Int→List UInt8→List Int→Option C6
def BK(R6:Dv)(t0 t5:ZC)(t31 t32 C7 Dq D4 Df:Int)(Cp:ZC)(Eb E8 Er Ep:Int)(Et:ZC)(b2:List Int):Option C6:=
 cond (decide (t32<t31))
  (if(0:Int)≤t32∧t32<(b2.length:Int)then(
  (CP (b2.getD (t32.toNat) 0) t5 Eb E8 Er Ep Et).bind fun u8=>
  R6 t0 u8.1.1 t31 (EY (t32+1)) C7 Dq D4 Df Cp u8.2.1.1 u8.2.1.2.1 u8.2.1.2.2.1 u8.2.1.2.2.2.1 u8.2.1.2.2.2.2.1 b2)else none)
 ((EH (Eb,E8,Er,Ep,Et,())).bind fun u9=>
 cond (!u9.1.1.2.1)
  (some ((((0,0,0,0,[],()),false,()),()),()))
 (cond (!(u9.1.1.1==t0))
  (some ((((0,0,0,0,[],()),false,()),()),()))
 (some ((((Eb,E8,Er,Ep,Et,()),true,()),()),()))))
def BM:Nat→Dv
 |0=>fun _ _ _ _ _ _ _ _ _ _ _ _ _ _ _=>none
 |n+1=>BK (BM n)
def EU(R6:Dv)(p0:ZC):Option C6:=
 (strings_Cut p0 [32]).bind fun u1=>
 (Cq).bind fun u2=>
 (Bn u2.2.1 u1.1.1.1).bind fun u3=>
 cond (((EY (1+u3.1.1))==0))
  (some ((((0,0,0,0,[],()),false,()),()),()))
 ((C4 (EY (1+u3.1.1))).bind fun u5=>
 if u5.1.1.length≤GC then(
 let x6:List Int:=(u5.1.1.map fun c=>(c.toNat:Int))
 R6 p0 u1.1.1.2.1 (x6.length:Int) 0 0 0 0 0 [] (EY (1+u3.1.1)) 0 0 0 [] x6)else none)
def Dh(p0:ZC):Option C6:=EU (BM F5) p0
abbrev L5:Type:=ZG×Unit
def Fg(p0 p1:ZF):Option L5:=
 cond (p0.1 !=p1.1)
  (some ((false,()),()))
 (cond (p0.2.1 !=p1.2.1)
  (some ((false,()),()))
 (cond (p0.2.2.1 !=p1.2.2.1)
  (some ((false,()),()))
 (cond ((p0.2.2.2.1 !=p1.2.2.2.1))
  (some ((false,()),()))
 (cond ((!(p0.2.2.2.2.1==p1.2.2.2.2.1)))
  (some ((false,()),()))
 (some ((true,()),()))))))
abbrev GO:Type:=ZG×Unit
def BA(p0:ZC):Option GO:=
 cond ((decide ((p0.length:Int)>1048576)))
  (some ((true,()),()))
 ((Dl p0).bind fun u2=>
 (Dh p0).bind fun u3=>
 (Fg (u3.1.1.1.1,u3.1.1.1.2.1,u3.1.1.1.2.2.1,u3.1.1.1.2.2.2.1,u3.1.1.1.2.2.2.2.1,()) (u2.1.1.1.1,u2.1.1.1.2.1,u2.1.1.1.2.2.1,u2.1.1.1.2.2.2.1,u2.1.1.1.2.2.2.2.1,())).bind fun u4=>
 cond (!u4.1.1)
  (some ((false,()),()))
 (cond ((u3.1.1.2.1 !=u2.1.1.2.1))
  (some ((false,()),()))
 (some ((true,()),()))))
end
end Go.M
