/- What each function computes, printed by a program out of the translation; what is printed is checked in the equations. -/
import Derived.Test.YtancechjahedgaaDoorF1
set_option linter.unusedVariables false
set_option linter.unusedSimpArgs false
set_option linter.unusedSectionVars false
namespace Go.M
open Go.Fw
noncomputable section
abbrev Kc:Type:=V_×Unit
def Cg(p0 p1 p2:Int):Option Kc:=
 cond (decide (p0≥p1))
  (some ((decide (p0≤p2),()),()))
 (some ((false,()),()))
abbrev JV:Type:=V_×Unit
def FX(p0:Int):Option JV:=
 (Cg p0 1 30).bind fun u1=>
 some ((u1.1.1,()),())
abbrev LD:Type:=V_×Unit
def HC(p0:Int):Option LD:=
 (Cg p0 1 60).bind fun u1=>
 some ((u1.1.1,()),())
abbrev Jr:Type:=V_×Unit
def Bw(p0:Int):Option Jr:=
 (FX (IV (p0.tdiv 4294967296))).bind fun u2=>
 cond (u2.1.1)
  ((HC (p0.tmod 4294967296)).bind fun u3=>
  some ((u3.1.1,()),()))
 (some ((false,()),()))
abbrev Kf:Type:=V_×Unit
def EU(p0:V7):Option Kf:=
 some (((decide ((p0.length:Int)≤40)),()),())
abbrev Jm:Type:=WC×Unit
def Dt(p0:Int):Option Jm:=
 (Bw p0).bind fun u1=>
 cond (!u1.1.1)
  (some ((0,()),()))
 (some (((IV (p0.tdiv 4294967296)),()),()))
abbrev Lg:Type:=WC×Unit
def FU(p0:Int):Option Lg:=
 (Bw p0).bind fun u1=>
 cond (!u1.1.1)
  (some ((0,()),()))
 (some ((p0.tmod 4294967296,()),()))
abbrev Lu:Type:=V_×Unit
def DJ(p0 p1 p2:Int):Option Lu:=
 cond (decide (p0≥p1))
  (some ((decide (p0≤p2),()),()))
 (some ((false,()),()))
abbrev J5:Type:=WA×Unit
def Cy(p0:Int):Option J5:=
 cond (p0==8)
  (some (([],()),()))
 (cond (p0==10)
  (some (([],()),()))
 (cond (p0==12)
  (some (([],()),()))
 (cond (p0==2)
  (some (([65,84],()),()))
 (cond (p0==3)
  (some (([65,66,67],()),()))
 (cond (p0==5)
  (some (([65,66],()),()))
 (cond (p0==14)
  (some (([65,66],()),()))
 (cond (p0==11)
  (some (([66,67],()),()))
 (cond (p0==13)
  (some (([80],()),()))
 (some (([65],()),()))))))))))
abbrev CU:Type:=V_×Unit
abbrev D8:Type:=Int→Int→Int→Int→Int→Int→List UInt8→Int→Int→Int→Int→List UInt8→List Int→Option CU
def AN(R4:D8)(t12 t13 FG Gi G6 G1:Int)(Ee:V7)(Ml PG N8 N5:Int)(Np:V7)(b2:List Int):Option CU:=
 cond (decide (t13<t12))
  (if(0:Int)≤t13∧t13<(b2.length:Int)then(
  let x3:Int:=(b2.getD (t13.toNat) 0)
  cond (x3==65)
   (R4 t12 (IV (t13+1)) FG Gi G6 G1 Ee Ml 0 N8 N5 Np b2)
  (cond (x3==80)
   (R4 t12 (IV (t13+1)) FG Gi G6 G1 Ee Ml 0 N8 N5 Np b2)
  (cond (x3==66)
   (R4 t12 (IV (t13+1)) FG Gi G6 G1 Ee Ml PG 0 N5 Np b2)
  (cond (x3==67)
   (R4 t12 (IV (t13+1)) FG Gi G6 G1 Ee Ml PG N8 0 Np b2)
  (cond (x3==84)
   (R4 t12 (IV (t13+1)) FG Gi G6 G1 Ee Ml PG N8 N5 [] b2)
  (R4 t12 (IV (t13+1)) FG Gi G6 G1 Ee Ml PG N8 N5 Np b2))))))else none)
 ((Cg FG 1 16).bind fun u4=>
 cond (u4.1.1)
  (cond (((Ml==0)&&((PG==0)&&((N8==0)&&((N5==0)&&((Np==[])&&true))))))
   ((EU Ee).bind fun u6=>
   some ((u6.1.1,()),()))
  (some ((false,()),())))
 (some ((false,()),())))
def AR:Nat→D8
 |0=>fun _ _ _ _ _ _ _ _ _ _ _ _ _=>none
 |n+1=>AN (AR n)
def EY(R4:D8)(p0:V9):Option CU:=
 (Cy p0.1).bind fun u1=>
 if u1.1.1.length≤FE then(
 let x2:List Int:=(u1.1.1.map fun c=>(c.toNat:Int))
 R4 (x2.length:Int) 0 p0.1 p0.2.1 p0.2.2.1 p0.2.2.2.1 p0.2.2.2.2.1 0 p0.2.1 p0.2.2.1 p0.2.2.2.1 p0.2.2.2.2.1 x2)else none
def Ed(p0:V9):Option CU:=EY (AR HQ) p0
abbrev J2:Type:=V_×Unit
def Bu(p0:Int):Option J2:=
 cond (decide (p0>0))
  ((DJ (IV (p0.tdiv 4294967296)) 1 30).bind fun u2=>
  cond (u2.1.1)
   ((DJ (p0.tmod 4294967296) 1 60).bind fun u3=>
   some ((u3.1.1,()),()))
  (some ((false,()),())))
 (some ((false,()),()))
abbrev JF:Type:=WC×Unit
def Dn(p0:Int):Option JF:=
 (Bu p0).bind fun u1=>
 cond (!u1.1.1)
  (some ((0,()),()))
 (some (((IV (p0.tdiv 4294967296)),()),()))
abbrev LJ:Type:=WC×Unit
def FF(p0:Int):Option LJ:=
 (Bu p0).bind fun u1=>
 cond (!u1.1.1)
  (some ((0,()),()))
 (some ((p0.tmod 4294967296,()),()))
abbrev Iu:Type:=(V9×Unit)×Unit
def Em(p0:V9):Option Iu:=
 cond (p0.1==1)
  (some (((p0.1,p0.2.1,0,0,[],()),()),()))
 (cond (p0.1==4)
  (some (((p0.1,p0.2.1,0,0,[],()),()),()))
 (cond (p0.1==6)
  (some (((p0.1,p0.2.1,0,0,[],()),()),()))
 (cond (p0.1==7)
  (some (((p0.1,p0.2.1,0,0,[],()),()),()))
 (cond (p0.1==9)
  (some (((p0.1,p0.2.1,0,0,[],()),()),()))
 (cond (p0.1==13)
  (some (((p0.1,p0.2.1,0,0,[],()),()),()))
 (cond (p0.1==15)
  (some (((p0.1,p0.2.1,0,0,[],()),()),()))
 (cond (p0.1==16)
  (some (((p0.1,p0.2.1,0,0,[],()),()),()))
 (cond (p0.1==2)
  (some (((p0.1,p0.2.1,0,0,p0.2.2.2.2.1,()),()),()))
 (cond (p0.1==3)
  (some (((p0.1,p0.2.1,p0.2.2.1,p0.2.2.2.1,[],()),()),()))
 (cond (p0.1==5)
  (some (((p0.1,p0.2.1,p0.2.2.1,0,[],()),()),()))
 (cond (p0.1==14)
  (some (((p0.1,p0.2.1,p0.2.2.1,0,[],()),()),()))
 (cond (p0.1==11)
  (some (((p0.1,0,p0.2.2.1,p0.2.2.2.1,[],()),()),()))
 (some (((p0.1,0,0,0,[],()),()),()))))))))))))))
abbrev KY:Type:=V_×Unit
def EX(p0:V9):Option KY:=
 (DJ p0.1 1 16).bind fun u1=>
 cond (u1.1.1)
  ((Em (p0.1,p0.2.1,p0.2.2.1,p0.2.2.2.1,p0.2.2.2.2.1,())).bind fun u2=>
  cond (((p0.1==u2.1.1.1)&&((p0.2.1==u2.1.1.2.1)&&((p0.2.2.1==u2.1.1.2.2.1)&&((p0.2.2.2.1==u2.1.1.2.2.2.1)&&((p0.2.2.2.2.1==u2.1.1.2.2.2.2.1)&&true))))))
   (some ((decide ((p0.2.2.2.2.1.length:Int)≤40),()),()))
  (some ((false,()),())))
 (some ((false,()),()))
abbrev EB:Type:=((Unit×Int×Unit×Unit×Unit×Int×Unit×Unit×Unit×Unit×Bool×Unit)×Unit)×(List Int×(List (List WE×List WE×Int×Unit))×List Int×(List (List Int×Bool×Int×Unit))×(List (Int×List (List UInt8×List Int×Bool×Unit)×Unit))×(List (Int×Int×List Int×List WE×Bool×List (List Int)×Unit))×(List (Int×Int×List (Int×Int×List UInt8×Unit)×Unit))×(List (Int×List UInt8×Bool×Unit))×Unit)
abbrev Dl:Type:=WA×Unit
abbrev Ei:Type:=Int→List UInt8→Option Dl
def Bh(R4:Ei)(t0:Int)(t3:V7):Option Dl:=
 cond (decide (t0>0))
  (let x2:V7:=([w8 ((IV (48+(t0.tmod 10))))].map fun n:Int=>UInt8.ofNat n.toNat)
  if x2.length+t3.length≤FE then(
  R4 (IV (t0.tdiv 10)) (x2++t3))else none)
 (some ((t3,()),()))
def B4:Nat→Ei
 |0=>fun _ _=>none
 |n+1=>Bh (B4 n)
def E4(R4:Ei)(p0:Int):Option Dl:=
 cond (decide (p0≤0))
  (some (([48],()),()))
 (R4 p0 [])
def DF(p0:Int):Option Dl:=E4 (B4 HQ) p0
abbrev H5:Type:=WA×Unit
def Ct(p0:Int):Option H5:=
 (Bu p0).bind fun u1=>
 cond (!u1.1.1)
  (some (([],()),()))
 ((Dn p0).bind fun u2=>
 (DF u2.1.1).bind fun u3=>
 if 1+u3.1.1.length≤FE then(
 if([101]++u3.1.1).length+1≤FE then(
 let x4:V7:=([101]++u3.1.1)++[46]
 (FF p0).bind fun u5=>
 (DF u5.1.1).bind fun u6=>
 if x4.length+u6.1.1.length≤FE then(
 some ((x4++u6.1.1,()),()))else none)else none)else none)
abbrev KA:Type:=WA×Unit
def strconv_Itoa(p0:Int):Option KA:=(Nd p0).map fun l=>((l,()),())
abbrev KZ:Type:=WA×Unit
def BO(p0:Int):Option KZ:=
 (strconv_Itoa p0).bind fun u1=>
 some ((u1.1.1,()),())
abbrev ID:Type:=WA×Unit
def Cx(p0:Int):Option ID:=
 (Bw p0).bind fun u1=>
 cond (!u1.1.1)
  (some (([],()),()))
 ((Dt p0).bind fun u2=>
 (BO u2.1.1).bind fun u3=>
 if 1+u3.1.1.length≤FE then(
 if([101]++u3.1.1).length+1≤FE then(
 let x4:V7:=([101]++u3.1.1)++[46]
 (FU p0).bind fun u5=>
 (BO u5.1.1).bind fun u6=>
 if x4.length+u6.1.1.length≤FE then(
 some ((x4++u6.1.1,()),()))else none)else none)else none)
abbrev KU:Type:=WC×Unit
def GU(p0:V9)(p1:Int):Option KU:=
 let x1:Int:=(p0.2.2.2.2.1.length:Int)
 cond ((decide ((IV (p1-x1))<0)))
  (some (((-1),()),()))
 (some ((IV (p1-x1),()),()))
abbrev Kb:Type:=(V9×Unit)×Unit
def EO(p0:V9):Option Kb:=
 some (((p0.1,p0.2.1,p0.2.2.1,p0.2.2.2.1,p0.2.2.2.2.1,()),()),())
abbrev Je:Type:=WA×Unit
def Dr(p0:Int):Option Je:=
 if(0:Int)≤p0∧p0<17 then(
 some ((([[],[111,112,101,110],[97,100,100],[115,116,111,114,101],[115,121,110,99],[99,114,97,115,104],[108,111,115,101],[102,105,108,108],[109,101,110,100],[115,101,97,108],[112,108,97,110],[102,105,120],[99,108,111,115,101],[116,114,105,109],[114,101,97,100],[100,114,111,112],[112,114,117,110,101]].getD (p0.toNat) []),()),()))else none
abbrev JU:Type:=(Unit×Unit)×(List Int×Unit)
def Dq(p0:V9):Option JU:=
 cond (p0.1==8)
  (some (((),()),([],())))
 (cond (p0.1==10)
  (some (((),()),([],())))
 (cond (p0.1==12)
  (some (((),()),([],())))
 (cond (p0.1==13)
  (some (((),()),([],())))
 (cond (p0.1==3)
  (some (((),()),([p0.2.1,p0.2.2.1,p0.2.2.2.1],())))
 (cond (p0.1==5)
  (some (((),()),([p0.2.1,p0.2.2.1],())))
 (cond (p0.1==14)
  (some (((),()),([p0.2.1,p0.2.2.1],())))
 (cond (p0.1==11)
  (some (((),()),([p0.2.2.1,p0.2.2.2.1],())))
 (some (((),()),([p0.2.1],()))))))))))
abbrev Bd:Type:=WG×Unit
abbrev CO:Type:=Int→Int→Int→Int→Int→List UInt8→Option Bd
abbrev CD:Type:=List UInt8→Int→Int→Int→Int→Int→List UInt8→List Int→Option Bd
def BE(R4:CO)(SW:CD)(t4 FG Gi G6 G1:Int)(Ee:V7):Option Bd:=
 cond ((decide (t4<(Ee.length:Int))))
  (if(0:Int)≤t4∧t4<(Ee.length:Int)then(
  cond (((Ee.getD (t4.toNat) 0).toNat:Int)==10)
   (some ((([],false,()),()),()))
  (R4 (IV (t4+1)) FG Gi G6 G1 Ee))else none)
 ((Dr FG).bind fun u5=>
 (Dq (FG,Gi,G6,G1,Ee,())).bind fun u6=>
 SW u5.1.1 0 FG Gi G6 G1 Ee u6.2.1)
def A6(R4:CO)(SW:CD)(t5:V7)(t7 FG Gi G6 G1:Int)(Ee:V7)(b1:List Int):Option Bd:=
 cond ((decide (t7<(b1.length:Int))))
  (if(0:Int)≤t7∧t7<(b1.length:Int)then(
  (DJ (b1.getD (t7.toNat) 0) 0 9999999999).bind fun u9=>
  cond (!u9.1.1)
   (some ((([],false,()),()),()))
  (if t5.length+1≤FE then(
  if(0:Int)≤t7∧t7<(b1.length:Int)then(
  (DF (b1.getD (t7.toNat) 0)).bind fun UB=>
  if(t5++[32]).length+UB.1.1.length≤FE then(
  SW ((t5++[32])++UB.1.1) (IV (t7+1)) FG Gi G6 G1 Ee b1)else none)else none)else none))else none)
 (cond (FG==2)
  (if t5.length+1≤FE then(
  if(t5++[32]).length+Ee.length≤FE then(
  some ((((t5++[32])++Ee,true,()),()),()))else none)else none)
 (cond (FG==13)
  (if t5.length+1≤FE then(
  (Ct Gi).bind fun Tr=>
  if(t5++[32]).length+Tr.1.1.length≤FE then(
  some (((((t5++[32])++Tr.1.1),true,()),()),()))else none)else none)
 (some (((t5,true,()),()),()))))
mutual
def Ag:Nat→CO
 |0=>fun _ _ _ _ _ _=>none
 |n+1=>BE (Ag n) (Af n)
def Af:Nat→CD
 |0=>fun _ _ _ _ _ _ _ _=>none
 |n+1=>A6 (Ag n) (Af n)
end
def Df(R4:CO)(SW:CD)(p0:V9):Option Bd:=
 (EX (p0.1,p0.2.1,p0.2.2.1,p0.2.2.2.1,p0.2.2.2.2.1,())).bind fun u1=>
 cond (!u1.1.1)
  (some ((([],false,()),()),()))
 (cond (p0.1==13)
  ((Bu p0.2.1).bind fun u2=>
  cond (!u2.1.1)
   (some ((([],false,()),()),()))
  (R4 0 p0.1 p0.2.1 p0.2.2.1 p0.2.2.2.1 p0.2.2.2.2.1))
 (R4 0 p0.1 p0.2.1 p0.2.2.1 p0.2.2.2.1 p0.2.2.2.2.1))
def DO(p0:V9):Option Bd:=Df (Ag HQ) (Af HQ) p0
abbrev Hz:Type:=(Unit×Unit)×(List V7×Unit)
def Dz:Option Hz:=
 some (((),()),([[111,112,101,110],[97,100,100],[115,116,111,114,101],[115,121,110,99],[99,114,97,115,104],[108,111,115,101],[102,105,108,108],[109,101,110,100],[115,101,97,108],[112,108,97,110],[102,105,120],[99,108,111,115,101],[116,114,105,109],[114,101,97,100],[100,114,111,112],[112,114,117,110,101]],()))
abbrev G9:Type:=V_×Unit
def strings_Contains(p0:V7)(p1:V7):Option G9:=(Gd p0 p1).map fun l=>((l,()),())
abbrev Ex:Type:=WG×Unit
def Cz(p0:V9)(p1:Int):Option Ex:=
 cond (p1==84)
  ((strings_Contains p0.2.2.2.2.1 [10]).bind fun u1=>
  some (((p0.2.2.2.2.1,!u1.1.1,()),()),()))
 (cond (p1==80)
  ((Cx p0.2.1).bind fun u2=>
  (Bw p0.2.1).bind fun u3=>
  some (((u2.1.1,u3.1.1,()),()),()))
 (cond (p1==66)
  ((BO p0.2.2.1).bind fun u4=>
  cond ((decide (p0.2.2.1≥0)))
   (some (((u4.1.1,decide ((u4.1.1.length:Int)≤10),()),()),()))
  (some (((u4.1.1,false,()),()),())))
 (cond (p1==67)
  ((BO p0.2.2.2.1).bind fun u7=>
  cond ((decide (p0.2.2.2.1≥0)))
   (some (((u7.1.1,decide ((u7.1.1.length:Int)≤10),()),()),()))
  (some (((u7.1.1,false,()),()),())))
 ((BO p0.2.1).bind fun Tf=>
 cond (decide (p0.2.1≥0))
  (some (((Tf.1.1,decide ((Tf.1.1.length:Int)≤10),()),()),()))
 (some (((Tf.1.1,false,()),()),()))))))
abbrev CY:Type:=WG×Unit
abbrev DB:Type:=List UInt8→Int→Int→Int→Int→Int→Int→List UInt8→List Int→Option CY
def BF(R5:DB)(t4:V7)(t22 t23 FG Gi G6 G1:Int)(Ee:V7)(b1:List Int):Option CY:=
 cond (decide (t23<t22))
  (if(0:Int)≤t23∧t23<(b1.length:Int)then(
  (Cz (FG,Gi,G6,G1,Ee,()) (b1.getD (t23.toNat) 0)).bind fun u7=>
  cond (!u7.1.1.2.1)
   (some ((([],false,()),()),()))
  (if 1+u7.1.1.1.length≤FE then(
  if t4.length+([32]++u7.1.1.1).length≤FE then(
  R5 (t4++([32]++u7.1.1.1)) t22 (IV (t23+1)) FG Gi G6 G1 Ee b1)else none)else none))else none)
 (some (((t4,true,()),()),()))
def BR:Nat→DB
 |0=>fun _ _ _ _ _ _ _ _ _=>none
 |n+1=>BF (BR n)
def Dg(R5:DB)(p0:V9):Option CY:=
 (Ed (p0.1,p0.2.1,p0.2.2.1,p0.2.2.2.1,p0.2.2.2.2.1,())).bind fun u1=>
 cond (!u1.1.1)
  (some ((([],false,()),()),()))
 ((Dz).bind fun u2=>
 if(0:Int)≤IV (p0.1-1)∧IV (p0.1-1)<(u2.2.1.length:Int)then(
 (Cy p0.1).bind fun u4=>
 if u4.1.1.length≤FE then(
 let x5:List Int:=(u4.1.1.map fun c=>(c.toNat:Int))
 R5 (u2.2.1.getD ((IV (p0.1-1)).toNat) []) (x5.length:Int) 0 p0.1 p0.2.1 p0.2.2.1 p0.2.2.2.1 p0.2.2.2.2.1 x5)else none)else none)
def DP(p0:V9):Option CY:=Dg (BR HQ) p0
abbrev FJ:Type:=V_×Unit
def A7(p0:V9):Option FJ:=
 (GU (p0.1,p0.2.1,p0.2.2.1,p0.2.2.2.1,p0.2.2.2.2.1,()) 1048576).bind fun u1=>
 cond (decide (u1.1.1<0))
  (some ((true,()),()))
 ((EO (p0.1,p0.2.1,p0.2.2.1,p0.2.2.2.1,p0.2.2.2.2.1,())).bind fun u2=>
 (DO (u2.1.1.1,u2.1.1.2.1,u2.1.1.2.2.1,u2.1.1.2.2.2.1,u2.1.1.2.2.2.2.1,())).bind fun u3=>
 (EO (p0.1,p0.2.1,p0.2.2.1,p0.2.2.2.1,p0.2.2.2.2.1,())).bind fun u4=>
 (DP (u4.1.1.1,u4.1.1.2.1,u4.1.1.2.2.1,u4.1.1.2.2.2.1,u4.1.1.2.2.2.2.1,())).bind fun u5=>
 cond ((!(u5.1.1.1==u3.1.1.1)))
  (some ((false,()),()))
 (cond ((u5.1.1.2.1 !=u3.1.1.2.1))
  (some ((false,()),()))
 (some ((true,()),()))))
end
end Go.M
