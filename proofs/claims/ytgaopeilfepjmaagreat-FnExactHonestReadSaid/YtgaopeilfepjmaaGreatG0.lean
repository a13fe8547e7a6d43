/- What each function computes, printed by a program out of the translation; what is printed is checked in the equations. -/
import Derived.Test.YtgaopeilfepjmaaGreatF1
set_option linter.unusedVariables false
set_option linter.unusedSimpArgs false
set_option linter.unusedSectionVars false
namespace Go.M
noncomputable section
abbrev bM:Type:=AAQ×AAP
def Cp(p0:AAA):Option bM:=
 if 0+p0.length≤Ej then(
 some (((),()),(p0,())))else none
abbrev Yf:Type:=AB0×AAP
def KQ(p0:List Int×Int×Unit):Option Yf:=
 (Cp p0.1).bind fun u1=>
 some ((((),p0.2.1,()),()),(u1.2.1,()))
abbrev eW:Type:=AAJ×Unit
def BF(p0 p1 p2:Int):Option eW:=
 cond (decide (p0≥p1))
  (some ((decide (p0≤p2),()),()))
 (some ((false,()),()))
abbrev Ke:Type:=AAJ×Unit
abbrev Nr:Type:=List Int→Int→Int→List Int→Int→Option Ke
def QT(R2:Nr)(t6:AAA)(t7 t8:Int)(Ac:AAA)(AZ:Int):Option Ke:=
 cond (decide (t8<t7))
  (if(0:Int)≤t8∧t8<(t6.length:Int)then(
  (BF (t6.getD (t8.toNat) 0) 0 7).bind fun u2=>
  cond (!u2.1.1)
   (some ((false,()),()))
  (R2 t6 t7 (AX (t8+1)) Ac AZ))else none)
 ((BF (Ac.length:Int) 1 8).bind fun u3=>
 cond (u3.1.1)
  ((BF AZ 1 4).bind fun u4=>
  some ((u4.1.1,()),()))
 (some ((false,()),())))
def Ge:Nat→Nr
 |0=>fun _ _ _ _ _=>none
 |n+1=>QT (Ge n)
def P4(R2:Nr)(p0:List Int×Int×Unit):Option Ke:=
 R2 p0.1 (p0.1.length:Int) 0 p0.1 p0.2.1
def CX(p0:List Int×Int×Unit):Option Ke:=P4 (Ge AL) p0
abbrev Mz:Type:=AAJ×Unit
abbrev Px:Type:=List Int→Int→List Int→Int→Int→Option Mz
def Ku(R2:Px)(t0:AAA)(t1:Int)(t7:AAA)(t8 t9:Int):Option Mz:=
 cond (decide (t9<t8))
  (if(0:Int)≤t9∧t9<(t7.length:Int)then(
  let x1:Int:=(t7.getD (t9.toNat) 0)
  (BF x1 0 t1).bind fun u2=>
  cond (!u2.1.1)
   (some ((false,()),()))
  (cond (decide (t9>0))
   (if(0:Int)≤AX (t9-1)∧AX (t9-1)<(t0.length:Int)then(
   cond (decide ((t0.getD ((AX (t9-1)).toNat) 0)≥x1))
    (some ((false,()),()))
   (R2 t0 t1 t7 t8 (AX (t9+1))))else none)
  (R2 t0 t1 t7 t8 (AX (t9+1)))))else none)
 (some ((true,()),()))
def FQ:Nat→Px
 |0=>fun _ _ _ _ _=>none
 |n+1=>Ku (FQ n)
def RY(R2:Px)(p0:AAA)(p1:Int):Option Mz:=
 R2 p0 p1 p0 (p0.length:Int) 0
def RI(p0:AAA)(p1:Int):Option Mz:=RY (FQ AL) p0 p1
abbrev dj:Type:=AAJ×Unit
def CI(p0:List Int×Int×Unit)(p1:AAA):Option dj:=
 (CX (p0.1,p0.2.1,())).bind fun u1=>
 cond (u1.1.1)
  ((RI p1 (AX ((p0.1.length:Int)-1))).bind fun u3=>
  some ((u3.1.1,()),()))
 (some ((false,()),()))
abbrev dK:Type:=AAJ×Unit
def Dk(p0:Int):Option dK:=
 (BF p0 1 30).bind fun u1=>
 some ((u1.1.1,()),())
abbrev hE:Type:=AAJ×Unit
def SN(p0:Int):Option hE:=
 (BF p0 1 60).bind fun u1=>
 some ((u1.1.1,()),())
abbrev cQ:Type:=AAJ×Unit
def CJ(p0:Int):Option cQ:=
 (Dk (AX (p0.tdiv 4294967296))).bind fun u2=>
 cond (u2.1.1)
  ((SN (p0.tmod 4294967296)).bind fun u3=>
  some ((u3.1.1,()),()))
 (some ((false,()),()))
abbrev fK:Type:=AAJ×Unit
def Cz(p0:List UInt8):Option fK:=
 some (((decide ((p0.length:Int)≤40)),()),())
abbrev bo:Type:=AAI×Unit
def EU(p0:Int):Option bo:=
 (CJ p0).bind fun u1=>
 cond (!u1.1.1)
  (some ((0,()),()))
 (some (((AX (p0.tdiv 4294967296)),()),()))
abbrev cS:Type:=AAJ×Unit
def JJ(p0:AA3):Option cS:=
 (BF p0.2.1 0 30).bind fun u1=>
 cond (u1.1.1)
  (cond (p0.2.1==0)
   (cond (!p0.2.2.1)
    ((CJ p0.1).bind fun u2=>
    cond (u2.1.1)
     ((Cz p0.2.2.2.1).bind fun u3=>
     some ((u3.1.1,()),()))
    (some ((false,()),())))
   (cond (decide (p0.2.1>0))
    ((CJ p0.1).bind fun u4=>
    cond (u4.1.1)
     (cond (p0.2.2.2.1==[])
      ((Cz p0.2.2.2.1).bind fun u5=>
      some ((u5.1.1,()),()))
     (some ((false,()),())))
    (some ((false,()),())))
   ((CJ p0.1).bind fun u6=>
   cond (u6.1.1)
    (some ((false,()),()))
   (some ((false,()),())))))
  ((EU p0.1).bind fun u7=>
  let x8:Bool:=decide (p0.2.1>u7.1.1)
  cond (!p0.2.2.1)
   ((CJ p0.1).bind fun u9=>
   cond (u9.1.1)
    (cond (x8)
     ((Cz p0.2.2.2.1).bind fun lh=>
     some ((lh.1.1,()),()))
    (some ((false,()),())))
   (some ((false,()),())))
  (cond (decide (p0.2.1>0))
   ((CJ p0.1).bind fun lF=>
   cond (lF.1.1)
    (cond (x8)
     (cond (p0.2.2.2.1==[])
      ((Cz p0.2.2.2.1).bind fun kU=>
      some ((kU.1.1,()),()))
     (some ((false,()),())))
    (some ((false,()),())))
   (some ((false,()),())))
  ((CJ p0.1).bind fun mT=>
  cond (mT.1.1)
   (cond (x8)
    (some ((false,()),()))
   (some ((false,()),())))
  (some ((false,()),()))))))
 (cond (!p0.2.2.1)
  ((CJ p0.1).bind fun X6=>
  cond (X6.1.1)
   (some ((false,()),()))
  (some ((false,()),())))
 (cond (decide (p0.2.1>0))
  ((CJ p0.1).bind fun yJ=>
  cond (yJ.1.1)
   (some ((false,()),()))
  (some ((false,()),())))
 ((CJ p0.1).bind fun u16=>
 cond (u16.1.1)
  (some ((false,()),()))
 (some ((false,()),())))))
abbrev JU:Type:=AAJ×Unit
abbrev MX:Type:=AAK→Int→Int→Option JU
def IU(R2:MX)(t5:AAK)(t6 t7:Int):Option JU:=
 cond (decide (t7<t6))
  (if(0:Int)≤t7∧t7<(t5.length:Int)then(
  (JJ ((t5.getD (t7.toNat) (0,0,false,[],())).1,(t5.getD (t7.toNat) (0,0,false,[],())).2.1,(t5.getD (t7.toNat) (0,0,false,[],())).2.2.1,(t5.getD (t7.toNat) (0,0,false,[],())).2.2.2.1,())).bind fun u1=>
  cond (!u1.1.1)
   (some ((false,()),()))
  (R2 t5 t6 (AX (t7+1))))else none)
 (some ((true,()),()))
def D7:Nat→MX
 |0=>fun _ _ _=>none
 |n+1=>IU (D7 n)
def Ol(R2:MX)(p0:AAK):Option JU:=
 R2 p0 (p0.length:Int) 0
def Ix(p0:AAK):Option JU:=Ol (D7 AL) p0
abbrev GF:Type:=AAJ×Unit
abbrev JA:Type:=AAK→AAK→Int→Int→Option GF
def Gq(R2:JA)(t0 t5:AAK)(t6 t7:Int):Option GF:=
 cond (decide (t7<t6))
  (if(0:Int)≤t7∧t7<(t5.length:Int)then(
  cond (decide (t7>0))
   (if(0:Int)≤AX (t7-1)∧AX (t7-1)<(t0.length:Int)then(
   cond (decide (((t0.getD ((AX (t7-1)).toNat) (0,0,false,[],())).1)≥((t5.getD (t7.toNat) (0,0,false,[],())).1)))
    (some ((false,()),()))
   (R2 t0 t5 t6 (AX (t7+1))))else none)
  (R2 t0 t5 t6 (AX (t7+1))))else none)
 (some ((true,()),()))
def Ct:Nat→JA
 |0=>fun _ _ _ _=>none
 |n+1=>Gq (Ct n)
def LQ(R2:JA)(p0:AAK):Option GF:=
 R2 p0 p0 (p0.length:Int) 0
def Fm(p0:AAK):Option GF:=LQ (Ct AL) p0
abbrev dS:Type:=AAJ×Unit
def Ld(p0:AA2):Option dS:=
 cond ((decide ((p0.1.length:Int)>200)))
  (some ((false,()),()))
 (cond (decide ((p0.2.1.length:Int)>20))
  (some ((false,()),()))
 ((Ix p0.1).bind fun u3=>
 cond (u3.1.1)
  ((Ix p0.2.1).bind fun u4=>
  cond (u4.1.1)
   ((Fm p0.1).bind fun u5=>
   cond (u5.1.1)
    ((BF p0.2.2.1 0 30).bind fun u6=>
    some ((u6.1.1,()),()))
   (some ((false,()),())))
  (some ((false,()),())))
 (some ((false,()),()))))
abbrev EW:Type:=AAI×Unit
abbrev Gn:Type:=List Int→Int→Int→Int→Option EW
def I6(R2:Gn)(t0:AAA)(t1 t7 t8:Int):Option EW:=
 cond (decide (t8<t7))
  (if(0:Int)≤t8∧t8<(t0.length:Int)then(
  cond (t1==(t0.getD (t8.toNat) 0))
   (some ((t8,()),()))
  (R2 t0 t1 t7 (AX (t8+1))))else none)
 (some (((-1),()),()))
def Cv:Nat→Gn
 |0=>fun _ _ _ _=>none
 |n+1=>I6 (Cv n)
def IW(R2:Gn)(p0:AAA)(p1:Int):Option EW:=
 R2 p0 p1 (p0.length:Int) 0
def Ie(p0:AAA)(p1:Int):Option EW:=IW (Cv AL) p0 p1
abbrev Sv:Type:=AAJ×Unit
def Bm(p0:AAA)(p1:Int):Option Sv:=
 (Ie p0 p1).bind fun u1=>
 some ((decide (u1.1.1≥0),()),())
abbrev fA:Type:=AAJ×Unit
def LD(p0:Int)(p1:AAP):Option fA:=
 (Bm p1.1 p0).bind fun u1=>
 some ((!u1.1.1,()),())
abbrev BX:Type:=AAI×Unit
abbrev CK:Type:=List Int→(AAP×Unit)→Int→Int→Option BX
def Bv(R2:CK)(t0:AAA)(t1:AAP×Unit)(t7 t8:Int):Option BX:=
 cond (decide (t8<t7))
  (if(0:Int)≤t8∧t8<(t0.length:Int)then(
  (LD (t0.getD (t8.toNat) 0) t1.1).bind fun u2=>
  cond (u2.1.1)
   (some ((t8,()),()))
  (R2 t0 (t1.1,()) t7 (AX (t8+1))))else none)
 (some (((-1),()),()))
def Ap:Nat→CK
 |0=>fun _ _ _ _=>none
 |n+1=>Bv (Ap n)
def B6(R2:CK)(p0:AAA)(p1:AAP×Unit):Option BX:=
 R2 p0 (p1.1,()) (p0.length:Int) 0
def Bj(p0:AAA)(p1:AAP×Unit):Option BX:=B6 (Ap AL) p0 p1
abbrev BV:Type:=AAQ×(Unit×List Int×Unit)
abbrev CG:Type:=(AAP×Unit)→Int→Int→List Int→Option BV
def Br(R5:CG)(t1:AAP×Unit)(t5 t6:Int)(b0:AAA):Option BV:=
 cond ((decide (t6<(b0.length:Int))))
  (if(0:Int)≤t6∧t6<(b0.length:Int)then(
  let x3:Int:=(b0.getD (t6.toNat) 0)
  (LD x3 t1.1).bind fun u4=>
  cond (!u4.1.1)
   (if(0:Int)≤t5∧t5<(b0.length:Int)then(
   R5 (t1.1,()) (AX (t5+1)) (AX (t6+1)) (b0.set (t5.toNat) x3))else none)
  (R5 (t1.1,()) t5 (AX (t6+1)) b0))else none)
 (if(0:Int)≤t5∧t5≤(b0.length:Int)∧(b0.length:Int)≤(b0.length:Int)then(
 let x6:AAA:=(b0.take (t5.toNat)++List.replicate (((b0.length:Int).toNat)-(t5.toNat)) 0++b0.drop ((t5.toNat)+(((b0.length:Int).toNat)-(t5.toNat))))
 if(0:Int)≤(0:Int)∧(0:Int)≤t5∧t5≤(x6.length:Int)then(
 some (((),()),((),((x6.drop 0).take ((t5.toNat)-0)),())))else none)else none)
def Am:Nat→CG
 |0=>fun _ _ _ _=>none
 |n+1=>Br (Am n)
def Bq(R5:CG)(p1:AAP×Unit)(b0:AAA):Option BV:=
 (Bj b0 (p1.1,())).bind fun u1=>
 cond (u1.1.1==(-1))
  (some (((),()),((),b0,())))
 (R5 (p1.1,()) u1.1.1 (AX (u1.1.1+1)) b0)
def BC(p1:AAP×Unit)(b0:AAA):Option BV:=Bq (Am AL) p1 b0
abbrev jw:Type:=AAQ×AAP
def Jd(p0 p1:AAA):Option jw:=
 (Cp p0).bind fun u1=>
 (BC ((p1,()),()) u1.2.1).bind fun u2=>
 some (((),()),(u2.2.2.1,()))
abbrev W6:Type:=AAJ×Unit
def FZ(p0:AAL)(p1:Int):Option W6:=
 (Jd [p1] p0.2.2.2.1).bind fun u1=>
 some ((decide ((u1.2.1.length:Int)>0),()),())
abbrev Oa:Type:=AAI×Unit
abbrev Sm:Type:=List Int→Int→Int→List Int→Int→List Int→Option Oa
def TY(R5:Sm)(t13:AAA)(t14 t15:Int)(Ac:AAA)(AZ:Int)(b1:AAA):Option Oa:=
 cond (decide (t15<t14))
  (if(0:Int)≤t15∧t15<(t13.length:Int)then(
  let x2:Int:=(t13.getD (t15.toNat) 0)
  if(0:Int)≤x2∧x2<(Ac.length:Int)then(
  (Bm b1 (Ac.getD (x2.toNat) 0)).bind fun u4=>
  cond (!u4.1.1)
   (if(0:Int)≤x2∧x2<(Ac.length:Int)then(
   if b1.length+1≤Ej then(
   R5 t13 t14 (AX (t15+1)) Ac AZ (b1++[(Ac.getD (x2.toNat) 0)]))else none)else none)
  (R5 t13 t14 (AX (t15+1)) Ac AZ b1))else none)else none)
 (some (((b1.length:Int),()),()))
def IV:Nat→Sm
 |0=>fun _ _ _ _ _ _=>none
 |n+1=>TY (IV n)
def TW(R5:Sm)(p0:List Int×Int×Unit)(p1:AAA):Option Oa:=
 (CI (p0.1,p0.2.1,()) p1).bind fun u1=>
 cond (!u1.1.1)
  (some (((-1),()),()))
 (R5 p1 (p1.length:Int) 0 p0.1 p0.2.1 [])
def TB(p0:List Int×Int×Unit)(p1:AAA):Option Oa:=TW (IV AL) p0 p1
abbrev iD:Type:=AAJ×Unit
def Ib(p0:List Int×Int×Unit)(p1:AAA):Option iD:=
 (CI (p0.1,p0.2.1,()) p1).bind fun u1=>
 cond (u1.1.1)
  ((TB (p0.1,p0.2.1,()) p1).bind fun u2=>
  some (((decide (u2.1.1≥p0.2.1)),()),()))
 (some ((false,()),()))
abbrev FB:Type:=AAJ×Unit
abbrev G9:Type:=AAL→AAG→Int→Int→Option FB
def FH(R4:G9)(t0:AAL)(t32:AAG)(t33 t34:Int):Option FB:=
 cond (decide (t34<t33))
  (if(0:Int)≤t34∧t34<(t32.length:Int)then(
  (Ld ((t32.getD (t34.toNat) ([],[],0,())).1,(t32.getD (t34.toNat) ([],[],0,())).2.1,(t32.getD (t34.toNat) ([],[],0,())).2.2.1,())).bind fun u5=>
  cond (!u5.1.1)
   (some ((false,()),()))
  ((FZ t0 t34).bind fun u6=>
  cond (u6.1.1)
   (cond (decide ((AX ((AX ((((t32.getD (t34.toNat) ([],[],0,())).1).length:Int)+(((t32.getD (t34.toNat) ([],[],0,())).2.1).length:Int)))+((t32.getD (t34.toNat) ([],[],0,())).2.2.1)))>0))
    (some ((false,()),()))
   (R4 t0 t32 t33 (AX (t34+1))))
  (R4 t0 t32 t33 (AX (t34+1)))))else none)
 (cond (t0.2.2.2.2.2.2.2.2.2.2.1)
  (some ((true,()),()))
 ((Ib (t0.1,t0.2.1,()) t0.2.2.2.1).bind fun kU=>
 some ((!kU.1.1,()),())))
def CZ:Nat→G9
 |0=>fun _ _ _ _=>none
 |n+1=>FH (CZ n)
def Jm(R4:G9)(p0:AAL):Option FB:=
 cond (((p0.2.2.1.length:Int) !=(p0.1.length:Int)))
  (some ((false,()),()))
 ((CI (p0.1,p0.2.1,()) p0.2.2.2.1).bind fun u3=>
 cond (!u3.1.1)
  (some ((false,()),()))
 (R4 p0 p0.2.2.1 (p0.2.2.1.length:Int) 0))
def GH(p0:AAL):Option FB:=Jm (CZ AL) p0
abbrev gu:Type:=AAJ×Unit
def Ux(p0:List Int×Int×Unit)(p1:ABZ):Option gu:=
 (Ib (p0.1,p0.2.1,()) p1.1).bind fun u1=>
 cond (u1.1.1)
  ((BF p1.2.2.1 0 60).bind fun u2=>
  cond (u2.1.1)
   (cond (p1.2.1)
    (some ((true,()),()))
   (some ((p1.2.2.1==0,()),())))
  (some ((false,()),())))
 (some ((false,()),()))
abbrev Qx:Type:=AAJ×Unit
abbrev T7:Type:=AAB→Int→Int→List Int→Int→AAB→Int→Option Qx
def N2(R2:T7)(t9:AAB)(t10 t11:Int)(Ac:AAA)(AZ:Int)(CB:AAB)(BJ:Int):Option Qx:=
 cond (decide (t11<t10))
  (if(0:Int)≤t11∧t11<(t9.length:Int)then(
  (Ux (Ac,AZ,()) ((t9.getD (t11.toNat) ([],false,0,())).1,(t9.getD (t11.toNat) ([],false,0,())).2.1,(t9.getD (t11.toNat) ([],false,0,())).2.2.1,())).bind fun u1=>
  cond (!u1.1.1)
   (some ((false,()),()))
  (cond (((t9.getD (t11.toNat) ([],false,0,())).2.1))
   (cond (t11==(AX ((CB.length:Int)-1)))
    (some ((false,()),()))
   (cond (decide (t11>0))
    (if(0:Int)≤AX (t11-1)∧AX (t11-1)<(CB.length:Int)then(
    cond (!((CB.getD ((AX (t11-1)).toNat) ([],false,0,())).2.1))
     (some ((false,()),()))
    (R2 t9 t10 (AX (t11+1)) Ac AZ CB BJ))else none)
   (R2 t9 t10 (AX (t11+1)) Ac AZ CB BJ)))
  (R2 t9 t10 (AX (t11+1)) Ac AZ CB BJ)))else none)
 (cond (BJ==0)
  ((CX (Ac,AZ,())).bind fun u5=>
  cond (u5.1.1)
   (cond ((decide ((CB.length:Int)≤30)))
    (some ((true,()),()))
   (some ((false,()),())))
  (some ((false,()),())))
 ((EU BJ).bind fun u7=>
 (BF u7.1.1 1 (CB.length:Int)).bind fun u8=>
 (CX (Ac,AZ,())).bind fun u9=>
 cond (u9.1.1)
  (cond ((decide ((CB.length:Int)≤30)))
   (some ((u8.1.1,()),()))
  (some ((false,()),())))
 (some ((false,()),()))))
def Fz:Nat→T7
 |0=>fun _ _ _ _ _ _ _=>none
 |n+1=>N2 (Fz n)
def Uf(R2:T7)(p0:List Int×Int×Unit)(p1:AAT):Option Qx:=
 R2 p1.1 (p1.1.length:Int) 0 p0.1 p0.2.1 p1.1 p1.2.1
def RZ(p0:List Int×Int×Unit)(p1:AAT):Option Qx:=Uf (Fz AL) p0 p1
abbrev cp:Type:=AAI×Unit
def U6(p0:Bool):Option cp:=
 cond (p0)
  (some ((1,()),()))
 (some ((0,()),()))
abbrev Kn:Type:=AAJ×Unit
abbrev NV:Type:=Int→AAM→Int→Int→List Int→Int→Int→AAM→Option Kn
def QJ(R3:NV)(t5:Int)(t9:AAM)(t10 t11:Int)(Ac:AAA)(AZ CB:Int)(BJ:AAM):Option Kn:=
 cond (decide (t11<t10))
  (if(0:Int)≤t11∧t11<(t9.length:Int)then(
  (Cz ((t9.getD (t11.toNat) ([],[],false,())).1)).bind fun u3=>
  cond (!u3.1.1)
   (some ((false,()),()))
  ((CI (Ac,AZ,()) ((t9.getD (t11.toNat) ([],[],false,())).2.1)).bind fun u4=>
  cond (!u4.1.1)
   (some ((false,()),()))
  ((Ib (Ac,AZ,()) ((t9.getD (t11.toNat) ([],[],false,())).2.1)).bind fun u6=>
  cond (((t9.getD (t11.toNat) ([],[],false,())).2.2.1) !=u6.1.1)
   (some ((false,()),()))
  ((U6 (!((t9.getD (t11.toNat) ([],[],false,())).2.2.1))).bind fun u8=>
  R3 (AX (t5+u8.1.1)) t9 t10 (AX (t11+1)) Ac AZ CB BJ))))else none)
 ((CX (Ac,AZ,())).bind fun u9=>
 cond (u9.1.1)
  ((Dk CB).bind fun lh=>
  cond (lh.1.1)
   (cond ((decide ((BJ.length:Int)≤60)))
    (some ((decide (t5≤6),()),()))
   (some ((false,()),())))
  (some ((false,()),())))
 (some ((false,()),())))
def Gt:Nat→NV
 |0=>fun _ _ _ _ _ _ _ _=>none
 |n+1=>QJ (Gt n)
def QN(R3:NV)(p0:List Int×Int×Unit)(p1:AAi):Option Kn:=
 R3 0 p1.2.1 (p1.2.1.length:Int) 0 p0.1 p0.2.1 p1.1 p1.2.1
def OG(p0:List Int×Int×Unit)(p1:AAi):Option Kn:=QN (Gt AL) p0 p1
abbrev WC:Type:=AAJ×Unit
def Es(p0:AAL)(p1:Int):Option WC:=
 (BF p1 1 (p0.2.2.2.2.1.length:Int)).bind fun u2=>
 some ((u2.1.1,()),())
abbrev EV:Type:=AAJ×Unit
abbrev GP:Type:=AAL→AAD→Int→Int→Option EV
def E4(R2:GP)(t0:AAL)(t8:AAD)(t9 t10:Int):Option EV:=
 cond (decide (t10<t9))
  (if(0:Int)≤t10∧t10<(t8.length:Int)then(
  (OG (t0.1,t0.2.1,()) ((t8.getD (t10.toNat) (0,[],())).1,(t8.getD (t10.toNat) (0,[],())).2.1,())).bind fun u2=>
  cond (!u2.1.1)
   (some ((false,()),()))
  ((Es t0 ((t8.getD (t10.toNat) (0,[],())).1)).bind fun u4=>
  cond (!u4.1.1)
   (some ((false,()),()))
  (cond (decide (t10>0))
   (if(0:Int)≤AX (t10-1)∧AX (t10-1)<(t0.2.2.2.2.2.2.1.length:Int)then(
   cond (decide (((t0.2.2.2.2.2.2.1.getD ((AX (t10-1)).toNat) (0,[],())).1)≥((t8.getD (t10.toNat) (0,[],())).1)))
    (some ((false,()),()))
   (R2 t0 t8 t9 (AX (t10+1))))else none)
  (R2 t0 t8 t9 (AX (t10+1))))))else none)
 (some ((decide ((t0.2.2.2.2.2.2.1.length:Int)≤4),()),()))
def CM:Nat→GP
 |0=>fun _ _ _ _=>none
 |n+1=>E4 (CM n)
def I4(R2:GP)(p0:AAL):Option EV:=
 R2 p0 p0.2.2.2.2.2.2.1 (p0.2.2.2.2.2.2.1.length:Int) 0
def Fc(p0:AAL):Option EV:=I4 (CM AL) p0
abbrev ie:Type:=AAI×Unit
def Nz(p0:Int):Option ie:=
 (CJ p0).bind fun u1=>
 cond (!u1.1.1)
  (some ((0,()),()))
 (some ((p0.tmod 4294967296,()),()))
abbrev cZ:Type:=AAI×Unit
def Qp(p0:AAj):Option cZ:=
 cond ((p0.2.2.2.1.length:Int)==0)
  (some ((0,()),()))
 (let x2:Int:=(p0.2.2.2.1.length:Int)
 if(0:Int)≤AX (x2-1)∧AX (x2-1)<(p0.2.2.2.1.length:Int)then(
 (Nz ((p0.2.2.2.1.getD ((AX (x2-1)).toNat) (0,0,false,[],())).1)).bind fun u4=>
 some ((u4.1.1,()),()))else none)
abbrev OC:Type:=AAJ×Unit
abbrev R6:Type:=AAK→Int→Int→Int→Int→List Int→AAK→Bool→List AAA→Option OC
def MP(R2:R6)(t6:AAK)(t7 t8 Ac AZ:Int)(BM:AAA)(CO:AAK)(Ck:Bool)(Bu:List AAA):Option OC:=
 cond (decide (t8<t7))
  (if(0:Int)≤t8∧t8<(t6.length:Int)then(
  (JJ ((t6.getD (t8.toNat) (0,0,false,[],())).1,(t6.getD (t8.toNat) (0,0,false,[],())).2.1,(t6.getD (t8.toNat) (0,0,false,[],())).2.2.1,(t6.getD (t8.toNat) (0,0,false,[],())).2.2.2.1,())).bind fun u2=>
  cond (!u2.1.1)
   (some ((false,()),()))
  ((EU ((t6.getD (t8.toNat) (0,0,false,[],())).1)).bind fun u4=>
  cond (u4.1.1 !=AZ)
   (some ((false,()),()))
  (cond (decide (((t6.getD (t8.toNat) (0,0,false,[],())).2.1)≥Ac))
   (some ((false,()),()))
  (R2 t6 t7 (AX (t8+1)) Ac AZ BM CO Ck Bu))))else none)
 ((Fm CO).bind fun u6=>
 some ((u6.1.1,()),()))
def Gf:Nat→R6
 |0=>fun _ _ _ _ _ _ _ _ _=>none
 |n+1=>MP (Gf n)
def TO(R2:R6)(p0:AAj):Option OC:=
 R2 p0.2.2.2.1 (p0.2.2.2.1.length:Int) 0 p0.1 p0.2.1 p0.2.2.1 p0.2.2.2.1 p0.2.2.2.2.1 p0.2.2.2.2.2.1
def Oo(p0:AAj):Option OC:=TO (Gf AL) p0
abbrev OD:Type:=AAJ×Unit
abbrev RX:Type:=List AAA→Int→Int→List Int→Int→Int→Int→List Int→AAK→Bool→List AAA→Option OD
def MH(R2:RX)(t10:List AAA)(t11 t12:Int)(Ac:AAA)(AZ CB BJ:Int)(IM:AAA)(Gk:AAK)(UL:Bool)(EP:List AAA):Option OD:=
 cond (decide (t12<t11))
  (if(0:Int)≤t12∧t12<(t10.length:Int)then(
  (CI (Ac,AZ,()) (t10.getD (t12.toNat) [])).bind fun u2=>
  cond (!u2.1.1)
   (some ((false,()),()))
  (R2 t10 t11 (AX (t12+1)) Ac AZ CB BJ IM Gk UL EP))else none)
 (cond (UL)
  ((Qp (CB,BJ,IM,Gk,UL,EP,())).bind fun u3=>
  (Dk BJ).bind fun u4=>
  cond (u4.1.1)
   ((BF CB (AX (BJ+1)) 30).bind fun u5=>
   (CX (Ac,AZ,())).bind fun u6=>
   cond (u6.1.1)
    (cond (u5.1.1)
     ((CI (Ac,AZ,()) IM).bind fun u7=>
     cond (u7.1.1)
      ((Oo (CB,BJ,IM,Gk,UL,EP,())).bind fun u8=>
      cond (u8.1.1)
       (some ((((EP.length:Int)==u3.1.1),()),()))
      (some ((false,()),())))
     (some ((false,()),())))
    (some ((false,()),())))
   (some ((false,()),())))
  ((CX (Ac,AZ,())).bind fun lh=>
  cond (lh.1.1)
   (some ((false,()),()))
  (some ((false,()),()))))
 ((Dk BJ).bind fun lF=>
 cond (lF.1.1)
  ((BF CB (AX (BJ+1)) 30).bind fun kU=>
  (CX (Ac,AZ,())).bind fun mT=>
  cond (mT.1.1)
   (cond (kU.1.1)
    ((CI (Ac,AZ,()) IM).bind fun X6=>
    cond (X6.1.1)
     ((Oo (CB,BJ,IM,Gk,UL,EP,())).bind fun yJ=>
     cond (yJ.1.1)
      (some ((((EP.length:Int)==0),()),()))
     (some ((false,()),())))
    (some ((false,()),())))
   (some ((false,()),())))
  (some ((false,()),())))
 ((CX (Ac,AZ,())).bind fun lu=>
 cond (lu.1.1)
  (some ((false,()),()))
 (some ((false,()),())))))
def GK:Nat→RX
 |0=>fun _ _ _ _ _ _ _ _ _ _ _=>none
 |n+1=>MH (GK n)
def TK(R2:RX)(p0:List Int×Int×Unit)(p1:AAj):Option OD:=
 R2 p1.2.2.2.2.2.1 (p1.2.2.2.2.2.1.length:Int) 0 p0.1 p0.2.1 p1.1 p1.2.1 p1.2.2.1 p1.2.2.2.1 p1.2.2.2.2.1 p1.2.2.2.2.2.1
def Tn(p0:List Int×Int×Unit)(p1:AAj):Option OD:=TK (GK AL) p0 p1
abbrev JI:Type:=AAI×Unit
abbrev ML:Type:=AAB→Int→Int→Option JI
def Iz(R2:ML)(t6:AAB)(t7 t8:Int):Option JI:=
 cond (decide (t8<t7))
  (if(0:Int)≤t8∧t8<(t6.length:Int)then(
  cond (!((t6.getD (t8.toNat) ([],false,0,())).2.1))
   (some ((AX (t8+1),()),()))
  (R2 t6 t7 (AX (t8+1))))else none)
 (some ((0,()),()))
def D9:Nat→ML
 |0=>fun _ _ _=>none
 |n+1=>Iz (D9 n)
def Oq(R2:ML)(p0:AAT):Option JI:=
 R2 p0.1 (p0.1.length:Int) 0
def Li(p0:AAT):Option JI:=Oq (D9 AL) p0
abbrev Fg:Type:=AAJ×Unit
abbrev H3:Type:=AAL→AAC→Int→Int→Option Fg
def Fy(R2:H3)(t0:AAL)(t8:AAC)(t9 t10:Int):Option Fg:=
 cond (decide (t10<t9))
  (if(0:Int)≤t10∧t10<(t8.length:Int)then(
  (Tn (t0.1,t0.2.1,()) ((t8.getD (t10.toNat) (0,0,[],[],false,[],())).1,(t8.getD (t10.toNat) (0,0,[],[],false,[],())).2.1,(t8.getD (t10.toNat) (0,0,[],[],false,[],())).2.2.1,(t8.getD (t10.toNat) (0,0,[],[],false,[],())).2.2.2.1,(t8.getD (t10.toNat) (0,0,[],[],false,[],())).2.2.2.2.1,(t8.getD (t10.toNat) (0,0,[],[],false,[],())).2.2.2.2.2.1,())).bind fun u2=>
  cond (!u2.1.1)
   (some ((false,()),()))
  (cond (((t8.getD (t10.toNat) (0,0,[],[],false,[],())).1) !=(t0.2.2.2.2.1.length:Int))
   (some ((false,()),()))
  ((Li (t0.2.2.2.2.1,t0.2.2.2.2.2.1,())).bind fun u6=>
  cond (((t8.getD (t10.toNat) (0,0,[],[],false,[],())).2.1) !=u6.1.1)
   (some ((false,()),()))
  (R2 t0 t8 t9 (AX (t10+1))))))else none)
 (some ((decide ((t0.2.2.2.2.2.2.2.1.length:Int)≤1),()),()))
def Cl:Nat→H3
 |0=>fun _ _ _ _=>none
 |n+1=>Fy (Cl n)
def KA(R2:H3)(p0:AAL):Option Fg:=
 R2 p0 p0.2.2.2.2.2.2.2.1 (p0.2.2.2.2.2.2.2.1.length:Int) 0
def HI(p0:AAL):Option Fg:=KA (Cl AL) p0
abbrev aw:Type:=AAJ×Unit
def Ob(p0:AAt):Option aw:=
 (BF p0.1 1 31).bind fun u1=>
 cond (u1.1.1)
  ((BF p0.2.1 1 61).bind fun u2=>
  cond (u2.1.1)
   (some ((decide ((p0.2.2.1.length:Int)≤120),()),()))
  (some ((false,()),())))
 (some ((false,()),()))
abbrev ET:Type:=AAJ×Unit
abbrev GX:Type:=AAL→AAE→Int→Int→Option ET
def E9(R2:GX)(t0:AAL)(t8:AAE)(t9 t10:Int):Option ET:=
 cond (decide (t10<t9))
  (if(0:Int)≤t10∧t10<(t8.length:Int)then(
  (Ob ((t8.getD (t10.toNat) (0,0,[],())).1,(t8.getD (t10.toNat) (0,0,[],())).2.1,(t8.getD (t10.toNat) (0,0,[],())).2.2.1,())).bind fun u2=>
  cond (!u2.1.1)
   (some ((false,()),()))
  (R2 t0 t8 t9 (AX (t10+1))))else none)
 (some (((t0.2.2.2.2.2.2.2.2.1.length:Int)==2,()),()))
def CL:Nat→GX
 |0=>fun _ _ _ _=>none
 |n+1=>E9 (CL n)
def Is(R2:GX)(p0:AAL):Option ET:=
 R2 p0 p0.2.2.2.2.2.2.2.2.1 (p0.2.2.2.2.2.2.2.2.1.length:Int) 0
def Fa(p0:AAL):Option ET:=Is (CL AL) p0
abbrev GG:Type:=AAJ×Unit
abbrev IY:Type:=AAL→AAH→Int→Int→Option GG
def Gc(R2:IY)(t0:AAL)(t8:AAH)(t9 t10:Int):Option GG:=
 cond (decide (t10<t9))
  (if(0:Int)≤t10∧t10<(t8.length:Int)then(
  (EU ((t8.getD (t10.toNat) (0,[],false,())).1)).bind fun u3=>
  (Es t0 u3.1.1).bind fun u4=>
  cond (!u4.1.1)
   (some ((false,()),()))
  ((Cz ((t8.getD (t10.toNat) (0,[],false,())).2.1)).bind fun u6=>
  cond (!u6.1.1)
   (some ((false,()),()))
  (cond (decide (t10>0))
   (if(0:Int)≤AX (t10-1)∧AX (t10-1)<(t0.2.2.2.2.2.2.2.2.2.1.length:Int)then(
   cond (decide (((t0.2.2.2.2.2.2.2.2.2.1.getD ((AX (t10-1)).toNat) (0,[],false,())).1)≥((t8.getD (t10.toNat) (0,[],false,())).1)))
    (some ((false,()),()))
   (R2 t0 t8 t9 (AX (t10+1))))else none)
  (R2 t0 t8 t9 (AX (t10+1))))))else none)
 (some ((decide ((t0.2.2.2.2.2.2.2.2.2.1.length:Int)≤120),()),()))
def Cx:Nat→IY
 |0=>fun _ _ _ _=>none
 |n+1=>Gc (Cx n)
def LM(R2:IY)(p0:AAL):Option GG:=
 R2 p0 p0.2.2.2.2.2.2.2.2.2.1 (p0.2.2.2.2.2.2.2.2.2.1.length:Int) 0
def IA(p0:AAL):Option GG:=LM (Cx AL) p0
abbrev dY:Type:=AAJ×Unit
def Lc(p0:AAL):Option dY:=
 (CX (p0.1,p0.2.1,())).bind fun u1=>
 cond (u1.1.1)
  ((GH (p0.1,p0.2.1,p0.2.2.1,p0.2.2.2.1,p0.2.2.2.2.1,p0.2.2.2.2.2.1,p0.2.2.2.2.2.2.1,p0.2.2.2.2.2.2.2.1,p0.2.2.2.2.2.2.2.2.1,p0.2.2.2.2.2.2.2.2.2.1,p0.2.2.2.2.2.2.2.2.2.2.1,())).bind fun u2=>
  cond (u2.1.1)
   ((RZ (p0.1,p0.2.1,()) (p0.2.2.2.2.1,p0.2.2.2.2.2.1,())).bind fun u3=>
   cond (u3.1.1)
    ((Fc (p0.1,p0.2.1,p0.2.2.1,p0.2.2.2.1,p0.2.2.2.2.1,p0.2.2.2.2.2.1,p0.2.2.2.2.2.2.1,p0.2.2.2.2.2.2.2.1,p0.2.2.2.2.2.2.2.2.1,p0.2.2.2.2.2.2.2.2.2.1,p0.2.2.2.2.2.2.2.2.2.2.1,())).bind fun u4=>
    cond (u4.1.1)
     ((HI (p0.1,p0.2.1,p0.2.2.1,p0.2.2.2.1,p0.2.2.2.2.1,p0.2.2.2.2.2.1,p0.2.2.2.2.2.2.1,p0.2.2.2.2.2.2.2.1,p0.2.2.2.2.2.2.2.2.1,p0.2.2.2.2.2.2.2.2.2.1,p0.2.2.2.2.2.2.2.2.2.2.1,())).bind fun u5=>
     cond (u5.1.1)
      ((Fa (p0.1,p0.2.1,p0.2.2.1,p0.2.2.2.1,p0.2.2.2.2.1,p0.2.2.2.2.2.1,p0.2.2.2.2.2.2.1,p0.2.2.2.2.2.2.2.1,p0.2.2.2.2.2.2.2.2.1,p0.2.2.2.2.2.2.2.2.2.1,p0.2.2.2.2.2.2.2.2.2.2.1,())).bind fun u6=>
      cond (u6.1.1)
       ((IA (p0.1,p0.2.1,p0.2.2.1,p0.2.2.2.1,p0.2.2.2.2.1,p0.2.2.2.2.2.1,p0.2.2.2.2.2.2.1,p0.2.2.2.2.2.2.2.1,p0.2.2.2.2.2.2.2.2.1,p0.2.2.2.2.2.2.2.2.2.1,p0.2.2.2.2.2.2.2.2.2.2.1,())).bind fun u7=>
       some ((u7.1.1,()),()))
      (some ((false,()),())))
     (some ((false,()),())))
    (some ((false,()),())))
   (some ((false,()),())))
  (some ((false,()),())))
 (some ((false,()),()))
abbrev jn:Type:=AAJ×Unit
def CF(p0 p1 p2:Int):Option jn:=
 cond (decide (p0≥p1))
  (some ((decide (p0≤p2),()),()))
 (some ((false,()),()))
abbrev Kl:Type:=AAJ×Unit
abbrev Ns:Type:=Int→List Int→Int→Option Kl
def Qa(R4:Ns)(t3:Int)(Ac:AAA)(AZ:Int):Option Kl:=
 cond ((decide (t3<(Ac.length:Int))))
  (if(0:Int)≤t3∧t3<(Ac.length:Int)then(
  (CF (Ac.getD (t3.toNat) 0) 0 7).bind fun u5=>
  cond (!u5.1.1)
   (some ((false,()),()))
  (R4 (AX (t3+1)) Ac AZ))else none)
 (some ((true,()),()))
def Gp:Nat→Ns
 |0=>fun _ _ _=>none
 |n+1=>Qa (Gp n)
def QP(R4:Ns)(p0:List Int×Int×Unit):Option Kl:=
 (CF (p0.1.length:Int) 1 8).bind fun u1=>
 cond (!u1.1.1)
  (some ((false,()),()))
 ((CF p0.2.1 1 4).bind fun u2=>
 cond (!u2.1.1)
  (some ((false,()),()))
 (R4 0 p0.1 p0.2.1))
def Eb(p0:List Int×Int×Unit):Option Kl:=QP (Gp AL) p0
abbrev dn:Type:=AC_×Unit
def U2(p0:Int):Option dn:=
 cond (p0==8)
  (some (([],()),()))
 (cond (p0==10)
  (some (([],()),()))
 (cond (p0==12)
  (some (([],()),()))
 (cond (p0==2)
  (some (([65,84],()),()))
 (cond (p0==3)
  (some (([65,66,67],()),()))
 (cond (p0==5)
  (some (([65,66],()),()))
 (cond (p0==14)
  (some (([65,66],()),()))
 (cond (p0==11)
  (some (([66,67],()),()))
 (cond (p0==13)
  (some (([80],()),()))
 (some (([65],()),()))))))))))
abbrev J_:Type:=AAJ×Unit
abbrev Sp:Type:=Int→Int→Int→Int→Int→Int→List UInt8→Int→Int→Int→Int→List UInt8→List Int→Option J_
def BW(R4:Sp)(t12 t13 Ac AZ BM CO:Int)(Ck:List UInt8)(CB BJ IM Gk:Int)(UL:List UInt8)(b2:AAA):Option J_:=
 cond (decide (t13<t12))
  (if(0:Int)≤t13∧t13<(b2.length:Int)then(
  let x3:Int:=(b2.getD (t13.toNat) 0)
  cond (x3==65)
   (R4 t12 (AX (t13+1)) Ac AZ BM CO Ck CB 0 IM Gk UL b2)
  (cond (x3==80)
   (R4 t12 (AX (t13+1)) Ac AZ BM CO Ck CB 0 IM Gk UL b2)
  (cond (x3==66)
   (R4 t12 (AX (t13+1)) Ac AZ BM CO Ck CB BJ 0 Gk UL b2)
  (cond (x3==67)
   (R4 t12 (AX (t13+1)) Ac AZ BM CO Ck CB BJ IM 0 UL b2)
  (cond (x3==84)
   (R4 t12 (AX (t13+1)) Ac AZ BM CO Ck CB BJ IM Gk [] b2)
  (R4 t12 (AX (t13+1)) Ac AZ BM CO Ck CB BJ IM Gk UL b2))))))else none)
 ((BF Ac 1 16).bind fun u4=>
 cond (u4.1.1)
  (cond (((CB==0)&&((BJ==0)&&((IM==0)&&((Gk==0)&&((UL==[])&&true))))))
   ((Cz Ck).bind fun u6=>
   some ((u6.1.1,()),()))
  (some ((false,()),())))
 (some ((false,()),())))
def Bn:Nat→Sp
 |0=>fun _ _ _ _ _ _ _ _ _ _ _ _ _=>none
 |n+1=>BW (Bn n)
def S7(R4:Sp)(p0:Int×Int×Int×Int×List UInt8×Unit):Option J_:=
 (U2 p0.1).bind fun u1=>
 if u1.1.1.length≤Ej then(
 let x2:AAA:=(u1.1.1.map fun c=>(c.toNat:Int))
 R4 (x2.length:Int) 0 p0.1 p0.2.1 p0.2.2.1 p0.2.2.2.1 p0.2.2.2.2.1 0 p0.2.1 p0.2.2.1 p0.2.2.2.1 p0.2.2.2.2.1 x2)else none
def TC(p0:Int×Int×Int×Int×List UInt8×Unit):Option J_:=S7 (Bn AL) p0
abbrev GI:Type:=AB0×ABf
abbrev I2:Type:=AAB→Int→Int→Int→AAB→Int→AAB→Option GI
def LK(R3:I2)(t10:AAB)(t11 t12 AZ:Int)(b1:AAB)(ABW:Int)(b3:AAB):Option GI:=
 cond (decide (t12<t11))
  (if(0:Int)≤t12∧t12<(t10.length:Int)then(
  (Cp ((t10.getD (t12.toNat) ([],false,0,())).1)).bind fun u1=>
  if b3.length+1≤Ej then(
  R3 t10 t11 (AX (t12+1)) AZ b1 ABW (b3++[(u1.2.1,(t10.getD (t12.toNat) ([],false,0,())).2.1,(t10.getD (t12.toNat) ([],false,0,())).2.2.1,())]))else none)else none)
 (some ((((),ABW,()),()),(b3,())))
def D1:Nat→I2
 |0=>fun _ _ _ _ _ _ _=>none
 |n+1=>LK (D1 n)
def LO(R3:I2)(p0:AAT):Option GI:=
 R3 p0.1 (p0.1.length:Int) 0 0 [] p0.2.1 []
def H8(p0:AAT):Option GI:=LO (D1 AL) p0
abbrev Xg:Type:=AAQ×ACU
def En(p0:AAK):Option Xg:=
 if 0+p0.length≤Ej then(
 some (((),()),(p0,())))else none
abbrev ZK:Type:=ACu×ACw
def MW(p0:AA2):Option ZK:=
 (En p0.1).bind fun u1=>
 (En p0.2.1).bind fun u2=>
 some ((((),(),p0.2.2.1,()),()),(u1.2.1,u2.2.1,()))
abbrev IL:Type:=ACx×ABq
abbrev K3:Type:=AAM→Int→Int→Int→AAM→Int→AAM→Option IL
def NG(R3:K3)(t10:AAM)(t11 t12 Ac:Int)(b1:AAM)(AAz:Int)(b3:AAM):Option IL:=
 cond (decide (t12<t11))
  (if(0:Int)≤t12∧t12<(t10.length:Int)then(
  (Cp ((t10.getD (t12.toNat) ([],[],false,())).2.1)).bind fun u2=>
  if b3.length+1≤Ej then(
  R3 t10 t11 (AX (t12+1)) Ac b1 AAz (b3++[((t10.getD (t12.toNat) ([],[],false,())).1,u2.2.1,(t10.getD (t12.toNat) ([],[],false,())).2.2.1,())]))else none)else none)
 (some (((AAz,(),()),()),(b3,())))
def Ew:Nat→K3
 |0=>fun _ _ _ _ _ _ _=>none
 |n+1=>NG (Ew n)
def NM(R3:K3)(p0:AAi):Option IL:=
 R3 p0.2.1 (p0.2.1.length:Int) 0 0 [] p0.1 []
def KV(p0:AAi):Option IL:=NM (Ew AL) p0
abbrev Kg:Type:=ACy×ACz
abbrev Nl:Type:=List AAA→Int→Int→Int→Int→Bool→List Int→AAK→List AAA→Int→Int→Bool→List Int→AAK→List AAA→Option Kg
def QG(R4:Nl)(t17:List AAA)(t18 t19 Ac AZ:Int)(Ck:Bool)(b1:AAA)(b2:AAK)(b3:List AAA)(AAy ABm:Int)(ACc:Bool)(b5:AAA)(b6:AAK)(b7:List AAA):Option Kg:=
 cond (decide (t19<t18))
  (if(0:Int)≤t19∧t19<(t17.length:Int)then(
  (Cp (t17.getD (t19.toNat) [])).bind fun u4=>
  if b7.length+1≤Ej then(
  R4 t17 t18 (AX (t19+1)) Ac AZ Ck b1 b2 b3 AAy ABm ACc b5 b6 (b7++[u4.2.1]))else none)else none)
 (some (((AAy,ABm,(),(),ACc,(),()),()),(b5,b6,b7,())))
def GY:Nat→Nl
 |0=>fun _ _ _ _ _ _ _ _ _ _ _ _ _ _ _=>none
 |n+1=>QG (GY n)
def QF(R4:Nl)(p0:AAj):Option Kg:=
 (Cp p0.2.2.1).bind fun u1=>
 (En p0.2.2.2.1).bind fun u2=>
 R4 p0.2.2.2.2.2.1 (p0.2.2.2.2.2.1.length:Int) 0 0 0 false [] [] [] p0.1 p0.2.1 p0.2.2.2.2.1 u1.2.1 u2.2.1 []
def OE(p0:AAj):Option Kg:=QF (GY AL) p0
abbrev Yn:Type:=ACO×ABO
def Hb(p0:AAt):Option Yn:=
 if 0+p0.2.2.1.length≤Ej then(
 some (((p0.1,p0.2.1,(),()),()),(p0.2.2.1,())))else none
abbrev CC:Type:=AC0×ABE
abbrev ED:Type:=AAG→Int→Int→List Int→Int→AAG→List Int→AAB→Int→AAD→AAC→AAE→AAH→Bool→Int→Int→Bool→List Int→AAG→List Int→AAB→AAD→AAC→AAE→AAH→Int→Int→Bool→List Int→AAG→List Int→AAB→AAD→AAC→AAE→AAH→Option CC
abbrev D2:Type:=AAD→Int→Int→List Int→Int→AAG→List Int→AAB→Int→AAD→AAC→AAE→AAH→Bool→Int→Int→Bool→List Int→AAG→List Int→AAB→AAD→AAC→AAE→AAH→Int→Int→Bool→List Int→AAG→List Int→AAB→AAD→AAC→AAE→AAH→Option CC
abbrev DZ:Type:=AAC→Int→Int→List Int→Int→AAG→List Int→AAB→Int→AAD→AAC→AAE→AAH→Bool→Int→Int→Bool→List Int→AAG→List Int→AAB→AAD→AAC→AAE→AAH→Int→Int→Bool→List Int→AAG→List Int→AAB→AAD→AAC→AAE→AAH→Option CC
abbrev Db:Type:=AAE→Int→Int→List Int→Int→AAG→List Int→AAB→Int→AAD→AAC→AAE→AAH→Bool→Int→Int→Bool→List Int→AAG→List Int→AAB→AAD→AAC→AAE→AAH→Int→Int→Bool→List Int→AAG→List Int→AAB→AAD→AAC→AAE→AAH→Option CC
def PM(R3:ED)(R8:D2)(R13:DZ)(z7:Db)(t25:AAG)(t26 t27:Int)(Ac:AAA)(AZ:Int)(BM:AAG)(CO:AAA)(Ck:AAB)(Bu:Int)(CD:AAD)(B_:AAC)(Cw:AAE)(C5:AAH)(BB:Bool)(BJ EP:Int)(Eg:Bool)(b2:AAA)(b3:AAG)(b4:AAA)(b5:AAB)(b6:AAD)(b7:AAC)(b8:AAE)(b9:AAH)(Ds Dv:Int)(CQ:Bool)(Rv:AAA)(GC:AAG)(Ut:AAA)(UZ:AAB)(H4:AAD)(J5:AAC)(Nw:AAE)(Wn:AAH):Option CC:=
 cond (decide (t27<t26))
  (if(0:Int)≤t27∧t27<(t25.length:Int)then(
  (MW ((t25.getD (t27.toNat) ([],[],0,())).1,(t25.getD (t27.toNat) ([],[],0,())).2.1,(t25.getD (t27.toNat) ([],[],0,())).2.2.1,())).bind fun yJ=>
  if GC.length+1≤Ej then(
  R3 t25 t26 (AX (t27+1)) Ac AZ BM CO Ck Bu CD B_ Cw C5 BB BJ EP Eg b2 b3 b4 b5 b6 b7 b8 b9 Ds Dv CQ Rv (GC++[(yJ.2.1,yJ.2.2.1,yJ.1.1.2.2.1,())]) Ut UZ H4 J5 Nw Wn)else none)else none)
 (R8 CD (CD.length:Int) 0 Ac AZ BM CO Ck Bu CD B_ Cw C5 BB BJ EP Eg b2 b3 b4 b5 b6 b7 b8 b9 Ds Dv CQ Rv GC Ut UZ H4 J5 Nw Wn)
def On(R3:ED)(R8:D2)(R13:DZ)(z7:Db)(t40:AAD)(t41 t42:Int)(Ac:AAA)(AZ:Int)(BM:AAG)(CO:AAA)(Ck:AAB)(Bu:Int)(CD:AAD)(B_:AAC)(Cw:AAE)(C5:AAH)(BB:Bool)(BJ EP:Int)(Eg:Bool)(b2:AAA)(b3:AAG)(b4:AAA)(b5:AAB)(b6:AAD)(b7:AAC)(b8:AAE)(b9:AAH)(Ds Dv:Int)(CQ:Bool)(Rv:AAA)(GC:AAG)(Ut:AAA)(UZ:AAB)(H4:AAD)(J5:AAC)(Nw:AAE)(Wn:AAH):Option CC:=
 cond (decide (t42<t41))
  (if(0:Int)≤t42∧t42<(t40.length:Int)then(
  (KV ((t40.getD (t42.toNat) (0,[],())).1,(t40.getD (t42.toNat) (0,[],())).2.1,())).bind fun l7=>
  if H4.length+1≤Ej then(
  R8 t40 t41 (AX (t42+1)) Ac AZ BM CO Ck Bu CD B_ Cw C5 BB BJ EP Eg b2 b3 b4 b5 b6 b7 b8 b9 Ds Dv CQ Rv GC Ut UZ (H4++[(l7.1.1.1,l7.2.1,())]) J5 Nw Wn)else none)else none)
 (R13 B_ (B_.length:Int) 0 Ac AZ BM CO Ck Bu CD B_ Cw C5 BB BJ EP Eg b2 b3 b4 b5 b6 b7 b8 b9 Ds Dv CQ Rv GC Ut UZ H4 J5 Nw Wn)
def NK(R3:ED)(R8:D2)(R13:DZ)(z7:Db)(t55:AAC)(t56 t57:Int)(Ac:AAA)(AZ:Int)(BM:AAG)(CO:AAA)(Ck:AAB)(Bu:Int)(CD:AAD)(B_:AAC)(Cw:AAE)(C5:AAH)(BB:Bool)(BJ EP:Int)(Eg:Bool)(b2:AAA)(b3:AAG)(b4:AAA)(b5:AAB)(b6:AAD)(b7:AAC)(b8:AAE)(b9:AAH)(Ds Dv:Int)(CQ:Bool)(Rv:AAA)(GC:AAG)(Ut:AAA)(UZ:AAB)(H4:AAD)(J5:AAC)(Nw:AAE)(Wn:AAH):Option CC:=
 cond (decide (t57<t56))
  (if(0:Int)≤t57∧t57<(t55.length:Int)then(
  (OE ((t55.getD (t57.toNat) (0,0,[],[],false,[],())).1,(t55.getD (t57.toNat) (0,0,[],[],false,[],())).2.1,(t55.getD (t57.toNat) (0,0,[],[],false,[],())).2.2.1,(t55.getD (t57.toNat) (0,0,[],[],false,[],())).2.2.2.1,(t55.getD (t57.toNat) (0,0,[],[],false,[],())).2.2.2.2.1,(t55.getD (t57.toNat) (0,0,[],[],false,[],())).2.2.2.2.2.1,())).bind fun mH=>
  if J5.length+1≤Ej then(
  R13 t55 t56 (AX (t57+1)) Ac AZ BM CO Ck Bu CD B_ Cw C5 BB BJ EP Eg b2 b3 b4 b5 b6 b7 b8 b9 Ds Dv CQ Rv GC Ut UZ H4 (J5++[(mH.1.1.1,mH.1.1.2.1,mH.2.1,mH.2.2.1,mH.1.1.2.2.2.2.1,mH.2.2.2.1,())]) Nw Wn)else none)else none)
 (z7 Cw (Cw.length:Int) 0 Ac AZ BM CO Ck Bu CD B_ Cw C5 BB BJ EP Eg b2 b3 b4 b5 b6 b7 b8 b9 Ds Dv CQ Rv GC Ut UZ H4 J5 Nw Wn)
def NH(R3:ED)(R8:D2)(R13:DZ)(z7:Db)(t70:AAE)(t71 t72:Int)(Ac:AAA)(AZ:Int)(BM:AAG)(CO:AAA)(Ck:AAB)(Bu:Int)(CD:AAD)(B_:AAC)(Cw:AAE)(C5:AAH)(BB:Bool)(BJ EP:Int)(Eg:Bool)(b2:AAA)(b3:AAG)(b4:AAA)(b5:AAB)(b6:AAD)(b7:AAC)(b8:AAE)(b9:AAH)(Ds Dv:Int)(CQ:Bool)(Rv:AAA)(GC:AAG)(Ut:AAA)(UZ:AAB)(H4:AAD)(J5:AAC)(Nw:AAE)(Wn:AAH):Option CC:=
 cond (decide (t72<t71))
  (if(0:Int)≤t72∧t72<(t70.length:Int)then(
  (Hb ((t70.getD (t72.toNat) (0,0,[],())).1,(t70.getD (t72.toNat) (0,0,[],())).2.1,(t70.getD (t72.toNat) (0,0,[],())).2.2.1,())).bind fun xp=>
  if Nw.length+1≤Ej then(
  z7 t70 t71 (AX (t72+1)) Ac AZ BM CO Ck Bu CD B_ Cw C5 BB BJ EP Eg b2 b3 b4 b5 b6 b7 b8 b9 Ds Dv CQ Rv GC Ut UZ H4 J5 (Nw++[(xp.1.1.1,xp.1.1.2.1,xp.2.1,())]) Wn)else none)else none)
 (if 0+C5.length≤Ej then(
 some ((((),Ds,(),(),(),Dv,(),(),(),(),CQ,()),()),(Rv,GC,Ut,UZ,H4,J5,Nw,C5,())))else none)
mutual
def Ch:Nat→ED
 |0=>fun _ _ _ _ _ _ _ _ _ _ _ _ _ _ _ _ _ _ _ _ _ _ _ _ _ _ _ _ _ _ _ _ _ _ _ _=>none
 |n+1=>PM (Ch n) (Cj n) (CV n) (CT n)
def Cj:Nat→D2
 |0=>fun _ _ _ _ _ _ _ _ _ _ _ _ _ _ _ _ _ _ _ _ _ _ _ _ _ _ _ _ _ _ _ _ _ _ _ _=>none
 |n+1=>On (Ch n) (Cj n) (CV n) (CT n)
def CV:Nat→DZ
 |0=>fun _ _ _ _ _ _ _ _ _ _ _ _ _ _ _ _ _ _ _ _ _ _ _ _ _ _ _ _ _ _ _ _ _ _ _ _=>none
 |n+1=>NK (Ch n) (Cj n) (CV n) (CT n)
def CT:Nat→Db
 |0=>fun _ _ _ _ _ _ _ _ _ _ _ _ _ _ _ _ _ _ _ _ _ _ _ _ _ _ _ _ _ _ _ _ _ _ _ _=>none
 |n+1=>NH (Ch n) (Cj n) (CV n) (CT n)
end
def PD(R3:ED)(R8:D2)(R13:DZ)(z7:Db)(p0:AAL):Option CC:=
 (KQ (p0.1,p0.2.1,())).bind fun u2=>
 (Cp p0.2.2.2.1).bind fun u3=>
 (H8 (p0.2.2.2.2.1,p0.2.2.2.2.2.1,())).bind fun u4=>
 R3 p0.2.2.1 (p0.2.2.1.length:Int) 0 p0.1 p0.2.1 p0.2.2.1 p0.2.2.2.1 p0.2.2.2.2.1 p0.2.2.2.2.2.1 p0.2.2.2.2.2.2.1 p0.2.2.2.2.2.2.2.1 p0.2.2.2.2.2.2.2.2.1 p0.2.2.2.2.2.2.2.2.2.1 p0.2.2.2.2.2.2.2.2.2.2.1 0 0 false [] [] [] [] [] [] [] [] u2.1.1.2.1 u4.1.1.2.1 p0.2.2.2.2.2.2.2.2.2.2.1 u2.2.1 [] u3.2.1 u4.2.1 [] [] [] []
def GV(p0:AAL):Option CC:=PD (Ch AL) (Cj AL) (CV AL) (CT AL) p0
abbrev Zj:Type:=AC1×Unit
def Iy(p0 p1:Int):Option Zj:=
 (Dk p0).bind fun u1=>
 cond (!u1.1.1)
  (some (((0,false,()),()),()))
 ((SN p1).bind fun u2=>
 cond (!u2.1.1)
  (some (((0,false,()),()),()))
 (some (((AX ((AX (4294967296*p0))+p1),true,()),()),())))
abbrev JO:Type:=AAQ×AAP
abbrev L8:Type:=Int→Int→List Int→Option JO
def PU(R5:L8)(t0 t10:Int)(b0:AAA):Option JO:=
 cond (decide (t10<8))
  (if t10<0 then none else(
  cond (((o8 .i64 (t0.fdiv (2^(min t10.toNat 64))) 1)==1))
   (if b0.length+1≤Ej then(
   R5 t0 (AX (t10+1)) (b0++[t10]))else none)
  (R5 t0 (AX (t10+1)) b0)))
 (some (((),()),(b0,())))
def FV:Nat→L8
 |0=>fun _ _ _=>none
 |n+1=>PU (FV n)
def Oj(R5:L8)(p0:Int):Option JO:=
 (BF p0 0 255).bind fun u1=>
 cond (!u1.1.1)
  (some (((),()),([],())))
 (R5 p0 0 [])
def Lv(p0:Int):Option JO:=Oj (FV AL) p0
abbrev Zv:Type:=AAI×Unit
def Mf(p0:AA3)(p1:Int):Option Zv:=
 cond (decide (p0.1<p1))
  (some (((-1),()),()))
 (cond (decide (p0.1>p1))
  (some ((1,()),()))
 (some ((0,()),())))
abbrev Ah:Type:=AC1×Unit
abbrev Ao:Type:=AAK→Int→Int→Int→Int→Option Ah
def BH(R3:Ao)(t0:AAK)(t1 t8 t9 t10:Int):Option Ah:=
 cond (decide (t9<t10))
  (let x2:Int:=AX ((IntKind.wrap .u64 (AX (t9+t10))).fdiv (2^1))
  if(0:Int)≤x2∧x2<(t0.length:Int)then(
  (Mf ((t0.getD (x2.toNat) (0,0,false,[],())).1,(t0.getD (x2.toNat) (0,0,false,[],())).2.1,(t0.getD (x2.toNat) (0,0,false,[],())).2.2.1,(t0.getD (x2.toNat) (0,0,false,[],())).2.2.2.1,()) t1).bind fun u3=>
  cond (decide (u3.1.1<0))
   (R3 t0 t1 t8 (AX (x2+1)) t10)
  (R3 t0 t1 t8 t9 x2))else none)
 (cond (decide (t9<t8))
  (if(0:Int)≤t9∧t9<(t0.length:Int)then(
  (Mf ((t0.getD (t9.toNat) (0,0,false,[],())).1,(t0.getD (t9.toNat) (0,0,false,[],())).2.1,(t0.getD (t9.toNat) (0,0,false,[],())).2.2.1,(t0.getD (t9.toNat) (0,0,false,[],())).2.2.2.1,()) t1).bind fun u4=>
  some (((t9,u4.1.1==0,()),()),()))else none)
 (some (((t9,false,()),()),())))
def AW:Nat→Ao
 |0=>fun _ _ _ _ _=>none
 |n+1=>BH (AW n)
def BI(R3:Ao)(p0:AAK)(p1:Int):Option Ah:=
 R3 p0 p1 (p0.length:Int) 0 (p0.length:Int)
def As(p0:AAK)(p1:Int):Option Ah:=BI (AW AL) p0 p1
abbrev cL:Type:=AC1×Unit
def Q2(p0:AAK)(p1:Int):Option cL:=
 (As p0 p1).bind fun u1=>
 some (((u1.1.1.1,u1.1.1.2.1,()),()),())
abbrev aV:Type:=AC2×Unit
def OB(p0:AA2)(p1:Int):Option aV:=
 (Ld (p0.1,p0.2.1,p0.2.2.1,())).bind fun u1=>
 cond (!u1.1.1)
  (some ((((0,0,false,[],()),false,()),()),()))
 ((Q2 p0.1 p1).bind fun u2=>
 cond (!u2.1.1.2.1)
  (some ((((0,0,false,[],()),false,()),()),()))
 (if(0:Int)≤u2.1.1.1∧u2.1.1.1<(p0.1.length:Int)then(
 some (((((p0.1.getD (u2.1.1.1.toNat) (0,0,false,[],())).1,(p0.1.getD (u2.1.1.1.toNat) (0,0,false,[],())).2.1,(p0.1.getD (u2.1.1.1.toNat) (0,0,false,[],())).2.2.1,(p0.1.getD (u2.1.1.1.toNat) (0,0,false,[],())).2.2.2.1,()),true,()),()),()))else none))
abbrev H9:Type:=AAI×Unit
abbrev Kt:Type:=AAM→Int→Int→Int→AAM→Option H9
def NI(R2:Kt)(t6:AAM)(t7 t8 Ac:Int)(AZ:AAM):Option H9:=
 cond (decide (t8<t7))
  (if(0:Int)≤t8∧t8<(t6.length:Int)then(
  cond (!((t6.getD (t8.toNat) ([],[],false,())).2.2.1))
   (some ((t8,()),()))
  (R2 t6 t7 (AX (t8+1)) Ac AZ))else none)
 (some (((AZ.length:Int),()),()))
def Et:Nat→Kt
 |0=>fun _ _ _ _ _=>none
 |n+1=>NI (Et n)
def M_(R2:Kt)(p0:AAi):Option H9:=
 R2 p0.2.1 (p0.2.1.length:Int) 0 p0.1 p0.2.1
def Kr(p0:AAi):Option H9:=M_ (Et AL) p0
abbrev OJ:Type:=AAI×Unit
abbrev Sb:Type:=Int→AAD→Int→Int→Option OJ
def TU(R2:Sb)(t1:Int)(t8:AAD)(t9 t10:Int):Option OJ:=
 cond (decide (t10<t9))
  (if(0:Int)≤t10∧t10<(t8.length:Int)then(
  cond (((t8.getD (t10.toNat) (0,[],())).1)==t1)
   ((Kr ((t8.getD (t10.toNat) (0,[],())).1,(t8.getD (t10.toNat) (0,[],())).2.1,())).bind fun u3=>
   some ((u3.1.1,()),()))
  (R2 t1 t8 t9 (AX (t10+1))))else none)
 (some ((0,()),()))
def Ir:Nat→Sb
 |0=>fun _ _ _ _=>none
 |n+1=>TU (Ir n)
def T1(R2:Sb)(p0:AAL)(p1:Int):Option OJ:=
 R2 p1 p0.2.2.2.2.2.2.1 (p0.2.2.2.2.2.2.1.length:Int) 0
def TE(p0:AAL)(p1:Int):Option OJ:=T1 (Ir AL) p0 p1
abbrev M0:Type:=AAQ×AAP
abbrev Pn:Type:=AAZ→Int→Int→List Int→Option M0
def Sj(R3:Pn)(t7:AAZ)(t8 t9:Int)(b0:AAA):Option M0:=
 cond (decide (t9<t8))
  (if(0:Int)≤t9∧t9<(t7.length:Int)then(
  if b0.length+1≤Ej then(
  R3 t7 t8 (AX (t9+1)) (b0++[((t7.getD (t9.toNat) (0,false,0,0,false,[],())).1)]))else none)else none)
 (some (((),()),(b0,())))
def HK:Nat→Pn
 |0=>fun _ _ _ _=>none
 |n+1=>Sj (HK n)
def SK(R3:Pn)(p0:AAZ):Option M0:=
 R3 p0 (p0.length:Int) 0 []
def JE(p0:AAZ):Option M0:=SK (HK AL) p0
abbrev dI:Type:=AAJ×Unit
def Q8(p0:Int)(p1:AAt):Option dI:=
 (EU p0).bind fun u1=>
 cond ((decide (u1.1.1<p1.1)))
  (some ((true,()),()))
 (cond (u1.1.1==p1.1)
  ((Nz p0).bind fun u3=>
  some (((decide (u3.1.1<p1.2.1)),()),()))
 (some ((false,()),())))
abbrev XZ:Type:=AAQ×ADA
def Cb(p1:ABH)(Ac AZ:Int)(b1:AAN):Option XZ:=
 if b1.length+1≤Ej then(
 some (((()),()),((Ac,AZ,(),()),(),(b1++[(p1.1,p1.2.1,p1.2.2.1,())]),())))else none
abbrev S1:Type:=AAQ×AAP
abbrev VM:Type:=List Int→List Int→Int→Int→List Int→Option S1
def Vh(R5:VM)(t2 t22:AAA)(t23 t24:Int)(b0:AAA):Option S1:=
 cond (decide (t24<t23))
  (if(0:Int)≤t24∧t24<(t22.length:Int)then(
  let x3:Int:=(t22.getD (t24.toNat) 0)
  (Bm t2 x3).bind fun u4=>
  cond (!u4.1.1)
   (if b0.length+1≤Ej then(
   R5 t2 t22 t23 (AX (t24+1)) (b0++[x3]))else none)
  (R5 t2 t22 t23 (AX (t24+1)) b0))else none)
 (some (((),()),(b0,())))
def Mb:Nat→VM
 |0=>fun _ _ _ _ _=>none
 |n+1=>Vh (Mb n)
def Vc(R5:VM)(p0:List Int×Int×Unit)(p1 p2:AAA):Option S1:=
 (CI (p0.1,p0.2.1,()) p1).bind fun u1=>
 cond (!u1.1.1)
  (some (((),()),([],())))
 ((CI (p0.1,p0.2.1,()) p2).bind fun u2=>
 cond (!u2.1.1)
  (some (((),()),([],())))
 (R5 p2 p1 (p1.length:Int) 0 []))
def We(p0:List Int×Int×Unit)(p1 p2:AAA):Option S1:=Vc (Mb AL) p0 p1 p2
abbrev eQ:Type:=AAJ×Unit
def Dt(p0:List Int×Int×Unit)(p1 p2:AAA):Option eQ:=
 (CI (p0.1,p0.2.1,()) p2).bind fun u1=>
 cond (!u1.1.1)
  (some ((false,()),()))
 ((Ib (p0.1,p0.2.1,()) p1).bind fun u2=>
 cond (!u2.1.1)
  (some ((false,()),()))
 ((Jd p2 p1).bind fun u3=>
 cond (((u3.2.1.length:Int) !=(p2.length:Int)))
  (some ((false,()),()))
 ((We (p0.1,p0.2.1,()) p1 p2).bind fun u6=>
 (Ib (p0.1,p0.2.1,()) u6.2.1).bind fun u7=>
 some ((!u7.1.1,()),()))))
abbrev fO:Type:=AC3×Unit
def O9(p0 p1:AA3):Option fO:=
 cond ((decide (p1.2.1>p0.2.1)))
  (some (((p1.1,p1.2.1,p1.2.2.1,p1.2.2.2.1,()),()),()))
 (some (((p0.1,p0.2.1,p0.2.2.1,p0.2.2.2.1,()),()),()))
abbrev OQ:Type:=AC2×Unit
abbrev Rz:Type:=List Int→Int→Bool→AAZ→Int→Int→Int→Int→Bool→List UInt8→Int→Int→Bool→List UInt8→Option OQ
def T0(R3:Rz)(t1:AAA)(t2:Int)(t9:Bool)(t13:AAZ)(t14 t15 Ac AZ:Int)(BM:Bool)(CO:List UInt8)(CB BJ:Int)(IM:Bool)(Gk:List UInt8):Option OQ:=
 cond (decide (t15<t14))
  (if(0:Int)≤t15∧t15<(t13.length:Int)then(
  cond (!((t13.getD (t15.toNat) (0,false,0,0,false,[],())).2.1))
   (R3 t1 t2 t9 t13 t14 (AX (t15+1)) Ac AZ BM CO CB BJ IM Gk)
  ((Bm t1 ((t13.getD (t15.toNat) (0,false,0,0,false,[],())).1)).bind fun u3=>
  cond (!u3.1.1)
   (R3 t1 t2 t9 t13 t14 (AX (t15+1)) Ac AZ BM CO CB BJ IM Gk)
  ((JJ ((t13.getD (t15.toNat) (0,false,0,0,false,[],())).2.2.1,(t13.getD (t15.toNat) (0,false,0,0,false,[],())).2.2.2.1,(t13.getD (t15.toNat) (0,false,0,0,false,[],())).2.2.2.2.1,(t13.getD (t15.toNat) (0,false,0,0,false,[],())).2.2.2.2.2.1,())).bind fun u4=>
  cond (!u4.1.1)
   (R3 t1 t2 t9 t13 t14 (AX (t15+1)) Ac AZ BM CO CB BJ IM Gk)
  (cond (((t13.getD (t15.toNat) (0,false,0,0,false,[],())).2.2.1) !=t2)
   (R3 t1 t2 t9 t13 t14 (AX (t15+1)) Ac AZ BM CO CB BJ IM Gk)
  (cond (!t9)
   ((O9 ((t13.getD (t15.toNat) (0,false,0,0,false,[],())).2.2.1,(t13.getD (t15.toNat) (0,false,0,0,false,[],())).2.2.2.1,(t13.getD (t15.toNat) (0,false,0,0,false,[],())).2.2.2.2.1,(t13.getD (t15.toNat) (0,false,0,0,false,[],())).2.2.2.2.2.1,()) ((t13.getD (t15.toNat) (0,false,0,0,false,[],())).2.2.1,(t13.getD (t15.toNat) (0,false,0,0,false,[],())).2.2.2.1,(t13.getD (t15.toNat) (0,false,0,0,false,[],())).2.2.2.2.1,(t13.getD (t15.toNat) (0,false,0,0,false,[],())).2.2.2.2.2.1,())).bind fun u6=>
   R3 t1 t2 true t13 t14 (AX (t15+1)) Ac AZ BM CO u6.1.1.1 u6.1.1.2.1 u6.1.1.2.2.1 u6.1.1.2.2.2.1)
  ((O9 (CB,BJ,IM,Gk,()) ((t13.getD (t15.toNat) (0,false,0,0,false,[],())).2.2.1,(t13.getD (t15.toNat) (0,false,0,0,false,[],())).2.2.2.1,(t13.getD (t15.toNat) (0,false,0,0,false,[],())).2.2.2.2.1,(t13.getD (t15.toNat) (0,false,0,0,false,[],())).2.2.2.2.2.1,())).bind fun u7=>
  R3 t1 t2 true t13 t14 (AX (t15+1)) Ac AZ BM CO u7.1.1.1 u7.1.1.2.1 u7.1.1.2.2.1 u7.1.1.2.2.2.1))))))else none)
 (some ((((CB,BJ,IM,Gk,()),t9,()),()),()))
def IZ:Nat→Rz
 |0=>fun _ _ _ _ _ _ _ _ _ _ _ _ _ _=>none
 |n+1=>T0 (IZ n)
def Sw(R3:Rz)(p0:AAZ)(p1:AAA)(p2:Int):Option OQ:=
 R3 p1 p2 false p0 (p0.length:Int) 0 0 0 false [] 0 0 false []
def Ts(p0:AAZ)(p1:AAA)(p2:Int):Option OQ:=Sw (IZ AL) p0 p1 p2
abbrev W4:Type:=AAQ×ADA
def BN(p1:AAZ)(p2:AAA)(Ac AZ:Int)(b1:AAN):Option W4:=
 (Iy Ac AZ).bind fun u1=>
 (Ts p1 p2 u1.1.1.1).bind fun u2=>
 cond (!u2.1.1.2.1)
  ((Cb (3,u1.1.1.1,[],()) Ac AZ b1).bind fun u3=>
  some (((()),()),((u3.2.1.1,AX (u3.2.1.2.1+1),(),()),(),u3.2.2.2.1,())))
 (cond (u2.1.1.1.2.2.1)
  ((Cb (2,u1.1.1.1,[],()) Ac AZ b1).bind fun u4=>
  some (((()),()),((u4.2.1.1,AX (u4.2.1.2.1+1),(),()),(),u4.2.2.2.1,())))
 ((Cb (1,u1.1.1.1,u2.1.1.1.2.2.2.1,()) Ac AZ b1).bind fun u5=>
 some (((()),()),((u5.2.1.1,AX (u5.2.1.2.1+1),(),()),(),u5.2.2.2.1,()))))
abbrev Lm:Type:=(ADB×Unit)×ABO
def KI(p0:List Int×Int×Unit)(p1:AAT)(p2:Int)(p3:AAt)(p4:AAZ):Option Lm:=
 (RZ (p0.1,p0.2.1,()) (p1.1,p1.2.1,())).bind fun u1=>
 cond (!u1.1.1)
  (some ((((0,0,(),()),1,()),()),([],())))
 ((Ob (p3.1,p3.2.1,p3.2.2.1,())).bind fun u2=>
 cond (!u2.1.1)
  (some ((((0,0,(),()),1,()),()),([],())))
 ((JE p4).bind fun u3=>
 (CI (p0.1,p0.2.1,()) u3.2.1).bind fun u4=>
 cond (!u4.1.1)
  (some ((((0,0,(),()),1,()),()),([],())))
 ((Hb (p3.1,p3.2.1,p3.2.2.1,())).bind fun u5=>
 cond ((decide (p3.1>(p1.1.length:Int))))
  (some ((((u5.1.1.1,u5.1.1.2.1,(),()),2,()),()),(u5.2.1,())))
 (cond ((p3.2.2.1.length:Int)==120)
  (some ((((u5.1.1.1,u5.1.1.2.1,(),()),2,()),()),(u5.2.1,())))
 (cond (decide (p1.2.1>0))
  ((Q8 p1.2.1 (p3.1,p3.2.1,p3.2.2.1,())).bind fun u8=>
  cond (!u8.1.1)
   ((Cb (5,p1.2.1,[],()) u5.1.1.1 u5.1.1.2.1 u5.2.1).bind fun u9=>
   (EU p1.2.1).bind fun lh=>
   (Nz p1.2.1).bind fun lF=>
   some ((((lh.1.1,AX (lF.1.1+1),(),()),0,()),()),(u9.2.2.2.1,())))
  (if(0:Int)≤AX (p3.1-1)∧AX (p3.1-1)<(p1.1.length:Int)then(
  (JE p4).bind fun kU=>
  (Jd kU.2.1 ((p1.1.getD ((AX (p3.1-1)).toNat) ([],false,0,())).1)).bind fun mT=>
  cond (((p1.1.getD ((AX (p3.1-1)).toNat) ([],false,0,())).2.1))
   (cond ((decide (p3.2.1>((p1.1.getD ((AX (p3.1-1)).toNat) ([],false,0,())).2.2.1))))
    ((Cb (4,AX (p3.1+1),[],()) u5.1.1.1 u5.1.1.2.1 u5.2.1).bind fun lu=>
    some ((((AX (p3.1+1),1,(),()),0,()),()),(lu.2.2.2.1,())))
   (cond (!((p1.1.getD ((AX (p3.1-1)).toNat) ([],false,0,())).2.1))
    (cond (decide (p3.2.1>p2))
     (some ((((u5.1.1.1,u5.1.1.2.1,(),()),2,()),()),(u5.2.1,())))
    (cond (decide (p3.2.1>60))
     (some ((((u5.1.1.1,u5.1.1.2.1,(),()),2,()),()),(u5.2.1,())))
    ((Dt (p0.1,p0.2.1,()) ((p1.1.getD ((AX (p3.1-1)).toNat) ([],false,0,())).1) mT.2.1).bind fun iv=>
    cond (!iv.1.1)
     (some ((((u5.1.1.1,u5.1.1.2.1,(),()),3,()),()),(u5.2.1,())))
    ((BN p4 mT.2.1 u5.1.1.1 u5.1.1.2.1 u5.2.1).bind fun l7=>
    some ((((l7.2.1.1,l7.2.1.2.1,(),()),0,()),()),(l7.2.2.2.1,()))))))
   (cond (decide (p3.2.1>60))
    (some ((((u5.1.1.1,u5.1.1.2.1,(),()),2,()),()),(u5.2.1,())))
   ((Dt (p0.1,p0.2.1,()) ((p1.1.getD ((AX (p3.1-1)).toNat) ([],false,0,())).1) mT.2.1).bind fun wU=>
   cond (!wU.1.1)
    (some ((((u5.1.1.1,u5.1.1.2.1,(),()),3,()),()),(u5.2.1,())))
   ((BN p4 mT.2.1 u5.1.1.1 u5.1.1.2.1 u5.2.1).bind fun zd=>
   some ((((zd.2.1.1,zd.2.1.2.1,(),()),0,()),()),(zd.2.2.2.1,())))))))
  (cond (!((p1.1.getD ((AX (p3.1-1)).toNat) ([],false,0,())).2.1))
   (cond (decide (p3.2.1>p2))
    (some ((((u5.1.1.1,u5.1.1.2.1,(),()),2,()),()),(u5.2.1,())))
   (cond (decide (p3.2.1>60))
    (some ((((u5.1.1.1,u5.1.1.2.1,(),()),2,()),()),(u5.2.1,())))
   ((Dt (p0.1,p0.2.1,()) ((p1.1.getD ((AX (p3.1-1)).toNat) ([],false,0,())).1) mT.2.1).bind fun u24=>
   cond (!u24.1.1)
    (some ((((u5.1.1.1,u5.1.1.2.1,(),()),3,()),()),(u5.2.1,())))
   ((BN p4 mT.2.1 u5.1.1.1 u5.1.1.2.1 u5.2.1).bind fun mH=>
   some ((((mH.2.1.1,mH.2.1.2.1,(),()),0,()),()),(mH.2.2.2.1,()))))))
  (cond (decide (p3.2.1>60))
   (some ((((u5.1.1.1,u5.1.1.2.1,(),()),2,()),()),(u5.2.1,())))
  ((Dt (p0.1,p0.2.1,()) ((p1.1.getD ((AX (p3.1-1)).toNat) ([],false,0,())).1) mT.2.1).bind fun u26=>
  cond (!u26.1.1)
   (some ((((u5.1.1.1,u5.1.1.2.1,(),()),3,()),()),(u5.2.1,())))
  ((BN p4 mT.2.1 u5.1.1.1 u5.1.1.2.1 u5.2.1).bind fun u27=>
  some ((((u27.2.1.1,u27.2.1.2.1,(),()),0,()),()),(u27.2.2.2.1,())))))))else none))
 (if(0:Int)≤AX (p3.1-1)∧AX (p3.1-1)<(p1.1.length:Int)then(
 (JE p4).bind fun u28=>
 (Jd u28.2.1 ((p1.1.getD ((AX (p3.1-1)).toNat) ([],false,0,())).1)).bind fun nx=>
 cond (((p1.1.getD ((AX (p3.1-1)).toNat) ([],false,0,())).2.1))
  (cond ((decide (p3.2.1>((p1.1.getD ((AX (p3.1-1)).toNat) ([],false,0,())).2.2.1))))
   ((Cb (4,AX (p3.1+1),[],()) u5.1.1.1 u5.1.1.2.1 u5.2.1).bind fun u33=>
   some ((((AX (p3.1+1),1,(),()),0,()),()),(u33.2.2.2.1,())))
  (cond (!((p1.1.getD ((AX (p3.1-1)).toNat) ([],false,0,())).2.1))
   (cond (decide (p3.2.1>p2))
    (some ((((u5.1.1.1,u5.1.1.2.1,(),()),2,()),()),(u5.2.1,())))
   (cond (decide (p3.2.1>60))
    (some ((((u5.1.1.1,u5.1.1.2.1,(),()),2,()),()),(u5.2.1,())))
   ((Dt (p0.1,p0.2.1,()) ((p1.1.getD ((AX (p3.1-1)).toNat) ([],false,0,())).1) nx.2.1).bind fun u35=>
   cond (!u35.1.1)
    (some ((((u5.1.1.1,u5.1.1.2.1,(),()),3,()),()),(u5.2.1,())))
   ((BN p4 nx.2.1 u5.1.1.1 u5.1.1.2.1 u5.2.1).bind fun xd=>
   some ((((xd.2.1.1,xd.2.1.2.1,(),()),0,()),()),(xd.2.2.2.1,()))))))
  (cond (decide (p3.2.1>60))
   (some ((((u5.1.1.1,u5.1.1.2.1,(),()),2,()),()),(u5.2.1,())))
  ((Dt (p0.1,p0.2.1,()) ((p1.1.getD ((AX (p3.1-1)).toNat) ([],false,0,())).1) nx.2.1).bind fun u37=>
  cond (!u37.1.1)
   (some ((((u5.1.1.1,u5.1.1.2.1,(),()),3,()),()),(u5.2.1,())))
  ((BN p4 nx.2.1 u5.1.1.1 u5.1.1.2.1 u5.2.1).bind fun yv=>
  some ((((yv.2.1.1,yv.2.1.2.1,(),()),0,()),()),(yv.2.2.2.1,())))))))
 (cond (!((p1.1.getD ((AX (p3.1-1)).toNat) ([],false,0,())).2.1))
  (cond (decide (p3.2.1>p2))
   (some ((((u5.1.1.1,u5.1.1.2.1,(),()),2,()),()),(u5.2.1,())))
  (cond (decide (p3.2.1>60))
   (some ((((u5.1.1.1,u5.1.1.2.1,(),()),2,()),()),(u5.2.1,())))
  ((Dt (p0.1,p0.2.1,()) ((p1.1.getD ((AX (p3.1-1)).toNat) ([],false,0,())).1) nx.2.1).bind fun u40=>
  cond (!u40.1.1)
   (some ((((u5.1.1.1,u5.1.1.2.1,(),()),3,()),()),(u5.2.1,())))
  ((BN p4 nx.2.1 u5.1.1.1 u5.1.1.2.1 u5.2.1).bind fun u41=>
  some ((((u41.2.1.1,u41.2.1.2.1,(),()),0,()),()),(u41.2.2.2.1,()))))))
 (cond (decide (p3.2.1>60))
  (some ((((u5.1.1.1,u5.1.1.2.1,(),()),2,()),()),(u5.2.1,())))
 ((Dt (p0.1,p0.2.1,()) ((p1.1.getD ((AX (p3.1-1)).toNat) ([],false,0,())).1) nx.2.1).bind fun u42=>
 cond (!u42.1.1)
  (some ((((u5.1.1.1,u5.1.1.2.1,(),()),3,()),()),(u5.2.1,())))
 ((BN p4 nx.2.1 u5.1.1.1 u5.1.1.2.1 u5.2.1).bind fun yN=>
 some ((((yN.2.1.1,yN.2.1.2.1,(),()),0,()),()),(yN.2.2.2.1,())))))))else none))))))
abbrev Qg:Type:=AAJ×Unit
abbrev UE:Type:=List Int→Int→Int→Int→Option Qg
def Nu(R2:UE)(t0:AAA)(t1 t2 t7:Int):Option Qg:=
 cond ((decide (t7<(t0.length:Int))))
  (if(0:Int)≤t7∧t7<(t0.length:Int)then(
  (CF (t0.getD (t7.toNat) 0) t1 t2).bind fun u3=>
  cond (!u3.1.1)
   (some ((false,()),()))
  (cond (decide (t7>0))
   (if(0:Int)≤AX (t7-1)∧AX (t7-1)<(t0.length:Int)then(
   if(0:Int)≤t7∧t7<(t0.length:Int)then(
   cond (decide ((t0.getD ((AX (t7-1)).toNat) 0)≥(t0.getD (t7.toNat) 0)))
    (some ((false,()),()))
   (R2 t0 t1 t2 (AX (t7+1))))else none)else none)
  (R2 t0 t1 t2 (AX (t7+1)))))else none)
 (some ((true,()),()))
def Hl:Nat→UE
 |0=>fun _ _ _ _=>none
 |n+1=>Nu (Hl n)
def UU(R2:UE)(p0:AAA)(p1 p2:Int):Option Qg:=
 R2 p0 p1 p2 0
def U_(p0:AAA)(p1 p2:Int):Option Qg:=UU (Hl AL) p0 p1 p2
abbrev dC:Type:=AAJ×Unit
def Di(p0:List Int×Int×Unit)(p1:AAA):Option dC:=
 (Eb (p0.1,p0.2.1,())).bind fun u1=>
 cond (u1.1.1)
  ((U_ p1 0 (AX ((p0.1.length:Int)-1))).bind fun u3=>
  some ((u3.1.1,()),()))
 (some ((false,()),()))
abbrev OM:Type:=AAI×Unit
abbrev Rr:Type:=List Int→Int→Int→List Int→Int→List Bool→Option OM
def S8(R4:Rr)(t1:AAA)(t6 t7:Int)(Ac:AAA)(AZ:Int)(b1:List Bool):Option OM:=
 cond ((decide (t7<(t1.length:Int))))
  (if(0:Int)≤t7∧t7<(t1.length:Int)then(
  let x3:Int:=(t1.getD (t7.toNat) 0)
  if(0:Int)≤x3∧x3<(Ac.length:Int)then(
  let x4:Int:=(Ac.getD (x3.toNat) 0)
  if(0:Int)≤x4∧x4<(b1.length:Int)then(
  cond (!(b1.getD (x4.toNat) false))
   (if(0:Int)≤x4∧x4<(b1.length:Int)then(
   R4 t1 (AX (t6+1)) (AX (t7+1)) Ac AZ (b1.set (x4.toNat) true))else none)
  (R4 t1 t6 (AX (t7+1)) Ac AZ b1))else none)else none)else none)
 (some ((t6,()),()))
def Ip:Nat→Rr
 |0=>fun _ _ _ _ _ _=>none
 |n+1=>S8 (Ip n)
def TF(R4:Rr)(p0:List Int×Int×Unit)(p1:AAA):Option OM:=
 R4 p1 0 0 p0.1 p0.2.1 (List.replicate 8 false)
def PV(p0:List Int×Int×Unit)(p1:AAA):Option OM:=TF (Ip AL) p0 p1
abbrev gw:Type:=AAJ×Unit
def Kz(p0:List Int×Int×Unit)(p1:AAA):Option gw:=
 (Di (p0.1,p0.2.1,()) p1).bind fun u1=>
 cond (u1.1.1)
  ((PV (p0.1,p0.2.1,()) p1).bind fun u2=>
  some (((decide (u2.1.1≥p0.2.1)),()),()))
 (some ((false,()),()))
abbrev Qo:Type:=AAJ×Unit
abbrev UI:Type:=List Int→Int→Int→Option Qo
def UY(R2:UI)(t0:AAA)(t1 t5:Int):Option Qo:=
 cond ((decide (t5<(t0.length:Int))))
  (if(0:Int)≤t5∧t5<(t0.length:Int)then(
  cond ((t0.getD (t5.toNat) 0)==t1)
   (some ((true,()),()))
  (R2 t0 t1 (AX (t5+1))))else none)
 (some ((false,()),()))
def KE:Nat→UI
 |0=>fun _ _ _=>none
 |n+1=>UY (KE n)
def Ud(R2:UI)(p0:AAA)(p1:Int):Option Qo:=
 R2 p0 p1 0
def LA(p0:AAA)(p1:Int):Option Qo:=Ud (KE AL) p0 p1
abbrev Jg:Type:=AAI×Unit
abbrev Lq:Type:=Int→AAB→Int→Option Jg
def Ig(R2:Lq)(t3:Int)(Ac:AAB)(AZ:Int):Option Jg:=
 cond ((decide (t3<(Ac.length:Int))))
  (if(0:Int)≤t3∧t3<(Ac.length:Int)then(
  cond (!((Ac.getD (t3.toNat) ([],false,0,())).2.1))
   (some ((AX (t3+1),()),()))
  (R2 (AX (t3+1)) Ac AZ))else none)
 (some ((0,()),()))
def D4:Nat→Lq
 |0=>fun _ _ _=>none
 |n+1=>Ig (D4 n)
def PT(R2:Lq)(p0:AAT):Option Jg:=
 R2 0 p0.1 p0.2.1
def L9(p0:AAT):Option Jg:=PT (D4 AL) p0
abbrev cw:Type:=AAJ×Unit
def Ff(p0:Int):Option cw:=
 cond (decide (p0>0))
  ((CF (AX (p0.tdiv 4294967296)) 1 30).bind fun u2=>
  cond (u2.1.1)
   ((CF (p0.tmod 4294967296) 1 60).bind fun u3=>
   some ((u3.1.1,()),()))
  (some ((false,()),())))
 (some ((false,()),()))
abbrev dR:Type:=AAI×Unit
def Ft(p0:Int):Option dR:=
 (Ff p0).bind fun u1=>
 cond (!u1.1.1)
  (some ((0,()),()))
 (some (((AX (p0.tdiv 4294967296)),()),()))
abbrev dx:Type:=AAJ×Unit
def JW(p0:AA3):Option dx:=
 (Ff p0.1).bind fun u1=>
 cond (!u1.1.1)
  (some ((false,()),()))
 ((CF p0.2.1 0 30).bind fun u2=>
 cond (!u2.1.1)
  (some ((false,()),()))
 (cond (decide (p0.2.1>0))
  ((Ft p0.1).bind fun u3=>
  cond ((decide (p0.2.1≤u3.1.1)))
   (some ((false,()),()))
  (cond (decide ((p0.2.2.2.1.length:Int)>40))
   (some ((false,()),()))
  (cond (!p0.2.2.1)
   (some ((true,()),()))
  (cond (decide (p0.2.1>0))
   (some ((p0.2.2.2.1==[],()),()))
  (some ((false,()),()))))))
 (cond (decide ((p0.2.2.2.1.length:Int)>40))
  (some ((false,()),()))
 (cond (!p0.2.2.1)
  (some ((true,()),()))
 (cond (decide (p0.2.1>0))
  (some ((p0.2.2.2.1==[],()),()))
 (some ((false,()),())))))))
abbrev OW:Type:=AAJ×Unit
abbrev SV:Type:=AAK→Int→Option OW
def MC(R4:SV)(t0:AAK)(t5:Int):Option OW:=
 cond ((decide (t5<(t0.length:Int))))
  (if(0:Int)≤t5∧t5<(t0.length:Int)then(
  (JW ((t0.getD (t5.toNat) (0,0,false,[],())).1,(t0.getD (t5.toNat) (0,0,false,[],())).2.1,(t0.getD (t5.toNat) (0,0,false,[],())).2.2.1,(t0.getD (t5.toNat) (0,0,false,[],())).2.2.2.1,())).bind fun u3=>
  cond (!u3.1.1)
   (some ((false,()),()))
  (R4 t0 (AX (t5+1))))else none)
 (some ((true,()),()))
def Gr:Nat→SV
 |0=>fun _ _=>none
 |n+1=>MC (Gr n)
def TH(R4:SV)(p0:AAK)(p1:Int):Option OW:=
 cond ((decide ((p0.length:Int)>p1)))
  (some ((false,()),()))
 (R4 p0 0)
def O2(p0:AAK)(p1:Int):Option OW:=TH (Gr AL) p0 p1
abbrev Q_:Type:=AAJ×Unit
abbrev T2:Type:=AAK→Int→Option Q_
def JR(R2:T2)(t0:AAK)(t3:Int):Option Q_:=
 cond ((decide (t3<(t0.length:Int))))
  (if(0:Int)≤AX (t3-1)∧AX (t3-1)<(t0.length:Int)then(
  if(0:Int)≤t3∧t3<(t0.length:Int)then(
  cond (decide (((t0.getD ((AX (t3-1)).toNat) (0,0,false,[],())).1)≥((t0.getD (t3.toNat) (0,0,false,[],())).1)))
   (some ((false,()),()))
  (R2 t0 (AX (t3+1))))else none)else none)
 (some ((true,()),()))
def C7:Nat→T2
 |0=>fun _ _=>none
 |n+1=>JR (C7 n)
def Uk(R2:T2)(p0:AAK):Option Q_:=
 R2 p0 1
def Ro(p0:AAK):Option Q_:=Uk (C7 AL) p0
abbrev dk:Type:=AAJ×Unit
def Qw(p0:AA2):Option dk:=
 (O2 p0.1 200).bind fun u1=>
 cond (u1.1.1)
  ((O2 p0.2.1 20).bind fun u2=>
  cond (u2.1.1)
   ((Ro p0.1).bind fun u3=>
   cond (u3.1.1)
    ((CF p0.2.2.1 0 30).bind fun u4=>
    some ((u4.1.1,()),()))
   (some ((false,()),())))
  (some ((false,()),())))
 (some ((false,()),()))
abbrev bn:Type:=AAJ×Unit
def Uz(p0:AA2):Option bn:=
 cond (((p0.1.length:Int)==0))
  (cond ((p0.2.1.length:Int)==0)
   (some ((p0.2.2.1==0,()),()))
  (some ((false,()),())))
 (some ((false,()),()))
abbrev KX:Type:=AAJ×Unit
abbrev NZ:Type:=Int→List Int→Int→AAG→List Int→AAB→Int→AAD→AAC→AAE→AAH→Bool→Option KX
def Jv(R4:NZ)(t3:Int)(Ac:AAA)(AZ:Int)(BM:AAG)(CO:AAA)(Ck:AAB)(Bu:Int)(CD:AAD)(B_:AAC)(Cw:AAE)(C5:AAH)(BB:Bool):Option KX:=
 cond ((decide (t3<(BM.length:Int))))
  (if(0:Int)≤t3∧t3<(BM.length:Int)then(
  (Qw ((BM.getD (t3.toNat) ([],[],0,())).1,(BM.getD (t3.toNat) ([],[],0,())).2.1,(BM.getD (t3.toNat) ([],[],0,())).2.2.1,())).bind fun u8=>
  cond (!u8.1.1)
   (some ((false,()),()))
  ((LA CO t3).bind fun u9=>
  cond (u9.1.1)
   (if(0:Int)≤t3∧t3<(BM.length:Int)then(
   (Uz ((BM.getD (t3.toNat) ([],[],0,())).1,(BM.getD (t3.toNat) ([],[],0,())).2.1,(BM.getD (t3.toNat) ([],[],0,())).2.2.1,())).bind fun lh=>
   cond (!lh.1.1)
    (some ((false,()),()))
   (R4 (AX (t3+1)) Ac AZ BM CO Ck Bu CD B_ Cw C5 BB))else none)
  (R4 (AX (t3+1)) Ac AZ BM CO Ck Bu CD B_ Cw C5 BB)))else none)
 (some ((true,()),()))
def Ek:Nat→NZ
 |0=>fun _ _ _ _ _ _ _ _ _ _ _ _=>none
 |n+1=>Jv (Ek n)
def QX(R4:NZ)(p0:AAL):Option KX:=
 (Eb (p0.1,p0.2.1,())).bind fun u1=>
 cond (!u1.1.1)
  (some ((false,()),()))
 (cond (((p0.2.2.1.length:Int) !=(p0.1.length:Int)))
  (some ((false,()),()))
 ((Di (p0.1,p0.2.1,()) p0.2.2.2.1).bind fun u4=>
 cond (!u4.1.1)
  (some ((false,()),()))
 ((Kz (p0.1,p0.2.1,()) p0.2.2.2.1).bind fun u5=>
 cond (u5.1.1)
  (cond (!p0.2.2.2.2.2.2.2.2.2.2.1)
   (some ((false,()),()))
  (R4 0 p0.1 p0.2.1 p0.2.2.1 p0.2.2.2.1 p0.2.2.2.2.1 p0.2.2.2.2.2.1 p0.2.2.2.2.2.2.1 p0.2.2.2.2.2.2.2.1 p0.2.2.2.2.2.2.2.2.1 p0.2.2.2.2.2.2.2.2.2.1 p0.2.2.2.2.2.2.2.2.2.2.1))
 (R4 0 p0.1 p0.2.1 p0.2.2.1 p0.2.2.2.1 p0.2.2.2.2.1 p0.2.2.2.2.2.1 p0.2.2.2.2.2.2.1 p0.2.2.2.2.2.2.2.1 p0.2.2.2.2.2.2.2.2.1 p0.2.2.2.2.2.2.2.2.2.1 p0.2.2.2.2.2.2.2.2.2.2.1))))
def N6(p0:AAL):Option KX:=QX (Ek AL) p0
abbrev Qd:Type:=AAJ×Unit
abbrev UK:Type:=Int→Int→List Int→Int→AAB→Int→Option Qd
def Nh(R5:UK)(t5 t6:Int)(Ac:AAA)(AZ:Int)(CB:AAB)(BJ:Int):Option Qd:=
 cond (decide (t6<t5))
  (if(0:Int)≤t6∧t6<(CB.length:Int)then(
  (Kz (Ac,AZ,()) ((CB.getD (t6.toNat) ([],false,0,())).1)).bind fun u6=>
  cond (!u6.1.1)
   (some ((false,()),()))
  ((CF ((CB.getD (t6.toNat) ([],false,0,())).2.2.1) 0 60).bind fun u8=>
  cond (!u8.1.1)
   (some ((false,()),()))
  (cond (!((CB.getD (t6.toNat) ([],false,0,())).2.1))
   (cond (((CB.getD (t6.toNat) ([],false,0,())).2.2.1) !=0)
    (some ((false,()),()))
   (cond (((CB.getD (t6.toNat) ([],false,0,())).2.1))
    (cond (t6==(AX (t5-1)))
     (some ((false,()),()))
    (cond (decide (t6>0))
     (if(0:Int)≤AX (t6-1)∧AX (t6-1)<(CB.length:Int)then(
     cond (!((CB.getD ((AX (t6-1)).toNat) ([],false,0,())).2.1))
      (some ((false,()),()))
     (R5 t5 (AX (t6+1)) Ac AZ CB BJ))else none)
    (R5 t5 (AX (t6+1)) Ac AZ CB BJ)))
   (R5 t5 (AX (t6+1)) Ac AZ CB BJ)))
  (cond (((CB.getD (t6.toNat) ([],false,0,())).2.1))
   (cond (t6==(AX (t5-1)))
    (some ((false,()),()))
   (cond (decide (t6>0))
    (if(0:Int)≤AX (t6-1)∧AX (t6-1)<(CB.length:Int)then(
    cond (!((CB.getD ((AX (t6-1)).toNat) ([],false,0,())).2.1))
     (some ((false,()),()))
    (R5 t5 (AX (t6+1)) Ac AZ CB BJ))else none)
   (R5 t5 (AX (t6+1)) Ac AZ CB BJ)))
  (R5 t5 (AX (t6+1)) Ac AZ CB BJ)))))else none)
 (some ((true,()),()))
def F5:Nat→UK
 |0=>fun _ _ _ _ _ _=>none
 |n+1=>Nh (F5 n)
def UT(R5:UK)(p0:List Int×Int×Unit)(p1:AAT):Option Qd:=
 (Eb (p0.1,p0.2.1,())).bind fun u1=>
 cond (!u1.1.1)
  (some ((false,()),()))
 (cond ((decide ((p1.1.length:Int)>30)))
  (some ((false,()),()))
 (cond (p1.2.1 !=0)
  ((Ff p1.2.1).bind fun u3=>
  cond (!u3.1.1)
   (some ((false,()),()))
  ((Ft p1.2.1).bind fun u4=>
  cond ((decide (u4.1.1>(p1.1.length:Int))))
   (some ((false,()),()))
  (R5 (p1.1.length:Int) 0 p0.1 p0.2.1 p1.1 p1.2.1)))
 (R5 (p1.1.length:Int) 0 p0.1 p0.2.1 p1.1 p1.2.1)))
def Sh(p0:List Int×Int×Unit)(p1:AAT):Option Qd:=UT (F5 AL) p0 p1
abbrev KT:Type:=AAJ×Unit
abbrev Nd:Type:=Int→Int→List Int→Int→Int→AAM→Option KT
def QM(R5:Nd)(t5 t6:Int)(Ac:AAA)(AZ CB:Int)(BJ:AAM):Option KT:=
 cond ((decide (t6<(BJ.length:Int))))
  (if(0:Int)≤t6∧t6<(BJ.length:Int)then(
  cond ((decide ((((BJ.getD (t6.toNat) ([],[],false,())).1).length:Int)>40)))
   (some ((false,()),()))
  ((Di (Ac,AZ,()) ((BJ.getD (t6.toNat) ([],[],false,())).2.1)).bind fun u7=>
  cond (!u7.1.1)
   (some ((false,()),()))
  ((Kz (Ac,AZ,()) ((BJ.getD (t6.toNat) ([],[],false,())).2.1)).bind fun u9=>
  cond (u9.1.1 !=((BJ.getD (t6.toNat) ([],[],false,())).2.2.1))
   (some ((false,()),()))
  (cond (!((BJ.getD (t6.toNat) ([],[],false,())).2.2.1))
   (R5 (AX (t5+1)) (AX (t6+1)) Ac AZ CB BJ)
  (R5 t5 (AX (t6+1)) Ac AZ CB BJ)))))else none)
 (some ((decide (t5≤6),()),()))
def GL:Nat→Nd
 |0=>fun _ _ _ _ _ _=>none
 |n+1=>QM (GL n)
def QO(R5:Nd)(p0:List Int×Int×Unit)(p1:AAi):Option KT:=
 (Eb (p0.1,p0.2.1,())).bind fun u1=>
 cond (!u1.1.1)
  (some ((false,()),()))
 ((CF p1.1 1 30).bind fun u2=>
 cond (!u2.1.1)
  (some ((false,()),()))
 (cond (decide ((p1.2.1.length:Int)>60))
  (some ((false,()),()))
 (R5 0 0 p0.1 p0.2.1 p1.1 p1.2.1)))
def Oe(p0:List Int×Int×Unit)(p1:AAi):Option KT:=QO (GL AL) p0 p1
abbrev hY:Type:=AAI×Unit
def Re(p0:Int):Option hY:=
 (Ff p0).bind fun u1=>
 cond (!u1.1.1)
  (some ((0,()),()))
 (some ((p0.tmod 4294967296,()),()))
abbrev fJ:Type:=AAI×Unit
def Tg(p0:AAj):Option fJ:=
 cond ((p0.2.2.2.1.length:Int)==0)
  (some ((0,()),()))
 (let x2:Int:=(p0.2.2.2.1.length:Int)
 if(0:Int)≤AX (x2-1)∧AX (x2-1)<(p0.2.2.2.1.length:Int)then(
 (Re ((p0.2.2.2.1.getD ((AX (x2-1)).toNat) (0,0,false,[],())).1)).bind fun u4=>
 some ((u4.1.1,()),()))else none)
abbrev Hj:Type:=AAJ×Unit
abbrev MJ:Type:=Int→List Int→Int→Int→Int→List Int→AAK→Bool→List AAA→Option Hj
abbrev MQ:Type:=Int→List Int→Int→Int→Int→List Int→AAK→Bool→List AAA→Option Hj
def Ms(R4:MJ)(R9:MQ)(t5:Int)(Ac:AAA)(AZ CB BJ:Int)(IM:AAA)(Gk:AAK)(UL:Bool)(EP:List AAA):Option Hj:=
 cond ((decide (t5<(Gk.length:Int))))
  (if(0:Int)≤t5∧t5<(Gk.length:Int)then(
  (JW ((Gk.getD (t5.toNat) (0,0,false,[],())).1,(Gk.getD (t5.toNat) (0,0,false,[],())).2.1,(Gk.getD (t5.toNat) (0,0,false,[],())).2.2.1,(Gk.getD (t5.toNat) (0,0,false,[],())).2.2.2.1,())).bind fun u7=>
  cond (!u7.1.1)
   (some ((false,()),()))
  (if(0:Int)≤t5∧t5<(Gk.length:Int)then(
  (Ft ((Gk.getD (t5.toNat) (0,0,false,[],())).1)).bind fun u9=>
  cond (u9.1.1 !=BJ)
   (some ((false,()),()))
  (if(0:Int)≤t5∧t5<(Gk.length:Int)then(
  cond (decide (((Gk.getD (t5.toNat) (0,0,false,[],())).2.1)≥CB))
   (some ((false,()),()))
  (R4 (AX (t5+1)) Ac AZ CB BJ IM Gk UL EP))else none))else none))else none)
 (R9 0 Ac AZ CB BJ IM Gk UL EP)
def Lx(R4:MJ)(R9:MQ)(t6:Int)(Ac:AAA)(AZ CB BJ:Int)(IM:AAA)(Gk:AAK)(UL:Bool)(EP:List AAA):Option Hj:=
 cond ((decide (t6<(EP.length:Int))))
  (if(0:Int)≤t6∧t6<(EP.length:Int)then(
  (Di (Ac,AZ,()) (EP.getD (t6.toNat) [])).bind fun kU=>
  cond (!kU.1.1)
   (some ((false,()),()))
  (R9 (AX (t6+1)) Ac AZ CB BJ IM Gk UL EP))else none)
 (cond (!UL)
  (some ((((EP.length:Int)==0),()),()))
 ((Tg (CB,BJ,IM,Gk,UL,EP,())).bind fun X6=>
 some ((((EP.length:Int)==X6.1.1),()),())))
mutual
def Er:Nat→MJ
 |0=>fun _ _ _ _ _ _ _ _ _=>none
 |n+1=>Ms (Er n) (Dq n)
def Dq:Nat→MQ
 |0=>fun _ _ _ _ _ _ _ _ _=>none
 |n+1=>Lx (Er n) (Dq n)
end
def Tf(R4:MJ)(R9:MQ)(p0:List Int×Int×Unit)(p1:AAj):Option Hj:=
 (Eb (p0.1,p0.2.1,())).bind fun u1=>
 cond (!u1.1.1)
  (some ((false,()),()))
 ((CF p1.2.1 1 30).bind fun u2=>
 cond (!u2.1.1)
  (some ((false,()),()))
 ((CF p1.1 (AX (p1.2.1+1)) 30).bind fun u3=>
 cond (!u3.1.1)
  (some ((false,()),()))
 ((Di (p0.1,p0.2.1,()) p1.2.2.1).bind fun u4=>
 cond (!u4.1.1)
  (some ((false,()),()))
 ((Ro p1.2.2.2.1).bind fun u5=>
 cond (!u5.1.1)
  (some ((false,()),()))
 (R4 0 p0.1 p0.2.1 p1.1 p1.2.1 p1.2.2.1 p1.2.2.2.1 p1.2.2.2.2.1 p1.2.2.2.2.2.1)))))
def Tw(p0:List Int×Int×Unit)(p1:AAj):Option Hj:=Tf (Er AL) (Dq AL) p0 p1
abbrev El:Type:=AAJ×Unit
abbrev IE:Type:=Int→Int→List Int→Int→AAG→List Int→AAB→Int→AAD→AAC→AAE→AAH→Bool→Option El
abbrev Gy:Type:=Int→Int→List Int→Int→AAG→List Int→AAB→Int→AAD→AAC→AAE→AAH→Bool→Option El
def IP(R5:IE)(R10:Gy)(t3 t4:Int)(Ac:AAA)(AZ:Int)(BM:AAG)(CO:AAA)(Ck:AAB)(Bu:Int)(CD:AAD)(B_:AAC)(Cw:AAE)(C5:AAH)(BB:Bool):Option El:=
 cond ((decide (t4<(CD.length:Int))))
  (if(0:Int)≤t4∧t4<(CD.length:Int)then(
  (Oe (Ac,AZ,()) ((CD.getD (t4.toNat) (0,[],())).1,(CD.getD (t4.toNat) (0,[],())).2.1,())).bind fun u6=>
  cond (!u6.1.1)
   (some ((false,()),()))
  (if(0:Int)≤t4∧t4<(CD.length:Int)then(
  cond (decide (((CD.getD (t4.toNat) (0,[],())).1)>t3))
   (some ((false,()),()))
  (cond (decide (t4>0))
   (if(0:Int)≤AX (t4-1)∧AX (t4-1)<(CD.length:Int)then(
   if(0:Int)≤t4∧t4<(CD.length:Int)then(
   cond (decide (((CD.getD ((AX (t4-1)).toNat) (0,[],())).1)≥((CD.getD (t4.toNat) (0,[],())).1)))
    (some ((false,()),()))
   (R5 t3 (AX (t4+1)) Ac AZ BM CO Ck Bu CD B_ Cw C5 BB))else none)else none)
  (R5 t3 (AX (t4+1)) Ac AZ BM CO Ck Bu CD B_ Cw C5 BB)))else none))else none)
 (R10 t3 0 Ac AZ BM CO Ck Bu CD B_ Cw C5 BB)
def Hw(R5:IE)(R10:Gy)(t3 t5:Int)(Ac:AAA)(AZ:Int)(BM:AAG)(CO:AAA)(Ck:AAB)(Bu:Int)(CD:AAD)(B_:AAC)(Cw:AAE)(C5:AAH)(BB:Bool):Option El:=
 cond ((decide (t5<(B_.length:Int))))
  (if(0:Int)≤t5∧t5<(B_.length:Int)then(
  (Tw (Ac,AZ,()) ((B_.getD (t5.toNat) (0,0,[],[],false,[],())).1,(B_.getD (t5.toNat) (0,0,[],[],false,[],())).2.1,(B_.getD (t5.toNat) (0,0,[],[],false,[],())).2.2.1,(B_.getD (t5.toNat) (0,0,[],[],false,[],())).2.2.2.1,(B_.getD (t5.toNat) (0,0,[],[],false,[],())).2.2.2.2.1,(B_.getD (t5.toNat) (0,0,[],[],false,[],())).2.2.2.2.2.1,())).bind fun lF=>
  cond (!lF.1.1)
   (some ((false,()),()))
  (cond (((B_.getD (t5.toNat) (0,0,[],[],false,[],())).1) !=t3)
   (some ((false,()),()))
  ((L9 (Ck,Bu,())).bind fun X6=>
  cond (((B_.getD (t5.toNat) (0,0,[],[],false,[],())).2.1) !=X6.1.1)
   (some ((false,()),()))
  (R10 t3 (AX (t5+1)) Ac AZ BM CO Ck Bu CD B_ Cw C5 BB))))else none)
 (some ((true,()),()))
mutual
def DA:Nat→IE
 |0=>fun _ _ _ _ _ _ _ _ _ _ _ _ _=>none
 |n+1=>IP (DA n) (CS n)
def CS:Nat→Gy
 |0=>fun _ _ _ _ _ _ _ _ _ _ _ _ _=>none
 |n+1=>Hw (DA n) (CS n)
end
def PN(R5:IE)(R10:Gy)(p0:AAL):Option El:=
 (Sh (p0.1,p0.2.1,()) (p0.2.2.2.2.1,p0.2.2.2.2.2.1,())).bind fun u2=>
 cond (!u2.1.1)
  (some ((false,()),()))
 (cond (decide ((p0.2.2.2.2.2.2.1.length:Int)>4))
  (some ((false,()),()))
 (cond (decide ((p0.2.2.2.2.2.2.2.1.length:Int)>1))
  (some ((false,()),()))
 (R5 (p0.2.2.2.2.1.length:Int) 0 p0.1 p0.2.1 p0.2.2.1 p0.2.2.2.1 p0.2.2.2.2.1 p0.2.2.2.2.2.1 p0.2.2.2.2.2.2.1 p0.2.2.2.2.2.2.2.1 p0.2.2.2.2.2.2.2.2.1 p0.2.2.2.2.2.2.2.2.2.1 p0.2.2.2.2.2.2.2.2.2.2.1)))
def Md(p0:AAL):Option El:=PN (DA AL) (CS AL) p0
abbrev bG:Type:=AAJ×Unit
def Hn(p0:AAt):Option bG:=
 (CF p0.1 1 31).bind fun u1=>
 cond (u1.1.1)
  ((CF p0.2.1 1 61).bind fun u2=>
  cond (u2.1.1)
   (some ((decide ((p0.2.2.1.length:Int)≤120),()),()))
  (some ((false,()),())))
 (some ((false,()),()))
abbrev Ml:Type:=AAJ×Unit
abbrev Pt:Type:=Int→List Int→Int→AAG→List Int→AAB→Int→AAD→AAC→AAE→AAH→Bool→Option Ml
def K9(R4:Pt)(t3:Int)(Ac:AAA)(AZ:Int)(BM:AAG)(CO:AAA)(Ck:AAB)(Bu:Int)(CD:AAD)(B_:AAC)(Cw:AAE)(C5:AAH)(BB:Bool):Option Ml:=
 cond ((decide (t3<(C5.length:Int))))
  (if(0:Int)≤t3∧t3<(C5.length:Int)then(
  (Ff ((C5.getD (t3.toNat) (0,[],false,())).1)).bind fun u4=>
  cond (!u4.1.1)
   (some ((false,()),()))
  ((Ft ((C5.getD (t3.toNat) (0,[],false,())).1)).bind fun u6=>
  cond ((decide (u6.1.1>(Ck.length:Int))))
   (some ((false,()),()))
  (cond ((decide ((((C5.getD (t3.toNat) (0,[],false,())).2.1).length:Int)>40)))
   (some ((false,()),()))
  (cond (decide (t3>0))
   (if(0:Int)≤AX (t3-1)∧AX (t3-1)<(C5.length:Int)then(
   cond (decide (((C5.getD ((AX (t3-1)).toNat) (0,[],false,())).1)≥((C5.getD (t3.toNat) (0,[],false,())).1)))
    (some ((false,()),()))
   (R4 (AX (t3+1)) Ac AZ BM CO Ck Bu CD B_ Cw C5 BB))else none)
  (R4 (AX (t3+1)) Ac AZ BM CO Ck Bu CD B_ Cw C5 BB)))))else none)
 (some ((true,()),()))
def FN:Nat→Pt
 |0=>fun _ _ _ _ _ _ _ _ _ _ _ _=>none
 |n+1=>K9 (FN n)
def Ra(R4:Pt)(p0:AAL):Option Ml:=
 cond (decide ((p0.2.2.2.2.2.2.2.2.2.1.length:Int)>120))
  (some ((false,()),()))
 (R4 0 p0.1 p0.2.1 p0.2.2.1 p0.2.2.2.1 p0.2.2.2.2.1 p0.2.2.2.2.2.1 p0.2.2.2.2.2.2.1 p0.2.2.2.2.2.2.2.1 p0.2.2.2.2.2.2.2.2.1 p0.2.2.2.2.2.2.2.2.2.1 p0.2.2.2.2.2.2.2.2.2.2.1)
def RE(p0:AAL):Option Ml:=Ra (FN AL) p0
abbrev cb:Type:=AAJ×Unit
def Mg(p0:AAL):Option cb:=
 (N6 (p0.1,p0.2.1,p0.2.2.1,p0.2.2.2.1,p0.2.2.2.2.1,p0.2.2.2.2.2.1,p0.2.2.2.2.2.2.1,p0.2.2.2.2.2.2.2.1,p0.2.2.2.2.2.2.2.2.1,p0.2.2.2.2.2.2.2.2.2.1,p0.2.2.2.2.2.2.2.2.2.2.1,())).bind fun u1=>
 cond (u1.1.1)
  ((Md (p0.1,p0.2.1,p0.2.2.1,p0.2.2.2.1,p0.2.2.2.2.1,p0.2.2.2.2.2.1,p0.2.2.2.2.2.2.1,p0.2.2.2.2.2.2.2.1,p0.2.2.2.2.2.2.2.2.1,p0.2.2.2.2.2.2.2.2.2.1,p0.2.2.2.2.2.2.2.2.2.2.1,())).bind fun u2=>
  cond (u2.1.1)
   (cond ((p0.2.2.2.2.2.2.2.2.1.length:Int)==2)
    (if(0:Int)≤(0:Int)∧(0:Int)<(p0.2.2.2.2.2.2.2.2.1.length:Int)then(
    (Hn ((p0.2.2.2.2.2.2.2.2.1.getD 0 (0,0,[],())).1,(p0.2.2.2.2.2.2.2.2.1.getD 0 (0,0,[],())).2.1,(p0.2.2.2.2.2.2.2.2.1.getD 0 (0,0,[],())).2.2.1,())).bind fun u4=>
    cond (u4.1.1)
     (if(0:Int)≤(1:Int)∧(1:Int)<(p0.2.2.2.2.2.2.2.2.1.length:Int)then(
     (Hn ((p0.2.2.2.2.2.2.2.2.1.getD 1 (0,0,[],())).1,(p0.2.2.2.2.2.2.2.2.1.getD 1 (0,0,[],())).2.1,(p0.2.2.2.2.2.2.2.2.1.getD 1 (0,0,[],())).2.2.1,())).bind fun u5=>
     cond (u5.1.1)
      ((RE (p0.1,p0.2.1,p0.2.2.1,p0.2.2.2.1,p0.2.2.2.2.1,p0.2.2.2.2.2.1,p0.2.2.2.2.2.2.1,p0.2.2.2.2.2.2.2.1,p0.2.2.2.2.2.2.2.2.1,p0.2.2.2.2.2.2.2.2.2.1,p0.2.2.2.2.2.2.2.2.2.2.1,())).bind fun u6=>
      some ((u6.1.1,()),()))
     (some ((false,()),())))else none)
    (some ((false,()),())))else none)
   (some ((false,()),())))
  (some ((false,()),())))
 (some ((false,()),()))
abbrev ag:Type:=((Int×Int×Int×Int×List UInt8×Unit)×Unit)×Unit
def UJ(p0:Int×Int×Int×Int×List UInt8×Unit):Option ag:=
 cond (p0.1==1)
  (some (((p0.1,p0.2.1,0,0,[],()),()),()))
 (cond (p0.1==4)
  (some (((p0.1,p0.2.1,0,0,[],()),()),()))
 (cond (p0.1==6)
  (some (((p0.1,p0.2.1,0,0,[],()),()),()))
 (cond (p0.1==7)
  (some (((p0.1,p0.2.1,0,0,[],()),()),()))
 (cond (p0.1==9)
  (some (((p0.1,p0.2.1,0,0,[],()),()),()))
 (cond (p0.1==13)
  (some (((p0.1,p0.2.1,0,0,[],()),()),()))
 (cond (p0.1==15)
  (some (((p0.1,p0.2.1,0,0,[],()),()),()))
 (cond (p0.1==16)
  (some (((p0.1,p0.2.1,0,0,[],()),()),()))
 (cond (p0.1==2)
  (some (((p0.1,p0.2.1,0,0,p0.2.2.2.2.1,()),()),()))
 (cond (p0.1==3)
  (some (((p0.1,p0.2.1,p0.2.2.1,p0.2.2.2.1,[],()),()),()))
 (cond (p0.1==5)
  (some (((p0.1,p0.2.1,p0.2.2.1,0,[],()),()),()))
 (cond (p0.1==14)
  (some (((p0.1,p0.2.1,p0.2.2.1,0,[],()),()),()))
 (cond (p0.1==11)
  (some (((p0.1,0,p0.2.2.1,p0.2.2.2.1,[],()),()),()))
 (some (((p0.1,0,0,0,[],()),()),()))))))))))))))
abbrev fS:Type:=AAJ×Unit
def Tx(p0:Int×Int×Int×Int×List UInt8×Unit):Option fS:=
 (CF p0.1 1 16).bind fun u1=>
 cond (u1.1.1)
  ((UJ (p0.1,p0.2.1,p0.2.2.1,p0.2.2.2.1,p0.2.2.2.2.1,())).bind fun u2=>
  cond (((p0.1==u2.1.1.1)&&((p0.2.1==u2.1.1.2.1)&&((p0.2.2.1==u2.1.1.2.2.1)&&((p0.2.2.2.1==u2.1.1.2.2.2.1)&&((p0.2.2.2.2.1==u2.1.1.2.2.2.2.1)&&true))))))
   (some ((decide ((p0.2.2.2.2.1.length:Int)≤40),()),()))
  (some ((false,()),())))
 (some ((false,()),()))
abbrev C_:Type:=AB0×ABf
abbrev SH:Type:=Int→AAB→Int→Int→AAB→Int→AAB→Option C_
def TZ(R3:SH)(t4:Int)(Ac:AAB)(AZ BJ:Int)(b2:AAB)(AAV:Int)(b4:AAB):Option C_:=
 cond ((decide (t4<(Ac.length:Int))))
  (if(0:Int)≤t4∧t4<(Ac.length:Int)then(
  if 0+((Ac.getD (t4.toNat) ([],false,0,())).1).length≤Ej then(
  if b4.length+1≤Ej then(
  R3 (AX (t4+1)) Ac AZ BJ b2 AAV (b4++[(((Ac.getD (t4.toNat) ([],false,0,())).1),(Ac.getD (t4.toNat) ([],false,0,())).2.1,(Ac.getD (t4.toNat) ([],false,0,())).2.2.1,())]))else none)else none)else none)
 (some ((((),AAV,()),()),(b4,())))
def I5:Nat→SH
 |0=>fun _ _ _ _ _ _ _=>none
 |n+1=>TZ (I5 n)
def TM(R3:SH)(p0:AAT):Option C_:=
 R3 0 p0.1 p0.2.1 0 [] p0.2.1 []
def FW(p0:AAT):Option C_:=TM (I5 AL) p0
abbrev F_:Type:=ACu×ACw
def Fv(p0:AA2):Option F_:=
 if 0+p0.1.length≤Ej then(
 if 0+p0.2.1.length≤Ej then(
 some ((((),(),p0.2.2.1,()),()),(p0.1,p0.2.1,())))else none)else none
abbrev C8:Type:=ACx×ABq
abbrev RU:Type:=Int→Int→AAM→Int→AAM→Int→AAM→Option C8
def S_(R3:RU)(t4 Ac:Int)(AZ:AAM)(CB:Int)(b2:AAM)(AAl:Int)(b4:AAM):Option C8:=
 cond ((decide (t4<(AZ.length:Int))))
  (if(0:Int)≤t4∧t4<(AZ.length:Int)then(
  if 0+((AZ.getD (t4.toNat) ([],[],false,())).2.1).length≤Ej then(
  if b4.length+1≤Ej then(
  R3 (AX (t4+1)) Ac AZ CB b2 AAl (b4++[((AZ.getD (t4.toNat) ([],[],false,())).1,((AZ.getD (t4.toNat) ([],[],false,())).2.1),(AZ.getD (t4.toNat) ([],[],false,())).2.2.1,())]))else none)else none)else none)
 (some (((AAl,(),()),()),(b4,())))
def I8:Nat→RU
 |0=>fun _ _ _ _ _ _ _=>none
 |n+1=>S_ (I8 n)
def S2(R3:RU)(p0:AAi):Option C8:=
 R3 0 p0.1 p0.2.1 0 [] p0.1 []
def Fq(p0:AAi):Option C8:=S2 (I8 AL) p0
abbrev C9:Type:=ACy×ACz
abbrev SE:Type:=Int→Int→Int→List Int→AAK→Bool→List AAA→Int→Int→Bool→List Int→AAK→List AAA→Int→Int→Bool→List Int→AAK→List AAA→Option C9
def MF(R3:SE)(t4 Ac AZ:Int)(BM:AAA)(CO:AAK)(Ck:Bool)(Bu:List AAA)(CB BJ:Int)(UL:Bool)(b2:AAA)(b3:AAK)(b4:List AAA)(ABL ACF:Int)(ABV:Bool)(b6:AAA)(b7:AAK)(b8:List AAA):Option C9:=
 cond ((decide (t4<(Bu.length:Int))))
  (if(0:Int)≤t4∧t4<(Bu.length:Int)then(
  if 0+(Bu.getD (t4.toNat) []).length≤Ej then(
  if b8.length+1≤Ej then(
  R3 (AX (t4+1)) Ac AZ BM CO Ck Bu CB BJ UL b2 b3 b4 ABL ACF ABV b6 b7 (b8++[(Bu.getD (t4.toNat) [])]))else none)else none)else none)
 (some (((ABL,ACF,(),(),ABV,(),()),()),(b6,b7,b8,())))
def Dw:Nat→SE
 |0=>fun _ _ _ _ _ _ _ _ _ _ _ _ _ _ _ _ _ _ _=>none
 |n+1=>MF (Dw n)
def IK(R3:SE)(p0:AAj):Option C9:=
 if 0+p0.2.2.1.length≤Ej then(
 if 0+p0.2.2.2.1.length≤Ej then(
 R3 0 p0.1 p0.2.1 p0.2.2.1 p0.2.2.2.1 p0.2.2.2.2.1 p0.2.2.2.2.2.1 0 0 false [] [] [] p0.1 p0.2.1 p0.2.2.2.2.1 p0.2.2.1 p0.2.2.2.1 [])else none)else none
def Ec(p0:AAj):Option C9:=IK (Dw AL) p0
abbrev E8:Type:=ACO×ABO
def Ax(p0:AAt):Option E8:=
 if 0+p0.2.2.1.length≤Ej then(
 some (((p0.1,p0.2.1,(),()),()),(p0.2.2.1,())))else none
abbrev Co:Type:=AC0×ABE
abbrev FO:Type:=Int→List Int→Int→AAG→List Int→AAB→Int→AAD→AAC→AAE→AAH→Bool→Int→Int→Bool→List Int→AAG→List Int→AAB→AAD→AAC→AAE→AAH→Int→Int→Bool→List Int→AAG→List Int→AAB→AAD→AAC→AAE→AAH→Option Co
abbrev FM:Type:=Int→List Int→Int→AAG→List Int→AAB→Int→AAD→AAC→AAE→AAH→Bool→Int→Int→Bool→List Int→AAG→List Int→AAB→AAD→AAC→AAE→AAH→Int→Int→Bool→List Int→AAG→List Int→AAB→AAD→AAC→AAE→AAH→Option Co
abbrev Eo:Type:=Int→List Int→Int→AAG→List Int→AAB→Int→AAD→AAC→AAE→AAH→Bool→Int→Int→Bool→List Int→AAG→List Int→AAB→AAD→AAC→AAE→AAH→Int→Int→Bool→List Int→AAG→List Int→AAB→AAD→AAC→AAE→AAH→Option Co
abbrev Em:Type:=Int→List Int→Int→AAG→List Int→AAB→Int→AAD→AAC→AAE→AAH→Bool→Int→Int→Bool→List Int→AAG→List Int→AAB→AAD→AAC→AAE→AAH→Int→Int→Bool→List Int→AAG→List Int→AAB→AAD→AAC→AAE→AAH→Option Co
def Kx(R3:FO)(R7:FM)(R11:Eo)(R15:Em)(t4:Int)(Ac:AAA)(AZ:Int)(BM:AAG)(CO:AAA)(Ck:AAB)(Bu:Int)(CD:AAD)(B_:AAC)(Cw:AAE)(C5:AAH)(BB:Bool)(BJ EP:Int)(Eg:Bool)(b2:AAA)(b3:AAG)(b4:AAA)(b5:AAB)(b6:AAD)(b7:AAC)(b8:AAE)(b9:AAH)(Ds Dv:Int)(CQ:Bool)(Rv:AAA)(GC:AAG)(Ut:AAA)(UZ:AAB)(H4:AAD)(J5:AAC)(Nw:AAE)(Wn:AAH):Option Co:=
 cond ((decide (t4<(BM.length:Int))))
  (if(0:Int)≤t4∧t4<(BM.length:Int)then(
  (Fv ((BM.getD (t4.toNat) ([],[],0,())).1,(BM.getD (t4.toNat) ([],[],0,())).2.1,(BM.getD (t4.toNat) ([],[],0,())).2.2.1,())).bind fun lH=>
  if GC.length+1≤Ej then(
  R3 (AX (t4+1)) Ac AZ BM CO Ck Bu CD B_ Cw C5 BB BJ EP Eg b2 b3 b4 b5 b6 b7 b8 b9 Ds Dv CQ Rv (GC++[(lH.2.1,lH.2.2.1,lH.1.1.2.2.1,())]) Ut UZ H4 J5 Nw Wn)else none)else none)
 (R7 0 Ac AZ BM CO Ck Bu CD B_ Cw C5 BB BJ EP Eg b2 b3 b4 b5 b6 b7 b8 b9 Ds Dv CQ Rv GC Ut UZ H4 J5 Nw Wn)
def Kw(R3:FO)(R7:FM)(R11:Eo)(R15:Em)(t5:Int)(Ac:AAA)(AZ:Int)(BM:AAG)(CO:AAA)(Ck:AAB)(Bu:Int)(CD:AAD)(B_:AAC)(Cw:AAE)(C5:AAH)(BB:Bool)(BJ EP:Int)(Eg:Bool)(b2:AAA)(b3:AAG)(b4:AAA)(b5:AAB)(b6:AAD)(b7:AAC)(b8:AAE)(b9:AAH)(Ds Dv:Int)(CQ:Bool)(Rv:AAA)(GC:AAG)(Ut:AAA)(UZ:AAB)(H4:AAD)(J5:AAC)(Nw:AAE)(Wn:AAH):Option Co:=
 cond ((decide (t5<(CD.length:Int))))
  (if(0:Int)≤t5∧t5<(CD.length:Int)then(
  (Fq ((CD.getD (t5.toNat) (0,[],())).1,(CD.getD (t5.toNat) (0,[],())).2.1,())).bind fun pn=>
  if H4.length+1≤Ej then(
  R7 (AX (t5+1)) Ac AZ BM CO Ck Bu CD B_ Cw C5 BB BJ EP Eg b2 b3 b4 b5 b6 b7 b8 b9 Ds Dv CQ Rv GC Ut UZ (H4++[(pn.1.1.1,pn.2.1,())]) J5 Nw Wn)else none)else none)
 (R11 0 Ac AZ BM CO Ck Bu CD B_ Cw C5 BB BJ EP Eg b2 b3 b4 b5 b6 b7 b8 b9 Ds Dv CQ Rv GC Ut UZ H4 J5 Nw Wn)
def J2(R3:FO)(R7:FM)(R11:Eo)(R15:Em)(t6:Int)(Ac:AAA)(AZ:Int)(BM:AAG)(CO:AAA)(Ck:AAB)(Bu:Int)(CD:AAD)(B_:AAC)(Cw:AAE)(C5:AAH)(BB:Bool)(BJ EP:Int)(Eg:Bool)(b2:AAA)(b3:AAG)(b4:AAA)(b5:AAB)(b6:AAD)(b7:AAC)(b8:AAE)(b9:AAH)(Ds Dv:Int)(CQ:Bool)(Rv:AAA)(GC:AAG)(Ut:AAA)(UZ:AAB)(H4:AAD)(J5:AAC)(Nw:AAE)(Wn:AAH):Option Co:=
 cond ((decide (t6<(B_.length:Int))))
  (if(0:Int)≤t6∧t6<(B_.length:Int)then(
  (Ec ((B_.getD (t6.toNat) (0,0,[],[],false,[],())).1,(B_.getD (t6.toNat) (0,0,[],[],false,[],())).2.1,(B_.getD (t6.toNat) (0,0,[],[],false,[],())).2.2.1,(B_.getD (t6.toNat) (0,0,[],[],false,[],())).2.2.2.1,(B_.getD (t6.toNat) (0,0,[],[],false,[],())).2.2.2.2.1,(B_.getD (t6.toNat) (0,0,[],[],false,[],())).2.2.2.2.2.1,())).bind fun Zq=>
  if J5.length+1≤Ej then(
  R11 (AX (t6+1)) Ac AZ BM CO Ck Bu CD B_ Cw C5 BB BJ EP Eg b2 b3 b4 b5 b6 b7 b8 b9 Ds Dv CQ Rv GC Ut UZ H4 (J5++[(Zq.1.1.1,Zq.1.1.2.1,Zq.2.1,Zq.2.2.1,Zq.1.1.2.2.2.2.1,Zq.2.2.2.1,())]) Nw Wn)else none)else none)
 (R15 0 Ac AZ BM CO Ck Bu CD B_ Cw C5 BB BJ EP Eg b2 b3 b4 b5 b6 b7 b8 b9 Ds Dv CQ Rv GC Ut UZ H4 J5 Nw Wn)
def Js(R3:FO)(R7:FM)(R11:Eo)(R15:Em)(t7:Int)(Ac:AAA)(AZ:Int)(BM:AAG)(CO:AAA)(Ck:AAB)(Bu:Int)(CD:AAD)(B_:AAC)(Cw:AAE)(C5:AAH)(BB:Bool)(BJ EP:Int)(Eg:Bool)(b2:AAA)(b3:AAG)(b4:AAA)(b5:AAB)(b6:AAD)(b7:AAC)(b8:AAE)(b9:AAH)(Ds Dv:Int)(CQ:Bool)(Rv:AAA)(GC:AAG)(Ut:AAA)(UZ:AAB)(H4:AAD)(J5:AAC)(Nw:AAE)(Wn:AAH):Option Co:=
 cond ((decide (t7<(Cw.length:Int))))
  (if(0:Int)≤t7∧t7<(Cw.length:Int)then(
  (Ax ((Cw.getD (t7.toNat) (0,0,[],())).1,(Cw.getD (t7.toNat) (0,0,[],())).2.1,(Cw.getD (t7.toNat) (0,0,[],())).2.2.1,())).bind fun kt=>
  if Nw.length+1≤Ej then(
  R15 (AX (t7+1)) Ac AZ BM CO Ck Bu CD B_ Cw C5 BB BJ EP Eg b2 b3 b4 b5 b6 b7 b8 b9 Ds Dv CQ Rv GC Ut UZ H4 J5 (Nw++[(kt.1.1.1,kt.1.1.2.1,kt.2.1,())]) Wn)else none)else none)
 (some ((((),Ds,(),(),(),Dv,(),(),(),(),CQ,()),()),(Rv,GC,Ut,UZ,H4,J5,Nw,Wn,())))
mutual
def A7:Nat→FO
 |0=>fun _ _ _ _ _ _ _ _ _ _ _ _ _ _ _ _ _ _ _ _ _ _ _ _ _ _ _ _ _ _ _ _ _ _=>none
 |n+1=>Kx (A7 n) (BD n) (A3 n) (A4 n)
def BD:Nat→FM
 |0=>fun _ _ _ _ _ _ _ _ _ _ _ _ _ _ _ _ _ _ _ _ _ _ _ _ _ _ _ _ _ _ _ _ _ _=>none
 |n+1=>Kw (A7 n) (BD n) (A3 n) (A4 n)
def A3:Nat→Eo
 |0=>fun _ _ _ _ _ _ _ _ _ _ _ _ _ _ _ _ _ _ _ _ _ _ _ _ _ _ _ _ _ _ _ _ _ _=>none
 |n+1=>J2 (A7 n) (BD n) (A3 n) (A4 n)
def A4:Nat→Em
 |0=>fun _ _ _ _ _ _ _ _ _ _ _ _ _ _ _ _ _ _ _ _ _ _ _ _ _ _ _ _ _ _ _ _ _ _=>none
 |n+1=>Js (A7 n) (BD n) (A3 n) (A4 n)
end
def K7(R3:FO)(R7:FM)(R11:Eo)(R15:Em)(p0:AAL):Option Co:=
 if 0+p0.1.length≤Ej then(
 if 0+p0.2.2.2.1.length≤Ej then(
 (FW (p0.2.2.2.2.1,p0.2.2.2.2.2.1,())).bind fun u2=>
 if 0+p0.2.2.2.2.2.2.2.2.2.1.length≤Ej then(
 R3 0 p0.1 p0.2.1 p0.2.2.1 p0.2.2.2.1 p0.2.2.2.2.1 p0.2.2.2.2.2.1 p0.2.2.2.2.2.2.1 p0.2.2.2.2.2.2.2.1 p0.2.2.2.2.2.2.2.2.1 p0.2.2.2.2.2.2.2.2.2.1 p0.2.2.2.2.2.2.2.2.2.2.1 0 0 false [] [] [] [] [] [] [] [] p0.2.1 u2.1.1.2.1 p0.2.2.2.2.2.2.2.2.2.2.1 p0.1 [] p0.2.2.2.1 u2.2.1 [] [] [] p0.2.2.2.2.2.2.2.2.2.1)else none)else none)else none
def HF(p0:AAL):Option Co:=K7 (A7 AL) (BD AL) (A3 AL) (A4 AL) p0
abbrev JK:Type:=AAQ×AAP
abbrev Mv:Type:=Int→Int→List Int→Option JK
def I9(R3:Mv)(t0 t4:Int)(b0:AAA):Option JK:=
 cond (decide (t4<8))
  ((CF t0 0 255).bind fun u1=>
  cond (u1.1.1)
   (if t4<0 then none else(
   cond (((o8 .i64 (t0.fdiv (2^(min t4.toNat 64))) 1)==1))
    (if b0.length+1≤Ej then(
    R3 t0 (AX (t4+1)) (b0++[t4]))else none)
   (R3 t0 (AX (t4+1)) b0)))
  (some (((),()),(b0,()))))
 (some (((),()),(b0,())))
def D3:Nat→Mv
 |0=>fun _ _ _=>none
 |n+1=>I9 (D3 n)
def Ot(R3:Mv)(p0:Int):Option JK:=
 R3 p0 0 []
def Ls(p0:Int):Option JK:=Ot (D3 AL) p0
abbrev dA:Type:=AAI×Unit
def Mr(p0 p1:Int):Option dA:=
 some ((AX ((AX (4294967296*p0))+p1),()),())
abbrev dd:Type:=AAI×Unit
def Q1(p0:AAL)(p1:Int):Option dd:=
 (CF p1 0 (AX ((p0.2.2.1.length:Int)-1))).bind fun u2=>
 cond (!u2.1.1)
  (some ((2,()),()))
 ((LA p0.2.2.2.1 p1).bind fun u3=>
 cond (u3.1.1)
  (some ((3,()),()))
 (some ((0,()),())))
abbrev bB:Type:=ABk×ABE
abbrev eo:Type:=AC3×Unit
def Oi(p0 p1:AA3):Option eo:=
 cond ((decide (p1.2.1>p0.2.1)))
  (some (((p1.1,p1.2.1,p1.2.2.1,p1.2.2.2.1,()),()),()))
 (some (((p0.1,p0.2.1,p0.2.2.1,p0.2.2.2.1,()),()),()))
abbrev Qj:Type:=AC2×Unit
abbrev T9:Type:=AAK→Int→Int→Int→Int→Bool→List UInt8→Option Qj
def Un(R2:T9)(t0:AAK)(t1 t6 Ac AZ:Int)(BM:Bool)(CO:List UInt8):Option Qj:=
 cond ((decide (t6<(t0.length:Int))))
  (if(0:Int)≤t6∧t6<(t0.length:Int)then(
  cond (((t0.getD (t6.toNat) (0,0,false,[],())).1)==t1)
   (if(0:Int)≤t6∧t6<(t0.length:Int)then(
   some (((((t0.getD (t6.toNat) (0,0,false,[],())).1,(t0.getD (t6.toNat) (0,0,false,[],())).2.1,(t0.getD (t6.toNat) (0,0,false,[],())).2.2.1,(t0.getD (t6.toNat) (0,0,false,[],())).2.2.2.1,()),true,()),()),()))else none)
  (R2 t0 t1 (AX (t6+1)) Ac AZ BM CO))else none)
 (some ((((0,0,false,[],()),false,()),()),()))
def KD:Nat→T9
 |0=>fun _ _ _ _ _ _ _=>none
 |n+1=>Un (KD n)
def US(R2:T9)(p0:AAK)(p1:Int):Option Qj:=
 R2 p0 p1 0 0 0 false []
def VK(p0:AAK)(p1:Int):Option Qj:=US (KD AL) p0 p1
abbrev Oh:Type:=AAQ×AAP
abbrev SM:Type:=List Int→List Int→Int→List Int→Option Oh
def Tz(R3:SM)(t0 t1:AAA)(t6:Int)(b0:AAA):Option Oh:=
 cond ((decide (t6<(t0.length:Int))))
  (if(0:Int)≤t6∧t6<(t0.length:Int)then(
  (LA t1 (t0.getD (t6.toNat) 0)).bind fun u3=>
  cond (!u3.1.1)
   (if(0:Int)≤t6∧t6<(t0.length:Int)then(
   if b0.length+1≤Ej then(
   R3 t0 t1 (AX (t6+1)) (b0++[(t0.getD (t6.toNat) 0)]))else none)else none)
  (R3 t0 t1 (AX (t6+1)) b0))else none)
 (some (((),()),(b0,())))
def Ic:Nat→SM
 |0=>fun _ _ _ _=>none
 |n+1=>Tz (Ic n)
def TN(R3:SM)(p0 p1:AAA):Option Oh:=
 R3 p0 p1 0 []
def IQ(p0 p1:AAA):Option Oh:=TN (Ic AL) p0 p1
abbrev fG:Type:=AAQ×AAP
def Gu(p0 p1:AAA):Option fG:=
 (IQ p0 p1).bind fun u1=>
 (IQ p0 u1.2.1).bind fun u2=>
 some (((),()),(u2.2.1,()))
abbrev eZ:Type:=AAJ×Unit
def Gv(p0:List Int×Int×Unit)(p1 p2:AAA):Option eZ:=
 (Kz (p0.1,p0.2.1,()) p1).bind fun u1=>
 cond (!u1.1.1)
  (some ((false,()),()))
 ((Di (p0.1,p0.2.1,()) p2).bind fun u2=>
 cond (!u2.1.1)
  (some ((false,()),()))
 ((IQ p2 p1).bind fun u3=>
 cond (decide ((u3.2.1.length:Int)>0))
  (some ((false,()),()))
 ((IQ p1 p2).bind fun u5=>
 (PV (p0.1,p0.2.1,()) u5.2.1).bind fun u6=>
 some (((decide (u6.1.1<p0.2.1)),()),()))))
abbrev H7:Type:=AAI×Unit
abbrev K8:Type:=Int→Int→AAM→Option H7
def NB(R2:K8)(t3 Ac:Int)(AZ:AAM):Option H7:=
 cond ((decide (t3<(AZ.length:Int))))
  (if(0:Int)≤t3∧t3<(AZ.length:Int)then(
  cond (((AZ.getD (t3.toNat) ([],[],false,())).2.2.1))
   (R2 (AX (t3+1)) Ac AZ)
  (some ((t3,()),())))else none)
 (some ((t3,()),()))
def Ey:Nat→K8
 |0=>fun _ _ _=>none
 |n+1=>NB (Ey n)
def V1(R2:K8)(p0:AAi):Option H7:=
 R2 0 p0.1 p0.2.1
def Pf(p0:AAi):Option H7:=V1 (Ey AL) p0
abbrev OU:Type:=AAI×Unit
abbrev SD:Type:=Int→Int→List Int→Int→AAG→List Int→AAB→Int→AAD→AAC→AAE→AAH→Bool→Option OU
def Tm(R2:SD)(t1 t5:Int)(Ac:AAA)(AZ:Int)(BM:AAG)(CO:AAA)(Ck:AAB)(Bu:Int)(CD:AAD)(B_:AAC)(Cw:AAE)(C5:AAH)(BB:Bool):Option OU:=
 cond ((decide (t5<(CD.length:Int))))
  (if(0:Int)≤t5∧t5<(CD.length:Int)then(
  cond (((CD.getD (t5.toNat) (0,[],())).1)==t1)
   (if(0:Int)≤t5∧t5<(CD.length:Int)then(
   (Pf ((CD.getD (t5.toNat) (0,[],())).1,(CD.getD (t5.toNat) (0,[],())).2.1,())).bind fun u3=>
   some ((u3.1.1,()),()))else none)
  (R2 t1 (AX (t5+1)) Ac AZ BM CO Ck Bu CD B_ Cw C5 BB))else none)
 (some ((0,()),()))
def Iw:Nat→SD
 |0=>fun _ _ _ _ _ _ _ _ _ _ _ _ _=>none
 |n+1=>Tm (Iw n)
def YY(R2:SD)(p0:AAL)(p1:Int):Option OU:=
 R2 p1 0 p0.1 p0.2.1 p0.2.2.1 p0.2.2.2.1 p0.2.2.2.2.1 p0.2.2.2.2.2.1 p0.2.2.2.2.2.2.1 p0.2.2.2.2.2.2.2.1 p0.2.2.2.2.2.2.2.2.1 p0.2.2.2.2.2.2.2.2.2.1 p0.2.2.2.2.2.2.2.2.2.2.1
def WH(p0:AAL)(p1:Int):Option OU:=YY (Iw AL) p0 p1
abbrev IF:Type:=AAQ×(AAZ×Unit)
abbrev K4:Type:=Int→List Int→Int→AAG→List Int→AAB→Int→AAD→AAC→AAE→AAH→Bool→Int→Int→AAN→AAZ→List Int→Option IF
def NF(R4:K4)(t9:Int)(Ac:AAA)(AZ:Int)(BM:AAG)(CO:AAA)(Ck:AAB)(Bu:Int)(CD:AAD)(B_:AAC)(Cw:AAE)(C5:AAH)(BB:Bool)(CB BJ:Int)(IM:AAN)(b2:AAZ)(b3:AAA):Option IF:=
 cond ((decide (t9<(b3.length:Int))))
  (if(0:Int)≤t9∧t9<(b3.length:Int)then(
  (Q1 (Ac,AZ,BM,CO,Ck,Bu,CD,B_,Cw,C5,BB,()) (b3.getD (t9.toNat) 0)).bind fun u4=>
  cond (u4.1.1 !=0)
   (R4 (AX (t9+1)) Ac AZ BM CO Ck Bu CD B_ Cw C5 BB CB BJ IM b2 b3)
  (if(0:Int)≤t9∧t9<(b3.length:Int)then(
  let x5:Int:=(b3.getD (t9.toNat) 0)
  if(0:Int)≤x5∧x5<(BM.length:Int)then(
  (Mr CB BJ).bind fun u6=>
  (VK ((BM.getD (x5.toNat) ([],[],0,())).1) u6.1.1).bind fun u7=>
  if(0:Int)≤t9∧t9<(b3.length:Int)then(
  if b2.length+1≤Ej then(
  R4 (AX (t9+1)) Ac AZ BM CO Ck Bu CD B_ Cw C5 BB CB BJ IM (b2++[((b3.getD (t9.toNat) 0),u7.1.1.2.1,u7.1.1.1.1,u7.1.1.1.2.1,u7.1.1.1.2.2.1,u7.1.1.1.2.2.2.1,())]) b3)else none)else none)else none)else none))else none)
 (some (((),()),(b2,())))
def E6:Nat→K4
 |0=>fun _ _ _ _ _ _ _ _ _ _ _ _ _ _ _ _ _=>none
 |n+1=>NF (E6 n)
def NA(R4:K4)(p0:AAL)(p1:AAt)(p2:Int):Option IF:=
 (Ls p2).bind fun u1=>
 R4 0 p0.1 p0.2.1 p0.2.2.1 p0.2.2.2.1 p0.2.2.2.2.1 p0.2.2.2.2.2.1 p0.2.2.2.2.2.2.1 p0.2.2.2.2.2.2.2.1 p0.2.2.2.2.2.2.2.2.1 p0.2.2.2.2.2.2.2.2.2.1 p0.2.2.2.2.2.2.2.2.2.2.1 p1.1 p1.2.1 p1.2.2.1 [] u1.2.1
def Ko(p0:AAL)(p1:AAt)(p2:Int):Option IF:=NA (E6 AL) p0 p1 p2
abbrev KM:Type:=((Unit×Bool×Unit)×Unit)×AAP
abbrev Nf:Type:=AAZ→Int→List Int→Int→List Int→Option KM
def QD(R3:Nf)(t1:AAZ)(t7:Int)(Ac:AAA)(AZ:Int)(b1:AAA):Option KM:=
 cond ((decide (t7<(t1.length:Int))))
  (if(0:Int)≤t7∧t7<(t1.length:Int)then(
  if b1.length+1≤Ej then(
  R3 t1 (AX (t7+1)) Ac AZ (b1++[((t1.getD (t7.toNat) (0,false,0,0,false,[],())).1)]))else none)else none)
 ((Di (Ac,AZ,()) b1).bind fun u3=>
 some ((((),u3.1.1,()),()),(b1,())))
def Gi:Nat→Nf
 |0=>fun _ _ _ _ _=>none
 |n+1=>QD (Gi n)
def W0(R3:Nf)(p0:List Int×Int×Unit)(p1:AAZ):Option KM:=
 R3 p1 0 p0.1 p0.2.1 []
def UB(p0:List Int×Int×Unit)(p1:AAZ):Option KM:=W0 (Gi AL) p0 p1
abbrev dG:Type:=ACO×ABO
def ES(p0:AAt)(p1:ABH)(p2 p3:Int):Option dG:=
 (Ax (p0.1,p0.2.1,p0.2.2.1,())).bind fun u1=>
 if u1.2.1.length+1≤Ej then(
 some (((p2,p3,(),()),()),((u1.2.1++[(p1.1,p1.2.1,p1.2.2.1,())]),())))else none
abbrev Mt:Type:=(ABH×Unit)×Unit
abbrev Po:Type:=List Int→Int→AAZ→Bool→Int→Int→Int→List UInt8→Int→Int→Bool→List UInt8→Option Mt
def SX(R4:Po)(t0:AAA)(t1:Int)(t2:AAZ)(t8:Bool)(t9 Ac AZ:Int)(BM:List UInt8)(CB BJ:Int)(IM:Bool)(Gk:List UInt8):Option Mt:=
 cond ((decide (t9<(t2.length:Int))))
  (if(0:Int)≤t9∧t9<(t2.length:Int)then(
  cond (!((t2.getD (t9.toNat) (0,false,0,0,false,[],())).2.1))
   (R4 t0 t1 t2 t8 (AX (t9+1)) Ac AZ BM CB BJ IM Gk)
  ((LA t0 ((t2.getD (t9.toNat) (0,false,0,0,false,[],())).1)).bind fun u4=>
  cond (!u4.1.1)
   (R4 t0 t1 t2 t8 (AX (t9+1)) Ac AZ BM CB BJ IM Gk)
  ((JW ((t2.getD (t9.toNat) (0,false,0,0,false,[],())).2.2.1,(t2.getD (t9.toNat) (0,false,0,0,false,[],())).2.2.2.1,(t2.getD (t9.toNat) (0,false,0,0,false,[],())).2.2.2.2.1,(t2.getD (t9.toNat) (0,false,0,0,false,[],())).2.2.2.2.2.1,())).bind fun u5=>
  cond (!u5.1.1)
   (R4 t0 t1 t2 t8 (AX (t9+1)) Ac AZ BM CB BJ IM Gk)
  (cond (((t2.getD (t9.toNat) (0,false,0,0,false,[],())).2.2.1) !=t1)
   (R4 t0 t1 t2 t8 (AX (t9+1)) Ac AZ BM CB BJ IM Gk)
  (cond (!t8)
   ((Oi ((t2.getD (t9.toNat) (0,false,0,0,false,[],())).2.2.1,(t2.getD (t9.toNat) (0,false,0,0,false,[],())).2.2.2.1,(t2.getD (t9.toNat) (0,false,0,0,false,[],())).2.2.2.2.1,(t2.getD (t9.toNat) (0,false,0,0,false,[],())).2.2.2.2.2.1,()) ((t2.getD (t9.toNat) (0,false,0,0,false,[],())).2.2.1,(t2.getD (t9.toNat) (0,false,0,0,false,[],())).2.2.2.1,(t2.getD (t9.toNat) (0,false,0,0,false,[],())).2.2.2.2.1,(t2.getD (t9.toNat) (0,false,0,0,false,[],())).2.2.2.2.2.1,())).bind fun u7=>
   R4 t0 t1 t2 true (AX (t9+1)) Ac AZ BM u7.1.1.1 u7.1.1.2.1 u7.1.1.2.2.1 u7.1.1.2.2.2.1)
  ((Oi (CB,BJ,IM,Gk,()) ((t2.getD (t9.toNat) (0,false,0,0,false,[],())).2.2.1,(t2.getD (t9.toNat) (0,false,0,0,false,[],())).2.2.2.1,(t2.getD (t9.toNat) (0,false,0,0,false,[],())).2.2.2.2.1,(t2.getD (t9.toNat) (0,false,0,0,false,[],())).2.2.2.2.2.1,())).bind fun u8=>
  R4 t0 t1 t2 true (AX (t9+1)) Ac AZ BM u8.1.1.1 u8.1.1.2.1 u8.1.1.2.2.1 u8.1.1.2.2.2.1))))))else none)
 (cond (!t8)
  (some (((3,t1,[],()),()),()))
 (cond (IM)
  (some (((2,t1,[],()),()),()))
 (some (((1,t1,Gk,()),()),()))))
def He:Nat→Po
 |0=>fun _ _ _ _ _ _ _ _ _ _ _ _=>none
 |n+1=>SX (He n)
def X0(R4:Po)(p0:AAA)(p1:Int)(p2:AAZ):Option Mt:=
 R4 p0 p1 p2 false 0 0 0 [] 0 0 false []
def G1(p0:AAA)(p1:Int)(p2:AAZ):Option Mt:=X0 (He AL) p0 p1 p2
abbrev Tj:Type:=(ADB×Unit)×ABO
def Ki(p0:List Int×Int×Unit)(p1:AAT)(p2:Int)(p3:AAt)(p4:AAZ):Option Tj:=
 (UB (p0.1,p0.2.1,()) p4).bind fun u1=>
 (Sh (p0.1,p0.2.1,()) (p1.1,p1.2.1,())).bind fun u2=>
 cond (!u2.1.1)
  (some ((((0,0,(),()),1,()),()),([],())))
 ((Hn (p3.1,p3.2.1,p3.2.2.1,())).bind fun u3=>
 cond (!u3.1.1)
  (some ((((0,0,(),()),1,()),()),([],())))
 (cond (!u1.1.1.2.1)
  (some ((((0,0,(),()),1,()),()),([],())))
 (cond ((decide (p3.1>(p1.1.length:Int))))
  ((Ax (p3.1,p3.2.1,p3.2.2.1,())).bind fun u5=>
  some ((((u5.1.1.1,u5.1.1.2.1,(),()),2,()),()),(u5.2.1,())))
 (cond ((p3.2.2.1.length:Int)==120)
  ((Ax (p3.1,p3.2.1,p3.2.2.1,())).bind fun u7=>
  some ((((u7.1.1.1,u7.1.1.2.1,(),()),2,()),()),(u7.2.1,())))
 (if(0:Int)≤AX (p3.1-1)∧AX (p3.1-1)<(p1.1.length:Int)then(
 (Mr p3.1 p3.2.1).bind fun u8=>
 cond ((decide (p1.2.1≥u8.1.1)))
  ((Ft p1.2.1).bind fun lh=>
  (Re p1.2.1).bind fun lF=>
  (ES (p3.1,p3.2.1,p3.2.2.1,()) (5,p1.2.1,[],()) lh.1.1 (AX (lF.1.1+1))).bind fun kU=>
  some ((((kU.1.1.1,kU.1.1.2.1,(),()),0,()),()),(kU.2.1,())))
 (cond (((p1.1.getD ((AX (p3.1-1)).toNat) ([],false,0,())).2.1))
  (cond ((decide (p3.2.1>((p1.1.getD ((AX (p3.1-1)).toNat) ([],false,0,())).2.2.1))))
   ((ES (p3.1,p3.2.1,p3.2.2.1,()) (4,AX (p3.1+1),[],()) (AX (p3.1+1)) 1).bind fun u16=>
   some ((((u16.1.1.1,u16.1.1.2.1,(),()),0,()),()),(u16.2.1,())))
  (cond (!((p1.1.getD ((AX (p3.1-1)).toNat) ([],false,0,())).2.1))
   (cond (decide (p3.2.1>p2))
    ((Ax (p3.1,p3.2.1,p3.2.2.1,())).bind fun u18=>
    some ((((u18.1.1.1,u18.1.1.2.1,(),()),2,()),()),(u18.2.1,())))
   (cond (decide (p3.2.1>60))
    ((Ax (p3.1,p3.2.1,p3.2.2.1,())).bind fun iv=>
    some ((((iv.1.1.1,iv.1.1.2.1,(),()),2,()),()),(iv.2.1,())))
   ((Gu u1.2.1 ((p1.1.getD ((AX (p3.1-1)).toNat) ([],false,0,())).1)).bind fun l7=>
   (Gv (p0.1,p0.2.1,()) ((p1.1.getD ((AX (p3.1-1)).toNat) ([],false,0,())).1) l7.2.1).bind fun wU=>
   cond (!wU.1.1)
    ((Ax (p3.1,p3.2.1,p3.2.2.1,())).bind fun zd=>
    some ((((zd.1.1.1,zd.1.1.2.1,(),()),3,()),()),(zd.2.1,())))
   ((G1 ((p1.1.getD ((AX (p3.1-1)).toNat) ([],false,0,())).1) u8.1.1 p4).bind fun qD=>
   (ES (p3.1,p3.2.1,p3.2.2.1,()) (qD.1.1.1,qD.1.1.2.1,qD.1.1.2.2.1,()) p3.1 (AX (p3.2.1+1))).bind fun u24=>
   some ((((u24.1.1.1,u24.1.1.2.1,(),()),0,()),()),(u24.2.1,()))))))
  (cond (decide (p3.2.1>60))
   ((Ax (p3.1,p3.2.1,p3.2.2.1,())).bind fun mH=>
   some ((((mH.1.1.1,mH.1.1.2.1,(),()),2,()),()),(mH.2.1,())))
  ((Gu u1.2.1 ((p1.1.getD ((AX (p3.1-1)).toNat) ([],false,0,())).1)).bind fun u26=>
  (Gv (p0.1,p0.2.1,()) ((p1.1.getD ((AX (p3.1-1)).toNat) ([],false,0,())).1) u26.2.1).bind fun u27=>
  cond (!u27.1.1)
   ((Ax (p3.1,p3.2.1,p3.2.2.1,())).bind fun u28=>
   some ((((u28.1.1.1,u28.1.1.2.1,(),()),3,()),()),(u28.2.1,())))
  ((G1 ((p1.1.getD ((AX (p3.1-1)).toNat) ([],false,0,())).1) u8.1.1 p4).bind fun nx=>
  (ES (p3.1,p3.2.1,p3.2.2.1,()) (nx.1.1.1,nx.1.1.2.1,nx.1.1.2.2.1,()) p3.1 (AX (p3.2.1+1))).bind fun xp=>
  some ((((xp.1.1.1,xp.1.1.2.1,(),()),0,()),()),(xp.2.1,())))))))
 (cond (!((p1.1.getD ((AX (p3.1-1)).toNat) ([],false,0,())).2.1))
  (cond (decide (p3.2.1>p2))
   ((Ax (p3.1,p3.2.1,p3.2.2.1,())).bind fun u32=>
   some ((((u32.1.1.1,u32.1.1.2.1,(),()),2,()),()),(u32.2.1,())))
  (cond (decide (p3.2.1>60))
   ((Ax (p3.1,p3.2.1,p3.2.2.1,())).bind fun u33=>
   some ((((u33.1.1.1,u33.1.1.2.1,(),()),2,()),()),(u33.2.1,())))
  ((Gu u1.2.1 ((p1.1.getD ((AX (p3.1-1)).toNat) ([],false,0,())).1)).bind fun u34=>
  (Gv (p0.1,p0.2.1,()) ((p1.1.getD ((AX (p3.1-1)).toNat) ([],false,0,())).1) u34.2.1).bind fun u35=>
  cond (!u35.1.1)
   ((Ax (p3.1,p3.2.1,p3.2.2.1,())).bind fun xd=>
   some ((((xd.1.1.1,xd.1.1.2.1,(),()),3,()),()),(xd.2.1,())))
  ((G1 ((p1.1.getD ((AX (p3.1-1)).toNat) ([],false,0,())).1) u8.1.1 p4).bind fun u37=>
  (ES (p3.1,p3.2.1,p3.2.2.1,()) (u37.1.1.1,u37.1.1.2.1,u37.1.1.2.2.1,()) p3.1 (AX (p3.2.1+1))).bind fun yv=>
  some ((((yv.1.1.1,yv.1.1.2.1,(),()),0,()),()),(yv.2.1,()))))))
 (cond (decide (p3.2.1>60))
  ((Ax (p3.1,p3.2.1,p3.2.2.1,())).bind fun u39=>
  some ((((u39.1.1.1,u39.1.1.2.1,(),()),2,()),()),(u39.2.1,())))
 ((Gu u1.2.1 ((p1.1.getD ((AX (p3.1-1)).toNat) ([],false,0,())).1)).bind fun u40=>
 (Gv (p0.1,p0.2.1,()) ((p1.1.getD ((AX (p3.1-1)).toNat) ([],false,0,())).1) u40.2.1).bind fun u41=>
 cond (!u41.1.1)
  ((Ax (p3.1,p3.2.1,p3.2.2.1,())).bind fun u42=>
  some ((((u42.1.1.1,u42.1.1.2.1,(),()),3,()),()),(u42.2.1,())))
 ((G1 ((p1.1.getD ((AX (p3.1-1)).toNat) ([],false,0,())).1) u8.1.1 p4).bind fun yN=>
 (ES (p3.1,p3.2.1,p3.2.2.1,()) (yN.1.1.1,yN.1.1.2.1,yN.1.1.2.2.1,()) p3.1 (AX (p3.2.1+1))).bind fun u44=>
 some ((((u44.1.1.1,u44.1.1.2.1,(),()),0,()),()),(u44.2.1,()))))))))else none)))))
abbrev ck:Type:=ABk×ABE
def RL(bF fM:Int)(Z8:Bool)(p1:Int×Int×Int×Int×List UInt8×Unit)(b0:AAA)(b1:AAG)(b2:AAA)(b3:AAB)(b4:AAD)(b5:AAC)(b6:AAE)(b7:AAH):Option ck:=
 (CF p1.2.1 0 1).bind fun u1=>
 cond (!u1.1.1)
  (some (((((),bF,(),(),(),fM,(),(),(),(),Z8,()),2,()),()),(b0,b1,b2,b3,b4,b5,b6,b7,())))
 (if(0:Int)≤p1.2.1∧p1.2.1<(b6.length:Int)then(
 if(0:Int)≤p1.2.1∧p1.2.1<(b6.length:Int)then(
 if(0:Int)≤p1.2.1∧p1.2.1<(b6.length:Int)then(
 (WH (b0,bF,b1,b2,b3,fM,b4,b5,b6,b7,Z8,()) ((b6.getD (p1.2.1.toNat) (0,0,[],())).1)).bind fun u3=>
 (Ko (b0,bF,b1,b2,b3,fM,b4,b5,b6,b7,Z8,()) ((b6.getD (p1.2.1.toNat) (0,0,[],())).1,(b6.getD (p1.2.1.toNat) (0,0,[],())).2.1,(b6.getD (p1.2.1.toNat) (0,0,[],())).2.2.1,()) p1.2.2.1).bind fun u4=>
 (Ki (b0,bF,()) (b3,fM,()) u3.1.1 ((b6.getD (p1.2.1.toNat) (0,0,[],())).1,(b6.getD (p1.2.1.toNat) (0,0,[],())).2.1,(b6.getD (p1.2.1.toNat) (0,0,[],())).2.2.1,()) u4.2.1).bind fun u5=>
 cond (u5.1.1.2.1 !=0)
  (some (((((),bF,(),(),(),fM,(),(),(),(),Z8,()),5,()),()),(b0,b1,b2,b3,b4,b5,b6,b7,())))
 (if(0:Int)≤p1.2.1∧p1.2.1<(b6.length:Int)then(
 some (((((),bF,(),(),(),fM,(),(),(),(),Z8,()),0,()),()),(b0,b1,b2,b3,b4,b5,(b6.set (p1.2.1.toNat) (u5.1.1.1.1,u5.1.1.1.2.1,u5.2.1,())),b7,())))else none))else none)else none)else none)
abbrev ef:Type:=AAI×Unit
def EZ(p0:AAA)(p1:Int):Option ef:=
 let x1:Int:=AX (p1-(p0.length:Int))
 cond (decide (x1<0))
  (some (((-1),()),()))
 (some ((x1,()),()))
abbrev bI:Type:=AAI×Unit
def OT(p0:List Int×Int×Unit)(p1:Int):Option bI:=
 (EZ p0.1 p1).bind fun u1=>
 cond (decide (u1.1.1<0))
  (some (((-1),()),()))
 (some ((u1.1.1,()),()))
abbrev bl:Type:=AAI×Unit
def Qk(p0:AA3)(p1:Int):Option bl:=
 let x1:Int:=(p0.2.2.2.1.length:Int)
 cond ((decide ((AX (p1-x1))<0)))
  (some (((-1),()),()))
 (some ((AX (p1-x1),()),()))
abbrev KL:Type:=AAI×Unit
abbrev NS:Type:=AAK→Int→Int→Option KL
def P3(R5:NS)(t0:AAK)(t1 t5:Int):Option KL:=
 cond ((decide (t5<(t0.length:Int))))
  (if(0:Int)≤t5∧t5<(t0.length:Int)then(
  (Qk ((t0.getD (t5.toNat) (0,0,false,[],())).1,(t0.getD (t5.toNat) (0,0,false,[],())).2.1,(t0.getD (t5.toNat) (0,0,false,[],())).2.2.1,(t0.getD (t5.toNat) (0,0,false,[],())).2.2.2.1,()) t1).bind fun u3=>
  cond (decide (u3.1.1<0))
   (some (((-1),()),()))
  (R5 t0 u3.1.1 (AX (t5+1))))else none)
 (some ((t1,()),()))
def GS:Nat→NS
 |0=>fun _ _ _=>none
 |n+1=>P3 (GS n)
def P7(R5:NS)(p0:AAK)(p1:Int):Option KL:=
 let x1:Int:=AX (p1-(p0.length:Int))
 cond (decide (x1<0))
  (some (((-1),()),()))
 (R5 p0 x1 0)
def Hf(p0:AAK)(p1:Int):Option KL:=P7 (GS AL) p0 p1
abbrev bq:Type:=AAI×Unit
def Qz(p0:AA2)(p1:Int):Option bq:=
 (Hf p0.1 p1).bind fun u1=>
 cond (decide (u1.1.1<0))
  (some (((-1),()),()))
 ((Hf p0.2.1 u1.1.1).bind fun u2=>
 cond (decide (u2.1.1<0))
  (some (((-1),()),()))
 (some ((u2.1.1,()),())))
abbrev KU:Type:=AAI×Unit
abbrev Nj:Type:=AAG→Int→Int→Option KU
def QI(R5:Nj)(t0:AAG)(t1 t5:Int):Option KU:=
 cond ((decide (t5<(t0.length:Int))))
  (if(0:Int)≤t5∧t5<(t0.length:Int)then(
  (Qz ((t0.getD (t5.toNat) ([],[],0,())).1,(t0.getD (t5.toNat) ([],[],0,())).2.1,(t0.getD (t5.toNat) ([],[],0,())).2.2.1,()) t1).bind fun u3=>
  cond (decide (u3.1.1<0))
   (some (((-1),()),()))
  (R5 t0 u3.1.1 (AX (t5+1))))else none)
 (some ((t1,()),()))
def GM:Nat→Nj
 |0=>fun _ _ _=>none
 |n+1=>QI (GM n)
def Qb(R5:Nj)(p0:AAG)(p1:Int):Option KU:=
 let x1:Int:=AX (p1-(p0.length:Int))
 cond (decide (x1<0))
  (some (((-1),()),()))
 (R5 p0 x1 0)
def N4(p0:AAG)(p1:Int):Option KU:=Qb (GM AL) p0 p1
abbrev gp:Type:=AAI×Unit
def U8(p0:ABZ)(p1:Int):Option gp:=
 (EZ p0.1 p1).bind fun u1=>
 cond (decide (u1.1.1<0))
  (some (((-1),()),()))
 (some ((u1.1.1,()),()))
abbrev N5:Type:=AAI×Unit
abbrev Sq:Type:=AAB→Int→Int→Option N5
def S3(R5:Sq)(t0:AAB)(t1 t5:Int):Option N5:=
 cond ((decide (t5<(t0.length:Int))))
  (if(0:Int)≤t5∧t5<(t0.length:Int)then(
  (U8 ((t0.getD (t5.toNat) ([],false,0,())).1,(t0.getD (t5.toNat) ([],false,0,())).2.1,(t0.getD (t5.toNat) ([],false,0,())).2.2.1,()) t1).bind fun u3=>
  cond (decide (u3.1.1<0))
   (some (((-1),()),()))
  (R5 t0 u3.1.1 (AX (t5+1))))else none)
 (some ((t1,()),()))
def Iq:Nat→Sq
 |0=>fun _ _ _=>none
 |n+1=>S3 (Iq n)
def Sx(R5:Sq)(p0:AAB)(p1:Int):Option N5:=
 let x1:Int:=AX (p1-(p0.length:Int))
 cond (decide (x1<0))
  (some (((-1),()),()))
 (R5 p0 x1 0)
def Th(p0:AAB)(p1:Int):Option N5:=Sx (Iq AL) p0 p1
abbrev YX:Type:=AAI×Unit
def KP(p0:AAT)(p1:Int):Option YX:=
 (Th p0.1 p1).bind fun u1=>
 cond (decide (u1.1.1<0))
  (some (((-1),()),()))
 (some ((u1.1.1,()),()))
abbrev eg:Type:=AAI×Unit
def S9(p0:ACB)(p1:Int):Option eg:=
 let x1:Int:=AX (p1-(p0.1.length:Int))
 cond (decide (x1<0))
  (some (((-1),()),()))
 ((EZ p0.2.1 x1).bind fun u2=>
 cond (decide (u2.1.1<0))
  (some (((-1),()),()))
 (some ((u2.1.1,()),())))
abbrev MV:Type:=AAI×Unit
abbrev Pb:Type:=AAM→Int→Int→Option MV
def Rq(R5:Pb)(t0:AAM)(t1 t5:Int):Option MV:=
 cond ((decide (t5<(t0.length:Int))))
  (if(0:Int)≤t5∧t5<(t0.length:Int)then(
  (S9 ((t0.getD (t5.toNat) ([],[],false,())).1,(t0.getD (t5.toNat) ([],[],false,())).2.1,(t0.getD (t5.toNat) ([],[],false,())).2.2.1,()) t1).bind fun u3=>
  cond (decide (u3.1.1<0))
   (some (((-1),()),()))
  (R5 t0 u3.1.1 (AX (t5+1))))else none)
 (some ((t1,()),()))
def HM:Nat→Pb
 |0=>fun _ _ _=>none
 |n+1=>Rq (HM n)
def Sk(R5:Pb)(p0:AAM)(p1:Int):Option MV:=
 let x1:Int:=AX (p1-(p0.length:Int))
 cond (decide (x1<0))
  (some (((-1),()),()))
 (R5 p0 x1 0)
def Qh(p0:AAM)(p1:Int):Option MV:=Sk (HM AL) p0 p1
abbrev ar:Type:=AAI×Unit
def Of(p0:AAi)(p1:Int):Option ar:=
 (Qh p0.2.1 p1).bind fun u1=>
 cond (decide (u1.1.1<0))
  (some (((-1),()),()))
 (some ((u1.1.1,()),()))
abbrev JX:Type:=AAI×Unit
abbrev MG:Type:=AAD→Int→Int→Option JX
def Ov(R5:MG)(t0:AAD)(t1 t5:Int):Option JX:=
 cond ((decide (t5<(t0.length:Int))))
  (if(0:Int)≤t5∧t5<(t0.length:Int)then(
  (Of ((t0.getD (t5.toNat) (0,[],())).1,(t0.getD (t5.toNat) (0,[],())).2.1,()) t1).bind fun u3=>
  cond (decide (u3.1.1<0))
   (some (((-1),()),()))
  (R5 t0 u3.1.1 (AX (t5+1))))else none)
 (some ((t1,()),()))
def FY:Nat→MG
 |0=>fun _ _ _=>none
 |n+1=>Ov (FY n)
def PI(R5:MG)(p0:AAD)(p1:Int):Option JX:=
 let x1:Int:=AX (p1-(p0.length:Int))
 cond (decide (x1<0))
  (some (((-1),()),()))
 (R5 p0 x1 0)
def Ll(p0:AAD)(p1:Int):Option JX:=PI (FY AL) p0 p1
abbrev Lt:Type:=AAI×Unit
abbrev Pj:Type:=List AAA→Int→Int→Option Lt
def Rj(R5:Pj)(t0:List AAA)(t1 t5:Int):Option Lt:=
 cond ((decide (t5<(t0.length:Int))))
  (if(0:Int)≤t5∧t5<(t0.length:Int)then(
  (EZ (t0.getD (t5.toNat) []) t1).bind fun u3=>
  cond (decide (u3.1.1<0))
   (some (((-1),()),()))
  (R5 t0 u3.1.1 (AX (t5+1))))else none)
 (some ((t1,()),()))
def HN:Nat→Pj
 |0=>fun _ _ _=>none
 |n+1=>Rj (HN n)
def SR(R5:Pj)(p0:List AAA)(p1:Int):Option Lt:=
 let x1:Int:=AX (p1-(p0.length:Int))
 cond (decide (x1<0))
  (some (((-1),()),()))
 (R5 p0 x1 0)
def Q5(p0:List AAA)(p1:Int):Option Lt:=SR (HN AL) p0 p1
abbrev ed:Type:=AAI×Unit
def Tt(p0:AAj)(p1:Int):Option ed:=
 (EZ p0.2.2.1 p1).bind fun u1=>
 cond (decide (u1.1.1<0))
  (some (((-1),()),()))
 ((Hf p0.2.2.2.1 u1.1.1).bind fun u2=>
 cond (decide (u2.1.1<0))
  (some (((-1),()),()))
 ((Q5 p0.2.2.2.2.2.1 u2.1.1).bind fun u3=>
 cond (decide (u3.1.1<0))
  (some (((-1),()),()))
 (some ((u3.1.1,()),()))))
abbrev M7:Type:=AAI×Unit
abbrev Pu:Type:=AAC→Int→Int→Option M7
def R_(R5:Pu)(t0:AAC)(t1 t5:Int):Option M7:=
 cond ((decide (t5<(t0.length:Int))))
  (if(0:Int)≤t5∧t5<(t0.length:Int)then(
  (Tt ((t0.getD (t5.toNat) (0,0,[],[],false,[],())).1,(t0.getD (t5.toNat) (0,0,[],[],false,[],())).2.1,(t0.getD (t5.toNat) (0,0,[],[],false,[],())).2.2.1,(t0.getD (t5.toNat) (0,0,[],[],false,[],())).2.2.2.1,(t0.getD (t5.toNat) (0,0,[],[],false,[],())).2.2.2.2.1,(t0.getD (t5.toNat) (0,0,[],[],false,[],())).2.2.2.2.2.1,()) t1).bind fun u3=>
  cond (decide (u3.1.1<0))
   (some (((-1),()),()))
  (R5 t0 u3.1.1 (AX (t5+1))))else none)
 (some ((t1,()),()))
def HQ:Nat→Pu
 |0=>fun _ _ _=>none
 |n+1=>R_ (HQ n)
def SJ(R5:Pu)(p0:AAC)(p1:Int):Option M7:=
 let x1:Int:=AX (p1-(p0.length:Int))
 cond (decide (x1<0))
  (some (((-1),()),()))
 (R5 p0 x1 0)
def Q9(p0:AAC)(p1:Int):Option M7:=SJ (HQ AL) p0 p1
abbrev bm:Type:=AAI×Unit
def M5(p0:ABH)(p1:Int):Option bm:=
 let x1:Int:=(p0.2.2.1.length:Int)
 cond ((decide ((AX (p1-x1))<0)))
  (some (((-1),()),()))
 (some ((AX (p1-x1),()),()))
abbrev Kh:Type:=AAI×Unit
abbrev Ny:Type:=AAN→Int→Int→Option Kh
def J1(R5:Ny)(t0:AAN)(t1 t5:Int):Option Kh:=
 cond ((decide (t5<(t0.length:Int))))
  (if(0:Int)≤t5∧t5<(t0.length:Int)then(
  (M5 ((t0.getD (t5.toNat) (0,0,[],())).1,(t0.getD (t5.toNat) (0,0,[],())).2.1,(t0.getD (t5.toNat) (0,0,[],())).2.2.1,()) t1).bind fun u3=>
  cond (decide (u3.1.1<0))
   (some (((-1),()),()))
  (R5 t0 u3.1.1 (AX (t5+1))))else none)
 (some ((t1,()),()))
def Df:Nat→Ny
 |0=>fun _ _ _=>none
 |n+1=>J1 (Df n)
def QV(R5:Ny)(p0:AAN)(p1:Int):Option Kh:=
 let x1:Int:=AX (p1-(p0.length:Int))
 cond (decide (x1<0))
  (some (((-1),()),()))
 (R5 p0 x1 0)
def OZ(p0:AAN)(p1:Int):Option Kh:=QV (Df AL) p0 p1
abbrev af:Type:=AAI×Unit
def Od(p0:AAt)(p1:Int):Option af:=
 (OZ p0.2.2.1 p1).bind fun u1=>
 cond (decide (u1.1.1<0))
  (some (((-1),()),()))
 (some ((u1.1.1,()),()))
abbrev JN:Type:=AAI×Unit
abbrev MI:Type:=AAE→Int→Int→Option JN
def O0(R5:MI)(t0:AAE)(t1 t5:Int):Option JN:=
 cond ((decide (t5<(t0.length:Int))))
  (if(0:Int)≤t5∧t5<(t0.length:Int)then(
  (Od ((t0.getD (t5.toNat) (0,0,[],())).1,(t0.getD (t5.toNat) (0,0,[],())).2.1,(t0.getD (t5.toNat) (0,0,[],())).2.2.1,()) t1).bind fun u3=>
  cond (decide (u3.1.1<0))
   (some (((-1),()),()))
  (R5 t0 u3.1.1 (AX (t5+1))))else none)
 (some ((t1,()),()))
def Fu:Nat→MI
 |0=>fun _ _ _=>none
 |n+1=>O0 (Fu n)
def PQ(R5:MI)(p0:AAE)(p1:Int):Option JN:=
 let x1:Int:=AX (p1-(p0.length:Int))
 cond (decide (x1<0))
  (some (((-1),()),()))
 (R5 p0 x1 0)
def MM(p0:AAE)(p1:Int):Option JN:=PQ (Fu AL) p0 p1
abbrev eY:Type:=AAI×Unit
def Tr(p0:ABx)(p1:Int):Option eY:=
 let x1:Int:=(p0.2.1.length:Int)
 cond ((decide ((AX (p1-x1))<0)))
  (some (((-1),()),()))
 (some ((AX (p1-x1),()),()))
abbrev Mj:Type:=AAI×Unit
abbrev Pd:Type:=AAH→Int→Int→Option Mj
def SA(R5:Pd)(t0:AAH)(t1 t5:Int):Option Mj:=
 cond ((decide (t5<(t0.length:Int))))
  (if(0:Int)≤t5∧t5<(t0.length:Int)then(
  (Tr ((t0.getD (t5.toNat) (0,[],false,())).1,(t0.getD (t5.toNat) (0,[],false,())).2.1,(t0.getD (t5.toNat) (0,[],false,())).2.2.1,()) t1).bind fun u3=>
  cond (decide (u3.1.1<0))
   (some (((-1),()),()))
  (R5 t0 u3.1.1 (AX (t5+1))))else none)
 (some ((t1,()),()))
def Hc:Nat→Pd
 |0=>fun _ _ _=>none
 |n+1=>SA (Hc n)
def Sd(R5:Pd)(p0:AAH)(p1:Int):Option Mj:=
 let x1:Int:=AX (p1-(p0.length:Int))
 cond (decide (x1<0))
  (some (((-1),()),()))
 (R5 p0 x1 0)
def Qr(p0:AAH)(p1:Int):Option Mj:=Sd (Hc AL) p0 p1
abbrev dP:Type:=AAI×Unit
def Qm(p0:AAL)(p1:Int):Option dP:=
 (OT (p0.1,p0.2.1,()) p1).bind fun u1=>
 cond (decide (u1.1.1<0))
  (some (((-1),()),()))
 ((N4 p0.2.2.1 u1.1.1).bind fun u2=>
 cond (decide (u2.1.1<0))
  (some (((-1),()),()))
 ((EZ p0.2.2.2.1 u2.1.1).bind fun u3=>
 cond (decide (u3.1.1<0))
  (some (((-1),()),()))
 ((KP (p0.2.2.2.2.1,p0.2.2.2.2.2.1,()) u3.1.1).bind fun u4=>
 cond (decide (u4.1.1<0))
  (some (((-1),()),()))
 ((Ll p0.2.2.2.2.2.2.1 u4.1.1).bind fun u5=>
 cond (decide (u5.1.1<0))
  (some (((-1),()),()))
 ((Q9 p0.2.2.2.2.2.2.2.1 u5.1.1).bind fun u6=>
 cond (decide (u6.1.1<0))
  (some (((-1),()),()))
 ((MM p0.2.2.2.2.2.2.2.2.1 u6.1.1).bind fun u7=>
 cond (decide (u7.1.1<0))
  (some (((-1),()),()))
 ((Qr p0.2.2.2.2.2.2.2.2.2.1 u7.1.1).bind fun u8=>
 cond (decide (u8.1.1<0))
  (some (((-1),()),()))
 (some ((u8.1.1,()),())))))))))
abbrev OI:Type:=AAQ×AAP
abbrev R0:Type:=List Int→Int→List Int→Option OI
def Td(R3:R0)(t0:AAA)(t4:Int)(b0:AAA):Option OI:=
 cond ((decide (t4<(t0.length:Int))))
  (if(0:Int)≤t4∧t4<(t0.length:Int)then(
  if(0:Int)≤t4∧t4<(b0.length:Int)then(
  R3 t0 (AX (t4+1)) (b0.set (t4.toNat) (t0.getD (t4.toNat) 0)))else none)else none)
 (some (((),()),(b0,())))
def Iu:Nat→R0
 |0=>fun _ _ _=>none
 |n+1=>Td (Iu n)
def To(R3:R0)(p0:AAA):Option OI:=
 if(0:Int)≤(p0.length:Int)∧(p0.length:Int)≤(p0.length:Int)∧(p0.length:Int)≤(Ej:Int)then(
 R3 p0 0 (List.replicate ((p0.length:Int).toNat) 0))else none
def EY(p0:AAA):Option OI:=To (Iu AL) p0
abbrev ak:Type:=AB0×AAP
def OP(p0:List Int×Int×Unit):Option ak:=
 (EY p0.1).bind fun u1=>
 some ((((),p0.2.1,()),()),(u1.2.1,()))
abbrev cr:Type:=AC3×Unit
def VD(p0:AA3):Option cr:=
 some (((p0.1,p0.2.1,p0.2.2.1,p0.2.2.2.1,()),()),())
abbrev KK:Type:=AAQ×ACU
abbrev N1:Type:=AAK→Int→AAK→Option KK
def P6(R3:N1)(t0:AAK)(t4:Int)(b0:AAK):Option KK:=
 cond ((decide (t4<(t0.length:Int))))
  (if(0:Int)≤t4∧t4<(t0.length:Int)then(
  (VD ((t0.getD (t4.toNat) (0,0,false,[],())).1,(t0.getD (t4.toNat) (0,0,false,[],())).2.1,(t0.getD (t4.toNat) (0,0,false,[],())).2.2.1,(t0.getD (t4.toNat) (0,0,false,[],())).2.2.2.1,())).bind fun u3=>
  if(0:Int)≤t4∧t4<(b0.length:Int)then(
  R3 t0 (AX (t4+1)) (b0.set (t4.toNat) (u3.1.1.1,u3.1.1.2.1,u3.1.1.2.2.1,u3.1.1.2.2.2.1,())))else none)else none)
 (some (((),()),(b0,())))
def GW:Nat→N1
 |0=>fun _ _ _=>none
 |n+1=>P6 (GW n)
def P_(R3:N1)(p0:AAK):Option KK:=
 if(0:Int)≤(p0.length:Int)∧(p0.length:Int)≤(p0.length:Int)∧(p0.length:Int)≤(Ej:Int)then(
 R3 p0 0 (List.replicate ((p0.length:Int).toNat) (0,0,false,[],())))else none
def Ho(p0:AAK):Option KK:=P_ (GW AL) p0
abbrev dF:Type:=ACu×ACw
def Qy(p0:AA2):Option dF:=
 (Ho p0.1).bind fun u1=>
 (Ho p0.2.1).bind fun u2=>
 some ((((),(),p0.2.2.1,()),()),(u1.2.1,u2.2.1,()))
abbrev KY:Type:=AAQ×AC4
abbrev Np:Type:=AAG→Int→AAG→Option KY
def QQ(R3:Np)(t0:AAG)(t4:Int)(b0:AAG):Option KY:=
 cond ((decide (t4<(t0.length:Int))))
  (if(0:Int)≤t4∧t4<(t0.length:Int)then(
  (Qy ((t0.getD (t4.toNat) ([],[],0,())).1,(t0.getD (t4.toNat) ([],[],0,())).2.1,(t0.getD (t4.toNat) ([],[],0,())).2.2.1,())).bind fun u3=>
  if(0:Int)≤t4∧t4<(b0.length:Int)then(
  R3 t0 (AX (t4+1)) (b0.set (t4.toNat) (u3.2.1,u3.2.2.1,u3.1.1.2.2.1,())))else none)else none)
 (some (((),()),(b0,())))
def GU:Nat→Np
 |0=>fun _ _ _=>none
 |n+1=>QQ (GU n)
def QC(R3:Np)(p0:AAG):Option KY:=
 if(0:Int)≤(p0.length:Int)∧(p0.length:Int)≤(p0.length:Int)∧(p0.length:Int)≤(Ej:Int)then(
 R3 p0 0 (List.replicate ((p0.length:Int).toNat) ([],[],0,())))else none
def OL(p0:AAG):Option KY:=QC (GU AL) p0
abbrev iH:Type:=((Unit×Bool×Int×Unit)×Unit)×AAP
def U4(p0:ABZ):Option iH:=
 (EY p0.1).bind fun u1=>
 some ((((),p0.2.1,p0.2.2.1,()),()),(u1.2.1,()))
abbrev N_:Type:=AAQ×ABf
abbrev Sl:Type:=AAB→Int→AAB→Option N_
def Tq(R3:Sl)(t0:AAB)(t4:Int)(b0:AAB):Option N_:=
 cond ((decide (t4<(t0.length:Int))))
  (if(0:Int)≤t4∧t4<(t0.length:Int)then(
  (U4 ((t0.getD (t4.toNat) ([],false,0,())).1,(t0.getD (t4.toNat) ([],false,0,())).2.1,(t0.getD (t4.toNat) ([],false,0,())).2.2.1,())).bind fun u3=>
  if(0:Int)≤t4∧t4<(b0.length:Int)then(
  R3 t0 (AX (t4+1)) (b0.set (t4.toNat) (u3.2.1,u3.1.1.2.1,u3.1.1.2.2.1,())))else none)else none)
 (some (((),()),(b0,())))
def IX:Nat→Sl
 |0=>fun _ _ _=>none
 |n+1=>Tq (IX n)
def TX(R3:Sl)(p0:AAB):Option N_:=
 if(0:Int)≤(p0.length:Int)∧(p0.length:Int)≤(p0.length:Int)∧(p0.length:Int)≤(Ej:Int)then(
 R3 p0 0 (List.replicate ((p0.length:Int).toNat) ([],false,0,())))else none
def S6(p0:AAB):Option N_:=TX (IX AL) p0
abbrev X9:Type:=AB0×ABf
def Kj(p0:AAT):Option X9:=
 (S6 p0.1).bind fun u1=>
 some ((((),p0.2.1,()),()),(u1.2.1,()))
abbrev fF:Type:=((List UInt8×Unit×Bool×Unit)×Unit)×AAP
def Tl(p0:ACB):Option fF:=
 (EY p0.2.1).bind fun u1=>
 some (((p0.1,(),p0.2.2.1,()),()),(u1.2.1,()))
abbrev Lu:Type:=AAQ×ABq
abbrev Ph:Type:=AAM→Int→AAM→Option Lu
def Rx(R3:Ph)(t0:AAM)(t4:Int)(b0:AAM):Option Lu:=
 cond ((decide (t4<(t0.length:Int))))
  (if(0:Int)≤t4∧t4<(t0.length:Int)then(
  (Tl ((t0.getD (t4.toNat) ([],[],false,())).1,(t0.getD (t4.toNat) ([],[],false,())).2.1,(t0.getD (t4.toNat) ([],[],false,())).2.2.1,())).bind fun u3=>
  if(0:Int)≤t4∧t4<(b0.length:Int)then(
  R3 t0 (AX (t4+1)) (b0.set (t4.toNat) (u3.1.1.1,u3.2.1,u3.1.1.2.2.1,())))else none)else none)
 (some (((),()),(b0,())))
def HJ:Nat→Ph
 |0=>fun _ _ _=>none
 |n+1=>Rx (HJ n)
def Rn(R3:Ph)(p0:AAM):Option Lu:=
 if(0:Int)≤(p0.length:Int)∧(p0.length:Int)≤(p0.length:Int)∧(p0.length:Int)≤(Ej:Int)then(
 R3 p0 0 (List.replicate ((p0.length:Int).toNat) ([],[],false,())))else none
def Qt(p0:AAM):Option Lu:=Rn (HJ AL) p0
abbrev ae:Type:=ACx×ABq
def Oc(p0:AAi):Option ae:=
 (Qt p0.2.1).bind fun u1=>
 some (((p0.1,(),()),()),(u1.2.1,()))
abbrev JT:Type:=AAQ×AC5
abbrev L6:Type:=AAD→Int→AAD→Option JT
def O_(R3:L6)(t0:AAD)(t4:Int)(b0:AAD):Option JT:=
 cond ((decide (t4<(t0.length:Int))))
  (if(0:Int)≤t4∧t4<(t0.length:Int)then(
  (Oc ((t0.getD (t4.toNat) (0,[],())).1,(t0.getD (t4.toNat) (0,[],())).2.1,())).bind fun u3=>
  if(0:Int)≤t4∧t4<(b0.length:Int)then(
  R3 t0 (AX (t4+1)) (b0.set (t4.toNat) (u3.1.1.1,u3.2.1,())))else none)else none)
 (some (((),()),(b0,())))
def Fe:Nat→L6
 |0=>fun _ _ _=>none
 |n+1=>O_ (Fe n)
def Ox(R3:L6)(p0:AAD):Option JT:=
 if(0:Int)≤(p0.length:Int)∧(p0.length:Int)≤(p0.length:Int)∧(p0.length:Int)≤(Ej:Int)then(
 R3 p0 0 (List.replicate ((p0.length:Int).toNat) (0,[],())))else none
def M3(p0:AAD):Option JT:=Ox (Fe AL) p0
abbrev Mk:Type:=AAQ×AC6
abbrev Pm:Type:=List AAA→Int→List AAA→Option Mk
def Rg(R3:Pm)(t0:List AAA)(t4:Int)(b0:List AAA):Option Mk:=
 cond ((decide (t4<(t0.length:Int))))
  (if(0:Int)≤t4∧t4<(t0.length:Int)then(
  (EY (t0.getD (t4.toNat) [])).bind fun u3=>
  if(0:Int)≤t4∧t4<(b0.length:Int)then(
  R3 t0 (AX (t4+1)) (b0.set (t4.toNat) u3.2.1))else none)else none)
 (some (((),()),(b0,())))
def HV:Nat→Pm
 |0=>fun _ _ _=>none
 |n+1=>Rg (HV n)
def SZ(R3:Pm)(p0:List AAA):Option Mk:=
 if(0:Int)≤(p0.length:Int)∧(p0.length:Int)≤(p0.length:Int)∧(p0.length:Int)≤(Ej:Int)then(
 R3 p0 0 (List.replicate ((p0.length:Int).toNat) []))else none
def Qi(p0:List AAA):Option Mk:=SZ (HV AL) p0
abbrev fT:Type:=ACy×ACz
def Sz(p0:AAj):Option fT:=
 (EY p0.2.2.1).bind fun u1=>
 (Ho p0.2.2.2.1).bind fun u2=>
 (Qi p0.2.2.2.2.2.1).bind fun u3=>
 some (((p0.1,p0.2.1,(),(),p0.2.2.2.2.1,(),()),()),(u1.2.1,u2.2.1,u3.2.1,()))
abbrev L5:Type:=AAQ×ACJ
abbrev Pg:Type:=AAC→Int→AAC→Option L5
def Rw(R3:Pg)(t0:AAC)(t4:Int)(b0:AAC):Option L5:=
 cond ((decide (t4<(t0.length:Int))))
  (if(0:Int)≤t4∧t4<(t0.length:Int)then(
  (Sz ((t0.getD (t4.toNat) (0,0,[],[],false,[],())).1,(t0.getD (t4.toNat) (0,0,[],[],false,[],())).2.1,(t0.getD (t4.toNat) (0,0,[],[],false,[],())).2.2.1,(t0.getD (t4.toNat) (0,0,[],[],false,[],())).2.2.2.1,(t0.getD (t4.toNat) (0,0,[],[],false,[],())).2.2.2.2.1,(t0.getD (t4.toNat) (0,0,[],[],false,[],())).2.2.2.2.2.1,())).bind fun u3=>
  if(0:Int)≤t4∧t4<(b0.length:Int)then(
  R3 t0 (AX (t4+1)) (b0.set (t4.toNat) (u3.1.1.1,u3.1.1.2.1,u3.2.1,u3.2.2.1,u3.1.1.2.2.2.2.1,u3.2.2.2.1,())))else none)else none)
 (some (((),()),(b0,())))
def HX:Nat→Pg
 |0=>fun _ _ _=>none
 |n+1=>Rw (HX n)
def SF(R3:Pg)(p0:AAC):Option L5:=
 if(0:Int)≤(p0.length:Int)∧(p0.length:Int)≤(p0.length:Int)∧(p0.length:Int)≤(Ej:Int)then(
 R3 p0 0 (List.replicate ((p0.length:Int).toNat) (0,0,[],[],false,[],())))else none
def RH(p0:AAC):Option L5:=SF (HX AL) p0
abbrev dZ:Type:=(ABH×Unit)×Unit
def RG(p0:ABH):Option dZ:=
 some (((p0.1,p0.2.1,p0.2.2.1,()),()),())
abbrev Ks:Type:=AAQ×ABO
abbrev NW:Type:=AAN→Int→AAN→Option Ks
def Jq(R3:NW)(t0:AAN)(t4:Int)(b0:AAN):Option Ks:=
 cond ((decide (t4<(t0.length:Int))))
  (if(0:Int)≤t4∧t4<(t0.length:Int)then(
  (RG ((t0.getD (t4.toNat) (0,0,[],())).1,(t0.getD (t4.toNat) (0,0,[],())).2.1,(t0.getD (t4.toNat) (0,0,[],())).2.2.1,())).bind fun u3=>
  if(0:Int)≤t4∧t4<(b0.length:Int)then(
  R3 t0 (AX (t4+1)) (b0.set (t4.toNat) (u3.1.1.1,u3.1.1.2.1,u3.1.1.2.2.1,())))else none)else none)
 (some (((),()),(b0,())))
def Dh:Nat→NW
 |0=>fun _ _ _=>none
 |n+1=>Jq (Dh n)
def QB(R3:NW)(p0:AAN):Option Ks:=
 if(0:Int)≤(p0.length:Int)∧(p0.length:Int)≤(p0.length:Int)∧(p0.length:Int)≤(Ej:Int)then(
 R3 p0 0 (List.replicate ((p0.length:Int).toNat) (0,0,[],())))else none
def Og(p0:AAN):Option Ks:=QB (Dh AL) p0
abbrev au:Type:=ACO×ABO
def OS(p0:AAt):Option au:=
 (Og p0.2.2.1).bind fun u1=>
 some (((p0.1,p0.2.1,(),()),()),(u1.2.1,()))
abbrev JH:Type:=AAQ×AC7
abbrev Mp:Type:=AAE→Int→AAE→Option JH
def PS(R3:Mp)(t0:AAE)(t4:Int)(b0:AAE):Option JH:=
 cond ((decide (t4<(t0.length:Int))))
  (if(0:Int)≤t4∧t4<(t0.length:Int)then(
  (OS ((t0.getD (t4.toNat) (0,0,[],())).1,(t0.getD (t4.toNat) (0,0,[],())).2.1,(t0.getD (t4.toNat) (0,0,[],())).2.2.1,())).bind fun u3=>
  if(0:Int)≤t4∧t4<(b0.length:Int)then(
  R3 t0 (AX (t4+1)) (b0.set (t4.toNat) (u3.1.1.1,u3.1.1.2.1,u3.2.1,())))else none)else none)
 (some (((),()),(b0,())))
def FX:Nat→Mp
 |0=>fun _ _ _=>none
 |n+1=>PS (FX n)
def Ou(R3:Mp)(p0:AAE):Option JH:=
 if(0:Int)≤(p0.length:Int)∧(p0.length:Int)≤(p0.length:Int)∧(p0.length:Int)≤(Ej:Int)then(
 R3 p0 0 (List.replicate ((p0.length:Int).toNat) (0,0,[],())))else none
def Mc(p0:AAE):Option JH:=Ou (FX AL) p0
abbrev eT:Type:=(ABx×Unit)×Unit
def WK(p0:ABx):Option eT:=
 some (((p0.1,p0.2.1,p0.2.2.1,()),()),())
abbrev Mo:Type:=AAQ×(AAH×Unit)
abbrev Pc:Type:=AAH→Int→AAH→Option Mo
def SG(R3:Pc)(t0:AAH)(t4:Int)(b0:AAH):Option Mo:=
 cond ((decide (t4<(t0.length:Int))))
  (if(0:Int)≤t4∧t4<(t0.length:Int)then(
  (WK ((t0.getD (t4.toNat) (0,[],false,())).1,(t0.getD (t4.toNat) (0,[],false,())).2.1,(t0.getD (t4.toNat) (0,[],false,())).2.2.1,())).bind fun u3=>
  if(0:Int)≤t4∧t4<(b0.length:Int)then(
  R3 t0 (AX (t4+1)) (b0.set (t4.toNat) (u3.1.1.1,u3.1.1.2.1,u3.1.1.2.2.1,())))else none)else none)
 (some (((),()),(b0,())))
def HU:Nat→Pc
 |0=>fun _ _ _=>none
 |n+1=>SG (HU n)
def Rs(R3:Pc)(p0:AAH):Option Mo:=
 if(0:Int)≤(p0.length:Int)∧(p0.length:Int)≤(p0.length:Int)∧(p0.length:Int)≤(Ej:Int)then(
 R3 p0 0 (List.replicate ((p0.length:Int).toNat) (0,[],false,())))else none
def RJ(p0:AAH):Option Mo:=Rs (HU AL) p0
abbrev dT:Type:=AC0×ABE
def HC(p0:AAL):Option dT:=
 (OP (p0.1,p0.2.1,())).bind fun u1=>
 (OL p0.2.2.1).bind fun u2=>
 (EY p0.2.2.2.1).bind fun u3=>
 (Kj (p0.2.2.2.2.1,p0.2.2.2.2.2.1,())).bind fun u4=>
 (M3 p0.2.2.2.2.2.2.1).bind fun u5=>
 (RH p0.2.2.2.2.2.2.2.1).bind fun u6=>
 (Mc p0.2.2.2.2.2.2.2.2.1).bind fun u7=>
 (RJ p0.2.2.2.2.2.2.2.2.2.1).bind fun u8=>
 some ((((),u1.1.1.2.1,(),(),(),u4.1.1.2.1,(),(),(),(),p0.2.2.2.2.2.2.2.2.2.2.1,()),()),(u1.2.1,u2.2.1,u3.2.1,u4.2.1,u5.2.1,u6.2.1,u7.2.1,u8.2.1,()))
abbrev N7:Type:=AAJ×Unit
abbrev Rp:Type:=List Int→List Int→Int→Option N7
def Tp(R4:Rp)(t0 t1:AAA)(t5:Int):Option N7:=
 cond ((decide (t5<(t0.length:Int))))
  (if(0:Int)≤t5∧t5<(t0.length:Int)then(
  if(0:Int)≤t5∧t5<(t1.length:Int)then(
  cond ((t0.getD (t5.toNat) 0) !=(t1.getD (t5.toNat) 0))
   (some ((false,()),()))
  (R4 t0 t1 (AX (t5+1))))else none)else none)
 (some ((true,()),()))
def Io:Nat→Rp
 |0=>fun _ _ _=>none
 |n+1=>Tp (Io n)
def S4(R4:Rp)(p0 p1:AAA):Option N7:=
 cond (((p0.length:Int) !=(p1.length:Int)))
  (some ((false,()),()))
 (R4 p0 p1 0)
def Ed(p0 p1:AAA):Option N7:=S4 (Io AL) p0 p1
abbrev aq:Type:=AAJ×Unit
def OH(p0 p1:List Int×Int×Unit):Option aq:=
 (Ed p0.1 p1.1).bind fun u1=>
 cond (!u1.1.1)
  (some ((false,()),()))
 (cond (p0.2.1 !=p1.2.1)
  (some ((false,()),()))
 (some ((true,()),())))
abbrev d_:Type:=AAJ×Unit
def Qq(p0 p1:AA3):Option d_:=
 cond (p0.1 !=p1.1)
  (some ((false,()),()))
 (cond (p0.2.1 !=p1.2.1)
  (some ((false,()),()))
 (cond (p0.2.2.1 !=p1.2.2.1)
  (some ((false,()),()))
 (cond ((!(p0.2.2.2.1==p1.2.2.2.1)))
  (some ((false,()),()))
 (some ((true,()),())))))
abbrev Kb:Type:=AAJ×Unit
abbrev Nv:Type:=AAK→AAK→Int→Option Kb
def QZ(R4:Nv)(t0 t1:AAK)(t5:Int):Option Kb:=
 cond ((decide (t5<(t0.length:Int))))
  (if(0:Int)≤t5∧t5<(t0.length:Int)then(
  if(0:Int)≤t5∧t5<(t1.length:Int)then(
  (Qq ((t0.getD (t5.toNat) (0,0,false,[],())).1,(t0.getD (t5.toNat) (0,0,false,[],())).2.1,(t0.getD (t5.toNat) (0,0,false,[],())).2.2.1,(t0.getD (t5.toNat) (0,0,false,[],())).2.2.2.1,()) ((t1.getD (t5.toNat) (0,0,false,[],())).1,(t1.getD (t5.toNat) (0,0,false,[],())).2.1,(t1.getD (t5.toNat) (0,0,false,[],())).2.2.1,(t1.getD (t5.toNat) (0,0,false,[],())).2.2.2.1,())).bind fun u3=>
  cond (!u3.1.1)
   (some ((false,()),()))
  (R4 t0 t1 (AX (t5+1))))else none)else none)
 (some ((true,()),()))
def GJ:Nat→Nv
 |0=>fun _ _ _=>none
 |n+1=>QZ (GJ n)
def QY(R4:Nv)(p0 p1:AAK):Option Kb:=
 cond (((p0.length:Int) !=(p1.length:Int)))
  (some ((false,()),()))
 (R4 p0 p1 0)
def Hi(p0 p1:AAK):Option Kb:=QY (GJ AL) p0 p1
abbrev da:Type:=AAJ×Unit
def Qf(p0 p1:AA2):Option da:=
 (Hi p0.1 p1.1).bind fun u1=>
 cond (!u1.1.1)
  (some ((false,()),()))
 ((Hi p0.2.1 p1.2.1).bind fun u2=>
 cond (!u2.1.1)
  (some ((false,()),()))
 (cond (p0.2.2.1 !=p1.2.2.1)
  (some ((false,()),()))
 (some ((true,()),()))))
abbrev KR:Type:=AAJ×Unit
abbrev NX:Type:=AAG→AAG→Int→Option KR
def QH(R4:NX)(t0 t1:AAG)(t5:Int):Option KR:=
 cond ((decide (t5<(t0.length:Int))))
  (if(0:Int)≤t5∧t5<(t0.length:Int)then(
  if(0:Int)≤t5∧t5<(t1.length:Int)then(
  (Qf ((t0.getD (t5.toNat) ([],[],0,())).1,(t0.getD (t5.toNat) ([],[],0,())).2.1,(t0.getD (t5.toNat) ([],[],0,())).2.2.1,()) ((t1.getD (t5.toNat) ([],[],0,())).1,(t1.getD (t5.toNat) ([],[],0,())).2.1,(t1.getD (t5.toNat) ([],[],0,())).2.2.1,())).bind fun u3=>
  cond (!u3.1.1)
   (some ((false,()),()))
  (R4 t0 t1 (AX (t5+1))))else none)else none)
 (some ((true,()),()))
def GO:Nat→NX
 |0=>fun _ _ _=>none
 |n+1=>QH (GO n)
def P8(R4:NX)(p0 p1:AAG):Option KR:=
 cond (((p0.length:Int) !=(p1.length:Int)))
  (some ((false,()),()))
 (R4 p0 p1 0)
def N8(p0 p1:AAG):Option KR:=P8 (GO AL) p0 p1
abbrev ig:Type:=AAJ×Unit
def U5(p0 p1:ABZ):Option ig:=
 (Ed p0.1 p1.1).bind fun u1=>
 cond (!u1.1.1)
  (some ((false,()),()))
 (cond (p0.2.1 !=p1.2.1)
  (some ((false,()),()))
 (cond (p0.2.2.1 !=p1.2.2.1)
  (some ((false,()),()))
 (some ((true,()),()))))
abbrev OV:Type:=AAJ×Unit
abbrev Sn:Type:=AAB→AAB→Int→Option OV
def TS(R4:Sn)(t0 t1:AAB)(t5:Int):Option OV:=
 cond ((decide (t5<(t0.length:Int))))
  (if(0:Int)≤t5∧t5<(t0.length:Int)then(
  if(0:Int)≤t5∧t5<(t1.length:Int)then(
  (U5 ((t0.getD (t5.toNat) ([],false,0,())).1,(t0.getD (t5.toNat) ([],false,0,())).2.1,(t0.getD (t5.toNat) ([],false,0,())).2.2.1,()) ((t1.getD (t5.toNat) ([],false,0,())).1,(t1.getD (t5.toNat) ([],false,0,())).2.1,(t1.getD (t5.toNat) ([],false,0,())).2.2.1,())).bind fun u3=>
  cond (!u3.1.1)
   (some ((false,()),()))
  (R4 t0 t1 (AX (t5+1))))else none)else none)
 (some ((true,()),()))
def I1:Nat→Sn
 |0=>fun _ _ _=>none
 |n+1=>TS (I1 n)
def Tu(R4:Sn)(p0 p1:AAB):Option OV:=
 cond (((p0.length:Int) !=(p1.length:Int)))
  (some ((false,()),()))
 (R4 p0 p1 0)
def TV(p0 p1:AAB):Option OV:=Tu (I1 AL) p0 p1
abbrev Yq:Type:=AAJ×Unit
def Kq(p0 p1:AAT):Option Yq:=
 (TV p0.1 p1.1).bind fun u1=>
 cond (!u1.1.1)
  (some ((false,()),()))
 (cond (p0.2.1 !=p1.2.1)
  (some ((false,()),()))
 (some ((true,()),())))
abbrev fH:Type:=AAJ×Unit
def Te(p0 p1:ACB):Option fH:=
 cond (!(p0.1==p1.1))
  (some ((false,()),()))
 ((Ed p0.2.1 p1.2.1).bind fun u1=>
 cond (!u1.1.1)
  (some ((false,()),()))
 (cond (p0.2.2.1 !=p1.2.2.1)
  (some ((false,()),()))
 (some ((true,()),()))))
abbrev LY:Type:=AAJ×Unit
abbrev Py:Type:=AAM→AAM→Int→Option LY
def SW(R4:Py)(t0 t1:AAM)(t5:Int):Option LY:=
 cond ((decide (t5<(t0.length:Int))))
  (if(0:Int)≤t5∧t5<(t0.length:Int)then(
  if(0:Int)≤t5∧t5<(t1.length:Int)then(
  (Te ((t0.getD (t5.toNat) ([],[],false,())).1,(t0.getD (t5.toNat) ([],[],false,())).2.1,(t0.getD (t5.toNat) ([],[],false,())).2.2.1,()) ((t1.getD (t5.toNat) ([],[],false,())).1,(t1.getD (t5.toNat) ([],[],false,())).2.1,(t1.getD (t5.toNat) ([],[],false,())).2.2.1,())).bind fun u3=>
  cond (!u3.1.1)
   (some ((false,()),()))
  (R4 t0 t1 (AX (t5+1))))else none)else none)
 (some ((true,()),()))
def HT:Nat→Py
 |0=>fun _ _ _=>none
 |n+1=>SW (HT n)
def SC(R4:Py)(p0 p1:AAM):Option LY:=
 cond (((p0.length:Int) !=(p1.length:Int)))
  (some ((false,()),()))
 (R4 p0 p1 0)
def Q7(p0 p1:AAM):Option LY:=SC (HT AL) p0 p1
abbrev bJ:Type:=AAJ×Unit
def OO(p0 p1:AAi):Option bJ:=
 cond (p0.1 !=p1.1)
  (some ((false,()),()))
 ((Q7 p0.2.1 p1.2.1).bind fun u1=>
 cond (!u1.1.1)
  (some ((false,()),()))
 (some ((true,()),())))
abbrev JV:Type:=AAJ×Unit
abbrev My:Type:=AAD→AAD→Int→Option JV
def O5(R4:My)(t0 t1:AAD)(t5:Int):Option JV:=
 cond ((decide (t5<(t0.length:Int))))
  (if(0:Int)≤t5∧t5<(t0.length:Int)then(
  if(0:Int)≤t5∧t5<(t1.length:Int)then(
  (OO ((t0.getD (t5.toNat) (0,[],())).1,(t0.getD (t5.toNat) (0,[],())).2.1,()) ((t1.getD (t5.toNat) (0,[],())).1,(t1.getD (t5.toNat) (0,[],())).2.1,())).bind fun u3=>
  cond (!u3.1.1)
   (some ((false,()),()))
  (R4 t0 t1 (AX (t5+1))))else none)else none)
 (some ((true,()),()))
def FU:Nat→My
 |0=>fun _ _ _=>none
 |n+1=>O5 (FU n)
def PC(R4:My)(p0 p1:AAD):Option JV:=
 cond (((p0.length:Int) !=(p1.length:Int)))
  (some ((false,()),()))
 (R4 p0 p1 0)
def MU(p0 p1:AAD):Option JV:=PC (FU AL) p0 p1
abbrev L3:Type:=AAJ×Unit
abbrev Pk:Type:=List AAA→List AAA→Int→Option L3
def SB(R4:Pk)(t0 t1:List AAA)(t5:Int):Option L3:=
 cond ((decide (t5<(t0.length:Int))))
  (if(0:Int)≤t5∧t5<(t0.length:Int)then(
  if(0:Int)≤t5∧t5<(t1.length:Int)then(
  (Ed (t0.getD (t5.toNat) []) (t1.getD (t5.toNat) [])).bind fun u3=>
  cond (!u3.1.1)
   (some ((false,()),()))
  (R4 t0 t1 (AX (t5+1))))else none)else none)
 (some ((true,()),()))
def Ha:Nat→Pk
 |0=>fun _ _ _=>none
 |n+1=>SB (Ha n)
def Ry(R4:Pk)(p0 p1:List AAA):Option L3:=
 cond (((p0.length:Int) !=(p1.length:Int)))
  (some ((false,()),()))
 (R4 p0 p1 0)
def Qe(p0 p1:List AAA):Option L3:=Ry (Ha AL) p0 p1
abbrev eP:Type:=AAJ×Unit
def Tb(p0 p1:AAj):Option eP:=
 cond (p0.1 !=p1.1)
  (some ((false,()),()))
 (cond (p0.2.1 !=p1.2.1)
  (some ((false,()),()))
 ((Ed p0.2.2.1 p1.2.2.1).bind fun u1=>
 cond (!u1.1.1)
  (some ((false,()),()))
 ((Hi p0.2.2.2.1 p1.2.2.2.1).bind fun u2=>
 cond (!u2.1.1)
  (some ((false,()),()))
 (cond ((p0.2.2.2.2.1 !=p1.2.2.2.2.1))
  (some ((false,()),()))
 ((Qe p0.2.2.2.2.2.1 p1.2.2.2.2.2.1).bind fun u4=>
 cond (!u4.1.1)
  (some ((false,()),()))
 (some ((true,()),())))))))
abbrev MA:Type:=AAJ×Unit
abbrev Ps:Type:=AAC→AAC→Int→Option MA
def Ru(R4:Ps)(t0 t1:AAC)(t5:Int):Option MA:=
 cond ((decide (t5<(t0.length:Int))))
  (if(0:Int)≤t5∧t5<(t0.length:Int)then(
  if(0:Int)≤t5∧t5<(t1.length:Int)then(
  (Tb ((t0.getD (t5.toNat) (0,0,[],[],false,[],())).1,(t0.getD (t5.toNat) (0,0,[],[],false,[],())).2.1,(t0.getD (t5.toNat) (0,0,[],[],false,[],())).2.2.1,(t0.getD (t5.toNat) (0,0,[],[],false,[],())).2.2.2.1,(t0.getD (t5.toNat) (0,0,[],[],false,[],())).2.2.2.2.1,(t0.getD (t5.toNat) (0,0,[],[],false,[],())).2.2.2.2.2.1,()) ((t1.getD (t5.toNat) (0,0,[],[],false,[],())).1,(t1.getD (t5.toNat) (0,0,[],[],false,[],())).2.1,(t1.getD (t5.toNat) (0,0,[],[],false,[],())).2.2.1,(t1.getD (t5.toNat) (0,0,[],[],false,[],())).2.2.2.1,(t1.getD (t5.toNat) (0,0,[],[],false,[],())).2.2.2.2.1,(t1.getD (t5.toNat) (0,0,[],[],false,[],())).2.2.2.2.2.1,())).bind fun u3=>
  cond (!u3.1.1)
   (some ((false,()),()))
  (R4 t0 t1 (AX (t5+1))))else none)else none)
 (some ((true,()),()))
def HO:Nat→Ps
 |0=>fun _ _ _=>none
 |n+1=>Ru (HO n)
def Rl(R4:Ps)(p0 p1:AAC):Option MA:=
 cond (((p0.length:Int) !=(p1.length:Int)))
  (some ((false,()),()))
 (R4 p0 p1 0)
def Q0(p0 p1:AAC):Option MA:=Rl (HO AL) p0 p1
abbrev eC:Type:=AAJ×Unit
def JY(p0 p1:ABH):Option eC:=
 cond (p0.1 !=p1.1)
  (some ((false,()),()))
 (cond (p0.2.1 !=p1.2.1)
  (some ((false,()),()))
 (cond ((!(p0.2.2.1==p1.2.2.1)))
  (some ((false,()),()))
 (some ((true,()),()))))
abbrev KW:Type:=AAJ×Unit
abbrev NU:Type:=AAN→AAN→Int→Option KW
def Ju(R4:NU)(t0 t1:AAN)(t5:Int):Option KW:=
 cond ((decide (t5<(t0.length:Int))))
  (if(0:Int)≤t5∧t5<(t0.length:Int)then(
  if(0:Int)≤t5∧t5<(t1.length:Int)then(
  (JY ((t0.getD (t5.toNat) (0,0,[],())).1,(t0.getD (t5.toNat) (0,0,[],())).2.1,(t0.getD (t5.toNat) (0,0,[],())).2.2.1,()) ((t1.getD (t5.toNat) (0,0,[],())).1,(t1.getD (t5.toNat) (0,0,[],())).2.1,(t1.getD (t5.toNat) (0,0,[],())).2.2.1,())).bind fun u3=>
  cond (!u3.1.1)
   (some ((false,()),()))
  (R4 t0 t1 (AX (t5+1))))else none)else none)
 (some ((true,()),()))
def Dc:Nat→NU
 |0=>fun _ _ _=>none
 |n+1=>Ju (Dc n)
def QK(R4:NU)(p0 p1:AAN):Option KW:=
 cond (((p0.length:Int) !=(p1.length:Int)))
  (some ((false,()),()))
 (R4 p0 p1 0)
def OA(p0 p1:AAN):Option KW:=QK (Dc AL) p0 p1
abbrev bH:Type:=AAJ×Unit
def OY(p0 p1:AAt):Option bH:=
 cond (p0.1 !=p1.1)
  (some ((false,()),()))
 (cond (p0.2.1 !=p1.2.1)
  (some ((false,()),()))
 ((OA p0.2.2.1 p1.2.2.1).bind fun u1=>
 cond (!u1.1.1)
  (some ((false,()),()))
 (some ((true,()),()))))
abbrev JL:Type:=AAJ×Unit
abbrev Ly:Type:=AAE→AAE→Int→Option JL
def O8(R4:Ly)(t0 t1:AAE)(t5:Int):Option JL:=
 cond ((decide (t5<(t0.length:Int))))
  (if(0:Int)≤t5∧t5<(t0.length:Int)then(
  if(0:Int)≤t5∧t5<(t1.length:Int)then(
  (OY ((t0.getD (t5.toNat) (0,0,[],())).1,(t0.getD (t5.toNat) (0,0,[],())).2.1,(t0.getD (t5.toNat) (0,0,[],())).2.2.1,()) ((t1.getD (t5.toNat) (0,0,[],())).1,(t1.getD (t5.toNat) (0,0,[],())).2.1,(t1.getD (t5.toNat) (0,0,[],())).2.2.1,())).bind fun u3=>
  cond (!u3.1.1)
   (some ((false,()),()))
  (R4 t0 t1 (AX (t5+1))))else none)else none)
 (some ((true,()),()))
def Fi:Nat→Ly
 |0=>fun _ _ _=>none
 |n+1=>O8 (Fi n)
def PB(R4:Ly)(p0 p1:AAE):Option JL:=
 cond (((p0.length:Int) !=(p1.length:Int)))
  (some ((false,()),()))
 (R4 p0 p1 0)
def L4(p0 p1:AAE):Option JL:=PB (Fi AL) p0 p1
abbrev ec:Type:=AAJ×Unit
def TP(p0 p1:ABx):Option ec:=
 cond (p0.1 !=p1.1)
  (some ((false,()),()))
 (cond (!(p0.2.1==p1.2.1))
  (some ((false,()),()))
 (cond (p0.2.2.1 !=p1.2.2.1)
  (some ((false,()),()))
 (some ((true,()),()))))
abbrev MZ:Type:=AAJ×Unit
abbrev Pw:Type:=AAH→AAH→Int→Option MZ
def SU(R4:Pw)(t0 t1:AAH)(t5:Int):Option MZ:=
 cond ((decide (t5<(t0.length:Int))))
  (if(0:Int)≤t5∧t5<(t0.length:Int)then(
  if(0:Int)≤t5∧t5<(t1.length:Int)then(
  (TP ((t0.getD (t5.toNat) (0,[],false,())).1,(t0.getD (t5.toNat) (0,[],false,())).2.1,(t0.getD (t5.toNat) (0,[],false,())).2.2.1,()) ((t1.getD (t5.toNat) (0,[],false,())).1,(t1.getD (t5.toNat) (0,[],false,())).2.1,(t1.getD (t5.toNat) (0,[],false,())).2.2.1,())).bind fun u3=>
  cond (!u3.1.1)
   (some ((false,()),()))
  (R4 t0 t1 (AX (t5+1))))else none)else none)
 (some ((true,()),()))
def HY:Nat→Pw
 |0=>fun _ _ _=>none
 |n+1=>SU (HY n)
def Rt(R4:Pw)(p0 p1:AAH):Option MZ:=
 cond (((p0.length:Int) !=(p1.length:Int)))
  (some ((false,()),()))
 (R4 p0 p1 0)
def Qs(p0 p1:AAH):Option MZ:=Rt (HY AL) p0 p1
abbrev dQ:Type:=AAJ×Unit
def G4(p0 p1:AAL):Option dQ:=
 (OH (p0.1,p0.2.1,()) (p1.1,p1.2.1,())).bind fun u1=>
 cond (!u1.1.1)
  (some ((false,()),()))
 ((N8 p0.2.2.1 p1.2.2.1).bind fun u2=>
 cond (!u2.1.1)
  (some ((false,()),()))
 ((Ed p0.2.2.2.1 p1.2.2.2.1).bind fun u3=>
 cond (!u3.1.1)
  (some ((false,()),()))
 ((Kq (p0.2.2.2.2.1,p0.2.2.2.2.2.1,()) (p1.2.2.2.2.1,p1.2.2.2.2.2.1,())).bind fun u4=>
 cond (!u4.1.1)
  (some ((false,()),()))
 ((MU p0.2.2.2.2.2.2.1 p1.2.2.2.2.2.2.1).bind fun u5=>
 cond (!u5.1.1)
  (some ((false,()),()))
 ((Q0 p0.2.2.2.2.2.2.2.1 p1.2.2.2.2.2.2.2.1).bind fun u6=>
 cond (!u6.1.1)
  (some ((false,()),()))
 ((L4 p0.2.2.2.2.2.2.2.2.1 p1.2.2.2.2.2.2.2.2.1).bind fun u7=>
 cond (!u7.1.1)
  (some ((false,()),()))
 ((Qs p0.2.2.2.2.2.2.2.2.2.1 p1.2.2.2.2.2.2.2.2.2.1).bind fun u8=>
 cond (!u8.1.1)
  (some ((false,()),()))
 (cond (p0.2.2.2.2.2.2.2.2.2.2.1 !=p1.2.2.2.2.2.2.2.2.2.2.1)
  (some ((false,()),()))
 (some ((true,()),()))))))))))
abbrev Km:Type:=AAI×AAP
abbrev NP:Type:=Int→Int→List Int→Option Km
def P9(R2:NP)(t1 t5:Int)(b0:AAA):Option Km:=
 cond ((decide (t5<(b0.length:Int))))
  (if(0:Int)≤t5∧t5<(b0.length:Int)then(
  R2 (AX (t1+1)) (AX (t5+1)) (b0.set (t5.toNat) t1))else none)
 (some ((t1,()),(b0,())))
def Gh:Nat→NP
 |0=>fun _ _ _=>none
 |n+1=>P9 (Gh n)
def QE(R2:NP)(p1:Int)(b0:AAA):Option Km:=
 R2 p1 0 b0
def Dj(p1:Int)(b0:AAA):Option Km:=QE (Gh AL) p1 b0
abbrev Yd:Type:=AAI×AAP
def PY(bF p1:Int)(b0:AAA):Option Yd:=
 (Dj p1 b0).bind fun u1=>
 some ((u1.1.1,()),(u1.2.1,()))
abbrev Kk:Type:=AC_×Unit
abbrev Nk:Type:=Int→List UInt8→Option Kk
def Jx(R4:Nk)(t0:Int)(t3:List UInt8):Option Kk:=
 cond (decide (t0>0))
  (let x2:List UInt8:=([w8 ((AX (48+(t0.tmod 10))))].map fun n:Int=>UInt8.ofNat n.toNat)
  if x2.length+t3.length≤Ej then(
  R4 (AX (t0.tdiv 10)) (x2++t3))else none)
 (if 1+t3.length≤Ej then(
 some (([109]++t3,()),()))else none)
def Ei:Nat→Nk
 |0=>fun _ _=>none
 |n+1=>Jx (Ei n)
def P5(R4:Nk)(p0:Int):Option Kk:=
 cond (decide (p0≤0))
  (some (([109,48],()),()))
 (R4 p0 [])
def Cm(p0:Int):Option Kk:=P5 (Ei AL) p0
abbrev IH:Type:=AAI×ACU
abbrev K5:Type:=Int→Int→AAK→Option IH
def DP(R2:K5)(t1 t5:Int)(b0:AAK):Option IH:=
 cond ((decide (t5<(b0.length:Int))))
  (if(0:Int)≤t5∧t5<(b0.length:Int)then(
  let x2:AAK:=(b0.set (t5.toNat) (t1,(b0.getD (t5.toNat) (0,0,false,[],())).2.1,(b0.getD (t5.toNat) (0,0,false,[],())).2.2.1,(b0.getD (t5.toNat) (0,0,false,[],())).2.2.2.1,()))
  if(0:Int)≤t5∧t5<(x2.length:Int)then(
  let x3:AAK:=(x2.set (t5.toNat) ((x2.getD (t5.toNat) (0,0,false,[],())).1,AX (t1+1),(x2.getD (t5.toNat) (0,0,false,[],())).2.2.1,(x2.getD (t5.toNat) (0,0,false,[],())).2.2.2.1,()))
  let x4:Int:=AX ((AX (t1+1))+1)
  if(0:Int)≤t5∧t5<(x3.length:Int)then(
  let x5:AAK:=(x3.set (t5.toNat) ((x3.getD (t5.toNat) (0,0,false,[],())).1,(x3.getD (t5.toNat) (0,0,false,[],())).2.1,(x4.tmod 3)==0,(x3.getD (t5.toNat) (0,0,false,[],())).2.2.2.1,()))
  (Cm (AX (x4+1))).bind fun u6=>
  if(0:Int)≤t5∧t5<(x5.length:Int)then(
  R2 (AX ((AX (x4+1))+1)) (AX (t5+1)) (x5.set (t5.toNat) ((x5.getD (t5.toNat) (0,0,false,[],())).1,(x5.getD (t5.toNat) (0,0,false,[],())).2.1,(x5.getD (t5.toNat) (0,0,false,[],())).2.2.1,u6.1.1,())))else none)else none)else none)else none)
 (some ((t1,()),(b0,())))
def Bz:Nat→K5
 |0=>fun _ _ _=>none
 |n+1=>DP (Bz n)
def Hz(R2:K5)(p1:Int)(b0:AAK):Option IH:=
 R2 p1 0 b0
def DJ(p1:Int)(b0:AAK):Option IH:=Hz (Bz AL) p1 b0
abbrev CU:Type:=AAI×AC4
def Bd(k:Nat)(p0:Int)(b0:AAG):Option CU:=
 (DJ p0 ((b0.getD k ([],[],0,())).1)).bind fun u=>some (u.1,(b0.set k (u.2.1,(b0.getD k ([],[],0,())).2.1,(b0.getD k ([],[],0,())).2.2.1,()),()))
def Be(k:Nat)(p0:Int)(b0:AAG):Option CU:=
 (DJ p0 ((b0.getD k ([],[],0,())).2.1)).bind fun u=>some (u.1,(b0.set k ((b0.getD k ([],[],0,())).1,u.2.1,(b0.getD k ([],[],0,())).2.2.1,()),()))
def Ae(kj:AAO)(p0:Int)(b0:AAG):Option CU:=
 match kj.2 with
 |0=>Bd kj.1 p0 b0
 |1=>Be kj.1 p0 b0
 |_=>none
abbrev IC:Type:=AAI×AC4
abbrev K0:Type:=Int→Int→AAG→Option IC
def DU(R2:K0)(t1 t5:Int)(b0:AAG):Option IC:=
 cond ((decide (t5<(b0.length:Int))))
  (if(0:Int)≤t5∧t5<(b0.length:Int)then(
  (Ae (t5.toNat,0) t1 b0).bind fun u2=>
  if(0:Int)≤t5∧t5<(u2.2.1.length:Int)then(
  (Ae (t5.toNat,1) u2.1.1 u2.2.1).bind fun u3=>
  if(0:Int)≤t5∧t5<(u3.2.1.length:Int)then(
  R2 (AX (u3.1.1+1)) (AX (t5+1)) (u3.2.1.set (t5.toNat) ((u3.2.1.getD (t5.toNat) ([],[],0,())).1,(u3.2.1.getD (t5.toNat) ([],[],0,())).2.1,u3.1.1,())))else none)else none)else none)
 (some ((t1,()),(b0,())))
def Bw:Nat→K0
 |0=>fun _ _ _=>none
 |n+1=>DU (Bw n)
def H0(R2:K0)(p1:Int)(b0:AAG):Option IC:=
 R2 p1 0 b0
def FK(p1:Int)(b0:AAG):Option IC:=H0 (Bw AL) p1 b0
abbrev Jk:Type:=AAI×ABf
def F8(k:Nat)(p0:Int)(b0:AAB):Option Jk:=
 (Dj p0 ((b0.getD k ([],false,0,())).1)).bind fun u=>some (u.1,(b0.set k (u.2.1,(b0.getD k ([],false,0,())).2.1,(b0.getD k ([],false,0,())).2.2.1,()),()))
def D5(kj:AAO)(p0:Int)(b0:AAB):Option Jk:=
 match kj.2 with
 |0=>F8 kj.1 p0 b0
 |_=>none
abbrev KJ:Type:=AAI×ABf
abbrev NQ:Type:=Int→Int→AAB→Option KJ
def J0(R2:NQ)(t1 t5:Int)(b0:AAB):Option KJ:=
 cond ((decide (t5<(b0.length:Int))))
  (if(0:Int)≤t5∧t5<(b0.length:Int)then(
  (D5 (t5.toNat,0) t1 b0).bind fun u2=>
  if(0:Int)≤t5∧t5<(u2.2.1.length:Int)then(
  let x3:AAB:=(u2.2.1.set (t5.toNat) ((u2.2.1.getD (t5.toNat) ([],false,0,())).1,(u2.1.1.tmod 3)==0,(u2.2.1.getD (t5.toNat) ([],false,0,())).2.2.1,()))
  if(0:Int)≤t5∧t5<(x3.length:Int)then(
  R2 (AX ((AX (u2.1.1+1))+1)) (AX (t5+1)) (x3.set (t5.toNat) ((x3.getD (t5.toNat) ([],false,0,())).1,(x3.getD (t5.toNat) ([],false,0,())).2.1,AX (u2.1.1+1),())))else none)else none)else none)
 (some ((t1,()),(b0,())))
def Ep:Nat→NQ
 |0=>fun _ _ _=>none
 |n+1=>J0 (Ep n)
def QS(R2:NQ)(p1:Int)(b0:AAB):Option KJ:=
 R2 p1 0 b0
def ON(p1:Int)(b0:AAB):Option KJ:=QS (Ep AL) p1 b0
abbrev W5:Type:=AAI×ABf
def Ma(bF p1:Int)(b0:AAB):Option W5:=
 (ON p1 b0).bind fun u1=>
 some ((u1.1.1,()),(u1.2.1,()))
abbrev Jn:Type:=AAI×ABq
def F7(k:Nat)(p0:Int)(b0:AAM):Option Jn:=
 (Dj p0 ((b0.getD k ([],[],false,())).2.1)).bind fun u=>some (u.1,(b0.set k ((b0.getD k ([],[],false,())).1,u.2.1,(b0.getD k ([],[],false,())).2.2.1,()),()))
def D6(kj:AAO)(p0:Int)(b0:AAM):Option Jn:=
 match kj.2 with
 |1=>F7 kj.1 p0 b0
 |_=>none
abbrev JG:Type:=AAI×ABq
abbrev Lg:Type:=Int→Int→AAM→Option JG
def Il(R2:Lg)(t1 t5:Int)(b0:AAM):Option JG:=
 cond ((decide (t5<(b0.length:Int))))
  ((Cm t1).bind fun u2=>
  if(0:Int)≤t5∧t5<(b0.length:Int)then(
  let x3:AAM:=(b0.set (t5.toNat) (u2.1.1,(b0.getD (t5.toNat) ([],[],false,())).2.1,(b0.getD (t5.toNat) ([],[],false,())).2.2.1,()))
  if(0:Int)≤t5∧t5<(x3.length:Int)then(
  (D6 (t5.toNat,1) (AX (t1+1)) x3).bind fun u4=>
  if(0:Int)≤t5∧t5<(u4.2.1.length:Int)then(
  R2 (AX (u4.1.1+1)) (AX (t5+1)) (u4.2.1.set (t5.toNat) ((u4.2.1.getD (t5.toNat) ([],[],false,())).1,(u4.2.1.getD (t5.toNat) ([],[],false,())).2.1,(u4.1.1.tmod 3)==0,())))else none)else none)else none)
 (some ((t1,()),(b0,())))
def D_:Nat→Lg
 |0=>fun _ _ _=>none
 |n+1=>Il (D_ n)
def PG(R2:Lg)(p1:Int)(b0:AAM):Option JG:=
 R2 p1 0 b0
def Lb(p1:Int)(b0:AAM):Option JG:=PG (D_ AL) p1 b0
abbrev GN:Type:=AAI×AC5
def Dp(k:Nat)(p0:Int)(b0:AAD):Option GN:=
 (Lb p0 ((b0.getD k (0,[],())).2.1)).bind fun u=>some (u.1,(b0.set k ((b0.getD k (0,[],())).1,u.2.1,()),()))
def Cr(kj:AAO)(p0:Int)(b0:AAD):Option GN:=
 match kj.2 with
 |1=>Dp kj.1 p0 b0
 |_=>none
abbrev HD:Type:=AAI×AC5
abbrev Jp:Type:=Int→Int→AAD→Option HD
def G8(R2:Jp)(t1 t5:Int)(b0:AAD):Option HD:=
 cond ((decide (t5<(b0.length:Int))))
  (if(0:Int)≤t5∧t5<(b0.length:Int)then(
  let x2:AAD:=(b0.set (t5.toNat) (t1,(b0.getD (t5.toNat) (0,[],())).2.1,()))
  if(0:Int)≤t5∧t5<(x2.length:Int)then(
  (Cr (t5.toNat,1) (AX (t1+1)) x2).bind fun u3=>
  R2 u3.1.1 (AX (t5+1)) u3.2.1)else none)else none)
 (some ((t1,()),(b0,())))
def DH:Nat→Jp
 |0=>fun _ _ _=>none
 |n+1=>G8 (DH n)
def M1(R2:Jp)(p1:Int)(b0:AAD):Option HD:=
 R2 p1 0 b0
def Jc(p1:Int)(b0:AAD):Option HD:=M1 (DH AL) p1 b0
abbrev EO:Type:=AAI×ACJ
def Cn(k:Nat)(p0:Int)(b0:AAC):Option EO:=
 (Dj p0 ((b0.getD k (0,0,[],[],false,[],())).2.2.1)).bind fun u=>some (u.1,(b0.set k ((b0.getD k (0,0,[],[],false,[],())).1,(b0.getD k (0,0,[],[],false,[],())).2.1,u.2.1,(b0.getD k (0,0,[],[],false,[],())).2.2.2.1,(b0.getD k (0,0,[],[],false,[],())).2.2.2.2.1,(b0.getD k (0,0,[],[],false,[],())).2.2.2.2.2.1,()),()))
def B8(kj:AAO)(p0:Int)(b0:AAC):Option EO:=
 match kj.2 with
 |2=>Cn kj.1 p0 b0
 |_=>none
abbrev Dz:Type:=AAI×ACJ
def CY(k:Nat)(p0:Int)(b0:AAC):Option Dz:=
 (DJ p0 ((b0.getD k (0,0,[],[],false,[],())).2.2.2.1)).bind fun u=>some (u.1,(b0.set k ((b0.getD k (0,0,[],[],false,[],())).1,(b0.getD k (0,0,[],[],false,[],())).2.1,(b0.getD k (0,0,[],[],false,[],())).2.2.1,u.2.1,(b0.getD k (0,0,[],[],false,[],())).2.2.2.2.1,(b0.getD k (0,0,[],[],false,[],())).2.2.2.2.2.1,()),()))
def Bi(kj:AAO)(p0:Int)(b0:AAC):Option Dz:=
 match kj.2 with
 |3=>CY kj.1 p0 b0
 |_=>none
abbrev NJ:Type:=AAI×AC6
def PE(k:Nat)(p0:Int)(b0:List AAA):Option NJ:=
 (Dj p0 (b0.getD k [])).bind fun u=>some (u.1,(b0.set k u.2.1,()))
def Jw(kj:AAO)(p0:Int)(b0:List AAA):Option NJ:=
 match kj.2 with
 |0=>PE kj.1 p0 b0
 |_=>none
abbrev JD:Type:=AAI×AC6
abbrev Lr:Type:=Int→Int→List AAA→Option JD
def I_(R2:Lr)(t1 t5:Int)(b0:List AAA):Option JD:=
 cond ((decide (t5<(b0.length:Int))))
  (if(0:Int)≤t5∧t5<(b0.length:Int)then(
  (Jw (t5.toNat,0) t1 b0).bind fun u2=>
  R2 u2.1.1 (AX (t5+1)) u2.2.1)else none)
 (some ((t1,()),(b0,())))
def EG:Nat→Lr
 |0=>fun _ _ _=>none
 |n+1=>I_ (EG n)
def PR(R2:Lr)(p1:Int)(b0:List AAA):Option JD:=
 R2 p1 0 b0
def Mq(p1:Int)(b0:List AAA):Option JD:=PR (EG AL) p1 b0
abbrev EH:Type:=AAI×ACJ
def Cg(k:Nat)(p0:Int)(b0:AAC):Option EH:=
 (Mq p0 ((b0.getD k (0,0,[],[],false,[],())).2.2.2.2.2.1)).bind fun u=>some (u.1,(b0.set k ((b0.getD k (0,0,[],[],false,[],())).1,(b0.getD k (0,0,[],[],false,[],())).2.1,(b0.getD k (0,0,[],[],false,[],())).2.2.1,(b0.getD k (0,0,[],[],false,[],())).2.2.2.1,(b0.getD k (0,0,[],[],false,[],())).2.2.2.2.1,u.2.1,()),()))
def Bp(kj:AAO)(p0:Int)(b0:AAC):Option EH:=
 match kj.2 with
 |5=>Cg kj.1 p0 b0
 |_=>none
abbrev Jh:Type:=AAI×ACJ
abbrev MT:Type:=Int→Int→AAC→Option Jh
def Ij(R2:MT)(t1 t5:Int)(b0:AAC):Option Jh:=
 cond ((decide (t5<(b0.length:Int))))
  (if(0:Int)≤t5∧t5<(b0.length:Int)then(
  let x2:AAC:=(b0.set (t5.toNat) (t1,(b0.getD (t5.toNat) (0,0,[],[],false,[],())).2.1,(b0.getD (t5.toNat) (0,0,[],[],false,[],())).2.2.1,(b0.getD (t5.toNat) (0,0,[],[],false,[],())).2.2.2.1,(b0.getD (t5.toNat) (0,0,[],[],false,[],())).2.2.2.2.1,(b0.getD (t5.toNat) (0,0,[],[],false,[],())).2.2.2.2.2.1,()))
  if(0:Int)≤t5∧t5<(x2.length:Int)then(
  let x3:AAC:=(x2.set (t5.toNat) ((x2.getD (t5.toNat) (0,0,[],[],false,[],())).1,AX (t1+1),(x2.getD (t5.toNat) (0,0,[],[],false,[],())).2.2.1,(x2.getD (t5.toNat) (0,0,[],[],false,[],())).2.2.2.1,(x2.getD (t5.toNat) (0,0,[],[],false,[],())).2.2.2.2.1,(x2.getD (t5.toNat) (0,0,[],[],false,[],())).2.2.2.2.2.1,()))
  if(0:Int)≤t5∧t5<(x3.length:Int)then(
  (B8 (t5.toNat,2) (AX ((AX (t1+1))+1)) x3).bind fun u5=>
  if(0:Int)≤t5∧t5<(u5.2.1.length:Int)then(
  (Bi (t5.toNat,3) u5.1.1 u5.2.1).bind fun u6=>
  if(0:Int)≤t5∧t5<(u6.2.1.length:Int)then(
  let x7:AAC:=(u6.2.1.set (t5.toNat) ((u6.2.1.getD (t5.toNat) (0,0,[],[],false,[],())).1,(u6.2.1.getD (t5.toNat) (0,0,[],[],false,[],())).2.1,(u6.2.1.getD (t5.toNat) (0,0,[],[],false,[],())).2.2.1,(u6.2.1.getD (t5.toNat) (0,0,[],[],false,[],())).2.2.2.1,(u6.1.1.tmod 3)==0,(u6.2.1.getD (t5.toNat) (0,0,[],[],false,[],())).2.2.2.2.2.1,()))
  if(0:Int)≤t5∧t5<(x7.length:Int)then(
  (Bp (t5.toNat,5) (AX (u6.1.1+1)) x7).bind fun u8=>
  R2 u8.1.1 (AX (t5+1)) u8.2.1)else none)else none)else none)else none)else none)else none)
 (some ((t1,()),(b0,())))
def D8:Nat→MT
 |0=>fun _ _ _=>none
 |n+1=>Ij (D8 n)
def PH(R2:MT)(p1:Int)(b0:AAC):Option Jh:=
 R2 p1 0 b0
def M6(p1:Int)(b0:AAC):Option Jh:=PH (D8 AL) p1 b0
abbrev II:Type:=AAI×ABO
abbrev Ky:Type:=Int→Int→AAN→Option II
def Hv(R2:Ky)(t1 t5:Int)(b0:AAN):Option II:=
 cond ((decide (t5<(b0.length:Int))))
  (if(0:Int)≤t5∧t5<(b0.length:Int)then(
  let x2:AAN:=(b0.set (t5.toNat) (t1,(b0.getD (t5.toNat) (0,0,[],())).2.1,(b0.getD (t5.toNat) (0,0,[],())).2.2.1,()))
  if(0:Int)≤t5∧t5<(x2.length:Int)then(
  let x3:AAN:=(x2.set (t5.toNat) ((x2.getD (t5.toNat) (0,0,[],())).1,AX (t1+1),(x2.getD (t5.toNat) (0,0,[],())).2.2.1,()))
  let x4:Int:=AX ((AX (t1+1))+1)
  (Cm x4).bind fun u5=>
  if(0:Int)≤t5∧t5<(x3.length:Int)then(
  R2 (AX (x4+1)) (AX (t5+1)) (x3.set (t5.toNat) ((x3.getD (t5.toNat) (0,0,[],())).1,(x3.getD (t5.toNat) (0,0,[],())).2.1,u5.1.1,())))else none)else none)else none)
 (some ((t1,()),(b0,())))
def Da:Nat→Ky
 |0=>fun _ _ _=>none
 |n+1=>Hv (Da n)
def NL(R2:Ky)(p1:Int)(b0:AAN):Option II:=
 R2 p1 0 b0
def Ka(p1:Int)(b0:AAN):Option II:=NL (Da AL) p1 b0
abbrev GB:Type:=AAI×AC7
def Dd(k:Nat)(p0:Int)(b0:AAE):Option GB:=
 (Ka p0 ((b0.getD k (0,0,[],())).2.2.1)).bind fun u=>some (u.1,(b0.set k ((b0.getD k (0,0,[],())).1,(b0.getD k (0,0,[],())).2.1,u.2.1,()),()))
def Ci(kj:AAO)(p0:Int)(b0:AAE):Option GB:=
 match kj.2 with
 |2=>Dd kj.1 p0 b0
 |_=>none
abbrev HB:Type:=AAI×AC7
abbrev J4:Type:=Int→Int→AAE→Option HB
def Gz(R2:J4)(t1 t5:Int)(b0:AAE):Option HB:=
 cond ((decide (t5<(b0.length:Int))))
  (if(0:Int)≤t5∧t5<(b0.length:Int)then(
  let x2:AAE:=(b0.set (t5.toNat) (t1,(b0.getD (t5.toNat) (0,0,[],())).2.1,(b0.getD (t5.toNat) (0,0,[],())).2.2.1,()))
  if(0:Int)≤t5∧t5<(x2.length:Int)then(
  let x3:AAE:=(x2.set (t5.toNat) ((x2.getD (t5.toNat) (0,0,[],())).1,AX (t1+1),(x2.getD (t5.toNat) (0,0,[],())).2.2.1,()))
  if(0:Int)≤t5∧t5<(x3.length:Int)then(
  (Ci (t5.toNat,2) (AX ((AX (t1+1))+1)) x3).bind fun u5=>
  R2 u5.1.1 (AX (t5+1)) u5.2.1)else none)else none)else none)
 (some ((t1,()),(b0,())))
def DF:Nat→J4
 |0=>fun _ _ _=>none
 |n+1=>Gz (DF n)
def Me(R2:J4)(p1:Int)(b0:AAE):Option HB:=
 R2 p1 0 b0
def JF(p1:Int)(b0:AAE):Option HB:=Me (DF AL) p1 b0
abbrev Je:Type:=AAI×(AAH×Unit)
abbrev L2:Type:=Int→Int→AAH→Option Je
def Ii(R2:L2)(t1 t5:Int)(b0:AAH):Option Je:=
 cond ((decide (t5<(b0.length:Int))))
  (if(0:Int)≤t5∧t5<(b0.length:Int)then(
  let x2:AAH:=(b0.set (t5.toNat) (t1,(b0.getD (t5.toNat) (0,[],false,())).2.1,(b0.getD (t5.toNat) (0,[],false,())).2.2.1,()))
  (Cm (AX (t1+1))).bind fun u3=>
  if(0:Int)≤t5∧t5<(x2.length:Int)then(
  let x4:AAH:=(x2.set (t5.toNat) ((x2.getD (t5.toNat) (0,[],false,())).1,u3.1.1,(x2.getD (t5.toNat) (0,[],false,())).2.2.1,()))
  let x5:Int:=AX ((AX (t1+1))+1)
  if(0:Int)≤t5∧t5<(x4.length:Int)then(
  R2 (AX (x5+1)) (AX (t5+1)) (x4.set (t5.toNat) ((x4.getD (t5.toNat) (0,[],false,())).1,(x4.getD (t5.toNat) (0,[],false,())).2.1,(x5.tmod 3)==0,())))else none)else none)else none)
 (some ((t1,()),(b0,())))
def EB:Nat→L2
 |0=>fun _ _ _=>none
 |n+1=>Ii (EB n)
def Oz(R2:L2)(p1:Int)(b0:AAH):Option Je:=
 R2 p1 0 b0
def Mi(p1:Int)(b0:AAH):Option Je:=Oz (EB AL) p1 b0
abbrev Zt:Type:=AAI×ABE
def I3(bF fM:Int)(Z8:Bool)(p1:Int)(b0:AAA)(b1:AAG)(b2:AAA)(b3:AAB)(b4:AAD)(b5:AAC)(b6:AAE)(b7:AAH):Option Zt:=
 (PY bF p1 b0).bind fun u1=>
 (FK u1.1.1 b1).bind fun u2=>
 (Dj u2.1.1 b2).bind fun u3=>
 (Ma fM u3.1.1 b3).bind fun u4=>
 (Jc u4.1.1 b4).bind fun u5=>
 (M6 u5.1.1 b5).bind fun u6=>
 (JF u6.1.1 b6).bind fun u7=>
 (Mi u7.1.1 b7).bind fun u8=>
 some ((u8.1.1,()),(u1.2.1,u2.2.1,u3.2.1,u4.2.1,u5.2.1,u6.2.1,u7.2.1,u8.2.1,()))
abbrev bE:Type:=ABk×ABE
def UH(bF fM:Int)(Z8:Bool)(p1:Int×Int×Int×Int×List UInt8×Unit)(b0:AAA)(b1:AAG)(b2:AAA)(b3:AAB)(b4:AAD)(b5:AAC)(b6:AAE)(b7:AAH):Option bE:=
 cond (p1.1==1)
  (none)
 (cond (p1.1==2)
  (none)
 (cond (p1.1==3)
  (none)
 (cond (p1.1==4)
  (none)
 (cond (p1.1==6)
  (none)
 (cond (p1.1==7)
  (none)
 (cond (p1.1==8)
  (none)
 (cond (p1.1==9)
  (none)
 (cond (p1.1==10)
  (none)
 (cond (p1.1==11)
  (none)
 (cond (p1.1==12)
  (none)
 (cond (p1.1==13)
  (none)
 (cond (p1.1==14)
  ((RL bF fM Z8 (p1.1,p1.2.1,p1.2.2.1,p1.2.2.2.1,p1.2.2.2.2.1,()) b0 b1 b2 b3 b4 b5 b6 b7).bind fun u1=>
  some (((((),u1.1.1.1.2.1,(),(),(),u1.1.1.1.2.2.2.2.2.1,(),(),(),(),u1.1.1.1.2.2.2.2.2.2.2.2.2.2.1,()),u1.1.1.2.1,()),()),(u1.2.1,u1.2.2.1,u1.2.2.2.1,u1.2.2.2.2.1,u1.2.2.2.2.2.1,u1.2.2.2.2.2.2.1,u1.2.2.2.2.2.2.2.1,u1.2.2.2.2.2.2.2.2.1,())))
 (cond (p1.1==15)
  (none)
 (none))))))))))))))
abbrev Yx:Type:=ABk×ABE
def Kf(p0:AAL)(p1:Int×Int×Int×Int×List UInt8×Unit):Option Yx:=
 (Mg (p0.1,p0.2.1,p0.2.2.1,p0.2.2.2.1,p0.2.2.2.2.1,p0.2.2.2.2.2.1,p0.2.2.2.2.2.2.1,p0.2.2.2.2.2.2.2.1,p0.2.2.2.2.2.2.2.2.1,p0.2.2.2.2.2.2.2.2.2.1,p0.2.2.2.2.2.2.2.2.2.2.1,())).bind fun u1=>
 cond (!u1.1.1)
  (some (((((),0,(),(),(),0,(),(),(),(),false,()),1,()),()),([],[],[],[],[],[],[],[],())))
 ((Tx (p1.1,p1.2.1,p1.2.2.1,p1.2.2.2.1,p1.2.2.2.2.1,())).bind fun u2=>
 cond (!u2.1.1)
  (some (((((),0,(),(),(),0,(),(),(),(),false,()),1,()),()),([],[],[],[],[],[],[],[],())))
 ((HF (p0.1,p0.2.1,p0.2.2.1,p0.2.2.2.1,p0.2.2.2.2.1,p0.2.2.2.2.2.1,p0.2.2.2.2.2.2.1,p0.2.2.2.2.2.2.2.1,p0.2.2.2.2.2.2.2.2.1,p0.2.2.2.2.2.2.2.2.2.1,p0.2.2.2.2.2.2.2.2.2.2.1,())).bind fun u3=>
 (UH u3.1.1.2.1 u3.1.1.2.2.2.2.2.1 u3.1.1.2.2.2.2.2.2.2.2.2.2.1 (p1.1,p1.2.1,p1.2.2.1,p1.2.2.2.1,p1.2.2.2.2.1,()) u3.2.1 u3.2.2.1 u3.2.2.2.1 u3.2.2.2.2.1 u3.2.2.2.2.2.1 u3.2.2.2.2.2.2.1 u3.2.2.2.2.2.2.2.1 u3.2.2.2.2.2.2.2.2.1).bind fun u4=>
 cond (u4.1.1.2.1 !=0)
  ((HF (p0.1,p0.2.1,p0.2.2.1,p0.2.2.2.1,p0.2.2.2.2.1,p0.2.2.2.2.2.1,p0.2.2.2.2.2.2.1,p0.2.2.2.2.2.2.2.1,p0.2.2.2.2.2.2.2.2.1,p0.2.2.2.2.2.2.2.2.2.1,p0.2.2.2.2.2.2.2.2.2.2.1,())).bind fun u5=>
  some (((((),u5.1.1.2.1,(),(),(),u5.1.1.2.2.2.2.2.1,(),(),(),(),u5.1.1.2.2.2.2.2.2.2.2.2.2.1,()),u4.1.1.2.1,()),()),(u5.2.1,u5.2.2.1,u5.2.2.2.1,u5.2.2.2.2.1,u5.2.2.2.2.2.1,u5.2.2.2.2.2.2.1,u5.2.2.2.2.2.2.2.1,u5.2.2.2.2.2.2.2.2.1,())))
 (some (((((),u4.1.1.1.2.1,(),(),(),u4.1.1.1.2.2.2.2.2.1,(),(),(),(),u4.1.1.1.2.2.2.2.2.2.2.2.2.2.1,()),u4.1.1.2.1,()),()),(u4.2.1,u4.2.2.1,u4.2.2.2.1,u4.2.2.2.2.1,u4.2.2.2.2.2.1,u4.2.2.2.2.2.2.1,u4.2.2.2.2.2.2.2.1,u4.2.2.2.2.2.2.2.2.1,())))))
abbrev Fp:Type:=ABk×ABE
abbrev Hr:Type:=Int→Int→Int→Int→Bool→List Int→AAG→List Int→AAB→AAD→AAC→AAE→AAH→Int→Int→Bool→List Int→AAG→List Int→AAB→AAD→AAC→AAE→AAH→Option Fp
def F6(R5:Hr)(t1 t7 AZ Bu:Int)(BB:Bool)(b1:AAA)(b2:AAG)(b3:AAA)(b4:AAB)(b5:AAD)(b6:AAC)(b7:AAE)(b8:AAH)(ew oJ:Int)(kC:Bool)(pP:AAA)(Rv:AAG)(GC:AAA)(Ut:AAB)(UZ:AAD)(H4:AAC)(J5:AAE)(Nw:AAH):Option Fp:=
 (Kf (pP,ew,Rv,GC,Ut,oJ,UZ,H4,J5,Nw,kC,()) (14,t1,255,0,[],())).bind fun u3=>
 cond (u3.1.1.2.1 !=0)
  (some (((((),ew,(),(),(),oJ,(),(),(),(),kC,()),t7,()),()),(pP,Rv,GC,Ut,UZ,H4,J5,Nw,())))
 (R5 t1 (AX (t7+1)) AZ Bu BB b1 b2 b3 b4 b5 b6 b7 b8 u3.1.1.1.2.1 u3.1.1.1.2.2.2.2.2.1 u3.1.1.1.2.2.2.2.2.2.2.2.2.2.1 u3.2.1 u3.2.2.1 u3.2.2.2.1 u3.2.2.2.2.1 u3.2.2.2.2.2.1 u3.2.2.2.2.2.2.1 u3.2.2.2.2.2.2.2.1 u3.2.2.2.2.2.2.2.2.1)
def DV:Nat→Hr
 |0=>fun _ _ _ _ _ _ _ _ _ _ _ _ _ _ _ _ _ _ _ _ _ _ _ _=>none
 |n+1=>F6 (DV n)
def KH(R5:Hr)(p0:AAL)(p1:Int):Option Fp:=
 (Mg (p0.1,p0.2.1,p0.2.2.1,p0.2.2.2.1,p0.2.2.2.2.1,p0.2.2.2.2.2.1,p0.2.2.2.2.2.2.1,p0.2.2.2.2.2.2.2.1,p0.2.2.2.2.2.2.2.2.1,p0.2.2.2.2.2.2.2.2.2.1,p0.2.2.2.2.2.2.2.2.2.2.1,())).bind fun u1=>
 cond (!u1.1.1)
  (some (((((),0,(),(),(),0,(),(),(),(),false,()),0,()),()),([],[],[],[],[],[],[],[],())))
 ((HF (p0.1,p0.2.1,p0.2.2.1,p0.2.2.2.1,p0.2.2.2.2.1,p0.2.2.2.2.2.1,p0.2.2.2.2.2.2.1,p0.2.2.2.2.2.2.2.1,p0.2.2.2.2.2.2.2.2.1,p0.2.2.2.2.2.2.2.2.2.1,p0.2.2.2.2.2.2.2.2.2.2.1,())).bind fun u2=>
 R5 p1 0 0 0 false [] [] [] [] [] [] [] [] u2.1.1.2.1 u2.1.1.2.2.2.2.2.1 u2.1.1.2.2.2.2.2.2.2.2.2.2.1 u2.2.1 u2.2.2.1 u2.2.2.2.1 u2.2.2.2.2.1 u2.2.2.2.2.2.1 u2.2.2.2.2.2.2.1 u2.2.2.2.2.2.2.2.1 u2.2.2.2.2.2.2.2.2.1)
def G_(p0:AAL)(p1:Int):Option Fp:=KH (DV AL) p0 p1
abbrev Dy:Type:=AAI×ADC
abbrev H6:Type:=Int→Int→Int→Int→Int→Int→Bool→List Int→AAG→List Int→AAB→AAD→AAC→AAE→AAH→Int→Int→Nat→AAZ→List Int→Option Dy
def KC(R7:H6)(t1 t8 t44 t45 AZ Bu:Int)(BB:Bool)(b1:AAA)(b2:AAG)(b3:AAA)(b4:AAB)(b5:AAD)(b6:AAC)(b7:AAE)(b8:AAH)(pv ew:Int)(uF:Nat)(pP:AAZ)(Rv:AAA):Option Dy:=
 cond (decide (t45<t44))
  (if(0:Int)≤t45∧t45<(Rv.length:Int)then(
  let x8:Int:=(Rv.getD (t45.toNat) 0)
  cond ((decide (x8<(b2.length:Int))))
   ((FZ (b1,AZ,b2,b3,b4,Bu,b5,b6,b7,b8,BB,()) x8).bind fun lh=>
   cond (!lh.1.1)
    (if(0:Int)≤x8∧x8<(b2.length:Int)then(
    (OB ((b2.getD (x8.toNat) ([],[],0,())).1,(b2.getD (x8.toNat) ([],[],0,())).2.1,(b2.getD (x8.toNat) ([],[],0,())).2.2.1,()) t8).bind fun lF=>
    if pP.length+1≤Ej then(
    R7 t1 t8 t44 (AX (t45+1)) AZ Bu BB b1 b2 b3 b4 b5 b6 b7 b8 pv ew uF (pP++[(x8,lF.1.1.2.1,lF.1.1.1.1,lF.1.1.1.2.1,lF.1.1.1.2.2.1,lF.1.1.1.2.2.2.1,())]) Rv)else none)else none)
   (R7 t1 t8 t44 (AX (t45+1)) AZ Bu BB b1 b2 b3 b4 b5 b6 b7 b8 pv ew uF pP Rv))
  (R7 t1 t8 t44 (AX (t45+1)) AZ Bu BB b1 b2 b3 b4 b5 b6 b7 b8 pv ew uF pP Rv))else none)
 ((TE (b1,AZ,b2,b3,b4,Bu,b5,b6,b7,b8,BB,()) pv).bind fun mT=>
 (KI (b1,AZ,()) (b4,Bu,()) mT.1.1 (pv,ew,(b7.getD uF (0,0,[],())).2.2.1,()) pP).bind fun X6=>
 cond (X6.1.1.2.1 !=0)
  (some ((5,()),(((),AZ,(),(),(),Bu,(),(),(),(),BB,()),b1,b2,b3,b4,b5,b6,b7,b8,())))
 (if(0:Int)≤t1∧t1<(b7.length:Int)then(
 some ((0,()),(((),AZ,(),(),(),Bu,(),(),(),(),BB,()),b1,b2,b3,b4,b5,b6,(b7.set (t1.toNat) (X6.1.1.1.1,X6.1.1.1.2.1,X6.2.1,())),b8,())))else none))
def DT:Nat→H6
 |0=>fun _ _ _ _ _ _ _ _ _ _ _ _ _ _ _ _ _ _ _ _=>none
 |n+1=>KC (DT n)
def KG(R7:H6)(p1 p2 AZ Bu:Int)(BB:Bool)(b1:AAA)(b2:AAG)(b3:AAA)(b4:AAB)(b5:AAD)(b6:AAC)(b7:AAE)(b8:AAH):Option Dy:=
 (BF p1 0 (AX ((b7.length:Int)-1))).bind fun u2=>
 cond (!u2.1.1)
  (some ((2,()),(((),AZ,(),(),(),Bu,(),(),(),(),BB,()),b1,b2,b3,b4,b5,b6,b7,b8,())))
 (if(0:Int)≤p1∧p1<(b7.length:Int)then(
 (Iy ((b7.getD (p1.toNat) (0,0,[],())).1) ((b7.getD (p1.toNat) (0,0,[],())).2.1)).bind fun u5=>
 (Lv p2).bind fun u6=>
 R7 p1 u5.1.1.1 (u6.2.1.length:Int) 0 AZ Bu BB b1 b2 b3 b4 b5 b6 b7 b8 ((b7.getD (p1.toNat) (0,0,[],())).1) ((b7.getD (p1.toNat) (0,0,[],())).2.1) (p1.toNat) [] u6.2.1)else none)
def G7(p1 p2 AZ Bu:Int)(BB:Bool)(b1:AAA)(b2:AAG)(b3:AAA)(b4:AAB)(b5:AAD)(b6:AAC)(b7:AAE)(b8:AAH):Option Dy:=KG (DT AL) p1 p2 AZ Bu BB b1 b2 b3 b4 b5 b6 b7 b8
abbrev Xs:Type:=AAI×ADC
def Nq(p1:Int×Int×Int×Int×List UInt8×Unit)(AZ Bu:Int)(BB:Bool)(b1:AAA)(b2:AAG)(b3:AAA)(b4:AAB)(b5:AAD)(b6:AAC)(b7:AAE)(b8:AAH):Option Xs:=
 cond (p1.1==1)
  (none)
 (cond (p1.1==2)
  (none)
 (cond (p1.1==3)
  (none)
 (cond (p1.1==4)
  (none)
 (cond (p1.1==5)
  (none)
 (cond (p1.1==6)
  (none)
 (cond (p1.1==7)
  (none)
 (cond (p1.1==8)
  (none)
 (cond (p1.1==9)
  (none)
 (cond (p1.1==10)
  (none)
 (cond (p1.1==11)
  (none)
 (cond (p1.1==12)
  (none)
 (cond (p1.1==13)
  (none)
 (cond (p1.1==14)
  ((G7 p1.2.1 p1.2.2.1 AZ Bu BB b1 b2 b3 b4 b5 b6 b7 b8).bind fun u1=>
  some ((u1.1.1,()),(((),u1.2.1.2.1,(),(),(),u1.2.1.2.2.2.2.2.1,(),(),(),(),u1.2.1.2.2.2.2.2.2.2.2.2.2.1,()),u1.2.2.1,u1.2.2.2.1,u1.2.2.2.2.1,u1.2.2.2.2.2.1,u1.2.2.2.2.2.2.1,u1.2.2.2.2.2.2.2.1,u1.2.2.2.2.2.2.2.2.1,u1.2.2.2.2.2.2.2.2.2.1,())))
 (cond (p1.1==16)
  (none)
 ((BF p1.2.1 0 (AX ((b5.length:Int)-1))).bind fun u4=>
 cond (!u4.1.1)
  (some ((2,()),(((),AZ,(),(),(),Bu,(),(),(),(),BB,()),b1,b2,b3,b4,b5,b6,b7,b8,())))
 (none))))))))))))))))
abbrev Yw:Type:=ABk×ABE
def Kd(p0:AAL)(p1:Int×Int×Int×Int×List UInt8×Unit):Option Yw:=
 (Lc (p0.1,p0.2.1,p0.2.2.1,p0.2.2.2.1,p0.2.2.2.2.1,p0.2.2.2.2.2.1,p0.2.2.2.2.2.2.1,p0.2.2.2.2.2.2.2.1,p0.2.2.2.2.2.2.2.2.1,p0.2.2.2.2.2.2.2.2.2.1,p0.2.2.2.2.2.2.2.2.2.2.1,())).bind fun u1=>
 cond (!u1.1.1)
  (some (((((),0,(),(),(),0,(),(),(),(),false,()),1,()),()),([],[],[],[],[],[],[],[],())))
 ((TC (p1.1,p1.2.1,p1.2.2.1,p1.2.2.2.1,p1.2.2.2.2.1,())).bind fun u2=>
 cond (!u2.1.1)
  (some (((((),0,(),(),(),0,(),(),(),(),false,()),1,()),()),([],[],[],[],[],[],[],[],())))
 ((GV (p0.1,p0.2.1,p0.2.2.1,p0.2.2.2.1,p0.2.2.2.2.1,p0.2.2.2.2.2.1,p0.2.2.2.2.2.2.1,p0.2.2.2.2.2.2.2.1,p0.2.2.2.2.2.2.2.2.1,p0.2.2.2.2.2.2.2.2.2.1,p0.2.2.2.2.2.2.2.2.2.2.1,())).bind fun u3=>
 (Nq (p1.1,p1.2.1,p1.2.2.1,p1.2.2.2.1,p1.2.2.2.2.1,()) u3.1.1.2.1 u3.1.1.2.2.2.2.2.1 u3.1.1.2.2.2.2.2.2.2.2.2.2.1 u3.2.1 u3.2.2.1 u3.2.2.2.1 u3.2.2.2.2.1 u3.2.2.2.2.2.1 u3.2.2.2.2.2.2.1 u3.2.2.2.2.2.2.2.1 u3.2.2.2.2.2.2.2.2.1).bind fun u4=>
 cond (u4.1.1 !=0)
  ((GV (p0.1,p0.2.1,p0.2.2.1,p0.2.2.2.1,p0.2.2.2.2.1,p0.2.2.2.2.2.1,p0.2.2.2.2.2.2.1,p0.2.2.2.2.2.2.2.1,p0.2.2.2.2.2.2.2.2.1,p0.2.2.2.2.2.2.2.2.2.1,p0.2.2.2.2.2.2.2.2.2.2.1,())).bind fun u6=>
  some (((((),u6.1.1.2.1,(),(),(),u6.1.1.2.2.2.2.2.1,(),(),(),(),u6.1.1.2.2.2.2.2.2.2.2.2.2.1,()),u4.1.1,()),()),(u6.2.1,u6.2.2.1,u6.2.2.2.1,u6.2.2.2.2.1,u6.2.2.2.2.2.1,u6.2.2.2.2.2.2.1,u6.2.2.2.2.2.2.2.1,u6.2.2.2.2.2.2.2.2.1,())))
 (some (((((),u4.2.1.2.1,(),(),(),u4.2.1.2.2.2.2.2.1,(),(),(),(),u4.2.1.2.2.2.2.2.2.2.2.2.2.1,()),0,()),()),(u4.2.2.1,u4.2.2.2.1,u4.2.2.2.2.1,u4.2.2.2.2.2.1,u4.2.2.2.2.2.2.1,u4.2.2.2.2.2.2.2.1,u4.2.2.2.2.2.2.2.2.1,u4.2.2.2.2.2.2.2.2.2.1,())))))
abbrev Dr:Type:=ABk×ABE
abbrev Hp:Type:=Int→Int→Int→Int→Bool→List Int→AAG→List Int→AAB→AAD→AAC→AAE→AAH→Int→Int→Bool→List Int→AAG→List Int→AAB→AAD→AAC→AAE→AAH→Option Dr
def GA(R5:Hp)(t1 t7 AZ Bu:Int)(BB:Bool)(b1:AAA)(b2:AAG)(b3:AAA)(b4:AAB)(b5:AAD)(b6:AAC)(b7:AAE)(b8:AAH)(ew oJ:Int)(kC:Bool)(pP:AAA)(Rv:AAG)(GC:AAA)(Ut:AAB)(UZ:AAD)(H4:AAC)(J5:AAE)(Nw:AAH):Option Dr:=
 (Kd (pP,ew,Rv,GC,Ut,oJ,UZ,H4,J5,Nw,kC,()) (14,t1,255,0,[],())).bind fun u3=>
 cond (u3.1.1.2.1 !=0)
  (some (((((),ew,(),(),(),oJ,(),(),(),(),kC,()),t7,()),()),(pP,Rv,GC,Ut,UZ,H4,J5,Nw,())))
 (R5 t1 (AX (t7+1)) AZ Bu BB b1 b2 b3 b4 b5 b6 b7 b8 u3.1.1.1.2.1 u3.1.1.1.2.2.2.2.2.1 u3.1.1.1.2.2.2.2.2.2.2.2.2.2.1 u3.2.1 u3.2.2.1 u3.2.2.2.1 u3.2.2.2.2.1 u3.2.2.2.2.2.1 u3.2.2.2.2.2.2.1 u3.2.2.2.2.2.2.2.1 u3.2.2.2.2.2.2.2.2.1)
def DS:Nat→Hp
 |0=>fun _ _ _ _ _ _ _ _ _ _ _ _ _ _ _ _ _ _ _ _ _ _ _ _=>none
 |n+1=>GA (DS n)
def KF(R5:Hp)(p0:AAL)(p1:Int):Option Dr:=
 (Lc (p0.1,p0.2.1,p0.2.2.1,p0.2.2.2.1,p0.2.2.2.2.1,p0.2.2.2.2.2.1,p0.2.2.2.2.2.2.1,p0.2.2.2.2.2.2.2.1,p0.2.2.2.2.2.2.2.2.1,p0.2.2.2.2.2.2.2.2.2.1,p0.2.2.2.2.2.2.2.2.2.2.1,())).bind fun u1=>
 cond (!u1.1.1)
  (some (((((),0,(),(),(),0,(),(),(),(),false,()),0,()),()),([],[],[],[],[],[],[],[],())))
 ((GV (p0.1,p0.2.1,p0.2.2.1,p0.2.2.2.1,p0.2.2.2.2.1,p0.2.2.2.2.2.1,p0.2.2.2.2.2.2.1,p0.2.2.2.2.2.2.2.1,p0.2.2.2.2.2.2.2.2.1,p0.2.2.2.2.2.2.2.2.2.1,p0.2.2.2.2.2.2.2.2.2.2.1,())).bind fun u2=>
 R5 p1 0 0 0 false [] [] [] [] [] [] [] [] u2.1.1.2.1 u2.1.1.2.2.2.2.2.1 u2.1.1.2.2.2.2.2.2.2.2.2.2.1 u2.2.1 u2.2.2.1 u2.2.2.2.1 u2.2.2.2.2.1 u2.2.2.2.2.2.1 u2.2.2.2.2.2.2.1 u2.2.2.2.2.2.2.2.1 u2.2.2.2.2.2.2.2.2.1)
def Ez(p0:AAL)(p1:Int):Option Dr:=KF (DS AL) p0 p1
abbrev KS:Type:=AAI×Unit
abbrev Ni:Type:=List Int→Int→Int→Option KS
def QW(R2:Ni)(t0:AAA)(t1 t5:Int):Option KS:=
 cond ((decide (t5<(t0.length:Int))))
  (if(0:Int)≤t5∧t5<(t0.length:Int)then(
  cond ((t0.getD (t5.toNat) 0) !=t1)
   (some (((-1),()),()))
  (R2 t0 (AX (t1+1)) (AX (t5+1))))else none)
 (some ((t1,()),()))
def GZ:Nat→Ni
 |0=>fun _ _ _=>none
 |n+1=>QW (GZ n)
def QA(R2:Ni)(p0:AAA)(p1:Int):Option KS:=
 R2 p0 p1 0
def Dm(p0:AAA)(p1:Int):Option KS:=QA (GZ AL) p0 p1
abbrev Ya:Type:=AAI×Unit
def Pz(p0:List Int×Int×Unit)(p1:Int):Option Ya:=
 (Dm p0.1 p1).bind fun u1=>
 cond (decide (u1.1.1<0))
  (some (((-1),()),()))
 (some ((u1.1.1,()),()))
abbrev IB:Type:=AAI×Unit
abbrev K_:Type:=AAK→Int→Int→Option IB
def Hs(R2:K_)(t0:AAK)(t1 t5:Int):Option IB:=
 cond ((decide (t5<(t0.length:Int))))
  (if(0:Int)≤t5∧t5<(t0.length:Int)then(
  cond (((t0.getD (t5.toNat) (0,0,false,[],())).1) !=t1)
   (some (((-1),()),()))
  (if(0:Int)≤t5∧t5<(t0.length:Int)then(
  cond (((t0.getD (t5.toNat) (0,0,false,[],())).2.1) !=(AX (t1+1)))
   (some (((-1),()),()))
  (let x4:Int:=AX ((AX (t1+1))+1)
  if(0:Int)≤t5∧t5<(t0.length:Int)then(
  cond ((((t0.getD (t5.toNat) (0,0,false,[],())).2.2.1) !=((x4.tmod 3)==0)))
   (some (((-1),()),()))
  (if(0:Int)≤t5∧t5<(t0.length:Int)then(
  (Cm (AX (x4+1))).bind fun u8=>
  cond (!(((t0.getD (t5.toNat) (0,0,false,[],())).2.2.2.1)==u8.1.1))
   (some (((-1),()),()))
  (R2 t0 (AX ((AX (x4+1))+1)) (AX (t5+1))))else none))else none))else none))else none)
 (some ((t1,()),()))
def DW:Nat→K_
 |0=>fun _ _ _=>none
 |n+1=>Hs (DW n)
def NC(R2:K_)(p0:AAK)(p1:Int):Option IB:=
 R2 p0 p1 0
def FR(p0:AAK)(p1:Int):Option IB:=NC (DW AL) p0 p1
abbrev IJ:Type:=AAI×Unit
abbrev LC:Type:=AAG→Int→Int→Option IJ
def H5(R2:LC)(t0:AAG)(t1 t5:Int):Option IJ:=
 cond ((decide (t5<(t0.length:Int))))
  (if(0:Int)≤t5∧t5<(t0.length:Int)then(
  (FR ((t0.getD (t5.toNat) ([],[],0,())).1) t1).bind fun u2=>
  cond (decide (u2.1.1<0))
   (some (((-1),()),()))
  (if(0:Int)≤t5∧t5<(t0.length:Int)then(
  (FR ((t0.getD (t5.toNat) ([],[],0,())).2.1) u2.1.1).bind fun u3=>
  cond (decide (u3.1.1<0))
   (some (((-1),()),()))
  (if(0:Int)≤t5∧t5<(t0.length:Int)then(
  cond (((t0.getD (t5.toNat) ([],[],0,())).2.2.1) !=u3.1.1)
   (some (((-1),()),()))
  (R2 t0 (AX (u3.1.1+1)) (AX (t5+1))))else none))else none))else none)
 (some ((t1,()),()))
def DY:Nat→LC
 |0=>fun _ _ _=>none
 |n+1=>H5 (DY n)
def M9(R2:LC)(p0:AAG)(p1:Int):Option IJ:=
 R2 p0 p1 0
def KO(p0:AAG)(p1:Int):Option IJ:=M9 (DY AL) p0 p1
abbrev Kp:Type:=AAI×Unit
abbrev Nc:Type:=AAB→Int→Int→Option Kp
def Jr(R2:Nc)(t0:AAB)(t1 t5:Int):Option Kp:=
 cond ((decide (t5<(t0.length:Int))))
  (if(0:Int)≤t5∧t5<(t0.length:Int)then(
  (Dm ((t0.getD (t5.toNat) ([],false,0,())).1) t1).bind fun u2=>
  cond (decide (u2.1.1<0))
   (some (((-1),()),()))
  (if(0:Int)≤t5∧t5<(t0.length:Int)then(
  cond ((((t0.getD (t5.toNat) ([],false,0,())).2.1) !=((u2.1.1.tmod 3)==0)))
   (some (((-1),()),()))
  (if(0:Int)≤t5∧t5<(t0.length:Int)then(
  cond ((((t0.getD (t5.toNat) ([],false,0,())).2.2.1) !=(AX (u2.1.1+1))))
   (some (((-1),()),()))
  (R2 t0 (AX ((AX (u2.1.1+1))+1)) (AX (t5+1))))else none))else none))else none)
 (some ((t1,()),()))
def Eh:Nat→Nc
 |0=>fun _ _ _=>none
 |n+1=>Jr (Eh n)
def QU(R2:Nc)(p0:AAB)(p1:Int):Option Kp:=
 R2 p0 p1 0
def OK(p0:AAB)(p1:Int):Option Kp:=QU (Eh AL) p0 p1
abbrev Wx:Type:=AAI×Unit
def MY(p0:AAT)(p1:Int):Option Wx:=
 (OK p0.1 p1).bind fun u1=>
 cond (decide (u1.1.1<0))
  (some (((-1),()),()))
 (some ((u1.1.1,()),()))
abbrev JQ:Type:=AAI×Unit
abbrev Lk:Type:=AAM→Int→Int→Option JQ
def Ia(R2:Lk)(t0:AAM)(t1 t5:Int):Option JQ:=
 cond ((decide (t5<(t0.length:Int))))
  (if(0:Int)≤t5∧t5<(t0.length:Int)then(
  (Cm t1).bind fun u3=>
  cond (!(((t0.getD (t5.toNat) ([],[],false,())).1)==u3.1.1))
   (some (((-1),()),()))
  (if(0:Int)≤t5∧t5<(t0.length:Int)then(
  (Dm ((t0.getD (t5.toNat) ([],[],false,())).2.1) (AX (t1+1))).bind fun u4=>
  cond (decide (u4.1.1<0))
   (some (((-1),()),()))
  (if(0:Int)≤t5∧t5<(t0.length:Int)then(
  cond ((((t0.getD (t5.toNat) ([],[],false,())).2.2.1) !=((u4.1.1.tmod 3)==0)))
   (some (((-1),()),()))
  (R2 t0 (AX (u4.1.1+1)) (AX (t5+1))))else none))else none))else none)
 (some ((t1,()),()))
def EA:Nat→Lk
 |0=>fun _ _ _=>none
 |n+1=>Ia (EA n)
def PK(R2:Lk)(p0:AAM)(p1:Int):Option JQ:=
 R2 p0 p1 0
def MR(p0:AAM)(p1:Int):Option JQ:=PK (EA AL) p0 p1
abbrev G5:Type:=AAI×Unit
abbrev Jo:Type:=AAD→Int→Int→Option G5
def HG(R2:Jo)(t0:AAD)(t1 t5:Int):Option G5:=
 cond ((decide (t5<(t0.length:Int))))
  (if(0:Int)≤t5∧t5<(t0.length:Int)then(
  cond (((t0.getD (t5.toNat) (0,[],())).1) !=t1)
   (some (((-1),()),()))
  (if(0:Int)≤t5∧t5<(t0.length:Int)then(
  (MR ((t0.getD (t5.toNat) (0,[],())).2.1) (AX (t1+1))).bind fun u3=>
  cond (decide (u3.1.1<0))
   (some (((-1),()),()))
  (R2 t0 u3.1.1 (AX (t5+1))))else none))else none)
 (some ((t1,()),()))
def DG:Nat→Jo
 |0=>fun _ _ _=>none
 |n+1=>HG (DG n)
def Lf(R2:Jo)(p0:AAD)(p1:Int):Option G5:=
 R2 p0 p1 0
def Ja(p0:AAD)(p1:Int):Option G5:=Lf (DG AL) p0 p1
abbrev JZ:Type:=AAI×Unit
abbrev MO:Type:=List AAA→Int→Int→Option JZ
def Iv(R2:MO)(t0:List AAA)(t1 t5:Int):Option JZ:=
 cond ((decide (t5<(t0.length:Int))))
  (if(0:Int)≤t5∧t5<(t0.length:Int)then(
  (Dm (t0.getD (t5.toNat) []) t1).bind fun u2=>
  cond (decide (u2.1.1<0))
   (some (((-1),()),()))
  (R2 t0 u2.1.1 (AX (t5+1))))else none)
 (some ((t1,()),()))
def EC:Nat→MO
 |0=>fun _ _ _=>none
 |n+1=>Iv (EC n)
def PL(R2:MO)(p0:List AAA)(p1:Int):Option JZ:=
 R2 p0 p1 0
def Mw(p0:List AAA)(p1:Int):Option JZ:=PL (EC AL) p0 p1
abbrev Jf:Type:=AAI×Unit
abbrev ME:Type:=AAC→Int→Int→Option Jf
def I7(R2:ME)(t0:AAC)(t1 t5:Int):Option Jf:=
 cond ((decide (t5<(t0.length:Int))))
  (if(0:Int)≤t5∧t5<(t0.length:Int)then(
  cond (((t0.getD (t5.toNat) (0,0,[],[],false,[],())).1) !=t1)
   (some (((-1),()),()))
  (if(0:Int)≤t5∧t5<(t0.length:Int)then(
  cond (((t0.getD (t5.toNat) (0,0,[],[],false,[],())).2.1) !=(AX (t1+1)))
   (some (((-1),()),()))
  (if(0:Int)≤t5∧t5<(t0.length:Int)then(
  (Dm ((t0.getD (t5.toNat) (0,0,[],[],false,[],())).2.2.1) (AX ((AX (t1+1))+1))).bind fun u5=>
  cond (decide (u5.1.1<0))
   (some (((-1),()),()))
  (if(0:Int)≤t5∧t5<(t0.length:Int)then(
  (FR ((t0.getD (t5.toNat) (0,0,[],[],false,[],())).2.2.2.1) u5.1.1).bind fun u6=>
  cond (decide (u6.1.1<0))
   (some (((-1),()),()))
  (if(0:Int)≤t5∧t5<(t0.length:Int)then(
  cond ((((t0.getD (t5.toNat) (0,0,[],[],false,[],())).2.2.2.2.1) !=((u6.1.1.tmod 3)==0)))
   (some (((-1),()),()))
  (if(0:Int)≤t5∧t5<(t0.length:Int)then(
  (Mw ((t0.getD (t5.toNat) (0,0,[],[],false,[],())).2.2.2.2.2.1) (AX (u6.1.1+1))).bind fun u9=>
  cond (decide (u9.1.1<0))
   (some (((-1),()),()))
  (R2 t0 u9.1.1 (AX (t5+1))))else none))else none))else none))else none))else none))else none)
 (some ((t1,()),()))
def EF:Nat→ME
 |0=>fun _ _ _=>none
 |n+1=>I7 (EF n)
def PF(R2:ME)(p0:AAC)(p1:Int):Option Jf:=
 R2 p0 p1 0
def Mm(p0:AAC)(p1:Int):Option Jf:=PF (EF AL) p0 p1
abbrev IG:Type:=AAI×Unit
abbrev LB:Type:=AAN→Int→Int→Option IG
def Ht(R2:LB)(t0:AAN)(t1 t5:Int):Option IG:=
 cond ((decide (t5<(t0.length:Int))))
  (if(0:Int)≤t5∧t5<(t0.length:Int)then(
  cond (((t0.getD (t5.toNat) (0,0,[],())).1) !=t1)
   (some (((-1),()),()))
  (if(0:Int)≤t5∧t5<(t0.length:Int)then(
  cond (((t0.getD (t5.toNat) (0,0,[],())).2.1) !=(AX (t1+1)))
   (some (((-1),()),()))
  (let x4:Int:=AX ((AX (t1+1))+1)
  if(0:Int)≤t5∧t5<(t0.length:Int)then(
  (Cm x4).bind fun u6=>
  cond (!(((t0.getD (t5.toNat) (0,0,[],())).2.2.1)==u6.1.1))
   (some (((-1),()),()))
  (R2 t0 (AX (x4+1)) (AX (t5+1))))else none))else none))else none)
 (some ((t1,()),()))
def Dg:Nat→LB
 |0=>fun _ _ _=>none
 |n+1=>Ht (Dg n)
def ND(R2:LB)(p0:AAN)(p1:Int):Option IG:=
 R2 p0 p1 0
def Kc(p0:AAN)(p1:Int):Option IG:=ND (Dg AL) p0 p1
abbrev G3:Type:=AAI×Unit
abbrev Jz:Type:=AAE→Int→Int→Option G3
def G6(R2:Jz)(t0:AAE)(t1 t5:Int):Option G3:=
 cond ((decide (t5<(t0.length:Int))))
  (if(0:Int)≤t5∧t5<(t0.length:Int)then(
  cond (((t0.getD (t5.toNat) (0,0,[],())).1) !=t1)
   (some (((-1),()),()))
  (if(0:Int)≤t5∧t5<(t0.length:Int)then(
  cond (((t0.getD (t5.toNat) (0,0,[],())).2.1) !=(AX (t1+1)))
   (some (((-1),()),()))
  (if(0:Int)≤t5∧t5<(t0.length:Int)then(
  (Kc ((t0.getD (t5.toNat) (0,0,[],())).2.2.1) (AX ((AX (t1+1))+1))).bind fun u5=>
  cond (decide (u5.1.1<0))
   (some (((-1),()),()))
  (R2 t0 u5.1.1 (AX (t5+1))))else none))else none))else none)
 (some ((t1,()),()))
def DI:Nat→Jz
 |0=>fun _ _ _=>none
 |n+1=>G6 (DI n)
def Lo(R2:Jz)(p0:AAE)(p1:Int):Option G3:=
 R2 p0 p1 0
def Ji(p0:AAE)(p1:Int):Option G3:=Lo (DI AL) p0 p1
abbrev JC:Type:=AAI×Unit
abbrev MS:Type:=AAH→Int→Int→Option JC
def Ih(R2:MS)(t0:AAH)(t1 t5:Int):Option JC:=
 cond ((decide (t5<(t0.length:Int))))
  (if(0:Int)≤t5∧t5<(t0.length:Int)then(
  cond (((t0.getD (t5.toNat) (0,[],false,())).1) !=t1)
   (some (((-1),()),()))
  (if(0:Int)≤t5∧t5<(t0.length:Int)then(
  (Cm (AX (t1+1))).bind fun u4=>
  cond (!(((t0.getD (t5.toNat) (0,[],false,())).2.1)==u4.1.1))
   (some (((-1),()),()))
  (let x5:Int:=AX ((AX (t1+1))+1)
  if(0:Int)≤t5∧t5<(t0.length:Int)then(
  cond ((((t0.getD (t5.toNat) (0,[],false,())).2.2.1) !=((x5.tmod 3)==0)))
   (some (((-1),()),()))
  (R2 t0 (AX (x5+1)) (AX (t5+1))))else none))else none))else none)
 (some ((t1,()),()))
def EE:Nat→MS
 |0=>fun _ _ _=>none
 |n+1=>Ih (EE n)
def Om(R2:MS)(p0:AAH)(p1:Int):Option JC:=
 R2 p0 p1 0
def La(p0:AAH)(p1:Int):Option JC:=Om (EE AL) p0 p1
abbrev ZN:Type:=AAI×Unit
def I0(p0:AAL)(p1:Int):Option ZN:=
 (Pz (p0.1,p0.2.1,()) p1).bind fun u1=>
 cond (decide (u1.1.1<0))
  (some (((-1),()),()))
 ((KO p0.2.2.1 u1.1.1).bind fun u2=>
 cond (decide (u2.1.1<0))
  (some (((-1),()),()))
 ((Dm p0.2.2.2.1 u2.1.1).bind fun u3=>
 cond (decide (u3.1.1<0))
  (some (((-1),()),()))
 ((MY (p0.2.2.2.2.1,p0.2.2.2.2.2.1,()) u3.1.1).bind fun u4=>
 cond (decide (u4.1.1<0))
  (some (((-1),()),()))
 ((Ja p0.2.2.2.2.2.2.1 u4.1.1).bind fun u5=>
 cond (decide (u5.1.1<0))
  (some (((-1),()),()))
 ((Mm p0.2.2.2.2.2.2.2.1 u5.1.1).bind fun u6=>
 cond (decide (u6.1.1<0))
  (some (((-1),()),()))
 ((Ji p0.2.2.2.2.2.2.2.2.1 u6.1.1).bind fun u7=>
 cond (decide (u7.1.1<0))
  (some (((-1),()),()))
 ((La p0.2.2.2.2.2.2.2.2.2.1 u7.1.1).bind fun u8=>
 cond (decide (u8.1.1<0))
  (some (((-1),()),()))
 (some ((u8.1.1,()),())))))))))
abbrev UM:Type:=AAJ×Unit
def DE(p0:AAL)(p1:Int):Option UM:=
 (Qm (p0.1,p0.2.1,p0.2.2.1,p0.2.2.2.1,p0.2.2.2.2.1,p0.2.2.2.2.2.1,p0.2.2.2.2.2.2.1,p0.2.2.2.2.2.2.2.1,p0.2.2.2.2.2.2.2.2.1,p0.2.2.2.2.2.2.2.2.2.1,p0.2.2.2.2.2.2.2.2.2.2.1,()) 1048576).bind fun u1=>
 cond (decide (u1.1.1<0))
  (some ((true,()),()))
 ((HC (p0.1,p0.2.1,p0.2.2.1,p0.2.2.2.1,p0.2.2.2.2.1,p0.2.2.2.2.2.1,p0.2.2.2.2.2.2.1,p0.2.2.2.2.2.2.2.1,p0.2.2.2.2.2.2.2.2.1,p0.2.2.2.2.2.2.2.2.2.1,p0.2.2.2.2.2.2.2.2.2.2.1,())).bind fun u2=>
 (G_ (u2.2.1,u2.1.1.2.1,u2.2.2.1,u2.2.2.2.1,u2.2.2.2.2.1,u2.1.1.2.2.2.2.2.1,u2.2.2.2.2.2.1,u2.2.2.2.2.2.2.1,u2.2.2.2.2.2.2.2.1,u2.2.2.2.2.2.2.2.2.1,u2.1.1.2.2.2.2.2.2.2.2.2.2.1,()) p1).bind fun u3=>
 (HC (p0.1,p0.2.1,p0.2.2.1,p0.2.2.2.1,p0.2.2.2.2.1,p0.2.2.2.2.2.1,p0.2.2.2.2.2.2.1,p0.2.2.2.2.2.2.2.1,p0.2.2.2.2.2.2.2.2.1,p0.2.2.2.2.2.2.2.2.2.1,p0.2.2.2.2.2.2.2.2.2.2.1,())).bind fun u4=>
 (Ez (u4.2.1,u4.1.1.2.1,u4.2.2.1,u4.2.2.2.1,u4.2.2.2.2.1,u4.1.1.2.2.2.2.2.1,u4.2.2.2.2.2.1,u4.2.2.2.2.2.2.1,u4.2.2.2.2.2.2.2.1,u4.2.2.2.2.2.2.2.2.1,u4.1.1.2.2.2.2.2.2.2.2.2.2.1,()) p1).bind fun u5=>
 (G4 (u5.2.1,u5.1.1.1.2.1,u5.2.2.1,u5.2.2.2.1,u5.2.2.2.2.1,u5.1.1.1.2.2.2.2.2.1,u5.2.2.2.2.2.1,u5.2.2.2.2.2.2.1,u5.2.2.2.2.2.2.2.1,u5.2.2.2.2.2.2.2.2.1,u5.1.1.1.2.2.2.2.2.2.2.2.2.2.1,()) (u3.2.1,u3.1.1.1.2.1,u3.2.2.1,u3.2.2.2.1,u3.2.2.2.2.1,u3.1.1.1.2.2.2.2.2.1,u3.2.2.2.2.2.1,u3.2.2.2.2.2.2.1,u3.2.2.2.2.2.2.2.1,u3.2.2.2.2.2.2.2.2.1,u3.1.1.1.2.2.2.2.2.2.2.2.2.2.1,())).bind fun u6=>
 cond (!u6.1.1)
  (some ((false,()),()))
 (cond ((u5.1.1.2.1 !=u3.1.1.2.1))
  (some ((false,()),()))
 ((HC (p0.1,p0.2.1,p0.2.2.1,p0.2.2.2.1,p0.2.2.2.2.1,p0.2.2.2.2.2.1,p0.2.2.2.2.2.2.1,p0.2.2.2.2.2.2.2.1,p0.2.2.2.2.2.2.2.2.1,p0.2.2.2.2.2.2.2.2.2.1,p0.2.2.2.2.2.2.2.2.2.2.1,())).bind fun u8=>
 (G4 (u4.2.1,u4.1.1.2.1,u4.2.2.1,u4.2.2.2.1,u4.2.2.2.2.1,u4.1.1.2.2.2.2.2.1,u4.2.2.2.2.2.1,u4.2.2.2.2.2.2.1,u4.2.2.2.2.2.2.2.1,u4.2.2.2.2.2.2.2.2.1,u4.1.1.2.2.2.2.2.2.2.2.2.2.1,()) (u8.2.1,u8.1.1.2.1,u8.2.2.1,u8.2.2.2.1,u8.2.2.2.2.1,u8.1.1.2.2.2.2.2.1,u8.2.2.2.2.2.1,u8.2.2.2.2.2.2.1,u8.2.2.2.2.2.2.2.1,u8.2.2.2.2.2.2.2.2.1,u8.1.1.2.2.2.2.2.2.2.2.2.2.1,())).bind fun u9=>
 cond (!u9.1.1)
  (some ((false,()),()))
 ((I3 u4.1.1.2.1 u4.1.1.2.2.2.2.2.1 u4.1.1.2.2.2.2.2.2.2.2.2.2.1 1 u4.2.1 u4.2.2.1 u4.2.2.2.1 u4.2.2.2.2.1 u4.2.2.2.2.2.1 u4.2.2.2.2.2.2.1 u4.2.2.2.2.2.2.2.1 u4.2.2.2.2.2.2.2.2.1).bind fun lh=>
 cond (decide (lh.1.1<0))
  (some ((false,()),()))
 ((G4 (u5.2.1,u5.1.1.1.2.1,u5.2.2.1,u5.2.2.2.1,u5.2.2.2.2.1,u5.1.1.1.2.2.2.2.2.1,u5.2.2.2.2.2.1,u5.2.2.2.2.2.2.1,u5.2.2.2.2.2.2.2.1,u5.2.2.2.2.2.2.2.2.1,u5.1.1.1.2.2.2.2.2.2.2.2.2.2.1,()) (u3.2.1,u3.1.1.1.2.1,u3.2.2.1,u3.2.2.2.1,u3.2.2.2.2.1,u3.1.1.1.2.2.2.2.2.1,u3.2.2.2.2.2.1,u3.2.2.2.2.2.2.1,u3.2.2.2.2.2.2.2.1,u3.2.2.2.2.2.2.2.2.1,u3.1.1.1.2.2.2.2.2.2.2.2.2.2.1,())).bind fun kU=>
 cond (!kU.1.1)
  (some ((false,()),()))
 (cond ((u5.1.1.2.1 !=u3.1.1.2.1))
  (some ((false,()),()))
 ((I3 u5.1.1.1.2.1 u5.1.1.1.2.2.2.2.2.1 u5.1.1.1.2.2.2.2.2.2.2.2.2.2.1 1 u5.2.1 u5.2.2.1 u5.2.2.2.1 u5.2.2.2.2.1 u5.2.2.2.2.2.1 u5.2.2.2.2.2.2.1 u5.2.2.2.2.2.2.2.1 u5.2.2.2.2.2.2.2.2.1).bind fun X6=>
 let x15:AAH:=X6.2.2.2.2.2.2.2.2.1
 (I0 (X6.2.1,u5.1.1.1.2.1,X6.2.2.1,X6.2.2.2.1,X6.2.2.2.2.1,u5.1.1.1.2.2.2.2.2.1,X6.2.2.2.2.2.1,X6.2.2.2.2.2.2.1,X6.2.2.2.2.2.2.2.1,x15,u5.1.1.1.2.2.2.2.2.2.2.2.2.2.1,()) 1).bind fun u16=>
 cond (decide (u16.1.1<0))
  (some ((false,()),()))
 (cond (u16.1.1 !=X6.1.1)
  (some ((false,()),()))
 ((HC (p0.1,p0.2.1,p0.2.2.1,p0.2.2.2.1,p0.2.2.2.2.1,p0.2.2.2.2.2.1,p0.2.2.2.2.2.2.1,p0.2.2.2.2.2.2.2.1,p0.2.2.2.2.2.2.2.2.1,p0.2.2.2.2.2.2.2.2.2.1,p0.2.2.2.2.2.2.2.2.2.2.1,())).bind fun lu=>
 (Ez (lu.2.1,lu.1.1.2.1,lu.2.2.1,lu.2.2.2.1,lu.2.2.2.2.1,lu.1.1.2.2.2.2.2.1,lu.2.2.2.2.2.1,lu.2.2.2.2.2.2.1,lu.2.2.2.2.2.2.2.1,lu.2.2.2.2.2.2.2.2.1,lu.1.1.2.2.2.2.2.2.2.2.2.2.1,()) p1).bind fun iv=>
 (G4 (iv.2.1,iv.1.1.1.2.1,iv.2.2.1,iv.2.2.2.1,iv.2.2.2.2.1,iv.1.1.1.2.2.2.2.2.1,iv.2.2.2.2.2.1,iv.2.2.2.2.2.2.1,iv.2.2.2.2.2.2.2.1,iv.2.2.2.2.2.2.2.2.1,iv.1.1.1.2.2.2.2.2.2.2.2.2.2.1,()) (u3.2.1,u3.1.1.1.2.1,u3.2.2.1,u3.2.2.2.1,u3.2.2.2.2.1,u3.1.1.1.2.2.2.2.2.1,u3.2.2.2.2.2.1,u3.2.2.2.2.2.2.1,u3.2.2.2.2.2.2.2.1,u3.2.2.2.2.2.2.2.2.1,u3.1.1.1.2.2.2.2.2.2.2.2.2.2.1,())).bind fun wU=>
 cond (!wU.1.1)
  (some ((false,()),()))
 (cond ((iv.1.1.2.1 !=u3.1.1.2.1))
  (some ((false,()),()))
 ((I0 (X6.2.1,u5.1.1.1.2.1,X6.2.2.1,X6.2.2.2.1,X6.2.2.2.2.1,u5.1.1.1.2.2.2.2.2.1,X6.2.2.2.2.2.1,X6.2.2.2.2.2.2.1,X6.2.2.2.2.2.2.2.1,x15,u5.1.1.1.2.2.2.2.2.2.2.2.2.2.1,()) 1).bind fun qD=>
 cond (decide (qD.1.1<0))
  (some ((false,()),()))
 (cond (qD.1.1 !=X6.1.1)
  (some ((false,()),()))
 (some ((true,()),()))))))))))))))
end
end Go.M
