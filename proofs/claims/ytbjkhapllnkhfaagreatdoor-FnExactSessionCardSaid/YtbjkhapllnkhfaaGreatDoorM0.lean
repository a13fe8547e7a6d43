/- Plain facts on what the functions compute. -/
import Derived.Test.YtbjkhapllnkhfaaGreatDoorG1
set_option linter.unusedVariables false
set_option linter.unusedSimpArgs false
set_option linter.unusedSectionVars false
section
namespace Go.M
theorem N_{A0 A1 A2:Type}(w:A0×A1×A2×Unit):(w.1,w.2.1,w.2.2.1,())=w:=rfl
theorem eg{A0 A1 A2 A3:Type}(w:A0×A1×A2×A3×Unit):(w.1,w.2.1,w.2.2.1,w.2.2.2.1,())=w:=rfl
theorem td{A0 A1 A2 A3 A4:Type}(w:A0×A1×A2×A3×A4×Unit):(w.1,w.2.1,w.2.2.1,w.2.2.2.1,w.2.2.2.2.1,())=w:=rfl
theorem Vm{A0 A1 A2 A3 A4 A5:Type}(w:A0×A1×A2×A3×A4×A5×Unit):(w.1,w.2.1,w.2.2.1,w.2.2.2.1,w.2.2.2.2.1,w.2.2.2.2.2.1,())=w:=rfl
theorem GS{A0 A1 A2 A3 A4 A5 A6 A7 A8 A9 A10:Type}(w:A0×A1×A2×A3×A4×A5×A6×A7×A8×A9×A10×Unit):(w.1,w.2.1,w.2.2.1,w.2.2.2.1,w.2.2.2.2.1,w.2.2.2.2.2.1,w.2.2.2.2.2.2.1,w.2.2.2.2.2.2.2.1,w.2.2.2.2.2.2.2.2.1,w.2.2.2.2.2.2.2.2.2.1,w.2.2.2.2.2.2.2.2.2.2.1,())=w:=rfl
end Go.M
namespace Go.M
theorem AB{α:Type}(p:Prop)[Decidable p](a b:α):cond (decide p) a b=if p then a else b:=by
 simp_all
theorem zi{α:Type}(c:Bool)(a b:α):cond c a b=if c=true then a else b:=by
 simp_all
theorem AH{x:Int}(h1: -9223372036854775808<=x)(h2:x<9223372036854775808):AW x=x:=by
 grind[AW,IntKind.wrap,IntKind.bits,IntKind.signed]
theorem AQF{x:Int}(h1:0<=x)(h2:x<256):w8 x=x:=by
 grind[w8,IntKind.wrap,IntKind.bits,IntKind.signed]
theorem AIJ{n:Nat}(h:n<9223372036854775808):AW (n:Int)=n:=AH (by omega) (by omega)
theorem ADK(n:Nat):(BitVec.ofInt 64 (n:Int)).toNat=n%2^64:=by
 rfl
theorem AAo{n:Nat}(h:n<2^63):IntKind.wrap .i64 (n:Int)=n:=AIJ (by omega)
theorem AGy{a b:Nat}(ha:a<2^63)(hb:b<2^63):tO .i64 a b=((a &&& b:Nat):Int):=by
 grind[tO,BitVec.ofInt,IntKind.bits,BitVec.toNat_and,ADK,Nat.mod_eq_of_lt,AAo,Nat.lt_of_le_of_lt,Nat.and_le_left]
theorem Ab{n:Nat}(h:n<2^64):n<AX:=AOX h Uw
theorem Af{α:Type}{l:List α}{i:Nat}{d:α}(h:i<l.length):l.getD ((i:Int).toNat) d=l[i]:=by
 simp_all
theorem drop_cons{α:Type}{l:List α}{i:Nat}(h:i<l.length):l.drop i=l[i]::l.drop (i+1):=(List.getElem_cons_drop h).symm
theorem AFy{α β:Type}{l:List α}(f:α->β){i:Nat}(h:i<l.length)(z:β){y:β}(hy:y=f l[i]):
  ((l.map f).take i++List.replicate (l.length-i) z).set i y=(l.map f).take (i+1)++List.replicate (l.length-(i+1)) z:=by
 subst hy;have h1:l.length-i=(l.length-(i+1))+1:=by omega
 grind[List.set_append_right,List.length_take,List.length_map,min,List.take_succ_eq_append_getElem]
theorem Ap:Cm=68719476736:=rfl
end Go.M
end
section
set_option maxRecDepth 8000
namespace Go.M
theorem ADu{l:AAN}{k:Int}(h:l.length<=2^63-1)(h0:0<=k)(h1:k<=2^20):VX l k=some ((if k-l.length<0 then-1 else k-l.length,()),()):=by
 unfold VX;rw[AH (by omega) (by omega)];grind
theorem AAQ{l:AAN}(hl:l.length<=2^36):∀(n i:Nat),i<=l.length->l.length-i<n->
  OU n l i ((l.map id).take i++List.replicate (l.length-i) 0)=some (((),()),(l,()))
 |0,i,_,h=>by omega
 |n+1,i,hi,h=>by
  simp only[OU,aD,AB];by_cases hc:i<l.length
  ·rw[AI9 (by omega),AI9 (by omega),AI9 (by simp_all),AH (by omega) (by omega)]
   rw[show(((i:Nat):Int)+1)=((i+1:Nat):Int)by omega];rw[Af hc,show(((i:Nat):Int)).toNat=i by omega,AFy id hc 0 (y:=l[i]) rfl];exact AAQ hl n (i+1) (by omega) (by omega)
  ·rw[AJD (by omega)]
   have:i=l.length:=by omega
   simp_all
theorem AC9{l:AAN}(hl:l.length<=2^36):aB l=some (((),()),(l,())):=by
 unfold aB aL;rw[AI9 (by rw[Ap];omega)];have:=AAQ hl AX 0 (by omega) (Ab (by omega));simp_all
theorem AAA{l m:AAN}(hl:l.length<=2^40)(hm:l.length=m.length):∀(n i:Nat),i<=l.length->l.length-i<n->
  Ol n l m i=some ((decide (l.drop i=m.drop i),()),())
 |0,i,_,h=>by omega
 |n+1,i,hi,h=>by
  simp only[Ol,Zr,AB];by_cases hc:i<l.length
  ·rw[AI9 (by omega),AI9 (by omega),AI9 (by omega),AH (by omega) (by omega),Af hc,Af (by omega),zi]
   rw[drop_cons hc,drop_cons (l:=m) (by omega)];by_cases he:l[i]=m[i]
   ·rw[AJD (by simp_all),show(((i:Nat):Int)+1)=((i+1:Nat):Int)by omega,AAA hl hm n (i+1) (by omega) (by omega)]
    simp only[AL9,he,true_and]
   ·rw[AI9 (by simp_all)]
    simp only[AL9,he,false_and,decide_false]
  grind
theorem AD4{l m:AAN}(hl:l.length<=2^40)(hm:m.length<=2^40):aC l m=some ((decide (l=m),()),()):=by
 unfold aC Z6;rw[zi];by_cases h:l.length=m.length
 ·rw[AJD (by simp_all)]
  grind[AAA,AX,Ab]
 ·rw[AI9 (by grind)]
  have:l≠m:=fun e=>h (by rw[e])
  simp[this]
def BD(x a b:Int):Bool:=decide (a<=x/\x<=b)
theorem BW(x a b:Int):B9 x a b=some ((BD x a b,()),()):=by
 unfold B9 BD;grind
theorem Au(x a b:Int):Ay x a b=some ((BD x a b,()),()):=BW x a b
def Ee(x:AAb):Bool:=BD (x.1.length:Int) 1 8&&(BD x.2.1 1 4&&x.1.all fun d=>BD d 0 7)
theorem dx{l:AAN}{c:Int}(hl:l.length<=2^40):∀(n i:Nat),i<=l.length->l.length-i<n->Lf n i l c=some (((l.drop i).all fun d=>BD d 0 7,()),())
 |0,i,_,h=>by omega
 |n+1,i,hi,h=>by
  simp only[Lf,XF,AB];by_cases hc:i<l.length
  ·rw[AI9 (by omega),AI9 (by omega),Af hc,BW,AH (by omega) (by omega),drop_cons hc]
   simp only[AKD,APD];cases hb:BD l[i] 0 7 with
   |false=>simp
   |true=>
    simp only[AJX,AJQ,AKB];rw[show(((i:Nat):Int)+1)=((i+1:Nat):Int)by omega,dx hl n (i+1) (by omega) (by omega)]
  grind
theorem Fz{x:AAb}(hl:x.1.length<=2^40):GO x=some ((Ee x,()),()):=by
 unfold GO W3 Ee;simp only[BW,AKD];cases BD (x.1.length:Int) 1 8 with
 |false=>simp
 |true=>
  cases BD x.2.1 1 4 with
  |false=>simp
  |true=>
   grind[dx,AX,Ab]
theorem de{l:AAN}{c:Int}(hl:l.length<=2^40):∀(n i:Nat),i<=l.length->l.length-i<n->
  Lb n l l.length i l c=some ((((l.drop i).all fun d=>BD d 0 7)&&(BD (l.length:Int) 1 8&&BD c 1 4),()),())
 |0,i,_,h=>by omega
 |n+1,i,hi,h=>by
  simp only[Lb,Wf,AB];by_cases hc:i<l.length
  ·rw[AI9 (by omega),AI9 (by omega),Af hc,Au,AH (by omega) (by omega),drop_cons hc]
   simp only[AKD,APD];cases hb:BD l[i] 0 7 with
   |false=>simp
   |true=>
    simp only[AJX,AJQ,AKB];rw[show(((i:Nat):Int)+1)=((i+1:Nat):Int)by omega,de hl n (i+1) (by omega) (by omega)]
  ·rw[AJD (by omega)]
   have:i=l.length:=by omega
   subst this;simp only[Au,AKD,APP,List.all_nil,AKB];grind
theorem JO{x:AAb}(hl:x.1.length<=2^40):Es x=some ((Ee x,()),()):=by
 unfold Es Wi Ee;have:=de (l:=x.1) (c:=x.2.1) hl AX 0 (by omega) (Ab (by omega));grind
theorem HJ{x:AAb}(h:Ee x=true):1<=x.1.length/\x.1.length<=8/\1<=x.2.1/\x.2.1<=4/\ ∀d∈x.1,0<=d/\d<=7:=by
 simp only[Ee,BD,AJR,AJr,APO]at h;grind
abbrev rk:Go.Fw.Ty:= .cons (.sl (.int .i64)) (.cons (.int .i64) .unit)
def Bytes(b:AAN):Prop:= ∀c∈b,0<=c/\c<256
abbrev Ev:Type:=Int×Int×List UInt8×Unit
abbrev Rdr:Type:=Int×Int×List Ev×Unit
def SK(x:Rdr):Bool:=BD x.1 1 31&&(BD x.2.1 1 61&&decide ((x.2.2.1.length:Int)<=120))
theorem Ph(x:Rdr):M6 x=some ((SK x,()),()):=by
 grind[M6,SK,BW,BD]
theorem bp(x:Rdr):VL x=some ((SK x,()),()):=Ph x
end Go.M
end
section
namespace Go.M.H
open Go.M
def Ae{α:Type}(f:α->Nat):List α->Nat
 |[]=>0
 |x::l=>1+f x+Ae f l
theorem AU{α:Type}{f:α->Nat}:∀{l:List α},l.length<=Ae f l
 |[]=>ALj _
 |x::l=>by
  have:=AU (f:=f) (l:=l);grind[Ae,List.length_cons]
theorem AY{α:Type}{f:α->Nat}{x:α}:∀{l:List α},x∈l->f x<=Ae f l
 |y::l,h=>by
  simp only[Ae];rcases ALa.1 h with rfl|h
  ·omega
  ·have:=AY (f:=f) h
   omega
theorem AEM{l:AAN}{k:Int}(hv:Go.Fw.Vd (.sl (.int .i64)) l)(h0:0<=k)(h1:k<=2^20):∃r:Int,VX l k=some ((r,()),())/\(r<0\/(0<=r/\r+l.length<=k)):=by
 have:l.length<=2^63-1:=hv.1;grind[ADu]
abbrev AQp:Type:=List Int
abbrev C1(x:AQp):Nat:=x.length
abbrev AJ:Type:=Int×Int×Bool×List UInt8×Unit
def Am(x:AJ):Nat:=x.2.2.2.1.length
abbrev qO:Type:=List Int×Int×Unit
abbrev rk:Go.Fw.Ty:= .cons (.sl (.int .i64)) (.cons (.int .i64) (.unit))
def cv(x:qO):Nat:=x.1.length
theorem zy{x:qO}{k:Int}(hv:Go.Fw.Vd rk x)(h0:0<=k)(h1:k<=2^20):∃r:Int,VO x k=some ((r,()),())/\(r<0\/(0<=r/\r+cv x<=k)):=by
 unfold VO cv;obtain⟨k1,e1,s1⟩:=AEM (l:=x.1) hv.1 (k:=k) (by omega) (by omega);grind
theorem yk{x:qO}(hw:cv x<=2^30):M7 x=some ((((),x.2.1,()),()),(x.1,())):=by
 grind[cv,M7,AC9]
theorem zD{x:qO}(hw:cv x<=2^30):Uu x x=some ((true,()),()):=by
 grind[cv,Uu,AD4]
abbrev AL:Type:=List AJ×List AJ×Int×Unit
def Ai(x:AL):Nat:=Ae Am x.1+Ae Am x.2.1
abbrev C7:Type:=List Int×Bool×Int×Unit
def B_(x:C7):Nat:=x.1.length
abbrev AN:Type:=List C7×Int×Unit
abbrev BR:Type:=List UInt8×List Int×Bool×Unit
def BQ(x:BR):Nat:=x.1.length+x.2.1.length
abbrev AR:Type:=Int×List BR×Unit
def An(x:AR):Nat:=Ae BQ x.2.1
abbrev Az:Type:=Int×Int×List Int×List AJ×Bool×List AAN×Unit
def CH(x:Az):Nat:=x.2.2.1.length+Ae Am x.2.2.2.1+Ae C1 x.2.2.2.2.2.1
abbrev Av:Type:=Int×Int×List UInt8×Unit
def CB(x:Av):Nat:=x.2.2.1.length
abbrev Ac:Type:=Int×Int×List Av×Unit
def Ax(x:Ac):Nat:=Ae CB x.2.2.1
abbrev BG:Type:=Int×Bool×Int×Int×Bool×List UInt8×Unit
abbrev Aj:Type:=Int×List UInt8×Bool×Unit
def Dx(x:Aj):Nat:=x.2.1.length
abbrev AA:Type:=List Int×Int×List AL×List Int×List C7×Int×List AR×List Az×List Ac×List Aj×Bool×Unit
def Co(x:AA):Nat:=x.1.length+Ae Ai x.2.2.1+x.2.2.2.1.length+Ae B_ x.2.2.2.2.1+Ae An x.2.2.2.2.2.2.1+Ae CH x.2.2.2.2.2.2.2.1+Ae Ax x.2.2.2.2.2.2.2.2.1+Ae Dx x.2.2.2.2.2.2.2.2.2.1
abbrev Al:Type:=Int×Int×Int×Int×List UInt8×Unit
end Go.M.H
end
section
set_option maxRecDepth 8000
namespace Go.M
open Go.M.H (AA AJ AL AN AR AU AY Ac Ae Ai Aj Am An Av Ax Az BQ BR B_ C1 C7 CB CH Co Dx)
def CG(p:Nat->Bool)(i:Nat):Nat->Bool
 |0=>true
 |d+1=>p i&&CG p (i+1) d
theorem FT{L:Nat->Int->Option (AAg×Unit)}{len:Nat}{p:Nat->Bool}{fin:Bool}(h1:∀n (i:Nat),i<len->L (n+1) i=cond (p i) (L n ((i+1:Nat):Int)) (some ((false,()),())))(h2:∀n,L (n+1) (len:Int)=some ((fin,()),())):
  ∀d n i,i+d=len->d<n->L n i=some ((CG p i d&&fin,()),())
 |0,n,i,hd,h=>by
  obtain⟨m,rfl⟩:∃m,n=m+1:=⟨n-1,by omega⟩;have:i=len:=by omega
  subst this;rw[h2];rfl
 |d+1,n,i,hd,h=>by
  obtain⟨m,rfl⟩:∃m,n=m+1:=⟨n-1,by omega⟩;rw[h1 m i (by omega)];simp only[CG];cases p i with
  |false=>rfl
  |true=>rw[AJy,FT h1 h2 d m (i+1) (by omega) (by omega)];rfl
theorem Mg{p:Nat->Bool}:∀{d i:Nat},CG p i d=true-> ∀j,i<=j->j<i+d->p j=true
 |0,i,_,j,h1,h2=>by omega
 |d+1,i,h,j,h1,h2=>by
  simp only[CG,AJR]at h;by_cases hj:j=i
  ·simp_all
  ·exact Mg h.2 j (by omega) (by omega)
theorem av{p q:Nat->Bool}:∀{d i:Nat},(∀j,i<=j->j<i+d->p j=q j)->CG p i d=CG q i d
 |0,_,_=>rfl
 |d+1,i,h=>by
  simp only[CG];rw[h i (by omega) (by omega),av fun j h1 h2=>h j (by omega) (by omega)]
theorem qp{p:Nat->Bool}:∀{d i:Nat},(∀j,i<=j->j<i+d->p j=true)->CG p i d=true
 |0,_,_=>rfl
 |d+1,i,h=>by
  simp only[CG,AJR];exact⟨h i (by omega) (by omega),qp fun j h1 h2=>h j (by omega) (by omega)⟩
def SD(x:Int):Int:=x.tdiv 4294967296
def Aq(x:Int):Bool:=BD (SD x) 1 30&&BD (x.tmod 4294967296) 1 60
def AZ(x:Int):Int:=if Aq x then SD x else 0
theorem lX{x:Int}(h: -9223372036854775808<=x/\x<9223372036854775808):AW (x.tdiv 4294967296)=SD x:=by
 grind[SD,AH,Int.lt_or_le,Int.neg_tdiv,Int.tdiv_eq_ediv_of_nonneg]
theorem fY{x:Int}(h:Aq x=true):0<x/\x<2^40:=by
 simp only[Aq,BD,AJR,AJr]at h;grind[SD,Int.lt_or_le,Int.neg_tdiv,Int.tdiv_eq_ediv_of_nonneg,Int.tmod_eq_emod_of_nonneg]
def CN(x:Int):Prop:= -9223372036854775808<=x/\x<9223372036854775808
theorem Er{x:Int}(h:CN x):E9 x=some ((Aq x,()),()):=by
 unfold E9;rw[lX h,AB];split
 ·grind[BW,Aq,BD,SD]
 ·rename_i h0
  rcases AIn (Aq x)with hp|hp
  ·exact absurd (fY hp).1 (by omega)
  ·rw[hp]
theorem IL{x:Int}(h:CN x):C_ x=some ((Aq x,()),()):=by
 unfold C_ HY Yz;rw[lX h];grind[Au,Aq,BD,SD]
theorem D9{x:Int}(h:CN x):Cl x=some ((AZ x,()),()):=by
 unfold Cl AZ;rw[Er h,lX h];grind
theorem Dg{x:Int}(h:CN x):EM x=some ((AZ x,()),()):=by
 unfold EM AZ;rw[IL h,lX h];grind
theorem bE{x:Int}:(Aq x=true->1<=AZ x/\AZ x<=30)/\(Aq x=false->AZ x=0):=by
 constructor
 ·intro h
  rw[AZ,AI9 h];simp only[Aq,BD,AJR,AJr]at h;omega
 grind[AZ]
def xL(l:AAN)(hi:Int)(i:Nat):Bool:=BD (l.getD i 0) 0 hi&&(i==0||decide (l.getD (i-1) 0<l.getD i 0))
def uP(l:AAN)(hi:Int):Bool:=CG (xL l hi) 0 l.length
theorem tw{l:AAN}{hi:Int}(hl:l.length<=2^40):dB l 0 hi=some ((uP l hi,()),()):=by
 unfold dB cJ uP;rw[<-AO0 (CG _ _ _)];refine FT (L:=fun n i=>NH n l 0 hi i) (len:=l.length) (p:=xL l hi) (fin:=true) (fun n i D7=> ?_) (fun n=> ?_) l.length AX 0 (by omega) (Ab (by omega))
 ·simp only[NH,Ua,AB]
  rw[AI9 (by omega),AI9 (by omega),BW,AH (x:=(i:Int)+1) (by omega) (by omega)];simp only[AKD,AJT,xL];cases BD (l.getD i 0) 0 hi with
  |false=>rfl
  |true=>
   simp only[AJX,AJQ,AKB];by_cases h0:i=0
   ·simp_all
   ·rw[AI9 (by omega),AH (by omega) (by omega),AI9 (by omega),AI9 (by omega)]
    have h1:((i:Int)-1).toNat=i-1:=by omega
    have h2:(i==0)=false:=by simp_all
    rw[h1,h2,ANG];grind
 ·simp only[NH,Ua,AB]
  simp_all
theorem o8{l:AAN}{hi:Int}(hl:l.length<=2^40):Xi l hi=some ((uP l hi,()),()):=by
 unfold Xi YZ uP;rw[<-AO0 (CG _ _ _)];refine FT (L:=fun n i=>KF n l hi l l.length i) (len:=l.length) (p:=xL l hi) (fin:=true) (fun n i D7=> ?_) (fun n=> ?_) l.length AX 0 (by omega) (Ab (by omega))
 ·simp only[KF,RQ,AB]
  rw[AI9 (by omega),AI9 (by omega),Au,AH (x:=(i:Int)+1) (by omega) (by omega)];simp only[AKD,AJT,xL];cases BD (l.getD i 0) 0 hi with
  |false=>rfl
  |true=>
   simp only[AJX,AJQ,AKB];by_cases h0:i=0
   ·simp_all
   ·rw[AI9 (by omega),AH (by omega) (by omega),AI9 (by omega)]
    have h1:((i:Int)-1).toNat=i-1:=by omega
    have h2:(i==0)=false:=by simp_all
    rw[h1,h2,ANG];grind
 ·simp only[KF,RQ,AB]
  simp_all
theorem yR{l:AAN}{hi:Int}(h:uP l hi=true):∀x∈l,0<=x/\x<=hi:=fun x hx=>by
 obtain⟨i,D7,rfl⟩:=AOq hx;have:=Mg h i (by omega) (by omega);simp only[xL,BD,AJR,AJr]at this;simp_all
theorem ACb{l:AAN}{hi:Int}(h:uP l hi=true):∀i,i<l.length->(i:Int)<=l.getD i 0
 |0,hl=>by
  have:=Mg h 0 (by omega) (by omega);simp only[xL,BD,AJR,AJr]at this;omega
 |i+1,hl=>by
  have h1:=ACb h i (by omega);have:=Mg h (i+1) (by omega) (by omega);simp only[xL,AJR,AOy,AJr]at this;grind
theorem AF7{l:AAN}{hi:Int}(h:uP l hi=true)(h0:0<=hi+1):(l.length:Int)<=hi+1:=by
 by_cases hl:l.length=0
 ·omega
 ·have h1:=ACb h (l.length-1) (by omega)
  have h2:=yR h (l.getD (l.length-1) 0) (by
   grind)
  omega
def A_(c:AAb)(l:AAN):Bool:=Ee c&&uP l ((c.1.length:Int)-1)
theorem Gz{c:AAb}{l:AAN}(hc:c.1.length<=2^40)(hl:l.length<=2^40):Gi c l=some ((A_ c l,()),()):=by
 unfold Gi A_;rw[show(c.1,c.2.1,())=c from rfl,Fz hc,AH (by omega) (by omega)];simp only[AKD];cases Ee c with
 |false=>rfl
 |true=>
  rw[AJy,tw hl];rfl
theorem D_{c:AAb}{l:AAN}(hc:c.1.length<=2^40)(hl:l.length<=2^40):D2 c l=some ((A_ c l,()),()):=by
 unfold D2 A_;rw[show(c.1,c.2.1,())=c from rfl,JO hc,AH (by omega) (by omega)];simp only[AKD];cases Ee c with
 |false=>rfl
 |true=>
  rw[AJy,o8 hl];rfl
theorem lC{c:AAb}{l:AAN}(h:A_ c l=true):Ee c=true/\c.1.length<=8/\l.length<=8/\(∀x∈l,0<=x/\x<c.1.length)/\ ∀d∈c.1,0<=d/\d<=7:=by
 simp only[A_,AJR]at h;obtain⟨k1,k2,k3,k4,k5⟩:=HJ h.1;have h1:=AF7 h.2 (by omega);exact⟨h.1,k2,by omega,fun x hx=>by have:=yR h.2 x hx;omega,k5⟩
theorem ACd{l:AAN}{x:Int}(hl:l.length<=2^40):∀(n i:Nat),i<=l.length->l.length-i<n->(∀y∈l.take i,y≠x)->
  ∃r:Int,F8 n l x l.length i=some ((r,()),())/\decide (r>=0)=l.contains x
 |0,_,_,h,_=>by omega
 |n+1,i,hi,h,hx=>by
  simp only[F8,OD,AB];by_cases hc:i<l.length
  ·rw[AI9 (by omega),AI9 (by omega),Af hc,AH (by omega) (by omega)]
   by_cases he:x=l[i]
   ·simp_all
   ·obtain⟨r,e1,e2⟩:=ACd hl n (i+1) (by omega) (by omega) (fun y hy=>by
     rw[AOz hc]at hy;rcases ALk.1 hy with hy|hy
     ·exact hx y hy
     grind)
    grind
  ·rw[AJD (by omega)]
   grind
theorem Ir{l:AAN}{x:Int}(hl:l.length<=2^40):Bp l x=some ((l.contains x,()),()):=by
 unfold Bp PE OY;obtain⟨r,e1,e2⟩:=ACd (x:=x) hl AX 0 (by omega) (Ab (by omega)) (by simp);simp_all
def kP(c:AAN):List Int->List Int->List Int
 |[],acc=>acc
 |n::l,acc=>kP c l (if acc.contains (c.getD n.toNat 0)then acc else acc++[c.getD n.toNat 0])
def cu(c:AAN)(l:AAN):Nat:=(kP c l []).length
theorem a8{c:AAN}{q:Int}{l:AAN}(hl:l.length<=8)(hm:∀x∈l,0<=x/\x<c.length):∀(n i:Nat) (acc:AAN),i<=l.length->l.length-i<n->acc.length<=i->
  O1 n l l.length i c q acc=some ((((kP c (l.drop i) acc).length:Int),()),())
 |0,i,_,_,h,_=>by omega
 |n+1,i,acc,hi,h,ha=>by
  simp only[O1,aJ,AB];by_cases hc:i<l.length
  ·have hx:=hm _ (AJ7 hc)
   rw[AI9 (by omega),AI9 (by omega),Af hc,drop_cons hc]
   generalize l[i]=x at hx
   rw[AI9 (by omega),Ir (by omega),AH (by omega) (by omega),show((i:Int)+1)=((i+1:Nat):Int)by omega];simp only[AKD,kP];cases ARq:acc.contains (c.getD x.toNat 0)with
   |true=>
    simp only[AJX,AJQ,AOx];exact a8 hl hm n (i+1) acc (by omega) (by omega) (by omega)
   |false=>
    simp only[AOH,AJy,AJn,AMd];rw[AI9 (by omega),AI9 (by rw[Ap];omega)];exact a8 hl hm n (i+1) _ (by omega) (by omega) (by simp_all)
  ·rw[AJD (by omega)]
   grind[kP]
theorem r7{c:AAb}{l:AAN}(hc:c.1.length<=2^40)(hl:l.length<=2^40):aW c l=some ((if A_ c l then(cu c.1 l:Int)else-1,()),()):=by
 unfold aW aT;rw[show(c.1,c.2.1,())=c from rfl,D_ hc hl];simp only[AKD];cases h:A_ c l with
 |false=>rfl
 |true=>
  obtain⟨k1,k2,k3,k4,k5⟩:=lC h;grind[a8,AX,Ab,cu]
theorem ABc{s:List Bool}{k j:Nat}{b:Bool}(h:k<s.length):(s.set k b).getD j false=if k=j then b else s.getD j false:=by
 grind
theorem bB{c:AAN}{q:Int}{l:AAN}(hl:l.length<=8)(hd:∀d∈c,0<=d/\d<=7)(hm:∀x∈l,0<=x/\x<c.length):∀(n i:Nat) (acc:AAN) (s:List Bool),i<=l.length->l.length-i<n->acc.length<=i->s.length=8->
  (∀j:Nat,j<8->s.getD j false=acc.contains (j:Int))->
  Oc n l acc.length i c q s=some ((((kP c (l.drop i) acc).length:Int),()),())
 |0,i,_,_,_,h,_,_,_=>by omega
 |n+1,i,acc,s,hi,h,ha,hs,hj=>by
  simp only[Oc,ZW,AB];by_cases hc:i<l.length
  ·have hx:=hm _ (AJ7 hc)
   rw[AI9 (by omega),AI9 (by omega),Af hc,drop_cons hc]
   generalize l[i]=x at hx
   rw[AI9 (by omega)];have AVl:0<=c.getD x.toNat 0/\c.getD x.toNat 0<=7:=by
    simp_all
   simp only[kP]
   generalize c.getD x.toNat 0=d at AVl
   rw[AI9 (by omega),AH (x:=(i:Int)+1) (by omega) (by omega),show((i:Int)+1)=((i+1:Nat):Int)by omega];have hsd:s.getD d.toNat false=acc.contains d:=by
    grind
   rw[hsd];cases ARq:acc.contains d with
   |true=>
    simp only[AJX,AJQ,AOx];exact bB hl hd hm n (i+1) acc s (by omega) (by omega) (by omega) hs hj
   |false=>
    simp only[AOH,AJy,AJn,AMd];rw[AI9 (by omega),AH (by omega) (by omega)];have:=bB (q:=q) hl hd hm n (i+1) (acc++[d]) (s.set d.toNat true) (by omega) (by omega) (by simp_all) (by simp_all) (fun j hj8=>by
     rw[ABc (by omega),hj j hj8];grind)
    simp_all
  ·rw[AJD (by omega)]
   grind[kP]
theorem gB{c:AAb}{l:AAN}(h:A_ c l=true):V1 c l=some (((cu c.1 l:Int),()),()):=by
 obtain⟨k1,k2,k3,k4,k5⟩:=lC h;unfold V1 Zb;have:=bB (c:=c.1) (q:=c.2.1) k3 k5 k4 AX 0 [] (List.replicate 8 false) (by omega) (Ab (by omega)) (by simp) (by simp) (fun j hj=>by
  grind)
 grind[cu]
def holds(c:AAb)(l:AAN):Bool:=A_ c l&&decide ((cu c.1 l:Int)>=c.2.1)
theorem HU{c:AAb}{l:AAN}(hc:c.1.length<=2^40)(hl:l.length<=2^40):HI c l=some ((holds c l,()),()):=by
 unfold HI holds;rw[show(c.1,c.2.1,())=c from rfl,Gz hc hl];simp only[AKD];cases h:A_ c l with
 |false=>rfl
 |true=>
  rw[AJy,gB h];rfl
theorem GN{c:AAb}{l:AAN}(hc:c.1.length<=2^40)(hl:l.length<=2^40):Gq c l=some ((holds c l,()),()):=by
 unfold Gq holds;rw[show(c.1,c.2.1,())=c from rfl,D_ hc hl,r7 hc hl];simp only[AKD];cases h:A_ c l<;>rfl
theorem aV{c:AAb}{l:AAN}(h:holds c l=true):A_ c l=true:=by
 simp only[holds,AJR]at h;exact h.1
abbrev CK:Type:=List Int×Int×Unit
def IM:C7:=([],false,0,())
def rp(c:CK)(e:C7):Bool:=holds c e.1&&(BD e.2.2.1 0 60&&(e.2.1||e.2.2.1==0))
theorem ua{c:CK}{e:C7}(hc:c.1.length<=2^40)(hl:e.1.length<=2^40):dQ c e=some ((rp c e,()),()):=by
 unfold dQ rp;rw[show(c.1,c.2.1,())=c from rfl,GN hc hl];grind[Au,holds,BD]
def xg(c:CK)(l:List C7)(i:Nat):Bool:=
 rp c (l.getD i IM)&& !((l.getD i IM).2.1&&(decide (i+1=l.length)||(decide (0<i)&& !(l.getD (i-1) IM).2.1)))
def jv(r:AN):Bool:=r.2.1==0||(Aq r.2.1&&decide (AZ r.2.1<=r.1.length))
def OO(c:CK)(r:AN):Bool:=Ee c&&(decide (r.1.length<=30)&&(jv r&&CG (xg c r.1) 0 r.1.length))
theorem Bh{α:Type}{l:List α}{i:Nat}{d:α}(h:i<l.length):l.getD i d∈l:=by
 simp_all
theorem pP{c:CK}{l:List C7}{tr:Int}(hc:c.1.length<=2^40)(hl:Ae B_ l<=2^30):Kp AX l.length 0 c.1 c.2.1 l tr=some ((CG (xg c l) 0 l.length,()),()):=by
 have vd:=AU (f:=B_) (l:=l);rw[<-AO0 (CG _ _ _)];refine FT (L:=fun n i=>Kp n l.length i c.1 c.2.1 l tr) (len:=l.length) (p:=xg c l) (fin:=true) (fun n i hi=> ?_) (fun n=> ?_) l.length AX 0 (by omega) (Ab (by omega))
 ·have hm:=AY (f:=B_) (Bh (d:=IM) hi)
  simp only[B_]at hm;simp only[Kp,UQ,AB];rw[AI9 (by omega),AI9 (by omega),show(c.1,c.2.1,())=c from rfl,AJT,show(([],false,0,()):C7)=IM from rfl,HU hc (by omega),BW,AH (x:=(i:Int)+1) (by omega) (by omega),
   AH (x:=(l.length:Int)-1) (by omega) (by omega),AH (x:=(i:Int)-1) (by omega) (by omega),show((i:Int)+1)=((i+1:Nat):Int)by omega]
  simp only[AKD,xg,rp];have e1:((i:Int)==(l.length:Int)-1)=decide (i+1=l.length):=by
   grind
  have e2:(((i:Int)-1).toNat)=i-1:=by omega
  grind
 ·simp only[Kp,UQ,AB]
  simp_all
theorem QR{c:CK}{r:AN}(hc:c.1.length<=2^40)(hl:Ae B_ r.1<=2^30)(ht:CN r.2.1):Mh c r=some ((OO c r,()),()):=by
 unfold Mh cF OO jv;rw[show(c.1,c.2.1,())=c from rfl,Fz hc,pP hc hl,Er ht,D9 ht];grind
theorem NC{c:CK}{r:AN}(hc:c.1.length<=2^40)(hl:Ae B_ r.1<=2^30)(ht:CN r.2.1):Ks c r=some ((OO c r,()),()):=by
 have vd:=AU (f:=B_) (l:=r.1);have AGw:Kq AX r.1 r.1.length 0 c.1 c.2.1 r.1 r.2.1=some ((CG (xg c r.1) 0 r.1.length&&(Ee c&&(decide (r.1.length<=30)&&jv r)),()),()):=by
  refine FT (L:=fun n i=>Kq n r.1 r.1.length i c.1 c.2.1 r.1 r.2.1) (len:=r.1.length) (p:=xg c r.1) (fin:=Ee c&&(decide (r.1.length<=30)&&jv r)) (fun n i hi=> ?_) (fun n=> ?_) r.1.length AX 0 (by omega) (Ab (by omega))
  ·have hm:=AY (f:=B_) (Bh (d:=IM) hi)
   simp only[B_]at hm;simp only[Kq,Uc,AB];rw[AI9 (by omega),AI9 (by omega),show(c.1,c.2.1,())=c from rfl,AJT,show(([],false,0,()):C7)=IM from rfl];rw[show((r.1.getD i IM).1,(r.1.getD i IM).2.1,(r.1.getD i IM).2.2.1,())=r.1.getD i IM from rfl,ua hc (by omega),AH (x:=(i:Int)+1) (by omega) (by omega),
    AH (x:=(r.1.length:Int)-1) (by omega) (by omega),AH (x:=(i:Int)-1) (by omega) (by omega),show((i:Int)+1)=((i+1:Nat):Int)by omega]
   simp only[AKD,xg];have e1:((i:Int)==(r.1.length:Int)-1)=decide (i+1=r.1.length):=by
    grind
   have e2:(((i:Int)-1).toNat)=i-1:=by omega
   grind
  ·simp only[Kq,Uc]
   rw[show decide ((r.1.length:Int)<(r.1.length:Int))=false by simp,show(c.1,c.2.1,())=c from rfl,JO hc,Dg ht];simp only[AJQ,AKD,Au,jv];have e1:decide ((r.1.length:Int)<=30)=decide (r.1.length<=30):=by
    grind
   rw[e1];have e4:BD (AZ r.2.1) 1 (r.1.length:Int)=(Aq r.2.1&&decide (AZ r.2.1<=(r.1.length:Int))):=by
    have hr:=bE (x:=r.2.1);unfold BD;grind
   grind
 grind[Ks,cE,OO,Ee,decide,jv,CG,xg]
def AFK(b:Bool):Int:=if b then 1 else 0
theorem pv(b:Bool):cq b=some ((AFK b,()),()):=by cases b<;>rfl
def MB:BR:=([],[],false,())
def dF(c:CK)(e:BR):Bool:=decide (e.1.length<=40)&&(A_ c e.2.1&&(e.2.2.1==holds c e.2.1))
def RV:List BR->Nat
 |[]=>0
 |e::l=>cond e.2.2.1 0 1+RV l
def le6(n:Nat):Bool:=decide (n<=6)
theorem AC2(o:Nat):decide ((o:Int)<=6)=le6 o:=by
 grind[le6]
def FY(c:CK)(w:AR):Bool:=Ee c&&(BD w.1 1 30&&(decide (w.2.1.length<=60)&&(w.2.1.all (dF c)&&le6 (RV w.2.1))))
theorem dt{c:CK}{ep:Int}{l:List BR}(hc:c.1.length<=2^40)(hl:Ae BQ l<=2^30):∀(n i o:Nat),i<=l.length->l.length-i<n->o<=i->
  Ly n o i c.1 c.2.1 ep l=some (((l.drop i).all (dF c)&&le6 (o+RV (l.drop i)),()),())
 |0,i,_,_,h,_=>by omega
 |n+1,i,o,hi,h,ho=>by
  have vd:=AU (f:=BQ) (l:=l);simp only[Ly,W6,AB];by_cases fZ:i<l.length
  ·have hm:=AY (f:=BQ) (AJ7 fZ)
   rw[AI9 (by omega),AI9 (by omega),Af fZ,drop_cons fZ];have ih:=fun o=>dt (ep:=ep) hc hl n (i+1) o (by omega) (by omega)
   generalize l[i]=e at hm
   simp only[BQ]at hm;rw[show(c.1,c.2.1,())=c from rfl,Gz hc (by omega),HU hc (by omega),AH (x:=(i:Int)+1) (by omega) (by omega),AH (x:=(o:Int)+1) (by omega) (by omega),show((i:Int)+1)=((i+1:Nat):Int)by omega,show((o:Int)+1)=((o+1:Nat):Int)by omega];simp only[AKD,APD,dF,RV];by_cases h40:e.1.length<=40
   ·rw[AJD (by omega),ALg h40,ih o (by omega),ih (o+1) (by omega)]
    cases A_ c e.2.1 with
    |false=>rfl
    |true=>
     cases hd:e.2.2.1 with
     |true=>
      grind
     |false=>
      grind
   grind
  ·rw[AJD (by omega)]
   grind[RV,AC2]
theorem Li{c:CK}{w:AR}(hc:c.1.length<=2^40)(hl:Ae BQ w.2.1<=2^30):HR c w=some ((FY c w,()),()):=by
 have vd:=AU (f:=BQ) (l:=w.2.1);unfold HR W9 FY;have h:=dt (ep:=w.1) hc hl AX 0 0 (by omega) (Ab (by omega)) (by omega);rw[show((0:Nat):Int)=0 from rfl]at h;rw[show(c.1,c.2.1,())=c from rfl,Fz hc,BW,h];grind
theorem dy{c:CK}{ep:Int}{l:List BR}(hc:c.1.length<=2^40)(hl:Ae BQ l<=2^30):∀(n i o:Nat),i<=l.length->l.length-i<n->o<=i->
  LO n o l l.length i c.1 c.2.1 ep l=some (((l.drop i).all (dF c)&&(Ee c&&(BD ep 1 30&&(decide (l.length<=60)&&le6 (o+RV (l.drop i))))),()),())
 |0,i,_,_,h,_=>by omega
 |n+1,i,o,hi,h,ho=>by
  have vd:=AU (f:=BQ) (l:=l);simp only[LO,Wy];by_cases fZ:i<l.length
  ·have hm:=AY (f:=BQ) (AJ7 fZ)
   rw[show decide ((i:Int)<(l.length:Int))=true by simp_all,AJy,AI9 (by omega),Af fZ,drop_cons fZ];have ih:=fun o=>dy (ep:=ep) hc hl n (i+1) o (by omega) (by omega)
   generalize l[i]=e at hm
   simp only[BQ]at hm;rw[show(c.1,c.2.1,())=c from rfl,D_ hc (by omega),GN hc (by omega),pv,AH (x:=(i:Int)+1) (by omega) (by omega),show((i:Int)+1)=((i+1:Nat):Int)by omega];simp only[AKD,APD,dF,RV,F6];have e40:decide ((e.1.length:Int)<=40)=decide (e.1.length<=40):=by
    grind
   rw[e40];cases hd:e.2.2.1 with
   |true=>
    rw[show AW ((o:Int)+AFK (!true))=(o:Int)by rw[AJX,show AFK false=0 from rfl,Int.add_zero,AH (by omega) (by omega)],ih o (by omega)];grind
   |false=>
    rw[show AW ((o:Int)+AFK (!false))=((o+1:Nat):Int)by rw[AOH,show AFK true=1 from rfl,AH (by omega) (by omega)];omega,ih (o+1) (by omega)];grind
  ·have:i=l.length:=by omega
   subst this;rw[show decide (((l.length:Nat):Int)<(l.length:Int))=false by simp,show(c.1,c.2.1,())=c from rfl,JO hc];simp only[AJQ,AKD,HY,Au,APP,List.all_nil,RV,APL,AKB];grind[decide,AC2,Ee,BD]
theorem I6{c:CK}{w:AR}(hc:c.1.length<=2^40)(hl:Ae BQ w.2.1<=2^30):GP c w=some ((FY c w,()),()):=by
 have vd:=AU (f:=BQ) (l:=w.2.1);unfold GP Wp FY;have h:=dy (ep:=w.1) hc hl AX 0 0 (by omega) (Ab (by omega)) (by omega);grind
theorem uI{c:CK}{w:AR}(h:FY c w=true):Ee c=true/\(1<=w.1/\w.1<=30)/\w.2.1.length<=60/\ ∀e∈w.2.1,dF c e=true:=by
 simp only[FY,BD,AJR,AJr,APO]at h;simp_all
theorem ACg(a b:Int):decide (a<=b)= !decide (b<a):=by
 grind
theorem ARk(n k:Nat):decide ((n:Int)<=(k:Int))=decide (n<=k):=by
 simp_all
theorem ACc(n k:Nat):decide ((n:Int)>(k:Int))= !decide (n<=k):=by
 grind
def Bl(x:Int):Int:=cond (Aq x) (x.tmod 4294967296) 0
theorem Us{x:Int}(h:CN x):Gh x=some ((Bl x,()),()):=by
 grind[Gh,Bl,Er,Aq]
theorem QF{x:Int}(h:CN x):Q0 x=some ((Bl x,()),()):=by
 grind[Q0,Bl,IL,Aq]
abbrev Di:AJ:=(0,0,false,[],())
def Fg(e:AJ):Bool:=Aq e.1&&(BD e.2.1 0 30&&((!decide (e.2.1>0)||decide (AZ e.1<e.2.1))&&(decide (e.2.2.2.1.length<=40)&&(!e.2.2.1||(decide (e.2.1>0)&&e.2.2.2.1==[])))))
theorem Qd{e:AJ}(h:CN e.1):Md e=some ((Fg e,()),()):=by
 unfold Md Fg;grind[Er,BW,D9,ACg,AZ,decide,ACc,Aq,BD]
theorem AR9{x:Int}(h:BD x 0 30=true):(x==0)= !decide (x>0):=by
 simp only[BD,AJr]at h;grind
theorem Qh{e:AJ}(h:CN e.1):MD e=some ((Fg e,()),()):=by
 unfold MD Fg F6;rw[IL h,Au,Dg h];simp only[AKD];rw[show decide ((e.2.2.2.1.length:Int)<=40)=decide (e.2.2.2.1.length<=40)from ARk _ 40,show decide (e.2.1>AZ e.1)=decide (AZ e.1<e.2.1)from rfl];rcases AIn (BD e.2.1 0 30)with hi|hi
 all_goals grind[AR9,Aq,decide,AZ]
def Yf(l:List AJ):Bool:=CG (fun i=>Fg (l.getD i Di)) 0 l.length
def lg(l:List AJ):Bool:=CG (fun i=>i==0||decide ((l.getD (i-1) Di).1<(l.getD i Di).1)) 0 l.length
def uj(l:List AJ):Prop:= ∀e∈l,CN e.1
theorem uj.getD{l:List AJ}(h:uj l){i:Nat}(hi:i<l.length):CN (l.getD i Di).1:=h _ (Bh hi)
theorem fq{l:List AJ}{k:Nat}(hl:l.length<=2^40)(h:uj l):Vx l k=some ((decide (l.length<=k)&&Yf l,()),()):=by
 unfold Vx Zd;have:=FT (L:=fun n i=>Ls n l i) (len:=l.length) (p:=fun i=>Fg (l.getD i Di)) (fin:=true) (fun n i hi=>by
  simp only[Ls,S_,AB];rw[AI9 (by omega),AI9 (by omega),AH (by omega) (by omega),show((i:Int)+1)=((i+1:Nat):Int)by omega];simp only[AJT];rw[show((l.getD i (0,0,false,[],())).1,(l.getD i (0,0,false,[],())).2.1,(l.getD i (0,0,false,[],())).2.2.1,(l.getD i (0,0,false,[],())).2.2.2.1,())=l.getD i Di from rfl,Qd (h.getD hi)];simp_all) (fun n=>by
  simp only[Ls,S_,AB];simp_all) l.length AX 0 (by omega) (Ab (by omega))
 rw[show((0:Nat):Int)=0 from rfl]at this;rw[this,ACc,AO0];cases decide (l.length<=k)<;>rfl
theorem iE{l:List AJ}(hl:l.length<=2^40):Yq l=some ((lg l,()),()):=by
 unfold Yq bO lg;have h1:∀n (i:Nat),0<i->i<l.length->GJ (n+1) l i=cond (i==0||decide ((l.getD (i-1) Di).1<(l.getD i Di).1)) (GJ n l ((i+1:Nat):Int)) (some ((false,()),())):=fun n i h0 hi=>by
  simp only[GJ,PT,AB];rw[AI9 (by omega),AH (x:=(i:Int)-1) (by omega) (by omega),AI9 (by omega),AI9 (by omega),AH (by omega) (by omega),show((i:Int)+1)=((i+1:Nat):Int)by omega];have h1:((i:Int)-1).toNat=i-1:=by omega
  have h2:(i==0)=false:=by grind
  rw[h1,h2,AJT,ANG];grind
 cases hlen:l.length with
 |zero=>
  obtain⟨m,hm⟩:∃m,AX=m+1:=⟨AX-1,by have:=Uw;omega⟩;rw[hm];simp only[GJ,PT,AB];rw[AJD (by omega)];rfl
 |succ k=>
  have:=FT (L:=fun n i=>if(0:Int)<i then GJ n l i else cond (decide (0<n)) (GJ (n-1) l 1) none) (len:=l.length) (p:=fun i=>i==0||decide ((l.getD (i-1) Di).1<(l.getD i Di).1)) (fin:=true) (fun n i hi=>by
   simp_all) (fun n=>by
   rw[AI9 (by omega)];simp only[GJ,PT,AB];simp_all) l.length (AX+1) 0 (by omega) (by have:=Uw;omega)
  simp_all
theorem Zx{l:List AJ}(hl:l.length<=2^40)(h:uj l):PA l=some ((Yf l,()),()):=by
 unfold PA Vu;have:=FT (L:=fun n i=>H5 n l l.length i) (len:=l.length) (p:=fun i=>Fg (l.getD i Di)) (fin:=true) (fun n i hi=>by
  simp only[H5,O_,AB];rw[AI9 (by omega),AI9 (by omega),AH (by omega) (by omega),show((i:Int)+1)=((i+1:Nat):Int)by omega];simp only[AJT];rw[show((l.getD i (0,0,false,[],())).1,(l.getD i (0,0,false,[],())).2.1,(l.getD i (0,0,false,[],())).2.2.1,(l.getD i (0,0,false,[],())).2.2.2.1,())=l.getD i Di from rfl,Qh (h.getD hi)];simp_all) (fun n=>by
  simp only[H5,O_,AB];simp_all) l.length AX 0 (by omega) (Ab (by omega))
 rw[show((0:Nat):Int)=0 from rfl]at this;rw[this,AO0];rfl
theorem VW{l:List AJ}(hl:l.length<=2^40):Kb l=some ((lg l,()),()):=by
 unfold Kb Rf;have:=FT (L:=fun n i=>Fv n l l l.length i) (len:=l.length) (p:=fun i=>i==0||decide ((l.getD (i-1) Di).1<(l.getD i Di).1)) (fin:=true) (fun n i hi=>by
  simp only[Fv,LX,AB];rw[AI9 (by omega),AI9 (by omega),AH (x:=(i:Int)+1) (by omega) (by omega),show((i:Int)+1)=((i+1:Nat):Int)by omega];by_cases h0:i=0
  ·simp_all
  ·rw[AI9 (by omega),AH (by omega) (by omega),AI9 (by omega)]
   have h1:((i:Int)-1).toNat=i-1:=by omega
   have h2:(i==0)=false:=by simp_all
   rw[h1,h2,AJT,ANG];grind) (fun n=>by
  simp only[Fv,LX,AB];simp_all) l.length AX 0 (by omega) (Ab (by omega))
 rw[show((0:Nat):Int)=0 from rfl]at this;rw[this,AO0];rfl
def CA(s:AL):Bool:=(decide (s.1.length<=200)&&Yf s.1)&&((decide (s.2.1.length<=20)&&Yf s.2.1)&&(lg s.1&&BD s.2.2.1 0 30))
def tZ(s:AL):Prop:=uj s.1/\uj s.2.1
theorem Ff{s:AL}(hl:Ai s<=2^30)(h:tZ s):Gg s=some ((CA s,()),()):=by
 have l1:=AU (f:=Am) (l:=s.1);have l2:=AU (f:=Am) (l:=s.2.1);unfold Ai at hl;have e1:=fq (l:=s.1) (k:=200) (by omega) h.1;have e2:=fq (l:=s.2.1) (k:=20) (by omega) h.2;rw[show((200:Nat):Int)=200 from rfl]at e1;rw[show((20:Nat):Int)=20 from rfl]at e2;grind[Gg,CA,iE,BW,decide,Yf,lg]
theorem Eo{s:AL}(hl:Ai s<=2^30)(h:tZ s):Ey s=some ((CA s,()),()):=by
 have l1:=AU (f:=Am) (l:=s.1);have l2:=AU (f:=Am) (l:=s.2.1);unfold Ai at hl;unfold Ey CA;rw[Zx (by omega) h.1,Zx (by omega) h.2,VW (by omega),Au,show decide ((s.1.length:Int)>200)= !decide (s.1.length<=200)from ACc _ 200,show decide ((s.2.1.length:Int)>20)= !decide (s.2.1.length<=20)from ACc _ 20];grind
theorem nh{L:Nat->Int->Option (AAg×Unit)}{len N:Nat}{p:Nat->Bool}{fin:Bool}(h1:∀n (i:Nat),i<len->L (n+1) i=cond (p i) (L n ((i+1:Nat):Int)) (some ((false,()),())))(h2:∀n,N<=n->L (n+1) (len:Int)=some ((fin,()),())):
  ∀d n i,i+d=len->d+N<n->L n i=some ((CG p i d&&fin,()),())
 |0,n,i,hd,h=>by
  obtain⟨m,rfl⟩:∃m,n=m+1:=⟨n-1,by omega⟩;have:i=len:=by omega
  subst this;rw[h2 m (by omega)];rfl
 |d+1,n,i,hd,h=>by
  obtain⟨m,rfl⟩:∃m,n=m+1:=⟨n-1,by omega⟩;rw[h1 m i (by omega)];simp only[CG];cases p i with
  |false=>rfl
  |true=>rw[AJy,nh h1 h2 d m (i+1) (by omega) (by omega)];rfl
def Od(l:List AJ):Int:=cond (l.length==0) 0 (Bl (l.getD (l.length-1) Di).1)
theorem fl{m:Az}(hl:m.2.2.2.1.length<=2^40)(h:uj m.2.2.2.1):Rt m=some ((Od m.2.2.2.1,()),()):=by
 unfold Rt Od;by_cases h0:m.2.2.2.1.length=0
 ·simp[h0]
 ·have e1:((m.2.2.2.1.length:Int)==0)=false:=by simp_all
  have e2:(m.2.2.2.1.length==0)=false:=by simp_all
  rw[e1,e2];simp only[AJQ];rw[AH (by omega) (by omega),AI9 (by omega),show((m.2.2.2.1.length:Int)-1).toNat=m.2.2.2.1.length-1 by omega,Us (h.getD (by omega))];rfl
theorem dd{m:Az}(hl:m.2.2.2.1.length<=2^40)(h:uj m.2.2.2.1):TV m=some ((Od m.2.2.2.1,()),()):=by
 unfold TV Od;by_cases h0:m.2.2.2.1.length=0
 ·simp[h0]
 ·have e1:((m.2.2.2.1.length:Int)==0)=false:=by simp_all
  have e2:(m.2.2.2.1.length==0)=false:=by simp_all
  rw[e1,e2];simp only[AJQ];rw[AH (by omega) (by omega),AI9 (by omega),show((m.2.2.2.1.length:Int)-1).toNat=m.2.2.2.1.length-1 by omega,QF (h.getD (by omega))];rfl
def vX(l:List AJ)(ep by_:Int)(i:Nat):Bool:=Fg (l.getD i Di)&&((AZ (l.getD i Di).1==ep)&&decide ((l.getD i Di).2.1<by_))
def uu(l:List AJ)(ep by_:Int):Bool:=CG (vX l ep by_) 0 l.length
def sH(c:CK)(l:List AAN):Bool:=CG (fun i=>A_ c (l.getD i [])) 0 l.length
def G2(c:CK)(m:Az):Bool:=Ee c&&(BD m.2.1 1 30&&(BD m.1 (m.2.1+1) 30&&(A_ c m.2.2.1&&(lg m.2.2.2.1&&(uu m.2.2.2.1 m.2.1 m.1&&(sH c m.2.2.2.2.2.1&&((m.2.2.2.2.2.1.length:Int)==cond m.2.2.2.2.1 (Od m.2.2.2.1) 0)))))))
theorem JU{c:CK}{m:Az}(hc:c.1.length<=2^40)(hm:CH m<=2^30)(h:uj m.2.2.2.1):It c m=some ((G2 c m,()),()):=by
 have l1:=AU (f:=Am) (l:=m.2.2.2.1);have l2:=AU (f:=C1) (l:=m.2.2.2.2.2.1);unfold CH at hm;have wr:∀n,m.2.2.2.2.2.1.length+1<=n->Hv n 0 c.1 c.2.1 m.1 m.2.1 m.2.2.1 m.2.2.2.1 m.2.2.2.2.1 m.2.2.2.2.2.1=some ((sH c m.2.2.2.2.2.1&&((m.2.2.2.2.2.1.length:Int)==cond m.2.2.2.2.1 (Od m.2.2.2.1) 0),()),()):=fun n hn=>by
  refine FT (L:=fun n i=>Hv n i c.1 c.2.1 m.1 m.2.1 m.2.2.1 m.2.2.2.1 m.2.2.2.2.1 m.2.2.2.2.2.1) (len:=m.2.2.2.2.2.1.length) (p:=fun i=>A_ c (m.2.2.2.2.2.1.getD i [])) (fin:=(m.2.2.2.2.2.1.length:Int)==cond m.2.2.2.2.1 (Od m.2.2.2.1) 0) (fun n i hi=> ?_) (fun n=> ?_) m.2.2.2.2.2.1.length n 0 (by omega) (by omega)
  ·have hwi:(m.2.2.2.2.2.1.getD i []).length<=Ae C1 m.2.2.2.2.2.1:=AY (f:=C1) (Bh (d:=[]) hi)
   simp only[Hv,Sq,AB];rw[AI9 (by omega),AI9 (by omega),AH (by omega) (by omega),show((i:Int)+1)=((i+1:Nat):Int)by omega,AJT,show(c.1,c.2.1,())=c from rfl,Gz hc (by omega)];simp_all
  ·simp only[Hv,Sq,AB]
   rw[AJD (by omega),Vm m,fl (by omega) h];grind
 have se:=nh (L:=fun n i=>JW n i c.1 c.2.1 m.1 m.2.1 m.2.2.1 m.2.2.2.1 m.2.2.2.2.1 m.2.2.2.2.2.1) (len:=m.2.2.2.1.length) (N:=m.2.2.2.2.2.1.length+1) (p:=vX m.2.2.2.1 m.2.1 m.1) (fin:=sH c m.2.2.2.2.2.1&&((m.2.2.2.2.2.1.length:Int)==cond m.2.2.2.2.1 (Od m.2.2.2.1) 0)) (fun n i hi=>by
   simp only[JW,Su,AB,vX];have hb:(0:Int)<=(i:Int)/\(i:Int)<(m.2.2.2.1.length:Int):=by omega
   rw[AI9 hb.2,AH (by omega) (by omega),show((i:Int)+1)=((i+1:Nat):Int)by omega,AJT];simp only[AI9 hb];rw[show((m.2.2.2.1.getD i (0,0,false,[],())).1,(m.2.2.2.1.getD i (0,0,false,[],())).2.1,(m.2.2.2.1.getD i (0,0,false,[],())).2.2.1,(m.2.2.2.1.getD i (0,0,false,[],())).2.2.2.1,())=m.2.2.2.1.getD i Di from rfl,Qd (h.getD hi),D9 (h.getD hi)];grind) (fun n hn=>by
   simp only[JW,Su,AB];simp_all) m.2.2.2.1.length AX 0 (by omega) (Ab (by omega))
 rw[show((0:Nat):Int)=0 from rfl]at se;unfold It Zj G2;rw[show(c.1,c.2.1,())=c from rfl,Fz hc,BW,BW,Gz hc (by omega),iE (by omega),se];simp only[AKD];rcases AIn (BD m.2.1 1 30)with hi|hi
 ·have hi2:=hi
  simp only[BD,AJr]at hi2;rw[AH (by omega) (by omega),hi];cases Ee c<;>cases BD m.1 (m.2.1+1) 30<;>cases A_ c m.2.2.1<;>cases lg m.2.2.2.1<;>rfl
 simp_all
theorem rM{m:Az}(hm:CH m<=2^30)(h:uj m.2.2.2.1):V6 m=some ((uu m.2.2.2.1 m.2.1 m.1&&lg m.2.2.2.1,()),()):=by
 have l1:=AU (f:=Am) (l:=m.2.2.2.1);unfold CH at hm;unfold V6 aQ;exact FT (L:=fun n i=>Ll n m.2.2.2.1 m.2.2.2.1.length i m.1 m.2.1 m.2.2.1 m.2.2.2.1 m.2.2.2.2.1 m.2.2.2.2.2.1) (len:=m.2.2.2.1.length) (p:=vX m.2.2.2.1 m.2.1 m.1) (fin:=lg m.2.2.2.1) (fun n i hi=>by
  simp only[Ll,S9,AB,vX];rw[AI9 (by omega),AI9 (by omega),AH (by omega) (by omega),show((i:Int)+1)=((i+1:Nat):Int)by omega,AJT];rw[show((m.2.2.2.1.getD i (0,0,false,[],())).1,(m.2.2.2.1.getD i (0,0,false,[],())).2.1,(m.2.2.2.1.getD i (0,0,false,[],())).2.2.1,(m.2.2.2.1.getD i (0,0,false,[],())).2.2.2.1,())=m.2.2.2.1.getD i Di from rfl,Qh (h.getD hi),Dg (h.getD hi)];grind) (fun n=>by
  simp only[Ll,S9,AB];rw[AJD (by omega),VW (by omega)];rfl) m.2.2.2.1.length AX 0 (by omega) (Ab (by omega))
theorem Hb{c:CK}{m:Az}(hc:c.1.length<=2^40)(hm:CH m<=2^30)(h:uj m.2.2.2.1):Hm c m=some ((G2 c m,()),()):=by
 have l1:=AU (f:=Am) (l:=m.2.2.2.1);have l2:=AU (f:=C1) (l:=m.2.2.2.2.2.1);have hm2:=hm;unfold CH at hm;have key:=FT (L:=fun n i=>L_ n m.2.2.2.2.2.1 m.2.2.2.2.2.1.length i c.1 c.2.1 m.1 m.2.1 m.2.2.1 m.2.2.2.1 m.2.2.2.2.1 m.2.2.2.2.2.1) (len:=m.2.2.2.2.2.1.length) (p:=fun i=>A_ c (m.2.2.2.2.2.1.getD i []))
  (fin:=Ee c&&(BD m.2.1 1 30&&(BD m.1 (m.2.1+1) 30&&(A_ c m.2.2.1&&((uu m.2.2.2.1 m.2.1 m.1&&lg m.2.2.2.1)&&((m.2.2.2.2.2.1.length:Int)==cond m.2.2.2.2.1 (Od m.2.2.2.1) 0)))))) (fun n i hi=>by
   have hwi:(m.2.2.2.2.2.1.getD i []).length<=Ae C1 m.2.2.2.2.2.1:=AY (f:=C1) (Bh (d:=[]) hi);simp only[L_,SC,AB];rw[AI9 (by omega),AI9 (by omega),AH (x:=(i:Int)+1) (by omega) (by omega),show((i:Int)+1)=((i+1:Nat):Int)by omega,AJT,show(c.1,c.2.1,())=c from rfl,D_ hc (by omega)];simp_all) (fun n=>by
   simp only[L_,SC,AB];rw[AJD (by omega),Vm m,dd (by omega) h,show(c.1,c.2.1,())=c from rfl,JO hc,D_ hc (by omega),rM hm2 h];simp only[AKD,HY,Au];rcases AIn (BD m.2.1 1 30)with hi|hi
   ·have hi2:=hi
    simp only[BD,AJr]at hi2;grind[AH,Ee,BD,A_,uu,lg]
   simp_all) m.2.2.2.2.2.1.length AX 0 (by omega) (Ab (by omega))
 unfold Hm Ze G2;rw[show((0:Nat):Int)=0 from rfl]at key;grind[sH,CG,A_,Ee,BD,uu,lg]
theorem AE3{x:Int}{l:AAN}(hl:l.length<=2^40):∃r,NK [x] l=some (((),()),(r,()))/\decide ((r.length:Int)>0)=l.contains x:=by
 obtain⟨m,hm⟩:∃m,AX=m+2:=⟨AX-2,by have:=Uw;omega⟩;unfold NK DD;rw[AI9 (by rw[Ap];simp)];simp only[AKD];unfold Cj Dt Df D3;rw[hm];simp only[B6,D4,Re,AJq,AKx,AB];rw[AI9 (by omega),AI9 (by omega)];simp only[Int.toNat_zero,List.getD_cons_zero];rw[Ir hl];simp only[AKD];cases l.contains x with
 |true=>
  simp only[AJX,AJQ];rw[AH (x:=0+1) (by omega) (by omega),AJD (by omega)];simp_all
 |false=>
  simp only[AOH,AJy,AKD];rw[AH (x:=0+1) (by omega) (by omega)];simp only[Bv,Dv,AB,AJq,AKx];simp_all
theorem bo{w:AA}{x:Int}(hl:w.2.2.2.1.length<=2^40):C4 w x=some ((w.2.2.2.1.contains x,()),()):=by
 unfold C4;obtain⟨r,h1,h2⟩:=AE3 (x:=x) hl;simp_all
theorem KX{l:AAN}{x:Int}(hl:l.length<=2^40):DG l x=some ((l.contains x,()),()):=by
 have key:∀(n i:Nat),i<=l.length->l.length-i<n->QK n l x i=some (((l.drop i).contains x,()),()):=by
  intro n
  induction n with
  |zero=>omega
  |succ n ih=>
   intro i hi h;simp only[QK,bW,AB];by_cases hc:i<l.length
   ·rw[AI9 (by omega),AI9 (by omega),AH (by omega) (by omega),show((i:Int)+1)=((i+1:Nat):Int)by omega,Af hc,drop_cons hc,ih (i+1) (by omega) (by omega)]
    simp only[List.contains_cons];by_cases he:l[i]=x
    all_goals grind
   grind
 grind[DG,bq,AX,Ab]
def ZG(l:List C7):Nat->Nat->Int
 |_,0=>0
 |i,d+1=>cond (!(l.getD i ([],false,0,())).2.1) ((i:Int)+1) (ZG l (i+1) d)
def BN(l:List C7):Int:=ZG l 0 l.length
theorem S4{r:AN}(hl:r.1.length<=2^40):LZ r=some ((BN r.1,()),()):=by
 have key:∀(d n i:Nat),i+d=r.1.length->d<n->H_ n i r.1 r.2.1=some ((ZG r.1 i d,()),()):=by
  intro d
  induction d with
  |zero=>
   intro n i hi hn;obtain⟨m,rfl⟩:∃m,n=m+1:=⟨n-1,by omega⟩;simp only[H_,PH,AB,ZG];simp_all
  |succ d ih=>
   intro n i hi hn;obtain⟨m,rfl⟩:∃m,n=m+1:=⟨n-1,by omega⟩;simp only[H_,PH,AB,ZG];rw[AI9 (by omega),AI9 (by omega),AH (by omega) (by omega),show((i:Int)+1)=((i+1:Nat):Int)by omega,ih m (i+1) (by omega) (by omega),AJT];grind
 grind[LZ,Vb,BN,AX,Ab]
theorem Sl{r:AN}(hl:r.1.length<=2^40):L7 r=some ((BN r.1,()),()):=by
 have key:∀(d n i:Nat),i+d=r.1.length->d<n->IE n r.1 r.1.length i=some ((ZG r.1 i d,()),()):=by
  intro d
  induction d with
  |zero=>
   intro n i hi hn;obtain⟨m,rfl⟩:∃m,n=m+1:=⟨n-1,by omega⟩;simp only[IE,OK,AB,ZG];simp_all
  |succ d ih=>
   intro n i hi hn;obtain⟨m,rfl⟩:∃m,n=m+1:=⟨n-1,by omega⟩;simp only[IE,OK,AB,ZG];rw[AI9 (by omega),AI9 (by omega),AH (by omega) (by omega),show((i:Int)+1)=((i+1:Nat):Int)by omega,ih m (i+1) (by omega) (by omega),AJT];grind
 grind[L7,Vo,BN,AX,Ab]
structure lq (w:AA):Prop where
 weight:Co w<=2^20
 BZ:∀s∈w.2.2.1,tZ s
 trim:CN w.2.2.2.2.2.1
 Cd:∀m∈w.2.2.2.2.2.2.2.1,uj m.2.2.2.1
 AOO:∀s∈w.2.2.2.2.2.2.2.2.2.1,CN s.1
abbrev Dm:AL:=([],[],0,())
abbrev CZ:AR:=(0,[],())
abbrev Tu:Az:=(0,0,[],[],false,[],())
abbrev AO:Ac:=(0,0,[],())
abbrev HQ:Aj:=(0,[],false,())
def Aa(w:AA):CK:=(w.1,w.2.1,())
def Cb(w:AA):AN:=(w.2.2.2.2.1,w.2.2.2.2.2.1,())
def mS(w:AA)(i:Nat):Bool:=CA (w.2.2.1.getD i Dm)&&(!w.2.2.2.1.contains (i:Int)||((w.2.2.1.getD i Dm).1.length==0&&((w.2.2.1.getD i Dm).2.1.length==0&&(w.2.2.1.getD i Dm).2.2.1==0)))
def gb(w:AA)(i:Nat):Bool:=FY (Aa w) (w.2.2.2.2.2.2.1.getD i CZ)&&(decide ((w.2.2.2.2.2.2.1.getD i CZ).1<=(w.2.2.2.2.1.length:Int))&&(i==0||decide ((w.2.2.2.2.2.2.1.getD (i-1) CZ).1<(w.2.2.2.2.2.2.1.getD i CZ).1)))
def vP(w:AA)(i:Nat):Bool:=G2 (Aa w) (w.2.2.2.2.2.2.2.1.getD i Tu)&&(((w.2.2.2.2.2.2.2.1.getD i Tu).1==(w.2.2.2.2.1.length:Int))&&((w.2.2.2.2.2.2.2.1.getD i Tu).2.1==BN w.2.2.2.2.1))
def ny(w:AA)(i:Nat):Bool:=(Aq (w.2.2.2.2.2.2.2.2.2.1.getD i HQ).1&&decide (AZ (w.2.2.2.2.2.2.2.2.2.1.getD i HQ).1<=(w.2.2.2.2.1.length:Int)))&&(decide ((w.2.2.2.2.2.2.2.2.2.1.getD i HQ).2.1.length<=40)&&(i==0||decide ((w.2.2.2.2.2.2.2.2.2.1.getD (i-1) HQ).1<(w.2.2.2.2.2.2.2.2.2.1.getD i HQ).1)))
def gO(w:AA):Bool:=CG (mS w) 0 w.2.2.1.length
def bz(w:AA):Bool:=CG (gb w) 0 w.2.2.2.2.2.2.1.length
def iV(w:AA):Bool:=CG (vP w) 0 w.2.2.2.2.2.2.2.1.length
def om(w:AA):Bool:=CG (ny w) 0 w.2.2.2.2.2.2.2.2.2.1.length
def Yx(w:AA):Bool:=decide (w.2.2.2.2.2.2.2.2.1.length=2)&&(SK (w.2.2.2.2.2.2.2.2.1.getD 0 AO)&&SK (w.2.2.2.2.2.2.2.2.1.getD 1 AO))
def C9(w:AA):Bool:=Ee (Aa w)&&(decide (w.2.2.1.length=w.1.length)&&(A_ (Aa w) w.2.2.2.1&&((w.2.2.2.2.2.2.2.2.2.2.1|| !holds (Aa w) w.2.2.2.1)&&(gO w&&(OO (Aa w) (Cb w)&&(decide (w.2.2.2.2.2.2.1.length<=4)&&(decide (w.2.2.2.2.2.2.2.1.length<=1)&&(bz w&&(iV w&&(Yx w&&(decide (w.2.2.2.2.2.2.2.2.2.1.length<=120)&&om w)))))))))))
section
variable{w:AA} (h:lq w)
include h
theorem lq.lens:w.1.length<=2^20/\Ae Ai w.2.2.1<=2^20/\w.2.2.2.1.length<=2^20/\Ae B_ w.2.2.2.2.1<=2^20/\Ae An w.2.2.2.2.2.2.1<=2^20/\Ae CH w.2.2.2.2.2.2.2.1<=2^20/\Ae Ax w.2.2.2.2.2.2.2.2.1<=2^20/\Ae Dx w.2.2.2.2.2.2.2.2.2.1<=2^20:=by
 have:=h.weight;grind[Co]
theorem lq.LN:w.2.2.1.length<=2^20/\w.2.2.2.2.1.length<=2^20/\w.2.2.2.2.2.2.1.length<=2^20/\w.2.2.2.2.2.2.2.1.length<=2^20/\w.2.2.2.2.2.2.2.2.1.length<=2^20/\w.2.2.2.2.2.2.2.2.2.1.length<=2^20:=by
 have k:=h.lens;grind[AU,Ai,B_,An,CH,Ax,Dx]
theorem lq.cfg:(Aa w).1.length<=2^40:=by
 have:=h.lens
 show w.1.length<=2^40
 omega
theorem zr:K9 w=some ((decide (w.2.2.1.length=w.1.length)&&(A_ (Aa w) w.2.2.2.1&&(gO w&&(w.2.2.2.2.2.2.2.2.2.2.1|| !holds (Aa w) w.2.2.2.1))),()),()):=by
 have k1:=h.lens;have k2:=h.LN;have key:=FT (L:=fun n i=>E7 n w w.2.2.1 w.2.2.1.length i) (len:=w.2.2.1.length) (p:=mS w) (fin:=w.2.2.2.2.2.2.2.2.2.2.1|| !holds (Aa w) w.2.2.2.1) (fun n i hi=>by
  have hm:=Bh (d:=Dm) hi;have hw:=AY (f:=Ai) hm;simp only[E7,J2,AB,mS];rw[AI9 (by omega),AI9 (by omega),AH (x:=(i:Int)+1) (by omega) (by omega),show((i:Int)+1)=((i+1:Nat):Int)by omega,AJT,bo (by omega)];rw[show((w.2.2.1.getD i ([],[],0,())).1,(w.2.2.1.getD i ([],[],0,())).2.1,(w.2.2.1.getD i ([],[],0,())).2.2.1,())=w.2.2.1.getD i Dm from rfl,Eo (by omega) (h.BZ _ hm)];simp only[AKD]
  show cond (!CA (w.2.2.1.getD i Dm)) _ _=_
  rcases AIn (CA (w.2.2.1.getD i Dm))with hs|hs
  rotate_left
  ·simp_all
  rw[hs];have hs2:=hs;simp only[CA,BD,AJR,AJr]at hs2
  generalize w.2.2.1.getD i Dm=s at hw hs2
  cases w.2.2.2.1.contains ((i:Nat):Int)with
  |false=>rfl
  |true=>
   simp only[AJX,AJQ,AJy,AKB,ANG];unfold Ai at hw;have q1:=AU (f:=Am) (l:=s.1);have q2:=AU (f:=Am) (l:=s.2.1);rw[AH (x:=(s.1.length:Int)+_) (by omega) (by omega),AH (by omega) (by omega)];grind) (fun n=>by
  simp only[E7,J2,AB];rw[AJD (by omega),show(w.1,w.2.1,())=Aa w from rfl,GN h.cfg (by omega)];grind) w.2.2.1.length AX 0 (by omega) (Ab (by omega))
 rw[show((0:Nat):Int)=0 from rfl]at key;unfold K9 Py gO;rw[show(w.1,w.2.1,())=Aa w from rfl,D_ h.cfg (by omega),key];grind[decide_eq_true,A_,Aa,decide_eq_false]
end
theorem ACa{x lo hi:Int}(h:lo<=x):BD x lo hi=decide (x<=hi):=by
 grind[BD,decide_eq_true,decide_eq_false]
theorem AFA{x lo hi:Int}(h:x<lo):BD x lo hi=false:=by
 grind[BD,decide_eq_false]
section
variable{w:AA} (h:lq w)
include h
theorem xF:KV w=some ((bz w&&decide (w.2.2.2.2.2.2.1.length<=4),()),()):=by
 have k1:=h.lens;have k2:=h.LN;have key:=FT (L:=fun n i=>EU n w w.2.2.2.2.2.2.1 w.2.2.2.2.2.2.1.length i) (len:=w.2.2.2.2.2.2.1.length) (p:=gb w) (fin:=decide (w.2.2.2.2.2.2.1.length<=4)) (fun n i hi=>by
  have hm:=Bh (d:=CZ) hi;have hw:=AY (f:=An) hm;unfold An at hw;simp only[EU,Jr,AB,gb,Jt,Au];rw[AI9 (by omega),AI9 (by omega),AH (x:=(i:Int)+1) (by omega) (by omega),show((i:Int)+1)=((i+1:Nat):Int)by omega,AJT];have hw2:Ae BQ (w.2.2.2.2.2.2.1.getD i CZ).2.1<=2^30:=by
   have:=k1.2.2.2.2.1;unfold An at this;omega
  rw[show((w.2.2.2.2.2.2.1.getD i (0,[],())).1,(w.2.2.2.2.2.2.1.getD i (0,[],())).2.1,())=w.2.2.2.2.2.2.1.getD i CZ from rfl,show(w.1,w.2.1,())=Aa w from rfl,I6 h.cfg hw2];simp only[AKD];rcases AIn (FY (Aa w) (w.2.2.2.2.2.2.1.getD i CZ))with hs|hs
  rotate_left
  ·simp_all
  have he:=(uI hs).2.1;rw[hs,show BD (w.2.2.2.2.2.2.1.getD i (0,[],())).1 1 (w.2.2.2.2.1.length:Int)=decide ((w.2.2.2.2.2.2.1.getD i CZ).1<=(w.2.2.2.2.1.length:Int))from ACa he.1];simp only[AJX,AJQ,AKB];cases decide ((w.2.2.2.2.2.2.1.getD i CZ).1<=(w.2.2.2.2.1.length:Int))with
  |false=>rfl
  |true=>
   simp only[AJX,AJQ,AKB];by_cases h0:i=0
   ·simp_all
   ·rw[AI9 (by omega),AH (by omega) (by omega),AI9 (by omega)]
    have h1:((i:Int)-1).toNat=i-1:=by omega
    have h2:(i==0)=false:=by simp_all
    rw[h1,h2,ANG];grind) (fun n=>by
  simp only[EU,Jr,AB];simp_all;omega) w.2.2.2.2.2.2.1.length AX 0 (by omega) (Ab (by omega))
 rw[show((0:Nat):Int)=0 from rfl]at key;grind[KV,OC,bz]
theorem AAn:ME w=some ((iV w&&decide (w.2.2.2.2.2.2.2.1.length<=1),()),()):=by
 have k1:=h.lens;have k2:=h.LN;have key:=FT (L:=fun n i=>FQ n w w.2.2.2.2.2.2.2.1 w.2.2.2.2.2.2.2.1.length i) (len:=w.2.2.2.2.2.2.2.1.length) (p:=vP w) (fin:=decide (w.2.2.2.2.2.2.2.1.length<=1)) (fun n i hi=>by
  have hm:=Bh (d:=Tu) hi;have hw:=AY (f:=CH) hm;simp only[FQ,Kr,AB,vP];rw[AI9 (by omega),AI9 (by omega),AH (x:=(i:Int)+1) (by omega) (by omega),show((i:Int)+1)=((i+1:Nat):Int)by omega,AJT];rw[show((w.2.2.2.2.2.2.2.1.getD i (0,0,[],[],false,[],())).1,(w.2.2.2.2.2.2.2.1.getD i (0,0,[],[],false,[],())).2.1,(w.2.2.2.2.2.2.2.1.getD i (0,0,[],[],false,[],())).2.2.1,(w.2.2.2.2.2.2.2.1.getD i (0,0,[],[],false,[],())).2.2.2.1,(w.2.2.2.2.2.2.2.1.getD i (0,0,[],[],false,[],())).2.2.2.2.1,(w.2.2.2.2.2.2.2.1.getD i (0,0,[],[],false,[],())).2.2.2.2.2.1,())=w.2.2.2.2.2.2.2.1.getD i Tu from rfl,show(w.1,w.2.1,())=Aa w from rfl,Hb h.cfg (by omega) (h.Cd _ hm)];rw[Sl (by grind)];grind) (fun n=>by
  simp only[FQ,Kr,AB];simp_all;omega) w.2.2.2.2.2.2.2.1.length AX 0 (by omega) (Ab (by omega))
 rw[show((0:Nat):Int)=0 from rfl]at key;grind[ME,QH,iV]
theorem wQ:Km w=some ((Yx w,()),()):=by
 have k2:=h.LN;have key:=FT (L:=fun n i=>EV n w w.2.2.2.2.2.2.2.2.1 w.2.2.2.2.2.2.2.2.1.length i) (len:=w.2.2.2.2.2.2.2.2.1.length) (p:=fun i=>SK (w.2.2.2.2.2.2.2.2.1.getD i AO)) (fin:=((w.2.2.2.2.2.2.2.2.1.length:Int)==2)) (fun n i hi=>by
  simp only[EV,Jn,AB];rw[AI9 (by omega),AI9 (by omega),AH (x:=(i:Int)+1) (by omega) (by omega),show((i:Int)+1)=((i+1:Nat):Int)by omega,AJT];rw[show((w.2.2.2.2.2.2.2.2.1.getD i (0,0,[],())).1,(w.2.2.2.2.2.2.2.2.1.getD i (0,0,[],())).2.1,(w.2.2.2.2.2.2.2.2.1.getD i (0,0,[],())).2.2.1,())=w.2.2.2.2.2.2.2.2.1.getD i AO from rfl,bp];simp_all) (fun n=>by
  simp only[EV,Jn,AB];simp_all) w.2.2.2.2.2.2.2.2.1.length AX 0 (by omega) (Ab (by omega))
 rw[show((0:Nat):Int)=0 from rfl]at key;unfold Km Oe Yx;grind[CG,decide_eq_false]
theorem AEP:Nf w=some ((om w&&decide (w.2.2.2.2.2.2.2.2.2.1.length<=120),()),()):=by
 have k2:=h.LN;have key:=FT (L:=fun n i=>Fy n w w.2.2.2.2.2.2.2.2.2.1 w.2.2.2.2.2.2.2.2.2.1.length i) (len:=w.2.2.2.2.2.2.2.2.2.1.length) (p:=ny w) (fin:=decide (w.2.2.2.2.2.2.2.2.2.1.length<=120)) (fun n i hi=>by
  have hm:=Bh (d:=HQ) hi;have Pu:CN (w.2.2.2.2.2.2.2.2.2.1.getD i (0,[],false,())).1:=h.AOO _ hm;simp only[Fy,Lj,AB,ny,Jt,Au,F6];rw[AI9 (by omega),AI9 (by omega),AH (x:=(i:Int)+1) (by omega) (by omega),show((i:Int)+1)=((i+1:Nat):Int)by omega,AJT,Dg Pu];simp only[AKD];have e1:BD (AZ (w.2.2.2.2.2.2.2.2.2.1.getD i (0,[],false,())).1) 1 (w.2.2.2.2.1.length:Int)=(Aq (w.2.2.2.2.2.2.2.2.2.1.getD i HQ).1&&decide (AZ (w.2.2.2.2.2.2.2.2.2.1.getD i HQ).1<=(w.2.2.2.2.1.length:Int))):=by
   show BD (AZ (w.2.2.2.2.2.2.2.2.2.1.getD i HQ).1) 1 (w.2.2.2.2.1.length:Int)=_
   have hr:=bE (x:=(w.2.2.2.2.2.2.2.2.2.1.getD i HQ).1);rcases AIn (Aq (w.2.2.2.2.2.2.2.2.2.1.getD i HQ).1)with hp|hp
   ·rw[hp,ACa (hr.1 hp).1,AKB]
   ·rw[hp,hr.2 hp,AFA (by omega),AOw]
  rw[e1,show decide ((((w.2.2.2.2.2.2.2.2.2.1.getD i (0,[],false,())).2.1.length:Nat):Int)<=40)=decide ((w.2.2.2.2.2.2.2.2.2.1.getD i HQ).2.1.length<=40)from ARk _ 40];cases(Aq (w.2.2.2.2.2.2.2.2.2.1.getD i HQ).1&&decide (AZ (w.2.2.2.2.2.2.2.2.2.1.getD i HQ).1<=(w.2.2.2.2.1.length:Int)))with
  |false=>rfl
  |true=>
   cases decide ((w.2.2.2.2.2.2.2.2.2.1.getD i HQ).2.1.length<=40)with
   |false=>rfl
   |true=>
    simp only[AJX,AJQ,AKB];by_cases h0:i=0
    ·simp_all
    ·rw[AI9 (by omega),AH (by omega) (by omega),AI9 (by omega)]
     have h1:((i:Int)-1).toNat=i-1:=by omega
     have h2:(i==0)=false:=by simp_all
     rw[h1,h2,ANG];grind) (fun n=>by
  simp only[Fy,Lj,AB];simp_all;omega) w.2.2.2.2.2.2.2.2.2.1.length AX 0 (by omega) (Ab (by omega))
 rw[show((0:Nat):Int)=0 from rfl]at key;grind[Nf,RS,om]
theorem Fj:Cw w=some ((C9 w,()),()):=by
 have k1:=h.lens;unfold Cw C9;rw[GS w,show(w.1,w.2.1,())=Aa w from rfl,show(w.2.2.2.2.1,w.2.2.2.2.2.1,())=Cb w from rfl];rw[JO h.cfg,zr h,NC h.cfg (by show Ae B_ w.2.2.2.2.1<=_;omega) h.trim,xF h,AAn h,wQ h,AEP h];grind
end
section
variable{w:AA} (h:lq w)
include h
theorem xq:U7 w=some ((Ee (Aa w)&&(decide (w.2.2.1.length=w.1.length)&&(A_ (Aa w) w.2.2.2.1&&((w.2.2.2.2.2.2.2.2.2.2.1|| !holds (Aa w) w.2.2.2.1)&&gO w))),()),()):=by
 have k1:=h.lens;have k2:=h.LN;have key:=FT (L:=fun n i=>JM n i w.1 w.2.1 w.2.2.1 w.2.2.2.1 w.2.2.2.2.1 w.2.2.2.2.2.1 w.2.2.2.2.2.2.1 w.2.2.2.2.2.2.2.1 w.2.2.2.2.2.2.2.2.1 w.2.2.2.2.2.2.2.2.2.1 w.2.2.2.2.2.2.2.2.2.2.1) (len:=w.2.2.1.length) (p:=mS w) (fin:=true) (fun n i hi=>by
  have hm:=Bh (d:=Dm) hi;have hw:=AY (f:=Ai) hm;simp only[JM,QB,AB,mS];have hb:(0:Int)<=(i:Int)/\(i:Int)<(w.2.2.1.length:Int):=by omega
  rw[AI9 hb.2,AH (x:=(i:Int)+1) (by omega) (by omega),show((i:Int)+1)=((i+1:Nat):Int)by omega,AJT,KX (by omega)];simp only[AI9 hb];rw[show((w.2.2.1.getD i ([],[],0,())).1,(w.2.2.1.getD i ([],[],0,())).2.1,(w.2.2.1.getD i ([],[],0,())).2.2.1,())=w.2.2.1.getD i Dm from rfl,Ff (by omega) (h.BZ _ hm)];simp only[AKD]
  show cond (!CA (w.2.2.1.getD i Dm)) _ _=_
  cases CA (w.2.2.1.getD i Dm)with
  |false=>rfl
  |true=>
   cases w.2.2.2.1.contains ((i:Nat):Int)with
   |false=>rfl
   |true=>
    simp only[cT,AJX,AJQ,AJy,AKB,ANG];have e1:∀n:Nat,((n:Int)==0)=(n==0):=fun n=>by
     grind
    grind) (fun n=>by
  simp only[JM,QB,AB];simp_all) w.2.2.1.length AX 0 (by omega) (Ab (by omega))
 rw[show((0:Nat):Int)=0 from rfl]at key;unfold U7 Wg gO;rw[show(w.1,w.2.1,())=Aa w from rfl,Fz h.cfg,Gz h.cfg (by omega),HU h.cfg (by omega),key];simp only[AKD,AO0];grind[decide_eq_true,Ee,Aa,A_,holds,decide_eq_false]
theorem xf:S2 w=some ((OO (Aa w) (Cb w)&&(decide (w.2.2.2.2.2.2.1.length<=4)&&(decide (w.2.2.2.2.2.2.2.1.length<=1)&&(bz w&&iV w))),()),()):=by
 have k1:=h.lens;have k2:=h.LN;have me:∀n,w.2.2.2.2.2.2.2.1.length+1<=n->Ea n (w.2.2.2.2.1.length:Int) 0 w.1 w.2.1 w.2.2.1 w.2.2.2.1 w.2.2.2.2.1 w.2.2.2.2.2.1 w.2.2.2.2.2.2.1 w.2.2.2.2.2.2.2.1 w.2.2.2.2.2.2.2.2.1 w.2.2.2.2.2.2.2.2.2.1 w.2.2.2.2.2.2.2.2.2.2.1=some ((iV w,()),()):=fun n hn=>by
  have key:=FT (L:=fun n i=>Ea n (w.2.2.2.2.1.length:Int) i w.1 w.2.1 w.2.2.1 w.2.2.2.1 w.2.2.2.2.1 w.2.2.2.2.2.1 w.2.2.2.2.2.2.1 w.2.2.2.2.2.2.2.1 w.2.2.2.2.2.2.2.2.1 w.2.2.2.2.2.2.2.2.2.1 w.2.2.2.2.2.2.2.2.2.2.1) (len:=w.2.2.2.2.2.2.2.1.length) (p:=vP w) (fin:=true) (fun n i hi=>by
   have hm:=Bh (d:=Tu) hi;have hw:=AY (f:=CH) hm;simp only[Ea,NM,AB,vP];rw[AI9 (by omega),AI9 (by omega),AH (x:=(i:Int)+1) (by omega) (by omega),show((i:Int)+1)=((i+1:Nat):Int)by omega,AJT];rw[show((w.2.2.2.2.2.2.2.1.getD i (0,0,[],[],false,[],())).1,(w.2.2.2.2.2.2.2.1.getD i (0,0,[],[],false,[],())).2.1,(w.2.2.2.2.2.2.2.1.getD i (0,0,[],[],false,[],())).2.2.1,(w.2.2.2.2.2.2.2.1.getD i (0,0,[],[],false,[],())).2.2.2.1,(w.2.2.2.2.2.2.2.1.getD i (0,0,[],[],false,[],())).2.2.2.2.1,(w.2.2.2.2.2.2.2.1.getD i (0,0,[],[],false,[],())).2.2.2.2.2.1,())=w.2.2.2.2.2.2.2.1.getD i Tu from rfl,show(w.1,w.2.1,())=Aa w from rfl,JU h.cfg (by omega) (h.Cd _ hm)];rw[S4 (by grind)];grind) (fun n=>by
   simp only[Ea,NM,AB];simp_all) w.2.2.2.2.2.2.2.1.length n 0 (by omega) (by omega)
  rw[show((0:Nat):Int)=0 from rfl]at key;rw[key,AO0];rfl
 have key:=nh (L:=fun n i=>Gl n (w.2.2.2.2.1.length:Int) i w.1 w.2.1 w.2.2.1 w.2.2.2.1 w.2.2.2.2.1 w.2.2.2.2.2.1 w.2.2.2.2.2.2.1 w.2.2.2.2.2.2.2.1 w.2.2.2.2.2.2.2.2.1 w.2.2.2.2.2.2.2.2.2.1 w.2.2.2.2.2.2.2.2.2.2.1) (len:=w.2.2.2.2.2.2.1.length) (N:=w.2.2.2.2.2.2.2.1.length+1) (p:=gb w) (fin:=iV w) (fun n i hi=>by
  have hm:=Bh (d:=CZ) hi;have hw:=AY (f:=An) hm;unfold An at hw;simp only[Gl,PF,AB,gb];have hb:(0:Int)<=(i:Int)/\(i:Int)<(w.2.2.2.2.2.2.1.length:Int):=by omega
  rw[AI9 hb.2,AH (x:=(i:Int)+1) (by omega) (by omega),show((i:Int)+1)=((i+1:Nat):Int)by omega,AJT];simp only[AI9 hb];have hw2:Ae BQ (w.2.2.2.2.2.2.1.getD i CZ).2.1<=2^30:=by
   have:=k1.2.2.2.2.1;unfold An at this;omega
  rw[show((w.2.2.2.2.2.2.1.getD i (0,[],())).1,(w.2.2.2.2.2.2.1.getD i (0,[],())).2.1,())=w.2.2.2.2.2.2.1.getD i CZ from rfl,show(w.1,w.2.1,())=Aa w from rfl,Li h.cfg hw2];simp only[AKD];cases FY (Aa w) (w.2.2.2.2.2.2.1.getD i CZ)with
  |false=>rfl
  |true=>
   simp only[AJX,AJQ,AKB];by_cases hle:(w.2.2.2.2.2.2.1.getD i (0,[],())).1<=(w.2.2.2.2.1.length:Int)
   ·rw[AJD (by omega),show decide ((w.2.2.2.2.2.2.1.getD i CZ).1<=(w.2.2.2.2.1.length:Int))=true from ALg hle,AKB]
    by_cases h0:i=0
    ·simp_all
    ·rw[AI9 (by omega),AH (by omega) (by omega),AI9 (by omega)]
     have h1:((i:Int)-1).toNat=i-1:=by omega
     have h2:(i==0)=false:=by simp_all
     rw[h1,h2,ANG];grind
   grind) (fun n hn=>by
  simp only[Gl,PF,AB];simp_all) w.2.2.2.2.2.2.1.length AX 0 (by omega) (Ab (by omega))
 rw[show((0:Nat):Int)=0 from rfl]at key;unfold S2 WE bz;rw[show(w.1,w.2.1,())=Aa w from rfl,show(w.2.2.2.2.1,w.2.2.2.2.2.1,())=Cb w from rfl,QR h.cfg (by show Ae B_ w.2.2.2.2.1<=_;omega) h.trim,key];grind
theorem ABQ:XL w=some ((decide (w.2.2.2.2.2.2.2.2.2.1.length<=120)&&om w,()),()):=by
 have k2:=h.LN;have key:=FT (L:=fun n i=>J4 n i w.1 w.2.1 w.2.2.1 w.2.2.2.1 w.2.2.2.2.1 w.2.2.2.2.2.1 w.2.2.2.2.2.2.1 w.2.2.2.2.2.2.2.1 w.2.2.2.2.2.2.2.2.1 w.2.2.2.2.2.2.2.2.2.1 w.2.2.2.2.2.2.2.2.2.2.1) (len:=w.2.2.2.2.2.2.2.2.2.1.length) (p:=ny w) (fin:=true) (fun n i hi=>by
  have hm:=Bh (d:=HQ) hi;have Pu:CN (w.2.2.2.2.2.2.2.2.2.1.getD i (0,[],false,())).1:=h.AOO _ hm;simp only[J4,RN,AB,ny];rw[AI9 (by omega),AI9 (by omega),AH (x:=(i:Int)+1) (by omega) (by omega),show((i:Int)+1)=((i+1:Nat):Int)by omega,AJT,Er Pu,D9 Pu];simp only[AKD]
  show cond (!Aq (w.2.2.2.2.2.2.2.2.2.1.getD i HQ).1) _ _=_
  cases Aq (w.2.2.2.2.2.2.2.2.2.1.getD i HQ).1 with
  |false=>rfl
  |true=>
   simp only[AJX,AJQ,AKB];by_cases hle:AZ (w.2.2.2.2.2.2.2.2.2.1.getD i (0,[],false,())).1<=(w.2.2.2.2.1.length:Int)
   ·rw[AJD (by omega),show decide (AZ (w.2.2.2.2.2.2.2.2.2.1.getD i HQ).1<=(w.2.2.2.2.1.length:Int))=true from ALg hle,AKB]
    by_cases h40:(w.2.2.2.2.2.2.2.2.2.1.getD i (0,[],false,())).2.1.length<=40
    ·rw[AJD (by omega),show decide ((w.2.2.2.2.2.2.2.2.2.1.getD i HQ).2.1.length<=40)=true from ALg h40,AKB]
     by_cases h0:i=0
     ·simp_all
     ·rw[AI9 (by omega),AH (by omega) (by omega),AI9 (by omega)]
      have h1:((i:Int)-1).toNat=i-1:=by omega
      have h2:(i==0)=false:=by simp_all
      rw[h1,h2,ANG];grind
    grind
   grind) (fun n=>by
  simp only[J4,RN,AB];simp_all) w.2.2.2.2.2.2.2.2.2.1.length AX 0 (by omega) (Ab (by omega))
 rw[show((0:Nat):Int)=0 from rfl]at key;unfold XL Ye om;grind
theorem IP:HX w=some ((C9 w,()),()):=by
 unfold HX C9 Yx;rw[GS w];rw[xq h,xf h,ABQ h,Ph,Ph];simp only[AKD];by_cases h2:w.2.2.2.2.2.2.2.2.1.length=2
 all_goals grind
end
theorem Vi{R:Type}{L:Nat->Int->Option R}{len:Nat}{p:Nat->Bool}{K:Nat->Option R}{no:Option R}(h1:∀n (i:Nat),i<len->L (n+1) i=cond (p i) (L n ((i+1:Nat):Int)) no)(h2:∀n,L (n+1) (len:Int)=K n):
  ∀d n i,i+d=len->d<n->L n i=cond (CG p i d) (K (n-d-1)) no
 |0,n,i,hd,h=>by
  obtain⟨m,rfl⟩:∃m,n=m+1:=⟨n-1,by omega⟩;have:i=len:=by omega
  subst this;rw[h2];rfl
 |d+1,n,i,hd,h=>by
  obtain⟨m,rfl⟩:∃m,n=m+1:=⟨n-1,by omega⟩;rw[h1 m i (by omega)];simp only[CG];cases p i with
  |false=>rfl
  |true=>
   rw[AJy,Vi h1 h2 d m (i+1) (by omega) (by omega),AKB];simp_all
abbrev Ec:Av:=(0,0,[],())
theorem Ep{w:AA}(h:C9 w=true):w.2.2.2.2.2.2.2.2.1.length=2:=by
 simp only[C9,Yx,AJR,AJr]at h;omega
theorem lq.out{w:AA}(h:lq w){i:Nat}(hi:i<w.2.2.2.2.2.2.2.2.1.length):(w.2.2.2.2.2.2.2.2.1.getD i AO).2.2.1.length<=2^20:=by
 have k:=h.lens;have h1:=AY (f:=Ax) (Bh (d:=AO) hi);have h2:=AU (f:=CB) (l:=(w.2.2.2.2.2.2.2.2.1.getD i AO).2.2.1);have h3:Ax (w.2.2.2.2.2.2.2.2.1.getD i AO)=Ae CB (w.2.2.2.2.2.2.2.2.1.getD i AO).2.2.1:=rfl;omega
def wz(l:List Av):Bool:=CG (fun i=> !((l.getD i Ec).1==3)) 0 l.length
def PG(w:AA):Bool:=C9 w&&(w.2.2.2.2.2.2.2.2.2.2.1||(wz (w.2.2.2.2.2.2.2.2.1.getD 0 AO).2.2.1&&wz (w.2.2.2.2.2.2.2.2.1.getD 1 AO).2.2.1))
section
variable{w:AA} (h:lq w)
include h
theorem jA:Ql w=some ((PG w,()),()):=by
 have k2:=h.LN;unfold Ql Ts PG;rw[GS w,Fj h];simp only[AKD];rcases AIn (C9 w)with DX|DX
 rotate_left
 ·simp_all
 rw[DX];simp only[AJX,AJQ,AKB];cases w.2.2.2.2.2.2.2.2.2.2.1 with
 |true=>rfl
 |false=>
  have h2:=Ep DX;simp only[AJQ,ANG];have o:=fun i hi=>h.out (i:=i) hi
  generalize w.2.2.2.2.2.2.2.2.1=rs at h2 o
  have inner:∀(i:Nat),i<rs.length-> ∀n,2^20<n->DY (n+1) rs rs.length i=cond (wz (rs.getD i AO).2.2.1) (DY (n-(rs.getD i AO).2.2.1.length-1) rs rs.length ((i+1:Nat):Int)) (some ((false,()),())):=fun i hi n hn=>by
   have ho:=o i hi;simp only[DY,NN,AB];rw[AI9 (by omega),AI9 (by omega),AJT];have:=Vi (L:=fun n j=>Fo n rs rs.length i (rs.getD i AO).2.2.1 (rs.getD i AO).2.2.1.length j) (len:=(rs.getD i AO).2.2.1.length) (p:=fun j=> !(((rs.getD i AO).2.2.1.getD j Ec).1==3)) (K:=fun n=>DY n rs rs.length ((i+1:Nat):Int)) (no:=some ((false,()),())) (fun n j hj=>by
    simp only[Fo,NX,AB];rw[AI9 (by omega),AI9 (by omega),AJT,AH (by omega) (by omega),show((j:Int)+1)=((j+1:Nat):Int)by omega];simp_all) (fun n=>by
    simp only[Fo,NX,AB];rw[AJD (by omega),AH (by omega) (by omega),show((i:Int)+1)=((i+1:Nat):Int)by omega]) (rs.getD i AO).2.2.1.length n 0 (by omega) (by omega)
   exact this
  obtain⟨m,hm⟩:∃m,AX=m+2^40:=⟨AX-2^40,by have:=Uw;omega⟩;have o0:=o 0 (by omega);have o1:=o 1 (by omega);have e0:=inner 0 (by omega) (m+2^40-1) (by omega);have e1:=inner 1 (by omega) (m+2^40-1-(rs.getD 0 AO).2.2.1.length-1-1) (by omega);rw[show m+2^40-1+1=AX by omega,show((0:Nat):Int)=0 from rfl,show((0+1:Nat):Int)=((1:Nat):Int)from rfl]at e0;rw[show m+2^40-1-(rs.getD 0 AO).2.2.1.length-1-1+1=m+2^40-1-(rs.getD 0 AO).2.2.1.length-1 by omega]at e1;rw[e0,e1];obtain⟨q,hq⟩:∃q,m+2^40-1-(rs.getD 0 AO).2.2.1.length-1-1-(rs.getD 1 AO).2.2.1.length-1=q+1:=⟨_,(Nat.succ_pred_eq_of_pos (by omega)).symm⟩;rw[hq];have AU9:DY (q+1) rs rs.length ((1+1:Nat):Int)=some ((true,()),()):=by
   simp only[DY,NN,AB];simp_all
  grind
theorem jS:Qt w=some ((PG w,()),()):=by
 have k2:=h.LN;unfold Qt Tl PG;rw[GS w,IP h];simp only[AKD];rcases AIn (C9 w)with DX|DX
 rotate_left
 ·simp_all
 rw[DX];simp only[AJX,AJQ,AKB];have h2:=Ep DX;have o:=fun i hi=>h.out (i:=i) hi
 generalize w.2.2.2.2.2.2.2.2.1=rs at h2 o
 generalize w.1=a0
 generalize w.2.1=a1
 generalize w.2.2.1=a2
 generalize w.2.2.2.1=a3
 generalize w.2.2.2.2.1=a4
 generalize w.2.2.2.2.2.1=a5
 generalize w.2.2.2.2.2.2.1=a6
 generalize w.2.2.2.2.2.2.2.1=a7
 generalize w.2.2.2.2.2.2.2.2.2.1=a9
 cases w.2.2.2.2.2.2.2.2.2.2.1 with
 |true=>
  obtain⟨m,hm⟩:∃m,AX=m+1:=⟨AX-1,by have:=Uw;omega⟩;rw[hm];rfl
 |false=>
  simp only[ANG];have inner:∀(i:Nat),i<rs.length-> ∀n,2^20<n->Dy (n+1) i a0 a1 a2 a3 a4 a5 a6 a7 rs a9 false=cond (wz (rs.getD i AO).2.2.1) (Dy (n-(rs.getD i AO).2.2.1.length-1) ((i+1:Nat):Int) a0 a1 a2 a3 a4 a5 a6 a7 rs a9 false) (some ((false,()),())):=fun i hi n hn=>by
   have ho:=o i hi;simp only[Dy,Tr,AB];rw[AI9 (by omega)];have:=Vi (L:=fun n j=>Fp n i j false (!false) a0 a1 a2 a3 a4 a5 a6 a7 rs a9 false) (len:=(rs.getD i AO).2.2.1.length) (p:=fun j=> !(((rs.getD i AO).2.2.1.getD j Ec).1==3)) (K:=fun n=>Dy n ((i+1:Nat):Int) a0 a1 a2 a3 a4 a5 a6 a7 rs a9 false) (no:=some ((false,()),())) (fun n j hj=>by
    simp only[Fp,NY,AB];have hb:(0:Int)<=(i:Int)/\(i:Int)<(rs.length:Int):=by omega
    simp only[AI9 hb,AJT];have hd:(rs.getD i (0,0,[],())).2.2.1.length=(rs.getD i AO).2.2.1.length:=rfl;rw[AI9 (by omega),AI9 (by omega),AH (by omega) (by omega),show((j:Int)+1)=((j+1:Nat):Int)by omega];simp_all) (fun n=>by
    simp only[Fp,NY,AB];have hb:(0:Int)<=(i:Int)/\(i:Int)<(rs.length:Int):=by omega
    simp only[AI9 hb,AJT];have hd:(rs.getD i (0,0,[],())).2.2.1.length=(rs.getD i AO).2.2.1.length:=rfl;rw[AJD (by omega),AH (by omega) (by omega),show((i:Int)+1)=((i+1:Nat):Int)by omega]) (rs.getD i AO).2.2.1.length n 0 (by omega) (by omega)
   exact this
  obtain⟨m,hm⟩:∃m,AX=m+2^40:=⟨AX-2^40,by have:=Uw;omega⟩;have o0:=o 0 (by omega);have o1:=o 1 (by omega);have e0:=inner 0 (by omega) (m+2^40-1) (by omega);have e1:=inner 1 (by omega) (m+2^40-1-(rs.getD 0 AO).2.2.1.length-1-1) (by omega);rw[show m+2^40-1+1=AX by omega,show((0:Nat):Int)=0 from rfl,show((0+1:Nat):Int)=((1:Nat):Int)from rfl]at e0;rw[show m+2^40-1-(rs.getD 0 AO).2.2.1.length-1-1+1=m+2^40-1-(rs.getD 0 AO).2.2.1.length-1 by omega]at e1;rw[e0,e1];obtain⟨q,hq⟩:∃q,m+2^40-1-(rs.getD 0 AO).2.2.1.length-1-1-(rs.getD 1 AO).2.2.1.length-1=q+1:=⟨_,(Nat.succ_pred_eq_of_pos (by omega)).symm⟩;rw[hq];have AU9:Dy (q+1) ((1+1:Nat):Int) a0 a1 a2 a3 a4 a5 a6 a7 rs a9 false=some ((true,()),()):=by
   rfl
  grind
end
theorem Uf{R:Type}{L:Nat->Int->Option R}{len E:Nat}{q:Nat->Bool}{e:Nat->Nat}{fin no:Option R}(he:∀i,i<len->e i<=E)(h1:∀i,i<len-> ∀n,E<n->L (n+1) i=cond (q i) (L (n-e i-1) ((i+1:Nat):Int)) no)(h2:∀n,L (n+1) (len:Int)=fin):
  ∀d n i,i+d=len->d*(E+2)<n->L n i=cond (CG q i d) fin no
 |0,n,i,hd,h=>by
  obtain⟨m,rfl⟩:∃m,n=m+1:=⟨n-1,by omega⟩;have:i=len:=by omega
  subst this;rw[h2];rfl
 |d+1,n,i,hd,h=>by
  rw[ATd]at h;obtain⟨m,rfl⟩:∃m,n=m+1:=⟨n-1,by omega⟩;have hi:=he i (by omega);rw[h1 i (by omega) m (by omega)];simp only[CG];cases q i with
  |false=>rfl
  |true=>rw[AJy,Uf he h1 h2 d _ (i+1) (by omega) (by omega),AKB]
theorem cK{d E:Nat}(hd:d<=2^20)(hE:E<=2^20):d*(E+2)<AX:=by
 have h1:d*(E+2)<=2^20*(2^20+2):=ATg hd (by omega);exact Ab (by omega)
def uh:Option Int->List Av->Bool
 |_,[]=>true
 |last,e::l=>cond (BD e.1 1 3) (cond (match last with|some a=>decide (a<e.2.1)|none=>true) (uh (some e.2.1) l) false) (uh last l)
theorem AAD{e:Av}:VG e=some ((BD e.1 1 3,()),()):=by
 grind[VG,BD,decide_eq_false]
theorem jJ{l:List Av}{a b:Int}(hl:l.length<=2^40):∀(n i:Nat) (t:Int) (last:Option Int),i<=l.length->l.length-i<n->((t= -1/\last=none)\/ ∃j:Nat,t=(j:Int)/\j<l.length/\last=some (l.getD j (0,0,[],())).2.1)->
  Lk n t i a b l=some ((uh last (l.drop i),()),())
 |0,i,_,_,_,h,_=>by omega
 |n+1,i,t,last,hi,h,ht=>by
  simp only[Lk,Wx,AB,Yy,BW,AKD];by_cases hc:i<l.length
  ·have hb:(0:Int)<=(i:Int)/\(i:Int)<(l.length:Int):=by omega
   rw[AI9 hb.2,AH (by omega) (by omega),show((i:Int)+1)=((i+1:Nat):Int)by omega];simp only[AI9 hb];rw[drop_cons hc];simp only[uh];have hg:l.getD ((i:Int).toNat) (0,0,[],())=l[i]:=Af hc;have hg2:l.getD i (0,0,[],())=l[i]:=by simp_all
   rw[hg];cases BD l[i].1 1 3 with
   |false=>
    simp only[AOH,AJy,AJQ];exact jJ hl n (i+1) t last (by omega) (by omega) ht
   |true=>
    simp only[AJX,AJy,AJQ];have next:=jJ (a:=a) (b:=b) hl n (i+1) (i:Int) (some l[i].2.1) (by omega) (by omega) (.inr ⟨i,rfl,hc,by rw[hg2]⟩);grind
  ·rw[AJD (by omega),AJm (by omega)]
   rfl
theorem oc{r:Ac}(hl:r.2.2.1.length<=2^40):QN r=some ((uh none r.2.2.1,()),()):=by
 unfold QN XB;have:=jJ (a:=r.1) (b:=r.2.1) hl AX 0 (-1) none (by omega) (Ab (by omega)) (.inl ⟨rfl,rfl⟩);simp_all
def Og(w:AA):Bool:=C9 w&&(uh none (w.2.2.2.2.2.2.2.2.1.getD 0 AO).2.2.1&&uh none (w.2.2.2.2.2.2.2.2.1.getD 1 AO).2.2.1)
section
variable{w:AA} (h:lq w)
include h
theorem jZ:QX w=some ((Og w,()),()):=by
 unfold QX Og;rw[GS w,IP h];simp only[AKD];rcases AIn (C9 w)with DX|DX
 rotate_left
 ·simp_all
 rw[DX];have h2:=Ep DX;have o0:=h.out (i:=0) (by omega);have o1:=h.out (i:=1) (by omega);simp only[AJy,AKB];rw[AI9 (by omega),AI9 (by omega)];rw[show((w.2.2.2.2.2.2.2.2.1.getD 0 (0,0,[],())).1,(w.2.2.2.2.2.2.2.2.1.getD 0 (0,0,[],())).2.1,(w.2.2.2.2.2.2.2.2.1.getD 0 (0,0,[],())).2.2.1,())=w.2.2.2.2.2.2.2.2.1.getD 0 AO from rfl,show((w.2.2.2.2.2.2.2.2.1.getD 1 (0,0,[],())).1,(w.2.2.2.2.2.2.2.2.1.getD 1 (0,0,[],())).2.1,(w.2.2.2.2.2.2.2.2.1.getD 1 (0,0,[],())).2.2.1,())=w.2.2.2.2.2.2.2.2.1.getD 1 AO from rfl];rw[oc (by omega),oc (by omega)];grind
theorem jK:QW w=some ((Og w,()),()):=by
 have k2:=h.LN;unfold QW T1 Og;have hW:=Fj h;have o:=fun i hi=>h.out (i:=i) hi
 have inner:∀(i:Nat),i<w.2.2.2.2.2.2.2.2.1.length-> ∀(n j:Nat) (t:Int) (g:Bool) (last:Option Int),j<=(w.2.2.2.2.2.2.2.2.1.getD i AO).2.2.1.length->(w.2.2.2.2.2.2.2.2.1.getD i AO).2.2.1.length-j<n->((g=false/\last=none)\/(g=true/\last=some t))->
   G9 n t g w.2.2.2.2.2.2.2.2.1 w.2.2.2.2.2.2.2.2.1.length i (w.2.2.2.2.2.2.2.2.1.getD i AO).2.2.1 (w.2.2.2.2.2.2.2.2.1.getD i AO).2.2.1.length j w.1 w.2.1 w.2.2.1 w.2.2.2.1 w.2.2.2.2.1 w.2.2.2.2.2.1 w.2.2.2.2.2.2.1 w.2.2.2.2.2.2.2.1 w.2.2.2.2.2.2.2.2.1 w.2.2.2.2.2.2.2.2.2.1 w.2.2.2.2.2.2.2.2.2.2.1=
    cond (uh last ((w.2.2.2.2.2.2.2.2.1.getD i AO).2.2.1.drop j)) (Ef (n-((w.2.2.2.2.2.2.2.2.1.getD i AO).2.2.1.length-j)-1) w.2.2.2.2.2.2.2.2.1 w.2.2.2.2.2.2.2.2.1.length ((i+1:Nat):Int) w.1 w.2.1 w.2.2.1 w.2.2.2.1 w.2.2.2.2.1 w.2.2.2.2.2.1 w.2.2.2.2.2.2.1 w.2.2.2.2.2.2.2.1 w.2.2.2.2.2.2.2.2.1 w.2.2.2.2.2.2.2.2.2.1 w.2.2.2.2.2.2.2.2.2.2.1) (some ((false,()),())):=by
  intro i hi;have ho:=o i hi
  generalize (w.2.2.2.2.2.2.2.2.1.getD i AO).2.2.1=l at ho
  intro n
  induction n with
  |zero=>omega
  |succ n ih=>
   intro j t g last hj hn ht;simp only[G9,T3,AB];by_cases hc:j<l.length
   ·rw[AI9 (by omega),AI9 (by omega),AH (x:=(j:Int)+1) (by omega) (by omega),show((j:Int)+1)=((j+1:Nat):Int)by omega,Af hc,drop_cons hc,N_ (l[j]),AAD]
    simp only[AKD,uh];rw[show n+1-(l.length-j)-1=n-(l.length-(j+1))-1 by omega];cases BD l[j].1 1 3 with
    |false=>
     simp only[AOH,AJy,AJQ];exact ih (j+1) t g last (by omega) (by omega) ht
    |true=>
     simp only[AJX,AJy,AJQ];have next:=ih (j+1) l[j].2.1 true (some l[j].2.1) (by omega) (by omega) (.inr ⟨rfl,rfl⟩);grind
   ·rw[AJD (by omega),AH (by omega) (by omega),show((i:Int)+1)=((i+1:Nat):Int)by omega,AJm (by omega),show n+1-(l.length-j)-1=n by omega]
    rfl
 have outer:=Uf (L:=fun n i=>Ef n w.2.2.2.2.2.2.2.2.1 w.2.2.2.2.2.2.2.2.1.length i w.1 w.2.1 w.2.2.1 w.2.2.2.1 w.2.2.2.2.1 w.2.2.2.2.2.1 w.2.2.2.2.2.2.1 w.2.2.2.2.2.2.2.1 w.2.2.2.2.2.2.2.2.1 w.2.2.2.2.2.2.2.2.2.1 w.2.2.2.2.2.2.2.2.2.2.1) (len:=w.2.2.2.2.2.2.2.2.1.length) (E:=2^20) (q:=fun i=>uh none (w.2.2.2.2.2.2.2.2.1.getD i AO).2.2.1) (e:=fun i=>(w.2.2.2.2.2.2.2.2.1.getD i AO).2.2.1.length) (fin:=some ((C9 w,()),())) (no:=some ((false,()),())) (fun i hi=>o i hi) (fun i hi n hn=>by
   have ho:=o i hi;simp only[Ef,NO,AB];rw[AI9 (by omega),AI9 (by omega),AJT];have:=inner i hi n 0 0 false none (by omega) (by omega) (.inl ⟨rfl,rfl⟩);simp_all) (fun n=>by
   simp only[Ef,NO,AB];simp_all) w.2.2.2.2.2.2.2.2.1.length AX 0 (by omega) (cK (by omega) (by omega))
 rw[show((0:Nat):Int)=0 from rfl]at outer;refine Eq.trans outer ?_
 rcases AIn (C9 w)with DX|DX
 ·rw[DX,Ep DX]
  simp only[CG,AKB,AO0];grind
 simp_all
end
def zC(p:Int):List Aj->List UInt8×Bool
 |[]=>([],false)
 |s::l=>cond (s.1==p) (s.2.1,true) (zC p l)
section
variable{w:AA} (h:lq w)
include h
end
def anyS(p:Int)(d:AAZ):List Aj->Bool
 |[]=>false
 |s::l=>(s.1==p&&s.2.1==d)||anyS p d l
theorem yo{p:Int}{d:AAZ}:∀{l:List Aj},(∀s∈l,s.1≠p)->anyS p d l=false
 |[],_=>rfl
 |s::l,h=>by
  have h1:(s.1==p)=false:=by simp_all
  simp only[anyS,h1,AOw,ANG];exact yo fun x hx=>h x (by simp[hx])
theorem yn{p:Int}{d:AAZ}:∀{l:List Aj},l.Pairwise (fun a b=>a.1<b.1)->anyS p d l=((zC p l).2&&(zC p l).1==d)
 |[],_=>rfl
 |s::l,h=>by
  obtain⟨h1,h2⟩:=AOK.1 h;simp only[anyS,zC];by_cases hp:s.1=p
  ·grind[yo]
  ·have e1:(s.1==p)=false:=by simp[hp]
   rw[e1,yn h2];simp
theorem k_{w:AA}(h:C9 w=true):om w=true:=by
 simp only[C9,AJR,AJr]at h;simp_all
theorem ADk{w:AA}(h:om w=true):w.2.2.2.2.2.2.2.2.2.1.Pairwise (fun a b=>a.1<b.1):=by
 have step:∀i,i+1<w.2.2.2.2.2.2.2.2.2.1.length->(w.2.2.2.2.2.2.2.2.2.1.getD i HQ).1<(w.2.2.2.2.2.2.2.2.2.1.getD (i+1) HQ).1:=fun i hi=>by
  have:=Mg h (i+1) (by omega) (by omega);simp only[ny,AJR,AOy,AJr,APF]at this;simp_all
 generalize w.2.2.2.2.2.2.2.2.2.1=l at step
 rw[ATG];intro i j hi hj hij;have key:∀d,i+d+1<l.length->(l.getD i HQ).1<(l.getD (i+d+1) HQ).1:=by
  intro d
  induction d with
  |zero=>grind
  |succ d ih=>
   grind
 have:=key (j-i-1) (by omega);grind
theorem ADC{w:AA}{p:Int}(hl:w.2.2.2.2.2.2.2.2.2.1.length<=2^40):Z0 w p=some ((((zC p w.2.2.2.2.2.2.2.2.2.1).1,(zC p w.2.2.2.2.2.2.2.2.2.1).2,()),()),()):=by
 unfold Z0 aN
 generalize w.2.2.2.2.2.2.2.2.2.1=l at hl
 have key:∀(n i:Nat),i<=l.length->l.length-i<n->O6 n p l l.length i=some ((((zC p (l.drop i)).1,(zC p (l.drop i)).2,()),()),()):=by
  intro n
  induction n with
  |zero=>omega
  |succ n ih=>
   intro i hi h;simp only[O6,aK,AB];by_cases hc:i<l.length
   ·rw[AI9 (by omega),AI9 (by omega),AH (by omega) (by omega),show((i:Int)+1)=((i+1:Nat):Int)by omega,Af hc,drop_cons hc,ih (i+1) (by omega) (by omega)]
    simp only[zC];cases l[i].1==p<;>rfl
   ·rw[AJD (by omega),AJm (by omega)]
    rfl
 grind[AX,Ab]
theorem AA7{w:AA}{e:Av}(hl:w.2.2.2.2.2.2.2.2.2.1.length<=2^40):XJ w e=some ((anyS e.2.1 e.2.2.1 w.2.2.2.2.2.2.2.2.2.1,()),()):=by
 unfold XJ X9
 generalize w.2.2.2.2.2.2.2.2.2.1=l at hl
 have key:∀(n i:Nat),i<=l.length->l.length-i<n->M1 n i w.1 w.2.1 w.2.2.1 w.2.2.2.1 w.2.2.2.2.1 w.2.2.2.2.2.1 w.2.2.2.2.2.2.1 w.2.2.2.2.2.2.2.1 w.2.2.2.2.2.2.2.2.1 l w.2.2.2.2.2.2.2.2.2.2.1 e.1 e.2.1 e.2.2.1=some ((anyS e.2.1 e.2.2.1 (l.drop i),()),()):=by
  intro n
  induction n with
  |zero=>omega
  |succ n ih=>
   intro i hi h;simp only[M1,Yj,AB];by_cases hc:i<l.length
   ·have hb:(0:Int)<=(i:Int)/\(i:Int)<(l.length:Int):=by omega
    rw[AI9 hb.2,AH (by omega) (by omega),show((i:Int)+1)=((i+1:Nat):Int)by omega];simp only[AI9 hb];rw[Af hc,drop_cons hc,ih (i+1) (by omega) (by omega)];simp only[anyS];cases l[i].1==e.2.1<;>cases l[i].2.1==e.2.2.1<;>rfl
   ·rw[AJD (by omega),AJm (by omega)]
    rfl
 grind[AX,Ab]
def zf(ss:List Aj)(e:Av):Bool:= !(e.1==1)||((zC e.2.1 ss).2&&(zC e.2.1 ss).1==e.2.2.1)
def ACu(ss:List Aj)(l:List Av):Bool:=CG (fun j=>zf ss (l.getD j Ec)) 0 l.length
def Rq(w:AA):Bool:=C9 w&&(ACu w.2.2.2.2.2.2.2.2.2.1 (w.2.2.2.2.2.2.2.2.1.getD 0 AO).2.2.1&&ACu w.2.2.2.2.2.2.2.2.2.1 (w.2.2.2.2.2.2.2.2.1.getD 1 AO).2.2.1)
section
variable{w:AA} (h:lq w)
include h
theorem j6:Sb w=some ((Rq w,()),()):=by
 have k2:=h.LN;unfold Sb Va Rq;have hW:=Fj h;have o:=fun i hi=>h.out (i:=i) hi
 have outer:=Uf (L:=fun n i=>FN n w.2.2.2.2.2.2.2.2.1 w.2.2.2.2.2.2.2.2.1.length i w.1 w.2.1 w.2.2.1 w.2.2.2.1 w.2.2.2.2.1 w.2.2.2.2.2.1 w.2.2.2.2.2.2.1 w.2.2.2.2.2.2.2.1 w.2.2.2.2.2.2.2.2.1 w.2.2.2.2.2.2.2.2.2.1 w.2.2.2.2.2.2.2.2.2.2.1) (len:=w.2.2.2.2.2.2.2.2.1.length) (E:=2^20) (q:=fun i=>ACu w.2.2.2.2.2.2.2.2.2.1 (w.2.2.2.2.2.2.2.2.1.getD i AO).2.2.1) (e:=fun i=>(w.2.2.2.2.2.2.2.2.1.getD i AO).2.2.1.length) (fin:=some ((C9 w,()),())) (no:=some ((false,()),())) (fun i hi=>o i hi) (fun i hi n hn=>by
   have ho:=o i hi;simp only[FN,Oa,AB];rw[AI9 (by omega),AI9 (by omega),AJT];have:=Vi (L:=fun n j=>Gc n w.2.2.2.2.2.2.2.2.1 w.2.2.2.2.2.2.2.2.1.length i (w.2.2.2.2.2.2.2.2.1.getD i AO).2.2.1 (w.2.2.2.2.2.2.2.2.1.getD i AO).2.2.1.length j w.1 w.2.1 w.2.2.1 w.2.2.2.1 w.2.2.2.2.1 w.2.2.2.2.2.1 w.2.2.2.2.2.2.1 w.2.2.2.2.2.2.2.1 w.2.2.2.2.2.2.2.2.1 w.2.2.2.2.2.2.2.2.2.1 w.2.2.2.2.2.2.2.2.2.2.1) (len:=(w.2.2.2.2.2.2.2.2.1.getD i AO).2.2.1.length) (p:=fun j=>zf w.2.2.2.2.2.2.2.2.2.1 ((w.2.2.2.2.2.2.2.2.1.getD i AO).2.2.1.getD j Ec)) (K:=fun n=>FN n w.2.2.2.2.2.2.2.2.1 w.2.2.2.2.2.2.2.2.1.length ((i+1:Nat):Int) w.1 w.2.1 w.2.2.1 w.2.2.2.1 w.2.2.2.2.1 w.2.2.2.2.2.1 w.2.2.2.2.2.2.1 w.2.2.2.2.2.2.2.1 w.2.2.2.2.2.2.2.2.1 w.2.2.2.2.2.2.2.2.2.1 w.2.2.2.2.2.2.2.2.2.2.1) (no:=some ((false,()),())) (fun n j hj=>by
    simp only[Gc,PB,AB,zf];rw[AI9 (by omega),AI9 (by omega),AJT,AH (by omega) (by omega),show((j:Int)+1)=((j+1:Nat):Int)by omega,GS w,ADC (by omega)];grind) (fun n=>by
    simp only[Gc,PB,AB];rw[AJD (by omega),AH (by omega) (by omega),show((i:Int)+1)=((i+1:Nat):Int)by omega]) (w.2.2.2.2.2.2.2.2.1.getD i AO).2.2.1.length n 0 (by omega) (by omega)
   exact this) (fun n=>by
   simp only[FN,Oa,AB];simp_all) w.2.2.2.2.2.2.2.2.1.length AX 0 (by omega) (cK (by omega) (by omega))
 rw[show((0:Nat):Int)=0 from rfl]at outer;refine Eq.trans outer ?_
 rcases AIn (C9 w)with DX|DX
 ·rw[DX,Ep DX]
  simp only[CG,AKB,AO0];grind
 simp_all
theorem lJ:SE w=some ((Rq w,()),()):=by
 have k2:=h.LN;unfold SE WC Rq;rw[GS w,IP h];simp only[AKD];rcases AIn (C9 w)with DX|DX
 rotate_left
 ·simp_all
 rw[DX];simp only[AJX,AJQ,AKB];have h2:=Ep DX;have ABm:=ADk (k_ DX);have o:=fun i hi=>h.out (i:=i) hi
 have outer:=Uf (L:=fun n i=>GY n i w.1 w.2.1 w.2.2.1 w.2.2.2.1 w.2.2.2.2.1 w.2.2.2.2.2.1 w.2.2.2.2.2.2.1 w.2.2.2.2.2.2.2.1 w.2.2.2.2.2.2.2.2.1 w.2.2.2.2.2.2.2.2.2.1 w.2.2.2.2.2.2.2.2.2.2.1) (len:=2) (E:=2^20) (q:=fun i=>ACu w.2.2.2.2.2.2.2.2.2.1 (w.2.2.2.2.2.2.2.2.1.getD i AO).2.2.1) (e:=fun i=>(w.2.2.2.2.2.2.2.2.1.getD i AO).2.2.1.length) (fin:=some ((true,()),())) (no:=some ((false,()),())) (fun i hi=>o i (by omega)) (fun i hi n hn=>by
   have ho:=o i (by omega);have hb:(0:Int)<=(i:Int)/\(i:Int)<(w.2.2.2.2.2.2.2.2.1.length:Int):=by omega
   have hd:(w.2.2.2.2.2.2.2.2.1.getD i (0,0,[],())).2.2.1.length=(w.2.2.2.2.2.2.2.2.1.getD i AO).2.2.1.length:=rfl;simp only[GY,V5,AB];rw[AI9 (by omega)];have:=Vi (L:=fun n j=>Gj n i j w.1 w.2.1 w.2.2.1 w.2.2.2.1 w.2.2.2.2.1 w.2.2.2.2.2.1 w.2.2.2.2.2.2.1 w.2.2.2.2.2.2.2.1 w.2.2.2.2.2.2.2.2.1 w.2.2.2.2.2.2.2.2.2.1 w.2.2.2.2.2.2.2.2.2.2.1) (len:=(w.2.2.2.2.2.2.2.2.1.getD i AO).2.2.1.length) (p:=fun j=>zf w.2.2.2.2.2.2.2.2.2.1 ((w.2.2.2.2.2.2.2.2.1.getD i AO).2.2.1.getD j Ec)) (K:=fun n=>GY n ((i+1:Nat):Int) w.1 w.2.1 w.2.2.1 w.2.2.2.1 w.2.2.2.2.1 w.2.2.2.2.2.1 w.2.2.2.2.2.2.1 w.2.2.2.2.2.2.2.1 w.2.2.2.2.2.2.2.2.1 w.2.2.2.2.2.2.2.2.2.1 w.2.2.2.2.2.2.2.2.2.2.1) (no:=some ((false,()),())) (fun n j hj=>by
    simp only[Gj,Oq,AB,zf];simp only[AI9 hb,AJT];rw[AI9 (by omega),AI9 (by omega),AH (by omega) (by omega),show((j:Int)+1)=((j+1:Nat):Int)by omega,GS w,AA7 (by omega)];simp only[AKD];rw[yn ABm];grind) (fun n=>by
    simp only[Gj,Oq,AB];simp only[AI9 hb,AJT];rw[AJD (by omega),AH (by omega) (by omega),show((i:Int)+1)=((i+1:Nat):Int)by omega]) (w.2.2.2.2.2.2.2.2.1.getD i AO).2.2.1.length n 0 (by omega) (by omega)
   exact this) (fun n=>by
   rfl) 2 AX 0 (by omega) (cK (by omega) (by omega))
 rw[show((0:Nat):Int)=0 from rfl]at outer;refine Eq.trans outer ?_
 simp only[CG,AO0];grind
end
def e9(p:Int):List Av->List UInt8×Bool
 |[]=>([],false)
 |e::l=>cond (e.1==1&&e.2.1==p) (e.2.2.1,true) (e9 p l)
theorem dK{r:Ac}{p:Int}(hl:r.2.2.1.length<=2^40):Ui r p=some ((((e9 p r.2.2.1).1,(e9 p r.2.2.1).2,()),()),()):=by
 unfold Ui dz
 generalize r.2.2.1=l at hl
 have key:∀(n i:Nat),i<=l.length->l.length-i<n->Sj n p l l.length i=some ((((e9 p (l.drop i)).1,(e9 p (l.drop i)).2,()),()),()):=by
  intro n
  induction n with
  |zero=>omega
  |succ n ih=>
   intro i hi h;simp only[Sj,dv,AB];by_cases hc:i<l.length
   ·rw[AI9 (by omega),AI9 (by omega),AH (by omega) (by omega),show((i:Int)+1)=((i+1:Nat):Int)by omega,Af hc,drop_cons hc,ih (i+1) (by omega) (by omega)]
    simp only[e9];cases l[i].1==1<;>cases l[i].2.1==p<;>rfl
   ·rw[AJD (by omega),AJm (by omega)]
    rfl
 grind[AX,Ab]
theorem dN{r:Ac}{p:Int}(hl:r.2.2.1.length<=2^40):Mc r p=some ((((e9 p r.2.2.1).1,(e9 p r.2.2.1).2,()),()),()):=by
 unfold Mc YQ
 generalize r.2.2.1=l at hl
 have key:∀(n i:Nat),i<=l.length->l.length-i<n->Mp n p i r.1 r.2.1 l=some ((((e9 p (l.drop i)).1,(e9 p (l.drop i)).2,()),()),()):=by
  intro n
  induction n with
  |zero=>omega
  |succ n ih=>
   intro i hi h;simp only[Mp,X4,AB];by_cases hc:i<l.length
   ·have hb:(0:Int)<=(i:Int)/\(i:Int)<(l.length:Int):=by omega
    rw[AI9 hb.2,AH (by omega) (by omega),show((i:Int)+1)=((i+1:Nat):Int)by omega];simp only[AI9 hb];rw[Af hc,drop_cons hc,ih (i+1) (by omega) (by omega)];simp only[e9];cases l[i].1==1<;>cases l[i].2.1==p<;>rfl
   ·rw[AJD (by omega),AJm (by omega)]
    rfl
 grind[AX,Ab]
def ahead(p:Int)(r:Ac):Bool:=cond (decide (AZ p<r.1)) true (cond (AZ p==r.1) (decide (Bl p<r.2.1)) false)
theorem jb{p:Int}{r:Ac}(hp:CN p):Ie p r=some ((ahead p r,()),()):=by
 grind[Ie,ahead,Dg,QF,decide,AZ]
theorem yF{r:Ac}(h:SK r=true):(1<=r.1/\r.1<=31)/\(1<=r.2.1/\r.2.1<=61):=by
 simp only[SK,BD,AJR,AJr]at h;omega
theorem y6{p:Int}(h:Aq p=true):p=4294967296*AZ p+Bl p/\(1<=AZ p/\AZ p<=30)/\(1<=Bl p/\Bl p<=60):=by
 have hr:=bE.1 h;have ho:Bl p=p.tmod 4294967296:=by grind[Bl]
 have he:AZ p=SD p:=by unfold AZ;rw[AI9 h]
 have h2:=h;simp only[Aq,BD,AJR,AJr]at h2;grind[SD,Int.mul_tdiv_add_tmod]
theorem mM{p:Int}{r:Ac}(hr:SK r=true)(hp:Aq p=true):Ht r p=some ((ahead p r,()),()):=by
 obtain⟨h1,h2⟩:=yF hr;grind[y6,Ht,De,ahead,AH,AZ,decide_eq_true,decide_eq_false,Bl]
def zm(trim:Int)(r:Ac)(s:Aj):Bool:= !(s.2.2.1&&(decide (trim<s.1)&&ahead s.1 r))||(e9 s.1 r.2.2.1).2
def ACq(trim:Int)(ss:List Aj)(r:Ac):Bool:=CG (fun j=>zm trim r (ss.getD j HQ)) 0 ss.length
def Rc(w:AA):Bool:=C9 w&&(w.2.2.2.2.2.2.2.2.2.2.1||(ACq w.2.2.2.2.2.1 w.2.2.2.2.2.2.2.2.2.1 (w.2.2.2.2.2.2.2.2.1.getD 0 AO)&&ACq w.2.2.2.2.2.1 w.2.2.2.2.2.2.2.2.2.1 (w.2.2.2.2.2.2.2.2.1.getD 1 AO)))
theorem fF{w:AA}(h:C9 w=true){i:Nat}(hi:i<2):SK (w.2.2.2.2.2.2.2.2.1.getD i AO)=true:=by
 simp only[C9,Yx,AJR,AJr]at h;grind
theorem uo{w:AA}(h:C9 w=true){j:Nat}(hj:j<w.2.2.2.2.2.2.2.2.2.1.length):Aq (w.2.2.2.2.2.2.2.2.2.1.getD j HQ).1=true:=by
 have:=Mg (k_ h) j (by omega) (by omega);simp only[ny,AJR]at this;simp_all
section
variable{w:AA} (h:lq w)
include h
theorem kc:SL w=some ((Rc w,()),()):=by
 have k2:=h.LN;unfold SL WD Rc;rw[GS w,Fj h];simp only[AKD];rcases AIn (C9 w)with DX|DX
 rotate_left
 ·simp_all
 rw[DX];simp only[AJX,AJQ,AKB];have h2:=Ep DX;have o:=fun i hi=>h.out (i:=i) hi
 have Pu:=fun j hj=>h.AOO _ (Bh (d:=HQ) (i:=j) hj)
 have outer:=Uf (L:=fun n i=>FI n w.2.2.2.2.2.2.2.2.1 w.2.2.2.2.2.2.2.2.1.length i w.1 w.2.1 w.2.2.1 w.2.2.2.1 w.2.2.2.2.1 w.2.2.2.2.2.1 w.2.2.2.2.2.2.1 w.2.2.2.2.2.2.2.1 w.2.2.2.2.2.2.2.2.1 w.2.2.2.2.2.2.2.2.2.1 w.2.2.2.2.2.2.2.2.2.2.1) (len:=w.2.2.2.2.2.2.2.2.1.length) (E:=2^20) (q:=fun i=>ACq w.2.2.2.2.2.1 w.2.2.2.2.2.2.2.2.2.1 (w.2.2.2.2.2.2.2.2.1.getD i AO)) (e:=fun _=>w.2.2.2.2.2.2.2.2.2.1.length) (fin:=some ((true,()),())) (no:=some ((false,()),())) (fun i hi=>by omega) (fun i hi n hn=>by
   have ho:=o i hi;simp only[FI,OL,AB];rw[AI9 (by omega),AI9 (by omega),AJT];have:=Vi (L:=fun n j=>GV n w.2.2.2.2.2.2.2.2.1 w.2.2.2.2.2.2.2.2.1.length i w.2.2.2.2.2.2.2.2.2.1 w.2.2.2.2.2.2.2.2.2.1.length j w.1 w.2.1 w.2.2.1 w.2.2.2.1 w.2.2.2.2.1 w.2.2.2.2.2.1 w.2.2.2.2.2.2.1 w.2.2.2.2.2.2.2.1 w.2.2.2.2.2.2.2.2.1 w.2.2.2.2.2.2.2.2.2.1 w.2.2.2.2.2.2.2.2.2.2.1 (w.2.2.2.2.2.2.2.2.1.getD i AO).1 (w.2.2.2.2.2.2.2.2.1.getD i AO).2.1 (w.2.2.2.2.2.2.2.2.1.getD i AO).2.2.1) (len:=w.2.2.2.2.2.2.2.2.2.1.length) (p:=fun j=>zm w.2.2.2.2.2.1 (w.2.2.2.2.2.2.2.2.1.getD i AO) (w.2.2.2.2.2.2.2.2.2.1.getD j HQ)) (K:=fun n=>FI n w.2.2.2.2.2.2.2.2.1 w.2.2.2.2.2.2.2.2.1.length ((i+1:Nat):Int) w.1 w.2.1 w.2.2.1 w.2.2.2.1 w.2.2.2.2.1 w.2.2.2.2.2.1 w.2.2.2.2.2.2.1 w.2.2.2.2.2.2.2.1 w.2.2.2.2.2.2.2.2.1 w.2.2.2.2.2.2.2.2.2.1 w.2.2.2.2.2.2.2.2.2.2.1) (no:=some ((false,()),())) (fun n j hj=>by
    simp only[GV,Of,zm];rw[show decide ((j:Int)<(w.2.2.2.2.2.2.2.2.2.1.length:Int))=true from ALg (by omega),AJy,AI9 (by omega),AJT,AH (by omega) (by omega),show((j:Int)+1)=((j+1:Nat):Int)by omega];rw[show((w.2.2.2.2.2.2.2.2.1.getD i AO).1,(w.2.2.2.2.2.2.2.2.1.getD i AO).2.1,(w.2.2.2.2.2.2.2.2.1.getD i AO).2.2.1,())=w.2.2.2.2.2.2.2.2.1.getD i AO from rfl];have hs:=Pu j hj
    show(Ui (w.2.2.2.2.2.2.2.2.1.getD i AO) (w.2.2.2.2.2.2.2.2.2.1.getD j HQ).1).bind _=_
    rw[dK (by omega),jb hs];grind) (fun n=>by
    simp only[GV,Of,AB];rw[AJD (by omega),AH (by omega) (by omega),show((i:Int)+1)=((i+1:Nat):Int)by omega]) w.2.2.2.2.2.2.2.2.2.1.length n 0 (by omega) (by omega)
   exact this) (fun n=>by
   simp only[FI,OL,AB];simp_all) w.2.2.2.2.2.2.2.2.1.length AX 0 (by omega) (cK (by omega) (by omega))
 rw[show((0:Nat):Int)=0 from rfl]at outer;revert outer;cases w.2.2.2.2.2.2.2.2.2.2.1 with
 |true=>simp_all
 |false=>
  intro outer;simp only[AJQ,ANG];refine Eq.trans outer ?_
  rw[h2];simp only[CG,AO0];grind
theorem kd:TJ w=some ((Rc w,()),()):=by
 have k2:=h.LN;unfold TJ Vq Rc;rw[GS w,IP h];simp only[AKD];rcases AIn (C9 w)with DX|DX
 rotate_left
 ·simp_all
 rw[DX];simp only[AJX,AJQ,AKB];have h2:=Ep DX;have o:=fun i hi=>h.out (i:=i) hi
 have xp:=fun j hj=>uo DX (j:=j) hj
 have ZN:=fun i hi=>fF DX (i:=i) hi
 cases ht:w.2.2.2.2.2.2.2.2.2.2.1 with
 |true=>
  obtain⟨m,hm⟩:∃m,AX=m+1:=⟨AX-1,by have:=Uw;omega⟩;rw[hm];rfl
 |false=>
  have outer:=Uf (L:=fun n i=>Ge n i w.1 w.2.1 w.2.2.1 w.2.2.2.1 w.2.2.2.2.1 w.2.2.2.2.2.1 w.2.2.2.2.2.2.1 w.2.2.2.2.2.2.2.1 w.2.2.2.2.2.2.2.2.1 w.2.2.2.2.2.2.2.2.2.1 false) (len:=2) (E:=2^20) (q:=fun i=>ACq w.2.2.2.2.2.1 w.2.2.2.2.2.2.2.2.2.1 (w.2.2.2.2.2.2.2.2.1.getD i AO)) (e:=fun _=>w.2.2.2.2.2.2.2.2.2.1.length) (fin:=some ((true,()),())) (no:=some ((false,()),())) (fun i hi=>by omega) (fun i hi n hn=>by
   have ho:=o i (by omega);have hb:(0:Int)<=(i:Int)/\(i:Int)<(w.2.2.2.2.2.2.2.2.1.length:Int):=by omega
   simp only[Ge,WA,AOH,AJy];rw[show decide ((i:Int)<2)=true from ALg (by omega),AJy];have:=Vi (L:=fun n j=>Ga n i j false true w.1 w.2.1 w.2.2.1 w.2.2.2.1 w.2.2.2.2.1 w.2.2.2.2.2.1 w.2.2.2.2.2.2.1 w.2.2.2.2.2.2.2.1 w.2.2.2.2.2.2.2.2.1 w.2.2.2.2.2.2.2.2.2.1 false) (len:=w.2.2.2.2.2.2.2.2.2.1.length) (p:=fun j=>zm w.2.2.2.2.2.1 (w.2.2.2.2.2.2.2.2.1.getD i AO) (w.2.2.2.2.2.2.2.2.2.1.getD j HQ)) (K:=fun n=>Ge n ((i+1:Nat):Int) w.1 w.2.1 w.2.2.1 w.2.2.2.1 w.2.2.2.2.1 w.2.2.2.2.2.1 w.2.2.2.2.2.2.1 w.2.2.2.2.2.2.2.1 w.2.2.2.2.2.2.2.2.1 w.2.2.2.2.2.2.2.2.2.1 false) (no:=some ((false,()),())) (fun n j hj=>by
    simp only[Ga,O3,zm];rw[show decide ((j:Int)<(w.2.2.2.2.2.2.2.2.2.1.length:Int))=true from ALg (by omega),AJy,AI9 (by omega)];simp only[AI9 hb,AJT];rw[AH (by omega) (by omega),show((j:Int)+1)=((j+1:Nat):Int)by omega];have hs:=xp j hj
    show(Mc (w.2.2.2.2.2.2.2.2.1.getD i AO) (w.2.2.2.2.2.2.2.2.2.1.getD j HQ).1).bind (fun u4=>cond _ (cond _ ((Ht (w.2.2.2.2.2.2.2.2.1.getD i AO) (w.2.2.2.2.2.2.2.2.2.1.getD j HQ).1).bind _) _) _)=_
    rw[dN (by omega),mM (ZN i (by omega)) hs];grind) (fun n=>by
    simp only[Ga,O3,AB];rw[AJD (by omega),AH (by omega) (by omega),show((i:Int)+1)=((i+1:Nat):Int)by omega]) w.2.2.2.2.2.2.2.2.2.1.length n 0 (by omega) (by omega)
   exact this) (fun n=>by
   rfl) 2 AX 0 (by omega) (cK (by omega) (by omega))
  rw[show((0:Nat):Int)=0 from rfl]at outer;refine Eq.trans outer ?_
  simp only[CG,AO0,ANG];grind
end
theorem wN{e:Av}:∀{l:List Av},e∈l->e.1=1->(e9 e.2.1 l).2=true
 |x::l,h,h1=>by
  simp only[e9];rcases ALa.1 h with rfl|h
  ·simp_all
  ·have ih:=wN h h1
   grind
def aM(trim:Int)(r0 r1:Ac)(e:Av):Bool:=e.1==1&&(Aq e.2.1&&(decide (trim<e.2.1)&&(ahead e.2.1 r0&&ahead e.2.1 r1)))
def zw(trim:Int)(r0 r1:Ac)(e:Av):Bool:= !aM trim r0 r1 e||(((e9 e.2.1 r0.2.2.1).2==(e9 e.2.1 r1.2.2.1).2)&&((e9 e.2.1 r0.2.2.1).1==(e9 e.2.1 r1.2.2.1).1))
def qj(trim:Int)(r0 r1:Ac)(l:List Av):Bool:=CG (fun j=>zw trim r0 r1 (l.getD j Ec)) 0 l.length
def Uj(w:AA):Bool:=C9 w&&(w.2.2.2.2.2.2.2.2.2.2.1||(qj w.2.2.2.2.2.1 (w.2.2.2.2.2.2.2.2.1.getD 0 AO) (w.2.2.2.2.2.2.2.2.1.getD 1 AO) (w.2.2.2.2.2.2.2.2.1.getD 0 AO).2.2.1&&qj w.2.2.2.2.2.1 (w.2.2.2.2.2.2.2.2.1.getD 0 AO) (w.2.2.2.2.2.2.2.2.1.getD 1 AO) (w.2.2.2.2.2.2.2.2.1.getD 1 AO).2.2.1))
def pg(w:AA):Prop:= ∀r∈w.2.2.2.2.2.2.2.2.1,∀e∈r.2.2.1,CN e.2.1
section
variable{w:AA} (h:lq w) (hev:pg w)
include h hev
theorem kv:TN w=some ((Uj w,()),()):=by
 have k2:=h.LN;unfold TN WH Uj;rw[GS w,Fj h];simp only[AKD];rcases AIn (C9 w)with DX|DX
 rotate_left
 ·simp_all
 rw[DX];simp only[AJX,AJQ,AKB];have h2:=Ep DX;have o:=fun i hi=>h.out (i:=i) hi
 have o0:=o 0 (by omega);have o1:=o 1 (by omega);have b0:(0:Int)<=(0:Int)/\(0:Int)<(w.2.2.2.2.2.2.2.2.1.length:Int):=by omega
 have b1:(0:Int)<=(1:Int)/\(1:Int)<(w.2.2.2.2.2.2.2.2.1.length:Int):=by omega
 have outer:=Uf (L:=fun n i=>FL n w.2.2.2.2.2.2.2.2.1 w.2.2.2.2.2.2.2.2.1.length i w.1 w.2.1 w.2.2.1 w.2.2.2.1 w.2.2.2.2.1 w.2.2.2.2.2.1 w.2.2.2.2.2.2.1 w.2.2.2.2.2.2.2.1 w.2.2.2.2.2.2.2.2.1 w.2.2.2.2.2.2.2.2.2.1 w.2.2.2.2.2.2.2.2.2.2.1) (len:=w.2.2.2.2.2.2.2.2.1.length) (E:=2^20) (q:=fun i=>qj w.2.2.2.2.2.1 (w.2.2.2.2.2.2.2.2.1.getD 0 AO) (w.2.2.2.2.2.2.2.2.1.getD 1 AO) (w.2.2.2.2.2.2.2.2.1.getD i AO).2.2.1) (e:=fun i=>(w.2.2.2.2.2.2.2.2.1.getD i AO).2.2.1.length) (fin:=some ((true,()),())) (no:=some ((false,()),())) (fun i hi=>o i hi) (fun i hi n hn=>by
   have ho:=o i hi;simp only[FL,Ot,AB];rw[AI9 (by omega),AI9 (by omega),AJT];have:=Vi (L:=fun n j=>Gk n w.2.2.2.2.2.2.2.2.1 w.2.2.2.2.2.2.2.2.1.length i (w.2.2.2.2.2.2.2.2.1.getD i AO).2.2.1 (w.2.2.2.2.2.2.2.2.1.getD i AO).2.2.1.length j w.1 w.2.1 w.2.2.1 w.2.2.2.1 w.2.2.2.2.1 w.2.2.2.2.2.1 w.2.2.2.2.2.2.1 w.2.2.2.2.2.2.2.1 w.2.2.2.2.2.2.2.2.1 w.2.2.2.2.2.2.2.2.2.1 w.2.2.2.2.2.2.2.2.2.2.1) (len:=(w.2.2.2.2.2.2.2.2.1.getD i AO).2.2.1.length) (p:=fun j=>zw w.2.2.2.2.2.1 (w.2.2.2.2.2.2.2.2.1.getD 0 AO) (w.2.2.2.2.2.2.2.2.1.getD 1 AO) ((w.2.2.2.2.2.2.2.2.1.getD i AO).2.2.1.getD j Ec)) (K:=fun n=>FL n w.2.2.2.2.2.2.2.2.1 w.2.2.2.2.2.2.2.2.1.length ((i+1:Nat):Int) w.1 w.2.1 w.2.2.1 w.2.2.2.1 w.2.2.2.2.1 w.2.2.2.2.2.1 w.2.2.2.2.2.2.1 w.2.2.2.2.2.2.2.1 w.2.2.2.2.2.2.2.2.1 w.2.2.2.2.2.2.2.2.2.1 w.2.2.2.2.2.2.2.2.2.2.1) (no:=some ((false,()),())) (fun n j hj=>by
    simp only[Gk,OP,zw,aM];rw[show decide ((j:Int)<((w.2.2.2.2.2.2.2.2.1.getD i AO).2.2.1.length:Int))=true from ALg (by omega),AJy,AI9 (by omega),AJT,AH (by omega) (by omega),show((j:Int)+1)=((j+1:Nat):Int)by omega];simp only[AI9 b0,AI9 b1];have hs:CN ((w.2.2.2.2.2.2.2.2.1.getD i AO).2.2.1.getD j (0,0,[],())).2.1:=hev _ (Bh (d:=AO) hi) _ (Bh (d:=Ec) hj);rw[show((w.2.2.2.2.2.2.2.2.1.getD 0 (0,0,[],())).1,(w.2.2.2.2.2.2.2.2.1.getD 0 (0,0,[],())).2.1,(w.2.2.2.2.2.2.2.2.1.getD 0 (0,0,[],())).2.2.1,())=w.2.2.2.2.2.2.2.2.1.getD 0 AO from rfl,show((w.2.2.2.2.2.2.2.2.1.getD 1 (0,0,[],())).1,(w.2.2.2.2.2.2.2.2.1.getD 1 (0,0,[],())).2.1,(w.2.2.2.2.2.2.2.2.1.getD 1 (0,0,[],())).2.2.1,())=w.2.2.2.2.2.2.2.2.1.getD 1 AO from rfl];rw[IL hs,jb hs,jb hs,dK (by omega),dK (by omega)];grind) (fun n=>by
    simp only[Gk,OP,AB];rw[AJD (by omega),AH (by omega) (by omega),show((i:Int)+1)=((i+1:Nat):Int)by omega]) (w.2.2.2.2.2.2.2.2.1.getD i AO).2.2.1.length n 0 (by omega) (by omega)
   exact this) (fun n=>by
   simp only[FL,Ot,AB];simp_all) w.2.2.2.2.2.2.2.2.1.length AX 0 (by omega) (cK (by omega) (by omega))
 rw[show((0:Nat):Int)=0 from rfl]at outer;revert outer;cases w.2.2.2.2.2.2.2.2.2.2.1 with
 |true=>simp_all
 |false=>
  intro outer;simp only[AJQ,ANG];refine Eq.trans outer ?_
  rw[h2];simp only[CG,AO0];grind
omit h hev in
theorem oE{a b:Ac}(ha:a.2.2.1.length<=2^20)(hb2:b.2.2.1.length<=2^20)(ra:SK a=true)(rb:SK b=true)(Pu:∀e∈a.2.2.1,CN e.2.1):
  QG w a b=some ((CG (fun j=> !aM w.2.2.2.2.2.1 a b (a.2.2.1.getD j Ec)||((e9 (a.2.2.1.getD j Ec).2.1 b.2.2.1).2&&((e9 (a.2.2.1.getD j Ec).2.1 b.2.2.1).1==(e9 (a.2.2.1.getD j Ec).2.1 a.2.2.1).1))) 0 a.2.2.1.length,()),()):=by
 unfold QG XA;have key:=FT (L:=fun n j=>JQ n j w.1 w.2.1 w.2.2.1 w.2.2.2.1 w.2.2.2.2.1 w.2.2.2.2.2.1 w.2.2.2.2.2.2.1 w.2.2.2.2.2.2.2.1 w.2.2.2.2.2.2.2.2.1 w.2.2.2.2.2.2.2.2.2.1 w.2.2.2.2.2.2.2.2.2.2.1 a.1 a.2.1 a.2.2.1 b.1 b.2.1 b.2.2.1) (len:=a.2.2.1.length) (p:=fun j=> !aM w.2.2.2.2.2.1 a b (a.2.2.1.getD j Ec)||((e9 (a.2.2.1.getD j Ec).2.1 b.2.2.1).2&&((e9 (a.2.2.1.getD j Ec).2.1 b.2.2.1).1==(e9 (a.2.2.1.getD j Ec).2.1 a.2.2.1).1))) (fin:=true) (fun n j hj=>by
  simp only[JQ,P8,aM];rw[show decide ((j:Int)<(a.2.2.1.length:Int))=true from ALg (by omega),AJy,AI9 (by omega),AJT,AH (by omega) (by omega),show((j:Int)+1)=((j+1:Nat):Int)by omega];rw[N_ a,N_ b];have hs:CN (a.2.2.1.getD j (0,0,[],())).2.1:=Pu _ (Bh (d:=Ec) hj);rw[Er hs,dN (by omega),dN (by omega),ACg];simp only[AKD,bne]
  show cond (!((a.2.2.1.getD j Ec).1==1)) _ (cond (!Aq (a.2.2.1.getD j Ec).2.1) _ (cond (!decide (w.2.2.2.2.2.1<(a.2.2.1.getD j Ec).2.1)) _ ((Ht a (a.2.2.1.getD j Ec).2.1).bind _)))=_
  generalize a.2.2.1.getD j Ec=e
  cases e.1==1 with
  |false=>rfl
  |true=>
   rcases AIn (Aq e.2.1)with hp|hp
   rotate_left
   ·rw[hp];rfl
   rw[hp,mM ra hp,mM rb hp];simp only[AKD];cases decide (w.2.2.2.2.2.1<e.2.1)<;>cases ahead e.2.1 a<;>cases ahead e.2.1 b<;>(try rfl)<;>cases(e9 e.2.1 b.2.2.1).2<;>cases((e9 e.2.1 b.2.2.1).1==(e9 e.2.1 a.2.2.1).1)<;>rfl) (fun n=>by
  simp only[JQ,P8,AB];rw[AJD (by omega)]) a.2.2.1.length AX 0 (by omega) (Ab (by omega))
 rw[show((0:Nat):Int)=0 from rfl]at key;rw[key,AO0]
theorem ku:Sr w=some ((Uj w,()),()):=by
 unfold Sr Uj;rw[GS w,IP h];simp only[AKD];rcases AIn (C9 w)with DX|DX
 rotate_left
 ·simp_all
 rw[DX];simp only[AJX,AJQ,AKB];have h2:=Ep DX;have b0:(0:Int)<=(0:Int)/\(0:Int)<(w.2.2.2.2.2.2.2.2.1.length:Int):=by omega
 have b1:(0:Int)<=(1:Int)/\(1:Int)<(w.2.2.2.2.2.2.2.2.1.length:Int):=by omega
 simp only[AI9 b0,AI9 b1];rw[show((w.2.2.2.2.2.2.2.2.1.getD 0 (0,0,[],())).1,(w.2.2.2.2.2.2.2.2.1.getD 0 (0,0,[],())).2.1,(w.2.2.2.2.2.2.2.2.1.getD 0 (0,0,[],())).2.2.1,())=w.2.2.2.2.2.2.2.2.1.getD 0 AO from rfl,show((w.2.2.2.2.2.2.2.2.1.getD 1 (0,0,[],())).1,(w.2.2.2.2.2.2.2.2.1.getD 1 (0,0,[],())).2.1,(w.2.2.2.2.2.2.2.2.1.getD 1 (0,0,[],())).2.2.1,())=w.2.2.2.2.2.2.2.2.1.getD 1 AO from rfl];have o0:=h.out (i:=0) (by omega);have o1:=h.out (i:=1) (by omega);have r0:=fF DX (i:=0) (by omega);have r1:=fF DX (i:=1) (by omega);have i0:=hev _ (Bh (d:=AO) (i:=0) (by omega:0<w.2.2.2.2.2.2.2.2.1.length));have i1:=hev _ (Bh (d:=AO) (i:=1) (by omega:1<w.2.2.2.2.2.2.2.2.1.length));rw[oE o0 o1 r0 r1 i0,oE o1 o0 r1 r0 i1];simp only[AKD]
 generalize w.2.2.2.2.2.2.2.2.1.getD 0 AO=a at o0 r0 i0
 generalize w.2.2.2.2.2.2.2.2.1.getD 1 AO=b at o1 r1 i1
 have e1:CG (fun j=> !aM w.2.2.2.2.2.1 a b (a.2.2.1.getD j Ec)||((e9 (a.2.2.1.getD j Ec).2.1 b.2.2.1).2&&((e9 (a.2.2.1.getD j Ec).2.1 b.2.2.1).1==(e9 (a.2.2.1.getD j Ec).2.1 a.2.2.1).1))) 0 a.2.2.1.length=qj w.2.2.2.2.2.1 a b a.2.2.1:=by
  unfold qj;refine av fun j _ hj=> ?_
  have hm:=Bh (d:=Ec) (by omega:j<a.2.2.1.length)
  generalize a.2.2.1.getD j Ec=e at hm
  unfold zw;rcases AIn (aM w.2.2.2.2.2.1 a b e)with hb|hb
  ·have hk:e.1=1:=by
    simp only[aM,AJR,APF]at hb;omega
   grind[wN,BEq.comm,e9]
  simp_all
 have e2:CG (fun j=> !aM w.2.2.2.2.2.1 b a (b.2.2.1.getD j Ec)||((e9 (b.2.2.1.getD j Ec).2.1 a.2.2.1).2&&((e9 (b.2.2.1.getD j Ec).2.1 a.2.2.1).1==(e9 (b.2.2.1.getD j Ec).2.1 b.2.2.1).1))) 0 b.2.2.1.length=qj w.2.2.2.2.2.1 a b b.2.2.1:=by
  unfold qj;refine av fun j _ hj=> ?_
  have hm:=Bh (d:=Ec) (by omega:j<b.2.2.1.length)
  generalize b.2.2.1.getD j Ec=e at hm
  unfold zw;have hc:aM w.2.2.2.2.2.1 b a e=aM w.2.2.2.2.2.1 a b e:=by
   grind[aM,Bool.and_comm,ahead]
  rw[hc];rcases AIn (aM w.2.2.2.2.2.1 a b e)with hb|hb
  ·have hk:e.1=1:=by
    simp only[aM,AJR,APF]at hb;omega
   grind[wN,e9]
  simp_all
 grind
end
end Go.M
end
section
namespace Go.M
open Go.M.H (AJ AL Az Aj AA C7 AN BR AR Ac Av BG Al)
def Gv(e o:Int):Int:=4294967296*e+o
def D1(e o:Int):Int:=if BD e 1 30&&BD o 1 60 then Gv e o else 0
def jl(x:Int):List Int->List Int
 |[]=>[x]
 |y::l=>if x<y then x::y::l else y::jl x l
def N9(x:Int)(l:AAN):AAN:=if l.contains x then l else jl x l
def less(l m:AAN):AAN:=l.filter fun x=> !m.contains x
def Q4(c:CK)(s l:AAN):Bool:=holds c s&&(A_ c l&&(l.all s.contains&& !holds c (less s l)))
def BL(k:Int):AAN:=if BD k 0 255 then([0,1,2,3,4,5,6,7]:AAN).filter fun i=>(k/2^i.toNat)%2==1 else[]
def better(a b:AJ):AJ:=if b.2.1>a.2.1 then b else a
def keep(e:AJ):List AJ->List AJ
 |[]=>[e]
 |x::l=>if x.1=e.1 then better x e::l else if x.1>e.1 then e::x::l else x::keep e l
def EB:List AJ->List AJ->List AJ
 |k,[]=>k
 |k,e::l=>EB (keep e k) l
def Mi(k:Int):Nat->List AJ->List AJ
 |_,[]=>[]
 |i,e::l=>if(k/2^i)%2=1 then e::Mi k (i+1) l else Mi k (i+1) l
def OV(p:Int)(l:List AJ):Option AJ:=l.find? fun e=>e.1==p
def takes(s:AL)(e:AJ):Bool:=if e.2.1=0 then decide (AZ e.1>s.2.2.1)else decide (e.2.1>s.2.2.1)
def KS(s:AL)(e:AJ):AL×Bool:=
 if !CA s then(Dm,false)else if Fg e&&(takes s e&&decide (s.2.1.length≠20))then((s.1,s.2.1++[e],s.2.2.1,()),true)else(s,false)
def Fl(s:AL)(k:Int):AL×Bool:=
 if !CA s then(Dm,false)else
  let q:=EB s.1 (Mi k 0 s.2.1)
  if BD k 0 1048575&&decide (q.length<=200)then((q,[],s.2.2.1,()),true)else(s,false)
def Ct(s:AL):AL×Bool:=Fl s 1048575
def Bw(s:AL)(upto:Int):AL×Bool:=
 if !CA s then(Dm,false)else
  let o:=Ct s
  if o.2&&BD upto 0 30 then((o.1.1,o.1.2.1,max o.1.2.2.1 upto,()),true)else(s,false)
def Yt(s:AL)(p:Int):Option AJ:=if CA s then OV p s.1 else none
def Jh(s:AL)(ep:Int):List AJ:=if CA s then s.1.filter fun e=>AZ e.1==ep else[]
def JG(s:AL)(upto:Int):AL×Bool:=
 if !CA s then(Dm,false)else if Aq upto then((s.1.filter fun e=>decide (e.1>upto),s.2.1,s.2.2.1,()),true)else(s,false)
abbrev nn:AN:=([],0,())
def CS(l:List C7)(e:Int):AAN:=if BD e 1 l.length then(l.getD (e-1).toNat IM).1 else[]
def Ik(c:CK)(r:AN)(ns:AAN):AN×Int×Bool:=
 if !OO c r then(nn,0,false)else if holds c ns&&decide (r.1.length≠30)then((r.1++[(ns,false,0,())],r.2.1,()),(r.1.length:Int)+1,true)else(r,0,false)
def Oh(l:List C7)(i:Nat)(last:Int):List C7:=l.set i ((l.getD i IM).1,true,last,())
def ON(c:CK)(r:AN)(b last:Int):AN×Bool:=
 if !OO c r then(nn,false)else
  if decide (b=r.1.length)&&(decide (BN r.1≠0)&&(decide (b≠BN r.1)&&BD last 0 60))then((Oh r.1 (BN r.1-1).toNat last,r.2.1,()),true)else(r,false)
def Pm(c:CK)(r:AN)(p:Int):AN×Bool:=
 if !OO c r then(nn,false)else if Aq p&&decide (AZ p<=r.1.length)then((r.1,max r.2.1 p,()),true)else(r,false)
def CM(c:CK)(w:AR)(d:AAZ):AR×Int×Bool:=
 if !FY c w then(CZ,0,false)else
  if FY c (w.1,w.2.1++[(d,[],false,())],())then((w.1,w.2.1++[(d,[],false,())],()),(w.2.1.length:Int)+1,true)else(w,0,false)
def Fh(c:CK)(n:Int)(x:BR):BR:=(x.1,N9 n x.2.1,holds c (N9 n x.2.1),())
def Ro(c:CK)(w:AR)(o n:Int):AR×Bool:=
 if !FY c w then(CZ,false)else
  if BD o 1 w.2.1.length&&(BD n 0 ((c.1.length:Int)-1)&& !(w.2.1.getD (o-1).toNat MB).2.2.1)then((w.1,w.2.1.set (o-1).toNat (Fh c n (w.2.1.getD (o-1).toNat MB)),()),true)else(w,false)
def Ej(n:Int)(x:BR):BR:=(x.1,if x.2.2.1 then x.2.1 else less x.2.1 [n],x.2.2.1,())
def B5(c:CK)(w:AR)(n:Int):AR×Bool:=
 if !FY c w then(CZ,false)else((w.1,w.2.1.map (Ej n),()),true)
def cB:List BR->Nat
 |[]=>0
 |x::l=>if x.2.2.1 then cB l+1 else 0
def qK(e b:Int):Az:=(b,e,[],[],false,[],())
def Oy(c:CK)(m:Az)(n:Int)(l:List AJ):Az×Bool:=
 if !G2 c m then(Tu,false)else
  let o:Az:=(m.1,m.2.1,N9 n m.2.2.1,EB m.2.2.2.1 (l.filter fun e=>AZ e.1==m.2.1),m.2.2.2.2.1,m.2.2.2.2.2.1,())
  if !m.2.2.2.2.1&&G2 c o then(o,true)else(m,false)
def L9(c:CK)(m:Az)(s:AAN):Az×Bool:=
 if !G2 c m then(Tu,false)else
  if !m.2.2.2.2.1&&Q4 c s (m.2.2.1.filter s.contains)then((m.1,m.2.1,m.2.2.1,m.2.2.2.1,true,List.replicate (Od m.2.2.2.1).toNat [],()),true)else(m,false)
def EW(m:Az)(o:Int):Option AJ:=
 if m.2.2.2.2.1&&(BD m.2.1 1 30&&(BD o 1 60&&decide (o<=m.2.2.2.2.2.1.length)))then
  match OV (Gv m.2.1 o) m.2.2.2.1 with
  |some x=>some (Gv m.2.1 o,m.1,x.2.2.1,x.2.2.2.1,())
  |none=>some (Gv m.2.1 o,m.1,true,[],())
 else none
def aF(c:CK)(m:Az)(o n:Int):Az×Bool:=
 if !G2 c m then(Tu,false)else
  if BD o 1 m.2.2.2.2.2.1.length&&BD n 0 ((c.1.length:Int)-1)then((m.1,m.2.1,m.2.2.1,m.2.2.2.1,m.2.2.2.2.1,m.2.2.2.2.2.1.set (o-1).toNat (N9 n (m.2.2.2.2.2.1.getD (o-1).toNat [])),()),true)else(m,false)
def CC(c:CK)(m:Az)(n:Int):Az×Bool:=
 if !G2 c m then(Tu,false)else((m.1,m.2.1,m.2.2.1,m.2.2.2.1,m.2.2.2.2.1,m.2.2.2.2.2.1.map fun l=>less l [n],()),true)
def UH(c:CK)(m:Az):Bool:=G2 c m&&(m.2.2.2.2.1&&m.2.2.2.2.2.1.all (holds c))
def Xb(a:BG):AJ:=(a.2.2.1,a.2.2.2.1,a.2.2.2.2.1,a.2.2.2.2.2.1,())
def Ij(s:AAN)(p:Int):Option AJ->List BG->Option AJ
 |b,[]=>b
 |b,a::l=>if a.2.1&&(s.contains a.1&&(Fg (Xb a)&&(Xb a).1==p))then
   Ij s p (some (match b with|some x=>better x (Xb a)|none=>Xb a)) l
  else Ij s p b l
def UF(p:Int):Option AJ->Av
 |none=>(3,p,[],())
 |some x=>if x.2.2.1 then(2,p,[],())else(1,p,x.2.2.2.1,())
def DH(c:CK)(g:AN)(sure:Int)(r:Ac)(l:List BG):Ac×Int:=
 if !(OO c g&&(SK r&&A_ c (l.map fun a=>a.1)))then(AO,1)else
 if decide (r.1>g.1.length)||decide (r.2.2.1.length=120)then(r,2)else
 let era:=g.1.getD (r.1-1).toNat IM
 let p:=Gv r.1 r.2.1
 if g.2.1>=p then((AZ g.2.1,Bl g.2.1+1,r.2.2.1++[(5,g.2.1,[],())],()),0)else
 if era.2.1&&decide (r.2.1>era.2.2.1)then((r.1+1,1,r.2.2.1++[(4,r.1+1,[],())],()),0)else
 if(!era.2.1&&decide (r.2.1>sure))||decide (r.2.1>60)then(r,2)else
 if !Q4 c era.1 ((l.map fun a=>a.1).filter era.1.contains)then(r,3)else
 ((r.1,r.2.1+1,r.2.2.1++[UF p (Ij era.1 p none l)],()),0)
def Gn:List AJ->List AL->List AJ
 |k,[]=>k
 |k,s::l=>Gn (EB k s.1) l
def others(lost:AAN):Nat->List AL->List AL
 |_,[]=>[]
 |i,s::l=>if lost.contains (i:Int)then others lost (i+1) l else s::others lost (i+1) l
def ba(c:CK)(ss:List AL)(lost:AAN)(n upto:Int):AL×Bool:=
 let s:AL:=(Gn [] (others lost 0 ss),[],upto,())
 if Ee c&&(decide (ss.length=c.1.length)&&(A_ c lost&&(!holds c lost&&(lost.contains n&&((others lost 0 ss).all CA&&CA s)))))then(s,true)else(Dm,false)
end Go.M
namespace Go.M.H.AA
open Go.M.H (AJ AL Az Aj AA C7 AN BR AR Ac Av)
@[reducible] def BZ (w:AA):List AL:=w.2.2.1
@[reducible] def lost (w:AA):AAN:=w.2.2.2.1
@[reducible] def BJ (w:AA):List C7:=w.2.2.2.2.1
@[reducible] def trim (w:AA):Int:=w.2.2.2.2.2.1
@[reducible] def AK (w:AA):List AR:=w.2.2.2.2.2.2.1
@[reducible] def Cd (w:AA):List Az:=w.2.2.2.2.2.2.2.1
@[reducible] def Ag (w:AA):List Ac:=w.2.2.2.2.2.2.2.2.1
@[reducible] def CF (w:AA):List Aj:=w.2.2.2.2.2.2.2.2.2.1
@[reducible] def Ib (w:AA):Bool:=w.2.2.2.2.2.2.2.2.2.2.1
@[reducible] def CL (w:AA) (x:List AL):AA:=(w.1,w.2.1,x,w.2.2.2)
@[reducible] def E5 (w:AA) (x:AAN):AA:=(w.1,w.2.1,w.2.2.1,x,w.2.2.2.2)
@[reducible] def Ip (w:AA) (x:AN):AA:=(w.1,w.2.1,w.2.2.1,w.2.2.2.1,x.1,x.2.1,w.2.2.2.2.2.2)
@[reducible] def Bk (w:AA) (x:List AR):AA:=(w.1,w.2.1,w.2.2.1,w.2.2.2.1,w.2.2.2.2.1,w.2.2.2.2.2.1,x,w.2.2.2.2.2.2.2)
@[reducible] def Cs (w:AA) (x:List Az):AA:=(w.1,w.2.1,w.2.2.1,w.2.2.2.1,w.2.2.2.2.1,w.2.2.2.2.2.1,w.2.2.2.2.2.2.1,x,w.2.2.2.2.2.2.2.2)
@[reducible] def C5 (w:AA) (x:List Ac):AA:=(w.1,w.2.1,w.2.2.1,w.2.2.2.1,w.2.2.2.2.1,w.2.2.2.2.2.1,w.2.2.2.2.2.2.1,w.2.2.2.2.2.2.2.1,x,w.2.2.2.2.2.2.2.2.2)
@[reducible] def Db (w:AA) (x:List Aj):AA:=(w.1,w.2.1,w.2.2.1,w.2.2.2.1,w.2.2.2.2.1,w.2.2.2.2.2.1,w.2.2.2.2.2.2.1,w.2.2.2.2.2.2.2.1,w.2.2.2.2.2.2.2.2.1,x,w.2.2.2.2.2.2.2.2.2.2)
@[reducible] def FF (w:AA) (x:Bool):AA:=(w.1,w.2.1,w.2.2.1,w.2.2.2.1,w.2.2.2.2.1,w.2.2.2.2.2.1,w.2.2.2.2.2.2.1,w.2.2.2.2.2.2.2.1,w.2.2.2.2.2.2.2.2.1,w.2.2.2.2.2.2.2.2.2.1,x,())
end Go.M.H.AA
namespace Go.M
open Go.M.H (AJ AL Az Aj AA C7 AN BR AR Ac Av BG Al)
def AOF:AA:=([],0,[],[],[],0,[],[],[],[],false,())
def JT(c:CK):AA:=(c.1,c.2.1,List.replicate c.1.length Dm,[],[],0,[],[],[(1,1,[],()),(1,1,[],())],[],false,())
def XO(k:Int):Bool×Bool×Bool×Bool:=
 if k=8\/k=10\/k=12 then(false,false,false,false)
 else if k=2 then(true,false,false,true)
 else if k=3 then(true,true,true,false)
 else if k=5\/k=14 then(true,true,false,false)
 else if k=11 then(false,true,true,false)
 else(true,false,false,false)
def GD(d:Al):Bool:=
 BD d.1 1 16&&(((XO d.1).1||d.2.1==0)&&(((XO d.1).2.1||d.2.2.1==0)&&(((XO d.1).2.2.1||d.2.2.2.1==0)&&(((XO d.1).2.2.2||d.2.2.2.2.1==[])&&decide (d.2.2.2.2.1.length<=40)))))
abbrev ZM:Type:=AA×Int
def Ar(w:AA)(n:Int):Int:=if !BD n 0 ((w.BZ.length:Int)-1)then 2 else if w.lost.contains n then 3 else 0
def QA(w:AA)(a:Int):ZM:=
 if w.AK.length=4 then(w,4)else
 let q:=Ik (Aa w) (Cb w) (BL a)
 if !q.2.2 then(w,4)else(((w.Ip q.1).Bk (w.AK++[(q.2.1,[],())])).Cs [],0)
def cU(s:Aj):List Aj->List Aj
 |[]=>[s]
 |x::l=>if x.1>s.1 then s::x::l else x::cU s l
def doAdd(w:AA)(a:Int)(d:AAZ):ZM:=
 if !BD a 0 ((w.AK.length:Int)-1)then(w,2)else
 let x:=w.AK.getD a.toNat CZ
 let q:=CM (Aa w) x d
 if !q.2.2||(decide (w.CF.length=120)||w.CF.any fun s=>s.1==Gv x.1 q.2.1)then(w,4)else
 ((w.Bk (w.AK.set a.toNat q.1)).Db (cU (Gv x.1 q.2.1,d,false,()) w.CF),0)
def putAt(w:AA)(n:Int)(q:AL×Bool):ZM:=if q.2 then(w.CL (w.BZ.set n.toNat q.1),0)else(w,4)
def storeAt(w:AA)(n:Int):AL:=w.BZ.getD n.toNat Dm
def Nd(w:AA)(a b n:Int):ZM:=
 if !BD a 0 ((w.AK.length:Int)-1)then(w,2)else
 let x:=w.AK.getD a.toNat CZ
 if !BD b 1 x.2.1.length then(w,2)else
 if Ar w n≠0 then(w,Ar w n)else
 if !(CS w.BJ x.1).contains n then(w,2)else
 putAt w n (KS (storeAt w n) (Gv x.1 b,0,false,(x.2.1.getD (b-1).toNat MB).1,()))
def MK(s:AL)(p:Int):Bool:=match OV p s.1 with|some e=>e.2.1==0|none=>false
def BC(c:CK)(s:AL)(ep n:Int):Int->List BR->List BR
 |_,[]=>[]
 |o,x::l=>(if !x.2.2.1&&MK s (Gv ep o)then Fh c n x else x)::BC c s ep n (o+1) l
def GW(l:List BR)(o:Int):Bool:=BD o 1 l.length&&(l.getD (o-1).toNat MB).2.2.1
def SB(all:Bool)(ep:Int)(old new:List BR)(s:Aj):Aj:=
 (s.1,s.2.1,s.2.2.1||(AZ s.1==ep&&(GW new (Bl s.1)&&(all|| !GW old (Bl s.1)))),())
def LV(s:AL)(l:List C7)(n:Int)(x:AR):Bool:=(CS l x.1).contains n&&decide (s.2.2.1<x.1)
def E6(all:Bool)(c:CK)(s:AL)(l:List C7)(n:Int):List AR->List Aj->List AR×List Aj
 |[],ss=>([],ss)
 |x::ws,ss=>
  if LV s l n x then
   let new:=BC c s x.1 n 1 x.2.1
   let q:=E6 all c s l n ws (ss.map (SB all x.1 x.2.1 new))
   ((x.1,new,())::q.1,q.2)
  else
   let q:=E6 all c s l n ws ss
   (x::q.1,q.2)
def U_(m:Az)(s:AL)(o:Int):Bool:=match EW m o with|some e=>OV e.1 s.1==some e|none=>false
def FO(m:Az)(s:AL)(n:Int):Int->List AAN->List AAN
 |_,[]=>[]
 |o,x::l=>(if U_ m s o then N9 n x else x)::FO m s n (o+1) l
def MC(s:AL)(l:List C7)(n:Int)(m:Az):Az:=
 if(CS l m.2.1).contains n then(m.1,m.2.1,m.2.2.1,m.2.2.2.1,m.2.2.2.2.1,FO m s n 1 m.2.2.2.2.2.1,())else m
def Pz(all:Bool)(w:AA)(n:Int):ZM:=
 if Ar w n≠0 then(w,Ar w n)else
 let q:=Ct (storeAt w n)
 if !q.2 then(w,4)else
 let t:=E6 all (Aa w) q.1 w.BJ n w.AK w.CF
 ((((w.CL (w.BZ.set n.toNat q.1)).Bk t.1).Db t.2).Cs (w.Cd.map (MC q.1 w.BJ n)),0)
def Ns(w:AA)(n k:Int):ZM:=if Ar w n≠0 then(w,Ar w n)else putAt w n (Fl (storeAt w n) k)
def RI(w:AA)(n:Int):ZM:=
 if Ar w n≠0 then(w,Ar w n)else
 let ls:=N9 n w.lost
 (((((w.CL (w.BZ.set n.toNat Dm)).E5 ls).Bk (w.AK.map fun x=>(B5 (Aa w) x n).1)).Cs (w.Cd.map fun m=>(CC (Aa w) m n).1)).FF (w.Ib||holds (Aa w) ls),0)
def Sa(w:AA)(n:Int):ZM:=
 if !w.lost.contains n then(w,2)else
 let q:=ba (Aa w) w.BZ w.lost n (max ((w.BJ.length:Int)-1) 0)
 if !q.2 then(w,4)else((w.CL (w.BZ.set n.toNat q.1)).E5 (less w.lost [n]),0)
def S3(w:AA):ZM:=
 if decide ((w.BJ.length:Int)<2)||decide (BN w.BJ=w.BJ.length)then(w,2)else
 if w.Cd.length>0 then(w,4)else(w.Cs [qK (BN w.BJ) w.BJ.length],0)
def Tc(w:AA)(n:Int):ZM:=
 match w.Cd with
 |[]=>(w,2)
 |m::ms=>
  if Ar w n≠0 then(w,Ar w n)else
  if !(CS w.BJ m.2.1).contains n then(w,2)else
  let q:=Bw (storeAt w n) (m.1-1)
  let t:=Oy (Aa w) m n (Jh q.1 m.2.1)
  if !q.2|| !t.2 then(w,4)else((w.CL (w.BZ.set n.toNat q.1)).Cs (t.1::ms),0)
def Tf(w:AA):ZM:=
 match w.Cd with
 |[]=>(w,2)
 |m::ms=>
  let t:=L9 (Aa w) m (CS w.BJ m.2.1)
  if !t.2 then(w,4)else(w.Cs (t.1::ms),0)
def ZX(w:AA)(b n:Int):ZM:=
 match w.Cd with
 |[]=>(w,2)
 |m::ms=>
  match EW m b with
  |none=>(w,2)
  |some e=>
   if Ar w n≠0 then(w,Ar w n)else
   if !(CS w.BJ m.2.1).contains n then(w,2)else putAt w n (KS (storeAt w n) e)
def Nn(w:AA):ZM:=
 match w.Cd with
 |[]=>(w,2)
 |m::ms=>
  if !UH (Aa w) m then(w,5)else
  let q:=ON (Aa w) (Cb w) m.1 m.2.2.2.2.2.1.length
  if !q.2 then(w,4)else((w.Ip q.1).Cs [],0)
def Wd(w:AA)(a:Int):ZM:=
 let q:=Pm (Aa w) (Cb w) a
 if !q.2 then(w,4)else(w.Ip q.1,0)
def answer(w:AA)(p n:Int):BG:=
 match OV p (storeAt w n).1 with
 |some e=>(n,true,e.1,e.2.1,e.2.2.1,e.2.2.2.1,())
 |none=>(n,false,0,0,false,[],())
def answers(w:AA)(p:Int)(ns:AAN):List BG:=(ns.filter fun n=>Ar w n==0).map (answer w p)
def cX(w:AA)(e:Int):Int:=match w.AK.find? (fun x=>x.1==e)with|some x=>cB x.2.1|none=>0
def Lt(w:AA)(a k:Int):ZM:=
 if !BD a 0 1 then(w,2)else
 let r:=w.Ag.getD a.toNat AO
 let q:=DH (Aa w) (Cb w) (cX w r.1) r (answers w (Gv r.1 r.2.1) (BL k))
 if q.2≠0 then(w,5)else(w.C5 (w.Ag.set a.toNat q.1),0)
def Ul(w:AA)(a:Int):ZM:=
 if !BD a 0 ((w.AK.length:Int)-1)then(w,2)else(w.Bk (w.AK.eraseIdx a.toNat),0)
def Nq(w:AA)(n:Int):ZM:=if Ar w n≠0 then(w,Ar w n)else putAt w n (JG (storeAt w n) w.trim)
def K3(all:Bool)(w:AA)(d:Al):ZM:=
 if d.1=1 then QA w d.2.1 else
 if d.1=2 then doAdd w d.2.1 d.2.2.2.2.1 else
 if d.1=3 then Nd w d.2.1 d.2.2.1 d.2.2.2.1 else
 if d.1=4 then Pz all w d.2.1 else
 if d.1=5 then Ns w d.2.1 d.2.2.1 else
 if d.1=6 then RI w d.2.1 else
 if d.1=7 then Sa w d.2.1 else
 if d.1=8 then S3 w else
 if d.1=9 then Tc w d.2.1 else
 if d.1=10 then Tf w else
 if d.1=11 then ZX w d.2.2.1 d.2.2.2.1 else
 if d.1=12 then Nn w else
 if d.1=13 then Wd w d.2.1 else
 if d.1=14 then Lt w d.2.1 d.2.2.1 else
 if d.1=15 then Ul w d.2.1 else Nq w d.2.1
def FH(all:Bool)(w:AA)(d:Al):ZM:=if !C9 w|| !GD d then(AOF,1)else K3 all w d
end Go.M
end
section
set_option maxRecDepth 8000
namespace Go.M
open Go.M.H (AA AJ AL AN AR AU AY Ac Ae Ai Aj Al Am An Av Ax Az BG BQ BR B_ C1 C7 CB CH Co Dx)
theorem Rp{p:Nat->Bool}{n:Nat}:CG p 0 n=true↔ ∀i,i<n->p i=true:=
 ⟨fun h i hi=>Mg h i (by omega) (by omega),fun h=>qp fun j _ hj=>h j (by omega)⟩
theorem TP{α:Type}{l:List α}{i:Nat}{d:α}(h:i<l.length):l.getD i d=l[i]:=by simp_all
theorem Sk{α:Type}{l:List α}{d:α}{P:α->Prop}:(∀i,i<l.length->P (l.getD i d))↔ ∀x∈l,P x:=by
 constructor
 ·intro h x hx
  obtain⟨i,hi,rfl⟩:=AOq hx;simp_all
 simp_all
abbrev WK{α:Type}(f:α->Int)(l:List α):Prop:=l.Pairwise fun a b=>f a<f b
theorem gd{α:Type}{f:α->Int}{l:List α}{d:α}:(∀i,i<l.length->i=0\/f (l.getD (i-1) d)<f (l.getD i d))↔WK f l:=by
 constructor
 ·intro h
  unfold WK;rw[ATG];have key:∀(k i:Nat),i+k+1<l.length->f (l.getD i d)<f (l.getD (i+k+1) d):=by
   intro k
   induction k with
   |zero=>
    grind
   |succ k ih=>
    grind
  intro i j hi hj hij;have:=key (j-i-1) i (by omega);grind
 grind[List.pairwise_iff_getElem,TP]
theorem Ak{x a b:Int}:BD x a b=true↔a<=x/\x<=b:=by simp[BD]
theorem AF_{l:AAN}{hi:Int}:uP l hi=true↔(∀x∈l,0<=x/\x<=hi)/\WK id l:=by
 unfold uP;rw[Rp,<-Sk (d:=(0:Int)) (P:=fun x=>0<=x/\x<=hi),<-gd (d:=(0:Int))];simp only[xL,AJR,Ak,AOy,APF,AJr,id];grind
theorem F5{c:CK}{l:AAN}:A_ c l=true↔Ee c=true/\(∀x∈l,0<=x/\x<c.1.length)/\WK id l:=by
 unfold A_;rw[AJR,AF_];grind
theorem xX{l:List AJ}:Yf l=true↔ ∀e∈l,Fg e=true:=by
 unfold Yf;rw[Rp];exact Sk (P:=fun e=>Fg e=true)
theorem yi{l:List AJ}:lg l=true↔WK (fun e:AJ=>e.1) l:=by
 unfold lg;rw[Rp,<-gd (d:=Di)];simp_all
structure gm (s:AL):Prop where
 nk:s.1.length<=200
 kept:∀e∈s.1,Fg e=true
 nl:s.2.1.length<=20
 late:∀e∈s.2.1,Fg e=true
 zZ:WK (fun e:AJ=>e.1) s.1
 sl:0<=s.2.2.1/\s.2.2.1<=30
theorem Dc{s:AL}:CA s=true↔gm s:=by
 unfold CA;simp only[AJR,AJr,xX,yi,Ak];exact⟨fun⟨⟨a,b⟩,⟨c,d⟩,e,f⟩=>⟨a,b,c,d,e,f⟩,fun h=>⟨⟨h.nk,h.kept⟩,⟨h.nl,h.late⟩,h.zZ,h.sl⟩⟩
structure EOk (e:AJ):Prop where
 pl:Aq e.1=true
 w0:0<=e.2.1/\e.2.1<=30
 w1:0<e.2.1->AZ e.1<e.2.1
 len:e.2.2.2.1.length<=40
 hole:e.2.2.1=true->0<e.2.1/\e.2.2.2.1=[]
theorem Hs{e:AJ}:Fg e=true↔EOk e:=by
 unfold Fg;simp only[AJR,AOy,APE,AJr,AP5,Ak,APF];constructor
 ·rintro⟨a,b,c,d,e⟩
  refine⟨a,b,fun h=>c.resolve_left fun hn=>hn h,d,fun h=>e.resolve_left fun hn=> ?_⟩;simp_all
 ·intro h
  refine⟨h.pl,h.w0,?_,h.len,?_⟩
  ·by_cases hw:0<e.2.1
   ·exact .inr (h.w1 hw)
   omega
  ·cases hh:e.2.2.1 with
   |false=>simp_all
   |true=>exact .inr (h.hole hh)
structure ud (c:CK) (m:Az):Prop where
 cfg:Ee c=true
 ep:1<=m.2.1/\m.2.1<=30
 b:m.2.1+1<=m.1/\m.1<=30
 sld:A_ c m.2.2.1=true
 zZ:WK (fun e:AJ=>e.1) m.2.2.2.1
 seen:∀e∈m.2.2.2.1,Fg e=true/\AZ e.1=m.2.1/\e.2.1<m.1
 wrote:∀l∈m.2.2.2.2.2.1,A_ c l=true
 n:(m.2.2.2.2.2.1.length:Int)=if m.2.2.2.2.1 then Od m.2.2.2.1 else 0
theorem HA{c:CK}{m:Az}:G2 c m=true↔ud c m:=by
 unfold G2 uu sH;simp only[AJR,Ak,yi,Rp,vX,APF,AJr];rw[Sk (d:=Di) (P:=fun e=>Fg e=true/\AZ e.1=m.2.1/\e.2.1<m.1),Sk (d:=([]:AAN)) (P:=fun l=>A_ c l=true)];have:(m.2.2.2.2.2.1.length:Int)=cond m.2.2.2.2.1 (Od m.2.2.2.1) 0↔(m.2.2.2.2.2.1.length:Int)=if m.2.2.2.2.1 then Od m.2.2.2.1 else 0:=by
  grind
 rw[this];exact⟨fun⟨a,b,c,d,e,f,g,h⟩=>⟨a,b,c,d,e,f,g,h⟩,fun h=>⟨h.cfg,h.ep,h.b,h.sld,h.zZ,h.seen,h.wrote,h.n⟩⟩
structure ROk (c:CK) (r:AN):Prop where
 cfg:Ee c=true
 n:r.1.length<=30
 trim:r.2.1=0\/(Aq r.2.1=true/\AZ r.2.1<=r.1.length)
 BJ:∀e∈r.1,holds c e.1=true/\(0<=e.2.2.1/\e.2.2.1<=60)/\(e.2.1=false->e.2.2.1=0)
 down:∀i,i<r.1.length->(r.1.getD i IM).2.1=true->i+1<r.1.length/\ ∀j,j<i->(r.1.getD j IM).2.1=true
theorem KC{c:CK}{r:AN}:OO c r=true↔ROk c r:=by
 unfold OO jv;simp only[AJR,AJr,AOy,APF,Rp,xg,rp,Ak,APE,Bool.and_eq_false_iff,Bool.or_eq_false_iff,AP5,AMT];constructor
 ·rintro⟨a,b,c1,d⟩
  refine⟨a,b,c1,(Sk (d:=IM) (P:=fun e=>holds c e.1=true/\(0<=e.2.2.1/\e.2.2.1<=60)/\(e.2.1=false->e.2.2.1=0))).1 fun i hi=> ?_,fun i hi hc=> ?_⟩
  ·grind
  ·have step:∀k,k<r.1.length->(r.1.getD k IM).2.1=true->k+1<r.1.length/\(0<k->(r.1.getD (k-1) IM).2.1=true):=fun k hk hkc=>by
    rcases(d k hk).2 with h|⟨h1,h2⟩
    ·simp_all
    ·refine⟨by omega,fun h0=> ?_⟩
     simp_all
   refine⟨(step i hi hc).1,?_⟩;clear hi
   induction i with
   |zero=>omega
   |succ i ih=>
    intro j hj;have D7:i+1<r.1.length:=by
     rcases Nat.lt_or_ge (i+1) r.1.length with h|h
     ·omega
     ·simp[List.getD,h]at hc
      cases hc
    grind
 ·intro h
  refine⟨h.cfg,h.n,h.trim,fun i hi=>⟨?_,?_⟩⟩
  ·obtain⟨h1,h2,h3⟩:=h.BJ _ (Bh (d:=IM) hi)
   grind
  ·cases hb:(r.1.getD i IM).2.1 with
   |false=>simp_all
   |true=>
    obtain⟨h1,h2⟩:=h.down i hi hb;grind
structure dW (c:CK) (w:AR):Prop where
 cfg:Ee c=true
 ep:1<=w.1/\w.1<=30
 n:w.2.1.length<=60
 words:∀x∈w.2.1,x.1.length<=40/\A_ c x.2.1=true/\x.2.2.1=holds c x.2.1
 opn:RV w.2.1<=6
theorem HW{c:CK}{w:AR}:FY c w=true↔dW c w:=by
 unfold FY le6 dF;simp only[AJR,AJr,Ak,APO,APF];exact⟨fun⟨a,b,c,d,e⟩=>⟨a,b,c,d,e⟩,fun h=>⟨h.cfg,h.ep,h.n,h.words,h.opn⟩⟩
structure AI4 (r:Ac):Prop where
 ep:1<=r.1/\r.1<=31
 off:1<=r.2.1/\r.2.1<=61
 n:r.2.2.1.length<=120
theorem Ue{r:Ac}:SK r=true↔AI4 r:=by
 unfold SK;simp only[AJR,AJr,Ak];exact⟨fun⟨a,b,c⟩=>⟨a,b,by omega⟩,fun h=>⟨h.ep,h.off,by have:=h.n;omega⟩⟩
structure RT (w:AA):Prop where
 cfg:Ee (Aa w)=true
 tX:w.BZ.length=w.1.length
 lost:A_ (Aa w) w.lost=true
 Ib:w.Ib=true\/holds (Aa w) w.lost=false
 BZ:∀i,i<w.BZ.length->gm (w.BZ.getD i Dm)/\((i:Int)∈w.lost->w.BZ.getD i Dm=Dm)
 qV:ROk (Aa w) (Cb w)
 uN:w.AK.length<=4
 nmd:w.Cd.length<=1
 AK:∀x∈w.AK,dW (Aa w) x/\x.1<=w.BJ.length
 g_:WK (fun x:AR=>x.1) w.AK
 Cd:∀m∈w.Cd,ud (Aa w) m/\m.1=w.BJ.length/\m.2.1=BN w.BJ
 ri:w.Ag.length=2
 Ag:∀r∈w.Ag,AI4 r
 Se:w.CF.length<=120
 CF:∀s∈w.CF,Aq s.1=true/\AZ s.1<=w.BJ.length/\s.2.1.length<=40
 cP:WK (fun s:Aj=>s.1) w.CF
theorem Kc{w:AA}:C9 w=true↔RT w:=by
 unfold C9;simp only[AJR,AJr,gO,bz,iV,om,Yx,Rp,mS,gb,vP,ny,AOy,APE,APF,Dc,KC,HW,HA,Ue];have hz:∀s:AL,(s.1.length=0/\s.2.1.length=0/\s.2.2.1=0)↔s=Dm:=fun s=>by
  grind
 simp only[hz];constructor
 ·rintro⟨h1,h2,h3,h4,h5,h6,h7,h8,h9,h10,⟨h11,h12,h13⟩,h14,h15⟩
  refine⟨h1,h2,h3,h4,fun i hi=>⟨(h5 i hi).1,fun hm=>(h5 i hi).2.resolve_left fun hc=> ?_⟩,h6,h7,h8,?_,?_,?_,h11,?_,h14,?_,?_⟩
  ·simp_all
  ·exact(Sk (d:=CZ) (P:=fun x:AR=>dW (Aa w) x/\x.1<=w.BJ.length)).1 fun i hi=>⟨(h9 i hi).1,(h9 i hi).2.1⟩
  ·exact(gd (f:=fun x:AR=>x.1) (d:=CZ)).1 fun i hi=>(h9 i hi).2.2
  ·exact(Sk (d:=Tu) (P:=fun m:Az=>ud (Aa w) m/\m.1=w.BJ.length/\m.2.1=BN w.BJ)).1 h10
  ·refine(Sk (d:=AO) (P:=AI4)).1 fun i hi=> ?_
   rw[h11]at hi;rcases(by omega:i=0\/i=1)with rfl|rfl
   all_goals omega
  ·exact(Sk (d:=HQ) (P:=fun s:Aj=>Aq s.1=true/\AZ s.1<=w.BJ.length/\s.2.1.length<=40)).1 fun i hi=>⟨(h15 i hi).1.1,(h15 i hi).1.2,(h15 i hi).2.1⟩
  ·exact(gd (f:=fun s:Aj=>s.1) (d:=HQ)).1 fun i hi=>(h15 i hi).2.2
 ·intro h
  refine⟨h.cfg,h.tX,h.lost,h.Ib,fun i hi=>⟨(h.BZ i hi).1,?_⟩,h.qV,h.uN,h.nmd,fun i hi=> ?_,fun i hi=>h.Cd _ (Bh hi),⟨h.ri,h.Ag _ (Bh (by rw[h.ri];omega)),h.Ag _ (Bh (by rw[h.ri];omega))⟩,h.Se,fun i hi=> ?_⟩
  ·by_cases hm:(i:Int)∈w.lost
   ·exact .inr ((h.BZ i hi).2 hm)
   simp_all
  ·have:=h.AK _ (Bh (d:=CZ) hi)
   exact⟨this.1,this.2,(gd (f:=fun x:AR=>x.1) (d:=CZ)).2 h.g_ i hi⟩
  ·have:=h.CF _ (Bh (d:=HQ) hi)
   exact⟨⟨this.1,this.2.1⟩,this.2.2,(gd (f:=fun s:Aj=>s.1) (d:=HQ)).2 h.cP i hi⟩
theorem rY{x y:Int}:∀{l:AAN},y∈jl x l↔y=x\/y∈l
 |[]=>by simp[jl]
 |z::l=>by
  simp only[jl];split
  ·simp
  ·simp only[ALa,rY (l:=l)]
   grind
theorem xu{x:Int}:∀{l:AAN},WK id l->x∉l->WK id (jl x l)
 |[],_,_=>by simp[jl,WK]
 |z::l,h,hx=>by
  simp only[WK,AOK,id]at h;simp only[ALa,ATi]at hx;simp only[jl];split
  ·rename_i hz
   simp only[WK,AOK,ALa,id];grind
  ·rename_i hz
   simp only[WK,AOK,id];refine⟨fun a ha=> ?_,xu h.2 hx.2⟩;rcases rY.1 ha with rfl|ha
   all_goals grind
theorem yf{x y:Int}{l:AAN}:y∈N9 x l↔y=x\/y∈l:=by
 unfold N9;split
 ·simp_all
 ·exact rY
theorem AE5{x:Int}{l:AAN}(h:WK id l):WK id (N9 x l):=by
 grind[N9,xu]
theorem ML{c:CK}{x:Int}{l:AAN}(h:A_ c l=true)(hx:0<=x/\x<c.1.length):A_ c (N9 x l)=true:=by
 rw[F5]at h|-;refine⟨h.1,fun y hy=> ?_,AE5 h.2.2⟩;rcases yf.1 hy with rfl|hy
 all_goals simp_all
theorem SX{c:CK}{l:AAN}(p:Int->Bool)(h:A_ c l=true):A_ c (l.filter p)=true:=by
 grind[F5]
theorem su{x:Int}{l m:AAN}:x∈less l m↔x∈l/\x∉m:=by simp[less]
theorem fJ{c:CK}(h:Ee c=true):A_ c []=true:=F5.2 ⟨h,fun _ h=>by simp at h,List.Pairwise.nil⟩
theorem AFX{l m:AAN}(h:l.Nodup)(hs:∀x∈l,x∈m):l.length<=m.length:=by
 induction l generalizing m with
 |nil=>simp
 |cons a l ih=>
  rw[AS4]at h;have ha:=hs a (by simp);have:=ih (m:=m.erase a) h.2 fun x hx=>(List.mem_erase_of_ne (fun e:x=a=>h.1 (by simp_all))).2 (hs x (by simp[hx]))
  grind
theorem zN{c:AAN}{d:Int}:∀{l acc:AAN},d∈kP c l acc↔d∈acc\/ ∃n∈l,c.getD n.toNat 0=d
 |[],acc=>by simp[kP]
 |n::l,acc=>by
  simp only[kP];rw[zN (l:=l)];grind
theorem qc{c:AAN}:∀{l acc:AAN},acc.Nodup->(kP c l acc).Nodup
 |[],acc,h=>h
 |n::l,acc,h=>by
  simp only[kP];refine qc ?_
  grind
theorem yP{c l m:AAN}(h:∀x∈l,x∈m):cu c l<=cu c m:=by
 refine AFX (qc List.nodup_nil) fun d hd=> ?_
 grind[zN]
theorem rz{c:CK}{l m:AAN}(hl:holds c l=true)(hm:A_ c m=true)(h:∀x∈l,x∈m):holds c m=true:=by
 simp only[holds,AJR,AJr]at hl|-;have:=yP (c:=c.1) h;grind
theorem holds_nil{c:CK}:holds c []=false:=by
 rw[APG];intro h;have hc:=(F5.1 (aV h)).1;have:=(HJ hc).2.2.1;simp only[holds,AJR,AJr,cu,kP]at h;grind
theorem ADO{a b:AJ}(h:a.1=b.1):(better a b).1=b.1:=by grind[better]
theorem gG{e y:AJ}:∀{l:List AJ},y∈keep e l->y=e\/y∈l
 |[],h=>by simpa[keep]using h
 |x::l,h=>by
  simp only[keep]at h;split at h
  ·rcases ALa.1 h with rfl|h
   all_goals grind[better]
  ·split at h
   ·simp_all
   ·rcases ALa.1 h with rfl|h
    ·simp
    ·rcases gG h with h|h<;>simp[h]
theorem AHj{e y:AJ}{l:List AJ}(h:y∈keep e l):y.1=e.1\/ ∃z∈l,z.1=y.1:=by
 rcases gG h with rfl|h
 all_goals grind
theorem YJ{e:AJ}:∀{l:List AJ},(keep e l).length<=l.length+1/\l.length<=(keep e l).length
 |[]=>by simp[keep]
 |x::l=>by
  have:=YJ (e:=e) (l:=l);grind[keep,List.length_cons]
abbrev gu(l:List AJ):Prop:=WK (fun e:AJ=>e.1) l
theorem ei{e:AJ}:∀{l:List AJ},gu l->gu (keep e l)
 |[],_=>by simp[keep,WK]
 |x::l,h=>by
  have h':=h;simp only[WK,AOK]at h;simp only[keep];split
  ·rename_i hx
   simp only[gu,WK,AOK];grind[ADO]
  ·split
   ·rename_i hx
    simp only[gu,WK,AOK,ALa];grind
   ·rename_i h1 h2
    simp only[gu,WK,AOK];refine⟨fun a ha=> ?_,ei h.2⟩;grind[AHj]
theorem vl{p:Int}{l:List AJ}{e:AJ}(h:OV p l=some e):e∈l/\e.1=p:=by
 grind[OV,List.mem_of_find?_eq_some]
theorem oO{e:AJ}:∀{l:List AJ},gu l->e∈l->OV e.1 l=some e
 |x::l,h,he=>by
  simp only[WK,AOK]at h;unfold OV;rw[ATO];rcases ALa.1 he with rfl|he
  ·simp
  ·have:=h.1 e he
   have WJ:(x.1==e.1)=false:=by grind
   rw[WJ];exact oO h.2 he
theorem fp{y:AJ}:∀{l k:List AJ},y∈EB k l->y∈k\/y∈l
 |[],k,h=> .inl h
 |e::l,k,h=>by
  rcases fp (l:=l) h with h|h
  ·rcases gG h with rfl|h
   all_goals simp_all
  simp_all
theorem fa:∀{l k:List AJ},gu k->gu (EB k l)
 |[],k,h=>h
 |e::l,k,h=>fa (l:=l) (ei h)
theorem fy{k:Int}{y:AJ}:∀{l:List AJ} {i:Nat},y∈Mi k i l->y∈l
 |[],_,h=>h
 |e::l,i,h=>by
  simp only[Mi]at h;split at h
  ·rcases ALa.1 h with rfl|h
   ·simp
   ·simp[fy h]
  ·simp[fy h]
theorem NF{e o:Int}(he:1<=e/\e<=30)(ho:1<=o/\o<=60):Aq (Gv e o)=true/\AZ (Gv e o)=e/\Bl (Gv e o)=o:=by
 have h1:SD (Gv e o)=e:=by
  grind[SD,Gv,Int.tdiv_eq_ediv_of_nonneg]
 have h2:(Gv e o).tmod 4294967296=o:=by
  grind[Gv,Int.tmod_eq_emod_of_nonneg]
 have h3:Aq (Gv e o)=true:=by
  unfold Aq;rw[h1,h2,AJR,Ak,Ak];omega
 exact⟨h3,by unfold AZ;simp_all,by unfold Bl;simp_all⟩
theorem GA{p:Int}(h:Aq p=true):(1<=AZ p/\AZ p<=30)/\(1<=Bl p/\Bl p<=60)/\Gv (AZ p) (Bl p)=p:=by
 have h0:=fY h;have h1:=h;unfold Aq at h1;rw[AJR,Ak,Ak]at h1;have e1:AZ p=SD p:=by unfold AZ;rw[AI9 h]
 grind[Bl,Gv,SD,Int.tdiv_eq_ediv_of_nonneg,Int.tmod_eq_emod_of_nonneg]
theorem gm.nil:gm Dm:=⟨by simp,by simp,by simp,by simp,List.Pairwise.nil,by simp⟩
theorem n0{s:AL}{e:AJ}(h:(KS s e).2=true):gm (KS s e).1/\(KS s e).1=(s.1,s.2.1++[e],s.2.2.1,())/\Fg e=true/\takes s e=true:=by
 unfold KS at*;split at h
 ·cases h
 rename_i hs;rw[AJD hs];simp only[AMH,AMT]at hs;rw[Dc]at hs;split at h
 case isFalse=>cases h
 rename_i h1;rw[AI9 h1];simp only[AJR,AJr]at h1;obtain⟨he,ht,hl⟩:=h1;refine⟨⟨hs.nk,hs.kept,?_,fun x hx=> ?_,hs.zZ,hs.sl⟩,rfl,he,ht⟩
 ·have:=hs.nl
  grind
 ·simp only[ALk,APA]at hx
  rcases hx with hx|rfl
  ·exact hs.late x hx
  omega
theorem QD{s:AL}{k:Int}(h:(Fl s k).2=true):gm s/\gm (Fl s k).1/\(Fl s k).1=(EB s.1 (Mi k 0 s.2.1),[],s.2.2.1,()):=by
 unfold Fl at*;split at h
 ·cases h
 rename_i hs;rw[AJD hs];simp only[AMH,AMT]at hs;rw[Dc]at hs;simp only at h|-;split at h
 case isFalse=>cases h
 rename_i h1;rw[AI9 h1];simp only[AJR,AJr]at h1;refine⟨hs,⟨h1.2,fun e he=> ?_,by simp,by simp,fa hs.zZ,hs.sl⟩,rfl⟩;rcases fp he with he|he
 ·exact hs.kept e he
 ·exact hs.late e (fy he)
theorem kL{s:AL}{u:Int}(h:(Bw s u).2=true):gm s/\gm (Bw s u).1/\(Bw s u).1=(EB s.1 (Mi 1048575 0 s.2.1),[],max s.2.2.1 u,())/\0<=u/\u<=30:=by
 unfold Bw at*;split at h
 ·cases h
 rename_i hs;rw[AJD hs];simp only[AMH,AMT]at hs;simp only at h|-;split at h
 case isFalse=>cases h
 rename_i h1;rw[AI9 h1];simp only[AJR,Ak]at h1;obtain⟨k1,k2,k3⟩:=QD h1.1;have jx:(Ct s).1=_:=k3;rw[jx];refine⟨k1,⟨?_,?_,by simp,by simp,fa k1.zZ,?_⟩,rfl,h1.2⟩
 ·have:=k2.nk;simp_all
 ·have:=k2.kept;simp_all
 ·have:=k1.sl
  grind
theorem wj{s:AL}{u:Int}(h:(JG s u).2=true):gm s/\gm (JG s u).1/\(JG s u).1=(s.1.filter fun e=>decide (e.1>u),s.2.1,s.2.2.1,()):=by
 unfold JG at*;split at h
 ·cases h
 rename_i hs;rw[AJD hs];simp only[AMH,AMT]at hs;rw[Dc]at hs;split at h
 case isFalse=>cases h
 rename_i h1;rw[AI9 h1];refine⟨hs,⟨AOT (AOj _ _) hs.nk,fun e he=>hs.kept e (ATA.1 he).1,hs.nl,hs.late,hs.zZ.filter _,hs.sl⟩,rfl⟩
theorem AEu{c:CK}{ss:List AL}{lost:AAN}{n u:Int}(h:(ba c ss lost n u).2=true):
  gm (ba c ss lost n u).1/\(ba c ss lost n u).1=(Gn [] (others lost 0 ss),[],u,())/\holds c lost=false/\ ∀s∈others lost 0 ss,gm s:=by
 unfold ba at*;simp only at h|-;split at h
 case isFalse=>cases h
 rename_i h1;rw[AI9 h1];simp only[AJR,AJr,APE,APO]at h1;obtain⟨_,_,_,h2,_,h3,h4⟩:=h1;exact⟨Dc.1 h4,rfl,h2,fun s hs=>Dc.1 (h3 s hs)⟩
theorem et{l:List C7}:∀{d i:Nat},i+d=l.length->(ZG l i d=0/\ ∀j,i<=j->j<l.length->(l.getD j IM).2.1=true)\/
  ∃k,i<=k/\k<l.length/\ZG l i d=(k:Int)+1/\(l.getD k IM).2.1=false/\ ∀j,i<=j->j<k->(l.getD j IM).2.1=true
 |0,i,h=> .inl ⟨rfl,fun j h1 h2=>by omega⟩
 |d+1,i,h=>by
  simp only[ZG];cases hb:(l.getD i ([],false,0,())).2.1 with
  |false=>grind
  |true=>
   simp only[AJX,AJQ];rcases et (l:=l) (d:=d) (i:=i+1) (by omega)with⟨h1,h2⟩|⟨k,h1,h2,h3,h4,h5⟩
   all_goals grind
theorem TL{c:CK}{r:AN}(h:ROk c r)(hl:0<r.1.length):∃k,k<r.1.length/\BN r.1=(k:Int)+1/\(r.1.getD k IM).2.1=false/\ ∀j,j<k->(r.1.getD j IM).2.1=true:=by
 rcases et (l:=r.1) (d:=r.1.length) (i:=0) (by omega)with⟨h1,h2⟩|⟨k,h1,h2,h3,h4,h5⟩
 ·have:=(h.down (r.1.length-1) (by omega) (h2 _ (by omega) (by omega))).1
  omega
 ·exact⟨k,h2,h3,h4,fun j hj=>h5 j (by omega) hj⟩
theorem ABZ{c:CK}{r:AN}{ns:AAN}(h:(Ik c r ns).2.2=true):ROk c r/\ROk c (Ik c r ns).1/\(Ik c r ns).1=(r.1++[(ns,false,0,())],r.2.1,())/\(Ik c r ns).2.1=(r.1.length:Int)+1/\holds c ns=true/\r.1.length<30:=by
 unfold Ik at*;split at h
 ·cases h
 rename_i hs;rw[AJD hs];simp only[AMH,AMT]at hs;rw[KC]at hs;split at h
 case isFalse=>cases h
 rename_i h1;rw[AI9 h1];simp only[AJR,AJr]at h1;have hn:=hs.n;refine⟨hs,⟨hs.cfg,?_,?_,fun e he=> ?_,fun i hi hc=> ?_⟩,rfl,rfl,h1.1,by omega⟩
 ·grind
 ·rcases hs.trim with h2|⟨h2,h3⟩
  all_goals grind
 ·simp only[ALk,APA]at he
  rcases he with he|rfl
  ·exact hs.BJ e he
  simp_all
 ·simp only[AKN,AJq,AKx]at hi
  have get:∀j,j<r.1.length->(r.1++[(ns,false,0,())]).getD j IM=r.1.getD j IM:=fun j hj=>by
   grind
  by_cases hl:i<r.1.length
  ·rw[get i hl]at hc
   obtain⟨h2,h3⟩:=hs.down i hl hc;grind
  simp_all
theorem dA{l:List C7}{i j:Nat}{last:Int}(hi:i<l.length):(Oh l i last).getD j IM=if i=j then((l.getD i IM).1,true,last,())else l.getD j IM:=by
 grind[Oh]
theorem z_{c:CK}{r:AN}{b last:Int}(h:(ON c r b last).2=true):ROk c r/\ROk c (ON c r b last).1/\
  ∃k,k<r.1.length/\BN r.1=(k:Int)+1/\k+1<r.1.length/\b=r.1.length/\(0<=last/\last<=60)/\(ON c r b last).1=(Oh r.1 k last,r.2.1,())/\(r.1.getD k IM).2.1=false/\ ∀j,j<k->(r.1.getD j IM).2.1=true:=by
 unfold ON at*;split at h
 ·cases h
 rename_i hs;rw[AJD hs];simp only[AMH,AMT]at hs;rw[KC]at hs;split at h
 case isFalse=>cases h
 rename_i h1;rw[AI9 h1];simp only[AJR,AJr,Ak]at h1;obtain⟨hb,h0,WJ,qb⟩:=h1;have hl:0<r.1.length:=by
  rcases Nat.eq_zero_or_pos r.1.length with hz|hz
  ·exfalso
   apply h0;unfold BN;rw[hz];rfl
  omega
 obtain⟨k,k1,k2,k3,k4⟩:=TL hs hl;have hk:(BN r.1-1).toNat=k:=by omega
 rw[hk];have hlen:(Oh r.1 k last).length=r.1.length:=by simp[Oh]
 refine⟨hs,⟨hs.cfg,by rw[hlen];exact hs.n,?_,fun e he=> ?_,fun i hi hc=> ?_⟩,k,k1,k2,by omega,hb,qb,rfl,k3,k4⟩
 ·simp only[hlen];exact hs.trim
 ·unfold Oh at he
  rcases APm he with he|rfl
  ·exact hs.BJ e he
  ·exact⟨(hs.BJ _ (Bh k1)).1,qb,fun hf=>by cases hf⟩
 ·simp only[hlen]at hi|-
  rw[dA k1]at hc;by_cases hik:k=i
  ·subst hik
   refine⟨by omega,fun j hj=> ?_⟩;rw[dA k1,AJD (by omega)];simp_all
  ·rw[AJD hik]at hc
   obtain⟨h2,h3⟩:=hs.down i hi hc;grind[dA]
theorem AAk{c:CK}{r:AN}{p:Int}(h:(Pm c r p).2=true):ROk c r/\ROk c (Pm c r p).1/\(Pm c r p).1=(r.1,max r.2.1 p,()):=by
 unfold Pm at*;split at h
 ·cases h
 rename_i hs;rw[AJD hs];simp only[AMH,AMT]at hs;rw[KC]at hs;split at h
 case isFalse=>cases h
 rename_i h1;rw[AI9 h1];simp only[AJR,AJr]at h1;refine⟨hs,⟨hs.cfg,hs.n,?_,hs.BJ,hs.down⟩,rfl⟩;simp only;have hp:=(fY h1.1).1;by_cases hm:r.2.1<=p
 ·grind
 ·rw[show max r.2.1 p=r.2.1 by omega]
  exact hs.trim
theorem XX{c:CK}{w:AR}{d:AAZ}(h:(CM c w d).2.2=true):dW c w/\dW c (CM c w d).1/\(CM c w d).1=(w.1,w.2.1++[(d,[],false,())],())/\(CM c w d).2.1=(w.2.1.length:Int)+1:=by
 unfold CM at*;split at h
 ·cases h
 rename_i hs;rw[AJD hs];simp only[AMH,AMT]at hs;rw[HW]at hs;split at h
 case isFalse=>cases h
 rename_i h1;rw[AI9 h1];exact⟨hs,HW.1 h1,rfl,rfl⟩
theorem c_{c:CK}{s:AL}{ep n:Int}(hn:0<=n/\n<c.1.length):∀{l:List BR} {o:Int},(∀x∈l,x.1.length<=40/\A_ c x.2.1=true/\x.2.2.1=holds c x.2.1)->
  (∀x∈BC c s ep n o l,x.1.length<=40/\A_ c x.2.1=true/\x.2.2.1=holds c x.2.1)/\RV (BC c s ep n o l)<=RV l/\(BC c s ep n o l).length=l.length
 |[],o,h=>by simp[BC]
 |x::l,o,h=>by
  obtain⟨h1,h2,h3⟩:=c_ (s:=s) (ep:=ep) hn (l:=l) (o:=o+1) fun y hy=>h y (by simp[hy])
  have hx:=h x (by simp);simp only[BC,ALa,AJq,RV];split
  ·rename_i hd
   simp only[AJR,APE]at hd;refine⟨?_,?_,by omega⟩
   ·rintro y (rfl|hy)
    ·exact⟨hx.1,ML hx.2.1 hn,rfl⟩
    grind
   grind
  grind
theorem vM{c:CK}{n:Int}:∀{l:List BR},(∀x∈l,x.1.length<=40/\A_ c x.2.1=true/\x.2.2.1=holds c x.2.1)->
  (∀x∈l.map (Ej n),x.1.length<=40/\A_ c x.2.1=true/\x.2.2.1=holds c x.2.1)/\RV (l.map (Ej n))=RV l
 |[],h=>by simp
 |x::l,h=>by
  obtain⟨h1,h2⟩:=vM (n:=n) (l:=l) fun y hy=>h y (by simp[hy])
  have hx:=h x (by simp);simp only[APX,ALa,RV,h2,Ej,AO1]
  rintro y (rfl|hy)
  ·refine⟨hx.1,?_,?_⟩
   ·simp only
    split
    ·simp_all
    ·exact SX _ hx.2.1
   ·simp only
    split
    ·simp_all
    ·rename_i hd
     simp only[AMH]at hd;rw[hd]
     symm
     rw[APG];grind[rz,su]
  grind
theorem d_{c:CK}{w:AR}{n:Int}(h:dW c w):dW c (B5 c w n).1/\(B5 c w n).1=(w.1,w.2.1.map (Ej n),()):=by
 unfold B5;rw[HW.2 h];obtain⟨h1,h2⟩:=vM (n:=n) h.words;exact⟨⟨h.cfg,h.ep,by simpa using h.n,h1,by simp only[AJX];exact h2▸h.opn⟩,rfl⟩
theorem KO{l:List AJ}:0<=Od l/\Od l<=60:=by
 unfold Od;cases l.length==0 with
 |true=>simp
 |false=>
  simp only[AJQ];rcases AIn (Aq (l.getD (l.length-1) Di).1)with h|h
  ·have:=(GA h).2.1;omega
  grind[Bl]
theorem yd{c:CK}{m:Az}{n:Int}{l:List AJ}(h:(Oy c m n l).2=true):ud c m/\ud c (Oy c m n l).1/\m.2.2.2.2.1=false/\
  (Oy c m n l).1=(m.1,m.2.1,N9 n m.2.2.1,EB m.2.2.2.1 (l.filter fun e=>AZ e.1==m.2.1),m.2.2.2.2.1,m.2.2.2.2.2.1,()):=by
 unfold Oy at*;split at h
 ·cases h
 rename_i hs;rw[AJD hs];simp only[AMH,AMT]at hs;rw[HA]at hs;simp only at h|-;split at h
 case isFalse=>cases h
 rename_i h1;rw[AI9 h1];simp only[AJR,APE]at h1;exact⟨hs,HA.1 h1.2,h1.1,rfl⟩
theorem AAB{c:CK}{m:Az}{s:AAN}(h:(L9 c m s).2=true):ud c m/\ud c (L9 c m s).1/\m.2.2.2.2.1=false/\Q4 c s (m.2.2.1.filter s.contains)=true/\
  (L9 c m s).1=(m.1,m.2.1,m.2.2.1,m.2.2.2.1,true,List.replicate (Od m.2.2.2.1).toNat [],()):=by
 unfold L9 at*;split at h
 ·cases h
 rename_i hs;rw[AJD hs];simp only[AMH,AMT]at hs;rw[HA]at hs;split at h
 case isFalse=>cases h
 rename_i h1;rw[AI9 h1];simp only[AJR,APE]at h1;refine⟨hs,⟨hs.cfg,hs.ep,hs.b,hs.sld,hs.zZ,hs.seen,fun l hl=> ?_,?_⟩,h1.1,h1.2,rfl⟩
 ·simp only at hl
  rw[AO7 hl];exact fJ hs.cfg
 ·simp only[ASv,AOx]
  have:=(KO (l:=m.2.2.2.1)).1;omega
theorem j9{c:CK}{m:Az}{s:AL}{n:Int}(hn:0<=n/\n<c.1.length):∀{l:List AAN} {o:Int},(∀x∈l,A_ c x=true)->
  (∀x∈FO m s n o l,A_ c x=true)/\(FO m s n o l).length=l.length
 |[],o,h=>by simp[FO]
 |x::l,o,h=>by
  obtain⟨h1,h2⟩:=j9 (m:=m) (s:=s) hn (l:=l) (o:=o+1) fun y hy=>h y (by simp[hy])
  have hx:=h x (by simp);simp only[FO,ALa,AJq,h2,AO1]
  rintro y (rfl|hy)
  all_goals grind[ML]
theorem AF8{c:CK}{s:AL}{l:List C7}{n:Int}{m:Az}(hn:0<=n/\n<c.1.length)(h:ud c m):ud c (MC s l n m):=by
 unfold MC;split
 ·obtain⟨h1,h2⟩:=j9 (m:=m) (s:=s) hn (o:=1) h.wrote
  exact⟨h.cfg,h.ep,h.b,h.sld,h.zZ,h.seen,h1,by simp only[h2];exact h.n⟩
 omega
theorem ue{c:CK}{m:Az}{n:Int}(h:ud c m):ud c (CC c m n).1/\(CC c m n).1=(m.1,m.2.1,m.2.2.1,m.2.2.2.1,m.2.2.2.2.1,m.2.2.2.2.2.1.map fun l=>less l [n],()):=by
 unfold CC;rw[HA.2 h];refine⟨⟨h.cfg,h.ep,h.b,h.sld,h.zZ,h.seen,fun l hl=> ?_,?_⟩,rfl⟩
 ·simp only[AJX,AJn,AMd,APC]at hl
  obtain⟨l',h1,rfl⟩:=hl;exact SX _ (h.wrote l' h1)
 ·simp only[AJX,AJn,AMd,AQx]
  exact h.n
theorem tg{c:CK}{g:AN}{sure:Int}{r:Ac}{l:List BG}(h:(DH c g sure r l).2=0):AI4 (DH c g sure r l).1:=by
 unfold DH at*;split at h
 ·omega
 rename_i hs;rw[AJD hs];simp only[AMH,AMT,AJR,KC,Ue]at hs;obtain⟨hg,hr,_⟩:=hs;have r1:=hr.ep;have r2:=hr.off;have r3:=hr.n;split at h
 ·omega
 rename_i h1;rw[AJD h1];simp only[AOy,AJr,ATi]at h1;have hn:=hg.n;simp only at h|-;split at h
 ·rename_i h2
  rw[AI9 h2];have hp:Aq g.2.1=true:=by
   rcases hg.trim with ht|ht
   all_goals grind[Gv]
  obtain⟨a1,a2,_⟩:=GA hp;exact⟨by grind,by grind,by grind⟩
 ·rename_i h2
  rw[AJD h2];split at h
  ·rename_i h3
   rw[AI9 h3];exact⟨by grind,by simp_all,by simp_all;omega⟩
  ·rename_i h3
   rw[AJD h3];split at h
   ·omega
   rename_i h4;rw[AJD h4];simp only[AOy,AJr,ATi]at h4;split at h
   ·omega
   rename_i h5;rw[AJD h5];exact⟨by omega,by grind,by simp_all;omega⟩
theorem AD{α β:Type}(a:α)(f:α->Option β):(some a).bind f=f a:=rfl
theorem WU{l:AAN}{x:Int}(hl:l.length<=2^30):∀(n i:Nat) (b:AAN),i<=l.length->l.length-i<n->b.length<=2*i+1->
  Ky n l x true i b=some (((),()),(b++l.drop i,()))
 |0,i,b,_,h,_=>by omega
 |n+1,i,b,hi,h,hb=>by
  simp only[Ky,UG,AB,AJX,AJQ];by_cases hc:i<l.length
  ·have c1:(0:Int)<=(i:Int)/\(i:Int)<(l.length:Int):=by omega
   have c2:b.length+1<=Cm:=by rw[Ap];omega
   rw[AI9 c1.2,AI9 c1,AI9 c2,AH (by omega) (by omega),show((i:Int)+1)=((i+1:Nat):Int)by omega,Af hc,drop_cons hc,WU hl n (i+1) _ (by omega) (by omega) (by grind)];simp
  grind
theorem cC{l:AAN}{x:Int}(hl:l.length<=2^30):∀(n i:Nat) (b:AAN),i<=l.length->l.length-i<n->b.length<=i->
  Ky n l x false i b=some (((),()),(b++jl x (l.drop i),()))
 |0,i,b,_,h,_=>by omega
 |n+1,i,b,hi,h,hb=>by
  simp only[Ky,UG,AB,AOH,AJy];have c2:b.length+1<=Cm:=by rw[Ap];omega
  by_cases hc:i<l.length
  ·have c1:(0:Int)<=(i:Int)/\(i:Int)<(l.length:Int):=by omega
   have c3:(b++[x]).length+1<=Cm:=by grind[Ap]
   rw[AI9 c1.2];simp only[AI9 c1,AI9 c2,AI9 c3];rw[AH (by omega) (by omega),show((i:Int)+1)=((i+1:Nat):Int)by omega,Af hc,drop_cons hc];simp only[jl];by_cases hx:l[i]>x
   ·rw[AI9 hx,AI9 (by omega),WU hl n (i+1) _ (by omega) (by omega) (by grind)]
    simp
   ·rw[AJD hx,AJD (by omega),cC hl n (i+1) _ (by omega) (by omega) (by simp_all)]
    simp
  ·rw[AJD (by omega),AI9 c2,AJm (by omega)]
   rfl
theorem Ur{l:AAN}{x:Int}(hl:l.length<=2^30):RP l x=some (((),()),(N9 x l,())):=by
 unfold RP br N9;rw[KX (by omega)];simp only[AD];rcases AIn (l.contains x)with h|h
 ·rw[h,AI9 rfl]
  grind[WU,AX,Ab]
 ·rw[h,AJD (by simp)]
  grind[cC,AX,Ab]
theorem au{l m:AAN}(hl:l.length<=2^30)(hm:m.length<=2^30):∀(n i:Nat) (b:AAN),i<=l.length->l.length-i<n->b.length<=i->
  O8 n l m i b=some (((),()),(b++less (l.drop i) m,()))
 |0,i,b,_,h,_=>by omega
 |n+1,i,b,hi,h,hb=>by
  simp only[O8,Zg,AB];have c2:b.length+1<=Cm:=by rw[Ap];omega
  by_cases hc:i<l.length
  ·have c1:(0:Int)<=(i:Int)/\(i:Int)<(l.length:Int):=by omega
   rw[AI9 c1.2];simp only[AI9 c1,AI9 c2];rw[AH (by omega) (by omega),show((i:Int)+1)=((i+1:Nat):Int)by omega,Af hc,drop_cons hc,KX (by omega)];simp only[AD,less,AO3];cases hx:m.contains l[i]with
   |true=>
    simp only[AJX,AJQ,AJn,AMd];exact au hl hm n (i+1) _ (by omega) (by omega) (by omega)
   |false=>
    simp only[AOH,AJy,AOx];rw[au hl hm n (i+1) _ (by omega) (by omega) (by simp_all)];simp[less]
  ·rw[AJD (by omega),AJm (by omega)]
   simp[less]
theorem JZ{l m:AAN}(hl:l.length<=2^30)(hm:m.length<=2^30):Iy l m=some (((),()),(less l m,())):=by
 grind[Iy,aI,au,AX,Ab]
theorem Mu{e o:Int}(he: -1000<=e/\e<=1000)(ho: -1000<=o/\o<=1000):De e o=some ((Gv e o,()),()):=by
 grind[De,Gv,AH]
theorem Zw{e o:Int}:OH e o=some (((D1 e o,BD e 1 30&&BD o 1 60,()),()),()):=by
 unfold OH D1;rw[BW,BW];simp only[AD];rcases AIn (BD e 1 30)with he|he
 ·rcases AIn (BD o 1 60)with ho|ho
  ·have h1:=Ak.1 he
   have h2:=Ak.1 ho;rw[he,ho,AH (x:=4294967296*e) (by omega) (by omega),AH (by omega) (by omega)];rfl
  simp_all
 simp_all
theorem ar{a b:Int}:UT a b=some ((max a b,()),()):=by
 unfold UT;grind
theorem uY{a b:Int}:YV a b=some ((min a b,()),()):=by
 unfold YV;grind
def oC(q:AL×Bool):ADW×(List AJ×List AJ×Unit):=(((((),(),q.1.2.2.1,()),q.2,()),()),(q.1.1,q.1.2.1,()))
theorem PC{s:AL}(h1:s.1.length<=2^30)(h2:s.2.1.length<=2^30):Eh s=some ((((),(),s.2.2.1,()),()),(s.1,s.2.1,())):=by
 unfold Eh;rw[AI9 (by rw[Ap];omega),AI9 (by rw[Ap];omega)]
theorem pH{s:AL}{e:AJ}(he:CN e.1):XM s e=some ((takes s e,()),()):=by
 unfold XM takes;rw[D9 he];grind
theorem YE{a b:AJ}:Rn a b=some ((better a b,()),()):=by
 unfold Rn better;grind
theorem Ft{s:AL}(h:H.Ai s<=2^30):s.1.length<=2^30/\s.2.1.length<=2^30:=by
 grind[H.AU,H.Am,H.Ai]
theorem bL{s:AL}{e:AJ}(hw:H.Ai s<=2^30)(hs:tZ s)(he:CN e.1):QQ s e=some (oC (KS s e)):=by
 obtain⟨l1,l2⟩:=Ft hw;unfold QQ KS;rw[N_ s,eg e,Ff hw hs,PC l1 l2,Qd he,pH he];simp only[AD];rcases AIn (CA s)with h|h
 rotate_left
 ·rw[h];rfl
 rw[h];simp only[AJX,AJQ,AJn,AMd];cases Fg e with
 |false=>rfl
 |true=>
  cases takes s e with
  |false=>rfl
  |true=>
   simp only[AJX,AJQ,AKB];by_cases h20:s.2.1.length=20
   ·rw[show((s.2.1.length:Int)==20)=true by simp[h20],show decide (s.2.1.length≠20)=false by simp[h20]]
    rfl
   ·rw[show((s.2.1.length:Int)==20)=false by grind,show decide (s.2.1.length≠20)=true by simp[h20],AJQ,AI9 (by rw[Ap];omega)]
    rfl
theorem UM{l:List AJ}{e:AJ}(hl:l.length<=2^30):∀(n i:Nat) (b:List AJ),i<=l.length->l.length-i<n->b.length<=2*i+1->
  Ja n l true i e.1 e.2.1 e.2.2.1 e.2.2.2.1 b=some (((),()),(b++l.drop i,()))
 |0,i,b,_,h,_=>by omega
 |n+1,i,b,hi,h,hb=>by
  simp only[Ja,TS,AB,AJX,AJQ];by_cases hc:i<l.length
  ·have c1:(0:Int)<=(i:Int)/\(i:Int)<(l.length:Int):=by omega
   have c2:b.length+1<=Cm:=by rw[Ap];omega
   rw[AI9 c1.2,AI9 c1,AI9 c2,AH (by omega) (by omega),show((i:Int)+1)=((i+1:Nat):Int)by omega,Af hc,drop_cons hc,UM hl n (i+1) _ (by omega) (by omega) (by grind),AKK];rfl
  grind
theorem Zh{l:List AJ}{e:AJ}(hl:l.length<=2^30):∀(n i:Nat) (b:List AJ),i<=l.length->l.length-i<n->b.length<=i->
  Ja n l false i e.1 e.2.1 e.2.2.1 e.2.2.2.1 b=some (((),()),(b++keep e (l.drop i),()))
 |0,i,b,_,h,_=>by omega
 |n+1,i,b,hi,h,hb=>by
  simp only[Ja,TS,AB,AOH,AJy];have c2:b.length+1<=Cm:=by rw[Ap];omega
  by_cases hc:i<l.length
  ·have c1:(0:Int)<=(i:Int)/\(i:Int)<(l.length:Int):=by omega
   have c3:(b++[(e.1,e.2.1,e.2.2.1,e.2.2.2.1,())]).length+1<=Cm:=by grind[Ap]
   rw[AI9 c1.2];simp only[AI9 c1,AI9 c2,AI9 c3];rw[AH (by omega) (by omega),show((i:Int)+1)=((i+1:Nat):Int)by omega,Af hc,drop_cons hc];rw[eg (l[i]),eg e,YE];simp only[AD,keep];by_cases hx:l[i].1=e.1
   ·rw[show(l[i].1==e.1)=true by simp_all,AI9 hx,AJy,show((better l[i] e).1,(better l[i] e).2.1,(better l[i] e).2.2.1,(better l[i] e).2.2.2.1,())=better l[i] e from rfl,UM hl n (i+1) _ (by omega) (by omega) (by grind)]
    simp
   ·rw[show(l[i].1==e.1)=false by simp_all,AJD hx,AJQ]
    by_cases hg:l[i].1>e.1
    ·rw[AI9 hg,AI9 hg,UM hl n (i+1) _ (by omega) (by omega) (by grind)]
     simp
    ·rw[AJD hg,AJD hg,Zh hl n (i+1) _ (by omega) (by omega) (by simp_all)]
     simp
  ·rw[AJD (by omega),AI9 c2,AJm (by omega)]
   rfl
theorem Ys{l:List AJ}{e:AJ}(hl:l.length<=2^30):Rk l e=some (((),()),(keep e l,())):=by
 grind[Rk,Zm,Zh,AX,Ab]
theorem U6{l:List AJ}{p:Int}(hl:l.length<=2^30):HF l p=some ((((OV p l).getD Di,(OV p l).isSome,()),()),()):=by
 have key:∀(n i:Nat),i<=l.length->l.length-i<n->QM n l p i 0 0 false []=some ((((OV p (l.drop i)).getD Di,(OV p (l.drop i)).isSome,()),()),()):=by
  intro n
  induction n with
  |zero=>omega
  |succ n ih=>
   intro i hi h;simp only[QM,bS,AB];by_cases hc:i<l.length
   ·have c1:(0:Int)<=(i:Int)/\(i:Int)<(l.length:Int):=by omega
    rw[AI9 c1.2];simp only[AI9 c1];rw[AH (by omega) (by omega),show((i:Int)+1)=((i+1:Nat):Int)by omega,Af hc,drop_cons hc,ih (i+1) (by omega) (by omega)];simp only[OV,ATO];cases l[i].1==p<;>rfl
   ·rw[AJD (by omega),AJm (by omega)]
    rfl
 grind[HF,bZ,AX,Ab]
theorem wx{k:Int}{i:Nat}(hk:0<=k/\k<2^63)(hi:i<=63):(tO .i64 (k.fdiv (2^(min i 64))) 1==1)=decide ((k/2^i)%2=1):=by
 obtain⟨m,rfl⟩:∃m:Nat,k=m:=⟨k.toNat,by omega⟩;rw[show min i 64=i by omega];have h1:(m:Int).fdiv (2^i)=((m/2^i:Nat):Int):=by
  grind
 have h2:(m:Int)/2^i=((m/2^i:Nat):Int):=by norm_cast
 have h3:m/2^i<2^63:=Nat.lt_of_le_of_lt (Nat.div_le_self _ _) (by omega);rw[h1,h2,show(1:Int)=((1:Nat):Int)from rfl,AGy h3 (by omega),Nat.and_one_is_mod];rfl
def yH(p:Nat->Bool):Nat->List AJ->List AJ
 |_,[]=>[]
 |i,e::l=>if p i then e::yH p (i+1) l else yH p (i+1) l
theorem vK{k:Int}(hk:0<=k/\k<2^63):∀{l:List AJ} {i:Nat},i+l.length<=60->yH (fun i=>tO .i64 (k.fdiv (2^(min i 64))) 1==1) i l=Mi k i l
 |[],i,_=>rfl
 |e::l,i,h=>by
  simp only[AJq]at h;have ih:=vK hk (l:=l) (i:=i+1) (by omega);have AEL:=wx hk (i:=i) (by omega);simp only[yH,Mi];simp_all
theorem Z3{s:AL}{k:Int}(h1:s.1.length<=200)(h2:s.2.1.length<=20):∀(n i:Nat) (b:List AJ),i<=s.2.1.length->s.2.1.length-i<n->b.length<=200+i->
  Jf n k i s.1 s.2.1 s.2.2.1 0 [] [] s.2.2.1 b []=
   some (oC (if BD k 0 1048575&&decide ((EB b (yH (fun i=>tO .i64 (k.fdiv (2^(min i 64))) 1==1) i (s.2.1.drop i))).length<=200)then((EB b (yH (fun i=>tO .i64 (k.fdiv (2^(min i 64))) 1==1) i (s.2.1.drop i)),[],s.2.2.1,()),true)else(s,false)))
 |0,i,b,_,h,_=>by omega
 |n+1,i,b,hi,h,hb=>by
  simp only[Jf,T2,AB];by_cases hc:i<s.2.1.length
  ·have c1:(0:Int)<=(i:Int)/\(i:Int)<(s.2.1.length:Int):=by omega
   have ih:=fun b hb=>Z3 (k:=k) h1 h2 n (i+1) b (by omega) (by omega) hb
   rw[AI9 c1.2,AJD (by omega)];simp only[AI9 c1];rw[AH (by omega) (by omega),show((i:Int)+1)=((i+1:Nat):Int)by omega,Af hc,drop_cons hc,AJT];rw[eg (s.2.1[i]),Ys (by omega)];simp only[AD,yH];have kl:=YJ (e:=s.2.1[i]) (l:=b);rcases AIn (tO .i64 (k.fdiv (2^(min i 64))) 1==1)with hb|hb
   ·simp only[hb,AJy,AOx,EB]
    grind
   grind
  ·rw[AJD (by omega),AJm (by omega),BW,N_ s,PC (by omega) (by omega)]
   simp only[AD,yH,EB];cases BD k 0 1048575 with
   |false=>rfl
   |true=>
    simp only[AJX,AJQ,AKB];by_cases h200:b.length<=200
    ·rw[AJD (by omega),ALg h200];rfl
    ·rw[AI9 (by omega),ANS h200];rfl
theorem X1{s:AL}{k:Int}(hw:Ai s<=2^30)(hs:tZ s):Mo s k=some (oC (Fl s k)):=by
 obtain⟨l1,l2⟩:=Ft hw;unfold Mo T4 Fl;rw[N_ s,Ff hw hs];simp only[AD];rcases AIn (CA s)with h|h
 rotate_left
 ·rw[h];rfl
 have DX:=Dc.1 h;rw[h];simp only[AJX,AJQ,AJn,AMd];rw[AI9 (by rw[Ap];omega)];have:=Z3 (k:=k) DX.nk DX.nl AX 0 s.1 (by omega) (Ab (by omega)) (by have:=DX.nk;omega);rw[show((0:Nat):Int)=0 from rfl,AOn]at this;rw[this];rcases AIn (BD k 0 1048575)with hk|hk
 ·have hk':=Ak.1 hk
  have hn:=DX.nl;grind[vK]
 simp_all
theorem Zf{s:AL}(hw:Ai s<=2^30)(hs:tZ s):Ox s=some (oC (Ct s)):=by
 unfold Ox Ct;rw[N_ s,X1 hw hs];rfl
theorem lf{s:AL}{u:Int}(hw:Ai s<=2^30)(hs:tZ s):Ss s u=some (oC (Bw s u)):=by
 obtain⟨l1,l2⟩:=Ft hw;unfold Ss Bw;rw[N_ s,Ff hw hs,Zf hw hs,PC l1 l2,BW];simp only[AD];cases CA s with
 |false=>rfl
 |true=>
  simp only[AJX,AJQ,AJn,AMd,oC];cases(Ct s).2 with
  |false=>rfl
  |true=>
   cases BD u 0 30 with
   |false=>rfl
   |true=>
    simp only[AJX,AJQ,AKB,AOx];rw[ar];rfl
theorem mY{s:AL}{ep:Int}(hw:Ai s<=2^30)(hs:tZ s):VI s ep=some (((),()),(Jh s ep,())):=by
 obtain⟨l1,l2⟩:=Ft hw;unfold VI Wv Jh;rcases AIn (CA s)with h|h
 ·have key:∀(n i:Nat) (b:List AJ),i<=s.1.length->s.1.length-i<n->b.length<=i->JJ n ep i s.1 s.2.1 s.2.2.1 b=some (((),()),(b++(s.1.drop i).filter fun e=>AZ e.1==ep,())):=by
   intro n
   induction n with
   |zero=>omega
   |succ n ih=>
    intro i b hi hn hb;simp only[JJ,P9,AB];have c2:b.length+1<=Cm:=by rw[Ap];omega
    by_cases hc:i<s.1.length
    ·have c1:(0:Int)<=(i:Int)/\(i:Int)<(s.1.length:Int):=by omega
     rw[AI9 c1.2];simp only[AI9 c1,AI9 c2];rw[AH (by omega) (by omega),show((i:Int)+1)=((i+1:Nat):Int)by omega,Af hc,drop_cons hc,N_ s,Ff hw hs,D9 (hs.1 _ (AJ7 hc)),h];simp only[AD,AJy,AO3];cases AZ s.1[i].1==ep with
     |true=>
      simp only[AJy,AOx];rw[ih (i+1) _ (by omega) (by omega) (by simp_all),AKK];rfl
     |false=>
      grind
    grind
  have:=key AX 0 [] (by omega) (Ab (by omega)) (by simp);simp_all
 ·obtain⟨m,hm⟩:∃m,AX=m+1:=⟨AX-1,by have:=Uw;omega⟩
  rw[h,hm];simp only[JJ,P9,AB];rw[N_ s,Ff hw hs,h];simp_all
theorem j8{s:AL}{u:Int}(hw:Ai s<=2^30)(hs:tZ s)(hu:CN u):Sz s u=some (oC (JG s u)):=by
 obtain⟨l1,l2⟩:=Ft hw;unfold Sz Vl JG;rw[N_ s,Ff hw hs,PC l1 l2,Er hu];simp only[AD];cases CA s with
 |false=>rfl
 |true=>
  cases Aq u with
  |false=>rfl
  |true=>
   simp only[AJX,AJQ,AJn,AMd,AOx];have key:∀(n i:Nat) (b:List AJ),i<=s.1.length->s.1.length-i<n->b.length<=i->KM n u i s.1 s.2.1 s.2.2.1 0 [] [] s.2.2.1 b s.2.1=some (oC ((b++(s.1.drop i).filter fun e=>decide (e.1>u),s.2.1,s.2.2.1,()),true)):=by
    intro n
    induction n with
    |zero=>omega
    |succ n ih=>
     intro i b hi hn hb;simp only[KM,WB];have c2:b.length+1<=Cm:=by rw[Ap];omega
     by_cases hc:i<s.1.length
     ·have c1:(0:Int)<=(i:Int)/\(i:Int)<(s.1.length:Int):=by omega
      rw[ALg c1.2];simp only[AI9 c1,AI9 c2,AJy];rw[AH (by omega) (by omega),show((i:Int)+1)=((i+1:Nat):Int)by omega,Af hc,drop_cons hc];simp only[AO3];cases decide (s.1[i].1>u)with
      |true=>
       simp only[AJy,AOx];rw[ih (i+1) _ (by omega) (by omega) (by simp_all),AKK];rfl
      |false=>
       grind
     grind[decide_eq_false,List.drop_eq_nil_of_le,oC]
   have:=key AX 0 [] (by omega) (Ab (by omega)) (by simp);simp_all
theorem NB{α:Type}{l:List α}{i:Nat}{x d:α}(hi:i<l.length):(l.set i x).getD i d=x:=by
 simp_all
theorem Pb{α:Type}{l:List α}{f:α->α}{i:Nat}(hi:i<=l.length):((l.map f).take i++l.drop i).length=l.length:=by
 simp_all
theorem M4{α:Type}{l:List α}{f:α->α}{i:Nat}{d:α}(hi:i<l.length):((l.map f).take i++l.drop i).getD i d=l[i]:=by
 grind
theorem Qi{α:Type}{l:List α}{f:α->α}{i:Nat}{y:α}(hi:i<l.length)(hy:y=f l[i]):((l.map f).take i++l.drop i).set i y=(l.map f).take (i+1)++l.drop (i+1):=by
 have h:((l.map f).take i).length=i:=by grind
 subst hy;rw[ATU _ _ (by omega),h,ATT,drop_cons hi,ATK,AOz (by simp_all),AKK,List.getElem_map];rfl
theorem kX{α:Type}{l:List α}{f:α->α}{i:Nat}(hi:i<l.length)(hf:f l[i]=l[i]):(l.map f).take i++l.drop i=(l.map f).take (i+1)++l.drop (i+1):=by
 grind[List.take_succ_eq_append_getElem,List.append_assoc,drop_cons]
theorem yC{n:Int}:∀{l:AAN},(jl n l).length=l.length+1
 |[]=>rfl
 |a::l=>by
  simp only[jl];split
  ·simp
  ·simp[yC (l:=l)]
theorem bK{n:Int}{l:AAN}:(N9 n l).length<=l.length+1:=by
 grind[N9,yC]
theorem HL{r:AN}{e:Int}(hl:Ae B_ r.1<=2^30):DT r e=some (((),()),(CS r.1 e,())):=by
 have l1:=AU (f:=B_) (l:=r.1);unfold DT CS;rw[BW];simp only[AD];rcases AIn (BD e 1 (r.1.length:Int))with h|h
 ·have h':=Ak.1 h
  have hm:=AY (f:=B_) (Bh (d:=IM) (l:=r.1) (i:=(e-1).toNat) (by omega));have hm':(r.1.getD (e-1).toNat IM).1.length<=Ae B_ r.1:=hm;rw[h,AH (by omega) (by omega)];simp only[AJX,AJQ,AOx];rw[AI9 (by omega),AI9 (by grind[Ap,IM])];rfl
 simp_all
theorem Si{r:AN}(hl:Ae B_ r.1<=2^30):F_ r=some ((((),r.2.1,()),()),(r.1,())):=by
 have l1:=AU (f:=B_) (l:=r.1);have key:∀(n i:Nat) (b:List C7),i<=r.1.length->r.1.length-i<n->b.length<=i->OI n i r.1 r.2.1 0 [] r.2.1 b=some ((((),r.2.1,()),()),(b++r.1.drop i,())):=by
  intro n
  induction n with
  |zero=>omega
  |succ n ih=>
   intro i b hi hn hb;simp only[OI,Zp,AB];by_cases hc:i<r.1.length
   ·have c1:(0:Int)<=(i:Int)/\(i:Int)<(r.1.length:Int):=by omega
    have hm:=AY (f:=B_) (AJ7 hc)
    replace hm:r.1[i].1.length<=Ae B_ r.1:=hm
    rw[AI9 c1.2,AI9 c1,AH (by omega) (by omega),show((i:Int)+1)=((i+1:Nat):Int)by omega,Af hc,AI9 (by rw[Ap];omega),AI9 (by rw[Ap];omega),drop_cons hc,ih (i+1) _ (by omega) (by omega) (by simp_all),AKK];rfl
   grind
 grind[F_,Zo,AX,Ab]
def pkR(q:AN×Bool):AEb×(List C7×Unit):=(((((),q.1.2.1,()),q.2,()),()),(q.1.1,()))
section
variable{c:CK} {r:AN} (hc:c.1.length<=2^40) (hl:Ae B_ r.1<=2^30) (ht:CN r.2.1)
include hc hl ht
theorem pc{ns:AAN}(hn:ns.length<=2^30):Po c r ns=some (((((),(Ik c r ns).1.2.1,()),(Ik c r ns).2.1,(Ik c r ns).2.2,()),()),((Ik c r ns).1.1,())):=by
 have l1:=AU (f:=B_) (l:=r.1);unfold Po Ik;rw[show(c.1,c.2.1,())=c from rfl,show(r.1,r.2.1,())=r from rfl,QR hc hl ht,Si hl,HU hc (by omega)];simp only[AD];cases OO c r with
 |false=>rfl
 |true=>
  cases holds c ns with
  |false=>rfl
  |true=>
   simp only[AJX,AJQ,AJn,AMd,AKB];by_cases h30:r.1.length=30
   ·simp_all
   ·rw[show((r.1.length:Int)==30)=false by grind,show decide (r.1.length≠30)=true by simp[h30],AJQ,AI9 (by rw[Ap];omega),AI9 (by rw[Ap];omega)]
    simp
theorem nI{b last:Int}:U4 c r b last=some (pkR (ON c r b last)):=by
 have l1:=AU (f:=B_) (l:=r.1);unfold U4 ON;rw[show(c.1,c.2.1,())=c from rfl,show(r.1,r.2.1,())=r from rfl,QR hc hl ht,Si hl,S4 (by omega)];simp only[AD];rcases AIn (OO c r)with hr|hr
 rotate_left
 ·rw[hr];rfl
 rw[hr];simp only[AJX,AJQ,AJn,AMd];by_cases h1:b=r.1.length
 rotate_left
 ·rw[show(b !=(r.1.length:Int))=true by simp_all,show decide (b=(r.1.length:Int))=false by simp_all]
  rfl
 rw[show(b !=(r.1.length:Int))=false by simp_all,show decide (b=(r.1.length:Int))=true by simp_all];simp only[AJQ,AKB];by_cases h2:BN r.1=0
 ·rw[show(BN r.1==0)=true by simp_all,show decide (BN r.1≠0)=false by simp_all]
  rfl
 rw[show(BN r.1==0)=false by simp_all,show decide (BN r.1≠0)=true by simp_all];simp only[AJQ,AKB];by_cases h3:b=BN r.1
 ·rw[show(b==BN r.1)=true by simp_all,show decide (b≠BN r.1)=false by simp_all]
  rfl
 rw[show(b==BN r.1)=false by simp_all,show decide (b≠BN r.1)=true by simp_all,BW];simp only[AJQ,AKB,AD];cases BD last 0 60 with
 |false=>rfl
 |true=>
  have DX:=KC.1 hr;have AGe:0<r.1.length:=by
   rcases Nat.eq_zero_or_pos r.1.length with hz|hz
   ·exact absurd (by unfold BN;rw[hz];rfl) h2
   omega
  obtain⟨k,k1,k2,k3,k4⟩:=TL DX AGe;simp only[AJX,AJQ,AOx];rw[k2,AH (by omega) (by omega),show((k:Int)+1-1)=(k:Int)by omega,AI9 (by omega),AI9 (by simp_all),AJT];unfold pkR Oh;simp_all
theorem p8{p:Int}(hp:CN p):XI c r p=some (pkR (Pm c r p)):=by
 unfold XI Pm;rw[show(c.1,c.2.1,())=c from rfl,show(r.1,r.2.1,())=r from rfl,QR hc hl ht,Si hl,Er hp,D9 hp];simp only[AD];cases OO c r with
 |false=>rfl
 |true=>
  cases Aq p with
  |false=>rfl
  |true=>
   simp only[AJX,AJQ,AJn,AMd,AKB];by_cases h:AZ p<=r.1.length
   ·rw[show decide (AZ p>(r.1.length:Int))=false by simp_all,show decide (AZ p<=(r.1.length:Int))=true by simp_all,AJQ,ar]
    rfl
   ·rw[show decide (AZ p>(r.1.length:Int))=true by simp_all,show decide (AZ p<=(r.1.length:Int))=false by simp_all]
    rfl
end
theorem Sf{w:AR}(hl:Ae BQ w.2.1<=2^30):FG w=some (((w.1,(),()),()),(w.2.1,())):=by
 have l1:=AU (f:=BQ) (l:=w.2.1);have key:∀(n i:Nat) (b:List BR),i<=w.2.1.length->w.2.1.length-i<n->b.length<=i->OJ n i w.1 w.2.1 0 [] w.1 b=some (((w.1,(),()),()),(b++w.2.1.drop i,())):=by
  intro n
  induction n with
  |zero=>omega
  |succ n ih=>
   intro i b hi hn hb;simp only[OJ,Zs,AB];by_cases hc:i<w.2.1.length
   ·have c1:(0:Int)<=(i:Int)/\(i:Int)<(w.2.1.length:Int):=by omega
    have hm:w.2.1[i].1.length+w.2.1[i].2.1.length<=Ae BQ w.2.1:=AY (f:=BQ) (AJ7 hc);rw[AI9 c1.2,AI9 c1,AH (by omega) (by omega),show((i:Int)+1)=((i+1:Nat):Int)by omega,Af hc,AI9 (by rw[Ap];omega),AI9 (by rw[Ap];omega),drop_cons hc,ih (i+1) _ (by omega) (by omega) (by simp_all),AKK];rfl
   grind
 grind[FG,aP,AX,Ab]
theorem Zk{α:Type}{f:α->Nat}{l m:List α}:Ae f (l++m)=Ae f l+Ae f m:=by
 induction l with
 |nil=>simp[Ae]
 |cons a l ih=>grind[Ae]
theorem nw{n:Int}{x:BR}(h:x.2.2.1=true):Ej n x=x:=by
 obtain⟨a,b,d,e⟩:=x;simp only at h;subst h;rfl
def pkW(q:AR×Bool):AEa×(List BR×Unit):=((((q.1.1,(),()),q.2,()),()),(q.1.2.1,()))
section
variable{c:CK} {w:AR} (hc:c.1.length<=2^40) (hl:Ae BQ w.2.1<=2^20)
include hc hl
theorem kF{d:AAZ}(hd:d.length<=2^20):Ln c w d=some (((((CM c w d).1.1,(),()),(CM c w d).2.1,(CM c w d).2.2,()),()),((CM c w d).1.2.1,())):=by
 have l1:=AU (f:=BQ) (l:=w.2.1);unfold Ln CM;rw[show(c.1,c.2.1,())=c from rfl,show(w.1,w.2.1,())=w from rfl,Li hc (by omega),Sf (by omega)];simp only[AD];cases FY c w with
 |false=>rfl
 |true=>
  simp only[AJX,AJQ,AJn,AMd];rw[AI9 (by rw[Ap];omega),Li hc (by
   grind[Ae,BQ,Zk,List.length_nil])]
  grind
theorem km{o n:Int}:FU c w o n=some (pkW (Ro c w o n)):=by
 have l1:=AU (f:=BQ) (l:=w.2.1);unfold FU Ro;rw[show(c.1,c.2.1,())=c from rfl,show(w.1,w.2.1,())=w from rfl,Li hc (by omega),Sf (by omega),BW,BW];simp only[AD];rcases AIn (FY c w)with hw|hw
 rotate_left
 ·rw[hw];rfl
 have AFw:=HJ (HW.1 hw).cfg;rw[hw,AH (x:=(c.1.length:Int)-1) (by omega) (by omega)];simp only[AJX,AJQ,AJn,AMd];rcases AIn (BD o 1 (w.2.1.length:Int))with ho|ho
 rotate_left
 ·rw[ho];rfl
 have ho':=Ak.1 ho;rw[ho];cases BD n 0 ((c.1.length:Int)-1)with
 |false=>rfl
 |true=>
  have hi:(o-1).toNat<w.2.1.length:=by omega
  have hm:(w.2.1.getD (o-1).toNat MB).1.length+(w.2.1.getD (o-1).toNat MB).2.1.length<=Ae BQ w.2.1:=AY (f:=BQ) (Bh (d:=MB) hi);simp only[AJX,AJQ,AKB];rw[AH (by omega) (by omega),AI9 (by omega)]
  show cond (w.2.1.getD (o-1).toNat MB).2.2.1 _ _=_
  cases(w.2.1.getD (o-1).toNat MB).2.2.1 with
  |true=>rfl
  |false=>
   simp only[AJQ,AOH,AOx];rw[AI9 (by omega),show(w.2.1.getD (o-1).toNat ([],[],false,())).2.1=(w.2.1.getD (o-1).toNat MB).2.1 from rfl,Ur (by omega)];simp only[AD];rw[AI9 (by omega)];have hg:∀x:BR,(w.2.1.set (o-1).toNat x).getD (o-1).toNat ([],[],false,())=x:=fun x=>NB hi
   rw[AI9 (by grind),hg,HU hc (by
    grind[bK,MB])]
   simp only[AD];rw[AI9 (by grind),ATJ];rfl
theorem fS{n:Int}:Ng c w n=some (pkW (B5 c w n)):=by
 have l1:=AU (f:=BQ) (l:=w.2.1);unfold Ng RW B5;rw[show(c.1,c.2.1,())=c from rfl,show(w.1,w.2.1,())=w from rfl,Li hc (by omega),Sf (by omega)];simp only[AD];cases FY c w with
 |false=>rfl
 |true=>
  simp only[AJX,AJQ,AJn,AMd];have key:∀(k i:Nat),i<=w.2.1.length->w.2.1.length-i<k->Hn k n i 0 [] w.1 ((w.2.1.map (Ej n)).take i++w.2.1.drop i)=some (pkW ((w.1,w.2.1.map (Ej n),()),true)):=by
   intro k
   induction k with
   |zero=>omega
   |succ k ih=>
    intro i hi hk;have hlen:((w.2.1.map (Ej n)).take i++w.2.1.drop i).length=w.2.1.length:=Pb hi;simp only[Hn,Ra,AB,hlen];by_cases D7:i<w.2.1.length
    ·have c1:(0:Int)<=(i:Int)/\(i:Int)<(w.2.1.length:Int):=by omega
     have hm:w.2.1[i].1.length+w.2.1[i].2.1.length<=Ae BQ w.2.1:=AY (f:=BQ) (AJ7 D7);have hg:((w.2.1.map (Ej n)).take i++w.2.1.drop i).getD ((i:Int).toNat) ([],[],false,())=w.2.1[i]:=M4 D7;rw[AI9 c1.2];simp only[AI9 c1,hg];rw[AH (by omega) (by omega),show((i:Int)+1)=((i+1:Nat):Int)by omega];rcases AIn (w.2.1[i].2.2.1)with hd|hd
     ·rw[hd]
      simp only[AJX,AJQ];grind[kX,nw]
     ·rw[hd]
      simp only[AOH,AJy];rw[JZ (by omega) (by simp)];grind[AD,Int.toNat_natCast,Qi,Ej]
    ·rw[AJD (by omega),AJm (by omega)]
     have:i=w.2.1.length:=by omega
     subst this;rw[AKX,ANm (by simp)];rfl
  have:=key AX 0 (by omega) (Ab (by omega));simp_all
end
abbrev PkM:Type:=AD9×(List Int×List AJ×List AAN×Unit)
def kH(q:Az×Bool):PkM:=((((q.1.1,q.1.2.1,(),(),q.1.2.2.2.2.1,(),()),q.2,()),()),(q.1.2.2.1,q.1.2.2.2.1,q.1.2.2.2.2.2.1,()))
section
variable{m:Az} (hm:CH m<=2^20)
include hm
theorem I3:m.2.2.1.length<=2^20/\m.2.2.2.1.length<=2^20/\m.2.2.2.2.2.1.length<=2^20/\ ∀l∈m.2.2.2.2.2.1,l.length<=2^20:=by
 have l1:=AU (f:=Am) (l:=m.2.2.2.1);have l2:=AU (f:=C1) (l:=m.2.2.2.2.2.1);have hm':m.2.2.1.length+(Ae Am m.2.2.2.1+(Ae C1 m.2.2.2.2.2.1+0))<=2^20:=by
  grind[CH]
 refine⟨by omega,by omega,by omega,fun l hl=> ?_⟩;have:l.length<=Ae C1 m.2.2.2.2.2.1:=AY (f:=C1) hl;omega
theorem LR:EI m=some (((m.1,m.2.1,(),(),m.2.2.2.2.1,(),()),()),(m.2.2.1,m.2.2.2.1,m.2.2.2.2.2.1,())):=by
 obtain⟨h1,h2,h3,h4⟩:=I3 hm;have key:∀(n i:Nat) (b:List AAN),i<=m.2.2.2.2.2.1.length->m.2.2.2.2.2.1.length-i<n->b.length<=i->
   Hq n i m.1 m.2.1 m.2.2.1 m.2.2.2.1 m.2.2.2.2.1 m.2.2.2.2.2.1 0 0 false [] [] [] m.1 m.2.1 m.2.2.2.2.1 m.2.2.1 m.2.2.2.1 b=some (((m.1,m.2.1,(),(),m.2.2.2.2.1,(),()),()),(m.2.2.1,m.2.2.2.1,b++m.2.2.2.2.2.1.drop i,())):=by
  intro n
  induction n with
  |zero=>omega
  |succ n ih=>
   intro i b hi hn hb;simp only[Hq,Sp,AB];by_cases hc:i<m.2.2.2.2.2.1.length
   ·have c1:(0:Int)<=(i:Int)/\(i:Int)<(m.2.2.2.2.2.1.length:Int):=by omega
    have hq:=h4 _ (AJ7 hc);rw[AI9 c1.2,AI9 c1,AH (by omega) (by omega),show((i:Int)+1)=((i+1:Nat):Int)by omega,Af hc,AI9 (by rw[Ap];omega),AI9 (by rw[Ap];omega),drop_cons hc,ih (i+1) _ (by omega) (by omega) (by simp_all),AKK];rfl
   grind
 unfold EI Nw;rw[AI9 (by rw[Ap];omega),AI9 (by rw[Ap];omega)];grind[AX,Ab]
end
theorem gE{l s:AAN}(hl:l.length<=2^20)(hs:s.length<=2^20):Kl l s=some (((),()),(l.filter s.contains,())):=by
 unfold Kl;rw[JZ (by omega) (by omega)];simp only[AD];have vd:(less l s).length<=l.length:=AOj _ _;rw[JZ (by omega) (by omega)];grind[AD,less,List.filter_congr]
theorem fu{c:CK}{s l:AAN}(hc:c.1.length<=2^40)(hl:l.length<=2^20)(hs:s.length<=2^20):Kk c s l=some ((Q4 c s l,()),()):=by
 unfold Kk Q4;rw[show(c.1,c.2.1,())=c from rfl,HU (l:=s) hc (by omega),Gz (l:=l) hc (by omega),JZ (l:=l) (m:=s) (by omega) (by omega),JZ (l:=s) (m:=l) (by omega) (by omega)];simp only[AD];rcases AIn (holds c s)with h|h
 rotate_left
 ·simp_all
 rw[h];cases A_ c l with
 |false=>rfl
 |true=>
  simp only[AJX,AJQ,AKB];have hn:A_ c (less s l)=true:=SX _ (aV h);by_cases ha:(less l s).length>0
  ·rw[show decide (((less l s).length:Int)>0)=true by simp_all]
   have:l.all s.contains=false:=by
    rw[APG];grind[List.all_eq_true,less,List.filter_eq_nil_iff]
   grind
  ·rw[ANS (show¬((less l s).length:Int)>0 by omega)]
   have:l.all s.contains=true:=by
    grind[less,List.length_eq_zero_iff,List.filter_eq_nil_iff,List.all_eq_true]
   rw[this];simp only[AJQ,AKB];rw[gB hn];simp only[AD,holds,hn,AKB];grind[cu,less,decide_eq_true,decide_eq_false]
section
variable{c:CK} {m:Az} (hc:c.1.length<=2^40) (hm:CH m<=2^20) (h:uj m.2.2.2.1)
include hc hm h
theorem pS{o n:Int}:HS c m o n=some (kH (aF c m o n)):=by
 obtain⟨h1,h2,h3,h4⟩:=I3 hm;unfold HS aF;rw[show(c.1,c.2.1,())=c from rfl,Vm m,JU hc (by omega) h,LR hm,BW,BW];simp only[AD];rcases AIn (G2 c m)with hw|hw
 rotate_left
 ·rw[hw];rfl
 have AFw:=HJ (HA.1 hw).cfg;rw[hw,AH (x:=(c.1.length:Int)-1) (by omega) (by omega)];simp only[AJX,AJQ,AJn,AMd];rcases AIn (BD o 1 (m.2.2.2.2.2.1.length:Int))with ho|ho
 rotate_left
 ·rw[ho];rfl
 have ho':=Ak.1 ho;rw[ho];cases BD n 0 ((c.1.length:Int)-1)with
 |false=>rfl
 |true=>
  have hi:(o-1).toNat<m.2.2.2.2.2.1.length:=by omega
  have hq:=h4 _ (Bh (d:=([]:AAN)) hi);simp only[AJX,AJQ,AKB,AOx];rw[AH (by omega) (by omega),AI9 (by omega),Ur (by omega)];simp only[AD];rw[AI9 (by omega)];rfl
theorem jh{n:Int}:Qg c m n=some (kH (CC c m n)):=by
 obtain⟨h1,h2,h3,h4⟩:=I3 hm;unfold Qg Tw CC;rw[show(c.1,c.2.1,())=c from rfl,Vm m,JU hc (by omega) h,LR hm];simp only[AD];cases G2 c m with
 |false=>rfl
 |true=>
  simp only[AJX,AJQ,AJn,AMd];have key:∀(k i:Nat),i<=m.2.2.2.2.2.1.length->m.2.2.2.2.2.1.length-i<k->Jg k n i 0 0 false [] [] [] m.1 m.2.1 m.2.2.2.2.1 m.2.2.1 m.2.2.2.1 ((m.2.2.2.2.2.1.map (fun l=>less l [n])).take i++m.2.2.2.2.2.1.drop i)=
    some (kH ((m.1,m.2.1,m.2.2.1,m.2.2.2.1,m.2.2.2.2.1,m.2.2.2.2.2.1.map (fun l=>less l [n]),()),true)):=by
   intro k
   induction k with
   |zero=>omega
   |succ k ih=>
    intro i hi hk;have hlen:=Pb (f:=fun l=>less l [n]) hi;simp only[Jg,Tm,AB,hlen];by_cases D7:i<m.2.2.2.2.2.1.length
    ·have c1:(0:Int)<=(i:Int)/\(i:Int)<(m.2.2.2.2.2.1.length:Int):=by omega
     have hq:=h4 _ (AJ7 D7);have hg:((m.2.2.2.2.2.1.map (fun l=>less l [n])).take i++m.2.2.2.2.2.1.drop i).getD ((i:Int).toNat) []=m.2.2.2.2.2.1[i]:=M4 D7;rw[AI9 c1.2];simp only[AI9 c1,hg];rw[AH (by omega) (by omega),show((i:Int)+1)=((i+1:Nat):Int)by omega,JZ (by omega) (by simp)];simp only[AD];rw[AJT,Qi D7 rfl];grind
    ·rw[AJD (by omega),AJm (by omega)]
     have:i=m.2.2.2.2.2.1.length:=by omega
     subst this;rw[AKX,ANm (by simp)];rfl
  have:=key AX 0 (by omega) (Ab (by omega));simp_all
theorem lU:SR c m=some ((UH c m,()),()):=by
 obtain⟨h1,h2,h3,h4⟩:=I3 hm;unfold SR Vf UH;rw[show(c.1,c.2.1,())=c from rfl,Vm m,JU hc (by omega) h];simp only[AD];cases G2 c m with
 |false=>rfl
 |true=>
  rcases AIn m.2.2.2.2.1 with hp|hp
  rotate_left
  ·simp_all
  have key:∀(k i:Nat),i<=m.2.2.2.2.2.1.length->m.2.2.2.2.2.1.length-i<k->Kn k i c.1 c.2.1 m.1 m.2.1 m.2.2.1 m.2.2.2.1 m.2.2.2.2.1 m.2.2.2.2.2.1=some (((m.2.2.2.2.2.1.drop i).all (holds c),()),()):=by
   intro k
   induction k with
   |zero=>omega
   |succ k ih=>
    intro i hi hk;simp only[Kn,Vp,AB];by_cases D7:i<m.2.2.2.2.2.1.length
    ·have c1:(0:Int)<=(i:Int)/\(i:Int)<(m.2.2.2.2.2.1.length:Int):=by omega
     have hq:=h4 _ (AJ7 D7);rw[AI9 c1.2,AI9 c1,AH (by omega) (by omega),show((i:Int)+1)=((i+1:Nat):Int)by omega,Af D7,drop_cons D7,show(c.1,c.2.1,())=c from rfl,HU hc (by omega),ih (i+1) (by omega) (by omega)];simp only[AD,APD];cases holds c m.2.2.2.2.2.1[i]<;>rfl
    grind
  have:=key AX 0 (by omega) (Ab (by omega));simp_all
omit hc h in
theorem Zl{o:Int}:El m o=some ((((EW m o).getD Di,(EW m o).isSome,()),()),()):=by
 obtain⟨h1,h2,h3,h4⟩:=I3 hm;unfold El EW;rw[Zw];simp only[AD];rw[U6 (by omega)];simp only[AD];cases m.2.2.2.2.1 with
 |false=>rfl
 |true=>
  simp only[AJX,AJQ,AKB];rcases AIn (BD m.2.1 1 30)with he|he
  rotate_left
  ·rw[he];rfl
  rcases AIn (BD o 1 60)with ho|ho
  rotate_left
  ·rw[he,ho];rfl
  have hp:D1 m.2.1 o=Gv m.2.1 o:=by unfold D1;rw[he,ho];rfl
  rw[he,ho,hp];simp only[AO0,AJX,AJQ,AKB];by_cases hl:o<=m.2.2.2.2.2.1.length
  ·rw[show decide (o>(m.2.2.2.2.2.1.length:Int))=false by simpa using hl,show decide (o<=(m.2.2.2.2.2.1.length:Int))=true by simpa using hl]
   simp only[AJQ,AOx];cases OV (Gv m.2.1 o) m.2.2.2.1<;>rfl
  ·rw[show decide (o>(m.2.2.2.2.2.1.length:Int))=true by simp;omega,show decide (o<=(m.2.2.2.2.2.1.length:Int))=false by simp;omega]
   rfl
theorem nN{s:AAN}(hs:s.length<=2^20):VV c m s=some (kH (L9 c m s)):=by
 obtain⟨h1,h2,h3,h4⟩:=I3 hm;unfold VV Wn L9;rw[show(c.1,c.2.1,())=c from rfl,Vm m,JU hc (by omega) h,LR hm];simp only[AD];rcases AIn (G2 c m)with DX|DX
 rotate_left
 ·rw[DX];rfl
 have hmo:=HA.1 DX;rw[DX];rcases AIn m.2.2.2.2.1 with hp|hp
 ·rw[hp]
  simp only[AJX,AJQ,AJy,AOw,AJn,AMd,kH,hp]
 have hn:=hmo.n;rw[hp]at hn;have hw0:m.2.2.2.2.2.1=[]:=ATM.1 (by simp_all);rw[hp];simp only[AJX,AOH,AJQ,AJn,AMd,AKB];rw[gE (by omega) hs];have hfl:(m.2.2.1.filter s.contains).length<=m.2.2.1.length:=AOj _ _;simp only[AD];rw[fu hc (by omega) hs];simp only[AD];cases Q4 c s (m.2.2.1.filter s.contains)with
 |false=>simp[kH,hp]
 |true=>
  simp only[AJX,AJQ,AOx];have hlb:=KO (l:=m.2.2.2.1);have key:∀(k i:Nat),(i:Int)<=Od m.2.2.2.1->(Od m.2.2.2.1).toNat-i<k->Lg k i m.1 m.2.1 m.2.2.1 m.2.2.2.1 false m.2.2.2.2.2.1 0 0 false [] [] [] m.1 m.2.1 true m.2.2.1 m.2.2.2.1 (List.replicate i [])=
    some (kH ((m.1,m.2.1,m.2.2.1,m.2.2.2.1,true,List.replicate (Od m.2.2.2.1).toNat [],()),true)):=by
   intro k
   induction k with
   |zero=>omega
   |succ k ih=>
    intro i hi hk;simp only[Lg,Ww];rw[show Rt (m.1,m.2.1,m.2.2.1,m.2.2.2.1,false,m.2.2.2.2.2.1,())=some ((Od m.2.2.2.1,()),())from fl (m:=(m.1,m.2.1,m.2.2.1,m.2.2.2.1,false,m.2.2.2.2.2.1,())) (by grind) h];simp only[AD,AB];by_cases D7:(i:Int)<Od m.2.2.2.1
    ·rw[AI9 D7,AI9 (by rw[Ap,ASv];omega),AH (by omega) (by omega),show((i:Int)+1)=((i+1:Nat):Int)by omega,<-List.replicate_succ']
     exact ih (i+1) (by omega) (by omega)
    ·rw[AJD D7]
     have:i=(Od m.2.2.2.1).toNat:=by omega
     rw[this];rfl
  have:=key AX 0 (by omega) (Ab (by omega));simp_all
theorem mZ{n:Int}{l:List AJ}(hl:l.length<=2^20)(Pu:uj l)(hw:Ae Am l<=2^20):VN c m n l=some (kH (Oy c m n l)):=by
 obtain⟨h1,h2,h3,h4⟩:=I3 hm;unfold VN W_ Oy;rw[show(c.1,c.2.1,())=c from rfl,Vm m,JU hc (by omega) h,LR hm];simp only[AD];rw[Ur (by omega)];simp only[AD];rcases AIn (G2 c m)with DX|DX
 rotate_left
 ·rw[DX];rfl
 rw[DX];simp only[AJX,AJQ,AJn,AMd];have AR_:∀(e:AJ) (k:List AJ),Ae Am (keep e k)<=Ae Am k+(1+Am e):=by
  intro e k
  induction k with
  |nil=>simp[keep,Ae]
  |cons x k ih=>
   grind[keep,Ae,better]
 have key:∀(k i:Nat) (b:List AJ),i<=l.length->l.length-i<k->b.length<=2^20+i->uj b->Ae Am b+Ae Am (l.drop i)<=2^21->
   LP k l i c.1 c.2.1 m.1 m.2.1 m.2.2.1 m.2.2.2.1 m.2.2.2.2.1 m.2.2.2.2.2.1 0 0 false [] [] [] m.1 m.2.1 m.2.2.2.2.1 (N9 n m.2.2.1) b m.2.2.2.2.2.1=
   some (kH (if !m.2.2.2.2.1&&G2 c (m.1,m.2.1,N9 n m.2.2.1,EB b ((l.drop i).filter fun e=>AZ e.1==m.2.1),m.2.2.2.2.1,m.2.2.2.2.2.1,())then
    ((m.1,m.2.1,N9 n m.2.2.1,EB b ((l.drop i).filter fun e=>AZ e.1==m.2.1),m.2.2.2.2.1,m.2.2.2.2.2.1,()),true)else(m,false))):=by
  intro k
  induction k with
  |zero=>omega
  |succ k ih=>
   intro i b hi hk hb hbi hbw;simp only[LP,Wq,AB];by_cases D7:i<l.length
   ·have c1:(0:Int)<=(i:Int)/\(i:Int)<(l.length:Int):=by omega
    rw[AI9 c1.2];simp only[AI9 c1];rw[AH (by omega) (by omega),show((i:Int)+1)=((i+1:Nat):Int)by omega,Af D7,drop_cons D7,eg (l[i]),D9 (Pu _ (AJ7 D7)),Ys (by omega)];rw[drop_cons D7]at hbw;simp only[Ae]at hbw;simp only[AD,AO3];rcases AIn (AZ l[i].1==m.2.1)with he|he
    ·simp only[he,AJy,AOx,EB]
     have:=YJ (e:=l[i]) (l:=b);have hwk:=AR_ l[i] b;exact ih (i+1) _ (by omega) (by omega) (by omega) (fun x hx=>by
      rcases gG hx with rfl|hx
      ·exact Pu _ (AJ7 D7)
      ·exact hbi x hx) (by omega)
    grind
   ·rw[AJD (by omega),AJm (by omega),Vm m,show(c.1,c.2.1,())=c from rfl,LR hm]
    simp only[ATa,EB];rcases AIn m.2.2.2.2.1 with hp|hp
    ·grind[kH]
    rw[AJm (by omega)]at hbw;simp only[Ae]at hbw;have xp:=bK (n:=n) (l:=m.2.2.1);have hb2:=AU (f:=Am) (l:=b);rw[JU (m:=(m.1,m.2.1,N9 n m.2.2.1,b,m.2.2.2.2.1,m.2.2.2.2.2.1,())) hc (by
     grind[CH]) hbi]
    simp only[AD];rw[hp];simp only[AJQ,AOH,AKB];grind[G2,N9,kH]
 have hsw:Ae Am m.2.2.2.1<=2^20:=by
  grind[CH]
 have:=key AX 0 m.2.2.2.1 (by omega) (Ab (by omega)) (by omega) h (by grind);simp_all
end
theorem Ao{α:Type}{b:Bool}{x y:α}:cond (!b) x y=cond b y x:=by simp_all
theorem Cq{α:Type}{a b:Int}{x y:α}:cond (a !=b) x y=if a=b then y else x:=by
 simp_all
theorem DL{α:Type}{a b:Int}{x y:α}:cond (a==b) x y=if a=b then x else y:=by
 simp_all
theorem mI{c:CK}{l:List BG}(hc:c.1.length<=2^40)(hl:l.length<=2^20):
  aw c l=some ((((),A_ c (l.map fun a=>a.1),()),()),(l.map (fun a=>a.1),())):=by
 have key:∀(n i:Nat) (b:AAN),i<=l.length->l.length-i<n->b.length=i->
   Lh n l i c.1 c.2.1 b=some ((((),A_ c (b++(l.drop i).map fun a=>a.1),()),()),(b++(l.drop i).map (fun a=>a.1),())):=by
  intro n
  induction n with
  |zero=>omega
  |succ n ih=>
   intro i b hi h hb;simp only[Lh,XC,AB];by_cases eY:i<l.length
   ·have c1:(0:Int)<=(i:Int)/\(i:Int)<(l.length:Int):=by omega
    have c2:b.length+1<=Cm:=by rw[Ap];omega
    rw[AI9 c1.2,AI9 c1,AI9 c2,AH (by omega) (by omega),show((i:Int)+1)=((i+1:Nat):Int)by omega,Af eY,ih (i+1) _ (by omega) (by omega) (by simp_all),drop_cons eY];grind
   ·rw[AJD (by omega),AJm (by omega),ASr,AKX,show(c.1,c.2.1,())=c from rfl,Gz hc (by omega)]
    rfl
 have:=key AX 0 [] (by omega) (Ab (by omega)) rfl;rw[show((0:Nat):Int)=0 from rfl,AOn,AOi]at this;exact this
theorem WT{r:Ac}(h:r.2.2.1.length<=2^30):CQ r=some (((r.1,r.2.1,(),()),()),(r.2.2.1,())):=by
 unfold CQ;rw[AI9 (by rw[Ap];omega)]
theorem eS{r:Ac}{e:Av}{x y:Int}(h:r.2.2.1.length<=2^30):Io r e x y=some (((x,y,(),()),()),(r.2.2.1++[e],())):=by
 unfold Io;rw[N_ r,WT h];simp only[AD];rw[AI9 (by rw[Ap];omega)]
theorem pd{s:AAN}{p:Int}{l:List BG}(hs:s.length<=2^20)(hl:l.length<=2^20)(Pu:∀a∈l,CN a.2.2.1):
  MX s p l=some ((UF p (Ij s p none l),()),()):=by
 have key:∀(n i:Nat) (b:Option AJ),i<=l.length->l.length-i<n->
   Mq n s p l b.isSome i 0 0 [] (b.getD Di).1 (b.getD Di).2.1 (b.getD Di).2.2.1 (b.getD Di).2.2.2.1=some ((UF p (Ij s p b (l.drop i)),()),()):=by
  intro n
  induction n with
  |zero=>omega
  |succ n ih=>
   intro i b hi h;simp only[Mq,ZH,AB,Ao];by_cases eY:i<l.length
   ·have c1:(0:Int)<=(i:Int)/\(i:Int)<(l.length:Int):=by omega
    rw[AI9 c1.2,AI9 c1,AH (by omega) (by omega),show((i:Int)+1)=((i+1:Nat):Int)by omega,Af eY,drop_cons eY];have ih':=fun b=>ih (i+1) b (by omega) (by omega)
    simp only[ih'];rw[KX (by omega),show(l[i].2.2.1,l[i].2.2.2.1,l[i].2.2.2.2.1,l[i].2.2.2.2.2.1,())=Xb l[i]from rfl];rw[Qd (e:=Xb l[i]) (Pu _ (AJ7 eY))];simp only[AD,Ij];cases h1:l[i].2.1 with
    |false=>simp
    |true=>
     cases h2:s.contains l[i].1 with
     |false=>simp
     |true=>
      cases h3:Fg (Xb l[i])with
      |false=>simp
      |true=>
       simp only[AJy,AKB];by_cases h4:l[i].2.2.1=p
       ·rw[Cq,AI9 h4,AI9 (by show((Xb l[i]).1==p)=true;rw[APF];exact h4)]
        cases b with
        |none=>
         simp only[AO8,AJQ,YE,AD,Option.getD_none];have:=ih' (some (Xb l[i]));simp only[AO2,AO4]at this;have hb:better (Xb l[i]) (Xb l[i])=Xb l[i]:=by unfold better;simp_all
         simp_all
        |some x=>
         simp only[AO2,AJy,AO4];rw[eg x];grind[YE,AD,better,Xb,Option.isSome_some]
       ·rw[Cq,AJD h4,AJD (by show¬((Xb l[i]).1==p)=true;rw[APF];exact h4)]
   ·rw[AJD (by omega),AJm (by omega)]
    simp only[Ij];cases b with
    |none=>rfl
    |some x=>
     simp only[AO2,AJy,AO4,UF];grind
 exact key AX 0 none (by omega) (Ab (by omega))
theorem j_{x:Int}:0<=Bl x/\Bl x<=60:=by
 cases h:Aq x with
 |true=>have:=(GA h).2.1;omega
 |false=>unfold Bl;simp_all
def AAy(q:Ac×Int):Zu:=((((q.1.1,q.1.2.1,(),()),q.2,()),()),(q.1.2.2.1,()))
theorem jE{c:CK}{g:AN}{sure:Int}{r:Ac}{l:List BG}(hc:c.1.length<=2^20)(hg:Ae B_ g.1<=2^20)(ht:CN g.2.1)(hl:l.length<=2^20)(Pu:∀a∈l,CN a.2.2.1):
  Qp c g sure r l=some (AAy (DH c g sure r l)):=by
 unfold Qp DH;rw[show(c.1,c.2.1,())=c from rfl,show(g.1,g.2.1,())=g from rfl,N_ r,mI (by omega) hl,QR (by omega) (by omega) ht,Ph];simp only[AD,Ao,AB];cases h1:OO c g with
 |false=>rfl
 |true=>
 cases h2:SK r with
 |false=>rfl
 |true=>
 cases h3:A_ c (l.map fun a=>a.1)with
 |false=>rfl
 |true=>
 have hr:=Ue.1 h2;have hre:=hr.ep;have hro:=hr.off;have hrn:=hr.n;have hR:=KC.1 h1;have hRn:=hR.n;simp only[AJy,AKB,AJX,AJn,AMd];rw[WT (by omega)];simp only[AD];by_cases h4:r.1>(g.1.length:Int)
 ·rw[AI9 h4,ALg h4];rfl
 rw[AJD h4,ANS h4];by_cases h5:r.2.2.1.length=120
 ·rw[show(((r.2.2.1.length:Nat):Int)==120)=true by simp_all,ALg h5];rfl
 rw[show(((r.2.2.1.length:Nat):Int)==120)=false by grind,ANS h5];simp only[AJQ,ANG,AJn,AMd];rw[AH (x:=r.1-1) (by omega) (by omega),AI9 (by omega),Mu (by omega) (by omega),D9 ht,Us ht];simp only[AD];have hto:=j_ (x:=g.2.1);rw[AH (x:=Bl g.2.1+1) (by omega) (by omega),AH (x:=r.1+1) (by omega) (by omega),AH (x:=r.2.1+1) (by omega) (by omega)];simp only[eS (r:=r) (by omega),AD];by_cases h6:g.2.1>=Gv r.1 r.2.1
 ·rw[AI9 h6,AI9 h6];rfl
 rw[AJD h6,AJD h6]
 generalize AE_:g.1.getD (r.1-1).toNat IM=era
 have IQ:(r.1-1).toNat<g.1.length:=by omega
 have U0:era.1.length<=2^20:=by
  have h7:=AY (f:=B_) (Bh (d:=IM) IQ);rw[AE_]at h7;have:B_ era=era.1.length:=rfl;omega
 have tail:((Kl (l.map fun a=>a.1) era.1).bind fun iG=>
   (Kk c era.1 iG.2.1).bind fun hY=>
   cond (hY.1.1)
    ((MX era.1 (Gv r.1 r.2.1) l).bind fun vZ=>
    some ((((r.1,r.2.1+1,(),()),0,()),()),(r.2.2.1++[(vZ.1.1.1,vZ.1.1.2.1,vZ.1.1.2.2.1,())],())))
    (some ((((r.1,r.2.1,(),()),3,()),()),(r.2.2.1,()))))=
   some (AAy (if !Q4 c era.1 ((l.map fun a=>a.1).filter era.1.contains)then(r,3)else
    ((r.1,r.2.1+1,r.2.2.1++[UF (Gv r.1 r.2.1) (Ij era.1 (Gv r.1 r.2.1) none l)],()),0))):=by
  have hf:((l.map fun a=>a.1).filter era.1.contains).length<=2^20:=AOT (AOj _ _) (by simp_all);rw[gE (by simp_all) U0,pd U0 hl Pu];simp only[AD];rw[fu (by omega) hf U0];simp only[AD,eS (r:=r) (by omega)];cases Q4 c era.1 ((l.map fun a=>a.1).filter era.1.contains)<;>rfl
 have hd:g.1.getD (r.1-1).toNat ([],false,0,())=era:=AE_;rw[hd];simp only[tail];cases h7:era.2.1 with
 |true=>
  simp only[AJy,AJQ,AKB,AJX,AOw,ANG,AJr];by_cases h8:r.2.1>era.2.2.1
  ·rw[AI9 h8,AI9 h8];rfl
  rw[AJD h8,AJD h8];by_cases h9:r.2.1>60
  ·rw[AI9 h9,AI9 h9];rfl
  grind
 |false=>
  simp only[AJy,AJQ,AKB,AOH,AOw,AJn,AMd,AOy,AJr];by_cases h8:r.2.1>sure
  ·rw[AI9 h8,AI9 (.inl h8)];rfl
  rw[AJD h8];by_cases h9:r.2.1>60
  ·rw[AI9 h9,AI9 (.inr h9)];rfl
  grind
theorem qm{c:CK}{l:AAN}(hc:c.1.length<=2^20)(hl:l.length<=2^20):aH c l=some ((A_ c l&& !holds c l,()),()):=by
 unfold aH;rw[show(c.1,c.2.1,())=c from rfl,Gz (by omega) (by omega),HU (by omega) (by omega)];grind
theorem lu{ss:List AL}(hs:ss.length<=1024)(h:∀s∈ss,s.1.length<=1024):aj ss=some (((),()),(Gn [] ss,())):=by
 have key:∀n:Nat,
   (∀(i:Nat) (b:List AJ),i<=ss.length->(ss.length-i)*1026+1<=n->b.length<=i*1024->
    I9 n ss i b=some (((),()),(Gn b (ss.drop i),())))/\
   (∀(i j:Nat) (b:List AJ),(hi:i<ss.length)->j<=ss[i].1.length->(ss.length-i-1)*1026+1+(ss[i].1.length-j)+1<=n->b.length<=i*1024+j->
    JK n ss i j b=some (((),()),(Gn (EB b (ss[i].1.drop j)) (ss.drop (i+1)),()))):=by
  intro n
  induction n with
  |zero=>simp_all
  |succ n ih=>
   refine⟨fun i b hi h' hb=> ?_,fun i j b hi hj h' hb=> ?_⟩
   ·simp only[I9,Wr,AB]
    by_cases hc:i<ss.length
    ·rw[AI9 (by omega)]
     have hm:=h _ (AJ7 hc);have e1:(ss.length-i)*1026=(ss.length-i-1)*1026+1026:=by
      omega
     have:=ih.2 i 0 b hc (by omega) (by omega) (by omega);rw[show((0:Nat):Int)=0 from rfl,AOn]at this;rw[this,drop_cons hc];rfl
    ·rw[AJD (by omega),AJm (by omega)]
     rfl
   ·have hm:=h _ (AJ7 hi)
    simp only[JK,Wz,AB];have c1:(0:Int)<=(i:Int)/\(i:Int)<(ss.length:Int):=by omega
    rw[AI9 c1,Af hi];simp only[AI9 c1];have hbb:i*1024<=2^20:=by
     omega
    by_cases hc:j<ss[i].1.length
    ·have c2:(0:Int)<=(j:Int)/\(j:Int)<(ss[i].1.length:Int):=by omega
     rw[AI9 c2.2,AI9 c2,Af hc,eg (ss[i].1[j]),Ys (by omega)];simp only[AD];rw[AH (by omega) (by omega),show((j:Int)+1)=((j+1:Nat):Int)by omega,drop_cons hc];have hk:=YJ (e:=ss[i].1[j]) (l:=b);exact ih.2 i (j+1) _ hi (by omega) (by omega) (by omega)
    ·rw[AJD (by omega),AH (by omega) (by omega),show((i:Int)+1)=((i+1:Nat):Int)by omega,AJm (by omega)]
     exact ih.1 (i+1) b (by omega) (by grind) (by omega)
 have hf:(ss.length-0)*1026+1<=AX:=by
  have:ss.length*1026<=1024*1026:=ALR _ hs;exact ASJ (Ab (by omega))
 exact(key AX).1 0 [] (by omega) hf (by simp)
theorem ABP(e:AJ):∀l:List AJ,Ae Am (keep e l)<=Ae Am l+(1+Am e)
 |[]=>by simp[keep,Ae]
 |x::l=>by
  have:=ABP e l;grind[keep,better,Ae]
theorem yD:∀{l k:List AJ},Ae Am (EB k l)<=Ae Am k+Ae Am l
 |[],k=>by simp[EB,Ae]
 |e::l,k=>by
  have h1:=yD (l:=l) (k:=keep e k);grind[ABP,EB,Ae]
theorem ABF:∀{l:List AL} {k:List AJ},Ae Am (Gn k l)<=Ae Am k+Ae Ai l
 |[],k=>by simp[Gn,Ae]
 |s::l,k=>by
  have h1:=ABF (l:=l) (k:=EB k s.1);have h2:=yD (l:=s.1) (k:=k);have:Ai s=Ae Am s.1+Ae Am s.2.1:=rfl;grind[Gn,Ae]
theorem l7{y:AJ}:∀{l:List AL} {k:List AJ},y∈Gn k l->y∈k\/ ∃s∈l,y∈s.1
 |[],k,h=> .inl h
 |s::l,k,h=>by
  rcases l7 (l:=l) h with h|⟨t,ht,h⟩
  all_goals grind[fp]
def yX(b:Bool)(x:AL):AL×Bool:=if b then(x,true)else(Dm,false)
def pkF(ss:List AL)(q:AL×Bool):O7:=(((((),(),q.1.2.2.1,()),q.2,()),()),(ss,q.1.1,q.1.2.1,()))
theorem wX{c:CK}{ss:List AL}{lost:AAN}{n upto:Int}(hc:c.1.length<=2^20)(hs:ss.length<=1024)(hn:∀s∈ss,s.1.length<=1024)(hw:Ae Ai ss<=2^24)(Pu:∀s∈ss,tZ s)(hl:lost.length<=2^20):
  gR c lost n upto ss=some (pkF ss (ba c ss lost n upto)):=by
 have hfs:ba c ss lost n upto=yX (Ee c&&(decide (ss.length=c.1.length)&&(A_ c lost&&(!holds c lost&&(lost.contains n&&((others lost 0 ss).all CA&&CA (Gn [] (others lost 0 ss),[],upto,()))))))) (Gn [] (others lost 0 ss),[],upto,()):=rfl;rw[hfs];unfold gR dh;rw[show(c.1,c.2.1,())=c from rfl,Fz (by omega),qm hc hl,KX (by omega)];simp only[AD,Ao,Cq];have k11:∀(k i:Nat) (o:List AL),(∀s∈o,s∈ss)->o.length<=ss.length->Ae Ai o<=2^24->i<=o.length->o.length-i<k->
   M_ k upto i ss 0 [] [] 0 [] [] o=some (pkF ss (yX ((o.drop i).all CA&&CA (Gn [] o,[],upto,())) (Gn [] o,[],upto,()))):=by
  intro k
  induction k with
  |zero=>omega
  |succ k ih=>
   intro i o ho hol how hi h;simp only[M_,bT,AB,Ao];by_cases D7:i<o.length
   ·have c1:(0:Int)<=(i:Int)/\(i:Int)<(o.length:Int):=by omega
    have hm:=ho _ (AJ7 D7);have hws:=AY (f:=Ai) hm;rw[AI9 c1.2,AI9 c1,Af D7,N_ (o[i]),Ff (by omega) (Pu _ hm),AH (by omega) (by omega),show((i:Int)+1)=((i+1:Nat):Int)by omega,ih (i+1) o ho hol how (by omega) (by omega),drop_cons D7];simp only[AD,APD];rcases AIn (CA o[i])with hb|hb<;>rw[hb]
    all_goals rfl
   ·rw[AJD (by omega),AJm (by omega),lu (by omega) (fun s hs=>hn s (ho s hs))]
    have hu:=ABF (l:=o) (k:=[]);simp only[Ae]at hu;simp only[AD];rw[Ff (s:=(Gn [] o,[],upto,())) (by show Ae Am (Gn [] o)+Ae Am []<=_;grind[Ae]) ⟨fun e he=>by
     rcases l7 he with he|⟨t,ht,he⟩
     ·simp_all
     ·exact(Pu t (ho t ht)).1 e he,fun e he=>by simp_all⟩]
    simp only[AD,List.all_nil,AKB];rcases AIn (CA (Gn [] o,[],upto,()))with hb|hb<;>rw[hb]<;>rfl
 have k6:∀(k i:Nat) (o:List AL),(∀s∈o,s∈ss)->i<=ss.length->(ss.length-i)+ss.length+2<=k->o.length<=i->Ae Ai o+Ae Ai (ss.drop i)<=2^24->
   Pj k lost upto i ss 0 [] [] 0 [] [] o=some (pkF ss (yX ((o++others lost i (ss.drop i)).all CA&&CA (Gn [] (o++others lost i (ss.drop i)),[],upto,())) (Gn [] (o++others lost i (ss.drop i)),[],upto,()))):=by
  intro k
  induction k with
  |zero=>omega
  |succ k ih=>
   intro i o ho hi h hol how;simp only[Pj,dw,AB,Ao];by_cases D7:i<ss.length
   ·have c1:(0:Int)<=(i:Int)/\(i:Int)<(ss.length:Int):=by omega
    have c2:o.length+1<=Cm:=by rw[Ap];omega
    rw[drop_cons D7]at how;simp only[Ae]at how;have hws:Ai ss[i]+(Ae Am []+0)=Ai ss[i]:=rfl;rw[AI9 c1.2,KX (by omega),AI9 c1,AI9 c2,Af D7,N_ (ss[i]),AH (by omega) (by omega),show((i:Int)+1)=((i+1:Nat):Int)by omega];simp only[AD];rw[ih (i+1) o ho (by omega) (by omega) (by omega) (by omega)];rw[ih (i+1) (o++[ss[i]]) (fun s hs=>by
     grind) (by omega) (by omega) (by simp_all) (by grind[Zk,Ae])]
    rw[drop_cons D7];simp only[others];grind
   ·have:=k11 k 0 o ho (by omega) (by omega) (by omega) (by omega)
    rw[show((0:Nat):Int)=0 from rfl,AOn]at this;rw[AJD (by omega),this,AJm (by omega)];simp only[others,AKX]
 have:=k6 AX 0 [] (by simp) (by omega) (ASJ (Ab (by omega))) (by simp) (by grind[Ae]);rw[show((0:Nat):Int)=0 from rfl,AOn,AOi]at this;rw[this];rcases AIn (Ee c)with h1|h1
 rotate_left
 ·rw[h1];rfl
 by_cases h2:ss.length=c.1.length
 rotate_left
 ·rw[AJD (by omega),h1,ANS h2];rfl
 rw[AI9 (by omega),h1,ALg h2];rcases AIn (A_ c lost)with h3|h3
 rotate_left
 ·rw[h3];rfl
 rw[h3];rcases AIn (holds c lost)with h4|h4
 ·rw[h4];rfl
 rw[h4];rcases AIn (lost.contains n)with h5|h5
 rotate_left
 ·rw[h5];rfl
 simp_all
theorem sZ{α:Type}{l:List α}{i j:Nat}{x d:α}(hi:i<l.length):(l.set i x).getD j d=if i=j then x else l.getD j d:=by
 grind
theorem QC{w:AA}{n:Int}(h:Ar w n=0):0<=n/\n<w.BZ.length/\n∉w.lost:=by
 unfold Ar at h;split at h
 ·omega
 rename_i h1;simp only[AMH,AMT,Ak]at h1;grind
theorem ft{s x:Aj}:∀{l:List Aj},x∈cU s l↔x=s\/x∈l
 |[]=>by simp[cU]
 |y::l=>by
  simp only[cU];split
  ·simp
  ·simp only[ALa,ft (l:=l)]
   grind
theorem yE{s:Aj}:∀{l:List Aj},(cU s l).length=l.length+1
 |[]=>rfl
 |y::l=>by
  simp only[cU];split
  ·rfl
  ·simp only[AJq,yE (l:=l)]
theorem zu{s:Aj}:∀{l:List Aj},WK (fun s:Aj=>s.1) l->(∀x∈l,x.1≠s.1)->WK (fun s:Aj=>s.1) (cU s l)
 |[],_,_=>by simp[cU,WK]
 |y::l,h,hs=>by
  have h':=h;simp only[WK,AOK]at h;simp only[cU];split
  ·rename_i hy
   simp only[WK,AOK,ALa];grind
  ·rename_i hy
   simp only[WK,AOK];refine⟨fun a ha=> ?_,zu h.2 fun x hx=>hs x (by simp[hx])⟩;rcases ft.1 ha with rfl|ha
   all_goals grind
section
variable{w:AA} (h:RT w)
include h
theorem RT.node{n:Int}(hn:Ar w n=0):(0<=n/\n<(Aa w).1.length)/\n.toNat<w.BZ.length/\n∉w.lost:=by
 obtain⟨a,b,c⟩:=QC hn;have:=h.tX;exact⟨⟨a,by show n<(w.1.length:Int);omega⟩,by omega,c⟩
theorem RT.qg{n:Int}(hn:Ar w n=0){s:AL}(hs:gm s):RT (w.CL (w.BZ.set n.toNat s)):=by
 obtain⟨h1,h2,h3⟩:=h.node hn;refine⟨h.cfg,by(try simp only[H.AA.BZ,H.AA.lost,H.AA.BJ,H.AA.trim,H.AA.AK,H.AA.Cd,H.AA.Ag,H.AA.CF,H.AA.Ib,H.AA.CL,H.AA.E5,H.AA.Ip,H.AA.Bk,H.AA.Cs,H.AA.C5,H.AA.Db,H.AA.FF,Cb,Aa]at*);simpa using h.tX,h.lost,h.Ib,fun i hi=> ?_,h.qV,h.uN,h.nmd,h.AK,h.g_,h.Cd,h.ri,h.Ag,h.Se,h.CF,h.cP⟩
 (try simp only[H.AA.BZ,H.AA.lost,H.AA.BJ,H.AA.trim,H.AA.AK,H.AA.Cd,H.AA.Ag,H.AA.CF,H.AA.Ib,H.AA.CL,H.AA.E5,H.AA.Ip,H.AA.Bk,H.AA.Cs,H.AA.C5,H.AA.Db,H.AA.FF,Cb,Aa]at*);simp only[ARG]at hi
 simp only[sZ h2];split
 ·grind
 ·exact h.BZ i hi
theorem RT.store{n:Int}(hn:Ar w n=0):gm (storeAt w n):=(h.BZ _ (h.node hn).2.1).1
theorem lB{n:Int}{q:AL×Bool}(hn:Ar w n=0)(hs:q.2=true->gm q.1)(e:(putAt w n q).2=0):RT (putAt w n q).1:=by
 unfold putAt at*;split at e
 ·rename_i hq
  rw[AI9 hq];exact h.qg hn (hs hq)
 omega
theorem AIc{a:Int}(e:(QA w a).2=0):RT (QA w a).1:=by
 unfold QA at*;split at e
 ·omega
 rename_i h4;rw[AJD h4];simp only at e|-;split at e
 ·omega
 rename_i hq;rw[AJD hq];simp only[AMH,AMT]at hq;obtain⟨_,r1,r2,r3,r4,r5⟩:=ABZ hq;rw[r2]at r1;rw[r2,r3];have hnw:=h.uN;have hl:((Cb w).1++[(BL a,false,0,())]).length=w.BJ.length+1:=by simp[Cb]
 refine⟨h.cfg,h.tX,h.lost,h.Ib,h.BZ,r1,?_,by(try simp only[H.AA.BZ,H.AA.lost,H.AA.BJ,H.AA.trim,H.AA.AK,H.AA.Cd,H.AA.Ag,H.AA.CF,H.AA.Ib,H.AA.CL,H.AA.E5,H.AA.Ip,H.AA.Bk,H.AA.Cs,H.AA.C5,H.AA.Db,H.AA.FF,Cb,Aa]at*);simp,fun x hx=> ?_,?_,fun m hm=>by grind,h.ri,h.Ag,h.Se,fun s hs=> ?_,h.cP⟩
 ·grind
 ·replace hx:x∈w.AK++[((w.BJ.length:Int)+1,[],())]:=hx
  simp only[ALk,APA]at hx;have Aa2:w.BJ.length<30:=r5;have oS:(((Cb w).1++[(BL a,false,0,())]).length:Int)=(w.BJ.length:Int)+1:=by omega
  show dW (Aa w) x/\x.1<=(((Cb w).1++[(BL a,false,0,())]).length:Int)
  rw[oS];rcases hx with hx|rfl
  ·have:=h.AK x hx
   grind
  ·exact⟨⟨h.cfg,by omega,by simp,by simp,by simp[RV]⟩,by omega⟩
 ·show WK (fun x:AR=>x.1) (w.AK++[((w.BJ.length:Int)+1,[],())])
  simp only[WK,List.pairwise_append,AOK,List.Pairwise.nil,APA,AO1];refine⟨h.g_,by simp,fun x hx y hy=> ?_⟩;subst hy;have:=(h.AK x hx).2;omega
 ·have:=h.CF s hs
  grind
end
section
variable{w:AA} (h:RT w)
include h
theorem AOC{a:Int}{d:AAZ}(hd:d.length<=40)(e:(doAdd w a d).2=0):RT (doAdd w a d).1:=by
 unfold doAdd at*;split at e
 ·omega
 rename_i ha;rw[AJD ha];simp only[AMH,AMT,Ak]at ha;simp only at e|-;split at e
 ·omega
 rename_i hq;rw[AJD hq];simp only[AOy,ATi,AMH,AMT,AP5,List.any_eq_false,APF]at hq;obtain⟨hq,h120,hno⟩:=hq;have hi:a.toNat<w.AK.length:=by omega
 have hx:=h.AK _ (Bh (d:=CZ) hi);obtain⟨_,r1,r2,r3⟩:=XX hq;rw[r2]at r1;rw[r2,r3];rw[r3]at hno;have hnn:=r1.n;simp only[AKN,AJq,AKx]at hnn;obtain⟨p1,p2,p3⟩:=NF (e:=(w.AK.getD a.toNat CZ).1) (o:=((w.AK.getD a.toNat CZ).2.1.length:Int)+1) hx.1.ep (by omega);have hns:=h.Se;refine⟨h.cfg,h.tX,h.lost,h.Ib,h.BZ,h.qV,by(try simp only[H.AA.BZ,H.AA.lost,H.AA.BJ,H.AA.trim,H.AA.AK,H.AA.Cd,H.AA.Ag,H.AA.CF,H.AA.Ib,H.AA.CL,H.AA.E5,H.AA.Ip,H.AA.Bk,H.AA.Cs,H.AA.C5,H.AA.Db,H.AA.FF,Cb,Aa]at*);simpa using h.uN,h.nmd,fun x tW=> ?_,?_,h.Cd,h.ri,h.Ag,by grind[yE],fun s hs=> ?_,zu h.cP fun x hx=>by grind⟩
 ·rcases APm tW with tW|rfl
  ·exact h.AK x tW
  ·exact⟨r1,hx.2⟩
 ·have:=h.g_
  show WK (fun x:AR=>x.1) (w.AK.set a.toNat ((w.AK.getD a.toNat CZ).1,(w.AK.getD a.toNat CZ).2.1++[(d,[],false,())],()))
  simp only[WK,ATG,List.getElem_set,ARG]at this|-;grind
 ·rcases ft.1 hs with rfl|hs
  ·simp_all
  ·exact h.CF s hs
theorem AEw{a b n:Int}(e:(Nd w a b n).2=0):RT (Nd w a b n).1:=by
 unfold Nd at*;split at e
 ·omega
 rename_i h1;rw[AJD h1];simp only at e|-;split at e
 ·omega
 rename_i h2;rw[AJD h2];split at e
 ·omega
 rename_i h3;rw[AJD h3];split at e
 ·omega
 rename_i h4;rw[AJD h4];grind[lB,n0]
theorem my{all:Bool}{s:AL}{n:Int}(hn:0<=n/\n<(Aa w).1.length):∀{ws:List AR} {ss:List Aj},
  (E6 all (Aa w) s w.BJ n ws ss).1=ws.map (fun x=>if LV s w.BJ n x then(x.1,BC (Aa w) s x.1 n 1 x.2.1,())else x)/\
  (E6 all (Aa w) s w.BJ n ws ss).2.map (fun x=>(x.1,x.2.1))=ss.map (fun x=>(x.1,x.2.1))
 |[],ss=>⟨rfl,rfl⟩
 |x::ws,ss=>by
  simp only[E6,APX];split
  ·rename_i ht
   obtain⟨h1,h2⟩:=my hn (ws:=ws) (ss:=ss.map (SB all x.1 x.2.1 (BC (Aa w) s x.1 n 1 x.2.1)));rw[h1,h2];exact⟨rfl,by rw[ARo];rfl⟩
  ·obtain⟨h1,h2⟩:=my hn (ws:=ws) (ss:=ss)
   rw[h1,h2];simp_all
theorem AJC{all:Bool}{n:Int}(e:(Pz all w n).2=0):RT (Pz all w n).1:=by
 unfold Pz at*;split at e
 ·omega
 rename_i h1;rw[AJD h1];simp only at e|-;split at e
 ·omega
 rename_i h2;rw[AJD h2];simp only[ne_eq,ATB]at h1;simp only[AMH,AMT]at h2;have hn:=(h.node h1).1;obtain⟨s1,s2,s3⟩:=QD h2;have hw:=h.qg h1 s2;obtain⟨t1,t2⟩:=my h (all:=all) (s:=(Ct (storeAt w n)).1) hn (ws:=w.AK) (ss:=w.CF);have ms:∀x∈(E6 all (Aa w) (Ct (storeAt w n)).1 w.BJ n w.AK w.CF).2,∃y∈w.CF,x.1=y.1/\x.2.1=y.2.1:=fun x hx=>by
  have:(x.1,x.2.1)∈w.CF.map (fun x=>(x.1,x.2.1)):=by grind
  simp_all
 have ml:(E6 all (Aa w) (Ct (storeAt w n)).1 w.BJ n w.AK w.CF).2.length=w.CF.length:=by
  have:=congrArg List.length t2;grind
 have ma:WK (fun s:Aj=>s.1) (E6 all (Aa w) (Ct (storeAt w n)).1 w.BJ n w.AK w.CF).2:=by
  have h1:(E6 all (Aa w) (Ct (storeAt w n)).1 w.BJ n w.AK w.CF).2.map (fun x=>x.1)=w.CF.map (fun x=>x.1):=by
   have:=congrArg (List.map Prod.fst) t2;rw[ARo,ARo]at this;exact this
  have h2:(w.CF.map (fun x:Aj=>x.1)).Pairwise (· < ·):=ATC.2 h.cP;grind
 refine⟨h.cfg,hw.tX,h.lost,h.Ib,hw.BZ,h.qV,by(try simp only[H.AA.BZ,H.AA.lost,H.AA.BJ,H.AA.trim,H.AA.AK,H.AA.Cd,H.AA.Ag,H.AA.CF,H.AA.Ib,H.AA.CL,H.AA.E5,H.AA.Ip,H.AA.Bk,H.AA.Cs,H.AA.C5,H.AA.Db,H.AA.FF,Cb,Aa]at*);simp only[t1,AQx];exact h.uN,by(try simp only[H.AA.BZ,H.AA.lost,H.AA.BJ,H.AA.trim,H.AA.AK,H.AA.Cd,H.AA.Ag,H.AA.CF,H.AA.Ib,H.AA.CL,H.AA.E5,H.AA.Ip,H.AA.Bk,H.AA.Cs,H.AA.C5,H.AA.Db,H.AA.FF,Cb,Aa]at*);simpa using h.nmd,fun x hx=> ?_,?_,fun m hm=> ?_,h.ri,h.Ag,by(try simp only[H.AA.BZ,H.AA.lost,H.AA.BJ,H.AA.trim,H.AA.AK,H.AA.Cd,H.AA.Ag,H.AA.CF,H.AA.Ib,H.AA.CL,H.AA.E5,H.AA.Ip,H.AA.Bk,H.AA.Cs,H.AA.C5,H.AA.Db,H.AA.FF,Cb,Aa]at*);simp only[ml];exact h.Se,fun x hx=> ?_,ma⟩
 ·(try simp only[H.AA.BZ,H.AA.lost,H.AA.BJ,H.AA.trim,H.AA.AK,H.AA.Cd,H.AA.Ag,H.AA.CF,H.AA.Ib,H.AA.CL,H.AA.E5,H.AA.Ip,H.AA.Bk,H.AA.Cs,H.AA.C5,H.AA.Db,H.AA.FF,Cb,Aa]at*);simp only[t1]at hx
  obtain⟨y,hy,rfl⟩:=APC.1 hx;have hy':=h.AK y hy;split
  ·obtain⟨k1,k2,k3⟩:=c_ (s:=(Ct (storeAt w n)).1) (ep:=y.1) hn (o:=1) hy'.1.words
   exact⟨⟨h.cfg,hy'.1.ep,k3▸hy'.1.n,k1,AOT k2 hy'.1.opn⟩,hy'.2⟩
  ·exact hy'
 ·show WK (fun x:AR=>x.1) (E6 all (Aa w) (Ct (storeAt w n)).1 w.BJ n w.AK w.CF).1
  rw[t1];simp only[WK,ATC];refine h.g_.imp fun{a b} ug=> ?_
  grind
 ·obtain⟨y,hy,rfl⟩:=APC.1 hm
  have hy':=h.Cd y hy;refine⟨AF8 hn hy'.1,?_⟩;grind[MC]
 ·obtain⟨y,hy,e1,e2⟩:=ms x hx
  have:=h.CF y hy;simp_all
theorem AFu{n k:Int}(e:(Ns w n k).2=0):RT (Ns w n k).1:=by
 unfold Ns at*;split at e
 ·omega
 rename_i h1;rw[AJD h1];exact lB h (by omega) (fun hq=>(QD hq).2.1) e
theorem AHK{n:Int}(e:(Nq w n).2=0):RT (Nq w n).1:=by
 unfold Nq at*;split at e
 ·omega
 rename_i h1;rw[AJD h1];exact lB h (by omega) (fun hq=>(wj hq).2.1) e
theorem AHU{n:Int}(e:(RI w n).2=0):RT (RI w n).1:=by
 unfold RI at*;split at e
 ·omega
 rename_i h1;rw[AJD h1];simp only[ne_eq,ATB]at h1;obtain⟨hn,hn2,hn3⟩:=h.node h1;have fw:∀x∈w.AK,(B5 (Aa w) x n).1=(x.1,x.2.1.map (Ej n),()):=fun x hx=>(d_ (h.AK x hx).1).2
 refine⟨h.cfg,by(try simp only[H.AA.BZ,H.AA.lost,H.AA.BJ,H.AA.trim,H.AA.AK,H.AA.Cd,H.AA.Ag,H.AA.CF,H.AA.Ib,H.AA.CL,H.AA.E5,H.AA.Ip,H.AA.Bk,H.AA.Cs,H.AA.C5,H.AA.Db,H.AA.FF,Cb,Aa]at*);simpa using h.tX,ML h.lost hn,?_,fun i hi=> ?_,h.qV,by(try simp only[H.AA.BZ,H.AA.lost,H.AA.BJ,H.AA.trim,H.AA.AK,H.AA.Cd,H.AA.Ag,H.AA.CF,H.AA.Ib,H.AA.CL,H.AA.E5,H.AA.Ip,H.AA.Bk,H.AA.Cs,H.AA.C5,H.AA.Db,H.AA.FF,Cb,Aa]at*);simpa using h.uN,by(try simp only[H.AA.BZ,H.AA.lost,H.AA.BJ,H.AA.trim,H.AA.AK,H.AA.Cd,H.AA.Ag,H.AA.CF,H.AA.Ib,H.AA.CL,H.AA.E5,H.AA.Ip,H.AA.Bk,H.AA.Cs,H.AA.C5,H.AA.Db,H.AA.FF,Cb,Aa]at*);simpa using h.nmd,fun x hx=> ?_,?_,fun m hm=> ?_,h.ri,h.Ag,h.Se,h.CF,h.cP⟩
 ·grind[holds,Aa,N9]
 ·(try simp only[H.AA.BZ,H.AA.lost,H.AA.BJ,H.AA.trim,H.AA.AK,H.AA.Cd,H.AA.Ag,H.AA.CF,H.AA.Ib,H.AA.CL,H.AA.E5,H.AA.Ip,H.AA.Bk,H.AA.Cs,H.AA.C5,H.AA.Db,H.AA.FF,Cb,Aa]at*);simp only[ARG]at hi
  simp only[sZ hn2];split
  ·exact⟨gm.nil,fun _=>rfl⟩
  ·rename_i WJ
   refine⟨(h.BZ i hi).1,fun hl=>(h.BZ i hi).2 ?_⟩;grind[yf]
 ·obtain⟨y,hy,rfl⟩:=APC.1 hx
  have hy':=h.AK y hy;refine⟨(d_ hy'.1).1,?_⟩;simp_all
 ·(try simp only[H.AA.BZ,H.AA.lost,H.AA.BJ,H.AA.trim,H.AA.AK,H.AA.Cd,H.AA.Ag,H.AA.CF,H.AA.Ib,H.AA.CL,H.AA.E5,H.AA.Ip,H.AA.Bk,H.AA.Cs,H.AA.C5,H.AA.Db,H.AA.FF,Cb,Aa]at*);simp only[WK,ATC]
  refine List.Pairwise.imp_of_mem (fun{a b} ha hb ug=> ?_) h.g_;simp_all
 ·obtain⟨y,hy,rfl⟩:=APC.1 hm
  have hy':=h.Cd y hy;obtain⟨k1,k2⟩:=ue (n:=n) hy'.1;refine⟨k1,?_⟩;simp_all
theorem AHV{n:Int}(e:(Sa w n).2=0):RT (Sa w n).1:=by
 unfold Sa at*;split at e
 ·omega
 rename_i h1;rw[AJD h1];simp only at e|-;split at e
 ·omega
 rename_i h2;rw[AJD h2];simp only[AMH,AMT]at h1 h2;obtain⟨s1,s2,s3,s4⟩:=AEu h2;rw[List.contains_eq_mem,AJr]at h1;have hnn:=(F5.1 h.lost).2.1 n h1;have hns:=h.tX;have hn2:n.toNat<w.BZ.length:=by
  have:n<(w.1.length:Int):=hnn.2;omega
 refine⟨h.cfg,by grind,SX _ h.lost,?_,fun i hi=> ?_,h.qV,h.uN,h.nmd,h.AK,h.g_,h.Cd,h.ri,h.Ag,h.Se,h.CF,h.cP⟩
 ·refine .inr ?_
  rw[APG];intro hh
  replace hh:holds (Aa w) (less w.lost [n])=true:=hh
  have:=rz (m:=w.lost) hh h.lost fun x hx=>(ATA.1 hx).1
  simp_all
 ·(try simp only[H.AA.BZ,H.AA.lost,H.AA.BJ,H.AA.trim,H.AA.AK,H.AA.Cd,H.AA.Ag,H.AA.CF,H.AA.Ib,H.AA.CL,H.AA.E5,H.AA.Ip,H.AA.Bk,H.AA.Cs,H.AA.C5,H.AA.Db,H.AA.FF,Cb,Aa]at*);simp only[ARG]at hi
  simp only[sZ hn2];split
  ·grind[su,List.mem_singleton]
  ·exact⟨(h.BZ i hi).1,fun hl=>(h.BZ i hi).2 (su.1 hl).1⟩
theorem AHl(e:(S3 w).2=0):RT (S3 w).1:=by
 unfold S3 at*;split at e
 ·omega
 rename_i h1;rw[AJD h1];split at e
 ·omega
 rename_i h2;rw[AJD h2];simp only[AOy,AJr,ATi]at h1;obtain⟨k,k1,k2,k3,k4⟩:=TL h.qV (by show 0<w.BJ.length;omega);have k1':k<w.BJ.length:=k1;have cR:BN w.BJ=(k:Int)+1:=k2;have hn:w.BJ.length<=30:=h.qV.n;refine⟨h.cfg,h.tX,h.lost,h.Ib,h.BZ,h.qV,h.uN,by(try simp only[H.AA.BZ,H.AA.lost,H.AA.BJ,H.AA.trim,H.AA.AK,H.AA.Cd,H.AA.Ag,H.AA.CF,H.AA.Ib,H.AA.CL,H.AA.E5,H.AA.Ip,H.AA.Bk,H.AA.Cs,H.AA.C5,H.AA.Db,H.AA.FF,Cb,Aa]at*);simp,h.AK,h.g_,fun m hm=> ?_,h.ri,h.Ag,h.Se,h.CF,h.cP⟩
 replace hm:m∈[qK (BN w.BJ) w.BJ.length]:=hm
 simp only[APA]at hm;subst hm;refine⟨⟨h.cfg,?_,?_,fJ h.cfg,List.Pairwise.nil,by simp[qK],by simp[qK],rfl⟩,rfl,rfl⟩
 ·show 1<=BN w.BJ/\BN w.BJ<=30
  omega
 ·show BN w.BJ+1<=(w.BJ.length:Int)/\(w.BJ.length:Int)<=30
  omega
theorem AIx{n:Int}(e:(Tc w n).2=0):RT (Tc w n).1:=by
 unfold Tc at*;split at e
 ·omega
 rename_i m ms hm;simp only at e|-;split at e
 ·omega
 rename_i h1;rw[AJD h1];split at e
 ·omega
 rename_i h2;rw[AJD h2];split at e
 ·omega
 rename_i h3;rw[AJD h3];simp only[ne_eq,ATB]at h1;simp only[AOy,ATi,AMH,AMT]at h3;obtain⟨s1,s2,s3⟩:=kL h3.1;obtain⟨m1,m2,m3,m4⟩:=yd h3.2;have hw:=h.qg h1 s2;have hm1:=h.nmd;rw[hm]at hm1;refine⟨h.cfg,hw.tX,h.lost,h.Ib,hw.BZ,h.qV,h.uN,by omega,h.AK,h.g_,fun x hx=> ?_,h.ri,h.Ag,h.Se,h.CF,h.cP⟩;rcases ALa.1 hx with rfl|hx
 ·have:=h.Cd m (by simp_all)
  refine⟨m2,?_⟩;simp_all
 simp_all
theorem AIO(e:(Tf w).2=0):RT (Tf w).1:=by
 unfold Tf at*;split at e
 ·omega
 rename_i m ms hm;simp only at e|-;split at e
 ·omega
 rename_i h3;rw[AJD h3];simp only[AMH,AMT]at h3;obtain⟨m1,m2,m3,m4,m5⟩:=AAB h3;have hm1:=h.nmd;rw[hm]at hm1;refine⟨h.cfg,h.tX,h.lost,h.Ib,h.BZ,h.qV,h.uN,by omega,h.AK,h.g_,fun x hx=> ?_,h.ri,h.Ag,h.Se,h.CF,h.cP⟩;rcases ALa.1 hx with rfl|hx
 ·have:=h.Cd m (by simp_all)
  refine⟨m2,?_⟩;simp_all
 simp_all
theorem ANJ{b n:Int}(e:(ZX w b n).2=0):RT (ZX w b n).1:=by
 unfold ZX at*;split at e
 ·omega
 rename_i m ms hm;split at e
 ·omega
 rename_i x hx;split at e
 ·omega
 rename_i h1;rw[AJD h1];split at e
 ·omega
 rename_i h2;rw[AJD h2];grind[lB,n0]
theorem AEn(e:(Nn w).2=0):RT (Nn w).1:=by
 unfold Nn at*;split at e
 ·omega
 rename_i m ms hm;split at e
 ·omega
 rename_i h1;rw[AJD h1];simp only at e|-;split at e
 ·omega
 rename_i h2;rw[AJD h2];simp only[AMH,AMT]at h2;obtain⟨r0,r1,k,k1,k2,k3,k4,k5,k6,k7,k8⟩:=z_ h2;rw[k6]at r1;rw[k6];have hl:(Oh (Cb w).1 k (m.2.2.2.2.2.1.length:Int)).length=w.BJ.length:=by simp[Oh,Cb]
 refine⟨h.cfg,h.tX,h.lost,h.Ib,h.BZ,r1,h.uN,by(try simp only[H.AA.BZ,H.AA.lost,H.AA.BJ,H.AA.trim,H.AA.AK,H.AA.Cd,H.AA.Ag,H.AA.CF,H.AA.Ib,H.AA.CL,H.AA.E5,H.AA.Ip,H.AA.Bk,H.AA.Cs,H.AA.C5,H.AA.Db,H.AA.FF,Cb,Aa]at*);simp,fun x hx=> ?_,h.g_,fun x hx=>by grind,h.ri,h.Ag,h.Se,fun x hx=> ?_,h.cP⟩
 ·(try simp only[H.AA.BZ,H.AA.lost,H.AA.BJ,H.AA.trim,H.AA.AK,H.AA.Cd,H.AA.Ag,H.AA.CF,H.AA.Ib,H.AA.CL,H.AA.E5,H.AA.Ip,H.AA.Bk,H.AA.Cs,H.AA.C5,H.AA.Db,H.AA.FF,Cb,Aa]at*);simp only[hl];exact h.AK x hx
 ·(try simp only[H.AA.BZ,H.AA.lost,H.AA.BJ,H.AA.trim,H.AA.AK,H.AA.Cd,H.AA.Ag,H.AA.CF,H.AA.Ib,H.AA.CL,H.AA.E5,H.AA.Ip,H.AA.Bk,H.AA.Cs,H.AA.C5,H.AA.Db,H.AA.FF,Cb,Aa]at*);simp only[hl];exact h.CF x hx
theorem AFv{a:Int}(e:(Wd w a).2=0):RT (Wd w a).1:=by
 unfold Wd at*;simp only at e|-;split at e
 ·omega
 rename_i h2;rw[AJD h2];simp only[AMH,AMT]at h2;obtain⟨r0,r1,r2⟩:=AAk h2;rw[r2]at r1;rw[r2];exact⟨h.cfg,h.tX,h.lost,h.Ib,h.BZ,r1,h.uN,h.nmd,h.AK,h.g_,h.Cd,h.ri,h.Ag,h.Se,h.CF,h.cP⟩
theorem ACX{a k:Int}(e:(Lt w a k).2=0):RT (Lt w a k).1:=by
 unfold Lt at*;split at e
 ·omega
 rename_i h1;rw[AJD h1];simp only at e|-;split at e
 ·omega
 rename_i h2;rw[AJD h2];simp only[ne_eq,ATB]at h2;refine⟨h.cfg,h.tX,h.lost,h.Ib,h.BZ,h.qV,h.uN,h.nmd,h.AK,h.g_,h.Cd,by(try simp only[H.AA.BZ,H.AA.lost,H.AA.BJ,H.AA.trim,H.AA.AK,H.AA.Cd,H.AA.Ag,H.AA.CF,H.AA.Ib,H.AA.CL,H.AA.E5,H.AA.Ip,H.AA.Bk,H.AA.Cs,H.AA.C5,H.AA.Db,H.AA.FF,Cb,Aa]at*);simpa using h.ri,fun r hr=> ?_,h.Se,h.CF,h.cP⟩;rcases APm hr with hr|rfl
 ·exact h.Ag r hr
 ·exact tg h2
theorem AId{a:Int}(e:(Ul w a).2=0):RT (Ul w a).1:=by
 unfold Ul at*;split at e
 ·omega
 rename_i h1;rw[AJD h1];have hs:(w.AK.eraseIdx a.toNat).Sublist w.AK:=List.eraseIdx_sublist _ _;exact⟨h.cfg,h.tX,h.lost,h.Ib,h.BZ,h.qV,AOT hs.length_le h.uN,h.nmd,fun x hx=>h.AK x (hs.subset hx),h.g_.sublist hs,h.Cd,h.ri,h.Ag,h.Se,h.CF,h.cP⟩
theorem AIj{all:Bool}{d:Al}(hd:d.2.2.2.2.1.length<=40)(e:(K3 all w d).2=0):RT (K3 all w d).1:=by
 unfold K3 at*;by_cases hc:d.1=1
 ·rw[AI9 hc]at e|-;exact AIc h e
 rw[AJD hc]at e|-;clear hc;by_cases hc:d.1=2
 ·rw[AI9 hc]at e|-;exact AOC h hd e
 rw[AJD hc]at e|-;clear hc;by_cases hc:d.1=3
 ·rw[AI9 hc]at e|-;exact AEw h e
 rw[AJD hc]at e|-;clear hc;by_cases hc:d.1=4
 ·rw[AI9 hc]at e|-;exact AJC h e
 rw[AJD hc]at e|-;clear hc;by_cases hc:d.1=5
 ·rw[AI9 hc]at e|-;exact AFu h e
 rw[AJD hc]at e|-;clear hc;by_cases hc:d.1=6
 ·rw[AI9 hc]at e|-;exact AHU h e
 rw[AJD hc]at e|-;clear hc;by_cases hc:d.1=7
 ·rw[AI9 hc]at e|-;exact AHV h e
 rw[AJD hc]at e|-;clear hc;by_cases hc:d.1=8
 ·rw[AI9 hc]at e|-;exact AHl h e
 rw[AJD hc]at e|-;clear hc;by_cases hc:d.1=9
 ·rw[AI9 hc]at e|-;exact AIx h e
 rw[AJD hc]at e|-;clear hc;by_cases hc:d.1=10
 ·rw[AI9 hc]at e|-;exact AIO h e
 rw[AJD hc]at e|-;clear hc;by_cases hc:d.1=11
 ·rw[AI9 hc]at e|-;exact ANJ h e
 rw[AJD hc]at e|-;clear hc;by_cases hc:d.1=12
 ·rw[AI9 hc]at e|-;exact AEn h e
 rw[AJD hc]at e|-;clear hc;by_cases hc:d.1=13
 ·rw[AI9 hc]at e|-;exact AFv h e
 rw[AJD hc]at e|-;clear hc;by_cases hc:d.1=14
 ·rw[AI9 hc]at e|-;exact ACX h e
 rw[AJD hc]at e|-;clear hc;by_cases hc:d.1=15
 ·rw[AI9 hc]at e|-;exact AId h e
 rw[AJD hc]at e|-;grind[AHK]
end
theorem ir{d:Al}(h:GD d=true):d.2.2.2.2.1.length<=40:=by
 unfold GD at h;simp_all
theorem AA2{all:Bool}{w:AA}{d:Al}(e:(FH all w d).2=0):C9 (FH all w d).1=true:=by
 unfold FH at*;split at e
 ·omega
 rename_i h1;rw[AJD h1];have hw:C9 w=true:=by
  simp_all
 have hd:GD d=true:=by
  simp_all
 grind[Kc,AIj,ir]
theorem ACG{α:Type}{f:α->Nat}{B:Nat}:∀{l:List α},(∀x∈l,f x<=B)->Ae f l<=l.length*(1+B)
 |[],_=>by simp[Ae]
 |x::l,h=>by
  have h1:=h x (by simp);have h2:=ACG (l:=l) fun y hy=>h y (by simp[hy])
  grind[Ae,List.length_cons,Nat.add_mul]
theorem G7{α:Type}{f:α->Nat}{B N:Nat}{l:List α}(hn:l.length<=N)(h:∀x∈l,f x<=B):Ae f l<=N*(1+B):=
 AOT (ACG h) (ALR _ hn)
theorem wZ{α:Type}{f:α->Int}{b:Int}:∀{l:List α} {a:Int},WK f l->(∀x∈l,a<=f x/\f x<b)->(l.length:Int)<=max (b-a) 0
 |[],a,_,_=>by grind
 |x::l,a,h,hb=>by
  simp only[WK,AOK]at h;have h1:=hb x (by simp);have h2:=wZ (l:=l) (a:=f x+1) h.2 fun y hy=>⟨by grind,(hb y (by simp[hy])).2⟩
  grind
theorem Kd{c:CK}{l:AAN}(h:A_ c l=true):l.length<=8:=by
 obtain⟨h1,h2,h3⟩:=F5.1 h;have:=(HJ h1).2.1;have:=wZ (a:=0) (b:=c.1.length) h3 h2;omega
theorem Kh{p:Int}(h:Aq p=true):CN p:=by
 obtain⟨h1,h2,h3⟩:=GA h;grind[Gv,CN]
theorem gm.w{s:AL}(h:gm s):Ai s<=10000:=by
 have h1:=G7 (f:=Am) (B:=40) h.nk fun e he=>(Hs.1 (h.kept e he)).len
 have h2:=G7 (f:=Am) (B:=40) h.nl fun e he=>(Hs.1 (h.late e he)).len
 unfold Ai;omega
theorem gm.sin{s:AL}(h:gm s):tZ s:=
 ⟨fun e he=>Kh (Hs.1 (h.kept e he)).pl,fun e he=>Kh (Hs.1 (h.late e he)).pl⟩
theorem ud.ARc{c:CK}{m:Az}(h:ud c m):m.2.2.2.1.length<=60:=by
 have:=wZ (f:=fun e:AJ=>e.1) (a:=Gv m.2.1 1) (b:=Gv m.2.1 61) h.zZ fun e he=>by
  have h1:=h.seen e he;have h2:=GA (Hs.1 h1.1).pl;grind[Gv]
 grind[Gv]
theorem ud.w{c:CK}{m:Az}(h:ud c m):CH m<=5000:=by
 have h1:=G7 (f:=Am) (B:=40) h.ARc fun e he=>(Hs.1 (h.seen e he).1).len
 have h2:=Kd h.sld;have h3:m.2.2.2.2.2.1.length<=60:=by
  have:=h.n;have hb:=KO (l:=m.2.2.2.1);omega
 have h4:=G7 (f:=C1) (B:=8) h3 fun l hl=>Kd (h.wrote l hl)
 unfold CH;omega
theorem ud.ein{c:CK}{m:Az}(h:ud c m):uj m.2.2.2.1:=fun e he=>Kh (Hs.1 (h.seen e he).1).pl
theorem ROk.w{c:CK}{r:AN}(h:ROk c r):Ae B_ r.1<=270:=by
 have:=G7 (f:=B_) (B:=8) h.n fun e he=>Kd (aV (h.BJ e he).1)
 omega
theorem ROk.tin{c:CK}{r:AN}(h:ROk c r):CN r.2.1:=by
 rcases h.trim with h|h
 all_goals grind[CN,Kh]
theorem dW.w{c:CK}{w:AR}(h:dW c w):An w<=3000:=by
 have:=G7 (f:=BQ) (B:=48) h.n fun x hx=>by
  have h1:=h.words x hx;grind[Kd,BQ]
 unfold An;omega
def RdS(w:AA):Prop:= ∀r∈w.Ag,∀e∈r.2.2.1,e.2.2.1.length<=40
theorem RT.Vt{w:AA}(h:RT w){s:AL}(hs:s∈w.BZ):gm s:=by
 obtain⟨i,hi,rfl⟩:=AOq hs;have:=(h.BZ i hi).1;simp_all
theorem RT.win{w:AA}(h:RT w)(hr:RdS w):lq w:=by
 have hc:=(HJ h.cfg).2.1;have eY:w.1.length<=8:=hc;have a1:=G7 (f:=Ai) (B:=10000) (N:=8) (l:=w.BZ) (by rw[h.tX];omega) fun s hs=>(h.Vt hs).w
 have a2:=Kd h.lost;have a3:=h.qV.w;have a4:=G7 (f:=An) (B:=3000) h.uN fun x hx=>(h.AK x hx).1.w
 have a5:=G7 (f:=CH) (B:=5000) h.nmd fun x hx=>(h.Cd x hx).1.w
 have a6:=G7 (f:=Ax) (B:=5000) (N:=2) (l:=w.Ag) (by rw[h.ri];omega) fun r hx=>by
  have:=G7 (f:=CB) (B:=40) (h.Ag r hx).n (hr r hx);unfold Ax;omega
 have a7:=G7 (f:=Dx) (B:=40) h.Se fun s hs=>(h.CF s hs).2.2
 refine⟨?_,fun s hs=>(h.Vt hs).sin,h.qV.tin,fun m hm=>(h.Cd m hm).1.ein,fun s hs=>Kh (h.CF s hs).1⟩;have a3':Ae B_ w.BJ<=270:=a3;grind[Co]
theorem vj:∀i,i<8->([0,1,2,3,4,5,6,7]:AAN).drop i=(i:Int)::([0,1,2,3,4,5,6,7]:AAN).drop (i+1):=by decide
theorem aS{k:Int}:On k=some (((),()),(BL k,())):=by
 unfold On Ve BL;rcases AIn (BD k 0 255)with hk|hk
 rotate_left
 ·rw[hk]
  obtain⟨m,hm⟩:∃m,AX=m+1:=⟨AX-1,by have:=Ab (n:=0) (by omega);omega⟩;rw[hm];simp only[H9,OW,BW,AD,hk,AB];rfl
 rw[hk,AI9 rfl];have hk':=Ak.1 hk;have key:∀(n i:Nat) (b:AAN),i<=8->8-i<n->b.length<=i->
   H9 n k i b=some (((),()),(b++(([0,1,2,3,4,5,6,7]:AAN).drop i).filter (fun i=>(k/2^i.toNat)%2==1),())):=by
  intro n
  induction n with
  |zero=>omega
  |succ n ih=>
   intro i b hi h hb;simp only[H9,OW,BW,AD,hk,AJy,AB];by_cases D7:i<8
   ·have AEL:=wx (k:=k) (i:=i) (by omega) (by omega)
    rw[AI9 (show(i:Int)<8 by omega),AJD (by omega),AJT,AEL,vj i D7,AO3,AJT,AH (by omega) (by omega),show((i:Int)+1)=((i+1:Nat):Int)by omega,AB];have c2:b.length+1<=Cm:=by rw[Ap];omega
    by_cases hb':(k/2^i)%2=1
    ·rw[AI9 hb',AI9 c2,AI9 (by simp_all),ih (i+1) _ (by omega) (by omega) (by simp_all),AKK]
     rfl
    grind
   ·have:i=8:=by omega
    simp_all
 have:=key AX 0 [] (by omega) (Ab (by omega)) (by simp);simp_all
theorem gH{d:Al}:WG d=some ((GD d,()),()):=by
 obtain⟨k,a,b,n,t,⟨⟩⟩:=d;unfold WG GD;rw[BW];simp only[AD];rcases AIn (BD k 1 16)with hk|hk
 rotate_left
 ·simp_all
 have hk':=Ak.1 hk;rw[hk];have dl:decide ((t.length:Int)<=40)=decide (t.length<=40):=by
  grind
 have:k=1\/k=2\/k=3\/k=4\/k=5\/k=6\/k=7\/k=8\/k=9\/k=10\/k=11\/k=12\/k=13\/k=14\/k=15\/k=16:=by omega
 rcases this with h|h|h|h|h|h|h|h|h|h|h|h|h|h|h|h<;>subst h<;>simp only[AJy,dl]<;>clear dl hk hk'<;>
  (unfold ah;simp[XO];cases a==0<;>cases b==0<;>cases n==0<;>cases t.isEmpty<;>rfl)
theorem ik{w:AR}(hl:w.2.1.length<=2^20):WO w=some (((cB w.2.1:Int),()),()):=by
 have key:∀(n i:Nat),i<=w.2.1.length->w.2.1.length-i<n->
   Jp n i w.1 w.2.1=some ((((i+cB (w.2.1.drop i):Nat):Int),()),()):=by
  intro n
  induction n with
  |zero=>omega
  |succ n ih=>
   intro i hi h;simp only[Jp,To,AB];by_cases D7:i<w.2.1.length
   ·have c1:(0:Int)<=(i:Int)/\(i:Int)<(w.2.1.length:Int):=by omega
    rw[AI9 c1.2,AI9 c1,Af D7,AH (by omega) (by omega),show((i:Int)+1)=((i+1:Nat):Int)by omega,ih (i+1) (by omega) (by omega),drop_cons D7];simp only[cB];cases w.2.1[i].2.2.1 with
    |false=>simp
    |true=>grind
   ·rw[AJD (by omega),AJm (by omega)]
    rfl
 have:=key AX 0 (by omega) (Ab (by omega));rw[APB,AOn]at this;exact this
theorem IG{w:AA}{n:Int}(h1:w.BZ.length<=2^20)(h2:w.lost.length<=2^20):HT w n=some ((Ar w n,()),()):=by
 unfold HT Ar
 (try simp only[H.AA.BZ,H.AA.lost,H.AA.BJ,H.AA.trim,H.AA.AK,H.AA.Cd,H.AA.Ag,H.AA.CF,H.AA.Ib,H.AA.CL,H.AA.E5,H.AA.Ip,H.AA.Bk,H.AA.Cs,H.AA.C5,H.AA.Db,H.AA.FF,Cb,Aa]at*)
 rw[AH (by omega) (by omega),BW,KX (by omega)];grind
theorem SY{w:AA}{n:Int}(h1:w.AK.length<=2^20):L1 w n=some ((BD n 0 ((w.AK.length:Int)-1),()),()):=by
 grind[L1,AH,BW]
theorem qz{w:AA}{e:Int}(hl:Ae An w.AK<=2^20):fz w e=some ((cX w e,()),()):=by
 have vd:=AU (f:=An) (l:=w.AK);have key:∀(n i:Nat),i<=w.AK.length->w.AK.length-i<n->
   OT n e i w.1 w.2.1 w.2.2.1 w.2.2.2.1 w.2.2.2.2.1 w.2.2.2.2.2.1 w.AK w.2.2.2.2.2.2.2.1 w.2.2.2.2.2.2.2.2.1 w.2.2.2.2.2.2.2.2.2.1 w.2.2.2.2.2.2.2.2.2.2.1=
    some (((match(w.AK.drop i).find? (fun x=>x.1==e)with|some x=>(cB x.2.1:Int)|none=>0),()),()):=by
  intro n
  induction n with
  |zero=>omega
  |succ n ih=>
   intro i hi h;simp only[OT,aX,AB];by_cases D7:i<w.AK.length
   ·have c1:(0:Int)<=(i:Int)/\(i:Int)<(w.AK.length:Int):=by omega
    rw[AI9 c1.2,AI9 c1,AI9 c1,Af D7,AH (by omega) (by omega),show((i:Int)+1)=((i+1:Nat):Int)by omega,ih (i+1) (by omega) (by omega),drop_cons D7,ATO,show(w.AK[i].1,w.AK[i].2.1,())=w.AK[i]from rfl];have hm:=AY (f:=An) (AJ7 D7);have hw:An w.AK[i]=Ae BQ w.AK[i].2.1:=rfl;have hlw:=AU (f:=BQ) (l:=w.AK[i].2.1);rw[ik (by omega)];cases(w.AK[i].1==e)<;>rfl
   grind
 have:=key AX 0 (by omega) (Ab (by omega));rw[AOn]at this;exact this
theorem jQ{w:AA}{r:Ac}{k:Int}(h1:Ae Ai w.BZ<=2^20)(h2:w.lost.length<=2^20)(hr1: -1000<=r.1/\r.1<=1000)(hr2: -1000<=r.2.1/\r.2.1<=1000):
  Qj w r k=some (((),()),(answers w (Gv r.1 r.2.1) (BL k),())):=by
 have hsl:=AU (f:=Ai) (l:=w.BZ);have vi:(BL k).length<=8:=by
  unfold BL;split
  ·exact AOT (AOj _ _) (by simp)
  ·simp
 have key:∀(n i:Nat) (b:List BG),i<=(BL k).length->(BL k).length-i<n->b.length<=i->
   Jm n i w.1 w.2.1 w.2.2.1 w.2.2.2.1 w.2.2.2.2.1 w.2.2.2.2.2.1 w.2.2.2.2.2.2.1 w.2.2.2.2.2.2.2.1 w.2.2.2.2.2.2.2.2.1 w.2.2.2.2.2.2.2.2.2.1 w.2.2.2.2.2.2.2.2.2.2.1 r.1 r.2.1 r.2.2.1 b (BL k)=
    some (((),()),(b++answers w (Gv r.1 r.2.1) ((BL k).drop i),())):=by
  intro n
  induction n with
  |zero=>omega
  |succ n ih=>
   intro i b hi h hb;simp only[Jm,T_,AB];by_cases D7:i<(BL k).length
   ·have c1:(0:Int)<=(i:Int)/\(i:Int)<((BL k).length:Int):=by omega
    have c2:b.length+1<=Cm:=by rw[Ap];omega
    rw[AI9 c1.2,AI9 c1,Af D7,GS w,IG (by omega) h2,AH (by omega) (by omega),show((i:Int)+1)=((i+1:Nat):Int)by omega,drop_cons D7];simp only[AD,Cq,answers,AO3];by_cases hn:Ar w (BL k)[i]=0
    ·obtain⟨n1,n2,n3⟩:=QC hn
     have hs1:((BL k)[i]).toNat<w.2.2.1.length:=by simp_all
     rw[AI9 hn,AI9 c1,AI9 ⟨n1,n2⟩,Mu hr1 hr2];simp only[AD];have dC:w.2.2.1.getD ((BL k)[i]).toNat ([],[],0,())=storeAt w (BL k)[i]:=rfl;have hsm:Ai (storeAt w (BL k)[i])<=2^20:=AOT (AY (f:=Ai) (Bh (d:=Dm) hs1)) h1;rw[dC,U6 (Ft (by omega)).1];simp only[AD];rw[AI9 c1,AI9 c2,ih (i+1) _ (by omega) (by omega) (by simp_all),AI9 (by simp_all),APX,AKK];have:((BL k)[i],(OV (Gv r.1 r.2.1) (storeAt w (BL k)[i]).1).isSome,((OV (Gv r.1 r.2.1) (storeAt w (BL k)[i]).1).getD Di).1,((OV (Gv r.1 r.2.1) (storeAt w (BL k)[i]).1).getD Di).2.1,((OV (Gv r.1 r.2.1) (storeAt w (BL k)[i]).1).getD Di).2.2.1,((OV (Gv r.1 r.2.1) (storeAt w (BL k)[i]).1).getD Di).2.2.2.1,())=answer w (Gv r.1 r.2.1) (BL k)[i]:=by
      grind[answer,OV,Gv,storeAt,BL]
     rw[this];rfl
    ·rw[AJD hn,ih (i+1) _ (by omega) (by omega) (by omega),AJD (by simp_all)]
     rfl
   ·rw[AJD (by omega),AJm (by omega)]
    simp[answers]
 have:=key AX 0 [] (by omega) (Ab (by omega)) (by simp);grind[Qj,Tt,aS]
section
variable{w:AA} (h:lq w)
include h
theorem AIa:∀(n i:Nat) (EK:List AL) (Eu:List AR) (Fb:List Az) (GK:List Ac),i<=w.2.2.2.2.2.2.2.2.1.length->w.2.2.2.2.2.2.2.2.1.length-i<n->GK.length<=i->
  CW n i w.1 w.2.1 w.2.2.1 w.2.2.2.1 w.2.2.2.2.1 w.2.2.2.2.2.1 w.2.2.2.2.2.2.1 w.2.2.2.2.2.2.2.1 w.2.2.2.2.2.2.2.2.1 w.2.2.2.2.2.2.2.2.2.1 w.2.2.2.2.2.2.2.2.2.2.1 0 0 false [] [] [] [] [] [] [] [] w.2.1 w.2.2.2.2.2.1 w.2.2.2.2.2.2.2.2.2.2.1 w.1 EK w.2.2.2.1 w.2.2.2.2.1 Eu Fb GK w.2.2.2.2.2.2.2.2.2.1=some ((((),w.2.1,(),(),(),w.2.2.2.2.2.1,(),(),(),(),w.2.2.2.2.2.2.2.2.2.2.1,()),()),(w.1,EK,w.2.2.2.1,w.2.2.2.2.1,Eu,Fb,(GK++w.2.2.2.2.2.2.2.2.1.drop i),w.2.2.2.2.2.2.2.2.2.1,())):=by
 have hl2:=h.LN;have hl:=h.lens;intro n
 induction n with
 |zero=>omega
 |succ n ih=>
  intro i EK Eu Fb GK hi hn hb;simp only[CW,P1,AB];by_cases D7:i<w.2.2.2.2.2.2.2.2.1.length
  ·have c1:(0:Int)<=(i:Int)/\(i:Int)<(w.2.2.2.2.2.2.2.2.1.length:Int):=by omega
   have c2:GK.length+1<=Cm:=by rw[Ap];omega
   rw[AI9 c1.2,AI9 c1,Af D7,AH (by omega) (by omega),show((i:Int)+1)=((i+1:Nat):Int)by omega,drop_cons D7];have hm:=AY (f:=Ax) (AJ7 D7);have hw:Ax w.2.2.2.2.2.2.2.2.1[i]=Ae CB w.2.2.2.2.2.2.2.2.1[i].2.2.1:=rfl;have hlw:=AU (f:=CB) (l:=w.2.2.2.2.2.2.2.2.1[i].2.2.1);rw[N_ (w.2.2.2.2.2.2.2.2.1[i]),WT (by omega)];simp only[AD];rw[AI9 c2,ih (i+1) _ _ _ _ (by omega) (by omega) (by simp_all),AKK];rfl
  grind
theorem AI8:∀(n i:Nat) (EK:List AL) (Eu:List AR) (Fb:List Az),i<=w.2.2.2.2.2.2.2.1.length->(w.2.2.2.2.2.2.2.1.length-i)+w.2.2.2.2.2.2.2.2.1.length+2<=n->Fb.length<=i->
  CT n i w.1 w.2.1 w.2.2.1 w.2.2.2.1 w.2.2.2.2.1 w.2.2.2.2.2.1 w.2.2.2.2.2.2.1 w.2.2.2.2.2.2.2.1 w.2.2.2.2.2.2.2.2.1 w.2.2.2.2.2.2.2.2.2.1 w.2.2.2.2.2.2.2.2.2.2.1 0 0 false [] [] [] [] [] [] [] [] w.2.1 w.2.2.2.2.2.1 w.2.2.2.2.2.2.2.2.2.2.1 w.1 EK w.2.2.2.1 w.2.2.2.2.1 Eu Fb [] w.2.2.2.2.2.2.2.2.2.1=some ((((),w.2.1,(),(),(),w.2.2.2.2.2.1,(),(),(),(),w.2.2.2.2.2.2.2.2.2.2.1,()),()),(w.1,EK,w.2.2.2.1,w.2.2.2.2.1,Eu,(Fb++w.2.2.2.2.2.2.2.1.drop i),w.2.2.2.2.2.2.2.2.1,w.2.2.2.2.2.2.2.2.2.1,())):=by
 have hl2:=h.LN;have hl:=h.lens;intro n
 induction n with
 |zero=>omega
 |succ n ih=>
  intro i EK Eu Fb hi hn hb;simp only[CT,P3,AB];by_cases D7:i<w.2.2.2.2.2.2.2.1.length
  ·have c1:(0:Int)<=(i:Int)/\(i:Int)<(w.2.2.2.2.2.2.2.1.length:Int):=by omega
   have c2:Fb.length+1<=Cm:=by rw[Ap];omega
   rw[AI9 c1.2,AI9 c1,Af D7,AH (by omega) (by omega),show((i:Int)+1)=((i+1:Nat):Int)by omega,drop_cons D7];have hm:=AY (f:=CH) (AJ7 D7);rw[Vm (w.2.2.2.2.2.2.2.1[i]),LR (by omega)];simp only[AD];rw[AI9 c2,ih (i+1) _ _ _ (by omega) (by omega) (by simp_all),AKK];rfl
  ·have:=AIa h n 0 EK Eu Fb [] (by omega) (by omega) (by simp)
   grind
theorem AMy:∀(n i:Nat) (EK:List AL) (Eu:List AR),i<=w.2.2.2.2.2.2.1.length->(w.2.2.2.2.2.2.1.length-i)+w.2.2.2.2.2.2.2.1.length+w.2.2.2.2.2.2.2.2.1.length+3<=n->Eu.length<=i->
  Cn n i w.1 w.2.1 w.2.2.1 w.2.2.2.1 w.2.2.2.2.1 w.2.2.2.2.2.1 w.2.2.2.2.2.2.1 w.2.2.2.2.2.2.2.1 w.2.2.2.2.2.2.2.2.1 w.2.2.2.2.2.2.2.2.2.1 w.2.2.2.2.2.2.2.2.2.2.1 0 0 false [] [] [] [] [] [] [] [] w.2.1 w.2.2.2.2.2.1 w.2.2.2.2.2.2.2.2.2.2.1 w.1 EK w.2.2.2.1 w.2.2.2.2.1 Eu [] [] w.2.2.2.2.2.2.2.2.2.1=some ((((),w.2.1,(),(),(),w.2.2.2.2.2.1,(),(),(),(),w.2.2.2.2.2.2.2.2.2.2.1,()),()),(w.1,EK,w.2.2.2.1,w.2.2.2.2.1,(Eu++w.2.2.2.2.2.2.1.drop i),w.2.2.2.2.2.2.2.1,w.2.2.2.2.2.2.2.2.1,w.2.2.2.2.2.2.2.2.2.1,())):=by
 have hl2:=h.LN;have hl:=h.lens;intro n
 induction n with
 |zero=>omega
 |succ n ih=>
  intro i EK Eu hi hn hb;simp only[Cn,RL,AB];by_cases D7:i<w.2.2.2.2.2.2.1.length
  ·have c1:(0:Int)<=(i:Int)/\(i:Int)<(w.2.2.2.2.2.2.1.length:Int):=by omega
   have c2:Eu.length+1<=Cm:=by rw[Ap];omega
   rw[AI9 c1.2,AI9 c1,Af D7,AH (by omega) (by omega),show((i:Int)+1)=((i+1:Nat):Int)by omega,drop_cons D7];have hm:=AY (f:=An) (AJ7 D7);have hw:An w.2.2.2.2.2.2.1[i]=Ae BQ w.2.2.2.2.2.2.1[i].2.1:=rfl;rw[show(w.2.2.2.2.2.2.1[i].1,w.2.2.2.2.2.2.1[i].2.1,())=w.2.2.2.2.2.2.1[i]from rfl,Sf (by omega)];simp only[AD];rw[AI9 c2,ih (i+1) _ _ (by omega) (by omega) (by simp_all),AKK];rfl
  ·have:=AI8 h n 0 EK Eu [] (by omega) (by omega) (by simp)
   grind
theorem ANj:∀(n i:Nat) (EK:List AL),i<=w.2.2.1.length->(w.2.2.1.length-i)+w.2.2.2.2.2.2.1.length+w.2.2.2.2.2.2.2.1.length+w.2.2.2.2.2.2.2.2.1.length+4<=n->EK.length<=i->
  CY n i w.1 w.2.1 w.2.2.1 w.2.2.2.1 w.2.2.2.2.1 w.2.2.2.2.2.1 w.2.2.2.2.2.2.1 w.2.2.2.2.2.2.2.1 w.2.2.2.2.2.2.2.2.1 w.2.2.2.2.2.2.2.2.2.1 w.2.2.2.2.2.2.2.2.2.2.1 0 0 false [] [] [] [] [] [] [] [] w.2.1 w.2.2.2.2.2.1 w.2.2.2.2.2.2.2.2.2.2.1 w.1 EK w.2.2.2.1 w.2.2.2.2.1 [] [] [] w.2.2.2.2.2.2.2.2.2.1=some ((((),w.2.1,(),(),(),w.2.2.2.2.2.1,(),(),(),(),w.2.2.2.2.2.2.2.2.2.2.1,()),()),(w.1,(EK++w.2.2.1.drop i),w.2.2.2.1,w.2.2.2.2.1,w.2.2.2.2.2.2.1,w.2.2.2.2.2.2.2.1,w.2.2.2.2.2.2.2.2.1,w.2.2.2.2.2.2.2.2.2.1,())):=by
 have hl2:=h.LN;have hl:=h.lens;intro n
 induction n with
 |zero=>omega
 |succ n ih=>
  intro i EK hi hn hb;simp only[CY,RG,AB];by_cases D7:i<w.2.2.1.length
  ·have c1:(0:Int)<=(i:Int)/\(i:Int)<(w.2.2.1.length:Int):=by omega
   have c2:EK.length+1<=Cm:=by rw[Ap];omega
   rw[AI9 c1.2,AI9 c1,Af D7,AH (by omega) (by omega),show((i:Int)+1)=((i+1:Nat):Int)by omega,drop_cons D7];have hm:=AY (f:=Ai) (AJ7 D7);have hw:=Ft (s:=w.2.2.1[i]) (by omega);rw[N_ (w.2.2.1[i]),PC hw.1 hw.2];simp only[AD];rw[AI9 c2,ih (i+1) _ (by omega) (by omega) (by simp_all),AKK];rfl
  ·have:=AMy h n 0 EK [] (by omega) (by omega) (by simp)
   grind
theorem dr:MJ w=some ((((),w.2.1,(),(),(),w.2.2.2.2.2.1,(),(),(),(),w.2.2.2.2.2.2.2.2.2.2.1,()),()),(w.1,w.2.2.1,w.2.2.2.1,w.2.2.2.2.1,w.2.2.2.2.2.2.1,w.2.2.2.2.2.2.2.1,w.2.2.2.2.2.2.2.2.1,w.2.2.2.2.2.2.2.2.2.1,())):=by
 have hl2:=h.LN;have hl:=h.lens;unfold MJ Q3;have:=ANj h AX 0 [] (by omega) (ASJ (Ab (by omega))) (by simp);rw[show((0:Nat):Int)=0 from rfl,AOi,AOn]at this;rw[AI9 (by rw[Ap];omega),AI9 (by rw[Ap];omega),show(w.2.2.2.2.1,w.2.2.2.2.2.1,())=(Cb w)from rfl,Si (by show Ae B_ w.2.2.2.2.1<=_;omega)];simp only[AD];rw[AI9 (by rw[Ap];omega)];exact this
end
def pkD(q:AA×Int):dm:=(((((),q.1.2.1,(),(),(),q.1.2.2.2.2.2.1,(),(),(),(),q.1.2.2.2.2.2.2.2.2.2.2.1,()),q.2,()),()),(q.1.1,q.1.2.2.1,q.1.2.2.2.1,q.1.2.2.2.2.1,q.1.2.2.2.2.2.2.1,q.1.2.2.2.2.2.2.2.1,q.1.2.2.2.2.2.2.2.2.1,q.1.2.2.2.2.2.2.2.2.2.1,()))
def AMZ(q:AA×Int):fB:=(((((),q.1.2.1,(),(),(),q.1.2.2.2.2.2.1,(),(),(),(),q.1.2.2.2.2.2.2.2.2.2.2.1,()),q.2,()),()),(q.1.1,q.1.2.2.1,q.1.2.2.2.1,(),(),(),q.1.2.2.2.2.2.2.2.2.1,q.1.2.2.2.2.2.2.2.2.2.1,q.1.2.2.2.2.1,q.1.2.2.2.2.2.2.1,q.1.2.2.2.2.2.2.2.1,()))
def AEs(q:AA×Int):Kv:=(((((),q.1.2.1,(),(),(),q.1.2.2.2.2.2.1,(),(),(),(),q.1.2.2.2.2.2.2.2.2.2.2.1,()),q.2,()),()),(q.1.1,q.1.2.2.1,q.1.2.2.2.1,q.1.2.2.2.2.1,q.1.2.2.2.2.2.2.1,q.1.2.2.2.2.2.2.2.1,q.1.2.2.2.2.2.2.2.2.1,(),q.1.2.2.2.2.2.2.2.2.2.1,()))
def xd(q:AA×Int):Ji:=(((((),q.1.2.1,(),(),(),q.1.2.2.2.2.2.1,(),(),(),(),q.1.2.2.2.2.2.2.2.2.2.2.1,()),q.2,()),()),(q.1.1,q.1.2.2.1,(),q.1.2.2.2.2.1,q.1.2.2.2.2.2.2.1,q.1.2.2.2.2.2.2.2.1,q.1.2.2.2.2.2.2.2.2.1,q.1.2.2.2.2.2.2.2.2.2.1,q.1.2.2.2.1,()))
def AKh(q:AA×Int):fE:=(((((),q.1.2.1,(),(),(),q.1.2.2.2.2.2.1,(),(),(),(),q.1.2.2.2.2.2.2.2.2.2.2.1,()),q.2,()),()),(q.1.1,q.1.2.2.1,q.1.2.2.2.1,q.1.2.2.2.2.1,q.1.2.2.2.2.2.2.1,(),q.1.2.2.2.2.2.2.2.2.1,q.1.2.2.2.2.2.2.2.2.2.1,q.1.2.2.2.2.2.2.2.1,()))
def AIi(q:AA×Int):eI:=(((((),q.1.2.1,(),(),(),q.1.2.2.2.2.2.1,(),(),(),(),q.1.2.2.2.2.2.2.2.2.2.2.1,()),q.2,()),()),(q.1.1,q.1.2.2.1,q.1.2.2.2.1,(),q.1.2.2.2.2.2.2.1,(),q.1.2.2.2.2.2.2.2.2.1,q.1.2.2.2.2.2.2.2.2.2.1,q.1.2.2.2.2.1,q.1.2.2.2.2.2.2.2.1,()))
def AFx(q:AA×Int):Oj:=(((((),q.1.2.1,(),(),(),q.1.2.2.2.2.2.1,(),(),(),(),q.1.2.2.2.2.2.2.2.2.2.2.1,()),q.2,()),()),(q.1.1,q.1.2.2.1,q.1.2.2.2.1,q.1.2.2.2.2.1,(),q.1.2.2.2.2.2.2.2.1,q.1.2.2.2.2.2.2.2.2.1,q.1.2.2.2.2.2.2.2.2.2.1,q.1.2.2.2.2.2.2.1,()))
def ANs(q:AA×Int):lN:=(((((),q.1.2.1,(),(),(),q.1.2.2.2.2.2.1,(),(),(),(),q.1.2.2.2.2.2.2.2.2.2.2.1,()),q.2,()),()),(q.1.1,q.1.2.2.1,(),(),(),(),q.1.2.2.2.2.2.2.2.2.1,(),q.1.2.2.2.1,q.1.2.2.2.2.1,q.1.2.2.2.2.2.2.1,q.1.2.2.2.2.2.2.2.1,q.1.2.2.2.2.2.2.2.2.2.1,()))
theorem Fq{α:Type}{x y:α}:(if(!true)=true then x else y)=y:=rfl
theorem Ic{α:Type}{x y:α}:(if(!false)=true then x else y)=x:=rfl
structure ATj (w:AA):Prop where
 c:w.1.length<=8
 st:w.2.2.1.length=w.1.length
 lost:w.2.2.2.1.length<=8
 era:Ae B_ w.2.2.2.2.1<=270
 eX:w.2.2.2.2.1.length<=30
 trim:CN w.2.2.2.2.2.1
 wr:w.2.2.2.2.2.2.1.length<=4
 md:w.2.2.2.2.2.2.2.1.length<=1
 rd:w.2.2.2.2.2.2.2.2.1.length=2
 se:w.2.2.2.2.2.2.2.2.2.1.length<=120
 ws:Ae Ai w.2.2.1<=80008
 ww:Ae An w.2.2.2.2.2.2.1<=12004
 lS:w.AK.length<=4
 jw:w.BZ.length=w.1.length
 J1:w.lost.length<=8
theorem RT.nums{w:AA}(h:RT w):ATj w where
 c:=(HJ h.cfg).2.1
 st:=h.tX
 lost:=Kd h.lost
 era:=h.qV.w
 eX:=h.qV.n
 trim:=h.qV.tin
 wr:=h.uN
 md:=h.nmd
 rd:=h.ri
 se:=h.Se
 ws:=by
  have:=G7 (f:=Ai) (B:=10000) (N:=8) (l:=w.BZ) (by rw[h.tX];exact(HJ h.cfg).2.1) fun s hs=>(h.Vt hs).w
  omega
 ww:=by
  have:=G7 (f:=An) (B:=3000) h.uN fun x hx=>(h.AK x hx).1.w
  omega
 lS:=h.uN
 jw:=h.tX
 J1:=Kd h.lost
section
variable{w:AA} (h:RT w)
include h
theorem RT.e_{a:Int}(ha:BD a 0 ((w.AK.length:Int)-1)=true):(0<=a/\a<(w.2.2.2.2.2.2.1.length:Int))/\dW (Aa w) (w.AK.getD a.toNat CZ)/\Ae BQ (w.AK.getD a.toNat CZ).2.1<=3000:=by
 have:=Ak.1 ha;have hi:a.toNat<w.AK.length:=by omega
 have hx:=(h.AK _ (Bh (d:=CZ) hi)).1;refine⟨?_,hx,hx.w⟩
 (try simp only[H.AA.BZ,H.AA.lost,H.AA.BJ,H.AA.trim,H.AA.AK,H.AA.Cd,H.AA.Ag,H.AA.CF,H.AA.Ib,H.AA.CL,H.AA.E5,H.AA.Ip,H.AA.Bk,H.AA.Cs,H.AA.C5,H.AA.Db,H.AA.FF,Cb,Aa]at*)
 omega
theorem Gm{e:Int}:(CS (Cb w).1 e).length<=8:=by
 unfold CS;split
 ·rename_i he
  have he':=Ak.1 he;exact Kd (aV (h.qV.BJ _ (Bh (d:=IM) (by omega))).1)
 ·simp
theorem p7{d:Al}:XK w.2.1 w.2.2.2.2.2.1 w.2.2.2.2.2.2.2.2.2.2.1 d w.1 w.2.2.1 w.2.2.2.1 w.2.2.2.2.1 w.2.2.2.2.2.2.1 w.2.2.2.2.2.2.2.1 w.2.2.2.2.2.2.2.2.1 w.2.2.2.2.2.2.2.2.2.1=some (AMZ (QA w d.2.1)):=by
 have k:=h.nums;have k1:=k.c;have k2:=k.wr;unfold XK QA;rw[DL];by_cases h4:w.2.2.2.2.2.2.1.length=4
 ·rw[AI9 (by omega),AI9 h4];rfl
 have hm:(BL d.2.1).length<=8:=by
  unfold BL;split
  ·exact AOT (AOj _ _) (by simp)
  ·simp
 rw[AJD (by omega),AJD h4,aS];simp only[AD];rw[show(w.1,w.2.1,())=Aa w from rfl,show(w.2.2.2.2.1,w.2.2.2.2.2.1,())=Cb w from rfl,pc (c:=Aa w) (r:=Cb w) (by show w.1.length<=_;omega) (by have:=k.era;show Ae B_ w.2.2.2.2.1<=_;omega) k.trim (by omega)];simp only[AD,Ao];rcases AIn (Ik (Aa w) (Cb w) (BL d.2.1)).2.2 with hq|hq
 ·rw[hq,AI9 (by rw[Ap];omega),Fq];rfl
 ·rw[hq,Ic];rfl
theorem mr{d:Al}:VK w.2.1 w.2.2.2.2.2.1 w.2.2.2.2.2.2.2.2.2.2.1 d w.1 w.2.2.1 w.2.2.2.1 w.2.2.2.2.1 w.2.2.2.2.2.2.1 w.2.2.2.2.2.2.2.1 w.2.2.2.2.2.2.2.2.1 w.2.2.2.2.2.2.2.2.2.1=some (pkD (Nd w d.2.1 d.2.2.1 d.2.2.2.1)):=by
 have k:=h.nums;have k1:=k.c;have k2:=k.wr;have k3:=k.lost;have k4:=k.st;have cR:=k.lS;have jx:=k.J1;have lr:=k.jw;have k5:=k.era;unfold VK Nd;rw[GS w,SY (by omega),IG (by omega) (by omega)];simp only[AD,Ao,Cq];rcases AIn (BD d.2.1 0 ((w.AK.length:Int)-1))with h1|h1
 rotate_left
 ·rw[h1,Ic];rfl
 obtain⟨x1,x2,x3⟩:=h.e_ h1;rw[h1,AJy,Fq,AI9 x1,BW];simp only[AD]
 generalize hx:w.AK.getD d.2.1.toNat CZ=x at*
 rcases AIn (BD d.2.2.1 1 (x.2.1.length:Int))with h2|h2
 rotate_left
 ·rw[h2,Ic];rfl
 have h2':=Ak.1 h2;rw[h2,AJy,Fq];by_cases h3:Ar w d.2.2.2.1=0
 rotate_left
 ·rw[AJD h3,AI9 h3];rfl
 rw[AI9 h3,AJD (show¬(Ar w d.2.2.2.1≠0)from fun hh=>hh h3)];obtain⟨n1,n2,n3⟩:=QC h3;have n2':d.2.2.2.1<(w.2.2.1.length:Int):=n2;have hxl:=x2.n;have hxe:=x2.ep;rw[show(w.2.2.2.2.1,w.2.2.2.2.2.1,())=Cb w from rfl,HL (r:=Cb w) (by show Ae B_ w.2.2.2.2.1<=_;omega)];have U0:(CS w.BJ x.1).length<=8:=Gm h;have hr:0<=d.2.2.2.1/\d.2.2.2.1<(w.2.2.1.length:Int):=⟨n1,n2'⟩;rw[show(Cb w).1=w.BJ from rfl];simp only[AD,AI9 hr];rw[KX (by omega),AH (by omega) (by omega),AI9 (by omega),Mu (by omega) (by omega)];simp only[AD];have dC:w.2.2.1.getD d.2.2.2.1.toNat ([],[],0,())=storeAt w d.2.2.2.1:=rfl;have hso:=h.store h3;have xp:=NF (e:=x.1) (o:=d.2.2.1) hxe (by omega);rw[dC,show((storeAt w d.2.2.2.1).1,(storeAt w d.2.2.2.1).2.1,(storeAt w d.2.2.2.1).2.2.1,())=storeAt w d.2.2.2.1 from rfl,bL (by have:=hso.w;omega) hso.sin (Kh xp.1)];simp only[AD,oC,putAt];rcases AIn ((CS w.BJ x.1).contains d.2.2.2.1)with h5|h5
 rotate_left
 ·rw[h5,Ic];rfl
 rw[h5,Fq,AJy];have hwd:(x.2.1.getD (d.2.2.1-1).toNat ([],[],false,()))=x.2.1.getD (d.2.2.1-1).toNat MB:=rfl;rw[hwd];rcases AIn (KS (storeAt w d.2.2.2.1) (Gv x.1 d.2.2.1,0,false,(x.2.1.getD (d.2.2.1-1).toNat MB).1,())).2 with h6|h6
 rotate_left
 ·rw[h6];rfl
 rw[h6,AJy,AI9 rfl];rfl
end
theorem mz{α:Type}{f:α->Nat}{p:α->Bool}:∀{l:List α},Ae f (l.filter p)<=Ae f l
 |[]=>ALj _
 |x::l=>by
  have:=mz (f:=f) (p:=p) (l:=l);grind[Ae]
theorem y9{s:AL}{u:Int}(hs:gm s):gm (Bw s u).1:=by
 rcases AIn (Bw s u).2 with hq|hq
 ·exact(kL hq).2.1
 ·have:(Bw s u).1=s:=by
   unfold Bw at*;rw[Dc.2 hs]at*;grind
  simp_all
section
variable{w:AA} (h:RT w)
include h
theorem RT.Lv{n:Int}(hn:Ar w n=0):(0<=n/\n<(w.2.2.1.length:Int))/\Ai (storeAt w n)<=2^30/\tZ (storeAt w n)/\gm (storeAt w n):=by
 obtain⟨n1,n2,n3⟩:=QC hn;have:=(h.store hn).w;exact⟨⟨n1,n2⟩,by omega,(h.store hn).sin,h.store hn⟩
theorem ng{d:Al}:VQ w.2.1 w.2.2.2.2.2.1 w.2.2.2.2.2.2.2.2.2.2.1 d w.1 w.2.2.1 w.2.2.2.1 w.2.2.2.2.1 w.2.2.2.2.2.2.1 w.2.2.2.2.2.2.2.1 w.2.2.2.2.2.2.2.2.1 w.2.2.2.2.2.2.2.2.2.1=some (pkD (if d.1=16 then Nq w d.2.1 else Ns w d.2.1 d.2.2.1)):=by
 have k:=h.nums;have k1:=k.c;have k2:=k.wr;have k3:=k.lost;have k4:=k.st;have cR:=k.lS;have jx:=k.J1;have lr:=k.jw;have k5:=k.era;unfold VQ Nq Ns;rw[GS w,IG (by omega) (by omega)];simp only[AD,Ao,Cq,DL];by_cases h3:Ar w d.2.1=0
 rotate_left
 ·rw[AJD h3]
  by_cases h16:d.1=16
  ·rw[AI9 h16,AI9 h3];rfl
  ·rw[AJD h16,AI9 h3];rfl
 obtain⟨hr,s1,s2,s3⟩:=h.Lv h3;have dC:w.2.2.1.getD d.2.1.toNat ([],[],0,())=storeAt w d.2.1:=rfl;have hn3: ¬(Ar w d.2.1≠0):=fun hh=>hh h3
 rw[AI9 h3];simp only[AI9 hr,dC,AJD hn3];rw[show((storeAt w d.2.1).1,(storeAt w d.2.1).2.1,(storeAt w d.2.1).2.2.1,())=storeAt w d.2.1 from rfl,X1 s1 s2,j8 s1 s2 k.trim];simp only[AD,oC,putAt];by_cases h16:d.1=16
 ·rw[AI9 h16,AI9 h16]
  rcases AIn (JG (storeAt w d.2.1) w.2.2.2.2.2.1).2 with h6|h6
  ·rw[h6];rfl
  ·rw[h6];rfl
 ·rw[AJD h16,AJD h16]
  rcases AIn (Fl (storeAt w d.2.1) d.2.2.1).2 with h6|h6
  ·rw[h6];rfl
  ·rw[h6];rfl
theorem qC{d:Al}:Xo w.2.1 w.2.2.2.2.2.1 w.2.2.2.2.2.2.2.2.2.2.1 d w.1 w.2.2.1 w.2.2.2.1 w.2.2.2.2.1 w.2.2.2.2.2.2.1 w.2.2.2.2.2.2.2.1 w.2.2.2.2.2.2.2.2.1 w.2.2.2.2.2.2.2.2.2.1=some (xd (Sa w d.2.1)):=by
 have k:=h.nums;have k1:=k.c;have k2:=k.wr;have k3:=k.lost;have k4:=k.st;have cR:=k.lS;have jx:=k.J1;have lr:=k.jw;have k5:=k.era;have k6:=k.ws;have k6':Ae Ai w.BZ<=80008:=k.ws;have k7:=k.eX;unfold Xo Sa;rw[KX (by omega)];simp only[AD,Ao];rcases AIn (w.2.2.2.1.contains d.2.1)with h1|h1
 rotate_left
 ·rw[h1];rfl
 rw[h1,Fq,AJy,AH (by omega) (by omega),ar];simp only[AD];rw[show(w.1,w.2.1,())=Aa w from rfl,wX (c:=Aa w) (by show w.1.length<=_;omega) (by omega) (fun s hs=>by have:=(h.Vt hs).nk;omega) (by omega) (fun s hs=>(h.Vt hs).sin) (by omega)];simp only[AD,pkF];rcases AIn (ba (Aa w) w.2.2.1 w.2.2.2.1 d.2.1 (max ((w.2.2.2.2.1.length:Int)-1) 0)).2 with h2|h2
 rotate_left
 ·rw[h2];rfl
 have hm:d.2.1∈w.lost:=by
  simp_all
 have hn:=(F5.1 h.lost).2.1 d.2.1 hm;have hn':d.2.1<(w.1.length:Int):=hn.2;rw[h2,AJy,Fq,AI9 (show 0<=d.2.1/\d.2.1<(w.2.2.1.length:Int)from⟨hn.1,by omega⟩),JZ (by omega) (by simp)];rfl
theorem pY:XS w.2.1 w.2.2.2.2.2.1 w.2.2.2.2.2.2.2.2.2.2.1 w.1 w.2.2.1 w.2.2.2.1 w.2.2.2.2.1 w.2.2.2.2.2.2.1 w.2.2.2.2.2.2.2.1 w.2.2.2.2.2.2.2.2.1 w.2.2.2.2.2.2.2.2.2.1=some (AKh (S3 w)):=by
 have k:=h.nums;have k1:=k.c;have k2:=k.wr;have k3:=k.lost;have k4:=k.st;have cR:=k.lS;have jx:=k.J1;have lr:=k.jw;have k5:=k.era;have k7:=k.eX;unfold XS S3;rw[show(w.2.2.2.2.1,w.2.2.2.2.2.1,())=Cb w from rfl,S4 (r:=Cb w) (by show w.2.2.2.2.1.length<=_;omega)];simp only[AD,DL,AB];rw[show(Cb w).1=w.BJ from rfl];by_cases h1:(w.2.2.2.2.1.length:Int)<2
 ·rw[AI9 h1,show(decide ((w.2.2.2.2.1.length:Int)<2)||decide (BN w.2.2.2.2.1=(w.2.2.2.2.1.length:Int)))=true by simp_all];rfl
 rw[AJD h1];by_cases h2:BN w.2.2.2.2.1=(w.2.2.2.2.1.length:Int)
 ·rw[AI9 h2,show(decide ((w.2.2.2.2.1.length:Int)<2)||decide (BN w.2.2.2.2.1=(w.2.2.2.2.1.length:Int)))=true by simp_all];rfl
 rw[AJD h2,show(decide ((w.2.2.2.2.1.length:Int)<2)||decide (BN w.2.2.2.2.1=(w.2.2.2.2.1.length:Int)))=false by simp_all];rw[AJD (show¬(false=true)by simp)];by_cases h3:w.2.2.2.2.2.2.2.1.length>0
 ·rw[AI9 (by omega),AI9 h3];rfl
 ·rw[AJD (by omega),AJD h3];rfl
theorem qB{d:Al}:Xq w.2.1 w.2.2.2.2.2.1 w.2.2.2.2.2.2.2.2.2.2.1 d w.1 w.2.2.1 w.2.2.2.1 w.2.2.2.2.1 w.2.2.2.2.2.2.1 w.2.2.2.2.2.2.2.1 w.2.2.2.2.2.2.2.2.1 w.2.2.2.2.2.2.2.2.2.1=some (pkD (Tc w d.2.1)):=by
 have k:=h.nums;have k1:=k.c;have k2:=k.wr;have k3:=k.lost;have k4:=k.st;have cR:=k.lS;have jx:=k.J1;have lr:=k.jw;have k5:=k.era;unfold Xq Tc;rcases hm:w.Cd with _|⟨m,ms⟩
 ·rw[DL,AI9 (by simp_all)];rfl
 have hm':w.2.2.2.2.2.2.2.1=m::ms:=hm;have vi:w.2.2.2.2.2.2.2.1.length=ms.length+1:=by simp_all
 have g0:w.2.2.2.2.2.2.2.1.getD 0 (0,0,[],[],false,[],())=m:=by simp_all
 have hr0:(0:Int)<=(0:Int)/\(0:Int)<(w.2.2.2.2.2.2.2.1.length:Int):=by omega
 have an:=(h.Cd m (by simp_all)).1;have hmw:=an.w;have hme:=an.ep;have hmb:=an.b;simp only[DL,Ao,Cq,AI9 hr0,g0];rw[AJD (by omega)];rw[GS w,IG (by omega) (by omega),show(w.2.2.2.2.1,w.2.2.2.2.2.1,())=Cb w from rfl,HL (r:=Cb w) (by show Ae B_ w.2.2.2.2.1<=_;omega)];have U0:(CS w.BJ m.2.1).length<=8:=Gm h;rw[show(Cb w).1=w.BJ from rfl];simp only[AD];rw[KX (by omega)];simp only[AD];by_cases h3:Ar w d.2.1=0
 rotate_left
 ·rw[AJD h3,AI9 h3];rfl
 obtain⟨hr,s1,s2,s3⟩:=h.Lv h3;have dC:w.2.2.1.getD d.2.1.toNat ([],[],0,())=storeAt w d.2.1:=rfl;have hn3: ¬(Ar w d.2.1≠0):=fun hh=>hh h3
 rw[AI9 h3,AJD hn3];simp only[AI9 hr,dC];rcases AIn ((CS w.BJ m.2.1).contains d.2.1)with h5|h5
 rotate_left
 ·rw[h5,Ic];rfl
 rw[h5,Fq,AJy,AH (by omega) (by omega),show((storeAt w d.2.1).1,(storeAt w d.2.1).2.1,(storeAt w d.2.1).2.2.1,())=storeAt w d.2.1 from rfl,lf s1 s2];have hq:=y9 (u:=m.1-1) s3;have hqw:=hq.w;simp only[AD,oC];rw[show((Bw (storeAt w d.2.1) (m.1-1)).1.1,(Bw (storeAt w d.2.1) (m.1-1)).1.2.1,(Bw (storeAt w d.2.1) (m.1-1)).1.2.2.1,())=(Bw (storeAt w d.2.1) (m.1-1)).1 from rfl,mY (by omega) hq.sin];simp only[AD];have hes:(Jh (Bw (storeAt w d.2.1) (m.1-1)).1 m.2.1).length<=200/\uj (Jh (Bw (storeAt w d.2.1) (m.1-1)).1 m.2.1)/\Ae Am (Jh (Bw (storeAt w d.2.1) (m.1-1)).1 m.2.1)<=10000:=by
  unfold Jh;rw[Dc.2 hq,AI9 rfl];refine⟨AOT (AOj _ _) hq.nk,fun e he=>hq.sin.1 e (ATA.1 he).1,AOT mz ?_⟩;have:Ai (Bw (storeAt w d.2.1) (m.1-1)).1=Ae Am (Bw (storeAt w d.2.1) (m.1-1)).1.1+Ae Am (Bw (storeAt w d.2.1) (m.1-1)).1.2.1:=rfl;omega
 rw[Vm m,show(w.1,w.2.1,())=Aa w from rfl,mZ (c:=Aa w) (by show w.1.length<=_;omega) (by omega) an.ein (by omega) hes.2.1 (by omega)];simp only[AD,kH];rcases AIn (Bw (storeAt w d.2.1) (m.1-1)).2 with h6|h6
 rotate_left
 ·rw[h6,AOH,ATV,AI9 rfl];rfl
 rw[h6,AJX,ANG];rcases AIn (Oy (Aa w) m d.2.1 (Jh (Bw (storeAt w d.2.1) (m.1-1)).1 m.2.1)).2 with h7|h7
 rotate_left
 ·rw[h7,Ic];rfl
 rw[h7,Fq,AJy,AJy,hm'];rfl
theorem pj:Xr w.2.1 w.2.2.2.2.2.1 w.2.2.2.2.2.2.2.2.2.2.1 w.1 w.2.2.1 w.2.2.2.1 w.2.2.2.2.1 w.2.2.2.2.2.2.1 w.2.2.2.2.2.2.2.1 w.2.2.2.2.2.2.2.2.1 w.2.2.2.2.2.2.2.2.2.1=some (pkD (Tf w)):=by
 have k:=h.nums;have k1:=k.c;have k2:=k.wr;have k3:=k.lost;have k4:=k.st;have cR:=k.lS;have jx:=k.J1;have lr:=k.jw;have k5:=k.era;unfold Xr Tf;rcases hm:w.Cd with _|⟨m,ms⟩
 ·rw[DL,AI9 (by simp_all)];rfl
 have hm':w.2.2.2.2.2.2.2.1=m::ms:=hm;have vi:w.2.2.2.2.2.2.2.1.length=ms.length+1:=by simp_all
 have g0:w.2.2.2.2.2.2.2.1.getD 0 (0,0,[],[],false,[],())=m:=by simp_all
 have hr0:(0:Int)<=(0:Int)/\(0:Int)<(w.2.2.2.2.2.2.2.1.length:Int):=by omega
 have an:=(h.Cd m (by simp_all)).1;have hmw:=an.w;have hme:=an.ep;have hmb:=an.b;simp only[DL,Ao,Cq,AI9 hr0,g0];rw[AJD (by omega)];rw[show(w.2.2.2.2.1,w.2.2.2.2.2.1,())=Cb w from rfl,HL (r:=Cb w) (by show Ae B_ w.2.2.2.2.1<=_;omega)];have U0:(CS w.BJ m.2.1).length<=8:=Gm h;rw[show(Cb w).1=w.BJ from rfl];simp only[AD];rw[Vm m,show(w.1,w.2.1,())=Aa w from rfl,nN (c:=Aa w) (by show w.1.length<=_;omega) (by omega) an.ein (by omega)];simp only[AD,kH];rcases AIn (L9 (Aa w) m (CS w.BJ m.2.1)).2 with h7|h7
 rotate_left
 ·rw[h7,Ic];rfl
 rw[h7,Fq,AJy,hm'];rfl
theorem sG{d:Al}:Zv w.2.1 w.2.2.2.2.2.1 w.2.2.2.2.2.2.2.2.2.2.1 d w.1 w.2.2.1 w.2.2.2.1 w.2.2.2.2.1 w.2.2.2.2.2.2.1 w.2.2.2.2.2.2.2.1 w.2.2.2.2.2.2.2.2.1 w.2.2.2.2.2.2.2.2.2.1=some (pkD (ZX w d.2.2.1 d.2.2.2.1)):=by
 have k:=h.nums;have k1:=k.c;have k2:=k.wr;have k3:=k.lost;have k4:=k.st;have cR:=k.lS;have jx:=k.J1;have lr:=k.jw;have k5:=k.era;unfold Zv ZX;rcases hm:w.Cd with _|⟨m,ms⟩
 ·rw[DL,AI9 (by simp_all)];rfl
 have hm':w.2.2.2.2.2.2.2.1=m::ms:=hm;have vi:w.2.2.2.2.2.2.2.1.length=ms.length+1:=by simp_all
 have g0:w.2.2.2.2.2.2.2.1.getD 0 (0,0,[],[],false,[],())=m:=by simp_all
 have hr0:(0:Int)<=(0:Int)/\(0:Int)<(w.2.2.2.2.2.2.2.1.length:Int):=by omega
 have an:=(h.Cd m (by simp_all)).1;have hmw:=an.w;have hme:=an.ep;have hmb:=an.b;simp only[DL,Ao,Cq,AI9 hr0,g0];rw[AJD (by omega)];rw[Vm m,Zl (m:=m) (by omega),GS w,IG (by omega) (by omega),show(w.2.2.2.2.1,w.2.2.2.2.2.1,())=Cb w from rfl,HL (r:=Cb w) (by show Ae B_ w.2.2.2.2.1<=_;omega)];have U0:(CS w.BJ m.2.1).length<=8:=Gm h;rw[show(Cb w).1=w.BJ from rfl];simp only[AD];rw[KX (by omega)];simp only[AD];have Pu:∀e,EW m d.2.2.1=some e->CN e.1:=fun e he=>by
  unfold EW at he;split at he
  ·rename_i hc
   simp only[AJR,Ak]at hc;grind[NF,Kh]
  simp_all
 cases he:EW m d.2.2.1 with
 |none=>rfl
 |some e=>
 simp only[AO2,AJy,AO4];by_cases h3:Ar w d.2.2.2.1=0
 rotate_left
 ·rw[AJD h3,AI9 h3];rfl
 obtain⟨hr,s1,s2,s3⟩:=h.Lv h3;have dC:w.2.2.1.getD d.2.2.2.1.toNat ([],[],0,())=storeAt w d.2.2.2.1:=rfl;have hn3: ¬(Ar w d.2.2.2.1≠0):=fun hh=>hh h3
 rw[AI9 h3,AJD hn3];simp only[AI9 hr,dC];rcases AIn ((CS w.BJ m.2.1).contains d.2.2.2.1)with h5|h5
 rotate_left
 ·rw[h5,Ic];rfl
 rw[h5,Fq,AJy,show((storeAt w d.2.2.2.1).1,(storeAt w d.2.2.2.1).2.1,(storeAt w d.2.2.2.1).2.2.1,())=storeAt w d.2.2.2.1 from rfl,eg e,bL s1 s2 (Pu e he)];simp only[AD,oC,putAt];rcases AIn (KS (storeAt w d.2.2.2.1) e).2 with h6|h6
 ·rw[h6];rfl
 ·rw[h6];rfl
theorem mO:Uv w.2.1 w.2.2.2.2.2.1 w.2.2.2.2.2.2.2.2.2.2.1 w.1 w.2.2.1 w.2.2.2.1 w.2.2.2.2.1 w.2.2.2.2.2.2.1 w.2.2.2.2.2.2.2.1 w.2.2.2.2.2.2.2.2.1 w.2.2.2.2.2.2.2.2.2.1=some (AIi (Nn w)):=by
 have k:=h.nums;have k1:=k.c;have k2:=k.wr;have k3:=k.lost;have k4:=k.st;have cR:=k.lS;have jx:=k.J1;have lr:=k.jw;have k5:=k.era;unfold Uv Nn;rcases hm:w.Cd with _|⟨m,ms⟩
 ·rw[DL,AI9 (by simp_all)];rfl
 have hm':w.2.2.2.2.2.2.2.1=m::ms:=hm;have vi:w.2.2.2.2.2.2.2.1.length=ms.length+1:=by simp_all
 have g0:w.2.2.2.2.2.2.2.1.getD 0 (0,0,[],[],false,[],())=m:=by simp_all
 have hr0:(0:Int)<=(0:Int)/\(0:Int)<(w.2.2.2.2.2.2.2.1.length:Int):=by omega
 have an:=(h.Cd m (by simp_all)).1;have hmw:=an.w;have hme:=an.ep;have hmb:=an.b;simp only[DL,Ao,Cq,AI9 hr0,g0];rw[AJD (by omega)];rw[Vm m,show(w.1,w.2.1,())=Aa w from rfl,lU (c:=Aa w) (by show w.1.length<=_;omega) (by omega) an.ein];simp only[AD];rcases AIn (UH (Aa w) m)with h5|h5
 rotate_left
 ·rw[h5,Ic];rfl
 rw[h5,Fq,AJy,show(w.2.2.2.2.1,w.2.2.2.2.2.1,())=Cb w from rfl,nI (c:=Aa w) (r:=Cb w) (by show w.1.length<=_;omega) (by show Ae B_ w.2.2.2.2.1<=_;omega) k.trim];simp only[AD,pkR];rcases AIn (ON (Aa w) (Cb w) m.1 m.2.2.2.2.2.1.length).2 with h6|h6
 ·rw[h6];rfl
 ·rw[h6];rfl
theorem pn{d:Al}:Xg w.2.1 w.2.2.2.2.2.1 w.2.2.2.2.2.2.2.2.2.2.1 d w.1 w.2.2.1 w.2.2.2.1 w.2.2.2.2.1 w.2.2.2.2.2.2.1 w.2.2.2.2.2.2.2.1 w.2.2.2.2.2.2.2.2.1 w.2.2.2.2.2.2.2.2.2.1=some (pkD (Lt w d.2.1 d.2.2.1)):=by
 have k:=h.nums;have k1:=k.c;have k2:=k.wr;have k3:=k.lost;have k4:=k.st;have cR:=k.lS;have jx:=k.J1;have lr:=k.jw;have k5:=k.era;have k6:=k.ws;have k6':Ae Ai w.BZ<=80008:=k.ws;have k7:=k.ww;have k8:=k.rd;unfold Xg Lt;rw[BW];simp only[AD,Ao,Cq];rcases AIn (BD d.2.1 0 1)with h1|h1
 rotate_left
 ·rw[h1];rfl
 have h1':=Ak.1 h1;have hr:0<=d.2.1/\d.2.1<(w.2.2.2.2.2.2.2.2.1.length:Int):=by omega
 have IQ:d.2.1.toNat<w.Ag.length:=by
  simp_all
 have ZN:=h.Ag _ (Bh (d:=AO) IQ);simp only[AI9 hr];rw[h1,Fq,AJy,GS w]
 generalize hx:w.Ag.getD d.2.1.toNat AO=r at*
 have hre:=ZN.ep;have hro:=ZN.off;rw[qz (by grind),N_ r,jQ (by omega) (by omega) (by omega) (by omega)];simp only[AD];have ha:∀a∈answers w (Gv r.1 r.2.1) (BL d.2.2.1),CN a.2.2.1:=fun a ha=>by
  unfold answers at ha;obtain⟨n,hn,rfl⟩:=APC.1 ha;have hn':Ar w n=0:=by simp_all
  unfold answer;split
  ·rename_i e he
   have:=(h.store hn').kept e (ATF he);exact Kh (Hs.1 this).pl
  ·exact⟨by simp_all,by simp_all⟩
 have hal:(answers w (Gv r.1 r.2.1) (BL d.2.2.1)).length<=8:=by
  unfold answers;rw[AQx];refine AOT (AOj _ _) ?_
  unfold BL;split
  ·exact AOT (AOj _ _) (by simp)
  ·simp
 rw[show(w.1,w.2.1,())=Aa w from rfl,show(w.2.2.2.2.1,w.2.2.2.2.2.1,())=Cb w from rfl,jE (c:=Aa w) (g:=Cb w) (by show w.1.length<=_;omega) (by show Ae B_ w.2.2.2.2.1<=_;omega) k.trim (by omega) ha];simp only[AD,AAy];by_cases h2:(DH (Aa w) (Cb w) (cX w r.1) r (answers w (Gv r.1 r.2.1) (BL d.2.2.1))).2=0
 ·rw[AI9 h2,AJD (fun hh=>hh h2)];rfl
 ·rw[AJD h2,AI9 h2];rfl
end
section
variable{w:AA} (h:RT w)
include h
theorem AOD{ws:List AR}{s:Aj}:∀(n i:Nat) (t:Bool) (b:List Aj),i<=w.2.2.2.2.2.2.2.2.2.1.length->w.2.2.2.2.2.2.2.2.2.1.length-i<n->b.length<=2*i+2->
  KH n t i w.1 w.2.2.1 w.2.2.2.1 w.2.2.2.2.1 ws w.2.2.2.2.2.2.2.1 w.2.2.2.2.2.2.2.2.1 w.2.2.2.2.2.2.2.2.2.1 w.2.1 w.2.2.2.2.2.1 w.2.2.2.2.2.2.2.2.2.2.1 0 0 false [] [] [] [] [] [] [] [] s.1 s.2.1 s.2.2.1 b=some (AEs (((w.Bk ws).Db (b++(if t then w.2.2.2.2.2.2.2.2.2.1.drop i else cU s (w.2.2.2.2.2.2.2.2.2.1.drop i)))),0)):=by
 have k6:=h.nums.se;intro n
 induction n with
 |zero=>omega
 |succ n ih=>
  intro i t b hi hn hb;simp only[KH,YP,AB,Ao];have c2:b.length+1<=Cm:=by rw[Ap];omega
  by_cases D7:i<w.2.2.2.2.2.2.2.2.2.1.length
  ·have c1:(0:Int)<=(i:Int)/\(i:Int)<(w.2.2.2.2.2.2.2.2.2.1.length:Int):=by omega
   have c3:(b++[(s.1,s.2.1,s.2.2.1,())]).length+1<=Cm:=by grind[Ap]
   rw[AI9 c1.2];simp only[AI9 c1,AI9 c2,AI9 c3];rw[Af D7,AH (by omega) (by omega),show((i:Int)+1)=((i+1:Nat):Int)by omega,drop_cons D7,N_ (w.2.2.2.2.2.2.2.2.2.1[i])];cases t with
   |true=>
    rw[AJy,ih (i+1) true _ (by omega) (by omega) (by grind),AI9 rfl,AI9 rfl,AKK];rfl
   |false=>
    rw[AJQ,AJD (show¬(false=true)by simp)];simp only[cU];by_cases hg:w.2.2.2.2.2.2.2.2.2.1[i].1>s.1
    ·rw[AI9 hg,AI9 hg,ih (i+1) true _ (by omega) (by omega) (by grind),AI9 rfl,AKK,AKK]
     rfl
    ·rw[AJD hg,AJD hg,ih (i+1) false _ (by omega) (by omega) (by grind),AJD (show¬(false=true)by simp),AKK]
     rfl
  ·rw[AJD (by omega),AJm (by omega)]
   cases t with
   |true=>rw[AJy,AI9 rfl,AKX];rfl
   |false=>rw[AJQ,AI9 c2];rfl
theorem APc{ws:List AR}{s:Aj}:∀(n i:Nat),i<=w.2.2.2.2.2.2.2.2.2.1.length->(w.2.2.2.2.2.2.2.2.2.1.length-i)+w.2.2.2.2.2.2.2.2.2.1.length+2<=n->
  LS n i w.1 w.2.2.1 w.2.2.2.1 w.2.2.2.2.1 ws w.2.2.2.2.2.2.2.1 w.2.2.2.2.2.2.2.2.1 w.2.2.2.2.2.2.2.2.2.1 w.2.1 w.2.2.2.2.2.1 w.2.2.2.2.2.2.2.2.2.2.1 0 0 false [] [] [] [] [] [] [] [] s.1 s.2.1 s.2.2.1=some (AEs (if(w.2.2.2.2.2.2.2.2.2.1.drop i).any (fun x=>x.1==s.1)then(w.Bk ws,4)else(((w.Bk ws).Db (cU s w.2.2.2.2.2.2.2.2.2.1)),0))):=by
 have k6:=h.nums.se;intro n
 induction n with
 |zero=>omega
 |succ n ih=>
  intro i hi hn;simp only[LS,ZU,AB,DL];by_cases D7:i<w.2.2.2.2.2.2.2.2.2.1.length
  ·have c1:(0:Int)<=(i:Int)/\(i:Int)<(w.2.2.2.2.2.2.2.2.2.1.length:Int):=by omega
   rw[AI9 c1.2,AI9 c1,Af D7,AH (by omega) (by omega),show((i:Int)+1)=((i+1:Nat):Int)by omega,drop_cons D7,ih (i+1) (by omega) (by omega),List.any_cons];by_cases he:w.2.2.2.2.2.2.2.2.2.1[i].1=s.1
   ·rw[AI9 he,show(w.2.2.2.2.2.2.2.2.2.1[i].1==s.1)=true by simp_all,ATV,AI9 rfl]
    rfl
   ·rw[AJD he,show(w.2.2.2.2.2.2.2.2.2.1[i].1==s.1)=false by simp_all,ANG]
  ·have:=AOD h (ws:=ws) (s:=s) n 0 false [] (by omega) (by omega) (by simp)
   grind
theorem rL{d:Al}(hd:d.2.2.2.2.1.length<=40):∃w',Zt w.2.1 w.2.2.2.2.2.1 w.2.2.2.2.2.2.2.2.2.2.1 d w.1 w.2.2.1 w.2.2.2.1 w.2.2.2.2.1 w.2.2.2.2.2.2.1 w.2.2.2.2.2.2.2.1 w.2.2.2.2.2.2.2.2.1 w.2.2.2.2.2.2.2.2.2.1=some (AEs (w',(doAdd w d.2.1 d.2.2.2.2.1).2))/\((doAdd w d.2.1 d.2.2.2.2.1).2=0->w' =(doAdd w d.2.1 d.2.2.2.2.1).1):=by
 have k:=h.nums;have k1:=k.c;have k2:=k.wr;have k3:=k.lost;have k4:=k.st;have cR:=k.lS;have jx:=k.J1;have lr:=k.jw;have k5:=k.era;unfold Zt Zq doAdd;rw[GS w,SY (by omega)];simp only[AD,Ao,DL];rcases AIn (BD d.2.1 0 ((w.AK.length:Int)-1))with h1|h1
 rotate_left
 ·rw[h1];exact⟨w,rfl,fun _=>rfl⟩
 obtain⟨x1,x2,x3⟩:=h.e_ h1;simp only[h1,AJy,Fq,AI9 x1]
 generalize hx:w.AK.getD d.2.1.toNat CZ=x at*
 rw[show(x.1,x.2.1,())=x from rfl,show(w.1,w.2.1,())=Aa w from rfl,kF (c:=Aa w) (w:=x) (by show w.1.length<=_;omega) (by omega) (by omega)];simp only[AD];rcases AIn (CM (Aa w) x d.2.2.2.2.1).2.2 with h2|h2
 rotate_left
 ·rw[h2];exact⟨w,rfl,fun _=>rfl⟩
 obtain⟨_,r1,r2,r3⟩:=XX h2;rw[r2]at r1;have hnn:=r1.n;simp only[AKN,AJq,AKx]at hnn;have hxe:=x2.ep;rw[h2,AJy,r3,r2];rw[Mu (by omega) (by omega)];simp only[AD,AJX,ANG];by_cases h3:w.2.2.2.2.2.2.2.2.2.1.length=120
 ·rw[AI9 (by omega),show decide (w.CF.length=120)=true from ALg h3,ATV,AI9 rfl];exact⟨w,rfl,fun hh=>by rfl⟩
 have:=APc h (ws:=w.AK.set d.2.1.toNat (x.1,x.2.1++[(d.2.2.2.2.1,[],false,())],())) (s:=(Gv x.1 ((x.2.1.length:Int)+1),d.2.2.2.2.1,false,())) AX 0 (by omega) (ASJ (Ab (by have:=h.nums.se;omega)));grind
end
section
variable{w:AA} (h:RT w)
include h
theorem ANU{d:Al}{a:Nat}(ha:d.2.1=(a:Int)):∀(n i:Nat) (b:List AR),i<=w.2.2.2.2.2.2.1.length->w.2.2.2.2.2.2.1.length-i<n->b.length<=i->
  Mw n i w.1 w.2.2.1 w.2.2.2.1 w.2.2.2.2.1 w.2.2.2.2.2.2.1 w.2.2.2.2.2.2.2.1 w.2.2.2.2.2.2.2.2.1 w.2.2.2.2.2.2.2.2.2.1 w.2.1 w.2.2.2.2.2.1 w.2.2.2.2.2.2.2.2.2.2.1 d.1 d.2.1 d.2.2.1 d.2.2.2.1 d.2.2.2.2.1 0 0 false [] [] [] [] [] [] [] [] b=some (AFx (w.Bk (b++(if i<=a then(w.2.2.2.2.2.2.1.drop i).eraseIdx (a-i)else w.2.2.2.2.2.2.1.drop i)),0)):=by
 have k6:=h.nums.wr;intro n
 induction n with
 |zero=>omega
 |succ n ih=>
  intro i b hi hn hb;simp only[Mw,YN,AB,Cq];by_cases D7:i<w.2.2.2.2.2.2.1.length
  ·have c1:(0:Int)<=(i:Int)/\(i:Int)<(w.2.2.2.2.2.2.1.length:Int):=by omega
   have c2:b.length+1<=Cm:=by rw[Ap];omega
   rw[AI9 c1.2];simp only[AI9 c1,AI9 c2];rw[Af D7,AH (by omega) (by omega),show((i:Int)+1)=((i+1:Nat):Int)by omega,drop_cons D7,show(w.2.2.2.2.2.2.1[i].1,w.2.2.2.2.2.2.1[i].2.1,())=w.2.2.2.2.2.2.1[i]from rfl];by_cases he:(i:Int)=d.2.1
   ·rw[AI9 he,ih (i+1) b (by omega) (by omega) (by omega),AJD (by omega),AI9 (by omega),show a-i=0 by omega]
    rfl
   ·rw[AJD he,ih (i+1) _ (by omega) (by omega) (by simp_all),AKK]
    by_cases hl:i+1<=a
    ·rw[AI9 hl,AI9 (by omega),show a-i=(a-(i+1))+1 by omega,List.eraseIdx_cons_succ]
     rfl
    ·rw[AJD hl,AJD (by omega)]
     rfl
  ·rw[AJD (by omega),AJm (by omega)]
   have:(if i<=a then([]:List AR).eraseIdx (a-i)else[])=[]:=by simp_all
   rw[this,AKX];rfl
theorem qD{d:Al}:Xe w.2.1 w.2.2.2.2.2.1 w.2.2.2.2.2.2.2.2.2.2.1 d w.1 w.2.2.1 w.2.2.2.1 w.2.2.2.2.1 w.2.2.2.2.2.2.1 w.2.2.2.2.2.2.2.1 w.2.2.2.2.2.2.2.2.1 w.2.2.2.2.2.2.2.2.2.1=some (AFx (Ul w d.2.1)):=by
 have k:=h.nums;have k1:=k.c;have k2:=k.wr;have k3:=k.lost;have k4:=k.st;have cR:=k.lS;have jx:=k.J1;have lr:=k.jw;have k5:=k.era;unfold Xe ZF Ul;rw[GS w,SY (by omega)];simp only[AD,Ao];rcases AIn (BD d.2.1 0 ((w.AK.length:Int)-1))with h1|h1
 rotate_left
 ·rw[h1];rfl
 have h1':=Ak.1 h1;have:=ANU h (d:=d) (a:=d.2.1.toNat) (by omega) AX 0 [] (by omega) (Ab (by omega)) (by simp);simp_all
theorem AIA{d:Al}{ss:List AL}{ls:AAN}{ws:List AR}(hls:ls.length<=2^20):∀(n i:Nat),i<=w.2.2.2.2.2.2.2.1.length->w.2.2.2.2.2.2.2.1.length-i<n->
  JL n i w.1 ss w.2.2.2.1 w.2.2.2.2.1 ws ((w.2.2.2.2.2.2.2.1.map fun m=>(CC (Aa w) m d.2.1).1).take i++w.2.2.2.2.2.2.2.1.drop i) w.2.2.2.2.2.2.2.2.1 w.2.2.2.2.2.2.2.2.2.1 w.2.1 w.2.2.2.2.2.1 w.2.2.2.2.2.2.2.2.2.2.1 ls d.1 d.2.1 d.2.2.1 d.2.2.2.1 d.2.2.2.2.1 0 0 false [] [] [] [] [] [] [] []=some (xd (((((w.CL ss).E5 ls).Bk ws).Cs (w.2.2.2.2.2.2.2.1.map fun m=>(CC (Aa w) m d.2.1).1)).FF (w.Ib||holds (Aa w) ls),0)):=by
 have k:=h.nums;have k1:=k.c;have k6:=k.md;intro n
 induction n with
 |zero=>omega
 |succ n ih=>
  intro i hi hn;simp only[JL,Wh,AB,Ao];rw[Pb hi];by_cases D7:i<w.2.2.2.2.2.2.2.1.length
  ·have c1:(0:Int)<=(i:Int)/\(i:Int)<(w.2.2.2.2.2.2.2.1.length:Int):=by omega
   have hm:=(h.Cd _ (AJ7 D7)).1;have hmw:=hm.w;rw[AI9 c1.2];simp only[AI9 c1];rw[AJT,M4 D7,AH (by omega) (by omega),show((i:Int)+1)=((i+1:Nat):Int)by omega,Vm (w.2.2.2.2.2.2.2.1[i]),show(w.1,w.2.1,())=Aa w from rfl,jh (c:=Aa w) (by show w.1.length<=_;omega) (by omega) hm.ein];simp only[AD,kH];rw[show((CC (Aa w) w.2.2.2.2.2.2.2.1[i] d.2.1).1.1,(CC (Aa w) w.2.2.2.2.2.2.2.1[i] d.2.1).1.2.1,(CC (Aa w) w.2.2.2.2.2.2.2.1[i] d.2.1).1.2.2.1,(CC (Aa w) w.2.2.2.2.2.2.2.1[i] d.2.1).1.2.2.2.1,(CC (Aa w) w.2.2.2.2.2.2.2.1[i] d.2.1).1.2.2.2.2.1,(CC (Aa w) w.2.2.2.2.2.2.2.1[i] d.2.1).1.2.2.2.2.2.1,())=(CC (Aa w) w.2.2.2.2.2.2.2.1[i] d.2.1).1 from rfl,Qi D7 rfl];grind
  ·have:i=w.2.2.2.2.2.2.2.1.length:=by omega
   rw[AJD (by omega),this,APP,AKX,ANm (by simp),show(w.1,w.2.1,())=Aa w from rfl,HU (by show w.1.length<=_;omega) (by omega)];simp only[AD];cases ht:w.2.2.2.2.2.2.2.2.2.2.1 with
   |true=>
    have ht':w.Ib=true:=ht;rw[ht'];rfl
   |false=>
    have ht':w.Ib=false:=ht;rw[ht'];rfl
theorem AKi{d:Al}{ss:List AL}{ls:AAN}(hls:ls.length<=2^20):∀(n i:Nat),i<=w.2.2.2.2.2.2.1.length->(w.2.2.2.2.2.2.1.length-i)+w.2.2.2.2.2.2.2.1.length+2<=n->
  J_ n i w.1 ss w.2.2.2.1 w.2.2.2.2.1 ((w.2.2.2.2.2.2.1.map fun x=>(B5 (Aa w) x d.2.1).1).take i++w.2.2.2.2.2.2.1.drop i) w.2.2.2.2.2.2.2.1 w.2.2.2.2.2.2.2.2.1 w.2.2.2.2.2.2.2.2.2.1 w.2.1 w.2.2.2.2.2.1 w.2.2.2.2.2.2.2.2.2.2.1 ls d.1 d.2.1 d.2.2.1 d.2.2.2.1 d.2.2.2.2.1 0 0 false [] [] [] [] [] [] [] []=some (xd (((((w.CL ss).E5 ls).Bk (w.2.2.2.2.2.2.1.map fun x=>(B5 (Aa w) x d.2.1).1)).Cs (w.2.2.2.2.2.2.2.1.map fun m=>(CC (Aa w) m d.2.1).1)).FF (w.Ib||holds (Aa w) ls),0)):=by
 have k:=h.nums;have k1:=k.c;have k6:=k.wr;intro n
 induction n with
 |zero=>omega
 |succ n ih=>
  intro i hi hn;simp only[J_,Yv,AB,Ao];rw[Pb hi];by_cases D7:i<w.2.2.2.2.2.2.1.length
  ·have c1:(0:Int)<=(i:Int)/\(i:Int)<(w.2.2.2.2.2.2.1.length:Int):=by omega
   have hm:=(h.AK _ (AJ7 D7)).1;have hmw:=hm.w;rw[AI9 c1.2];simp only[AI9 c1];rw[AJT,M4 D7,AH (by omega) (by omega),show((i:Int)+1)=((i+1:Nat):Int)by omega,show(w.2.2.2.2.2.2.1[i].1,w.2.2.2.2.2.2.1[i].2.1,())=w.2.2.2.2.2.2.1[i]from rfl,show(w.1,w.2.1,())=Aa w from rfl,fS (c:=Aa w) (by show w.1.length<=_;omega) (by have:An w.2.2.2.2.2.2.1[i]=Ae BQ w.2.2.2.2.2.2.1[i].2.1:=rfl;omega)];simp only[AD,pkW];rw[show((B5 (Aa w) w.2.2.2.2.2.2.1[i] d.2.1).1.1,(B5 (Aa w) w.2.2.2.2.2.2.1[i] d.2.1).1.2.1,())=(B5 (Aa w) w.2.2.2.2.2.2.1[i] d.2.1).1 from rfl,Qi D7 rfl];grind
  ·have:i=w.2.2.2.2.2.2.1.length:=by omega
   have k11:=AIA h (d:=d) (ss:=ss) (ws:=w.2.2.2.2.2.2.1.map fun x=>(B5 (Aa w) x d.2.1).1) hls n 0 (by omega) (by omega);rw[show((0:Nat):Int)=0 from rfl,AOn,ATh,AOi]at k11;rw[AJD (by omega),this,APP,AKX,ANm (by simp),k11]
theorem o4{d:Al}:Xd w.2.1 w.2.2.2.2.2.1 w.2.2.2.2.2.2.2.2.2.2.1 d w.1 w.2.2.1 w.2.2.2.1 w.2.2.2.2.1 w.2.2.2.2.2.2.1 w.2.2.2.2.2.2.2.1 w.2.2.2.2.2.2.2.2.1 w.2.2.2.2.2.2.2.2.2.1=some (xd (RI w d.2.1)):=by
 have k:=h.nums;have k1:=k.c;have k2:=k.wr;have k3:=k.lost;have k4:=k.st;have cR:=k.lS;have jx:=k.J1;have lr:=k.jw;have k5:=k.era;have k6:=k.md;unfold Xd Yu RI;rw[GS w,IG (by omega) (by omega)];simp only[AD,Cq];by_cases h3:Ar w d.2.1=0
 rotate_left
 ·rw[AJD h3,AI9 h3];rfl
 obtain⟨hr,s1,s2,s3⟩:=h.Lv h3;rw[AI9 h3,AJD (show¬(Ar w d.2.1≠0)from fun hh=>hh h3),AI9 hr,Ur (by omega)];simp only[AD];have hp:=bK (n:=d.2.1) (l:=w.2.2.2.1);have:=AKi h (d:=d) (ss:=w.2.2.1.set d.2.1.toNat ([],[],0,())) (ls:=N9 d.2.1 w.2.2.2.1) (by omega) AX 0 (by omega) (ASJ (Ab (by omega)));simp_all
end
theorem eqE{x e:AJ}:(x.1==e.1&&(x.2.1==e.2.1&&(x.2.2.1==e.2.2.1&&(x.2.2.2.1==e.2.2.2.1&&true))))=decide (x=e):=by
 grind
theorem eJ{m:Az}{o:Int}{l:List AAN}(hl:l.length=m.2.2.2.2.2.1.length):EW (m.1,m.2.1,m.2.2.1,m.2.2.2.1,m.2.2.2.2.1,l,()) o=EW m o:=by
 grind[EW]
section
variable{w:AA} (h:RT w) {st:AL} (hs:gm st) {n:Int} (hn:0<=n/\n<(Aa w).1.length) {SS:List AL}
include h hs hn
theorem AHt{ws:List AR}{se:List Aj}{ms:List Az}{j B:Nat}{m:Az}{R:Option Bz}(hj:j<ms.length)(yV:ms.length<=2^20)(hlen:(ms.getD j Tu).2.2.2.2.2.1.length=m.2.2.2.2.2.1.length)(hm:ud (Aa w) m)
  (hc:(CS w.BJ m.2.1).contains n=true)
  (cont:∀f,B<=f->Bg f n ((j+1:Nat):Int) w.1 SS w.2.2.2.1 w.2.2.2.2.1 ws (ms.set j (m.1,m.2.1,m.2.2.1,m.2.2.2.1,m.2.2.2.2.1,FO m st n 1 m.2.2.2.2.2.1,())) w.2.2.2.2.2.2.2.2.1 se w.2.1 w.2.2.2.2.2.1 w.2.2.2.2.2.2.2.2.2.2.1 0 0 false [] [] [] [] [] [] [] [] st.1 st.2.1 st.2.2.1=R):
  ∀(rest dn:List AAN) (f:Nat),dn.length+rest.length=m.2.2.2.2.2.1.length->(∀l∈dn++rest,A_ (Aa w) l=true)->rest.length+B+1<=f->
   dn++FO m st n ((dn.length:Int)+1) rest=FO m st n 1 m.2.2.2.2.2.1->
   Bd f n (j:Int) ((dn.length:Int)+1) w.1 SS w.2.2.2.1 w.2.2.2.2.1 ws ms w.2.2.2.2.2.2.2.2.1 se w.2.1 w.2.2.2.2.2.1 w.2.2.2.2.2.2.2.2.2.2.1 0 0 false [] [] [] [] [] [] [] [] st.1 st.2.1 st.2.2.1 m.1 m.2.1 m.2.2.1 m.2.2.2.1 m.2.2.2.2.1 (dn++rest)=R:=by
 have k:=h.nums;have k1:=k.c;have k5:=k.era;have c1:(0:Int)<=(j:Int)/\(j:Int)<(ms.length:Int):=by omega
 have U0:(CS w.BJ m.2.1).length<=8:=Gm h;have vi:m.2.2.2.2.2.1.length<=60:=by
  have:=hm.n;have hb:=KO (l:=m.2.2.2.1);omega
 intro rest
 induction rest with
 |nil=>
  intro dn f hl ho hf he;obtain⟨f,rfl⟩:∃f',f=f'+1:=⟨f-1,by omega⟩;simp only[AKx,APL,APB,FO,AKX]at hl hf he;simp only[Bd,IW,AB,AKX];simp only[AI9 c1];rw[show ms.getD ((j:Int)).toNat (0,0,[],[],false,[],())=ms.getD j Tu from rfl,hlen,AJD (by omega),AH (by omega) (by omega),show((j:Int)+1)=((j+1:Nat):Int)by omega,he,AJT];simp_all
 |cons x rest ih=>
  intro dn f hl ho hf he;obtain⟨f,rfl⟩:∃f',f=f'+1:=⟨f-1,by omega⟩;simp only[AJq]at hl hf;simp only[Bd,IW,AB];simp only[AI9 c1];have an:ud (Aa w) (m.1,m.2.1,m.2.2.1,m.2.2.2.1,m.2.2.2.2.1,dn++x::rest,()):=⟨hm.cfg,hm.ep,hm.b,hm.sld,hm.zZ,hm.seen,ho,by
   have:=hm.n;simp_all⟩
  have hmw:=an.w;rw[show ms.getD ((j:Int)).toNat (0,0,[],[],false,[],())=ms.getD j Tu from rfl,hlen,AI9 (by omega),show(w.2.2.2.2.1,w.2.2.2.2.2.1,())=Cb w from rfl,HL (r:=Cb w) (by show Ae B_ w.2.2.2.2.1<=_;omega)];rw[show(Cb w).1=w.BJ from rfl];simp only[AD];rw[KX (by omega),hc];simp only[AD,AJy];have hdl:(dn++x::rest).length=m.2.2.2.2.2.1.length:=by simp_all
  rw[Zl (m:=(m.1,m.2.1,m.2.2.1,m.2.2.2.1,m.2.2.2.2.1,dn++x::rest,())) (by omega),eJ hdl];simp only[AD];have AW6:m.2.2.2.2.1=true:=by
   have:=hm.n;grind
  have AR8:∃e,EW m ((dn.length:Int)+1)=some e:=by
   unfold EW;rw[AW6,AI9 (by
    simp only[AKB,AJR,Ak,AJr];have:=hm.ep;omega)]
   split<;>exact⟨_,rfl⟩
  obtain⟨e,hee⟩:=AR8;have tY:=hs.w;rw[hee];simp only[AO4];rw[U6 (Ft (by omega)).1];simp only[AD,eqE,AB];rw[AH (by omega) (by omega)];simp only[FO]at he;have hmd:U_ m st ((dn.length:Int)+1)=(OV e.1 st.1==some e):=by
   unfold U_;rw[hee]
  cases hg:OV e.1 st.1 with
  |none=>
   simp only[AO8,AJQ];rw[hmd,hg]at he;have:=ih (dn++[x]) f (by grind) (by simp_all) (by omega) (by
    simp_all)
   simp_all
  |some y=>
   simp only[AO2,AJy,AO4];by_cases hye:y=e
   ·rw[AI9 hye]
    rw[hmd,hg,hye]at he;rw[show(w.1,w.2.1,())=Aa w from rfl,pS (c:=Aa w) (m:=(m.1,m.2.1,m.2.2.1,m.2.2.2.1,m.2.2.2.2.1,dn++x::rest,())) (by show w.1.length<=_;omega) (by omega) an.ein];have AGv:aF (Aa w) (m.1,m.2.1,m.2.2.1,m.2.2.2.1,m.2.2.2.2.1,dn++x::rest,()) ((dn.length:Int)+1) n=((m.1,m.2.1,m.2.2.1,m.2.2.2.1,m.2.2.2.2.1,dn++N9 n x::rest,()),true):=by
     unfold aF;rw[HA.2 an];have hq:(BD ((dn.length:Int)+1) 1 ((dn++x::rest).length:Int)&&BD n 0 (((Aa w).1.length:Int)-1))=true:=by
      rw[AJR,Ak,Ak];omega
     grind
    rw[AGv];simp only[AD,kH];have hx:=ho x (by simp);have:=ih (dn++[N9 n x]) f (by grind) (by
     intro l oS;simp only[AKK,APM,ALk,ALa]at oS;rcases oS with oS|rfl|oS
     all_goals grind[ML]) (by omega) (by
     simp_all)
    simp_all
   ·rw[AJD hye]
    have hf2:(some y==some e)=false:=by
     simp_all
    rw[hmd,hg,hf2]at he;have:=ih (dn++[x]) f (by grind) (by simp_all) (by omega) (by
     simp_all)
    simp_all
theorem AIM{ws:List AR}{se:List Aj}:∀(k i:Nat),w.2.2.2.2.2.2.2.1.length-i=k->i<=w.2.2.2.2.2.2.2.1.length-> ∀f,k*100+1<=f->
  Bg f n (i:Int) w.1 SS w.2.2.2.1 w.2.2.2.2.1 ws ((w.2.2.2.2.2.2.2.1.map (MC st w.BJ n)).take i++w.2.2.2.2.2.2.2.1.drop i) w.2.2.2.2.2.2.2.2.1 se w.2.1 w.2.2.2.2.2.1 w.2.2.2.2.2.2.2.2.2.2.1 0 0 false [] [] [] [] [] [] [] [] st.1 st.2.1 st.2.2.1=(some ((((),w.2.1,(),(),(),w.2.2.2.2.2.1,(),(),(),(),w.2.2.2.2.2.2.2.2.2.2.1,()),()),(w.1,SS,w.2.2.2.1,w.2.2.2.2.1,ws,(w.2.2.2.2.2.2.2.1.map (MC st w.BJ n)),w.2.2.2.2.2.2.2.2.1,se,())):Option Bz):=by
 have k:=h.nums;have k5:=k.era;have k6:=k.md;intro k
 induction k with
 |zero=>
  intro i hk hi f hf;obtain⟨f,rfl⟩:∃f',f=f'+1:=⟨f-1,by omega⟩;have:i=w.2.2.2.2.2.2.2.1.length:=by omega
  simp only[Bg,LG,AB];grind
 |succ k ih=>
  intro i hk hi f hf;obtain⟨f,rfl⟩:∃f',f=f'+1:=⟨f-1,by omega⟩;have D7:i<w.2.2.2.2.2.2.2.1.length:=by omega
  have c1:(0:Int)<=(i:Int)/\(i:Int)<(w.2.2.2.2.2.2.2.1.length:Int):=by omega
  simp only[Bg,LG,AB];rw[Pb hi,AI9 c1.2,AI9 c1,AJT,M4 D7];have hm:=(h.Cd _ (AJ7 D7)).1;have vi:w.2.2.2.2.2.2.2.1[i].2.2.2.2.2.1.length<=60:=by
   have:=hm.n;have hb:=KO (l:=w.2.2.2.2.2.2.2.1[i].2.2.2.1);omega
  rcases AIn ((CS w.BJ w.2.2.2.2.2.2.2.1[i].2.1).contains n)with hc|hc
  ·have hT:MC st w.BJ n w.2.2.2.2.2.2.2.1[i]=(w.2.2.2.2.2.2.2.1[i].1,w.2.2.2.2.2.2.2.1[i].2.1,w.2.2.2.2.2.2.2.1[i].2.2.1,w.2.2.2.2.2.2.2.1[i].2.2.2.1,w.2.2.2.2.2.2.2.1[i].2.2.2.2.1,FO w.2.2.2.2.2.2.2.1[i] st n 1 w.2.2.2.2.2.2.2.1[i].2.2.2.2.2.1,()):=by
    unfold MC;simp_all
   have:=AHt h hs hn (SS:=SS) (ws:=ws) (se:=se) (ms:=(w.2.2.2.2.2.2.2.1.map (MC st w.BJ n)).take i++w.2.2.2.2.2.2.2.1.drop i) (j:=i) (B:=k*100+1) (m:=w.2.2.2.2.2.2.2.1[i]) (R:=(some ((((),w.2.1,(),(),(),w.2.2.2.2.2.1,(),(),(),(),w.2.2.2.2.2.2.2.2.2.2.1,()),()),(w.1,SS,w.2.2.2.1,w.2.2.2.2.1,ws,(w.2.2.2.2.2.2.2.1.map (MC st w.BJ n)),w.2.2.2.2.2.2.2.2.1,se,())):Option Bz)) (by simp_all) (by grind) (by simp_all) hm hc (fun f hf=>by
    grind[Qi]) w.2.2.2.2.2.2.2.1[i].2.2.2.2.2.1 [] f (by simp) (by simpa using hm.wrote) (by omega) (by simp)
   simp_all
  ·have hT:MC st w.BJ n w.2.2.2.2.2.2.2.1[i]=w.2.2.2.2.2.2.2.1[i]:=by
    unfold MC;simp_all
   obtain⟨f,rfl⟩:∃f',f=f'+1:=⟨f-1,by omega⟩;simp only[Bd,IW,AB];have U0:(CS w.BJ w.2.2.2.2.2.2.2.1[i].2.1).length<=8:=Gm h;rw[Pb hi];simp only[AI9 c1];rw[AJT,M4 D7,show(w.2.2.2.2.1,w.2.2.2.2.2.1,())=Cb w from rfl,HL (r:=Cb w) (by show Ae B_ w.2.2.2.2.1<=_;omega)];rw[show(Cb w).1=w.BJ from rfl];simp only[AD];rw[KX (by omega),hc,Qi D7 (show(w.2.2.2.2.2.2.2.1[i].1,w.2.2.2.2.2.2.2.1[i].2.1,w.2.2.2.2.2.2.2.1[i].2.2.1,w.2.2.2.2.2.2.2.1[i].2.2.2.1,w.2.2.2.2.2.2.2.1[i].2.2.2.2.1,w.2.2.2.2.2.2.2.1[i].2.2.2.2.2.1,())=MC st w.BJ n w.2.2.2.2.2.2.2.1[i]from hT.symm),AH (x:=(i:Int)+1) (by omega) (by omega),show((i:Int)+1)=((i+1:Nat):Int)by omega,ih (i+1) (by omega) (by omega) f (by omega)];simp_all
end
theorem nY{x y:BR}(hx:x.2.2.1=false):∀{dn rest:List BR},RV (dn++y::rest)<=RV (dn++x::rest)
 |[],rest=>by
  grind[RV]
 |a::dn,rest=>by
  have:=nY (y:=y) hx (dn:=dn) (rest:=rest);grind[RV]
section
variable{w:AA} (h:RT w) {st:AL} (hs:gm st) {n:Int} (hn:0<=n/\n<(Aa w).1.length) {SS:List AL}
include h hs hn
theorem AIv{ws:List AR}{se:List Aj}{j B:Nat}{ep x y:Int}{z:Bool}{old new:List BR}{R:Option Bz}(hj:j<2^20)(dC:se.length<=120)(hsp:∀s∈se,Aq s.1=true)(wu:new.length<=60)(hep:1<=ep/\ep<=30)
  (cont:∀f,B<=f->Bf f n ((j+1:Nat):Int) w.1 SS w.2.2.2.1 w.2.2.2.2.1 ws w.2.2.2.2.2.2.2.1 w.2.2.2.2.2.2.2.2.1 (se.map (SB true ep old new)) w.2.1 w.2.2.2.2.2.1 w.2.2.2.2.2.2.2.2.2.2.1 0 0 false [] [] [] [] [] [] [] [] st.1 st.2.1 st.2.2.1=R):
  ∀(k i:Nat),se.length-i=k->i<=se.length-> ∀f,k+B+1<=f->
   BF f n (j:Int) (i:Int) x y z w.1 SS w.2.2.2.1 w.2.2.2.2.1 ws w.2.2.2.2.2.2.2.1 w.2.2.2.2.2.2.2.2.1 ((se.map (SB true ep old new)).take i++se.drop i) w.2.1 w.2.2.2.2.2.1 w.2.2.2.2.2.2.2.2.2.2.1 0 0 false [] [] [] [] [] [] [] [] st.1 st.2.1 st.2.2.1 ep new=R:=by
 intro k
 induction k with
 |zero=>
  intro i hk hi f hf;obtain⟨f,rfl⟩:∃f',f=f'+1:=⟨f-1,by omega⟩;have:i=se.length:=by omega
  simp only[BF,K7,AB];rw[Pb hi,AJD (by omega),this,APP,AKX,ANm (by simp),AH (by omega) (by omega),show((j:Int)+1)=((j+1:Nat):Int)by omega];simp_all
 |succ k ih=>
  intro i hk hi f hf;obtain⟨f,rfl⟩:∃f',f=f'+1:=⟨f-1,by omega⟩;have D7:i<se.length:=by omega
  have c1:(0:Int)<=(i:Int)/\(i:Int)<(se.length:Int):=by omega
  have hp:=hsp _ (AJ7 D7);have hpf:=GA hp;have ih':=ih (i+1) (by omega) (by omega) f (by omega);simp only[BF,K7,AB,DL];rw[Pb hi,AI9 c1.2];simp only[AI9 c1];rw[AJT,M4 D7,D9 (Kh hp),Us (Kh hp),AH (x:=(i:Int)+1) (by omega) (by omega),show((i:Int)+1)=((i+1:Nat):Int)by omega];simp only[AD];have skip:SB true ep old new se[i]=se[i]->BF f n (j:Int) ((i+1:Nat):Int) x y z w.1 SS w.2.2.2.1 w.2.2.2.2.1 ws w.2.2.2.2.2.2.2.1 w.2.2.2.2.2.2.2.2.1 ((se.map (SB true ep old new)).take i++se.drop i) w.2.1 w.2.2.2.2.2.1 w.2.2.2.2.2.2.2.2.2.2.1 0 0 false [] [] [] [] [] [] [] [] st.1 st.2.1 st.2.2.1 ep new=R:=fun hm=>by
   grind[kX]
  by_cases he:AZ se[i].1=ep
  rotate_left
  ·rw[AJD he]
   grind[SB,AZ,beq_eq_false_iff_ne]
  rw[AI9 he];by_cases ho:Bl se[i].1<=(new.length:Int)
  rotate_left
  ·rw[AJD ho]
   refine skip ?_
   unfold SB GW;rw[show BD (Bl se[i].1) 1 (new.length:Int)=false by
    rw[APG];grind[Ak]]
   simp
  rw[AI9 ho,AH (x:=Bl se[i].1-1) (by omega) (by omega),AI9 (by omega)];have hd:GW new (Bl se[i].1)=(new.getD (Bl se[i].1-1).toNat MB).2.2.1:=by
   unfold GW;rw[Ak.2 ⟨hpf.2.1.1,ho⟩,AKB]
  have zx:(new.getD (Bl se[i].1-1).toNat ([],[],false,())).2.2.1=GW new (Bl se[i].1):=hd.symm;rw[zx];cases hdd:GW new (Bl se[i].1)with
  |false=>
   rw[AJQ];grind[SB]
  |true=>
   rw[AJy,Qi D7 (show(se[i].1,se[i].2.1,true,())=SB true ep old new se[i]by
    grind[SB])]
   omega
theorem AOr{ws:List AR}{se:List Aj}{j B:Nat}{ep x y:Int}{z:Bool}{l0:List BR}{R:Option Bz}(hj:j<ws.length)(yV:ws.length<=2^20)
  (cont:∀f,B<=f->BF f n (j:Int) 0 x y z w.1 SS w.2.2.2.1 w.2.2.2.2.1 (ws.set j (ep,BC (Aa w) st ep n 1 l0,())) w.2.2.2.2.2.2.2.1 w.2.2.2.2.2.2.2.2.1 se w.2.1 w.2.2.2.2.2.1 w.2.2.2.2.2.2.2.2.2.2.1 0 0 false [] [] [] [] [] [] [] [] st.1 st.2.1 st.2.2.1 ep (BC (Aa w) st ep n 1 l0)=R):
  ∀(rest dn:List BR) (f:Nat),dW (Aa w) (ep,dn++rest,())->rest.length+B+1<=f->
   dn++BC (Aa w) st ep n ((dn.length:Int)+1) rest=BC (Aa w) st ep n 1 l0->
   BE f n (j:Int) ((dn.length:Int)+1) x y z w.1 SS w.2.2.2.1 w.2.2.2.2.1 ws w.2.2.2.2.2.2.2.1 w.2.2.2.2.2.2.2.2.1 se w.2.1 w.2.2.2.2.2.1 w.2.2.2.2.2.2.2.2.2.2.1 0 0 false [] [] [] [] [] [] [] [] st.1 st.2.1 st.2.2.1 ep (dn++rest)=R:=by
 have k1:=h.nums.c;have tY:=hs.w;intro rest
 induction rest with
 |nil=>
  intro dn f hw hf he;obtain⟨f,rfl⟩:∃f',f=f'+1:=⟨f-1,by omega⟩;simp only[AKx,APB,BC,AKX]at hf he;simp only[BE,Me,AB,AKX];grind
 |cons a rest ih=>
  intro dn f hw hf he;obtain⟨f,rfl⟩:∃f',f=f'+1:=⟨f-1,by omega⟩;simp only[AJq]at hf;have hwe:1<=ep/\ep<=30:=hw.ep;have hwn:(dn++a::rest).length<=60:=hw.n;have hww:=hw.w;have hwl:=hwn;simp only[AKN,AJq]at hwl;simp only[BE,Me,AB,Ao,Cq];rw[AI9 (by grind),Mu (by omega) (by omega)];simp only[AD];rw[U6 (Ft (by omega)).1];simp only[AD];rw[AH (x:=(dn.length:Int)+1+1) (by omega) (by omega),AH (x:=(dn.length:Int)+1-1) (by omega) (by omega),AI9 (show(0:Int)<=(dn.length:Int)+1-1/\(dn.length:Int)+1-1<((dn++a::rest).length:Int)by grind)];have e1:((dn.length:Int)+1-1).toNat=dn.length:=by omega
  have e2:(dn++a::rest).getD dn.length ([],[],false,())=a:=by simp[List.getD]
  rw[e1,e2];simp only[BC]at he;have go:∀b:BR,dW (Aa w) (ep,dn++b::rest,())->(if(!a.2.2.1&&MK st (Gv ep ((dn.length:Int)+1)))=true then Fh (Aa w) n a else a)=b->
    BE f n (j:Int) ((dn.length:Int)+1+1) x y z w.1 SS w.2.2.2.1 w.2.2.2.2.1 ws w.2.2.2.2.2.2.2.1 w.2.2.2.2.2.2.2.2.1 se w.2.1 w.2.2.2.2.2.1 w.2.2.2.2.2.2.2.2.2.2.1 0 0 false [] [] [] [] [] [] [] [] st.1 st.2.1 st.2.2.1 ep (dn++b::rest)=R:=fun b hb ug=>by
   rw[ug]at he;have:=ih (dn++[b]) f (by simp_all) (by omega) (by
    simp_all)
   simp_all
  cases hg:OV (Gv ep ((dn.length:Int)+1)) st.1 with
  |none=>
   simp only[AO8,AJQ];grind[MK]
  |some e=>
   simp only[AO2,AJy,AO4];by_cases he0:e.2.1=0
   rotate_left
   ·rw[AJD he0]
    grind[MK]
   rw[AI9 he0];cases had:a.2.2.1 with
   |true=>
    grind
   |false=>
    rw[AJQ];have ha:=hw.words a (by simp);have hb:dW (Aa w) (ep,dn++Fh (Aa w) n a::rest,()):=⟨hw.cfg,hw.ep,by simp_all,fun b hb=>by
     simp only[ALk,ALa]at hb;rcases hb with hb|rfl|hb
     ·exact hw.words b (by simp[hb])
     ·exact⟨ha.1,ML ha.2.1 hn,rfl⟩
     ·exact hw.words b (by simp[hb]),AOT (nY had) hw.opn⟩
    rw[show(w.1,w.2.1,())=Aa w from rfl,km (c:=Aa w) (w:=(ep,dn++a::rest,())) (by show w.1.length<=_;omega) (by have:An (ep,dn++a::rest,())=Ae BQ (dn++a::rest):=rfl;grind)];have AGv:Ro (Aa w) (ep,dn++a::rest,()) ((dn.length:Int)+1) n=((ep,dn++Fh (Aa w) n a::rest,()),true):=by
     unfold Ro;rw[HW.2 hw];simp only[AJX,AJn,AMd];rw[e1,show(dn++a::rest).getD dn.length MB=a from e2,had];rw[AI9 (by
      rw[AJR,AJR,Ak,Ak];grind)]
     simp_all
    grind[AD,pkW,MK]
theorem ANC:∀(rest pre:List AR) (se:List Aj) (f:Nat),(pre++rest).length<=4->(∀x∈rest,dW (Aa w) x)->se.length<=120->(∀s∈se,Aq s.1=true)->rest.length*300+w.2.2.2.2.2.2.2.1.length*100+2<=f->
  Bf f n (pre.length:Int) w.1 SS w.2.2.2.1 w.2.2.2.2.1 (pre++rest) w.2.2.2.2.2.2.2.1 w.2.2.2.2.2.2.2.2.1 se w.2.1 w.2.2.2.2.2.1 w.2.2.2.2.2.2.2.2.2.2.1 0 0 false [] [] [] [] [] [] [] [] st.1 st.2.1 st.2.2.1=(some ((((),w.2.1,(),(),(),w.2.2.2.2.2.1,(),(),(),(),w.2.2.2.2.2.2.2.2.2.2.1,()),()),(w.1,SS,w.2.2.2.1,w.2.2.2.2.1,(pre++(E6 true (Aa w) st w.BJ n rest se).1),(w.2.2.2.2.2.2.2.1.map (MC st w.BJ n)),w.2.2.2.2.2.2.2.2.1,(E6 true (Aa w) st w.BJ n rest se).2,())):Option Bz):=by
 have k5:=h.nums.era;intro rest
 induction rest with
 |nil=>
  intro pre se f hl hw dC hsp hf;obtain⟨f,rfl⟩:∃f',f=f'+1:=⟨f-1,by omega⟩;simp only[Bf,MY,AB];have:=AIM h hs hn (SS:=SS) (ws:=pre) (se:=se) w.2.2.2.2.2.2.2.1.length 0 (by omega) (by omega) f (by omega);rw[show((0:Nat):Int)=0 from rfl,AOn,ATh,AOi]at this;rw[AKX,AJD (by omega),this];simp only[E6,AKX]
 |cons a rest ih=>
  intro pre se f hl hw dC hsp hf;simp only[AKN,AJq]at hl hf;obtain⟨f,rfl⟩:∃f',f=f'+1:=⟨f-1,by omega⟩;simp only[Bf,MY,AB,Ao];have xp:(pre++a::rest).length=pre.length+(rest.length+1):=by simp
  have c1:(0:Int)<=(pre.length:Int)/\(pre.length:Int)<((pre++a::rest).length:Int):=by omega
  have e2:(pre++a::rest).getD pre.length (0,[],())=a:=by simp[List.getD]
  have U0:(CS w.BJ a.1).length<=8:=Gm h;rw[AI9 c1.2,AI9 c1,AJT,e2,show(w.2.2.2.2.1,w.2.2.2.2.2.1,())=Cb w from rfl,HL (r:=Cb w) (by show Ae B_ w.2.2.2.2.1<=_;omega)];rw[show(Cb w).1=w.BJ from rfl];simp only[AD];rw[KX (by omega),AH (by omega) (by omega),show((pre.length:Int)+1)=((pre.length+1:Nat):Int)by omega];simp only[AD];have ha:=hw a (by simp);have hae:=ha.ep;have han:=ha.n;have next:∀(b:AR) (qM:List Aj) (f:Nat),qM.length<=120->(∀s∈qM,Aq s.1=true)->rest.length*300+w.2.2.2.2.2.2.2.1.length*100+2<=f->
    Bf f n ((pre.length+1:Nat):Int) w.1 SS w.2.2.2.1 w.2.2.2.2.1 (pre++b::rest) w.2.2.2.2.2.2.2.1 w.2.2.2.2.2.2.2.2.1 qM w.2.1 w.2.2.2.2.2.1 w.2.2.2.2.2.2.2.2.2.2.1 0 0 false [] [] [] [] [] [] [] [] st.1 st.2.1 st.2.2.1=(some ((((),w.2.1,(),(),(),w.2.2.2.2.2.1,(),(),(),(),w.2.2.2.2.2.2.2.2.2.2.1,()),()),(w.1,SS,w.2.2.2.1,w.2.2.2.2.1,(pre++b::(E6 true (Aa w) st w.BJ n rest qM).1),(w.2.2.2.2.2.2.2.1.map (MC st w.BJ n)),w.2.2.2.2.2.2.2.2.1,(E6 true (Aa w) st w.BJ n rest qM).2,())):Option Bz):=fun b qM f h1 h2 h3=>by
   have:=ih (pre++[b]) qM f (by simp only[AKN,AJq,AKx];omega) (fun x hx=>hw x (by simp[hx])) h1 h2 h3;simp only[AKN,AJq,AKx,AKK,APM]at this;exact this
  simp only[E6];rcases AIn (LV st w.BJ n a)with ht|ht
  rotate_left
  ·rw[ht]
   simp only[AJn,AMd];unfold LV at ht;rcases AIn ((CS w.BJ a.1).contains n)with hc|hc
   ·rw[hc,AKB,AP5]at ht
    rw[hc,AJy,AI9 (by omega)];exact next a se f dC hsp (by omega)
   ·rw[hc,AJQ]
    exact next a se f dC hsp (by omega)
  ·rw[ht]
   simp only[AOx];unfold LV at ht;rw[AJR,AJr]at ht;rw[ht.1,AJy,AJD (by omega)];have htl:=(c_ (s:=st) (ep:=a.1) hn (o:=1) ha.words).2.2;have hsm:∀s∈se.map (SB true a.1 a.2.1 (BC (Aa w) st a.1 n 1 a.2.1)),Aq s.1=true:=fun s hs' =>by
    obtain⟨s',h1,rfl⟩:=APC.1 hs';exact hsp s' h1
   have:=AOr h hs hn (SS:=SS) (ws:=pre++a::rest) (se:=se) (j:=pre.length) (B:=rest.length*300+w.2.2.2.2.2.2.2.1.length*100+2+130) (ep:=a.1) (x:=st.2.2.1) (y:=a.1) (z:=decide (st.2.2.1>=a.1)) (l0:=a.2.1) (R:=(some ((((),w.2.1,(),(),(),w.2.2.2.2.2.1,(),(),(),(),w.2.2.2.2.2.2.2.2.2.2.1,()),()),(w.1,SS,w.2.2.2.1,w.2.2.2.2.1,(pre++(a.1,BC (Aa w) st a.1 n 1 a.2.1,())::(E6 true (Aa w) st w.BJ n rest (se.map (SB true a.1 a.2.1 (BC (Aa w) st a.1 n 1 a.2.1)))).1),(w.2.2.2.2.2.2.2.1.map (MC st w.BJ n)),w.2.2.2.2.2.2.2.2.1,(E6 true (Aa w) st w.BJ n rest (se.map (SB true a.1 a.2.1 (BC (Aa w) st a.1 n 1 a.2.1)))).2,())):Option Bz)) (by omega) (by omega) (fun f hf=>by
    have:=AIv h hs hn (SS:=SS) (ws:=(pre++a::rest).set pre.length (a.1,BC (Aa w) st a.1 n 1 a.2.1,())) (se:=se) (j:=pre.length) (B:=rest.length*300+w.2.2.2.2.2.2.2.1.length*100+2) (ep:=a.1) (x:=st.2.2.1) (y:=a.1) (z:=decide (st.2.2.1>=a.1)) (old:=a.2.1) (new:=BC (Aa w) st a.1 n 1 a.2.1) (R:=(some ((((),w.2.1,(),(),(),w.2.2.2.2.2.1,(),(),(),(),w.2.2.2.2.2.2.2.2.2.2.1,()),()),(w.1,SS,w.2.2.2.1,w.2.2.2.2.1,(pre++(a.1,BC (Aa w) st a.1 n 1 a.2.1,())::(E6 true (Aa w) st w.BJ n rest (se.map (SB true a.1 a.2.1 (BC (Aa w) st a.1 n 1 a.2.1)))).1),(w.2.2.2.2.2.2.2.1.map (MC st w.BJ n)),w.2.2.2.2.2.2.2.2.1,(E6 true (Aa w) st w.BJ n rest (se.map (SB true a.1 a.2.1 (BC (Aa w) st a.1 n 1 a.2.1)))).2,())):Option Bz)) (by omega) dC hsp (by omega) hae (fun f hf=>by
     rw[ATU _ _ (by omega),ATT,ATK];exact next _ _ f (by simpa using dC) hsm hf) se.length 0 (by omega) (by omega) f (by omega)
    rw[show((0:Nat):Int)=0 from rfl,AOn,ATh,AOi]at this;exact this) a.2.1 [] f (by simpa using ha) (by omega) (by simp)
   simp only[AKx,AOi]at this;exact this
end
section
variable{w:AA} (h:RT w)
include h
theorem pZ{d:Al}:Xm w.2.1 w.2.2.2.2.2.1 w.2.2.2.2.2.2.2.2.2.2.1 d w.1 w.2.2.1 w.2.2.2.1 w.2.2.2.2.1 w.2.2.2.2.2.2.1 w.2.2.2.2.2.2.2.1 w.2.2.2.2.2.2.2.2.1 w.2.2.2.2.2.2.2.2.2.1=some (pkD (Pz true w d.2.1)):=by
 have k:=h.nums;have k1:=k.c;have k2:=k.wr;have k3:=k.lost;have k4:=k.st;have cR:=k.lS;have jx:=k.J1;have lr:=k.jw;have k6:=k.md;unfold Xm Pz;rw[GS w,IG (by omega) (by omega)];simp only[AD,Cq,Ao];by_cases h3:Ar w d.2.1=0
 rotate_left
 ·rw[AJD h3,AI9 h3];rfl
 obtain⟨hr,s1,s2,s3⟩:=h.Lv h3;have dC:w.2.2.1.getD d.2.1.toNat ([],[],0,())=storeAt w d.2.1:=rfl;rw[AI9 h3,AJD (show¬(Ar w d.2.1≠0)from fun hh=>hh h3)];simp only[AI9 hr,dC];rw[show((storeAt w d.2.1).1,(storeAt w d.2.1).2.1,(storeAt w d.2.1).2.2.1,())=storeAt w d.2.1 from rfl,Zf s1 s2];simp only[AD,oC];rcases AIn (Ct (storeAt w d.2.1)).2 with h6|h6
 rotate_left
 ·rw[h6];rfl
 have hq:=(QD h6).2.1;have hnn:=(h.node h3).1;rw[h6,AJy,Fq];have IQ:d.2.1.toNat<w.2.2.1.length:=by omega
 unfold Xl RD;rw[ARG,AI9 hr,NB IQ];have:=ANC h (st:=(Ct (storeAt w d.2.1)).1) hq hnn (SS:=w.2.2.1.set d.2.1.toNat (Ct (storeAt w d.2.1)).1) w.2.2.2.2.2.2.1 [] w.2.2.2.2.2.2.2.2.2.1 AX (by simp_all) (fun x hx=>(h.AK x hx).1) k.se (fun s hs=>(h.CF s hs).1) (ASJ (Ab (by omega)));simp only[AKx,AOi]at this;rw[show((0:Nat):Int)=0 from rfl]at this;rw[show((Ct (storeAt w d.2.1)).1.1,(Ct (storeAt w d.2.1)).1.2.1,(Ct (storeAt w d.2.1)).1.2.2.1,())=(Ct (storeAt w d.2.1)).1 from rfl,this];rfl
end
section
variable{w:AA} (h:RT w)
include h
theorem tp{d:Al}(h64:CN d.2.1)(hd:d.2.2.2.2.1.length<=40)(hk:1<=d.1/\d.1<=16):∃w',cW w.2.1 w.2.2.2.2.2.1 w.2.2.2.2.2.2.2.2.2.2.1 d w.1 w.2.2.1 w.2.2.2.1 w.2.2.2.2.1 w.2.2.2.2.2.2.1 w.2.2.2.2.2.2.2.1 w.2.2.2.2.2.2.2.2.1 w.2.2.2.2.2.2.2.2.2.1=some (ANs (w',(K3 true w d).2))/\((K3 true w d).2=0->w' =(K3 true w d).1):=by
 have k:=h.nums;have k1:=k.c;have k5:=k.era;unfold cW K3;rw[td d];simp only[DL];by_cases c1:d.1=1
 ·simp only[AI9 c1]
  rw[p7 h];exact⟨_,rfl,fun _=>rfl⟩
 by_cases c2:d.1=2
 ·simp only[AJD (show¬d.1=1 by omega),AI9 c2]
  obtain⟨w',e1,e2⟩:=rL h (d:=d) hd;rw[e1];exact⟨w',rfl,e2⟩
 by_cases c3:d.1=3
 ·simp only[AJD (show¬d.1=1 by omega),AJD (show¬d.1=2 by omega),AI9 c3]
  rw[mr h];exact⟨_,rfl,fun _=>rfl⟩
 by_cases c4:d.1=4
 ·simp only[AJD (show¬d.1=1 by omega),AJD (show¬d.1=2 by omega),AJD (show¬d.1=3 by omega),AI9 c4]
  rw[pZ h];exact⟨_,rfl,fun _=>rfl⟩
 by_cases c6:d.1=6
 ·simp only[AJD (show¬d.1=1 by omega),AJD (show¬d.1=2 by omega),AJD (show¬d.1=3 by omega),AJD (show¬d.1=4 by omega),AJD (show¬d.1=5 by omega),AI9 c6]
  rw[o4 h];exact⟨_,rfl,fun _=>rfl⟩
 by_cases c7:d.1=7
 ·simp only[AJD (show¬d.1=1 by omega),AJD (show¬d.1=2 by omega),AJD (show¬d.1=3 by omega),AJD (show¬d.1=4 by omega),AJD (show¬d.1=5 by omega),AJD (show¬d.1=6 by omega),AI9 c7]
  rw[qC h];exact⟨_,rfl,fun _=>rfl⟩
 by_cases c8:d.1=8
 ·simp only[AJD (show¬d.1=1 by omega),AJD (show¬d.1=2 by omega),AJD (show¬d.1=3 by omega),AJD (show¬d.1=4 by omega),AJD (show¬d.1=5 by omega),AJD (show¬d.1=6 by omega),AJD (show¬d.1=7 by omega),AI9 c8]
  rw[pY h];exact⟨_,rfl,fun _=>rfl⟩
 by_cases c9:d.1=9
 ·simp only[AJD (show¬d.1=1 by omega),AJD (show¬d.1=2 by omega),AJD (show¬d.1=3 by omega),AJD (show¬d.1=4 by omega),AJD (show¬d.1=5 by omega),AJD (show¬d.1=6 by omega),AJD (show¬d.1=7 by omega),AJD (show¬d.1=8 by omega),AI9 c9]
  rw[qB h];exact⟨_,rfl,fun _=>rfl⟩
 by_cases c10:d.1=10
 ·simp only[AJD (show¬d.1=1 by omega),AJD (show¬d.1=2 by omega),AJD (show¬d.1=3 by omega),AJD (show¬d.1=4 by omega),AJD (show¬d.1=5 by omega),AJD (show¬d.1=6 by omega),AJD (show¬d.1=7 by omega),AJD (show¬d.1=8 by omega),AJD (show¬d.1=9 by omega),AI9 c10]
  rw[pj h];exact⟨_,rfl,fun _=>rfl⟩
 by_cases c11:d.1=11
 ·simp only[AJD (show¬d.1=1 by omega),AJD (show¬d.1=2 by omega),AJD (show¬d.1=3 by omega),AJD (show¬d.1=4 by omega),AJD (show¬d.1=5 by omega),AJD (show¬d.1=6 by omega),AJD (show¬d.1=7 by omega),AJD (show¬d.1=8 by omega),AJD (show¬d.1=9 by omega),AJD (show¬d.1=10 by omega),AI9 c11]
  rw[sG h];exact⟨_,rfl,fun _=>rfl⟩
 by_cases c12:d.1=12
 ·simp only[AJD (show¬d.1=1 by omega),AJD (show¬d.1=2 by omega),AJD (show¬d.1=3 by omega),AJD (show¬d.1=4 by omega),AJD (show¬d.1=5 by omega),AJD (show¬d.1=6 by omega),AJD (show¬d.1=7 by omega),AJD (show¬d.1=8 by omega),AJD (show¬d.1=9 by omega),AJD (show¬d.1=10 by omega),AJD (show¬d.1=11 by omega),AI9 c12]
  rw[mO h];exact⟨_,rfl,fun _=>rfl⟩
 by_cases zb:d.1=13
 ·simp only[AJD (show¬d.1=1 by omega),AJD (show¬d.1=2 by omega),AJD (show¬d.1=3 by omega),AJD (show¬d.1=4 by omega),AJD (show¬d.1=5 by omega),AJD (show¬d.1=6 by omega),AJD (show¬d.1=7 by omega),AJD (show¬d.1=8 by omega),AJD (show¬d.1=9 by omega),AJD (show¬d.1=10 by omega),AJD (show¬d.1=11 by omega),AJD (show¬d.1=12 by omega),AI9 zb]
  rw[show(w.1,w.2.1,())=Aa w from rfl,show(w.2.2.2.2.1,w.2.2.2.2.2.1,())=Cb w from rfl,p8 (c:=Aa w) (r:=Cb w) (by show w.1.length<=_;omega) (by show Ae B_ w.2.2.2.2.1<=_;omega) k.trim h64];simp only[AD,pkR,Ao,Wd];rcases AIn (Pm (Aa w) (Cb w) d.2.1).2 with hq|hq
  ·rw[hq];exact⟨_,rfl,fun _=>rfl⟩
  ·rw[hq];exact⟨w,rfl,fun _=>rfl⟩
 by_cases c14:d.1=14
 ·simp only[AJD (show¬d.1=1 by omega),AJD (show¬d.1=2 by omega),AJD (show¬d.1=3 by omega),AJD (show¬d.1=4 by omega),AJD (show¬d.1=5 by omega),AJD (show¬d.1=6 by omega),AJD (show¬d.1=7 by omega),AJD (show¬d.1=8 by omega),AJD (show¬d.1=9 by omega),AJD (show¬d.1=10 by omega),AJD (show¬d.1=11 by omega),AJD (show¬d.1=12 by omega),AJD (show¬d.1=13 by omega),AI9 c14]
  rw[pn h];exact⟨_,rfl,fun _=>rfl⟩
 by_cases c15:d.1=15
 ·simp only[AJD (show¬d.1=1 by omega),AJD (show¬d.1=2 by omega),AJD (show¬d.1=3 by omega),AJD (show¬d.1=4 by omega),AJD (show¬d.1=5 by omega),AJD (show¬d.1=6 by omega),AJD (show¬d.1=7 by omega),AJD (show¬d.1=8 by omega),AJD (show¬d.1=9 by omega),AJD (show¬d.1=10 by omega),AJD (show¬d.1=11 by omega),AJD (show¬d.1=12 by omega),AJD (show¬d.1=13 by omega),AJD (show¬d.1=14 by omega),AI9 c15]
  rw[qD h];exact⟨_,rfl,fun _=>rfl⟩
 simp only[AJD c1,AJD c2,AJD c3,AJD c4,AJD c6,AJD c7,AJD c8,AJD c9,AJD c10,AJD c11,AJD c12,AJD zb,AJD c14,AJD c15];rw[ng h];by_cases c5:d.1=5
 ·rw[AI9 c5,AJD (by omega)]
  exact⟨_,rfl,fun _=>rfl⟩
 ·rw[AJD c5,AI9 (by omega)]
  exact⟨_,rfl,fun _=>rfl⟩
end
theorem gW{w:AA}{n:Int}{q:AL×Bool}(e:(putAt w n q).2≠0):(putAt w n q).1=w:=by
 unfold putAt at*;grind
theorem s5{all:Bool}{w:AA}{d:Al}(e:(K3 all w d).2≠0):(K3 all w d).1=w:=by
 unfold K3 at*;by_cases c:d.1=1
 ·rw[AI9 c]at e|-
  clear c
  revert e
  unfold QA;grind
 rw[AJD c]at e|-;clear c;by_cases c:d.1=2
 ·rw[AI9 c]at e|-
  clear c
  revert e
  unfold doAdd;grind
 rw[AJD c]at e|-;clear c;by_cases c:d.1=3
 ·rw[AI9 c]at e|-
  clear c
  revert e
  unfold Nd
  try dsimp only
  repeat' split
  all_goals first|(intro e;exact absurd rfl e)|(intro e;rfl)|grind[gW]
 rw[AJD c]at e|-;clear c;by_cases c:d.1=4
 ·rw[AI9 c]at e|-
  clear c
  revert e
  unfold Pz;grind
 rw[AJD c]at e|-;clear c;by_cases c:d.1=5
 ·rw[AI9 c]at e|-
  clear c
  revert e
  unfold Ns
  try dsimp only
  repeat' split
  all_goals first|(intro e;exact absurd rfl e)|(intro e;rfl)|grind[gW]
 rw[AJD c]at e|-;clear c;by_cases c:d.1=6
 ·rw[AI9 c]at e|-
  clear c
  revert e
  unfold RI;grind
 rw[AJD c]at e|-;clear c;by_cases c:d.1=7
 ·rw[AI9 c]at e|-
  clear c
  revert e
  unfold Sa;grind
 rw[AJD c]at e|-;clear c;by_cases c:d.1=8
 ·rw[AI9 c]at e|-
  clear c
  revert e
  unfold S3;grind
 rw[AJD c]at e|-;clear c;by_cases c:d.1=9
 ·rw[AI9 c]at e|-
  clear c
  revert e
  unfold Tc;grind
 rw[AJD c]at e|-;clear c;by_cases c:d.1=10
 ·rw[AI9 c]at e|-
  clear c
  revert e
  unfold Tf;grind
 rw[AJD c]at e|-;clear c;by_cases c:d.1=11
 ·rw[AI9 c]at e|-
  clear c
  revert e
  unfold ZX
  try dsimp only
  repeat' split
  all_goals first|(intro e;exact absurd rfl e)|(intro e;rfl)|grind[gW]
 rw[AJD c]at e|-;clear c;by_cases c:d.1=12
 ·rw[AI9 c]at e|-
  clear c
  revert e
  unfold Nn;grind
 rw[AJD c]at e|-;clear c;by_cases c:d.1=13
 ·rw[AI9 c]at e|-
  clear c
  revert e
  unfold Wd;grind
 rw[AJD c]at e|-;clear c;by_cases c:d.1=14
 ·rw[AI9 c]at e|-
  clear c
  revert e
  unfold Lt;grind
 rw[AJD c]at e|-;clear c;by_cases c:d.1=15
 ·rw[AI9 c]at e|-
  clear c
  revert e
  unfold Ul;grind
 rw[AJD c]at e|-;clear c;unfold Nq at*;split at e
 ·simp_all
 ·rename_i h1;rw[AJD h1];exact gW e
theorem pE{w:AA}{d:Al}(h:lq w)(h64:CN d.2.1):SU w d=some (pkD (FH true w d)):=by
 unfold SU FH;rw[GS w,td d,IP h,gH,dr h];simp only[AD,Ao,Cq];rcases AIn (C9 w)with hw|hw
 rotate_left
 ·rw[hw];rfl
 rcases AIn (GD d)with hd|hd
 rotate_left
 ·rw[hw,hd];rfl
 have hk:1<=d.1/\d.1<=16:=by
  unfold GD at hd;exact Ak.1 (AJR _ _▸hd).1
 rw[hw,hd,AJy,AJy];obtain⟨w',e1,e2⟩:=tp (Kc.1 hw) h64 (ir hd) hk;rw[e1];simp only[AD,AJX,ATY,AJn,AMd];by_cases hc:(K3 true w d).2=0
 ·rw[e2 hc]
  rw[AI9 (show(ANs ((K3 true w d).1,(K3 true w d).2)).1.1.2.1=0 from hc)];rfl
 ·rw[AJD (show¬(ANs (w',(K3 true w d).2)).1.1.2.1=0 from hc)]
  have:=s5 hc;rw[show K3 true w d=(w,(K3 true w d).2)by grind];rfl
theorem AHe{x:Int}(h: -1000<=x/\x<=1000):CN x:=by unfold CN;omega
section
variable{code:AAN} (hc:code.length<=2^30) {w:AA} (h:RT w)
include hc h
end
theorem nZ{s:AAN}{p:Int}:∀{l:List BG} {b:Option AJ},(∀x,b=some x->Fg x=true)-> ∀x,Ij s p b l=some x->Fg x=true
 |[],b,hb,x,h=>hb x h
 |a::l,b,hb,x,h=>by
  simp only[Ij]at h;split at h
  ·rename_i hc
   simp only[AJR]at hc;refine nZ (l:=l) ?_ x h
   intro z hz;split at hz
   ·rename_i z' hz'
    unfold better at hz;grind
   simp_all
  ·exact nZ (l:=l) hb x h
theorem DU{w:AA}{n:Int}{q:AL×Bool}:(putAt w n q).1.Ag=w.Ag:=by
 grind[putAt]
theorem uL{c:CK}{g:AN}{sure:Int}{r:Ac}{l:List BG}(h:∀e∈r.2.2.1,CN e.2.1)(h0:(DH c g sure r l).2=0):∀e∈(DH c g sure r l).1.2.2.1,CN e.2.1:=by
 have app:∀(ev:Av),CN ev.2.1-> ∀e∈r.2.2.1++[ev],CN e.2.1:=fun ev hev e he=>by
  grind
 have hf:∀p b,(UF p b).2.1=p:=fun p b=>by
  cases b with
  |none=>rfl
  |some x=>grind[UF]
 revert h0
 unfold DH;dsimp only;split
 ·omega
 rename_i DX;have AR1:OO c g=true/\SK r=true:=by
  simp_all
 have hrg:=(KC.1 AR1.1).tin;have ZN:=Ue.1 AR1.2;have hre:=ZN.ep;have hro:=ZN.off;split
 ·omega
 split
 ·grind
 split
 ·grind[AHe]
 split
 ·omega
 split
 ·omega
 intro _;refine app _ ?_
 grind[CN,Gv]
theorem AET{w:AA}{a k:Int}(h:pg w):pg (Lt w a k).1:=by
 unfold Lt;split
 ·omega
 dsimp only;split
 ·omega
 rename_i h2;intro r hr;rcases APm hr with hr|rfl
 ·exact h r hr
 ·refine uL ?_ (by omega)
  by_cases hl:a.toNat<w.Ag.length
  ·exact h _ (Bh hl)
  simp_all
theorem Fm{w w':AA}(h:pg w)(e:w'.Ag=w.Ag):pg w':=by
 unfold pg;rw[show w'.2.2.2.2.2.2.2.2.1=w.2.2.2.2.2.2.2.2.1 from e];exact h
theorem AIQ{all:Bool}{w:AA}{d:Al}(h:pg w):pg (K3 all w d).1:=by
 unfold K3;by_cases c:d.1=1
 ·rw[AI9 c]
  grind[Fm,QA,DU]
 rw[AJD c];clear c;by_cases c:d.1=2
 ·rw[AI9 c]
  grind[Fm,doAdd,DU]
 rw[AJD c];clear c;by_cases c:d.1=3
 ·rw[AI9 c]
  grind[Fm,Nd,DU]
 rw[AJD c];clear c;by_cases c:d.1=4
 ·rw[AI9 c]
  grind[Fm,Pz,DU]
 rw[AJD c];clear c;by_cases c:d.1=5
 ·rw[AI9 c]
  grind[Fm,Ns,DU]
 rw[AJD c];clear c;by_cases c:d.1=6
 ·rw[AI9 c]
  grind[Fm,RI,DU]
 rw[AJD c];clear c;by_cases c:d.1=7
 ·rw[AI9 c]
  grind[Fm,Sa,DU]
 rw[AJD c];clear c;by_cases c:d.1=8
 ·rw[AI9 c]
  grind[Fm,S3,DU]
 rw[AJD c];clear c;by_cases c:d.1=9
 ·rw[AI9 c]
  grind[Fm,Tc,DU]
 rw[AJD c];clear c;by_cases c:d.1=10
 ·rw[AI9 c]
  grind[Fm,Tf,DU]
 rw[AJD c];clear c;by_cases c:d.1=11
 ·rw[AI9 c]
  grind[Fm,ZX,DU]
 rw[AJD c];clear c;by_cases c:d.1=12
 ·rw[AI9 c]
  grind[Fm,Nn,DU]
 rw[AJD c];clear c;by_cases c:d.1=13
 ·rw[AI9 c]
  grind[Fm,Wd,DU]
 rw[AJD c];clear c;by_cases c:d.1=14
 ·rw[AI9 c];exact AET h
 rw[AJD c];clear c;by_cases c:d.1=15
 ·rw[AI9 c]
  grind[Fm,Ul,DU]
 rw[AJD c];grind[Fm,Nq,DU]
theorem xr{c:CK}:pg (JT c):=fun r hr=>by
 have:r=(1,1,[],()):=by
  have hr':r∈([(1,1,[],()),(1,1,[],())]:List Ac):=hr;simp_all
 simp_all
theorem og{c:CK}(hc:Ee c=true):RT (JT c)/\RdS (JT c):=by
 refine⟨⟨hc,by simp[JT,H.AA.BZ],fJ hc,.inr holds_nil,fun i hi=> ?_,⟨hc,by show 0<=30;omega,.inl rfl,fun e he=>(by cases he),fun i hi=>by exact absurd hi (by show¬i<0;omega)⟩,by show 0<=4;omega,by show 0<=1;omega,fun x hx=>(by cases hx),List.Pairwise.nil,fun x hx=>(by cases hx),rfl,fun r hr=> ?_,by show 0<=120;omega,fun x hx=>(by cases hx),List.Pairwise.nil⟩,fun r hr=> ?_⟩
 ·have:(JT c).BZ.getD i Dm=Dm:=by
   show(List.replicate c.1.length Dm).getD i Dm=Dm
   grind
  rw[this];exact⟨gm.nil,fun _=>rfl⟩
 ·have:r=(1,1,[],()):=by
   have hr':r∈([(1,1,[],()),(1,1,[],())]:List Ac):=hr;simp_all
  subst this;exact⟨by omega,by simp_all,by simp_all⟩
 ·have:r=(1,1,[],()):=by
   have hr':r∈([(1,1,[],()),(1,1,[],())]:List Ac):=hr;simp_all
  simp_all
theorem l9{c:CK}(hc:Ee c=true):HV c=some (((((),c.2.1,(),(),(),0,(),(),(),(),false,()),true,()),()),(c.1,List.replicate c.1.length Dm,[],[],[],[],[(1,1,[],()),(1,1,[],())],[],())):=by
 have hl:=(HJ hc).2.1;unfold HV;rw[show(c.1,c.2.1,())=c from rfl,Fz (by omega),hc];simp only[AD,AJX,AJQ];rw[AI9 (by rw[Ap];omega),AI9 ⟨by omega,by omega,by rw[Ap];omega⟩];rfl
section
variable{code:AAN} (hc:code.length<=2^30)
include hc
end
theorem za{w:AA}(h:lq w)(hev:pg w):VM w=some ((Og w&&(Rq w&&(Rc w&&(PG w&&Uj w))),()),()):=by
 unfold VM;rw[GS w,jK h,j6 h,kc h,jA h,kv h hev];grind
theorem Dj{l:AAN}(h:l.length<=2^30):DD l=some (((),()),(l,())):=by
 unfold DD;rw[AI9 (by rw[Ap];omega)]
theorem W5{l:List AJ}(h:l.length<=2^30):I_ l=some (((),()),(l,())):=by
 unfold I_;rw[AI9 (by rw[Ap];omega)]
theorem ZB{r:Ac}(h:r.2.2.1.length<=2^30):Mz r=some (((r.1,r.2.1,(),()),()),(r.2.2.1,())):=by
 unfold Mz;rw[AI9 (by rw[Ap];omega)]
theorem Q_{c:CK}(h:c.1.length<=2^30):IK c=some ((((),c.2.1,()),()),(c.1,())):=by
 grind[IK,Dj]
theorem H3{s:AL}(h1:s.1.length<=2^30)(h2:s.2.1.length<=2^30):C6 s=some ((((),(),s.2.2.1,()),()),(s.1,s.2.1,())):=by
 grind[C6,W5]
theorem Hh{r:AN}(h:Ae B_ r.1<=2^30):EL r=some ((((),r.2.1,()),()),(r.1,())):=by
 have hl:=AU (f:=B_) (l:=r.1);have key:∀(n i:Nat) (acc:List C7),i<=r.1.length->r.1.length-i<n->acc.length<=i->Hk n r.1 r.1.length i 0 [] r.2.1 acc=some ((((),r.2.1,()),()),(acc++r.1.drop i,())):=by
  intro n
  induction n with
  |zero=>omega
  |succ n ih=>
   intro i acc hi hn ha;simp only[Hk,RY,AB];by_cases hc:i<r.1.length
   ·have hm:=AY (f:=B_) (AJ7 hc)
    have hw:B_ r.1[i]=r.1[i].1.length:=rfl;rw[AI9 (by omega),AI9 (by omega),Af hc,Dj (by omega),AH (by omega) (by omega),show((i:Int)+1)=((i+1:Nat):Int)by omega];simp only[AD];rw[AI9 (by rw[Ap];omega),ih (i+1) _ (by omega) (by omega) (by simp_all),drop_cons hc,AKK];rfl
   grind
 grind[EL,Rl,AX,Ab]
theorem JX{x:AR}(h:An x<=2^30):Fc x=some (((x.1,(),()),()),(x.2.1,())):=by
 have h':Ae BQ x.2.1<=2^30:=h;have hl:=AU (f:=BQ) (l:=x.2.1);have key:∀(n i:Nat) (acc:List BR),i<=x.2.1.length->x.2.1.length-i<n->acc.length<=i->JY n x.2.1 x.2.1.length i 0 [] x.1 acc=some (((x.1,(),()),()),(acc++x.2.1.drop i,())):=by
  intro n
  induction n with
  |zero=>omega
  |succ n ih=>
   intro i acc hi hn ha;simp only[JY,T6,AB];by_cases hc:i<x.2.1.length
   ·have hm:=AY (f:=BQ) (AJ7 hc)
    have hw:BQ x.2.1[i]=x.2.1[i].1.length+x.2.1[i].2.1.length:=rfl;rw[AI9 (by omega),AI9 (by omega),Af hc,Dj (by omega),AH (by omega) (by omega),show((i:Int)+1)=((i+1:Nat):Int)by omega];simp only[AD];rw[AI9 (by rw[Ap];omega),ih (i+1) _ (by omega) (by omega) (by simp_all),drop_cons hc,AKK];rfl
   grind
 grind[Fc,Tp,AX,Ab]
theorem HH{m:Az}(h:CH m<=2^30):GH m=some (((m.1,m.2.1,(),(),m.2.2.2.2.1,(),()),()),(m.2.2.1,m.2.2.2.1,m.2.2.2.2.2.1,())):=by
 have h':m.2.2.1.length+Ae Am m.2.2.2.1+Ae C1 m.2.2.2.2.2.1<=2^30:=h;have hl:=AU (f:=C1) (l:=m.2.2.2.2.2.1);have hl2:=AU (f:=Am) (l:=m.2.2.2.1);have key:∀(n i:Nat) (acc:List AAN),i<=m.2.2.2.2.2.1.length->m.2.2.2.2.2.1.length-i<n->acc.length<=i->Lw n m.2.2.2.2.2.1 m.2.2.2.2.2.1.length i 0 0 false [] [] [] m.1 m.2.1 m.2.2.2.2.1 m.2.2.1 m.2.2.2.1 acc=some (((m.1,m.2.1,(),(),m.2.2.2.2.1,(),()),()),(m.2.2.1,m.2.2.2.1,acc++m.2.2.2.2.2.1.drop i,())):=by
  intro n
  induction n with
  |zero=>omega
  |succ n ih=>
   intro i acc hi hn ha;simp only[Lw,W0,AB];by_cases hc:i<m.2.2.2.2.2.1.length
   ·have hm:=AY (f:=C1) (AJ7 hc)
    have hw:C1 m.2.2.2.2.2.1[i]=m.2.2.2.2.2.1[i].length:=rfl;rw[AI9 (by omega),AI9 (by omega),Af hc,Dj (by omega),AH (by omega) (by omega),show((i:Int)+1)=((i+1:Nat):Int)by omega];simp only[AD];rw[AI9 (by rw[Ap];omega),ih (i+1) _ (by omega) (by omega) (by simp_all),drop_cons hc,AKK];rfl
   grind
 grind[GH,Wl,Dj,W5,AD,AX,Ab]
section
variable{w:AA} (h:lq w)
include h
theorem AHD:∀(n i:Nat) (EK:List AL) (Eu:List AR) (Fb:List Az) (GK:List Ac),i<=w.2.2.2.2.2.2.2.2.1.length->w.2.2.2.2.2.2.2.2.1.length-i+1<=n->GK.length<=i->
  Em n w.2.2.2.2.2.2.2.2.1 w.2.2.2.2.2.2.2.2.1.length i w.1 w.2.1 w.2.2.1 w.2.2.2.1 w.2.2.2.2.1 w.2.2.2.2.2.1 w.2.2.2.2.2.2.1 w.2.2.2.2.2.2.2.1 w.2.2.2.2.2.2.2.2.1 w.2.2.2.2.2.2.2.2.2.1 w.2.2.2.2.2.2.2.2.2.2.1 0 0 false [] [] [] [] [] [] [] [] w.2.1 w.2.2.2.2.2.1 w.2.2.2.2.2.2.2.2.2.2.1 w.1 EK w.2.2.2.1 w.2.2.2.2.1 Eu Fb GK []=some ((((),w.2.1,(),(),(),w.2.2.2.2.2.1,(),(),(),(),w.2.2.2.2.2.2.2.2.2.2.1,()),()),(w.1,EK,w.2.2.2.1,w.2.2.2.2.1,Eu,Fb,(GK++w.2.2.2.2.2.2.2.2.1.drop i),w.2.2.2.2.2.2.2.2.2.1,())):=by
 have hl2:=h.LN;have hl:=h.lens;intro n
 induction n with
 |zero=>omega
 |succ n ih=>
  intro i EK Eu Fb GK hi hn hb;simp only[Em,Tn,AB];by_cases D7:i<w.2.2.2.2.2.2.2.2.1.length
  ·have hm:=AY (f:=Ax) (AJ7 D7)
   have hw:Ax w.2.2.2.2.2.2.2.2.1[i]=Ae CB w.2.2.2.2.2.2.2.2.1[i].2.2.1:=rfl;have hlw:=AU (f:=CB) (l:=w.2.2.2.2.2.2.2.2.1[i].2.2.1);rw[AI9 (by omega),AI9 (by omega),Af D7,AH (by omega) (by omega),show((i:Int)+1)=((i+1:Nat):Int)by omega,drop_cons D7];rw[N_ (w.2.2.2.2.2.2.2.2.1[i]),ZB (by omega)];simp only[AD];rw[AI9 (by rw[Ap];omega),ih (i+1) _ _ _ _ (by omega) (by omega) (by simp_all),AKK];rfl
  ·rw[AJD (by omega),AI9 (by rw[Ap];omega),AJm (by omega),AKX]
theorem AGo:∀(n i:Nat) (EK:List AL) (Eu:List AR) (Fb:List Az),i<=w.2.2.2.2.2.2.2.1.length->(w.2.2.2.2.2.2.2.1.length-i)+w.2.2.2.2.2.2.2.2.1.length+2<=n->Fb.length<=i->
  En n w.2.2.2.2.2.2.2.1 w.2.2.2.2.2.2.2.1.length i w.1 w.2.1 w.2.2.1 w.2.2.2.1 w.2.2.2.2.1 w.2.2.2.2.2.1 w.2.2.2.2.2.2.1 w.2.2.2.2.2.2.2.1 w.2.2.2.2.2.2.2.2.1 w.2.2.2.2.2.2.2.2.2.1 w.2.2.2.2.2.2.2.2.2.2.1 0 0 false [] [] [] [] [] [] [] [] w.2.1 w.2.2.2.2.2.1 w.2.2.2.2.2.2.2.2.2.2.1 w.1 EK w.2.2.2.1 w.2.2.2.2.1 Eu Fb [] []=some ((((),w.2.1,(),(),(),w.2.2.2.2.2.1,(),(),(),(),w.2.2.2.2.2.2.2.2.2.2.1,()),()),(w.1,EK,w.2.2.2.1,w.2.2.2.2.1,Eu,(Fb++w.2.2.2.2.2.2.2.1.drop i),w.2.2.2.2.2.2.2.2.1,w.2.2.2.2.2.2.2.2.2.1,())):=by
 have hl2:=h.LN;have hl:=h.lens;intro n
 induction n with
 |zero=>omega
 |succ n ih=>
  intro i EK Eu Fb hi hn hb;simp only[En,Tq,AB];by_cases D7:i<w.2.2.2.2.2.2.2.1.length
  ·have hm:=AY (f:=CH) (AJ7 D7)
   rw[AI9 (by omega),AI9 (by omega),Af D7,AH (by omega) (by omega),show((i:Int)+1)=((i+1:Nat):Int)by omega,drop_cons D7];rw[Vm (w.2.2.2.2.2.2.2.1[i]),HH (by omega)];simp only[AD];rw[AI9 (by rw[Ap];omega),ih (i+1) _ _ _ (by omega) (by omega) (by simp_all),AKK];rfl
  ·have:=AHD h n 0 EK Eu Fb [] (by omega) (by omega) (by simp)
   grind
theorem AIe:∀(n i:Nat) (EK:List AL) (Eu:List AR),i<=w.2.2.2.2.2.2.1.length->(w.2.2.2.2.2.2.1.length-i)+w.2.2.2.2.2.2.2.1.length+w.2.2.2.2.2.2.2.2.1.length+3<=n->Eu.length<=i->
  FM n w.2.2.2.2.2.2.1 w.2.2.2.2.2.2.1.length i w.1 w.2.1 w.2.2.1 w.2.2.2.1 w.2.2.2.2.1 w.2.2.2.2.2.1 w.2.2.2.2.2.2.1 w.2.2.2.2.2.2.2.1 w.2.2.2.2.2.2.2.2.1 w.2.2.2.2.2.2.2.2.2.1 w.2.2.2.2.2.2.2.2.2.2.1 0 0 false [] [] [] [] [] [] [] [] w.2.1 w.2.2.2.2.2.1 w.2.2.2.2.2.2.2.2.2.2.1 w.1 EK w.2.2.2.1 w.2.2.2.2.1 Eu [] [] []=some ((((),w.2.1,(),(),(),w.2.2.2.2.2.1,(),(),(),(),w.2.2.2.2.2.2.2.2.2.2.1,()),()),(w.1,EK,w.2.2.2.1,w.2.2.2.2.1,(Eu++w.2.2.2.2.2.2.1.drop i),w.2.2.2.2.2.2.2.1,w.2.2.2.2.2.2.2.2.1,w.2.2.2.2.2.2.2.2.2.1,())):=by
 have hl2:=h.LN;have hl:=h.lens;intro n
 induction n with
 |zero=>omega
 |succ n ih=>
  intro i EK Eu hi hn hb;simp only[FM,Vj,AB];by_cases D7:i<w.2.2.2.2.2.2.1.length
  ·have hm:=AY (f:=An) (AJ7 D7)
   rw[AI9 (by omega),AI9 (by omega),Af D7,AH (by omega) (by omega),show((i:Int)+1)=((i+1:Nat):Int)by omega,drop_cons D7];rw[show(w.2.2.2.2.2.2.1[i].1,w.2.2.2.2.2.2.1[i].2.1,())=w.2.2.2.2.2.2.1[i]from rfl,JX (by omega)];simp only[AD];rw[AI9 (by rw[Ap];omega),ih (i+1) _ _ (by omega) (by omega) (by simp_all),AKK];rfl
  ·have:=AGo h n 0 EK Eu [] (by omega) (by omega) (by simp)
   grind
theorem AHw:∀(n i:Nat) (EK:List AL),i<=w.2.2.1.length->(w.2.2.1.length-i)+w.2.2.2.2.2.2.1.length+w.2.2.2.2.2.2.2.1.length+w.2.2.2.2.2.2.2.2.1.length+4<=n->EK.length<=i->
  FK n w.2.2.1 w.2.2.1.length i w.1 w.2.1 w.2.2.1 w.2.2.2.1 w.2.2.2.2.1 w.2.2.2.2.2.1 w.2.2.2.2.2.2.1 w.2.2.2.2.2.2.2.1 w.2.2.2.2.2.2.2.2.1 w.2.2.2.2.2.2.2.2.2.1 w.2.2.2.2.2.2.2.2.2.2.1 0 0 false [] [] [] [] [] [] [] [] w.2.1 w.2.2.2.2.2.1 w.2.2.2.2.2.2.2.2.2.2.1 w.1 EK w.2.2.2.1 w.2.2.2.2.1 [] [] [] []=some ((((),w.2.1,(),(),(),w.2.2.2.2.2.1,(),(),(),(),w.2.2.2.2.2.2.2.2.2.2.1,()),()),(w.1,(EK++w.2.2.1.drop i),w.2.2.2.1,w.2.2.2.2.1,w.2.2.2.2.2.2.1,w.2.2.2.2.2.2.2.1,w.2.2.2.2.2.2.2.2.1,w.2.2.2.2.2.2.2.2.2.1,())):=by
 have hl2:=h.LN;have hl:=h.lens;intro n
 induction n with
 |zero=>omega
 |succ n ih=>
  intro i EK hi hn hb;simp only[FK,Vs,AB];by_cases D7:i<w.2.2.1.length
  ·have hm:=AY (f:=Ai) (AJ7 D7)
   have hw:=Ft (s:=w.2.2.1[i]) (by omega);rw[AI9 (by omega),AI9 (by omega),Af D7,AH (by omega) (by omega),show((i:Int)+1)=((i+1:Nat):Int)by omega,drop_cons D7];rw[N_ (w.2.2.1[i]),H3 hw.1 hw.2];simp only[AD];rw[AI9 (by rw[Ap];omega),ih (i+1) _ (by omega) (by omega) (by simp_all),AKK];rfl
  ·have:=AIe h n 0 EK [] (by omega) (by omega) (by simp)
   grind
theorem ZY:Dk w=some ((((),w.2.1,(),(),(),w.2.2.2.2.2.1,(),(),(),(),w.2.2.2.2.2.2.2.2.2.2.1,()),()),(w.1,w.2.2.1,w.2.2.2.1,w.2.2.2.2.1,w.2.2.2.2.2.2.1,w.2.2.2.2.2.2.2.1,w.2.2.2.2.2.2.2.2.1,w.2.2.2.2.2.2.2.2.2.1,())):=by
 have hl2:=h.LN;have hl:=h.lens;unfold Dk Vw;have:=AHw h AX 0 [] (by omega) (ASJ (Ab (by omega))) (by simp);rw[show((0:Nat):Int)=0 from rfl,AOi,AOn]at this;rw[show(w.1,w.2.1,())=Aa w from rfl,Q_ (by show w.1.length<=_;omega),Dj (by omega),show(w.2.2.2.2.1,w.2.2.2.2.2.1,())=(Cb w)from rfl,Hh (by show Ae B_ w.2.2.2.2.1<=_;omega)];simp only[AD];exact this
end
end Go.M
end
