/- Plain facts on what the functions compute. -/
import Derived.Test.YtebiojjohcpanaaGreatG0
set_option linter.unusedVariables false
set_option linter.unusedSimpArgs false
set_option linter.unusedSectionVars false
section
namespace Go.M
theorem AB{α:Type}(p:Prop)[Decidable p](a b:α):cond (decide p) a b=if p then a else b:=by
 simp_all
theorem AK{x:Int}(h1: -9223372036854775808≤x)(h2:x<9223372036854775808):AZ x=x:=by
 grind[AZ,IntKind.wrap,IntKind.bits,IntKind.signed]
theorem AIt{n:Nat}(h:n<9223372036854775808):AZ (n:Int)=n:=AK (by omega) (by omega)
theorem ABa(n:Nat):(BitVec.ofInt 64 (n:Int)).toNat=n%2^64:=by
 rfl
theorem qS{n:Nat}(h:n<2^63):IntKind.wrap .i64 (n:Int)=n:=AIt (by omega)
theorem AEx{a b:Nat}(ha:a<2^63)(hb:b<2^63):cP .i64 a b=((a &&& b:Nat):Int):=by
 grind[cP,BitVec.ofInt,IntKind.bits,BitVec.toNat_and,ABa,Nat.mod_eq_of_lt,qS,Nat.lt_of_le_of_lt,Nat.and_le_left]
theorem Ag{n:Nat}(h:n<2^64):n<Ae:=ATB h dw
theorem Ai{α:Type}{l:List α}{i:Nat}{d:α}(h:i<l.length):l.getD ((i:Int).toNat) d=l[i]:=by
 simp_all
theorem drop_cons{α:Type}{l:List α}{i:Nat}(h:i<l.length):l.drop i=l[i]::l.drop (i+1):=(List.getElem_cons_drop h).symm
theorem BT:Dr=68719476736:=rfl
end Go.M
end
section
namespace Go.M
def BM(x a b:Int):Bool:=decide (a≤x∧x≤b)
theorem Bd(x a b:Int):CG x a b=some ((BM x a b,()),()):=by
 unfold CG BM;grind
theorem Av(x a b:Int):A5 x a b=some ((BM x a b,()),()):=Bd x a b
def Ee(x:AA9):Bool:=BM (x.1.length:Int) 1 8&&(BM x.2.1 1 4&&x.1.all fun d=>BM d 0 7)
theorem b_{l:AAO}{c:Int}(hl:l.length≤2^40):∀(n i:Nat),i≤l.length→l.length-i<n→LO n i l c=some (((l.drop i).all fun d=>BM d 0 7,()),())
 |0,i,_,h=>by omega
 |n+1,i,hi,h=>by
  simp only[LO,VO,AB];by_cases hc:i<l.length
  ·rw[ALy (by omega),ALy (by omega),Ai hc,Bd,AK (by omega) (by omega),drop_cons hc]
   simp only[AMv,ATa];cases hb:BM l[i] 0 7 with
   |false=>simp
   |true=>
    simp only[AMP,AMU,AMk];rw[show(((i:Nat):Int)+1)=((i+1:Nat):Int)by omega,b_ hl n (i+1) (by omega) (by omega)]
  grind
theorem HB{x:AA9}(hl:x.1.length≤2^40):GO x=some ((Ee x,()),()):=by
 unfold GO VL Ee;simp only[Bd,AMv];cases BM (x.1.length:Int) 1 8 with
 |false=>simp
 |true=>
  cases BM x.2.1 1 4 with
  |false=>simp
  |true=>
   grind[b_,Ae,Ag]
theorem bW{l:AAO}{c:Int}(hl:l.length≤2^40):∀(n i:Nat),i≤l.length→l.length-i<n→
  LR n l l.length i l c=some ((((l.drop i).all fun d=>BM d 0 7)&&(BM (l.length:Int) 1 8&&BM c 1 4),()),())
 |0,i,_,h=>by omega
 |n+1,i,hi,h=>by
  simp only[LR,VW,AB];by_cases hc:i<l.length
  ·rw[ALy (by omega),ALy (by omega),Ai hc,Av,AK (by omega) (by omega),drop_cons hc]
   simp only[AMv,ATa];cases hb:BM l[i] 0 7 with
   |false=>simp
   |true=>
    simp only[AMP,AMU,AMk];rw[show(((i:Nat):Int)+1)=((i+1:Nat):Int)by omega,bW hl n (i+1) (by omega) (by omega)]
  ·rw[AMD (by omega)]
   have:i=l.length:=by omega
   subst this;simp only[Av,AMv,AUB,List.all_nil,AMk];grind
theorem Kx{x:AA9}(hl:x.1.length≤2^40):Ex x=some ((Ee x,()),()):=by
 unfold Ex VB Ee;have:=bW (l:=x.1) (c:=x.2.1) hl Ae 0 (by omega) (Ag (by omega));grind
theorem GW{x:AA9}(h:Ee x=true):1≤x.1.length∧x.1.length≤8∧1≤x.2.1∧x.2.1≤4∧ ∀d∈x.1,0≤d∧d≤7:=by
 simp only[Ee,BM,AML,AMc,ATV]at h;grind
end Go.M
end
section
namespace Go.M
def Bytes(b:AAO):Prop:= ∀c∈b,0≤c∧c<256
end Go.M
end
section
namespace Go.M
theorem wf_i64{c:Int}(h:(Go.Lit.int .i64 c).wf=true): -9223372036854775808≤c∧c<9223372036854775808:=by
 simp only[Go.Lit.wf,AML,AMc]at h;have h1:Go.IntKind.min .i64= -9223372036854775808:=rfl;simp_all;omega
end Go.M
end
section
namespace Go.M
abbrev Ev:Type:=Int×Int×List UInt8×Unit
abbrev Rdr:Type:=Int×Int×List Ev×Unit
def XF(x:Rdr):Bool:=BM x.1 1 31&&(BM x.2.1 1 61&&decide ((x.2.2.1.length:Int)≤120))
theorem On(x:Rdr):Mt x=some ((XF x,()),()):=by
 grind[Mt,XF,Bd,BM]
theorem aJ(x:Rdr):Tk x=some ((XF x,()),()):=On x
end Go.M
end
section
namespace Go.M
def GZ(code:AAO)(i:Int):Prop:=0≤i∧i≤code.length
theorem AAW(x:Int):∃v:Int,cP .i64 x 255=v∧0≤v∧v<256:=by
 refine⟨_,rfl,?_⟩;grind[cP,BitVec.ofInt,Go.IntKind.bits,BitVec.toNat_and,Nat.lt_of_le_of_lt,Nat.and_le_right,qS]
section
variable{code:AAO} (hc:code.length≤2^30)
include hc
theorem Z6{i h:Int}(hi:GZ code i):∃v i' h',Lq code i h=some ((v,()),((code,i',h',()),()))∧0≤v∧v<256∧GZ code i':=by
 unfold Lq;simp only[AB];obtain⟨h0,h1⟩:=hi;split
 ·rename_i Kg
  rw[ALy ⟨h0,Kg⟩,AK (x:=i+1) (by omega) (by omega)];obtain⟨v,e,v0,v1⟩:=AAW (AZ (cP .i64 (AOD .i64 ((AZ (AZ (h*6364136223846793005)+1442695040888963407)).fdiv (2^33)) ((AZ (AZ (h*6364136223846793005)+1442695040888963407)).fdiv (2^45))) 255+AZ (code.getD i.toNat 0)));exact⟨v,i+1,_,by rw[e],v0,v1,by omega,by omega⟩
 ·obtain⟨v,e,v0,v1⟩:=AAW (AOD .i64 ((AZ (AZ (h*6364136223846793005)+1442695040888963407)).fdiv (2^33)) ((AZ (AZ (h*6364136223846793005)+1442695040888963407)).fdiv (2^45)))
  exact⟨v,i,_,by rw[e],v0,v1,h0,h1⟩
theorem QF{i h n:Int}(hi:GZ code i)(hn:n≤2^40):∃v i' h',Ak n code i h=some ((v,()),((code,i',h',()),()))∧0≤v∧(0<n→v<n)∧(n≤0→v=0)∧GZ code i':=by
 unfold Ak;simp only[AB];split
 ·grind
 ·split
  ·obtain⟨v,i1,h1,e,v0,v1,eZ⟩:=Z6 hc (h:=h) hi
   rw[e];simp only[AMv];rw[AMD (by omega),Int.tmod_eq_emod_of_nonneg v0];exact⟨_,i1,h1,rfl,Int.emod_nonneg _ (by omega),fun _=>Int.emod_lt_of_pos _ (by omega),by omega,eZ⟩
  ·obtain⟨v1,i1,h1,e1,a1,b1,eZ⟩:=Z6 hc (h:=h) hi
   obtain⟨v2,i2,h2,e2,a2,b2,zW⟩:=Z6 hc (h:=h1) eZ;obtain⟨v3,i3,h3,e3,a3,b3,hi3⟩:=Z6 hc (h:=h2) zW;obtain⟨v4,i4,h4,e4,a4,b4,hi4⟩:=Z6 hc (h:=h3) hi3;rw[e1];simp only[AMv];rw[e2];simp only[AMv];rw[e3];simp only[AMv];rw[e4];simp only[AMv];rw[AK (x:=v1*16777216) (by omega) (by omega),AK (x:=v2*65536) (by omega) (by omega),AK (x:=v3*256) (by omega) (by omega),AK (x:=v1*16777216+v2*65536) (by omega) (by omega),
    AK (x:=v1*16777216+v2*65536+v3*256) (by omega) (by omega),AK (by omega) (by omega),AMD (by omega),Int.tmod_eq_emod_of_nonneg (by omega)]
   exact⟨_,i4,h4,rfl,Int.emod_nonneg _ (by omega),fun _=>Int.emod_lt_of_pos _ (by omega),by omega,hi4⟩
theorem sU{i h n:Int}(hi:GZ code i)(hn:n≤2^40):∃v i' h',B4 n code i h=some ((v,()),((code,i',h',()),()))∧GZ code i':=by
 unfold B4;obtain⟨v,i1,h1,e,_,_,_,eZ⟩:=QF hc (h:=h) hi hn;rw[e];exact⟨_,i1,h1,rfl,eZ⟩
theorem tz{i h:Int}{l:AAO}(hi:GZ code i)(hl:l≠[])(hn:l.length≤2^30):∃v i' h',OB l code i h=some ((v,()),((code,i',h',()),()))∧v∈l∧GZ code i':=by
 unfold OB;have hp:=AXX.2 hl;obtain⟨v,i1,h1,e,v0,v1,_,eZ⟩:=QF hc (h:=h) (n:=l.length) hi (by omega);grind
omit hc in
theorem AAd{n:Nat}:∀(m i:Nat) (h:Int),i≤code.length→code.length-i<m→ ∃h',Pj m code h i=some (((),()),((code,0,h',()),()))
 |0,_,_,_,h=>by omega
 |m+1,i,h,hi,hm=>by
  simp only[Pj,Zt,AB];by_cases Kg:i<code.length
  ·rw[ALy (by omega)]
   split
   ·rw[ALy (by omega),AK (x:=(i:Int)+1) (by omega) (by omega),show((i:Int)+1)=((i+1:Nat):Int)by omega]
    exact AAd (n:=n) m (i+1) _ (by omega) (by omega)
   ·exact⟨_,rfl⟩
  ·rw[AMD (by omega)]
   exact⟨_,rfl⟩
theorem AFw:∃h',bG code=some (((),()),((code,0,h',()),())):=by
 unfold bG aE;exact AAd (n:=0) Ae 0 _ (by omega) (Ag (by omega))
def af(l:AAO)(c:Int):Prop:=3≤l.length∧l.length≤7∧1≤c∧c≤3∧ ∀d∈l,0≤d∧d≤4
omit hc in
theorem af.ok{l:AAO}{c:Int}(h:af l c):Ee (l,c,())=true:=by
 obtain⟨h1,h2,h3,h4,h5⟩:=h;simp only[Ee,BM,AML,AMc,ATV];exact⟨by omega,by omega,fun d hd=>by have:=h5 d hd;omega⟩
theorem e_{N:Nat}(hN:3≤N∧N≤7){c:Int}(h1:1≤c∧c≤3){x1:Int}{x2:AAO}:∀(n k:Nat) (i h:Int) (acc:AAO),GZ code i→k≤N→N-k<n→acc.length=k→(∀d∈acc,0≤d∧d≤4)→
  ∃l c' i' h',IB n N k code i h x1 x2 c acc=some ((((),c',()),()),((code,i',h',()),l,()))∧af l c'∧GZ code i'
 |0,_,_,_,_,_,_,h,_,_=>by omega
 |n+1,k,i,h,acc,hi,hk,hn,hacc,hd=>by
  simp only[IB,Rp,AB];by_cases Kg:k<N
  ·rw[ALy (by omega)]
   obtain⟨v,i1,h1',e,v0,v1,_,eZ⟩:=QF hc (h:=h) (n:=5) hi (by omega);rw[e];simp only[AMv];rw[ALy (by rw[BT];omega),AK (by omega) (by omega),show((k:Int)+1)=((k+1:Nat):Int)by omega];have:=v1 (by omega);exact e_ hN h1 n (k+1) i1 h1' _ eZ (by omega) (by omega) (by simp[hacc]) (fun d hdd=>by
    grind)
  ·rw[AMD (by omega)]
   obtain⟨v,i1,h1',e,eZ⟩:=sU hc (h:=h) (n:=2) hi (by omega);rw[e];simp only[AMv];cases v
   ·exact⟨acc,c,i1,h1',rfl,⟨by omega,by omega,h1.1,h1.2,hd⟩,eZ⟩
   ·exact⟨acc,2,i1,h1',rfl,⟨by omega,by omega,by omega,by omega,hd⟩,eZ⟩
theorem oZ{i h:Int}(hi:GZ code i):∃l c' i' h',Oo code i h=some ((((),c',()),()),((code,i',h',()),l,()))∧af l c'∧GZ code i':=by
 unfold Oo Rq;obtain⟨v,i1,h1,e1,a1,b1,_,eZ⟩:=QF hc (h:=h) (n:=3) hi (by omega);rw[e1];simp only[AMv];obtain⟨w,i2,h2,e2,a2,b2,_,zW⟩:=QF hc (h:=h1) (n:=5) eZ (by omega);rw[e2];simp only[AMv];have:=b1 (by omega);have:=b2 (by omega);rw[AK (by omega) (by omega),AK (by omega) (by omega)];obtain⟨N,hN⟩:∃N:Nat,3+w=(N:Int):=⟨(3+w).toNat,by omega⟩;rw[hN];exact e_ hc (by omega) (by omega) Ae 0 i2 h2 [] zW (by omega) (Ag (by omega)) rfl (by simp)
end
end Go.M
end
section
namespace Go.M.H
open Go.M
def Af{α:Type}(f:α→Nat):List α→Nat
 |[]=>0
 |x::l=>1+f x+Af f l
theorem AX{α:Type}{f:α→Nat}:∀{l:List α},l.length≤Af f l
 |[]=>AQW _
 |x::l=>by
  have:=AX (f:=f) (l:=l);grind[Af,List.length_cons]
theorem Aa{α:Type}{f:α→Nat}{x:α}:∀{l:List α},x∈l→f x≤Af f l
 |y::l,h=>by
  simp only[Af];rcases ANv.1 h with rfl|h
  ·omega
  ·have:=Aa (f:=f) h
   omega
abbrev AV9:Type:=List Int
abbrev C_(x:AV9):Nat:=x.length
abbrev AJ:Type:=Int×Int×Bool×List UInt8×Unit
abbrev ug:Go.Fw.Ty:= .cons (.int .i64) (.cons (.int .i64) (.cons .bool (.cons .str (.unit))))
def Ap(x:AJ):Nat:=x.2.2.2.1.length
abbrev AO:Type:=List AJ×List AJ×Int×Unit
abbrev AI6:Go.Fw.Ty:= .cons (.sl ug) (.cons (.sl ug) (.cons (.int .i64) (.unit)))
def Al(x:AO):Nat:=Af Ap x.1+Af Ap x.2.1
abbrev CN:Type:=List Int×Bool×Int×Unit
abbrev AAA:Go.Fw.Ty:= .cons (.sl (.int .i64)) (.cons .bool (.cons (.int .i64) (.unit)))
def B8(x:CN):Nat:=x.1.length
abbrev AQ:Type:=List CN×Int×Unit
abbrev A7:Type:=List UInt8×List Int×Bool×Unit
abbrev tw:Go.Fw.Ty:= .cons .str (.cons (.sl (.int .i64)) (.cons .bool (.unit)))
def BJ(x:A7):Nat:=x.1.length+x.2.1.length
abbrev AM:Type:=Int×List A7×Unit
abbrev iP:Go.Fw.Ty:= .cons (.int .i64) (.cons (.sl tw) (.unit))
def Ar(x:AM):Nat:=Af BJ x.2.1
abbrev As:Type:=Int×Int×List Int×List AJ×Bool×List AAO×Unit
abbrev AP_:Go.Fw.Ty:= .cons (.int .i64) (.cons (.int .i64) (.cons (.sl (.int .i64)) (.cons (.sl ug) (.cons .bool (.cons (.sl (.sl (.int .i64))) (.unit))))))
def CJ(x:As):Nat:=x.2.2.1.length+Af Ap x.2.2.2.1+Af C_ x.2.2.2.2.2.1
abbrev A3:Type:=Int×Int×List UInt8×Unit
abbrev AID:Go.Fw.Ty:= .cons (.int .i64) (.cons (.int .i64) (.cons .str (.unit)))
def CO(x:A3):Nat:=x.2.2.1.length
abbrev AY:Type:=Int×Int×List A3×Unit
abbrev AED:Go.Fw.Ty:= .cons (.int .i64) (.cons (.int .i64) (.cons (.sl AID) (.unit)))
def A0(x:AY):Nat:=Af CO x.2.2.1
abbrev Ax:Type:=Int×Bool×Int×Int×Bool×List UInt8×Unit
abbrev Ac:Type:=Int×List UInt8×Bool×Unit
abbrev AP0:Go.Fw.Ty:= .cons (.int .i64) (.cons .str (.cons .bool (.unit)))
def EO(x:Ac):Nat:=x.2.1.length
abbrev AA:Type:=List Int×Int×List AO×List Int×List CN×Int×List AM×List As×List AY×List Ac×Bool×Unit
abbrev YZ:Go.Fw.Ty:= .cons (.sl (.int .i64)) (.cons (.int .i64) (.cons (.sl AI6) (.cons (.sl (.int .i64)) (.cons (.sl AAA) (.cons (.int .i64) (.cons (.sl iP) (.cons (.sl AP_) (.cons (.sl AED) (.cons (.sl AP0) (.cons .bool (.unit)))))))))))
def Cv(x:AA):Nat:=x.1.length+Af Al x.2.2.1+x.2.2.2.1.length+Af B8 x.2.2.2.2.1+Af Ar x.2.2.2.2.2.2.1+Af CJ x.2.2.2.2.2.2.2.1+Af A0 x.2.2.2.2.2.2.2.2.1+Af EO x.2.2.2.2.2.2.2.2.2.1
abbrev BC:Type:=Int×Int×Int×Int×List UInt8×Unit
end Go.M.H
end
section
namespace Go.M
def DZ(p:Nat→Bool)(i:Nat):Nat→Bool
 |0=>true
 |d+1=>p i&&DZ p (i+1) d
theorem F8{L:Nat→Int→Option (ABG×Unit)}{len:Nat}{p:Nat→Bool}{fin:Bool}(h1:∀n (i:Nat),i<len→L (n+1) i=cond (p i) (L n ((i+1:Nat):Int)) (some ((false,()),())))(h2:∀n,L (n+1) (len:Int)=some ((fin,()),())):
  ∀d n i,i+d=len→d<n→L n i=some ((DZ p i d&&fin,()),())
 |0,n,i,hd,h=>by
  obtain⟨m,rfl⟩:∃m,n=m+1:=⟨n-1,by omega⟩;have:i=len:=by omega
  subst this;rw[h2];rfl
 |d+1,n,i,hd,h=>by
  obtain⟨m,rfl⟩:∃m,n=m+1:=⟨n-1,by omega⟩;rw[h1 m i (by omega)];simp only[DZ];cases p i with
  |false=>rfl
  |true=>rw[AMp,F8 h1 h2 d m (i+1) (by omega) (by omega)];rfl
theorem Rs{p:Nat→Bool}:∀{d i:Nat},DZ p i d=true→ ∀j,i≤j→j<i+d→p j=true
 |0,i,_,j,h1,h2=>by omega
 |d+1,i,h,j,h1,h2=>by
  simp only[DZ,AML]at h;by_cases hj:j=i
  ·simp_all
  ·exact Rs h.2 j (by omega) (by omega)
theorem pt{p:Nat→Bool}:∀{d i:Nat},(∀j,i≤j→j<i+d→p j=true)→DZ p i d=true
 |0,_,_=>rfl
 |d+1,i,h=>by
  simp only[DZ,AML];exact⟨h i (by omega) (by omega),pt fun j h1 h2=>h j (by omega) (by omega)⟩
def XJ(x:Int):Int:=x.tdiv 4294967296
def BN(x:Int):Bool:=BM (XJ x) 1 30&&BM (x.tmod 4294967296) 1 60
def AN(x:Int):Int:=if BN x then XJ x else 0
theorem jD{x:Int}(h: -9223372036854775808≤x∧x<9223372036854775808):AZ (x.tdiv 4294967296)=XJ x:=by
 grind[XJ,AK,Int.lt_or_le,Int.neg_tdiv,Int.tdiv_eq_ediv_of_nonneg]
theorem dZ{x:Int}(h:BN x=true):0<x∧x<2^40:=by
 simp only[BN,BM,AML,AMc]at h;grind[XJ,Int.lt_or_le,Int.neg_tdiv,Int.tdiv_eq_ediv_of_nonneg,Int.tmod_eq_emod_of_nonneg]
def C0(x:Int):Prop:= -9223372036854775808≤x∧x<9223372036854775808
theorem H7{x:Int}(h:C0 x):HM x=some ((BN x,()),()):=by
 unfold HM;rw[jD h,AB];split
 ·grind[Bd,BN,BM,XJ]
 ·rename_i h0
  rcases AKU (BN x)with hp|hp
  ·exact absurd (dZ hp).1 (by omega)
  ·rw[hp]
theorem MT{x:Int}(h:C0 x):Dh x=some ((BN x,()),()):=by
 unfold Dh HT Wf;rw[jD h];grind[Av,BN,BM,XJ]
theorem Ew{x:Int}(h:C0 x):Cr x=some ((AN x,()),()):=by
 unfold Cr AN;rw[H7 h,jD h];grind
theorem EB{x:Int}(h:C0 x):E7 x=some ((AN x,()),()):=by
 unfold E7 AN;rw[MT h,jD h];grind
theorem fS{x:Int}:(BN x=true→1≤AN x∧AN x≤30)∧(BN x=false→AN x=0):=by
 constructor
 ·intro h
  rw[AN,ALy h];simp only[BN,BM,AML,AMc]at h;omega
 grind[AN]
def uS(l:AAO)(hi:Int)(i:Nat):Bool:=BM (l.getD i 0) 0 hi&&(i==0||decide (l.getD (i-1) 0<l.getD i 0))
def qd(l:AAO)(hi:Int):Bool:=DZ (uS l hi) 0 l.length
theorem fW{l:AAO}{hi:Int}(hl:l.length≤2^40):XC l 0 hi=some ((qd l hi,()),()):=by
 unfold XC Z0 qd;rw[←ATW (DZ _ _ _)];refine F8 (L:=fun n i=>Mx n l 0 hi i) (len:=l.length) (p:=uS l hi) (fin:=true) (fun n i Dd=> ?_) (fun n=> ?_) l.length Ae 0 (by omega) (Ag (by omega))
 ·simp only[Mx,TE,AB]
  rw[ALy (by omega),ALy (by omega),Bd,AK (x:=(i:Int)+1) (by omega) (by omega)];simp only[AMv,AMV,uS];cases BM (l.getD i 0) 0 hi with
  |false=>rfl
  |true=>
   simp only[AMP,AMU,AMk];by_cases h0:i=0
   ·simp_all
   ·rw[ALy (by omega),AK (by omega) (by omega),ALy (by omega),ALy (by omega)]
    have h1:((i:Int)-1).toNat=i-1:=by omega
    have h2:(i==0)=false:=by simp_all
    rw[h1,h2,AS7];grind
 ·simp only[Mx,TE,AB]
  simp_all
theorem nF{l:AAO}{hi:Int}(hl:l.length≤2^40):V0 l hi=some ((qd l hi,()),()):=by
 unfold V0 W7 qd;rw[←ATW (DZ _ _ _)];refine F8 (L:=fun n i=>J2 n l hi l l.length i) (len:=l.length) (p:=uS l hi) (fin:=true) (fun n i Dd=> ?_) (fun n=> ?_) l.length Ae 0 (by omega) (Ag (by omega))
 ·simp only[J2,QD,AB]
  rw[ALy (by omega),ALy (by omega),Av,AK (x:=(i:Int)+1) (by omega) (by omega)];simp only[AMv,AMV,uS];cases BM (l.getD i 0) 0 hi with
  |false=>rfl
  |true=>
   simp only[AMP,AMU,AMk];by_cases h0:i=0
   ·simp_all
   ·rw[ALy (by omega),AK (by omega) (by omega),ALy (by omega)]
    have h1:((i:Int)-1).toNat=i-1:=by omega
    have h2:(i==0)=false:=by simp_all
    rw[h1,h2,AS7];grind
 ·simp only[J2,QD,AB]
  simp_all
theorem xS{l:AAO}{hi:Int}(h:qd l hi=true):∀x∈l,0≤x∧x≤hi:=fun x hx=>by
 obtain⟨i,Dd,rfl⟩:=AQa hx;have:=Rs h i (by omega) (by omega);simp only[uS,BM,AML,AMc]at this;simp_all
theorem AAy{l:AAO}{hi:Int}(h:qd l hi=true):∀i,i<l.length→(i:Int)≤l.getD i 0
 |0,hl=>by
  have:=Rs h 0 (by omega) (by omega);simp only[uS,BM,AML,AMc]at this;omega
 |i+1,hl=>by
  have h1:=AAy h i (by omega);have:=Rs h (i+1) (by omega) (by omega);simp only[uS,AML,AS8,AMc]at this;grind
theorem AFy{l:AAO}{hi:Int}(h:qd l hi=true)(h0:0≤hi+1):(l.length:Int)≤hi+1:=by
 by_cases hl:l.length=0
 ·omega
 ·have h1:=AAy h (l.length-1) (by omega)
  have h2:=xS h (l.getD (l.length-1) 0) (by
   grind)
  omega
def Ay(c:AA9)(l:AAO):Bool:=Ee c&&qd l ((c.1.length:Int)-1)
theorem Gv{c:AA9}{l:AAO}(hc:c.1.length≤2^40)(hl:l.length≤2^40):GY c l=some ((Ay c l,()),()):=by
 unfold GY Ay;rw[show(c.1,c.2.1,())=c from rfl,HB hc,AK (by omega) (by omega)];simp only[AMv];cases Ee c with
 |false=>rfl
 |true=>
  rw[AMp,fW hl];rfl
theorem EA{c:AA9}{l:AAO}(hc:c.1.length≤2^40)(hl:l.length≤2^40):D3 c l=some ((Ay c l,()),()):=by
 unfold D3 Ay;rw[show(c.1,c.2.1,())=c from rfl,Kx hc,AK (by omega) (by omega)];simp only[AMv];cases Ee c with
 |false=>rfl
 |true=>
  rw[AMp,nF hl];rfl
theorem ah{c:AA9}{l:AAO}(h:Ay c l=true):Ee c=true∧c.1.length≤8∧l.length≤8∧(∀x∈l,0≤x∧x<c.1.length)∧ ∀d∈c.1,0≤d∧d≤7:=by
 simp only[Ay,AML]at h;obtain⟨k1,k2,k3,k4,k5⟩:=GW h.1;have h1:=AFy h.2 (by omega);exact⟨h.1,k2,by omega,fun x hx=>by have:=xS h.2 x hx;omega,k5⟩
theorem AAX{l:AAO}{x:Int}(hl:l.length≤2^40):∀(n i:Nat),i≤l.length→l.length-i<n→(∀y∈l.take i,y≠x)→
  ∃r:Int,F9 n l x l.length i=some ((r,()),())∧decide (r≥0)=l.contains x
 |0,_,_,h,_=>by omega
 |n+1,i,hi,h,hx=>by
  simp only[F9,Nz,AB];by_cases hc:i<l.length
  ·rw[ALy (by omega),ALy (by omega),Ai hc,AK (by omega) (by omega)]
   by_cases he:x=l[i]
   ·simp_all
   ·obtain⟨r,e1,e2⟩:=AAX hl n (i+1) (by omega) (by omega) (fun y hy=>by
     rw[ATJ hc]at hy;rcases AOs.1 hy with hy|hy
     ·exact hx y hy
     grind)
    grind
  ·rw[AMD (by omega)]
   grind
theorem Ib{l:AAO}{x:Int}(hl:l.length≤2^40):Bn l x=some ((l.contains x,()),()):=by
 unfold Bn OX N8;obtain⟨r,e1,e2⟩:=AAX (x:=x) hl Ae 0 (by omega) (Ag (by omega)) (by simp);simp_all
def iU(c:AAO):List Int→List Int→List Int
 |[],acc=>acc
 |n::l,acc=>iU c l (if acc.contains (c.getD n.toNat 0)then acc else acc++[c.getD n.toNat 0])
def ax(c:AAO)(l:AAO):Nat:=(iU c l []).length
theorem ZW{c:AAO}{q:Int}{l:AAO}(hl:l.length≤8)(hm:∀x∈l,0≤x∧x<c.length):∀(n i:Nat) (acc:AAO),i≤l.length→l.length-i<n→acc.length≤i→
  Ng n l l.length i c q acc=some ((((iU c (l.drop i) acc).length:Int),()),())
 |0,i,_,_,h,_=>by omega
 |n+1,i,acc,hi,h,ha=>by
  simp only[Ng,YK,AB];by_cases hc:i<l.length
  ·have hx:=hm _ (AMh hc)
   rw[ALy (by omega),ALy (by omega),Ai hc,drop_cons hc]
   generalize l[i]=x at hx
   rw[ALy (by omega),Ib (by omega),AK (by omega) (by omega),show((i:Int)+1)=((i+1:Nat):Int)by omega];simp only[AMv,iU];cases AVt:acc.contains (c.getD x.toNat 0)with
   |true=>
    simp only[AMP,AMU,AS_];exact ZW hl hm n (i+1) acc (by omega) (by omega) (by omega)
   |false=>
    simp only[AS5,AMp,AMO,AOR];rw[ALy (by omega),ALy (by rw[BT];omega)];exact ZW hl hm n (i+1) _ (by omega) (by omega) (by simp_all)
  ·rw[AMD (by omega)]
   grind[iU]
theorem oI{c:AA9}{l:AAO}(hc:c.1.length≤2^40)(hl:l.length≤2^40):Yc c l=some ((if Ay c l then(ax c.1 l:Int)else-1,()),()):=by
 unfold Yc YQ;rw[show(c.1,c.2.1,())=c from rfl,EA hc hl];simp only[AMv];cases h:Ay c l with
 |false=>rfl
 |true=>
  obtain⟨k1,k2,k3,k4,k5⟩:=ah h;grind[ZW,Ae,Ag,ax]
theorem ye{s:List Bool}{k j:Nat}{b:Bool}(h:k<s.length):(s.set k b).getD j false=if k=j then b else s.getD j false:=by
 grind
theorem ZE{c:AAO}{q:Int}{l:AAO}(hl:l.length≤8)(hd:∀d∈c,0≤d∧d≤7)(hm:∀x∈l,0≤x∧x<c.length):∀(n i:Nat) (acc:AAO) (s:List Bool),i≤l.length→l.length-i<n→acc.length≤i→s.length=8→
  (∀j:Nat,j<8→s.getD j false=acc.contains (j:Int))→
  OA n l acc.length i c q s=some ((((iU c (l.drop i) acc).length:Int),()),())
 |0,i,_,_,_,h,_,_,_=>by omega
 |n+1,i,acc,s,hi,h,ha,hs,hj=>by
  simp only[OA,YR,AB];by_cases hc:i<l.length
  ·have hx:=hm _ (AMh hc)
   rw[ALy (by omega),ALy (by omega),Ai hc,drop_cons hc]
   generalize l[i]=x at hx
   rw[ALy (by omega)];have AX5:0≤c.getD x.toNat 0∧c.getD x.toNat 0≤7:=by
    simp_all
   simp only[iU]
   generalize c.getD x.toNat 0=d at AX5
   rw[ALy (by omega),AK (x:=(i:Int)+1) (by omega) (by omega),show((i:Int)+1)=((i+1:Nat):Int)by omega];have hsd:s.getD d.toNat false=acc.contains d:=by
    grind
   rw[hsd];cases AVt:acc.contains d with
   |true=>
    simp only[AMP,AMU,AS_];exact ZE hl hd hm n (i+1) acc s (by omega) (by omega) (by omega) hs hj
   |false=>
    simp only[AS5,AMp,AMO,AOR];rw[ALy (by omega),AK (by omega) (by omega)];have:=ZE (q:=q) hl hd hm n (i+1) (acc++[d]) (s.set d.toNat true) (by omega) (by omega) (by simp_all) (by simp_all) (fun j hj8=>by
     rw[ye (by omega),hj j hj8];grind)
    simp_all
  ·rw[AMD (by omega)]
   grind[iU]
theorem dG{c:AA9}{l:AAO}(h:Ay c l=true):T9 c l=some (((ax c.1 l:Int),()),()):=by
 obtain⟨k1,k2,k3,k4,k5⟩:=ah h;unfold T9 X1;have:=ZE (c:=c.1) (q:=c.2.1) k3 k5 k4 Ae 0 [] (List.replicate 8 false) (by omega) (Ag (by omega)) (by simp) (by simp) (fun j hj=>by
  grind)
 grind[ax]
def holds(c:AA9)(l:AAO):Bool:=Ay c l&&decide ((ax c.1 l:Int)≥c.2.1)
theorem Ey{c:AA9}{l:AAO}(hc:c.1.length≤2^40)(hl:l.length≤2^40):FL c l=some ((holds c l,()),()):=by
 unfold FL holds;rw[show(c.1,c.2.1,())=c from rfl,Gv hc hl];simp only[AMv];cases h:Ay c l with
 |false=>rfl
 |true=>
  rw[AMp,dG h];rfl
theorem GK{c:AA9}{l:AAO}(hc:c.1.length≤2^40)(hl:l.length≤2^40):Gh c l=some ((holds c l,()),()):=by
 unfold Gh holds;rw[show(c.1,c.2.1,())=c from rfl,EA hc hl,oI hc hl];simp only[AMv];cases h:Ay c l<;>rfl
theorem Nl{c:AA9}{l:AAO}(h:holds c l=true):Ay c l=true:=by
 simp only[holds,AML]at h;exact h.1
end Go.M
end
section
namespace Go.M
open Go.M.H (CN AQ A7 AM Af AX Aa B8 BJ Ar AAA tw iP)
abbrev B9:Type:=List Int×Int×Unit
def GJ:CN:=([],false,0,())
def qM(c:B9)(e:CN):Bool:=holds c e.1&&(BM e.2.2.1 0 60&&(e.2.1||e.2.2.1==0))
theorem rJ{c:B9}{e:CN}(hc:c.1.length≤2^40)(hl:e.1.length≤2^40):bL c e=some ((qM c e,()),()):=by
 unfold bL qM;rw[show(c.1,c.2.1,())=c from rfl,GK hc hl];grind[Av,holds,BM]
def tX(c:B9)(l:List CN)(i:Nat):Bool:=
 qM c (l.getD i GJ)&& !((l.getD i GJ).2.1&&(decide (i+1=l.length)||(decide (0<i)&& !(l.getD (i-1) GJ).2.1)))
def fY(r:AQ):Bool:=r.2.1==0||(BN r.2.1&&decide (AN r.2.1≤r.1.length))
def Mc(c:B9)(r:AQ):Bool:=Ee c&&(decide (r.1.length≤30)&&(fY r&&DZ (tX c r.1) 0 r.1.length))
theorem BG{α:Type}{l:List α}{i:Nat}{d:α}(h:i<l.length):l.getD i d∈l:=by
 simp_all
theorem nK{c:B9}{l:List CN}{tr:Int}(hc:c.1.length≤2^40)(hl:Af B8 l≤2^30):Kb Ae l.length 0 c.1 c.2.1 l tr=some ((DZ (tX c l) 0 l.length,()),()):=by
 have hll:=AX (f:=B8) (l:=l);rw[←ATW (DZ _ _ _)];refine F8 (L:=fun n i=>Kb n l.length i c.1 c.2.1 l tr) (len:=l.length) (p:=tX c l) (fin:=true) (fun n i hi=> ?_) (fun n=> ?_) l.length Ae 0 (by omega) (Ag (by omega))
 ·have hm:=Aa (f:=B8) (BG (d:=GJ) hi)
  simp only[B8]at hm;simp only[Kb,TJ,AB];rw[ALy (by omega),ALy (by omega),show(c.1,c.2.1,())=c from rfl,AMV,show(([],false,0,()):CN)=GJ from rfl,Ey hc (by omega),Bd,AK (x:=(i:Int)+1) (by omega) (by omega),
   AK (x:=(l.length:Int)-1) (by omega) (by omega),AK (x:=(i:Int)-1) (by omega) (by omega),show((i:Int)+1)=((i+1:Nat):Int)by omega]
  simp only[AMv,tX,qM];have e1:((i:Int)==(l.length:Int)-1)=decide (i+1=l.length):=by
   grind
  have e2:(((i:Int)-1).toNat)=i-1:=by omega
  grind
 ·simp only[Kb,TJ,AB]
  simp_all
theorem Pe{c:B9}{r:AQ}(hc:c.1.length≤2^40)(hl:Af B8 r.1≤2^30)(ht:C0 r.2.1):MQ c r=some ((Mc c r,()),()):=by
 unfold MQ aC Mc fY;rw[show(c.1,c.2.1,())=c from rfl,HB hc,nK hc hl,H7 ht,Ew ht];grind
theorem Mn{c:B9}{r:AQ}(hc:c.1.length≤2^40)(hl:Af B8 r.1≤2^30)(ht:C0 r.2.1):Ke c r=some ((Mc c r,()),()):=by
 have hll:=AX (f:=B8) (l:=r.1);have AD4:KY Ae r.1 r.1.length 0 c.1 c.2.1 r.1 r.2.1=some ((DZ (tX c r.1) 0 r.1.length&&(Ee c&&(decide (r.1.length≤30)&&fY r)),()),()):=by
  refine F8 (L:=fun n i=>KY n r.1 r.1.length i c.1 c.2.1 r.1 r.2.1) (len:=r.1.length) (p:=tX c r.1) (fin:=Ee c&&(decide (r.1.length≤30)&&fY r)) (fun n i hi=> ?_) (fun n=> ?_) r.1.length Ae 0 (by omega) (Ag (by omega))
  ·have hm:=Aa (f:=B8) (BG (d:=GJ) hi)
   simp only[B8]at hm;simp only[KY,TZ,AB];rw[ALy (by omega),ALy (by omega),show(c.1,c.2.1,())=c from rfl,AMV,show(([],false,0,()):CN)=GJ from rfl];rw[show((r.1.getD i GJ).1,(r.1.getD i GJ).2.1,(r.1.getD i GJ).2.2.1,())=r.1.getD i GJ from rfl,rJ hc (by omega),AK (x:=(i:Int)+1) (by omega) (by omega),
    AK (x:=(r.1.length:Int)-1) (by omega) (by omega),AK (x:=(i:Int)-1) (by omega) (by omega),show((i:Int)+1)=((i+1:Nat):Int)by omega]
   simp only[AMv,tX];have e1:((i:Int)==(r.1.length:Int)-1)=decide (i+1=r.1.length):=by
    grind
   have e2:(((i:Int)-1).toNat)=i-1:=by omega
   grind
  ·simp only[KY,TZ]
   rw[show decide ((r.1.length:Int)<(r.1.length:Int))=false by simp,show(c.1,c.2.1,())=c from rfl,Kx hc,EB ht];simp only[AMU,AMv,Av,fY];have e1:decide ((r.1.length:Int)≤30)=decide (r.1.length≤30):=by
    grind
   rw[e1];have e4:BM (AN r.2.1) 1 (r.1.length:Int)=(BN r.2.1&&decide (AN r.2.1≤(r.1.length:Int))):=by
    have hr:=fS (x:=r.2.1);unfold BM;grind
   grind
 grind[Ke,aG,Mc,Ee,decide,fY,DZ,tX]
def ADU(b:Bool):Int:=if b then 1 else 0
theorem mO(b:Bool):bR b=some ((ADU b,()),()):=by cases b<;>rfl
end Go.M
end
section
namespace Go.M
open Go.M.H (CN AQ A7 AM Af AX Aa B8 BJ Ar AAA tw iP)
def Kw:A7:=([],[],false,())
def Vr(c:B9)(e:A7):Bool:=decide (e.1.length≤40)&&(Ay c e.2.1&&(e.2.2.1==holds c e.2.1))
def Qf:List A7→Nat
 |[]=>0
 |e::l=>cond e.2.2.1 0 1+Qf l
def le6(n:Nat):Bool:=decide (n≤6)
theorem AAV(o:Nat):decide ((o:Int)≤6)=le6 o:=by
 grind[le6]
def FF(c:B9)(w:AM):Bool:=Ee c&&(BM w.1 1 30&&(decide (w.2.1.length≤60)&&(w.2.1.all (Vr c)&&le6 (Qf w.2.1))))
theorem bU{c:B9}{ep:Int}{l:List A7}(hc:c.1.length≤2^40)(hl:Af BJ l≤2^30):∀(n i o:Nat),i≤l.length→l.length-i<n→o≤i→
  K5 n o i c.1 c.2.1 ep l=some (((l.drop i).all (Vr c)&&le6 (o+Qf (l.drop i)),()),())
 |0,i,_,_,h,_=>by omega
 |n+1,i,o,hi,h,ho=>by
  have hll:=AX (f:=BJ) (l:=l);simp only[K5,VG,AB];by_cases rb:i<l.length
  ·have hm:=Aa (f:=BJ) (AMh rb)
   rw[ALy (by omega),ALy (by omega),Ai rb,drop_cons rb];have ih:=fun o=>bU (ep:=ep) hc hl n (i+1) o (by omega) (by omega)
   generalize l[i]=e at hm
   simp only[BJ]at hm;rw[show(c.1,c.2.1,())=c from rfl,Gv hc (by omega),Ey hc (by omega),AK (x:=(i:Int)+1) (by omega) (by omega),AK (x:=(o:Int)+1) (by omega) (by omega),show((i:Int)+1)=((i+1:Nat):Int)by omega,show((o:Int)+1)=((o+1:Nat):Int)by omega];simp only[AMv,ATa,Vr,Qf];by_cases h40:e.1.length≤40
   ·rw[AMD (by omega),ASn h40,ih o (by omega),ih (o+1) (by omega)]
    cases Ay c e.2.1 with
    |false=>rfl
    |true=>
     cases hd:e.2.2.1 with
     |true=>
      grind
     |false=>
      grind
   grind
  ·rw[AMD (by omega)]
   grind[Qf,AAV]
theorem Lk{c:B9}{w:AM}(hc:c.1.length≤2^40)(hl:Af BJ w.2.1≤2^30):HS c w=some ((FF c w,()),()):=by
 have hll:=AX (f:=BJ) (l:=w.2.1);unfold HS VM FF;have h:=bU (ep:=w.1) hc hl Ae 0 0 (by omega) (Ag (by omega)) (by omega);rw[show((0:Nat):Int)=0 from rfl]at h;rw[show(c.1,c.2.1,())=c from rfl,HB hc,Bd,h];grind
theorem bT{c:B9}{ep:Int}{l:List A7}(hc:c.1.length≤2^40)(hl:Af BJ l≤2^30):∀(n i o:Nat),i≤l.length→l.length-i<n→o≤i→
  Ku n o l l.length i c.1 c.2.1 ep l=some (((l.drop i).all (Vr c)&&(Ee c&&(BM ep 1 30&&(decide (l.length≤60)&&le6 (o+Qf (l.drop i))))),()),())
 |0,i,_,_,h,_=>by omega
 |n+1,i,o,hi,h,ho=>by
  have hll:=AX (f:=BJ) (l:=l);simp only[Ku,Vf];by_cases rb:i<l.length
  ·have hm:=Aa (f:=BJ) (AMh rb)
   rw[show decide ((i:Int)<(l.length:Int))=true by simp_all,AMp,ALy (by omega),Ai rb,drop_cons rb];have ih:=fun o=>bT (ep:=ep) hc hl n (i+1) o (by omega) (by omega)
   generalize l[i]=e at hm
   simp only[BJ]at hm;rw[show(c.1,c.2.1,())=c from rfl,EA hc (by omega),GK hc (by omega),mO,AK (x:=(i:Int)+1) (by omega) (by omega),show((i:Int)+1)=((i+1:Nat):Int)by omega];simp only[AMv,ATa,Vr,Qf,F4];have e40:decide ((e.1.length:Int)≤40)=decide (e.1.length≤40):=by
    grind
   rw[e40];cases hd:e.2.2.1 with
   |true=>
    rw[show AZ ((o:Int)+ADU (!true))=(o:Int)by rw[AMP,show ADU false=0 from rfl,Int.add_zero,AK (by omega) (by omega)],ih o (by omega)];grind
   |false=>
    rw[show AZ ((o:Int)+ADU (!false))=((o+1:Nat):Int)by rw[AS5,show ADU true=1 from rfl,AK (by omega) (by omega)];omega,ih (o+1) (by omega)];grind
  ·have:i=l.length:=by omega
   subst this;rw[show decide (((l.length:Nat):Int)<(l.length:Int))=false by simp,show(c.1,c.2.1,())=c from rfl,Kx hc];simp only[AMU,AMv,HT,Av,AUB,List.all_nil,Qf,AUN,AMk];grind[decide,AAV,Ee,BM]
theorem Il{c:B9}{w:AM}(hc:c.1.length≤2^40)(hl:Af BJ w.2.1≤2^30):GP c w=some ((FF c w,()),()):=by
 have hll:=AX (f:=BJ) (l:=w.2.1);unfold GP Vb FF;have h:=bT (ep:=w.1) hc hl Ae 0 0 (by omega) (Ag (by omega)) (by omega);grind
theorem fQ{c:B9}{w:AM}(h:FF c w=true):Ee c=true∧(1≤w.1∧w.1≤30)∧w.2.1.length≤60∧ ∀e∈w.2.1,Vr c e=true:=by
 simp only[FF,BM,AML,AMc,ATV]at h;simp_all
theorem uH{c:B9}{e:A7}(h:Vr c e=true):e.1.length≤40∧e.2.1.length≤8∧(∀x∈e.2.1,0≤x∧x<8)∧e.2.2.1=holds c e.2.1:=by
 simp only[Vr,AML,AMc,ATQ]at h;obtain⟨k1,k2,k3,k4,k5⟩:=ah h.2.1;grind
end Go.M
end
section
namespace Go.M
open Go.M.H (AJ AO As Ac AA CN AQ A7 AM AY A3 Af AX Aa Ap Al CJ EO Cv B8 BJ Ar A0 CO)
theorem AIa(a b:Int):decide (a≤b)= !decide (b<a):=by
 grind
theorem AT1(n k:Nat):decide ((n:Int)≤(k:Int))=decide (n≤k):=by
 simp_all
theorem AAQ(n k:Nat):decide ((n:Int)>(k:Int))= !decide (n≤k):=by
 grind
def A6(x:Int):Int:=cond (BN x) (x.tmod 4294967296) 0
theorem ZZ{x:Int}(h:C0 x):HD x=some ((A6 x,()),()):=by
 grind[HD,A6,H7,BN]
theorem Tg{x:Int}(h:C0 x):TH x=some ((A6 x,()),()):=by
 grind[TH,A6,MT,BN]
abbrev Dn:AJ:=(0,0,false,[],())
def ET(e:AJ):Bool:=BN e.1&&(BM e.2.1 0 30&&((!decide (e.2.1>0)||decide (AN e.1<e.2.1))&&(decide (e.2.2.2.1.length≤40)&&(!e.2.2.1||(decide (e.2.1>0)&&e.2.2.2.1==[])))))
theorem P7{e:AJ}(h:C0 e.1):L0 e=some ((ET e,()),()):=by
 unfold L0 ET;grind[H7,Bd,Ew,AIa,AN,decide,AAQ,BN,BM]
theorem AV8{x:Int}(h:BM x 0 30=true):(x==0)= !decide (x>0):=by
 simp only[BM,AMc]at h;grind
theorem Pw{e:AJ}(h:C0 e.1):Ly e=some ((ET e,()),()):=by
 unfold Ly ET F4;rw[MT h,Av,EB h];simp only[AMv];rw[show decide ((e.2.2.2.1.length:Int)≤40)=decide (e.2.2.2.1.length≤40)from AT1 _ 40,show decide (e.2.1>AN e.1)=decide (AN e.1<e.2.1)from rfl];rcases AKU (BM e.2.1 0 30)with hi|hi
 all_goals grind[AV8,BN,decide,AN]
def W5(l:List AJ):Bool:=DZ (fun i=>ET (l.getD i Dn)) 0 l.length
def ic(l:List AJ):Bool:=DZ (fun i=>i==0||decide ((l.getD (i-1) Dn).1<(l.getD i Dn).1)) 0 l.length
def rm(l:List AJ):Prop:= ∀e∈l,C0 e.1
theorem rm.getD{l:List AJ}(h:rm l){i:Nat}(hi:i<l.length):C0 (l.getD i Dn).1:=h _ (BG hi)
theorem cV{l:List AJ}{k:Nat}(hl:l.length≤2^40)(h:rm l):Un l k=some ((decide (l.length≤k)&&W5 l,()),()):=by
 unfold Un Xv;have:=F8 (L:=fun n i=>LB n l i) (len:=l.length) (p:=fun i=>ET (l.getD i Dn)) (fin:=true) (fun n i hi=>by
  simp only[LB,R_,AB];rw[ALy (by omega),ALy (by omega),AK (by omega) (by omega),show((i:Int)+1)=((i+1:Nat):Int)by omega];simp only[AMV];rw[show((l.getD i (0,0,false,[],())).1,(l.getD i (0,0,false,[],())).2.1,(l.getD i (0,0,false,[],())).2.2.1,(l.getD i (0,0,false,[],())).2.2.2.1,())=l.getD i Dn from rfl,P7 (h.getD hi)];simp_all) (fun n=>by
  simp only[LB,R_,AB];simp_all) l.length Ae 0 (by omega) (Ag (by omega))
 rw[show((0:Nat):Int)=0 from rfl]at this;rw[this,AAQ,ATW];cases decide (l.length≤k)<;>rfl
theorem fR{l:List AJ}(hl:l.length≤2^40):W8 l=some ((ic l,()),()):=by
 unfold W8 aH ic;have h1:∀n (i:Nat),0<i→i<l.length→GM (n+1) l i=cond (i==0||decide ((l.getD (i-1) Dn).1<(l.getD i Dn).1)) (GM n l ((i+1:Nat):Int)) (some ((false,()),())):=fun n i h0 hi=>by
  simp only[GM,O7,AB];rw[ALy (by omega),AK (x:=(i:Int)-1) (by omega) (by omega),ALy (by omega),ALy (by omega),AK (by omega) (by omega),show((i:Int)+1)=((i+1:Nat):Int)by omega];have h1:((i:Int)-1).toNat=i-1:=by omega
  have h2:(i==0)=false:=by grind
  rw[h1,h2,AMV,AS7];grind
 cases hlen:l.length with
 |zero=>
  obtain⟨m,hm⟩:∃m,Ae=m+1:=⟨Ae-1,by have:=dw;omega⟩;rw[hm];simp only[GM,O7,AB];rw[AMD (by omega)];rfl
 |succ k=>
  have:=F8 (L:=fun n i=>if(0:Int)<i then GM n l i else cond (decide (0<n)) (GM (n-1) l 1) none) (len:=l.length) (p:=fun i=>i==0||decide ((l.getD (i-1) Dn).1<(l.getD i Dn).1)) (fin:=true) (fun n i hi=>by
   simp_all) (fun n=>by
   rw[ALy (by omega)];simp only[GM,O7,AB];simp_all) l.length (Ae+1) 0 (by omega) (by have:=dw;omega)
  simp_all
theorem YT{l:List AJ}(hl:l.length≤2^40)(h:rm l):OH l=some ((W5 l,()),()):=by
 unfold OH UZ;have:=F8 (L:=fun n i=>H0 n l l.length i) (len:=l.length) (p:=fun i=>ET (l.getD i Dn)) (fin:=true) (fun n i hi=>by
  simp only[H0,N3,AB];rw[ALy (by omega),ALy (by omega),AK (by omega) (by omega),show((i:Int)+1)=((i+1:Nat):Int)by omega];simp only[AMV];rw[show((l.getD i (0,0,false,[],())).1,(l.getD i (0,0,false,[],())).2.1,(l.getD i (0,0,false,[],())).2.2.1,(l.getD i (0,0,false,[],())).2.2.2.1,())=l.getD i Dn from rfl,Pw (h.getD hi)];simp_all) (fun n=>by
  simp only[H0,N3,AB];simp_all) l.length Ae 0 (by omega) (Ag (by omega))
 rw[show((0:Nat):Int)=0 from rfl]at this;rw[this,ATW];rfl
theorem UY{l:List AJ}(hl:l.length≤2^40):KH l=some ((ic l,()),()):=by
 unfold KH Qa;have:=F8 (L:=fun n i=>GB n l l l.length i) (len:=l.length) (p:=fun i=>i==0||decide ((l.getD (i-1) Dn).1<(l.getD i Dn).1)) (fin:=true) (fun n i hi=>by
  simp only[GB,LH,AB];rw[ALy (by omega),ALy (by omega),AK (x:=(i:Int)+1) (by omega) (by omega),show((i:Int)+1)=((i+1:Nat):Int)by omega];by_cases h0:i=0
  ·simp_all
  ·rw[ALy (by omega),AK (by omega) (by omega),ALy (by omega)]
   have h1:((i:Int)-1).toNat=i-1:=by omega
   have h2:(i==0)=false:=by simp_all
   rw[h1,h2,AMV,AS7];grind) (fun n=>by
  simp only[GB,LH,AB];simp_all) l.length Ae 0 (by omega) (Ag (by omega))
 rw[show((0:Nat):Int)=0 from rfl]at this;rw[this,ATW];rfl
def CB(s:AO):Bool:=(decide (s.1.length≤200)&&W5 s.1)&&((decide (s.2.1.length≤20)&&W5 s.2.1)&&(ic s.1&&BM s.2.2.1 0 30))
def qq(s:AO):Prop:=rm s.1∧rm s.2.1
theorem Fi{s:AO}(hl:Al s≤2^30)(h:qq s):Gk s=some ((CB s,()),()):=by
 have l1:=AX (f:=Ap) (l:=s.1);have l2:=AX (f:=Ap) (l:=s.2.1);unfold Al at hl;have e1:=cV (l:=s.1) (k:=200) (by omega) h.1;have e2:=cV (l:=s.2.1) (k:=20) (by omega) h.2;rw[show((200:Nat):Int)=200 from rfl]at e1;rw[show((20:Nat):Int)=20 from rfl]at e2;grind[Gk,CB,fR,Bd,decide,W5,ic]
theorem Ez{s:AO}(hl:Al s≤2^30)(h:qq s):FC s=some ((CB s,()),()):=by
 have l1:=AX (f:=Ap) (l:=s.1);have l2:=AX (f:=Ap) (l:=s.2.1);unfold Al at hl;unfold FC CB;rw[YT (by omega) h.1,YT (by omega) h.2,UY (by omega),Av,show decide ((s.1.length:Int)>200)= !decide (s.1.length≤200)from AAQ _ 200,show decide ((s.2.1.length:Int)>20)= !decide (s.2.1.length≤20)from AAQ _ 20];grind
end Go.M
end
section
namespace Go.M
open Go.M.H (AJ AO As Ac AA CN AQ A7 AM AY A3 Af AX Aa Ap Al CJ EO Cv B8 BJ Ar A0 CO C_)
theorem jz{L:Nat→Int→Option (ABG×Unit)}{len N:Nat}{p:Nat→Bool}{fin:Bool}(h1:∀n (i:Nat),i<len→L (n+1) i=cond (p i) (L n ((i+1:Nat):Int)) (some ((false,()),())))(h2:∀n,N≤n→L (n+1) (len:Int)=some ((fin,()),())):
  ∀d n i,i+d=len→d+N<n→L n i=some ((DZ p i d&&fin,()),())
 |0,n,i,hd,h=>by
  obtain⟨m,rfl⟩:∃m,n=m+1:=⟨n-1,by omega⟩;have:i=len:=by omega
  subst this;rw[h2 m (by omega)];rfl
 |d+1,n,i,hd,h=>by
  obtain⟨m,rfl⟩:∃m,n=m+1:=⟨n-1,by omega⟩;rw[h1 m i (by omega)];simp only[DZ];cases p i with
  |false=>rfl
  |true=>rw[AMp,jz h1 h2 d m (i+1) (by omega) (by omega)];rfl
def Lf(l:List AJ):Int:=cond (l.length==0) 0 (A6 (l.getD (l.length-1) Dn).1)
theorem dm{m:As}(hl:m.2.2.2.1.length≤2^40)(h:rm m.2.2.2.1):Qn m=some ((Lf m.2.2.2.1,()),()):=by
 unfold Qn Lf;by_cases h0:m.2.2.2.1.length=0
 ·simp[h0]
 ·have e1:((m.2.2.2.1.length:Int)==0)=false:=by simp_all
  have e2:(m.2.2.2.1.length==0)=false:=by simp_all
  rw[e1,e2];simp only[AMU];rw[AK (by omega) (by omega),ALy (by omega),show((m.2.2.2.1.length:Int)-1).toNat=m.2.2.2.1.length-1 by omega,ZZ (h.getD (by omega))];rfl
theorem bp{m:As}(hl:m.2.2.2.1.length≤2^40)(h:rm m.2.2.2.1):SH m=some ((Lf m.2.2.2.1,()),()):=by
 unfold SH Lf;by_cases h0:m.2.2.2.1.length=0
 ·simp[h0]
 ·have e1:((m.2.2.2.1.length:Int)==0)=false:=by simp_all
  have e2:(m.2.2.2.1.length==0)=false:=by simp_all
  rw[e1,e2];simp only[AMU];rw[AK (by omega) (by omega),ALy (by omega),show((m.2.2.2.1.length:Int)-1).toNat=m.2.2.2.1.length-1 by omega,Tg (h.getD (by omega))];rfl
def s6(l:List AJ)(ep by_:Int)(i:Nat):Bool:=ET (l.getD i Dn)&&((AN (l.getD i Dn).1==ep)&&decide ((l.getD i Dn).2.1<by_))
def sM(l:List AJ)(ep by_:Int):Bool:=DZ (s6 l ep by_) 0 l.length
def nu(c:B9)(l:List AAO):Bool:=DZ (fun i=>Ay c (l.getD i [])) 0 l.length
def Gx(c:B9)(m:As):Bool:=Ee c&&(BM m.2.1 1 30&&(BM m.1 (m.2.1+1) 30&&(Ay c m.2.2.1&&(ic m.2.2.2.1&&(sM m.2.2.2.1 m.2.1 m.1&&(nu c m.2.2.2.2.2.1&&((m.2.2.2.2.2.1.length:Int)==cond m.2.2.2.2.1 (Lf m.2.2.2.1) 0)))))))
theorem JV{c:B9}{m:As}(hc:c.1.length≤2^40)(hm:CJ m≤2^30)(h:rm m.2.2.2.1):Ig c m=some ((Gx c m,()),()):=by
 have l1:=AX (f:=Ap) (l:=m.2.2.2.1);have l2:=AX (f:=C_) (l:=m.2.2.2.2.2.1);unfold CJ at hm;have wr:∀n,m.2.2.2.2.2.1.length+1≤n→HU n 0 c.1 c.2.1 m.1 m.2.1 m.2.2.1 m.2.2.2.1 m.2.2.2.2.1 m.2.2.2.2.2.1=some ((nu c m.2.2.2.2.2.1&&((m.2.2.2.2.2.1.length:Int)==cond m.2.2.2.2.1 (Lf m.2.2.2.1) 0),()),()):=fun n hn=>by
  refine F8 (L:=fun n i=>HU n i c.1 c.2.1 m.1 m.2.1 m.2.2.1 m.2.2.2.1 m.2.2.2.2.1 m.2.2.2.2.2.1) (len:=m.2.2.2.2.2.1.length) (p:=fun i=>Ay c (m.2.2.2.2.2.1.getD i [])) (fin:=(m.2.2.2.2.2.1.length:Int)==cond m.2.2.2.2.1 (Lf m.2.2.2.1) 0) (fun n i hi=> ?_) (fun n=> ?_) m.2.2.2.2.2.1.length n 0 (by omega) (by omega)
  ·have hwi:(m.2.2.2.2.2.1.getD i []).length≤Af C_ m.2.2.2.2.2.1:=Aa (f:=C_) (BG (d:=[]) hi)
   simp only[HU,Rc,AB];rw[ALy (by omega),ALy (by omega),AK (by omega) (by omega),show((i:Int)+1)=((i+1:Nat):Int)by omega,AMV,show(c.1,c.2.1,())=c from rfl,Gv hc (by omega)];simp_all
  ·simp only[HU,Rc,AB]
   rw[AMD (by omega),show(m.1,m.2.1,m.2.2.1,m.2.2.2.1,m.2.2.2.2.1,m.2.2.2.2.2.1,())=m from rfl,dm (by omega) h];grind
 have se:=jz (L:=fun n i=>I5 n i c.1 c.2.1 m.1 m.2.1 m.2.2.1 m.2.2.2.1 m.2.2.2.2.1 m.2.2.2.2.2.1) (len:=m.2.2.2.1.length) (N:=m.2.2.2.2.2.1.length+1) (p:=s6 m.2.2.2.1 m.2.1 m.1) (fin:=nu c m.2.2.2.2.2.1&&((m.2.2.2.2.2.1.length:Int)==cond m.2.2.2.2.1 (Lf m.2.2.2.1) 0)) (fun n i hi=>by
   simp only[I5,RE,AB,s6];have hb:(0:Int)≤(i:Int)∧(i:Int)<(m.2.2.2.1.length:Int):=by omega
   rw[ALy hb.2,AK (by omega) (by omega),show((i:Int)+1)=((i+1:Nat):Int)by omega,AMV];simp only[ALy hb];rw[show((m.2.2.2.1.getD i (0,0,false,[],())).1,(m.2.2.2.1.getD i (0,0,false,[],())).2.1,(m.2.2.2.1.getD i (0,0,false,[],())).2.2.1,(m.2.2.2.1.getD i (0,0,false,[],())).2.2.2.1,())=m.2.2.2.1.getD i Dn from rfl,P7 (h.getD hi),Ew (h.getD hi)];grind) (fun n hn=>by
   simp only[I5,RE,AB];simp_all) m.2.2.2.1.length Ae 0 (by omega) (Ag (by omega))
 rw[show((0:Nat):Int)=0 from rfl]at se;unfold Ig YL Gx;rw[show(c.1,c.2.1,())=c from rfl,HB hc,Bd,Bd,Gv hc (by omega),fR (by omega),se];simp only[AMv];rcases AKU (BM m.2.1 1 30)with hi|hi
 ·have zW:=hi
  simp only[BM,AMc]at zW;rw[AK (by omega) (by omega),hi];cases Ee c<;>cases BM m.1 (m.2.1+1) 30<;>cases Ay c m.2.2.1<;>cases ic m.2.2.2.1<;>rfl
 simp_all
theorem pI{m:As}(hm:CJ m≤2^30)(h:rm m.2.2.2.1):Uh m=some ((sM m.2.2.2.1 m.2.1 m.1&&ic m.2.2.2.1,()),()):=by
 have l1:=AX (f:=Ap) (l:=m.2.2.2.1);unfold CJ at hm;unfold Uh Yr;exact F8 (L:=fun n i=>LQ n m.2.2.2.1 m.2.2.2.1.length i m.1 m.2.1 m.2.2.1 m.2.2.2.1 m.2.2.2.2.1 m.2.2.2.2.2.1) (len:=m.2.2.2.1.length) (p:=s6 m.2.2.2.1 m.2.1 m.1) (fin:=ic m.2.2.2.1) (fun n i hi=>by
  simp only[LQ,Rb,AB,s6];rw[ALy (by omega),ALy (by omega),AK (by omega) (by omega),show((i:Int)+1)=((i+1:Nat):Int)by omega,AMV];rw[show((m.2.2.2.1.getD i (0,0,false,[],())).1,(m.2.2.2.1.getD i (0,0,false,[],())).2.1,(m.2.2.2.1.getD i (0,0,false,[],())).2.2.1,(m.2.2.2.1.getD i (0,0,false,[],())).2.2.2.1,())=m.2.2.2.1.getD i Dn from rfl,Pw (h.getD hi),EB (h.getD hi)];grind) (fun n=>by
  simp only[LQ,Rb,AB];rw[AMD (by omega),UY (by omega)];rfl) m.2.2.2.1.length Ae 0 (by omega) (Ag (by omega))
theorem HV{c:B9}{m:As}(hc:c.1.length≤2^40)(hm:CJ m≤2^30)(h:rm m.2.2.2.1):Ha c m=some ((Gx c m,()),()):=by
 have l1:=AX (f:=Ap) (l:=m.2.2.2.1);have l2:=AX (f:=C_) (l:=m.2.2.2.2.2.1);have hm2:=hm;unfold CJ at hm;have key:=F8 (L:=fun n i=>Kz n m.2.2.2.2.2.1 m.2.2.2.2.2.1.length i c.1 c.2.1 m.1 m.2.1 m.2.2.1 m.2.2.2.1 m.2.2.2.2.1 m.2.2.2.2.2.1) (len:=m.2.2.2.2.2.1.length) (p:=fun i=>Ay c (m.2.2.2.2.2.1.getD i []))
  (fin:=Ee c&&(BM m.2.1 1 30&&(BM m.1 (m.2.1+1) 30&&(Ay c m.2.2.1&&((sM m.2.2.2.1 m.2.1 m.1&&ic m.2.2.2.1)&&((m.2.2.2.2.2.1.length:Int)==cond m.2.2.2.2.1 (Lf m.2.2.2.1) 0)))))) (fun n i hi=>by
   have hwi:(m.2.2.2.2.2.1.getD i []).length≤Af C_ m.2.2.2.2.2.1:=Aa (f:=C_) (BG (d:=[]) hi);simp only[Kz,RX,AB];rw[ALy (by omega),ALy (by omega),AK (x:=(i:Int)+1) (by omega) (by omega),show((i:Int)+1)=((i+1:Nat):Int)by omega,AMV,show(c.1,c.2.1,())=c from rfl,EA hc (by omega)];simp_all) (fun n=>by
   simp only[Kz,RX,AB];rw[AMD (by omega),show(m.1,m.2.1,m.2.2.1,m.2.2.2.1,m.2.2.2.2.1,m.2.2.2.2.2.1,())=m from rfl,bp (by omega) h,show(c.1,c.2.1,())=c from rfl,Kx hc,EA hc (by omega),pI hm2 h];simp only[AMv,HT,Av];rcases AKU (BM m.2.1 1 30)with hi|hi
   ·have zW:=hi
    simp only[BM,AMc]at zW;grind[AK,Ee,BM,Ay,sM,ic]
   simp_all) m.2.2.2.2.2.1.length Ae 0 (by omega) (Ag (by omega))
 unfold Ha YW Gx;rw[show((0:Nat):Int)=0 from rfl]at key;grind[nu,DZ,Ay,Ee,BM,sM,ic]
end Go.M
end
section
namespace Go.M
open Go.M.H (AJ AO As Ac AA CN AQ A7 AM AY A3 Af AX Aa Ap Al CJ EO Cv B8 BJ Ar A0 CO C_)
theorem AFS{x:Int}{l:AAO}(hl:l.length≤2^40):∃r,Mp [x] l=some (((),()),(r,()))∧decide ((r.length:Int)>0)=l.contains x:=by
 obtain⟨m,hm⟩:∃m,Ae=m+2:=⟨Ae-2,by have:=dw;omega⟩;unfold Mp DB;rw[ALy (by rw[BT];simp)];simp only[AMv];unfold Ch Dw Dg D2;rw[hm];simp only[B6,D4,Qo,ANZ,AQZ,AB];rw[ALy (by omega),ALy (by omega)];simp only[Int.toNat_zero,List.getD_cons_zero];rw[Ib hl];simp only[AMv];cases l.contains x with
 |true=>
  simp only[AMP,AMU];rw[AK (x:=0+1) (by omega) (by omega),AMD (by omega)];simp_all
 |false=>
  simp only[AS5,AMp,AMv];rw[AK (x:=0+1) (by omega) (by omega)];simp only[Bt,Du,AB,ANZ,AQZ];simp_all
theorem Z7{w:AA}{x:Int}(hl:w.2.2.2.1.length≤2^40):C3 w x=some ((w.2.2.2.1.contains x,()),()):=by
 unfold C3;obtain⟨r,h1,h2⟩:=AFS (x:=x) hl;simp_all
theorem KJ{l:AAO}{x:Int}(hl:l.length≤2^40):DG l x=some ((l.contains x,()),()):=by
 have key:∀(n i:Nat),i≤l.length→l.length-i<n→PW n l x i=some (((l.drop i).contains x,()),()):=by
  intro n
  induction n with
  |zero=>omega
  |succ n ih=>
   intro i hi h;simp only[PW,Zw,AB];by_cases hc:i<l.length
   ·rw[ALy (by omega),ALy (by omega),AK (by omega) (by omega),show((i:Int)+1)=((i+1:Nat):Int)by omega,Ai hc,drop_cons hc,ih (i+1) (by omega) (by omega)]
    simp only[List.contains_cons];by_cases he:l[i]=x
    all_goals grind
   grind
 grind[DG,Zu,Ae,Ag]
def W3(l:List CN):Nat→Nat→Int
 |_,0=>0
 |i,d+1=>cond (!(l.getD i ([],false,0,())).2.1) ((i:Int)+1) (W3 l (i+1) d)
def A8(l:List CN):Int:=W3 l 0 l.length
theorem NJ{r:AQ}(hl:r.1.length≤2^40):I7 r=some ((A8 r.1,()),()):=by
 have key:∀(d n i:Nat),i+d=r.1.length→d<n→Hy n i r.1 r.2.1=some ((W3 r.1 i d,()),()):=by
  intro d
  induction d with
  |zero=>
   intro n i hi hn;obtain⟨m,rfl⟩:∃m,n=m+1:=⟨n-1,by omega⟩;simp only[Hy,OE,AB,W3];simp_all
  |succ d ih=>
   intro n i hi hn;obtain⟨m,rfl⟩:∃m,n=m+1:=⟨n-1,by omega⟩;simp only[Hy,OE,AB,W3];rw[ALy (by omega),ALy (by omega),AK (by omega) (by omega),show((i:Int)+1)=((i+1:Nat):Int)by omega,ih m (i+1) (by omega) (by omega),AMV];grind
 grind[I7,UR,A8,Ae,Ag]
theorem Rx{r:AQ}(hl:r.1.length≤2^40):LY r=some ((A8 r.1,()),()):=by
 have key:∀(d n i:Nat),i+d=r.1.length→d<n→Hu n r.1 r.1.length i=some ((W3 r.1 i d,()),()):=by
  intro d
  induction d with
  |zero=>
   intro n i hi hn;obtain⟨m,rfl⟩:∃m,n=m+1:=⟨n-1,by omega⟩;simp only[Hu,OC,AB,W3];simp_all
  |succ d ih=>
   intro n i hi hn;obtain⟨m,rfl⟩:∃m,n=m+1:=⟨n-1,by omega⟩;simp only[Hu,OC,AB,W3];rw[ALy (by omega),ALy (by omega),AK (by omega) (by omega),show((i:Int)+1)=((i+1:Nat):Int)by omega,ih m (i+1) (by omega) (by omega),AMV];grind
 grind[LY,Ul,A8,Ae,Ag]
structure gf (w:AA):Prop where
 weight:Cv w≤2^20
 Am:∀s∈w.2.2.1,qq s
 trim:C0 w.2.2.2.2.2.1
 BW:∀m∈w.2.2.2.2.2.2.2.1,rm m.2.2.2.1
 HO:∀s∈w.2.2.2.2.2.2.2.2.2.1,C0 s.1
abbrev Cl:AO:=([],[],0,())
abbrev Bu:AM:=(0,[],())
abbrev Qz:As:=(0,0,[],[],false,[],())
abbrev Au:AY:=(0,0,[],())
abbrev Mk:Ac:=(0,[],false,())
def AS(w:AA):B9:=(w.1,w.2.1,())
def B3(w:AA):AQ:=(w.2.2.2.2.1,w.2.2.2.2.2.1,())
def j8(w:AA)(i:Nat):Bool:=CB (w.2.2.1.getD i Cl)&&(!w.2.2.2.1.contains (i:Int)||((w.2.2.1.getD i Cl).1.length==0&&((w.2.2.1.getD i Cl).2.1.length==0&&(w.2.2.1.getD i Cl).2.2.1==0)))
def eN(w:AA)(i:Nat):Bool:=FF (AS w) (w.2.2.2.2.2.2.1.getD i Bu)&&(decide ((w.2.2.2.2.2.2.1.getD i Bu).1≤(w.2.2.2.2.1.length:Int))&&(i==0||decide ((w.2.2.2.2.2.2.1.getD (i-1) Bu).1<(w.2.2.2.2.2.2.1.getD i Bu).1)))
def sG(w:AA)(i:Nat):Bool:=Gx (AS w) (w.2.2.2.2.2.2.2.1.getD i Qz)&&(((w.2.2.2.2.2.2.2.1.getD i Qz).1==(w.2.2.2.2.1.length:Int))&&((w.2.2.2.2.2.2.2.1.getD i Qz).2.1==A8 w.2.2.2.2.1))
def sX(w:AA)(i:Nat):Bool:=(BN (w.2.2.2.2.2.2.2.2.2.1.getD i Mk).1&&decide (AN (w.2.2.2.2.2.2.2.2.2.1.getD i Mk).1≤(w.2.2.2.2.1.length:Int)))&&(decide ((w.2.2.2.2.2.2.2.2.2.1.getD i Mk).2.1.length≤40)&&(i==0||decide ((w.2.2.2.2.2.2.2.2.2.1.getD (i-1) Mk).1<(w.2.2.2.2.2.2.2.2.2.1.getD i Mk).1)))
def dv(w:AA):Bool:=DZ (j8 w) 0 w.2.2.1.length
def Zg(w:AA):Bool:=DZ (eN w) 0 w.2.2.2.2.2.2.1.length
def gT(w:AA):Bool:=DZ (sG w) 0 w.2.2.2.2.2.2.2.1.length
def sr(w:AA):Bool:=DZ (sX w) 0 w.2.2.2.2.2.2.2.2.2.1.length
def Z_(w:AA):Bool:=decide (w.2.2.2.2.2.2.2.2.1.length=2)&&(XF (w.2.2.2.2.2.2.2.2.1.getD 0 Au)&&XF (w.2.2.2.2.2.2.2.2.1.getD 1 Au))
def Fg(w:AA):Bool:=Ee (AS w)&&(decide (w.2.2.1.length=w.1.length)&&(Ay (AS w) w.2.2.2.1&&((w.2.2.2.2.2.2.2.2.2.2.1|| !holds (AS w) w.2.2.2.1)&&(dv w&&(Mc (AS w) (B3 w)&&(decide (w.2.2.2.2.2.2.1.length≤4)&&(decide (w.2.2.2.2.2.2.2.1.length≤1)&&(Zg w&&(gT w&&(Z_ w&&(decide (w.2.2.2.2.2.2.2.2.2.1.length≤120)&&sr w)))))))))))
section
variable{w:AA} (h:gf w)
include h
theorem gf.lens:w.1.length≤2^20∧Af Al w.2.2.1≤2^20∧w.2.2.2.1.length≤2^20∧Af B8 w.2.2.2.2.1≤2^20∧Af Ar w.2.2.2.2.2.2.1≤2^20∧Af CJ w.2.2.2.2.2.2.2.1≤2^20∧Af A0 w.2.2.2.2.2.2.2.2.1≤2^20∧Af EO w.2.2.2.2.2.2.2.2.2.1≤2^20:=by
 have:=h.weight;grind[Cv]
theorem gf.Qp:w.2.2.1.length≤2^20∧w.2.2.2.2.1.length≤2^20∧w.2.2.2.2.2.2.1.length≤2^20∧w.2.2.2.2.2.2.2.1.length≤2^20∧w.2.2.2.2.2.2.2.2.1.length≤2^20∧w.2.2.2.2.2.2.2.2.2.1.length≤2^20:=by
 have k:=h.lens;grind[AX,Al,B8,Ar,CJ,A0,EO]
theorem gf.cfg:(AS w).1.length≤2^40:=by
 have:=h.lens
 show w.1.length≤2^40
 omega
theorem wk:Kn w=some ((decide (w.2.2.1.length=w.1.length)&&(Ay (AS w) w.2.2.2.1&&(dv w&&(w.2.2.2.2.2.2.2.2.2.2.1|| !holds (AS w) w.2.2.2.1))),()),()):=by
 have k1:=h.lens;have k2:=h.Qp;have key:=F8 (L:=fun n i=>E8 n w w.2.2.1 w.2.2.1.length i) (len:=w.2.2.1.length) (p:=j8 w) (fin:=w.2.2.2.2.2.2.2.2.2.2.1|| !holds (AS w) w.2.2.2.1) (fun n i hi=>by
  have hm:=BG (d:=Cl) hi;have hw:=Aa (f:=Al) hm;simp only[E8,Jg,AB,j8];rw[ALy (by omega),ALy (by omega),AK (x:=(i:Int)+1) (by omega) (by omega),show((i:Int)+1)=((i+1:Nat):Int)by omega,AMV,Z7 (by omega)];rw[show((w.2.2.1.getD i ([],[],0,())).1,(w.2.2.1.getD i ([],[],0,())).2.1,(w.2.2.1.getD i ([],[],0,())).2.2.1,())=w.2.2.1.getD i Cl from rfl,Ez (by omega) (h.Am _ hm)];simp only[AMv]
  show cond (!CB (w.2.2.1.getD i Cl)) _ _=_
  rcases AKU (CB (w.2.2.1.getD i Cl))with hs|hs
  rotate_left
  ·simp_all
  rw[hs];have hs2:=hs;simp only[CB,BM,AML,AMc]at hs2
  generalize w.2.2.1.getD i Cl=s at hw hs2
  cases w.2.2.2.1.contains ((i:Nat):Int)with
  |false=>rfl
  |true=>
   simp only[AMP,AMU,AMp,AMk,AS7];unfold Al at hw;have q1:=AX (f:=Ap) (l:=s.1);have q2:=AX (f:=Ap) (l:=s.2.1);rw[AK (x:=(s.1.length:Int)+_) (by omega) (by omega),AK (by omega) (by omega)];grind) (fun n=>by
  simp only[E8,Jg,AB];rw[AMD (by omega),show(w.1,w.2.1,())=AS w from rfl,GK h.cfg (by omega)];grind) w.2.2.1.length Ae 0 (by omega) (Ag (by omega))
 rw[show((0:Nat):Int)=0 from rfl]at key;unfold Kn PD dv;rw[show(w.1,w.2.1,())=AS w from rfl,EA h.cfg (by omega),key];grind[decide_eq_true,Ay,AS,decide_eq_false]
end
end Go.M
end
section
namespace Go.M
open Go.M.H (AJ AO As Ac AA CN AQ A7 AM AY A3 Af AX Aa Ap Al CJ EO Cv B8 BJ Ar A0 CO C_)
theorem AAF{x lo hi:Int}(h:lo≤x):BM x lo hi=decide (x≤hi):=by
 grind[BM,decide_eq_true,decide_eq_false]
theorem AFT{x lo hi:Int}(h:x<lo):BM x lo hi=false:=by
 grind[BM,decide_eq_false]
section
variable{w:AA} (h:gf w)
include h
theorem t_:KP w=some ((Zg w&&decide (w.2.2.2.2.2.2.1.length≤4),()),()):=by
 have k1:=h.lens;have k2:=h.Qp;have key:=F8 (L:=fun n i=>Ec n w w.2.2.2.2.2.2.1 w.2.2.2.2.2.2.1.length i) (len:=w.2.2.2.2.2.2.1.length) (p:=eN w) (fin:=decide (w.2.2.2.2.2.2.1.length≤4)) (fun n i hi=>by
  have hm:=BG (d:=Bu) hi;have hw:=Aa (f:=Ar) hm;unfold Ar at hw;simp only[Ec,JI,AB,eN,JN,Av];rw[ALy (by omega),ALy (by omega),AK (x:=(i:Int)+1) (by omega) (by omega),show((i:Int)+1)=((i+1:Nat):Int)by omega,AMV];have hw2:Af BJ (w.2.2.2.2.2.2.1.getD i Bu).2.1≤2^30:=by
   have:=k1.2.2.2.2.1;unfold Ar at this;omega
  rw[show((w.2.2.2.2.2.2.1.getD i (0,[],())).1,(w.2.2.2.2.2.2.1.getD i (0,[],())).2.1,())=w.2.2.2.2.2.2.1.getD i Bu from rfl,show(w.1,w.2.1,())=AS w from rfl,Il h.cfg hw2];simp only[AMv];rcases AKU (FF (AS w) (w.2.2.2.2.2.2.1.getD i Bu))with hs|hs
  rotate_left
  ·simp_all
  have he:=(fQ hs).2.1;rw[hs,show BM (w.2.2.2.2.2.2.1.getD i (0,[],())).1 1 (w.2.2.2.2.1.length:Int)=decide ((w.2.2.2.2.2.2.1.getD i Bu).1≤(w.2.2.2.2.1.length:Int))from AAF he.1];simp only[AMP,AMU,AMk];cases decide ((w.2.2.2.2.2.2.1.getD i Bu).1≤(w.2.2.2.2.1.length:Int))with
  |false=>rfl
  |true=>
   simp only[AMP,AMU,AMk];by_cases h0:i=0
   ·simp_all
   ·rw[ALy (by omega),AK (by omega) (by omega),ALy (by omega)]
    have h1:((i:Int)-1).toNat=i-1:=by omega
    have h2:(i==0)=false:=by simp_all
    rw[h1,h2,AS7];grind) (fun n=>by
  simp only[Ec,JI,AB];simp_all;omega) w.2.2.2.2.2.2.1.length Ae 0 (by omega) (Ag (by omega))
 rw[show((0:Nat):Int)=0 from rfl]at key;grind[KP,OD,Zg]
theorem zH:L2 w=some ((gT w&&decide (w.2.2.2.2.2.2.2.1.length≤1),()),()):=by
 have k1:=h.lens;have k2:=h.Qp;have key:=F8 (L:=fun n i=>FU n w w.2.2.2.2.2.2.2.1 w.2.2.2.2.2.2.2.1.length i) (len:=w.2.2.2.2.2.2.2.1.length) (p:=sG w) (fin:=decide (w.2.2.2.2.2.2.2.1.length≤1)) (fun n i hi=>by
  have hm:=BG (d:=Qz) hi;have hw:=Aa (f:=CJ) hm;simp only[FU,Kd,AB,sG];rw[ALy (by omega),ALy (by omega),AK (x:=(i:Int)+1) (by omega) (by omega),show((i:Int)+1)=((i+1:Nat):Int)by omega,AMV];rw[show((w.2.2.2.2.2.2.2.1.getD i (0,0,[],[],false,[],())).1,(w.2.2.2.2.2.2.2.1.getD i (0,0,[],[],false,[],())).2.1,(w.2.2.2.2.2.2.2.1.getD i (0,0,[],[],false,[],())).2.2.1,(w.2.2.2.2.2.2.2.1.getD i (0,0,[],[],false,[],())).2.2.2.1,(w.2.2.2.2.2.2.2.1.getD i (0,0,[],[],false,[],())).2.2.2.2.1,(w.2.2.2.2.2.2.2.1.getD i (0,0,[],[],false,[],())).2.2.2.2.2.1,())=w.2.2.2.2.2.2.2.1.getD i Qz from rfl,show(w.1,w.2.1,())=AS w from rfl,HV h.cfg (by omega) (h.BW _ hm)];rw[Rx (by grind)];grind) (fun n=>by
  simp only[FU,Kd,AB];simp_all;omega) w.2.2.2.2.2.2.2.1.length Ae 0 (by omega) (Ag (by omega))
 rw[show((0:Nat):Int)=0 from rfl]at key;grind[L2,Ph,gT]
theorem tY:KK w=some ((Z_ w,()),()):=by
 have k2:=h.Qp;have key:=F8 (L:=fun n i=>Eb n w w.2.2.2.2.2.2.2.2.1 w.2.2.2.2.2.2.2.2.1.length i) (len:=w.2.2.2.2.2.2.2.2.1.length) (p:=fun i=>XF (w.2.2.2.2.2.2.2.2.1.getD i Au)) (fin:=((w.2.2.2.2.2.2.2.2.1.length:Int)==2)) (fun n i hi=>by
  simp only[Eb,JU,AB];rw[ALy (by omega),ALy (by omega),AK (x:=(i:Int)+1) (by omega) (by omega),show((i:Int)+1)=((i+1:Nat):Int)by omega,AMV];rw[show((w.2.2.2.2.2.2.2.2.1.getD i (0,0,[],())).1,(w.2.2.2.2.2.2.2.2.1.getD i (0,0,[],())).2.1,(w.2.2.2.2.2.2.2.2.1.getD i (0,0,[],())).2.2.1,())=w.2.2.2.2.2.2.2.2.1.getD i Au from rfl,aJ];simp_all) (fun n=>by
  simp only[Eb,JU,AB];simp_all) w.2.2.2.2.2.2.2.2.1.length Ae 0 (by omega) (Ag (by omega))
 rw[show((0:Nat):Int)=0 from rfl]at key;unfold KK Nf Z_;grind[DZ,decide_eq_false]
theorem ACE:NQ w=some ((sr w&&decide (w.2.2.2.2.2.2.2.2.2.1.length≤120),()),()):=by
 have k2:=h.Qp;have key:=F8 (L:=fun n i=>Ft n w w.2.2.2.2.2.2.2.2.2.1 w.2.2.2.2.2.2.2.2.2.1.length i) (len:=w.2.2.2.2.2.2.2.2.2.1.length) (p:=sX w) (fin:=decide (w.2.2.2.2.2.2.2.2.2.1.length≤120)) (fun n i hi=>by
  have hm:=BG (d:=Mk) hi;have PY:C0 (w.2.2.2.2.2.2.2.2.2.1.getD i (0,[],false,())).1:=h.HO _ hm;simp only[Ft,Lm,AB,sX,JN,Av,F4];rw[ALy (by omega),ALy (by omega),AK (x:=(i:Int)+1) (by omega) (by omega),show((i:Int)+1)=((i+1:Nat):Int)by omega,AMV,EB PY];simp only[AMv];have e1:BM (AN (w.2.2.2.2.2.2.2.2.2.1.getD i (0,[],false,())).1) 1 (w.2.2.2.2.1.length:Int)=(BN (w.2.2.2.2.2.2.2.2.2.1.getD i Mk).1&&decide (AN (w.2.2.2.2.2.2.2.2.2.1.getD i Mk).1≤(w.2.2.2.2.1.length:Int))):=by
   show BM (AN (w.2.2.2.2.2.2.2.2.2.1.getD i Mk).1) 1 (w.2.2.2.2.1.length:Int)=_
   have hr:=fS (x:=(w.2.2.2.2.2.2.2.2.2.1.getD i Mk).1);rcases AKU (BN (w.2.2.2.2.2.2.2.2.2.1.getD i Mk).1)with hp|hp
   ·rw[hp,AAF (hr.1 hp).1,AMk]
   ·rw[hp,hr.2 hp,AFT (by omega),ATE]
  rw[e1,show decide ((((w.2.2.2.2.2.2.2.2.2.1.getD i (0,[],false,())).2.1.length:Nat):Int)≤40)=decide ((w.2.2.2.2.2.2.2.2.2.1.getD i Mk).2.1.length≤40)from AT1 _ 40];cases(BN (w.2.2.2.2.2.2.2.2.2.1.getD i Mk).1&&decide (AN (w.2.2.2.2.2.2.2.2.2.1.getD i Mk).1≤(w.2.2.2.2.1.length:Int)))with
  |false=>rfl
  |true=>
   cases decide ((w.2.2.2.2.2.2.2.2.2.1.getD i Mk).2.1.length≤40)with
   |false=>rfl
   |true=>
    simp only[AMP,AMU,AMk];by_cases h0:i=0
    ·simp_all
    ·rw[ALy (by omega),AK (by omega) (by omega),ALy (by omega)]
     have h1:((i:Int)-1).toNat=i-1:=by omega
     have h2:(i==0)=false:=by simp_all
     rw[h1,h2,AS7];grind) (fun n=>by
  simp only[Ft,Lm,AB];simp_all;omega) w.2.2.2.2.2.2.2.2.2.1.length Ae 0 (by omega) (Ag (by omega))
 rw[show((0:Nat):Int)=0 from rfl]at key;grind[NQ,Qx,sr]
theorem Mh:IP w=some ((Fg w,()),()):=by
 have k1:=h.lens;unfold IP Fg;rw[show(w.1,w.2.1,w.2.2.1,w.2.2.2.1,w.2.2.2.2.1,w.2.2.2.2.2.1,w.2.2.2.2.2.2.1,w.2.2.2.2.2.2.2.1,w.2.2.2.2.2.2.2.2.1,w.2.2.2.2.2.2.2.2.2.1,w.2.2.2.2.2.2.2.2.2.2.1,())=w from rfl,show(w.1,w.2.1,())=AS w from rfl,show(w.2.2.2.2.1,w.2.2.2.2.2.1,())=B3 w from rfl];rw[Kx h.cfg,wk h,Mn h.cfg (by show Af B8 w.2.2.2.2.1≤_;omega) h.trim,t_ h,zH h,tY h,ACE h];grind
end
end Go.M
end
section
namespace Go.M
open Go.M.H (AJ AO As Ac AA CN AQ A7 AM AY A3 Af AX Aa Ap Al CJ EO Cv B8 BJ Ar A0 CO C_)
section
variable{w:AA} (h:gf w)
include h
theorem wu:Tx w=some ((Ee (AS w)&&(decide (w.2.2.1.length=w.1.length)&&(Ay (AS w) w.2.2.2.1&&((w.2.2.2.2.2.2.2.2.2.2.1|| !holds (AS w) w.2.2.2.1)&&dv w))),()),()):=by
 have k1:=h.lens;have k2:=h.Qp;have key:=F8 (L:=fun n i=>Ix n i w.1 w.2.1 w.2.2.1 w.2.2.2.1 w.2.2.2.2.1 w.2.2.2.2.2.1 w.2.2.2.2.2.2.1 w.2.2.2.2.2.2.2.1 w.2.2.2.2.2.2.2.2.1 w.2.2.2.2.2.2.2.2.2.1 w.2.2.2.2.2.2.2.2.2.2.1) (len:=w.2.2.1.length) (p:=j8 w) (fin:=true) (fun n i hi=>by
  have hm:=BG (d:=Cl) hi;have hw:=Aa (f:=Al) hm;simp only[Ix,PL,AB,j8];have hb:(0:Int)≤(i:Int)∧(i:Int)<(w.2.2.1.length:Int):=by omega
  rw[ALy hb.2,AK (x:=(i:Int)+1) (by omega) (by omega),show((i:Int)+1)=((i+1:Nat):Int)by omega,AMV,KJ (by omega)];simp only[ALy hb];rw[show((w.2.2.1.getD i ([],[],0,())).1,(w.2.2.1.getD i ([],[],0,())).2.1,(w.2.2.1.getD i ([],[],0,())).2.2.1,())=w.2.2.1.getD i Cl from rfl,Fi (by omega) (h.Am _ hm)];simp only[AMv]
  show cond (!CB (w.2.2.1.getD i Cl)) _ _=_
  cases CB (w.2.2.1.getD i Cl)with
  |false=>rfl
  |true=>
   cases w.2.2.2.1.contains ((i:Nat):Int)with
   |false=>rfl
   |true=>
    simp only[al,AMP,AMU,AMp,AMk,AS7];have e1:∀n:Nat,((n:Int)==0)=(n==0):=fun n=>by
     grind
    grind) (fun n=>by
  simp only[Ix,PL,AB];simp_all) w.2.2.1.length Ae 0 (by omega) (Ag (by omega))
 rw[show((0:Nat):Int)=0 from rfl]at key;unfold Tx VY dv;rw[show(w.1,w.2.1,())=AS w from rfl,HB h.cfg,Gv h.cfg (by omega),Ey h.cfg (by omega),key];simp only[AMv,ATW];grind[decide_eq_true,Ee,AS,Ay,holds,decide_eq_false]
theorem tu:Rf w=some ((Mc (AS w) (B3 w)&&(decide (w.2.2.2.2.2.2.1.length≤4)&&(decide (w.2.2.2.2.2.2.2.1.length≤1)&&(Zg w&&gT w))),()),()):=by
 have k1:=h.lens;have k2:=h.Qp;have me:∀n,w.2.2.2.2.2.2.2.1.length+1≤n→Er n (w.2.2.2.2.1.length:Int) 0 w.1 w.2.1 w.2.2.1 w.2.2.2.1 w.2.2.2.2.1 w.2.2.2.2.2.1 w.2.2.2.2.2.2.1 w.2.2.2.2.2.2.2.1 w.2.2.2.2.2.2.2.2.1 w.2.2.2.2.2.2.2.2.2.1 w.2.2.2.2.2.2.2.2.2.2.1=some ((gT w,()),()):=fun n hn=>by
  have key:=F8 (L:=fun n i=>Er n (w.2.2.2.2.1.length:Int) i w.1 w.2.1 w.2.2.1 w.2.2.2.1 w.2.2.2.2.1 w.2.2.2.2.2.1 w.2.2.2.2.2.2.1 w.2.2.2.2.2.2.2.1 w.2.2.2.2.2.2.2.2.1 w.2.2.2.2.2.2.2.2.2.1 w.2.2.2.2.2.2.2.2.2.2.1) (len:=w.2.2.2.2.2.2.2.1.length) (p:=sG w) (fin:=true) (fun n i hi=>by
   have hm:=BG (d:=Qz) hi;have hw:=Aa (f:=CJ) hm;simp only[Er,M1,AB,sG];rw[ALy (by omega),ALy (by omega),AK (x:=(i:Int)+1) (by omega) (by omega),show((i:Int)+1)=((i+1:Nat):Int)by omega,AMV];rw[show((w.2.2.2.2.2.2.2.1.getD i (0,0,[],[],false,[],())).1,(w.2.2.2.2.2.2.2.1.getD i (0,0,[],[],false,[],())).2.1,(w.2.2.2.2.2.2.2.1.getD i (0,0,[],[],false,[],())).2.2.1,(w.2.2.2.2.2.2.2.1.getD i (0,0,[],[],false,[],())).2.2.2.1,(w.2.2.2.2.2.2.2.1.getD i (0,0,[],[],false,[],())).2.2.2.2.1,(w.2.2.2.2.2.2.2.1.getD i (0,0,[],[],false,[],())).2.2.2.2.2.1,())=w.2.2.2.2.2.2.2.1.getD i Qz from rfl,show(w.1,w.2.1,())=AS w from rfl,JV h.cfg (by omega) (h.BW _ hm)];rw[NJ (by grind)];grind) (fun n=>by
   simp only[Er,M1,AB];simp_all) w.2.2.2.2.2.2.2.1.length n 0 (by omega) (by omega)
  rw[show((0:Nat):Int)=0 from rfl]at key;rw[key,ATW];rfl
 have key:=jz (L:=fun n i=>Gf n (w.2.2.2.2.1.length:Int) i w.1 w.2.1 w.2.2.1 w.2.2.2.1 w.2.2.2.2.1 w.2.2.2.2.2.1 w.2.2.2.2.2.2.1 w.2.2.2.2.2.2.2.1 w.2.2.2.2.2.2.2.2.1 w.2.2.2.2.2.2.2.2.2.1 w.2.2.2.2.2.2.2.2.2.2.1) (len:=w.2.2.2.2.2.2.1.length) (N:=w.2.2.2.2.2.2.2.1.length+1) (p:=eN w) (fin:=gT w) (fun n i hi=>by
  have hm:=BG (d:=Bu) hi;have hw:=Aa (f:=Ar) hm;unfold Ar at hw;simp only[Gf,N1,AB,eN];have hb:(0:Int)≤(i:Int)∧(i:Int)<(w.2.2.2.2.2.2.1.length:Int):=by omega
  rw[ALy hb.2,AK (x:=(i:Int)+1) (by omega) (by omega),show((i:Int)+1)=((i+1:Nat):Int)by omega,AMV];simp only[ALy hb];have hw2:Af BJ (w.2.2.2.2.2.2.1.getD i Bu).2.1≤2^30:=by
   have:=k1.2.2.2.2.1;unfold Ar at this;omega
  rw[show((w.2.2.2.2.2.2.1.getD i (0,[],())).1,(w.2.2.2.2.2.2.1.getD i (0,[],())).2.1,())=w.2.2.2.2.2.2.1.getD i Bu from rfl,show(w.1,w.2.1,())=AS w from rfl,Lk h.cfg hw2];simp only[AMv];cases FF (AS w) (w.2.2.2.2.2.2.1.getD i Bu)with
  |false=>rfl
  |true=>
   simp only[AMP,AMU,AMk];by_cases hle:(w.2.2.2.2.2.2.1.getD i (0,[],())).1≤(w.2.2.2.2.1.length:Int)
   ·rw[AMD (by omega),show decide ((w.2.2.2.2.2.2.1.getD i Bu).1≤(w.2.2.2.2.1.length:Int))=true from ASn hle,AMk]
    by_cases h0:i=0
    ·simp_all
    ·rw[ALy (by omega),AK (by omega) (by omega),ALy (by omega)]
     have h1:((i:Int)-1).toNat=i-1:=by omega
     have h2:(i==0)=false:=by simp_all
     rw[h1,h2,AS7];grind
   grind) (fun n hn=>by
  simp only[Gf,N1,AB];simp_all) w.2.2.2.2.2.2.1.length Ae 0 (by omega) (Ag (by omega))
 rw[show((0:Nat):Int)=0 from rfl]at key;unfold Rf UA Zg;rw[show(w.1,w.2.1,())=AS w from rfl,show(w.2.2.2.2.1,w.2.2.2.2.2.1,())=B3 w from rfl,Pe h.cfg (by show Af B8 w.2.2.2.2.1≤_;omega) h.trim,key];grind
theorem yh:V9 w=some ((decide (w.2.2.2.2.2.2.2.2.2.1.length≤120)&&sr w,()),()):=by
 have k2:=h.Qp;have key:=F8 (L:=fun n i=>Jn n i w.1 w.2.1 w.2.2.1 w.2.2.2.1 w.2.2.2.2.1 w.2.2.2.2.2.1 w.2.2.2.2.2.2.1 w.2.2.2.2.2.2.2.1 w.2.2.2.2.2.2.2.2.1 w.2.2.2.2.2.2.2.2.2.1 w.2.2.2.2.2.2.2.2.2.2.1) (len:=w.2.2.2.2.2.2.2.2.2.1.length) (p:=sX w) (fin:=true) (fun n i hi=>by
  have hm:=BG (d:=Mk) hi;have PY:C0 (w.2.2.2.2.2.2.2.2.2.1.getD i (0,[],false,())).1:=h.HO _ hm;simp only[Jn,QB,AB,sX];rw[ALy (by omega),ALy (by omega),AK (x:=(i:Int)+1) (by omega) (by omega),show((i:Int)+1)=((i+1:Nat):Int)by omega,AMV,H7 PY,Ew PY];simp only[AMv]
  show cond (!BN (w.2.2.2.2.2.2.2.2.2.1.getD i Mk).1) _ _=_
  cases BN (w.2.2.2.2.2.2.2.2.2.1.getD i Mk).1 with
  |false=>rfl
  |true=>
   simp only[AMP,AMU,AMk];by_cases hle:AN (w.2.2.2.2.2.2.2.2.2.1.getD i (0,[],false,())).1≤(w.2.2.2.2.1.length:Int)
   ·rw[AMD (by omega),show decide (AN (w.2.2.2.2.2.2.2.2.2.1.getD i Mk).1≤(w.2.2.2.2.1.length:Int))=true from ASn hle,AMk]
    by_cases h40:(w.2.2.2.2.2.2.2.2.2.1.getD i (0,[],false,())).2.1.length≤40
    ·rw[AMD (by omega),show decide ((w.2.2.2.2.2.2.2.2.2.1.getD i Mk).2.1.length≤40)=true from ASn h40,AMk]
     by_cases h0:i=0
     ·simp_all
     ·rw[ALy (by omega),AK (by omega) (by omega),ALy (by omega)]
      have h1:((i:Int)-1).toNat=i-1:=by omega
      have h2:(i==0)=false:=by simp_all
      rw[h1,h2,AS7];grind
    grind
   grind) (fun n=>by
  simp only[Jn,QB,AB];simp_all) w.2.2.2.2.2.2.2.2.2.1.length Ae 0 (by omega) (Ag (by omega))
 rw[show((0:Nat):Int)=0 from rfl]at key;unfold V9 Wt sr;grind
theorem bg:Q9 w=some ((Fg w,()),()):=by
 unfold Q9 Fg Z_;rw[show(w.1,w.2.1,w.2.2.1,w.2.2.2.1,w.2.2.2.2.1,w.2.2.2.2.2.1,w.2.2.2.2.2.2.1,w.2.2.2.2.2.2.2.1,w.2.2.2.2.2.2.2.2.1,w.2.2.2.2.2.2.2.2.2.1,w.2.2.2.2.2.2.2.2.2.2.1,())=w from rfl];rw[wu h,tu h,yh h,On,On];simp only[AMv];by_cases h2:w.2.2.2.2.2.2.2.2.1.length=2
 all_goals grind
end
end Go.M
end
section
namespace Go.M
open Go.M.H (AJ AO As Ac AA CN AQ A7 AM AY A3 Af AX Aa Ap Al CJ EO Cv B8 BJ Ar A0 CO C_ YZ)
theorem xD{R:Type}{L:Nat→Int→Option R}{len:Nat}{p:Nat→Bool}{K:Nat→Option R}{no:Option R}(h1:∀n (i:Nat),i<len→L (n+1) i=cond (p i) (L n ((i+1:Nat):Int)) no)(h2:∀n,L (n+1) (len:Int)=K n):
  ∀d n i,i+d=len→d<n→L n i=cond (DZ p i d) (K (n-d-1)) no
 |0,n,i,hd,h=>by
  obtain⟨m,rfl⟩:∃m,n=m+1:=⟨n-1,by omega⟩;have:i=len:=by omega
  subst this;rw[h2];rfl
 |d+1,n,i,hd,h=>by
  obtain⟨m,rfl⟩:∃m,n=m+1:=⟨n-1,by omega⟩;rw[h1 m i (by omega)];simp only[DZ];cases p i with
  |false=>rfl
  |true=>
   rw[AMp,xD h1 h2 d m (i+1) (by omega) (by omega),AMk];simp_all
theorem gf.of{w:AA}(hv:Go.Fw.Vd YZ w)(hw:Cv w≤2^20):gf w where
 weight:=hw
 Am:=fun s hs=>⟨fun e he=>wf_i64 (((hv.2.2.1.2 s hs).1).2 e he).1,fun e he=>wf_i64 (((hv.2.2.1.2 s hs).2.1).2 e he).1⟩
 trim:=wf_i64 hv.2.2.2.2.2.1
 BW:=fun m hm e he=>wf_i64 (((hv.2.2.2.2.2.2.2.1.2 m hm).2.2.2.1).2 e he).1
 HO:=fun s hs=>wf_i64 (hv.2.2.2.2.2.2.2.2.2.1.2 s hs).1
abbrev pe:A3:=(0,0,[],())
theorem bq{w:AA}(h:Fg w=true):w.2.2.2.2.2.2.2.2.1.length=2:=by
 simp only[Fg,Z_,AML,AMc]at h;omega
theorem gf.out{w:AA}(h:gf w){i:Nat}(hi:i<w.2.2.2.2.2.2.2.2.1.length):(w.2.2.2.2.2.2.2.2.1.getD i Au).2.2.1.length≤2^20:=by
 have k:=h.lens;have h1:=Aa (f:=A0) (BG (d:=Au) hi);have h2:=AX (f:=CO) (l:=(w.2.2.2.2.2.2.2.2.1.getD i Au).2.2.1);have h3:A0 (w.2.2.2.2.2.2.2.2.1.getD i Au)=Af CO (w.2.2.2.2.2.2.2.2.1.getD i Au).2.2.1:=rfl;omega
section
variable{w:AA} (h:gf w)
include h
end
end Go.M
end
section
namespace Go.M
open Go.M.H (AJ AO As Ac AA CN AQ A7 AM AY A3 Af AX Aa Ap Al CJ EO Cv B8 BJ Ar A0 CO C_ YZ)
theorem sF{R:Type}{L:Nat→Int→Option R}{len E:Nat}{q:Nat→Bool}{e:Nat→Nat}{fin no:Option R}(he:∀i,i<len→e i≤E)(h1:∀i,i<len→ ∀n,E<n→L (n+1) i=cond (q i) (L (n-e i-1) ((i+1:Nat):Int)) no)(h2:∀n,L (n+1) (len:Int)=fin):
  ∀d n i,i+d=len→d*(E+2)<n→L n i=cond (DZ q i d) fin no
 |0,n,i,hd,h=>by
  obtain⟨m,rfl⟩:∃m,n=m+1:=⟨n-1,by omega⟩;have:i=len:=by omega
  subst this;rw[h2];rfl
 |d+1,n,i,hd,h=>by
  rw[Nat.succ_mul]at h;obtain⟨m,rfl⟩:∃m,n=m+1:=⟨n-1,by omega⟩;have hi:=he i (by omega);rw[h1 i (by omega) m (by omega)];simp only[DZ];cases q i with
  |false=>rfl
  |true=>rw[AMp,sF he h1 h2 d _ (i+1) (by omega) (by omega),AMk]
theorem AF0{d E:Nat}(hd:d≤2^20)(hE:E≤2^20):d*(E+2)<Ae:=by
 have h1:d*(E+2)≤2^20*(2^20+2):=AXg hd (by omega);exact Ag (by omega)
section
variable{w:AA} (h:gf w)
include h
end
end Go.M
end
section
namespace Go.M
open Go.M.H (AJ AO As Ac AA CN AQ A7 AM AY A3 Af AX Aa Ap Al CJ EO Cv B8 BJ Ar A0 CO C_ YZ)
def fnd(p:Int):List Ac→List UInt8×Bool
 |[]=>([],false)
 |s::l=>cond (s.1==p) (s.2.1,true) (fnd p l)
section
variable{w:AA} (h:gf w)
include h
end
end Go.M
end
section
namespace Go.M
open Go.M.H (AJ AO As Ac AA CN AQ A7 AM AY A3 Af AX Aa Ap Al CJ EO Cv B8 BJ Ar A0 CO C_ YZ)
def tld(p:Int):List A3→List UInt8×Bool
 |[]=>([],false)
 |e::l=>cond (e.1==1&&e.2.1==p) (e.2.2.1,true) (tld p l)
theorem jU{r:AY}{p:Int}(hl:r.2.2.1.length≤2^40):aF r p=some ((((tld p r.2.2.1).1,(tld p r.2.2.1).2,()),()),()):=by
 unfold aF bj
 generalize r.2.2.1=l at hl
 have key:∀(n i:Nat),i≤l.length→l.length-i<n→RQ n p l l.length i=some ((((tld p (l.drop i)).1,(tld p (l.drop i)).2,()),()),()):=by
  intro n
  induction n with
  |zero=>omega
  |succ n ih=>
   intro i hi h;simp only[RQ,bl,AB];by_cases hc:i<l.length
   ·rw[ALy (by omega),ALy (by omega),AK (by omega) (by omega),show((i:Int)+1)=((i+1:Nat):Int)by omega,Ai hc,drop_cons hc,ih (i+1) (by omega) (by omega)]
    simp only[tld];cases l[i].1==1<;>cases l[i].2.1==p<;>rfl
   ·rw[AMD (by omega),AMj (by omega)]
    rfl
 grind[Ae,Ag]
def ahead(p:Int)(r:AY):Bool:=cond (decide (AN p<r.1)) true (cond (AN p==r.1) (decide (A6 p<r.2.1)) false)
theorem o6{p:Int}{r:AY}(hp:C0 p):KQ p r=some ((ahead p r,()),()):=by
 grind[KQ,ahead,EB,Tg,decide,AN]
end Go.M
end
section
namespace Go.M
open Go.M.H (AJ AO As Ac AA CN AQ A7 AM AY A3 Af AX Aa Ap Al CJ EO Cv B8 BJ Ar A0 CO C_ YZ)
def AA7(trim:Int)(r0 r1:AY)(e:A3):Bool:=e.1==1&&(BN e.2.1&&(decide (trim<e.2.1)&&(ahead e.2.1 r0&&ahead e.2.1 r1)))
def AAR(trim:Int)(r0 r1:AY)(e:A3):Bool:= !AA7 trim r0 r1 e||(((tld e.2.1 r0.2.2.1).2==(tld e.2.1 r1.2.2.1).2)&&((tld e.2.1 r0.2.2.1).1==(tld e.2.1 r1.2.2.1).1))
def sV(trim:Int)(r0 r1:AY)(l:List A3):Bool:=DZ (fun j=>AAR trim r0 r1 (l.getD j pe)) 0 l.length
def dz(w:AA):Bool:=Fg w&&(w.2.2.2.2.2.2.2.2.2.2.1||(sV w.2.2.2.2.2.1 (w.2.2.2.2.2.2.2.2.1.getD 0 Au) (w.2.2.2.2.2.2.2.2.1.getD 1 Au) (w.2.2.2.2.2.2.2.2.1.getD 0 Au).2.2.1&&sV w.2.2.2.2.2.1 (w.2.2.2.2.2.2.2.2.1.getD 0 Au) (w.2.2.2.2.2.2.2.2.1.getD 1 Au) (w.2.2.2.2.2.2.2.2.1.getD 1 Au).2.2.1))
def cj(w:AA):Prop:= ∀r∈w.2.2.2.2.2.2.2.2.1,∀e∈r.2.2.1,C0 e.2.1
theorem cj.of{w:AA}(hv:Go.Fw.Vd YZ w):cj w:=fun r hr e he=>wf_i64 (((hv.2.2.2.2.2.2.2.2.1.2 r hr).2.2.1).2 e he).2.1
section
variable{w:AA} (h:gf w) (hev:cj w)
include h hev
theorem ik:K4 w=some ((dz w,()),()):=by
 have k2:=h.Qp;unfold K4 UX dz;rw[show(w.1,w.2.1,w.2.2.1,w.2.2.2.1,w.2.2.2.2.1,w.2.2.2.2.2.1,w.2.2.2.2.2.2.1,w.2.2.2.2.2.2.2.1,w.2.2.2.2.2.2.2.2.1,w.2.2.2.2.2.2.2.2.2.1,w.2.2.2.2.2.2.2.2.2.2.1,())=w from rfl,Mh h];simp only[AMv];rcases AKU (Fg w)with Br|Br
 rotate_left
 ·simp_all
 rw[Br];simp only[AMP,AMU,AMk];have h2:=bq Br;have o:=fun i hi=>h.out (i:=i) hi
 have o0:=o 0 (by omega);have o1:=o 1 (by omega);have b0:(0:Int)≤(0:Int)∧(0:Int)<(w.2.2.2.2.2.2.2.2.1.length:Int):=by omega
 have b1:(0:Int)≤(1:Int)∧(1:Int)<(w.2.2.2.2.2.2.2.2.1.length:Int):=by omega
 have outer:=sF (L:=fun n i=>FO n w.2.2.2.2.2.2.2.2.1 w.2.2.2.2.2.2.2.2.1.length i w.1 w.2.1 w.2.2.1 w.2.2.2.1 w.2.2.2.2.1 w.2.2.2.2.2.1 w.2.2.2.2.2.2.1 w.2.2.2.2.2.2.2.1 w.2.2.2.2.2.2.2.2.1 w.2.2.2.2.2.2.2.2.2.1 w.2.2.2.2.2.2.2.2.2.2.1) (len:=w.2.2.2.2.2.2.2.2.1.length) (E:=2^20) (q:=fun i=>sV w.2.2.2.2.2.1 (w.2.2.2.2.2.2.2.2.1.getD 0 Au) (w.2.2.2.2.2.2.2.2.1.getD 1 Au) (w.2.2.2.2.2.2.2.2.1.getD i Au).2.2.1) (e:=fun i=>(w.2.2.2.2.2.2.2.2.1.getD i Au).2.2.1.length) (fin:=some ((true,()),())) (no:=some ((false,()),())) (fun i hi=>o i hi) (fun i hi n hn=>by
   have ho:=o i hi;simp only[FO,OV,AB];rw[ALy (by omega),ALy (by omega),AMV];have:=xD (L:=fun n j=>Gl n w.2.2.2.2.2.2.2.2.1 w.2.2.2.2.2.2.2.2.1.length i (w.2.2.2.2.2.2.2.2.1.getD i Au).2.2.1 (w.2.2.2.2.2.2.2.2.1.getD i Au).2.2.1.length j w.1 w.2.1 w.2.2.1 w.2.2.2.1 w.2.2.2.2.1 w.2.2.2.2.2.1 w.2.2.2.2.2.2.1 w.2.2.2.2.2.2.2.1 w.2.2.2.2.2.2.2.2.1 w.2.2.2.2.2.2.2.2.2.1 w.2.2.2.2.2.2.2.2.2.2.1) (len:=(w.2.2.2.2.2.2.2.2.1.getD i Au).2.2.1.length) (p:=fun j=>AAR w.2.2.2.2.2.1 (w.2.2.2.2.2.2.2.2.1.getD 0 Au) (w.2.2.2.2.2.2.2.2.1.getD 1 Au) ((w.2.2.2.2.2.2.2.2.1.getD i Au).2.2.1.getD j pe)) (K:=fun n=>FO n w.2.2.2.2.2.2.2.2.1 w.2.2.2.2.2.2.2.2.1.length ((i+1:Nat):Int) w.1 w.2.1 w.2.2.1 w.2.2.2.1 w.2.2.2.2.1 w.2.2.2.2.2.1 w.2.2.2.2.2.2.1 w.2.2.2.2.2.2.2.1 w.2.2.2.2.2.2.2.2.1 w.2.2.2.2.2.2.2.2.2.1 w.2.2.2.2.2.2.2.2.2.2.1) (no:=some ((false,()),())) (fun n j hj=>by
    simp only[Gl,Ns,AAR,AA7];rw[show decide ((j:Int)<((w.2.2.2.2.2.2.2.2.1.getD i Au).2.2.1.length:Int))=true from ASn (by omega),AMp,ALy (by omega),AMV,AK (by omega) (by omega),show((j:Int)+1)=((j+1:Nat):Int)by omega];simp only[ALy b0,ALy b1];have hs:C0 ((w.2.2.2.2.2.2.2.2.1.getD i Au).2.2.1.getD j (0,0,[],())).2.1:=hev _ (BG (d:=Au) hi) _ (BG (d:=pe) hj);rw[show((w.2.2.2.2.2.2.2.2.1.getD 0 (0,0,[],())).1,(w.2.2.2.2.2.2.2.2.1.getD 0 (0,0,[],())).2.1,(w.2.2.2.2.2.2.2.2.1.getD 0 (0,0,[],())).2.2.1,())=w.2.2.2.2.2.2.2.2.1.getD 0 Au from rfl,show((w.2.2.2.2.2.2.2.2.1.getD 1 (0,0,[],())).1,(w.2.2.2.2.2.2.2.2.1.getD 1 (0,0,[],())).2.1,(w.2.2.2.2.2.2.2.2.1.getD 1 (0,0,[],())).2.2.1,())=w.2.2.2.2.2.2.2.2.1.getD 1 Au from rfl];rw[MT hs,o6 hs,o6 hs,jU (by omega),jU (by omega)];grind) (fun n=>by
    simp only[Gl,Ns,AB];rw[AMD (by omega),AK (by omega) (by omega),show((i:Int)+1)=((i+1:Nat):Int)by omega]) (w.2.2.2.2.2.2.2.2.1.getD i Au).2.2.1.length n 0 (by omega) (by omega)
   exact this) (fun n=>by
   simp only[FO,OV,AB];simp_all) w.2.2.2.2.2.2.2.2.1.length Ae 0 (by omega) (AF0 (by omega) (by omega))
 rw[show((0:Nat):Int)=0 from rfl]at outer;revert outer;cases w.2.2.2.2.2.2.2.2.2.2.1 with
 |true=>simp_all
 |false=>
  intro outer;simp only[AMU,AS7];refine Eq.trans outer ?_
  rw[h2];simp only[DZ,ATW];grind
end
end Go.M
end
section
namespace Go.M
open Go.M.H (AJ AO As Ac AA CN AQ A7 AM AY A3 Af AX Aa Ap Al CJ EO Cv B8 BJ Ar A0 CO C_ YZ)
def bZ:List A3→List Ac
 |[]=>[]
 |e::l=>cond (e.1==1) ((e.2.1,e.2.2.1,true,())::bZ l) (bZ l)
def PH(w:AA)(p:Int):List Ac:=cond (Fg w&&BM p 0 1) (bZ (w.2.2.2.2.2.2.2.2.1.getD p.toNat Au).2.2.1) []
section
variable{w:AA} (h:gf w)
include h
theorem dQ{p:Int}:Nt w p=some (((),()),(PH w p,())):=by
 unfold Nt Yn PH;rw[show(w.1,w.2.1,w.2.2.1,w.2.2.2.1,w.2.2.2.2.1,w.2.2.2.2.2.1,w.2.2.2.2.2.2.1,w.2.2.2.2.2.2.2.1,w.2.2.2.2.2.2.2.2.1,w.2.2.2.2.2.2.2.2.2.1,w.2.2.2.2.2.2.2.2.2.2.1,())=w from rfl,Mh h,Av];simp only[AMv];rcases AKU (Fg w)with Br|Br
 rotate_left
 ·simp_all
 have h2:=bq Br;rw[Br,AK (by omega) (by omega),show((w.2.2.2.2.2.2.2.2.1.length:Int)-1)=1 by omega];simp only[AMP,AMU,AMk];rcases AKU (BM p 0 1)with hp|hp
 rotate_left
 ·simp_all
 rw[hp];simp only[BM,AMc]at hp;simp only[AMP,AMU,AMp];rw[ALy (by omega)];have ho:=h.out (i:=p.toNat) (by omega)
 show Lb Ae (w.2.2.2.2.2.2.2.2.1.getD p.toNat Au).2.2.1 ((w.2.2.2.2.2.2.2.2.1.getD p.toNat Au).2.2.1.length:Int) 0 []=_
 generalize (w.2.2.2.2.2.2.2.2.1.getD p.toNat Au).2.2.1=l at ho
 have key:∀(n i:Nat) (acc:List Ac),i≤l.length→l.length-i<n→acc.length≤i→Lb n l l.length i acc=some (((),()),(acc++bZ (l.drop i),())):=by
  intro n
  induction n with
  |zero=>omega
  |succ n ih=>
   intro i acc hi hn ha;simp only[Lb,YO,AB];by_cases hc:i<l.length
   ·rw[ALy (by omega),ALy (by omega),ALy (by rw[BT];omega),AK (by omega) (by omega),show((i:Int)+1)=((i+1:Nat):Int)by omega,Ai hc,drop_cons hc,ih (i+1) acc (by omega) (by omega) (by omega),ih (i+1) (acc++[(l[i].2.1,l[i].2.2.1,true,())]) (by omega) (by omega) (by simp_all)]
    grind[bZ]
   ·rw[AMD (by omega),AMj (by omega)]
    simp[bZ]
 grind[Ae,Ag]
end
end Go.M
end
section
namespace Go.M
open Go.M.H (AJ AO As Ac AA CN AQ A7 AM AY A3 Ax BC)
def D1(e o:Int):Int:=4294967296*e+o
def Gd(e o:Int):Int:=if BM e 1 30&&BM o 1 60 then D1 e o else 0
def gd(x:Int):List Int→List Int
 |[]=>[x]
 |y::l=>if x<y then x::y::l else y::gd x l
def JG(x:Int)(l:AAO):AAO:=if l.contains x then l else gd x l
def less(l m:AAO):AAO:=l.filter fun x=> !m.contains x
def JT(c:B9)(s l:AAO):Bool:=holds c s&&(Ay c l&&(l.all s.contains&& !holds c (less s l)))
def An(k:Int):AAO:=if BM k 0 255 then([0,1,2,3,4,5,6,7]:AAO).filter fun i=>(k/2^i.toNat)%2==1 else[]
def better(a b:AJ):AJ:=if b.2.1>a.2.1 then b else a
def keep(e:AJ):List AJ→List AJ
 |[]=>[e]
 |x::l=>if x.1=e.1 then better x e::l else if x.1>e.1 then e::x::l else x::keep e l
def Db:List AJ→List AJ→List AJ
 |k,[]=>k
 |k,e::l=>Db (keep e k) l
def MI(k:Int):Nat→List AJ→List AJ
 |_,[]=>[]
 |i,e::l=>if(k/2^i)%2=1 then e::MI k (i+1) l else MI k (i+1) l
def Ek(p:Int)(l:List AJ):Option AJ:=l.find? fun e=>e.1==p
def takes(s:AO)(e:AJ):Bool:=if e.2.1=0 then decide (AN e.1>s.2.2.1)else decide (e.2.1>s.2.2.1)
def Fv(s:AO)(e:AJ):AO×Bool:=
 if !CB s then(Cl,false)else if ET e&&(takes s e&&decide (s.2.1.length≠20))then((s.1,s.2.1++[e],s.2.2.1,()),true)else(s,false)
def D5(s:AO)(k:Int):AO×Bool:=
 if !CB s then(Cl,false)else
  let q:=Db s.1 (MI k 0 s.2.1)
  if BM k 0 1048575&&decide (q.length≤200)then((q,[],s.2.2.1,()),true)else(s,false)
def CZ(s:AO):AO×Bool:=D5 s 1048575
def Bh(s:AO)(upto:Int):AO×Bool:=
 if !CB s then(Cl,false)else
  let o:=CZ s
  if o.2&&BM upto 0 30 then((o.1.1,o.1.2.1,max o.1.2.2.1 upto,()),true)else(s,false)
def Xc(s:AO)(p:Int):Option AJ:=if CB s then Ek p s.1 else none
def GD(s:AO)(ep:Int):List AJ:=if CB s then s.1.filter fun e=>AN e.1==ep else[]
def Fy(s:AO)(upto:Int):AO×Bool:=
 if !CB s then(Cl,false)else if BN upto then((s.1.filter fun e=>decide (e.1>upto),s.2.1,s.2.2.1,()),true)else(s,false)
abbrev lD:AQ:=([],0,())
def Ao(l:List CN)(e:Int):AAO:=if BM e 1 l.length then(l.getD (e-1).toNat GJ).1 else[]
def IM(c:B9)(r:AQ)(ns:AAO):AQ×Int×Bool:=
 if !Mc c r then(lD,0,false)else if holds c ns&&decide (r.1.length≠30)then((r.1++[(ns,false,0,())],r.2.1,()),(r.1.length:Int)+1,true)else(r,0,false)
def Gi(l:List CN)(i:Nat)(last:Int):List CN:=l.set i ((l.getD i GJ).1,true,last,())
def Mi(c:B9)(r:AQ)(b last:Int):AQ×Bool:=
 if !Mc c r then(lD,false)else
  if decide (b=r.1.length)&&(decide (A8 r.1≠0)&&(decide (b≠A8 r.1)&&BM last 0 60))then((Gi r.1 (A8 r.1-1).toNat last,r.2.1,()),true)else(r,false)
def Lx(c:B9)(r:AQ)(p:Int):AQ×Bool:=
 if !Mc c r then(lD,false)else if BN p&&decide (AN p≤r.1.length)then((r.1,max r.2.1 p,()),true)else(r,false)
def CE(c:B9)(w:AM)(d:ACC):AM×Int×Bool:=
 if !FF c w then(Bu,0,false)else
  if FF c (w.1,w.2.1++[(d,[],false,())],())then((w.1,w.2.1++[(d,[],false,())],()),(w.2.1.length:Int)+1,true)else(w,0,false)
def EY(c:B9)(n:Int)(x:A7):A7:=(x.1,JG n x.2.1,holds c (JG n x.2.1),())
def QZ(c:B9)(w:AM)(o n:Int):AM×Bool:=
 if !FF c w then(Bu,false)else
  if BM o 1 w.2.1.length&&(BM n 0 ((c.1.length:Int)-1)&& !(w.2.1.getD (o-1).toNat Kw).2.2.1)then((w.1,w.2.1.set (o-1).toNat (EY c n (w.2.1.getD (o-1).toNat Kw)),()),true)else(w,false)
def Cs(n:Int)(x:A7):A7:=(x.1,if x.2.2.1 then x.2.1 else less x.2.1 [n],x.2.2.1,())
def CA(c:B9)(w:AM)(n:Int):AM×Bool:=
 if !FF c w then(Bu,false)else((w.1,w.2.1.map (Cs n),()),true)
def U_:List A7→Nat
 |[]=>0
 |x::l=>if x.2.2.1 then U_ l+1 else 0
def WA(e b:Int):As:=(b,e,[],[],false,[],())
def Ln(c:B9)(m:As)(n:Int)(l:List AJ):As×Bool:=
 if !Gx c m then(Qz,false)else
  let o:As:=(m.1,m.2.1,JG n m.2.2.1,Db m.2.2.2.1 (l.filter fun e=>AN e.1==m.2.1),m.2.2.2.2.1,m.2.2.2.2.2.1,())
  if !m.2.2.2.2.1&&Gx c o then(o,true)else(m,false)
def IA(c:B9)(m:As)(s:AAO):As×Bool:=
 if !Gx c m then(Qz,false)else
  if !m.2.2.2.2.1&&JT c s (m.2.2.1.filter s.contains)then((m.1,m.2.1,m.2.2.1,m.2.2.2.1,true,List.replicate (Lf m.2.2.2.1).toNat [],()),true)else(m,false)
def Da(m:As)(o:Int):Option AJ:=
 if m.2.2.2.2.1&&(BM m.2.1 1 30&&(BM o 1 60&&decide (o≤m.2.2.2.2.2.1.length)))then
  match Ek (D1 m.2.1 o) m.2.2.2.1 with
  |some x=>some (D1 m.2.1 o,m.1,x.2.2.1,x.2.2.2.1,())
  |none=>some (D1 m.2.1 o,m.1,true,[],())
 else none
def Yd(c:B9)(m:As)(o n:Int):As×Bool:=
 if !Gx c m then(Qz,false)else
  if BM o 1 m.2.2.2.2.2.1.length&&BM n 0 ((c.1.length:Int)-1)then((m.1,m.2.1,m.2.2.1,m.2.2.2.1,m.2.2.2.2.1,m.2.2.2.2.2.1.set (o-1).toNat (JG n (m.2.2.2.2.2.1.getD (o-1).toNat [])),()),true)else(m,false)
def B7(c:B9)(m:As)(n:Int):As×Bool:=
 if !Gx c m then(Qz,false)else((m.1,m.2.1,m.2.2.1,m.2.2.2.1,m.2.2.2.2.1,m.2.2.2.2.2.1.map fun l=>less l [n],()),true)
def O0(c:B9)(m:As):Bool:=Gx c m&&(m.2.2.2.2.1&&m.2.2.2.2.2.1.all (holds c))
def Uv(a:Ax):AJ:=(a.2.2.1,a.2.2.2.1,a.2.2.2.2.1,a.2.2.2.2.2.1,())
def FX(s:AAO)(p:Int):Option AJ→List Ax→Option AJ
 |b,[]=>b
 |b,a::l=>if a.2.1&&(s.contains a.1&&(ET (Uv a)&&(Uv a).1==p))then
   FX s p (some (match b with|some x=>better x (Uv a)|none=>Uv a)) l
  else FX s p b l
def HC(p:Int):Option AJ→A3
 |none=>(3,p,[],())
 |some x=>if x.2.2.1 then(2,p,[],())else(1,p,x.2.2.2.1,())
def Bz(c:B9)(g:AQ)(sure:Int)(r:AY)(l:List Ax):AY×Int:=
 if !(Mc c g&&(XF r&&Ay c (l.map fun a=>a.1)))then(Au,1)else
 if decide (r.1>g.1.length)||decide (r.2.2.1.length=120)then(r,2)else
 let era:=g.1.getD (r.1-1).toNat GJ
 let p:=D1 r.1 r.2.1
 if g.2.1≥p then((AN g.2.1,A6 g.2.1+1,r.2.2.1++[(5,g.2.1,[],())],()),0)else
 if era.2.1&&decide (r.2.1>era.2.2.1)then((r.1+1,1,r.2.2.1++[(4,r.1+1,[],())],()),0)else
 if(!era.2.1&&decide (r.2.1>sure))||decide (r.2.1>60)then(r,2)else
 if !JT c era.1 ((l.map fun a=>a.1).filter era.1.contains)then(r,3)else
 ((r.1,r.2.1+1,r.2.2.1++[HC p (FX era.1 p none l)],()),0)
def FW:List AJ→List AO→List AJ
 |k,[]=>k
 |k,s::l=>FW (Db k s.1) l
def others(lost:AAO):Nat→List AO→List AO
 |_,[]=>[]
 |i,s::l=>if lost.contains (i:Int)then others lost (i+1) l else s::others lost (i+1) l
def W9(c:B9)(ss:List AO)(lost:AAO)(n upto:Int):AO×Bool:=
 let s:AO:=(FW [] (others lost 0 ss),[],upto,())
 if Ee c&&(decide (ss.length=c.1.length)&&(Ay c lost&&(!holds c lost&&(lost.contains n&&((others lost 0 ss).all CB&&CB s)))))then(s,true)else(Cl,false)
end Go.M
namespace Go.M.H.AA
open Go.M.H (AJ AO As Ac AA CN AQ A7 AM AY A3)
@[reducible] def Am (w:AA):List AO:=w.2.2.1
@[reducible] def lost (w:AA):AAO:=w.2.2.2.1
@[reducible] def Ab (w:AA):List CN:=w.2.2.2.2.1
@[reducible] def trim (w:AA):Int:=w.2.2.2.2.2.1
@[reducible] def AH (w:AA):List AM:=w.2.2.2.2.2.2.1
@[reducible] def BW (w:AA):List As:=w.2.2.2.2.2.2.2.1
@[reducible] def AR (w:AA):List AY:=w.2.2.2.2.2.2.2.2.1
@[reducible] def BX (w:AA):List Ac:=w.2.2.2.2.2.2.2.2.2.1
@[reducible] def EC (w:AA):Bool:=w.2.2.2.2.2.2.2.2.2.2.1
@[reducible] def BA (w:AA) (x:List AO):AA:=(w.1,w.2.1,x,w.2.2.2)
@[reducible] def EV (w:AA) (x:AAO):AA:=(w.1,w.2.1,w.2.2.1,x,w.2.2.2.2)
@[reducible] def G9 (w:AA) (x:AQ):AA:=(w.1,w.2.1,w.2.2.1,w.2.2.2.1,x.1,x.2.1,w.2.2.2.2.2.2)
@[reducible] def A9 (w:AA) (x:List AM):AA:=(w.1,w.2.1,w.2.2.1,w.2.2.2.1,w.2.2.2.2.1,w.2.2.2.2.2.1,x,w.2.2.2.2.2.2.2)
@[reducible] def Bi (w:AA) (x:List As):AA:=(w.1,w.2.1,w.2.2.1,w.2.2.2.1,w.2.2.2.2.1,w.2.2.2.2.2.1,w.2.2.2.2.2.2.1,x,w.2.2.2.2.2.2.2.2)
@[reducible] def Cw (w:AA) (x:List AY):AA:=(w.1,w.2.1,w.2.2.1,w.2.2.2.1,w.2.2.2.2.1,w.2.2.2.2.2.1,w.2.2.2.2.2.2.1,w.2.2.2.2.2.2.2.1,x,w.2.2.2.2.2.2.2.2.2)
@[reducible] def Cy (w:AA) (x:List Ac):AA:=(w.1,w.2.1,w.2.2.1,w.2.2.2.1,w.2.2.2.2.1,w.2.2.2.2.2.1,w.2.2.2.2.2.2.1,w.2.2.2.2.2.2.2.1,w.2.2.2.2.2.2.2.2.1,x,w.2.2.2.2.2.2.2.2.2.2)
@[reducible] def FA (w:AA) (x:Bool):AA:=(w.1,w.2.1,w.2.2.1,w.2.2.2.1,w.2.2.2.2.1,w.2.2.2.2.2.1,w.2.2.2.2.2.2.1,w.2.2.2.2.2.2.2.1,w.2.2.2.2.2.2.2.2.1,w.2.2.2.2.2.2.2.2.2.1,x,())
end Go.M.H.AA
namespace Go.M
open Go.M.H (AJ AO As Ac AA CN AQ A7 AM AY A3 Ax BC)
def ANQ:AA:=([],0,[],[],[],0,[],[],[],[],false,())
def ER(c:B9):AA:=(c.1,c.2.1,List.replicate c.1.length Cl,[],[],0,[],[],[(1,1,[],()),(1,1,[],())],[],false,())
def eC(k:Int):Bool×Bool×Bool×Bool:=
 if k=8∨k=10∨k=12 then(false,false,false,false)
 else if k=2 then(true,false,false,true)
 else if k=3 then(true,true,true,false)
 else if k=5∨k=14 then(true,true,false,false)
 else if k=11 then(false,true,true,false)
 else(true,false,false,false)
def PM(d:BC):Bool:=
 BM d.1 1 16&&(((eC d.1).1||d.2.1==0)&&(((eC d.1).2.1||d.2.2.1==0)&&(((eC d.1).2.2.1||d.2.2.2.1==0)&&(((eC d.1).2.2.2||d.2.2.2.2.1==[])&&decide (d.2.2.2.2.1.length≤40)))))
abbrev Zd:Type:=AA×Int
def Aj(w:AA)(n:Int):Int:=if !BM n 0 ((w.Am.length:Int)-1)then 2 else if w.lost.contains n then 3 else 0
def L5(w:AA)(a:Int):Zd:=
 if w.AH.length=4 then(w,4)else
 let q:=IM (AS w) (B3 w) (An a)
 if !q.2.2 then(w,4)else(((w.G9 q.1).A9 (w.AH++[(q.2.1,[],())])).Bi [],0)
def Xr(s:Ac):List Ac→List Ac
 |[]=>[s]
 |x::l=>if x.1>s.1 then s::x::l else x::Xr s l
def doAdd(w:AA)(a:Int)(d:ACC):Zd:=
 if !BM a 0 ((w.AH.length:Int)-1)then(w,2)else
 let x:=w.AH.getD a.toNat Bu
 let q:=CE (AS w) x d
 if !q.2.2||(decide (w.BX.length=120)||w.BX.any fun s=>s.1==D1 x.1 q.2.1)then(w,4)else
 ((w.A9 (w.AH.set a.toNat q.1)).Cy (Xr (D1 x.1 q.2.1,d,false,()) w.BX),0)
def putAt(w:AA)(n:Int)(q:AO×Bool):Zd:=if q.2 then(w.BA (w.Am.set n.toNat q.1),0)else(w,4)
def storeAt(w:AA)(n:Int):AO:=w.Am.getD n.toNat Cl
def IJ(w:AA)(a b n:Int):Zd:=
 if !BM a 0 ((w.AH.length:Int)-1)then(w,2)else
 let x:=w.AH.getD a.toNat Bu
 if !BM b 1 x.2.1.length then(w,2)else
 if Aj w n≠0 then(w,Aj w n)else
 if !(Ao w.Ab x.1).contains n then(w,2)else
 putAt w n (Fv (storeAt w n) (D1 x.1 b,0,false,(x.2.1.getD (b-1).toNat Kw).1,()))
def JO(s:AO)(p:Int):Bool:=match Ek p s.1 with|some e=>e.2.1==0|none=>false
def BB(c:B9)(s:AO)(ep n:Int):Int→List A7→List A7
 |_,[]=>[]
 |o,x::l=>(if !x.2.2.1&&JO s (D1 ep o)then EY c n x else x)::BB c s ep n (o+1) l
def QO(l:List A7)(o:Int):Bool:=BM o 1 l.length&&(l.getD (o-1).toNat Kw).2.2.1
def Nr(all:Bool)(ep:Int)(old new:List A7)(s:Ac):Ac:=
 (s.1,s.2.1,s.2.2.1||(AN s.1==ep&&(QO new (A6 s.1)&&(all|| !QO old (A6 s.1)))),())
def LJ(s:AO)(l:List CN)(n:Int)(x:AM):Bool:=(Ao l x.1).contains n&&decide (s.2.2.1<x.1)
def FI(all:Bool)(c:B9)(s:AO)(l:List CN)(n:Int):List AM→List Ac→List AM×List Ac
 |[],ss=>([],ss)
 |x::ws,ss=>
  if LJ s l n x then
   let new:=BB c s x.1 n 1 x.2.1
   let q:=FI all c s l n ws (ss.map (Nr all x.1 x.2.1 new))
   ((x.1,new,())::q.1,q.2)
  else
   let q:=FI all c s l n ws ss
   (x::q.1,q.2)
def NU(m:As)(s:AO)(o:Int):Bool:=match Da m o with|some e=>Ek e.1 s.1==some e|none=>false
def Dz(m:As)(s:AO)(n:Int):Int→List AAO→List AAO
 |_,[]=>[]
 |o,x::l=>(if NU m s o then JG n x else x)::Dz m s n (o+1) l
def G4(s:AO)(l:List CN)(n:Int)(m:As):As:=
 if(Ao l m.2.1).contains n then(m.1,m.2.1,m.2.2.1,m.2.2.2.1,m.2.2.2.2.1,Dz m s n 1 m.2.2.2.2.2.1,())else m
def Jj(all:Bool)(w:AA)(n:Int):Zd:=
 if Aj w n≠0 then(w,Aj w n)else
 let q:=CZ (storeAt w n)
 if !q.2 then(w,4)else
 let t:=FI all (AS w) q.1 w.Ab n w.AH w.BX
 ((((w.BA (w.Am.set n.toNat q.1)).A9 t.1).Cy t.2).Bi (w.BW.map (G4 q.1 w.Ab n)),0)
def IQ(w:AA)(n k:Int):Zd:=if Aj w n≠0 then(w,Aj w n)else putAt w n (D5 (storeAt w n) k)
def ML(w:AA)(n:Int):Zd:=
 if Aj w n≠0 then(w,Aj w n)else
 let ls:=JG n w.lost
 (((((w.BA (w.Am.set n.toNat Cl)).EV ls).A9 (w.AH.map fun x=>(CA (AS w) x n).1)).Bi (w.BW.map fun m=>(B7 (AS w) m n).1)).FA (w.EC||holds (AS w) ls),0)
def Lt(w:AA)(n:Int):Zd:=
 if !w.lost.contains n then(w,2)else
 let q:=W9 (AS w) w.Am w.lost n (max ((w.Ab.length:Int)-1) 0)
 if !q.2 then(w,4)else((w.BA (w.Am.set n.toNat q.1)).EV (less w.lost [n]),0)
def MC(w:AA):Zd:=
 if decide ((w.Ab.length:Int)<2)||decide (A8 w.Ab=w.Ab.length)then(w,2)else
 if w.BW.length>0 then(w,4)else(w.Bi [WA (A8 w.Ab) w.Ab.length],0)
def MJ(w:AA)(n:Int):Zd:=
 match w.BW with
 |[]=>(w,2)
 |m::ms=>
  if Aj w n≠0 then(w,Aj w n)else
  if !(Ao w.Ab m.2.1).contains n then(w,2)else
  let q:=Bh (storeAt w n) (m.1-1)
  let t:=Ln (AS w) m n (GD q.1 m.2.1)
  if !q.2|| !t.2 then(w,4)else((w.BA (w.Am.set n.toNat q.1)).Bi (t.1::ms),0)
def MO(w:AA):Zd:=
 match w.BW with
 |[]=>(w,2)
 |m::ms=>
  let t:=IA (AS w) m (Ao w.Ab m.2.1)
  if !t.2 then(w,4)else(w.Bi (t.1::ms),0)
def SN(w:AA)(b n:Int):Zd:=
 match w.BW with
 |[]=>(w,2)
 |m::ms=>
  match Da m b with
  |none=>(w,2)
  |some e=>
   if Aj w n≠0 then(w,Aj w n)else
   if !(Ao w.Ab m.2.1).contains n then(w,2)else putAt w n (Fv (storeAt w n) e)
def IH(w:AA):Zd:=
 match w.BW with
 |[]=>(w,2)
 |m::ms=>
  if !O0 (AS w) m then(w,5)else
  let q:=Mi (AS w) (B3 w) m.1 m.2.2.2.2.2.1.length
  if !q.2 then(w,4)else((w.G9 q.1).Bi [],0)
def OO(w:AA)(a:Int):Zd:=
 let q:=Lx (AS w) (B3 w) a
 if !q.2 then(w,4)else(w.G9 q.1,0)
def answer(w:AA)(p n:Int):Ax:=
 match Ek p (storeAt w n).1 with
 |some e=>(n,true,e.1,e.2.1,e.2.2.1,e.2.2.2.1,())
 |none=>(n,false,0,0,false,[],())
def answers(w:AA)(p:Int)(ns:AAO):List Ax:=(ns.filter fun n=>Aj w n==0).map (answer w p)
def U3(w:AA)(e:Int):Int:=match w.AH.find? (fun x=>x.1==e)with|some x=>U_ x.2.1|none=>0
def H8(w:AA)(a k:Int):Zd:=
 if !BM a 0 1 then(w,2)else
 let r:=w.AR.getD a.toNat Au
 let q:=Bz (AS w) (B3 w) (U3 w r.1) r (answers w (D1 r.1 r.2.1) (An k))
 if q.2≠0 then(w,5)else(w.Cw (w.AR.set a.toNat q.1),0)
def M7(w:AA)(a:Int):Zd:=
 if !BM a 0 ((w.AH.length:Int)-1)then(w,2)else(w.A9 (w.AH.eraseIdx a.toNat),0)
def IV(w:AA)(n:Int):Zd:=if Aj w n≠0 then(w,Aj w n)else putAt w n (Fy (storeAt w n) w.trim)
def Li(all:Bool)(w:AA)(d:BC):Zd:=
 if d.1=1 then L5 w d.2.1 else
 if d.1=2 then doAdd w d.2.1 d.2.2.2.2.1 else
 if d.1=3 then IJ w d.2.1 d.2.2.1 d.2.2.2.1 else
 if d.1=4 then Jj all w d.2.1 else
 if d.1=5 then IQ w d.2.1 d.2.2.1 else
 if d.1=6 then ML w d.2.1 else
 if d.1=7 then Lt w d.2.1 else
 if d.1=8 then MC w else
 if d.1=9 then MJ w d.2.1 else
 if d.1=10 then MO w else
 if d.1=11 then SN w d.2.2.1 d.2.2.2.1 else
 if d.1=12 then IH w else
 if d.1=13 then OO w d.2.1 else
 if d.1=14 then H8 w d.2.1 d.2.2.1 else
 if d.1=15 then M7 w d.2.1 else IV w d.2.1
def CD(all:Bool)(w:AA)(d:BC):Zd:=if !Fg w|| !PM d then(ANQ,1)else Li all w d
end Go.M
end
section
namespace Go.M
open Go.M.H (AJ AO As Ac AA CN AQ A7 AM AY A3 Ax BC)
theorem OP{p:Nat→Bool}{n:Nat}:DZ p 0 n=true↔ ∀i,i<n→p i=true:=
 ⟨fun h i hi=>Rs h i (by omega) (by omega),fun h=>pt fun j _ hj=>h j (by omega)⟩
theorem Ny{α:Type}{l:List α}{i:Nat}{d:α}(h:i<l.length):l.getD i d=l[i]:=by simp_all
theorem RS{α:Type}{l:List α}{d:α}{P:α→Prop}:(∀i,i<l.length→P (l.getD i d))↔ ∀x∈l,P x:=by
 constructor
 ·intro h x hx
  obtain⟨i,hi,rfl⟩:=AQa hx;simp_all
 simp_all
abbrev S8{α:Type}(f:α→Int)(l:List α):Prop:=l.Pairwise fun a b=>f a<f b
theorem eQ{α:Type}{f:α→Int}{l:List α}{d:α}:(∀i,i<l.length→i=0∨f (l.getD (i-1) d)<f (l.getD i d))↔S8 f l:=by
 constructor
 ·intro h
  unfold S8;rw[AVq];have key:∀(k i:Nat),i+k+1<l.length→f (l.getD i d)<f (l.getD (i+k+1) d):=by
   intro k
   induction k with
   |zero=>
    grind
   |succ k ih=>
    grind
  intro i j hi hj zF;have:=key (j-i-1) i (by omega);grind
 grind[List.pairwise_iff_getElem,Ny]
theorem Ah{x a b:Int}:BM x a b=true↔a≤x∧x≤b:=by simp[BM]
theorem w6{l:AAO}{hi:Int}:qd l hi=true↔(∀x∈l,0≤x∧x≤hi)∧S8 id l:=by
 unfold qd;rw[OP,←RS (d:=(0:Int)) (P:=fun x=>0≤x∧x≤hi),←eQ (d:=(0:Int))];simp only[uS,AML,Ah,AS8,ATQ,AMc,id];grind
theorem EK{c:B9}{l:AAO}:Ay c l=true↔Ee c=true∧(∀x∈l,0≤x∧x<c.1.length)∧S8 id l:=by
 unfold Ay;rw[AML,w6];grind
theorem ur{l:List AJ}:W5 l=true↔ ∀e∈l,ET e=true:=by
 unfold W5;rw[OP];exact RS (P:=fun e=>ET e=true)
theorem xf{l:List AJ}:ic l=true↔S8 (fun e:AJ=>e.1) l:=by
 unfold ic;rw[OP,←eQ (d:=Dn)];simp_all
structure fV (s:AO):Prop where
 nk:s.1.length≤200
 kept:∀e∈s.1,ET e=true
 nl:s.2.1.length≤20
 late:∀e∈s.2.1,ET e=true
 fo:S8 (fun e:AJ=>e.1) s.1
 sl:0≤s.2.2.1∧s.2.2.1≤30
theorem DN{s:AO}:CB s=true↔fV s:=by
 unfold CB;simp only[AML,AMc,ur,xf,Ah];exact⟨fun⟨⟨a,b⟩,⟨c,d⟩,e,f⟩=>⟨a,b,c,d,e,f⟩,fun h=>⟨⟨h.nk,h.kept⟩,⟨h.nl,h.late⟩,h.fo,h.sl⟩⟩
structure EOk (e:AJ):Prop where
 pl:BN e.1=true
 w0:0≤e.2.1∧e.2.1≤30
 w1:0<e.2.1→AN e.1<e.2.1
 len:e.2.2.2.1.length≤40
 hole:e.2.2.1=true→0<e.2.1∧e.2.2.2.1=[]
theorem FM{e:AJ}:ET e=true↔EOk e:=by
 unfold ET;simp only[AML,AS8,AS9,AMc,AUA,Ah,ATQ];constructor
 ·rintro⟨a,b,c,d,e⟩
  refine⟨a,b,fun h=>c.resolve_left fun hn=>hn h,d,fun h=>e.resolve_left fun hn=> ?_⟩;simp_all
 ·intro h
  refine⟨h.pl,h.w0,?_,h.len,?_⟩
  ·by_cases hw:0<e.2.1
   ·exact .inr (h.w1 hw)
   omega
  ·cases hh:e.2.2.1 with
   |false=>simp_all
   |true=>exact .inr (h.hole hh)
structure qn (c:B9) (m:As):Prop where
 cfg:Ee c=true
 ep:1≤m.2.1∧m.2.1≤30
 b:m.2.1+1≤m.1∧m.1≤30
 ew:Ay c m.2.2.1=true
 fo:S8 (fun e:AJ=>e.1) m.2.2.2.1
 seen:∀e∈m.2.2.2.1,ET e=true∧AN e.1=m.2.1∧e.2.1<m.1
 wrote:∀l∈m.2.2.2.2.2.1,Ay c l=true
 n:(m.2.2.2.2.2.1.length:Int)=if m.2.2.2.2.1 then Lf m.2.2.2.1 else 0
theorem HI{c:B9}{m:As}:Gx c m=true↔qn c m:=by
 unfold Gx sM nu;simp only[AML,Ah,xf,OP,s6,ATQ,AMc];rw[RS (d:=Dn) (P:=fun e=>ET e=true∧AN e.1=m.2.1∧e.2.1<m.1),RS (d:=([]:AAO)) (P:=fun l=>Ay c l=true)];have:(m.2.2.2.2.2.1.length:Int)=cond m.2.2.2.2.1 (Lf m.2.2.2.1) 0↔(m.2.2.2.2.2.1.length:Int)=if m.2.2.2.2.1 then Lf m.2.2.2.1 else 0:=by
  grind
 rw[this];exact⟨fun⟨a,b,c,d,e,f,g,h⟩=>⟨a,b,c,d,e,f,g,h⟩,fun h=>⟨h.cfg,h.ep,h.b,h.ew,h.fo,h.seen,h.wrote,h.n⟩⟩
structure zI (c:B9) (r:AQ):Prop where
 cfg:Ee c=true
 n:r.1.length≤30
 trim:r.2.1=0∨(BN r.2.1=true∧AN r.2.1≤r.1.length)
 Ab:∀e∈r.1,holds c e.1=true∧(0≤e.2.2.1∧e.2.2.1≤60)∧(e.2.1=false→e.2.2.1=0)
 down:∀i,i<r.1.length→(r.1.getD i GJ).2.1=true→i+1<r.1.length∧ ∀j,j<i→(r.1.getD j GJ).2.1=true
theorem Iz{c:B9}{r:AQ}:Mc c r=true↔zI c r:=by
 unfold Mc fY;simp only[AML,AMc,AS8,ATQ,OP,tX,qM,Ah,AS9,Bool.and_eq_false_iff,Bool.or_eq_false_iff,AUA,APY];constructor
 ·rintro⟨a,b,c1,d⟩
  refine⟨a,b,c1,(RS (d:=GJ) (P:=fun e=>holds c e.1=true∧(0≤e.2.2.1∧e.2.2.1≤60)∧(e.2.1=false→e.2.2.1=0))).1 fun i hi=> ?_,fun i hi hc=> ?_⟩
  ·grind
  ·have step:∀k,k<r.1.length→(r.1.getD k GJ).2.1=true→k+1<r.1.length∧(0<k→(r.1.getD (k-1) GJ).2.1=true):=fun k hk hkc=>by
    rcases(d k hk).2 with h|⟨h1,h2⟩
    ·simp_all
    ·refine⟨by omega,fun h0=> ?_⟩
     simp_all
   refine⟨(step i hi hc).1,?_⟩;clear hi
   induction i with
   |zero=>omega
   |succ i ih=>
    intro j hj;have Dd:i+1<r.1.length:=by
     rcases Nat.lt_or_ge (i+1) r.1.length with h|h
     ·omega
     ·simp[List.getD,h]at hc
      cases hc
    grind
 ·intro h
  refine⟨h.cfg,h.n,h.trim,fun i hi=>⟨?_,?_⟩⟩
  ·obtain⟨h1,h2,h3⟩:=h.Ab _ (BG (d:=GJ) hi)
   grind
  ·cases hb:(r.1.getD i GJ).2.1 with
   |false=>simp_all
   |true=>
    obtain⟨h1,h2⟩:=h.down i hi hb;grind
structure ae (c:B9) (w:AM):Prop where
 cfg:Ee c=true
 ep:1≤w.1∧w.1≤30
 n:w.2.1.length≤60
 words:∀x∈w.2.1,x.1.length≤40∧Ay c x.2.1=true∧x.2.2.1=holds c x.2.1
 opn:Qf w.2.1≤6
theorem IW{c:B9}{w:AM}:FF c w=true↔ae c w:=by
 unfold FF le6 Vr;simp only[AML,AMc,Ah,ATV,ATQ];exact⟨fun⟨a,b,c,d,e⟩=>⟨a,b,c,d,e⟩,fun h=>⟨h.cfg,h.ep,h.n,h.words,h.opn⟩⟩
structure AE3 (r:AY):Prop where
 ep:1≤r.1∧r.1≤31
 off:1≤r.2.1∧r.2.1≤61
 n:r.2.2.1.length≤120
theorem Qs{r:AY}:XF r=true↔AE3 r:=by
 unfold XF;simp only[AML,AMc,Ah];exact⟨fun⟨a,b,c⟩=>⟨a,b,by omega⟩,fun h=>⟨h.ep,h.off,by have:=h.n;omega⟩⟩
structure NN (w:AA):Prop where
 cfg:Ee (AS w)=true
 oR:w.Am.length=w.1.length
 lost:Ay (AS w) w.lost=true
 EC:w.EC=true∨holds (AS w) w.lost=false
 Am:∀i,i<w.Am.length→fV (w.Am.getD i Cl)∧((i:Int)∈w.lost→w.Am.getD i Cl=Cl)
 lZ:zI (AS w) (B3 w)
 rN:w.AH.length≤4
 xz:w.BW.length≤1
 AH:∀x∈w.AH,ae (AS w) x∧x.1≤w.Ab.length
 Xm:S8 (fun x:AM=>x.1) w.AH
 BW:∀m∈w.BW,qn (AS w) m∧m.1=w.Ab.length∧m.2.1=A8 w.Ab
 mu:w.AR.length=2
 AR:∀r∈w.AR,AE3 r
 RG:w.BX.length≤120
 BX:∀s∈w.BX,BN s.1=true∧AN s.1≤w.Ab.length∧s.2.1.length≤40
 Xp:S8 (fun s:Ac=>s.1) w.BX
theorem F5{w:AA}:Fg w=true↔NN w:=by
 unfold Fg;simp only[AML,AMc,dv,Zg,gT,sr,Z_,OP,j8,eN,sG,sX,AS8,AS9,ATQ,DN,Iz,IW,HI,Qs];have hz:∀s:AO,(s.1.length=0∧s.2.1.length=0∧s.2.2.1=0)↔s=Cl:=fun s=>by
  grind
 simp only[hz];constructor
 ·rintro⟨h1,h2,h3,h4,h5,h6,h7,h8,h9,h10,⟨h11,h12,h13⟩,h14,h15⟩
  refine⟨h1,h2,h3,h4,fun i hi=>⟨(h5 i hi).1,fun hm=>(h5 i hi).2.resolve_left fun hc=> ?_⟩,h6,h7,h8,?_,?_,?_,h11,?_,h14,?_,?_⟩
  ·simp_all
  ·exact(RS (d:=Bu) (P:=fun x:AM=>ae (AS w) x∧x.1≤w.Ab.length)).1 fun i hi=>⟨(h9 i hi).1,(h9 i hi).2.1⟩
  ·exact(eQ (f:=fun x:AM=>x.1) (d:=Bu)).1 fun i hi=>(h9 i hi).2.2
  ·exact(RS (d:=Qz) (P:=fun m:As=>qn (AS w) m∧m.1=w.Ab.length∧m.2.1=A8 w.Ab)).1 h10
  ·refine(RS (d:=Au) (P:=AE3)).1 fun i hi=> ?_
   rw[h11]at hi;rcases(by omega:i=0∨i=1)with rfl|rfl
   all_goals omega
  ·exact(RS (d:=Mk) (P:=fun s:Ac=>BN s.1=true∧AN s.1≤w.Ab.length∧s.2.1.length≤40)).1 fun i hi=>⟨(h15 i hi).1.1,(h15 i hi).1.2,(h15 i hi).2.1⟩
  ·exact(eQ (f:=fun s:Ac=>s.1) (d:=Mk)).1 fun i hi=>(h15 i hi).2.2
 ·intro h
  refine⟨h.cfg,h.oR,h.lost,h.EC,fun i hi=>⟨(h.Am i hi).1,?_⟩,h.lZ,h.rN,h.xz,fun i hi=> ?_,fun i hi=>h.BW _ (BG hi),⟨h.mu,h.AR _ (BG (by rw[h.mu];omega)),h.AR _ (BG (by rw[h.mu];omega))⟩,h.RG,fun i hi=> ?_⟩
  ·by_cases hm:(i:Int)∈w.lost
   ·exact .inr ((h.Am i hi).2 hm)
   simp_all
  ·have:=h.AH _ (BG (d:=Bu) hi)
   exact⟨this.1,this.2,(eQ (f:=fun x:AM=>x.1) (d:=Bu)).2 h.Xm i hi⟩
  ·have:=h.BX _ (BG (d:=Mk) hi)
   exact⟨⟨this.1,this.2.1⟩,this.2.2,(eQ (f:=fun s:Ac=>s.1) (d:=Mk)).2 h.Xp i hi⟩
end Go.M
end
section
namespace Go.M
open Go.M.H (AJ AO As Ac AA CN AQ A7 AM AY A3 Ax BC)
theorem pW{x y:Int}:∀{l:AAO},y∈gd x l↔y=x∨y∈l
 |[]=>by simp[gd]
 |z::l=>by
  simp only[gd];split
  ·simp
  ·simp only[ANv,pW (l:=l)]
   grind
theorem xC{x:Int}:∀{l:AAO},S8 id l→x∉l→S8 id (gd x l)
 |[],_,_=>by simp[gd,S8]
 |z::l,h,hx=>by
  simp only[S8,ARf,id]at h;simp only[ANv,AXi]at hx;simp only[gd];split
  ·rename_i hz
   simp only[S8,ARf,ANv,id];grind
  ·rename_i hz
   simp only[S8,ARf,id];refine⟨fun a ha=> ?_,xC h.2 hx.2⟩;rcases pW.1 ha with rfl|ha
   all_goals grind
theorem Nb{x y:Int}{l:AAO}:y∈JG x l↔y=x∨y∈l:=by
 unfold JG;split
 ·simp_all
 ·exact pW
theorem AEi{x:Int}{l:AAO}(h:S8 id l):S8 id (JG x l):=by
 grind[JG,xC]
theorem II{c:B9}{x:Int}{l:AAO}(h:Ay c l=true)(hx:0≤x∧x<c.1.length):Ay c (JG x l)=true:=by
 rw[EK]at h⊢;refine⟨h.1,fun y hy=> ?_,AEi h.2.2⟩;rcases Nb.1 hy with rfl|hy
 all_goals simp_all
theorem Lh{c:B9}{l:AAO}(p:Int→Bool)(h:Ay c l=true):Ay c (l.filter p)=true:=by
 grind[EK]
theorem Rl{x:Int}{l m:AAO}:x∈less l m↔x∈l∧x∉m:=by simp[less]
theorem cf{c:B9}(h:Ee c=true):Ay c []=true:=EK.2 ⟨h,fun _ h=>by simp at h,List.Pairwise.nil⟩
theorem AEo{l m:AAO}(h:l.Nodup)(hs:∀x∈l,x∈m):l.length≤m.length:=by
 induction l generalizing m with
 |nil=>simp
 |cons a l ih=>
  rw[AW6]at h;have ha:=hs a (by simp);have:=ih (m:=m.erase a) h.2 fun x hx=>(List.mem_erase_of_ne (fun e:x=a=>h.1 (by simp_all))).2 (hs x (by simp[hx]))
  grind
theorem w9{c:AAO}{d:Int}:∀{l acc:AAO},d∈iU c l acc↔d∈acc∨ ∃n∈l,c.getD n.toNat 0=d
 |[],acc=>by simp[iU]
 |n::l,acc=>by
  simp only[iU];rw[w9 (l:=l)];grind
theorem o_{c:AAO}:∀{l acc:AAO},acc.Nodup→(iU c l acc).Nodup
 |[],acc,h=>h
 |n::l,acc,h=>by
  simp only[iU];refine o_ ?_
  grind
theorem w7{c l m:AAO}(h:∀x∈l,x∈m):ax c l≤ax c m:=by
 refine AEo (o_ List.nodup_nil) fun d hd=> ?_
 grind[w9]
theorem gk{c:B9}{l m:AAO}(hl:holds c l=true)(hm:Ay c m=true)(h:∀x∈l,x∈m):holds c m=true:=by
 simp only[holds,AML,AMc]at hl⊢;have:=w7 (c:=c.1) h;grind
def GS(c:B9)(S:Int→Prop):Prop:= ∃l,holds c l=true∧ ∀n∈l,S n
theorem GS.mono{c:B9}(S T:Int→Prop)(h:∀n,S n→T n)(hS:GS c S):GS c T:=
 let⟨l,h1,h2⟩:=hS;⟨l,h1,fun n hn=>h n (h2 n hn)⟩
theorem GS.list{c:B9}{l:AAO}(h:Ay c l=true):GS c (fun n=>n∈l)↔holds c l=true:=
 ⟨fun⟨_,h1,h2⟩=>gk h1 h h2,fun h1=>⟨l,h1,fun _ hn=>hn⟩⟩
theorem holds_nil{c:B9}:holds c []=false:=by
 rw[ATX];intro h;have hc:=(EK.1 (Nl h)).1;have:=(GW hc).2.2.1;simp only[holds,AML,AMc,ax,iU]at h;grind
theorem GS.empty{c:B9}: ¬GS c (fun _=>False):=fun⟨l,h1,h2⟩=>by
 cases l with
 |nil=>grind[holds_nil]
 |cons a l=>exact h2 a (by simp)
theorem sD{a b:AJ}(h:a.1=b.1):(better a b).1=b.1:=by grind[better]
theorem dd{e y:AJ}:∀{l:List AJ},y∈keep e l→y=e∨y∈l
 |[],h=>by simpa[keep]using h
 |x::l,h=>by
  simp only[keep]at h;split at h
  ·rcases ANv.1 h with rfl|h
   all_goals grind[better]
  ·split at h
   ·simp_all
   ·rcases ANv.1 h with rfl|h
    ·simp
    ·rcases dd h with h|h<;>simp[h]
theorem AHk{e y:AJ}{l:List AJ}(h:y∈keep e l):y.1=e.1∨ ∃z∈l,z.1=y.1:=by
 rcases dd h with rfl|h
 all_goals grind
theorem W0{e:AJ}:∀{l:List AJ},(keep e l).length≤l.length+1∧l.length≤(keep e l).length
 |[]=>by simp[keep]
 |x::l=>by
  have:=W0 (e:=e) (l:=l);grind[keep,List.length_cons]
abbrev Wq(l:List AJ):Prop:=S8 (fun e:AJ=>e.1) l
theorem Ug{e:AJ}:∀{l:List AJ},Wq l→Wq (keep e l)
 |[],_=>by simp[keep,S8]
 |x::l,h=>by
  have h':=h;simp only[S8,ARf]at h;simp only[keep];split
  ·rename_i hx
   simp only[Wq,S8,ARf];grind[sD]
  ·split
   ·rename_i hx
    simp only[Wq,S8,ARf,ANv];grind
   ·rename_i h1 h2
    simp only[Wq,S8,ARf];refine⟨fun a ha=> ?_,Ug h.2⟩;grind[AHk]
theorem Gn{p:Int}{l:List AJ}{e:AJ}(h:Ek p l=some e):e∈l∧e.1=p:=by
 grind[Ek,List.mem_of_find?_eq_some]
theorem ACL{p:Int}{l:List AJ}(h:Ek p l=none):∀e∈l,e.1≠p:=by
 grind[Ek]
theorem Ls{e:AJ}:∀{l:List AJ},Wq l→e∈l→Ek e.1 l=some e
 |x::l,h,he=>by
  simp only[S8,ARf]at h;unfold Ek;rw[AUh];rcases ANv.1 he with rfl|he
  ·simp
  ·have:=h.1 e he
   have cF:(x.1==e.1)=false:=by grind
   rw[cF];exact Ls h.2 he
theorem kz{e:AJ}{p:Int}:∀{l:List AJ},Wq l→Ek p (keep e l)=if p=e.1 then some (match Ek p l with|some x=>better x e|none=>e)else Ek p l
 |[],_=>by
  simp only[keep,Ek,AUh,List.find?_nil];grind
 |x::l,h=>by
  have h':=h;simp only[S8,ARf]at h;have tail:∀q,q≤x.1→q≠x.1→Ek q l=none:=fun q hq cF=>by
   grind[Ek,Gn]
  have cons:∀(z:AJ) (m:List AJ),Ek p (z::m)=if z.1=p then some z else Ek p m:=fun z m=>by
   unfold Ek;grind
  simp only[keep];split
  ·rename_i hx
   rw[cons,cons,sD hx];grind
  ·split
   ·grind
   ·rename_i h1 h2
    rw[cons,cons,kz h.2];grind
theorem Q1{y:AJ}:∀{l k:List AJ},y∈Db k l→y∈k∨y∈l
 |[],k,h=> .inl h
 |e::l,k,h=>by
  rcases Q1 (l:=l) h with h|h
  ·rcases dd h with rfl|h
   all_goals simp_all
  simp_all
theorem Qm:∀{l k:List AJ},Wq k→Wq (Db k l)
 |[],k,h=>h
 |e::l,k,h=>Qm (l:=l) (Ug h)
theorem AIf{e:AJ}{l:List AJ}{p:Int}{x:AJ}(h:Wq l)(hx:Ek p l=some x):∃y,Ek p (keep e l)=some y∧(y=x∨x.2.1<y.2.1):=by
 rw[kz h];split
 ·rw[hx]
  refine⟨better x e,rfl,?_⟩;unfold better;grind
 simp_all
theorem Ww{p:Int}:∀{l k:List AJ} {x:AJ},Wq k→Ek p k=some x→ ∃y,Ek p (Db k l)=some y∧(y=x∨x.2.1<y.2.1)
 |[],k,x,_,hx=>⟨x,hx,.inl rfl⟩
 |e::l,k,x,h,hx=>by
  obtain⟨y,h1,h2⟩:=AIf (e:=e) h hx;obtain⟨z,h3,h4⟩:=Ww (l:=l) (Ug h) h1;refine⟨z,h3,?_⟩;grind
theorem fh{e:AJ}:∀{l k:List AJ},Wq k→e∈l→ ∃y,Ek e.1 (Db k l)=some y∧e.2.1≤y.2.1
 |a::l,k,h,he=>by
  rcases ANv.1 he with rfl|he
  ·have h1:∃y,Ek e.1 (keep e k)=some y∧e.2.1≤y.2.1:=by
    rw[kz h,ALy rfl];refine⟨_,rfl,?_⟩;split
    ·grind[better]
    omega
   obtain⟨y,h1,h2⟩:=h1;obtain⟨z,h3,h4⟩:=Ww (l:=l) (Ug h) h1;exact⟨z,h3,by grind⟩
  ·exact fh (l:=l) (Ug h) he
theorem Qk{k:Int}{y:AJ}:∀{l:List AJ} {i:Nat},y∈MI k i l→y∈l
 |[],_,h=>h
 |e::l,i,h=>by
  simp only[MI]at h;split at h
  ·rcases ANv.1 h with rfl|h
   ·simp
   ·simp[Qk h]
  ·simp[Qk h]
end Go.M
end
section
namespace Go.M
open Go.M.H (AJ AO As Ac AA CN AQ A7 AM AY A3 Ax BC)
theorem Iu{e o:Int}(he:1≤e∧e≤30)(ho:1≤o∧o≤60):BN (D1 e o)=true∧AN (D1 e o)=e∧A6 (D1 e o)=o:=by
 have h1:XJ (D1 e o)=e:=by
  grind[XJ,D1,Int.tdiv_eq_ediv_of_nonneg]
 have h2:(D1 e o).tmod 4294967296=o:=by
  grind[D1,Int.tmod_eq_emod_of_nonneg]
 have h3:BN (D1 e o)=true:=by
  unfold BN;rw[h1,h2,AML,Ah,Ah];omega
 exact⟨h3,by unfold AN;simp_all,by unfold A6;simp_all⟩
theorem CF{p:Int}(h:BN p=true):(1≤AN p∧AN p≤30)∧(1≤A6 p∧A6 p≤60)∧D1 (AN p) (A6 p)=p:=by
 have h0:=dZ h;have h1:=h;unfold BN at h1;rw[AML,Ah,Ah]at h1;have e1:AN p=XJ p:=by unfold AN;rw[ALy h]
 grind[A6,D1,XJ,Int.tdiv_eq_ediv_of_nonneg,Int.tmod_eq_emod_of_nonneg]
theorem tO{p q:Int}(hp:BN p=true)(hq:BN q=true):p≤q↔AN p<AN q∨(AN p=AN q∧A6 p≤A6 q):=by
 obtain⟨a1,a2,a3⟩:=CF hp;obtain⟨b1,b2,b3⟩:=CF hq;grind[D1]
theorem sY{p q:Int}(hp:BN p=true)(hq:BN q=true)(h1:AN p=AN q)(h2:A6 p=A6 q):p=q:=by
 rw[←(CF hp).2.2,←(CF hq).2.2,h1,h2]
theorem fV.nil:fV Cl:=⟨by simp,by simp,by simp,by simp,List.Pairwise.nil,by simp⟩
theorem cq{s:AO}{e:AJ}(h:(Fv s e).2=true):fV (Fv s e).1∧(Fv s e).1=(s.1,s.2.1++[e],s.2.2.1,())∧ET e=true∧takes s e=true:=by
 unfold Fv at*;split at h
 ·cases h
 rename_i hs;rw[AMD hs];simp only[APC,APY]at hs;rw[DN]at hs;split at h
 case isFalse=>cases h
 rename_i h1;rw[ALy h1];simp only[AML,AMc]at h1;obtain⟨he,ht,hl⟩:=h1;refine⟨⟨hs.nk,hs.kept,?_,fun x hx=> ?_,hs.fo,hs.sl⟩,rfl,he,ht⟩
 ·have:=hs.nl
  grind
 ·simp only[AOs,ATY]at hx
  rcases hx with hx|rfl
  ·exact hs.late x hx
  omega
theorem KS{s:AO}{k:Int}(h:(D5 s k).2=true):fV s∧fV (D5 s k).1∧(D5 s k).1=(Db s.1 (MI k 0 s.2.1),[],s.2.2.1,()):=by
 unfold D5 at*;split at h
 ·cases h
 rename_i hs;rw[AMD hs];simp only[APC,APY]at hs;rw[DN]at hs;simp only at h⊢;split at h
 case isFalse=>cases h
 rename_i h1;rw[ALy h1];simp only[AML,AMc]at h1;refine⟨hs,⟨h1.2,fun e he=> ?_,by simp,by simp,Qm hs.fo,hs.sl⟩,rfl⟩;rcases Q1 he with he|he
 ·exact hs.kept e he
 ·exact hs.late e (Qk he)
theorem aW{s:AO}{u:Int}(h:(Bh s u).2=true):fV s∧fV (Bh s u).1∧(Bh s u).1=(Db s.1 (MI 1048575 0 s.2.1),[],max s.2.2.1 u,())∧0≤u∧u≤30:=by
 unfold Bh at*;split at h
 ·cases h
 rename_i hs;rw[AMD hs];simp only[APC,APY]at hs;simp only at h⊢;split at h
 case isFalse=>cases h
 rename_i h1;rw[ALy h1];simp only[AML,Ah]at h1;obtain⟨k1,k2,k3⟩:=KS h1.1;have hY:(CZ s).1=_:=k3;rw[hY];refine⟨k1,⟨?_,?_,by simp,by simp,Qm k1.fo,?_⟩,rfl,h1.2⟩
 ·have:=k2.nk;simp_all
 ·have:=k2.kept;simp_all
 ·have:=k1.sl
  grind
theorem iI{s:AO}{u:Int}(h:(Fy s u).2=true):fV s∧fV (Fy s u).1∧(Fy s u).1=(s.1.filter fun e=>decide (e.1>u),s.2.1,s.2.2.1,()):=by
 unfold Fy at*;split at h
 ·cases h
 rename_i hs;rw[AMD hs];simp only[APC,APY]at hs;rw[DN]at hs;split at h
 case isFalse=>cases h
 rename_i h1;rw[ALy h1];refine⟨hs,⟨ASs (AS6 _ _) hs.nk,fun e he=>hs.kept e (ATL.1 he).1,hs.nl,hs.late,hs.fo.filter _,hs.sl⟩,rfl⟩
theorem vi{c:B9}{ss:List AO}{lost:AAO}{n u:Int}(h:(W9 c ss lost n u).2=true):
  fV (W9 c ss lost n u).1∧(W9 c ss lost n u).1=(FW [] (others lost 0 ss),[],u,())∧holds c lost=false∧ ∀s∈others lost 0 ss,fV s:=by
 unfold W9 at*;simp only at h⊢;split at h
 case isFalse=>cases h
 rename_i h1;rw[ALy h1];simp only[AML,AMc,AS9,ATV]at h1;obtain⟨_,_,_,h2,_,h3,h4⟩:=h1;exact⟨DN.1 h4,rfl,h2,fun s hs=>DN.1 (h3 s hs)⟩
theorem dr{l:List CN}:∀{d i:Nat},i+d=l.length→(W3 l i d=0∧ ∀j,i≤j→j<l.length→(l.getD j GJ).2.1=true)∨
  ∃k,i≤k∧k<l.length∧W3 l i d=(k:Int)+1∧(l.getD k GJ).2.1=false∧ ∀j,i≤j→j<k→(l.getD j GJ).2.1=true
 |0,i,h=> .inl ⟨rfl,fun j h1 h2=>by omega⟩
 |d+1,i,h=>by
  simp only[W3];cases hb:(l.getD i ([],false,0,())).2.1 with
  |false=>grind
  |true=>
   simp only[AMP,AMU];rcases dr (l:=l) (d:=d) (i:=i+1) (by omega)with⟨h1,h2⟩|⟨k,h1,h2,h3,h4,h5⟩
   all_goals grind
theorem Nq{c:B9}{r:AQ}(h:zI c r)(hl:0<r.1.length):∃k,k<r.1.length∧A8 r.1=(k:Int)+1∧(r.1.getD k GJ).2.1=false∧ ∀j,j<k→(r.1.getD j GJ).2.1=true:=by
 rcases dr (l:=r.1) (d:=r.1.length) (i:=0) (by omega)with⟨h1,h2⟩|⟨k,h1,h2,h3,h4,h5⟩
 ·have:=(h.down (r.1.length-1) (by omega) (h2 _ (by omega) (by omega))).1
  omega
 ·exact⟨k,h2,h3,h4,fun j hj=>h5 j (by omega) hj⟩
theorem pH{c:B9}{r:AQ}{ns:AAO}(h:(IM c r ns).2.2=true):zI c r∧zI c (IM c r ns).1∧(IM c r ns).1=(r.1++[(ns,false,0,())],r.2.1,())∧(IM c r ns).2.1=(r.1.length:Int)+1∧holds c ns=true∧r.1.length<30:=by
 unfold IM at*;split at h
 ·cases h
 rename_i hs;rw[AMD hs];simp only[APC,APY]at hs;rw[Iz]at hs;split at h
 case isFalse=>cases h
 rename_i h1;rw[ALy h1];simp only[AML,AMc]at h1;have hn:=hs.n;refine⟨hs,⟨hs.cfg,?_,?_,fun e he=> ?_,fun i hi hc=> ?_⟩,rfl,rfl,h1.1,by omega⟩
 ·grind
 ·rcases hs.trim with h2|⟨h2,h3⟩
  all_goals grind
 ·simp only[AOs,ATY]at he
  rcases he with he|rfl
  ·exact hs.Ab e he
  simp_all
 ·simp only[APB,ANZ,AQZ]at hi
  have get:∀j,j<r.1.length→(r.1++[(ns,false,0,())]).getD j GJ=r.1.getD j GJ:=fun j hj=>by
   grind
  by_cases hl:i<r.1.length
  ·rw[get i hl]at hc
   obtain⟨h2,h3⟩:=hs.down i hl hc;grind
  simp_all
theorem WD{l:List CN}{i j:Nat}{last:Int}(hi:i<l.length):(Gi l i last).getD j GJ=if i=j then((l.getD i GJ).1,true,last,())else l.getD j GJ:=by
 grind[Gi]
theorem ll{c:B9}{r:AQ}{b last:Int}(h:(Mi c r b last).2=true):zI c r∧zI c (Mi c r b last).1∧
  ∃k,k<r.1.length∧A8 r.1=(k:Int)+1∧k+1<r.1.length∧b=r.1.length∧(0≤last∧last≤60)∧(Mi c r b last).1=(Gi r.1 k last,r.2.1,())∧(r.1.getD k GJ).2.1=false∧ ∀j,j<k→(r.1.getD j GJ).2.1=true:=by
 unfold Mi at*;split at h
 ·cases h
 rename_i hs;rw[AMD hs];simp only[APC,APY]at hs;rw[Iz]at hs;split at h
 case isFalse=>cases h
 rename_i h1;rw[ALy h1];simp only[AML,AMc,Ah]at h1;obtain⟨hb,h0,cF,hlast⟩:=h1;have hl:0<r.1.length:=by
  rcases AXN r.1.length with hz|hz
  ·exfalso
   apply h0;unfold A8;rw[hz];rfl
  omega
 obtain⟨k,k1,k2,k3,k4⟩:=Nq hs hl;have hk:(A8 r.1-1).toNat=k:=by omega
 rw[hk];have hlen:(Gi r.1 k last).length=r.1.length:=by simp[Gi]
 refine⟨hs,⟨hs.cfg,by rw[hlen];exact hs.n,?_,fun e he=> ?_,fun i hi hc=> ?_⟩,k,k1,k2,by omega,hb,hlast,rfl,k3,k4⟩
 ·simp only[hlen];exact hs.trim
 ·unfold Gi at he
  rcases ATR he with he|rfl
  ·exact hs.Ab e he
  ·exact⟨(hs.Ab _ (BG k1)).1,hlast,fun hf=>by cases hf⟩
 ·simp only[hlen]at hi⊢
  rw[WD k1]at hc;by_cases hik:k=i
  ·subst hik
   refine⟨by omega,fun j hj=> ?_⟩;rw[WD k1,AMD (by omega)];simp_all
  ·rw[AMD hik]at hc
   obtain⟨h2,h3⟩:=hs.down i hi hc;grind[WD]
theorem pS{c:B9}{r:AQ}{p:Int}(h:(Lx c r p).2=true):zI c r∧zI c (Lx c r p).1∧(Lx c r p).1=(r.1,max r.2.1 p,()):=by
 unfold Lx at*;split at h
 ·cases h
 rename_i hs;rw[AMD hs];simp only[APC,APY]at hs;rw[Iz]at hs;split at h
 case isFalse=>cases h
 rename_i h1;rw[ALy h1];simp only[AML,AMc]at h1;refine⟨hs,⟨hs.cfg,hs.n,?_,hs.Ab,hs.down⟩,rfl⟩;simp only;have hp:=(dZ h1.1).1;by_cases hm:r.2.1≤p
 ·grind
 ·rw[show max r.2.1 p=r.2.1 by omega]
  exact hs.trim
theorem Vq{c:B9}{w:AM}{d:ACC}(h:(CE c w d).2.2=true):ae c w∧ae c (CE c w d).1∧(CE c w d).1=(w.1,w.2.1++[(d,[],false,())],())∧(CE c w d).2.1=(w.2.1.length:Int)+1:=by
 unfold CE at*;split at h
 ·cases h
 rename_i hs;rw[AMD hs];simp only[APC,APY]at hs;rw[IW]at hs;split at h
 case isFalse=>cases h
 rename_i h1;rw[ALy h1];exact⟨hs,IW.1 h1,rfl,rfl⟩
theorem aj{c:B9}{s:AO}{ep n:Int}(hn:0≤n∧n<c.1.length):∀{l:List A7} {o:Int},(∀x∈l,x.1.length≤40∧Ay c x.2.1=true∧x.2.2.1=holds c x.2.1)→
  (∀x∈BB c s ep n o l,x.1.length≤40∧Ay c x.2.1=true∧x.2.2.1=holds c x.2.1)∧Qf (BB c s ep n o l)≤Qf l∧(BB c s ep n o l).length=l.length
 |[],o,h=>by simp[BB]
 |x::l,o,h=>by
  obtain⟨h1,h2,h3⟩:=aj (s:=s) (ep:=ep) hn (l:=l) (o:=o+1) fun y hy=>h y (by simp[hy])
  have hx:=h x (by simp);simp only[BB,ANv,ANZ,Qf];split
  ·rename_i hd
   simp only[AML,AS9]at hd;refine⟨?_,?_,by omega⟩
   ·rintro y (rfl|hy)
    ·exact⟨hx.1,II hx.2.1 hn,rfl⟩
    grind
   grind
  grind
theorem r_{c:B9}{n:Int}:∀{l:List A7},(∀x∈l,x.1.length≤40∧Ay c x.2.1=true∧x.2.2.1=holds c x.2.1)→
  (∀x∈l.map (Cs n),x.1.length≤40∧Ay c x.2.1=true∧x.2.2.1=holds c x.2.1)∧Qf (l.map (Cs n))=Qf l
 |[],h=>by simp
 |x::l,h=>by
  obtain⟨h1,h2⟩:=r_ (n:=n) (l:=l) fun y hy=>h y (by simp[hy])
  have hx:=h x (by simp);simp only[AVJ,ANv,Qf,h2,Cs,ATG]
  rintro y (rfl|hy)
  ·refine⟨hx.1,?_,?_⟩
   ·simp only
    split
    ·simp_all
    ·exact Lh _ hx.2.1
   ·simp only
    split
    ·simp_all
    ·rename_i hd
     simp only[APC]at hd;rw[hd]
     symm
     rw[ATX];grind[gk,Rl]
  grind
theorem Uu{c:B9}{w:AM}{n:Int}(h:ae c w):ae c (CA c w n).1∧(CA c w n).1=(w.1,w.2.1.map (Cs n),()):=by
 unfold CA;rw[IW.2 h];obtain⟨h1,h2⟩:=r_ (n:=n) h.words;exact⟨⟨h.cfg,h.ep,by simpa using h.n,h1,by simp only[AMP];exact h2▸h.opn⟩,rfl⟩
theorem GR{l:List AJ}:0≤Lf l∧Lf l≤60:=by
 unfold Lf;cases l.length==0 with
 |true=>simp
 |false=>
  simp only[AMU];rcases AKU (BN (l.getD (l.length-1) Dn).1)with h|h
  ·have:=(CF h).2.1;omega
  grind[A6]
theorem mM{c:B9}{m:As}{n:Int}{l:List AJ}(h:(Ln c m n l).2=true):qn c m∧qn c (Ln c m n l).1∧m.2.2.2.2.1=false∧
  (Ln c m n l).1=(m.1,m.2.1,JG n m.2.2.1,Db m.2.2.2.1 (l.filter fun e=>AN e.1==m.2.1),m.2.2.2.2.1,m.2.2.2.2.2.1,()):=by
 unfold Ln at*;split at h
 ·cases h
 rename_i hs;rw[AMD hs];simp only[APC,APY]at hs;rw[HI]at hs;simp only at h⊢;split at h
 case isFalse=>cases h
 rename_i h1;rw[ALy h1];simp only[AML,AS9]at h1;exact⟨hs,HI.1 h1.2,h1.1,rfl⟩
theorem mH{c:B9}{m:As}{s:AAO}(h:(IA c m s).2=true):qn c m∧qn c (IA c m s).1∧m.2.2.2.2.1=false∧JT c s (m.2.2.1.filter s.contains)=true∧
  (IA c m s).1=(m.1,m.2.1,m.2.2.1,m.2.2.2.1,true,List.replicate (Lf m.2.2.2.1).toNat [],()):=by
 unfold IA at*;split at h
 ·cases h
 rename_i hs;rw[AMD hs];simp only[APC,APY]at hs;rw[HI]at hs;split at h
 case isFalse=>cases h
 rename_i h1;rw[ALy h1];simp only[AML,AS9]at h1;refine⟨hs,⟨hs.cfg,hs.ep,hs.b,hs.ew,hs.fo,hs.seen,fun l hl=> ?_,?_⟩,h1.1,h1.2,rfl⟩
 ·simp only at hl
  rw[ATu hl];exact cf hs.cfg
 ·simp only[AWy,AS_]
  have:=(GR (l:=m.2.2.2.1)).1;omega
theorem a_{c:B9}{m:As}{s:AO}{n:Int}(hn:0≤n∧n<c.1.length):∀{l:List AAO} {o:Int},(∀x∈l,Ay c x=true)→
  (∀x∈Dz m s n o l,Ay c x=true)∧(Dz m s n o l).length=l.length
 |[],o,h=>by simp[Dz]
 |x::l,o,h=>by
  obtain⟨h1,h2⟩:=a_ (m:=m) (s:=s) hn (l:=l) (o:=o+1) fun y hy=>h y (by simp[hy])
  have hx:=h x (by simp);simp only[Dz,ANv,ANZ,h2,ATG]
  rintro y (rfl|hy)
  all_goals grind[II]
theorem ADL{c:B9}{s:AO}{l:List CN}{n:Int}{m:As}(hn:0≤n∧n<c.1.length)(h:qn c m):qn c (G4 s l n m):=by
 unfold G4;split
 ·obtain⟨h1,h2⟩:=a_ (m:=m) (s:=s) hn (o:=1) h.wrote
  exact⟨h.cfg,h.ep,h.b,h.ew,h.fo,h.seen,h1,by simp only[h2];exact h.n⟩
 omega
theorem fG{c:B9}{m:As}{n:Int}(h:qn c m):qn c (B7 c m n).1∧(B7 c m n).1=(m.1,m.2.1,m.2.2.1,m.2.2.2.1,m.2.2.2.2.1,m.2.2.2.2.2.1.map fun l=>less l [n],()):=by
 unfold B7;rw[HI.2 h];refine⟨⟨h.cfg,h.ep,h.b,h.ew,h.fo,h.seen,fun l hl=> ?_,?_⟩,rfl⟩
 ·simp only[AMP,AMO,AOR,ATS]at hl
  obtain⟨l',h1,rfl⟩:=hl;exact Lh _ (h.wrote l' h1)
 ·simp only[AMP,AMO,AOR,AXK]
  exact h.n
theorem rp{c:B9}{g:AQ}{sure:Int}{r:AY}{l:List Ax}(h:(Bz c g sure r l).2=0):AE3 (Bz c g sure r l).1:=by
 unfold Bz at*;split at h
 ·omega
 rename_i hs;rw[AMD hs];simp only[APC,APY,AML,Iz,Qs]at hs;obtain⟨hg,hr,_⟩:=hs;have r1:=hr.ep;have r2:=hr.off;have r3:=hr.n;split at h
 ·omega
 rename_i h1;rw[AMD h1];simp only[AS8,AMc,AXi]at h1;have hn:=hg.n;simp only at h⊢;split at h
 ·rename_i h2
  rw[ALy h2];have hp:BN g.2.1=true:=by
   rcases hg.trim with ht|ht
   all_goals grind[D1]
  obtain⟨a1,a2,_⟩:=CF hp;exact⟨by grind,by grind,by grind⟩
 ·rename_i h2
  rw[AMD h2];split at h
  ·rename_i h3
   rw[ALy h3];exact⟨by grind,by simp_all,by simp_all;omega⟩
  ·rename_i h3
   rw[AMD h3];split at h
   ·omega
   rename_i h4;rw[AMD h4];simp only[AS8,AMc,AXi]at h4;split at h
   ·omega
   rename_i h5;rw[AMD h5];exact⟨by omega,by grind,by simp_all;omega⟩
end Go.M
end
section
namespace Go.M
open Go.M.H (AJ AO As Ac AA CN AQ A7 AM AY A3 Ax BC)
theorem AD{α β:Type}(a:α)(f:α→Option β):(some a).bind f=f a:=rfl
theorem U9{l:AAO}{x:Int}(hl:l.length≤2^30):∀(n i:Nat) (b:AAO),i≤l.length→l.length-i<n→b.length≤2*i+1→
  Kc n l x true i b=some (((),()),(b++l.drop i,()))
 |0,i,b,_,h,_=>by omega
 |n+1,i,b,hi,h,hb=>by
  simp only[Kc,S6,AB,AMP,AMU];by_cases hc:i<l.length
  ·have c1:(0:Int)≤(i:Int)∧(i:Int)<(l.length:Int):=by omega
   have c2:b.length+1≤Dr:=by rw[BT];omega
   rw[ALy c1.2,ALy c1,ALy c2,AK (by omega) (by omega),show((i:Int)+1)=((i+1:Nat):Int)by omega,Ai hc,drop_cons hc,U9 hl n (i+1) _ (by omega) (by omega) (by grind)];simp
  grind
theorem Zf{l:AAO}{x:Int}(hl:l.length≤2^30):∀(n i:Nat) (b:AAO),i≤l.length→l.length-i<n→b.length≤i→
  Kc n l x false i b=some (((),()),(b++gd x (l.drop i),()))
 |0,i,b,_,h,_=>by omega
 |n+1,i,b,hi,h,hb=>by
  simp only[Kc,S6,AB,AS5,AMp];have c2:b.length+1≤Dr:=by rw[BT];omega
  by_cases hc:i<l.length
  ·have c1:(0:Int)≤(i:Int)∧(i:Int)<(l.length:Int):=by omega
   have c3:(b++[x]).length+1≤Dr:=by grind[BT]
   rw[ALy c1.2];simp only[ALy c1,ALy c2,ALy c3];rw[AK (by omega) (by omega),show((i:Int)+1)=((i+1:Nat):Int)by omega,Ai hc,drop_cons hc];simp only[gd];by_cases hx:l[i]>x
   ·rw[ALy hx,ALy (by omega),U9 hl n (i+1) _ (by omega) (by omega) (by grind)]
    simp
   ·rw[AMD hx,AMD (by omega),Zf hl n (i+1) _ (by omega) (by omega) (by simp_all)]
    simp
  ·rw[AMD (by omega),ALy c2,AMj (by omega)]
   rfl
theorem My{l:AAO}{x:Int}(hl:l.length≤2^30):Lu l x=some (((),()),(JG x l,())):=by
 unfold Lu Zo JG;rw[KJ (by omega)];simp only[AD];rcases AKU (l.contains x)with h|h
 ·rw[h,ALy rfl]
  grind[U9,Ae,Ag]
 ·rw[h,AMD (by simp)]
  grind[Zf,Ae,Ag]
theorem ZP{l m:AAO}(hl:l.length≤2^30)(hm:m.length≤2^30):∀(n i:Nat) (b:AAO),i≤l.length→l.length-i<n→b.length≤i→
  OG n l m i b=some (((),()),(b++less (l.drop i) m,()))
 |0,i,b,_,h,_=>by omega
 |n+1,i,b,hi,h,hb=>by
  simp only[OG,Yi,AB];have c2:b.length+1≤Dr:=by rw[BT];omega
  by_cases hc:i<l.length
  ·have c1:(0:Int)≤(i:Int)∧(i:Int)<(l.length:Int):=by omega
   rw[ALy c1.2];simp only[ALy c1,ALy c2];rw[AK (by omega) (by omega),show((i:Int)+1)=((i+1:Nat):Int)by omega,Ai hc,drop_cons hc,KJ (by omega)];simp only[AD,less,ATI];cases hx:m.contains l[i]with
   |true=>
    simp only[AMP,AMU,AMO,AOR];exact ZP hl hm n (i+1) _ (by omega) (by omega) (by omega)
   |false=>
    simp only[AS5,AMp,AS_];rw[ZP hl hm n (i+1) _ (by omega) (by omega) (by simp_all)];simp[less]
  ·rw[AMD (by omega),AMj (by omega)]
   simp[less]
theorem I4{l m:AAO}(hl:l.length≤2^30)(hm:m.length≤2^30):Ia l m=some (((),()),(less l m,())):=by
 grind[Ia,Yq,ZP,Ae,Ag]
theorem MR{e o:Int}(he: -1000≤e∧e≤1000)(ho: -1000≤o∧o≤1000):ES e o=some ((D1 e o,()),()):=by
 grind[ES,D1,AK]
theorem ir{e o:Int}:RZ e o=some (((Gd e o,BM e 1 30&&BM o 1 60,()),()),()):=by
 unfold RZ Gd;rw[Bd,Bd];simp only[AD];rcases AKU (BM e 1 30)with he|he
 ·rcases AKU (BM o 1 60)with ho|ho
  ·have h1:=Ah.1 he
   have h2:=Ah.1 ho;rw[he,ho,AK (x:=4294967296*e) (by omega) (by omega),AK (by omega) (by omega)];rfl
  simp_all
 simp_all
theorem KV{a b:Int}:MP a b=some ((max a b,()),()):=by
 unfold MP;grind
theorem ZO{a b:Int}:S3 a b=some ((min a b,()),()):=by
 unfold S3;grind
def lq(q:AO×Bool):ADH×(List AJ×List AJ×Unit):=(((((),(),q.1.2.2.1,()),q.2,()),()),(q.1.1,q.1.2.1,()))
theorem OT{s:AO}(h1:s.1.length≤2^30)(h2:s.2.1.length≤2^30):Em s=some ((((),(),s.2.2.1,()),()),(s.1,s.2.1,())):=by
 unfold Em;rw[ALy (by rw[BT];omega),ALy (by rw[BT];omega)]
theorem mP{s:AO}{e:AJ}(he:C0 e.1):V_ s e=some ((takes s e,()),()):=by
 unfold V_ takes;rw[Ew he];grind
theorem WV{a b:AJ}:Qg a b=some ((better a b,()),()):=by
 unfold Qg better;grind
theorem Fm{s:AO}(h:H.Al s≤2^30):s.1.length≤2^30∧s.2.1.length≤2^30:=by
 grind[H.AX,H.Ap,H.Al]
theorem Zq{s:AO}{e:AJ}(hw:H.Al s≤2^30)(hs:qq s)(he:C0 e.1):Pg s e=some (lq (Fv s e)):=by
 obtain⟨l1,l2⟩:=Fm hw;unfold Pg Fv;rw[show(s.1,s.2.1,s.2.2.1,())=s from rfl,show(e.1,e.2.1,e.2.2.1,e.2.2.2.1,())=e from rfl,Fi hw hs,OT l1 l2,P7 he,mP he];simp only[AD];rcases AKU (CB s)with h|h
 rotate_left
 ·rw[h];rfl
 rw[h];simp only[AMP,AMU,AMO,AOR];cases ET e with
 |false=>rfl
 |true=>
  cases takes s e with
  |false=>rfl
  |true=>
   simp only[AMP,AMU,AMk];by_cases h20:s.2.1.length=20
   ·rw[show((s.2.1.length:Int)==20)=true by simp[h20],show decide (s.2.1.length≠20)=false by simp[h20]]
    rfl
   ·rw[show((s.2.1.length:Int)==20)=false by grind,show decide (s.2.1.length≠20)=true by simp[h20],AMU,ALy (by rw[BT];omega)]
    rfl
theorem TY{l:List AJ}{e:AJ}(hl:l.length≤2^30):∀(n i:Nat) (b:List AJ),i≤l.length→l.length-i<n→b.length≤2*i+1→
  JJ n l true i e.1 e.2.1 e.2.2.1 e.2.2.2.1 b=some (((),()),(b++l.drop i,()))
 |0,i,b,_,h,_=>by omega
 |n+1,i,b,hi,h,hb=>by
  simp only[JJ,Rt,AB,AMP,AMU];by_cases hc:i<l.length
  ·have c1:(0:Int)≤(i:Int)∧(i:Int)<(l.length:Int):=by omega
   have c2:b.length+1≤Dr:=by rw[BT];omega
   rw[ALy c1.2,ALy c1,ALy c2,AK (by omega) (by omega),show((i:Int)+1)=((i+1:Nat):Int)by omega,Ai hc,drop_cons hc,TY hl n (i+1) _ (by omega) (by omega) (by grind),AM8];rfl
  grind
theorem Yf{l:List AJ}{e:AJ}(hl:l.length≤2^30):∀(n i:Nat) (b:List AJ),i≤l.length→l.length-i<n→b.length≤i→
  JJ n l false i e.1 e.2.1 e.2.2.1 e.2.2.2.1 b=some (((),()),(b++keep e (l.drop i),()))
 |0,i,b,_,h,_=>by omega
 |n+1,i,b,hi,h,hb=>by
  simp only[JJ,Rt,AB,AS5,AMp];have c2:b.length+1≤Dr:=by rw[BT];omega
  by_cases hc:i<l.length
  ·have c1:(0:Int)≤(i:Int)∧(i:Int)<(l.length:Int):=by omega
   have c3:(b++[(e.1,e.2.1,e.2.2.1,e.2.2.2.1,())]).length+1≤Dr:=by grind[BT]
   rw[ALy c1.2];simp only[ALy c1,ALy c2,ALy c3];rw[AK (by omega) (by omega),show((i:Int)+1)=((i+1:Nat):Int)by omega,Ai hc,drop_cons hc];rw[show(l[i].1,l[i].2.1,l[i].2.2.1,l[i].2.2.2.1,())=l[i]from rfl,show(e.1,e.2.1,e.2.2.1,e.2.2.2.1,())=e from rfl,WV];simp only[AD,keep];by_cases hx:l[i].1=e.1
   ·rw[show(l[i].1==e.1)=true by simp_all,ALy hx,AMp,show((better l[i] e).1,(better l[i] e).2.1,(better l[i] e).2.2.1,(better l[i] e).2.2.2.1,())=better l[i] e from rfl,TY hl n (i+1) _ (by omega) (by omega) (by grind)]
    simp
   ·rw[show(l[i].1==e.1)=false by simp_all,AMD hx,AMU]
    by_cases hg:l[i].1>e.1
    ·rw[ALy hg,ALy hg,TY hl n (i+1) _ (by omega) (by omega) (by grind)]
     simp
    ·rw[AMD hg,AMD hg,Yf hl n (i+1) _ (by omega) (by omega) (by simp_all)]
     simp
  ·rw[AMD (by omega),ALy c2,AMj (by omega)]
   rfl
theorem XB{l:List AJ}{e:AJ}(hl:l.length≤2^30):Qd l e=some (((),()),(keep e l,())):=by
 grind[Qd,YU,Yf,Ae,Ag]
theorem Tz{l:List AJ}{p:Int}(hl:l.length≤2^30):HJ l p=some ((((Ek p l).getD Dn,(Ek p l).isSome,()),()),()):=by
 have key:∀(n i:Nat),i≤l.length→l.length-i<n→Pb n l p i 0 0 false []=some ((((Ek p (l.drop i)).getD Dn,(Ek p (l.drop i)).isSome,()),()),()):=by
  intro n
  induction n with
  |zero=>omega
  |succ n ih=>
   intro i hi h;simp only[Pb,Zy,AB];by_cases hc:i<l.length
   ·have c1:(0:Int)≤(i:Int)∧(i:Int)<(l.length:Int):=by omega
    rw[ALy c1.2];simp only[ALy c1];rw[AK (by omega) (by omega),show((i:Int)+1)=((i+1:Nat):Int)by omega,Ai hc,drop_cons hc,ih (i+1) (by omega) (by omega)];simp only[Ek,AUh];cases l[i].1==p<;>rfl
   ·rw[AMD (by omega),AMj (by omega)]
    rfl
 grind[HJ,Z1,Ae,Ag]
end Go.M
end
section
namespace Go.M
open Go.M.H (AJ AO As Ac AA CN AQ A7 AM AY A3 Ax BC Al Af AX Ap)
theorem ua{k:Int}{i:Nat}(hk:0≤k∧k<2^63)(hi:i≤63):(cP .i64 (k.fdiv (2^(min i 64))) 1==1)=decide ((k/2^i)%2=1):=by
 obtain⟨m,rfl⟩:∃m:Nat,k=m:=⟨k.toNat,by omega⟩;rw[show min i 64=i by omega];have h1:(m:Int).fdiv (2^i)=((m/2^i:Nat):Int):=by
  grind
 have h2:(m:Int)/2^i=((m/2^i:Nat):Int):=by norm_cast
 have h3:m/2^i<2^63:=Nat.lt_of_le_of_lt (Nat.div_le_self _ _) (by omega);rw[h1,h2,show(1:Int)=((1:Nat):Int)from rfl,AEx h3 (by omega),Nat.and_one_is_mod];rfl
def wL(p:Nat→Bool):Nat→List AJ→List AJ
 |_,[]=>[]
 |i,e::l=>if p i then e::wL p (i+1) l else wL p (i+1) l
theorem tJ{k:Int}(hk:0≤k∧k<2^63):∀{l:List AJ} {i:Nat},i+l.length≤60→wL (fun i=>cP .i64 (k.fdiv (2^(min i 64))) 1==1) i l=MI k i l
 |[],i,_=>rfl
 |e::l,i,h=>by
  simp only[ANZ]at h;have ih:=tJ hk (l:=l) (i:=i+1) (by omega);have ABW:=ua hk (i:=i) (by omega);simp only[wL,MI];simp_all
theorem Xz{s:AO}{k:Int}(h1:s.1.length≤200)(h2:s.2.1.length≤20):∀(n i:Nat) (b:List AJ),i≤s.2.1.length→s.2.1.length-i<n→b.length≤200+i→
  I8 n k i s.1 s.2.1 s.2.2.1 0 [] [] s.2.2.1 b []=
   some (lq (if BM k 0 1048575&&decide ((Db b (wL (fun i=>cP .i64 (k.fdiv (2^(min i 64))) 1==1) i (s.2.1.drop i))).length≤200)then((Db b (wL (fun i=>cP .i64 (k.fdiv (2^(min i 64))) 1==1) i (s.2.1.drop i)),[],s.2.2.1,()),true)else(s,false)))
 |0,i,b,_,h,_=>by omega
 |n+1,i,b,hi,h,hb=>by
  simp only[I8,Sw,AB];by_cases hc:i<s.2.1.length
  ·have c1:(0:Int)≤(i:Int)∧(i:Int)<(s.2.1.length:Int):=by omega
   have ih:=fun b hb=>Xz (k:=k) h1 h2 n (i+1) b (by omega) (by omega) hb
   rw[ALy c1.2,AMD (by omega)];simp only[ALy c1];rw[AK (by omega) (by omega),show((i:Int)+1)=((i+1:Nat):Int)by omega,Ai hc,drop_cons hc,AMV];rw[show(s.2.1[i].1,s.2.1[i].2.1,s.2.1[i].2.2.1,s.2.1[i].2.2.2.1,())=s.2.1[i]from rfl,XB (by omega)];simp only[AD,wL];have kl:=W0 (e:=s.2.1[i]) (l:=b);rcases AKU (cP .i64 (k.fdiv (2^(min i 64))) 1==1)with hb|hb
   ·simp only[hb,AMp,AS_,Db]
    grind
   grind
  ·rw[AMD (by omega),AMj (by omega),Bd,show(s.1,s.2.1,s.2.2.1,())=s from rfl,OT (by omega) (by omega)]
   simp only[AD,wL,Db];cases BM k 0 1048575 with
   |false=>rfl
   |true=>
    simp only[AMP,AMU,AMk];by_cases h200:b.length≤200
    ·rw[AMD (by omega),ASn h200];rfl
    ·rw[ALy (by omega),ATM h200];rfl
theorem XX{s:AO}{k:Int}(hw:Al s≤2^30)(hs:qq s):MY s k=some (lq (D5 s k)):=by
 obtain⟨l1,l2⟩:=Fm hw;unfold MY Sb D5;rw[show(s.1,s.2.1,s.2.2.1,())=s from rfl,Fi hw hs];simp only[AD];rcases AKU (CB s)with h|h
 rotate_left
 ·rw[h];rfl
 have Br:=DN.1 h;rw[h];simp only[AMP,AMU,AMO,AOR];rw[ALy (by rw[BT];omega)];have:=Xz (k:=k) Br.nk Br.nl Ae 0 s.1 (by omega) (Ag (by omega)) (by have:=Br.nk;omega);rw[show((0:Nat):Int)=0 from rfl,ATC]at this;rw[this];rcases AKU (BM k 0 1048575)with hk|hk
 ·have hk':=Ah.1 hk
  have hn:=Br.nl;grind[tJ]
 simp_all
theorem Yo{s:AO}(hw:Al s≤2^30)(hs:qq s):N_ s=some (lq (CZ s)):=by
 unfold N_ CZ;rw[show(s.1,s.2.1,s.2.2.1,())=s from rfl,XX hw hs];rfl
theorem iO{s:AO}{u:Int}(hw:Al s≤2^30)(hs:qq s):Rk s u=some (lq (Bh s u)):=by
 obtain⟨l1,l2⟩:=Fm hw;unfold Rk Bh;rw[show(s.1,s.2.1,s.2.2.1,())=s from rfl,Fi hw hs,Yo hw hs,OT l1 l2,Bd];simp only[AD];cases CB s with
 |false=>rfl
 |true=>
  simp only[AMP,AMU,AMO,AOR,lq];cases(CZ s).2 with
  |false=>rfl
  |true=>
   cases BM u 0 30 with
   |false=>rfl
   |true=>
    simp only[AMP,AMU,AMk,AS_];rw[KV];rfl
theorem lN{s:AO}{ep:Int}(hw:Al s≤2^30)(hs:qq s):Tp s ep=some (((),()),(GD s ep,())):=by
 obtain⟨l1,l2⟩:=Fm hw;unfold Tp VK GD;rcases AKU (CB s)with h|h
 ·have key:∀(n i:Nat) (b:List AJ),i≤s.1.length→s.1.length-i<n→b.length≤i→Is n ep i s.1 s.2.1 s.2.2.1 b=some (((),()),(b++(s.1.drop i).filter fun e=>AN e.1==ep,())):=by
   intro n
   induction n with
   |zero=>omega
   |succ n ih=>
    intro i b hi hn hb;simp only[Is,PR,AB];have c2:b.length+1≤Dr:=by rw[BT];omega
    by_cases hc:i<s.1.length
    ·have c1:(0:Int)≤(i:Int)∧(i:Int)<(s.1.length:Int):=by omega
     rw[ALy c1.2];simp only[ALy c1,ALy c2];rw[AK (by omega) (by omega),show((i:Int)+1)=((i+1:Nat):Int)by omega,Ai hc,drop_cons hc,show(s.1,s.2.1,s.2.2.1,())=s from rfl,Fi hw hs,Ew (hs.1 _ (AMh hc)),h];simp only[AD,AMp,ATI];cases AN s.1[i].1==ep with
     |true=>
      simp only[AMp,AS_];rw[ih (i+1) _ (by omega) (by omega) (by simp_all),AM8];rfl
     |false=>
      grind
    grind
  have:=key Ae 0 [] (by omega) (Ag (by omega)) (by simp);simp_all
 ·obtain⟨m,hm⟩:∃m,Ae=m+1:=⟨Ae-1,by have:=dw;omega⟩
  rw[h,hm];simp only[Is,PR,AB];rw[show(s.1,s.2.1,s.2.2.1,())=s from rfl,Fi hw hs,h];simp_all
theorem iW{s:AO}{u:Int}(hw:Al s≤2^30)(hs:qq s)(hu:C0 u):Q8 s u=some (lq (Fy s u)):=by
 obtain⟨l1,l2⟩:=Fm hw;unfold Q8 UB Fy;rw[show(s.1,s.2.1,s.2.2.1,())=s from rfl,Fi hw hs,OT l1 l2,H7 hu];simp only[AD];cases CB s with
 |false=>rfl
 |true=>
  cases BN u with
  |false=>rfl
  |true=>
   simp only[AMP,AMU,AMO,AOR,AS_];have key:∀(n i:Nat) (b:List AJ),i≤s.1.length→s.1.length-i<n→b.length≤i→KD n u i s.1 s.2.1 s.2.2.1 0 [] [] s.2.2.1 b s.2.1=some (lq ((b++(s.1.drop i).filter fun e=>decide (e.1>u),s.2.1,s.2.2.1,()),true)):=by
    intro n
    induction n with
    |zero=>omega
    |succ n ih=>
     intro i b hi hn hb;simp only[KD,UJ];have c2:b.length+1≤Dr:=by rw[BT];omega
     by_cases hc:i<s.1.length
     ·have c1:(0:Int)≤(i:Int)∧(i:Int)<(s.1.length:Int):=by omega
      rw[ASn c1.2];simp only[ALy c1,ALy c2,AMp];rw[AK (by omega) (by omega),show((i:Int)+1)=((i+1:Nat):Int)by omega,Ai hc,drop_cons hc];simp only[ATI];cases decide (s.1[i].1>u)with
      |true=>
       simp only[AMp,AS_];rw[ih (i+1) _ (by omega) (by omega) (by simp_all),AM8];rfl
      |false=>
       grind
     grind[decide_eq_false,List.drop_eq_nil_of_le,lq]
   have:=key Ae 0 [] (by omega) (Ag (by omega)) (by simp);simp_all
end Go.M
end
section
namespace Go.M
open Go.M.H (AJ AO As Ac AA CN AQ A7 AM AY A3 Ax BC Al Af AX Aa Ap B8 BJ Ar)
theorem Mo{α:Type}{l:List α}{i:Nat}{x d:α}(hi:i<l.length):(l.set i x).getD i d=x:=by
 simp_all
theorem Oy{α:Type}{l:List α}{f:α→α}{i:Nat}(hi:i≤l.length):((l.map f).take i++l.drop i).length=l.length:=by
 simp_all
theorem MZ{α:Type}{l:List α}{f:α→α}{i:Nat}{d:α}(hi:i<l.length):((l.map f).take i++l.drop i).getD i d=l[i]:=by
 grind
theorem Px{α:Type}{l:List α}{f:α→α}{i:Nat}{y:α}(hi:i<l.length)(hy:y=f l[i]):((l.map f).take i++l.drop i).set i y=(l.map f).take (i+1)++l.drop (i+1):=by
 have h:((l.map f).take i).length=i:=by grind
 subst hy;rw[AXS _ _ (by omega),h,AXd,drop_cons hi,AXJ,ATJ (by simp_all),AM8,List.getElem_map];rfl
theorem iF{α:Type}{l:List α}{f:α→α}{i:Nat}(hi:i<l.length)(hf:f l[i]=l[i]):(l.map f).take i++l.drop i=(l.map f).take (i+1)++l.drop (i+1):=by
 grind[List.take_succ_eq_append_getElem,List.append_assoc,drop_cons]
theorem xY{n:Int}:∀{l:AAO},(gd n l).length=l.length+1
 |[]=>rfl
 |a::l=>by
  simp only[gd];split
  ·simp
  ·simp[xY (l:=l)]
theorem Uj{n:Int}{l:AAO}:(JG n l).length≤l.length+1:=by
 grind[JG,xY]
theorem E_{r:AQ}{e:Int}(hl:Af B8 r.1≤2^30):CW r e=some (((),()),(Ao r.1 e,())):=by
 have l1:=AX (f:=B8) (l:=r.1);unfold CW Ao;rw[Bd];simp only[AD];rcases AKU (BM e 1 (r.1.length:Int))with h|h
 ·have h':=Ah.1 h
  have hm:=Aa (f:=B8) (BG (d:=GJ) (l:=r.1) (i:=(e-1).toNat) (by omega));have qX:(r.1.getD (e-1).toNat GJ).1.length≤Af B8 r.1:=hm;rw[h,AK (by omega) (by omega)];simp only[AMP,AMU,AS_];rw[ALy (by omega),ALy (by grind[BT,GJ])];rfl
 simp_all
theorem RU{r:AQ}(hl:Af B8 r.1≤2^30):GA r=some ((((),r.2.1,()),()),(r.1,())):=by
 have l1:=AX (f:=B8) (l:=r.1);have key:∀(n i:Nat) (b:List CN),i≤r.1.length→r.1.length-i<n→b.length≤i→OQ n i r.1 r.2.1 0 [] r.2.1 b=some ((((),r.2.1,()),()),(b++r.1.drop i,())):=by
  intro n
  induction n with
  |zero=>omega
  |succ n ih=>
   intro i b hi hn hb;simp only[OQ,Yb,AB];by_cases hc:i<r.1.length
   ·have c1:(0:Int)≤(i:Int)∧(i:Int)<(r.1.length:Int):=by omega
    have hm:=Aa (f:=B8) (AMh hc)
    replace hm:r.1[i].1.length≤Af B8 r.1:=hm
    rw[ALy c1.2,ALy c1,AK (by omega) (by omega),show((i:Int)+1)=((i+1:Nat):Int)by omega,Ai hc,ALy (by rw[BT];omega),ALy (by rw[BT];omega),drop_cons hc,ih (i+1) _ (by omega) (by omega) (by simp_all),AM8];rfl
   grind
 grind[GA,YC,Ae,Ag]
def pkR(q:AQ×Bool):AFt×(List CN×Unit):=(((((),q.1.2.1,()),q.2,()),()),(q.1.1,()))
section
variable{c:B9} {r:AQ} (hc:c.1.length≤2^40) (hl:Af B8 r.1≤2^30) (ht:C0 r.2.1)
include hc hl ht
theorem mQ{ns:AAO}(hn:ns.length≤2^30):OZ c r ns=some (((((),(IM c r ns).1.2.1,()),(IM c r ns).2.1,(IM c r ns).2.2,()),()),((IM c r ns).1.1,())):=by
 have l1:=AX (f:=B8) (l:=r.1);unfold OZ IM;rw[show(c.1,c.2.1,())=c from rfl,show(r.1,r.2.1,())=r from rfl,Pe hc hl ht,RU hl,Ey hc (by omega)];simp only[AD];cases Mc c r with
 |false=>rfl
 |true=>
  cases holds c ns with
  |false=>rfl
  |true=>
   simp only[AMP,AMU,AMO,AOR,AMk];by_cases h30:r.1.length=30
   ·simp_all
   ·rw[show((r.1.length:Int)==30)=false by grind,show decide (r.1.length≠30)=true by simp[h30],AMU,ALy (by rw[BT];omega),ALy (by rw[BT];omega)]
    simp
theorem kN{b last:Int}:Ti c r b last=some (pkR (Mi c r b last)):=by
 have l1:=AX (f:=B8) (l:=r.1);unfold Ti Mi;rw[show(c.1,c.2.1,())=c from rfl,show(r.1,r.2.1,())=r from rfl,Pe hc hl ht,RU hl,NJ (by omega)];simp only[AD];rcases AKU (Mc c r)with hr|hr
 rotate_left
 ·rw[hr];rfl
 rw[hr];simp only[AMP,AMU,AMO,AOR];by_cases h1:b=r.1.length
 rotate_left
 ·rw[show(b !=(r.1.length:Int))=true by simp_all,show decide (b=(r.1.length:Int))=false by simp_all]
  rfl
 rw[show(b !=(r.1.length:Int))=false by simp_all,show decide (b=(r.1.length:Int))=true by simp_all];simp only[AMU,AMk];by_cases h2:A8 r.1=0
 ·rw[show(A8 r.1==0)=true by simp_all,show decide (A8 r.1≠0)=false by simp_all]
  rfl
 rw[show(A8 r.1==0)=false by simp_all,show decide (A8 r.1≠0)=true by simp_all];simp only[AMU,AMk];by_cases h3:b=A8 r.1
 ·rw[show(b==A8 r.1)=true by simp_all,show decide (b≠A8 r.1)=false by simp_all]
  rfl
 rw[show(b==A8 r.1)=false by simp_all,show decide (b≠A8 r.1)=true by simp_all,Bd];simp only[AMU,AMk,AD];cases BM last 0 60 with
 |false=>rfl
 |true=>
  have Br:=Iz.1 hr;have AH9:0<r.1.length:=by
   rcases AXN r.1.length with hz|hz
   ·exact absurd (by unfold A8;rw[hz];rfl) h2
   omega
  obtain⟨k,k1,k2,k3,k4⟩:=Nq Br AH9;simp only[AMP,AMU,AS_];rw[k2,AK (by omega) (by omega),show((k:Int)+1-1)=(k:Int)by omega,ALy (by omega),ALy (by simp_all),AMV];unfold pkR Gi;simp_all
theorem nG{p:Int}(hp:C0 p):WB c r p=some (pkR (Lx c r p)):=by
 unfold WB Lx;rw[show(c.1,c.2.1,())=c from rfl,show(r.1,r.2.1,())=r from rfl,Pe hc hl ht,RU hl,H7 hp,Ew hp];simp only[AD];cases Mc c r with
 |false=>rfl
 |true=>
  cases BN p with
  |false=>rfl
  |true=>
   simp only[AMP,AMU,AMO,AOR,AMk];by_cases h:AN p≤r.1.length
   ·rw[show decide (AN p>(r.1.length:Int))=false by simp_all,show decide (AN p≤(r.1.length:Int))=true by simp_all,AMU,KV]
    rfl
   ·rw[show decide (AN p>(r.1.length:Int))=true by simp_all,show decide (AN p≤(r.1.length:Int))=false by simp_all]
    rfl
end
theorem Re{w:AM}(hl:Af BJ w.2.1≤2^30):FP w=some (((w.1,(),()),()),(w.2.1,())):=by
 have l1:=AX (f:=BJ) (l:=w.2.1);have key:∀(n i:Nat) (b:List A7),i≤w.2.1.length→w.2.1.length-i<n→b.length≤i→OU n i w.1 w.2.1 0 [] w.1 b=some (((w.1,(),()),()),(b++w.2.1.drop i,())):=by
  intro n
  induction n with
  |zero=>omega
  |succ n ih=>
   intro i b hi hn hb;simp only[OU,YX,AB];by_cases hc:i<w.2.1.length
   ·have c1:(0:Int)≤(i:Int)∧(i:Int)<(w.2.1.length:Int):=by omega
    have hm:w.2.1[i].1.length+w.2.1[i].2.1.length≤Af BJ w.2.1:=Aa (f:=BJ) (AMh hc);rw[ALy c1.2,ALy c1,AK (by omega) (by omega),show((i:Int)+1)=((i+1:Nat):Int)by omega,Ai hc,ALy (by rw[BT];omega),ALy (by rw[BT];omega),drop_cons hc,ih (i+1) _ (by omega) (by omega) (by simp_all),AM8];rfl
   grind
 grind[FP,Yj,Ae,Ag]
theorem Yl{α:Type}{f:α→Nat}{l m:List α}:Af f (l++m)=Af f l+Af f m:=by
 induction l with
 |nil=>simp[Af]
 |cons a l ih=>grind[Af]
theorem l7{n:Int}{x:A7}(h:x.2.2.1=true):Cs n x=x:=by
 obtain⟨a,b,d,e⟩:=x;simp only at h;subst h;rfl
def pkW(q:AM×Bool):AFn×(List A7×Unit):=((((q.1.1,(),()),q.2,()),()),(q.1.2.1,()))
section
variable{c:B9} {w:AM} (hc:c.1.length≤2^40) (hl:Af BJ w.2.1≤2^20)
include hc hl
theorem iR{d:ACC}(hd:d.length≤2^20):K_ c w d=some (((((CE c w d).1.1,(),()),(CE c w d).2.1,(CE c w d).2.2,()),()),((CE c w d).1.2.1,())):=by
 have l1:=AX (f:=BJ) (l:=w.2.1);unfold K_ CE;rw[show(c.1,c.2.1,())=c from rfl,show(w.1,w.2.1,())=w from rfl,Lk hc (by omega),Re (by omega)];simp only[AD];cases FF c w with
 |false=>rfl
 |true=>
  simp only[AMP,AMU,AMO,AOR];rw[ALy (by rw[BT];omega),Lk hc (by
   grind[Af,BJ,Yl,List.length_nil])]
  grind
theorem jd{o n:Int}:FZ c w o n=some (pkW (QZ c w o n)):=by
 have l1:=AX (f:=BJ) (l:=w.2.1);unfold FZ QZ;rw[show(c.1,c.2.1,())=c from rfl,show(w.1,w.2.1,())=w from rfl,Lk hc (by omega),Re (by omega),Bd,Bd];simp only[AD];rcases AKU (FF c w)with hw|hw
 rotate_left
 ·rw[hw];rfl
 have yQ:=GW (IW.1 hw).cfg;rw[hw,AK (x:=(c.1.length:Int)-1) (by omega) (by omega)];simp only[AMP,AMU,AMO,AOR];rcases AKU (BM o 1 (w.2.1.length:Int))with ho|ho
 rotate_left
 ·rw[ho];rfl
 have vZ:=Ah.1 ho;rw[ho];cases BM n 0 ((c.1.length:Int)-1)with
 |false=>rfl
 |true=>
  have hi:(o-1).toNat<w.2.1.length:=by omega
  have hm:(w.2.1.getD (o-1).toNat Kw).1.length+(w.2.1.getD (o-1).toNat Kw).2.1.length≤Af BJ w.2.1:=Aa (f:=BJ) (BG (d:=Kw) hi);simp only[AMP,AMU,AMk];rw[AK (by omega) (by omega),ALy (by omega)]
  show cond (w.2.1.getD (o-1).toNat Kw).2.2.1 _ _=_
  cases(w.2.1.getD (o-1).toNat Kw).2.2.1 with
  |true=>rfl
  |false=>
   simp only[AMU,AS5,AS_];rw[ALy (by omega),show(w.2.1.getD (o-1).toNat ([],[],false,())).2.1=(w.2.1.getD (o-1).toNat Kw).2.1 from rfl,My (by omega)];simp only[AD];rw[ALy (by omega)];have hg:∀x:A7,(w.2.1.set (o-1).toNat x).getD (o-1).toNat ([],[],false,())=x:=fun x=>Mo hi
   rw[ALy (by grind),hg,Ey hc (by
    grind[Uj,Kw])]
   simp only[AD];rw[ALy (by grind),AXc];rfl
theorem dC{n:Int}:NH c w n=some (pkW (CA c w n)):=by
 have l1:=AX (f:=BJ) (l:=w.2.1);unfold NH Qh CA;rw[show(c.1,c.2.1,())=c from rfl,show(w.1,w.2.1,())=w from rfl,Lk hc (by omega),Re (by omega)];simp only[AD];cases FF c w with
 |false=>rfl
 |true=>
  simp only[AMP,AMU,AMO,AOR];have key:∀(k i:Nat),i≤w.2.1.length→w.2.1.length-i<k→HW k n i 0 [] w.1 ((w.2.1.map (Cs n)).take i++w.2.1.drop i)=some (pkW ((w.1,w.2.1.map (Cs n),()),true)):=by
   intro k
   induction k with
   |zero=>omega
   |succ k ih=>
    intro i hi hk;have hlen:((w.2.1.map (Cs n)).take i++w.2.1.drop i).length=w.2.1.length:=Oy hi;simp only[HW,Q2,AB,hlen];by_cases Dd:i<w.2.1.length
    ·have c1:(0:Int)≤(i:Int)∧(i:Int)<(w.2.1.length:Int):=by omega
     have hm:w.2.1[i].1.length+w.2.1[i].2.1.length≤Af BJ w.2.1:=Aa (f:=BJ) (AMh Dd);have hg:((w.2.1.map (Cs n)).take i++w.2.1.drop i).getD ((i:Int).toNat) ([],[],false,())=w.2.1[i]:=MZ Dd;rw[ALy c1.2];simp only[ALy c1,hg];rw[AK (by omega) (by omega),show((i:Int)+1)=((i+1:Nat):Int)by omega];rcases AKU (w.2.1[i].2.2.1)with hd|hd
     ·rw[hd]
      simp only[AMP,AMU];grind[iF,l7]
     ·rw[hd]
      simp only[AS5,AMp];rw[I4 (by omega) (by simp)];grind[AD,Int.toNat_natCast,Px,Cs]
    ·rw[AMD (by omega),AMj (by omega)]
     have:i=w.2.1.length:=by omega
     subst this;rw[AM5,ATH (by simp)];rfl
  have:=key Ae 0 (by omega) (Ag (by omega));simp_all
end
end Go.M
end
section
namespace Go.M
open Go.M.H (AJ AO As Ac AA CN AQ A7 AM AY A3 Ax BC Al Af AX Aa Ap B8 BJ Ar CJ C_)
abbrev PkM:Type:=ADz×(List Int×List AJ×List AAO×Unit)
def jL(q:As×Bool):PkM:=((((q.1.1,q.1.2.1,(),(),q.1.2.2.2.2.1,(),()),q.2,()),()),(q.1.2.2.1,q.1.2.2.2.1,q.1.2.2.2.2.2.1,()))
section
variable{m:As} (hm:CJ m≤2^20)
include hm
theorem Io:m.2.2.1.length≤2^20∧m.2.2.2.1.length≤2^20∧m.2.2.2.2.2.1.length≤2^20∧ ∀l∈m.2.2.2.2.2.1,l.length≤2^20:=by
 have l1:=AX (f:=Ap) (l:=m.2.2.2.1);have l2:=AX (f:=C_) (l:=m.2.2.2.2.2.1);have qX:m.2.2.1.length+(Af Ap m.2.2.2.1+(Af C_ m.2.2.2.2.2.1+0))≤2^20:=by
  grind[CJ]
 refine⟨by omega,by omega,by omega,fun l hl=> ?_⟩;have:l.length≤Af C_ m.2.2.2.2.2.1:=Aa (f:=C_) hl;omega
theorem Ld:EM m=some (((m.1,m.2.1,(),(),m.2.2.2.2.1,(),()),()),(m.2.2.1,m.2.2.2.1,m.2.2.2.2.2.1,())):=by
 obtain⟨h1,h2,h3,h4⟩:=Io hm;have key:∀(n i:Nat) (b:List AAO),i≤m.2.2.2.2.2.1.length→m.2.2.2.2.2.1.length-i<n→b.length≤i→
   Hd n i m.1 m.2.1 m.2.2.1 m.2.2.2.1 m.2.2.2.2.1 m.2.2.2.2.2.1 0 0 false [] [] [] m.1 m.2.1 m.2.2.2.2.1 m.2.2.1 m.2.2.2.1 b=some (((m.1,m.2.1,(),(),m.2.2.2.2.1,(),()),()),(m.2.2.1,m.2.2.2.1,b++m.2.2.2.2.2.1.drop i,())):=by
  intro n
  induction n with
  |zero=>omega
  |succ n ih=>
   intro i b hi hn hb;simp only[Hd,R0,AB];by_cases hc:i<m.2.2.2.2.2.1.length
   ·have c1:(0:Int)≤(i:Int)∧(i:Int)<(m.2.2.2.2.2.1.length:Int):=by omega
    have hq:=h4 _ (AMh hc);rw[ALy c1.2,ALy c1,AK (by omega) (by omega),show((i:Int)+1)=((i+1:Nat):Int)by omega,Ai hc,ALy (by rw[BT];omega),ALy (by rw[BT];omega),drop_cons hc,ih (i+1) _ (by omega) (by omega) (by simp_all),AM8];rfl
   grind
 unfold EM NL;rw[ALy (by rw[BT];omega),ALy (by rw[BT];omega)];grind[Ae,Ag]
end
theorem dI{l s:AAO}(hl:l.length≤2^20)(hs:s.length≤2^20):J7 l s=some (((),()),(l.filter s.contains,())):=by
 unfold J7;rw[I4 (by omega) (by omega)];simp only[AD];have hll:(less l s).length≤l.length:=AS6 _ _;rw[I4 (by omega) (by omega)];grind[AD,less,List.filter_congr]
theorem dj{c:B9}{s l:AAO}(hc:c.1.length≤2^40)(hl:l.length≤2^20)(hs:s.length≤2^20):KG c s l=some ((JT c s l,()),()):=by
 unfold KG JT;rw[show(c.1,c.2.1,())=c from rfl,Ey (l:=s) hc (by omega),Gv (l:=l) hc (by omega),I4 (l:=l) (m:=s) (by omega) (by omega),I4 (l:=s) (m:=l) (by omega) (by omega)];simp only[AD];rcases AKU (holds c s)with h|h
 rotate_left
 ·simp_all
 rw[h];cases Ay c l with
 |false=>rfl
 |true=>
  simp only[AMP,AMU,AMk];have hn:Ay c (less s l)=true:=Lh _ (Nl h);by_cases ha:(less l s).length>0
  ·rw[show decide (((less l s).length:Int)>0)=true by simp_all]
   have:l.all s.contains=false:=by
    rw[ATX];grind[List.all_eq_true,less,List.filter_eq_nil_iff]
   grind
  ·rw[ATM (show¬((less l s).length:Int)>0 by omega)]
   have:l.all s.contains=true:=by
    grind[less,List.length_eq_zero_iff,List.filter_eq_nil_iff,List.all_eq_true]
   rw[this];simp only[AMU,AMk];rw[dG hn];simp only[AD,holds,hn,AMk];grind[ax,less,decide_eq_true,decide_eq_false]
section
variable{c:B9} {m:As} (hc:c.1.length≤2^40) (hm:CJ m≤2^20) (h:rm m.2.2.2.1)
include hc hm h
theorem nB{o n:Int}:HL c m o n=some (jL (Yd c m o n)):=by
 obtain⟨h1,h2,h3,h4⟩:=Io hm;unfold HL Yd;rw[show(c.1,c.2.1,())=c from rfl,show(m.1,m.2.1,m.2.2.1,m.2.2.2.1,m.2.2.2.2.1,m.2.2.2.2.2.1,())=m from rfl,JV hc (by omega) h,Ld hm,Bd,Bd];simp only[AD];rcases AKU (Gx c m)with hw|hw
 rotate_left
 ·rw[hw];rfl
 have yQ:=GW (HI.1 hw).cfg;rw[hw,AK (x:=(c.1.length:Int)-1) (by omega) (by omega)];simp only[AMP,AMU,AMO,AOR];rcases AKU (BM o 1 (m.2.2.2.2.2.1.length:Int))with ho|ho
 rotate_left
 ·rw[ho];rfl
 have vZ:=Ah.1 ho;rw[ho];cases BM n 0 ((c.1.length:Int)-1)with
 |false=>rfl
 |true=>
  have hi:(o-1).toNat<m.2.2.2.2.2.1.length:=by omega
  have hq:=h4 _ (BG (d:=([]:AAO)) hi);simp only[AMP,AMU,AMk,AS_];rw[AK (by omega) (by omega),ALy (by omega),My (by omega)];simp only[AD];rw[ALy (by omega)];rfl
theorem fb{n:Int}:P0 c m n=some (jL (B7 c m n)):=by
 obtain⟨h1,h2,h3,h4⟩:=Io hm;unfold P0 Sh B7;rw[show(c.1,c.2.1,())=c from rfl,show(m.1,m.2.1,m.2.2.1,m.2.2.2.1,m.2.2.2.2.1,m.2.2.2.2.2.1,())=m from rfl,JV hc (by omega) h,Ld hm];simp only[AD];cases Gx c m with
 |false=>rfl
 |true=>
  simp only[AMP,AMU,AMO,AOR];have key:∀(k i:Nat),i≤m.2.2.2.2.2.1.length→m.2.2.2.2.2.1.length-i<k→JL k n i 0 0 false [] [] [] m.1 m.2.1 m.2.2.2.2.1 m.2.2.1 m.2.2.2.1 ((m.2.2.2.2.2.1.map (fun l=>less l [n])).take i++m.2.2.2.2.2.1.drop i)=
    some (jL ((m.1,m.2.1,m.2.2.1,m.2.2.2.1,m.2.2.2.2.1,m.2.2.2.2.2.1.map (fun l=>less l [n]),()),true)):=by
   intro k
   induction k with
   |zero=>omega
   |succ k ih=>
    intro i hi hk;have hlen:=Oy (f:=fun l=>less l [n]) hi;simp only[JL,Sn,AB,hlen];by_cases Dd:i<m.2.2.2.2.2.1.length
    ·have c1:(0:Int)≤(i:Int)∧(i:Int)<(m.2.2.2.2.2.1.length:Int):=by omega
     have hq:=h4 _ (AMh Dd);have hg:((m.2.2.2.2.2.1.map (fun l=>less l [n])).take i++m.2.2.2.2.2.1.drop i).getD ((i:Int).toNat) []=m.2.2.2.2.2.1[i]:=MZ Dd;rw[ALy c1.2];simp only[ALy c1,hg];rw[AK (by omega) (by omega),show((i:Int)+1)=((i+1:Nat):Int)by omega,I4 (by omega) (by simp)];simp only[AD];rw[AMV,Px Dd rfl];grind
    ·rw[AMD (by omega),AMj (by omega)]
     have:i=m.2.2.2.2.2.1.length:=by omega
     subst this;rw[AM5,ATH (by simp)];rfl
  have:=key Ae 0 (by omega) (Ag (by omega));simp_all
theorem iw:SK c m=some ((O0 c m,()),()):=by
 obtain⟨h1,h2,h3,h4⟩:=Io hm;unfold SK UU O0;rw[show(c.1,c.2.1,())=c from rfl,show(m.1,m.2.1,m.2.2.1,m.2.2.2.1,m.2.2.2.2.1,m.2.2.2.2.2.1,())=m from rfl,JV hc (by omega) h];simp only[AD];cases Gx c m with
 |false=>rfl
 |true=>
  rcases AKU m.2.2.2.2.1 with hp|hp
  rotate_left
  ·simp_all
  have key:∀(k i:Nat),i≤m.2.2.2.2.2.1.length→m.2.2.2.2.2.1.length-i<k→KR k i c.1 c.2.1 m.1 m.2.1 m.2.2.1 m.2.2.2.1 m.2.2.2.2.1 m.2.2.2.2.2.1=some (((m.2.2.2.2.2.1.drop i).all (holds c),()),()):=by
   intro k
   induction k with
   |zero=>omega
   |succ k ih=>
    intro i hi hk;simp only[KR,UC,AB];by_cases Dd:i<m.2.2.2.2.2.1.length
    ·have c1:(0:Int)≤(i:Int)∧(i:Int)<(m.2.2.2.2.2.1.length:Int):=by omega
     have hq:=h4 _ (AMh Dd);rw[ALy c1.2,ALy c1,AK (by omega) (by omega),show((i:Int)+1)=((i+1:Nat):Int)by omega,Ai Dd,drop_cons Dd,show(c.1,c.2.1,())=c from rfl,Ey hc (by omega),ih (i+1) (by omega) (by omega)];simp only[AD,ATa];cases holds c m.2.2.2.2.2.1[i]<;>rfl
    grind
  have:=key Ae 0 (by omega) (Ag (by omega));simp_all
omit hc h in
theorem YS{o:Int}:Eg m o=some ((((Da m o).getD Dn,(Da m o).isSome,()),()),()):=by
 obtain⟨h1,h2,h3,h4⟩:=Io hm;unfold Eg Da;rw[ir];simp only[AD];rw[Tz (by omega)];simp only[AD];cases m.2.2.2.2.1 with
 |false=>rfl
 |true=>
  simp only[AMP,AMU,AMk];rcases AKU (BM m.2.1 1 30)with he|he
  rotate_left
  ·rw[he];rfl
  rcases AKU (BM o 1 60)with ho|ho
  rotate_left
  ·rw[he,ho];rfl
  have hp:Gd m.2.1 o=D1 m.2.1 o:=by unfold Gd;rw[he,ho];rfl
  rw[he,ho,hp];simp only[ATW,AMP,AMU,AMk];by_cases hl:o≤m.2.2.2.2.2.1.length
  ·rw[show decide (o>(m.2.2.2.2.2.1.length:Int))=false by simpa using hl,show decide (o≤(m.2.2.2.2.2.1.length:Int))=true by simpa using hl]
   simp only[AMU,AS_];cases Ek (D1 m.2.1 o) m.2.2.2.1<;>rfl
  ·rw[show decide (o>(m.2.2.2.2.2.1.length:Int))=true by simp;omega,show decide (o≤(m.2.2.2.2.2.1.length:Int))=false by simp;omega]
   rfl
theorem kL{s:AAO}(hs:s.length≤2^20):T4 c m s=some (jL (IA c m s)):=by
 obtain⟨h1,h2,h3,h4⟩:=Io hm;unfold T4 VD IA;rw[show(c.1,c.2.1,())=c from rfl,show(m.1,m.2.1,m.2.2.1,m.2.2.2.1,m.2.2.2.2.1,m.2.2.2.2.2.1,())=m from rfl,JV hc (by omega) h,Ld hm];simp only[AD];rcases AKU (Gx c m)with Br|Br
 rotate_left
 ·rw[Br];rfl
 have hmo:=HI.1 Br;rw[Br];rcases AKU m.2.2.2.2.1 with hp|hp
 ·rw[hp]
  simp only[AMP,AMU,AMp,ATE,AMO,AOR,jL,hp]
 have hn:=hmo.n;rw[hp]at hn;have hw0:m.2.2.2.2.2.1=[]:=AXL.1 (by simp_all);rw[hp];simp only[AMP,AS5,AMU,AMO,AOR,AMk];rw[dI (by omega) hs];have xy:(m.2.2.1.filter s.contains).length≤m.2.2.1.length:=AS6 _ _;simp only[AD];rw[dj hc (by omega) hs];simp only[AD];cases JT c s (m.2.2.1.filter s.contains)with
 |false=>simp[jL,hp]
 |true=>
  simp only[AMP,AMU,AS_];have hlb:=GR (l:=m.2.2.2.1);have key:∀(k i:Nat),(i:Int)≤Lf m.2.2.2.1→(Lf m.2.2.2.1).toNat-i<k→LA k i m.1 m.2.1 m.2.2.1 m.2.2.2.1 false m.2.2.2.2.2.1 0 0 false [] [] [] m.1 m.2.1 true m.2.2.1 m.2.2.2.1 (List.replicate i [])=
    some (jL ((m.1,m.2.1,m.2.2.1,m.2.2.2.1,true,List.replicate (Lf m.2.2.2.1).toNat [],()),true)):=by
   intro k
   induction k with
   |zero=>omega
   |succ k ih=>
    intro i hi hk;simp only[LA,VX];rw[show Qn (m.1,m.2.1,m.2.2.1,m.2.2.2.1,false,m.2.2.2.2.2.1,())=some ((Lf m.2.2.2.1,()),())from dm (m:=(m.1,m.2.1,m.2.2.1,m.2.2.2.1,false,m.2.2.2.2.2.1,())) (by grind) h];simp only[AD,AB];by_cases Dd:(i:Int)<Lf m.2.2.2.1
    ·rw[ALy Dd,ALy (by rw[BT,AWy];omega),AK (by omega) (by omega),show((i:Int)+1)=((i+1:Nat):Int)by omega,←List.replicate_succ']
     exact ih (i+1) (by omega) (by omega)
    ·rw[AMD Dd]
     have:i=(Lf m.2.2.2.1).toNat:=by omega
     rw[this];rfl
  have:=key Ae 0 (by omega) (Ag (by omega));simp_all
theorem jk{n:Int}{l:List AJ}(hl:l.length≤2^20)(PY:rm l)(hw:Af Ap l≤2^20):Tv c m n l=some (jL (Ln c m n l)):=by
 obtain⟨h1,h2,h3,h4⟩:=Io hm;unfold Tv VE Ln;rw[show(c.1,c.2.1,())=c from rfl,show(m.1,m.2.1,m.2.2.1,m.2.2.2.1,m.2.2.2.2.1,m.2.2.2.2.2.1,())=m from rfl,JV hc (by omega) h,Ld hm];simp only[AD];rw[My (by omega)];simp only[AD];rcases AKU (Gx c m)with Br|Br
 rotate_left
 ·rw[Br];rfl
 rw[Br];simp only[AMP,AMU,AMO,AOR];have AT6:∀(e:AJ) (k:List AJ),Af Ap (keep e k)≤Af Ap k+(1+Ap e):=by
  intro e k
  induction k with
  |nil=>simp[keep,Af]
  |cons x k ih=>
   grind[keep,Af,better]
 have key:∀(k i:Nat) (b:List AJ),i≤l.length→l.length-i<k→b.length≤2^20+i→rm b→Af Ap b+Af Ap (l.drop i)≤2^21→
   K6 k l i c.1 c.2.1 m.1 m.2.1 m.2.2.1 m.2.2.2.1 m.2.2.2.2.1 m.2.2.2.2.2.1 0 0 false [] [] [] m.1 m.2.1 m.2.2.2.2.1 (JG n m.2.2.1) b m.2.2.2.2.2.1=
   some (jL (if !m.2.2.2.2.1&&Gx c (m.1,m.2.1,JG n m.2.2.1,Db b ((l.drop i).filter fun e=>AN e.1==m.2.1),m.2.2.2.2.1,m.2.2.2.2.2.1,())then
    ((m.1,m.2.1,JG n m.2.2.1,Db b ((l.drop i).filter fun e=>AN e.1==m.2.1),m.2.2.2.2.1,m.2.2.2.2.2.1,()),true)else(m,false))):=by
  intro k
  induction k with
  |zero=>omega
  |succ k ih=>
   intro i b hi hk hb hbi hbw;simp only[K6,VT,AB];by_cases Dd:i<l.length
   ·have c1:(0:Int)≤(i:Int)∧(i:Int)<(l.length:Int):=by omega
    rw[ALy c1.2];simp only[ALy c1];rw[AK (by omega) (by omega),show((i:Int)+1)=((i+1:Nat):Int)by omega,Ai Dd,drop_cons Dd,show(l[i].1,l[i].2.1,l[i].2.2.1,l[i].2.2.2.1,())=l[i]from rfl,Ew (PY _ (AMh Dd)),XB (by omega)];rw[drop_cons Dd]at hbw;simp only[Af]at hbw;simp only[AD,ATI];rcases AKU (AN l[i].1==m.2.1)with he|he
    ·simp only[he,AMp,AS_,Db]
     have:=W0 (e:=l[i]) (l:=b);have hwk:=AT6 l[i] b;exact ih (i+1) _ (by omega) (by omega) (by omega) (fun x hx=>by
      rcases dd hx with rfl|hx
      ·exact PY _ (AMh Dd)
      ·exact hbi x hx) (by omega)
    grind
   ·rw[AMD (by omega),AMj (by omega),show(m.1,m.2.1,m.2.2.1,m.2.2.2.1,m.2.2.2.2.1,m.2.2.2.2.2.1,())=m from rfl,show(c.1,c.2.1,())=c from rfl,Ld hm]
    simp only[AXZ,Db];rcases AKU m.2.2.2.2.1 with hp|hp
    ·grind[jL]
    rw[AMj (by omega)]at hbw;simp only[Af]at hbw;have km:=Uj (n:=n) (l:=m.2.2.1);have hb2:=AX (f:=Ap) (l:=b);rw[JV (m:=(m.1,m.2.1,JG n m.2.2.1,b,m.2.2.2.2.1,m.2.2.2.2.2.1,())) hc (by
     grind[CJ]) hbi]
    simp only[AD];rw[hp];simp only[AMU,AS5,AMk];grind[Gx,JG,jL]
 have hsw:Af Ap m.2.2.2.1≤2^20:=by
  grind[CJ]
 have:=key Ae 0 m.2.2.2.1 (by omega) (Ag (by omega)) (by omega) h (by grind);simp_all
end
end Go.M
end
section
namespace Go.M
open Go.M.H (AJ AO As Ac AA CN AQ A7 AM AY A3 Ax BC Al CJ Af AX Aa Ap B8)
theorem Az{α:Type}{b:Bool}{x y:α}:cond (!b) x y=cond b y x:=by simp_all
theorem Cp{α:Type}{a b:Int}{x y:α}:cond (a !=b) x y=if a=b then y else x:=by
 simp_all
theorem DE{α:Type}{a b:Int}{x y:α}:cond (a==b) x y=if a=b then x else y:=by
 simp_all
theorem kP{c:B9}{l:List Ax}(hc:c.1.length≤2^40)(hl:l.length≤2^20):
  ZJ c l=some ((((),Ay c (l.map fun a=>a.1),()),()),(l.map (fun a=>a.1),())):=by
 have key:∀(n i:Nat) (b:AAO),i≤l.length→l.length-i<n→b.length=i→
   Lj n l i c.1 c.2.1 b=some ((((),Ay c (b++(l.drop i).map fun a=>a.1),()),()),(b++(l.drop i).map (fun a=>a.1),())):=by
  intro n
  induction n with
  |zero=>omega
  |succ n ih=>
   intro i b hi h hb;simp only[Lj,VI,AB];by_cases Zb:i<l.length
   ·have c1:(0:Int)≤(i:Int)∧(i:Int)<(l.length:Int):=by omega
    have c2:b.length+1≤Dr:=by rw[BT];omega
    rw[ALy c1.2,ALy c1,ALy c2,AK (by omega) (by omega),show((i:Int)+1)=((i+1:Nat):Int)by omega,Ai Zb,ih (i+1) _ (by omega) (by omega) (by simp_all),drop_cons Zb];grind
   ·rw[AMD (by omega),AMj (by omega),AXI,AM5,show(c.1,c.2.1,())=c from rfl,Gv hc (by omega)]
    rfl
 have:=key Ae 0 [] (by omega) (Ag (by omega)) rfl;rw[show((0:Nat):Int)=0 from rfl,ATC,ATA]at this;exact this
theorem U8{r:AY}(h:r.2.2.1.length≤2^30):CK r=some (((r.1,r.2.1,(),()),()),(r.2.2.1,())):=by
 unfold CK;rw[ALy (by rw[BT];omega)]
theorem cG{r:AY}{e:A3}{x y:Int}(h:r.2.2.1.length≤2^30):IZ r e x y=some (((x,y,(),()),()),(r.2.2.1++[e],())):=by
 unfold IZ;rw[show(r.1,r.2.1,r.2.2.1,())=r from rfl,U8 h];simp only[AD];rw[ALy (by rw[BT];omega)]
theorem mm{s:AAO}{p:Int}{l:List Ax}(hs:s.length≤2^20)(hl:l.length≤2^20)(PY:∀a∈l,C0 a.2.2.1):
  MK s p l=some ((HC p (FX s p none l),()),()):=by
 have key:∀(n i:Nat) (b:Option AJ),i≤l.length→l.length-i<n→
   Mg n s p l b.isSome i 0 0 [] (b.getD Dn).1 (b.getD Dn).2.1 (b.getD Dn).2.2.1 (b.getD Dn).2.2.2.1=some ((HC p (FX s p b (l.drop i)),()),()):=by
  intro n
  induction n with
  |zero=>omega
  |succ n ih=>
   intro i b hi h;simp only[Mg,Wu,AB,Az];by_cases Zb:i<l.length
   ·have c1:(0:Int)≤(i:Int)∧(i:Int)<(l.length:Int):=by omega
    rw[ALy c1.2,ALy c1,AK (by omega) (by omega),show((i:Int)+1)=((i+1:Nat):Int)by omega,Ai Zb,drop_cons Zb];have ih':=fun b=>ih (i+1) b (by omega) (by omega)
    simp only[ih'];rw[KJ (by omega),show(l[i].2.2.1,l[i].2.2.2.1,l[i].2.2.2.2.1,l[i].2.2.2.2.2.1,())=Uv l[i]from rfl];rw[P7 (e:=Uv l[i]) (PY _ (AMh Zb))];simp only[AD,FX];cases h1:l[i].2.1 with
    |false=>simp
    |true=>
     cases h2:s.contains l[i].1 with
     |false=>simp
     |true=>
      cases h3:ET (Uv l[i])with
      |false=>simp
      |true=>
       simp only[AMp,AMk];by_cases h4:l[i].2.2.1=p
       ·rw[Cp,ALy h4,ALy (by show((Uv l[i]).1==p)=true;rw[ATQ];exact h4)]
        cases b with
        |none=>
         simp only[ATN,AMU,WV,AD,Option.getD_none];have:=ih' (some (Uv l[i]));simp only[ATO,ATK]at this;have hb:better (Uv l[i]) (Uv l[i])=Uv l[i]:=by unfold better;simp_all
         simp_all
        |some x=>
         simp only[ATO,AMp,ATK];rw[show(x.1,x.2.1,x.2.2.1,x.2.2.2.1,())=x from rfl];grind[WV,AD,better,Uv,Option.isSome_some]
       ·rw[Cp,AMD h4,AMD (by show¬((Uv l[i]).1==p)=true;rw[ATQ];exact h4)]
   ·rw[AMD (by omega),AMj (by omega)]
    simp only[FX];cases b with
    |none=>rfl
    |some x=>
     simp only[ATO,AMp,ATK,HC];grind
 exact key Ae 0 none (by omega) (Ag (by omega))
theorem iX{x:Int}:0≤A6 x∧A6 x≤60:=by
 cases h:BN x with
 |true=>have:=(CF h).2.1;omega
 |false=>unfold A6;simp_all
def yH(q:AY×Int):YE:=((((q.1.1,q.1.2.1,(),()),q.2,()),()),(q.1.2.2.1,()))
theorem gl{c:B9}{g:AQ}{sure:Int}{r:AY}{l:List Ax}(hc:c.1.length≤2^20)(hg:Af B8 g.1≤2^20)(ht:C0 g.2.1)(hl:l.length≤2^20)(PY:∀a∈l,C0 a.2.2.1):
  Pn c g sure r l=some (yH (Bz c g sure r l)):=by
 unfold Pn Bz;rw[show(c.1,c.2.1,())=c from rfl,show(g.1,g.2.1,())=g from rfl,show(r.1,r.2.1,r.2.2.1,())=r from rfl,kP (by omega) hl,Pe (by omega) (by omega) ht,On];simp only[AD,Az,AB];cases h1:Mc c g with
 |false=>rfl
 |true=>
 cases h2:XF r with
 |false=>rfl
 |true=>
 cases h3:Ay c (l.map fun a=>a.1)with
 |false=>rfl
 |true=>
 have hr:=Qs.1 h2;have hre:=hr.ep;have hro:=hr.off;have hrn:=hr.n;have hR:=Iz.1 h1;have hRn:=hR.n;simp only[AMp,AMk,AMP,AMO,AOR];rw[U8 (by omega)];simp only[AD];by_cases h4:r.1>(g.1.length:Int)
 ·rw[ALy h4,ASn h4];rfl
 rw[AMD h4,ATM h4];by_cases h5:r.2.2.1.length=120
 ·rw[show(((r.2.2.1.length:Nat):Int)==120)=true by simp_all,ASn h5];rfl
 rw[show(((r.2.2.1.length:Nat):Int)==120)=false by grind,ATM h5];simp only[AMU,AS7,AMO,AOR];rw[AK (x:=r.1-1) (by omega) (by omega),ALy (by omega),MR (by omega) (by omega),Ew ht,ZZ ht];simp only[AD];have hto:=iX (x:=g.2.1);rw[AK (x:=A6 g.2.1+1) (by omega) (by omega),AK (x:=r.1+1) (by omega) (by omega),AK (x:=r.2.1+1) (by omega) (by omega)];simp only[cG (r:=r) (by omega),AD];by_cases h6:g.2.1≥D1 r.1 r.2.1
 ·rw[ALy h6,ALy h6];rfl
 rw[AMD h6,AMD h6]
 generalize AC2:g.1.getD (r.1-1).toNat GJ=era
 have Kg:(r.1-1).toNat<g.1.length:=by omega
 have T7:era.1.length≤2^20:=by
  have h7:=Aa (f:=B8) (BG (d:=GJ) Kg);rw[AC2]at h7;have:B8 era=era.1.length:=rfl;omega
 have tail:((J7 (l.map fun a=>a.1) era.1).bind fun SV=>
   (KG c era.1 SV.2.1).bind fun lj=>
   cond (lj.1.1)
    ((MK era.1 (D1 r.1 r.2.1) l).bind fun ZH=>
    some ((((r.1,r.2.1+1,(),()),0,()),()),(r.2.2.1++[(ZH.1.1.1,ZH.1.1.2.1,ZH.1.1.2.2.1,())],())))
    (some ((((r.1,r.2.1,(),()),3,()),()),(r.2.2.1,()))))=
   some (yH (if !JT c era.1 ((l.map fun a=>a.1).filter era.1.contains)then(r,3)else
    ((r.1,r.2.1+1,r.2.2.1++[HC (D1 r.1 r.2.1) (FX era.1 (D1 r.1 r.2.1) none l)],()),0))):=by
  have hf:((l.map fun a=>a.1).filter era.1.contains).length≤2^20:=ASs (AS6 _ _) (by simp_all);rw[dI (by simp_all) T7,mm T7 hl PY];simp only[AD];rw[dj (by omega) hf T7];simp only[AD,cG (r:=r) (by omega)];cases JT c era.1 ((l.map fun a=>a.1).filter era.1.contains)<;>rfl
 have hd:g.1.getD (r.1-1).toNat ([],false,0,())=era:=AC2;rw[hd];simp only[tail];cases h7:era.2.1 with
 |true=>
  simp only[AMp,AMU,AMk,AMP,ATE,AS7,AMc];by_cases h8:r.2.1>era.2.2.1
  ·rw[ALy h8,ALy h8];rfl
  rw[AMD h8,AMD h8];by_cases h9:r.2.1>60
  ·rw[ALy h9,ALy h9];rfl
  grind
 |false=>
  simp only[AMp,AMU,AMk,AS5,ATE,AMO,AOR,AS8,AMc];by_cases h8:r.2.1>sure
  ·rw[ALy h8,ALy (.inl h8)];rfl
  rw[AMD h8];by_cases h9:r.2.1>60
  ·rw[ALy h9,ALy (.inr h9)];rfl
  grind
end Go.M
end
section
set_option maxRecDepth 8000
namespace Go.M
open Go.M.H (AJ AO As Ac AA CN AQ A7 AM AY A3 Ax BC Al CJ Af AX Aa Ap B8 BJ Ar)
theorem pw{c:B9}{l:AAO}(hc:c.1.length≤2^20)(hl:l.length≤2^20):Yg c l=some ((Ay c l&& !holds c l,()),()):=by
 unfold Yg;rw[show(c.1,c.2.1,())=c from rfl,Gv (by omega) (by omega),Ey (by omega) (by omega)];grind
theorem lR{ss:List AO}(hs:ss.length≤1024)(h:∀s∈ss,s.1.length≤1024):ZG ss=some (((),()),(FW [] ss,())):=by
 have key:∀n:Nat,
   (∀(i:Nat) (b:List AJ),i≤ss.length→(ss.length-i)*1026+1≤n→b.length≤i*1024→
    Iq n ss i b=some (((),()),(FW b (ss.drop i),())))∧
   (∀(i j:Nat) (b:List AJ),(hi:i<ss.length)→j≤ss[i].1.length→(ss.length-i-1)*1026+1+(ss[i].1.length-j)+1≤n→b.length≤i*1024+j→
    It n ss i j b=some (((),()),(FW (Db b (ss[i].1.drop j)) (ss.drop (i+1)),()))):=by
  intro n
  induction n with
  |zero=>simp_all
  |succ n ih=>
   refine⟨fun i b hi h' hb=> ?_,fun i j b hi hj h' hb=> ?_⟩
   ·simp only[Iq,Vk,AB]
    by_cases hc:i<ss.length
    ·rw[ALy (by omega)]
     have hm:=h _ (AMh hc);have e1:(ss.length-i)*1026=(ss.length-i-1)*1026+1026:=by
      omega
     have:=ih.2 i 0 b hc (by omega) (by omega) (by omega);rw[show((0:Nat):Int)=0 from rfl,ATC]at this;rw[this,drop_cons hc];rfl
    ·rw[AMD (by omega),AMj (by omega)]
     rfl
   ·have hm:=h _ (AMh hi)
    simp only[It,VJ,AB];have c1:(0:Int)≤(i:Int)∧(i:Int)<(ss.length:Int):=by omega
    rw[ALy c1,Ai hi];simp only[ALy c1];have hbb:i*1024≤2^20:=by
     omega
    by_cases hc:j<ss[i].1.length
    ·have c2:(0:Int)≤(j:Int)∧(j:Int)<(ss[i].1.length:Int):=by omega
     rw[ALy c2.2,ALy c2,Ai hc,show(ss[i].1[j].1,ss[i].1[j].2.1,ss[i].1[j].2.2.1,ss[i].1[j].2.2.2.1,())=ss[i].1[j]from rfl,XB (by omega)];simp only[AD];rw[AK (by omega) (by omega),show((j:Int)+1)=((j+1:Nat):Int)by omega,drop_cons hc];have hk:=W0 (e:=ss[i].1[j]) (l:=b);exact ih.2 i (j+1) _ hi (by omega) (by omega) (by omega)
    ·rw[AMD (by omega),AK (by omega) (by omega),show((i:Int)+1)=((i+1:Nat):Int)by omega,AMj (by omega)]
     exact ih.1 (i+1) b (by omega) (by grind) (by omega)
 have hf:(ss.length-0)*1026+1≤Ae:=by
  have:ss.length*1026≤1024*1026:=AOr _ hs;exact AVi (Ag (by omega))
 exact(key Ae).1 0 [] (by omega) hf (by simp)
theorem yF(e:AJ):∀l:List AJ,Af Ap (keep e l)≤Af Ap l+(1+Ap e)
 |[]=>by simp[keep,Af]
 |x::l=>by
  have:=yF e l;grind[keep,better,Af]
theorem xF:∀{l k:List AJ},Af Ap (Db k l)≤Af Ap k+Af Ap l
 |[],k=>by simp[Db,Af]
 |e::l,k=>by
  have h1:=xF (l:=l) (k:=keep e k);grind[yF,Db,Af]
theorem yZ:∀{l:List AO} {k:List AJ},Af Ap (FW k l)≤Af Ap k+Af Al l
 |[],k=>by simp[FW,Af]
 |s::l,k=>by
  have h1:=yZ (l:=l) (k:=Db k s.1);have h2:=xF (l:=s.1) (k:=k);have:Al s=Af Ap s.1+Af Ap s.2.1:=rfl;grind[FW,Af]
theorem kb{y:AJ}:∀{l:List AO} {k:List AJ},y∈FW k l→y∈k∨ ∃s∈l,y∈s.1
 |[],k,h=> .inl h
 |s::l,k,h=>by
  rcases kb (l:=l) h with h|⟨t,ht,h⟩
  all_goals grind[Q1]
def wT(b:Bool)(x:AO):AO×Bool:=if b then(x,true)else(Cl,false)
def pkF(ss:List AO)(q:AO×Bool):Ni:=(((((),(),q.1.2.2.1,()),q.2,()),()),(ss,q.1.1,q.1.2.1,()))
theorem tV{c:B9}{ss:List AO}{lost:AAO}{n upto:Int}(hc:c.1.length≤2^20)(hs:ss.length≤1024)(hn:∀s∈ss,s.1.length≤1024)(hw:Af Al ss≤2^24)(PY:∀s∈ss,qq s)(hl:lost.length≤2^20):
  eO c lost n upto ss=some (pkF ss (W9 c ss lost n upto)):=by
 have hfs:W9 c ss lost n upto=wT (Ee c&&(decide (ss.length=c.1.length)&&(Ay c lost&&(!holds c lost&&(lost.contains n&&((others lost 0 ss).all CB&&CB (FW [] (others lost 0 ss),[],upto,()))))))) (FW [] (others lost 0 ss),[],upto,()):=rfl;rw[hfs];unfold eO bf;rw[show(c.1,c.2.1,())=c from rfl,HB (by omega),pw hc hl,KJ (by omega)];simp only[AD,Az,Cp];have k11:∀(k i:Nat) (o:List AO),(∀s∈o,s∈ss)→o.length≤ss.length→Af Al o≤2^24→i≤o.length→o.length-i<k→
   Ml k upto i ss 0 [] [] 0 [] [] o=some (pkF ss (wT ((o.drop i).all CB&&CB (FW [] o,[],upto,())) (FW [] o,[],upto,()))):=by
  intro k
  induction k with
  |zero=>omega
  |succ k ih=>
   intro i o ho hol how hi h;simp only[Ml,aA,AB,Az];by_cases Dd:i<o.length
   ·have c1:(0:Int)≤(i:Int)∧(i:Int)<(o.length:Int):=by omega
    have hm:=ho _ (AMh Dd);have hws:=Aa (f:=Al) hm;rw[ALy c1.2,ALy c1,Ai Dd,show(o[i].1,o[i].2.1,o[i].2.2.1,())=o[i]from rfl,Fi (by omega) (PY _ hm),AK (by omega) (by omega),show((i:Int)+1)=((i+1:Nat):Int)by omega,ih (i+1) o ho hol how (by omega) (by omega),drop_cons Dd];simp only[AD,ATa];rcases AKU (CB o[i])with hb|hb<;>rw[hb]
    all_goals rfl
   ·rw[AMD (by omega),AMj (by omega),lR (by omega) (fun s hs=>hn s (ho s hs))]
    have hu:=yZ (l:=o) (k:=[]);simp only[Af]at hu;simp only[AD];rw[Fi (s:=(FW [] o,[],upto,())) (by show Af Ap (FW [] o)+Af Ap []≤_;grind[Af]) ⟨fun e he=>by
     rcases kb he with he|⟨t,ht,he⟩
     ·simp_all
     ·exact(PY t (ho t ht)).1 e he,fun e he=>by simp_all⟩]
    simp only[AD,List.all_nil,AMk];rcases AKU (CB (FW [] o,[],upto,()))with hb|hb<;>rw[hb]<;>rfl
 have k6:∀(k i:Nat) (o:List AO),(∀s∈o,s∈ss)→i≤ss.length→(ss.length-i)+ss.length+2≤k→o.length≤i→Af Al o+Af Al (ss.drop i)≤2^24→
   Ob k lost upto i ss 0 [] [] 0 [] [] o=some (pkF ss (wT ((o++others lost i (ss.drop i)).all CB&&CB (FW [] (o++others lost i (ss.drop i)),[],upto,())) (FW [] (o++others lost i (ss.drop i)),[],upto,()))):=by
  intro k
  induction k with
  |zero=>omega
  |succ k ih=>
   intro i o ho hi h hol how;simp only[Ob,bX,AB,Az];by_cases Dd:i<ss.length
   ·have c1:(0:Int)≤(i:Int)∧(i:Int)<(ss.length:Int):=by omega
    have c2:o.length+1≤Dr:=by rw[BT];omega
    rw[drop_cons Dd]at how;simp only[Af]at how;have hws:Al ss[i]+(Af Ap []+0)=Al ss[i]:=rfl;rw[ALy c1.2,KJ (by omega),ALy c1,ALy c2,Ai Dd,show(ss[i].1,ss[i].2.1,ss[i].2.2.1,())=ss[i]from rfl,AK (by omega) (by omega),show((i:Int)+1)=((i+1:Nat):Int)by omega];simp only[AD];rw[ih (i+1) o ho (by omega) (by omega) (by omega) (by omega)];rw[ih (i+1) (o++[ss[i]]) (fun s hs=>by
     grind) (by omega) (by omega) (by simp_all) (by grind[Yl,Af])]
    rw[drop_cons Dd];simp only[others];grind
   ·have:=k11 k 0 o ho (by omega) (by omega) (by omega) (by omega)
    rw[show((0:Nat):Int)=0 from rfl,ATC]at this;rw[AMD (by omega),this,AMj (by omega)];simp only[others,AM5]
 have:=k6 Ae 0 [] (by simp) (by omega) (AVi (Ag (by omega))) (by simp) (by grind[Af]);rw[show((0:Nat):Int)=0 from rfl,ATC,ATA]at this;rw[this];rcases AKU (Ee c)with h1|h1
 rotate_left
 ·rw[h1];rfl
 by_cases h2:ss.length=c.1.length
 rotate_left
 ·rw[AMD (by omega),h1,ATM h2];rfl
 rw[ALy (by omega),h1,ASn h2];rcases AKU (Ay c lost)with h3|h3
 rotate_left
 ·rw[h3];rfl
 rw[h3];rcases AKU (holds c lost)with h4|h4
 ·rw[h4];rfl
 rw[h4];rcases AKU (lost.contains n)with h5|h5
 rotate_left
 ·rw[h5];rfl
 simp_all
end Go.M
end
section
namespace Go.M
open Go.M.H (AJ AO As Ac AA CN AQ A7 AM AY A3 Ax BC)
theorem oS{α:Type}{l:List α}{i j:Nat}{x d:α}(hi:i<l.length):(l.set i x).getD j d=if i=j then x else l.getD j d:=by
 grind
theorem EG{w:AA}{n:Int}(h:Aj w n=0):0≤n∧n<w.Am.length∧n∉w.lost:=by
 unfold Aj at h;split at h
 ·omega
 rename_i h1;simp only[APC,APY,Ah]at h1;grind
theorem oU{s x:Ac}:∀{l:List Ac},x∈Xr s l↔x=s∨x∈l
 |[]=>by simp[Xr]
 |y::l=>by
  simp only[Xr];split
  ·simp
  ·simp only[ANv,oU (l:=l)]
   grind
theorem ve{s:Ac}:∀{l:List Ac},(Xr s l).length=l.length+1
 |[]=>rfl
 |y::l=>by
  simp only[Xr];split
  ·rfl
  ·simp only[ANZ,ve (l:=l)]
theorem xI{s:Ac}:∀{l:List Ac},S8 (fun s:Ac=>s.1) l→(∀x∈l,x.1≠s.1)→S8 (fun s:Ac=>s.1) (Xr s l)
 |[],_,_=>by simp[Xr,S8]
 |y::l,h,hs=>by
  have h':=h;simp only[S8,ARf]at h;simp only[Xr];split
  ·rename_i hy
   simp only[S8,ARf,ANv];grind
  ·rename_i hy
   simp only[S8,ARf];refine⟨fun a ha=> ?_,xI h.2 fun x hx=>hs x (by simp[hx])⟩;rcases oU.1 ha with rfl|ha
   all_goals grind
section
variable{w:AA} (h:NN w)
include h
theorem NN.node{n:Int}(hn:Aj w n=0):(0≤n∧n<(AS w).1.length)∧n.toNat<w.Am.length∧n∉w.lost:=by
 obtain⟨a,b,c⟩:=EG hn;have:=h.oR;exact⟨⟨a,by show n<(w.1.length:Int);omega⟩,by omega,c⟩
theorem NN.qE{n:Int}(hn:Aj w n=0){s:AO}(hs:fV s):NN (w.BA (w.Am.set n.toNat s)):=by
 obtain⟨h1,h2,h3⟩:=h.node hn;refine⟨h.cfg,by(try simp only[H.AA.Am,H.AA.lost,H.AA.Ab,H.AA.trim,H.AA.AH,H.AA.BW,H.AA.AR,H.AA.BX,H.AA.EC,H.AA.BA,H.AA.EV,H.AA.G9,H.AA.A9,H.AA.Bi,H.AA.Cw,H.AA.Cy,H.AA.FA,B3,AS]at*);simpa using h.oR,h.lost,h.EC,fun i hi=> ?_,h.lZ,h.rN,h.xz,h.AH,h.Xm,h.BW,h.mu,h.AR,h.RG,h.BX,h.Xp⟩
 (try simp only[H.AA.Am,H.AA.lost,H.AA.Ab,H.AA.trim,H.AA.AH,H.AA.BW,H.AA.AR,H.AA.BX,H.AA.EC,H.AA.BA,H.AA.EV,H.AA.G9,H.AA.A9,H.AA.Bi,H.AA.Cw,H.AA.Cy,H.AA.FA,B3,AS]at*);simp only[AUg]at hi
 simp only[oS h2];split
 ·grind
 ·exact h.Am i hi
theorem NN.store{n:Int}(hn:Aj w n=0):fV (storeAt w n):=(h.Am _ (h.node hn).2.1).1
theorem iB{n:Int}{q:AO×Bool}(hn:Aj w n=0)(hs:q.2=true→fV q.1)(e:(putAt w n q).2=0):NN (putAt w n q).1:=by
 unfold putAt at*;split at e
 ·rename_i hq
  rw[ALy hq];exact h.qE hn (hs hq)
 omega
theorem AAC{a:Int}(e:(L5 w a).2=0):NN (L5 w a).1:=by
 unfold L5 at*;split at e
 ·omega
 rename_i h4;rw[AMD h4];simp only at e⊢;split at e
 ·omega
 rename_i hq;rw[AMD hq];simp only[APC,APY]at hq;obtain⟨_,r1,r2,r3,r4,r5⟩:=pH hq;rw[r2]at r1;rw[r2,r3];have hnw:=h.rN;have hl:((B3 w).1++[(An a,false,0,())]).length=w.Ab.length+1:=by simp[B3]
 refine⟨h.cfg,h.oR,h.lost,h.EC,h.Am,r1,?_,by(try simp only[H.AA.Am,H.AA.lost,H.AA.Ab,H.AA.trim,H.AA.AH,H.AA.BW,H.AA.AR,H.AA.BX,H.AA.EC,H.AA.BA,H.AA.EV,H.AA.G9,H.AA.A9,H.AA.Bi,H.AA.Cw,H.AA.Cy,H.AA.FA,B3,AS]at*);simp,fun x hx=> ?_,?_,fun m hm=>by grind,h.mu,h.AR,h.RG,fun s hs=> ?_,h.Xp⟩
 ·grind
 ·replace hx:x∈w.AH++[((w.Ab.length:Int)+1,[],())]:=hx
  simp only[AOs,ATY]at hx;have AdT:w.Ab.length<30:=r5;have iS:(((B3 w).1++[(An a,false,0,())]).length:Int)=(w.Ab.length:Int)+1:=by omega
  show ae (AS w) x∧x.1≤(((B3 w).1++[(An a,false,0,())]).length:Int)
  rw[iS];rcases hx with hx|rfl
  ·have:=h.AH x hx
   grind
  ·exact⟨⟨h.cfg,by omega,by simp,by simp,by simp[Qf]⟩,by omega⟩
 ·show S8 (fun x:AM=>x.1) (w.AH++[((w.Ab.length:Int)+1,[],())])
  simp only[S8,List.pairwise_append,ARf,List.Pairwise.nil,ATY,ATG];refine⟨h.Xm,by simp,fun x hx y hy=> ?_⟩;subst hy;have:=(h.AH x hx).2;omega
 ·have:=h.BX s hs
  grind
end
section
variable{w:AA} (h:NN w)
include h
theorem AFq{a:Int}{d:ACC}(hd:d.length≤40)(e:(doAdd w a d).2=0):NN (doAdd w a d).1:=by
 unfold doAdd at*;split at e
 ·omega
 rename_i ha;rw[AMD ha];simp only[APC,APY,Ah]at ha;simp only at e⊢;split at e
 ·omega
 rename_i hq;rw[AMD hq];simp only[AS8,AXi,APC,APY,AUA,List.any_eq_false,ATQ]at hq;obtain⟨hq,h120,hno⟩:=hq;have hi:a.toNat<w.AH.length:=by omega
 have hx:=h.AH _ (BG (d:=Bu) hi);obtain⟨_,r1,r2,r3⟩:=Vq hq;rw[r2]at r1;rw[r2,r3];rw[r3]at hno;have zU:=r1.n;simp only[APB,ANZ,AQZ]at zU;obtain⟨p1,p2,p3⟩:=Iu (e:=(w.AH.getD a.toNat Bu).1) (o:=((w.AH.getD a.toNat Bu).2.1.length:Int)+1) hx.1.ep (by omega);have hns:=h.RG;refine⟨h.cfg,h.oR,h.lost,h.EC,h.Am,h.lZ,by(try simp only[H.AA.Am,H.AA.lost,H.AA.Ab,H.AA.trim,H.AA.AH,H.AA.BW,H.AA.AR,H.AA.BX,H.AA.EC,H.AA.BA,H.AA.EV,H.AA.G9,H.AA.A9,H.AA.Bi,H.AA.Cw,H.AA.Cy,H.AA.FA,B3,AS]at*);simpa using h.rN,h.xz,fun x zo=> ?_,?_,h.BW,h.mu,h.AR,by grind[ve],fun s hs=> ?_,xI h.Xp fun x hx=>by grind⟩
 ·rcases ATR zo with zo|rfl
  ·exact h.AH x zo
  ·exact⟨r1,hx.2⟩
 ·have:=h.Xm
  show S8 (fun x:AM=>x.1) (w.AH.set a.toNat ((w.AH.getD a.toNat Bu).1,(w.AH.getD a.toNat Bu).2.1++[(d,[],false,())],()))
  simp only[S8,AVq,List.getElem_set,AUg]at this⊢;grind
 ·rcases oU.1 hs with rfl|hs
  ·simp_all
  ·exact h.BX s hs
theorem xJ{a b n:Int}(e:(IJ w a b n).2=0):NN (IJ w a b n).1:=by
 unfold IJ at*;split at e
 ·omega
 rename_i h1;rw[AMD h1];simp only at e⊢;split at e
 ·omega
 rename_i h2;rw[AMD h2];split at e
 ·omega
 rename_i h3;rw[AMD h3];split at e
 ·omega
 rename_i h4;rw[AMD h4];grind[iB,cq]
theorem eP{all:Bool}{s:AO}{n:Int}(hn:0≤n∧n<(AS w).1.length):∀{ws:List AM} {ss:List Ac},
  (FI all (AS w) s w.Ab n ws ss).1=ws.map (fun x=>if LJ s w.Ab n x then(x.1,BB (AS w) s x.1 n 1 x.2.1,())else x)∧
  (FI all (AS w) s w.Ab n ws ss).2.map (fun x=>(x.1,x.2.1))=ss.map (fun x=>(x.1,x.2.1))
 |[],ss=>⟨rfl,rfl⟩
 |x::ws,ss=>by
  simp only[FI,AVJ];split
  ·rename_i ht
   obtain⟨h1,h2⟩:=eP hn (ws:=ws) (ss:=ss.map (Nr all x.1 x.2.1 (BB (AS w) s x.1 n 1 x.2.1)));rw[h1,h2];exact⟨rfl,by rw[AUo];rfl⟩
  ·obtain⟨h1,h2⟩:=eP hn (ws:=ws) (ss:=ss)
   rw[h1,h2];simp_all
theorem AAT{all:Bool}{n:Int}(e:(Jj all w n).2=0):NN (Jj all w n).1:=by
 unfold Jj at*;split at e
 ·omega
 rename_i h1;rw[AMD h1];simp only at e⊢;split at e
 ·omega
 rename_i h2;rw[AMD h2];simp only[ne_eq,AXC]at h1;simp only[APC,APY]at h2;have hn:=(h.node h1).1;obtain⟨s1,s2,s3⟩:=KS h2;have hw:=h.qE h1 s2;obtain⟨t1,t2⟩:=eP h (all:=all) (s:=(CZ (storeAt w n)).1) hn (ws:=w.AH) (ss:=w.BX);have ms:∀x∈(FI all (AS w) (CZ (storeAt w n)).1 w.Ab n w.AH w.BX).2,∃y∈w.BX,x.1=y.1∧x.2.1=y.2.1:=fun x hx=>by
  have:(x.1,x.2.1)∈w.BX.map (fun x=>(x.1,x.2.1)):=by grind
  simp_all
 have ml:(FI all (AS w) (CZ (storeAt w n)).1 w.Ab n w.AH w.BX).2.length=w.BX.length:=by
  have:=congrArg List.length t2;grind
 have ma:S8 (fun s:Ac=>s.1) (FI all (AS w) (CZ (storeAt w n)).1 w.Ab n w.AH w.BX).2:=by
  have h1:(FI all (AS w) (CZ (storeAt w n)).1 w.Ab n w.AH w.BX).2.map (fun x=>x.1)=w.BX.map (fun x=>x.1):=by
   have:=congrArg (List.map Prod.fst) t2;rw[AUo,AUo]at this;exact this
  have h2:(w.BX.map (fun x:Ac=>x.1)).Pairwise (· < ·):=AXD.2 h.Xp;grind
 refine⟨h.cfg,hw.oR,h.lost,h.EC,hw.Am,h.lZ,by(try simp only[H.AA.Am,H.AA.lost,H.AA.Ab,H.AA.trim,H.AA.AH,H.AA.BW,H.AA.AR,H.AA.BX,H.AA.EC,H.AA.BA,H.AA.EV,H.AA.G9,H.AA.A9,H.AA.Bi,H.AA.Cw,H.AA.Cy,H.AA.FA,B3,AS]at*);simp only[t1,AXK];exact h.rN,by(try simp only[H.AA.Am,H.AA.lost,H.AA.Ab,H.AA.trim,H.AA.AH,H.AA.BW,H.AA.AR,H.AA.BX,H.AA.EC,H.AA.BA,H.AA.EV,H.AA.G9,H.AA.A9,H.AA.Bi,H.AA.Cw,H.AA.Cy,H.AA.FA,B3,AS]at*);simpa using h.xz,fun x hx=> ?_,?_,fun m hm=> ?_,h.mu,h.AR,by(try simp only[H.AA.Am,H.AA.lost,H.AA.Ab,H.AA.trim,H.AA.AH,H.AA.BW,H.AA.AR,H.AA.BX,H.AA.EC,H.AA.BA,H.AA.EV,H.AA.G9,H.AA.A9,H.AA.Bi,H.AA.Cw,H.AA.Cy,H.AA.FA,B3,AS]at*);simp only[ml];exact h.RG,fun x hx=> ?_,ma⟩
 ·(try simp only[H.AA.Am,H.AA.lost,H.AA.Ab,H.AA.trim,H.AA.AH,H.AA.BW,H.AA.AR,H.AA.BX,H.AA.EC,H.AA.BA,H.AA.EV,H.AA.G9,H.AA.A9,H.AA.Bi,H.AA.Cw,H.AA.Cy,H.AA.FA,B3,AS]at*);simp only[t1]at hx
  obtain⟨y,hy,rfl⟩:=ATS.1 hx;have xt:=h.AH y hy;split
  ·obtain⟨k1,k2,k3⟩:=aj (s:=(CZ (storeAt w n)).1) (ep:=y.1) hn (o:=1) xt.1.words
   exact⟨⟨h.cfg,xt.1.ep,k3▸xt.1.n,k1,ASs k2 xt.1.opn⟩,xt.2⟩
  ·exact xt
 ·show S8 (fun x:AM=>x.1) (FI all (AS w) (CZ (storeAt w n)).1 w.Ab n w.AH w.BX).1
  rw[t1];simp only[S8,AXD];refine h.Xm.imp fun{a b} rV=> ?_
  grind
 ·obtain⟨y,hy,rfl⟩:=ATS.1 hm
  have xt:=h.BW y hy;refine⟨ADL hn xt.1,?_⟩;grind[G4]
 ·obtain⟨y,hy,e1,e2⟩:=ms x hx
  have:=h.BX y hy;simp_all
theorem vx{n k:Int}(e:(IQ w n k).2=0):NN (IQ w n k).1:=by
 unfold IQ at*;split at e
 ·omega
 rename_i h1;rw[AMD h1];exact iB h (by omega) (fun hq=>(KS hq).2.1) e
theorem wJ{n:Int}(e:(IV w n).2=0):NN (IV w n).1:=by
 unfold IV at*;split at e
 ·omega
 rename_i h1;rw[AMD h1];exact iB h (by omega) (fun hq=>(iI hq).2.1) e
theorem AAo{n:Int}(e:(ML w n).2=0):NN (ML w n).1:=by
 unfold ML at*;split at e
 ·omega
 rename_i h1;rw[AMD h1];simp only[ne_eq,AXC]at h1;obtain⟨hn,hn2,hn3⟩:=h.node h1;have fw:∀x∈w.AH,(CA (AS w) x n).1=(x.1,x.2.1.map (Cs n),()):=fun x hx=>(Uu (h.AH x hx).1).2
 refine⟨h.cfg,by(try simp only[H.AA.Am,H.AA.lost,H.AA.Ab,H.AA.trim,H.AA.AH,H.AA.BW,H.AA.AR,H.AA.BX,H.AA.EC,H.AA.BA,H.AA.EV,H.AA.G9,H.AA.A9,H.AA.Bi,H.AA.Cw,H.AA.Cy,H.AA.FA,B3,AS]at*);simpa using h.oR,II h.lost hn,?_,fun i hi=> ?_,h.lZ,by(try simp only[H.AA.Am,H.AA.lost,H.AA.Ab,H.AA.trim,H.AA.AH,H.AA.BW,H.AA.AR,H.AA.BX,H.AA.EC,H.AA.BA,H.AA.EV,H.AA.G9,H.AA.A9,H.AA.Bi,H.AA.Cw,H.AA.Cy,H.AA.FA,B3,AS]at*);simpa using h.rN,by(try simp only[H.AA.Am,H.AA.lost,H.AA.Ab,H.AA.trim,H.AA.AH,H.AA.BW,H.AA.AR,H.AA.BX,H.AA.EC,H.AA.BA,H.AA.EV,H.AA.G9,H.AA.A9,H.AA.Bi,H.AA.Cw,H.AA.Cy,H.AA.FA,B3,AS]at*);simpa using h.xz,fun x hx=> ?_,?_,fun m hm=> ?_,h.mu,h.AR,h.RG,h.BX,h.Xp⟩
 ·grind[holds,AS,JG]
 ·(try simp only[H.AA.Am,H.AA.lost,H.AA.Ab,H.AA.trim,H.AA.AH,H.AA.BW,H.AA.AR,H.AA.BX,H.AA.EC,H.AA.BA,H.AA.EV,H.AA.G9,H.AA.A9,H.AA.Bi,H.AA.Cw,H.AA.Cy,H.AA.FA,B3,AS]at*);simp only[AUg]at hi
  simp only[oS hn2];split
  ·exact⟨fV.nil,fun _=>rfl⟩
  ·rename_i cF
   refine⟨(h.Am i hi).1,fun hl=>(h.Am i hi).2 ?_⟩;grind[Nb]
 ·obtain⟨y,hy,rfl⟩:=ATS.1 hx
  have xt:=h.AH y hy;refine⟨(Uu xt.1).1,?_⟩;simp_all
 ·(try simp only[H.AA.Am,H.AA.lost,H.AA.Ab,H.AA.trim,H.AA.AH,H.AA.BW,H.AA.AR,H.AA.BX,H.AA.EC,H.AA.BA,H.AA.EV,H.AA.G9,H.AA.A9,H.AA.Bi,H.AA.Cw,H.AA.Cy,H.AA.FA,B3,AS]at*);simp only[S8,AXD]
  refine List.Pairwise.imp_of_mem (fun{a b} ha hb rV=> ?_) h.Xm;simp_all
 ·obtain⟨y,hy,rfl⟩:=ATS.1 hm
  have xt:=h.BW y hy;obtain⟨k1,k2⟩:=fG (n:=n) xt.1;refine⟨k1,?_⟩;simp_all
theorem AA6{n:Int}(e:(Lt w n).2=0):NN (Lt w n).1:=by
 unfold Lt at*;split at e
 ·omega
 rename_i h1;rw[AMD h1];simp only at e⊢;split at e
 ·omega
 rename_i h2;rw[AMD h2];simp only[APC,APY]at h1 h2;obtain⟨s1,s2,s3,s4⟩:=vi h2;rw[List.contains_eq_mem,AMc]at h1;have zU:=(EK.1 h.lost).2.1 n h1;have hns:=h.oR;have hn2:n.toNat<w.Am.length:=by
  have:n<(w.1.length:Int):=zU.2;omega
 refine⟨h.cfg,by grind,Lh _ h.lost,?_,fun i hi=> ?_,h.lZ,h.rN,h.xz,h.AH,h.Xm,h.BW,h.mu,h.AR,h.RG,h.BX,h.Xp⟩
 ·refine .inr ?_
  rw[ATX];intro hh
  replace hh:holds (AS w) (less w.lost [n])=true:=hh
  have:=gk (m:=w.lost) hh h.lost fun x hx=>(ATL.1 hx).1
  simp_all
 ·(try simp only[H.AA.Am,H.AA.lost,H.AA.Ab,H.AA.trim,H.AA.AH,H.AA.BW,H.AA.AR,H.AA.BX,H.AA.EC,H.AA.BA,H.AA.EV,H.AA.G9,H.AA.A9,H.AA.Bi,H.AA.Cw,H.AA.Cy,H.AA.FA,B3,AS]at*);simp only[AUg]at hi
  simp only[oS hn2];split
  ·grind[Rl,List.mem_singleton]
  ·exact⟨(h.Am i hi).1,fun hl=>(h.Am i hi).2 (Rl.1 hl).1⟩
theorem ABD(e:(MC w).2=0):NN (MC w).1:=by
 unfold MC at*;split at e
 ·omega
 rename_i h1;rw[AMD h1];split at e
 ·omega
 rename_i h2;rw[AMD h2];simp only[AS8,AMc,AXi]at h1;obtain⟨k,k1,k2,k3,k4⟩:=Nq h.lZ (by show 0<w.Ab.length;omega);have k1':k<w.Ab.length:=k1;have Zp:A8 w.Ab=(k:Int)+1:=k2;have hn:w.Ab.length≤30:=h.lZ.n;refine⟨h.cfg,h.oR,h.lost,h.EC,h.Am,h.lZ,h.rN,by(try simp only[H.AA.Am,H.AA.lost,H.AA.Ab,H.AA.trim,H.AA.AH,H.AA.BW,H.AA.AR,H.AA.BX,H.AA.EC,H.AA.BA,H.AA.EV,H.AA.G9,H.AA.A9,H.AA.Bi,H.AA.Cw,H.AA.Cy,H.AA.FA,B3,AS]at*);simp,h.AH,h.Xm,fun m hm=> ?_,h.mu,h.AR,h.RG,h.BX,h.Xp⟩
 replace hm:m∈[WA (A8 w.Ab) w.Ab.length]:=hm
 simp only[ATY]at hm;subst hm;refine⟨⟨h.cfg,?_,?_,cf h.cfg,List.Pairwise.nil,by simp[WA],by simp[WA],rfl⟩,rfl,rfl⟩
 ·show 1≤A8 w.Ab∧A8 w.Ab≤30
  omega
 ·show A8 w.Ab+1≤(w.Ab.length:Int)∧(w.Ab.length:Int)≤30
  omega
theorem z_{n:Int}(e:(MJ w n).2=0):NN (MJ w n).1:=by
 unfold MJ at*;split at e
 ·omega
 rename_i m ms hm;simp only at e⊢;split at e
 ·omega
 rename_i h1;rw[AMD h1];split at e
 ·omega
 rename_i h2;rw[AMD h2];split at e
 ·omega
 rename_i h3;rw[AMD h3];simp only[ne_eq,AXC]at h1;simp only[AS8,AXi,APC,APY]at h3;obtain⟨s1,s2,s3⟩:=aW h3.1;obtain⟨m1,m2,m3,m4⟩:=mM h3.2;have hw:=h.qE h1 s2;have hm1:=h.xz;rw[hm]at hm1;refine⟨h.cfg,hw.oR,h.lost,h.EC,hw.Am,h.lZ,h.rN,by omega,h.AH,h.Xm,fun x hx=> ?_,h.mu,h.AR,h.RG,h.BX,h.Xp⟩;rcases ANv.1 hx with rfl|hx
 ·have:=h.BW m (by simp_all)
  refine⟨m2,?_⟩;simp_all
 simp_all
theorem AAI(e:(MO w).2=0):NN (MO w).1:=by
 unfold MO at*;split at e
 ·omega
 rename_i m ms hm;simp only at e⊢;split at e
 ·omega
 rename_i h3;rw[AMD h3];simp only[APC,APY]at h3;obtain⟨m1,m2,m3,m4,m5⟩:=mH h3;have hm1:=h.xz;rw[hm]at hm1;refine⟨h.cfg,h.oR,h.lost,h.EC,h.Am,h.lZ,h.rN,by omega,h.AH,h.Xm,fun x hx=> ?_,h.mu,h.AR,h.RG,h.BX,h.Xp⟩;rcases ANv.1 hx with rfl|hx
 ·have:=h.BW m (by simp_all)
  refine⟨m2,?_⟩;simp_all
 simp_all
theorem ADv{b n:Int}(e:(SN w b n).2=0):NN (SN w b n).1:=by
 unfold SN at*;split at e
 ·omega
 rename_i m ms hm;split at e
 ·omega
 rename_i x hx;split at e
 ·omega
 rename_i h1;rw[AMD h1];split at e
 ·omega
 rename_i h2;rw[AMD h2];grind[iB,cq]
theorem xQ(e:(IH w).2=0):NN (IH w).1:=by
 unfold IH at*;split at e
 ·omega
 rename_i m ms hm;split at e
 ·omega
 rename_i h1;rw[AMD h1];simp only at e⊢;split at e
 ·omega
 rename_i h2;rw[AMD h2];simp only[APC,APY]at h2;obtain⟨r0,r1,k,k1,k2,k3,k4,k5,k6,k7,k8⟩:=ll h2;rw[k6]at r1;rw[k6];have hl:(Gi (B3 w).1 k (m.2.2.2.2.2.1.length:Int)).length=w.Ab.length:=by simp[Gi,B3]
 refine⟨h.cfg,h.oR,h.lost,h.EC,h.Am,r1,h.rN,by(try simp only[H.AA.Am,H.AA.lost,H.AA.Ab,H.AA.trim,H.AA.AH,H.AA.BW,H.AA.AR,H.AA.BX,H.AA.EC,H.AA.BA,H.AA.EV,H.AA.G9,H.AA.A9,H.AA.Bi,H.AA.Cw,H.AA.Cy,H.AA.FA,B3,AS]at*);simp,fun x hx=> ?_,h.Xm,fun x hx=>by grind,h.mu,h.AR,h.RG,fun x hx=> ?_,h.Xp⟩
 ·(try simp only[H.AA.Am,H.AA.lost,H.AA.Ab,H.AA.trim,H.AA.AH,H.AA.BW,H.AA.AR,H.AA.BX,H.AA.EC,H.AA.BA,H.AA.EV,H.AA.G9,H.AA.A9,H.AA.Bi,H.AA.Cw,H.AA.Cy,H.AA.FA,B3,AS]at*);simp only[hl];exact h.AH x hx
 ·(try simp only[H.AA.Am,H.AA.lost,H.AA.Ab,H.AA.trim,H.AA.AH,H.AA.BW,H.AA.AR,H.AA.BX,H.AA.EC,H.AA.BA,H.AA.EV,H.AA.G9,H.AA.A9,H.AA.Bi,H.AA.Cw,H.AA.Cy,H.AA.FA,B3,AS]at*);simp only[hl];exact h.BX x hx
theorem vh{a:Int}(e:(OO w a).2=0):NN (OO w a).1:=by
 unfold OO at*;simp only at e⊢;split at e
 ·omega
 rename_i h2;rw[AMD h2];simp only[APC,APY]at h2;obtain⟨r0,r1,r2⟩:=pS h2;rw[r2]at r1;rw[r2];exact⟨h.cfg,h.oR,h.lost,h.EC,h.Am,r1,h.rN,h.xz,h.AH,h.Xm,h.BW,h.mu,h.AR,h.RG,h.BX,h.Xp⟩
theorem vQ{a k:Int}(e:(H8 w a k).2=0):NN (H8 w a k).1:=by
 unfold H8 at*;split at e
 ·omega
 rename_i h1;rw[AMD h1];simp only at e⊢;split at e
 ·omega
 rename_i h2;rw[AMD h2];simp only[ne_eq,AXC]at h2;refine⟨h.cfg,h.oR,h.lost,h.EC,h.Am,h.lZ,h.rN,h.xz,h.AH,h.Xm,h.BW,by(try simp only[H.AA.Am,H.AA.lost,H.AA.Ab,H.AA.trim,H.AA.AH,H.AA.BW,H.AA.AR,H.AA.BX,H.AA.EC,H.AA.BA,H.AA.EV,H.AA.G9,H.AA.A9,H.AA.Bi,H.AA.Cw,H.AA.Cy,H.AA.FA,B3,AS]at*);simpa using h.mu,fun r hr=> ?_,h.RG,h.BX,h.Xp⟩;rcases ATR hr with hr|rfl
 ·exact h.AR r hr
 ·exact rp h2
theorem AAa{a:Int}(e:(M7 w a).2=0):NN (M7 w a).1:=by
 unfold M7 at*;split at e
 ·omega
 rename_i h1;rw[AMD h1];have hs:(w.AH.eraseIdx a.toNat).Sublist w.AH:=List.eraseIdx_sublist _ _;exact⟨h.cfg,h.oR,h.lost,h.EC,h.Am,h.lZ,ASs hs.length_le h.rN,h.xz,fun x hx=>h.AH x (hs.subset hx),h.Xm.sublist hs,h.BW,h.mu,h.AR,h.RG,h.BX,h.Xp⟩
theorem AI1{all:Bool}{d:BC}(hd:d.2.2.2.2.1.length≤40)(e:(Li all w d).2=0):NN (Li all w d).1:=by
 unfold Li at*;by_cases hc:d.1=1
 ·rw[ALy hc]at e⊢;exact AAC h e
 rw[AMD hc]at e⊢;clear hc;by_cases hc:d.1=2
 ·rw[ALy hc]at e⊢;exact AFq h hd e
 rw[AMD hc]at e⊢;clear hc;by_cases hc:d.1=3
 ·rw[ALy hc]at e⊢;exact xJ h e
 rw[AMD hc]at e⊢;clear hc;by_cases hc:d.1=4
 ·rw[ALy hc]at e⊢;exact AAT h e
 rw[AMD hc]at e⊢;clear hc;by_cases hc:d.1=5
 ·rw[ALy hc]at e⊢;exact vx h e
 rw[AMD hc]at e⊢;clear hc;by_cases hc:d.1=6
 ·rw[ALy hc]at e⊢;exact AAo h e
 rw[AMD hc]at e⊢;clear hc;by_cases hc:d.1=7
 ·rw[ALy hc]at e⊢;exact AA6 h e
 rw[AMD hc]at e⊢;clear hc;by_cases hc:d.1=8
 ·rw[ALy hc]at e⊢;exact ABD h e
 rw[AMD hc]at e⊢;clear hc;by_cases hc:d.1=9
 ·rw[ALy hc]at e⊢;exact z_ h e
 rw[AMD hc]at e⊢;clear hc;by_cases hc:d.1=10
 ·rw[ALy hc]at e⊢;exact AAI h e
 rw[AMD hc]at e⊢;clear hc;by_cases hc:d.1=11
 ·rw[ALy hc]at e⊢;exact ADv h e
 rw[AMD hc]at e⊢;clear hc;by_cases hc:d.1=12
 ·rw[ALy hc]at e⊢;exact xQ h e
 rw[AMD hc]at e⊢;clear hc;by_cases hc:d.1=13
 ·rw[ALy hc]at e⊢;exact vh h e
 rw[AMD hc]at e⊢;clear hc;by_cases hc:d.1=14
 ·rw[ALy hc]at e⊢;exact vQ h e
 rw[AMD hc]at e⊢;clear hc;by_cases hc:d.1=15
 ·rw[ALy hc]at e⊢;exact AAa h e
 rw[AMD hc]at e⊢;grind[wJ]
end
theorem bP{d:BC}(h:PM d=true):d.2.2.2.2.1.length≤40:=by
 unfold PM at h;simp_all
theorem az{all:Bool}{w:AA}{d:BC}(e:(CD all w d).2=0):Fg (CD all w d).1=true:=by
 unfold CD at*;split at e
 ·omega
 rename_i h1;rw[AMD h1];have hw:Fg w=true:=by
  simp_all
 have hd:PM d=true:=by
  simp_all
 grind[F5,AI1,bP]
end Go.M
end
section
namespace Go.M
open Go.M.H (AJ AO As Ac AA CN AQ A7 AM AY A3 Ax BC Al CJ Af AX Aa Ap B8 BJ Ar A0 EO CO Cv C_)
theorem AAH{α:Type}{f:α→Nat}{B:Nat}:∀{l:List α},(∀x∈l,f x≤B)→Af f l≤l.length*(1+B)
 |[],_=>by simp[Af]
 |x::l,h=>by
  have h1:=h x (by simp);have h2:=AAH (l:=l) fun y hy=>h y (by simp[hy])
  grind[Af,List.length_cons,Nat.add_mul]
theorem Fu{α:Type}{f:α→Nat}{B N:Nat}{l:List α}(hn:l.length≤N)(h:∀x∈l,f x≤B):Af f l≤N*(1+B):=
 ASs (AAH h) (AOr _ hn)
theorem uO{α:Type}{f:α→Int}{b:Int}:∀{l:List α} {a:Int},S8 f l→(∀x∈l,a≤f x∧f x<b)→(l.length:Int)≤max (b-a) 0
 |[],a,_,_=>by grind
 |x::l,a,h,hb=>by
  simp only[S8,ARf]at h;have h1:=hb x (by simp);have h2:=uO (l:=l) (a:=f x+1) h.2 fun y hy=>⟨by grind,(hb y (by simp[hy])).2⟩
  grind
theorem HX{c:B9}{l:AAO}(h:Ay c l=true):l.length≤8:=by
 obtain⟨h1,h2,h3⟩:=EK.1 h;have:=(GW h1).2.1;have:=uO (a:=0) (b:=c.1.length) h3 h2;omega
theorem JS{p:Int}(h:BN p=true):C0 p:=by
 obtain⟨h1,h2,h3⟩:=CF h;grind[D1,C0]
theorem fV.w{s:AO}(h:fV s):Al s≤10000:=by
 have h1:=Fu (f:=Ap) (B:=40) h.nk fun e he=>(FM.1 (h.kept e he)).len
 have h2:=Fu (f:=Ap) (B:=40) h.nl fun e he=>(FM.1 (h.late e he)).len
 unfold Al;omega
theorem fV.sin{s:AO}(h:fV s):qq s:=
 ⟨fun e he=>JS (FM.1 (h.kept e he)).pl,fun e he=>JS (FM.1 (h.late e he)).pl⟩
theorem qn.AWC{c:B9}{m:As}(h:qn c m):m.2.2.2.1.length≤60:=by
 have:=uO (f:=fun e:AJ=>e.1) (a:=D1 m.2.1 1) (b:=D1 m.2.1 61) h.fo fun e he=>by
  have h1:=h.seen e he;have h2:=CF (FM.1 h1.1).pl;grind[D1]
 grind[D1]
theorem qn.w{c:B9}{m:As}(h:qn c m):CJ m≤5000:=by
 have h1:=Fu (f:=Ap) (B:=40) h.AWC fun e he=>(FM.1 (h.seen e he).1).len
 have h2:=HX h.ew;have h3:m.2.2.2.2.2.1.length≤60:=by
  have:=h.n;have hb:=GR (l:=m.2.2.2.1);omega
 have h4:=Fu (f:=C_) (B:=8) h3 fun l hl=>HX (h.wrote l hl)
 unfold CJ;omega
theorem qn.ein{c:B9}{m:As}(h:qn c m):rm m.2.2.2.1:=fun e he=>JS (FM.1 (h.seen e he).1).pl
theorem zI.w{c:B9}{r:AQ}(h:zI c r):Af B8 r.1≤270:=by
 have:=Fu (f:=B8) (B:=8) h.n fun e he=>HX (Nl (h.Ab e he).1)
 omega
theorem zI.tin{c:B9}{r:AQ}(h:zI c r):C0 r.2.1:=by
 rcases h.trim with h|h
 all_goals grind[C0,JS]
theorem ae.w{c:B9}{w:AM}(h:ae c w):Ar w≤3000:=by
 have:=Fu (f:=BJ) (B:=48) h.n fun x hx=>by
  have h1:=h.words x hx;grind[HX,BJ]
 unfold Ar;omega
def RdS(w:AA):Prop:= ∀r∈w.AR,∀e∈r.2.2.1,e.2.2.1.length≤40
theorem NN.UE{w:AA}(h:NN w){s:AO}(hs:s∈w.Am):fV s:=by
 obtain⟨i,hi,rfl⟩:=AQa hs;have:=(h.Am i hi).1;simp_all
theorem NN.win{w:AA}(h:NN w)(hr:RdS w):gf w:=by
 have hc:=(GW h.cfg).2.1;have Zb:w.1.length≤8:=hc;have a1:=Fu (f:=Al) (B:=10000) (N:=8) (l:=w.Am) (by rw[h.oR];omega) fun s hs=>(h.UE hs).w
 have a2:=HX h.lost;have a3:=h.lZ.w;have a4:=Fu (f:=Ar) (B:=3000) h.rN fun x hx=>(h.AH x hx).1.w
 have a5:=Fu (f:=CJ) (B:=5000) h.xz fun x hx=>(h.BW x hx).1.w
 have a6:=Fu (f:=A0) (B:=5000) (N:=2) (l:=w.AR) (by rw[h.mu];omega) fun r hx=>by
  have:=Fu (f:=CO) (B:=40) (h.AR r hx).n (hr r hx);unfold A0;omega
 have a7:=Fu (f:=EO) (B:=40) h.RG fun s hs=>(h.BX s hs).2.2
 refine⟨?_,fun s hs=>(h.UE hs).sin,h.lZ.tin,fun m hm=>(h.BW m hm).1.ein,fun s hs=>JS (h.BX s hs).1⟩;have a3':Af B8 w.Ab≤270:=a3;grind[Cv]
end Go.M
end
section
set_option maxRecDepth 8000
namespace Go.M
open Go.M.H (AJ AO As Ac AA CN AQ A7 AM AY A3 Ax BC Al CJ Af AX Aa Ap B8 BJ Ar A0 EO CO Cv C_)
theorem sx:∀i,i<8→([0,1,2,3,4,5,6,7]:AAO).drop i=(i:Int)::([0,1,2,3,4,5,6,7]:AAO).drop (i+1):=by decide
theorem YV{k:Int}:N4 k=some (((),()),(An k,())):=by
 unfold N4 UD An;rcases AKU (BM k 0 255)with hk|hk
 rotate_left
 ·rw[hk]
  obtain⟨m,hm⟩:∃m,Ae=m+1:=⟨Ae-1,by have:=Ag (n:=0) (by omega);omega⟩;rw[hm];simp only[Hn,Nh,Bd,AD,hk,AB];rfl
 rw[hk,ALy rfl];have hk':=Ah.1 hk;have key:∀(n i:Nat) (b:AAO),i≤8→8-i<n→b.length≤i→
   Hn n k i b=some (((),()),(b++(([0,1,2,3,4,5,6,7]:AAO).drop i).filter (fun i=>(k/2^i.toNat)%2==1),())):=by
  intro n
  induction n with
  |zero=>omega
  |succ n ih=>
   intro i b hi h hb;simp only[Hn,Nh,Bd,AD,hk,AMp,AB];by_cases Dd:i<8
   ·have ABW:=ua (k:=k) (i:=i) (by omega) (by omega)
    rw[ALy (show(i:Int)<8 by omega),AMD (by omega),AMV,ABW,sx i Dd,ATI,AMV,AK (by omega) (by omega),show((i:Int)+1)=((i+1:Nat):Int)by omega,AB];have c2:b.length+1≤Dr:=by rw[BT];omega
    by_cases hb':(k/2^i)%2=1
    ·rw[ALy hb',ALy c2,ALy (by simp_all),ih (i+1) _ (by omega) (by omega) (by simp_all),AM8]
     rfl
    grind
   ·have:i=8:=by omega
    simp_all
 have:=key Ae 0 [] (by omega) (Ag (by omega)) (by simp);simp_all
theorem oe{d:BC}:Xw d=some ((PM d,()),()):=by
 obtain⟨k,a,b,n,t,⟨⟩⟩:=d;unfold Xw PM;rw[Bd];simp only[AD];rcases AKU (BM k 1 16)with hk|hk
 rotate_left
 ·simp_all
 have hk':=Ah.1 hk;rw[hk];have dl:decide ((t.length:Int)≤40)=decide (t.length≤40):=by
  grind
 have:k=1∨k=2∨k=3∨k=4∨k=5∨k=6∨k=7∨k=8∨k=9∨k=10∨k=11∨k=12∨k=13∨k=14∨k=15∨k=16:=by omega
 rcases this with h|h|h|h|h|h|h|h|h|h|h|h|h|h|h|h<;>subst h<;>simp only[AMp,dl]<;>clear dl hk hk'<;>
  (unfold ZA;simp[eC];cases a==0<;>cases b==0<;>cases n==0<;>cases t.isEmpty<;>rfl)
theorem gx{w:AM}(hl:w.2.1.length≤2^20):Uw w=some (((U_ w.2.1:Int),()),()):=by
 have key:∀(n i:Nat),i≤w.2.1.length→w.2.1.length-i<n→
   JE n i w.1 w.2.1=some ((((i+U_ (w.2.1.drop i):Nat):Int),()),()):=by
  intro n
  induction n with
  |zero=>omega
  |succ n ih=>
   intro i hi h;simp only[JE,Se,AB];by_cases Dd:i<w.2.1.length
   ·have c1:(0:Int)≤(i:Int)∧(i:Int)<(w.2.1.length:Int):=by omega
    rw[ALy c1.2,ALy c1,Ai Dd,AK (by omega) (by omega),show((i:Int)+1)=((i+1:Nat):Int)by omega,ih (i+1) (by omega) (by omega),drop_cons Dd];simp only[U_];cases w.2.1[i].2.2.1 with
    |false=>simp
    |true=>grind
   ·rw[AMD (by omega),AMj (by omega)]
    rfl
 have:=key Ae 0 (by omega) (Ag (by omega));rw[ATU,ATC]at this;exact this
theorem H5{w:AA}{n:Int}(h1:w.Am.length≤2^20)(h2:w.lost.length≤2^20):HN w n=some ((Aj w n,()),()):=by
 unfold HN Aj
 (try simp only[H.AA.Am,H.AA.lost,H.AA.Ab,H.AA.trim,H.AA.AH,H.AA.BW,H.AA.AR,H.AA.BX,H.AA.EC,H.AA.BA,H.AA.EV,H.AA.G9,H.AA.A9,H.AA.Bi,H.AA.Cw,H.AA.Cy,H.AA.FA,B3,AS]at*)
 rw[AK (by omega) (by omega),Bd,KJ (by omega)];grind
theorem Ro{w:AA}{n:Int}(h1:w.AH.length≤2^20):LC w n=some ((BM n 0 ((w.AH.length:Int)-1),()),()):=by
 grind[LC,AK,Bd]
theorem n_{w:AA}{e:Int}(hl:Af Ar w.AH≤2^20):c_ w e=some ((U3 w e,()),()):=by
 have hll:=AX (f:=Ar) (l:=w.AH);have key:∀(n i:Nat),i≤w.AH.length→w.AH.length-i<n→
   Nc n e i w.1 w.2.1 w.2.2.1 w.2.2.2.1 w.2.2.2.2.1 w.2.2.2.2.2.1 w.AH w.2.2.2.2.2.2.2.1 w.2.2.2.2.2.2.2.2.1 w.2.2.2.2.2.2.2.2.2.1 w.2.2.2.2.2.2.2.2.2.2.1=
    some (((match(w.AH.drop i).find? (fun x=>x.1==e)with|some x=>(U_ x.2.1:Int)|none=>0),()),()):=by
  intro n
  induction n with
  |zero=>omega
  |succ n ih=>
   intro i hi h;simp only[Nc,Yu,AB];by_cases Dd:i<w.AH.length
   ·have c1:(0:Int)≤(i:Int)∧(i:Int)<(w.AH.length:Int):=by omega
    rw[ALy c1.2,ALy c1,ALy c1,Ai Dd,AK (by omega) (by omega),show((i:Int)+1)=((i+1:Nat):Int)by omega,ih (i+1) (by omega) (by omega),drop_cons Dd,AUh,show(w.AH[i].1,w.AH[i].2.1,())=w.AH[i]from rfl];have hm:=Aa (f:=Ar) (AMh Dd);have hw:Ar w.AH[i]=Af BJ w.AH[i].2.1:=rfl;have hlw:=AX (f:=BJ) (l:=w.AH[i].2.1);rw[gx (by omega)];cases(w.AH[i].1==e)<;>rfl
   grind
 have:=key Ae 0 (by omega) (Ag (by omega));rw[ATC]at this;exact this
theorem gH{w:AA}{r:AY}{k:Int}(h1:Af Al w.Am≤2^20)(h2:w.lost.length≤2^20)(hr1: -1000≤r.1∧r.1≤1000)(hr2: -1000≤r.2.1∧r.2.1≤1000):
  Pv w r k=some (((),()),(answers w (D1 r.1 r.2.1) (An k),())):=by
 have hsl:=AX (f:=Al) (l:=w.Am);have vT:(An k).length≤8:=by
  unfold An;split
  ·exact ASs (AS6 _ _) (by simp)
  ·simp
 have key:∀(n i:Nat) (b:List Ax),i≤(An k).length→(An k).length-i<n→b.length≤i→
   JH n i w.1 w.2.1 w.2.2.1 w.2.2.2.1 w.2.2.2.2.1 w.2.2.2.2.2.1 w.2.2.2.2.2.2.1 w.2.2.2.2.2.2.2.1 w.2.2.2.2.2.2.2.2.1 w.2.2.2.2.2.2.2.2.2.1 w.2.2.2.2.2.2.2.2.2.2.1 r.1 r.2.1 r.2.2.1 b (An k)=
    some (((),()),(b++answers w (D1 r.1 r.2.1) ((An k).drop i),())):=by
  intro n
  induction n with
  |zero=>omega
  |succ n ih=>
   intro i b hi h hb;simp only[JH,S1,AB];by_cases Dd:i<(An k).length
   ·have c1:(0:Int)≤(i:Int)∧(i:Int)<((An k).length:Int):=by omega
    have c2:b.length+1≤Dr:=by rw[BT];omega
    rw[ALy c1.2,ALy c1,Ai Dd,show(w.1,w.2.1,w.2.2.1,w.2.2.2.1,w.2.2.2.2.1,w.2.2.2.2.2.1,w.2.2.2.2.2.2.1,w.2.2.2.2.2.2.2.1,w.2.2.2.2.2.2.2.2.1,w.2.2.2.2.2.2.2.2.2.1,w.2.2.2.2.2.2.2.2.2.2.1,())=w from rfl,H5 (by omega) h2,AK (by omega) (by omega),show((i:Int)+1)=((i+1:Nat):Int)by omega,drop_cons Dd];simp only[AD,Cp,answers,ATI];by_cases hn:Aj w (An k)[i]=0
    ·obtain⟨n1,n2,n3⟩:=EG hn
     have hs1:((An k)[i]).toNat<w.2.2.1.length:=by simp_all
     rw[ALy hn,ALy c1,ALy ⟨n1,n2⟩,MR hr1 hr2];simp only[AD];have Za:w.2.2.1.getD ((An k)[i]).toNat ([],[],0,())=storeAt w (An k)[i]:=rfl;have hsm:Al (storeAt w (An k)[i])≤2^20:=ASs (Aa (f:=Al) (BG (d:=Cl) hs1)) h1;rw[Za,Tz (Fm (by omega)).1];simp only[AD];rw[ALy c1,ALy c2,ih (i+1) _ (by omega) (by omega) (by simp_all),ALy (by simp_all),AVJ,AM8];have:((An k)[i],(Ek (D1 r.1 r.2.1) (storeAt w (An k)[i]).1).isSome,((Ek (D1 r.1 r.2.1) (storeAt w (An k)[i]).1).getD Dn).1,((Ek (D1 r.1 r.2.1) (storeAt w (An k)[i]).1).getD Dn).2.1,((Ek (D1 r.1 r.2.1) (storeAt w (An k)[i]).1).getD Dn).2.2.1,((Ek (D1 r.1 r.2.1) (storeAt w (An k)[i]).1).getD Dn).2.2.2.1,())=answer w (D1 r.1 r.2.1) (An k)[i]:=by
      grind[answer,Ek,D1,storeAt,An]
     rw[this];rfl
    ·rw[AMD hn,ih (i+1) _ (by omega) (by omega) (by omega),AMD (by simp_all)]
     rfl
   ·rw[AMD (by omega),AMj (by omega)]
    simp[answers]
 have:=key Ae 0 [] (by omega) (Ag (by omega)) (by simp);grind[Pv,Sc,YV]
end Go.M
end
section
set_option maxRecDepth 8000
namespace Go.M
open Go.M.H (AJ AO As Ac AA CN AQ A7 AM AY A3 Ax BC Al CJ Af AX Aa Ap B8 BJ Ar A0 EO CO Cv C_)
section
variable{w:AA} (h:gf w)
include h
theorem AHq:∀(n i:Nat) (Di:List AO) (D8:List AM) (EZ:List As) (FD:List AY),i≤w.2.2.2.2.2.2.2.2.1.length→w.2.2.2.2.2.2.2.2.1.length-i<n→FD.length≤i→
  CS n i w.1 w.2.1 w.2.2.1 w.2.2.2.1 w.2.2.2.2.1 w.2.2.2.2.2.1 w.2.2.2.2.2.2.1 w.2.2.2.2.2.2.2.1 w.2.2.2.2.2.2.2.2.1 w.2.2.2.2.2.2.2.2.2.1 w.2.2.2.2.2.2.2.2.2.2.1 0 0 false [] [] [] [] [] [] [] [] w.2.1 w.2.2.2.2.2.1 w.2.2.2.2.2.2.2.2.2.2.1 w.1 Di w.2.2.2.1 w.2.2.2.2.1 D8 EZ FD w.2.2.2.2.2.2.2.2.2.1=some ((((),w.2.1,(),(),(),w.2.2.2.2.2.1,(),(),(),(),w.2.2.2.2.2.2.2.2.2.2.1,()),()),(w.1,Di,w.2.2.2.1,w.2.2.2.2.1,D8,EZ,(FD++w.2.2.2.2.2.2.2.2.1.drop i),w.2.2.2.2.2.2.2.2.2.1,())):=by
 have xr:=h.Qp;have hl:=h.lens;intro n
 induction n with
 |zero=>omega
 |succ n ih=>
  intro i Di D8 EZ FD hi hn hb;simp only[CS,PJ,AB];by_cases Dd:i<w.2.2.2.2.2.2.2.2.1.length
  ·have c1:(0:Int)≤(i:Int)∧(i:Int)<(w.2.2.2.2.2.2.2.2.1.length:Int):=by omega
   have c2:FD.length+1≤Dr:=by rw[BT];omega
   rw[ALy c1.2,ALy c1,Ai Dd,AK (by omega) (by omega),show((i:Int)+1)=((i+1:Nat):Int)by omega,drop_cons Dd];have hm:=Aa (f:=A0) (AMh Dd);have hw:A0 w.2.2.2.2.2.2.2.2.1[i]=Af CO w.2.2.2.2.2.2.2.2.1[i].2.2.1:=rfl;have hlw:=AX (f:=CO) (l:=w.2.2.2.2.2.2.2.2.1[i].2.2.1);rw[show(w.2.2.2.2.2.2.2.2.1[i].1,w.2.2.2.2.2.2.2.2.1[i].2.1,w.2.2.2.2.2.2.2.2.1[i].2.2.1,())=w.2.2.2.2.2.2.2.2.1[i]from rfl,U8 (by omega)];simp only[AD];rw[ALy c2,ih (i+1) _ _ _ _ (by omega) (by omega) (by simp_all),AM8];rfl
  grind
theorem AHc:∀(n i:Nat) (Di:List AO) (D8:List AM) (EZ:List As),i≤w.2.2.2.2.2.2.2.1.length→(w.2.2.2.2.2.2.2.1.length-i)+w.2.2.2.2.2.2.2.2.1.length+2≤n→EZ.length≤i→
  CR n i w.1 w.2.1 w.2.2.1 w.2.2.2.1 w.2.2.2.2.1 w.2.2.2.2.2.1 w.2.2.2.2.2.2.1 w.2.2.2.2.2.2.2.1 w.2.2.2.2.2.2.2.2.1 w.2.2.2.2.2.2.2.2.2.1 w.2.2.2.2.2.2.2.2.2.2.1 0 0 false [] [] [] [] [] [] [] [] w.2.1 w.2.2.2.2.2.1 w.2.2.2.2.2.2.2.2.2.2.1 w.1 Di w.2.2.2.1 w.2.2.2.2.1 D8 EZ [] w.2.2.2.2.2.2.2.2.2.1=some ((((),w.2.1,(),(),(),w.2.2.2.2.2.1,(),(),(),(),w.2.2.2.2.2.2.2.2.2.2.1,()),()),(w.1,Di,w.2.2.2.1,w.2.2.2.2.1,D8,(EZ++w.2.2.2.2.2.2.2.1.drop i),w.2.2.2.2.2.2.2.2.1,w.2.2.2.2.2.2.2.2.2.1,())):=by
 have xr:=h.Qp;have hl:=h.lens;intro n
 induction n with
 |zero=>omega
 |succ n ih=>
  intro i Di D8 EZ hi hn hb;simp only[CR,PF,AB];by_cases Dd:i<w.2.2.2.2.2.2.2.1.length
  ·have c1:(0:Int)≤(i:Int)∧(i:Int)<(w.2.2.2.2.2.2.2.1.length:Int):=by omega
   have c2:EZ.length+1≤Dr:=by rw[BT];omega
   rw[ALy c1.2,ALy c1,Ai Dd,AK (by omega) (by omega),show((i:Int)+1)=((i+1:Nat):Int)by omega,drop_cons Dd];have hm:=Aa (f:=CJ) (AMh Dd);rw[show(w.2.2.2.2.2.2.2.1[i].1,w.2.2.2.2.2.2.2.1[i].2.1,w.2.2.2.2.2.2.2.1[i].2.2.1,w.2.2.2.2.2.2.2.1[i].2.2.2.1,w.2.2.2.2.2.2.2.1[i].2.2.2.2.1,w.2.2.2.2.2.2.2.1[i].2.2.2.2.2.1,())=w.2.2.2.2.2.2.2.1[i]from rfl,Ld (by omega)];simp only[AD];rw[ALy c2,ih (i+1) _ _ _ (by omega) (by omega) (by simp_all),AM8];rfl
  ·have:=AHq h n 0 Di D8 EZ [] (by omega) (by omega) (by simp)
   grind
theorem AQG:∀(n i:Nat) (Di:List AO) (D8:List AM),i≤w.2.2.2.2.2.2.1.length→(w.2.2.2.2.2.2.1.length-i)+w.2.2.2.2.2.2.2.1.length+w.2.2.2.2.2.2.2.2.1.length+3≤n→D8.length≤i→
  Cm n i w.1 w.2.1 w.2.2.1 w.2.2.2.1 w.2.2.2.2.1 w.2.2.2.2.2.1 w.2.2.2.2.2.2.1 w.2.2.2.2.2.2.2.1 w.2.2.2.2.2.2.2.2.1 w.2.2.2.2.2.2.2.2.2.1 w.2.2.2.2.2.2.2.2.2.2.1 0 0 false [] [] [] [] [] [] [] [] w.2.1 w.2.2.2.2.2.1 w.2.2.2.2.2.2.2.2.2.2.1 w.1 Di w.2.2.2.1 w.2.2.2.2.1 D8 [] [] w.2.2.2.2.2.2.2.2.2.1=some ((((),w.2.1,(),(),(),w.2.2.2.2.2.1,(),(),(),(),w.2.2.2.2.2.2.2.2.2.2.1,()),()),(w.1,Di,w.2.2.2.1,w.2.2.2.2.1,(D8++w.2.2.2.2.2.2.1.drop i),w.2.2.2.2.2.2.2.1,w.2.2.2.2.2.2.2.2.1,w.2.2.2.2.2.2.2.2.2.1,())):=by
 have xr:=h.Qp;have hl:=h.lens;intro n
 induction n with
 |zero=>omega
 |succ n ih=>
  intro i Di D8 hi hn hb;simp only[Cm,QN,AB];by_cases Dd:i<w.2.2.2.2.2.2.1.length
  ·have c1:(0:Int)≤(i:Int)∧(i:Int)<(w.2.2.2.2.2.2.1.length:Int):=by omega
   have c2:D8.length+1≤Dr:=by rw[BT];omega
   rw[ALy c1.2,ALy c1,Ai Dd,AK (by omega) (by omega),show((i:Int)+1)=((i+1:Nat):Int)by omega,drop_cons Dd];have hm:=Aa (f:=Ar) (AMh Dd);have hw:Ar w.2.2.2.2.2.2.1[i]=Af BJ w.2.2.2.2.2.2.1[i].2.1:=rfl;rw[show(w.2.2.2.2.2.2.1[i].1,w.2.2.2.2.2.2.1[i].2.1,())=w.2.2.2.2.2.2.1[i]from rfl,Re (by omega)];simp only[AD];rw[ALy c2,ih (i+1) _ _ (by omega) (by omega) (by simp_all),AM8];rfl
  ·have:=AHc h n 0 Di D8 [] (by omega) (by omega) (by simp)
   grind
theorem ASI:∀(n i:Nat) (Di:List AO),i≤w.2.2.1.length→(w.2.2.1.length-i)+w.2.2.2.2.2.2.1.length+w.2.2.2.2.2.2.2.1.length+w.2.2.2.2.2.2.2.2.1.length+4≤n→Di.length≤i→
  CU n i w.1 w.2.1 w.2.2.1 w.2.2.2.1 w.2.2.2.2.1 w.2.2.2.2.2.1 w.2.2.2.2.2.2.1 w.2.2.2.2.2.2.2.1 w.2.2.2.2.2.2.2.2.1 w.2.2.2.2.2.2.2.2.2.1 w.2.2.2.2.2.2.2.2.2.2.1 0 0 false [] [] [] [] [] [] [] [] w.2.1 w.2.2.2.2.2.1 w.2.2.2.2.2.2.2.2.2.2.1 w.1 Di w.2.2.2.1 w.2.2.2.2.1 [] [] [] w.2.2.2.2.2.2.2.2.2.1=some ((((),w.2.1,(),(),(),w.2.2.2.2.2.1,(),(),(),(),w.2.2.2.2.2.2.2.2.2.2.1,()),()),(w.1,(Di++w.2.2.1.drop i),w.2.2.2.1,w.2.2.2.2.1,w.2.2.2.2.2.2.1,w.2.2.2.2.2.2.2.1,w.2.2.2.2.2.2.2.2.1,w.2.2.2.2.2.2.2.2.2.1,())):=by
 have xr:=h.Qp;have hl:=h.lens;intro n
 induction n with
 |zero=>omega
 |succ n ih=>
  intro i Di hi hn hb;simp only[CU,QG,AB];by_cases Dd:i<w.2.2.1.length
  ·have c1:(0:Int)≤(i:Int)∧(i:Int)<(w.2.2.1.length:Int):=by omega
   have c2:Di.length+1≤Dr:=by rw[BT];omega
   rw[ALy c1.2,ALy c1,Ai Dd,AK (by omega) (by omega),show((i:Int)+1)=((i+1:Nat):Int)by omega,drop_cons Dd];have hm:=Aa (f:=Al) (AMh Dd);have hw:=Fm (s:=w.2.2.1[i]) (by omega);rw[show(w.2.2.1[i].1,w.2.2.1[i].2.1,w.2.2.1[i].2.2.1,())=w.2.2.1[i]from rfl,OT hw.1 hw.2];simp only[AD];rw[ALy c2,ih (i+1) _ (by omega) (by omega) (by simp_all),AM8];rfl
  ·have:=AQG h n 0 Di [] (by omega) (by omega) (by simp)
   grind
theorem bw:L8 w=some ((((),w.2.1,(),(),(),w.2.2.2.2.2.1,(),(),(),(),w.2.2.2.2.2.2.2.2.2.2.1,()),()),(w.1,w.2.2.1,w.2.2.2.1,w.2.2.2.2.1,w.2.2.2.2.2.2.1,w.2.2.2.2.2.2.2.1,w.2.2.2.2.2.2.2.2.1,w.2.2.2.2.2.2.2.2.2.1,())):=by
 have xr:=h.Qp;have hl:=h.lens;unfold L8 QP;have:=ASI h Ae 0 [] (by omega) (AVi (Ag (by omega))) (by simp);rw[show((0:Nat):Int)=0 from rfl,ATA,ATC]at this;rw[ALy (by rw[BT];omega),ALy (by rw[BT];omega),show(w.2.2.2.2.1,w.2.2.2.2.2.1,())=(B3 w)from rfl,RU (by show Af B8 w.2.2.2.2.1≤_;omega)];simp only[AD];rw[ALy (by rw[BT];omega)];exact this
end
end Go.M
end
section
set_option maxRecDepth 8000
namespace Go.M
open Go.M.H (AJ AO As Ac AA CN AQ A7 AM AY A3 Ax BC Al CJ Af AX Aa Ap B8 BJ Ar A0 EO CO Cv C_)
def pkD(q:AA×Int):ba:=(((((),q.1.2.1,(),(),(),q.1.2.2.2.2.2.1,(),(),(),(),q.1.2.2.2.2.2.2.2.2.2.2.1,()),q.2,()),()),(q.1.1,q.1.2.2.1,q.1.2.2.2.1,q.1.2.2.2.2.1,q.1.2.2.2.2.2.2.1,q.1.2.2.2.2.2.2.2.1,q.1.2.2.2.2.2.2.2.2.1,q.1.2.2.2.2.2.2.2.2.2.1,()))
def AOx(q:AA×Int):dN:=(((((),q.1.2.1,(),(),(),q.1.2.2.2.2.2.1,(),(),(),(),q.1.2.2.2.2.2.2.2.2.2.2.1,()),q.2,()),()),(q.1.1,q.1.2.2.1,q.1.2.2.2.1,(),(),(),q.1.2.2.2.2.2.2.2.2.1,q.1.2.2.2.2.2.2.2.2.2.1,q.1.2.2.2.2.1,q.1.2.2.2.2.2.2.1,q.1.2.2.2.2.2.2.2.1,()))
def ADb(q:AA×Int):KW:=(((((),q.1.2.1,(),(),(),q.1.2.2.2.2.2.1,(),(),(),(),q.1.2.2.2.2.2.2.2.2.2.2.1,()),q.2,()),()),(q.1.1,q.1.2.2.1,q.1.2.2.2.1,q.1.2.2.2.2.1,q.1.2.2.2.2.2.2.1,q.1.2.2.2.2.2.2.2.1,q.1.2.2.2.2.2.2.2.2.1,(),q.1.2.2.2.2.2.2.2.2.2.1,()))
def uR(q:AA×Int):JB:=(((((),q.1.2.1,(),(),(),q.1.2.2.2.2.2.1,(),(),(),(),q.1.2.2.2.2.2.2.2.2.2.2.1,()),q.2,()),()),(q.1.1,q.1.2.2.1,(),q.1.2.2.2.2.1,q.1.2.2.2.2.2.2.1,q.1.2.2.2.2.2.2.2.1,q.1.2.2.2.2.2.2.2.2.1,q.1.2.2.2.2.2.2.2.2.2.1,q.1.2.2.2.1,()))
def ARX(q:AA×Int):dE:=(((((),q.1.2.1,(),(),(),q.1.2.2.2.2.2.1,(),(),(),(),q.1.2.2.2.2.2.2.2.2.2.2.1,()),q.2,()),()),(q.1.1,q.1.2.2.1,q.1.2.2.2.1,q.1.2.2.2.2.1,q.1.2.2.2.2.2.2.1,(),q.1.2.2.2.2.2.2.2.2.1,q.1.2.2.2.2.2.2.2.2.2.1,q.1.2.2.2.2.2.2.2.1,()))
def AG5(q:AA×Int):cB:=(((((),q.1.2.1,(),(),(),q.1.2.2.2.2.2.1,(),(),(),(),q.1.2.2.2.2.2.2.2.2.2.2.1,()),q.2,()),()),(q.1.1,q.1.2.2.1,q.1.2.2.2.1,(),q.1.2.2.2.2.2.2.1,(),q.1.2.2.2.2.2.2.2.2.1,q.1.2.2.2.2.2.2.2.2.2.1,q.1.2.2.2.2.1,q.1.2.2.2.2.2.2.2.1,()))
def AEA(q:AA×Int):Nw:=(((((),q.1.2.1,(),(),(),q.1.2.2.2.2.2.1,(),(),(),(),q.1.2.2.2.2.2.2.2.2.2.2.1,()),q.2,()),()),(q.1.1,q.1.2.2.1,q.1.2.2.2.1,q.1.2.2.2.2.1,(),q.1.2.2.2.2.2.2.2.1,q.1.2.2.2.2.2.2.2.2.1,q.1.2.2.2.2.2.2.2.2.2.1,q.1.2.2.2.2.2.2.1,()))
def ASp(q:AA×Int):h_:=(((((),q.1.2.1,(),(),(),q.1.2.2.2.2.2.1,(),(),(),(),q.1.2.2.2.2.2.2.2.2.2.2.1,()),q.2,()),()),(q.1.1,q.1.2.2.1,(),(),(),(),q.1.2.2.2.2.2.2.2.2.1,(),q.1.2.2.2.1,q.1.2.2.2.2.1,q.1.2.2.2.2.2.2.1,q.1.2.2.2.2.2.2.2.1,q.1.2.2.2.2.2.2.2.2.2.1,()))
theorem Fl{α:Type}{x y:α}:(if(!true)=true then x else y)=y:=rfl
theorem IL{α:Type}{x y:α}:(if(!false)=true then x else y)=x:=rfl
structure AbN (w:AA):Prop where
 c:w.1.length≤8
 st:w.2.2.1.length=w.1.length
 lost:w.2.2.2.1.length≤8
 era:Af B8 w.2.2.2.2.1≤270
 bC:w.2.2.2.2.1.length≤30
 trim:C0 w.2.2.2.2.2.1
 wr:w.2.2.2.2.2.2.1.length≤4
 md:w.2.2.2.2.2.2.2.1.length≤1
 rd:w.2.2.2.2.2.2.2.2.1.length=2
 se:w.2.2.2.2.2.2.2.2.2.1.length≤120
 ws:Af Al w.2.2.1≤80008
 ww:Af Ar w.2.2.2.2.2.2.1≤12004
 aI:w.AH.length≤4
 hU:w.Am.length=w.1.length
 Jd:w.lost.length≤8
theorem NN.nums{w:AA}(h:NN w):AbN w where
 c:=(GW h.cfg).2.1
 st:=h.oR
 lost:=HX h.lost
 era:=h.lZ.w
 bC:=h.lZ.n
 trim:=h.lZ.tin
 wr:=h.rN
 md:=h.xz
 rd:=h.mu
 se:=h.RG
 ws:=by
  have:=Fu (f:=Al) (B:=10000) (N:=8) (l:=w.Am) (by rw[h.oR];exact(GW h.cfg).2.1) fun s hs=>(h.UE hs).w
  omega
 ww:=by
  have:=Fu (f:=Ar) (B:=3000) h.rN fun x hx=>(h.AH x hx).1.w
  omega
 aI:=h.rN
 hU:=h.oR
 Jd:=HX h.lost
section
variable{w:AA} (h:NN w)
include h
theorem NN.cw{a:Int}(ha:BM a 0 ((w.AH.length:Int)-1)=true):(0≤a∧a<(w.2.2.2.2.2.2.1.length:Int))∧ae (AS w) (w.AH.getD a.toNat Bu)∧Af BJ (w.AH.getD a.toNat Bu).2.1≤3000:=by
 have:=Ah.1 ha;have hi:a.toNat<w.AH.length:=by omega
 have hx:=(h.AH _ (BG (d:=Bu) hi)).1;refine⟨?_,hx,hx.w⟩
 (try simp only[H.AA.Am,H.AA.lost,H.AA.Ab,H.AA.trim,H.AA.AH,H.AA.BW,H.AA.AR,H.AA.BX,H.AA.EC,H.AA.BA,H.AA.EV,H.AA.G9,H.AA.A9,H.AA.Bi,H.AA.Cw,H.AA.Cy,H.AA.FA,B3,AS]at*)
 omega
theorem GV{e:Int}:(Ao (B3 w).1 e).length≤8:=by
 unfold Ao;split
 ·rename_i he
  have he':=Ah.1 he;exact HX (Nl (h.lZ.Ab _ (BG (d:=GJ) (by omega))).1)
 ·simp
theorem nN{d:BC}:Vm w.2.1 w.2.2.2.2.2.1 w.2.2.2.2.2.2.2.2.2.2.1 d w.1 w.2.2.1 w.2.2.2.1 w.2.2.2.2.1 w.2.2.2.2.2.2.1 w.2.2.2.2.2.2.2.1 w.2.2.2.2.2.2.2.2.1 w.2.2.2.2.2.2.2.2.2.1=some (AOx (L5 w d.2.1)):=by
 have k:=h.nums;have k1:=k.c;have k2:=k.wr;unfold Vm L5;rw[DE];by_cases h4:w.2.2.2.2.2.2.1.length=4
 ·rw[ALy (by omega),ALy h4];rfl
 have hm:(An d.2.1).length≤8:=by
  unfold An;split
  ·exact ASs (AS6 _ _) (by simp)
  ·simp
 rw[AMD (by omega),AMD h4,YV];simp only[AD];rw[show(w.1,w.2.1,())=AS w from rfl,show(w.2.2.2.2.1,w.2.2.2.2.2.1,())=B3 w from rfl,mQ (c:=AS w) (r:=B3 w) (by show w.1.length≤_;omega) (by have:=k.era;show Af B8 w.2.2.2.2.1≤_;omega) k.trim (by omega)];simp only[AD,Az];rcases AKU (IM (AS w) (B3 w) (An d.2.1)).2.2 with hq|hq
 ·rw[hq,ALy (by rw[BT];omega),Fl];rfl
 ·rw[hq,IL];rfl
theorem jo{d:BC}:Tr w.2.1 w.2.2.2.2.2.1 w.2.2.2.2.2.2.2.2.2.2.1 d w.1 w.2.2.1 w.2.2.2.1 w.2.2.2.2.1 w.2.2.2.2.2.2.1 w.2.2.2.2.2.2.2.1 w.2.2.2.2.2.2.2.2.1 w.2.2.2.2.2.2.2.2.2.1=some (pkD (IJ w d.2.1 d.2.2.1 d.2.2.2.1)):=by
 have k:=h.nums;have k1:=k.c;have k2:=k.wr;have k3:=k.lost;have k4:=k.st;have Zp:=k.aI;have hY:=k.Jd;have jh:=k.hU;have k5:=k.era;unfold Tr IJ;rw[show(w.1,w.2.1,w.2.2.1,w.2.2.2.1,w.2.2.2.2.1,w.2.2.2.2.2.1,w.2.2.2.2.2.2.1,w.2.2.2.2.2.2.2.1,w.2.2.2.2.2.2.2.2.1,w.2.2.2.2.2.2.2.2.2.1,w.2.2.2.2.2.2.2.2.2.2.1,())=w from rfl,Ro (by omega),H5 (by omega) (by omega)];simp only[AD,Az,Cp];rcases AKU (BM d.2.1 0 ((w.AH.length:Int)-1))with h1|h1
 rotate_left
 ·rw[h1,IL];rfl
 obtain⟨x1,x2,x3⟩:=h.cw h1;rw[h1,AMp,Fl,ALy x1,Bd];simp only[AD]
 generalize hx:w.AH.getD d.2.1.toNat Bu=x at*
 rcases AKU (BM d.2.2.1 1 (x.2.1.length:Int))with h2|h2
 rotate_left
 ·rw[h2,IL];rfl
 have h2':=Ah.1 h2;rw[h2,AMp,Fl];by_cases h3:Aj w d.2.2.2.1=0
 rotate_left
 ·rw[AMD h3,ALy h3];rfl
 rw[ALy h3,AMD (show¬(Aj w d.2.2.2.1≠0)from fun hh=>hh h3)];obtain⟨n1,n2,n3⟩:=EG h3;have n2':d.2.2.2.1<(w.2.2.1.length:Int):=n2;have hxl:=x2.n;have hxe:=x2.ep;rw[show(w.2.2.2.2.1,w.2.2.2.2.2.1,())=B3 w from rfl,E_ (r:=B3 w) (by show Af B8 w.2.2.2.2.1≤_;omega)];have T7:(Ao w.Ab x.1).length≤8:=GV h;have hr:0≤d.2.2.2.1∧d.2.2.2.1<(w.2.2.1.length:Int):=⟨n1,n2'⟩;rw[show(B3 w).1=w.Ab from rfl];simp only[AD,ALy hr];rw[KJ (by omega),AK (by omega) (by omega),ALy (by omega),MR (by omega) (by omega)];simp only[AD];have Za:w.2.2.1.getD d.2.2.2.1.toNat ([],[],0,())=storeAt w d.2.2.2.1:=rfl;have hso:=h.store h3;have km:=Iu (e:=x.1) (o:=d.2.2.1) hxe (by omega);rw[Za,show((storeAt w d.2.2.2.1).1,(storeAt w d.2.2.2.1).2.1,(storeAt w d.2.2.2.1).2.2.1,())=storeAt w d.2.2.2.1 from rfl,Zq (by have:=hso.w;omega) hso.sin (JS km.1)];simp only[AD,lq,putAt];rcases AKU ((Ao w.Ab x.1).contains d.2.2.2.1)with h5|h5
 rotate_left
 ·rw[h5,IL];rfl
 rw[h5,Fl,AMp];have hwd:(x.2.1.getD (d.2.2.1-1).toNat ([],[],false,()))=x.2.1.getD (d.2.2.1-1).toNat Kw:=rfl;rw[hwd];rcases AKU (Fv (storeAt w d.2.2.2.1) (D1 x.1 d.2.2.1,0,false,(x.2.1.getD (d.2.2.1-1).toNat Kw).1,())).2 with h6|h6
 rotate_left
 ·rw[h6];rfl
 rw[h6,AMp,ALy rfl];rfl
end
end Go.M
end
section
set_option maxRecDepth 8000
namespace Go.M
open Go.M.H (AJ AO As Ac AA CN AQ A7 AM AY A3 Ax BC Al CJ Af AX Aa Ap B8 BJ Ar A0 EO CO Cv C_)
theorem jw{α:Type}{f:α→Nat}{p:α→Bool}:∀{l:List α},Af f (l.filter p)≤Af f l
 |[]=>AQW _
 |x::l=>by
  have:=jw (f:=f) (p:=p) (l:=l);grind[Af]
theorem xL{s:AO}{u:Int}(hs:fV s):fV (Bh s u).1:=by
 rcases AKU (Bh s u).2 with hq|hq
 ·exact(aW hq).2.1
 ·have:(Bh s u).1=s:=by
   unfold Bh at*;rw[DN.2 hs]at*;grind
  simp_all
section
variable{w:AA} (h:NN w)
include h
theorem NN.LG{n:Int}(hn:Aj w n=0):(0≤n∧n<(w.2.2.1.length:Int))∧Al (storeAt w n)≤2^30∧qq (storeAt w n)∧fV (storeAt w n):=by
 obtain⟨n1,n2,n3⟩:=EG hn;have:=(h.store hn).w;exact⟨⟨n1,n2⟩,by omega,(h.store hn).sin,h.store hn⟩
theorem k9{d:BC}:Td w.2.1 w.2.2.2.2.2.1 w.2.2.2.2.2.2.2.2.2.2.1 d w.1 w.2.2.1 w.2.2.2.1 w.2.2.2.2.1 w.2.2.2.2.2.2.1 w.2.2.2.2.2.2.2.1 w.2.2.2.2.2.2.2.2.1 w.2.2.2.2.2.2.2.2.2.1=some (pkD (if d.1=16 then IV w d.2.1 else IQ w d.2.1 d.2.2.1)):=by
 have k:=h.nums;have k1:=k.c;have k2:=k.wr;have k3:=k.lost;have k4:=k.st;have Zp:=k.aI;have hY:=k.Jd;have jh:=k.hU;have k5:=k.era;unfold Td IV IQ;rw[show(w.1,w.2.1,w.2.2.1,w.2.2.2.1,w.2.2.2.2.1,w.2.2.2.2.2.1,w.2.2.2.2.2.2.1,w.2.2.2.2.2.2.2.1,w.2.2.2.2.2.2.2.2.1,w.2.2.2.2.2.2.2.2.2.1,w.2.2.2.2.2.2.2.2.2.2.1,())=w from rfl,H5 (by omega) (by omega)];simp only[AD,Az,Cp,DE];by_cases h3:Aj w d.2.1=0
 rotate_left
 ·rw[AMD h3]
  by_cases h16:d.1=16
  ·rw[ALy h16,ALy h3];rfl
  ·rw[AMD h16,ALy h3];rfl
 obtain⟨hr,s1,s2,s3⟩:=h.LG h3;have Za:w.2.2.1.getD d.2.1.toNat ([],[],0,())=storeAt w d.2.1:=rfl;have hn3: ¬(Aj w d.2.1≠0):=fun hh=>hh h3
 rw[ALy h3];simp only[ALy hr,Za,AMD hn3];rw[show((storeAt w d.2.1).1,(storeAt w d.2.1).2.1,(storeAt w d.2.1).2.2.1,())=storeAt w d.2.1 from rfl,XX s1 s2,iW s1 s2 k.trim];simp only[AD,lq,putAt];by_cases h16:d.1=16
 ·rw[ALy h16,ALy h16]
  rcases AKU (Fy (storeAt w d.2.1) w.2.2.2.2.2.1).2 with h6|h6
  ·rw[h6];rfl
  ·rw[h6];rfl
 ·rw[AMD h16,AMD h16]
  rcases AKU (D5 (storeAt w d.2.1) d.2.2.1).2 with h6|h6
  ·rw[h6];rfl
  ·rw[h6];rfl
theorem mW{d:BC}:WG w.2.1 w.2.2.2.2.2.1 w.2.2.2.2.2.2.2.2.2.2.1 d w.1 w.2.2.1 w.2.2.2.1 w.2.2.2.2.1 w.2.2.2.2.2.2.1 w.2.2.2.2.2.2.2.1 w.2.2.2.2.2.2.2.2.1 w.2.2.2.2.2.2.2.2.2.1=some (uR (Lt w d.2.1)):=by
 have k:=h.nums;have k1:=k.c;have k2:=k.wr;have k3:=k.lost;have k4:=k.st;have Zp:=k.aI;have hY:=k.Jd;have jh:=k.hU;have k5:=k.era;have k6:=k.ws;have k6':Af Al w.Am≤80008:=k.ws;have k7:=k.bC;unfold WG Lt;rw[KJ (by omega)];simp only[AD,Az];rcases AKU (w.2.2.2.1.contains d.2.1)with h1|h1
 rotate_left
 ·rw[h1];rfl
 rw[h1,Fl,AMp,AK (by omega) (by omega),KV];simp only[AD];rw[show(w.1,w.2.1,())=AS w from rfl,tV (c:=AS w) (by show w.1.length≤_;omega) (by omega) (fun s hs=>by have:=(h.UE hs).nk;omega) (by omega) (fun s hs=>(h.UE hs).sin) (by omega)];simp only[AD,pkF];rcases AKU (W9 (AS w) w.2.2.1 w.2.2.2.1 d.2.1 (max ((w.2.2.2.2.1.length:Int)-1) 0)).2 with h2|h2
 rotate_left
 ·rw[h2];rfl
 have hm:d.2.1∈w.lost:=by
  simp_all
 have hn:=(EK.1 h.lost).2.1 d.2.1 hm;have hn':d.2.1<(w.1.length:Int):=hn.2;rw[h2,AMp,Fl,ALy (show 0≤d.2.1∧d.2.1<(w.2.2.1.length:Int)from⟨hn.1,by omega⟩),I4 (by omega) (by simp)];rfl
theorem mq:Vv w.2.1 w.2.2.2.2.2.1 w.2.2.2.2.2.2.2.2.2.2.1 w.1 w.2.2.1 w.2.2.2.1 w.2.2.2.2.1 w.2.2.2.2.2.2.1 w.2.2.2.2.2.2.2.1 w.2.2.2.2.2.2.2.2.1 w.2.2.2.2.2.2.2.2.2.1=some (ARX (MC w)):=by
 have k:=h.nums;have k1:=k.c;have k2:=k.wr;have k3:=k.lost;have k4:=k.st;have Zp:=k.aI;have hY:=k.Jd;have jh:=k.hU;have k5:=k.era;have k7:=k.bC;unfold Vv MC;rw[show(w.2.2.2.2.1,w.2.2.2.2.2.1,())=B3 w from rfl,NJ (r:=B3 w) (by show w.2.2.2.2.1.length≤_;omega)];simp only[AD,DE,AB];rw[show(B3 w).1=w.Ab from rfl];by_cases h1:(w.2.2.2.2.1.length:Int)<2
 ·rw[ALy h1,show(decide ((w.2.2.2.2.1.length:Int)<2)||decide (A8 w.2.2.2.2.1=(w.2.2.2.2.1.length:Int)))=true by simp_all];rfl
 rw[AMD h1];by_cases h2:A8 w.2.2.2.2.1=(w.2.2.2.2.1.length:Int)
 ·rw[ALy h2,show(decide ((w.2.2.2.2.1.length:Int)<2)||decide (A8 w.2.2.2.2.1=(w.2.2.2.2.1.length:Int)))=true by simp_all];rfl
 rw[AMD h2,show(decide ((w.2.2.2.2.1.length:Int)<2)||decide (A8 w.2.2.2.2.1=(w.2.2.2.2.1.length:Int)))=false by simp_all];rw[AMD (show¬(false=true)by simp)];by_cases h3:w.2.2.2.2.2.2.2.1.length>0
 ·rw[ALy (by omega),ALy h3];rfl
 ·rw[AMD (by omega),AMD h3];rfl
theorem nQ{d:BC}:WE w.2.1 w.2.2.2.2.2.1 w.2.2.2.2.2.2.2.2.2.2.1 d w.1 w.2.2.1 w.2.2.2.1 w.2.2.2.2.1 w.2.2.2.2.2.2.1 w.2.2.2.2.2.2.2.1 w.2.2.2.2.2.2.2.2.1 w.2.2.2.2.2.2.2.2.2.1=some (pkD (MJ w d.2.1)):=by
 have k:=h.nums;have k1:=k.c;have k2:=k.wr;have k3:=k.lost;have k4:=k.st;have Zp:=k.aI;have hY:=k.Jd;have jh:=k.hU;have k5:=k.era;unfold WE MJ;rcases hm:w.BW with _|⟨m,ms⟩
 ·rw[DE,ALy (by simp_all)];rfl
 have qX:w.2.2.2.2.2.2.2.1=m::ms:=hm;have vT:w.2.2.2.2.2.2.2.1.length=ms.length+1:=by simp_all
 have g0:w.2.2.2.2.2.2.2.1.getD 0 (0,0,[],[],false,[],())=m:=by simp_all
 have yk:(0:Int)≤(0:Int)∧(0:Int)<(w.2.2.2.2.2.2.2.1.length:Int):=by omega
 have ZL:=(h.BW m (by simp_all)).1;have hmw:=ZL.w;have pV:=ZL.ep;have hmb:=ZL.b;simp only[DE,Az,Cp,ALy yk,g0];rw[AMD (by omega)];rw[show(w.1,w.2.1,w.2.2.1,w.2.2.2.1,w.2.2.2.2.1,w.2.2.2.2.2.1,w.2.2.2.2.2.2.1,w.2.2.2.2.2.2.2.1,w.2.2.2.2.2.2.2.2.1,w.2.2.2.2.2.2.2.2.2.1,w.2.2.2.2.2.2.2.2.2.2.1,())=w from rfl,H5 (by omega) (by omega),show(w.2.2.2.2.1,w.2.2.2.2.2.1,())=B3 w from rfl,E_ (r:=B3 w) (by show Af B8 w.2.2.2.2.1≤_;omega)];have T7:(Ao w.Ab m.2.1).length≤8:=GV h;rw[show(B3 w).1=w.Ab from rfl];simp only[AD];rw[KJ (by omega)];simp only[AD];by_cases h3:Aj w d.2.1=0
 rotate_left
 ·rw[AMD h3,ALy h3];rfl
 obtain⟨hr,s1,s2,s3⟩:=h.LG h3;have Za:w.2.2.1.getD d.2.1.toNat ([],[],0,())=storeAt w d.2.1:=rfl;have hn3: ¬(Aj w d.2.1≠0):=fun hh=>hh h3
 rw[ALy h3,AMD hn3];simp only[ALy hr,Za];rcases AKU ((Ao w.Ab m.2.1).contains d.2.1)with h5|h5
 rotate_left
 ·rw[h5,IL];rfl
 rw[h5,Fl,AMp,AK (by omega) (by omega),show((storeAt w d.2.1).1,(storeAt w d.2.1).2.1,(storeAt w d.2.1).2.2.1,())=storeAt w d.2.1 from rfl,iO s1 s2];have hq:=xL (u:=m.1-1) s3;have hqw:=hq.w;simp only[AD,lq];rw[show((Bh (storeAt w d.2.1) (m.1-1)).1.1,(Bh (storeAt w d.2.1) (m.1-1)).1.2.1,(Bh (storeAt w d.2.1) (m.1-1)).1.2.2.1,())=(Bh (storeAt w d.2.1) (m.1-1)).1 from rfl,lN (by omega) hq.sin];simp only[AD];have hes:(GD (Bh (storeAt w d.2.1) (m.1-1)).1 m.2.1).length≤200∧rm (GD (Bh (storeAt w d.2.1) (m.1-1)).1 m.2.1)∧Af Ap (GD (Bh (storeAt w d.2.1) (m.1-1)).1 m.2.1)≤10000:=by
  unfold GD;rw[DN.2 hq,ALy rfl];refine⟨ASs (AS6 _ _) hq.nk,fun e he=>hq.sin.1 e (ATL.1 he).1,ASs jw ?_⟩;have:Al (Bh (storeAt w d.2.1) (m.1-1)).1=Af Ap (Bh (storeAt w d.2.1) (m.1-1)).1.1+Af Ap (Bh (storeAt w d.2.1) (m.1-1)).1.2.1:=rfl;omega
 rw[show(m.1,m.2.1,m.2.2.1,m.2.2.2.1,m.2.2.2.2.1,m.2.2.2.2.2.1,())=m from rfl,show(w.1,w.2.1,())=AS w from rfl,jk (c:=AS w) (by show w.1.length≤_;omega) (by omega) ZL.ein (by omega) hes.2.1 (by omega)];simp only[AD,jL];rcases AKU (Bh (storeAt w d.2.1) (m.1-1)).2 with h6|h6
 rotate_left
 ·rw[h6,AS5,AXT,ALy rfl];rfl
 rw[h6,AMP,AS7];rcases AKU (Ln (AS w) m d.2.1 (GD (Bh (storeAt w d.2.1) (m.1-1)).1 m.2.1)).2 with h7|h7
 rotate_left
 ·rw[h7,IL];rfl
 rw[h7,Fl,AMp,AMp,qX];rfl
theorem mr:Vs w.2.1 w.2.2.2.2.2.1 w.2.2.2.2.2.2.2.2.2.2.1 w.1 w.2.2.1 w.2.2.2.1 w.2.2.2.2.1 w.2.2.2.2.2.2.1 w.2.2.2.2.2.2.2.1 w.2.2.2.2.2.2.2.2.1 w.2.2.2.2.2.2.2.2.2.1=some (pkD (MO w)):=by
 have k:=h.nums;have k1:=k.c;have k2:=k.wr;have k3:=k.lost;have k4:=k.st;have Zp:=k.aI;have hY:=k.Jd;have jh:=k.hU;have k5:=k.era;unfold Vs MO;rcases hm:w.BW with _|⟨m,ms⟩
 ·rw[DE,ALy (by simp_all)];rfl
 have qX:w.2.2.2.2.2.2.2.1=m::ms:=hm;have vT:w.2.2.2.2.2.2.2.1.length=ms.length+1:=by simp_all
 have g0:w.2.2.2.2.2.2.2.1.getD 0 (0,0,[],[],false,[],())=m:=by simp_all
 have yk:(0:Int)≤(0:Int)∧(0:Int)<(w.2.2.2.2.2.2.2.1.length:Int):=by omega
 have ZL:=(h.BW m (by simp_all)).1;have hmw:=ZL.w;have pV:=ZL.ep;have hmb:=ZL.b;simp only[DE,Az,Cp,ALy yk,g0];rw[AMD (by omega)];rw[show(w.2.2.2.2.1,w.2.2.2.2.2.1,())=B3 w from rfl,E_ (r:=B3 w) (by show Af B8 w.2.2.2.2.1≤_;omega)];have T7:(Ao w.Ab m.2.1).length≤8:=GV h;rw[show(B3 w).1=w.Ab from rfl];simp only[AD];rw[show(m.1,m.2.1,m.2.2.1,m.2.2.2.1,m.2.2.2.2.1,m.2.2.2.2.2.1,())=m from rfl,show(w.1,w.2.1,())=AS w from rfl,kL (c:=AS w) (by show w.1.length≤_;omega) (by omega) ZL.ein (by omega)];simp only[AD,jL];rcases AKU (IA (AS w) m (Ao w.Ab m.2.1)).2 with h7|h7
 rotate_left
 ·rw[h7,IL];rfl
 rw[h7,Fl,AMp,qX];rfl
theorem oY{d:BC}:X7 w.2.1 w.2.2.2.2.2.1 w.2.2.2.2.2.2.2.2.2.2.1 d w.1 w.2.2.1 w.2.2.2.1 w.2.2.2.2.1 w.2.2.2.2.2.2.1 w.2.2.2.2.2.2.2.1 w.2.2.2.2.2.2.2.2.1 w.2.2.2.2.2.2.2.2.2.1=some (pkD (SN w d.2.2.1 d.2.2.2.1)):=by
 have k:=h.nums;have k1:=k.c;have k2:=k.wr;have k3:=k.lost;have k4:=k.st;have Zp:=k.aI;have hY:=k.Jd;have jh:=k.hU;have k5:=k.era;unfold X7 SN;rcases hm:w.BW with _|⟨m,ms⟩
 ·rw[DE,ALy (by simp_all)];rfl
 have qX:w.2.2.2.2.2.2.2.1=m::ms:=hm;have vT:w.2.2.2.2.2.2.2.1.length=ms.length+1:=by simp_all
 have g0:w.2.2.2.2.2.2.2.1.getD 0 (0,0,[],[],false,[],())=m:=by simp_all
 have yk:(0:Int)≤(0:Int)∧(0:Int)<(w.2.2.2.2.2.2.2.1.length:Int):=by omega
 have ZL:=(h.BW m (by simp_all)).1;have hmw:=ZL.w;have pV:=ZL.ep;have hmb:=ZL.b;simp only[DE,Az,Cp,ALy yk,g0];rw[AMD (by omega)];rw[show(m.1,m.2.1,m.2.2.1,m.2.2.2.1,m.2.2.2.2.1,m.2.2.2.2.2.1,())=m from rfl,YS (m:=m) (by omega),show(w.1,w.2.1,w.2.2.1,w.2.2.2.1,w.2.2.2.2.1,w.2.2.2.2.2.1,w.2.2.2.2.2.2.1,w.2.2.2.2.2.2.2.1,w.2.2.2.2.2.2.2.2.1,w.2.2.2.2.2.2.2.2.2.1,w.2.2.2.2.2.2.2.2.2.2.1,())=w from rfl,H5 (by omega) (by omega),show(w.2.2.2.2.1,w.2.2.2.2.2.1,())=B3 w from rfl,E_ (r:=B3 w) (by show Af B8 w.2.2.2.2.1≤_;omega)];have T7:(Ao w.Ab m.2.1).length≤8:=GV h;rw[show(B3 w).1=w.Ab from rfl];simp only[AD];rw[KJ (by omega)];simp only[AD];have PY:∀e,Da m d.2.2.1=some e→C0 e.1:=fun e he=>by
  unfold Da at he;split at he
  ·rename_i hc
   simp only[AML,Ah]at hc;grind[Iu,JS]
  simp_all
 cases he:Da m d.2.2.1 with
 |none=>rfl
 |some e=>
 simp only[ATO,AMp,ATK];by_cases h3:Aj w d.2.2.2.1=0
 rotate_left
 ·rw[AMD h3,ALy h3];rfl
 obtain⟨hr,s1,s2,s3⟩:=h.LG h3;have Za:w.2.2.1.getD d.2.2.2.1.toNat ([],[],0,())=storeAt w d.2.2.2.1:=rfl;have hn3: ¬(Aj w d.2.2.2.1≠0):=fun hh=>hh h3
 rw[ALy h3,AMD hn3];simp only[ALy hr,Za];rcases AKU ((Ao w.Ab m.2.1).contains d.2.2.2.1)with h5|h5
 rotate_left
 ·rw[h5,IL];rfl
 rw[h5,Fl,AMp,show((storeAt w d.2.2.2.1).1,(storeAt w d.2.2.2.1).2.1,(storeAt w d.2.2.2.1).2.2.1,())=storeAt w d.2.2.2.1 from rfl,show(e.1,e.2.1,e.2.2.1,e.2.2.2.1,())=e from rfl,Zq s1 s2 (PY e he)];simp only[AD,lq,putAt];rcases AKU (Fv (storeAt w d.2.2.2.1) e).2 with h6|h6
 ·rw[h6];rfl
 ·rw[h6];rfl
theorem j7:T1 w.2.1 w.2.2.2.2.2.1 w.2.2.2.2.2.2.2.2.2.2.1 w.1 w.2.2.1 w.2.2.2.1 w.2.2.2.2.1 w.2.2.2.2.2.2.1 w.2.2.2.2.2.2.2.1 w.2.2.2.2.2.2.2.2.1 w.2.2.2.2.2.2.2.2.2.1=some (AG5 (IH w)):=by
 have k:=h.nums;have k1:=k.c;have k2:=k.wr;have k3:=k.lost;have k4:=k.st;have Zp:=k.aI;have hY:=k.Jd;have jh:=k.hU;have k5:=k.era;unfold T1 IH;rcases hm:w.BW with _|⟨m,ms⟩
 ·rw[DE,ALy (by simp_all)];rfl
 have qX:w.2.2.2.2.2.2.2.1=m::ms:=hm;have vT:w.2.2.2.2.2.2.2.1.length=ms.length+1:=by simp_all
 have g0:w.2.2.2.2.2.2.2.1.getD 0 (0,0,[],[],false,[],())=m:=by simp_all
 have yk:(0:Int)≤(0:Int)∧(0:Int)<(w.2.2.2.2.2.2.2.1.length:Int):=by omega
 have ZL:=(h.BW m (by simp_all)).1;have hmw:=ZL.w;have pV:=ZL.ep;have hmb:=ZL.b;simp only[DE,Az,Cp,ALy yk,g0];rw[AMD (by omega)];rw[show(m.1,m.2.1,m.2.2.1,m.2.2.2.1,m.2.2.2.2.1,m.2.2.2.2.2.1,())=m from rfl,show(w.1,w.2.1,())=AS w from rfl,iw (c:=AS w) (by show w.1.length≤_;omega) (by omega) ZL.ein];simp only[AD];rcases AKU (O0 (AS w) m)with h5|h5
 rotate_left
 ·rw[h5,IL];rfl
 rw[h5,Fl,AMp,show(w.2.2.2.2.1,w.2.2.2.2.2.1,())=B3 w from rfl,kN (c:=AS w) (r:=B3 w) (by show w.1.length≤_;omega) (by show Af B8 w.2.2.2.2.1≤_;omega) k.trim];simp only[AD,pkR];rcases AKU (Mi (AS w) (B3 w) m.1 m.2.2.2.2.2.1.length).2 with h6|h6
 ·rw[h6];rfl
 ·rw[h6];rfl
theorem mU{d:BC}:Vu w.2.1 w.2.2.2.2.2.1 w.2.2.2.2.2.2.2.2.2.2.1 d w.1 w.2.2.1 w.2.2.2.1 w.2.2.2.2.1 w.2.2.2.2.2.2.1 w.2.2.2.2.2.2.2.1 w.2.2.2.2.2.2.2.2.1 w.2.2.2.2.2.2.2.2.2.1=some (pkD (H8 w d.2.1 d.2.2.1)):=by
 have k:=h.nums;have k1:=k.c;have k2:=k.wr;have k3:=k.lost;have k4:=k.st;have Zp:=k.aI;have hY:=k.Jd;have jh:=k.hU;have k5:=k.era;have k6:=k.ws;have k6':Af Al w.Am≤80008:=k.ws;have k7:=k.ww;have k8:=k.rd;unfold Vu H8;rw[Bd];simp only[AD,Az,Cp];rcases AKU (BM d.2.1 0 1)with h1|h1
 rotate_left
 ·rw[h1];rfl
 have h1':=Ah.1 h1;have hr:0≤d.2.1∧d.2.1<(w.2.2.2.2.2.2.2.2.1.length:Int):=by omega
 have Kg:d.2.1.toNat<w.AR.length:=by
  simp_all
 have Xn:=h.AR _ (BG (d:=Au) Kg);simp only[ALy hr];rw[h1,Fl,AMp,show(w.1,w.2.1,w.2.2.1,w.2.2.2.1,w.2.2.2.2.1,w.2.2.2.2.2.1,w.2.2.2.2.2.2.1,w.2.2.2.2.2.2.2.1,w.2.2.2.2.2.2.2.2.1,w.2.2.2.2.2.2.2.2.2.1,w.2.2.2.2.2.2.2.2.2.2.1,())=w from rfl]
 generalize hx:w.AR.getD d.2.1.toNat Au=r at*
 have hre:=Xn.ep;have hro:=Xn.off;rw[n_ (by grind),show(r.1,r.2.1,r.2.2.1,())=r from rfl,gH (by omega) (by omega) (by omega) (by omega)];simp only[AD];have ha:∀a∈answers w (D1 r.1 r.2.1) (An d.2.2.1),C0 a.2.2.1:=fun a ha=>by
  unfold answers at ha;obtain⟨n,hn,rfl⟩:=ATS.1 ha;have hn':Aj w n=0:=by simp_all
  unfold answer;split
  ·rename_i e he
   have:=(h.store hn').kept e (ATZ he);exact JS (FM.1 this).pl
  ·exact⟨by simp_all,by simp_all⟩
 have hal:(answers w (D1 r.1 r.2.1) (An d.2.2.1)).length≤8:=by
  unfold answers;rw[AXK];refine ASs (AS6 _ _) ?_
  unfold An;split
  ·exact ASs (AS6 _ _) (by simp)
  ·simp
 rw[show(w.1,w.2.1,())=AS w from rfl,show(w.2.2.2.2.1,w.2.2.2.2.2.1,())=B3 w from rfl,gl (c:=AS w) (g:=B3 w) (by show w.1.length≤_;omega) (by show Af B8 w.2.2.2.2.1≤_;omega) k.trim (by omega) ha];simp only[AD,yH];by_cases h2:(Bz (AS w) (B3 w) (U3 w r.1) r (answers w (D1 r.1 r.2.1) (An d.2.2.1))).2=0
 ·rw[ALy h2,AMD (fun hh=>hh h2)];rfl
 ·rw[AMD h2,ALy h2];rfl
end
end Go.M
end
section
set_option maxRecDepth 8000
namespace Go.M
open Go.M.H (AJ AO As Ac AA CN AQ A7 AM AY A3 Ax BC Al CJ Af AX Aa Ap B8 BJ Ar A0 EO CO Cv C_)
section
variable{w:AA} (h:NN w)
include h
theorem ARY{ws:List AM}{s:Ac}:∀(n i:Nat) (t:Bool) (b:List Ac),i≤w.2.2.2.2.2.2.2.2.2.1.length→w.2.2.2.2.2.2.2.2.2.1.length-i<n→b.length≤2*i+2→
  Jr n t i w.1 w.2.2.1 w.2.2.2.1 w.2.2.2.2.1 ws w.2.2.2.2.2.2.2.1 w.2.2.2.2.2.2.2.2.1 w.2.2.2.2.2.2.2.2.2.1 w.2.1 w.2.2.2.2.2.1 w.2.2.2.2.2.2.2.2.2.2.1 0 0 false [] [] [] [] [] [] [] [] s.1 s.2.1 s.2.2.1 b=some (ADb (((w.A9 ws).Cy (b++(if t then w.2.2.2.2.2.2.2.2.2.1.drop i else Xr s (w.2.2.2.2.2.2.2.2.2.1.drop i)))),0)):=by
 have k6:=h.nums.se;intro n
 induction n with
 |zero=>omega
 |succ n ih=>
  intro i t b hi hn hb;simp only[Jr,Wz,AB,Az];have c2:b.length+1≤Dr:=by rw[BT];omega
  by_cases Dd:i<w.2.2.2.2.2.2.2.2.2.1.length
  ·have c1:(0:Int)≤(i:Int)∧(i:Int)<(w.2.2.2.2.2.2.2.2.2.1.length:Int):=by omega
   have c3:(b++[(s.1,s.2.1,s.2.2.1,())]).length+1≤Dr:=by grind[BT]
   rw[ALy c1.2];simp only[ALy c1,ALy c2,ALy c3];rw[Ai Dd,AK (by omega) (by omega),show((i:Int)+1)=((i+1:Nat):Int)by omega,drop_cons Dd,show(w.2.2.2.2.2.2.2.2.2.1[i].1,w.2.2.2.2.2.2.2.2.2.1[i].2.1,w.2.2.2.2.2.2.2.2.2.1[i].2.2.1,())=w.2.2.2.2.2.2.2.2.2.1[i]from rfl];cases t with
   |true=>
    rw[AMp,ih (i+1) true _ (by omega) (by omega) (by grind),ALy rfl,ALy rfl,AM8];rfl
   |false=>
    rw[AMU,AMD (show¬(false=true)by simp)];simp only[Xr];by_cases hg:w.2.2.2.2.2.2.2.2.2.1[i].1>s.1
    ·rw[ALy hg,ALy hg,ih (i+1) true _ (by omega) (by omega) (by grind),ALy rfl,AM8,AM8]
     rfl
    ·rw[AMD hg,AMD hg,ih (i+1) false _ (by omega) (by omega) (by grind),AMD (show¬(false=true)by simp),AM8]
     rfl
  ·rw[AMD (by omega),AMj (by omega)]
   cases t with
   |true=>rw[AMp,ALy rfl,AM5];rfl
   |false=>rw[AMU,ALy c2];rfl
theorem AUG{ws:List AM}{s:Ac}:∀(n i:Nat),i≤w.2.2.2.2.2.2.2.2.2.1.length→(w.2.2.2.2.2.2.2.2.2.1.length-i)+w.2.2.2.2.2.2.2.2.2.1.length+2≤n→
  Lo n i w.1 w.2.2.1 w.2.2.2.1 w.2.2.2.2.1 ws w.2.2.2.2.2.2.2.1 w.2.2.2.2.2.2.2.2.1 w.2.2.2.2.2.2.2.2.2.1 w.2.1 w.2.2.2.2.2.1 w.2.2.2.2.2.2.2.2.2.2.1 0 0 false [] [] [] [] [] [] [] [] s.1 s.2.1 s.2.2.1=some (ADb (if(w.2.2.2.2.2.2.2.2.2.1.drop i).any (fun x=>x.1==s.1)then(w.A9 ws,4)else(((w.A9 ws).Cy (Xr s w.2.2.2.2.2.2.2.2.2.1)),0))):=by
 have k6:=h.nums.se;intro n
 induction n with
 |zero=>omega
 |succ n ih=>
  intro i hi hn;simp only[Lo,YH,AB,DE];by_cases Dd:i<w.2.2.2.2.2.2.2.2.2.1.length
  ·have c1:(0:Int)≤(i:Int)∧(i:Int)<(w.2.2.2.2.2.2.2.2.2.1.length:Int):=by omega
   rw[ALy c1.2,ALy c1,Ai Dd,AK (by omega) (by omega),show((i:Int)+1)=((i+1:Nat):Int)by omega,drop_cons Dd,ih (i+1) (by omega) (by omega),List.any_cons];by_cases he:w.2.2.2.2.2.2.2.2.2.1[i].1=s.1
   ·rw[ALy he,show(w.2.2.2.2.2.2.2.2.2.1[i].1==s.1)=true by simp_all,AXT,ALy rfl]
    rfl
   ·rw[AMD he,show(w.2.2.2.2.2.2.2.2.2.1[i].1==s.1)=false by simp_all,AS7]
  ·have:=ARY h (ws:=ws) (s:=s) n 0 false [] (by omega) (by omega) (by simp)
   grind
theorem pf{d:BC}(hd:d.2.2.2.2.1.length≤40):∃w',X8 w.2.1 w.2.2.2.2.2.1 w.2.2.2.2.2.2.2.2.2.2.1 d w.1 w.2.2.1 w.2.2.2.1 w.2.2.2.2.1 w.2.2.2.2.2.2.1 w.2.2.2.2.2.2.2.1 w.2.2.2.2.2.2.2.2.1 w.2.2.2.2.2.2.2.2.2.1=some (ADb (w',(doAdd w d.2.1 d.2.2.2.2.1).2))∧((doAdd w d.2.1 d.2.2.2.2.1).2=0→w' =(doAdd w d.2.1 d.2.2.2.2.1).1):=by
 have k:=h.nums;have k1:=k.c;have k2:=k.wr;have k3:=k.lost;have k4:=k.st;have Zp:=k.aI;have hY:=k.Jd;have jh:=k.hU;have k5:=k.era;unfold X8 Yk doAdd;rw[show(w.1,w.2.1,w.2.2.1,w.2.2.2.1,w.2.2.2.2.1,w.2.2.2.2.2.1,w.2.2.2.2.2.2.1,w.2.2.2.2.2.2.2.1,w.2.2.2.2.2.2.2.2.1,w.2.2.2.2.2.2.2.2.2.1,w.2.2.2.2.2.2.2.2.2.2.1,())=w from rfl,Ro (by omega)];simp only[AD,Az,DE];rcases AKU (BM d.2.1 0 ((w.AH.length:Int)-1))with h1|h1
 rotate_left
 ·rw[h1];exact⟨w,rfl,fun _=>rfl⟩
 obtain⟨x1,x2,x3⟩:=h.cw h1;simp only[h1,AMp,Fl,ALy x1]
 generalize hx:w.AH.getD d.2.1.toNat Bu=x at*
 rw[show(x.1,x.2.1,())=x from rfl,show(w.1,w.2.1,())=AS w from rfl,iR (c:=AS w) (w:=x) (by show w.1.length≤_;omega) (by omega) (by omega)];simp only[AD];rcases AKU (CE (AS w) x d.2.2.2.2.1).2.2 with h2|h2
 rotate_left
 ·rw[h2];exact⟨w,rfl,fun _=>rfl⟩
 obtain⟨_,r1,r2,r3⟩:=Vq h2;rw[r2]at r1;have zU:=r1.n;simp only[APB,ANZ,AQZ]at zU;have hxe:=x2.ep;rw[h2,AMp,r3,r2];rw[MR (by omega) (by omega)];simp only[AD,AMP,AS7];by_cases h3:w.2.2.2.2.2.2.2.2.2.1.length=120
 ·rw[ALy (by omega),show decide (w.BX.length=120)=true from ASn h3,AXT,ALy rfl];exact⟨w,rfl,fun hh=>by rfl⟩
 have:=AUG h (ws:=w.AH.set d.2.1.toNat (x.1,x.2.1++[(d.2.2.2.2.1,[],false,())],())) (s:=(D1 x.1 ((x.2.1.length:Int)+1),d.2.2.2.2.1,false,())) Ae 0 (by omega) (AVi (Ag (by have:=h.nums.se;omega)));grind
end
end Go.M
end
section
set_option maxRecDepth 8000
namespace Go.M
open Go.M.H (AJ AO As Ac AA CN AQ A7 AM AY A3 Ax BC Al CJ Af AX Aa Ap B8 BJ Ar A0 EO CO Cv C_)
section
variable{w:AA} (h:NN w)
include h
theorem ASb{d:BC}{a:Nat}(ha:d.2.1=(a:Int)):∀(n i:Nat) (b:List AM),i≤w.2.2.2.2.2.2.1.length→w.2.2.2.2.2.2.1.length-i<n→b.length≤i→
  MV n i w.1 w.2.2.1 w.2.2.2.1 w.2.2.2.2.1 w.2.2.2.2.2.2.1 w.2.2.2.2.2.2.2.1 w.2.2.2.2.2.2.2.2.1 w.2.2.2.2.2.2.2.2.2.1 w.2.1 w.2.2.2.2.2.1 w.2.2.2.2.2.2.2.2.2.2.1 d.1 d.2.1 d.2.2.1 d.2.2.2.1 d.2.2.2.2.1 0 0 false [] [] [] [] [] [] [] [] b=some (AEA (w.A9 (b++(if i≤a then(w.2.2.2.2.2.2.1.drop i).eraseIdx (a-i)else w.2.2.2.2.2.2.1.drop i)),0)):=by
 have k6:=h.nums.wr;intro n
 induction n with
 |zero=>omega
 |succ n ih=>
  intro i b hi hn hb;simp only[MV,XN,AB,Cp];by_cases Dd:i<w.2.2.2.2.2.2.1.length
  ·have c1:(0:Int)≤(i:Int)∧(i:Int)<(w.2.2.2.2.2.2.1.length:Int):=by omega
   have c2:b.length+1≤Dr:=by rw[BT];omega
   rw[ALy c1.2];simp only[ALy c1,ALy c2];rw[Ai Dd,AK (by omega) (by omega),show((i:Int)+1)=((i+1:Nat):Int)by omega,drop_cons Dd,show(w.2.2.2.2.2.2.1[i].1,w.2.2.2.2.2.2.1[i].2.1,())=w.2.2.2.2.2.2.1[i]from rfl];by_cases he:(i:Int)=d.2.1
   ·rw[ALy he,ih (i+1) b (by omega) (by omega) (by omega),AMD (by omega),ALy (by omega),show a-i=0 by omega]
    rfl
   ·rw[AMD he,ih (i+1) _ (by omega) (by omega) (by simp_all),AM8]
    by_cases hl:i+1≤a
    ·rw[ALy hl,ALy (by omega),show a-i=(a-(i+1))+1 by omega,List.eraseIdx_cons_succ]
     rfl
    ·rw[AMD hl,AMD (by omega)]
     rfl
  ·rw[AMD (by omega),AMj (by omega)]
   have:(if i≤a then([]:List AM).eraseIdx (a-i)else[])=[]:=by simp_all
   rw[this,AM5];rfl
theorem nC{d:BC}:WH w.2.1 w.2.2.2.2.2.1 w.2.2.2.2.2.2.2.2.2.2.1 d w.1 w.2.2.1 w.2.2.2.1 w.2.2.2.2.1 w.2.2.2.2.2.2.1 w.2.2.2.2.2.2.2.1 w.2.2.2.2.2.2.2.2.1 w.2.2.2.2.2.2.2.2.2.1=some (AEA (M7 w d.2.1)):=by
 have k:=h.nums;have k1:=k.c;have k2:=k.wr;have k3:=k.lost;have k4:=k.st;have Zp:=k.aI;have hY:=k.Jd;have jh:=k.hU;have k5:=k.era;unfold WH Wh M7;rw[show(w.1,w.2.1,w.2.2.1,w.2.2.2.1,w.2.2.2.2.1,w.2.2.2.2.2.1,w.2.2.2.2.2.2.1,w.2.2.2.2.2.2.2.1,w.2.2.2.2.2.2.2.2.1,w.2.2.2.2.2.2.2.2.2.1,w.2.2.2.2.2.2.2.2.2.2.1,())=w from rfl,Ro (by omega)];simp only[AD,Az];rcases AKU (BM d.2.1 0 ((w.AH.length:Int)-1))with h1|h1
 rotate_left
 ·rw[h1];rfl
 have h1':=Ah.1 h1;have:=ASb h (d:=d) (a:=d.2.1.toNat) (by omega) Ae 0 [] (by omega) (Ag (by omega)) (by simp);simp_all
theorem AI8{d:BC}{ss:List AO}{ls:AAO}{ws:List AM}(hls:ls.length≤2^20):∀(n i:Nat),i≤w.2.2.2.2.2.2.2.1.length→w.2.2.2.2.2.2.2.1.length-i<n→
  Ir n i w.1 ss w.2.2.2.1 w.2.2.2.2.1 ws ((w.2.2.2.2.2.2.2.1.map fun m=>(B7 (AS w) m d.2.1).1).take i++w.2.2.2.2.2.2.2.1.drop i) w.2.2.2.2.2.2.2.2.1 w.2.2.2.2.2.2.2.2.2.1 w.2.1 w.2.2.2.2.2.1 w.2.2.2.2.2.2.2.2.2.2.1 ls d.1 d.2.1 d.2.2.1 d.2.2.2.1 d.2.2.2.2.1 0 0 false [] [] [] [] [] [] [] []=some (uR (((((w.BA ss).EV ls).A9 ws).Bi (w.2.2.2.2.2.2.2.1.map fun m=>(B7 (AS w) m d.2.1).1)).FA (w.EC||holds (AS w) ls),0)):=by
 have k:=h.nums;have k1:=k.c;have k6:=k.md;intro n
 induction n with
 |zero=>omega
 |succ n ih=>
  intro i hi hn;simp only[Ir,Vi,AB,Az];rw[Oy hi];by_cases Dd:i<w.2.2.2.2.2.2.2.1.length
  ·have c1:(0:Int)≤(i:Int)∧(i:Int)<(w.2.2.2.2.2.2.2.1.length:Int):=by omega
   have hm:=(h.BW _ (AMh Dd)).1;have hmw:=hm.w;rw[ALy c1.2];simp only[ALy c1];rw[AMV,MZ Dd,AK (by omega) (by omega),show((i:Int)+1)=((i+1:Nat):Int)by omega,show(w.2.2.2.2.2.2.2.1[i].1,w.2.2.2.2.2.2.2.1[i].2.1,w.2.2.2.2.2.2.2.1[i].2.2.1,w.2.2.2.2.2.2.2.1[i].2.2.2.1,w.2.2.2.2.2.2.2.1[i].2.2.2.2.1,w.2.2.2.2.2.2.2.1[i].2.2.2.2.2.1,())=w.2.2.2.2.2.2.2.1[i]from rfl,show(w.1,w.2.1,())=AS w from rfl,fb (c:=AS w) (by show w.1.length≤_;omega) (by omega) hm.ein];simp only[AD,jL];rw[show((B7 (AS w) w.2.2.2.2.2.2.2.1[i] d.2.1).1.1,(B7 (AS w) w.2.2.2.2.2.2.2.1[i] d.2.1).1.2.1,(B7 (AS w) w.2.2.2.2.2.2.2.1[i] d.2.1).1.2.2.1,(B7 (AS w) w.2.2.2.2.2.2.2.1[i] d.2.1).1.2.2.2.1,(B7 (AS w) w.2.2.2.2.2.2.2.1[i] d.2.1).1.2.2.2.2.1,(B7 (AS w) w.2.2.2.2.2.2.2.1[i] d.2.1).1.2.2.2.2.2.1,())=(B7 (AS w) w.2.2.2.2.2.2.2.1[i] d.2.1).1 from rfl,Px Dd rfl];grind
  ·have:i=w.2.2.2.2.2.2.2.1.length:=by omega
   rw[AMD (by omega),this,AUB,AM5,ATH (by simp),show(w.1,w.2.1,())=AS w from rfl,Ey (by show w.1.length≤_;omega) (by omega)];simp only[AD];cases ht:w.2.2.2.2.2.2.2.2.2.2.1 with
   |true=>
    have ht':w.EC=true:=ht;rw[ht'];rfl
   |false=>
    have ht':w.EC=false:=ht;rw[ht'];rfl
theorem AQU{d:BC}{ss:List AO}{ls:AAO}(hls:ls.length≤2^20):∀(n i:Nat),i≤w.2.2.2.2.2.2.1.length→(w.2.2.2.2.2.2.1.length-i)+w.2.2.2.2.2.2.2.1.length+2≤n→
  J3 n i w.1 ss w.2.2.2.1 w.2.2.2.2.1 ((w.2.2.2.2.2.2.1.map fun x=>(CA (AS w) x d.2.1).1).take i++w.2.2.2.2.2.2.1.drop i) w.2.2.2.2.2.2.2.1 w.2.2.2.2.2.2.2.2.1 w.2.2.2.2.2.2.2.2.2.1 w.2.1 w.2.2.2.2.2.1 w.2.2.2.2.2.2.2.2.2.2.1 ls d.1 d.2.1 d.2.2.1 d.2.2.2.1 d.2.2.2.2.1 0 0 false [] [] [] [] [] [] [] []=some (uR (((((w.BA ss).EV ls).A9 (w.2.2.2.2.2.2.1.map fun x=>(CA (AS w) x d.2.1).1)).Bi (w.2.2.2.2.2.2.2.1.map fun m=>(B7 (AS w) m d.2.1).1)).FA (w.EC||holds (AS w) ls),0)):=by
 have k:=h.nums;have k1:=k.c;have k6:=k.wr;intro n
 induction n with
 |zero=>omega
 |succ n ih=>
  intro i hi hn;simp only[J3,WX,AB,Az];rw[Oy hi];by_cases Dd:i<w.2.2.2.2.2.2.1.length
  ·have c1:(0:Int)≤(i:Int)∧(i:Int)<(w.2.2.2.2.2.2.1.length:Int):=by omega
   have hm:=(h.AH _ (AMh Dd)).1;have hmw:=hm.w;rw[ALy c1.2];simp only[ALy c1];rw[AMV,MZ Dd,AK (by omega) (by omega),show((i:Int)+1)=((i+1:Nat):Int)by omega,show(w.2.2.2.2.2.2.1[i].1,w.2.2.2.2.2.2.1[i].2.1,())=w.2.2.2.2.2.2.1[i]from rfl,show(w.1,w.2.1,())=AS w from rfl,dC (c:=AS w) (by show w.1.length≤_;omega) (by have:Ar w.2.2.2.2.2.2.1[i]=Af BJ w.2.2.2.2.2.2.1[i].2.1:=rfl;omega)];simp only[AD,pkW];rw[show((CA (AS w) w.2.2.2.2.2.2.1[i] d.2.1).1.1,(CA (AS w) w.2.2.2.2.2.2.1[i] d.2.1).1.2.1,())=(CA (AS w) w.2.2.2.2.2.2.1[i] d.2.1).1 from rfl,Px Dd rfl];grind
  ·have:i=w.2.2.2.2.2.2.1.length:=by omega
   have k11:=AI8 h (d:=d) (ss:=ss) (ws:=w.2.2.2.2.2.2.1.map fun x=>(CA (AS w) x d.2.1).1) hls n 0 (by omega) (by omega);rw[show((0:Nat):Int)=0 from rfl,ATC,AXh,ATA]at k11;rw[AMD (by omega),this,AUB,AM5,ATH (by simp),k11]
theorem nH{d:BC}:V4 w.2.1 w.2.2.2.2.2.1 w.2.2.2.2.2.2.2.2.2.2.1 d w.1 w.2.2.1 w.2.2.2.1 w.2.2.2.2.1 w.2.2.2.2.2.2.1 w.2.2.2.2.2.2.2.1 w.2.2.2.2.2.2.2.2.1 w.2.2.2.2.2.2.2.2.2.1=some (uR (ML w d.2.1)):=by
 have k:=h.nums;have k1:=k.c;have k2:=k.wr;have k3:=k.lost;have k4:=k.st;have Zp:=k.aI;have hY:=k.Jd;have jh:=k.hU;have k5:=k.era;have k6:=k.md;unfold V4 Wc ML;rw[show(w.1,w.2.1,w.2.2.1,w.2.2.2.1,w.2.2.2.2.1,w.2.2.2.2.2.1,w.2.2.2.2.2.2.1,w.2.2.2.2.2.2.2.1,w.2.2.2.2.2.2.2.2.1,w.2.2.2.2.2.2.2.2.2.1,w.2.2.2.2.2.2.2.2.2.2.1,())=w from rfl,H5 (by omega) (by omega)];simp only[AD,Cp];by_cases h3:Aj w d.2.1=0
 rotate_left
 ·rw[AMD h3,ALy h3];rfl
 obtain⟨hr,s1,s2,s3⟩:=h.LG h3;rw[ALy h3,AMD (show¬(Aj w d.2.1≠0)from fun hh=>hh h3),ALy hr,My (by omega)];simp only[AD];have hp:=Uj (n:=d.2.1) (l:=w.2.2.2.1);have:=AQU h (d:=d) (ss:=w.2.2.1.set d.2.1.toNat ([],[],0,())) (ls:=JG d.2.1 w.2.2.2.1) (by omega) Ae 0 (by omega) (AVi (Ag (by omega)));simp_all
end
end Go.M
end
section
set_option maxRecDepth 8000
namespace Go.M
open Go.M.H (AJ AO As Ac AA CN AQ A7 AM AY A3 Ax BC Al CJ Af AX Aa Ap B8 BJ Ar A0 EO CO Cv C_)
theorem eqE{x e:AJ}:(x.1==e.1&&(x.2.1==e.2.1&&(x.2.2.1==e.2.2.1&&(x.2.2.2.1==e.2.2.2.1&&true))))=decide (x=e):=by
 grind
theorem bn{m:As}{o:Int}{l:List AAO}(hl:l.length=m.2.2.2.2.2.1.length):Da (m.1,m.2.1,m.2.2.1,m.2.2.2.1,m.2.2.2.2.1,l,()) o=Da m o:=by
 grind[Da]
section
variable{w:AA} (h:NN w) {st:AO} (hs:fV st) {n:Int} (hn:0≤n∧n<(AS w).1.length) {SS:List AO}
include h hs hn
theorem AG4{ws:List AM}{se:List Ac}{ms:List As}{j B:Nat}{m:As}{R:Option Bw}(hj:j<ms.length)(qu:ms.length≤2^20)(hlen:(ms.getD j Qz).2.2.2.2.2.1.length=m.2.2.2.2.2.1.length)(hm:qn (AS w) m)
  (hc:(Ao w.Ab m.2.1).contains n=true)
  (cont:∀f,B≤f→Bg f n ((j+1:Nat):Int) w.1 SS w.2.2.2.1 w.2.2.2.2.1 ws (ms.set j (m.1,m.2.1,m.2.2.1,m.2.2.2.1,m.2.2.2.2.1,Dz m st n 1 m.2.2.2.2.2.1,())) w.2.2.2.2.2.2.2.2.1 se w.2.1 w.2.2.2.2.2.1 w.2.2.2.2.2.2.2.2.2.2.1 0 0 false [] [] [] [] [] [] [] [] st.1 st.2.1 st.2.2.1=R):
  ∀(rest dn:List AAO) (f:Nat),dn.length+rest.length=m.2.2.2.2.2.1.length→(∀l∈dn++rest,Ay (AS w) l=true)→rest.length+B+1≤f→
   dn++Dz m st n ((dn.length:Int)+1) rest=Dz m st n 1 m.2.2.2.2.2.1→
   Bb f n (j:Int) ((dn.length:Int)+1) w.1 SS w.2.2.2.1 w.2.2.2.2.1 ws ms w.2.2.2.2.2.2.2.2.1 se w.2.1 w.2.2.2.2.2.1 w.2.2.2.2.2.2.2.2.2.2.1 0 0 false [] [] [] [] [] [] [] [] st.1 st.2.1 st.2.2.1 m.1 m.2.1 m.2.2.1 m.2.2.2.1 m.2.2.2.2.1 (dn++rest)=R:=by
 have k:=h.nums;have k1:=k.c;have k5:=k.era;have c1:(0:Int)≤(j:Int)∧(j:Int)<(ms.length:Int):=by omega
 have T7:(Ao w.Ab m.2.1).length≤8:=GV h;have vT:m.2.2.2.2.2.1.length≤60:=by
  have:=hm.n;have hb:=GR (l:=m.2.2.2.1);omega
 intro rest
 induction rest with
 |nil=>
  intro dn f hl ho hf he;obtain⟨f,rfl⟩:∃f',f=f'+1:=⟨f-1,by omega⟩;simp only[AQZ,AUN,ATU,Dz,AM5]at hl hf he;simp only[Bb,ID,AB,AM5];simp only[ALy c1];rw[show ms.getD ((j:Int)).toNat (0,0,[],[],false,[],())=ms.getD j Qz from rfl,hlen,AMD (by omega),AK (by omega) (by omega),show((j:Int)+1)=((j+1:Nat):Int)by omega,he,AMV];simp_all
 |cons x rest ih=>
  intro dn f hl ho hf he;obtain⟨f,rfl⟩:∃f',f=f'+1:=⟨f-1,by omega⟩;simp only[ANZ]at hl hf;simp only[Bb,ID,AB];simp only[ALy c1];have ZL:qn (AS w) (m.1,m.2.1,m.2.2.1,m.2.2.2.1,m.2.2.2.2.1,dn++x::rest,()):=⟨hm.cfg,hm.ep,hm.b,hm.ew,hm.fo,hm.seen,ho,by
   have:=hm.n;simp_all⟩
  have hmw:=ZL.w;rw[show ms.getD ((j:Int)).toNat (0,0,[],[],false,[],())=ms.getD j Qz from rfl,hlen,ALy (by omega),show(w.2.2.2.2.1,w.2.2.2.2.2.1,())=B3 w from rfl,E_ (r:=B3 w) (by show Af B8 w.2.2.2.2.1≤_;omega)];rw[show(B3 w).1=w.Ab from rfl];simp only[AD];rw[KJ (by omega),hc];simp only[AD,AMp];have hdl:(dn++x::rest).length=m.2.2.2.2.2.1.length:=by simp_all
  rw[YS (m:=(m.1,m.2.1,m.2.2.1,m.2.2.2.1,m.2.2.2.2.1,dn++x::rest,())) (by omega),bn hdl];simp only[AD];have AX1:m.2.2.2.2.1=true:=by
   have:=hm.n;grind
  have AW3:∃e,Da m ((dn.length:Int)+1)=some e:=by
   unfold Da;rw[AX1,ALy (by
    simp only[AMk,AML,Ah,AMc];have:=hm.ep;omega)]
   split<;>exact⟨_,rfl⟩
  obtain⟨e,hee⟩:=AW3;have fN:=hs.w;rw[hee];simp only[ATK];rw[Tz (Fm (by omega)).1];simp only[AD,eqE,AB];rw[AK (by omega) (by omega)];simp only[Dz]at he;have SX:NU m st ((dn.length:Int)+1)=(Ek e.1 st.1==some e):=by
   unfold NU;rw[hee]
  cases hg:Ek e.1 st.1 with
  |none=>
   simp only[ATN,AMU];rw[SX,hg]at he;have:=ih (dn++[x]) f (by grind) (by simp_all) (by omega) (by
    simp_all)
   simp_all
  |some y=>
   simp only[ATO,AMp,ATK];by_cases hye:y=e
   ·rw[ALy hye]
    rw[SX,hg,hye]at he;rw[show(w.1,w.2.1,())=AS w from rfl,nB (c:=AS w) (m:=(m.1,m.2.1,m.2.2.1,m.2.2.2.1,m.2.2.2.2.1,dn++x::rest,())) (by show w.1.length≤_;omega) (by omega) ZL.ein];have AEC:Yd (AS w) (m.1,m.2.1,m.2.2.1,m.2.2.2.1,m.2.2.2.2.1,dn++x::rest,()) ((dn.length:Int)+1) n=((m.1,m.2.1,m.2.2.1,m.2.2.2.1,m.2.2.2.2.1,dn++JG n x::rest,()),true):=by
     unfold Yd;rw[HI.2 ZL];have hq:(BM ((dn.length:Int)+1) 1 ((dn++x::rest).length:Int)&&BM n 0 (((AS w).1.length:Int)-1))=true:=by
      rw[AML,Ah,Ah];omega
     grind
    rw[AEC];simp only[AD,jL];have hx:=ho x (by simp);have:=ih (dn++[JG n x]) f (by grind) (by
     intro l iS;simp only[AM8,ATy,AOs,ANv]at iS;rcases iS with iS|rfl|iS
     all_goals grind[II]) (by omega) (by
     simp_all)
    simp_all
   ·rw[AMD hye]
    have hf2:(some y==some e)=false:=by
     simp_all
    rw[SX,hg,hf2]at he;have:=ih (dn++[x]) f (by grind) (by simp_all) (by omega) (by
     simp_all)
    simp_all
theorem AGY{ws:List AM}{se:List Ac}:∀(k i:Nat),w.2.2.2.2.2.2.2.1.length-i=k→i≤w.2.2.2.2.2.2.2.1.length→ ∀f,k*100+1≤f→
  Bg f n (i:Int) w.1 SS w.2.2.2.1 w.2.2.2.2.1 ws ((w.2.2.2.2.2.2.2.1.map (G4 st w.Ab n)).take i++w.2.2.2.2.2.2.2.1.drop i) w.2.2.2.2.2.2.2.2.1 se w.2.1 w.2.2.2.2.2.1 w.2.2.2.2.2.2.2.2.2.2.1 0 0 false [] [] [] [] [] [] [] [] st.1 st.2.1 st.2.2.1=(some ((((),w.2.1,(),(),(),w.2.2.2.2.2.1,(),(),(),(),w.2.2.2.2.2.2.2.2.2.2.1,()),()),(w.1,SS,w.2.2.2.1,w.2.2.2.2.1,ws,(w.2.2.2.2.2.2.2.1.map (G4 st w.Ab n)),w.2.2.2.2.2.2.2.2.1,se,())):Option Bw):=by
 have k:=h.nums;have k5:=k.era;have k6:=k.md;intro k
 induction k with
 |zero=>
  intro i hk hi f hf;obtain⟨f,rfl⟩:∃f',f=f'+1:=⟨f-1,by omega⟩;have:i=w.2.2.2.2.2.2.2.1.length:=by omega
  simp only[Bg,Kq,AB];grind
 |succ k ih=>
  intro i hk hi f hf;obtain⟨f,rfl⟩:∃f',f=f'+1:=⟨f-1,by omega⟩;have Dd:i<w.2.2.2.2.2.2.2.1.length:=by omega
  have c1:(0:Int)≤(i:Int)∧(i:Int)<(w.2.2.2.2.2.2.2.1.length:Int):=by omega
  simp only[Bg,Kq,AB];rw[Oy hi,ALy c1.2,ALy c1,AMV,MZ Dd];have hm:=(h.BW _ (AMh Dd)).1;have vT:w.2.2.2.2.2.2.2.1[i].2.2.2.2.2.1.length≤60:=by
   have:=hm.n;have hb:=GR (l:=w.2.2.2.2.2.2.2.1[i].2.2.2.1);omega
  rcases AKU ((Ao w.Ab w.2.2.2.2.2.2.2.1[i].2.1).contains n)with hc|hc
  ·have hT:G4 st w.Ab n w.2.2.2.2.2.2.2.1[i]=(w.2.2.2.2.2.2.2.1[i].1,w.2.2.2.2.2.2.2.1[i].2.1,w.2.2.2.2.2.2.2.1[i].2.2.1,w.2.2.2.2.2.2.2.1[i].2.2.2.1,w.2.2.2.2.2.2.2.1[i].2.2.2.2.1,Dz w.2.2.2.2.2.2.2.1[i] st n 1 w.2.2.2.2.2.2.2.1[i].2.2.2.2.2.1,()):=by
    unfold G4;simp_all
   have:=AG4 h hs hn (SS:=SS) (ws:=ws) (se:=se) (ms:=(w.2.2.2.2.2.2.2.1.map (G4 st w.Ab n)).take i++w.2.2.2.2.2.2.2.1.drop i) (j:=i) (B:=k*100+1) (m:=w.2.2.2.2.2.2.2.1[i]) (R:=(some ((((),w.2.1,(),(),(),w.2.2.2.2.2.1,(),(),(),(),w.2.2.2.2.2.2.2.2.2.2.1,()),()),(w.1,SS,w.2.2.2.1,w.2.2.2.2.1,ws,(w.2.2.2.2.2.2.2.1.map (G4 st w.Ab n)),w.2.2.2.2.2.2.2.2.1,se,())):Option Bw)) (by simp_all) (by grind) (by simp_all) hm hc (fun f hf=>by
    grind[Px]) w.2.2.2.2.2.2.2.1[i].2.2.2.2.2.1 [] f (by simp) (by simpa using hm.wrote) (by omega) (by simp)
   simp_all
  ·have hT:G4 st w.Ab n w.2.2.2.2.2.2.2.1[i]=w.2.2.2.2.2.2.2.1[i]:=by
    unfold G4;simp_all
   obtain⟨f,rfl⟩:∃f',f=f'+1:=⟨f-1,by omega⟩;simp only[Bb,ID,AB];have T7:(Ao w.Ab w.2.2.2.2.2.2.2.1[i].2.1).length≤8:=GV h;rw[Oy hi];simp only[ALy c1];rw[AMV,MZ Dd,show(w.2.2.2.2.1,w.2.2.2.2.2.1,())=B3 w from rfl,E_ (r:=B3 w) (by show Af B8 w.2.2.2.2.1≤_;omega)];rw[show(B3 w).1=w.Ab from rfl];simp only[AD];rw[KJ (by omega),hc,Px Dd (show(w.2.2.2.2.2.2.2.1[i].1,w.2.2.2.2.2.2.2.1[i].2.1,w.2.2.2.2.2.2.2.1[i].2.2.1,w.2.2.2.2.2.2.2.1[i].2.2.2.1,w.2.2.2.2.2.2.2.1[i].2.2.2.2.1,w.2.2.2.2.2.2.2.1[i].2.2.2.2.2.1,())=G4 st w.Ab n w.2.2.2.2.2.2.2.1[i]from hT.symm),AK (x:=(i:Int)+1) (by omega) (by omega),show((i:Int)+1)=((i+1:Nat):Int)by omega,ih (i+1) (by omega) (by omega) f (by omega)];simp_all
end
end Go.M
end
section
set_option maxRecDepth 8000
namespace Go.M
open Go.M.H (AJ AO As Ac AA CN AQ A7 AM AY A3 Ax BC Al CJ Af AX Aa Ap B8 BJ Ar A0 EO CO Cv C_)
theorem j_{x y:A7}(hx:x.2.2.1=false):∀{dn rest:List A7},Qf (dn++y::rest)≤Qf (dn++x::rest)
 |[],rest=>by
  grind[Qf]
 |a::dn,rest=>by
  have:=j_ (y:=y) hx (dn:=dn) (rest:=rest);grind[Qf]
section
variable{w:AA} (h:NN w) {st:AO} (hs:fV st) {n:Int} (hn:0≤n∧n<(AS w).1.length) {SS:List AO}
include h hs hn
theorem ALg{ws:List AM}{se:List Ac}{j B:Nat}{ep x y:Int}{z:Bool}{old new:List A7}{R:Option Bw}(hj:j<2^20)(Za:se.length≤120)(hsp:∀s∈se,BN s.1=true)(vd:new.length≤60)(hep:1≤ep∧ep≤30)
  (cont:∀f,B≤f→Be f n ((j+1:Nat):Int) w.1 SS w.2.2.2.1 w.2.2.2.2.1 ws w.2.2.2.2.2.2.2.1 w.2.2.2.2.2.2.2.2.1 (se.map (Nr true ep old new)) w.2.1 w.2.2.2.2.2.1 w.2.2.2.2.2.2.2.2.2.2.1 0 0 false [] [] [] [] [] [] [] [] st.1 st.2.1 st.2.2.1=R):
  ∀(k i:Nat),se.length-i=k→i≤se.length→ ∀f,k+B+1≤f→
   BF f n (j:Int) (i:Int) x y z w.1 SS w.2.2.2.1 w.2.2.2.2.1 ws w.2.2.2.2.2.2.2.1 w.2.2.2.2.2.2.2.2.1 ((se.map (Nr true ep old new)).take i++se.drop i) w.2.1 w.2.2.2.2.2.1 w.2.2.2.2.2.2.2.2.2.2.1 0 0 false [] [] [] [] [] [] [] [] st.1 st.2.1 st.2.2.1 ep new=R:=by
 intro k
 induction k with
 |zero=>
  intro i hk hi f hf;obtain⟨f,rfl⟩:∃f',f=f'+1:=⟨f-1,by omega⟩;have:i=se.length:=by omega
  simp only[BF,Ks,AB];rw[Oy hi,AMD (by omega),this,AUB,AM5,ATH (by simp),AK (by omega) (by omega),show((j:Int)+1)=((j+1:Nat):Int)by omega];simp_all
 |succ k ih=>
  intro i hk hi f hf;obtain⟨f,rfl⟩:∃f',f=f'+1:=⟨f-1,by omega⟩;have Dd:i<se.length:=by omega
  have c1:(0:Int)≤(i:Int)∧(i:Int)<(se.length:Int):=by omega
  have hp:=hsp _ (AMh Dd);have hpf:=CF hp;have ih':=ih (i+1) (by omega) (by omega) f (by omega);simp only[BF,Ks,AB,DE];rw[Oy hi,ALy c1.2];simp only[ALy c1];rw[AMV,MZ Dd,Ew (JS hp),ZZ (JS hp),AK (x:=(i:Int)+1) (by omega) (by omega),show((i:Int)+1)=((i+1:Nat):Int)by omega];simp only[AD];have skip:Nr true ep old new se[i]=se[i]→BF f n (j:Int) ((i+1:Nat):Int) x y z w.1 SS w.2.2.2.1 w.2.2.2.2.1 ws w.2.2.2.2.2.2.2.1 w.2.2.2.2.2.2.2.2.1 ((se.map (Nr true ep old new)).take i++se.drop i) w.2.1 w.2.2.2.2.2.1 w.2.2.2.2.2.2.2.2.2.2.1 0 0 false [] [] [] [] [] [] [] [] st.1 st.2.1 st.2.2.1 ep new=R:=fun hm=>by
   grind[iF]
  by_cases he:AN se[i].1=ep
  rotate_left
  ·rw[AMD he]
   grind[Nr,AN,beq_eq_false_iff_ne]
  rw[ALy he];by_cases ho:A6 se[i].1≤(new.length:Int)
  rotate_left
  ·rw[AMD ho]
   refine skip ?_
   unfold Nr QO;rw[show BM (A6 se[i].1) 1 (new.length:Int)=false by
    rw[ATX];grind[Ah]]
   simp
  rw[ALy ho,AK (x:=A6 se[i].1-1) (by omega) (by omega),ALy (by omega)];have hd:QO new (A6 se[i].1)=(new.getD (A6 se[i].1-1).toNat Kw).2.2.1:=by
   unfold QO;rw[Ah.2 ⟨hpf.2.1.1,ho⟩,AMk]
  have xP:(new.getD (A6 se[i].1-1).toNat ([],[],false,())).2.2.1=QO new (A6 se[i].1):=hd.symm;rw[xP];cases hdd:QO new (A6 se[i].1)with
  |false=>
   rw[AMU];grind[Nr]
  |true=>
   rw[AMp,Px Dd (show(se[i].1,se[i].2.1,true,())=Nr true ep old new se[i]by
    grind[Nr])]
   omega
theorem APf{ws:List AM}{se:List Ac}{j B:Nat}{ep x y:Int}{z:Bool}{l0:List A7}{R:Option Bw}(hj:j<ws.length)(qu:ws.length≤2^20)
  (cont:∀f,B≤f→BF f n (j:Int) 0 x y z w.1 SS w.2.2.2.1 w.2.2.2.2.1 (ws.set j (ep,BB (AS w) st ep n 1 l0,())) w.2.2.2.2.2.2.2.1 w.2.2.2.2.2.2.2.2.1 se w.2.1 w.2.2.2.2.2.1 w.2.2.2.2.2.2.2.2.2.2.1 0 0 false [] [] [] [] [] [] [] [] st.1 st.2.1 st.2.2.1 ep (BB (AS w) st ep n 1 l0)=R):
  ∀(rest dn:List A7) (f:Nat),ae (AS w) (ep,dn++rest,())→rest.length+B+1≤f→
   dn++BB (AS w) st ep n ((dn.length:Int)+1) rest=BB (AS w) st ep n 1 l0→
   BD f n (j:Int) ((dn.length:Int)+1) x y z w.1 SS w.2.2.2.1 w.2.2.2.2.1 ws w.2.2.2.2.2.2.2.1 w.2.2.2.2.2.2.2.2.1 se w.2.1 w.2.2.2.2.2.1 w.2.2.2.2.2.2.2.2.2.2.1 0 0 false [] [] [] [] [] [] [] [] st.1 st.2.1 st.2.2.1 ep (dn++rest)=R:=by
 have k1:=h.nums.c;have fN:=hs.w;intro rest
 induction rest with
 |nil=>
  intro dn f hw hf he;obtain⟨f,rfl⟩:∃f',f=f'+1:=⟨f-1,by omega⟩;simp only[AQZ,ATU,BB,AM5]at hf he;simp only[BD,L9,AB,AM5];grind
 |cons a rest ih=>
  intro dn f hw hf he;obtain⟨f,rfl⟩:∃f',f=f'+1:=⟨f-1,by omega⟩;simp only[ANZ]at hf;have hwe:1≤ep∧ep≤30:=hw.ep;have hwn:(dn++a::rest).length≤60:=hw.n;have hww:=hw.w;have hwl:=hwn;simp only[APB,ANZ]at hwl;simp only[BD,L9,AB,Az,Cp];rw[ALy (by grind),MR (by omega) (by omega)];simp only[AD];rw[Tz (Fm (by omega)).1];simp only[AD];rw[AK (x:=(dn.length:Int)+1+1) (by omega) (by omega),AK (x:=(dn.length:Int)+1-1) (by omega) (by omega),ALy (show(0:Int)≤(dn.length:Int)+1-1∧(dn.length:Int)+1-1<((dn++a::rest).length:Int)by grind)];have e1:((dn.length:Int)+1-1).toNat=dn.length:=by omega
  have e2:(dn++a::rest).getD dn.length ([],[],false,())=a:=by simp[List.getD]
  rw[e1,e2];simp only[BB]at he;have go:∀b:A7,ae (AS w) (ep,dn++b::rest,())→(if(!a.2.2.1&&JO st (D1 ep ((dn.length:Int)+1)))=true then EY (AS w) n a else a)=b→
    BD f n (j:Int) ((dn.length:Int)+1+1) x y z w.1 SS w.2.2.2.1 w.2.2.2.2.1 ws w.2.2.2.2.2.2.2.1 w.2.2.2.2.2.2.2.2.1 se w.2.1 w.2.2.2.2.2.1 w.2.2.2.2.2.2.2.2.2.2.1 0 0 false [] [] [] [] [] [] [] [] st.1 st.2.1 st.2.2.1 ep (dn++b::rest)=R:=fun b hb rV=>by
   rw[rV]at he;have:=ih (dn++[b]) f (by simp_all) (by omega) (by
    simp_all)
   simp_all
  cases hg:Ek (D1 ep ((dn.length:Int)+1)) st.1 with
  |none=>
   simp only[ATN,AMU];grind[JO]
  |some e=>
   simp only[ATO,AMp,ATK];by_cases he0:e.2.1=0
   rotate_left
   ·rw[AMD he0]
    grind[JO]
   rw[ALy he0];cases had:a.2.2.1 with
   |true=>
    grind
   |false=>
    rw[AMU];have ha:=hw.words a (by simp);have hb:ae (AS w) (ep,dn++EY (AS w) n a::rest,()):=⟨hw.cfg,hw.ep,by simp_all,fun b hb=>by
     simp only[AOs,ANv]at hb;rcases hb with hb|rfl|hb
     ·exact hw.words b (by simp[hb])
     ·exact⟨ha.1,II ha.2.1 hn,rfl⟩
     ·exact hw.words b (by simp[hb]),ASs (j_ had) hw.opn⟩
    rw[show(w.1,w.2.1,())=AS w from rfl,jd (c:=AS w) (w:=(ep,dn++a::rest,())) (by show w.1.length≤_;omega) (by have:Ar (ep,dn++a::rest,())=Af BJ (dn++a::rest):=rfl;grind)];have AEC:QZ (AS w) (ep,dn++a::rest,()) ((dn.length:Int)+1) n=((ep,dn++EY (AS w) n a::rest,()),true):=by
     unfold QZ;rw[IW.2 hw];simp only[AMP,AMO,AOR];rw[e1,show(dn++a::rest).getD dn.length Kw=a from e2,had];rw[ALy (by
      rw[AML,AML,Ah,Ah];grind)]
     simp_all
    grind[AD,pkW,JO]
theorem APa:∀(rest pre:List AM) (se:List Ac) (f:Nat),(pre++rest).length≤4→(∀x∈rest,ae (AS w) x)→se.length≤120→(∀s∈se,BN s.1=true)→rest.length*300+w.2.2.2.2.2.2.2.1.length*100+2≤f→
  Be f n (pre.length:Int) w.1 SS w.2.2.2.1 w.2.2.2.2.1 (pre++rest) w.2.2.2.2.2.2.2.1 w.2.2.2.2.2.2.2.2.1 se w.2.1 w.2.2.2.2.2.1 w.2.2.2.2.2.2.2.2.2.2.1 0 0 false [] [] [] [] [] [] [] [] st.1 st.2.1 st.2.2.1=(some ((((),w.2.1,(),(),(),w.2.2.2.2.2.1,(),(),(),(),w.2.2.2.2.2.2.2.2.2.2.1,()),()),(w.1,SS,w.2.2.2.1,w.2.2.2.2.1,(pre++(FI true (AS w) st w.Ab n rest se).1),(w.2.2.2.2.2.2.2.1.map (G4 st w.Ab n)),w.2.2.2.2.2.2.2.2.1,(FI true (AS w) st w.Ab n rest se).2,())):Option Bw):=by
 have k5:=h.nums.era;intro rest
 induction rest with
 |nil=>
  intro pre se f hl hw Za hsp hf;obtain⟨f,rfl⟩:∃f',f=f'+1:=⟨f-1,by omega⟩;simp only[Be,L3,AB];have:=AGY h hs hn (SS:=SS) (ws:=pre) (se:=se) w.2.2.2.2.2.2.2.1.length 0 (by omega) (by omega) f (by omega);rw[show((0:Nat):Int)=0 from rfl,ATC,AXh,ATA]at this;rw[AM5,AMD (by omega),this];simp only[FI,AM5]
 |cons a rest ih=>
  intro pre se f hl hw Za hsp hf;simp only[APB,ANZ]at hl hf;obtain⟨f,rfl⟩:∃f',f=f'+1:=⟨f-1,by omega⟩;simp only[Be,L3,AB,Az];have km:(pre++a::rest).length=pre.length+(rest.length+1):=by simp
  have c1:(0:Int)≤(pre.length:Int)∧(pre.length:Int)<((pre++a::rest).length:Int):=by omega
  have e2:(pre++a::rest).getD pre.length (0,[],())=a:=by simp[List.getD]
  have T7:(Ao w.Ab a.1).length≤8:=GV h;rw[ALy c1.2,ALy c1,AMV,e2,show(w.2.2.2.2.1,w.2.2.2.2.2.1,())=B3 w from rfl,E_ (r:=B3 w) (by show Af B8 w.2.2.2.2.1≤_;omega)];rw[show(B3 w).1=w.Ab from rfl];simp only[AD];rw[KJ (by omega),AK (by omega) (by omega),show((pre.length:Int)+1)=((pre.length+1:Nat):Int)by omega];simp only[AD];have ha:=hw a (by simp);have hae:=ha.ep;have han:=ha.n;have next:∀(b:AM) (nn:List Ac) (f:Nat),nn.length≤120→(∀s∈nn,BN s.1=true)→rest.length*300+w.2.2.2.2.2.2.2.1.length*100+2≤f→
    Be f n ((pre.length+1:Nat):Int) w.1 SS w.2.2.2.1 w.2.2.2.2.1 (pre++b::rest) w.2.2.2.2.2.2.2.1 w.2.2.2.2.2.2.2.2.1 nn w.2.1 w.2.2.2.2.2.1 w.2.2.2.2.2.2.2.2.2.2.1 0 0 false [] [] [] [] [] [] [] [] st.1 st.2.1 st.2.2.1=(some ((((),w.2.1,(),(),(),w.2.2.2.2.2.1,(),(),(),(),w.2.2.2.2.2.2.2.2.2.2.1,()),()),(w.1,SS,w.2.2.2.1,w.2.2.2.2.1,(pre++b::(FI true (AS w) st w.Ab n rest nn).1),(w.2.2.2.2.2.2.2.1.map (G4 st w.Ab n)),w.2.2.2.2.2.2.2.2.1,(FI true (AS w) st w.Ab n rest nn).2,())):Option Bw):=fun b nn f h1 h2 h3=>by
   have:=ih (pre++[b]) nn f (by simp only[APB,ANZ,AQZ];omega) (fun x hx=>hw x (by simp[hx])) h1 h2 h3;simp only[APB,ANZ,AQZ,AM8,ATy]at this;exact this
  simp only[FI];rcases AKU (LJ st w.Ab n a)with ht|ht
  rotate_left
  ·rw[ht]
   simp only[AMO,AOR];unfold LJ at ht;rcases AKU ((Ao w.Ab a.1).contains n)with hc|hc
   ·rw[hc,AMk,AUA]at ht
    rw[hc,AMp,ALy (by omega)];exact next a se f Za hsp (by omega)
   ·rw[hc,AMU]
    exact next a se f Za hsp (by omega)
  ·rw[ht]
   simp only[AS_];unfold LJ at ht;rw[AML,AMc]at ht;rw[ht.1,AMp,AMD (by omega)];have htl:=(aj (s:=st) (ep:=a.1) hn (o:=1) ha.words).2.2;have hsm:∀s∈se.map (Nr true a.1 a.2.1 (BB (AS w) st a.1 n 1 a.2.1)),BN s.1=true:=fun s xi=>by
    obtain⟨s',h1,rfl⟩:=ATS.1 xi;exact hsp s' h1
   have:=APf h hs hn (SS:=SS) (ws:=pre++a::rest) (se:=se) (j:=pre.length) (B:=rest.length*300+w.2.2.2.2.2.2.2.1.length*100+2+130) (ep:=a.1) (x:=st.2.2.1) (y:=a.1) (z:=decide (st.2.2.1≥a.1)) (l0:=a.2.1) (R:=(some ((((),w.2.1,(),(),(),w.2.2.2.2.2.1,(),(),(),(),w.2.2.2.2.2.2.2.2.2.2.1,()),()),(w.1,SS,w.2.2.2.1,w.2.2.2.2.1,(pre++(a.1,BB (AS w) st a.1 n 1 a.2.1,())::(FI true (AS w) st w.Ab n rest (se.map (Nr true a.1 a.2.1 (BB (AS w) st a.1 n 1 a.2.1)))).1),(w.2.2.2.2.2.2.2.1.map (G4 st w.Ab n)),w.2.2.2.2.2.2.2.2.1,(FI true (AS w) st w.Ab n rest (se.map (Nr true a.1 a.2.1 (BB (AS w) st a.1 n 1 a.2.1)))).2,())):Option Bw)) (by omega) (by omega) (fun f hf=>by
    have:=ALg h hs hn (SS:=SS) (ws:=(pre++a::rest).set pre.length (a.1,BB (AS w) st a.1 n 1 a.2.1,())) (se:=se) (j:=pre.length) (B:=rest.length*300+w.2.2.2.2.2.2.2.1.length*100+2) (ep:=a.1) (x:=st.2.2.1) (y:=a.1) (z:=decide (st.2.2.1≥a.1)) (old:=a.2.1) (new:=BB (AS w) st a.1 n 1 a.2.1) (R:=(some ((((),w.2.1,(),(),(),w.2.2.2.2.2.1,(),(),(),(),w.2.2.2.2.2.2.2.2.2.2.1,()),()),(w.1,SS,w.2.2.2.1,w.2.2.2.2.1,(pre++(a.1,BB (AS w) st a.1 n 1 a.2.1,())::(FI true (AS w) st w.Ab n rest (se.map (Nr true a.1 a.2.1 (BB (AS w) st a.1 n 1 a.2.1)))).1),(w.2.2.2.2.2.2.2.1.map (G4 st w.Ab n)),w.2.2.2.2.2.2.2.2.1,(FI true (AS w) st w.Ab n rest (se.map (Nr true a.1 a.2.1 (BB (AS w) st a.1 n 1 a.2.1)))).2,())):Option Bw)) (by omega) Za hsp (by omega) hae (fun f hf=>by
     rw[AXS _ _ (by omega),AXd,AXJ];exact next _ _ f (by simpa using Za) hsm hf) se.length 0 (by omega) (by omega) f (by omega)
    rw[show((0:Nat):Int)=0 from rfl,ATC,AXh,ATA]at this;exact this) a.2.1 [] f (by simpa using ha) (by omega) (by simp)
   simp only[AQZ,ATA]at this;exact this
end
section
variable{w:AA} (h:NN w)
include h
theorem mR{d:BC}:WC w.2.1 w.2.2.2.2.2.1 w.2.2.2.2.2.2.2.2.2.2.1 d w.1 w.2.2.1 w.2.2.2.1 w.2.2.2.2.1 w.2.2.2.2.2.2.1 w.2.2.2.2.2.2.2.1 w.2.2.2.2.2.2.2.2.1 w.2.2.2.2.2.2.2.2.2.1=some (pkD (Jj true w d.2.1)):=by
 have k:=h.nums;have k1:=k.c;have k2:=k.wr;have k3:=k.lost;have k4:=k.st;have Zp:=k.aI;have hY:=k.Jd;have jh:=k.hU;have k6:=k.md;unfold WC Jj;rw[show(w.1,w.2.1,w.2.2.1,w.2.2.2.1,w.2.2.2.2.1,w.2.2.2.2.2.1,w.2.2.2.2.2.2.1,w.2.2.2.2.2.2.2.1,w.2.2.2.2.2.2.2.2.1,w.2.2.2.2.2.2.2.2.2.1,w.2.2.2.2.2.2.2.2.2.2.1,())=w from rfl,H5 (by omega) (by omega)];simp only[AD,Cp,Az];by_cases h3:Aj w d.2.1=0
 rotate_left
 ·rw[AMD h3,ALy h3];rfl
 obtain⟨hr,s1,s2,s3⟩:=h.LG h3;have Za:w.2.2.1.getD d.2.1.toNat ([],[],0,())=storeAt w d.2.1:=rfl;rw[ALy h3,AMD (show¬(Aj w d.2.1≠0)from fun hh=>hh h3)];simp only[ALy hr,Za];rw[show((storeAt w d.2.1).1,(storeAt w d.2.1).2.1,(storeAt w d.2.1).2.2.1,())=storeAt w d.2.1 from rfl,Yo s1 s2];simp only[AD,lq];rcases AKU (CZ (storeAt w d.2.1)).2 with h6|h6
 rotate_left
 ·rw[h6];rfl
 have hq:=(KS h6).2.1;have zU:=(h.node h3).1;rw[h6,AMp,Fl];have Kg:d.2.1.toNat<w.2.2.1.length:=by omega
 unfold V7 QK;rw[AUg,ALy hr,Mo Kg];have:=APa h (st:=(CZ (storeAt w d.2.1)).1) hq zU (SS:=w.2.2.1.set d.2.1.toNat (CZ (storeAt w d.2.1)).1) w.2.2.2.2.2.2.1 [] w.2.2.2.2.2.2.2.2.2.1 Ae (by simp_all) (fun x hx=>(h.AH x hx).1) k.se (fun s hs=>(h.BX s hs).1) (AVi (Ag (by omega)));simp only[AQZ,ATA]at this;rw[show((0:Nat):Int)=0 from rfl]at this;rw[show((CZ (storeAt w d.2.1)).1.1,(CZ (storeAt w d.2.1)).1.2.1,(CZ (storeAt w d.2.1)).1.2.2.1,())=(CZ (storeAt w d.2.1)).1 from rfl,this];rfl
end
end Go.M
end
section
set_option maxRecDepth 8000
namespace Go.M
open Go.M.H (AJ AO As Ac AA CN AQ A7 AM AY A3 Ax BC Al CJ Af AX Aa Ap B8 BJ Ar A0 EO CO Cv C_)
section
variable{w:AA} (h:NN w)
include h
theorem rO{d:BC}(h64:C0 d.2.1)(hd:d.2.2.2.2.1.length≤40)(hk:1≤d.1∧d.1≤16):∃w',bI w.2.1 w.2.2.2.2.2.1 w.2.2.2.2.2.2.2.2.2.2.1 d w.1 w.2.2.1 w.2.2.2.1 w.2.2.2.2.1 w.2.2.2.2.2.2.1 w.2.2.2.2.2.2.2.1 w.2.2.2.2.2.2.2.2.1 w.2.2.2.2.2.2.2.2.2.1=some (ASp (w',(Li true w d).2))∧((Li true w d).2=0→w' =(Li true w d).1):=by
 have k:=h.nums;have k1:=k.c;have k5:=k.era;unfold bI Li;rw[show(d.1,d.2.1,d.2.2.1,d.2.2.2.1,d.2.2.2.2.1,())=d from rfl];simp only[DE];by_cases c1:d.1=1
 ·simp only[ALy c1]
  rw[nN h];exact⟨_,rfl,fun _=>rfl⟩
 by_cases c2:d.1=2
 ·simp only[AMD (show¬d.1=1 by omega),ALy c2]
  obtain⟨w',e1,e2⟩:=pf h (d:=d) hd;rw[e1];exact⟨w',rfl,e2⟩
 by_cases c3:d.1=3
 ·simp only[AMD (show¬d.1=1 by omega),AMD (show¬d.1=2 by omega),ALy c3]
  rw[jo h];exact⟨_,rfl,fun _=>rfl⟩
 by_cases c4:d.1=4
 ·simp only[AMD (show¬d.1=1 by omega),AMD (show¬d.1=2 by omega),AMD (show¬d.1=3 by omega),ALy c4]
  rw[mR h];exact⟨_,rfl,fun _=>rfl⟩
 by_cases c6:d.1=6
 ·simp only[AMD (show¬d.1=1 by omega),AMD (show¬d.1=2 by omega),AMD (show¬d.1=3 by omega),AMD (show¬d.1=4 by omega),AMD (show¬d.1=5 by omega),ALy c6]
  rw[nH h];exact⟨_,rfl,fun _=>rfl⟩
 by_cases c7:d.1=7
 ·simp only[AMD (show¬d.1=1 by omega),AMD (show¬d.1=2 by omega),AMD (show¬d.1=3 by omega),AMD (show¬d.1=4 by omega),AMD (show¬d.1=5 by omega),AMD (show¬d.1=6 by omega),ALy c7]
  rw[mW h];exact⟨_,rfl,fun _=>rfl⟩
 by_cases c8:d.1=8
 ·simp only[AMD (show¬d.1=1 by omega),AMD (show¬d.1=2 by omega),AMD (show¬d.1=3 by omega),AMD (show¬d.1=4 by omega),AMD (show¬d.1=5 by omega),AMD (show¬d.1=6 by omega),AMD (show¬d.1=7 by omega),ALy c8]
  rw[mq h];exact⟨_,rfl,fun _=>rfl⟩
 by_cases c9:d.1=9
 ·simp only[AMD (show¬d.1=1 by omega),AMD (show¬d.1=2 by omega),AMD (show¬d.1=3 by omega),AMD (show¬d.1=4 by omega),AMD (show¬d.1=5 by omega),AMD (show¬d.1=6 by omega),AMD (show¬d.1=7 by omega),AMD (show¬d.1=8 by omega),ALy c9]
  rw[nQ h];exact⟨_,rfl,fun _=>rfl⟩
 by_cases c10:d.1=10
 ·simp only[AMD (show¬d.1=1 by omega),AMD (show¬d.1=2 by omega),AMD (show¬d.1=3 by omega),AMD (show¬d.1=4 by omega),AMD (show¬d.1=5 by omega),AMD (show¬d.1=6 by omega),AMD (show¬d.1=7 by omega),AMD (show¬d.1=8 by omega),AMD (show¬d.1=9 by omega),ALy c10]
  rw[mr h];exact⟨_,rfl,fun _=>rfl⟩
 by_cases c11:d.1=11
 ·simp only[AMD (show¬d.1=1 by omega),AMD (show¬d.1=2 by omega),AMD (show¬d.1=3 by omega),AMD (show¬d.1=4 by omega),AMD (show¬d.1=5 by omega),AMD (show¬d.1=6 by omega),AMD (show¬d.1=7 by omega),AMD (show¬d.1=8 by omega),AMD (show¬d.1=9 by omega),AMD (show¬d.1=10 by omega),ALy c11]
  rw[oY h];exact⟨_,rfl,fun _=>rfl⟩
 by_cases c12:d.1=12
 ·simp only[AMD (show¬d.1=1 by omega),AMD (show¬d.1=2 by omega),AMD (show¬d.1=3 by omega),AMD (show¬d.1=4 by omega),AMD (show¬d.1=5 by omega),AMD (show¬d.1=6 by omega),AMD (show¬d.1=7 by omega),AMD (show¬d.1=8 by omega),AMD (show¬d.1=9 by omega),AMD (show¬d.1=10 by omega),AMD (show¬d.1=11 by omega),ALy c12]
  rw[j7 h];exact⟨_,rfl,fun _=>rfl⟩
 by_cases c13:d.1=13
 ·simp only[AMD (show¬d.1=1 by omega),AMD (show¬d.1=2 by omega),AMD (show¬d.1=3 by omega),AMD (show¬d.1=4 by omega),AMD (show¬d.1=5 by omega),AMD (show¬d.1=6 by omega),AMD (show¬d.1=7 by omega),AMD (show¬d.1=8 by omega),AMD (show¬d.1=9 by omega),AMD (show¬d.1=10 by omega),AMD (show¬d.1=11 by omega),AMD (show¬d.1=12 by omega),ALy c13]
  rw[show(w.1,w.2.1,())=AS w from rfl,show(w.2.2.2.2.1,w.2.2.2.2.2.1,())=B3 w from rfl,nG (c:=AS w) (r:=B3 w) (by show w.1.length≤_;omega) (by show Af B8 w.2.2.2.2.1≤_;omega) k.trim h64];simp only[AD,pkR,Az,OO];rcases AKU (Lx (AS w) (B3 w) d.2.1).2 with hq|hq
  ·rw[hq];exact⟨_,rfl,fun _=>rfl⟩
  ·rw[hq];exact⟨w,rfl,fun _=>rfl⟩
 by_cases c14:d.1=14
 ·simp only[AMD (show¬d.1=1 by omega),AMD (show¬d.1=2 by omega),AMD (show¬d.1=3 by omega),AMD (show¬d.1=4 by omega),AMD (show¬d.1=5 by omega),AMD (show¬d.1=6 by omega),AMD (show¬d.1=7 by omega),AMD (show¬d.1=8 by omega),AMD (show¬d.1=9 by omega),AMD (show¬d.1=10 by omega),AMD (show¬d.1=11 by omega),AMD (show¬d.1=12 by omega),AMD (show¬d.1=13 by omega),ALy c14]
  rw[mU h];exact⟨_,rfl,fun _=>rfl⟩
 by_cases c15:d.1=15
 ·simp only[AMD (show¬d.1=1 by omega),AMD (show¬d.1=2 by omega),AMD (show¬d.1=3 by omega),AMD (show¬d.1=4 by omega),AMD (show¬d.1=5 by omega),AMD (show¬d.1=6 by omega),AMD (show¬d.1=7 by omega),AMD (show¬d.1=8 by omega),AMD (show¬d.1=9 by omega),AMD (show¬d.1=10 by omega),AMD (show¬d.1=11 by omega),AMD (show¬d.1=12 by omega),AMD (show¬d.1=13 by omega),AMD (show¬d.1=14 by omega),ALy c15]
  rw[nC h];exact⟨_,rfl,fun _=>rfl⟩
 simp only[AMD c1,AMD c2,AMD c3,AMD c4,AMD c6,AMD c7,AMD c8,AMD c9,AMD c10,AMD c11,AMD c12,AMD c13,AMD c14,AMD c15];rw[k9 h];by_cases c5:d.1=5
 ·rw[ALy c5,AMD (by omega)]
  exact⟨_,rfl,fun _=>rfl⟩
 ·rw[AMD c5,ALy (by omega)]
  exact⟨_,rfl,fun _=>rfl⟩
end
theorem eM{w:AA}{n:Int}{q:AO×Bool}(e:(putAt w n q).2≠0):(putAt w n q).1=w:=by
 unfold putAt at*;grind
theorem wZ{all:Bool}{w:AA}{d:BC}(e:(Li all w d).2≠0):(Li all w d).1=w:=by
 unfold Li at*;by_cases c:d.1=1
 ·rw[ALy c]at e⊢
  clear c
  revert e
  unfold L5;grind
 rw[AMD c]at e⊢;clear c;by_cases c:d.1=2
 ·rw[ALy c]at e⊢
  clear c
  revert e
  unfold doAdd;grind
 rw[AMD c]at e⊢;clear c;by_cases c:d.1=3
 ·rw[ALy c]at e⊢
  clear c
  revert e
  unfold IJ
  try dsimp only
  repeat' split
  all_goals first|(intro e;exact absurd rfl e)|(intro e;rfl)|grind[eM]
 rw[AMD c]at e⊢;clear c;by_cases c:d.1=4
 ·rw[ALy c]at e⊢
  clear c
  revert e
  unfold Jj;grind
 rw[AMD c]at e⊢;clear c;by_cases c:d.1=5
 ·rw[ALy c]at e⊢
  clear c
  revert e
  unfold IQ
  try dsimp only
  repeat' split
  all_goals first|(intro e;exact absurd rfl e)|(intro e;rfl)|grind[eM]
 rw[AMD c]at e⊢;clear c;by_cases c:d.1=6
 ·rw[ALy c]at e⊢
  clear c
  revert e
  unfold ML;grind
 rw[AMD c]at e⊢;clear c;by_cases c:d.1=7
 ·rw[ALy c]at e⊢
  clear c
  revert e
  unfold Lt;grind
 rw[AMD c]at e⊢;clear c;by_cases c:d.1=8
 ·rw[ALy c]at e⊢
  clear c
  revert e
  unfold MC;grind
 rw[AMD c]at e⊢;clear c;by_cases c:d.1=9
 ·rw[ALy c]at e⊢
  clear c
  revert e
  unfold MJ;grind
 rw[AMD c]at e⊢;clear c;by_cases c:d.1=10
 ·rw[ALy c]at e⊢
  clear c
  revert e
  unfold MO;grind
 rw[AMD c]at e⊢;clear c;by_cases c:d.1=11
 ·rw[ALy c]at e⊢
  clear c
  revert e
  unfold SN
  try dsimp only
  repeat' split
  all_goals first|(intro e;exact absurd rfl e)|(intro e;rfl)|grind[eM]
 rw[AMD c]at e⊢;clear c;by_cases c:d.1=12
 ·rw[ALy c]at e⊢
  clear c
  revert e
  unfold IH;grind
 rw[AMD c]at e⊢;clear c;by_cases c:d.1=13
 ·rw[ALy c]at e⊢
  clear c
  revert e
  unfold OO;grind
 rw[AMD c]at e⊢;clear c;by_cases c:d.1=14
 ·rw[ALy c]at e⊢
  clear c
  revert e
  unfold H8;grind
 rw[AMD c]at e⊢;clear c;by_cases c:d.1=15
 ·rw[ALy c]at e⊢
  clear c
  revert e
  unfold M7;grind
 rw[AMD c]at e⊢;clear c;unfold IV at*;split at e
 ·simp_all
 ·rename_i h1;rw[AMD h1];exact eM e
theorem cC{w:AA}{d:BC}(h:gf w)(h64:C0 d.2.1):SE w d=some (pkD (CD true w d)):=by
 unfold SE CD;rw[show(w.1,w.2.1,w.2.2.1,w.2.2.2.1,w.2.2.2.2.1,w.2.2.2.2.2.1,w.2.2.2.2.2.2.1,w.2.2.2.2.2.2.2.1,w.2.2.2.2.2.2.2.2.1,w.2.2.2.2.2.2.2.2.2.1,w.2.2.2.2.2.2.2.2.2.2.1,())=w from rfl,show(d.1,d.2.1,d.2.2.1,d.2.2.2.1,d.2.2.2.2.1,())=d from rfl,bg h,oe,bw h];simp only[AD,Az,Cp];rcases AKU (Fg w)with hw|hw
 rotate_left
 ·rw[hw];rfl
 rcases AKU (PM d)with hd|hd
 rotate_left
 ·rw[hw,hd];rfl
 have hk:1≤d.1∧d.1≤16:=by
  unfold PM at hd;exact Ah.1 (AML _ _▸hd).1
 rw[hw,hd,AMp,AMp];obtain⟨w',e1,e2⟩:=rO (F5.1 hw) h64 (bP hd) hk;rw[e1];simp only[AD,AMP,AXW,AMO,AOR];by_cases hc:(Li true w d).2=0
 ·rw[e2 hc]
  rw[ALy (show(ASp ((Li true w d).1,(Li true w d).2)).1.1.2.1=0 from hc)];rfl
 ·rw[AMD (show¬(ASp (w',(Li true w d).2)).1.1.2.1=0 from hc)]
  have:=wZ hc;rw[show Li true w d=(w,(Li true w d).2)by grind];rfl
end Go.M
end
section
namespace Go.M
def At(b:AAO)(a:Nat)(w:AAO)(a':Nat):Prop:=a' =a+w.length∧b.drop a=w++b.drop a'
theorem At.nil{b:AAO}{a:Nat}:At b a [] a:=⟨by simp,by simp⟩
theorem At.split{b w w':AAO}{a a2:Nat}(ha:a≤b.length)(h:At b a (w++w') a2):At b a w (a+w.length)∧At b (a+w.length) w' a2∧a+w.length≤b.length:=by
 obtain⟨h1,h2⟩:=h;have e1:b.drop (a+w.length)=w'++b.drop a2:=by
  rw[←List.drop_drop,h2,AM8];simp
 refine⟨⟨rfl,by rw[h2,e1,AM8]⟩,⟨by simp only[APB]at h1;omega,e1⟩,?_⟩;have:=congrArg List.length h2;simp only[APB,AWf]at this;omega
theorem At.all{b w:AAO}(h:At b 0 w b.length):b=w:=by
 have:=h.2;simpa using this
theorem At.whole{b w:AAO}(h:b=w):At b 0 w b.length:=by
 subst h;exact⟨by simp,by simp⟩
section
variable{b:AAO} (hb:Bytes b)
include hb
end
section
variable{code:AAO} (hc:code.length≤2^30)
include hc
theorem ABP{i h:Int}{l:List ACC}(hi:GZ code i)(hl:l≠[])(hn:l.length≤2^30):∃v i' h',Ii l code i h=some ((v,()),((code,i',h',()),()))∧v∈l∧GZ code i':=by
 unfold Ii;have hp:=AXX.2 hl;obtain⟨v,i1,h1,e,v0,v1,_,eZ⟩:=QF hc (h:=h) (n:=l.length) hi (by omega);rw[e];simp only[AMv];have:=v1 (by omega);rw[ALy ⟨v0,this⟩];obtain⟨k,rfl⟩:∃k:Nat,v=(k:Int):=⟨v.toNat,by omega⟩;exact⟨_,i1,h1,rfl,by rw[Ai (by omega)];exact AMh _,eZ⟩
end
end Go.M
end
section
namespace Go.M
open Go.M.H (CN AQ A7 AM Af AX Aa B8 BJ Ar AAA tw iP)
section
variable{b:AAO} (hb:Bytes b) (hl:b.length≤2^30)
include hb hl
end
def WI(l:List A7):Prop:=l.length≤61∧ ∀e∈l,e.1.length≤41∧e.2.1.length≤9
theorem WI.w{l:List A7}(h:WI l):Af BJ l≤4000:=by
 have key:∀l:List A7,(∀e∈l,e.1.length≤41∧e.2.1.length≤9)→Af BJ l≤60*l.length:=by
  intro l
  induction l with
  |nil=>intro _;simp[Af]
  |cons e l ih=>
   intro hh;have:=hh e (by simp);have:=ih (fun e he=>hh e (by simp[he]));simp only[Af,BJ,ANZ]at this⊢;omega
 have:=key l h.2;have:=h.1;omega
theorem WI.of{c:B9}{w:AM}(h:FF c w=true):WI w.2.1:=by
 obtain⟨h1,h2,h3,h4⟩:=fQ h;exact⟨by omega,fun e he=>by have:=uH (h4 e he);omega⟩
section
variable{code:AAO} (hc:code.length≤2^30)
include hc
end
end Go.M
end
section
set_option maxRecDepth 8000
namespace Go.M
open Go.M.H (AJ AO As Ac AA CN AQ A7 AM AY A3 Ax BC Al CJ Af AX Aa Ap B8 BJ Ar A0 EO CO Cv C_)
def OK(code:AAO){X Y:Type}(Q:X→Y→Prop)(o:Option (X×(ADE×Y))):Prop:=
 ∃x i h y,o=some (x,((code,i,h,()),y))∧GZ code i∧Q x y
section
variable{code:AAO} {X Y Z W:Type} {Q:X→Y→Prop} {R:Z→W→Prop}
theorem OK.bind{o:Option (X×(ADE×Y))}{f:X×(ADE×Y)→Option (Z×(ADE×W))}
  (ho:OK code Q o) (hf:∀x i h y,GZ code i→Q x y→OK code R (f (x,((code,i,h,()),y)))):OK code R (o.bind f):=by
 obtain⟨x,i,h,y,e,hi,hq⟩:=ho;simp_all
theorem OK.pure{A:Type}{o:Option A}{a:A}{f:A→Option (Z×(ADE×W))}(ho:o=some a)(hf:OK code R (f a)):OK code R (o.bind f):=by
 simp_all
theorem OK.some{x:X}{i h:Int}{y:Y}(hi:GZ code i)(hq:Q x y):OK code Q (some (x,((code,i,h,()),y))):=⟨x,i,h,y,rfl,hi,hq⟩
theorem OK.cond{b:Bool}{x y:Option (X×(ADE×Y))}(h1:b=true→OK code Q x)(h2:b=false→OK code Q y):OK code Q (cond b x y):=by
 grind
theorem OK.iu{p:Prop}[Decidable p]{x y:Option (X×(ADE×Y))}(h1:p→OK code Q x)(h2: ¬p→OK code Q y):OK code Q (_root_.cond (decide p) x y):=by
 grind
theorem OK.px{a b:Int}{x y:Option (X×(ADE×Y))}(h1:a=b→OK code Q x)(h2:a≠b→OK code Q y):OK code Q (_root_.cond (a==b) x y):=by
 grind
theorem OK.ite{p:Prop}[Decidable p]{x y:Option (X×(ADE×Y))}(hp:p)(h1:OK code Q x):OK code Q (if p then x else y):=by
 simp_all
end
section
variable{code:AAO} (hc:code.length≤2^30)
include hc
theorem PZ{i h n:Int}(hi:GZ code i)(hn:n≤2^40):OK code (fun(x:ABN) (y:Unit)=>0≤x.1∧(0<n→x.1<n)∧(n≤0→x.1=0)) (Ak n code i h):=by
 obtain⟨v,i',h',e,v0,v1,v2,Dd⟩:=QF hc (h:=h) hi hn;exact⟨(v,()),i',h',(),e,Dd,v0,v1,v2⟩
theorem ag{i h n:Int}(hi:GZ code i)(hn:n≤2^40):OK code (fun(x:ABG) (y:Unit)=>True) (B4 n code i h):=by
 obtain⟨v,i',h',e,Dd⟩:=sU hc (h:=h) hi hn;exact⟨(v,()),i',h',(),e,Dd,trivial⟩
theorem yl{i h:Int}{l:AAO}(hi:GZ code i)(hl:l≠[])(hn:l.length≤2^30):OK code (fun(x:ABN) (y:Unit)=>x.1∈l) (OB l code i h):=by
 obtain⟨v,i',h',e,hv,Dd⟩:=tz hc (h:=h) hi hl hn;exact⟨(v,()),i',h',(),e,Dd,hv⟩
theorem uA{i h:Int}{l:List ACC}(hi:GZ code i)(hl:l≠[])(hn:l.length≤2^30):OK code (fun(x:AGB) (y:Unit)=>x.1∈l) (Ii l code i h):=by
 obtain⟨v,i',h',e,hv,Dd⟩:=ABP hc (h:=h) hi hl hn;exact⟨(v,()),i',h',(),e,Dd,hv⟩
theorem vG{c:B9}(cO:c.1.length≤2^10){i h:Int}(hi:GZ code i):OK code (fun(x:ACW) (y:ACj)=>y.1.length≤2^12) (Om c code i h):=by
 have key:∀(n k N:Nat) (i h:Int) (b:AAO),GZ code i→k≤N→N-k<n→N≤2^11→b.length≤k→
   OK code (fun(x:ACW) (y:ACj)=>y.1.length≤2^12) (IF n N k code i h c.1 c.2.1 b):=by
  intro n
  induction n with
  |zero=>omega
  |succ n ih=>
   intro k N i h b hi hk hn hN hb;simp only[IF,RJ];refine OK.iu (fun Kg=> ?_) (fun hge=> ?_)
   ·refine OK.pure KV ?_
    dsimp only;refine OK.bind (PZ hc hi (by omega)) fun x i' h' y Dd hq=> ?_
    dsimp only;refine OK.pure (My (by omega)) ?_
    dsimp only;rw[AK (by omega) (by omega),show((k:Int)+1)=((k+1:Nat):Int)by omega];have:=Uj (n:=x.1) (l:=b);exact ih (k+1) N _ _ _ Dd (by omega) (by omega) hN (by omega)
   ·refine OK.bind (ag hc hi (by omega)) fun x i' h' y Dd hq=> ?_
    dsimp only;refine OK.cond (fun _=> ?_) (fun _=> ?_)
    ·refine OK.bind (yl hc Dd (by simp) (by simp)) fun x i' h' y Dd hq=> ?_
     dsimp only;refine OK.ite (by rw[BT];omega) ?_
     grind[OK.some]
    grind[OK.some]
 unfold Om RO;rw[AK (by omega) (by omega)];refine OK.bind (PZ hc hi (by omega)) fun x i' h' y Dd hq=> ?_
 dsimp only;obtain⟨N,hN⟩:∃N:Nat,x.1=N:=⟨x.1.toNat,by omega⟩;grind[Ae,Ag]
theorem zP{c:B9}(cO:c.1.length≤2^10){i h:Int}(hi:GZ code i):OK code (fun(x:ACW) (y:ACj)=>y.1.length≤2^13) (Ll c code i h):=by
 have key:∀(n k:Nat) (i h:Int) (b:AAO),GZ code i→k≤c.1.length→c.1.length-k<n→b.length≤2^12+k→
   OK code (fun(x:ACW) (y:ACj)=>y.1.length≤2^13) (J9 n k code i h c.1 c.2.1 b):=by
  intro n
  induction n with
  |zero=>omega
  |succ n ih=>
   intro k i h b hi hk hn hb;simp only[J9,UW];refine OK.iu (fun Kg=> ?_) (fun hge=>OK.some hi (by grind));refine OK.pure (Ey (c:=(c.1,c.2.1,())) (by grind) (by omega)) ?_
   dsimp only;refine OK.cond (fun _=> ?_) (fun _=>OK.some hi (by grind));refine OK.pure (My (by omega)) ?_
   dsimp only;rw[AK (by omega) (by omega),show((k:Int)+1)=((k+1:Nat):Int)by omega];have:=Uj (n:=(k:Int)) (l:=b);exact ih (k+1) _ _ _ hi (by omega) (by omega) (by omega)
 unfold Ll UL;grind[OK.bind,vG,Ae,Ag]
end
theorem AHC{x:Int}:C0 (IntKind.wrap .i64 x):=by
 grind[C0,IntKind.wrap,IntKind.bits,IntKind.signed]
theorem APj{a b:Int}:C0 (bOr .i64 a b):=by
 unfold bOr;exact AHC
theorem uF{l:AAO}(hl:l.length≤2^20):∃r,K0 l=some ((r,()),())∧C0 r:=by
 have key:∀(n k:Nat) (t:Int),(∀x∈l,0≤x)→C0 t→k≤l.length→l.length-k<n→ ∃r,KB n l t k=some ((r,()),())∧C0 r:=by
  intro n
  induction n with
  |zero=>omega
  |succ n ih=>
   intro k t hp ht hk hn;simp only[KB,Uq,AB];by_cases Kg:k<l.length
   ·rw[ALy (by omega),ALy (by omega),Ai Kg,AMD (by simp_all),AK (x:=(k:Int)+1) (by omega) (by omega),show((k:Int)+1)=((k+1:Nat):Int)by omega]
    grind[APj]
   grind
 unfold K0 T8;rw[fW (by omega)];simp only[AD,Az];rcases AKU (qd l 7)with ha|ha
 ·rw[ha]
  exact key Ae 0 0 (fun x hx=>((w6.1 ha).1 x hx).1) (by unfold C0;omega) (by omega) (Ag (by omega))
 ·rw[ha]
  exact⟨-1,rfl,by unfold C0;omega⟩
end Go.M
end
section
set_option maxRecDepth 8000
namespace Go.M
open Go.M.H (AJ AO As Ac AA CN AQ A7 AM AY A3 Ax BC Al CJ Af AX Aa Ap B8 BJ Ar A0 EO CO Cv C_)
abbrev jY:BC×Unit→Unit→Prop:=fun x _=>C0 x.1.2.1∧C0 x.1.2.2.1∧C0 x.1.2.2.2.1∧x.1.2.2.2.2.1.length≤40
theorem AFM(x:Int):C0 (AZ x):=by
 grind[AZ,IntKind.wrap,C0,IntKind.bits,IntKind.signed]
theorem PA{x:Int}(h: -1000≤x∧x≤1000):C0 x:=by unfold C0;omega
section
variable{code:AAO} (hc:code.length≤2^30) {w:AA} (h:NN w)
include hc h
theorem NN.AEB{e:Int}(he:1≤e∧e≤w.Ab.length):0<(Ao w.Ab e).length∧(Ao w.Ab e).length≤8∧ ∀x∈Ao w.Ab e,0≤x∧x<8:=by
 have hh:=(h.lZ.Ab _ (BG (d:=GJ) (show(e-1).toNat<(B3 w).1.length by show _<w.Ab.length;omega))).1;have hn:=Nl hh;have cO:=(GW h.cfg).2.1;unfold Ao;rw[Ah.2 he,ALy rfl];refine⟨?_,HX hn,fun x hx=> ?_⟩
 ·rcases AXN (w.Ab.getD (e-1).toNat GJ).1.length with h0|h0
  ·have uP:=AQO h0
   have hh':holds (AS w) (w.Ab.getD (e-1).toNat GJ).1=true:=hh;grind[holds_nil]
  omega
 ·have:=(EK.1 hn).2.1 x hx
  omega
theorem tp(hw:0<w.AH.length){i hh:Int}(hi:GZ code i):OK code jY (Ga w code i hh):=by
 have k:=h.nums;have k2:=k.wr;have k5:=k.era;have rI:0<w.2.2.2.2.2.2.1.length:=hw;have tail:∀(j:Int),0≤j→j<(w.2.2.2.2.2.2.1.length:Int)→ ∀i hh,GZ code i→OK code jY (
   (CW (w.2.2.2.2.1,w.2.2.2.2.2.1,()) ((w.2.2.2.2.2.2.1.getD (j.toNat) (0,[],())).1)).bind fun nf=>
   (Ak (nf.2.1.length:Int) code i hh).bind fun SV=>
   if(0:Int)≤SV.1.1∧SV.1.1<(nf.2.1.length:Int)then(
   cond ((((w.2.2.2.2.2.2.1.getD (j.toNat) (0,[],())).2.1).length:Int)==0)
    ((Ii [[],[97],[98,99],[100]] SV.2.1.1 SV.2.1.2.1 SV.2.1.2.2.1).bind fun ZH=>
    some (((2,j,0,0,ZH.1.1,()),()),((ZH.2.1.1,ZH.2.1.2.1,ZH.2.1.2.2.1,()),())))
   ((B4 7 SV.2.1.1 SV.2.1.2.1 SV.2.1.2.2.1).bind fun Xj=>
   cond (Xj.1.1)
    ((Ii [[],[97],[98,99],[100]] Xj.2.1.1 Xj.2.1.2.1 Xj.2.1.2.2.1).bind fun fP=>
    some (((2,j,0,0,fP.1.1,()),()),((fP.2.1.1,fP.2.1.2.1,fP.2.1.2.2.1,()),())))
   ((B4 3 Xj.2.1.1 Xj.2.1.2.1 Xj.2.1.2.2.1).bind fun nU=>
   cond (nU.1.1)
    (some (((4,(nf.2.1.getD (SV.1.1.toNat) 0),0,0,[],()),()),((nU.2.1.1,nU.2.1.2.1,nU.2.1.2.2.1,()),())))
   ((S3 (((w.2.2.2.2.2.2.1.getD (j.toNat) (0,[],())).2.1).length:Int) 3).bind fun vS=>
   (Ak vS.1.1 nU.2.1.1 nU.2.1.2.1 nU.2.1.2.2.1).bind fun Xh=>
   some (((3,j,AZ ((((w.2.2.2.2.2.2.1.getD (j.toNat) (0,[],())).2.1).length:Int)-Xh.1.1),(nf.2.1.getD (SV.1.1.toNat) 0),[],()),()),((Xh.2.1.1,Xh.2.1.2.1,Xh.2.1.2.2.1,()),()))))))else none):=by
  intro j hj0 hj1 i hh hi;have hx:=h.AH _ (BG (d:=Bu) (show j.toNat<w.AH.length by simp_all));have he:=hx.1.ep;obtain⟨e1,e2,e3⟩:=h.AEB hc (e:=(w.AH.getD j.toNat Bu).1) ⟨he.1,hx.2⟩;refine OK.pure (E_ (r:=B3 w) (by show Af B8 w.2.2.2.2.1≤_;omega)) ?_
  dsimp only
  generalize hns:Ao (B3 w).1 (w.2.2.2.2.2.2.1.getD j.toNat (0,[],())).1=ns
  have ARR:Ao w.Ab (w.AH.getD j.toNat Bu).1=ns:=hns;rw[ARR]at e1 e2 e3;refine OK.bind (PZ hc hi (by omega)) fun x i1 h1 y eZ hq=> ?_
  dsimp only at*;refine OK.ite (by omega) ?_
  have ie:C0 (ns.getD x.1.toNat 0):=PA (by grind[BG]);have hjj:C0 j:=PA (by omega);have z:C0 0:=PA (by omega)
  repeat' (first|refine OK.some (by assumption) ?_|refine OK.iu (fun _=> ?_) (fun _=> ?_)|refine OK.px (fun _=> ?_) (fun _=> ?_)|refine OK.cond (fun _=> ?_) (fun _=> ?_)|refine OK.ite (by omega) ?_|(refine OK.bind (ag (by assumption) (by assumption) (by omega)) fun x i h y hi hq=> ?_;dsimp only)|(refine OK.bind (PZ (by assumption) (by assumption) (by omega)) fun x i h y hi hq=> ?_;dsimp only at*)|(refine OK.bind (uA (by assumption) (by assumption) (by simp) (by simp)) fun x i h y hi hq=> ?_;dsimp only)|(refine OK.pure ZO ?_;dsimp only)|(refine OK.pure KV ?_;dsimp only))
  all_goals refine⟨?_,?_,?_,?_⟩
  all_goals first
   |assumption
   |exact AFM _
   |exact AXQ _
   |grind
 unfold Ga;dsimp only;have e1:AZ ((w.2.2.2.2.2.2.1.length:Int)-1)=(w.2.2.2.2.2.2.1.length:Int)-1:=AK (by omega) (by omega);simp only[e1];refine OK.bind (PZ hc hi (by omega)) fun x i1 h1 y eZ hq=> ?_
 dsimp only at*;refine OK.bind (ag hc eZ (by omega)) fun x2 i2 h2 y2 zW hq2=> ?_
 dsimp only at*;refine OK.cond (fun _=> ?_) (fun _=> ?_)
 ·refine OK.ite (by omega) ?_
  exact tail _ (by omega) (by omega) _ _ zW
 simp_all
end
end Go.M
end
section
set_option maxRecDepth 8000
namespace Go.M
open Go.M.H (AJ AO As Ac AA CN AQ A7 AM AY A3 Ax BC Al CJ Af AX Aa Ap B8 BJ Ar A0 EO CO Cv C_)
section
variable{code:AAO} (hc:code.length≤2^30) {w:AA} (h:NN w)
include hc h
theorem v_{m:As}(hm:qn (AS w) m){t7:Int}(h7:C0 t7):∀(n k:Nat) (t8 i hh:Int),C0 t8→GZ code i→k≤m.2.2.2.2.2.1.length→m.2.2.2.2.2.1.length-k<n→
  OK code jY (GC n t7 t8 k code i hh w.1 w.2.1 w.2.2.1 w.2.2.2.1 w.2.2.2.2.1 w.2.2.2.2.2.1 w.2.2.2.2.2.2.1 w.2.2.2.2.2.2.2.1 w.2.2.2.2.2.2.2.2.1 w.2.2.2.2.2.2.2.2.2.1 w.2.2.2.2.2.2.2.2.2.2.1 0 0 0 0 [] m.1 m.2.1 m.2.2.1 m.2.2.2.1 m.2.2.2.2.1 m.2.2.2.2.2.1):=by
 have k1:=h.nums.c;have vT:m.2.2.2.2.2.1.length≤60:=by
  have:=hm.n;have hb:=GR (l:=m.2.2.2.1);split at this<;>omega
 intro n
 induction n with
 |zero=>intro k t8 i hh _ _ _ h;omega
 |succ n ih=>
  intro k t8 i hh h8 hi hk hn;have hk8:C0 ((k+1:Nat):Int):=PA (by omega);simp only[GC,Qr];refine OK.iu (fun Kg=> ?_) (fun hge=>OK.some hi ⟨PA (by show-1000≤(0:Int)∧(0:Int)≤1000;omega),h8,h7,AXQ _⟩);have Aaz:k<m.2.2.2.2.2.1.length:=by omega
  refine OK.ite (by omega) ?_
  rw[AK (x:=(k:Int)+1) (by omega) (by omega),show((k:Int)+1)=((k+1:Nat):Int)by omega];have vd:=HX (hm.wrote _ (BG (d:=[]) Aaz));refine OK.pure (Ey (c:=AS w) (by show w.1.length≤_;omega) (by show(m.2.2.2.2.2.1.getD k []).length≤_;omega)) ?_
  dsimp only;refine OK.cond (fun _=> ?_) (fun _=>ih (k+1) _ _ _ h8 hi (by omega) (by omega));refine OK.bind (ag hc hi (by omega)) fun x2 i2 h2 y2 zW hq2=> ?_
  dsimp only;exact OK.cond (fun _=>ih (k+1) _ _ _ hk8 zW (by omega) (by omega)) (fun _=>ih (k+1) _ _ _ h8 zW (by omega) (by omega))
theorem xh{i hh:Int}(hi:GZ code i):OK code jY (Ky w code i hh):=by
 have k:=h.nums;have k5:=k.era;unfold Ky RM;have z:C0 0:=PA (by omega);refine OK.px (fun _=>OK.some hi ⟨z,z,z,AXQ _⟩) (fun cF=> ?_);have hlen:0<w.BW.length:=by show 0<w.2.2.2.2.2.2.2.1.length;omega
 refine OK.ite (by omega) ?_
 have hmm:=h.BW _ (BG (d:=Qz) hlen)
 generalize hg:w.2.2.2.2.2.2.2.1.getD 0 (0,0,[],[],false,[],())=m
 have xj:w.BW.getD 0 Qz=m:=hg;rw[xj]at hmm;obtain⟨hm,hm2,hm3⟩:=hmm;have he:=hm.ep;have hb:=hm.b;obtain⟨e1,e2,e3⟩:=h.AEB hc (e:=m.2.1) ⟨he.1,by omega⟩;have vT:m.2.2.2.2.2.1.length≤60:=by
  have:=hm.n;have hb:=GR (l:=m.2.2.2.1);split at this<;>omega
 refine OK.pure (E_ (r:=B3 w) (by show Af B8 w.2.2.2.2.1≤_;omega)) ?_
 dsimp only
 generalize hns:Ao (B3 w).1 m.2.1=ns
 have ARR:Ao w.Ab m.2.1=ns:=hns;rw[ARR]at e1 e2 e3;refine OK.bind (PZ hc hi (by omega)) fun x i1 h1 y eZ hq=> ?_
 dsimp only at*;refine OK.ite (by omega) ?_
 have ie:C0 (ns.getD x.1.toNat 0):=PA (by have:=e3 _ (BG (l:=ns) (i:=x.1.toNat) (d:=0) (by omega));omega);have fin:∀t8 i hh,C0 t8→GZ code i→OK code jY (GC Ae (ns.getD x.1.toNat 0) t8 0 code i hh w.1 w.2.1 w.2.2.1 w.2.2.2.1 w.2.2.2.2.1 w.2.2.2.2.2.1 w.2.2.2.2.2.2.1 w.2.2.2.2.2.2.2.1 w.2.2.2.2.2.2.2.2.1 w.2.2.2.2.2.2.2.2.2.1 w.2.2.2.2.2.2.2.2.2.2.1 0 0 0 0 [] m.1 m.2.1 m.2.2.1 m.2.2.2.1 m.2.2.2.2.1 m.2.2.2.2.2.1):=fun t8 i hh h8 hi=>
  v_ hc h hm ie Ae 0 t8 i hh h8 hi (by omega) (Ag (by omega))
 repeat' (first|refine OK.some (by assumption) ?_|refine OK.iu (fun _=> ?_) (fun _=> ?_)|refine OK.px (fun _=> ?_) (fun _=> ?_)|refine OK.cond (fun _=> ?_) (fun _=> ?_)|refine OK.ite (by omega) ?_|(refine OK.bind (ag (by assumption) (by assumption) (by omega)) fun x i h y hi hq=> ?_;dsimp only)|(refine OK.bind (PZ (by assumption) (by assumption) (by omega)) fun x i h y hi hq=> ?_;dsimp only at*)|(refine OK.bind (uA (by assumption) (by assumption) (by simp) (by simp)) fun x i h y hi hq=> ?_;dsimp only)|(refine OK.pure ZO ?_;dsimp only)|(refine OK.pure KV ?_;dsimp only))
 all_goals first
  |exact fin _ _ _ (AFM _) (by assumption)
  |exact⟨z,z,z,AXQ _⟩
  |exact⟨ie,z,z,AXQ _⟩
theorem xm{i hh:Int}(hi:GZ code i):OK code jY (Of w code i hh):=by
 have k:=h.nums;have k1:=k.c;have k2:=k.wr;have k3:=k.lost;have k4:=k.st;have k5:=k.era;have k6:=k.se;have k7:=k.bC;have yQ:=(GW h.cfg).1;have Ac7:1≤w.1.length:=yQ;have z:C0 0:=PA (by omega);have WT:∀i hh,GZ code i→OK code jY ((Ll (w.1,w.2.1,()) code i hh).bind fun u3=>
   (K0 u3.2.2.1).bind fun u4=>
   some (((1,u4.1.1,0,0,[],()),()),((u3.2.1.1,u3.2.1.2.1,u3.2.1.2.2.1,()),()))):=fun i hh hi=>by
  refine OK.bind (zP hc (c:=(w.1,w.2.1,())) (by show w.1.length≤_;omega) hi) fun x i1 h1 y eZ hq=> ?_
  dsimp only;obtain⟨r,hr,hr2⟩:=uF (l:=y.1) (by omega);refine OK.pure hr ?_
  exact OK.some eZ ⟨hr2,z,z,AXQ _⟩
 have ADT:∀j:Nat,C0 (w.2.2.2.2.2.2.2.2.2.1.getD j (0,[],false,())).1:=fun j=>by
  by_cases hj:j<w.2.2.2.2.2.2.2.2.2.1.length
  ·exact JS (h.BX _ (BG (d:=Mk) hj)).1
  ·rw[List.getD,ATP (by omega)];exact z
 have AA3:C0 (w.2.2.2.1.getD 0 0):=by
  by_cases hj:0<w.2.2.2.1.length
  ·have:=(EK.1 h.lost).2.1 _ (BG (d:=0) hj)
   have hc8:(AS w).1.length≤8:=k1;have AcF:0≤w.2.2.2.1.getD 0 0∧w.2.2.2.1.getD 0 0<(AS w).1.length:=this;exact PA (by omega)
  ·rw[List.getD,ATP (by omega)];exact z
 unfold Of;refine OK.px (fun _=>WT _ _ hi) (fun cF=> ?_);have hw0:0<w.AH.length:=by show 0<w.2.2.2.2.2.2.1.length;omega
 have hwr:∀i hh,GZ code i→OK code jY ((Ga w code i hh).bind fun ly=>
   some (((ly.1.1.1,ly.1.1.2.1,ly.1.1.2.2.1,ly.1.1.2.2.2.1,ly.1.1.2.2.2.2.1,()),()),((ly.2.1.1,ly.2.1.2.1,ly.2.1.2.2.1,()),()))):=fun i hh hi=>
  OK.bind (tp hc h hw0 hi) fun x i1 h1 y eZ hq=>OK.some eZ hq
 have SX:∀i hh,GZ code i→OK code jY ((Ky w code i hh).bind fun ly=>
   some (((ly.1.1.1,ly.1.1.2.1,ly.1.1.2.2.1,ly.1.1.2.2.2.1,ly.1.1.2.2.2.2.1,()),()),((ly.2.1.1,ly.2.1.2.1,ly.2.1.2.2.1,()),()))):=fun i hh hi=>
  OK.bind (xh hc h hi) fun x i1 h1 y eZ hq=>OK.some eZ hq
 rw[show(w.1,w.2.1,w.2.2.1,w.2.2.2.1,w.2.2.2.2.1,w.2.2.2.2.2.1,w.2.2.2.2.2.2.1,w.2.2.2.2.2.2.2.1,w.2.2.2.2.2.2.2.2.1,w.2.2.2.2.2.2.2.2.2.1,w.2.2.2.2.2.2.2.2.2.2.1,())=w from rfl];refine OK.bind (ag hc hi (by omega)) fun x2 i2 h2 y2 zW hq2=> ?_
 dsimp only;refine OK.cond (fun _=>WT _ _ zW) (fun _=> ?_);refine OK.bind (PZ hc zW (by omega)) fun x3 i3 h3 y3 hi3 hq3=> ?_
 dsimp only at*;have hx3:C0 x3.1:=PA (by omega)
 repeat' first
  |exact hwr _ _ (by assumption)
  |exact SX _ _ (by assumption)
  |(refine OK.pure (NJ (r:=B3 w) (by show w.2.2.2.2.1.length≤_;omega)) ?_;dsimp only)
  |(first|refine OK.some (by assumption) ?_|refine OK.iu (fun _=> ?_) (fun _=> ?_)|refine OK.px (fun _=> ?_) (fun _=> ?_)|refine OK.cond (fun _=> ?_) (fun _=> ?_)|refine OK.ite (by omega) ?_|(refine OK.bind (ag (by assumption) (by assumption) (by omega)) fun x i h y hi hq=> ?_;dsimp only)|(refine OK.bind (PZ (by assumption) (by assumption) (by omega)) fun x i h y hi hq=> ?_;dsimp only at*)|(refine OK.bind (uA (by assumption) (by assumption) (by simp) (by simp)) fun x i h y hi hq=> ?_;dsimp only)|(refine OK.pure ZO ?_;dsimp only)|(refine OK.pure KV ?_;dsimp only))
 all_goals refine⟨?_,?_,?_,AXQ _⟩
 all_goals first
  |exact z
  |exact hx3
  |exact ADT _
  |exact AA3
  |(refine PA ?_;dsimp only;omega)
end
end Go.M
end
section
set_option maxRecDepth 8000
namespace Go.M
open Go.M.H (AJ AO As Ac AA CN AQ A7 AM AY A3 Ax BC Al CJ Af AX Aa Ap B8 BJ Ar A0 EO CO Cv C_)
theorem eJ{s:AAO}{p:Int}:∀{l:List Ax} {b:Option AJ},(∀x,b=some x→ET x=true)→ ∀x,FX s p b l=some x→ET x=true
 |[],b,hb,x,h=>hb x h
 |a::l,b,hb,x,h=>by
  simp only[FX]at h;split at h
  ·rename_i hc
   simp only[AML]at hc;refine eJ (l:=l) ?_ x h
   intro z hz;split at hz
   ·rename_i z' hz'
    unfold better at hz;grind
   simp_all
  ·exact eJ (l:=l) hb x h
theorem ju{c:B9}{g:AQ}{sure:Int}{r:AY}{l:List Ax}(h:∀e∈r.2.2.1,e.2.2.1.length≤40)(h0:(Bz c g sure r l).2=0):∀e∈(Bz c g sure r l).1.2.2.1,e.2.2.1.length≤40:=by
 have app:∀(ev:A3),ev.2.2.1.length≤40→ ∀e∈r.2.2.1++[ev],e.2.2.1.length≤40:=fun ev hev e he=>by
  grind
 have hf:∀p,(HC p (FX (g.1.getD (r.1-1).toNat GJ).1 p none l)).2.2.1.length≤40:=fun p=>by
  cases hb:FX (g.1.getD (r.1-1).toNat GJ).1 p none l with
  |none=>show 0≤40;omega
  |some x=>
   have:=(FM.1 (eJ (b:=none) (fun x hx=>by cases hx) x hb)).len;unfold HC;dsimp only;split
   all_goals simp_all
 revert h0
 unfold Bz;dsimp only;split
 ·omega
 split
 ·omega
 split
 ·grind
 split
 ·grind
 split
 ·omega
 split
 all_goals grind
theorem BI{w:AA}{n:Int}{q:AO×Bool}:(putAt w n q).1.AR=w.AR:=by
 grind[putAt]
theorem uh{w:AA}{a k:Int}(h:RdS w):RdS (H8 w a k).1:=by
 unfold H8;split
 ·omega
 dsimp only;split
 ·omega
 rename_i h2;intro r hr;rcases ATR hr with hr|rfl
 ·exact h r hr
 ·refine ju ?_ (by omega)
  by_cases hl:a.toNat<w.AR.length
  ·exact h _ (BG hl)
  simp_all
theorem DX{w w':AA}(h:RdS w)(e:w'.AR=w.AR):RdS w':=by
 unfold RdS;rw[e];exact h
theorem ya{all:Bool}{w:AA}{d:BC}(h:RdS w):RdS (Li all w d).1:=by
 unfold Li;by_cases c:d.1=1
 ·rw[ALy c]
  grind[DX,L5,BI]
 rw[AMD c];clear c;by_cases c:d.1=2
 ·rw[ALy c]
  grind[DX,doAdd,BI]
 rw[AMD c];clear c;by_cases c:d.1=3
 ·rw[ALy c]
  grind[DX,IJ,BI]
 rw[AMD c];clear c;by_cases c:d.1=4
 ·rw[ALy c]
  grind[DX,Jj,BI]
 rw[AMD c];clear c;by_cases c:d.1=5
 ·rw[ALy c]
  grind[DX,IQ,BI]
 rw[AMD c];clear c;by_cases c:d.1=6
 ·rw[ALy c]
  grind[DX,ML,BI]
 rw[AMD c];clear c;by_cases c:d.1=7
 ·rw[ALy c]
  grind[DX,Lt,BI]
 rw[AMD c];clear c;by_cases c:d.1=8
 ·rw[ALy c]
  grind[DX,MC,BI]
 rw[AMD c];clear c;by_cases c:d.1=9
 ·rw[ALy c]
  grind[DX,MJ,BI]
 rw[AMD c];clear c;by_cases c:d.1=10
 ·rw[ALy c]
  grind[DX,MO,BI]
 rw[AMD c];clear c;by_cases c:d.1=11
 ·rw[ALy c]
  grind[DX,SN,BI]
 rw[AMD c];clear c;by_cases c:d.1=12
 ·rw[ALy c]
  grind[DX,IH,BI]
 rw[AMD c];clear c;by_cases c:d.1=13
 ·rw[ALy c]
  grind[DX,OO,BI]
 rw[AMD c];clear c;by_cases c:d.1=14
 ·rw[ALy c];exact uh h
 rw[AMD c];clear c;by_cases c:d.1=15
 ·rw[ALy c]
  grind[DX,M7,BI]
 rw[AMD c];grind[DX,IV,BI]
theorem q_{c:B9}{g:AQ}{sure:Int}{r:AY}{l:List Ax}(h:∀e∈r.2.2.1,C0 e.2.1)(h0:(Bz c g sure r l).2=0):∀e∈(Bz c g sure r l).1.2.2.1,C0 e.2.1:=by
 have app:∀(ev:A3),C0 ev.2.1→ ∀e∈r.2.2.1++[ev],C0 e.2.1:=fun ev hev e he=>by
  grind
 have hf:∀p b,(HC p b).2.1=p:=fun p b=>by
  cases b with
  |none=>rfl
  |some x=>grind[HC]
 revert h0
 unfold Bz;dsimp only;split
 ·omega
 rename_i Br;have AWc:Mc c g=true∧XF r=true:=by
  simp_all
 have hrg:=(Iz.1 AWc.1).tin;have Xn:=Qs.1 AWc.2;have hre:=Xn.ep;have hro:=Xn.off;split
 ·omega
 split
 ·grind
 split
 ·grind[PA]
 split
 ·omega
 split
 ·omega
 intro _;refine app _ ?_
 grind[C0,D1]
theorem ABo{w:AA}{a k:Int}(h:cj w):cj (H8 w a k).1:=by
 unfold H8;split
 ·omega
 dsimp only;split
 ·omega
 rename_i h2;intro r hr;rcases ATR hr with hr|rfl
 ·exact h r hr
 ·refine q_ ?_ (by omega)
  by_cases hl:a.toNat<w.AR.length
  ·exact h _ (BG hl)
  simp_all
theorem Fo{w w':AA}(h:cj w)(e:w'.AR=w.AR):cj w':=by
 unfold cj;rw[show w'.2.2.2.2.2.2.2.2.1=w.2.2.2.2.2.2.2.2.1 from e];exact h
theorem AH5{all:Bool}{w:AA}{d:BC}(h:cj w):cj (Li all w d).1:=by
 unfold Li;by_cases c:d.1=1
 ·rw[ALy c]
  grind[Fo,L5,BI]
 rw[AMD c];clear c;by_cases c:d.1=2
 ·rw[ALy c]
  grind[Fo,doAdd,BI]
 rw[AMD c];clear c;by_cases c:d.1=3
 ·rw[ALy c]
  grind[Fo,IJ,BI]
 rw[AMD c];clear c;by_cases c:d.1=4
 ·rw[ALy c]
  grind[Fo,Jj,BI]
 rw[AMD c];clear c;by_cases c:d.1=5
 ·rw[ALy c]
  grind[Fo,IQ,BI]
 rw[AMD c];clear c;by_cases c:d.1=6
 ·rw[ALy c]
  grind[Fo,ML,BI]
 rw[AMD c];clear c;by_cases c:d.1=7
 ·rw[ALy c]
  grind[Fo,Lt,BI]
 rw[AMD c];clear c;by_cases c:d.1=8
 ·rw[ALy c]
  grind[Fo,MC,BI]
 rw[AMD c];clear c;by_cases c:d.1=9
 ·rw[ALy c]
  grind[Fo,MJ,BI]
 rw[AMD c];clear c;by_cases c:d.1=10
 ·rw[ALy c]
  grind[Fo,MO,BI]
 rw[AMD c];clear c;by_cases c:d.1=11
 ·rw[ALy c]
  grind[Fo,SN,BI]
 rw[AMD c];clear c;by_cases c:d.1=12
 ·rw[ALy c]
  grind[Fo,IH,BI]
 rw[AMD c];clear c;by_cases c:d.1=13
 ·rw[ALy c]
  grind[Fo,OO,BI]
 rw[AMD c];clear c;by_cases c:d.1=14
 ·rw[ALy c];exact ABo h
 rw[AMD c];clear c;by_cases c:d.1=15
 ·rw[ALy c]
  grind[Fo,M7,BI]
 rw[AMD c];grind[Fo,IV,BI]
theorem zX{all:Bool}{w:AA}{d:BC}(h:cj w)(e:(CD all w d).2=0):cj (CD all w d).1:=by
 unfold CD at*;by_cases hc:(!Fg w|| !PM d)=true
 ·simp_all
 ·rw[AMD hc];exact AH5 h
theorem vn{c:B9}:cj (ER c):=fun r hr=>by
 have:r=(1,1,[],()):=by
  have hr':r∈([(1,1,[],()),(1,1,[],())]:List AY):=hr;simp_all
 simp_all
theorem rD{all:Bool}{w:AA}{d:BC}(h:RdS w)(e:(CD all w d).2=0):RdS (CD all w d).1:=by
 unfold CD at*;by_cases hc:(!Fg w|| !PM d)=true
 ·simp_all
 ·rw[AMD hc];exact ya h
theorem dp{c:B9}(hc:Ee c=true):NN (ER c)∧RdS (ER c):=by
 refine⟨⟨hc,by simp[ER,H.AA.Am],cf hc,.inr holds_nil,fun i hi=> ?_,⟨hc,by show 0≤30;omega,.inl rfl,fun e he=>(by cases he),fun i hi=>by exact absurd hi (by show¬i<0;omega)⟩,by show 0≤4;omega,by show 0≤1;omega,fun x hx=>(by cases hx),List.Pairwise.nil,fun x hx=>(by cases hx),rfl,fun r hr=> ?_,by show 0≤120;omega,fun x hx=>(by cases hx),List.Pairwise.nil⟩,fun r hr=> ?_⟩
 ·have:(ER c).Am.getD i Cl=Cl:=by
   show(List.replicate c.1.length Cl).getD i Cl=Cl
   grind
  rw[this];exact⟨fV.nil,fun _=>rfl⟩
 ·have:r=(1,1,[],()):=by
   have hr':r∈([(1,1,[],()),(1,1,[],())]:List AY):=hr;simp_all
  subst this;exact⟨by omega,by simp_all,by simp_all⟩
 ·have:r=(1,1,[],()):=by
   have hr':r∈([(1,1,[],()),(1,1,[],())]:List AY):=hr;simp_all
  simp_all
theorem k_{c:B9}(hc:Ee c=true):HP c=some (((((),c.2.1,(),(),(),0,(),(),(),(),false,()),true,()),()),(c.1,List.replicate c.1.length Cl,[],[],[],[],[(1,1,[],()),(1,1,[],())],[],())):=by
 have hl:=(GW hc).2.1;unfold HP;rw[show(c.1,c.2.1,())=c from rfl,HB (by omega),hc];simp only[AD,AMP,AMU];rw[ALy (by rw[BT];omega),ALy ⟨by omega,by omega,by rw[BT];omega⟩];rfl
section
variable{code:AAO} (hc:code.length≤2^30)
include hc
end
end Go.M
end
section
set_option maxRecDepth 8000
namespace Go.M
open Go.M.H (AJ AO As Ac AA CN AQ A7 AM AY A3 Ax BC Al CJ Af AX Aa Ap B8 BJ Ar A0 EO CO Cv C_)
def ACS(c:B9)(r:AQ):Prop:=zI c r∨r=([],0,())
theorem ACS.w{c:B9}{r:AQ}(h:ACS c r):Af B8 r.1≤270:=by
 rcases h with h|rfl
 ·exact h.w
 ·show 0≤270;omega
theorem ACS.n{c:B9}{r:AQ}(h:ACS c r):r.1.length≤30:=by
 rcases h with h|rfl
 ·exact h.n
 ·show 0≤30;omega
theorem ACS.tin{c:B9}{r:AQ}(h:ACS c r):C0 r.2.1:=by
 rcases h with h|rfl
 ·exact h.tin
 ·exact PA (by show-1000≤(0:Int)∧(0:Int)≤1000;omega)
section
variable{code:AAO} (hc:code.length≤2^30) {c:B9} (cO:c.1.length≤2^10)
include hc cO
end
section
variable{code:AAO} (hc:code.length≤2^30) {c:B9} (hcf:Ee c=true)
include hc hcf
end
end Go.M
end
section
set_option maxRecDepth 8000
namespace Go.M
open Go.M.H (AJ AO As Ac AA CN AQ A7 AM AY A3 Ax BC Al CJ Af AX Aa Ap B8 BJ Ar A0 EO CO Cv C_)
section
variable{code:AAO} (hc:code.length≤2^30)
include hc
def pkw(w:AA):Np:=((((),w.2.1,(),(),(),w.2.2.2.2.2.1,(),(),(),(),w.2.2.2.2.2.2.2.2.2.2.1,()),()),(w.1,w.2.2.1,w.2.2.2.1,w.2.2.2.2.1,w.2.2.2.2.2.2.1,w.2.2.2.2.2.2.2.1,w.2.2.2.2.2.2.2.2.1,w.2.2.2.2.2.2.2.2.2.1,()))
def OKW(o:Option Np):Prop:= ∃w,o=some (pkw w)∧gf w∧cj w
omit hc in
theorem OKW.bind{X Y:Type}{Q:X→Y→Prop}{o:Option (X×(ADE×Y))}{f:X×(ADE×Y)→Option Np}
  (ho:OK code Q o) (hf:∀x i h y,GZ code i→Q x y→OKW (f (x,((code,i,h,()),y)))):OKW (o.bind f):=by
 obtain⟨x,i,h,y,e,hi,hq⟩:=ho;rw[e];exact hf x i h y hi hq
omit hc in
theorem OKW.ite{p:Prop}[Decidable p]{x y:Option Np}(hp:p)(h1:OKW x):OKW (if p then x else y):=by
 rw[ALy hp];exact h1
omit hc in
theorem OKW.px{a b:Int}{x y:Option Np}(h1:a=b→OKW x)(h2:a≠b→OKW y):OKW (_root_.cond (a==b) x y):=by
 rw[DE];by_cases hp:a=b
 ·rw[ALy hp];exact h1 hp
 ·rw[AMD hp];exact h2 hp
end
end Go.M
end
