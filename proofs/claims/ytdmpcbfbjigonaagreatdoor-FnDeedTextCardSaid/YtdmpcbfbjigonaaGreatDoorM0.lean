/- Plain facts on what the functions compute. -/
import Derived.Test.YtdmpcbfbjigonaaGreatDoorG0
set_option linter.unusedVariables false
set_option linter.unusedSimpArgs false
set_option linter.unusedSectionVars false
section
namespace Go.M
theorem AE{α:Type}(p:Prop)[Decidable p](a b:α):cond (decide p) a b=if p then a else b:=by
 simp_all
theorem AG{x:Int}(h1: -9223372036854775808≤x)(h2:x<9223372036854775808):AX x=x:=by
 grind[AX,IntKind.wrap,IntKind.bits,IntKind.signed]
theorem ACH{x:Int}(h1:0≤x)(h2:x<256):w8 x=x:=by
 grind[w8,IntKind.wrap,IntKind.bits,IntKind.signed]
theorem uZ{n:Nat}(h:n<9223372036854775808):AX (n:Int)=n:=AG (by omega) (by omega)
theorem kf(n:Nat):(BitVec.ofInt 64 (n:Int)).toNat=n%2^64:=by
 rfl
theorem ZA{n:Nat}(h:n<2^63):IntKind.wrap .i64 (n:Int)=n:=uZ (by omega)
theorem mQ{a b:Nat}(ha:a<2^63)(hb:b<2^63):T4 .i64 a b=((a &&& b:Nat):Int):=by
 grind[T4,BitVec.ofInt,IntKind.bits,BitVec.toNat_and,kf,Nat.mod_eq_of_lt,ZA,Nat.lt_of_le_of_lt,Nat.and_le_left]
theorem A0{n:Nat}(h:n<2^64):n<Ar:=AFI h VV
theorem BC{α:Type}{l:List α}{i:Nat}{d:α}(h:i<l.length):l.getD ((i:Int).toNat) d=l[i]:=by
 simp_all
theorem drop_cons{α:Type}{l:List α}{i:Nat}(h:i<l.length):l.drop i=l[i]::l.drop (i+1):=(List.getElem_cons_drop h).symm
theorem Ao:Cg=68719476736:=rfl
end Go.M
end
section
namespace Go.M
def BX(x a b:Int):Bool:=decide (a≤x∧x≤b)
theorem An(x a b:Int):BE x a b=some ((BX x a b,()),()):=by
 unfold BE BX;grind
theorem LN(x a b:Int):KL x a b=some ((BX x a b,()),()):=An x a b
def Gf(x:ABD):Bool:=BX (x.1.length:Int) 1 8&&(BX x.2.1 1 4&&x.1.all fun d=>BX d 0 7)
theorem SB{l:AAQ}{c:Int}(hl:l.length≤2^40):∀(n i:Nat),i≤l.length→l.length-i<n→HA n i l c=some (((l.drop i).all fun d=>BX d 0 7,()),())
 |0,i,_,h=>by omega
 |n+1,i,hi,h=>by
  simp only[HA,Nf,AE];by_cases hc:i<l.length
  ·rw[AEA (by omega),AEA (by omega),BC hc,An,AG (by omega) (by omega),drop_cons hc]
   simp only[AEV,AGf];cases hb:BX l[i] 0 7 with
   |false=>simp
   |true=>
    simp only[AET,AEL,AEh];rw[show(((i:Nat):Int)+1)=((i+1:Nat):Int)by omega,SB hl n (i+1) (by omega) (by omega)]
  grind
theorem Dy{x:ABD}(hl:x.1.length≤2^40):DT x=some ((Gf x,()),()):=by
 unfold DT Na Gf;simp only[An,AEV];cases BX (x.1.length:Int) 1 8 with
 |false=>simp
 |true=>
  cases BX x.2.1 1 4 with
  |false=>simp
  |true=>
   grind[SB,Ar,A0]
theorem Ff{x:ABD}(h:Gf x=true):1≤x.1.length∧x.1.length≤8∧1≤x.2.1∧x.2.1≤4∧ ∀d∈x.1,0≤d∧d≤7:=by
 simp only[Gf,BX,AEF,AEK,AF5]at h;grind
end Go.M
end
section
namespace Go.M
def Bytes(b:AAQ):Prop:= ∀c∈b,0≤c∧c<256
end Go.M
end
section
namespace Go.M
abbrev Ev:Type:=Int×Int×List UInt8×Unit
abbrev Rdr:Type:=Int×Int×List Ev×Unit
def UG(x:Rdr):Bool:=BX x.1 1 31&&(BX x.2.1 1 61&&decide ((x.2.2.1.length:Int)≤120))
theorem L7(x:Rdr):Ho x=some ((UG x,()),()):=by
 grind[Ho,UG,An,BX]
end Go.M
end
section
namespace Go.M
def Ch(code:AAQ)(i:Int):Prop:=0≤i∧i≤code.length
theorem jE(x:Int):∃v:Int,T4 .i64 x 255=v∧0≤v∧v<256:=by
 refine⟨_,rfl,?_⟩;grind[T4,BitVec.ofInt,Go.IntKind.bits,BitVec.toNat_and,Nat.lt_of_le_of_lt,Nat.and_le_right,ZA]
section
variable{code:AAQ} (hc:code.length≤2^30)
include hc
theorem Q4{i h:Int}(hi:Ch code i):∃v i' h',HE code i h=some ((v,()),((code,i',h',()),()))∧0≤v∧v<256∧Ch code i':=by
 unfold HE;simp only[AE];obtain⟨h0,h1⟩:=hi;split
 ·rename_i Er
  rw[AEA ⟨h0,Er⟩,AG (x:=i+1) (by omega) (by omega)];obtain⟨v,e,v0,v1⟩:=jE (AX (T4 .i64 (wv .i64 ((AX (AX (h*6364136223846793005)+1442695040888963407)).fdiv (2^33)) ((AX (AX (h*6364136223846793005)+1442695040888963407)).fdiv (2^45))) 255+AX (code.getD i.toNat 0)));exact⟨v,i+1,_,by rw[e],v0,v1,by omega,by omega⟩
 ·obtain⟨v,e,v0,v1⟩:=jE (wv .i64 ((AX (AX (h*6364136223846793005)+1442695040888963407)).fdiv (2^33)) ((AX (AX (h*6364136223846793005)+1442695040888963407)).fdiv (2^45)))
  exact⟨v,i,_,by rw[e],v0,v1,h0,h1⟩
theorem GS{i h n:Int}(hi:Ch code i)(hn:n≤2^40):∃v i' h',AL n code i h=some ((v,()),((code,i',h',()),()))∧0≤v∧(0<n→v<n)∧(n≤0→v=0)∧Ch code i':=by
 unfold AL;simp only[AE];split
 ·grind
 ·split
  ·obtain⟨v,i1,h1,e,v0,v1,MT⟩:=Q4 hc (h:=h) hi
   rw[e];simp only[AEV];rw[AEB (by omega),AGw v0];exact⟨_,i1,h1,rfl,Int.emod_nonneg _ (by omega),fun _=>Int.emod_lt_of_pos _ (by omega),by omega,MT⟩
  ·obtain⟨v1,i1,h1,e1,a1,b1,MT⟩:=Q4 hc (h:=h) hi
   obtain⟨v2,i2,h2,e2,a2,b2,Sb⟩:=Q4 hc (h:=h1) MT;obtain⟨v3,i3,h3,e3,a3,b3,gd⟩:=Q4 hc (h:=h2) Sb;obtain⟨v4,i4,h4,e4,a4,b4,hi4⟩:=Q4 hc (h:=h3) gd;rw[e1];simp only[AEV];rw[e2];simp only[AEV];rw[e3];simp only[AEV];rw[e4];simp only[AEV];rw[AG (x:=v1*16777216) (by omega) (by omega),AG (x:=v2*65536) (by omega) (by omega),AG (x:=v3*256) (by omega) (by omega),AG (x:=v1*16777216+v2*65536) (by omega) (by omega),
    AG (x:=v1*16777216+v2*65536+v3*256) (by omega) (by omega),AG (by omega) (by omega),AEB (by omega),AGw (by omega)]
   exact⟨_,i4,h4,rfl,Int.emod_nonneg _ (by omega),fun _=>Int.emod_lt_of_pos _ (by omega),by omega,hi4⟩
theorem cK{i h n:Int}(hi:Ch code i)(hn:n≤2^40):∃v i' h',Al n code i h=some ((v,()),((code,i',h',()),()))∧Ch code i':=by
 unfold Al;obtain⟨v,i1,h1,e,_,_,_,MT⟩:=GS hc (h:=h) hi hn;rw[e];exact⟨_,i1,h1,rfl,MT⟩
theorem N3{i h:Int}{l:AAQ}(hi:Ch code i)(hl:l≠[])(hn:l.length≤2^30):∃v i' h',Ca l code i h=some ((v,()),((code,i',h',()),()))∧v∈l∧Ch code i':=by
 unfold Ca;have hp:=AHG.2 hl;obtain⟨v,i1,h1,e,v0,v1,_,MT⟩:=GS hc (h:=h) (n:=l.length) hi (by omega);grind
omit hc in
theorem jf{n:Nat}:∀(m i:Nat) (h:Int),i≤code.length→code.length-i<m→ ∃h',JZ m code h i=some (((),()),((code,0,h',()),()))
 |0,_,_,_,h=>by omega
 |m+1,i,h,hi,hm=>by
  simp only[JZ,Qv,AE];by_cases Er:i<code.length
  ·rw[AEA (by omega)]
   split
   ·rw[AEA (by omega),AG (x:=(i:Int)+1) (by omega) (by omega),show((i:Int)+1)=((i+1:Nat):Int)by omega]
    exact jf (n:=n) m (i+1) _ (by omega) (by omega)
   ·exact⟨_,rfl⟩
  ·rw[AEB (by omega)]
   exact⟨_,rfl⟩
theorem fU:∃h',Ob code=some (((),()),((code,0,h',()),())):=by
 unfold Ob Q0;exact jf (n:=0) Ar 0 _ (by omega) (A0 (by omega))
def RR(l:AAQ)(c:Int):Prop:=3≤l.length∧l.length≤7∧1≤c∧c≤3∧ ∀d∈l,0≤d∧d≤4
omit hc in
theorem RR.ok{l:AAQ}{c:Int}(h:RR l c):Gf (l,c,())=true:=by
 obtain⟨h1,h2,h3,h4,h5⟩:=h;simp only[Gf,BX,AEF,AEK,AF5];exact⟨by omega,by omega,fun d hd=>by have:=h5 d hd;omega⟩
theorem UI{N:Nat}(hN:3≤N∧N≤7){c:Int}(h1:1≤c∧c≤3){x1:Int}{x2:AAQ}:∀(n k:Nat) (i h:Int) (acc:AAQ),Ch code i→k≤N→N-k<n→acc.length=k→(∀d∈acc,0≤d∧d≤4)→
  ∃l c' i' h',El n N k code i h x1 x2 c acc=some ((((),c',()),()),((code,i',h',()),l,()))∧RR l c'∧Ch code i'
 |0,_,_,_,_,_,_,h,_,_=>by omega
 |n+1,k,i,h,acc,hi,hk,hn,hacc,hd=>by
  simp only[El,LO,AE];by_cases Er:k<N
  ·rw[AEA (by omega)]
   obtain⟨v,i1,sF,e,v0,v1,_,MT⟩:=GS hc (h:=h) (n:=5) hi (by omega);rw[e];simp only[AEV];rw[AEA (by rw[Ao];omega),AG (by omega) (by omega),show((k:Int)+1)=((k+1:Nat):Int)by omega];have:=v1 (by omega);exact UI hN h1 n (k+1) i1 sF _ MT (by omega) (by omega) (by simp[hacc]) (fun d ln=>by
    grind)
  ·rw[AEB (by omega)]
   obtain⟨v,i1,sF,e,MT⟩:=cK hc (h:=h) (n:=2) hi (by omega);rw[e];simp only[AEV];cases v
   ·exact⟨acc,c,i1,sF,rfl,⟨by omega,by omega,h1.1,h1.2,hd⟩,MT⟩
   ·exact⟨acc,2,i1,sF,rfl,⟨by omega,by omega,by omega,by omega,hd⟩,MT⟩
theorem ZK{i h:Int}(hi:Ch code i):∃l c' i' h',JK code i h=some ((((),c',()),()),((code,i',h',()),l,()))∧RR l c'∧Ch code i':=by
 unfold JK LG;obtain⟨v,i1,h1,e1,a1,b1,_,MT⟩:=GS hc (h:=h) (n:=3) hi (by omega);rw[e1];simp only[AEV];obtain⟨w,i2,h2,e2,a2,b2,_,Sb⟩:=GS hc (h:=h1) (n:=5) MT (by omega);rw[e2];simp only[AEV];have:=b1 (by omega);have:=b2 (by omega);rw[AG (by omega) (by omega),AG (by omega) (by omega)];obtain⟨N,hN⟩:∃N:Nat,3+w=(N:Int):=⟨(3+w).toNat,by omega⟩;rw[hN];exact UI hc (by omega) (by omega) Ar 0 i2 h2 [] Sb (by omega) (A0 (by omega)) rfl (by simp)
end
end Go.M
end
section
namespace Go.M.H
open Go.M
def Af{α:Type}(f:α→Nat):List α→Nat
 |[]=>0
 |x::l=>1+f x+Af f l
theorem AW{α:Type}{f:α→Nat}:∀{l:List α},l.length≤Af f l
 |[]=>AE7 _
 |x::l=>by
  have:=AW (f:=f) (l:=l);grind[Af,List.length_cons]
theorem Ac{α:Type}{f:α→Nat}{x:α}:∀{l:List α},x∈l→f x≤Af f l
 |y::l,h=>by
  simp only[Af];rcases AEd.1 h with rfl|h
  ·omega
  ·have:=Ac (f:=f) h
   omega
abbrev ADp:Type:=List Int
abbrev Dm(x:ADp):Nat:=x.length
abbrev AH:Type:=Int×Int×Bool×List UInt8×Unit
def Az(x:AH):Nat:=x.2.2.2.1.length
abbrev AN:Type:=List AH×List AH×Int×Unit
def Ax(x:AN):Nat:=Af Az x.1+Af Az x.2.1
abbrev Co:Type:=List Int×Bool×Int×Unit
def CN(x:Co):Nat:=x.1.length
abbrev AK:Type:=List Co×Int×Unit
abbrev BQ:Type:=List UInt8×List Int×Bool×Unit
def Bf(x:BQ):Nat:=x.1.length+x.2.1.length
abbrev AQ:Type:=Int×List BQ×Unit
def A4(x:AQ):Nat:=Af Bf x.2.1
abbrev A7:Type:=Int×Int×List Int×List AH×Bool×List AAQ×Unit
def Ce(x:A7):Nat:=x.2.2.1.length+Af Az x.2.2.2.1+Af Dm x.2.2.2.2.2.1
abbrev BO:Type:=Int×Int×List UInt8×Unit
def Cp(x:BO):Nat:=x.2.2.1.length
abbrev Aj:Type:=Int×Int×List BO×Unit
def Bq(x:Aj):Nat:=Af Cp x.2.2.1
abbrev A_:Type:=Int×Bool×Int×Int×Bool×List UInt8×Unit
abbrev A3:Type:=Int×List UInt8×Bool×Unit
def Ek(x:A3):Nat:=x.2.1.length
abbrev AA:Type:=List Int×Int×List AN×List Int×List Co×Int×List AQ×List A7×List Aj×List A3×Bool×Unit
def C1(x:AA):Nat:=x.1.length+Af Ax x.2.2.1+x.2.2.2.1.length+Af CN x.2.2.2.2.1+Af A4 x.2.2.2.2.2.2.1+Af Ce x.2.2.2.2.2.2.2.1+Af Bq x.2.2.2.2.2.2.2.2.1+Af Ek x.2.2.2.2.2.2.2.2.2.1
abbrev AR:Type:=Int×Int×Int×Int×List UInt8×Unit
end Go.M.H
end
section
namespace Go.M
def Dc(p:Nat→Bool)(i:Nat):Nat→Bool
 |0=>true
 |d+1=>p i&&Dc p (i+1) d
theorem LR{L:Nat→Int→Option (ABH×Unit)}{len:Nat}{p:Nat→Bool}{fin:Bool}(h1:∀n (i:Nat),i<len→L (n+1) i=cond (p i) (L n ((i+1:Nat):Int)) (some ((false,()),())))(h2:∀n,L (n+1) (len:Int)=some ((fin,()),())):
  ∀d n i,i+d=len→d<n→L n i=some ((Dc p i d&&fin,()),())
 |0,n,i,hd,h=>by
  obtain⟨m,rfl⟩:∃m,n=m+1:=⟨n-1,by omega⟩;have:i=len:=by omega
  subst this;rw[h2];rfl
 |d+1,n,i,hd,h=>by
  obtain⟨m,rfl⟩:∃m,n=m+1:=⟨n-1,by omega⟩;rw[h1 m i (by omega)];simp only[Dc];cases p i with
  |false=>rfl
  |true=>rw[AEb,LR h1 h2 d m (i+1) (by omega) (by omega)];rfl
theorem Kn{p:Nat→Bool}:∀{d i:Nat},Dc p i d=true→ ∀j,i≤j→j<i+d→p j=true
 |0,i,_,j,h1,h2=>by omega
 |d+1,i,h,j,h1,h2=>by
  simp only[Dc,AEF]at h;by_cases hj:j=i
  ·simp_all
  ·exact Kn h.2 j (by omega) (by omega)
theorem aW{p:Nat→Bool}:∀{d i:Nat},(∀j,i≤j→j<i+d→p j=true)→Dc p i d=true
 |0,_,_=>rfl
 |d+1,i,h=>by
  simp only[Dc,AEF];exact⟨h i (by omega) (by omega),aW fun j h1 h2=>h j (by omega) (by omega)⟩
def NF(x:Int):Int:=x.tdiv 4294967296
def Ay(x:Int):Bool:=BX (NF x) 1 30&&BX (x.tmod 4294967296) 1 60
def Ah(x:Int):Int:=if Ay x then NF x else 0
theorem Vn{x:Int}(h: -9223372036854775808≤x∧x<9223372036854775808):AX (x.tdiv 4294967296)=NF x:=by
 grind[NF,AG,Int.lt_or_le,Int.neg_tdiv,Int.tdiv_eq_ediv_of_nonneg]
theorem TF{x:Int}(h:Ay x=true):0<x∧x<2^40:=by
 simp only[Ay,BX,AEF,AEK]at h;grind[NF,Int.lt_or_le,Int.neg_tdiv,Int.tdiv_eq_ediv_of_nonneg,Int.tmod_eq_emod_of_nonneg]
def BB(x:Int):Prop:= -9223372036854775808≤x∧x<9223372036854775808
theorem C6{x:Int}(h:BB x):C8 x=some ((Ay x,()),()):=by
 unfold C8;rw[Vn h,AE];split
 ·grind[An,Ay,BX,NF]
 ·rename_i h0
  rcases AD8 (Ay x)with hp|hp
  ·exact absurd (TF hp).1 (by omega)
  ·rw[hp]
theorem Jk{x:Int}(h:BB x):HT x=some ((Ay x,()),()):=by
 unfold HT Kj Oi;rw[Vn h];grind[LN,Ay,BX,NF]
theorem CO{x:Int}(h:BB x):Bd x=some ((Ah x,()),()):=by
 unfold Bd Ah;rw[C6 h,Vn h];grind
theorem YQ{x:Int}(h:BB x):OB x=some ((Ah x,()),()):=by
 unfold OB Ah;rw[Jk h,Vn h];grind
def hU(l:AAQ)(hi:Int)(i:Nat):Bool:=BX (l.getD i 0) 0 hi&&(i==0||decide (l.getD (i-1) 0<l.getD i 0))
def dN(l:AAQ)(hi:Int):Bool:=Dc (hU l hi) 0 l.length
theorem UB{l:AAQ}{hi:Int}(hl:l.length≤2^40):On l 0 hi=some ((dN l hi,()),()):=by
 unfold On Q9 dN;rw[←AGt (Dc _ _ _)];refine LR (L:=fun n i=>Hq n l 0 hi i) (len:=l.length) (p:=hU l hi) (fin:=true) (fun n i Dg=> ?_) (fun n=> ?_) l.length Ar 0 (by omega) (A0 (by omega))
 ·simp only[Hq,L_,AE]
  rw[AEA (by omega),AEA (by omega),An,AG (x:=(i:Int)+1) (by omega) (by omega)];simp only[AEV,AEq,hU];cases BX (l.getD i 0) 0 hi with
  |false=>rfl
  |true=>
   simp only[AET,AEL,AEh];by_cases h0:i=0
   ·simp_all
   ·rw[AEA (by omega),AG (by omega) (by omega),AEA (by omega),AEA (by omega)]
    have h1:((i:Int)-1).toNat=i-1:=by omega
    have h2:(i==0)=false:=by simp_all
    rw[h1,h2,AGO];grind
 ·simp only[Hq,L_,AE]
  simp_all
theorem eU{l:AAQ}{hi:Int}(h:dN l hi=true):∀x∈l,0≤x∧x≤hi:=fun x hx=>by
 obtain⟨i,Dg,rfl⟩:=AFr hx;have:=Kn h i (by omega) (by omega);simp only[hU,BX,AEF,AEK]at this;simp_all
theorem ja{l:AAQ}{hi:Int}(h:dN l hi=true):∀i,i<l.length→(i:Int)≤l.getD i 0
 |0,hl=>by
  have:=Kn h 0 (by omega) (by omega);simp only[hU,BX,AEF,AEK]at this;omega
 |i+1,hl=>by
  have h1:=ja h i (by omega);have:=Kn h (i+1) (by omega) (by omega);simp only[hU,AEF,AF6,AEK]at this;grind
theorem mD{l:AAQ}{hi:Int}(h:dN l hi=true)(h0:0≤hi+1):(l.length:Int)≤hi+1:=by
 by_cases hl:l.length=0
 ·omega
 ·have h1:=ja h (l.length-1) (by omega)
  have h2:=eU h (l.getD (l.length-1) 0) (by
   grind)
  omega
def BA(c:ABD)(l:AAQ):Bool:=Gf c&&dN l ((c.1.length:Int)-1)
theorem Dn{c:ABD}{l:AAQ}(hc:c.1.length≤2^40)(hl:l.length≤2^40):DX c l=some ((BA c l,()),()):=by
 unfold DX BA;rw[show(c.1,c.2.1,())=c from rfl,Dy hc,AG (by omega) (by omega)];simp only[AEV];cases Gf c with
 |false=>rfl
 |true=>
  rw[AEb,UB hl];rfl
theorem eG{c:ABD}{l:AAQ}(h:BA c l=true):Gf c=true∧c.1.length≤8∧l.length≤8∧(∀x∈l,0≤x∧x<c.1.length)∧ ∀d∈c.1,0≤d∧d≤7:=by
 simp only[BA,AEF]at h;obtain⟨k1,k2,k3,k4,k5⟩:=Ff h.1;have h1:=mD h.2 (by omega);exact⟨h.1,k2,by omega,fun x hx=>by have:=eU h.2 x hx;omega,k5⟩
def Zi(c:AAQ):List Int→List Int→List Int
 |[],acc=>acc
 |n::l,acc=>Zi c l (if acc.contains (c.getD n.toNat 0)then acc else acc++[c.getD n.toNat 0])
def Uc(c:AAQ)(l:AAQ):Nat:=(Zi c l []).length
theorem gb{s:List Bool}{k j:Nat}{b:Bool}(h:k<s.length):(s.set k b).getD j false=if k=j then b else s.getD j false:=by
 grind
theorem QF{c:AAQ}{q:Int}{l:AAQ}(hl:l.length≤8)(hd:∀d∈c,0≤d∧d≤7)(hm:∀x∈l,0≤x∧x<c.length):∀(n i:Nat) (acc:AAQ) (s:List Bool),i≤l.length→l.length-i<n→acc.length≤i→s.length=8→
  (∀j:Nat,j<8→s.getD j false=acc.contains (j:Int))→
  Iw n l acc.length i c q s=some ((((Zi c (l.drop i) acc).length:Int),()),())
 |0,i,_,_,_,h,_,_,_=>by omega
 |n+1,i,acc,s,hi,h,ha,hs,hj=>by
  simp only[Iw,P7,AE];by_cases hc:i<l.length
  ·have hx:=hm _ (AEa hc)
   rw[AEA (by omega),AEA (by omega),BC hc,drop_cons hc]
   generalize l[i]=x at hx
   rw[AEA (by omega)];have AEo:0≤c.getD x.toNat 0∧c.getD x.toNat 0≤7:=by
    simp_all
   simp only[Zi]
   generalize c.getD x.toNat 0=d at AEo
   rw[AEA (by omega),AG (x:=(i:Int)+1) (by omega) (by omega),show((i:Int)+1)=((i+1:Nat):Int)by omega];have hsd:s.getD d.toNat false=acc.contains d:=by
    grind
   rw[hsd];cases hcon:acc.contains d with
   |true=>
    simp only[AET,AEL,AGG];exact QF hl hd hm n (i+1) acc s (by omega) (by omega) (by omega) hs hj
   |false=>
    simp only[AGP,AEb,AER,AFJ];rw[AEA (by omega),AG (by omega) (by omega)];have:=QF (q:=q) hl hd hm n (i+1) (acc++[d]) (s.set d.toNat true) (by omega) (by omega) (by simp_all) (by simp_all) (fun j hj8=>by
     rw[gb (by omega),hj j hj8];grind)
    simp_all
  ·rw[AEB (by omega)]
   grind[Zi]
theorem Ta{c:ABD}{l:AAQ}(h:BA c l=true):Me c l=some (((Uc c.1 l:Int),()),()):=by
 obtain⟨k1,k2,k3,k4,k5⟩:=eG h;unfold Me Pz;have:=QF (c:=c.1) (q:=c.2.1) k3 k5 k4 Ar 0 [] (List.replicate 8 false) (by omega) (A0 (by omega)) (by simp) (by simp) (fun j hj=>by
  grind)
 grind[Uc]
def holds(c:ABD)(l:AAQ):Bool:=BA c l&&decide ((Uc c.1 l:Int)≥c.2.1)
theorem Cf{c:ABD}{l:AAQ}(hc:c.1.length≤2^40)(hl:l.length≤2^40):Cr c l=some ((holds c l,()),()):=by
 unfold Cr holds;rw[show(c.1,c.2.1,())=c from rfl,Dn hc hl];simp only[AEV];cases h:BA c l with
 |false=>rfl
 |true=>
  rw[AEb,Ta h];rfl
theorem MZ{c:ABD}{l:AAQ}(h:holds c l=true):BA c l=true:=by
 simp only[holds,AEF]at h;exact h.1
end Go.M
end
section
namespace Go.M
open Go.M.H (Co AK BQ AQ Af AW Ac CN Bf A4)
abbrev B_:Type:=List Int×Int×Unit
def Gg:Co:=([],false,0,())
def gz(c:B_)(e:Co):Bool:=holds c e.1&&(BX e.2.2.1 0 60&&(e.2.1||e.2.2.1==0))
def nD(c:B_)(l:List Co)(i:Nat):Bool:=
 gz c (l.getD i Gg)&& !((l.getD i Gg).2.1&&(decide (i+1=l.length)||(decide (0<i)&& !(l.getD (i-1) Gg).2.1)))
def ib(r:AK):Bool:=r.2.1==0||(Ay r.2.1&&decide (Ah r.2.1≤r.1.length))
def NY(c:B_)(r:AK):Bool:=Gf c&&(decide (r.1.length≤30)&&(ib r&&Dc (nD c r.1) 0 r.1.length))
theorem Bg{α:Type}{l:List α}{i:Nat}{d:α}(h:i<l.length):l.getD i d∈l:=by
 simp_all
theorem YE{c:B_}{l:List Co}{tr:Int}(hc:c.1.length≤2^40)(hl:Af CN l≤2^30):GX Ar l.length 0 c.1 c.2.1 l tr=some ((Dc (nD c l) 0 l.length,()),()):=by
 have hll:=AW (f:=CN) (l:=l);rw[←AGt (Dc _ _ _)];refine LR (L:=fun n i=>GX n l.length i c.1 c.2.1 l tr) (len:=l.length) (p:=nD c l) (fin:=true) (fun n i hi=> ?_) (fun n=> ?_) l.length Ar 0 (by omega) (A0 (by omega))
 ·have hm:=Ac (f:=CN) (Bg (d:=Gg) hi)
  simp only[CN]at hm;simp only[GX,L0,AE];rw[AEA (by omega),AEA (by omega),show(c.1,c.2.1,())=c from rfl,AEq,show(([],false,0,()):Co)=Gg from rfl,Cf hc (by omega),An,AG (x:=(i:Int)+1) (by omega) (by omega),
   AG (x:=(l.length:Int)-1) (by omega) (by omega),AG (x:=(i:Int)-1) (by omega) (by omega),show((i:Int)+1)=((i+1:Nat):Int)by omega]
  simp only[AEV,nD,gz];have e1:((i:Int)==(l.length:Int)-1)=decide (i+1=l.length):=by
   grind
  have e2:(((i:Int)-1).toNat)=i-1:=by omega
  grind
 ·simp only[GX,L0,AE]
  simp_all
theorem Jc{c:B_}{r:AK}(hc:c.1.length≤2^40)(hl:Af CN r.1≤2^30)(ht:BB r.2.1):HI c r=some ((NY c r,()),()):=by
 unfold HI Qs NY ib;rw[show(c.1,c.2.1,())=c from rfl,Dy hc,YE hc hl,C6 ht,CO ht];grind
end Go.M
end
section
namespace Go.M
open Go.M.H (Co AK BQ AQ Af AW Ac CN Bf A4)
def Of:BQ:=([],[],false,())
def Ye(c:B_)(e:BQ):Bool:=decide (e.1.length≤40)&&(BA c e.2.1&&(e.2.2.1==holds c e.2.1))
def Mx:List BQ→Nat
 |[]=>0
 |e::l=>cond e.2.2.1 0 1+Mx l
def le6(n:Nat):Bool:=decide (n≤6)
theorem r8(o:Nat):decide ((o:Int)≤6)=le6 o:=by
 grind[le6]
def G2(c:B_)(w:AQ):Bool:=Gf c&&(BX w.1 1 30&&(decide (w.2.1.length≤60)&&(w.2.1.all (Ye c)&&le6 (Mx w.2.1))))
theorem SN{c:B_}{ep:Int}{l:List BQ}(hc:c.1.length≤2^40)(hl:Af Bf l≤2^30):∀(n i o:Nat),i≤l.length→l.length-i<n→o≤i→
  G5 n o i c.1 c.2.1 ep l=some (((l.drop i).all (Ye c)&&le6 (o+Mx (l.drop i)),()),())
 |0,i,_,_,h,_=>by omega
 |n+1,i,o,hi,h,ho=>by
  have hll:=AW (f:=Bf) (l:=l);simp only[G5,NZ,AE];by_cases cq:i<l.length
  ·have hm:=Ac (f:=Bf) (AEa cq)
   rw[AEA (by omega),AEA (by omega),BC cq,drop_cons cq];have ih:=fun o=>SN (ep:=ep) hc hl n (i+1) o (by omega) (by omega)
   generalize l[i]=e at hm
   simp only[Bf]at hm;rw[show(c.1,c.2.1,())=c from rfl,Dn hc (by omega),Cf hc (by omega),AG (x:=(i:Int)+1) (by omega) (by omega),AG (x:=(o:Int)+1) (by omega) (by omega),show((i:Int)+1)=((i+1:Nat):Int)by omega,show((o:Int)+1)=((o+1:Nat):Int)by omega];simp only[AEV,AGf,Ye,Mx];by_cases h40:e.1.length≤40
   ·rw[AEB (by omega),AFM h40,ih o (by omega),ih (o+1) (by omega)]
    cases BA c e.2.1 with
    |false=>rfl
    |true=>
     cases hd:e.2.2.1 with
     |true=>
      grind
     |false=>
      grind
   grind
  ·rw[AEB (by omega)]
   grind[Mx,r8]
theorem Gr{c:B_}{w:AQ}(hc:c.1.length≤2^40)(hl:Af Bf w.2.1≤2^30):D7 c w=some ((G2 c w,()),()):=by
 have hll:=AW (f:=Bf) (l:=w.2.1);unfold D7 NU G2;have h:=SN (ep:=w.1) hc hl Ar 0 0 (by omega) (A0 (by omega)) (by omega);rw[show((0:Nat):Int)=0 from rfl]at h;rw[show(c.1,c.2.1,())=c from rfl,Dy hc,An,h];grind
end Go.M
end
section
namespace Go.M
open Go.M.H (AH AN A7 A3 AA Co AK BQ AQ Aj BO Af AW Ac Az Ax Ce Ek C1 CN Bf A4 Bq Cp)
theorem qw(a b:Int):decide (a≤b)= !decide (b<a):=by
 grind
theorem vR(n k:Nat):decide ((n:Int)>(k:Int))= !decide (n≤k):=by
 grind
def CY(x:Int):Int:=cond (Ay x) (x.tmod 4294967296) 0
theorem MV{x:Int}(h:BB x):DY x=some ((CY x,()),()):=by
 grind[DY,CY,C6,Ay]
theorem bO{x:Int}(h:BB x):Rt x=some ((CY x,()),()):=by
 grind[Rt,CY,Jk,Ay]
abbrev Db:AH:=(0,0,false,[],())
def Ea(e:AH):Bool:=Ay e.1&&(BX e.2.1 0 30&&((!decide (e.2.1>0)||decide (Ah e.1<e.2.1))&&(decide (e.2.2.2.1.length≤40)&&(!e.2.2.1||(decide (e.2.1>0)&&e.2.2.2.1==[])))))
theorem Jm{e:AH}(h:BB e.1):HQ e=some ((Ea e,()),()):=by
 unfold HQ Ea;grind[C6,An,CO,qw,Ah,decide,vR,Ay,BX]
def Qq(l:List AH):Bool:=Dc (fun i=>Ea (l.getD i Db)) 0 l.length
def eN(l:List AH):Bool:=Dc (fun i=>i==0||decide ((l.getD (i-1) Db).1<(l.getD i Db).1)) 0 l.length
def kQ(l:List AH):Prop:= ∀e∈l,BB e.1
theorem kQ.getD{l:List AH}(h:kQ l){i:Nat}(hi:i<l.length):BB (l.getD i Db).1:=h _ (Bg hi)
theorem Sm{l:List AH}{k:Nat}(hl:l.length≤2^40)(h:kQ l):Mf l k=some ((decide (l.length≤k)&&Qq l,()),()):=by
 unfold Mf P_;have:=LR (L:=fun n i=>Gt n l i) (len:=l.length) (p:=fun i=>Ea (l.getD i Db)) (fin:=true) (fun n i hi=>by
  simp only[Gt,LK,AE];rw[AEA (by omega),AEA (by omega),AG (by omega) (by omega),show((i:Int)+1)=((i+1:Nat):Int)by omega];simp only[AEq];rw[show((l.getD i (0,0,false,[],())).1,(l.getD i (0,0,false,[],())).2.1,(l.getD i (0,0,false,[],())).2.2.1,(l.getD i (0,0,false,[],())).2.2.2.1,())=l.getD i Db from rfl,Jm (h.getD hi)];simp_all) (fun n=>by
  simp only[Gt,LK,AE];simp_all) l.length Ar 0 (by omega) (A0 (by omega))
 rw[show((0:Nat):Int)=0 from rfl]at this;rw[this,vR,AGt];cases decide (l.length≤k)<;>rfl
theorem UE{l:List AH}(hl:l.length≤2^40):Oz l=some ((eN l,()),()):=by
 unfold Oz Qo eN;have h1:∀n (i:Nat),0<i→i<l.length→DU (n+1) l i=cond (i==0||decide ((l.getD (i-1) Db).1<(l.getD i Db).1)) (DU n l ((i+1:Nat):Int)) (some ((false,()),())):=fun n i h0 hi=>by
  simp only[DU,I5,AE];rw[AEA (by omega),AG (x:=(i:Int)-1) (by omega) (by omega),AEA (by omega),AEA (by omega),AG (by omega) (by omega),show((i:Int)+1)=((i+1:Nat):Int)by omega];have h1:((i:Int)-1).toNat=i-1:=by omega
  have h2:(i==0)=false:=by grind
  rw[h1,h2,AEq,AGO];grind
 cases hlen:l.length with
 |zero=>
  obtain⟨m,hm⟩:∃m,Ar=m+1:=⟨Ar-1,by have:=VV;omega⟩;rw[hm];simp only[DU,I5,AE];rw[AEB (by omega)];rfl
 |succ k=>
  have:=LR (L:=fun n i=>if(0:Int)<i then DU n l i else cond (decide (0<n)) (DU (n-1) l 1) none) (len:=l.length) (p:=fun i=>i==0||decide ((l.getD (i-1) Db).1<(l.getD i Db).1)) (fin:=true) (fun n i hi=>by
   simp_all) (fun n=>by
   rw[AEA (by omega)];simp only[DU,I5,AE];simp_all) l.length (Ar+1) 0 (by omega) (by have:=VV;omega)
  simp_all
def Ck(s:AN):Bool:=(decide (s.1.length≤200)&&Qq s.1)&&((decide (s.2.1.length≤20)&&Qq s.2.1)&&(eN s.1&&BX s.2.2.1 0 30))
def lh(s:AN):Prop:=kQ s.1∧kQ s.2.1
theorem C9{s:AN}(hl:Ax s≤2^30)(h:lh s):De s=some ((Ck s,()),()):=by
 have l1:=AW (f:=Az) (l:=s.1);have l2:=AW (f:=Az) (l:=s.2.1);unfold Ax at hl;have e1:=Sm (l:=s.1) (k:=200) (by omega) h.1;have e2:=Sm (l:=s.2.1) (k:=20) (by omega) h.2;rw[show((200:Nat):Int)=200 from rfl]at e1;rw[show((20:Nat):Int)=20 from rfl]at e2;grind[De,Ck,UE,An,decide,Qq,eN]
end Go.M
end
section
namespace Go.M
open Go.M.H (AH AN A7 A3 AA Co AK BQ AQ Aj BO Af AW Ac Az Ax Ce Ek C1 CN Bf A4 Bq Cp Dm)
theorem Wp{L:Nat→Int→Option (ABH×Unit)}{len N:Nat}{p:Nat→Bool}{fin:Bool}(h1:∀n (i:Nat),i<len→L (n+1) i=cond (p i) (L n ((i+1:Nat):Int)) (some ((false,()),())))(h2:∀n,N≤n→L (n+1) (len:Int)=some ((fin,()),())):
  ∀d n i,i+d=len→d+N<n→L n i=some ((Dc p i d&&fin,()),())
 |0,n,i,hd,h=>by
  obtain⟨m,rfl⟩:∃m,n=m+1:=⟨n-1,by omega⟩;have:i=len:=by omega
  subst this;rw[h2 m (by omega)];rfl
 |d+1,n,i,hd,h=>by
  obtain⟨m,rfl⟩:∃m,n=m+1:=⟨n-1,by omega⟩;rw[h1 m i (by omega)];simp only[Dc];cases p i with
  |false=>rfl
  |true=>rw[AEb,Wp h1 h2 d m (i+1) (by omega) (by omega)];rfl
def KJ(l:List AH):Int:=cond (l.length==0) 0 (CY (l.getD (l.length-1) Db).1)
theorem TY{m:A7}(hl:m.2.2.2.1.length≤2^40)(h:kQ m.2.2.2.1):KA m=some ((KJ m.2.2.2.1,()),()):=by
 unfold KA KJ;by_cases h0:m.2.2.2.1.length=0
 ·simp[h0]
 ·have e1:((m.2.2.2.1.length:Int)==0)=false:=by simp_all
  have e2:(m.2.2.2.1.length==0)=false:=by simp_all
  rw[e1,e2];simp only[AEL];rw[AG (by omega) (by omega),AEA (by omega),show((m.2.2.2.1.length:Int)-1).toNat=m.2.2.2.1.length-1 by omega,MV (h.getD (by omega))];rfl
def jw(l:List AH)(ep by_:Int)(i:Nat):Bool:=Ea (l.getD i Db)&&((Ah (l.getD i Db).1==ep)&&decide ((l.getD i Db).2.1<by_))
def vO(l:List AH)(ep by_:Int):Bool:=Dc (jw l ep by_) 0 l.length
def dm(c:B_)(l:List AAQ):Bool:=Dc (fun i=>BA c (l.getD i [])) 0 l.length
def H3(c:B_)(m:A7):Bool:=Gf c&&(BX m.2.1 1 30&&(BX m.1 (m.2.1+1) 30&&(BA c m.2.2.1&&(eN m.2.2.2.1&&(vO m.2.2.2.1 m.2.1 m.1&&(dm c m.2.2.2.2.2.1&&((m.2.2.2.2.2.1.length:Int)==cond m.2.2.2.2.1 (KJ m.2.2.2.1) 0)))))))
theorem Fi{c:B_}{m:A7}(hc:c.1.length≤2^40)(hm:Ce m≤2^30)(h:kQ m.2.2.2.1):E8 c m=some ((H3 c m,()),()):=by
 have l1:=AW (f:=Az) (l:=m.2.2.2.1);have l2:=AW (f:=Dm) (l:=m.2.2.2.2.2.1);unfold Ce at hm;have wr:∀n,m.2.2.2.2.2.1.length+1≤n→EK n 0 c.1 c.2.1 m.1 m.2.1 m.2.2.1 m.2.2.2.1 m.2.2.2.2.1 m.2.2.2.2.2.1=some ((dm c m.2.2.2.2.2.1&&((m.2.2.2.2.2.1.length:Int)==cond m.2.2.2.2.1 (KJ m.2.2.2.1) 0),()),()):=fun n hn=>by
  refine LR (L:=fun n i=>EK n i c.1 c.2.1 m.1 m.2.1 m.2.2.1 m.2.2.2.1 m.2.2.2.2.1 m.2.2.2.2.2.1) (len:=m.2.2.2.2.2.1.length) (p:=fun i=>BA c (m.2.2.2.2.2.1.getD i [])) (fin:=(m.2.2.2.2.2.1.length:Int)==cond m.2.2.2.2.1 (KJ m.2.2.2.1) 0) (fun n i hi=> ?_) (fun n=> ?_) m.2.2.2.2.2.1.length n 0 (by omega) (by omega)
  ·have hwi:(m.2.2.2.2.2.1.getD i []).length≤Af Dm m.2.2.2.2.2.1:=Ac (f:=Dm) (Bg (d:=[]) hi)
   simp only[EK,LL,AE];rw[AEA (by omega),AEA (by omega),AG (by omega) (by omega),show((i:Int)+1)=((i+1:Nat):Int)by omega,AEq,show(c.1,c.2.1,())=c from rfl,Dn hc (by omega)];simp_all
  ·simp only[EK,LL,AE]
   rw[AEB (by omega),show(m.1,m.2.1,m.2.2.1,m.2.2.2.1,m.2.2.2.2.1,m.2.2.2.2.2.1,())=m from rfl,TY (by omega) h];grind
 have se:=Wp (L:=fun n i=>Fa n i c.1 c.2.1 m.1 m.2.1 m.2.2.1 m.2.2.2.1 m.2.2.2.2.1 m.2.2.2.2.2.1) (len:=m.2.2.2.1.length) (N:=m.2.2.2.2.2.1.length+1) (p:=jw m.2.2.2.1 m.2.1 m.1) (fin:=dm c m.2.2.2.2.2.1&&((m.2.2.2.2.2.1.length:Int)==cond m.2.2.2.2.1 (KJ m.2.2.2.1) 0)) (fun n i hi=>by
   simp only[Fa,K4,AE,jw];have hb:(0:Int)≤(i:Int)∧(i:Int)<(m.2.2.2.1.length:Int):=by omega
   rw[AEA hb.2,AG (by omega) (by omega),show((i:Int)+1)=((i+1:Nat):Int)by omega,AEq];simp only[AEA hb];rw[show((m.2.2.2.1.getD i (0,0,false,[],())).1,(m.2.2.2.1.getD i (0,0,false,[],())).2.1,(m.2.2.2.1.getD i (0,0,false,[],())).2.2.1,(m.2.2.2.1.getD i (0,0,false,[],())).2.2.2.1,())=m.2.2.2.1.getD i Db from rfl,Jm (h.getD hi),CO (h.getD hi)];grind) (fun n hn=>by
   simp only[Fa,K4,AE];simp_all) m.2.2.2.1.length Ar 0 (by omega) (A0 (by omega))
 rw[show((0:Nat):Int)=0 from rfl]at se;unfold E8 P1 H3;rw[show(c.1,c.2.1,())=c from rfl,Dy hc,An,An,Dn hc (by omega),UE (by omega),se];simp only[AEV];rcases AD8 (BX m.2.1 1 30)with hi|hi
 ·have Sb:=hi
  simp only[BX,AEK]at Sb;rw[AG (by omega) (by omega),hi];cases Gf c<;>cases BX m.1 (m.2.1+1) 30<;>cases BA c m.2.2.1<;>cases eN m.2.2.2.1<;>rfl
 simp_all
end Go.M
end
section
namespace Go.M
open Go.M.H (AH AN A7 A3 AA Co AK BQ AQ Aj BO Af AW Ac Az Ax Ce Ek C1 CN Bf A4 Bq Cp Dm)
theorem GM{l:AAQ}{x:Int}(hl:l.length≤2^40):Bu l x=some ((l.contains x,()),()):=by
 have key:∀(n i:Nat),i≤l.length→l.length-i<n→Ja n l x i=some (((l.drop i).contains x,()),()):=by
  intro n
  induction n with
  |zero=>omega
  |succ n ih=>
   intro i hi h;simp only[Ja,Q5,AE];by_cases hc:i<l.length
   ·rw[AEA (by omega),AEA (by omega),AG (by omega) (by omega),show((i:Int)+1)=((i+1:Nat):Int)by omega,BC hc,drop_cons hc,ih (i+1) (by omega) (by omega)]
    simp only[List.contains_cons];by_cases he:l[i]=x
    all_goals grind
   grind
 grind[Bu,Qg,Ar,A0]
def TT(l:List Co):Nat→Nat→Int
 |_,0=>0
 |i,d+1=>cond (!(l.getD i ([],false,0,())).2.1) ((i:Int)+1) (TT l (i+1) d)
def BF(l:List Co):Int:=TT l 0 l.length
theorem H9{r:AK}(hl:r.1.length≤2^40):FY r=some ((BF r.1,()),()):=by
 have key:∀(d n i:Nat),i+d=r.1.length→d<n→EU n i r.1 r.2.1=some ((TT r.1 i d,()),()):=by
  intro d
  induction d with
  |zero=>
   intro n i hi hn;obtain⟨m,rfl⟩:∃m,n=m+1:=⟨n-1,by omega⟩;simp only[EU,Iu,AE,TT];simp_all
  |succ d ih=>
   intro n i hi hn;obtain⟨m,rfl⟩:∃m,n=m+1:=⟨n-1,by omega⟩;simp only[EU,Iu,AE,TT];rw[AEA (by omega),AEA (by omega),AG (by omega) (by omega),show((i:Int)+1)=((i+1:Nat):Int)by omega,ih m (i+1) (by omega) (by omega),AEq];grind
 grind[FY,Mj,BF,Ar,A0]
structure mi (w:AA):Prop where
 weight:C1 w≤2^20
 Av:∀s∈w.2.2.1,lh s
 trim:BB w.2.2.2.2.2.1
 Bp:∀m∈w.2.2.2.2.2.2.2.1,kQ m.2.2.2.1
 AFo:∀s∈w.2.2.2.2.2.2.2.2.2.1,BB s.1
abbrev DO:AN:=([],[],0,())
abbrev CL:AQ:=(0,[],())
abbrev PL:A7:=(0,0,[],[],false,[],())
abbrev H6:Aj:=(0,0,[],())
abbrev Oa:A3:=(0,[],false,())
def Ae(w:AA):B_:=(w.1,w.2.1,())
def CK(w:AA):AK:=(w.2.2.2.2.1,w.2.2.2.2.2.1,())
def dc(w:AA)(i:Nat):Bool:=Ck (w.2.2.1.getD i DO)&&(!w.2.2.2.1.contains (i:Int)||((w.2.2.1.getD i DO).1.length==0&&((w.2.2.1.getD i DO).2.1.length==0&&(w.2.2.1.getD i DO).2.2.1==0)))
def Yc(w:AA)(i:Nat):Bool:=G2 (Ae w) (w.2.2.2.2.2.2.1.getD i CL)&&(decide ((w.2.2.2.2.2.2.1.getD i CL).1≤(w.2.2.2.2.1.length:Int))&&(i==0||decide ((w.2.2.2.2.2.2.1.getD (i-1) CL).1<(w.2.2.2.2.2.2.1.getD i CL).1)))
def jK(w:AA)(i:Nat):Bool:=H3 (Ae w) (w.2.2.2.2.2.2.2.1.getD i PL)&&(((w.2.2.2.2.2.2.2.1.getD i PL).1==(w.2.2.2.2.1.length:Int))&&((w.2.2.2.2.2.2.2.1.getD i PL).2.1==BF w.2.2.2.2.1))
def jl(w:AA)(i:Nat):Bool:=(Ay (w.2.2.2.2.2.2.2.2.2.1.getD i Oa).1&&decide (Ah (w.2.2.2.2.2.2.2.2.2.1.getD i Oa).1≤(w.2.2.2.2.1.length:Int)))&&(decide ((w.2.2.2.2.2.2.2.2.2.1.getD i Oa).2.1.length≤40)&&(i==0||decide ((w.2.2.2.2.2.2.2.2.2.1.getD (i-1) Oa).1<(w.2.2.2.2.2.2.2.2.2.1.getD i Oa).1)))
def YZ(w:AA):Bool:=Dc (dc w) 0 w.2.2.1.length
def Vo(w:AA):Bool:=Dc (Yc w) 0 w.2.2.2.2.2.2.1.length
def af(w:AA):Bool:=Dc (jK w) 0 w.2.2.2.2.2.2.2.1.length
def jb(w:AA):Bool:=Dc (jl w) 0 w.2.2.2.2.2.2.2.2.2.1.length
def ae(w:AA):Bool:=decide (w.2.2.2.2.2.2.2.2.1.length=2)&&(UG (w.2.2.2.2.2.2.2.2.1.getD 0 H6)&&UG (w.2.2.2.2.2.2.2.2.1.getD 1 H6))
def MO(w:AA):Bool:=Gf (Ae w)&&(decide (w.2.2.1.length=w.1.length)&&(BA (Ae w) w.2.2.2.1&&((w.2.2.2.2.2.2.2.2.2.2.1|| !holds (Ae w) w.2.2.2.1)&&(YZ w&&(NY (Ae w) (CK w)&&(decide (w.2.2.2.2.2.2.1.length≤4)&&(decide (w.2.2.2.2.2.2.2.1.length≤1)&&(Vo w&&(af w&&(ae w&&(decide (w.2.2.2.2.2.2.2.2.2.1.length≤120)&&jb w)))))))))))
section
variable{w:AA} (h:mi w)
include h
theorem mi.lens:w.1.length≤2^20∧Af Ax w.2.2.1≤2^20∧w.2.2.2.1.length≤2^20∧Af CN w.2.2.2.2.1≤2^20∧Af A4 w.2.2.2.2.2.2.1≤2^20∧Af Ce w.2.2.2.2.2.2.2.1≤2^20∧Af Bq w.2.2.2.2.2.2.2.2.1≤2^20∧Af Ek w.2.2.2.2.2.2.2.2.2.1≤2^20:=by
 have:=h.weight;grind[C1]
theorem mi.Xa:w.2.2.1.length≤2^20∧w.2.2.2.2.1.length≤2^20∧w.2.2.2.2.2.2.1.length≤2^20∧w.2.2.2.2.2.2.2.1.length≤2^20∧w.2.2.2.2.2.2.2.2.1.length≤2^20∧w.2.2.2.2.2.2.2.2.2.1.length≤2^20:=by
 have k:=h.lens;grind[AW,Ax,CN,A4,Ce,Bq,Ek]
theorem mi.cfg:(Ae w).1.length≤2^40:=by
 have:=h.lens
 show w.1.length≤2^40
 omega
end
end Go.M
end
section
namespace Go.M
open Go.M.H (AH AN A7 A3 AA Co AK BQ AQ Aj BO Af AW Ac Az Ax Ce Ek C1 CN Bf A4 Bq Cp Dm)
section
variable{w:AA} (h:mi w)
include h
theorem eu:MI w=some ((Gf (Ae w)&&(decide (w.2.2.1.length=w.1.length)&&(BA (Ae w) w.2.2.2.1&&((w.2.2.2.2.2.2.2.2.2.2.1|| !holds (Ae w) w.2.2.2.1)&&YZ w))),()),()):=by
 have k1:=h.lens;have k2:=h.Xa;have key:=LR (L:=fun n i=>FJ n i w.1 w.2.1 w.2.2.1 w.2.2.2.1 w.2.2.2.2.1 w.2.2.2.2.2.1 w.2.2.2.2.2.2.1 w.2.2.2.2.2.2.2.1 w.2.2.2.2.2.2.2.2.1 w.2.2.2.2.2.2.2.2.2.1 w.2.2.2.2.2.2.2.2.2.2.1) (len:=w.2.2.1.length) (p:=dc w) (fin:=true) (fun n i hi=>by
  have hm:=Bg (d:=DO) hi;have hw:=Ac (f:=Ax) hm;simp only[FJ,JV,AE,dc];have hb:(0:Int)≤(i:Int)∧(i:Int)<(w.2.2.1.length:Int):=by omega
  rw[AEA hb.2,AG (x:=(i:Int)+1) (by omega) (by omega),show((i:Int)+1)=((i+1:Nat):Int)by omega,AEq,GM (by omega)];simp only[AEA hb];rw[show((w.2.2.1.getD i ([],[],0,())).1,(w.2.2.1.getD i ([],[],0,())).2.1,(w.2.2.1.getD i ([],[],0,())).2.2.1,())=w.2.2.1.getD i DO from rfl,C9 (by omega) (h.Av _ hm)];simp only[AEV]
  show cond (!Ck (w.2.2.1.getD i DO)) _ _=_
  cases Ck (w.2.2.1.getD i DO)with
  |false=>rfl
  |true=>
   cases w.2.2.2.1.contains ((i:Nat):Int)with
   |false=>rfl
   |true=>
    simp only[Rn,AET,AEL,AEb,AEh,AGO];have e1:∀n:Nat,((n:Int)==0)=(n==0):=fun n=>by
     grind
    grind) (fun n=>by
  simp only[FJ,JV,AE];simp_all) w.2.2.1.length Ar 0 (by omega) (A0 (by omega))
 rw[show((0:Nat):Int)=0 from rfl]at key;unfold MI NT YZ;rw[show(w.1,w.2.1,())=Ae w from rfl,Dy h.cfg,Dn h.cfg (by omega),Cf h.cfg (by omega),key];simp only[AEV,AGt];grind[decide_eq_true,Gf,Ae,BA,holds,decide_eq_false]
theorem cl:Kd w=some ((NY (Ae w) (CK w)&&(decide (w.2.2.2.2.2.2.1.length≤4)&&(decide (w.2.2.2.2.2.2.2.1.length≤1)&&(Vo w&&af w))),()),()):=by
 have k1:=h.lens;have k2:=h.Xa;have me:∀n,w.2.2.2.2.2.2.2.1.length+1≤n→CZ n (w.2.2.2.2.1.length:Int) 0 w.1 w.2.1 w.2.2.1 w.2.2.2.1 w.2.2.2.2.1 w.2.2.2.2.2.1 w.2.2.2.2.2.2.1 w.2.2.2.2.2.2.2.1 w.2.2.2.2.2.2.2.2.1 w.2.2.2.2.2.2.2.2.2.1 w.2.2.2.2.2.2.2.2.2.2.1=some ((af w,()),()):=fun n hn=>by
  have key:=LR (L:=fun n i=>CZ n (w.2.2.2.2.1.length:Int) i w.1 w.2.1 w.2.2.1 w.2.2.2.1 w.2.2.2.2.1 w.2.2.2.2.2.1 w.2.2.2.2.2.2.1 w.2.2.2.2.2.2.2.1 w.2.2.2.2.2.2.2.2.1 w.2.2.2.2.2.2.2.2.2.1 w.2.2.2.2.2.2.2.2.2.2.1) (len:=w.2.2.2.2.2.2.2.1.length) (p:=jK w) (fin:=true) (fun n i hi=>by
   have hm:=Bg (d:=PL) hi;have hw:=Ac (f:=Ce) hm;simp only[CZ,H4,AE,jK];rw[AEA (by omega),AEA (by omega),AG (x:=(i:Int)+1) (by omega) (by omega),show((i:Int)+1)=((i+1:Nat):Int)by omega,AEq];rw[show((w.2.2.2.2.2.2.2.1.getD i (0,0,[],[],false,[],())).1,(w.2.2.2.2.2.2.2.1.getD i (0,0,[],[],false,[],())).2.1,(w.2.2.2.2.2.2.2.1.getD i (0,0,[],[],false,[],())).2.2.1,(w.2.2.2.2.2.2.2.1.getD i (0,0,[],[],false,[],())).2.2.2.1,(w.2.2.2.2.2.2.2.1.getD i (0,0,[],[],false,[],())).2.2.2.2.1,(w.2.2.2.2.2.2.2.1.getD i (0,0,[],[],false,[],())).2.2.2.2.2.1,())=w.2.2.2.2.2.2.2.1.getD i PL from rfl,show(w.1,w.2.1,())=Ae w from rfl,Fi h.cfg (by omega) (h.Bp _ hm)];rw[H9 (by grind)];grind) (fun n=>by
   simp only[CZ,H4,AE];simp_all) w.2.2.2.2.2.2.2.1.length n 0 (by omega) (by omega)
  rw[show((0:Nat):Int)=0 from rfl]at key;rw[key,AGt];rfl
 have key:=Wp (L:=fun n i=>DZ n (w.2.2.2.2.1.length:Int) i w.1 w.2.1 w.2.2.1 w.2.2.2.1 w.2.2.2.2.1 w.2.2.2.2.2.1 w.2.2.2.2.2.2.1 w.2.2.2.2.2.2.2.1 w.2.2.2.2.2.2.2.2.1 w.2.2.2.2.2.2.2.2.2.1 w.2.2.2.2.2.2.2.2.2.2.1) (len:=w.2.2.2.2.2.2.1.length) (N:=w.2.2.2.2.2.2.2.1.length+1) (p:=Yc w) (fin:=af w) (fun n i hi=>by
  have hm:=Bg (d:=CL) hi;have hw:=Ac (f:=A4) hm;unfold A4 at hw;simp only[DZ,Ie,AE,Yc];have hb:(0:Int)≤(i:Int)∧(i:Int)<(w.2.2.2.2.2.2.1.length:Int):=by omega
  rw[AEA hb.2,AG (x:=(i:Int)+1) (by omega) (by omega),show((i:Int)+1)=((i+1:Nat):Int)by omega,AEq];simp only[AEA hb];have hw2:Af Bf (w.2.2.2.2.2.2.1.getD i CL).2.1≤2^30:=by
   have:=k1.2.2.2.2.1;unfold A4 at this;omega
  rw[show((w.2.2.2.2.2.2.1.getD i (0,[],())).1,(w.2.2.2.2.2.2.1.getD i (0,[],())).2.1,())=w.2.2.2.2.2.2.1.getD i CL from rfl,show(w.1,w.2.1,())=Ae w from rfl,Gr h.cfg hw2];simp only[AEV];cases G2 (Ae w) (w.2.2.2.2.2.2.1.getD i CL)with
  |false=>rfl
  |true=>
   simp only[AET,AEL,AEh];by_cases hle:(w.2.2.2.2.2.2.1.getD i (0,[],())).1≤(w.2.2.2.2.1.length:Int)
   ·rw[AEB (by omega),show decide ((w.2.2.2.2.2.2.1.getD i CL).1≤(w.2.2.2.2.1.length:Int))=true from AFM hle,AEh]
    by_cases h0:i=0
    ·simp_all
    ·rw[AEA (by omega),AG (by omega) (by omega),AEA (by omega)]
     have h1:((i:Int)-1).toNat=i-1:=by omega
     have h2:(i==0)=false:=by simp_all
     rw[h1,h2,AGO];grind
   grind) (fun n hn=>by
  simp only[DZ,Ie,AE];simp_all) w.2.2.2.2.2.2.1.length Ar 0 (by omega) (A0 (by omega))
 rw[show((0:Nat):Int)=0 from rfl]at key;unfold Kd M6 Vo;rw[show(w.1,w.2.1,())=Ae w from rfl,show(w.2.2.2.2.1,w.2.2.2.2.2.1,())=CK w from rfl,Jc h.cfg (by show Af CN w.2.2.2.2.1≤_;omega) h.trim,key];grind
theorem ir:OH w=some ((decide (w.2.2.2.2.2.2.2.2.2.1.length≤120)&&jb w,()),()):=by
 have k2:=h.Xa;have key:=LR (L:=fun n i=>F6 n i w.1 w.2.1 w.2.2.1 w.2.2.2.1 w.2.2.2.2.1 w.2.2.2.2.2.1 w.2.2.2.2.2.2.1 w.2.2.2.2.2.2.2.1 w.2.2.2.2.2.2.2.2.1 w.2.2.2.2.2.2.2.2.2.1 w.2.2.2.2.2.2.2.2.2.2.1) (len:=w.2.2.2.2.2.2.2.2.2.1.length) (p:=jl w) (fin:=true) (fun n i hi=>by
  have hm:=Bg (d:=Oa) hi;have RE:BB (w.2.2.2.2.2.2.2.2.2.1.getD i (0,[],false,())).1:=h.AFo _ hm;simp only[F6,J5,AE,jl];rw[AEA (by omega),AEA (by omega),AG (x:=(i:Int)+1) (by omega) (by omega),show((i:Int)+1)=((i+1:Nat):Int)by omega,AEq,C6 RE,CO RE];simp only[AEV]
  show cond (!Ay (w.2.2.2.2.2.2.2.2.2.1.getD i Oa).1) _ _=_
  cases Ay (w.2.2.2.2.2.2.2.2.2.1.getD i Oa).1 with
  |false=>rfl
  |true=>
   simp only[AET,AEL,AEh];by_cases hle:Ah (w.2.2.2.2.2.2.2.2.2.1.getD i (0,[],false,())).1≤(w.2.2.2.2.1.length:Int)
   ·rw[AEB (by omega),show decide (Ah (w.2.2.2.2.2.2.2.2.2.1.getD i Oa).1≤(w.2.2.2.2.1.length:Int))=true from AFM hle,AEh]
    by_cases h40:(w.2.2.2.2.2.2.2.2.2.1.getD i (0,[],false,())).2.1.length≤40
    ·rw[AEB (by omega),show decide ((w.2.2.2.2.2.2.2.2.2.1.getD i Oa).2.1.length≤40)=true from AFM h40,AEh]
     by_cases h0:i=0
     ·simp_all
     ·rw[AEA (by omega),AG (by omega) (by omega),AEA (by omega)]
      have h1:((i:Int)-1).toNat=i-1:=by omega
      have h2:(i==0)=false:=by simp_all
      rw[h1,h2,AGO];grind
    grind
   grind) (fun n=>by
  simp only[F6,J5,AE];simp_all) w.2.2.2.2.2.2.2.2.2.1.length Ar 0 (by omega) (A0 (by omega))
 rw[show((0:Nat):Int)=0 from rfl]at key;unfold OH OX jb;grind
theorem SH:Lb w=some ((MO w,()),()):=by
 unfold Lb MO ae;rw[show(w.1,w.2.1,w.2.2.1,w.2.2.2.1,w.2.2.2.2.1,w.2.2.2.2.2.1,w.2.2.2.2.2.2.1,w.2.2.2.2.2.2.2.1,w.2.2.2.2.2.2.2.2.1,w.2.2.2.2.2.2.2.2.2.1,w.2.2.2.2.2.2.2.2.2.2.1,())=w from rfl];rw[eu h,cl h,ir h,L7,L7];simp only[AEV];by_cases h2:w.2.2.2.2.2.2.2.2.1.length=2
 all_goals grind
end
end Go.M
end
section
namespace Go.M
open Go.M.H (AH AN A7 A3 AA Co AK BQ AQ Aj BO Af AW Ac Az Ax Ce Ek C1 CN Bf A4 Bq Cp Dm)
def Sc(w:AA):Prop:= ∀r∈w.2.2.2.2.2.2.2.2.1,∀e∈r.2.2.1,BB e.2.1
section
variable{w:AA} (h:mi w) (u0:Sc w)
include h u0
end
end Go.M
end
section
namespace Go.M
open Go.M.H (AH AN A7 A3 AA Co AK BQ AQ Aj BO A_ AR)
def Lu(e o:Int):Int:=4294967296*e+o
def II(e o:Int):Int:=if BX e 1 30&&BX o 1 60 then Lu e o else 0
def YO(x:Int):List Int→List Int
 |[]=>[x]
 |y::l=>if x<y then x::y::l else y::YO x l
def NJ(x:Int)(l:AAQ):AAQ:=if l.contains x then l else YO x l
def less(l m:AAQ):AAQ:=l.filter fun x=> !m.contains x
def TM(c:B_)(s l:AAQ):Bool:=holds c s&&(BA c l&&(l.all s.contains&& !holds c (less s l)))
def A9(k:Int):AAQ:=if BX k 0 255 then([0,1,2,3,4,5,6,7]:AAQ).filter fun i=>(k/2^i.toNat)%2==1 else[]
def better(a b:AH):AH:=if b.2.1>a.2.1 then b else a
def keep(e:AH):List AH→List AH
 |[]=>[e]
 |x::l=>if x.1=e.1 then better x e::l else if x.1>e.1 then e::x::l else x::keep e l
def Dr:List AH→List AH→List AH
 |k,[]=>k
 |k,e::l=>Dr (keep e k) l
def OC(k:Int):Nat→List AH→List AH
 |_,[]=>[]
 |i,e::l=>if(k/2^i)%2=1 then e::OC k (i+1) l else OC k (i+1) l
def Rz(p:Int)(l:List AH):Option AH:=l.find? fun e=>e.1==p
def takes(s:AN)(e:AH):Bool:=if e.2.1=0 then decide (Ah e.1>s.2.2.1)else decide (e.2.1>s.2.2.1)
def Jd(s:AN)(e:AH):AN×Bool:=
 if !Ck s then(DO,false)else if Ea e&&(takes s e&&decide (s.2.1.length≠20))then((s.1,s.2.1++[e],s.2.2.1,()),true)else(s,false)
def HH(s:AN)(k:Int):AN×Bool:=
 if !Ck s then(DO,false)else
  let q:=Dr s.1 (OC k 0 s.2.1)
  if BX k 0 1048575&&decide (q.length≤200)then((q,[],s.2.2.1,()),true)else(s,false)
def CV(s:AN):AN×Bool:=HH s 1048575
def CE(s:AN)(upto:Int):AN×Bool:=
 if !Ck s then(DO,false)else
  let o:=CV s
  if o.2&&BX upto 0 30 then((o.1.1,o.1.2.1,max o.1.2.2.1 upto,()),true)else(s,false)
def M0(s:AN)(ep:Int):List AH:=if Ck s then s.1.filter fun e=>Ah e.1==ep else[]
def KG(s:AN)(upto:Int):AN×Bool:=
 if !Ck s then(DO,false)else if Ay upto then((s.1.filter fun e=>decide (e.1>upto),s.2.1,s.2.2.1,()),true)else(s,false)
abbrev WX:AK:=([],0,())
def Bj(l:List Co)(e:Int):AAQ:=if BX e 1 l.length then(l.getD (e-1).toNat Gg).1 else[]
def Jr(c:B_)(r:AK)(ns:AAQ):AK×Int×Bool:=
 if !NY c r then(WX,0,false)else if holds c ns&&decide (r.1.length≠30)then((r.1++[(ns,false,0,())],r.2.1,()),(r.1.length:Int)+1,true)else(r,0,false)
def Jb(l:List Co)(i:Nat)(last:Int):List Co:=l.set i ((l.getD i Gg).1,true,last,())
def My(c:B_)(r:AK)(b last:Int):AK×Bool:=
 if !NY c r then(WX,false)else
  if decide (b=r.1.length)&&(decide (BF r.1≠0)&&(decide (b≠BF r.1)&&BX last 0 60))then((Jb r.1 (BF r.1-1).toNat last,r.2.1,()),true)else(r,false)
def P5(c:B_)(r:AK)(p:Int):AK×Bool:=
 if !NY c r then(WX,false)else if Ay p&&decide (Ah p≤r.1.length)then((r.1,max r.2.1 p,()),true)else(r,false)
def Fu(c:B_)(w:AQ)(d:AAh):AQ×Int×Bool:=
 if !G2 c w then(CL,0,false)else
  if G2 c (w.1,w.2.1++[(d,[],false,())],())then((w.1,w.2.1++[(d,[],false,())],()),(w.2.1.length:Int)+1,true)else(w,0,false)
def U7(c:B_)(n:Int)(x:BQ):BQ:=(x.1,NJ n x.2.1,holds c (NJ n x.2.1),())
def Tf(c:B_)(w:AQ)(o n:Int):AQ×Bool:=
 if !G2 c w then(CL,false)else
  if BX o 1 w.2.1.length&&(BX n 0 ((c.1.length:Int)-1)&& !(w.2.1.getD (o-1).toNat Of).2.2.1)then((w.1,w.2.1.set (o-1).toNat (U7 c n (w.2.1.getD (o-1).toNat Of)),()),true)else(w,false)
def Eg(n:Int)(x:BQ):BQ:=(x.1,if x.2.2.1 then x.2.1 else less x.2.1 [n],x.2.2.1,())
def Cm(c:B_)(w:AQ)(n:Int):AQ×Bool:=
 if !G2 c w then(CL,false)else((w.1,w.2.1.map (Eg n),()),true)
def cP:List BQ→Nat
 |[]=>0
 |x::l=>if x.2.2.1 then cP l+1 else 0
def Yk(e b:Int):A7:=(b,e,[],[],false,[],())
def M7(c:B_)(m:A7)(n:Int)(l:List AH):A7×Bool:=
 if !H3 c m then(PL,false)else
  let o:A7:=(m.1,m.2.1,NJ n m.2.2.1,Dr m.2.2.2.1 (l.filter fun e=>Ah e.1==m.2.1),m.2.2.2.2.1,m.2.2.2.2.2.1,())
  if !m.2.2.2.2.1&&H3 c o then(o,true)else(m,false)
def M3(c:B_)(m:A7)(s:AAQ):A7×Bool:=
 if !H3 c m then(PL,false)else
  if !m.2.2.2.2.1&&TM c s (m.2.2.1.filter s.contains)then((m.1,m.2.1,m.2.2.1,m.2.2.2.1,true,List.replicate (KJ m.2.2.2.1).toNat [],()),true)else(m,false)
def FL(m:A7)(o:Int):Option AH:=
 if m.2.2.2.2.1&&(BX m.2.1 1 30&&(BX o 1 60&&decide (o≤m.2.2.2.2.2.1.length)))then
  match Rz (Lu m.2.1 o) m.2.2.2.1 with
  |some x=>some (Lu m.2.1 o,m.1,x.2.2.1,x.2.2.2.1,())
  |none=>some (Lu m.2.1 o,m.1,true,[],())
 else none
def YV(c:B_)(m:A7)(o n:Int):A7×Bool:=
 if !H3 c m then(PL,false)else
  if BX o 1 m.2.2.2.2.2.1.length&&BX n 0 ((c.1.length:Int)-1)then((m.1,m.2.1,m.2.2.1,m.2.2.2.1,m.2.2.2.2.1,m.2.2.2.2.2.1.set (o-1).toNat (NJ n (m.2.2.2.2.2.1.getD (o-1).toNat [])),()),true)else(m,false)
def Cq(c:B_)(m:A7)(n:Int):A7×Bool:=
 if !H3 c m then(PL,false)else((m.1,m.2.1,m.2.2.1,m.2.2.2.1,m.2.2.2.2.1,m.2.2.2.2.2.1.map fun l=>less l [n],()),true)
def Tl(c:B_)(m:A7):Bool:=H3 c m&&(m.2.2.2.2.1&&m.2.2.2.2.2.1.all (holds c))
def V5(a:A_):AH:=(a.2.2.1,a.2.2.2.1,a.2.2.2.2.1,a.2.2.2.2.2.1,())
def NG(s:AAQ)(p:Int):Option AH→List A_→Option AH
 |b,[]=>b
 |b,a::l=>if a.2.1&&(s.contains a.1&&(Ea (V5 a)&&(V5 a).1==p))then
   NG s p (some (match b with|some x=>better x (V5 a)|none=>V5 a)) l
  else NG s p b l
def RX(p:Int):Option AH→BO
 |none=>(3,p,[],())
 |some x=>if x.2.2.1 then(2,p,[],())else(1,p,x.2.2.2.1,())
def D1(c:B_)(g:AK)(sure:Int)(r:Aj)(l:List A_):Aj×Int:=
 if !(NY c g&&(UG r&&BA c (l.map fun a=>a.1)))then(H6,1)else
 if decide (r.1>g.1.length)||decide (r.2.2.1.length=120)then(r,2)else
 let era:=g.1.getD (r.1-1).toNat Gg
 let p:=Lu r.1 r.2.1
 if g.2.1≥p then((Ah g.2.1,CY g.2.1+1,r.2.2.1++[(5,g.2.1,[],())],()),0)else
 if era.2.1&&decide (r.2.1>era.2.2.1)then((r.1+1,1,r.2.2.1++[(4,r.1+1,[],())],()),0)else
 if(!era.2.1&&decide (r.2.1>sure))||decide (r.2.1>60)then(r,2)else
 if !TM c era.1 ((l.map fun a=>a.1).filter era.1.contains)then(r,3)else
 ((r.1,r.2.1+1,r.2.2.1++[RX p (NG era.1 p none l)],()),0)
def HG:List AH→List AN→List AH
 |k,[]=>k
 |k,s::l=>HG (Dr k s.1) l
def others(lost:AAQ):Nat→List AN→List AN
 |_,[]=>[]
 |i,s::l=>if lost.contains (i:Int)then others lost (i+1) l else s::others lost (i+1) l
def Xl(c:B_)(ss:List AN)(lost:AAQ)(n upto:Int):AN×Bool:=
 let s:AN:=(HG [] (others lost 0 ss),[],upto,())
 if Gf c&&(decide (ss.length=c.1.length)&&(BA c lost&&(!holds c lost&&(lost.contains n&&((others lost 0 ss).all Ck&&Ck s)))))then(s,true)else(DO,false)
end Go.M
namespace Go.M.H.AA
open Go.M.H (AH AN A7 A3 AA Co AK BQ AQ Aj BO)
@[reducible] def Av (w:AA):List AN:=w.2.2.1
@[reducible] def lost (w:AA):AAQ:=w.2.2.2.1
@[reducible] def A6 (w:AA):List Co:=w.2.2.2.2.1
@[reducible] def trim (w:AA):Int:=w.2.2.2.2.2.1
@[reducible] def AJ (w:AA):List AQ:=w.2.2.2.2.2.2.1
@[reducible] def Bp (w:AA):List A7:=w.2.2.2.2.2.2.2.1
@[reducible] def Ai (w:AA):List Aj:=w.2.2.2.2.2.2.2.2.1
@[reducible] def Bk (w:AA):List A3:=w.2.2.2.2.2.2.2.2.2.1
@[reducible] def Fp (w:AA):Bool:=w.2.2.2.2.2.2.2.2.2.2.1
@[reducible] def BZ (w:AA) (x:List AN):AA:=(w.1,w.2.1,x,w.2.2.2)
@[reducible] def C7 (w:AA) (x:AAQ):AA:=(w.1,w.2.1,w.2.2.1,x,w.2.2.2.2)
@[reducible] def Ew (w:AA) (x:AK):AA:=(w.1,w.2.1,w.2.2.1,w.2.2.2.1,x.1,x.2.1,w.2.2.2.2.2.2)
@[reducible] def A5 (w:AA) (x:List AQ):AA:=(w.1,w.2.1,w.2.2.1,w.2.2.2.1,w.2.2.2.2.1,w.2.2.2.2.2.1,x,w.2.2.2.2.2.2.2)
@[reducible] def Bn (w:AA) (x:List A7):AA:=(w.1,w.2.1,w.2.2.1,w.2.2.2.1,w.2.2.2.2.1,w.2.2.2.2.2.1,w.2.2.2.2.2.2.1,x,w.2.2.2.2.2.2.2.2)
@[reducible] def Br (w:AA) (x:List Aj):AA:=(w.1,w.2.1,w.2.2.1,w.2.2.2.1,w.2.2.2.2.1,w.2.2.2.2.2.1,w.2.2.2.2.2.2.1,w.2.2.2.2.2.2.2.1,x,w.2.2.2.2.2.2.2.2.2)
@[reducible] def B8 (w:AA) (x:List A3):AA:=(w.1,w.2.1,w.2.2.1,w.2.2.2.1,w.2.2.2.2.1,w.2.2.2.2.2.1,w.2.2.2.2.2.2.1,w.2.2.2.2.2.2.2.1,w.2.2.2.2.2.2.2.2.1,x,w.2.2.2.2.2.2.2.2.2.2)
@[reducible] def DM (w:AA) (x:Bool):AA:=(w.1,w.2.1,w.2.2.1,w.2.2.2.1,w.2.2.2.2.1,w.2.2.2.2.2.1,w.2.2.2.2.2.2.1,w.2.2.2.2.2.2.2.1,w.2.2.2.2.2.2.2.2.1,w.2.2.2.2.2.2.2.2.2.1,x,())
end Go.M.H.AA
namespace Go.M
open Go.M.H (AH AN A7 A3 AA Co AK BQ AQ Aj BO A_ AR)
def wa:AA:=([],0,[],[],[],0,[],[],[],[],false,())
def Qp(c:B_):AA:=(c.1,c.2.1,List.replicate c.1.length DO,[],[],0,[],[],[(1,1,[],()),(1,1,[],())],[],false,())
def Nu(k:Int):Bool×Bool×Bool×Bool:=
 if k=8∨k=10∨k=12 then(false,false,false,false)
 else if k=2 then(true,false,false,true)
 else if k=3 then(true,true,true,false)
 else if k=5∨k=14 then(true,true,false,false)
 else if k=11 then(false,true,true,false)
 else(true,false,false,false)
def Dq(d:AR):Bool:=
 BX d.1 1 16&&(((Nu d.1).1||d.2.1==0)&&(((Nu d.1).2.1||d.2.2.1==0)&&(((Nu d.1).2.2.1||d.2.2.2.1==0)&&(((Nu d.1).2.2.2||d.2.2.2.2.1==[])&&decide (d.2.2.2.2.1.length≤40)))))
abbrev Ru:Type:=AA×Int
def BJ(w:AA)(n:Int):Int:=if !BX n 0 ((w.Av.length:Int)-1)then 2 else if w.lost.contains n then 3 else 0
def Rk(w:AA)(a:Int):Ru:=
 if w.AJ.length=4 then(w,4)else
 let q:=Jr (Ae w) (CK w) (A9 a)
 if !q.2.2 then(w,4)else(((w.Ew q.1).A5 (w.AJ++[(q.2.1,[],())])).Bn [],0)
def XE(s:A3):List A3→List A3
 |[]=>[s]
 |x::l=>if x.1>s.1 then s::x::l else x::XE s l
def doAdd(w:AA)(a:Int)(d:AAh):Ru:=
 if !BX a 0 ((w.AJ.length:Int)-1)then(w,2)else
 let x:=w.AJ.getD a.toNat CL
 let q:=Fu (Ae w) x d
 if !q.2.2||(decide (w.Bk.length=120)||w.Bk.any fun s=>s.1==Lu x.1 q.2.1)then(w,4)else
 ((w.A5 (w.AJ.set a.toNat q.1)).B8 (XE (Lu x.1 q.2.1,d,false,()) w.Bk),0)
def putAt(w:AA)(n:Int)(q:AN×Bool):Ru:=if q.2 then(w.BZ (w.Av.set n.toNat q.1),0)else(w,4)
def storeAt(w:AA)(n:Int):AN:=w.Av.getD n.toNat DO
def OM(w:AA)(a b n:Int):Ru:=
 if !BX a 0 ((w.AJ.length:Int)-1)then(w,2)else
 let x:=w.AJ.getD a.toNat CL
 if !BX b 1 x.2.1.length then(w,2)else
 if BJ w n≠0 then(w,BJ w n)else
 if !(Bj w.A6 x.1).contains n then(w,2)else
 putAt w n (Jd (storeAt w n) (Lu x.1 b,0,false,(x.2.1.getD (b-1).toNat Of).1,()))
def Yy(s:AN)(p:Int):Bool:=match Rz p s.1 with|some e=>e.2.1==0|none=>false
def B7(c:B_)(s:AN)(ep n:Int):Int→List BQ→List BQ
 |_,[]=>[]
 |o,x::l=>(if !x.2.2.1&&Yy s (Lu ep o)then U7 c n x else x)::B7 c s ep n (o+1) l
def U5(l:List BQ)(o:Int):Bool:=BX o 1 l.length&&(l.getD (o-1).toNat Of).2.2.1
def NX(all:Bool)(ep:Int)(old new:List BQ)(s:A3):A3:=
 (s.1,s.2.1,s.2.2.1||(Ah s.1==ep&&(U5 new (CY s.1)&&(all|| !U5 old (CY s.1)))),())
def aJ(s:AN)(l:List Co)(n:Int)(x:AQ):Bool:=(Bj l x.1).contains n&&decide (s.2.2.1<x.1)
def Gc(all:Bool)(c:B_)(s:AN)(l:List Co)(n:Int):List AQ→List A3→List AQ×List A3
 |[],ss=>([],ss)
 |x::ws,ss=>
  if aJ s l n x then
   let new:=B7 c s x.1 n 1 x.2.1
   let q:=Gc all c s l n ws (ss.map (NX all x.1 x.2.1 new))
   ((x.1,new,())::q.1,q.2)
  else
   let q:=Gc all c s l n ws ss
   (x::q.1,q.2)
def dj(m:A7)(s:AN)(o:Int):Bool:=match FL m o with|some e=>Rz e.1 s.1==some e|none=>false
def F4(m:A7)(s:AN)(n:Int):Int→List AAQ→List AAQ
 |_,[]=>[]
 |o,x::l=>(if dj m s o then NJ n x else x)::F4 m s n (o+1) l
def Mw(s:AN)(l:List Co)(n:Int)(m:A7):A7:=
 if(Bj l m.2.1).contains n then(m.1,m.2.1,m.2.2.1,m.2.2.2.1,m.2.2.2.2.1,F4 m s n 1 m.2.2.2.2.2.1,())else m
def Rc(all:Bool)(w:AA)(n:Int):Ru:=
 if BJ w n≠0 then(w,BJ w n)else
 let q:=CV (storeAt w n)
 if !q.2 then(w,4)else
 let t:=Gc all (Ae w) q.1 w.A6 n w.AJ w.Bk
 ((((w.BZ (w.Av.set n.toNat q.1)).A5 t.1).B8 t.2).Bn (w.Bp.map (Mw q.1 w.A6 n)),0)
def N5(w:AA)(n k:Int):Ru:=if BJ w n≠0 then(w,BJ w n)else putAt w n (HH (storeAt w n) k)
def Rv(w:AA)(n:Int):Ru:=
 if BJ w n≠0 then(w,BJ w n)else
 let ls:=NJ n w.lost
 (((((w.BZ (w.Av.set n.toNat DO)).C7 ls).A5 (w.AJ.map fun x=>(Cm (Ae w) x n).1)).Bn (w.Bp.map fun m=>(Cq (Ae w) m n).1)).DM (w.Fp||holds (Ae w) ls),0)
def Ro(w:AA)(n:Int):Ru:=
 if !w.lost.contains n then(w,2)else
 let q:=Xl (Ae w) w.Av w.lost n (max ((w.A6.length:Int)-1) 0)
 if !q.2 then(w,4)else((w.BZ (w.Av.set n.toNat q.1)).C7 (less w.lost [n]),0)
def Rr(w:AA):Ru:=
 if decide ((w.A6.length:Int)<2)||decide (BF w.A6=w.A6.length)then(w,2)else
 if w.Bp.length>0 then(w,4)else(w.Bn [Yk (BF w.A6) w.A6.length],0)
def RW(w:AA)(n:Int):Ru:=
 match w.Bp with
 |[]=>(w,2)
 |m::ms=>
  if BJ w n≠0 then(w,BJ w n)else
  if !(Bj w.A6 m.2.1).contains n then(w,2)else
  let q:=CE (storeAt w n) (m.1-1)
  let t:=M7 (Ae w) m n (M0 q.1 m.2.1)
  if !q.2|| !t.2 then(w,4)else((w.BZ (w.Av.set n.toNat q.1)).Bn (t.1::ms),0)
def Rb(w:AA):Ru:=
 match w.Bp with
 |[]=>(w,2)
 |m::ms=>
  let t:=M3 (Ae w) m (Bj w.A6 m.2.1)
  if !t.2 then(w,4)else(w.Bn (t.1::ms),0)
def V7(w:AA)(b n:Int):Ru:=
 match w.Bp with
 |[]=>(w,2)
 |m::ms=>
  match FL m b with
  |none=>(w,2)
  |some e=>
   if BJ w n≠0 then(w,BJ w n)else
   if !(Bj w.A6 m.2.1).contains n then(w,2)else putAt w n (Jd (storeAt w n) e)
def Nt(w:AA):Ru:=
 match w.Bp with
 |[]=>(w,2)
 |m::ms=>
  if !Tl (Ae w) m then(w,5)else
  let q:=My (Ae w) (CK w) m.1 m.2.2.2.2.2.1.length
  if !q.2 then(w,4)else((w.Ew q.1).Bn [],0)
def S_(w:AA)(a:Int):Ru:=
 let q:=P5 (Ae w) (CK w) a
 if !q.2 then(w,4)else(w.Ew q.1,0)
def answer(w:AA)(p n:Int):A_:=
 match Rz p (storeAt w n).1 with
 |some e=>(n,true,e.1,e.2.1,e.2.2.1,e.2.2.2.1,())
 |none=>(n,false,0,0,false,[],())
def answers(w:AA)(p:Int)(ns:AAQ):List A_:=(ns.filter fun n=>BJ w n==0).map (answer w p)
def gl(w:AA)(e:Int):Int:=match w.AJ.find? (fun x=>x.1==e)with|some x=>cP x.2.1|none=>0
def NL(w:AA)(a k:Int):Ru:=
 if !BX a 0 1 then(w,2)else
 let r:=w.Ai.getD a.toNat H6
 let q:=D1 (Ae w) (CK w) (gl w r.1) r (answers w (Lu r.1 r.2.1) (A9 k))
 if q.2≠0 then(w,5)else(w.Br (w.Ai.set a.toNat q.1),0)
def RT(w:AA)(a:Int):Ru:=
 if !BX a 0 ((w.AJ.length:Int)-1)then(w,2)else(w.A5 (w.AJ.eraseIdx a.toNat),0)
def Nl(w:AA)(n:Int):Ru:=if BJ w n≠0 then(w,BJ w n)else putAt w n (KG (storeAt w n) w.trim)
def PR(all:Bool)(w:AA)(d:AR):Ru:=
 if d.1=1 then Rk w d.2.1 else
 if d.1=2 then doAdd w d.2.1 d.2.2.2.2.1 else
 if d.1=3 then OM w d.2.1 d.2.2.1 d.2.2.2.1 else
 if d.1=4 then Rc all w d.2.1 else
 if d.1=5 then N5 w d.2.1 d.2.2.1 else
 if d.1=6 then Rv w d.2.1 else
 if d.1=7 then Ro w d.2.1 else
 if d.1=8 then Rr w else
 if d.1=9 then RW w d.2.1 else
 if d.1=10 then Rb w else
 if d.1=11 then V7 w d.2.2.1 d.2.2.2.1 else
 if d.1=12 then Nt w else
 if d.1=13 then S_ w d.2.1 else
 if d.1=14 then NL w d.2.1 d.2.2.1 else
 if d.1=15 then RT w d.2.1 else Nl w d.2.1
def I2(all:Bool)(w:AA)(d:AR):Ru:=if !MO w|| !Dq d then(wa,1)else PR all w d
end Go.M
end
section
namespace Go.M
open Go.M.H (AH AN A7 A3 AA Co AK BQ AQ Aj BO A_ AR)
theorem KD{p:Nat→Bool}{n:Nat}:Dc p 0 n=true↔ ∀i,i<n→p i=true:=
 ⟨fun h i hi=>Kn h i (by omega) (by omega),fun h=>aW fun j _ hj=>h j (by omega)⟩
theorem mz{α:Type}{l:List α}{i:Nat}{d:α}(h:i<l.length):l.getD i d=l[i]:=by simp_all
theorem Kw{α:Type}{l:List α}{d:α}{P:α→Prop}:(∀i,i<l.length→P (l.getD i d))↔ ∀x∈l,P x:=by
 constructor
 ·intro h x hx
  obtain⟨i,hi,rfl⟩:=AFr hx;simp_all
 simp_all
abbrev QT{α:Type}(f:α→Int)(l:List α):Prop:=l.Pairwise fun a b=>f a<f b
theorem Tr{α:Type}{f:α→Int}{l:List α}{d:α}:(∀i,i<l.length→i=0∨f (l.getD (i-1) d)<f (l.getD i d))↔QT f l:=by
 constructor
 ·intro h
  unfold QT;rw[List.pairwise_iff_getElem];have key:∀(k i:Nat),i+k+1<l.length→f (l.getD i d)<f (l.getD (i+k+1) d):=by
   intro k
   induction k with
   |zero=>
    grind
   |succ k ih=>
    grind
  intro i j hi hj vU;have:=key (j-i-1) i (by omega);grind
 grind[List.pairwise_iff_getElem,mz]
theorem Aw{x a b:Int}:BX x a b=true↔a≤x∧x≤b:=by simp[BX]
theorem gG{l:AAQ}{hi:Int}:dN l hi=true↔(∀x∈l,0≤x∧x≤hi)∧QT id l:=by
 unfold dN;rw[KD,←Kw (d:=(0:Int)) (P:=fun x=>0≤x∧x≤hi),←Tr (d:=(0:Int))];simp only[hU,AEF,Aw,AF6,AGu,AEK,id];grind
theorem GP{c:B_}{l:AAQ}:BA c l=true↔Gf c=true∧(∀x∈l,0≤x∧x<c.1.length)∧QT id l:=by
 unfold BA;rw[AEF,gG];grind
theorem cz{l:List AH}:Qq l=true↔ ∀e∈l,Ea e=true:=by
 unfold Qq;rw[KD];exact Kw (P:=fun e=>Ea e=true)
theorem fF{l:List AH}:eN l=true↔QT (fun e:AH=>e.1) l:=by
 unfold eN;rw[KD,←Tr (d:=Db)];simp_all
structure VU (s:AN):Prop where
 nk:s.1.length≤200
 kept:∀e∈s.1,Ea e=true
 nl:s.2.1.length≤20
 late:∀e∈s.2.1,Ea e=true
 lb:QT (fun e:AH=>e.1) s.1
 sl:0≤s.2.2.1∧s.2.2.1≤30
theorem GJ{s:AN}:Ck s=true↔VU s:=by
 unfold Ck;simp only[AEF,AEK,cz,fF,Aw];exact⟨fun⟨⟨a,b⟩,⟨c,d⟩,e,f⟩=>⟨a,b,c,d,e,f⟩,fun h=>⟨⟨h.nk,h.kept⟩,⟨h.nl,h.late⟩,h.lb,h.sl⟩⟩
structure EOk (e:AH):Prop where
 pl:Ay e.1=true
 w0:0≤e.2.1∧e.2.1≤30
 w1:0<e.2.1→Ah e.1<e.2.1
 len:e.2.2.2.1.length≤40
 hole:e.2.2.1=true→0<e.2.1∧e.2.2.2.1=[]
theorem GL{e:AH}:Ea e=true↔EOk e:=by
 unfold Ea;simp only[AEF,AF6,AGK,AEK,AGj,Aw,AGu];constructor
 ·rintro⟨a,b,c,d,e⟩
  refine⟨a,b,fun h=>c.resolve_left fun hn=>hn h,d,fun h=>e.resolve_left fun hn=> ?_⟩;simp_all
 ·intro h
  refine⟨h.pl,h.w0,?_,h.len,?_⟩
  ·by_cases hw:0<e.2.1
   ·exact .inr (h.w1 hw)
   omega
  ·cases hh:e.2.2.1 with
   |false=>simp_all
   |true=>exact .inr (h.hole hh)
structure bj (c:B_) (m:A7):Prop where
 cfg:Gf c=true
 ep:1≤m.2.1∧m.2.1≤30
 b:m.2.1+1≤m.1∧m.1≤30
 sld:BA c m.2.2.1=true
 lb:QT (fun e:AH=>e.1) m.2.2.2.1
 seen:∀e∈m.2.2.2.1,Ea e=true∧Ah e.1=m.2.1∧e.2.1<m.1
 wrote:∀l∈m.2.2.2.2.2.1,BA c l=true
 n:(m.2.2.2.2.2.1.length:Int)=if m.2.2.2.2.1 then KJ m.2.2.2.1 else 0
theorem Ij{c:B_}{m:A7}:H3 c m=true↔bj c m:=by
 unfold H3 vO dm;simp only[AEF,Aw,fF,KD,jw,AGu,AEK];rw[Kw (d:=Db) (P:=fun e=>Ea e=true∧Ah e.1=m.2.1∧e.2.1<m.1),Kw (d:=([]:AAQ)) (P:=fun l=>BA c l=true)];have:(m.2.2.2.2.2.1.length:Int)=cond m.2.2.2.2.1 (KJ m.2.2.2.1) 0↔(m.2.2.2.2.2.1.length:Int)=if m.2.2.2.2.1 then KJ m.2.2.2.1 else 0:=by
  grind
 rw[this];exact⟨fun⟨a,b,c,d,e,f,g,h⟩=>⟨a,b,c,d,e,f,g,h⟩,fun h=>⟨h.cfg,h.ep,h.b,h.sld,h.lb,h.seen,h.wrote,h.n⟩⟩
structure jx (c:B_) (r:AK):Prop where
 cfg:Gf c=true
 n:r.1.length≤30
 trim:r.2.1=0∨(Ay r.2.1=true∧Ah r.2.1≤r.1.length)
 A6:∀e∈r.1,holds c e.1=true∧(0≤e.2.2.1∧e.2.2.1≤60)∧(e.2.1=false→e.2.2.1=0)
 down:∀i,i<r.1.length→(r.1.getD i Gg).2.1=true→i+1<r.1.length∧ ∀j,j<i→(r.1.getD j Gg).2.1=true
theorem KF{c:B_}{r:AK}:NY c r=true↔jx c r:=by
 unfold NY ib;simp only[AEF,AEK,AF6,AGu,KD,nD,gz,Aw,AGK,Bool.and_eq_false_iff,Bool.or_eq_false_iff,AGj,AEt];constructor
 ·rintro⟨a,b,c1,d⟩
  refine⟨a,b,c1,(Kw (d:=Gg) (P:=fun e=>holds c e.1=true∧(0≤e.2.2.1∧e.2.2.1≤60)∧(e.2.1=false→e.2.2.1=0))).1 fun i hi=> ?_,fun i hi hc=> ?_⟩
  ·grind
  ·have step:∀k,k<r.1.length→(r.1.getD k Gg).2.1=true→k+1<r.1.length∧(0<k→(r.1.getD (k-1) Gg).2.1=true):=fun k hk hkc=>by
    rcases(d k hk).2 with h|⟨h1,h2⟩
    ·simp_all
    ·refine⟨by omega,fun h0=> ?_⟩
     simp_all
   refine⟨(step i hi hc).1,?_⟩;clear hi
   induction i with
   |zero=>omega
   |succ i ih=>
    intro j hj;have Dg:i+1<r.1.length:=by
     rcases Nat.lt_or_ge (i+1) r.1.length with h|h
     ·omega
     ·simp[List.getD,h]at hc
      cases hc
    grind
 ·intro h
  refine⟨h.cfg,h.n,h.trim,fun i hi=>⟨?_,?_⟩⟩
  ·obtain⟨h1,h2,h3⟩:=h.A6 _ (Bg (d:=Gg) hi)
   grind
  ·cases hb:(r.1.getD i Gg).2.1 with
   |false=>simp_all
   |true=>
    obtain⟨h1,h2⟩:=h.down i hi hb;grind
structure Uu (c:B_) (w:AQ):Prop where
 cfg:Gf c=true
 ep:1≤w.1∧w.1≤30
 n:w.2.1.length≤60
 words:∀x∈w.2.1,x.1.length≤40∧BA c x.2.1=true∧x.2.2.1=holds c x.2.1
 opn:Mx w.2.1≤6
theorem JI{c:B_}{w:AQ}:G2 c w=true↔Uu c w:=by
 unfold G2 le6 Ye;simp only[AEF,AEK,Aw,AF5,AGu];exact⟨fun⟨a,b,c,d,e⟩=>⟨a,b,c,d,e⟩,fun h=>⟨h.cfg,h.ep,h.n,h.words,h.opn⟩⟩
structure tK (r:Aj):Prop where
 ep:1≤r.1∧r.1≤31
 off:1≤r.2.1∧r.2.1≤61
 n:r.2.2.1.length≤120
theorem Tk{r:Aj}:UG r=true↔tK r:=by
 unfold UG;simp only[AEF,AEK,Aw];exact⟨fun⟨a,b,c⟩=>⟨a,b,by omega⟩,fun h=>⟨h.ep,h.off,by have:=h.n;omega⟩⟩
structure LD (w:AA):Prop where
 cfg:Gf (Ae w)=true
 bc:w.Av.length=w.1.length
 lost:BA (Ae w) w.lost=true
 Fp:w.Fp=true∨holds (Ae w) w.lost=false
 Av:∀i,i<w.Av.length→VU (w.Av.getD i DO)∧((i:Int)∈w.lost→w.Av.getD i DO=DO)
 ak:jx (Ae w) (CK w)
 bl:w.AJ.length≤4
 iT:w.Bp.length≤1
 AJ:∀x∈w.AJ,Uu (Ae w) x∧x.1≤w.A6.length
 UA:QT (fun x:AQ=>x.1) w.AJ
 Bp:∀m∈w.Bp,bj (Ae w) m∧m.1=w.A6.length∧m.2.1=BF w.A6
 bo:w.Ai.length=2
 Ai:∀r∈w.Ai,tK r
 Lg:w.Bk.length≤120
 Bk:∀s∈w.Bk,Ay s.1=true∧Ah s.1≤w.A6.length∧s.2.1.length≤40
 T1:QT (fun s:A3=>s.1) w.Bk
theorem Td{w:AA}:MO w=true↔LD w:=by
 unfold MO;simp only[AEF,AEK,YZ,Vo,af,jb,ae,KD,dc,Yc,jK,jl,AF6,AGK,AGu,GJ,KF,JI,Ij,Tk];have hz:∀s:AN,(s.1.length=0∧s.2.1.length=0∧s.2.2.1=0)↔s=DO:=fun s=>by
  grind
 simp only[hz];constructor
 ·rintro⟨h1,h2,h3,h4,h5,h6,h7,h8,h9,h10,⟨h11,h12,gp⟩,h14,h15⟩
  refine⟨h1,h2,h3,h4,fun i hi=>⟨(h5 i hi).1,fun hm=>(h5 i hi).2.resolve_left fun hc=> ?_⟩,h6,h7,h8,?_,?_,?_,h11,?_,h14,?_,?_⟩
  ·simp_all
  ·exact(Kw (d:=CL) (P:=fun x:AQ=>Uu (Ae w) x∧x.1≤w.A6.length)).1 fun i hi=>⟨(h9 i hi).1,(h9 i hi).2.1⟩
  ·exact(Tr (f:=fun x:AQ=>x.1) (d:=CL)).1 fun i hi=>(h9 i hi).2.2
  ·exact(Kw (d:=PL) (P:=fun m:A7=>bj (Ae w) m∧m.1=w.A6.length∧m.2.1=BF w.A6)).1 h10
  ·refine(Kw (d:=H6) (P:=tK)).1 fun i hi=> ?_
   rw[h11]at hi;rcases(by omega:i=0∨i=1)with rfl|rfl
   all_goals omega
  ·exact(Kw (d:=Oa) (P:=fun s:A3=>Ay s.1=true∧Ah s.1≤w.A6.length∧s.2.1.length≤40)).1 fun i hi=>⟨(h15 i hi).1.1,(h15 i hi).1.2,(h15 i hi).2.1⟩
  ·exact(Tr (f:=fun s:A3=>s.1) (d:=Oa)).1 fun i hi=>(h15 i hi).2.2
 ·intro h
  refine⟨h.cfg,h.bc,h.lost,h.Fp,fun i hi=>⟨(h.Av i hi).1,?_⟩,h.ak,h.bl,h.iT,fun i hi=> ?_,fun i hi=>h.Bp _ (Bg hi),⟨h.bo,h.Ai _ (Bg (by rw[h.bo];omega)),h.Ai _ (Bg (by rw[h.bo];omega))⟩,h.Lg,fun i hi=> ?_⟩
  ·by_cases hm:(i:Int)∈w.lost
   ·exact .inr ((h.Av i hi).2 hm)
   simp_all
  ·have:=h.AJ _ (Bg (d:=CL) hi)
   exact⟨this.1,this.2,(Tr (f:=fun x:AQ=>x.1) (d:=CL)).2 h.UA i hi⟩
  ·have:=h.Bk _ (Bg (d:=Oa) hi)
   exact⟨⟨this.1,this.2.1⟩,this.2.2,(Tr (f:=fun s:A3=>s.1) (d:=Oa)).2 h.T1 i hi⟩
end Go.M
end
section
namespace Go.M
open Go.M.H (AH AN A7 A3 AA Co AK BQ AQ Aj BO A_ AR)
theorem ZS{x y:Int}:∀{l:AAQ},y∈YO x l↔y=x∨y∈l
 |[]=>by simp[YO]
 |z::l=>by
  simp only[YO];split
  ·simp
  ·simp only[AEd,ZS (l:=l)]
   grind
theorem gH{x:Int}:∀{l:AAQ},QT id l→x∉l→QT id (YO x l)
 |[],_,_=>by simp[YO,QT]
 |z::l,h,hx=>by
  simp only[QT,AFk,id]at h;simp only[AEd,AHO]at hx;simp only[YO];split
  ·rename_i hz
   simp only[QT,AFk,AEd,id];grind
  ·rename_i hz
   simp only[QT,AFk,id];refine⟨fun a ha=> ?_,gH h.2 hx.2⟩;rcases ZS.1 ha with rfl|ha
   all_goals grind
theorem fG{x y:Int}{l:AAQ}:y∈NJ x l↔y=x∨y∈l:=by
 unfold NJ;split
 ·simp_all
 ·exact ZS
theorem nj{x:Int}{l:AAQ}(h:QT id l):QT id (NJ x l):=by
 grind[NJ,gH]
theorem Ks{c:B_}{x:Int}{l:AAQ}(h:BA c l=true)(hx:0≤x∧x<c.1.length):BA c (NJ x l)=true:=by
 rw[GP]at h⊢;refine⟨h.1,fun y hy=> ?_,nj h.2.2⟩;rcases fG.1 hy with rfl|hy
 all_goals simp_all
theorem Ke{c:B_}{l:AAQ}(p:Int→Bool)(h:BA c l=true):BA c (l.filter p)=true:=by
 grind[GP]
theorem ZW{x:Int}{l m:AAQ}:x∈less l m↔x∈l∧x∉m:=by simp[less]
theorem S8{c:B_}(h:Gf c=true):BA c []=true:=GP.2 ⟨h,fun _ h=>by simp at h,List.Pairwise.nil⟩
theorem mB{l m:AAQ}(h:l.Nodup)(hs:∀x∈l,x∈m):l.length≤m.length:=by
 induction l generalizing m with
 |nil=>simp
 |cons a l ih=>
  rw[AGW]at h;have ha:=hs a (by simp);have:=ih (m:=m.erase a) h.2 fun x hx=>(List.mem_erase_of_ne (fun e:x=a=>h.1 (by simp_all))).2 (hs x (by simp[hx]))
  grind
theorem ed{c:AAQ}{d:Int}:∀{l acc:AAQ},d∈Zi c l acc↔d∈acc∨ ∃n∈l,c.getD n.toNat 0=d
 |[],acc=>by simp[Zi]
 |n::l,acc=>by
  simp only[Zi];rw[ed (l:=l)];grind
theorem Zd{c:AAQ}:∀{l acc:AAQ},acc.Nodup→(Zi c l acc).Nodup
 |[],acc,h=>h
 |n::l,acc,h=>by
  simp only[Zi];refine Zd ?_
  grind
theorem fB{c l m:AAQ}(h:∀x∈l,x∈m):Uc c l≤Uc c m:=by
 refine mB (Zd List.nodup_nil) fun d hd=> ?_
 grind[ed]
theorem ZT{c:B_}{l m:AAQ}(hl:holds c l=true)(hm:BA c m=true)(h:∀x∈l,x∈m):holds c m=true:=by
 simp only[holds,AEF,AEK]at hl⊢;have:=fB (c:=c.1) h;grind
theorem holds_nil{c:B_}:holds c []=false:=by
 rw[AGv];intro h;have hc:=(GP.1 (MZ h)).1;have:=(Ff hc).2.2.1;simp only[holds,AEF,AEK,Uc,Zi]at h;grind
theorem ko{a b:AH}(h:a.1=b.1):(better a b).1=b.1:=by grind[better]
theorem VK{e y:AH}:∀{l:List AH},y∈keep e l→y=e∨y∈l
 |[],h=>by simpa[keep]using h
 |x::l,h=>by
  simp only[keep]at h;split at h
  ·rcases AEd.1 h with rfl|h
   all_goals grind[better]
  ·split at h
   ·simp_all
   ·rcases AEd.1 h with rfl|h
    ·simp
    ·rcases VK h with h|h<;>simp[h]
theorem qv{e y:AH}{l:List AH}(h:y∈keep e l):y.1=e.1∨ ∃z∈l,z.1=y.1:=by
 rcases VK h with rfl|h
 all_goals grind
theorem Vp{e:AH}:∀{l:List AH},(keep e l).length≤l.length+1∧l.length≤(keep e l).length
 |[]=>by simp[keep]
 |x::l=>by
  have:=Vp (e:=e) (l:=l);grind[keep,List.length_cons]
abbrev iq(l:List AH):Prop:=QT (fun e:AH=>e.1) l
theorem eg{e:AH}:∀{l:List AH},iq l→iq (keep e l)
 |[],_=>by simp[keep,QT]
 |x::l,h=>by
  have h':=h;simp only[QT,AFk]at h;simp only[keep];split
  ·rename_i hx
   simp only[iq,QT,AFk];grind[ko]
  ·split
   ·rename_i hx
    simp only[iq,QT,AFk,AEd];grind
   ·rename_i h1 h2
    simp only[iq,QT,AFk];refine⟨fun a ha=> ?_,eg h.2⟩;grind[qv]
theorem TU{y:AH}:∀{l k:List AH},y∈Dr k l→y∈k∨y∈l
 |[],k,h=> .inl h
 |e::l,k,h=>by
  rcases TU (l:=l) h with h|h
  ·rcases VK h with rfl|h
   all_goals simp_all
  simp_all
theorem TJ:∀{l k:List AH},iq k→iq (Dr k l)
 |[],k,h=>h
 |e::l,k,h=>TJ (l:=l) (eg h)
theorem TP{k:Int}{y:AH}:∀{l:List AH} {i:Nat},y∈OC k i l→y∈l
 |[],_,h=>h
 |e::l,i,h=>by
  simp only[OC]at h;split at h
  ·rcases AEd.1 h with rfl|h
   ·simp
   ·simp[TP h]
  ·simp[TP h]
end Go.M
end
section
namespace Go.M
open Go.M.H (AH AN A7 A3 AA Co AK BQ AQ Aj BO A_ AR)
theorem WB{e o:Int}(he:1≤e∧e≤30)(ho:1≤o∧o≤60):Ay (Lu e o)=true∧Ah (Lu e o)=e∧CY (Lu e o)=o:=by
 have h1:NF (Lu e o)=e:=by
  grind[NF,Lu,Int.tdiv_eq_ediv_of_nonneg]
 have h2:(Lu e o).tmod 4294967296=o:=by
  grind[Lu,Int.tmod_eq_emod_of_nonneg]
 have h3:Ay (Lu e o)=true:=by
  unfold Ay;rw[h1,h2,AEF,Aw,Aw];omega
 exact⟨h3,by unfold Ah;simp_all,by unfold CY;simp_all⟩
theorem KC{p:Int}(h:Ay p=true):(1≤Ah p∧Ah p≤30)∧(1≤CY p∧CY p≤60)∧Lu (Ah p) (CY p)=p:=by
 have h0:=TF h;have h1:=h;unfold Ay at h1;rw[AEF,Aw,Aw]at h1;have e1:Ah p=NF p:=by unfold Ah;rw[AEA h]
 grind[CY,Lu,NF,Int.tdiv_eq_ediv_of_nonneg,Int.tmod_eq_emod_of_nonneg]
theorem VU.nil:VU DO:=⟨by simp,by simp,by simp,by simp,List.Pairwise.nil,by simp⟩
theorem XO{s:AN}{e:AH}(h:(Jd s e).2=true):VU (Jd s e).1∧(Jd s e).1=(s.1,s.2.1++[e],s.2.2.1,())∧Ea e=true∧takes s e=true:=by
 unfold Jd at*;split at h
 ·cases h
 rename_i hs;rw[AEB hs];simp only[AEz,AEt]at hs;rw[GJ]at hs;split at h
 case isFalse=>cases h
 rename_i h1;rw[AEA h1];simp only[AEF,AEK]at h1;obtain⟨he,ht,hl⟩:=h1;refine⟨⟨hs.nk,hs.kept,?_,fun x hx=> ?_,hs.lb,hs.sl⟩,rfl,he,ht⟩
 ·have:=hs.nl
  grind
 ·simp only[AEZ,AFp]at hx
  rcases hx with hx|rfl
  ·exact hs.late x hx
  omega
theorem MP{s:AN}{k:Int}(h:(HH s k).2=true):VU s∧VU (HH s k).1∧(HH s k).1=(Dr s.1 (OC k 0 s.2.1),[],s.2.2.1,()):=by
 unfold HH at*;split at h
 ·cases h
 rename_i hs;rw[AEB hs];simp only[AEz,AEt]at hs;rw[GJ]at hs;simp only at h⊢;split at h
 case isFalse=>cases h
 rename_i h1;rw[AEA h1];simp only[AEF,AEK]at h1;refine⟨hs,⟨h1.2,fun e he=> ?_,by simp,by simp,TJ hs.lb,hs.sl⟩,rfl⟩;rcases TU he with he|he
 ·exact hs.kept e he
 ·exact hs.late e (TP he)
theorem VP{s:AN}{u:Int}(h:(CE s u).2=true):VU s∧VU (CE s u).1∧(CE s u).1=(Dr s.1 (OC 1048575 0 s.2.1),[],max s.2.2.1 u,())∧0≤u∧u≤30:=by
 unfold CE at*;split at h
 ·cases h
 rename_i hs;rw[AEB hs];simp only[AEz,AEt]at hs;simp only at h⊢;split at h
 case isFalse=>cases h
 rename_i h1;rw[AEA h1];simp only[AEF,Aw]at h1;obtain⟨k1,k2,k3⟩:=MP h1.1;have jq:(CV s).1=_:=k3;rw[jq];refine⟨k1,⟨?_,?_,by simp,by simp,TJ k1.lb,?_⟩,rfl,h1.2⟩
 ·have:=k2.nk;simp_all
 ·have:=k2.kept;simp_all
 ·have:=k1.sl
  grind
theorem dT{s:AN}{u:Int}(h:(KG s u).2=true):VU s∧VU (KG s u).1∧(KG s u).1=(s.1.filter fun e=>decide (e.1>u),s.2.1,s.2.2.1,()):=by
 unfold KG at*;split at h
 ·cases h
 rename_i hs;rw[AEB hs];simp only[AEz,AEt]at hs;rw[GJ]at hs;split at h
 case isFalse=>cases h
 rename_i h1;rw[AEA h1];refine⟨hs,⟨AFS (AF3 _ _) hs.nk,fun e he=>hs.kept e (List.mem_filter.1 he).1,hs.nl,hs.late,hs.lb.filter _,hs.sl⟩,rfl⟩
theorem lf{c:B_}{ss:List AN}{lost:AAQ}{n u:Int}(h:(Xl c ss lost n u).2=true):
  VU (Xl c ss lost n u).1∧(Xl c ss lost n u).1=(HG [] (others lost 0 ss),[],u,())∧holds c lost=false∧ ∀s∈others lost 0 ss,VU s:=by
 unfold Xl at*;simp only at h⊢;split at h
 case isFalse=>cases h
 rename_i h1;rw[AEA h1];simp only[AEF,AEK,AGK,AF5]at h1;obtain⟨_,_,_,h2,_,h3,h4⟩:=h1;exact⟨GJ.1 h4,rfl,h2,fun s hs=>GJ.1 (h3 s hs)⟩
theorem Sy{l:List Co}:∀{d i:Nat},i+d=l.length→(TT l i d=0∧ ∀j,i≤j→j<l.length→(l.getD j Gg).2.1=true)∨
  ∃k,i≤k∧k<l.length∧TT l i d=(k:Int)+1∧(l.getD k Gg).2.1=false∧ ∀j,i≤j→j<k→(l.getD j Gg).2.1=true
 |0,i,h=> .inl ⟨rfl,fun j h1 h2=>by omega⟩
 |d+1,i,h=>by
  simp only[TT];cases hb:(l.getD i ([],false,0,())).2.1 with
  |false=>grind
  |true=>
   simp only[AET,AEL];rcases Sy (l:=l) (d:=d) (i:=i+1) (by omega)with⟨h1,h2⟩|⟨k,h1,h2,h3,h4,h5⟩
   all_goals grind
theorem O6{c:B_}{r:AK}(h:jx c r)(hl:0<r.1.length):∃k,k<r.1.length∧BF r.1=(k:Int)+1∧(r.1.getD k Gg).2.1=false∧ ∀j,j<k→(r.1.getD j Gg).2.1=true:=by
 rcases Sy (l:=r.1) (d:=r.1.length) (i:=0) (by omega)with⟨h1,h2⟩|⟨k,h1,h2,h3,h4,h5⟩
 ·have:=(h.down (r.1.length-1) (by omega) (h2 _ (by omega) (by omega))).1
  omega
 ·exact⟨k,h2,h3,h4,fun j hj=>h5 j (by omega) hj⟩
theorem ix{c:B_}{r:AK}{ns:AAQ}(h:(Jr c r ns).2.2=true):jx c r∧jx c (Jr c r ns).1∧(Jr c r ns).1=(r.1++[(ns,false,0,())],r.2.1,())∧(Jr c r ns).2.1=(r.1.length:Int)+1∧holds c ns=true∧r.1.length<30:=by
 unfold Jr at*;split at h
 ·cases h
 rename_i hs;rw[AEB hs];simp only[AEz,AEt]at hs;rw[KF]at hs;split at h
 case isFalse=>cases h
 rename_i h1;rw[AEA h1];simp only[AEF,AEK]at h1;have hn:=hs.n;refine⟨hs,⟨hs.cfg,?_,?_,fun e he=> ?_,fun i hi hc=> ?_⟩,rfl,rfl,h1.1,by omega⟩
 ·grind
 ·rcases hs.trim with h2|⟨h2,h3⟩
  all_goals grind
 ·simp only[AEZ,AFp]at he
  rcases he with he|rfl
  ·exact hs.A6 e he
  simp_all
 ·simp only[AEM,AEI,AEc]at hi
  have get:∀j,j<r.1.length→(r.1++[(ns,false,0,())]).getD j Gg=r.1.getD j Gg:=fun j hj=>by
   grind
  by_cases hl:i<r.1.length
  ·rw[get i hl]at hc
   obtain⟨h2,h3⟩:=hs.down i hl hc;grind
  simp_all
theorem RL{l:List Co}{i j:Nat}{last:Int}(hi:i<l.length):(Jb l i last).getD j Gg=if i=j then((l.getD i Gg).1,true,last,())else l.getD j Gg:=by
 grind[Jb]
theorem fO{c:B_}{r:AK}{b last:Int}(h:(My c r b last).2=true):jx c r∧jx c (My c r b last).1∧
  ∃k,k<r.1.length∧BF r.1=(k:Int)+1∧k+1<r.1.length∧b=r.1.length∧(0≤last∧last≤60)∧(My c r b last).1=(Jb r.1 k last,r.2.1,())∧(r.1.getD k Gg).2.1=false∧ ∀j,j<k→(r.1.getD j Gg).2.1=true:=by
 unfold My at*;split at h
 ·cases h
 rename_i hs;rw[AEB hs];simp only[AEz,AEt]at hs;rw[KF]at hs;split at h
 case isFalse=>cases h
 rename_i h1;rw[AEA h1];simp only[AEF,AEK,Aw]at h1;obtain⟨hb,h0,SY,hlast⟩:=h1;have hl:0<r.1.length:=by
  rcases Nat.eq_zero_or_pos r.1.length with hz|hz
  ·exfalso
   apply h0;unfold BF;rw[hz];rfl
  omega
 obtain⟨k,k1,k2,k3,k4⟩:=O6 hs hl;have hk:(BF r.1-1).toNat=k:=by omega
 rw[hk];have hlen:(Jb r.1 k last).length=r.1.length:=by simp[Jb]
 refine⟨hs,⟨hs.cfg,by rw[hlen];exact hs.n,?_,fun e he=> ?_,fun i hi hc=> ?_⟩,k,k1,k2,by omega,hb,hlast,rfl,k3,k4⟩
 ·simp only[hlen];exact hs.trim
 ·unfold Jb at he
  rcases AGQ he with he|rfl
  ·exact hs.A6 e he
  ·exact⟨(hs.A6 _ (Bg k1)).1,hlast,fun hf=>by cases hf⟩
 ·simp only[hlen]at hi⊢
  rw[RL k1]at hc;by_cases hik:k=i
  ·subst hik
   refine⟨by omega,fun j hj=> ?_⟩;rw[RL k1,AEB (by omega)];simp_all
  ·rw[AEB hik]at hc
   obtain⟨h2,h3⟩:=hs.down i hi hc;grind[RL]
theorem gr{c:B_}{r:AK}{p:Int}(h:(P5 c r p).2=true):jx c r∧jx c (P5 c r p).1∧(P5 c r p).1=(r.1,max r.2.1 p,()):=by
 unfold P5 at*;split at h
 ·cases h
 rename_i hs;rw[AEB hs];simp only[AEz,AEt]at hs;rw[KF]at hs;split at h
 case isFalse=>cases h
 rename_i h1;rw[AEA h1];simp only[AEF,AEK]at h1;refine⟨hs,⟨hs.cfg,hs.n,?_,hs.A6,hs.down⟩,rfl⟩;simp only;have hp:=(TF h1.1).1;by_cases hm:r.2.1≤p
 ·grind
 ·rw[show max r.2.1 p=r.2.1 by omega]
  exact hs.trim
theorem Vl{c:B_}{w:AQ}{d:AAh}(h:(Fu c w d).2.2=true):Uu c w∧Uu c (Fu c w d).1∧(Fu c w d).1=(w.1,w.2.1++[(d,[],false,())],())∧(Fu c w d).2.1=(w.2.1.length:Int)+1:=by
 unfold Fu at*;split at h
 ·cases h
 rename_i hs;rw[AEB hs];simp only[AEz,AEt]at hs;rw[JI]at hs;split at h
 case isFalse=>cases h
 rename_i h1;rw[AEA h1];exact⟨hs,JI.1 h1,rfl,rfl⟩
theorem Ri{c:B_}{s:AN}{ep n:Int}(hn:0≤n∧n<c.1.length):∀{l:List BQ} {o:Int},(∀x∈l,x.1.length≤40∧BA c x.2.1=true∧x.2.2.1=holds c x.2.1)→
  (∀x∈B7 c s ep n o l,x.1.length≤40∧BA c x.2.1=true∧x.2.2.1=holds c x.2.1)∧Mx (B7 c s ep n o l)≤Mx l∧(B7 c s ep n o l).length=l.length
 |[],o,h=>by simp[B7]
 |x::l,o,h=>by
  obtain⟨h1,h2,h3⟩:=Ri (s:=s) (ep:=ep) hn (l:=l) (o:=o+1) fun y hy=>h y (by simp[hy])
  have hx:=h x (by simp);simp only[B7,AEd,AEI,Mx];split
  ·rename_i hd
   simp only[AEF,AGK]at hd;refine⟨?_,?_,by omega⟩
   ·rintro y (rfl|hy)
    ·exact⟨hx.1,Ks hx.2.1 hn,rfl⟩
    grind
   grind
  grind
theorem cH{c:B_}{n:Int}:∀{l:List BQ},(∀x∈l,x.1.length≤40∧BA c x.2.1=true∧x.2.2.1=holds c x.2.1)→
  (∀x∈l.map (Eg n),x.1.length≤40∧BA c x.2.1=true∧x.2.2.1=holds c x.2.1)∧Mx (l.map (Eg n))=Mx l
 |[],h=>by simp
 |x::l,h=>by
  obtain⟨h1,h2⟩:=cH (n:=n) (l:=l) fun y hy=>h y (by simp[hy])
  have hx:=h x (by simp);simp only[AGY,AEd,Mx,h2,Eg,AFR]
  rintro y (rfl|hy)
  ·refine⟨hx.1,?_,?_⟩
   ·simp only
    split
    ·simp_all
    ·exact Ke _ hx.2.1
   ·simp only
    split
    ·simp_all
    ·rename_i hd
     simp only[AEz]at hd;rw[hd]
     symm
     rw[AGv];grind[ZT,ZW]
  grind
theorem SR{c:B_}{w:AQ}{n:Int}(h:Uu c w):Uu c (Cm c w n).1∧(Cm c w n).1=(w.1,w.2.1.map (Eg n),()):=by
 unfold Cm;rw[JI.2 h];obtain⟨h1,h2⟩:=cH (n:=n) h.words;exact⟨⟨h.cfg,h.ep,by simpa using h.n,h1,by simp only[AET];exact h2▸h.opn⟩,rfl⟩
theorem HL{l:List AH}:0≤KJ l∧KJ l≤60:=by
 unfold KJ;cases l.length==0 with
 |true=>simp
 |false=>
  simp only[AEL];rcases AD8 (Ay (l.getD (l.length-1) Db).1)with h|h
  ·have:=(KC h).2.1;omega
  grind[CY]
theorem fM{c:B_}{m:A7}{n:Int}{l:List AH}(h:(M7 c m n l).2=true):bj c m∧bj c (M7 c m n l).1∧m.2.2.2.2.1=false∧
  (M7 c m n l).1=(m.1,m.2.1,NJ n m.2.2.1,Dr m.2.2.2.1 (l.filter fun e=>Ah e.1==m.2.1),m.2.2.2.2.1,m.2.2.2.2.2.1,()):=by
 unfold M7 at*;split at h
 ·cases h
 rename_i hs;rw[AEB hs];simp only[AEz,AEt]at hs;rw[Ij]at hs;simp only at h⊢;split at h
 case isFalse=>cases h
 rename_i h1;rw[AEA h1];simp only[AEF,AGK]at h1;exact⟨hs,Ij.1 h1.2,h1.1,rfl⟩
theorem fN{c:B_}{m:A7}{s:AAQ}(h:(M3 c m s).2=true):bj c m∧bj c (M3 c m s).1∧m.2.2.2.2.1=false∧TM c s (m.2.2.1.filter s.contains)=true∧
  (M3 c m s).1=(m.1,m.2.1,m.2.2.1,m.2.2.2.1,true,List.replicate (KJ m.2.2.2.1).toNat [],()):=by
 unfold M3 at*;split at h
 ·cases h
 rename_i hs;rw[AEB hs];simp only[AEz,AEt]at hs;rw[Ij]at hs;split at h
 case isFalse=>cases h
 rename_i h1;rw[AEA h1];simp only[AEF,AGK]at h1;refine⟨hs,⟨hs.cfg,hs.ep,hs.b,hs.sld,hs.lb,hs.seen,fun l hl=> ?_,?_⟩,h1.1,h1.2,rfl⟩
 ·simp only at hl
  rw[AFy hl];exact S8 hs.cfg
 ·simp only[AGZ,AGG]
  have:=(HL (l:=m.2.2.2.1)).1;omega
theorem Vv{c:B_}{m:A7}{s:AN}{n:Int}(hn:0≤n∧n<c.1.length):∀{l:List AAQ} {o:Int},(∀x∈l,BA c x=true)→
  (∀x∈F4 m s n o l,BA c x=true)∧(F4 m s n o l).length=l.length
 |[],o,h=>by simp[F4]
 |x::l,o,h=>by
  obtain⟨h1,h2⟩:=Vv (m:=m) (s:=s) hn (l:=l) (o:=o+1) fun y hy=>h y (by simp[hy])
  have hx:=h x (by simp);simp only[F4,AEd,AEI,h2,AFR]
  rintro y (rfl|hy)
  all_goals grind[Ks]
theorem np{c:B_}{s:AN}{l:List Co}{n:Int}{m:A7}(hn:0≤n∧n<c.1.length)(h:bj c m):bj c (Mw s l n m):=by
 unfold Mw;split
 ·obtain⟨h1,h2⟩:=Vv (m:=m) (s:=s) hn (o:=1) h.wrote
  exact⟨h.cfg,h.ep,h.b,h.sld,h.lb,h.seen,h1,by simp only[h2];exact h.n⟩
 omega
theorem bP{c:B_}{m:A7}{n:Int}(h:bj c m):bj c (Cq c m n).1∧(Cq c m n).1=(m.1,m.2.1,m.2.2.1,m.2.2.2.1,m.2.2.2.2.1,m.2.2.2.2.2.1.map fun l=>less l [n],()):=by
 unfold Cq;rw[Ij.2 h];refine⟨⟨h.cfg,h.ep,h.b,h.sld,h.lb,h.seen,fun l hl=> ?_,?_⟩,rfl⟩
 ·simp only[AET,AER,AFJ,AGa]at hl
  obtain⟨l',h1,rfl⟩:=hl;exact Ke _ (h.wrote l' h1)
 ·simp only[AET,AER,AFJ,AGc]
  exact h.n
theorem bW{c:B_}{g:AK}{sure:Int}{r:Aj}{l:List A_}(h:(D1 c g sure r l).2=0):tK (D1 c g sure r l).1:=by
 unfold D1 at*;split at h
 ·omega
 rename_i hs;rw[AEB hs];simp only[AEz,AEt,AEF,KF,Tk]at hs;obtain⟨hg,hr,_⟩:=hs;have r1:=hr.ep;have r2:=hr.off;have r3:=hr.n;split at h
 ·omega
 rename_i h1;rw[AEB h1];simp only[AF6,AEK,AHO]at h1;have hn:=hg.n;simp only at h⊢;split at h
 ·rename_i h2
  rw[AEA h2];have hp:Ay g.2.1=true:=by
   rcases hg.trim with ht|ht
   all_goals grind[Lu]
  obtain⟨a1,a2,_⟩:=KC hp;exact⟨by grind,by grind,by grind⟩
 ·rename_i h2
  rw[AEB h2];split at h
  ·rename_i h3
   rw[AEA h3];exact⟨by grind,by simp_all,by simp_all;omega⟩
  ·rename_i h3
   rw[AEB h3];split at h
   ·omega
   rename_i h4;rw[AEB h4];simp only[AF6,AEK,AHO]at h4;split at h
   ·omega
   rename_i h5;rw[AEB h5];exact⟨by omega,by grind,by simp_all;omega⟩
end Go.M
end
section
namespace Go.M
open Go.M.H (AH AN A7 A3 AA Co AK BQ AQ Aj BO A_ AR)
theorem AF{α β:Type}(a:α)(f:α→Option β):(some a).bind f=f a:=rfl
theorem M_{l:AAQ}{x:Int}(hl:l.length≤2^30):∀(n i:Nat) (b:AAQ),i≤l.length→l.length-i<n→b.length≤2*i+1→
  Ge n l x true i b=some (((),()),(b++l.drop i,()))
 |0,i,b,_,h,_=>by omega
 |n+1,i,b,hi,h,hb=>by
  simp only[Ge,Lw,AE,AET,AEL];by_cases hc:i<l.length
  ·have c1:(0:Int)≤(i:Int)∧(i:Int)<(l.length:Int):=by omega
   have c2:b.length+1≤Cg:=by rw[Ao];omega
   rw[AEA c1.2,AEA c1,AEA c2,AG (by omega) (by omega),show((i:Int)+1)=((i+1:Nat):Int)by omega,BC hc,drop_cons hc,M_ hl n (i+1) _ (by omega) (by omega) (by grind)];simp
  grind
theorem Qk{l:AAQ}{x:Int}(hl:l.length≤2^30):∀(n i:Nat) (b:AAQ),i≤l.length→l.length-i<n→b.length≤i→
  Ge n l x false i b=some (((),()),(b++YO x (l.drop i),()))
 |0,i,b,_,h,_=>by omega
 |n+1,i,b,hi,h,hb=>by
  simp only[Ge,Lw,AE,AGP,AEb];have c2:b.length+1≤Cg:=by rw[Ao];omega
  by_cases hc:i<l.length
  ·have c1:(0:Int)≤(i:Int)∧(i:Int)<(l.length:Int):=by omega
   have c3:(b++[x]).length+1≤Cg:=by grind[Ao]
   rw[AEA c1.2];simp only[AEA c1,AEA c2,AEA c3];rw[AG (by omega) (by omega),show((i:Int)+1)=((i+1:Nat):Int)by omega,BC hc,drop_cons hc];simp only[YO];by_cases hx:l[i]>x
   ·rw[AEA hx,AEA (by omega),M_ hl n (i+1) _ (by omega) (by omega) (by grind)]
    simp
   ·rw[AEB hx,AEB (by omega),Qk hl n (i+1) _ (by omega) (by omega) (by simp_all)]
    simp
  ·rw[AEB (by omega),AEA c2,AEU (by omega)]
   rfl
theorem Hp{l:AAQ}{x:Int}(hl:l.length≤2^30):HP l x=some (((),()),(NJ x l,())):=by
 unfold HP Q6 NJ;rw[GM (by omega)];simp only[AF];rcases AD8 (l.contains x)with h|h
 ·rw[h,AEA rfl]
  grind[M_,Ar,A0]
 ·rw[h,AEB (by simp)]
  grind[Qk,Ar,A0]
theorem QG{l m:AAQ}(hl:l.length≤2^30)(hm:m.length≤2^30):∀(n i:Nat) (b:AAQ),i≤l.length→l.length-i<n→b.length≤i→
  Ii n l m i b=some (((),()),(b++less (l.drop i) m,()))
 |0,i,b,_,h,_=>by omega
 |n+1,i,b,hi,h,hb=>by
  simp only[Ii,Px,AE];have c2:b.length+1≤Cg:=by rw[Ao];omega
  by_cases hc:i<l.length
  ·have c1:(0:Int)≤(i:Int)∧(i:Int)<(l.length:Int):=by omega
   rw[AEA c1.2];simp only[AEA c1,AEA c2];rw[AG (by omega) (by omega),show((i:Int)+1)=((i+1:Nat):Int)by omega,BC hc,drop_cons hc,GM (by omega)];simp only[AF,less,AGk];cases hx:m.contains l[i]with
   |true=>
    simp only[AET,AEL,AER,AFJ];exact QG hl hm n (i+1) _ (by omega) (by omega) (by omega)
   |false=>
    simp only[AGP,AEb,AGG];rw[QG hl hm n (i+1) _ (by omega) (by omega) (by simp_all)];simp[less]
  ·rw[AEB (by omega),AEU (by omega)]
   simp[less]
theorem Fe{l m:AAQ}(hl:l.length≤2^30)(hm:m.length≤2^30):E7 l m=some (((),()),(less l m,())):=by
 grind[E7,PX,QG,Ar,A0]
theorem Hl{e o:Int}(he: -1000≤e∧e≤1000)(ho: -1000≤o∧o≤1000):Bv e o=some ((Lu e o,()),()):=by
 grind[Bv,Lu,AG]
theorem P4{e o:Int}:IQ e o=some (((II e o,BX e 1 30&&BX o 1 60,()),()),()):=by
 unfold IQ II;rw[An,An];simp only[AF];rcases AD8 (BX e 1 30)with he|he
 ·rcases AD8 (BX o 1 60)with ho|ho
  ·have h1:=Aw.1 he
   have h2:=Aw.1 ho;rw[he,ho,AG (x:=4294967296*e) (by omega) (by omega),AG (by omega) (by omega)];rfl
  simp_all
 simp_all
theorem Gd{a b:Int}:HM a b=some ((max a b,()),()):=by
 unfold HM;grind
theorem Je{a b:Int}:HV a b=some ((min a b,()),()):=by
 unfold HV;grind
def jO(q:AN×Bool):ABj×(List AH×List AH×Unit):=(((((),(),q.1.2.2.1,()),q.2,()),()),(q.1.1,q.1.2.1,()))
theorem Ir{s:AN}(h1:s.1.length≤2^30)(h2:s.2.1.length≤2^30):Cc s=some ((((),(),s.2.2.1,()),()),(s.1,s.2.1,())):=by
 unfold Cc;rw[AEA (by rw[Ao];omega),AEA (by rw[Ao];omega)]
theorem Xp{s:AN}{e:AH}(he:BB e.1):OL s e=some ((takes s e,()),()):=by
 unfold OL takes;rw[CO he];grind
theorem Ov{a b:AH}:KE a b=some ((better a b,()),()):=by
 unfold KE better;grind
theorem HY{s:AN}(h:H.Ax s≤2^30):s.1.length≤2^30∧s.2.1.length≤2^30:=by
 grind[H.AW,H.Az,H.Ax]
theorem Qt{s:AN}{e:AH}(hw:H.Ax s≤2^30)(hs:lh s)(he:BB e.1):Ji s e=some (jO (Jd s e)):=by
 obtain⟨l1,l2⟩:=HY hw;unfold Ji Jd;rw[show(s.1,s.2.1,s.2.2.1,())=s from rfl,show(e.1,e.2.1,e.2.2.1,e.2.2.2.1,())=e from rfl,C9 hw hs,Ir l1 l2,Jm he,Xp he];simp only[AF];rcases AD8 (Ck s)with h|h
 rotate_left
 ·rw[h];rfl
 rw[h];simp only[AET,AEL,AER,AFJ];cases Ea e with
 |false=>rfl
 |true=>
  cases takes s e with
  |false=>rfl
  |true=>
   simp only[AET,AEL,AEh];by_cases h20:s.2.1.length=20
   ·rw[show((s.2.1.length:Int)==20)=true by simp[h20],show decide (s.2.1.length≠20)=false by simp[h20]]
    rfl
   ·rw[show((s.2.1.length:Int)==20)=false by grind,show decide (s.2.1.length≠20)=true by simp[h20],AEL,AEA (by rw[Ao];omega)]
    rfl
theorem L5{l:List AH}{e:AH}(hl:l.length≤2^30):∀(n i:Nat) (b:List AH),i≤l.length→l.length-i<n→b.length≤2*i+1→
  FX n l true i e.1 e.2.1 e.2.2.1 e.2.2.2.1 b=some (((),()),(b++l.drop i,()))
 |0,i,b,_,h,_=>by omega
 |n+1,i,b,hi,h,hb=>by
  simp only[FX,LP,AE,AET,AEL];by_cases hc:i<l.length
  ·have c1:(0:Int)≤(i:Int)∧(i:Int)<(l.length:Int):=by omega
   have c2:b.length+1≤Cg:=by rw[Ao];omega
   rw[AEA c1.2,AEA c1,AEA c2,AG (by omega) (by omega),show((i:Int)+1)=((i+1:Nat):Int)by omega,BC hc,drop_cons hc,L5 hl n (i+1) _ (by omega) (by omega) (by grind),AEE];rfl
  grind
theorem PW{l:List AH}{e:AH}(hl:l.length≤2^30):∀(n i:Nat) (b:List AH),i≤l.length→l.length-i<n→b.length≤i→
  FX n l false i e.1 e.2.1 e.2.2.1 e.2.2.2.1 b=some (((),()),(b++keep e (l.drop i),()))
 |0,i,b,_,h,_=>by omega
 |n+1,i,b,hi,h,hb=>by
  simp only[FX,LP,AE,AGP,AEb];have c2:b.length+1≤Cg:=by rw[Ao];omega
  by_cases hc:i<l.length
  ·have c1:(0:Int)≤(i:Int)∧(i:Int)<(l.length:Int):=by omega
   have c3:(b++[(e.1,e.2.1,e.2.2.1,e.2.2.2.1,())]).length+1≤Cg:=by grind[Ao]
   rw[AEA c1.2];simp only[AEA c1,AEA c2,AEA c3];rw[AG (by omega) (by omega),show((i:Int)+1)=((i+1:Nat):Int)by omega,BC hc,drop_cons hc];rw[show(l[i].1,l[i].2.1,l[i].2.2.1,l[i].2.2.2.1,())=l[i]from rfl,show(e.1,e.2.1,e.2.2.1,e.2.2.2.1,())=e from rfl,Ov];simp only[AF,keep];by_cases hx:l[i].1=e.1
   ·rw[show(l[i].1==e.1)=true by simp_all,AEA hx,AEb,show((better l[i] e).1,(better l[i] e).2.1,(better l[i] e).2.2.1,(better l[i] e).2.2.2.1,())=better l[i] e from rfl,L5 hl n (i+1) _ (by omega) (by omega) (by grind)]
    simp
   ·rw[show(l[i].1==e.1)=false by simp_all,AEB hx,AEL]
    by_cases hg:l[i].1>e.1
    ·rw[AEA hg,AEA hg,L5 hl n (i+1) _ (by omega) (by omega) (by grind)]
     simp
    ·rw[AEB hg,AEB hg,PW hl n (i+1) _ (by omega) (by omega) (by simp_all)]
     simp
  ·rw[AEB (by omega),AEA c2,AEU (by omega)]
   rfl
theorem PC{l:List AH}{e:AH}(hl:l.length≤2^30):KH l e=some (((),()),(keep e l,())):=by
 grind[KH,Pp,PW,Ar,A0]
theorem MF{l:List AH}{p:Int}(hl:l.length≤2^30):D3 l p=some ((((Rz p l).getD Db,(Rz p l).isSome,()),()),()):=by
 have key:∀(n i:Nat),i≤l.length→l.length-i<n→Jg n l p i 0 0 false []=some ((((Rz p (l.drop i)).getD Db,(Rz p (l.drop i)).isSome,()),()),()):=by
  intro n
  induction n with
  |zero=>omega
  |succ n ih=>
   intro i hi h;simp only[Jg,Ql,AE];by_cases hc:i<l.length
   ·have c1:(0:Int)≤(i:Int)∧(i:Int)<(l.length:Int):=by omega
    rw[AEA c1.2];simp only[AEA c1];rw[AG (by omega) (by omega),show((i:Int)+1)=((i+1:Nat):Int)by omega,BC hc,drop_cons hc,ih (i+1) (by omega) (by omega)];simp only[Rz,List.find?_cons];cases l[i].1==p<;>rfl
   ·rw[AEB (by omega),AEU (by omega)]
    rfl
 grind[D3,RC,Ar,A0]
end Go.M
end
section
namespace Go.M
open Go.M.H (AH AN A7 A3 AA Co AK BQ AQ Aj BO A_ AR Ax Af AW Az)
theorem mv{k:Int}{i:Nat}(hk:0≤k∧k<2^63)(hi:i≤63):(T4 .i64 (k.fdiv (2^(min i 64))) 1==1)=decide ((k/2^i)%2=1):=by
 obtain⟨m,rfl⟩:∃m:Nat,k=m:=⟨k.toNat,by omega⟩;rw[show min i 64=i by omega];have h1:(m:Int).fdiv (2^i)=((m/2^i:Nat):Int):=by
  grind
 have h2:(m:Int)/2^i=((m/2^i:Nat):Int):=by norm_cast
 have h3:m/2^i<2^63:=Nat.lt_of_le_of_lt (Nat.div_le_self _ _) (by omega);rw[h1,h2,show(1:Int)=((1:Nat):Int)from rfl,mQ h3 (by omega),Nat.and_one_is_mod];rfl
def gI(p:Nat→Bool):Nat→List AH→List AH
 |_,[]=>[]
 |i,e::l=>if p i then e::gI p (i+1) l else gI p (i+1) l
theorem cf{k:Int}(hk:0≤k∧k<2^63):∀{l:List AH} {i:Nat},i+l.length≤60→gI (fun i=>T4 .i64 (k.fdiv (2^(min i 64))) 1==1) i l=OC k i l
 |[],i,_=>rfl
 |e::l,i,h=>by
  simp only[AEI]at h;have ih:=cf hk (l:=l) (i:=i+1) (by omega);have ADg:=mv hk (i:=i) (by omega);simp only[gI,OC];simp_all
theorem P3{s:AN}{k:Int}(h1:s.1.length≤200)(h2:s.2.1.length≤20):∀(n i:Nat) (b:List AH),i≤s.2.1.length→s.2.1.length-i<n→b.length≤200+i→
  FR n k i s.1 s.2.1 s.2.2.1 0 [] [] s.2.2.1 b []=
   some (jO (if BX k 0 1048575&&decide ((Dr b (gI (fun i=>T4 .i64 (k.fdiv (2^(min i 64))) 1==1) i (s.2.1.drop i))).length≤200)then((Dr b (gI (fun i=>T4 .i64 (k.fdiv (2^(min i 64))) 1==1) i (s.2.1.drop i)),[],s.2.2.1,()),true)else(s,false)))
 |0,i,b,_,h,_=>by omega
 |n+1,i,b,hi,h,hb=>by
  simp only[FR,Lf,AE];by_cases hc:i<s.2.1.length
  ·have c1:(0:Int)≤(i:Int)∧(i:Int)<(s.2.1.length:Int):=by omega
   have ih:=fun b hb=>P3 (k:=k) h1 h2 n (i+1) b (by omega) (by omega) hb
   rw[AEA c1.2,AEB (by omega)];simp only[AEA c1];rw[AG (by omega) (by omega),show((i:Int)+1)=((i+1:Nat):Int)by omega,BC hc,drop_cons hc,AEq];rw[show(s.2.1[i].1,s.2.1[i].2.1,s.2.1[i].2.2.1,s.2.1[i].2.2.2.1,())=s.2.1[i]from rfl,PC (by omega)];simp only[AF,gI];have kl:=Vp (e:=s.2.1[i]) (l:=b);rcases AD8 (T4 .i64 (k.fdiv (2^(min i 64))) 1==1)with hb|hb
   ·simp only[hb,AEb,AGG,Dr]
    grind
   grind
  ·rw[AEB (by omega),AEU (by omega),An,show(s.1,s.2.1,s.2.2.1,())=s from rfl,Ir (by omega) (by omega)]
   simp only[AF,gI,Dr];cases BX k 0 1048575 with
   |false=>rfl
   |true=>
    simp only[AET,AEL,AEh];by_cases h200:b.length≤200
    ·rw[AEB (by omega),AFM h200];rfl
    ·rw[AEA (by omega),AF0 h200];rfl
theorem Oq{s:AN}{k:Int}(hw:Ax s≤2^30)(hs:lh s):Hg s k=some (jO (HH s k)):=by
 obtain⟨l1,l2⟩:=HY hw;unfold Hg Ll HH;rw[show(s.1,s.2.1,s.2.2.1,())=s from rfl,C9 hw hs];simp only[AF];rcases AD8 (Ck s)with h|h
 rotate_left
 ·rw[h];rfl
 have IK:=GJ.1 h;rw[h];simp only[AET,AEL,AER,AFJ];rw[AEA (by rw[Ao];omega)];have:=P3 (k:=k) IK.nk IK.nl Ar 0 s.1 (by omega) (A0 (by omega)) (by have:=IK.nk;omega);rw[show((0:Nat):Int)=0 from rfl,AGH]at this;rw[this];rcases AD8 (BX k 0 1048575)with hk|hk
 ·have hk':=Aw.1 hk
  have hn:=IK.nl;grind[cf]
 simp_all
theorem Pf{s:AN}(hw:Ax s≤2^30)(hs:lh s):Il s=some (jO (CV s)):=by
 unfold Il CV;rw[show(s.1,s.2.1,s.2.2.1,())=s from rfl,Oq hw hs];rfl
theorem VH{s:AN}{u:Int}(hw:Ax s≤2^30)(hs:lh s):LX s u=some (jO (CE s u)):=by
 obtain⟨l1,l2⟩:=HY hw;unfold LX CE;rw[show(s.1,s.2.1,s.2.2.1,())=s from rfl,C9 hw hs,Pf hw hs,Ir l1 l2,An];simp only[AF];cases Ck s with
 |false=>rfl
 |true=>
  simp only[AET,AEL,AER,AFJ,jO];cases(CV s).2 with
  |false=>rfl
  |true=>
   cases BX u 0 30 with
   |false=>rfl
   |true=>
    simp only[AET,AEL,AEh,AGG];rw[Gd];rfl
theorem Ww{s:AN}{ep:Int}(hw:Ax s≤2^30)(hs:lh s):MW s ep=some (((),()),(M0 s ep,())):=by
 obtain⟨l1,l2⟩:=HY hw;unfold MW NP M0;rcases AD8 (Ck s)with h|h
 ·have key:∀(n i:Nat) (b:List AH),i≤s.1.length→s.1.length-i<n→b.length≤i→FD n ep i s.1 s.2.1 s.2.2.1 b=some (((),()),(b++(s.1.drop i).filter fun e=>Ah e.1==ep,())):=by
   intro n
   induction n with
   |zero=>omega
   |succ n ih=>
    intro i b hi hn hb;simp only[FD,JT,AE];have c2:b.length+1≤Cg:=by rw[Ao];omega
    by_cases hc:i<s.1.length
    ·have c1:(0:Int)≤(i:Int)∧(i:Int)<(s.1.length:Int):=by omega
     rw[AEA c1.2];simp only[AEA c1,AEA c2];rw[AG (by omega) (by omega),show((i:Int)+1)=((i+1:Nat):Int)by omega,BC hc,drop_cons hc,show(s.1,s.2.1,s.2.2.1,())=s from rfl,C9 hw hs,CO (hs.1 _ (AEa hc)),h];simp only[AF,AEb,AGk];cases Ah s.1[i].1==ep with
     |true=>
      simp only[AEb,AGG];rw[ih (i+1) _ (by omega) (by omega) (by simp_all),AEE];rfl
     |false=>
      grind
    grind
  have:=key Ar 0 [] (by omega) (A0 (by omega)) (by simp);simp_all
 ·obtain⟨m,hm⟩:∃m,Ar=m+1:=⟨Ar-1,by have:=VV;omega⟩
  rw[h,hm];simp only[FD,JT,AE];rw[show(s.1,s.2.1,s.2.2.1,())=s from rfl,C9 hw hs,h];simp_all
theorem VW{s:AN}{u:Int}(hw:Ax s≤2^30)(hs:lh s)(hu:BB u):LQ s u=some (jO (KG s u)):=by
 obtain⟨l1,l2⟩:=HY hw;unfold LQ Mr KG;rw[show(s.1,s.2.1,s.2.2.1,())=s from rfl,C9 hw hs,Ir l1 l2,C6 hu];simp only[AF];cases Ck s with
 |false=>rfl
 |true=>
  cases Ay u with
  |false=>rfl
  |true=>
   simp only[AET,AEL,AER,AFJ,AGG];have key:∀(n i:Nat) (b:List AH),i≤s.1.length→s.1.length-i<n→b.length≤i→GR n u i s.1 s.2.1 s.2.2.1 0 [] [] s.2.2.1 b s.2.1=some (jO ((b++(s.1.drop i).filter fun e=>decide (e.1>u),s.2.1,s.2.2.1,()),true)):=by
    intro n
    induction n with
    |zero=>omega
    |succ n ih=>
     intro i b hi hn hb;simp only[GR,M5];have c2:b.length+1≤Cg:=by rw[Ao];omega
     by_cases hc:i<s.1.length
     ·have c1:(0:Int)≤(i:Int)∧(i:Int)<(s.1.length:Int):=by omega
      rw[AFM c1.2];simp only[AEA c1,AEA c2,AEb];rw[AG (by omega) (by omega),show((i:Int)+1)=((i+1:Nat):Int)by omega,BC hc,drop_cons hc];simp only[AGk];cases decide (s.1[i].1>u)with
      |true=>
       simp only[AEb,AGG];rw[ih (i+1) _ (by omega) (by omega) (by simp_all),AEE];rfl
      |false=>
       grind
     grind[decide_eq_false,List.drop_eq_nil_of_le,jO]
   have:=key Ar 0 [] (by omega) (A0 (by omega)) (by simp);simp_all
end Go.M
end
section
namespace Go.M
open Go.M.H (AH AN A7 A3 AA Co AK BQ AQ Aj BO A_ AR Ax Af AW Ac Az CN Bf A4)
theorem UQ{α:Type}{l:List α}{i:Nat}{x d:α}(hi:i<l.length):(l.set i x).getD i d=x:=by
 simp_all
theorem Pv{α:Type}{l:List α}{f:α→α}{i:Nat}(hi:i≤l.length):((l.map f).take i++l.drop i).length=l.length:=by
 simp_all
theorem PK{α:Type}{l:List α}{f:α→α}{i:Nat}{d:α}(hi:i<l.length):((l.map f).take i++l.drop i).getD i d=l[i]:=by
 grind
theorem Rl{α:Type}{l:List α}{f:α→α}{i:Nat}{y:α}(hi:i<l.length)(hy:y=f l[i]):((l.map f).take i++l.drop i).set i y=(l.map f).take (i+1)++l.drop (i+1):=by
 have h:((l.map f).take i).length=i:=by grind
 subst hy;rw[AHB _ _ (by omega),h,AHI,drop_cons hi,AG0,List.take_succ_eq_append_getElem (by simp_all),AEE,List.getElem_map];rfl
theorem eS{α:Type}{l:List α}{f:α→α}{i:Nat}(hi:i<l.length)(hf:f l[i]=l[i]):(l.map f).take i++l.drop i=(l.map f).take (i+1)++l.drop (i+1):=by
 grind[List.take_succ_eq_append_getElem,List.append_assoc,drop_cons]
theorem eZ{n:Int}:∀{l:AAQ},(YO n l).length=l.length+1
 |[]=>rfl
 |a::l=>by
  simp only[YO];split
  ·simp
  ·simp[eZ (l:=l)]
theorem TA{n:Int}{l:AAQ}:(NJ n l).length≤l.length+1:=by
 grind[NJ,eZ]
theorem Ci{r:AK}{e:Int}(hl:Af CN r.1≤2^30):BW r e=some (((),()),(Bj r.1 e,())):=by
 have l1:=AW (f:=CN) (l:=r.1);unfold BW Bj;rw[An];simp only[AF];rcases AD8 (BX e 1 (r.1.length:Int))with h|h
 ·have h':=Aw.1 h
  have hm:=Ac (f:=CN) (Bg (d:=Gg) (l:=r.1) (i:=(e-1).toNat) (by omega));have pt:(r.1.getD (e-1).toNat Gg).1.length≤Af CN r.1:=hm;rw[h,AG (by omega) (by omega)];simp only[AET,AEL,AGG];rw[AEA (by omega),AEA (by grind[Ao,Gg])];rfl
 simp_all
theorem Kf{r:AK}(hl:Af CN r.1≤2^30):DK r=some ((((),r.2.1,()),()),(r.1,())):=by
 have l1:=AW (f:=CN) (l:=r.1);have key:∀(n i:Nat) (b:List Co),i≤r.1.length→r.1.length-i<n→b.length≤i→Iy n i r.1 r.2.1 0 [] r.2.1 b=some ((((),r.2.1,()),()),(b++r.1.drop i,())):=by
  intro n
  induction n with
  |zero=>omega
  |succ n ih=>
   intro i b hi hn hb;simp only[Iy,PZ,AE];by_cases hc:i<r.1.length
   ·have c1:(0:Int)≤(i:Int)∧(i:Int)<(r.1.length:Int):=by omega
    have hm:=Ac (f:=CN) (AEa hc)
    replace hm:r.1[i].1.length≤Af CN r.1:=hm
    rw[AEA c1.2,AEA c1,AG (by omega) (by omega),show((i:Int)+1)=((i+1:Nat):Int)by omega,BC hc,AEA (by rw[Ao];omega),AEA (by rw[Ao];omega),drop_cons hc,ih (i+1) _ (by omega) (by omega) (by simp_all),AEE];rfl
   grind
 grind[DK,Po,Ar,A0]
def pkR(q:AK×Bool):AC_×(List Co×Unit):=(((((),q.1.2.1,()),q.2,()),()),(q.1.1,()))
section
variable{c:B_} {r:AK} (hc:c.1.length≤2^40) (hl:Af CN r.1≤2^30) (ht:BB r.2.1)
include hc hl ht
theorem YM{ns:AAQ}(hn:ns.length≤2^30):I3 c r ns=some (((((),(Jr c r ns).1.2.1,()),(Jr c r ns).2.1,(Jr c r ns).2.2,()),()),((Jr c r ns).1.1,())):=by
 have l1:=AW (f:=CN) (l:=r.1);unfold I3 Jr;rw[show(c.1,c.2.1,())=c from rfl,show(r.1,r.2.1,())=r from rfl,Jc hc hl ht,Kf hl,Cf hc (by omega)];simp only[AF];cases NY c r with
 |false=>rfl
 |true=>
  cases holds c ns with
  |false=>rfl
  |true=>
   simp only[AET,AEL,AER,AFJ,AEh];by_cases h30:r.1.length=30
   ·simp_all
   ·rw[show((r.1.length:Int)==30)=false by grind,show decide (r.1.length≠30)=true by simp[h30],AEL,AEA (by rw[Ao];omega),AEA (by rw[Ao];omega)]
    simp
theorem Wv{b last:Int}:MR c r b last=some (pkR (My c r b last)):=by
 have l1:=AW (f:=CN) (l:=r.1);unfold MR My;rw[show(c.1,c.2.1,())=c from rfl,show(r.1,r.2.1,())=r from rfl,Jc hc hl ht,Kf hl,H9 (by omega)];simp only[AF];rcases AD8 (NY c r)with hr|hr
 rotate_left
 ·rw[hr];rfl
 rw[hr];simp only[AET,AEL,AER,AFJ];by_cases h1:b=r.1.length
 rotate_left
 ·rw[show(b !=(r.1.length:Int))=true by simp_all,show decide (b=(r.1.length:Int))=false by simp_all]
  rfl
 rw[show(b !=(r.1.length:Int))=false by simp_all,show decide (b=(r.1.length:Int))=true by simp_all];simp only[AEL,AEh];by_cases h2:BF r.1=0
 ·rw[show(BF r.1==0)=true by simp_all,show decide (BF r.1≠0)=false by simp_all]
  rfl
 rw[show(BF r.1==0)=false by simp_all,show decide (BF r.1≠0)=true by simp_all];simp only[AEL,AEh];by_cases h3:b=BF r.1
 ·rw[show(b==BF r.1)=true by simp_all,show decide (b≠BF r.1)=false by simp_all]
  rfl
 rw[show(b==BF r.1)=false by simp_all,show decide (b≠BF r.1)=true by simp_all,An];simp only[AEL,AEh,AF];cases BX last 0 60 with
 |false=>rfl
 |true=>
  have IK:=KF.1 hr;have AAS:0<r.1.length:=by
   rcases Nat.eq_zero_or_pos r.1.length with hz|hz
   ·exact absurd (by unfold BF;rw[hz];rfl) h2
   omega
  obtain⟨k,k1,k2,k3,k4⟩:=O6 IK AAS;simp only[AET,AEL,AGG];rw[k2,AG (by omega) (by omega),show((k:Int)+1-1)=(k:Int)by omega,AEA (by omega),AEA (by simp_all),AEq];unfold pkR Jb;simp_all
theorem YJ{p:Int}(hp:BB p):Ns c r p=some (pkR (P5 c r p)):=by
 unfold Ns P5;rw[show(c.1,c.2.1,())=c from rfl,show(r.1,r.2.1,())=r from rfl,Jc hc hl ht,Kf hl,C6 hp,CO hp];simp only[AF];cases NY c r with
 |false=>rfl
 |true=>
  cases Ay p with
  |false=>rfl
  |true=>
   simp only[AET,AEL,AER,AFJ,AEh];by_cases h:Ah p≤r.1.length
   ·rw[show decide (Ah p>(r.1.length:Int))=false by simp_all,show decide (Ah p≤(r.1.length:Int))=true by simp_all,AEL,Gd]
    rfl
   ·rw[show decide (Ah p>(r.1.length:Int))=true by simp_all,show decide (Ah p≤(r.1.length:Int))=false by simp_all]
    rfl
end
theorem LY{w:AQ}(hl:Af Bf w.2.1≤2^30):Ct w=some (((w.1,(),()),()),(w.2.1,())):=by
 have l1:=AW (f:=Bf) (l:=w.2.1);have key:∀(n i:Nat) (b:List BQ),i≤w.2.1.length→w.2.1.length-i<n→b.length≤i→Iq n i w.1 w.2.1 0 [] w.1 b=some (((w.1,(),()),()),(b++w.2.1.drop i,())):=by
  intro n
  induction n with
  |zero=>omega
  |succ n ih=>
   intro i b hi hn hb;simp only[Iq,Pe,AE];by_cases hc:i<w.2.1.length
   ·have c1:(0:Int)≤(i:Int)∧(i:Int)<(w.2.1.length:Int):=by omega
    have hm:w.2.1[i].1.length+w.2.1[i].2.1.length≤Af Bf w.2.1:=Ac (f:=Bf) (AEa hc);rw[AEA c1.2,AEA c1,AG (by omega) (by omega),show((i:Int)+1)=((i+1:Nat):Int)by omega,BC hc,AEA (by rw[Ao];omega),AEA (by rw[Ao];omega),drop_cons hc,ih (i+1) _ (by omega) (by omega) (by simp_all),AEE];rfl
   grind
 grind[Ct,QB,Ar,A0]
theorem Xe{α:Type}{f:α→Nat}{l m:List α}:Af f (l++m)=Af f l+Af f m:=by
 induction l with
 |nil=>simp[Af]
 |cons a l ih=>grind[Af]
theorem fD{n:Int}{x:BQ}(h:x.2.2.1=true):Eg n x=x:=by
 obtain⟨a,b,d,e⟩:=x;simp only at h;subst h;rfl
def pkW(q:AQ×Bool):AC9×(List BQ×Unit):=((((q.1.1,(),()),q.2,()),()),(q.1.2.1,()))
section
variable{c:B_} {w:AQ} (hc:c.1.length≤2^40) (hl:Af Bf w.2.1≤2^20)
include hc hl
theorem Vq{d:AAh}(hd:d.length≤2^20):G1 c w d=some (((((Fu c w d).1.1,(),()),(Fu c w d).2.1,(Fu c w d).2.2,()),()),((Fu c w d).1.2.1,())):=by
 have l1:=AW (f:=Bf) (l:=w.2.1);unfold G1 Fu;rw[show(c.1,c.2.1,())=c from rfl,show(w.1,w.2.1,())=w from rfl,Gr hc (by omega),LY (by omega)];simp only[AF];cases G2 c w with
 |false=>rfl
 |true=>
  simp only[AET,AEL,AER,AFJ];rw[AEA (by rw[Ao];omega),Gr hc (by
   grind[Af,Bf,Xe,List.length_nil])]
  grind
theorem VO{o n:Int}:Cy c w o n=some (pkW (Tf c w o n)):=by
 have l1:=AW (f:=Bf) (l:=w.2.1);unfold Cy Tf;rw[show(c.1,c.2.1,())=c from rfl,show(w.1,w.2.1,())=w from rfl,Gr hc (by omega),LY (by omega),An,An];simp only[AF];rcases AD8 (G2 c w)with hw|hw
 rotate_left
 ·rw[hw];rfl
 have yU:=Ff (JI.1 hw).cfg;rw[hw,AG (x:=(c.1.length:Int)-1) (by omega) (by omega)];simp only[AET,AEL,AER,AFJ];rcases AD8 (BX o 1 (w.2.1.length:Int))with ho|ho
 rotate_left
 ·rw[ho];rfl
 have hY:=Aw.1 ho;rw[ho];cases BX n 0 ((c.1.length:Int)-1)with
 |false=>rfl
 |true=>
  have hi:(o-1).toNat<w.2.1.length:=by omega
  have hm:(w.2.1.getD (o-1).toNat Of).1.length+(w.2.1.getD (o-1).toNat Of).2.1.length≤Af Bf w.2.1:=Ac (f:=Bf) (Bg (d:=Of) hi);simp only[AET,AEL,AEh];rw[AG (by omega) (by omega),AEA (by omega)]
  show cond (w.2.1.getD (o-1).toNat Of).2.2.1 _ _=_
  cases(w.2.1.getD (o-1).toNat Of).2.2.1 with
  |true=>rfl
  |false=>
   simp only[AEL,AGP,AGG];rw[AEA (by omega),show(w.2.1.getD (o-1).toNat ([],[],false,())).2.1=(w.2.1.getD (o-1).toNat Of).2.1 from rfl,Hp (by omega)];simp only[AF];rw[AEA (by omega)];have hg:∀x:BQ,(w.2.1.set (o-1).toNat x).getD (o-1).toNat ([],[],false,())=x:=fun x=>UQ hi
   rw[AEA (by grind),hg,Cf hc (by
    grind[TA,Of])]
   simp only[AF];rw[AEA (by grind),AG8];rfl
theorem Si{n:Int}:H7 c w n=some (pkW (Cm c w n)):=by
 have l1:=AW (f:=Bf) (l:=w.2.1);unfold H7 KM Cm;rw[show(c.1,c.2.1,())=c from rfl,show(w.1,w.2.1,())=w from rfl,Gr hc (by omega),LY (by omega)];simp only[AF];cases G2 c w with
 |false=>rfl
 |true=>
  simp only[AET,AEL,AER,AFJ];have key:∀(k i:Nat),i≤w.2.1.length→w.2.1.length-i<k→EM k n i 0 [] w.1 ((w.2.1.map (Eg n)).take i++w.2.1.drop i)=some (pkW ((w.1,w.2.1.map (Eg n),()),true)):=by
   intro k
   induction k with
   |zero=>omega
   |succ k ih=>
    intro i hi hk;have hlen:((w.2.1.map (Eg n)).take i++w.2.1.drop i).length=w.2.1.length:=Pv hi;simp only[EM,KI,AE,hlen];by_cases Dg:i<w.2.1.length
    ·have c1:(0:Int)≤(i:Int)∧(i:Int)<(w.2.1.length:Int):=by omega
     have hm:w.2.1[i].1.length+w.2.1[i].2.1.length≤Af Bf w.2.1:=Ac (f:=Bf) (AEa Dg);have hg:((w.2.1.map (Eg n)).take i++w.2.1.drop i).getD ((i:Int).toNat) ([],[],false,())=w.2.1[i]:=PK Dg;rw[AEA c1.2];simp only[AEA c1,hg];rw[AG (by omega) (by omega),show((i:Int)+1)=((i+1:Nat):Int)by omega];rcases AD8 (w.2.1[i].2.2.1)with hd|hd
     ·rw[hd]
      simp only[AET,AEL];grind[eS,fD]
     ·rw[hd]
      simp only[AGP,AEb];rw[Fe (by omega) (by simp)];grind[AF,Int.toNat_natCast,Rl,Eg]
    ·rw[AEB (by omega),AEU (by omega)]
     have:i=w.2.1.length:=by omega
     subst this;rw[AEX,AF7 (by simp)];rfl
  have:=key Ar 0 (by omega) (A0 (by omega));simp_all
end
end Go.M
end
section
namespace Go.M
open Go.M.H (AH AN A7 A3 AA Co AK BQ AQ Aj BO A_ AR Ax Af AW Ac Az CN Bf A4 Ce Dm)
abbrev PkM:Type:=AB4×(List Int×List AH×List AAQ×Unit)
def gx(q:A7×Bool):PkM:=((((q.1.1,q.1.2.1,(),(),q.1.2.2.2.2.1,(),()),q.2,()),()),(q.1.2.2.1,q.1.2.2.2.1,q.1.2.2.2.2.2.1,()))
section
variable{m:A7} (hm:Ce m≤2^20)
include hm
theorem Ls:m.2.2.1.length≤2^20∧m.2.2.2.1.length≤2^20∧m.2.2.2.2.2.1.length≤2^20∧ ∀l∈m.2.2.2.2.2.1,l.length≤2^20:=by
 have l1:=AW (f:=Az) (l:=m.2.2.2.1);have l2:=AW (f:=Dm) (l:=m.2.2.2.2.2.1);have pt:m.2.2.1.length+(Af Az m.2.2.2.1+(Af Dm m.2.2.2.2.2.1+0))≤2^20:=by
  grind[Ce]
 refine⟨by omega,by omega,by omega,fun l hl=> ?_⟩;have:l.length≤Af Dm m.2.2.2.2.2.1:=Ac (f:=Dm) hl;omega
theorem G3:CP m=some (((m.1,m.2.1,(),(),m.2.2.2.2.1,(),()),()),(m.2.2.1,m.2.2.2.1,m.2.2.2.2.2.1,())):=by
 obtain⟨h1,h2,h3,h4⟩:=Ls hm;have key:∀(n i:Nat) (b:List AAQ),i≤m.2.2.2.2.2.1.length→m.2.2.2.2.2.1.length-i<n→b.length≤i→
   EF n i m.1 m.2.1 m.2.2.1 m.2.2.2.1 m.2.2.2.2.1 m.2.2.2.2.2.1 0 0 false [] [] [] m.1 m.2.1 m.2.2.2.2.1 m.2.2.1 m.2.2.2.1 b=some (((m.1,m.2.1,(),(),m.2.2.2.2.1,(),()),()),(m.2.2.1,m.2.2.2.1,b++m.2.2.2.2.2.1.drop i,())):=by
  intro n
  induction n with
  |zero=>omega
  |succ n ih=>
   intro i b hi hn hb;simp only[EF,La,AE];by_cases hc:i<m.2.2.2.2.2.1.length
   ·have c1:(0:Int)≤(i:Int)∧(i:Int)<(m.2.2.2.2.2.1.length:Int):=by omega
    have hq:=h4 _ (AEa hc);rw[AEA c1.2,AEA c1,AG (by omega) (by omega),show((i:Int)+1)=((i+1:Nat):Int)by omega,BC hc,AEA (by rw[Ao];omega),AEA (by rw[Ao];omega),drop_cons hc,ih (i+1) _ (by omega) (by omega) (by simp_all),AEE];rfl
   grind
 unfold CP IB;rw[AEA (by rw[Ao];omega),AEA (by rw[Ao];omega)];grind[Ar,A0]
end
theorem Sk{l s:AAQ}(hl:l.length≤2^20)(hs:s.length≤2^20):GQ l s=some (((),()),(l.filter s.contains,())):=by
 unfold GQ;rw[Fe (by omega) (by omega)];simp only[AF];have hll:(less l s).length≤l.length:=AF3 _ _;rw[Fe (by omega) (by omega)];grind[AF,less,List.filter_congr]
theorem TZ{c:B_}{s l:AAQ}(hc:c.1.length≤2^40)(hl:l.length≤2^20)(hs:s.length≤2^20):GH c s l=some ((TM c s l,()),()):=by
 unfold GH TM;rw[show(c.1,c.2.1,())=c from rfl,Cf (l:=s) hc (by omega),Dn (l:=l) hc (by omega),Fe (l:=l) (m:=s) (by omega) (by omega),Fe (l:=s) (m:=l) (by omega) (by omega)];simp only[AF];rcases AD8 (holds c s)with h|h
 rotate_left
 ·simp_all
 rw[h];cases BA c l with
 |false=>rfl
 |true=>
  simp only[AET,AEL,AEh];have hn:BA c (less s l)=true:=Ke _ (MZ h);by_cases ha:(less l s).length>0
  ·rw[show decide (((less l s).length:Int)>0)=true by simp_all]
   have:l.all s.contains=false:=by
    rw[AGv];grind[List.all_eq_true,less,List.filter_eq_nil_iff]
   grind
  ·rw[AF0 (show¬((less l s).length:Int)>0 by omega)]
   have:l.all s.contains=true:=by
    grind[less,List.length_eq_zero_iff,List.filter_eq_nil_iff,List.all_eq_true]
   rw[this];simp only[AEL,AEh];rw[Ta hn];simp only[AF,holds,hn,AEh];grind[Uc,less,decide_eq_true,decide_eq_false]
section
variable{c:B_} {m:A7} (hc:c.1.length≤2^40) (hm:Ce m≤2^20) (h:kQ m.2.2.2.1)
include hc hm h
theorem YF{o n:Int}:D_ c m o n=some (gx (YV c m o n)):=by
 obtain⟨h1,h2,h3,h4⟩:=Ls hm;unfold D_ YV;rw[show(c.1,c.2.1,())=c from rfl,show(m.1,m.2.1,m.2.2.1,m.2.2.2.1,m.2.2.2.2.1,m.2.2.2.2.2.1,())=m from rfl,Fi hc (by omega) h,G3 hm,An,An];simp only[AF];rcases AD8 (H3 c m)with hw|hw
 rotate_left
 ·rw[hw];rfl
 have yU:=Ff (Ij.1 hw).cfg;rw[hw,AG (x:=(c.1.length:Int)-1) (by omega) (by omega)];simp only[AET,AEL,AER,AFJ];rcases AD8 (BX o 1 (m.2.2.2.2.2.1.length:Int))with ho|ho
 rotate_left
 ·rw[ho];rfl
 have hY:=Aw.1 ho;rw[ho];cases BX n 0 ((c.1.length:Int)-1)with
 |false=>rfl
 |true=>
  have hi:(o-1).toNat<m.2.2.2.2.2.1.length:=by omega
  have hq:=h4 _ (Bg (d:=([]:AAQ)) hi);simp only[AET,AEL,AEh,AGG];rw[AG (by omega) (by omega),AEA (by omega),Hp (by omega)];simp only[AF];rw[AEA (by omega)];rfl
theorem Ul{n:Int}:Ju c m n=some (gx (Cq c m n)):=by
 obtain⟨h1,h2,h3,h4⟩:=Ls hm;unfold Ju Lj Cq;rw[show(c.1,c.2.1,())=c from rfl,show(m.1,m.2.1,m.2.2.1,m.2.2.2.1,m.2.2.2.2.1,m.2.2.2.2.2.1,())=m from rfl,Fi hc (by omega) h,G3 hm];simp only[AF];cases H3 c m with
 |false=>rfl
 |true=>
  simp only[AET,AEL,AER,AFJ];have key:∀(k i:Nat),i≤m.2.2.2.2.2.1.length→m.2.2.2.2.2.1.length-i<k→FU k n i 0 0 false [] [] [] m.1 m.2.1 m.2.2.2.2.1 m.2.2.1 m.2.2.2.1 ((m.2.2.2.2.2.1.map (fun l=>less l [n])).take i++m.2.2.2.2.2.1.drop i)=
    some (gx ((m.1,m.2.1,m.2.2.1,m.2.2.2.1,m.2.2.2.2.1,m.2.2.2.2.2.1.map (fun l=>less l [n]),()),true)):=by
   intro k
   induction k with
   |zero=>omega
   |succ k ih=>
    intro i hi hk;have hlen:=Pv (f:=fun l=>less l [n]) hi;simp only[FU,Lh,AE,hlen];by_cases Dg:i<m.2.2.2.2.2.1.length
    ·have c1:(0:Int)≤(i:Int)∧(i:Int)<(m.2.2.2.2.2.1.length:Int):=by omega
     have hq:=h4 _ (AEa Dg);have hg:((m.2.2.2.2.2.1.map (fun l=>less l [n])).take i++m.2.2.2.2.2.1.drop i).getD ((i:Int).toNat) []=m.2.2.2.2.2.1[i]:=PK Dg;rw[AEA c1.2];simp only[AEA c1,hg];rw[AG (by omega) (by omega),show((i:Int)+1)=((i+1:Nat):Int)by omega,Fe (by omega) (by simp)];simp only[AF];rw[AEq,Rl Dg rfl];grind
    ·rw[AEB (by omega),AEU (by omega)]
     have:i=m.2.2.2.2.2.1.length:=by omega
     subst this;rw[AEX,AF7 (by simp)];rfl
  have:=key Ar 0 (by omega) (A0 (by omega));simp_all
theorem Vb:LA c m=some ((Tl c m,()),()):=by
 obtain⟨h1,h2,h3,h4⟩:=Ls hm;unfold LA Mu Tl;rw[show(c.1,c.2.1,())=c from rfl,show(m.1,m.2.1,m.2.2.1,m.2.2.2.1,m.2.2.2.2.1,m.2.2.2.2.2.1,())=m from rfl,Fi hc (by omega) h];simp only[AF];cases H3 c m with
 |false=>rfl
 |true=>
  rcases AD8 m.2.2.2.2.1 with hp|hp
  rotate_left
  ·simp_all
  have key:∀(k i:Nat),i≤m.2.2.2.2.2.1.length→m.2.2.2.2.2.1.length-i<k→GG k i c.1 c.2.1 m.1 m.2.1 m.2.2.1 m.2.2.2.1 m.2.2.2.2.1 m.2.2.2.2.2.1=some (((m.2.2.2.2.2.1.drop i).all (holds c),()),()):=by
   intro k
   induction k with
   |zero=>omega
   |succ k ih=>
    intro i hi hk;simp only[GG,Mk,AE];by_cases Dg:i<m.2.2.2.2.2.1.length
    ·have c1:(0:Int)≤(i:Int)∧(i:Int)<(m.2.2.2.2.2.1.length:Int):=by omega
     have hq:=h4 _ (AEa Dg);rw[AEA c1.2,AEA c1,AG (by omega) (by omega),show((i:Int)+1)=((i+1:Nat):Int)by omega,BC Dg,drop_cons Dg,show(c.1,c.2.1,())=c from rfl,Cf hc (by omega),ih (i+1) (by omega) (by omega)];simp only[AF,AGf];cases holds c m.2.2.2.2.2.1[i]<;>rfl
    grind
  have:=key Ar 0 (by omega) (A0 (by omega));simp_all
omit hc h in
theorem Pt{o:Int}:CX m o=some ((((FL m o).getD Db,(FL m o).isSome,()),()),()):=by
 obtain⟨h1,h2,h3,h4⟩:=Ls hm;unfold CX FL;rw[P4];simp only[AF];rw[MF (by omega)];simp only[AF];cases m.2.2.2.2.1 with
 |false=>rfl
 |true=>
  simp only[AET,AEL,AEh];rcases AD8 (BX m.2.1 1 30)with he|he
  rotate_left
  ·rw[he];rfl
  rcases AD8 (BX o 1 60)with ho|ho
  rotate_left
  ·rw[he,ho];rfl
  have hp:II m.2.1 o=Lu m.2.1 o:=by unfold II;rw[he,ho];rfl
  rw[he,ho,hp];simp only[AGt,AET,AEL,AEh];by_cases hl:o≤m.2.2.2.2.2.1.length
  ·rw[show decide (o>(m.2.2.2.2.2.1.length:Int))=false by simpa using hl,show decide (o≤(m.2.2.2.2.2.1.length:Int))=true by simpa using hl]
   simp only[AEL,AGG];cases Rz (Lu m.2.1 o) m.2.2.2.1<;>rfl
  ·rw[show decide (o>(m.2.2.2.2.2.1.length:Int))=true by simp;omega,show decide (o≤(m.2.2.2.2.2.1.length:Int))=false by simp;omega]
   rfl
theorem WW{s:AAQ}(hs:s.length≤2^20):MU c m s=some (gx (M3 c m s)):=by
 obtain⟨h1,h2,h3,h4⟩:=Ls hm;unfold MU NO M3;rw[show(c.1,c.2.1,())=c from rfl,show(m.1,m.2.1,m.2.2.1,m.2.2.2.1,m.2.2.2.2.1,m.2.2.2.2.2.1,())=m from rfl,Fi hc (by omega) h,G3 hm];simp only[AF];rcases AD8 (H3 c m)with IK|IK
 rotate_left
 ·rw[IK];rfl
 have hmo:=Ij.1 IK;rw[IK];rcases AD8 m.2.2.2.2.1 with hp|hp
 ·rw[hp]
  simp only[AET,AEL,AEb,AHM,AER,AFJ,gx,hp]
 have hn:=hmo.n;rw[hp]at hn;have hw0:m.2.2.2.2.2.1=[]:=AG2.1 (by simp_all);rw[hp];simp only[AET,AGP,AEL,AER,AFJ,AEh];rw[Sk (by omega) hs];have w9:(m.2.2.1.filter s.contains).length≤m.2.2.1.length:=AF3 _ _;simp only[AF];rw[TZ hc (by omega) hs];simp only[AF];cases TM c s (m.2.2.1.filter s.contains)with
 |false=>simp[gx,hp]
 |true=>
  simp only[AET,AEL,AGG];have hlb:=HL (l:=m.2.2.2.1);have key:∀(k i:Nat),(i:Int)≤KJ m.2.2.2.1→(KJ m.2.2.2.1).toNat-i<k→HC k i m.1 m.2.1 m.2.2.1 m.2.2.2.1 false m.2.2.2.2.2.1 0 0 false [] [] [] m.1 m.2.1 true m.2.2.1 m.2.2.2.1 (List.replicate i [])=
    some (gx ((m.1,m.2.1,m.2.2.1,m.2.2.2.1,true,List.replicate (KJ m.2.2.2.1).toNat [],()),true)):=by
   intro k
   induction k with
   |zero=>omega
   |succ k ih=>
    intro i hi hk;simp only[HC,Nb];rw[show KA (m.1,m.2.1,m.2.2.1,m.2.2.2.1,false,m.2.2.2.2.2.1,())=some ((KJ m.2.2.2.1,()),())from TY (m:=(m.1,m.2.1,m.2.2.1,m.2.2.2.1,false,m.2.2.2.2.2.1,())) (by grind) h];simp only[AF,AE];by_cases Dg:(i:Int)<KJ m.2.2.2.1
    ·rw[AEA Dg,AEA (by rw[Ao,AGZ];omega),AG (by omega) (by omega),show((i:Int)+1)=((i+1:Nat):Int)by omega,←List.replicate_succ']
     exact ih (i+1) (by omega) (by omega)
    ·rw[AEB Dg]
     have:i=(KJ m.2.2.2.1).toNat:=by omega
     rw[this];rfl
  have:=key Ar 0 (by omega) (A0 (by omega));simp_all
theorem Wy{n:Int}{l:List AH}(hl:l.length≤2^20)(RE:kQ l)(hw:Af Az l≤2^20):MJ c m n l=some (gx (M7 c m n l)):=by
 obtain⟨h1,h2,h3,h4⟩:=Ls hm;unfold MJ NR M7;rw[show(c.1,c.2.1,())=c from rfl,show(m.1,m.2.1,m.2.2.1,m.2.2.2.1,m.2.2.2.2.1,m.2.2.2.2.2.1,())=m from rfl,Fi hc (by omega) h,G3 hm];simp only[AF];rw[Hp (by omega)];simp only[AF];rcases AD8 (H3 c m)with IK|IK
 rotate_left
 ·rw[IK];rfl
 rw[IK];simp only[AET,AEL,AER,AFJ];have ACq:∀(e:AH) (k:List AH),Af Az (keep e k)≤Af Az k+(1+Az e):=by
  intro e k
  induction k with
  |nil=>simp[keep,Af]
  |cons x k ih=>
   grind[keep,Af,better]
 have key:∀(k i:Nat) (b:List AH),i≤l.length→l.length-i<k→b.length≤2^20+i→kQ b→Af Az b+Af Az (l.drop i)≤2^21→
   Gx k l i c.1 c.2.1 m.1 m.2.1 m.2.2.1 m.2.2.2.1 m.2.2.2.2.1 m.2.2.2.2.2.1 0 0 false [] [] [] m.1 m.2.1 m.2.2.2.2.1 (NJ n m.2.2.1) b m.2.2.2.2.2.1=
   some (gx (if !m.2.2.2.2.1&&H3 c (m.1,m.2.1,NJ n m.2.2.1,Dr b ((l.drop i).filter fun e=>Ah e.1==m.2.1),m.2.2.2.2.1,m.2.2.2.2.2.1,())then
    ((m.1,m.2.1,NJ n m.2.2.1,Dr b ((l.drop i).filter fun e=>Ah e.1==m.2.1),m.2.2.2.2.1,m.2.2.2.2.2.1,()),true)else(m,false))):=by
  intro k
  induction k with
  |zero=>omega
  |succ k ih=>
   intro i b hi hk hb hbi hbw;simp only[Gx,NW,AE];by_cases Dg:i<l.length
   ·have c1:(0:Int)≤(i:Int)∧(i:Int)<(l.length:Int):=by omega
    rw[AEA c1.2];simp only[AEA c1];rw[AG (by omega) (by omega),show((i:Int)+1)=((i+1:Nat):Int)by omega,BC Dg,drop_cons Dg,show(l[i].1,l[i].2.1,l[i].2.2.1,l[i].2.2.2.1,())=l[i]from rfl,CO (RE _ (AEa Dg)),PC (by omega)];rw[drop_cons Dg]at hbw;simp only[Af]at hbw;simp only[AF,AGk];rcases AD8 (Ah l[i].1==m.2.1)with he|he
    ·simp only[he,AEb,AGG,Dr]
     have:=Vp (e:=l[i]) (l:=b);have hwk:=ACq l[i] b;exact ih (i+1) _ (by omega) (by omega) (by omega) (fun x hx=>by
      rcases VK hx with rfl|hx
      ·exact RE _ (AEa Dg)
      ·exact hbi x hx) (by omega)
    grind
   ·rw[AEB (by omega),AEU (by omega),show(m.1,m.2.1,m.2.2.1,m.2.2.2.1,m.2.2.2.2.1,m.2.2.2.2.2.1,())=m from rfl,show(c.1,c.2.1,())=c from rfl,G3 hm]
    simp only[List.filter_nil,Dr];rcases AD8 m.2.2.2.2.1 with hp|hp
    ·grind[gx]
    rw[AEU (by omega)]at hbw;simp only[Af]at hbw;have oO:=TA (n:=n) (l:=m.2.2.1);have hb2:=AW (f:=Az) (l:=b);rw[Fi (m:=(m.1,m.2.1,NJ n m.2.2.1,b,m.2.2.2.2.1,m.2.2.2.2.2.1,())) hc (by
     grind[Ce]) hbi]
    simp only[AF];rw[hp];simp only[AEL,AGP,AEh];grind[H3,NJ,gx]
 have hsw:Af Az m.2.2.2.1≤2^20:=by
  grind[Ce]
 have:=key Ar 0 m.2.2.2.1 (by omega) (A0 (by omega)) (by omega) h (by grind);simp_all
end
end Go.M
end
section
namespace Go.M
open Go.M.H (AH AN A7 A3 AA Co AK BQ AQ Aj BO A_ AR Ax Ce Af AW Ac Az CN)
theorem BL{α:Type}{b:Bool}{x y:α}:cond (!b) x y=cond b y x:=by simp_all
theorem Em{α:Type}{a b:Int}{x y:α}:cond (a !=b) x y=if a=b then y else x:=by
 simp_all
theorem EL{α:Type}{a b:Int}{x y:α}:cond (a==b) x y=if a=b then x else y:=by
 simp_all
theorem Wr{c:B_}{l:List A_}(hc:c.1.length≤2^40)(hl:l.length≤2^20):
  QE c l=some ((((),BA c (l.map fun a=>a.1),()),()),(l.map (fun a=>a.1),())):=by
 have key:∀(n i:Nat) (b:AAQ),i≤l.length→l.length-i<n→b.length=i→
   G9 n l i c.1 c.2.1 b=some ((((),BA c (b++(l.drop i).map fun a=>a.1),()),()),(b++(l.drop i).map (fun a=>a.1),())):=by
  intro n
  induction n with
  |zero=>omega
  |succ n ih=>
   intro i b hi h hb;simp only[G9,NV,AE];by_cases UK:i<l.length
   ·have c1:(0:Int)≤(i:Int)∧(i:Int)<(l.length:Int):=by omega
    have c2:b.length+1≤Cg:=by rw[Ao];omega
    rw[AEA c1.2,AEA c1,AEA c2,AG (by omega) (by omega),show((i:Int)+1)=((i+1:Nat):Int)by omega,BC UK,ih (i+1) _ (by omega) (by omega) (by simp_all),drop_cons UK];grind
   ·rw[AEB (by omega),AEU (by omega),AG9,AEX,show(c.1,c.2.1,())=c from rfl,Dn hc (by omega)]
    rfl
 have:=key Ar 0 [] (by omega) (A0 (by omega)) rfl;rw[show((0:Nat):Int)=0 from rfl,AGH,AFa]at this;exact this
theorem NC{r:Aj}(h:r.2.2.1.length≤2^30):BN r=some (((r.1,r.2.1,(),()),()),(r.2.2.1,())):=by
 unfold BN;rw[AEA (by rw[Ao];omega)]
theorem SG{r:Aj}{e:BO}{x y:Int}(h:r.2.2.1.length≤2^30):Ey r e x y=some (((x,y,(),()),()),(r.2.2.1++[e],())):=by
 unfold Ey;rw[show(r.1,r.2.1,r.2.2.1,())=r from rfl,NC h];simp only[AF];rw[AEA (by rw[Ao];omega)]
theorem YD{s:AAQ}{p:Int}{l:List A_}(hs:s.length≤2^20)(hl:l.length≤2^20)(RE:∀a∈l,BB a.2.2.1):
  Hb s p l=some ((RX p (NG s p none l),()),()):=by
 have key:∀(n i:Nat) (b:Option AH),i≤l.length→l.length-i<n→
   Hj n s p l b.isSome i 0 0 [] (b.getD Db).1 (b.getD Db).2.1 (b.getD Db).2.2.1 (b.getD Db).2.2.2.1=some ((RX p (NG s p b (l.drop i)),()),()):=by
  intro n
  induction n with
  |zero=>omega
  |succ n ih=>
   intro i b hi h;simp only[Hj,Om,AE,BL];by_cases UK:i<l.length
   ·have c1:(0:Int)≤(i:Int)∧(i:Int)<(l.length:Int):=by omega
    rw[AEA c1.2,AEA c1,AG (by omega) (by omega),show((i:Int)+1)=((i+1:Nat):Int)by omega,BC UK,drop_cons UK];have ih':=fun b=>ih (i+1) b (by omega) (by omega)
    simp only[ih'];rw[GM (by omega),show(l[i].2.2.1,l[i].2.2.2.1,l[i].2.2.2.2.1,l[i].2.2.2.2.2.1,())=V5 l[i]from rfl];rw[Jm (e:=V5 l[i]) (RE _ (AEa UK))];simp only[AF,NG];cases h1:l[i].2.1 with
    |false=>simp
    |true=>
     cases h2:s.contains l[i].1 with
     |false=>simp
     |true=>
      cases h3:Ea (V5 l[i])with
      |false=>simp
      |true=>
       simp only[AEb,AEh];by_cases h4:l[i].2.2.1=p
       ·rw[Em,AEA h4,AEA (by show((V5 l[i]).1==p)=true;rw[AGu];exact h4)]
        cases b with
        |none=>
         simp only[AGE,AEL,Ov,AF,Option.getD_none];have:=ih' (some (V5 l[i]));simp only[AGF,AGC]at this;have hb:better (V5 l[i]) (V5 l[i])=V5 l[i]:=by unfold better;simp_all
         simp_all
        |some x=>
         simp only[AGF,AEb,AGC];rw[show(x.1,x.2.1,x.2.2.1,x.2.2.2.1,())=x from rfl];grind[Ov,AF,better,V5,Option.isSome_some]
       ·rw[Em,AEB h4,AEB (by show¬((V5 l[i]).1==p)=true;rw[AGu];exact h4)]
   ·rw[AEB (by omega),AEU (by omega)]
    simp only[NG];cases b with
    |none=>rfl
    |some x=>
     simp only[AGF,AEb,AGC,RX];grind
 exact key Ar 0 none (by omega) (A0 (by omega))
theorem cp{x:Int}:0≤CY x∧CY x≤60:=by
 cases h:Ay x with
 |true=>have:=(KC h).2.1;omega
 |false=>unfold CY;simp_all
def zh(q:Aj×Int):Pm:=((((q.1.1,q.1.2.1,(),()),q.2,()),()),(q.1.2.2.1,()))
theorem Ui{c:B_}{g:AK}{sure:Int}{r:Aj}{l:List A_}(hc:c.1.length≤2^20)(hg:Af CN g.1≤2^20)(ht:BB g.2.1)(hl:l.length≤2^20)(RE:∀a∈l,BB a.2.2.1):
  Jx c g sure r l=some (zh (D1 c g sure r l)):=by
 unfold Jx D1;rw[show(c.1,c.2.1,())=c from rfl,show(g.1,g.2.1,())=g from rfl,show(r.1,r.2.1,r.2.2.1,())=r from rfl,Wr (by omega) hl,Jc (by omega) (by omega) ht,L7];simp only[AF,BL,AE];cases h1:NY c g with
 |false=>rfl
 |true=>
 cases h2:UG r with
 |false=>rfl
 |true=>
 cases h3:BA c (l.map fun a=>a.1)with
 |false=>rfl
 |true=>
 have hr:=Tk.1 h2;have hre:=hr.ep;have hro:=hr.off;have hrn:=hr.n;have hR:=KF.1 h1;have hRn:=hR.n;simp only[AEb,AEh,AET,AER,AFJ];rw[NC (by omega)];simp only[AF];by_cases h4:r.1>(g.1.length:Int)
 ·rw[AEA h4,AFM h4];rfl
 rw[AEB h4,AF0 h4];by_cases h5:r.2.2.1.length=120
 ·rw[show(((r.2.2.1.length:Nat):Int)==120)=true by simp_all,AFM h5];rfl
 rw[show(((r.2.2.1.length:Nat):Int)==120)=false by grind,AF0 h5];simp only[AEL,AGO,AER,AFJ];rw[AG (x:=r.1-1) (by omega) (by omega),AEA (by omega),Hl (by omega) (by omega),CO ht,MV ht];simp only[AF];have hto:=cp (x:=g.2.1);rw[AG (x:=CY g.2.1+1) (by omega) (by omega),AG (x:=r.1+1) (by omega) (by omega),AG (x:=r.2.1+1) (by omega) (by omega)];simp only[SG (r:=r) (by omega),AF];by_cases h6:g.2.1≥Lu r.1 r.2.1
 ·rw[AEA h6,AEA h6];rfl
 rw[AEB h6,AEB h6]
 generalize ABs:g.1.getD (r.1-1).toNat Gg=era
 have Er:(r.1-1).toNat<g.1.length:=by omega
 have RF:era.1.length≤2^20:=by
  have h7:=Ac (f:=CN) (Bg (d:=Gg) Er);rw[ABs]at h7;have:CN era=era.1.length:=rfl;omega
 have tail:((GQ (l.map fun a=>a.1) era.1).bind fun Tv=>
   (GH c era.1 Tv.2.1).bind fun Yh=>
   cond (Yh.1.1)
    ((Hb era.1 (Lu r.1 r.2.1) l).bind fun QX=>
    some ((((r.1,r.2.1+1,(),()),0,()),()),(r.2.2.1++[(QX.1.1.1,QX.1.1.2.1,QX.1.1.2.2.1,())],())))
    (some ((((r.1,r.2.1,(),()),3,()),()),(r.2.2.1,()))))=
   some (zh (if !TM c era.1 ((l.map fun a=>a.1).filter era.1.contains)then(r,3)else
    ((r.1,r.2.1+1,r.2.2.1++[RX (Lu r.1 r.2.1) (NG era.1 (Lu r.1 r.2.1) none l)],()),0))):=by
  have hf:((l.map fun a=>a.1).filter era.1.contains).length≤2^20:=AFS (AF3 _ _) (by simp_all);rw[Sk (by simp_all) RF,YD RF hl RE];simp only[AF];rw[TZ (by omega) hf RF];simp only[AF,SG (r:=r) (by omega)];cases TM c era.1 ((l.map fun a=>a.1).filter era.1.contains)<;>rfl
 have hd:g.1.getD (r.1-1).toNat ([],false,0,())=era:=ABs;rw[hd];simp only[tail];cases h7:era.2.1 with
 |true=>
  simp only[AEb,AEL,AEh,AET,AHM,AGO,AEK];by_cases h8:r.2.1>era.2.2.1
  ·rw[AEA h8,AEA h8];rfl
  rw[AEB h8,AEB h8];by_cases h9:r.2.1>60
  ·rw[AEA h9,AEA h9];rfl
  grind
 |false=>
  simp only[AEb,AEL,AEh,AGP,AHM,AER,AFJ,AF6,AEK];by_cases h8:r.2.1>sure
  ·rw[AEA h8,AEA (.inl h8)];rfl
  rw[AEB h8];by_cases h9:r.2.1>60
  ·rw[AEA h9,AEA (.inr h9)];rfl
  grind
end Go.M
end
section
set_option maxRecDepth 8000
namespace Go.M
open Go.M.H (AH AN A7 A3 AA Co AK BQ AQ Aj BO A_ AR Ax Ce Af AW Ac Az CN Bf A4)
theorem aQ{c:B_}{l:AAQ}(hc:c.1.length≤2^20)(hl:l.length≤2^20):Pw c l=some ((BA c l&& !holds c l,()),()):=by
 unfold Pw;rw[show(c.1,c.2.1,())=c from rfl,Dn (by omega) (by omega),Cf (by omega) (by omega)];grind
theorem W6{ss:List AN}(hs:ss.length≤1024)(h:∀s∈ss,s.1.length≤1024):Qa ss=some (((),()),(HG [] ss,())):=by
 have key:∀n:Nat,
   (∀(i:Nat) (b:List AH),i≤ss.length→(ss.length-i)*1026+1≤n→b.length≤i*1024→
    FB n ss i b=some (((),()),(HG b (ss.drop i),())))∧
   (∀(i j:Nat) (b:List AH),(hi:i<ss.length)→j≤ss[i].1.length→(ss.length-i-1)*1026+1+(ss[i].1.length-j)+1≤n→b.length≤i*1024+j→
    FE n ss i j b=some (((),()),(HG (Dr b (ss[i].1.drop j)) (ss.drop (i+1)),()))):=by
  intro n
  induction n with
  |zero=>simp_all
  |succ n ih=>
   refine⟨fun i b hi h' hb=> ?_,fun i j b hi hj h' hb=> ?_⟩
   ·simp only[FB,NQ,AE]
    by_cases hc:i<ss.length
    ·rw[AEA (by omega)]
     have hm:=h _ (AEa hc);have e1:(ss.length-i)*1026=(ss.length-i-1)*1026+1026:=by
      omega
     have:=ih.2 i 0 b hc (by omega) (by omega) (by omega);rw[show((0:Nat):Int)=0 from rfl,AGH]at this;rw[this,drop_cons hc];rfl
    ·rw[AEB (by omega),AEU (by omega)]
     rfl
   ·have hm:=h _ (AEa hi)
    simp only[FE,NS,AE];have c1:(0:Int)≤(i:Int)∧(i:Int)<(ss.length:Int):=by omega
    rw[AEA c1,BC hi];simp only[AEA c1];have oF:i*1024≤2^20:=by
     omega
    by_cases hc:j<ss[i].1.length
    ·have c2:(0:Int)≤(j:Int)∧(j:Int)<(ss[i].1.length:Int):=by omega
     rw[AEA c2.2,AEA c2,BC hc,show(ss[i].1[j].1,ss[i].1[j].2.1,ss[i].1[j].2.2.1,ss[i].1[j].2.2.2.1,())=ss[i].1[j]from rfl,PC (by omega)];simp only[AF];rw[AG (by omega) (by omega),show((j:Int)+1)=((j+1:Nat):Int)by omega,drop_cons hc];have hk:=Vp (e:=ss[i].1[j]) (l:=b);exact ih.2 i (j+1) _ hi (by omega) (by omega) (by omega)
    ·rw[AEB (by omega),AG (by omega) (by omega),show((i:Int)+1)=((i+1:Nat):Int)by omega,AEU (by omega)]
     exact ih.1 (i+1) b (by omega) (by grind) (by omega)
 have hf:(ss.length-0)*1026+1≤Ar:=by
  have:ss.length*1026≤1024*1026:=AFQ _ hs;exact AGz (A0 (by omega))
 exact(key Ar).1 0 [] (by omega) hf (by simp)
theorem mT(e:AH):∀l:List AH,Af Az (keep e l)≤Af Az l+(1+Az e)
 |[]=>by simp[keep,Af]
 |x::l=>by
  have:=mT e l;grind[keep,better,Af]
theorem fI:∀{l k:List AH},Af Az (Dr k l)≤Af Az k+Af Az l
 |[],k=>by simp[Dr,Af]
 |e::l,k=>by
  have h1:=fI (l:=l) (k:=keep e k);grind[mT,Dr,Af]
theorem mg:∀{l:List AN} {k:List AH},Af Az (HG k l)≤Af Az k+Af Ax l
 |[],k=>by simp[HG,Af]
 |s::l,k=>by
  have h1:=mg (l:=l) (k:=Dr k s.1);have h2:=fI (l:=s.1) (k:=k);have:Ax s=Af Az s.1+Af Az s.2.1:=rfl;grind[HG,Af]
theorem cS{y:AH}:∀{l:List AN} {k:List AH},y∈HG k l→y∈k∨ ∃s∈l,y∈s.1
 |[],k,h=> .inl h
 |s::l,k,h=>by
  rcases cS (l:=l) h with h|⟨t,ht,h⟩
  all_goals grind[TU]
def nV(b:Bool)(x:AN):AN×Bool:=if b then(x,true)else(DO,false)
def pkF(ss:List AN)(q:AN×Bool):Ib:=(((((),(),q.1.2.2.1,()),q.2,()),()),(ss,q.1.1,q.1.2.1,()))
theorem eI{c:B_}{ss:List AN}{lost:AAQ}{n upto:Int}(hc:c.1.length≤2^20)(hs:ss.length≤1024)(hn:∀s∈ss,s.1.length≤1024)(hw:Af Ax ss≤2^24)(RE:∀s∈ss,lh s)(hl:lost.length≤2^20):
  Ts c lost n upto ss=some (pkF ss (Xl c ss lost n upto)):=by
 have zI:Xl c ss lost n upto=nV (Gf c&&(decide (ss.length=c.1.length)&&(BA c lost&&(!holds c lost&&(lost.contains n&&((others lost 0 ss).all Ck&&Ck (HG [] (others lost 0 ss),[],upto,()))))))) (HG [] (others lost 0 ss),[],upto,()):=rfl;rw[zI];unfold Ts SC;rw[show(c.1,c.2.1,())=c from rfl,Dy (by omega),aQ hc hl,GM (by omega)];simp only[AF,BL,Em];have vZ:∀(k i:Nat) (o:List AN),(∀s∈o,s∈ss)→o.length≤ss.length→Af Ax o≤2^24→i≤o.length→o.length-i<k→
   Ht k upto i ss 0 [] [] 0 [] [] o=some (pkF ss (nV ((o.drop i).all Ck&&Ck (HG [] o,[],upto,())) (HG [] o,[],upto,()))):=by
  intro k
  induction k with
  |zero=>omega
  |succ k ih=>
   intro i o ho hol how hi h;simp only[Ht,Qr,AE,BL];by_cases Dg:i<o.length
   ·have c1:(0:Int)≤(i:Int)∧(i:Int)<(o.length:Int):=by omega
    have hm:=ho _ (AEa Dg);have hws:=Ac (f:=Ax) hm;rw[AEA c1.2,AEA c1,BC Dg,show(o[i].1,o[i].2.1,o[i].2.2.1,())=o[i]from rfl,C9 (by omega) (RE _ hm),AG (by omega) (by omega),show((i:Int)+1)=((i+1:Nat):Int)by omega,ih (i+1) o ho hol how (by omega) (by omega),drop_cons Dg];simp only[AF,AGf];rcases AD8 (Ck o[i])with hb|hb<;>rw[hb]
    all_goals rfl
   ·rw[AEB (by omega),AEU (by omega),W6 (by omega) (fun s hs=>hn s (ho s hs))]
    have hu:=mg (l:=o) (k:=[]);simp only[Af]at hu;simp only[AF];rw[C9 (s:=(HG [] o,[],upto,())) (by show Af Az (HG [] o)+Af Az []≤_;grind[Af]) ⟨fun e he=>by
     rcases cS he with he|⟨t,ht,he⟩
     ·simp_all
     ·exact(RE t (ho t ht)).1 e he,fun e he=>by simp_all⟩]
    simp only[AF,List.all_nil,AEh];rcases AD8 (Ck (HG [] o,[],upto,()))with hb|hb<;>rw[hb]<;>rfl
 have k6:∀(k i:Nat) (o:List AN),(∀s∈o,s∈ss)→i≤ss.length→(ss.length-i)+ss.length+2≤k→o.length≤i→Af Ax o+Af Ax (ss.drop i)≤2^24→
   JE k lost upto i ss 0 [] [] 0 [] [] o=some (pkF ss (nV ((o++others lost i (ss.drop i)).all Ck&&Ck (HG [] (o++others lost i (ss.drop i)),[],upto,())) (HG [] (o++others lost i (ss.drop i)),[],upto,()))):=by
  intro k
  induction k with
  |zero=>omega
  |succ k ih=>
   intro i o ho hi h hol how;simp only[JE,SZ,AE,BL];by_cases Dg:i<ss.length
   ·have c1:(0:Int)≤(i:Int)∧(i:Int)<(ss.length:Int):=by omega
    have c2:o.length+1≤Cg:=by rw[Ao];omega
    rw[drop_cons Dg]at how;simp only[Af]at how;have hws:Ax ss[i]+(Af Az []+0)=Ax ss[i]:=rfl;rw[AEA c1.2,GM (by omega),AEA c1,AEA c2,BC Dg,show(ss[i].1,ss[i].2.1,ss[i].2.2.1,())=ss[i]from rfl,AG (by omega) (by omega),show((i:Int)+1)=((i+1:Nat):Int)by omega];simp only[AF];rw[ih (i+1) o ho (by omega) (by omega) (by omega) (by omega)];rw[ih (i+1) (o++[ss[i]]) (fun s hs=>by
     grind) (by omega) (by omega) (by simp_all) (by grind[Xe,Af])]
    rw[drop_cons Dg];simp only[others];grind
   ·have:=vZ k 0 o ho (by omega) (by omega) (by omega) (by omega)
    rw[show((0:Nat):Int)=0 from rfl,AGH]at this;rw[AEB (by omega),this,AEU (by omega)];simp only[others,AEX]
 have:=k6 Ar 0 [] (by simp) (by omega) (AGz (A0 (by omega))) (by simp) (by grind[Af]);rw[show((0:Nat):Int)=0 from rfl,AGH,AFa]at this;rw[this];rcases AD8 (Gf c)with h1|h1
 rotate_left
 ·rw[h1];rfl
 by_cases h2:ss.length=c.1.length
 rotate_left
 ·rw[AEB (by omega),h1,AF0 h2];rfl
 rw[AEA (by omega),h1,AFM h2];rcases AD8 (BA c lost)with h3|h3
 rotate_left
 ·rw[h3];rfl
 rw[h3];rcases AD8 (holds c lost)with h4|h4
 ·rw[h4];rfl
 rw[h4];rcases AD8 (lost.contains n)with h5|h5
 rotate_left
 ·rw[h5];rfl
 simp_all
end Go.M
end
section
namespace Go.M
open Go.M.H (AH AN A7 A3 AA Co AK BQ AQ Aj BO A_ AR)
theorem Zb{α:Type}{l:List α}{i j:Nat}{x d:α}(hi:i<l.length):(l.set i x).getD j d=if i=j then x else l.getD j d:=by
 grind
theorem MS{w:AA}{n:Int}(h:BJ w n=0):0≤n∧n<w.Av.length∧n∉w.lost:=by
 unfold BJ at h;split at h
 ·omega
 rename_i h1;simp only[AEz,AEt,Aw]at h1;grind
theorem Yo{s x:A3}:∀{l:List A3},x∈XE s l↔x=s∨x∈l
 |[]=>by simp[XE]
 |y::l=>by
  simp only[XE];split
  ·simp
  ·simp only[AEd,Yo (l:=l)]
   grind
theorem eo{s:A3}:∀{l:List A3},(XE s l).length=l.length+1
 |[]=>rfl
 |y::l=>by
  simp only[XE];split
  ·rfl
  ·simp only[AEI,eo (l:=l)]
theorem fP{s:A3}:∀{l:List A3},QT (fun s:A3=>s.1) l→(∀x∈l,x.1≠s.1)→QT (fun s:A3=>s.1) (XE s l)
 |[],_,_=>by simp[XE,QT]
 |y::l,h,hs=>by
  have h':=h;simp only[QT,AFk]at h;simp only[XE];split
  ·rename_i hy
   simp only[QT,AFk,AEd];grind
  ·rename_i hy
   simp only[QT,AFk];refine⟨fun a ha=> ?_,fP h.2 fun x hx=>hs x (by simp[hx])⟩;rcases Yo.1 ha with rfl|ha
   all_goals grind
section
variable{w:AA} (h:LD w)
include h
theorem LD.node{n:Int}(hn:BJ w n=0):(0≤n∧n<(Ae w).1.length)∧n.toNat<w.Av.length∧n∉w.lost:=by
 obtain⟨a,b,c⟩:=MS hn;have:=h.bc;exact⟨⟨a,by show n<(w.1.length:Int);omega⟩,by omega,c⟩
theorem LD.Zg{n:Int}(hn:BJ w n=0){s:AN}(hs:VU s):LD (w.BZ (w.Av.set n.toNat s)):=by
 obtain⟨h1,h2,h3⟩:=h.node hn;refine⟨h.cfg,by(try simp only[H.AA.Av,H.AA.lost,H.AA.A6,H.AA.trim,H.AA.AJ,H.AA.Bp,H.AA.Ai,H.AA.Bk,H.AA.Fp,H.AA.BZ,H.AA.C7,H.AA.Ew,H.AA.A5,H.AA.Bn,H.AA.Br,H.AA.B8,H.AA.DM,CK,Ae]at*);simpa using h.bc,h.lost,h.Fp,fun i hi=> ?_,h.ak,h.bl,h.iT,h.AJ,h.UA,h.Bp,h.bo,h.Ai,h.Lg,h.Bk,h.T1⟩
 (try simp only[H.AA.Av,H.AA.lost,H.AA.A6,H.AA.trim,H.AA.AJ,H.AA.Bp,H.AA.Ai,H.AA.Bk,H.AA.Fp,H.AA.BZ,H.AA.C7,H.AA.Ew,H.AA.A5,H.AA.Bn,H.AA.Br,H.AA.B8,H.AA.DM,CK,Ae]at*);simp only[AGr]at hi
 simp only[Zb h2];split
 ·grind
 ·exact h.Av i hi
theorem LD.store{n:Int}(hn:BJ w n=0):VU (storeAt w n):=(h.Av _ (h.node hn).2.1).1
theorem VB{n:Int}{q:AN×Bool}(hn:BJ w n=0)(hs:q.2=true→VU q.1)(e:(putAt w n q).2=0):LD (putAt w n q).1:=by
 unfold putAt at*;split at e
 ·rename_i hq
  rw[AEA hq];exact h.Zg hn (hs hq)
 omega
theorem tH{a:Int}(e:(Rk w a).2=0):LD (Rk w a).1:=by
 unfold Rk at*;split at e
 ·omega
 rename_i h4;rw[AEB h4];simp only at e⊢;split at e
 ·omega
 rename_i hq;rw[AEB hq];simp only[AEz,AEt]at hq;obtain⟨_,r1,r2,r3,r4,r5⟩:=ix hq;rw[r2]at r1;rw[r2,r3];have hnw:=h.bl;have hl:((CK w).1++[(A9 a,false,0,())]).length=w.A6.length+1:=by simp[CK]
 refine⟨h.cfg,h.bc,h.lost,h.Fp,h.Av,r1,?_,by(try simp only[H.AA.Av,H.AA.lost,H.AA.A6,H.AA.trim,H.AA.AJ,H.AA.Bp,H.AA.Ai,H.AA.Bk,H.AA.Fp,H.AA.BZ,H.AA.C7,H.AA.Ew,H.AA.A5,H.AA.Bn,H.AA.Br,H.AA.B8,H.AA.DM,CK,Ae]at*);simp,fun x hx=> ?_,?_,fun m hm=>by grind,h.bo,h.Ai,h.Lg,fun s hs=> ?_,h.T1⟩
 ·grind
 ·replace hx:x∈w.AJ++[((w.A6.length:Int)+1,[],())]:=hx
  simp only[AEZ,AFp]at hx;have AJL:w.A6.length<30:=r5;have hl':(((CK w).1++[(A9 a,false,0,())]).length:Int)=(w.A6.length:Int)+1:=by omega
  show Uu (Ae w) x∧x.1≤(((CK w).1++[(A9 a,false,0,())]).length:Int)
  rw[hl'];rcases hx with hx|rfl
  ·have:=h.AJ x hx
   grind
  ·exact⟨⟨h.cfg,by omega,by simp,by simp,by simp[Mx]⟩,by omega⟩
 ·show QT (fun x:AQ=>x.1) (w.AJ++[((w.A6.length:Int)+1,[],())])
  simp only[QT,List.pairwise_append,AFk,List.Pairwise.nil,AFp,AFR];refine⟨h.UA,by simp,fun x hx y hy=> ?_⟩;subst hy;have:=(h.AJ x hx).2;omega
 ·have:=h.Bk s hs
  grind
end
section
variable{w:AA} (h:LD w)
include h
theorem AAp{a:Int}{d:AAh}(hd:d.length≤40)(e:(doAdd w a d).2=0):LD (doAdd w a d).1:=by
 unfold doAdd at*;split at e
 ·omega
 rename_i ha;rw[AEB ha];simp only[AEz,AEt,Aw]at ha;simp only at e⊢;split at e
 ·omega
 rename_i hq;rw[AEB hq];simp only[AF6,AHO,AEz,AEt,AGj,List.any_eq_false,AGu]at hq;obtain⟨hq,h120,hno⟩:=hq;have hi:a.toNat<w.AJ.length:=by omega
 have hx:=h.AJ _ (Bg (d:=CL) hi);obtain⟨_,r1,r2,r3⟩:=Vl hq;rw[r2]at r1;rw[r2,r3];rw[r3]at hno;have jW:=r1.n;simp only[AEM,AEI,AEc]at jW;obtain⟨p1,p2,p3⟩:=WB (e:=(w.AJ.getD a.toNat CL).1) (o:=((w.AJ.getD a.toNat CL).2.1.length:Int)+1) hx.1.ep (by omega);have hns:=h.Lg;refine⟨h.cfg,h.bc,h.lost,h.Fp,h.Av,h.ak,by(try simp only[H.AA.Av,H.AA.lost,H.AA.A6,H.AA.trim,H.AA.AJ,H.AA.Bp,H.AA.Ai,H.AA.Bk,H.AA.Fp,H.AA.BZ,H.AA.C7,H.AA.Ew,H.AA.A5,H.AA.Bn,H.AA.Br,H.AA.B8,H.AA.DM,CK,Ae]at*);simpa using h.bl,h.iT,fun x gU=> ?_,?_,h.Bp,h.bo,h.Ai,by grind[eo],fun s hs=> ?_,fP h.T1 fun x hx=>by grind⟩
 ·rcases AGQ gU with gU|rfl
  ·exact h.AJ x gU
  ·exact⟨r1,hx.2⟩
 ·have:=h.UA
  show QT (fun x:AQ=>x.1) (w.AJ.set a.toNat ((w.AJ.getD a.toNat CL).1,(w.AJ.getD a.toNat CL).2.1++[(d,[],false,())],()))
  simp only[QT,List.pairwise_iff_getElem,List.getElem_set,AGr]at this⊢;grind
 ·rcases Yo.1 hs with rfl|hs
  ·simp_all
  ·exact h.Bk s hs
theorem lg{a b n:Int}(e:(OM w a b n).2=0):LD (OM w a b n).1:=by
 unfold OM at*;split at e
 ·omega
 rename_i h1;rw[AEB h1];simp only at e⊢;split at e
 ·omega
 rename_i h2;rw[AEB h2];split at e
 ·omega
 rename_i h3;rw[AEB h3];split at e
 ·omega
 rename_i h4;rw[AEB h4];grind[VB,XO]
theorem WU{all:Bool}{s:AN}{n:Int}(hn:0≤n∧n<(Ae w).1.length):∀{ws:List AQ} {ss:List A3},
  (Gc all (Ae w) s w.A6 n ws ss).1=ws.map (fun x=>if aJ s w.A6 n x then(x.1,B7 (Ae w) s x.1 n 1 x.2.1,())else x)∧
  (Gc all (Ae w) s w.A6 n ws ss).2.map (fun x=>(x.1,x.2.1))=ss.map (fun x=>(x.1,x.2.1))
 |[],ss=>⟨rfl,rfl⟩
 |x::ws,ss=>by
  simp only[Gc,AGY];split
  ·rename_i ht
   obtain⟨h1,h2⟩:=WU hn (ws:=ws) (ss:=ss.map (NX all x.1 x.2.1 (B7 (Ae w) s x.1 n 1 x.2.1)));rw[h1,h2];exact⟨rfl,by rw[AGp];rfl⟩
  ·obtain⟨h1,h2⟩:=WU hn (ws:=ws) (ss:=ss)
   rw[h1,h2];simp_all
theorem qI{all:Bool}{n:Int}(e:(Rc all w n).2=0):LD (Rc all w n).1:=by
 unfold Rc at*;split at e
 ·omega
 rename_i h1;rw[AEB h1];simp only at e⊢;split at e
 ·omega
 rename_i h2;rw[AEB h2];simp only[ne_eq,AG5]at h1;simp only[AEz,AEt]at h2;have hn:=(h.node h1).1;obtain⟨s1,s2,s3⟩:=MP h2;have hw:=h.Zg h1 s2;obtain⟨t1,t2⟩:=WU h (all:=all) (s:=(CV (storeAt w n)).1) hn (ws:=w.AJ) (ss:=w.Bk);have ms:∀x∈(Gc all (Ae w) (CV (storeAt w n)).1 w.A6 n w.AJ w.Bk).2,∃y∈w.Bk,x.1=y.1∧x.2.1=y.2.1:=fun x hx=>by
  have:(x.1,x.2.1)∈w.Bk.map (fun x=>(x.1,x.2.1)):=by grind
  simp_all
 have ml:(Gc all (Ae w) (CV (storeAt w n)).1 w.A6 n w.AJ w.Bk).2.length=w.Bk.length:=by
  have:=congrArg List.length t2;grind
 have ma:QT (fun s:A3=>s.1) (Gc all (Ae w) (CV (storeAt w n)).1 w.A6 n w.AJ w.Bk).2:=by
  have h1:(Gc all (Ae w) (CV (storeAt w n)).1 w.A6 n w.AJ w.Bk).2.map (fun x=>x.1)=w.Bk.map (fun x=>x.1):=by
   have:=congrArg (List.map Prod.fst) t2;rw[AGp,AGp]at this;exact this
  have h2:(w.Bk.map (fun x:A3=>x.1)).Pairwise (· < ·):=AG6.2 h.T1;grind
 refine⟨h.cfg,hw.bc,h.lost,h.Fp,hw.Av,h.ak,by(try simp only[H.AA.Av,H.AA.lost,H.AA.A6,H.AA.trim,H.AA.AJ,H.AA.Bp,H.AA.Ai,H.AA.Bk,H.AA.Fp,H.AA.BZ,H.AA.C7,H.AA.Ew,H.AA.A5,H.AA.Bn,H.AA.Br,H.AA.B8,H.AA.DM,CK,Ae]at*);simp only[t1,AGc];exact h.bl,by(try simp only[H.AA.Av,H.AA.lost,H.AA.A6,H.AA.trim,H.AA.AJ,H.AA.Bp,H.AA.Ai,H.AA.Bk,H.AA.Fp,H.AA.BZ,H.AA.C7,H.AA.Ew,H.AA.A5,H.AA.Bn,H.AA.Br,H.AA.B8,H.AA.DM,CK,Ae]at*);simpa using h.iT,fun x hx=> ?_,?_,fun m hm=> ?_,h.bo,h.Ai,by(try simp only[H.AA.Av,H.AA.lost,H.AA.A6,H.AA.trim,H.AA.AJ,H.AA.Bp,H.AA.Ai,H.AA.Bk,H.AA.Fp,H.AA.BZ,H.AA.C7,H.AA.Ew,H.AA.A5,H.AA.Bn,H.AA.Br,H.AA.B8,H.AA.DM,CK,Ae]at*);simp only[ml];exact h.Lg,fun x hx=> ?_,ma⟩
 ·(try simp only[H.AA.Av,H.AA.lost,H.AA.A6,H.AA.trim,H.AA.AJ,H.AA.Bp,H.AA.Ai,H.AA.Bk,H.AA.Fp,H.AA.BZ,H.AA.C7,H.AA.Ew,H.AA.A5,H.AA.Bn,H.AA.Br,H.AA.B8,H.AA.DM,CK,Ae]at*);simp only[t1]at hx
  obtain⟨y,hy,rfl⟩:=AGa.1 hx;have jm:=h.AJ y hy;split
  ·obtain⟨k1,k2,k3⟩:=Ri (s:=(CV (storeAt w n)).1) (ep:=y.1) hn (o:=1) jm.1.words
   exact⟨⟨h.cfg,jm.1.ep,k3▸jm.1.n,k1,AFS k2 jm.1.opn⟩,jm.2⟩
  ·exact jm
 ·show QT (fun x:AQ=>x.1) (Gc all (Ae w) (CV (storeAt w n)).1 w.A6 n w.AJ w.Bk).1
  rw[t1];simp only[QT,AG6];refine h.UA.imp fun{a b} hab=> ?_
  grind
 ·obtain⟨y,hy,rfl⟩:=AGa.1 hm
  have jm:=h.Bp y hy;refine⟨np hn jm.1,?_⟩;grind[Mw]
 ·obtain⟨y,hy,e1,e2⟩:=ms x hx
  have:=h.Bk y hy;simp_all
theorem nM{n k:Int}(e:(N5 w n k).2=0):LD (N5 w n k).1:=by
 unfold N5 at*;split at e
 ·omega
 rename_i h1;rw[AEB h1];exact VB h (by omega) (fun hq=>(MP hq).2.1) e
theorem nC{n:Int}(e:(Nl w n).2=0):LD (Nl w n).1:=by
 unfold Nl at*;split at e
 ·omega
 rename_i h1;rw[AEB h1];exact VB h (by omega) (fun hq=>(dT hq).2.1) e
theorem sv{n:Int}(e:(Rv w n).2=0):LD (Rv w n).1:=by
 unfold Rv at*;split at e
 ·omega
 rename_i h1;rw[AEB h1];simp only[ne_eq,AG5]at h1;obtain⟨hn,hn2,hn3⟩:=h.node h1;have fw:∀x∈w.AJ,(Cm (Ae w) x n).1=(x.1,x.2.1.map (Eg n),()):=fun x hx=>(SR (h.AJ x hx).1).2
 refine⟨h.cfg,by(try simp only[H.AA.Av,H.AA.lost,H.AA.A6,H.AA.trim,H.AA.AJ,H.AA.Bp,H.AA.Ai,H.AA.Bk,H.AA.Fp,H.AA.BZ,H.AA.C7,H.AA.Ew,H.AA.A5,H.AA.Bn,H.AA.Br,H.AA.B8,H.AA.DM,CK,Ae]at*);simpa using h.bc,Ks h.lost hn,?_,fun i hi=> ?_,h.ak,by(try simp only[H.AA.Av,H.AA.lost,H.AA.A6,H.AA.trim,H.AA.AJ,H.AA.Bp,H.AA.Ai,H.AA.Bk,H.AA.Fp,H.AA.BZ,H.AA.C7,H.AA.Ew,H.AA.A5,H.AA.Bn,H.AA.Br,H.AA.B8,H.AA.DM,CK,Ae]at*);simpa using h.bl,by(try simp only[H.AA.Av,H.AA.lost,H.AA.A6,H.AA.trim,H.AA.AJ,H.AA.Bp,H.AA.Ai,H.AA.Bk,H.AA.Fp,H.AA.BZ,H.AA.C7,H.AA.Ew,H.AA.A5,H.AA.Bn,H.AA.Br,H.AA.B8,H.AA.DM,CK,Ae]at*);simpa using h.iT,fun x hx=> ?_,?_,fun m hm=> ?_,h.bo,h.Ai,h.Lg,h.Bk,h.T1⟩
 ·grind[holds,Ae,NJ]
 ·(try simp only[H.AA.Av,H.AA.lost,H.AA.A6,H.AA.trim,H.AA.AJ,H.AA.Bp,H.AA.Ai,H.AA.Bk,H.AA.Fp,H.AA.BZ,H.AA.C7,H.AA.Ew,H.AA.A5,H.AA.Bn,H.AA.Br,H.AA.B8,H.AA.DM,CK,Ae]at*);simp only[AGr]at hi
  simp only[Zb hn2];split
  ·exact⟨VU.nil,fun _=>rfl⟩
  ·rename_i SY
   refine⟨(h.Av i hi).1,fun hl=>(h.Av i hi).2 ?_⟩;grind[fG]
 ·obtain⟨y,hy,rfl⟩:=AGa.1 hx
  have jm:=h.AJ y hy;refine⟨(SR jm.1).1,?_⟩;simp_all
 ·(try simp only[H.AA.Av,H.AA.lost,H.AA.A6,H.AA.trim,H.AA.AJ,H.AA.Bp,H.AA.Ai,H.AA.Bk,H.AA.Fp,H.AA.BZ,H.AA.C7,H.AA.Ew,H.AA.A5,H.AA.Bn,H.AA.Br,H.AA.B8,H.AA.DM,CK,Ae]at*);simp only[QT,AG6]
  refine List.Pairwise.imp_of_mem (fun{a b} ha hb hab=> ?_) h.UA;simp_all
 ·obtain⟨y,hy,rfl⟩:=AGa.1 hm
  have jm:=h.Bp y hy;obtain⟨k1,k2⟩:=bP (n:=n) jm.1;refine⟨k1,?_⟩;simp_all
theorem sr{n:Int}(e:(Ro w n).2=0):LD (Ro w n).1:=by
 unfold Ro at*;split at e
 ·omega
 rename_i h1;rw[AEB h1];simp only at e⊢;split at e
 ·omega
 rename_i h2;rw[AEB h2];simp only[AEz,AEt]at h1 h2;obtain⟨s1,s2,s3,s4⟩:=lf h2;rw[List.contains_eq_mem,AEK]at h1;have jW:=(GP.1 h.lost).2.1 n h1;have hns:=h.bc;have hn2:n.toNat<w.Av.length:=by
  have:n<(w.1.length:Int):=jW.2;omega
 refine⟨h.cfg,by grind,Ke _ h.lost,?_,fun i hi=> ?_,h.ak,h.bl,h.iT,h.AJ,h.UA,h.Bp,h.bo,h.Ai,h.Lg,h.Bk,h.T1⟩
 ·refine .inr ?_
  rw[AGv];intro hh
  replace hh:holds (Ae w) (less w.lost [n])=true:=hh
  have:=ZT (m:=w.lost) hh h.lost fun x hx=>(List.mem_filter.1 hx).1
  simp_all
 ·(try simp only[H.AA.Av,H.AA.lost,H.AA.A6,H.AA.trim,H.AA.AJ,H.AA.Bp,H.AA.Ai,H.AA.Bk,H.AA.Fp,H.AA.BZ,H.AA.C7,H.AA.Ew,H.AA.A5,H.AA.Bn,H.AA.Br,H.AA.B8,H.AA.DM,CK,Ae]at*);simp only[AGr]at hi
  simp only[Zb hn2];split
  ·grind[ZW,List.mem_singleton]
  ·exact⟨(h.Av i hi).1,fun hl=>(h.Av i hi).2 (ZW.1 hl).1⟩
theorem sP(e:(Rr w).2=0):LD (Rr w).1:=by
 unfold Rr at*;split at e
 ·omega
 rename_i h1;rw[AEB h1];split at e
 ·omega
 rename_i h2;rw[AEB h2];simp only[AF6,AEK,AHO]at h1;obtain⟨k,k1,k2,k3,k4⟩:=O6 h.ak (by show 0<w.A6.length;omega);have k1':k<w.A6.length:=k1;have X8:BF w.A6=(k:Int)+1:=k2;have hn:w.A6.length≤30:=h.ak.n;refine⟨h.cfg,h.bc,h.lost,h.Fp,h.Av,h.ak,h.bl,by(try simp only[H.AA.Av,H.AA.lost,H.AA.A6,H.AA.trim,H.AA.AJ,H.AA.Bp,H.AA.Ai,H.AA.Bk,H.AA.Fp,H.AA.BZ,H.AA.C7,H.AA.Ew,H.AA.A5,H.AA.Bn,H.AA.Br,H.AA.B8,H.AA.DM,CK,Ae]at*);simp,h.AJ,h.UA,fun m hm=> ?_,h.bo,h.Ai,h.Lg,h.Bk,h.T1⟩
 replace hm:m∈[Yk (BF w.A6) w.A6.length]:=hm
 simp only[AFp]at hm;subst hm;refine⟨⟨h.cfg,?_,?_,S8 h.cfg,List.Pairwise.nil,by simp[Yk],by simp[Yk],rfl⟩,rfl,rfl⟩
 ·show 1≤BF w.A6∧BF w.A6≤30
  omega
 ·show BF w.A6+1≤(w.A6.length:Int)∧(w.A6.length:Int)≤30
  omega
theorem sx{n:Int}(e:(RW w n).2=0):LD (RW w n).1:=by
 unfold RW at*;split at e
 ·omega
 rename_i m ms hm;simp only at e⊢;split at e
 ·omega
 rename_i h1;rw[AEB h1];split at e
 ·omega
 rename_i h2;rw[AEB h2];split at e
 ·omega
 rename_i h3;rw[AEB h3];simp only[ne_eq,AG5]at h1;simp only[AF6,AHO,AEz,AEt]at h3;obtain⟨s1,s2,s3⟩:=VP h3.1;obtain⟨m1,m2,m3,m4⟩:=fM h3.2;have hw:=h.Zg h1 s2;have n0:=h.iT;rw[hm]at n0;refine⟨h.cfg,hw.bc,h.lost,h.Fp,hw.Av,h.ak,h.bl,by omega,h.AJ,h.UA,fun x hx=> ?_,h.bo,h.Ai,h.Lg,h.Bk,h.T1⟩;rcases AEd.1 hx with rfl|hx
 ·have:=h.Bp m (by simp_all)
  refine⟨m2,?_⟩;simp_all
 simp_all
theorem uI(e:(Rb w).2=0):LD (Rb w).1:=by
 unfold Rb at*;split at e
 ·omega
 rename_i m ms hm;simp only at e⊢;split at e
 ·omega
 rename_i h3;rw[AEB h3];simp only[AEz,AEt]at h3;obtain⟨m1,m2,m3,m4,m5⟩:=fN h3;have n0:=h.iT;rw[hm]at n0;refine⟨h.cfg,h.bc,h.lost,h.Fp,h.Av,h.ak,h.bl,by omega,h.AJ,h.UA,fun x hx=> ?_,h.bo,h.Ai,h.Lg,h.Bk,h.T1⟩;rcases AEd.1 hx with rfl|hx
 ·have:=h.Bp m (by simp_all)
  refine⟨m2,?_⟩;simp_all
 simp_all
theorem wE{b n:Int}(e:(V7 w b n).2=0):LD (V7 w b n).1:=by
 unfold V7 at*;split at e
 ·omega
 rename_i m ms hm;split at e
 ·omega
 rename_i x hx;split at e
 ·omega
 rename_i h1;rw[AEB h1];split at e
 ·omega
 rename_i h2;rw[AEB h2];grind[VB,XO]
theorem mC(e:(Nt w).2=0):LD (Nt w).1:=by
 unfold Nt at*;split at e
 ·omega
 rename_i m ms hm;split at e
 ·omega
 rename_i h1;rw[AEB h1];simp only at e⊢;split at e
 ·omega
 rename_i h2;rw[AEB h2];simp only[AEz,AEt]at h2;obtain⟨r0,r1,k,k1,k2,k3,k4,k5,k6,k7,k8⟩:=fO h2;rw[k6]at r1;rw[k6];have hl:(Jb (CK w).1 k (m.2.2.2.2.2.1.length:Int)).length=w.A6.length:=by simp[Jb,CK]
 refine⟨h.cfg,h.bc,h.lost,h.Fp,h.Av,r1,h.bl,by(try simp only[H.AA.Av,H.AA.lost,H.AA.A6,H.AA.trim,H.AA.AJ,H.AA.Bp,H.AA.Ai,H.AA.Bk,H.AA.Fp,H.AA.BZ,H.AA.C7,H.AA.Ew,H.AA.A5,H.AA.Bn,H.AA.Br,H.AA.B8,H.AA.DM,CK,Ae]at*);simp,fun x hx=> ?_,h.UA,fun x hx=>by grind,h.bo,h.Ai,h.Lg,fun x hx=> ?_,h.T1⟩
 ·(try simp only[H.AA.Av,H.AA.lost,H.AA.A6,H.AA.trim,H.AA.AJ,H.AA.Bp,H.AA.Ai,H.AA.Bk,H.AA.Fp,H.AA.BZ,H.AA.C7,H.AA.Ew,H.AA.A5,H.AA.Bn,H.AA.Br,H.AA.B8,H.AA.DM,CK,Ae]at*);simp only[hl];exact h.AJ x hx
 ·(try simp only[H.AA.Av,H.AA.lost,H.AA.A6,H.AA.trim,H.AA.AJ,H.AA.Bp,H.AA.Ai,H.AA.Bk,H.AA.Fp,H.AA.BZ,H.AA.C7,H.AA.Ew,H.AA.A5,H.AA.Bn,H.AA.Br,H.AA.B8,H.AA.DM,CK,Ae]at*);simp only[hl];exact h.Bk x hx
theorem nG{a:Int}(e:(S_ w a).2=0):LD (S_ w a).1:=by
 unfold S_ at*;simp only at e⊢;split at e
 ·omega
 rename_i h2;rw[AEB h2];simp only[AEz,AEt]at h2;obtain⟨r0,r1,r2⟩:=gr h2;rw[r2]at r1;rw[r2];exact⟨h.cfg,h.bc,h.lost,h.Fp,h.Av,r1,h.bl,h.iT,h.AJ,h.UA,h.Bp,h.bo,h.Ai,h.Lg,h.Bk,h.T1⟩
theorem tJ{a k:Int}(e:(NL w a k).2=0):LD (NL w a k).1:=by
 unfold NL at*;split at e
 ·omega
 rename_i h1;rw[AEB h1];simp only at e⊢;split at e
 ·omega
 rename_i h2;rw[AEB h2];simp only[ne_eq,AG5]at h2;refine⟨h.cfg,h.bc,h.lost,h.Fp,h.Av,h.ak,h.bl,h.iT,h.AJ,h.UA,h.Bp,by(try simp only[H.AA.Av,H.AA.lost,H.AA.A6,H.AA.trim,H.AA.AJ,H.AA.Bp,H.AA.Ai,H.AA.Bk,H.AA.Fp,H.AA.BZ,H.AA.C7,H.AA.Ew,H.AA.A5,H.AA.Bn,H.AA.Br,H.AA.B8,H.AA.DM,CK,Ae]at*);simpa using h.bo,fun r hr=> ?_,h.Lg,h.Bk,h.T1⟩;rcases AGQ hr with hr|rfl
 ·exact h.Ai r hr
 ·exact bW h2
theorem rv{a:Int}(e:(RT w a).2=0):LD (RT w a).1:=by
 unfold RT at*;split at e
 ·omega
 rename_i h1;rw[AEB h1];have hs:(w.AJ.eraseIdx a.toNat).Sublist w.AJ:=List.eraseIdx_sublist _ _;exact⟨h.cfg,h.bc,h.lost,h.Fp,h.Av,h.ak,AFS hs.length_le h.bl,h.iT,fun x hx=>h.AJ x (hs.subset hx),h.UA.sublist hs,h.Bp,h.bo,h.Ai,h.Lg,h.Bk,h.T1⟩
theorem qF{all:Bool}{d:AR}(hd:d.2.2.2.2.1.length≤40)(e:(PR all w d).2=0):LD (PR all w d).1:=by
 unfold PR at*;by_cases hc:d.1=1
 ·rw[AEA hc]at e⊢;exact tH h e
 rw[AEB hc]at e⊢;clear hc;by_cases hc:d.1=2
 ·rw[AEA hc]at e⊢;exact AAp h hd e
 rw[AEB hc]at e⊢;clear hc;by_cases hc:d.1=3
 ·rw[AEA hc]at e⊢;exact lg h e
 rw[AEB hc]at e⊢;clear hc;by_cases hc:d.1=4
 ·rw[AEA hc]at e⊢;exact qI h e
 rw[AEB hc]at e⊢;clear hc;by_cases hc:d.1=5
 ·rw[AEA hc]at e⊢;exact nM h e
 rw[AEB hc]at e⊢;clear hc;by_cases hc:d.1=6
 ·rw[AEA hc]at e⊢;exact sv h e
 rw[AEB hc]at e⊢;clear hc;by_cases hc:d.1=7
 ·rw[AEA hc]at e⊢;exact sr h e
 rw[AEB hc]at e⊢;clear hc;by_cases hc:d.1=8
 ·rw[AEA hc]at e⊢;exact sP h e
 rw[AEB hc]at e⊢;clear hc;by_cases hc:d.1=9
 ·rw[AEA hc]at e⊢;exact sx h e
 rw[AEB hc]at e⊢;clear hc;by_cases hc:d.1=10
 ·rw[AEA hc]at e⊢;exact uI h e
 rw[AEB hc]at e⊢;clear hc;by_cases hc:d.1=11
 ·rw[AEA hc]at e⊢;exact wE h e
 rw[AEB hc]at e⊢;clear hc;by_cases hc:d.1=12
 ·rw[AEA hc]at e⊢;exact mC h e
 rw[AEB hc]at e⊢;clear hc;by_cases hc:d.1=13
 ·rw[AEA hc]at e⊢;exact nG h e
 rw[AEB hc]at e⊢;clear hc;by_cases hc:d.1=14
 ·rw[AEA hc]at e⊢;exact tJ h e
 rw[AEB hc]at e⊢;clear hc;by_cases hc:d.1=15
 ·rw[AEA hc]at e⊢;exact rv h e
 rw[AEB hc]at e⊢;grind[nC]
end
theorem Yq{d:AR}(h:Dq d=true):d.2.2.2.2.1.length≤40:=by
 unfold Dq at h;simp_all
theorem gi{all:Bool}{w:AA}{d:AR}(e:(I2 all w d).2=0):MO (I2 all w d).1=true:=by
 unfold I2 at*;split at e
 ·omega
 rename_i h1;rw[AEB h1];have hw:MO w=true:=by
  simp_all
 have hd:Dq d=true:=by
  simp_all
 grind[Td,qF,Yq]
end Go.M
end
section
namespace Go.M
open Go.M.H (AH AN A7 A3 AA Co AK BQ AQ Aj BO A_ AR Ax Ce Af AW Ac Az CN Bf A4 Bq Ek Cp C1 Dm)
theorem jG{α:Type}{f:α→Nat}{B:Nat}:∀{l:List α},(∀x∈l,f x≤B)→Af f l≤l.length*(1+B)
 |[],_=>by simp[Af]
 |x::l,h=>by
  have h1:=h x (by simp);have h2:=jG (l:=l) fun y hy=>h y (by simp[hy])
  grind[Af,List.length_cons,Nat.add_mul]
theorem GF{α:Type}{f:α→Nat}{B N:Nat}{l:List α}(hn:l.length≤N)(h:∀x∈l,f x≤B):Af f l≤N*(1+B):=
 AFS (jG h) (AFQ _ hn)
theorem dQ{α:Type}{f:α→Int}{b:Int}:∀{l:List α} {a:Int},QT f l→(∀x∈l,a≤f x∧f x<b)→(l.length:Int)≤max (b-a) 0
 |[],a,_,_=>by grind
 |x::l,a,h,hb=>by
  simp only[QT,AFk]at h;have h1:=hb x (by simp);have h2:=dQ (l:=l) (a:=f x+1) h.2 fun y hy=>⟨by grind,(hb y (by simp[hy])).2⟩
  grind
theorem E9{c:B_}{l:AAQ}(h:BA c l=true):l.length≤8:=by
 obtain⟨h1,h2,h3⟩:=GP.1 h;have:=(Ff h1).2.1;have:=dQ (a:=0) (b:=c.1.length) h3 h2;omega
theorem IL{p:Int}(h:Ay p=true):BB p:=by
 obtain⟨h1,h2,h3⟩:=KC h;grind[Lu,BB]
theorem VU.w{s:AN}(h:VU s):Ax s≤10000:=by
 have h1:=GF (f:=Az) (B:=40) h.nk fun e he=>(GL.1 (h.kept e he)).len
 have h2:=GF (f:=Az) (B:=40) h.nl fun e he=>(GL.1 (h.late e he)).len
 unfold Ax;omega
theorem VU.sin{s:AN}(h:VU s):lh s:=
 ⟨fun e he=>IL (GL.1 (h.kept e he)).pl,fun e he=>IL (GL.1 (h.late e he)).pl⟩
theorem bj.ACr{c:B_}{m:A7}(h:bj c m):m.2.2.2.1.length≤60:=by
 have:=dQ (f:=fun e:AH=>e.1) (a:=Lu m.2.1 1) (b:=Lu m.2.1 61) h.lb fun e he=>by
  have h1:=h.seen e he;have h2:=KC (GL.1 h1.1).pl;grind[Lu]
 grind[Lu]
theorem bj.w{c:B_}{m:A7}(h:bj c m):Ce m≤5000:=by
 have h1:=GF (f:=Az) (B:=40) h.ACr fun e he=>(GL.1 (h.seen e he).1).len
 have h2:=E9 h.sld;have h3:m.2.2.2.2.2.1.length≤60:=by
  have:=h.n;have hb:=HL (l:=m.2.2.2.1);omega
 have h4:=GF (f:=Dm) (B:=8) h3 fun l hl=>E9 (h.wrote l hl)
 unfold Ce;omega
theorem bj.ein{c:B_}{m:A7}(h:bj c m):kQ m.2.2.2.1:=fun e he=>IL (GL.1 (h.seen e he).1).pl
theorem jx.w{c:B_}{r:AK}(h:jx c r):Af CN r.1≤270:=by
 have:=GF (f:=CN) (B:=8) h.n fun e he=>E9 (MZ (h.A6 e he).1)
 omega
theorem jx.tin{c:B_}{r:AK}(h:jx c r):BB r.2.1:=by
 rcases h.trim with h|h
 all_goals grind[BB,IL]
theorem Uu.w{c:B_}{w:AQ}(h:Uu c w):A4 w≤3000:=by
 have:=GF (f:=Bf) (B:=48) h.n fun x hx=>by
  have h1:=h.words x hx;grind[E9,Bf]
 unfold A4;omega
def eL(w:AA):Prop:= ∀r∈w.Ai,∀e∈r.2.2.1,e.2.2.1.length≤40
theorem LD.S1{w:AA}(h:LD w){s:AN}(hs:s∈w.Av):VU s:=by
 obtain⟨i,hi,rfl⟩:=AFr hs;have:=(h.Av i hi).1;simp_all
theorem LD.win{w:AA}(h:LD w)(hr:eL w):mi w:=by
 have hc:=(Ff h.cfg).2.1;have UK:w.1.length≤8:=hc;have a1:=GF (f:=Ax) (B:=10000) (N:=8) (l:=w.Av) (by rw[h.bc];omega) fun s hs=>(h.S1 hs).w
 have a2:=E9 h.lost;have a3:=h.ak.w;have a4:=GF (f:=A4) (B:=3000) h.bl fun x hx=>(h.AJ x hx).1.w
 have a5:=GF (f:=Ce) (B:=5000) h.iT fun x hx=>(h.Bp x hx).1.w
 have a6:=GF (f:=Bq) (B:=5000) (N:=2) (l:=w.Ai) (by rw[h.bo];omega) fun r hx=>by
  have:=GF (f:=Cp) (B:=40) (h.Ai r hx).n (hr r hx);unfold Bq;omega
 have a7:=GF (f:=Ek) (B:=40) h.Lg fun s hs=>(h.Bk s hs).2.2
 refine⟨?_,fun s hs=>(h.S1 hs).sin,h.ak.tin,fun m hm=>(h.Bp m hm).1.ein,fun s hs=>IL (h.Bk s hs).1⟩;have a3':Af CN w.A6≤270:=a3;grind[C1]
end Go.M
end
section
set_option maxRecDepth 8000
namespace Go.M
open Go.M.H (AH AN A7 A3 AA Co AK BQ AQ Aj BO A_ AR Ax Ce Af AW Ac Az CN Bf A4 Bq Ek Cp C1 Dm)
theorem lA:∀i,i<8→([0,1,2,3,4,5,6,7]:AAQ).drop i=(i:Int)::([0,1,2,3,4,5,6,7]:AAQ).drop (i+1):=by decide
theorem Ph{k:Int}:IP k=some (((),()),(A9 k,())):=by
 unfold IP Mi A9;rcases AD8 (BX k 0 255)with hk|hk
 rotate_left
 ·rw[hk]
  obtain⟨m,hm⟩:∃m,Ar=m+1:=⟨Ar-1,by have:=A0 (n:=0) (by omega);omega⟩;rw[hm];simp only[EW,Io,An,AF,hk,AE];rfl
 rw[hk,AEA rfl];have hk':=Aw.1 hk;have key:∀(n i:Nat) (b:AAQ),i≤8→8-i<n→b.length≤i→
   EW n k i b=some (((),()),(b++(([0,1,2,3,4,5,6,7]:AAQ).drop i).filter (fun i=>(k/2^i.toNat)%2==1),())):=by
  intro n
  induction n with
  |zero=>omega
  |succ n ih=>
   intro i b hi h hb;simp only[EW,Io,An,AF,hk,AEb,AE];by_cases Dg:i<8
   ·have ADg:=mv (k:=k) (i:=i) (by omega) (by omega)
    rw[AEA (show(i:Int)<8 by omega),AEB (by omega),AEq,ADg,lA i Dg,AGk,AEq,AG (by omega) (by omega),show((i:Int)+1)=((i+1:Nat):Int)by omega,AE];have c2:b.length+1≤Cg:=by rw[Ao];omega
    by_cases l8:(k/2^i)%2=1
    ·rw[AEA l8,AEA c2,AEA (by simp_all),ih (i+1) _ (by omega) (by omega) (by simp_all),AEE]
     rfl
    grind
   ·have:i=8:=by omega
    simp_all
 have:=key Ar 0 [] (by omega) (A0 (by omega)) (by simp);simp_all
theorem Ol{d:AR}:KQ d=some ((Dq d,()),()):=by
 obtain⟨k,a,b,n,t,⟨⟩⟩:=d;unfold KQ Dq;rw[An];simp only[AF];rcases AD8 (BX k 1 16)with hk|hk
 rotate_left
 ·simp_all
 have hk':=Aw.1 hk;rw[hk];have dl:decide ((t.length:Int)≤40)=decide (t.length≤40):=by
  grind
 have:k=1∨k=2∨k=3∨k=4∨k=5∨k=6∨k=7∨k=8∨k=9∨k=10∨k=11∨k=12∨k=13∨k=14∨k=15∨k=16:=by omega
 rcases this with h|h|h|h|h|h|h|h|h|h|h|h|h|h|h|h<;>subst h<;>simp only[AEb,dl]<;>clear dl hk hk'<;>
  (unfold QH;simp[Nu];cases a==0<;>cases b==0<;>cases n==0<;>cases t.isEmpty<;>rfl)
theorem Uq{w:AQ}(hl:w.2.1.length≤2^20):M9 w=some (((cP w.2.1:Int),()),()):=by
 have key:∀(n i:Nat),i≤w.2.1.length→w.2.1.length-i<n→
   Fh n i w.1 w.2.1=some ((((i+cP (w.2.1.drop i):Nat):Int),()),()):=by
  intro n
  induction n with
  |zero=>omega
  |succ n ih=>
   intro i hi h;simp only[Fh,Lk,AE];by_cases Dg:i<w.2.1.length
   ·have c1:(0:Int)≤(i:Int)∧(i:Int)<(w.2.1.length:Int):=by omega
    rw[AEA c1.2,AEA c1,BC Dg,AG (by omega) (by omega),show((i:Int)+1)=((i+1:Nat):Int)by omega,ih (i+1) (by omega) (by omega),drop_cons Dg];simp only[cP];cases w.2.1[i].2.2.1 with
    |false=>simp
    |true=>grind
   ·rw[AEB (by omega),AEU (by omega)]
    rfl
 have:=key Ar 0 (by omega) (A0 (by omega));rw[AGB,AGH]at this;exact this
theorem Ef{w:AA}{n:Int}(h1:w.Av.length≤2^20)(h2:w.lost.length≤2^20):EA w n=some ((BJ w n,()),()):=by
 unfold EA BJ
 (try simp only[H.AA.Av,H.AA.lost,H.AA.A6,H.AA.trim,H.AA.AJ,H.AA.Bp,H.AA.Ai,H.AA.Bk,H.AA.Fp,H.AA.BZ,H.AA.C7,H.AA.Ew,H.AA.A5,H.AA.Bn,H.AA.Br,H.AA.B8,H.AA.DM,CK,Ae]at*)
 rw[AG (by omega) (by omega),An,GM (by omega)];grind
theorem K3{w:AA}{n:Int}(h1:w.AJ.length≤2^20):G6 w n=some ((BX n 0 ((w.AJ.length:Int)-1),()),()):=by
 grind[G6,AG,An]
theorem aD{w:AA}{e:Int}(hl:Af A4 w.AJ≤2^20):TH w e=some ((gl w e,()),()):=by
 have hll:=AW (f:=A4) (l:=w.AJ);have key:∀(n i:Nat),i≤w.AJ.length→w.AJ.length-i<n→
   IW n e i w.1 w.2.1 w.2.2.1 w.2.2.2.1 w.2.2.2.2.1 w.2.2.2.2.2.1 w.AJ w.2.2.2.2.2.2.2.1 w.2.2.2.2.2.2.2.2.1 w.2.2.2.2.2.2.2.2.2.1 w.2.2.2.2.2.2.2.2.2.2.1=
    some (((match(w.AJ.drop i).find? (fun x=>x.1==e)with|some x=>(cP x.2.1:Int)|none=>0),()),()):=by
  intro n
  induction n with
  |zero=>omega
  |succ n ih=>
   intro i hi h;simp only[IW,P8,AE];by_cases Dg:i<w.AJ.length
   ·have c1:(0:Int)≤(i:Int)∧(i:Int)<(w.AJ.length:Int):=by omega
    rw[AEA c1.2,AEA c1,AEA c1,BC Dg,AG (by omega) (by omega),show((i:Int)+1)=((i+1:Nat):Int)by omega,ih (i+1) (by omega) (by omega),drop_cons Dg,List.find?_cons,show(w.AJ[i].1,w.AJ[i].2.1,())=w.AJ[i]from rfl];have hm:=Ac (f:=A4) (AEa Dg);have hw:A4 w.AJ[i]=Af Bf w.AJ[i].2.1:=rfl;have hlw:=AW (f:=Bf) (l:=w.AJ[i].2.1);rw[Uq (by omega)];cases(w.AJ[i].1==e)<;>rfl
   grind
 have:=key Ar 0 (by omega) (A0 (by omega));rw[AGH]at this;exact this
theorem U6{w:AA}{r:Aj}{k:Int}(h1:Af Ax w.Av≤2^20)(h2:w.lost.length≤2^20)(hr1: -1000≤r.1∧r.1≤1000)(hr2: -1000≤r.2.1∧r.2.1≤1000):
  Jj w r k=some (((),()),(answers w (Lu r.1 r.2.1) (A9 k),())):=by
 have hsl:=AW (f:=Ax) (l:=w.Av);have gV:(A9 k).length≤8:=by
  unfold A9;split
  ·exact AFS (AF3 _ _) (by simp)
  ·simp
 have key:∀(n i:Nat) (b:List A_),i≤(A9 k).length→(A9 k).length-i<n→b.length≤i→
   Fg n i w.1 w.2.1 w.2.2.1 w.2.2.2.1 w.2.2.2.2.1 w.2.2.2.2.2.1 w.2.2.2.2.2.2.1 w.2.2.2.2.2.2.2.1 w.2.2.2.2.2.2.2.2.1 w.2.2.2.2.2.2.2.2.2.1 w.2.2.2.2.2.2.2.2.2.2.1 r.1 r.2.1 r.2.2.1 b (A9 k)=
    some (((),()),(b++answers w (Lu r.1 r.2.1) ((A9 k).drop i),())):=by
  intro n
  induction n with
  |zero=>omega
  |succ n ih=>
   intro i b hi h hb;simp only[Fg,Lm,AE];by_cases Dg:i<(A9 k).length
   ·have c1:(0:Int)≤(i:Int)∧(i:Int)<((A9 k).length:Int):=by omega
    have c2:b.length+1≤Cg:=by rw[Ao];omega
    rw[AEA c1.2,AEA c1,BC Dg,show(w.1,w.2.1,w.2.2.1,w.2.2.2.1,w.2.2.2.2.1,w.2.2.2.2.2.1,w.2.2.2.2.2.2.1,w.2.2.2.2.2.2.2.1,w.2.2.2.2.2.2.2.2.1,w.2.2.2.2.2.2.2.2.2.1,w.2.2.2.2.2.2.2.2.2.2.1,())=w from rfl,Ef (by omega) h2,AG (by omega) (by omega),show((i:Int)+1)=((i+1:Nat):Int)by omega,drop_cons Dg];simp only[AF,Em,answers,AGk];by_cases hn:BJ w (A9 k)[i]=0
    ·obtain⟨n1,n2,n3⟩:=MS hn
     have xR:((A9 k)[i]).toNat<w.2.2.1.length:=by simp_all
     rw[AEA hn,AEA c1,AEA ⟨n1,n2⟩,Hl hr1 hr2];simp only[AF];have bg:w.2.2.1.getD ((A9 k)[i]).toNat ([],[],0,())=storeAt w (A9 k)[i]:=rfl;have hsm:Ax (storeAt w (A9 k)[i])≤2^20:=AFS (Ac (f:=Ax) (Bg (d:=DO) xR)) h1;rw[bg,MF (HY (by omega)).1];simp only[AF];rw[AEA c1,AEA c2,ih (i+1) _ (by omega) (by omega) (by simp_all),AEA (by simp_all),AGY,AEE];have:((A9 k)[i],(Rz (Lu r.1 r.2.1) (storeAt w (A9 k)[i]).1).isSome,((Rz (Lu r.1 r.2.1) (storeAt w (A9 k)[i]).1).getD Db).1,((Rz (Lu r.1 r.2.1) (storeAt w (A9 k)[i]).1).getD Db).2.1,((Rz (Lu r.1 r.2.1) (storeAt w (A9 k)[i]).1).getD Db).2.2.1,((Rz (Lu r.1 r.2.1) (storeAt w (A9 k)[i]).1).getD Db).2.2.2.1,())=answer w (Lu r.1 r.2.1) (A9 k)[i]:=by
      grind[answer,Rz,Lu,storeAt,A9]
     rw[this];rfl
    ·rw[AEB hn,ih (i+1) _ (by omega) (by omega) (by omega),AEB (by simp_all)]
     rfl
   ·rw[AEB (by omega),AEU (by omega)]
    simp[answers]
 have:=key Ar 0 [] (by omega) (A0 (by omega)) (by simp);grind[Jj,Li,Ph]
end Go.M
end
section
set_option maxRecDepth 8000
namespace Go.M
open Go.M.H (AH AN A7 A3 AA Co AK BQ AQ Aj BO A_ AR Ax Ce Af AW Ac Az CN Bf A4 Bq Ek Cp C1 Dm)
section
variable{w:AA} (h:mi w)
include h
theorem rr:∀(n i:Nat) (DA:List AN) (DQ:List AQ) (Di:List A7) (Dx:List Aj),i≤w.2.2.2.2.2.2.2.2.1.length→w.2.2.2.2.2.2.2.2.1.length-i<n→Dx.length≤i→
  BT n i w.1 w.2.1 w.2.2.1 w.2.2.2.1 w.2.2.2.2.1 w.2.2.2.2.2.1 w.2.2.2.2.2.2.1 w.2.2.2.2.2.2.2.1 w.2.2.2.2.2.2.2.2.1 w.2.2.2.2.2.2.2.2.2.1 w.2.2.2.2.2.2.2.2.2.2.1 0 0 false [] [] [] [] [] [] [] [] w.2.1 w.2.2.2.2.2.1 w.2.2.2.2.2.2.2.2.2.2.1 w.1 DA w.2.2.2.1 w.2.2.2.2.1 DQ Di Dx w.2.2.2.2.2.2.2.2.2.1=some ((((),w.2.1,(),(),(),w.2.2.2.2.2.1,(),(),(),(),w.2.2.2.2.2.2.2.2.2.2.1,()),()),(w.1,DA,w.2.2.2.1,w.2.2.2.2.1,DQ,Di,(Dx++w.2.2.2.2.2.2.2.2.1.drop i),w.2.2.2.2.2.2.2.2.2.1,())):=by
 have r_:=h.Xa;have hl:=h.lens;intro n
 induction n with
 |zero=>omega
 |succ n ih=>
  intro i DA DQ Di Dx hi hn hb;simp only[BT,JU,AE];by_cases Dg:i<w.2.2.2.2.2.2.2.2.1.length
  ·have c1:(0:Int)≤(i:Int)∧(i:Int)<(w.2.2.2.2.2.2.2.2.1.length:Int):=by omega
   have c2:Dx.length+1≤Cg:=by rw[Ao];omega
   rw[AEA c1.2,AEA c1,BC Dg,AG (by omega) (by omega),show((i:Int)+1)=((i+1:Nat):Int)by omega,drop_cons Dg];have hm:=Ac (f:=Bq) (AEa Dg);have hw:Bq w.2.2.2.2.2.2.2.2.1[i]=Af Cp w.2.2.2.2.2.2.2.2.1[i].2.2.1:=rfl;have hlw:=AW (f:=Cp) (l:=w.2.2.2.2.2.2.2.2.1[i].2.2.1);rw[show(w.2.2.2.2.2.2.2.2.1[i].1,w.2.2.2.2.2.2.2.2.1[i].2.1,w.2.2.2.2.2.2.2.2.1[i].2.2.1,())=w.2.2.2.2.2.2.2.2.1[i]from rfl,NC (by omega)];simp only[AF];rw[AEA c2,ih (i+1) _ _ _ _ (by omega) (by omega) (by simp_all),AEE];rfl
  grind
theorem uM:∀(n i:Nat) (DA:List AN) (DQ:List AQ) (Di:List A7),i≤w.2.2.2.2.2.2.2.1.length→(w.2.2.2.2.2.2.2.1.length-i)+w.2.2.2.2.2.2.2.2.1.length+2≤n→Di.length≤i→
  BS n i w.1 w.2.1 w.2.2.1 w.2.2.2.1 w.2.2.2.2.1 w.2.2.2.2.2.1 w.2.2.2.2.2.2.1 w.2.2.2.2.2.2.2.1 w.2.2.2.2.2.2.2.2.1 w.2.2.2.2.2.2.2.2.2.1 w.2.2.2.2.2.2.2.2.2.2.1 0 0 false [] [] [] [] [] [] [] [] w.2.1 w.2.2.2.2.2.1 w.2.2.2.2.2.2.2.2.2.2.1 w.1 DA w.2.2.2.1 w.2.2.2.2.1 DQ Di [] w.2.2.2.2.2.2.2.2.2.1=some ((((),w.2.1,(),(),(),w.2.2.2.2.2.1,(),(),(),(),w.2.2.2.2.2.2.2.2.2.2.1,()),()),(w.1,DA,w.2.2.2.1,w.2.2.2.2.1,DQ,(Di++w.2.2.2.2.2.2.2.1.drop i),w.2.2.2.2.2.2.2.2.1,w.2.2.2.2.2.2.2.2.2.1,())):=by
 have r_:=h.Xa;have hl:=h.lens;intro n
 induction n with
 |zero=>omega
 |succ n ih=>
  intro i DA DQ Di hi hn hb;simp only[BS,JO,AE];by_cases Dg:i<w.2.2.2.2.2.2.2.1.length
  ·have c1:(0:Int)≤(i:Int)∧(i:Int)<(w.2.2.2.2.2.2.2.1.length:Int):=by omega
   have c2:Di.length+1≤Cg:=by rw[Ao];omega
   rw[AEA c1.2,AEA c1,BC Dg,AG (by omega) (by omega),show((i:Int)+1)=((i+1:Nat):Int)by omega,drop_cons Dg];have hm:=Ac (f:=Ce) (AEa Dg);rw[show(w.2.2.2.2.2.2.2.1[i].1,w.2.2.2.2.2.2.2.1[i].2.1,w.2.2.2.2.2.2.2.1[i].2.2.1,w.2.2.2.2.2.2.2.1[i].2.2.2.1,w.2.2.2.2.2.2.2.1[i].2.2.2.2.1,w.2.2.2.2.2.2.2.1[i].2.2.2.2.2.1,())=w.2.2.2.2.2.2.2.1[i]from rfl,G3 (by omega)];simp only[AF];rw[AEA c2,ih (i+1) _ _ _ (by omega) (by omega) (by simp_all),AEE];rfl
  ·have:=rr h n 0 DA DQ Di [] (by omega) (by omega) (by simp)
   grind
theorem zC:∀(n i:Nat) (DA:List AN) (DQ:List AQ),i≤w.2.2.2.2.2.2.1.length→(w.2.2.2.2.2.2.1.length-i)+w.2.2.2.2.2.2.2.1.length+w.2.2.2.2.2.2.2.2.1.length+3≤n→DQ.length≤i→
  Be n i w.1 w.2.1 w.2.2.1 w.2.2.2.1 w.2.2.2.2.1 w.2.2.2.2.2.1 w.2.2.2.2.2.2.1 w.2.2.2.2.2.2.2.1 w.2.2.2.2.2.2.2.2.1 w.2.2.2.2.2.2.2.2.2.1 w.2.2.2.2.2.2.2.2.2.2.1 0 0 false [] [] [] [] [] [] [] [] w.2.1 w.2.2.2.2.2.1 w.2.2.2.2.2.2.2.2.2.2.1 w.1 DA w.2.2.2.1 w.2.2.2.2.1 DQ [] [] w.2.2.2.2.2.2.2.2.2.1=some ((((),w.2.1,(),(),(),w.2.2.2.2.2.1,(),(),(),(),w.2.2.2.2.2.2.2.2.2.2.1,()),()),(w.1,DA,w.2.2.2.1,w.2.2.2.2.1,(DQ++w.2.2.2.2.2.2.1.drop i),w.2.2.2.2.2.2.2.1,w.2.2.2.2.2.2.2.2.1,w.2.2.2.2.2.2.2.2.2.1,())):=by
 have r_:=h.Xa;have hl:=h.lens;intro n
 induction n with
 |zero=>omega
 |succ n ih=>
  intro i DA DQ hi hn hb;simp only[Be,J1,AE];by_cases Dg:i<w.2.2.2.2.2.2.1.length
  ·have c1:(0:Int)≤(i:Int)∧(i:Int)<(w.2.2.2.2.2.2.1.length:Int):=by omega
   have c2:DQ.length+1≤Cg:=by rw[Ao];omega
   rw[AEA c1.2,AEA c1,BC Dg,AG (by omega) (by omega),show((i:Int)+1)=((i+1:Nat):Int)by omega,drop_cons Dg];have hm:=Ac (f:=A4) (AEa Dg);have hw:A4 w.2.2.2.2.2.2.1[i]=Af Bf w.2.2.2.2.2.2.1[i].2.1:=rfl;rw[show(w.2.2.2.2.2.2.1[i].1,w.2.2.2.2.2.2.1[i].2.1,())=w.2.2.2.2.2.2.1[i]from rfl,LY (by omega)];simp only[AF];rw[AEA c2,ih (i+1) _ _ (by omega) (by omega) (by simp_all),AEE];rfl
  ·have:=uM h n 0 DA DQ [] (by omega) (by omega) (by simp)
   grind
theorem zY:∀(n i:Nat) (DA:List AN),i≤w.2.2.1.length→(w.2.2.1.length-i)+w.2.2.2.2.2.2.1.length+w.2.2.2.2.2.2.2.1.length+w.2.2.2.2.2.2.2.2.1.length+4≤n→DA.length≤i→
  BV n i w.1 w.2.1 w.2.2.1 w.2.2.2.1 w.2.2.2.2.1 w.2.2.2.2.2.1 w.2.2.2.2.2.2.1 w.2.2.2.2.2.2.2.1 w.2.2.2.2.2.2.2.2.1 w.2.2.2.2.2.2.2.2.2.1 w.2.2.2.2.2.2.2.2.2.2.1 0 0 false [] [] [] [] [] [] [] [] w.2.1 w.2.2.2.2.2.1 w.2.2.2.2.2.2.2.2.2.2.1 w.1 DA w.2.2.2.1 w.2.2.2.2.1 [] [] [] w.2.2.2.2.2.2.2.2.2.1=some ((((),w.2.1,(),(),(),w.2.2.2.2.2.1,(),(),(),(),w.2.2.2.2.2.2.2.2.2.2.1,()),()),(w.1,(DA++w.2.2.1.drop i),w.2.2.2.1,w.2.2.2.2.1,w.2.2.2.2.2.2.1,w.2.2.2.2.2.2.2.1,w.2.2.2.2.2.2.2.2.1,w.2.2.2.2.2.2.2.2.2.1,())):=by
 have r_:=h.Xa;have hl:=h.lens;intro n
 induction n with
 |zero=>omega
 |succ n ih=>
  intro i DA hi hn hb;simp only[BV,J7,AE];by_cases Dg:i<w.2.2.1.length
  ·have c1:(0:Int)≤(i:Int)∧(i:Int)<(w.2.2.1.length:Int):=by omega
   have c2:DA.length+1≤Cg:=by rw[Ao];omega
   rw[AEA c1.2,AEA c1,BC Dg,AG (by omega) (by omega),show((i:Int)+1)=((i+1:Nat):Int)by omega,drop_cons Dg];have hm:=Ac (f:=Ax) (AEa Dg);have hw:=HY (s:=w.2.2.1[i]) (by omega);rw[show(w.2.2.1[i].1,w.2.2.1[i].2.1,w.2.2.1[i].2.2.1,())=w.2.2.1[i]from rfl,Ir hw.1 hw.2];simp only[AF];rw[AEA c2,ih (i+1) _ (by omega) (by omega) (by simp_all),AEE];rfl
  ·have:=zC h n 0 DA [] (by omega) (by omega) (by simp)
   grind
theorem YT:JB w=some ((((),w.2.1,(),(),(),w.2.2.2.2.2.1,(),(),(),(),w.2.2.2.2.2.2.2.2.2.2.1,()),()),(w.1,w.2.2.1,w.2.2.2.1,w.2.2.2.2.1,w.2.2.2.2.2.2.1,w.2.2.2.2.2.2.2.1,w.2.2.2.2.2.2.2.2.1,w.2.2.2.2.2.2.2.2.2.1,())):=by
 have r_:=h.Xa;have hl:=h.lens;unfold JB J4;have:=zY h Ar 0 [] (by omega) (AGz (A0 (by omega))) (by simp);rw[show((0:Nat):Int)=0 from rfl,AFa,AGH]at this;rw[AEA (by rw[Ao];omega),AEA (by rw[Ao];omega),show(w.2.2.2.2.1,w.2.2.2.2.2.1,())=(CK w)from rfl,Kf (by show Af CN w.2.2.2.2.1≤_;omega)];simp only[AF];rw[AEA (by rw[Ao];omega)];exact this
end
end Go.M
end
section
set_option maxRecDepth 8000
namespace Go.M
open Go.M.H (AH AN A7 A3 AA Co AK BQ AQ Aj BO A_ AR Ax Ce Af AW Ac Az CN Bf A4 Bq Ek Cp C1 Dm)
def uq(q:AA×Int):SI:=(((((),q.1.2.1,(),(),(),q.1.2.2.2.2.2.1,(),(),(),(),q.1.2.2.2.2.2.2.2.2.2.2.1,()),q.2,()),()),(q.1.1,q.1.2.2.1,q.1.2.2.2.1,q.1.2.2.2.2.1,q.1.2.2.2.2.2.2.1,q.1.2.2.2.2.2.2.2.1,q.1.2.2.2.2.2.2.2.2.1,q.1.2.2.2.2.2.2.2.2.2.1,()))
def wR(q:AA×Int):TS:=(((((),q.1.2.1,(),(),(),q.1.2.2.2.2.2.1,(),(),(),(),q.1.2.2.2.2.2.2.2.2.2.2.1,()),q.2,()),()),(q.1.1,q.1.2.2.1,q.1.2.2.2.1,(),(),(),q.1.2.2.2.2.2.2.2.2.1,q.1.2.2.2.2.2.2.2.2.2.1,q.1.2.2.2.2.1,q.1.2.2.2.2.2.2.1,q.1.2.2.2.2.2.2.2.1,()))
def nL(q:AA×Int):GZ:=(((((),q.1.2.1,(),(),(),q.1.2.2.2.2.2.1,(),(),(),(),q.1.2.2.2.2.2.2.2.2.2.2.1,()),q.2,()),()),(q.1.1,q.1.2.2.1,q.1.2.2.2.1,q.1.2.2.2.2.1,q.1.2.2.2.2.2.2.1,q.1.2.2.2.2.2.2.2.1,q.1.2.2.2.2.2.2.2.2.1,(),q.1.2.2.2.2.2.2.2.2.2.1,()))
def eD(q:AA×Int):Fc:=(((((),q.1.2.1,(),(),(),q.1.2.2.2.2.2.1,(),(),(),(),q.1.2.2.2.2.2.2.2.2.2.2.1,()),q.2,()),()),(q.1.1,q.1.2.2.1,(),q.1.2.2.2.2.1,q.1.2.2.2.2.2.2.1,q.1.2.2.2.2.2.2.2.1,q.1.2.2.2.2.2.2.2.2.1,q.1.2.2.2.2.2.2.2.2.2.1,q.1.2.2.2.1,()))
def xL(q:AA×Int):Tc:=(((((),q.1.2.1,(),(),(),q.1.2.2.2.2.2.1,(),(),(),(),q.1.2.2.2.2.2.2.2.2.2.2.1,()),q.2,()),()),(q.1.1,q.1.2.2.1,q.1.2.2.2.1,q.1.2.2.2.2.1,q.1.2.2.2.2.2.2.1,(),q.1.2.2.2.2.2.2.2.2.1,q.1.2.2.2.2.2.2.2.2.2.1,q.1.2.2.2.2.2.2.2.1,()))
def o_(q:AA×Int):SE:=(((((),q.1.2.1,(),(),(),q.1.2.2.2.2.2.1,(),(),(),(),q.1.2.2.2.2.2.2.2.2.2.2.1,()),q.2,()),()),(q.1.1,q.1.2.2.1,q.1.2.2.2.1,(),q.1.2.2.2.2.2.2.1,(),q.1.2.2.2.2.2.2.2.2.1,q.1.2.2.2.2.2.2.2.2.2.1,q.1.2.2.2.2.1,q.1.2.2.2.2.2.2.2.1,()))
def mU(q:AA×Int):IV:=(((((),q.1.2.1,(),(),(),q.1.2.2.2.2.2.1,(),(),(),(),q.1.2.2.2.2.2.2.2.2.2.2.1,()),q.2,()),()),(q.1.1,q.1.2.2.1,q.1.2.2.2.1,q.1.2.2.2.2.1,(),q.1.2.2.2.2.2.2.2.1,q.1.2.2.2.2.2.2.2.2.1,q.1.2.2.2.2.2.2.2.2.2.1,q.1.2.2.2.2.2.2.1,()))
def xm(q:AA×Int):Vk:=(((((),q.1.2.1,(),(),(),q.1.2.2.2.2.2.1,(),(),(),(),q.1.2.2.2.2.2.2.2.2.2.2.1,()),q.2,()),()),(q.1.1,q.1.2.2.1,(),(),(),(),q.1.2.2.2.2.2.2.2.2.1,(),q.1.2.2.2.1,q.1.2.2.2.2.1,q.1.2.2.2.2.2.2.1,q.1.2.2.2.2.2.2.2.1,q.1.2.2.2.2.2.2.2.2.2.1,()))
theorem LM{α:Type}{x y:α}:(if(!true)=true then x else y)=y:=rfl
theorem RI{α:Type}{x y:α}:(if(!false)=true then x else y)=x:=rfl
structure AEx (w:AA):Prop where
 c:w.1.length≤8
 st:w.2.2.1.length=w.1.length
 lost:w.2.2.2.1.length≤8
 era:Af CN w.2.2.2.2.1≤270
 rh:w.2.2.2.2.1.length≤30
 trim:BB w.2.2.2.2.2.1
 wr:w.2.2.2.2.2.2.1.length≤4
 md:w.2.2.2.2.2.2.2.1.length≤1
 rd:w.2.2.2.2.2.2.2.2.1.length=2
 se:w.2.2.2.2.2.2.2.2.2.1.length≤120
 ws:Af Ax w.2.2.1≤80008
 ww:Af A4 w.2.2.2.2.2.2.1≤12004
 jh:w.AJ.length≤4
 jJ:w.Av.length=w.1.length
 Pq:w.lost.length≤8
theorem LD.nums{w:AA}(h:LD w):AEx w where
 c:=(Ff h.cfg).2.1
 st:=h.bc
 lost:=E9 h.lost
 era:=h.ak.w
 rh:=h.ak.n
 trim:=h.ak.tin
 wr:=h.bl
 md:=h.iT
 rd:=h.bo
 se:=h.Lg
 ws:=by
  have:=GF (f:=Ax) (B:=10000) (N:=8) (l:=w.Av) (by rw[h.bc];exact(Ff h.cfg).2.1) fun s hs=>(h.S1 hs).w
  omega
 ww:=by
  have:=GF (f:=A4) (B:=3000) h.bl fun x hx=>(h.AJ x hx).1.w
  omega
 jh:=h.bl
 jJ:=h.bc
 Pq:=E9 h.lost
section
variable{w:AA} (h:LD w)
include h
theorem LD.fb{a:Int}(ha:BX a 0 ((w.AJ.length:Int)-1)=true):(0≤a∧a<(w.2.2.2.2.2.2.1.length:Int))∧Uu (Ae w) (w.AJ.getD a.toNat CL)∧Af Bf (w.AJ.getD a.toNat CL).2.1≤3000:=by
 have:=Aw.1 ha;have hi:a.toNat<w.AJ.length:=by omega
 have hx:=(h.AJ _ (Bg (d:=CL) hi)).1;refine⟨?_,hx,hx.w⟩
 (try simp only[H.AA.Av,H.AA.lost,H.AA.A6,H.AA.trim,H.AA.AJ,H.AA.Bp,H.AA.Ai,H.AA.Bk,H.AA.Fp,H.AA.BZ,H.AA.C7,H.AA.Ew,H.AA.A5,H.AA.Bn,H.AA.Br,H.AA.B8,H.AA.DM,CK,Ae]at*)
 omega
theorem HK{e:Int}:(Bj (CK w).1 e).length≤8:=by
 unfold Bj;split
 ·rename_i he
  have he':=Aw.1 he;exact E9 (MZ (h.ak.A6 _ (Bg (d:=Gg) (by omega))).1)
 ·simp
theorem X1{d:AR}:N7 w.2.1 w.2.2.2.2.2.1 w.2.2.2.2.2.2.2.2.2.2.1 d w.1 w.2.2.1 w.2.2.2.1 w.2.2.2.2.1 w.2.2.2.2.2.2.1 w.2.2.2.2.2.2.2.1 w.2.2.2.2.2.2.2.2.1 w.2.2.2.2.2.2.2.2.2.1=some (wR (Rk w d.2.1)):=by
 have k:=h.nums;have k1:=k.c;have k2:=k.wr;unfold N7 Rk;rw[EL];by_cases h4:w.2.2.2.2.2.2.1.length=4
 ·rw[AEA (by omega),AEA h4];rfl
 have hm:(A9 d.2.1).length≤8:=by
  unfold A9;split
  ·exact AFS (AF3 _ _) (by simp)
  ·simp
 rw[AEB (by omega),AEB h4,Ph];simp only[AF];rw[show(w.1,w.2.1,())=Ae w from rfl,show(w.2.2.2.2.1,w.2.2.2.2.2.1,())=CK w from rfl,YM (c:=Ae w) (r:=CK w) (by show w.1.length≤_;omega) (by have:=k.era;show Af CN w.2.2.2.2.1≤_;omega) k.trim (by omega)];simp only[AF,BL];rcases AD8 (Jr (Ae w) (CK w) (A9 d.2.1)).2.2 with hq|hq
 ·rw[hq,AEA (by rw[Ao];omega),LM];rfl
 ·rw[hq,RI];rfl
theorem W4{d:AR}:MQ w.2.1 w.2.2.2.2.2.1 w.2.2.2.2.2.2.2.2.2.2.1 d w.1 w.2.2.1 w.2.2.2.1 w.2.2.2.2.1 w.2.2.2.2.2.2.1 w.2.2.2.2.2.2.2.1 w.2.2.2.2.2.2.2.2.1 w.2.2.2.2.2.2.2.2.2.1=some (uq (OM w d.2.1 d.2.2.1 d.2.2.2.1)):=by
 have k:=h.nums;have k1:=k.c;have k2:=k.wr;have k3:=k.lost;have k4:=k.st;have X8:=k.jh;have jq:=k.Pq;have lZ:=k.jJ;have k5:=k.era;unfold MQ OM;rw[show(w.1,w.2.1,w.2.2.1,w.2.2.2.1,w.2.2.2.2.1,w.2.2.2.2.2.1,w.2.2.2.2.2.2.1,w.2.2.2.2.2.2.2.1,w.2.2.2.2.2.2.2.2.1,w.2.2.2.2.2.2.2.2.2.1,w.2.2.2.2.2.2.2.2.2.2.1,())=w from rfl,K3 (by omega),Ef (by omega) (by omega)];simp only[AF,BL,Em];rcases AD8 (BX d.2.1 0 ((w.AJ.length:Int)-1))with h1|h1
 rotate_left
 ·rw[h1,RI];rfl
 obtain⟨x1,x2,x3⟩:=h.fb h1;rw[h1,AEb,LM,AEA x1,An];simp only[AF]
 generalize hx:w.AJ.getD d.2.1.toNat CL=x at*
 rcases AD8 (BX d.2.2.1 1 (x.2.1.length:Int))with h2|h2
 rotate_left
 ·rw[h2,RI];rfl
 have q6:=Aw.1 h2;rw[h2,AEb,LM];by_cases h3:BJ w d.2.2.2.1=0
 rotate_left
 ·rw[AEB h3,AEA h3];rfl
 rw[AEA h3,AEB (show¬(BJ w d.2.2.2.1≠0)from fun hh=>hh h3)];obtain⟨n1,n2,n3⟩:=MS h3;have n2':d.2.2.2.1<(w.2.2.1.length:Int):=n2;have hxl:=x2.n;have hxe:=x2.ep;rw[show(w.2.2.2.2.1,w.2.2.2.2.2.1,())=CK w from rfl,Ci (r:=CK w) (by show Af CN w.2.2.2.2.1≤_;omega)];have RF:(Bj w.A6 x.1).length≤8:=HK h;have hr:0≤d.2.2.2.1∧d.2.2.2.1<(w.2.2.1.length:Int):=⟨n1,n2'⟩;rw[show(CK w).1=w.A6 from rfl];simp only[AF,AEA hr];rw[GM (by omega),AG (by omega) (by omega),AEA (by omega),Hl (by omega) (by omega)];simp only[AF];have bg:w.2.2.1.getD d.2.2.2.1.toNat ([],[],0,())=storeAt w d.2.2.2.1:=rfl;have hso:=h.store h3;have oO:=WB (e:=x.1) (o:=d.2.2.1) hxe (by omega);rw[bg,show((storeAt w d.2.2.2.1).1,(storeAt w d.2.2.2.1).2.1,(storeAt w d.2.2.2.1).2.2.1,())=storeAt w d.2.2.2.1 from rfl,Qt (by have:=hso.w;omega) hso.sin (IL oO.1)];simp only[AF,jO,putAt];rcases AD8 ((Bj w.A6 x.1).contains d.2.2.2.1)with h5|h5
 rotate_left
 ·rw[h5,RI];rfl
 rw[h5,LM,AEb];have hwd:(x.2.1.getD (d.2.2.1-1).toNat ([],[],false,()))=x.2.1.getD (d.2.2.1-1).toNat Of:=rfl;rw[hwd];rcases AD8 (Jd (storeAt w d.2.2.2.1) (Lu x.1 d.2.2.1,0,false,(x.2.1.getD (d.2.2.1-1).toNat Of).1,())).2 with h6|h6
 rotate_left
 ·rw[h6];rfl
 rw[h6,AEb,AEA rfl];rfl
end
end Go.M
end
section
set_option maxRecDepth 8000
namespace Go.M
open Go.M.H (AH AN A7 A3 AA Co AK BQ AQ Aj BO A_ AR Ax Ce Af AW Ac Az CN Bf A4 Bq Ek Cp C1 Dm)
theorem ca{α:Type}{f:α→Nat}{p:α→Bool}:∀{l:List α},Af f (l.filter p)≤Af f l
 |[]=>AE7 _
 |x::l=>by
  have:=ca (f:=f) (p:=p) (l:=l);grind[Af]
theorem ng{s:AN}{u:Int}(hs:VU s):VU (CE s u).1:=by
 rcases AD8 (CE s u).2 with hq|hq
 ·exact(VP hq).2.1
 ·have:(CE s u).1=s:=by
   unfold CE at*;rw[GJ.2 hs]at*;grind
  simp_all
section
variable{w:AA} (h:LD w)
include h
theorem LD.Kr{n:Int}(hn:BJ w n=0):(0≤n∧n<(w.2.2.1.length:Int))∧Ax (storeAt w n)≤2^30∧lh (storeAt w n)∧VU (storeAt w n):=by
 obtain⟨n1,n2,n3⟩:=MS hn;have:=(h.store hn).w;exact⟨⟨n1,n2⟩,by omega,(h.store hn).sin,h.store hn⟩
theorem XG{d:AR}:MY w.2.1 w.2.2.2.2.2.1 w.2.2.2.2.2.2.2.2.2.2.1 d w.1 w.2.2.1 w.2.2.2.1 w.2.2.2.2.1 w.2.2.2.2.2.2.1 w.2.2.2.2.2.2.2.1 w.2.2.2.2.2.2.2.2.1 w.2.2.2.2.2.2.2.2.2.1=some (uq (if d.1=16 then Nl w d.2.1 else N5 w d.2.1 d.2.2.1)):=by
 have k:=h.nums;have k1:=k.c;have k2:=k.wr;have k3:=k.lost;have k4:=k.st;have X8:=k.jh;have jq:=k.Pq;have lZ:=k.jJ;have k5:=k.era;unfold MY Nl N5;rw[show(w.1,w.2.1,w.2.2.1,w.2.2.2.1,w.2.2.2.2.1,w.2.2.2.2.2.1,w.2.2.2.2.2.2.1,w.2.2.2.2.2.2.2.1,w.2.2.2.2.2.2.2.2.1,w.2.2.2.2.2.2.2.2.2.1,w.2.2.2.2.2.2.2.2.2.2.1,())=w from rfl,Ef (by omega) (by omega)];simp only[AF,BL,Em,EL];by_cases h3:BJ w d.2.1=0
 rotate_left
 ·rw[AEB h3]
  by_cases h16:d.1=16
  ·rw[AEA h16,AEA h3];rfl
  ·rw[AEB h16,AEA h3];rfl
 obtain⟨hr,s1,s2,s3⟩:=h.Kr h3;have bg:w.2.2.1.getD d.2.1.toNat ([],[],0,())=storeAt w d.2.1:=rfl;have hn3: ¬(BJ w d.2.1≠0):=fun hh=>hh h3
 rw[AEA h3];simp only[AEA hr,bg,AEB hn3];rw[show((storeAt w d.2.1).1,(storeAt w d.2.1).2.1,(storeAt w d.2.1).2.2.1,())=storeAt w d.2.1 from rfl,Oq s1 s2,VW s1 s2 k.trim];simp only[AF,jO,putAt];by_cases h16:d.1=16
 ·rw[AEA h16,AEA h16]
  rcases AD8 (KG (storeAt w d.2.1) w.2.2.2.2.2.1).2 with h6|h6
  ·rw[h6];rfl
  ·rw[h6];rfl
 ·rw[AEB h16,AEB h16]
  rcases AD8 (HH (storeAt w d.2.1) d.2.2.1).2 with h6|h6
  ·rw[h6];rfl
  ·rw[h6];rfl
theorem YC{d:AR}:OA w.2.1 w.2.2.2.2.2.1 w.2.2.2.2.2.2.2.2.2.2.1 d w.1 w.2.2.1 w.2.2.2.1 w.2.2.2.2.1 w.2.2.2.2.2.2.1 w.2.2.2.2.2.2.2.1 w.2.2.2.2.2.2.2.2.1 w.2.2.2.2.2.2.2.2.2.1=some (eD (Ro w d.2.1)):=by
 have k:=h.nums;have k1:=k.c;have k2:=k.wr;have k3:=k.lost;have k4:=k.st;have X8:=k.jh;have jq:=k.Pq;have lZ:=k.jJ;have k5:=k.era;have k6:=k.ws;have k6':Af Ax w.Av≤80008:=k.ws;have k7:=k.rh;unfold OA Ro;rw[GM (by omega)];simp only[AF,BL];rcases AD8 (w.2.2.2.1.contains d.2.1)with h1|h1
 rotate_left
 ·rw[h1];rfl
 rw[h1,LM,AEb,AG (by omega) (by omega),Gd];simp only[AF];rw[show(w.1,w.2.1,())=Ae w from rfl,eI (c:=Ae w) (by show w.1.length≤_;omega) (by omega) (fun s hs=>by have:=(h.S1 hs).nk;omega) (by omega) (fun s hs=>(h.S1 hs).sin) (by omega)];simp only[AF,pkF];rcases AD8 (Xl (Ae w) w.2.2.1 w.2.2.2.1 d.2.1 (max ((w.2.2.2.2.1.length:Int)-1) 0)).2 with h2|h2
 rotate_left
 ·rw[h2];rfl
 have hm:d.2.1∈w.lost:=by
  simp_all
 have hn:=(GP.1 h.lost).2.1 d.2.1 hm;have hn':d.2.1<(w.1.length:Int):=hn.2;rw[h2,AEb,LM,AEA (show 0≤d.2.1∧d.2.1<(w.2.2.1.length:Int)from⟨hn.1,by omega⟩),Fe (by omega) (by simp)];rfl
theorem YB:N6 w.2.1 w.2.2.2.2.2.1 w.2.2.2.2.2.2.2.2.2.2.1 w.1 w.2.2.1 w.2.2.2.1 w.2.2.2.2.1 w.2.2.2.2.2.2.1 w.2.2.2.2.2.2.2.1 w.2.2.2.2.2.2.2.2.1 w.2.2.2.2.2.2.2.2.2.1=some (xL (Rr w)):=by
 have k:=h.nums;have k1:=k.c;have k2:=k.wr;have k3:=k.lost;have k4:=k.st;have X8:=k.jh;have jq:=k.Pq;have lZ:=k.jJ;have k5:=k.era;have k7:=k.rh;unfold N6 Rr;rw[show(w.2.2.2.2.1,w.2.2.2.2.2.1,())=CK w from rfl,H9 (r:=CK w) (by show w.2.2.2.2.1.length≤_;omega)];simp only[AF,EL,AE];rw[show(CK w).1=w.A6 from rfl];by_cases h1:(w.2.2.2.2.1.length:Int)<2
 ·rw[AEA h1,show(decide ((w.2.2.2.2.1.length:Int)<2)||decide (BF w.2.2.2.2.1=(w.2.2.2.2.1.length:Int)))=true by simp_all];rfl
 rw[AEB h1];by_cases h2:BF w.2.2.2.2.1=(w.2.2.2.2.1.length:Int)
 ·rw[AEA h2,show(decide ((w.2.2.2.2.1.length:Int)<2)||decide (BF w.2.2.2.2.1=(w.2.2.2.2.1.length:Int)))=true by simp_all];rfl
 rw[AEB h2,show(decide ((w.2.2.2.2.1.length:Int)<2)||decide (BF w.2.2.2.2.1=(w.2.2.2.2.1.length:Int)))=false by simp_all];rw[AEB (show¬(false=true)by simp)];by_cases h3:w.2.2.2.2.2.2.2.1.length>0
 ·rw[AEA (by omega),AEA h3];rfl
 ·rw[AEB (by omega),AEB h3];rfl
theorem X3{d:AR}:Nk w.2.1 w.2.2.2.2.2.1 w.2.2.2.2.2.2.2.2.2.2.1 d w.1 w.2.2.1 w.2.2.2.1 w.2.2.2.2.1 w.2.2.2.2.2.2.1 w.2.2.2.2.2.2.2.1 w.2.2.2.2.2.2.2.2.1 w.2.2.2.2.2.2.2.2.2.1=some (uq (RW w d.2.1)):=by
 have k:=h.nums;have k1:=k.c;have k2:=k.wr;have k3:=k.lost;have k4:=k.st;have X8:=k.jh;have jq:=k.Pq;have lZ:=k.jJ;have k5:=k.era;unfold Nk RW;rcases hm:w.Bp with _|⟨m,ms⟩
 ·rw[EL,AEA (by simp_all)];rfl
 have pt:w.2.2.2.2.2.2.2.1=m::ms:=hm;have gV:w.2.2.2.2.2.2.2.1.length=ms.length+1:=by simp_all
 have g0:w.2.2.2.2.2.2.2.1.getD 0 (0,0,[],[],false,[],())=m:=by simp_all
 have yN:(0:Int)≤(0:Int)∧(0:Int)<(w.2.2.2.2.2.2.2.1.length:Int):=by omega
 have ag:=(h.Bp m (by simp_all)).1;have hmw:=ag.w;have hme:=ag.ep;have hmb:=ag.b;simp only[EL,BL,Em,AEA yN,g0];rw[AEB (by omega)];rw[show(w.1,w.2.1,w.2.2.1,w.2.2.2.1,w.2.2.2.2.1,w.2.2.2.2.2.1,w.2.2.2.2.2.2.1,w.2.2.2.2.2.2.2.1,w.2.2.2.2.2.2.2.2.1,w.2.2.2.2.2.2.2.2.2.1,w.2.2.2.2.2.2.2.2.2.2.1,())=w from rfl,Ef (by omega) (by omega),show(w.2.2.2.2.1,w.2.2.2.2.2.1,())=CK w from rfl,Ci (r:=CK w) (by show Af CN w.2.2.2.2.1≤_;omega)];have RF:(Bj w.A6 m.2.1).length≤8:=HK h;rw[show(CK w).1=w.A6 from rfl];simp only[AF];rw[GM (by omega)];simp only[AF];by_cases h3:BJ w d.2.1=0
 rotate_left
 ·rw[AEB h3,AEA h3];rfl
 obtain⟨hr,s1,s2,s3⟩:=h.Kr h3;have bg:w.2.2.1.getD d.2.1.toNat ([],[],0,())=storeAt w d.2.1:=rfl;have hn3: ¬(BJ w d.2.1≠0):=fun hh=>hh h3
 rw[AEA h3,AEB hn3];simp only[AEA hr,bg];rcases AD8 ((Bj w.A6 m.2.1).contains d.2.1)with h5|h5
 rotate_left
 ·rw[h5,RI];rfl
 rw[h5,LM,AEb,AG (by omega) (by omega),show((storeAt w d.2.1).1,(storeAt w d.2.1).2.1,(storeAt w d.2.1).2.2.1,())=storeAt w d.2.1 from rfl,VH s1 s2];have hq:=ng (u:=m.1-1) s3;have hqw:=hq.w;simp only[AF,jO];rw[show((CE (storeAt w d.2.1) (m.1-1)).1.1,(CE (storeAt w d.2.1) (m.1-1)).1.2.1,(CE (storeAt w d.2.1) (m.1-1)).1.2.2.1,())=(CE (storeAt w d.2.1) (m.1-1)).1 from rfl,Ww (by omega) hq.sin];simp only[AF];have hes:(M0 (CE (storeAt w d.2.1) (m.1-1)).1 m.2.1).length≤200∧kQ (M0 (CE (storeAt w d.2.1) (m.1-1)).1 m.2.1)∧Af Az (M0 (CE (storeAt w d.2.1) (m.1-1)).1 m.2.1)≤10000:=by
  unfold M0;rw[GJ.2 hq,AEA rfl];refine⟨AFS (AF3 _ _) hq.nk,fun e he=>hq.sin.1 e (List.mem_filter.1 he).1,AFS ca ?_⟩;have:Ax (CE (storeAt w d.2.1) (m.1-1)).1=Af Az (CE (storeAt w d.2.1) (m.1-1)).1.1+Af Az (CE (storeAt w d.2.1) (m.1-1)).1.2.1:=rfl;omega
 rw[show(m.1,m.2.1,m.2.2.1,m.2.2.2.1,m.2.2.2.2.1,m.2.2.2.2.2.1,())=m from rfl,show(w.1,w.2.1,())=Ae w from rfl,Wy (c:=Ae w) (by show w.1.length≤_;omega) (by omega) ag.ein (by omega) hes.2.1 (by omega)];simp only[AF,gx];rcases AD8 (CE (storeAt w d.2.1) (m.1-1)).2 with h6|h6
 rotate_left
 ·rw[h6,AGP,Bool.true_or,AEA rfl];rfl
 rw[h6,AET,AGO];rcases AD8 (M7 (Ae w) m d.2.1 (M0 (CE (storeAt w d.2.1) (m.1-1)).1 m.2.1)).2 with h7|h7
 rotate_left
 ·rw[h7,RI];rfl
 rw[h7,LM,AEb,AEb,pt];rfl
theorem X9:Nq w.2.1 w.2.2.2.2.2.1 w.2.2.2.2.2.2.2.2.2.2.1 w.1 w.2.2.1 w.2.2.2.1 w.2.2.2.2.1 w.2.2.2.2.2.2.1 w.2.2.2.2.2.2.2.1 w.2.2.2.2.2.2.2.2.1 w.2.2.2.2.2.2.2.2.2.1=some (uq (Rb w)):=by
 have k:=h.nums;have k1:=k.c;have k2:=k.wr;have k3:=k.lost;have k4:=k.st;have X8:=k.jh;have jq:=k.Pq;have lZ:=k.jJ;have k5:=k.era;unfold Nq Rb;rcases hm:w.Bp with _|⟨m,ms⟩
 ·rw[EL,AEA (by simp_all)];rfl
 have pt:w.2.2.2.2.2.2.2.1=m::ms:=hm;have gV:w.2.2.2.2.2.2.2.1.length=ms.length+1:=by simp_all
 have g0:w.2.2.2.2.2.2.2.1.getD 0 (0,0,[],[],false,[],())=m:=by simp_all
 have yN:(0:Int)≤(0:Int)∧(0:Int)<(w.2.2.2.2.2.2.2.1.length:Int):=by omega
 have ag:=(h.Bp m (by simp_all)).1;have hmw:=ag.w;have hme:=ag.ep;have hmb:=ag.b;simp only[EL,BL,Em,AEA yN,g0];rw[AEB (by omega)];rw[show(w.2.2.2.2.1,w.2.2.2.2.2.1,())=CK w from rfl,Ci (r:=CK w) (by show Af CN w.2.2.2.2.1≤_;omega)];have RF:(Bj w.A6 m.2.1).length≤8:=HK h;rw[show(CK w).1=w.A6 from rfl];simp only[AF];rw[show(m.1,m.2.1,m.2.2.1,m.2.2.2.1,m.2.2.2.2.1,m.2.2.2.2.2.1,())=m from rfl,show(w.1,w.2.1,())=Ae w from rfl,WW (c:=Ae w) (by show w.1.length≤_;omega) (by omega) ag.ein (by omega)];simp only[AF,gx];rcases AD8 (M3 (Ae w) m (Bj w.A6 m.2.1)).2 with h7|h7
 rotate_left
 ·rw[h7,RI];rfl
 rw[h7,LM,AEb,pt];rfl
theorem aK{d:AR}:P2 w.2.1 w.2.2.2.2.2.1 w.2.2.2.2.2.2.2.2.2.2.1 d w.1 w.2.2.1 w.2.2.2.1 w.2.2.2.2.1 w.2.2.2.2.2.2.1 w.2.2.2.2.2.2.2.1 w.2.2.2.2.2.2.2.2.1 w.2.2.2.2.2.2.2.2.2.1=some (uq (V7 w d.2.2.1 d.2.2.2.1)):=by
 have k:=h.nums;have k1:=k.c;have k2:=k.wr;have k3:=k.lost;have k4:=k.st;have X8:=k.jh;have jq:=k.Pq;have lZ:=k.jJ;have k5:=k.era;unfold P2 V7;rcases hm:w.Bp with _|⟨m,ms⟩
 ·rw[EL,AEA (by simp_all)];rfl
 have pt:w.2.2.2.2.2.2.2.1=m::ms:=hm;have gV:w.2.2.2.2.2.2.2.1.length=ms.length+1:=by simp_all
 have g0:w.2.2.2.2.2.2.2.1.getD 0 (0,0,[],[],false,[],())=m:=by simp_all
 have yN:(0:Int)≤(0:Int)∧(0:Int)<(w.2.2.2.2.2.2.2.1.length:Int):=by omega
 have ag:=(h.Bp m (by simp_all)).1;have hmw:=ag.w;have hme:=ag.ep;have hmb:=ag.b;simp only[EL,BL,Em,AEA yN,g0];rw[AEB (by omega)];rw[show(m.1,m.2.1,m.2.2.1,m.2.2.2.1,m.2.2.2.2.1,m.2.2.2.2.2.1,())=m from rfl,Pt (m:=m) (by omega),show(w.1,w.2.1,w.2.2.1,w.2.2.2.1,w.2.2.2.2.1,w.2.2.2.2.2.1,w.2.2.2.2.2.2.1,w.2.2.2.2.2.2.2.1,w.2.2.2.2.2.2.2.2.1,w.2.2.2.2.2.2.2.2.2.1,w.2.2.2.2.2.2.2.2.2.2.1,())=w from rfl,Ef (by omega) (by omega),show(w.2.2.2.2.1,w.2.2.2.2.2.1,())=CK w from rfl,Ci (r:=CK w) (by show Af CN w.2.2.2.2.1≤_;omega)];have RF:(Bj w.A6 m.2.1).length≤8:=HK h;rw[show(CK w).1=w.A6 from rfl];simp only[AF];rw[GM (by omega)];simp only[AF];have RE:∀e,FL m d.2.2.1=some e→BB e.1:=fun e he=>by
  unfold FL at he;split at he
  ·rename_i hc
   simp only[AEF,Aw]at hc;grind[WB,IL]
  simp_all
 cases he:FL m d.2.2.1 with
 |none=>rfl
 |some e=>
 simp only[AGF,AEb,AGC];by_cases h3:BJ w d.2.2.2.1=0
 rotate_left
 ·rw[AEB h3,AEA h3];rfl
 obtain⟨hr,s1,s2,s3⟩:=h.Kr h3;have bg:w.2.2.1.getD d.2.2.2.1.toNat ([],[],0,())=storeAt w d.2.2.2.1:=rfl;have hn3: ¬(BJ w d.2.2.2.1≠0):=fun hh=>hh h3
 rw[AEA h3,AEB hn3];simp only[AEA hr,bg];rcases AD8 ((Bj w.A6 m.2.1).contains d.2.2.2.1)with h5|h5
 rotate_left
 ·rw[h5,RI];rfl
 rw[h5,LM,AEb,show((storeAt w d.2.2.2.1).1,(storeAt w d.2.2.2.1).2.1,(storeAt w d.2.2.2.1).2.2.1,())=storeAt w d.2.2.2.1 from rfl,show(e.1,e.2.1,e.2.2.1,e.2.2.2.1,())=e from rfl,Qt s1 s2 (RE e he)];simp only[AF,jO,putAt];rcases AD8 (Jd (storeAt w d.2.2.2.1) e).2 with h6|h6
 ·rw[h6];rfl
 ·rw[h6];rfl
theorem Wh:MG w.2.1 w.2.2.2.2.2.1 w.2.2.2.2.2.2.2.2.2.2.1 w.1 w.2.2.1 w.2.2.2.1 w.2.2.2.2.1 w.2.2.2.2.2.2.1 w.2.2.2.2.2.2.2.1 w.2.2.2.2.2.2.2.2.1 w.2.2.2.2.2.2.2.2.2.1=some (o_ (Nt w)):=by
 have k:=h.nums;have k1:=k.c;have k2:=k.wr;have k3:=k.lost;have k4:=k.st;have X8:=k.jh;have jq:=k.Pq;have lZ:=k.jJ;have k5:=k.era;unfold MG Nt;rcases hm:w.Bp with _|⟨m,ms⟩
 ·rw[EL,AEA (by simp_all)];rfl
 have pt:w.2.2.2.2.2.2.2.1=m::ms:=hm;have gV:w.2.2.2.2.2.2.2.1.length=ms.length+1:=by simp_all
 have g0:w.2.2.2.2.2.2.2.1.getD 0 (0,0,[],[],false,[],())=m:=by simp_all
 have yN:(0:Int)≤(0:Int)∧(0:Int)<(w.2.2.2.2.2.2.2.1.length:Int):=by omega
 have ag:=(h.Bp m (by simp_all)).1;have hmw:=ag.w;have hme:=ag.ep;have hmb:=ag.b;simp only[EL,BL,Em,AEA yN,g0];rw[AEB (by omega)];rw[show(m.1,m.2.1,m.2.2.1,m.2.2.2.1,m.2.2.2.2.1,m.2.2.2.2.2.1,())=m from rfl,show(w.1,w.2.1,())=Ae w from rfl,Vb (c:=Ae w) (by show w.1.length≤_;omega) (by omega) ag.ein];simp only[AF];rcases AD8 (Tl (Ae w) m)with h5|h5
 rotate_left
 ·rw[h5,RI];rfl
 rw[h5,LM,AEb,show(w.2.2.2.2.1,w.2.2.2.2.2.1,())=CK w from rfl,Wv (c:=Ae w) (r:=CK w) (by show w.1.length≤_;omega) (by show Af CN w.2.2.2.2.1≤_;omega) k.trim];simp only[AF,pkR];rcases AD8 (My (Ae w) (CK w) m.1 m.2.2.2.2.2.1.length).2 with h6|h6
 ·rw[h6];rfl
 ·rw[h6];rfl
theorem Xq{d:AR}:OG w.2.1 w.2.2.2.2.2.1 w.2.2.2.2.2.2.2.2.2.2.1 d w.1 w.2.2.1 w.2.2.2.1 w.2.2.2.2.1 w.2.2.2.2.2.2.1 w.2.2.2.2.2.2.2.1 w.2.2.2.2.2.2.2.2.1 w.2.2.2.2.2.2.2.2.2.1=some (uq (NL w d.2.1 d.2.2.1)):=by
 have k:=h.nums;have k1:=k.c;have k2:=k.wr;have k3:=k.lost;have k4:=k.st;have X8:=k.jh;have jq:=k.Pq;have lZ:=k.jJ;have k5:=k.era;have k6:=k.ws;have k6':Af Ax w.Av≤80008:=k.ws;have k7:=k.ww;have k8:=k.rd;unfold OG NL;rw[An];simp only[AF,BL,Em];rcases AD8 (BX d.2.1 0 1)with h1|h1
 rotate_left
 ·rw[h1];rfl
 have sF:=Aw.1 h1;have hr:0≤d.2.1∧d.2.1<(w.2.2.2.2.2.2.2.2.1.length:Int):=by omega
 have Er:d.2.1.toNat<w.Ai.length:=by
  simp_all
 have PS:=h.Ai _ (Bg (d:=H6) Er);simp only[AEA hr];rw[h1,LM,AEb,show(w.1,w.2.1,w.2.2.1,w.2.2.2.1,w.2.2.2.2.1,w.2.2.2.2.2.1,w.2.2.2.2.2.2.1,w.2.2.2.2.2.2.2.1,w.2.2.2.2.2.2.2.2.1,w.2.2.2.2.2.2.2.2.2.1,w.2.2.2.2.2.2.2.2.2.2.1,())=w from rfl]
 generalize hx:w.Ai.getD d.2.1.toNat H6=r at*
 have hre:=PS.ep;have hro:=PS.off;rw[aD (by grind),show(r.1,r.2.1,r.2.2.1,())=r from rfl,U6 (by omega) (by omega) (by omega) (by omega)];simp only[AF];have ha:∀a∈answers w (Lu r.1 r.2.1) (A9 d.2.2.1),BB a.2.2.1:=fun a ha=>by
  unfold answers at ha;obtain⟨n,hn,rfl⟩:=AGa.1 ha;have hn':BJ w n=0:=by simp_all
  unfold answer;split
  ·rename_i e he
   have:=(h.store hn').kept e (List.mem_of_find?_eq_some he);exact IL (GL.1 this).pl
  ·exact⟨by simp_all,by simp_all⟩
 have jC:(answers w (Lu r.1 r.2.1) (A9 d.2.2.1)).length≤8:=by
  unfold answers;rw[AGc];refine AFS (AF3 _ _) ?_
  unfold A9;split
  ·exact AFS (AF3 _ _) (by simp)
  ·simp
 rw[show(w.1,w.2.1,())=Ae w from rfl,show(w.2.2.2.2.1,w.2.2.2.2.2.1,())=CK w from rfl,Ui (c:=Ae w) (g:=CK w) (by show w.1.length≤_;omega) (by show Af CN w.2.2.2.2.1≤_;omega) k.trim (by omega) ha];simp only[AF,zh];by_cases h2:(D1 (Ae w) (CK w) (gl w r.1) r (answers w (Lu r.1 r.2.1) (A9 d.2.2.1))).2=0
 ·rw[AEA h2,AEB (fun hh=>hh h2)];rfl
 ·rw[AEB h2,AEA h2];rfl
end
end Go.M
end
section
set_option maxRecDepth 8000
namespace Go.M
open Go.M.H (AH AN A7 A3 AA Co AK BQ AQ Aj BO A_ AR Ax Ce Af AW Ac Az CN Bf A4 Bq Ek Cp C1 Dm)
section
variable{w:AA} (h:LD w)
include h
theorem yl{ws:List AQ}{s:A3}:∀(n i:Nat) (t:Bool) (b:List A3),i≤w.2.2.2.2.2.2.2.2.2.1.length→w.2.2.2.2.2.2.2.2.2.1.length-i<n→b.length≤2*i+2→
  GA n t i w.1 w.2.2.1 w.2.2.2.1 w.2.2.2.2.1 ws w.2.2.2.2.2.2.2.1 w.2.2.2.2.2.2.2.2.1 w.2.2.2.2.2.2.2.2.2.1 w.2.1 w.2.2.2.2.2.1 w.2.2.2.2.2.2.2.2.2.2.1 0 0 false [] [] [] [] [] [] [] [] s.1 s.2.1 s.2.2.1 b=some (nL (((w.A5 ws).B8 (b++(if t then w.2.2.2.2.2.2.2.2.2.1.drop i else XE s (w.2.2.2.2.2.2.2.2.2.1.drop i)))),0)):=by
 have k6:=h.nums.se;intro n
 induction n with
 |zero=>omega
 |succ n ih=>
  intro i t b hi hn hb;simp only[GA,PD,AE,BL];have c2:b.length+1≤Cg:=by rw[Ao];omega
  by_cases Dg:i<w.2.2.2.2.2.2.2.2.2.1.length
  ·have c1:(0:Int)≤(i:Int)∧(i:Int)<(w.2.2.2.2.2.2.2.2.2.1.length:Int):=by omega
   have c3:(b++[(s.1,s.2.1,s.2.2.1,())]).length+1≤Cg:=by grind[Ao]
   rw[AEA c1.2];simp only[AEA c1,AEA c2,AEA c3];rw[BC Dg,AG (by omega) (by omega),show((i:Int)+1)=((i+1:Nat):Int)by omega,drop_cons Dg,show(w.2.2.2.2.2.2.2.2.2.1[i].1,w.2.2.2.2.2.2.2.2.2.1[i].2.1,w.2.2.2.2.2.2.2.2.2.1[i].2.2.1,())=w.2.2.2.2.2.2.2.2.2.1[i]from rfl];cases t with
   |true=>
    rw[AEb,ih (i+1) true _ (by omega) (by omega) (by grind),AEA rfl,AEA rfl,AEE];rfl
   |false=>
    rw[AEL,AEB (show¬(false=true)by simp)];simp only[XE];by_cases hg:w.2.2.2.2.2.2.2.2.2.1[i].1>s.1
    ·rw[AEA hg,AEA hg,ih (i+1) true _ (by omega) (by omega) (by grind),AEA rfl,AEE,AEE]
     rfl
    ·rw[AEB hg,AEB hg,ih (i+1) false _ (by omega) (by omega) (by grind),AEB (show¬(false=true)by simp),AEE]
     rfl
  ·rw[AEB (by omega),AEU (by omega)]
   cases t with
   |true=>rw[AEb,AEA rfl,AEX];rfl
   |false=>rw[AEL,AEA c2];rfl
theorem ABZ{ws:List AQ}{s:A3}:∀(n i:Nat),i≤w.2.2.2.2.2.2.2.2.2.1.length→(w.2.2.2.2.2.2.2.2.2.1.length-i)+w.2.2.2.2.2.2.2.2.2.1.length+2≤n→
  Gz n i w.1 w.2.2.1 w.2.2.2.1 w.2.2.2.2.1 ws w.2.2.2.2.2.2.2.1 w.2.2.2.2.2.2.2.2.1 w.2.2.2.2.2.2.2.2.2.1 w.2.1 w.2.2.2.2.2.1 w.2.2.2.2.2.2.2.2.2.2.1 0 0 false [] [] [] [] [] [] [] [] s.1 s.2.1 s.2.2.1=some (nL (if(w.2.2.2.2.2.2.2.2.2.1.drop i).any (fun x=>x.1==s.1)then(w.A5 ws,4)else(((w.A5 ws).B8 (XE s w.2.2.2.2.2.2.2.2.2.1)),0))):=by
 have k6:=h.nums.se;intro n
 induction n with
 |zero=>omega
 |succ n ih=>
  intro i hi hn;simp only[Gz,P6,AE,EL];by_cases Dg:i<w.2.2.2.2.2.2.2.2.2.1.length
  ·have c1:(0:Int)≤(i:Int)∧(i:Int)<(w.2.2.2.2.2.2.2.2.2.1.length:Int):=by omega
   rw[AEA c1.2,AEA c1,BC Dg,AG (by omega) (by omega),show((i:Int)+1)=((i+1:Nat):Int)by omega,drop_cons Dg,ih (i+1) (by omega) (by omega),List.any_cons];by_cases he:w.2.2.2.2.2.2.2.2.2.1[i].1=s.1
   ·rw[AEA he,show(w.2.2.2.2.2.2.2.2.2.1[i].1==s.1)=true by simp_all,Bool.true_or,AEA rfl]
    rfl
   ·rw[AEB he,show(w.2.2.2.2.2.2.2.2.2.1[i].1==s.1)=false by simp_all,AGO]
  ·have:=yl h (ws:=ws) (s:=s) n 0 false [] (by omega) (by omega) (by simp)
   grind
theorem Zu{d:AR}(hd:d.2.2.2.2.1.length≤40):∃w',Pb w.2.1 w.2.2.2.2.2.1 w.2.2.2.2.2.2.2.2.2.2.1 d w.1 w.2.2.1 w.2.2.2.1 w.2.2.2.2.1 w.2.2.2.2.2.2.1 w.2.2.2.2.2.2.2.1 w.2.2.2.2.2.2.2.2.1 w.2.2.2.2.2.2.2.2.2.1=some (nL (w',(doAdd w d.2.1 d.2.2.2.2.1).2))∧((doAdd w d.2.1 d.2.2.2.2.1).2=0→w' =(doAdd w d.2.1 d.2.2.2.2.1).1):=by
 have k:=h.nums;have k1:=k.c;have k2:=k.wr;have k3:=k.lost;have k4:=k.st;have X8:=k.jh;have jq:=k.Pq;have lZ:=k.jJ;have k5:=k.era;unfold Pb Pu doAdd;rw[show(w.1,w.2.1,w.2.2.1,w.2.2.2.1,w.2.2.2.2.1,w.2.2.2.2.2.1,w.2.2.2.2.2.2.1,w.2.2.2.2.2.2.2.1,w.2.2.2.2.2.2.2.2.1,w.2.2.2.2.2.2.2.2.2.1,w.2.2.2.2.2.2.2.2.2.2.1,())=w from rfl,K3 (by omega)];simp only[AF,BL,EL];rcases AD8 (BX d.2.1 0 ((w.AJ.length:Int)-1))with h1|h1
 rotate_left
 ·rw[h1];exact⟨w,rfl,fun _=>rfl⟩
 obtain⟨x1,x2,x3⟩:=h.fb h1;simp only[h1,AEb,LM,AEA x1]
 generalize hx:w.AJ.getD d.2.1.toNat CL=x at*
 rw[show(x.1,x.2.1,())=x from rfl,show(w.1,w.2.1,())=Ae w from rfl,Vq (c:=Ae w) (w:=x) (by show w.1.length≤_;omega) (by omega) (by omega)];simp only[AF];rcases AD8 (Fu (Ae w) x d.2.2.2.2.1).2.2 with h2|h2
 rotate_left
 ·rw[h2];exact⟨w,rfl,fun _=>rfl⟩
 obtain⟨_,r1,r2,r3⟩:=Vl h2;rw[r2]at r1;have jW:=r1.n;simp only[AEM,AEI,AEc]at jW;have hxe:=x2.ep;rw[h2,AEb,r3,r2];rw[Hl (by omega) (by omega)];simp only[AF,AET,AGO];by_cases h3:w.2.2.2.2.2.2.2.2.2.1.length=120
 ·rw[AEA (by omega),show decide (w.Bk.length=120)=true from AFM h3,Bool.true_or,AEA rfl];exact⟨w,rfl,fun hh=>by rfl⟩
 have:=ABZ h (ws:=w.AJ.set d.2.1.toNat (x.1,x.2.1++[(d.2.2.2.2.1,[],false,())],())) (s:=(Lu x.1 ((x.2.1.length:Int)+1),d.2.2.2.2.1,false,())) Ar 0 (by omega) (AGz (A0 (by have:=h.nums.se;omega)));grind
end
end Go.M
end
section
set_option maxRecDepth 8000
namespace Go.M
open Go.M.H (AH AN A7 A3 AA Co AK BQ AQ Aj BO A_ AR Ax Ce Af AW Ac Az CN Bf A4 Bq Ek Cp C1 Dm)
section
variable{w:AA} (h:LD w)
include h
theorem zy{d:AR}{a:Nat}(ha:d.2.1=(a:Int)):∀(n i:Nat) (b:List AQ),i≤w.2.2.2.2.2.2.1.length→w.2.2.2.2.2.2.1.length-i<n→b.length≤i→
  Hi n i w.1 w.2.2.1 w.2.2.2.1 w.2.2.2.2.1 w.2.2.2.2.2.2.1 w.2.2.2.2.2.2.2.1 w.2.2.2.2.2.2.2.2.1 w.2.2.2.2.2.2.2.2.2.1 w.2.1 w.2.2.2.2.2.1 w.2.2.2.2.2.2.2.2.2.2.1 d.1 d.2.1 d.2.2.1 d.2.2.2.1 d.2.2.2.2.1 0 0 false [] [] [] [] [] [] [] [] b=some (mU (w.A5 (b++(if i≤a then(w.2.2.2.2.2.2.1.drop i).eraseIdx (a-i)else w.2.2.2.2.2.2.1.drop i)),0)):=by
 have k6:=h.nums.wr;intro n
 induction n with
 |zero=>omega
 |succ n ih=>
  intro i b hi hn hb;simp only[Hi,Oc,AE,Em];by_cases Dg:i<w.2.2.2.2.2.2.1.length
  ·have c1:(0:Int)≤(i:Int)∧(i:Int)<(w.2.2.2.2.2.2.1.length:Int):=by omega
   have c2:b.length+1≤Cg:=by rw[Ao];omega
   rw[AEA c1.2];simp only[AEA c1,AEA c2];rw[BC Dg,AG (by omega) (by omega),show((i:Int)+1)=((i+1:Nat):Int)by omega,drop_cons Dg,show(w.2.2.2.2.2.2.1[i].1,w.2.2.2.2.2.2.1[i].2.1,())=w.2.2.2.2.2.2.1[i]from rfl];by_cases he:(i:Int)=d.2.1
   ·rw[AEA he,ih (i+1) b (by omega) (by omega) (by omega),AEB (by omega),AEA (by omega),show a-i=0 by omega]
    rfl
   ·rw[AEB he,ih (i+1) _ (by omega) (by omega) (by simp_all),AEE]
    by_cases hl:i+1≤a
    ·rw[AEA hl,AEA (by omega),show a-i=(a-(i+1))+1 by omega,List.eraseIdx_cons_succ]
     rfl
    ·rw[AEB hl,AEB (by omega)]
     rfl
  ·rw[AEB (by omega),AEU (by omega)]
   have:(if i≤a then([]:List AQ).eraseIdx (a-i)else[])=[]:=by simp_all
   rw[this,AEX];rfl
theorem Xy{d:AR}:OE w.2.1 w.2.2.2.2.2.1 w.2.2.2.2.2.2.2.2.2.2.1 d w.1 w.2.2.1 w.2.2.2.1 w.2.2.2.2.1 w.2.2.2.2.2.2.1 w.2.2.2.2.2.2.2.1 w.2.2.2.2.2.2.2.2.1 w.2.2.2.2.2.2.2.2.2.1=some (mU (RT w d.2.1)):=by
 have k:=h.nums;have k1:=k.c;have k2:=k.wr;have k3:=k.lost;have k4:=k.st;have X8:=k.jh;have jq:=k.Pq;have lZ:=k.jJ;have k5:=k.era;unfold OE OY RT;rw[show(w.1,w.2.1,w.2.2.1,w.2.2.2.1,w.2.2.2.2.1,w.2.2.2.2.2.1,w.2.2.2.2.2.2.1,w.2.2.2.2.2.2.2.1,w.2.2.2.2.2.2.2.2.1,w.2.2.2.2.2.2.2.2.2.1,w.2.2.2.2.2.2.2.2.2.2.1,())=w from rfl,K3 (by omega)];simp only[AF,BL];rcases AD8 (BX d.2.1 0 ((w.AJ.length:Int)-1))with h1|h1
 rotate_left
 ·rw[h1];rfl
 have sF:=Aw.1 h1;have:=zy h (d:=d) (a:=d.2.1.toNat) (by omega) Ar 0 [] (by omega) (A0 (by omega)) (by simp);simp_all
theorem pB{d:AR}{ss:List AN}{ls:AAQ}{ws:List AQ}(hls:ls.length≤2^20):∀(n i:Nat),i≤w.2.2.2.2.2.2.2.1.length→w.2.2.2.2.2.2.2.1.length-i<n→
  FC n i w.1 ss w.2.2.2.1 w.2.2.2.2.1 ws ((w.2.2.2.2.2.2.2.1.map fun m=>(Cq (Ae w) m d.2.1).1).take i++w.2.2.2.2.2.2.2.1.drop i) w.2.2.2.2.2.2.2.2.1 w.2.2.2.2.2.2.2.2.2.1 w.2.1 w.2.2.2.2.2.1 w.2.2.2.2.2.2.2.2.2.2.1 ls d.1 d.2.1 d.2.2.1 d.2.2.2.1 d.2.2.2.2.1 0 0 false [] [] [] [] [] [] [] []=some (eD (((((w.BZ ss).C7 ls).A5 ws).Bn (w.2.2.2.2.2.2.2.1.map fun m=>(Cq (Ae w) m d.2.1).1)).DM (w.Fp||holds (Ae w) ls),0)):=by
 have k:=h.nums;have k1:=k.c;have k6:=k.md;intro n
 induction n with
 |zero=>omega
 |succ n ih=>
  intro i hi hn;simp only[FC,Nd,AE,BL];rw[Pv hi];by_cases Dg:i<w.2.2.2.2.2.2.2.1.length
  ·have c1:(0:Int)≤(i:Int)∧(i:Int)<(w.2.2.2.2.2.2.2.1.length:Int):=by omega
   have hm:=(h.Bp _ (AEa Dg)).1;have hmw:=hm.w;rw[AEA c1.2];simp only[AEA c1];rw[AEq,PK Dg,AG (by omega) (by omega),show((i:Int)+1)=((i+1:Nat):Int)by omega,show(w.2.2.2.2.2.2.2.1[i].1,w.2.2.2.2.2.2.2.1[i].2.1,w.2.2.2.2.2.2.2.1[i].2.2.1,w.2.2.2.2.2.2.2.1[i].2.2.2.1,w.2.2.2.2.2.2.2.1[i].2.2.2.2.1,w.2.2.2.2.2.2.2.1[i].2.2.2.2.2.1,())=w.2.2.2.2.2.2.2.1[i]from rfl,show(w.1,w.2.1,())=Ae w from rfl,Ul (c:=Ae w) (by show w.1.length≤_;omega) (by omega) hm.ein];simp only[AF,gx];rw[show((Cq (Ae w) w.2.2.2.2.2.2.2.1[i] d.2.1).1.1,(Cq (Ae w) w.2.2.2.2.2.2.2.1[i] d.2.1).1.2.1,(Cq (Ae w) w.2.2.2.2.2.2.2.1[i] d.2.1).1.2.2.1,(Cq (Ae w) w.2.2.2.2.2.2.2.1[i] d.2.1).1.2.2.2.1,(Cq (Ae w) w.2.2.2.2.2.2.2.1[i] d.2.1).1.2.2.2.2.1,(Cq (Ae w) w.2.2.2.2.2.2.2.1[i] d.2.1).1.2.2.2.2.2.1,())=(Cq (Ae w) w.2.2.2.2.2.2.2.1[i] d.2.1).1 from rfl,Rl Dg rfl];grind
  ·have:i=w.2.2.2.2.2.2.2.1.length:=by omega
   rw[AEB (by omega),this,List.drop_length,AEX,AF7 (by simp),show(w.1,w.2.1,())=Ae w from rfl,Cf (by show w.1.length≤_;omega) (by omega)];simp only[AF];cases ht:w.2.2.2.2.2.2.2.2.2.2.1 with
   |true=>
    have ht':w.Fp=true:=ht;rw[ht'];rfl
   |false=>
    have ht':w.Fp=false:=ht;rw[ht'];rfl
theorem yy{d:AR}{ss:List AN}{ls:AAQ}(hls:ls.length≤2^20):∀(n i:Nat),i≤w.2.2.2.2.2.2.1.length→(w.2.2.2.2.2.2.1.length-i)+w.2.2.2.2.2.2.2.1.length+2≤n→
  F7 n i w.1 ss w.2.2.2.1 w.2.2.2.2.1 ((w.2.2.2.2.2.2.1.map fun x=>(Cm (Ae w) x d.2.1).1).take i++w.2.2.2.2.2.2.1.drop i) w.2.2.2.2.2.2.2.1 w.2.2.2.2.2.2.2.2.1 w.2.2.2.2.2.2.2.2.2.1 w.2.1 w.2.2.2.2.2.1 w.2.2.2.2.2.2.2.2.2.2.1 ls d.1 d.2.1 d.2.2.1 d.2.2.2.1 d.2.2.2.2.1 0 0 false [] [] [] [] [] [] [] []=some (eD (((((w.BZ ss).C7 ls).A5 (w.2.2.2.2.2.2.1.map fun x=>(Cm (Ae w) x d.2.1).1)).Bn (w.2.2.2.2.2.2.2.1.map fun m=>(Cq (Ae w) m d.2.1).1)).DM (w.Fp||holds (Ae w) ls),0)):=by
 have k:=h.nums;have k1:=k.c;have k6:=k.wr;intro n
 induction n with
 |zero=>omega
 |succ n ih=>
  intro i hi hn;simp only[F7,O4,AE,BL];rw[Pv hi];by_cases Dg:i<w.2.2.2.2.2.2.1.length
  ·have c1:(0:Int)≤(i:Int)∧(i:Int)<(w.2.2.2.2.2.2.1.length:Int):=by omega
   have hm:=(h.AJ _ (AEa Dg)).1;have hmw:=hm.w;rw[AEA c1.2];simp only[AEA c1];rw[AEq,PK Dg,AG (by omega) (by omega),show((i:Int)+1)=((i+1:Nat):Int)by omega,show(w.2.2.2.2.2.2.1[i].1,w.2.2.2.2.2.2.1[i].2.1,())=w.2.2.2.2.2.2.1[i]from rfl,show(w.1,w.2.1,())=Ae w from rfl,Si (c:=Ae w) (by show w.1.length≤_;omega) (by have:A4 w.2.2.2.2.2.2.1[i]=Af Bf w.2.2.2.2.2.2.1[i].2.1:=rfl;omega)];simp only[AF,pkW];rw[show((Cm (Ae w) w.2.2.2.2.2.2.1[i] d.2.1).1.1,(Cm (Ae w) w.2.2.2.2.2.2.1[i] d.2.1).1.2.1,())=(Cm (Ae w) w.2.2.2.2.2.2.1[i] d.2.1).1 from rfl,Rl Dg rfl];grind
  ·have:i=w.2.2.2.2.2.2.1.length:=by omega
   have vZ:=pB h (d:=d) (ss:=ss) (ws:=w.2.2.2.2.2.2.1.map fun x=>(Cm (Ae w) x d.2.1).1) hls n 0 (by omega) (by omega);rw[show((0:Nat):Int)=0 from rfl,AGH,List.take_zero,AFa]at vZ;rw[AEB (by omega),this,List.drop_length,AEX,AF7 (by simp),vZ]
theorem Xv{d:AR}:OD w.2.1 w.2.2.2.2.2.1 w.2.2.2.2.2.2.2.2.2.2.1 d w.1 w.2.2.1 w.2.2.2.1 w.2.2.2.2.1 w.2.2.2.2.2.2.1 w.2.2.2.2.2.2.2.1 w.2.2.2.2.2.2.2.2.1 w.2.2.2.2.2.2.2.2.2.1=some (eD (Rv w d.2.1)):=by
 have k:=h.nums;have k1:=k.c;have k2:=k.wr;have k3:=k.lost;have k4:=k.st;have X8:=k.jh;have jq:=k.Pq;have lZ:=k.jJ;have k5:=k.era;have k6:=k.md;unfold OD O3 Rv;rw[show(w.1,w.2.1,w.2.2.1,w.2.2.2.1,w.2.2.2.2.1,w.2.2.2.2.2.1,w.2.2.2.2.2.2.1,w.2.2.2.2.2.2.2.1,w.2.2.2.2.2.2.2.2.1,w.2.2.2.2.2.2.2.2.2.1,w.2.2.2.2.2.2.2.2.2.2.1,())=w from rfl,Ef (by omega) (by omega)];simp only[AF,Em];by_cases h3:BJ w d.2.1=0
 rotate_left
 ·rw[AEB h3,AEA h3];rfl
 obtain⟨hr,s1,s2,s3⟩:=h.Kr h3;rw[AEA h3,AEB (show¬(BJ w d.2.1≠0)from fun hh=>hh h3),AEA hr,Hp (by omega)];simp only[AF];have hp:=TA (n:=d.2.1) (l:=w.2.2.2.1);have:=yy h (d:=d) (ss:=w.2.2.1.set d.2.1.toNat ([],[],0,())) (ls:=NJ d.2.1 w.2.2.2.1) (by omega) Ar 0 (by omega) (AGz (A0 (by omega)));simp_all
end
end Go.M
end
section
set_option maxRecDepth 8000
namespace Go.M
open Go.M.H (AH AN A7 A3 AA Co AK BQ AQ Aj BO A_ AR Ax Ce Af AW Ac Az CN Bf A4 Bq Ek Cp C1 Dm)
theorem eqE{x e:AH}:(x.1==e.1&&(x.2.1==e.2.1&&(x.2.2.1==e.2.2.1&&(x.2.2.2.1==e.2.2.2.1&&true))))=decide (x=e):=by
 grind
theorem YA{m:A7}{o:Int}{l:List AAQ}(hl:l.length=m.2.2.2.2.2.1.length):FL (m.1,m.2.1,m.2.2.1,m.2.2.2.1,m.2.2.2.2.1,l,()) o=FL m o:=by
 grind[FL]
section
variable{w:AA} (h:LD w) {st:AN} (hs:VU st) {n:Int} (hn:0≤n∧n<(Ae w).1.length) {SS:List AN}
include h hs hn
theorem q9{ws:List AQ}{se:List A3}{ms:List A7}{j B:Nat}{m:A7}{R:Option A8}(hj:j<ms.length)(jB:ms.length≤2^20)(hlen:(ms.getD j PL).2.2.2.2.2.1.length=m.2.2.2.2.2.1.length)(hm:bj (Ae w) m)
  (hc:(Bj w.A6 m.2.1).contains n=true)
  (cont:∀f,B≤f→Au f n ((j+1:Nat):Int) w.1 SS w.2.2.2.1 w.2.2.2.2.1 ws (ms.set j (m.1,m.2.1,m.2.2.1,m.2.2.2.1,m.2.2.2.2.1,F4 m st n 1 m.2.2.2.2.2.1,())) w.2.2.2.2.2.2.2.2.1 se w.2.1 w.2.2.2.2.2.1 w.2.2.2.2.2.2.2.2.2.2.1 0 0 false [] [] [] [] [] [] [] [] st.1 st.2.1 st.2.2.1=R):
  ∀(rest dn:List AAQ) (f:Nat),dn.length+rest.length=m.2.2.2.2.2.1.length→(∀l∈dn++rest,BA (Ae w) l=true)→rest.length+B+1≤f→
   dn++F4 m st n ((dn.length:Int)+1) rest=F4 m st n 1 m.2.2.2.2.2.1→
   Ap f n (j:Int) ((dn.length:Int)+1) w.1 SS w.2.2.2.1 w.2.2.2.2.1 ws ms w.2.2.2.2.2.2.2.2.1 se w.2.1 w.2.2.2.2.2.1 w.2.2.2.2.2.2.2.2.2.2.1 0 0 false [] [] [] [] [] [] [] [] st.1 st.2.1 st.2.2.1 m.1 m.2.1 m.2.2.1 m.2.2.2.1 m.2.2.2.2.1 (dn++rest)=R:=by
 have k:=h.nums;have k1:=k.c;have k5:=k.era;have c1:(0:Int)≤(j:Int)∧(j:Int)<(ms.length:Int):=by omega
 have RF:(Bj w.A6 m.2.1).length≤8:=HK h;have gV:m.2.2.2.2.2.1.length≤60:=by
  have:=hm.n;have hb:=HL (l:=m.2.2.2.1);omega
 intro rest
 induction rest with
 |nil=>
  intro dn f hl ho hf he;obtain⟨f,rfl⟩:∃f',f=f'+1:=⟨f-1,by omega⟩;simp only[AEc,AGS,AGB,F4,AEX]at hl hf he;simp only[Ap,Es,AE,AEX];simp only[AEA c1];rw[show ms.getD ((j:Int)).toNat (0,0,[],[],false,[],())=ms.getD j PL from rfl,hlen,AEB (by omega),AG (by omega) (by omega),show((j:Int)+1)=((j+1:Nat):Int)by omega,he,AEq];simp_all
 |cons x rest ih=>
  intro dn f hl ho hf he;obtain⟨f,rfl⟩:∃f',f=f'+1:=⟨f-1,by omega⟩;simp only[AEI]at hl hf;simp only[Ap,Es,AE];simp only[AEA c1];have ag:bj (Ae w) (m.1,m.2.1,m.2.2.1,m.2.2.2.1,m.2.2.2.2.1,dn++x::rest,()):=⟨hm.cfg,hm.ep,hm.b,hm.sld,hm.lb,hm.seen,ho,by
   have:=hm.n;simp_all⟩
  have hmw:=ag.w;rw[show ms.getD ((j:Int)).toNat (0,0,[],[],false,[],())=ms.getD j PL from rfl,hlen,AEA (by omega),show(w.2.2.2.2.1,w.2.2.2.2.2.1,())=CK w from rfl,Ci (r:=CK w) (by show Af CN w.2.2.2.2.1≤_;omega)];rw[show(CK w).1=w.A6 from rfl];simp only[AF];rw[GM (by omega),hc];simp only[AF,AEb];have hdl:(dn++x::rest).length=m.2.2.2.2.2.1.length:=by simp_all
  rw[Pt (m:=(m.1,m.2.1,m.2.2.1,m.2.2.2.1,m.2.2.2.2.1,dn++x::rest,())) (by omega),YA hdl];simp only[AF];have AFj:m.2.2.2.2.1=true:=by
   have:=hm.n;grind
  have ABc:∃e,FL m ((dn.length:Int)+1)=some e:=by
   unfold FL;rw[AFj,AEA (by
    simp only[AEh,AEF,Aw,AEK];have:=hm.ep;omega)]
   split<;>exact⟨_,rfl⟩
  obtain⟨e,hee⟩:=ABc;have iL:=hs.w;rw[hee];simp only[AGC];rw[MF (HY (by omega)).1];simp only[AF,eqE,AE];rw[AG (by omega) (by omega)];simp only[F4]at he;have hmd:dj m st ((dn.length:Int)+1)=(Rz e.1 st.1==some e):=by
   unfold dj;rw[hee]
  cases hg:Rz e.1 st.1 with
  |none=>
   simp only[AGE,AEL];rw[hmd,hg]at he;have:=ih (dn++[x]) f (by grind) (by simp_all) (by omega) (by
    simp_all)
   simp_all
  |some y=>
   simp only[AGF,AEb,AGC];by_cases hye:y=e
   ·rw[AEA hye]
    rw[hmd,hg,hye]at he;rw[show(w.1,w.2.1,())=Ae w from rfl,YF (c:=Ae w) (m:=(m.1,m.2.1,m.2.2.1,m.2.2.2.1,m.2.2.2.2.1,dn++x::rest,())) (by show w.1.length≤_;omega) (by omega) ag.ein];have xE:YV (Ae w) (m.1,m.2.1,m.2.2.1,m.2.2.2.1,m.2.2.2.2.1,dn++x::rest,()) ((dn.length:Int)+1) n=((m.1,m.2.1,m.2.2.1,m.2.2.2.1,m.2.2.2.2.1,dn++NJ n x::rest,()),true):=by
     unfold YV;rw[Ij.2 ag];have hq:(BX ((dn.length:Int)+1) 1 ((dn++x::rest).length:Int)&&BX n 0 (((Ae w).1.length:Int)-1))=true:=by
      rw[AEF,Aw,Aw];omega
     grind
    rw[xE];simp only[AF,gx];have hx:=ho x (by simp);have:=ih (dn++[NJ n x]) f (by grind) (by
     intro l hl';simp only[AEE,AGs,AEZ,AEd]at hl';rcases hl' with hl'|rfl|hl'
     all_goals grind[Ks]) (by omega) (by
     simp_all)
    simp_all
   ·rw[AEB hye]
    have hf2:(some y==some e)=false:=by
     simp_all
    rw[hmd,hg,hf2]at he;have:=ih (dn++[x]) f (by grind) (by simp_all) (by omega) (by
     simp_all)
    simp_all
theorem qe{ws:List AQ}{se:List A3}:∀(k i:Nat),w.2.2.2.2.2.2.2.1.length-i=k→i≤w.2.2.2.2.2.2.2.1.length→ ∀f,k*100+1≤f→
  Au f n (i:Int) w.1 SS w.2.2.2.1 w.2.2.2.2.1 ws ((w.2.2.2.2.2.2.2.1.map (Mw st w.A6 n)).take i++w.2.2.2.2.2.2.2.1.drop i) w.2.2.2.2.2.2.2.2.1 se w.2.1 w.2.2.2.2.2.1 w.2.2.2.2.2.2.2.2.2.2.1 0 0 false [] [] [] [] [] [] [] [] st.1 st.2.1 st.2.2.1=(some ((((),w.2.1,(),(),(),w.2.2.2.2.2.1,(),(),(),(),w.2.2.2.2.2.2.2.2.2.2.1,()),()),(w.1,SS,w.2.2.2.1,w.2.2.2.2.1,ws,(w.2.2.2.2.2.2.2.1.map (Mw st w.A6 n)),w.2.2.2.2.2.2.2.2.1,se,())):Option A8):=by
 have k:=h.nums;have k5:=k.era;have k6:=k.md;intro k
 induction k with
 |zero=>
  intro i hk hi f hf;obtain⟨f,rfl⟩:∃f',f=f'+1:=⟨f-1,by omega⟩;have:i=w.2.2.2.2.2.2.2.1.length:=by omega
  simp only[Au,Gk,AE];grind
 |succ k ih=>
  intro i hk hi f hf;obtain⟨f,rfl⟩:∃f',f=f'+1:=⟨f-1,by omega⟩;have Dg:i<w.2.2.2.2.2.2.2.1.length:=by omega
  have c1:(0:Int)≤(i:Int)∧(i:Int)<(w.2.2.2.2.2.2.2.1.length:Int):=by omega
  simp only[Au,Gk,AE];rw[Pv hi,AEA c1.2,AEA c1,AEq,PK Dg];have hm:=(h.Bp _ (AEa Dg)).1;have gV:w.2.2.2.2.2.2.2.1[i].2.2.2.2.2.1.length≤60:=by
   have:=hm.n;have hb:=HL (l:=w.2.2.2.2.2.2.2.1[i].2.2.2.1);omega
  rcases AD8 ((Bj w.A6 w.2.2.2.2.2.2.2.1[i].2.1).contains n)with hc|hc
  ·have hT:Mw st w.A6 n w.2.2.2.2.2.2.2.1[i]=(w.2.2.2.2.2.2.2.1[i].1,w.2.2.2.2.2.2.2.1[i].2.1,w.2.2.2.2.2.2.2.1[i].2.2.1,w.2.2.2.2.2.2.2.1[i].2.2.2.1,w.2.2.2.2.2.2.2.1[i].2.2.2.2.1,F4 w.2.2.2.2.2.2.2.1[i] st n 1 w.2.2.2.2.2.2.2.1[i].2.2.2.2.2.1,()):=by
    unfold Mw;simp_all
   have:=q9 h hs hn (SS:=SS) (ws:=ws) (se:=se) (ms:=(w.2.2.2.2.2.2.2.1.map (Mw st w.A6 n)).take i++w.2.2.2.2.2.2.2.1.drop i) (j:=i) (B:=k*100+1) (m:=w.2.2.2.2.2.2.2.1[i]) (R:=(some ((((),w.2.1,(),(),(),w.2.2.2.2.2.1,(),(),(),(),w.2.2.2.2.2.2.2.2.2.2.1,()),()),(w.1,SS,w.2.2.2.1,w.2.2.2.2.1,ws,(w.2.2.2.2.2.2.2.1.map (Mw st w.A6 n)),w.2.2.2.2.2.2.2.2.1,se,())):Option A8)) (by simp_all) (by grind) (by simp_all) hm hc (fun f hf=>by
    grind[Rl]) w.2.2.2.2.2.2.2.1[i].2.2.2.2.2.1 [] f (by simp) (by simpa using hm.wrote) (by omega) (by simp)
   simp_all
  ·have hT:Mw st w.A6 n w.2.2.2.2.2.2.2.1[i]=w.2.2.2.2.2.2.2.1[i]:=by
    unfold Mw;simp_all
   obtain⟨f,rfl⟩:∃f',f=f'+1:=⟨f-1,by omega⟩;simp only[Ap,Es,AE];have RF:(Bj w.A6 w.2.2.2.2.2.2.2.1[i].2.1).length≤8:=HK h;rw[Pv hi];simp only[AEA c1];rw[AEq,PK Dg,show(w.2.2.2.2.1,w.2.2.2.2.2.1,())=CK w from rfl,Ci (r:=CK w) (by show Af CN w.2.2.2.2.1≤_;omega)];rw[show(CK w).1=w.A6 from rfl];simp only[AF];rw[GM (by omega),hc,Rl Dg (show(w.2.2.2.2.2.2.2.1[i].1,w.2.2.2.2.2.2.2.1[i].2.1,w.2.2.2.2.2.2.2.1[i].2.2.1,w.2.2.2.2.2.2.2.1[i].2.2.2.1,w.2.2.2.2.2.2.2.1[i].2.2.2.2.1,w.2.2.2.2.2.2.2.1[i].2.2.2.2.2.1,())=Mw st w.A6 n w.2.2.2.2.2.2.2.1[i]from hT.symm),AG (x:=(i:Int)+1) (by omega) (by omega),show((i:Int)+1)=((i+1:Nat):Int)by omega,ih (i+1) (by omega) (by omega) f (by omega)];simp_all
end
end Go.M
end
section
set_option maxRecDepth 8000
namespace Go.M
open Go.M.H (AH AN A7 A3 AA Co AK BQ AQ Aj BO A_ AR Ax Ce Af AW Ac Az CN Bf A4 Bq Ek Cp C1 Dm)
theorem cY{x y:BQ}(hx:x.2.2.1=false):∀{dn rest:List BQ},Mx (dn++y::rest)≤Mx (dn++x::rest)
 |[],rest=>by
  simp only[AFa,Mx,hx];cases y.2.2.1<;>simp
 |a::dn,rest=>by
  have:=cY (y:=y) hx (dn:=dn) (rest:=rest);simp only[AGD,Mx];cases a.2.2.1<;>simp<;>omega
section
variable{w:AA} (h:LD w) {st:AN} (hs:VU st) {n:Int} (hn:0≤n∧n<(Ae w).1.length) {SS:List AN}
include h hs hn
theorem q7{ws:List AQ}{se:List A3}{j B:Nat}{ep x y:Int}{z:Bool}{old new:List BQ}{R:Option A8}(hj:j<2^20)(bg:se.length≤120)(oB:∀s∈se,Ay s.1=true)(eM:new.length≤60)(hep:1≤ep∧ep≤30)
  (cont:∀f,B≤f→Aq f n ((j+1:Nat):Int) w.1 SS w.2.2.2.1 w.2.2.2.2.1 ws w.2.2.2.2.2.2.2.1 w.2.2.2.2.2.2.2.2.1 (se.map (NX true ep old new)) w.2.1 w.2.2.2.2.2.1 w.2.2.2.2.2.2.2.2.2.2.1 0 0 false [] [] [] [] [] [] [] [] st.1 st.2.1 st.2.2.1=R):
  ∀(k i:Nat),se.length-i=k→i≤se.length→ ∀f,k+B+1≤f→
   Ab f n (j:Int) (i:Int) x y z w.1 SS w.2.2.2.1 w.2.2.2.2.1 ws w.2.2.2.2.2.2.2.1 w.2.2.2.2.2.2.2.2.1 ((se.map (NX true ep old new)).take i++se.drop i) w.2.1 w.2.2.2.2.2.1 w.2.2.2.2.2.2.2.2.2.2.1 0 0 false [] [] [] [] [] [] [] [] st.1 st.2.1 st.2.2.1 ep new=R:=by
 intro k
 induction k with
 |zero=>
  intro i hk hi f hf;obtain⟨f,rfl⟩:∃f',f=f'+1:=⟨f-1,by omega⟩;have:i=se.length:=by omega
  simp only[Ab,Gi,AE];rw[Pv hi,AEB (by omega),this,List.drop_length,AEX,AF7 (by simp),AG (by omega) (by omega),show((j:Int)+1)=((j+1:Nat):Int)by omega];exact cont f (by omega)
 |succ k ih=>
  intro i hk hi f hf;obtain⟨f,rfl⟩:∃f',f=f'+1:=⟨f-1,by omega⟩;have Dg:i<se.length:=by omega
  have c1:(0:Int)≤(i:Int)∧(i:Int)<(se.length:Int):=by omega
  have hp:=oB _ (AEa Dg);have yI:=KC hp;have ih':=ih (i+1) (by omega) (by omega) f (by omega);simp only[Ab,Gi,AE,EL];rw[Pv hi,AEA c1.2];simp only[AEA c1];rw[AEq,PK Dg,CO (IL hp),MV (IL hp),AG (x:=(i:Int)+1) (by omega) (by omega),show((i:Int)+1)=((i+1:Nat):Int)by omega];simp only[AF];have skip:NX true ep old new se[i]=se[i]→Ab f n (j:Int) ((i+1:Nat):Int) x y z w.1 SS w.2.2.2.1 w.2.2.2.2.1 ws w.2.2.2.2.2.2.2.1 w.2.2.2.2.2.2.2.2.1 ((se.map (NX true ep old new)).take i++se.drop i) w.2.1 w.2.2.2.2.2.1 w.2.2.2.2.2.2.2.2.2.2.1 0 0 false [] [] [] [] [] [] [] [] st.1 st.2.1 st.2.2.1 ep new=R:=fun hm=>by
   rw[eS Dg hm];exact ih'
  by_cases he:Ah se[i].1=ep
  rotate_left
  ·rw[AEB he]
   refine skip ?_
   unfold NX;rw[show(Ah se[i].1==ep)=false by rw[AEO];exact he];simp
  rw[AEA he];by_cases ho:CY se[i].1≤(new.length:Int)
  rotate_left
  ·rw[AEB ho]
   refine skip ?_
   unfold NX U5;rw[show BX (CY se[i].1) 1 (new.length:Int)=false by
    rw[AGv];intro hh;exact ho (Aw.1 hh).2]
   simp
  rw[AEA ho,AG (x:=CY se[i].1-1) (by omega) (by omega),AEA (by omega)];have hd:U5 new (CY se[i].1)=(new.getD (CY se[i].1-1).toNat Of).2.2.1:=by
   unfold U5;rw[Aw.2 ⟨yI.2.1.1,ho⟩,AEh]
  have hd':(new.getD (CY se[i].1-1).toNat ([],[],false,())).2.2.1=U5 new (CY se[i].1):=hd.symm;rw[hd'];cases ln:U5 new (CY se[i].1)with
  |false=>
   rw[AEL];refine skip ?_
   unfold NX;rw[ln];simp
  |true=>
   rw[AEb,Rl Dg (show(se[i].1,se[i].2.1,true,())=NX true ep old new se[i]by
    unfold NX;rw[ln,he];simp)]
   exact ih'
theorem AAA{ws:List AQ}{se:List A3}{j B:Nat}{ep x y:Int}{z:Bool}{l0:List BQ}{R:Option A8}(hj:j<ws.length)(jB:ws.length≤2^20)
  (cont:∀f,B≤f→Ab f n (j:Int) 0 x y z w.1 SS w.2.2.2.1 w.2.2.2.2.1 (ws.set j (ep,B7 (Ae w) st ep n 1 l0,())) w.2.2.2.2.2.2.2.1 w.2.2.2.2.2.2.2.2.1 se w.2.1 w.2.2.2.2.2.1 w.2.2.2.2.2.2.2.2.2.2.1 0 0 false [] [] [] [] [] [] [] [] st.1 st.2.1 st.2.2.1 ep (B7 (Ae w) st ep n 1 l0)=R):
  ∀(rest dn:List BQ) (f:Nat),Uu (Ae w) (ep,dn++rest,())→rest.length+B+1≤f→
   dn++B7 (Ae w) st ep n ((dn.length:Int)+1) rest=B7 (Ae w) st ep n 1 l0→
   AZ f n (j:Int) ((dn.length:Int)+1) x y z w.1 SS w.2.2.2.1 w.2.2.2.2.1 ws w.2.2.2.2.2.2.2.1 w.2.2.2.2.2.2.2.2.1 se w.2.1 w.2.2.2.2.2.1 w.2.2.2.2.2.2.2.2.2.2.1 0 0 false [] [] [] [] [] [] [] [] st.1 st.2.1 st.2.2.1 ep (dn++rest)=R:=by
 have k1:=h.nums.c;have iL:=hs.w;intro rest
 induction rest with
 |nil=>
  intro dn f hw hf he;obtain⟨f,rfl⟩:∃f',f=f'+1:=⟨f-1,by simp at hf;omega⟩;simp only[AEc,AGB,B7,AEX]at hf he;simp only[AZ,HF,AE,AEX];rw[AEB (by omega),AEA (by omega),he,AEq];exact cont f (by omega)
 |cons a rest ih=>
  intro dn f hw hf he;obtain⟨f,rfl⟩:∃f',f=f'+1:=⟨f-1,by simp at hf;omega⟩;simp only[AEI]at hf;have hwe:1≤ep∧ep≤30:=hw.ep;have hwn:(dn++a::rest).length≤60:=hw.n;have hww:=hw.w;have hwl:=hwn;simp only[AEM,AEI]at hwl;simp only[AZ,HF,AE,BL,Em];rw[AEA (by simp only[AEM,AEI];omega),Hl (by omega) (by omega)];simp only[AF];rw[MF (HY (by omega)).1];simp only[AF];rw[AG (x:=(dn.length:Int)+1+1) (by omega) (by omega),AG (x:=(dn.length:Int)+1-1) (by omega) (by omega),AEA (show(0:Int)≤(dn.length:Int)+1-1∧(dn.length:Int)+1-1<((dn++a::rest).length:Int)by simp only[AEM,AEI];omega)];have e1:((dn.length:Int)+1-1).toNat=dn.length:=by omega
  have e2:(dn++a::rest).getD dn.length ([],[],false,())=a:=by simp[List.getD]
  rw[e1,e2];simp only[B7]at he;have go:∀b:BQ,Uu (Ae w) (ep,dn++b::rest,())→(if(!a.2.2.1&&Yy st (Lu ep ((dn.length:Int)+1)))=true then U7 (Ae w) n a else a)=b→
    AZ f n (j:Int) ((dn.length:Int)+1+1) x y z w.1 SS w.2.2.2.1 w.2.2.2.2.1 ws w.2.2.2.2.2.2.2.1 w.2.2.2.2.2.2.2.2.1 se w.2.1 w.2.2.2.2.2.1 w.2.2.2.2.2.2.2.2.2.2.1 0 0 false [] [] [] [] [] [] [] [] st.1 st.2.1 st.2.2.1 ep (dn++b::rest)=R:=fun b hb hab=>by
   rw[hab]at he;have:=ih (dn++[b]) f (by simpa using hb) (by omega) (by
    rw[←he];simp only[AEM,AEI,AEc,AEE,AGs];rw[show(((dn.length+(0+1):Nat):Int)+1)=(dn.length:Int)+1+1 by omega])
   simp only[AEM,AEI,AEc,AEE,AGs]at this;rw[show(((dn.length+(0+1):Nat):Int)+1)=(dn.length:Int)+1+1 by omega]at this;exact this
  cases hg:Rz (Lu ep ((dn.length:Int)+1)) st.1 with
  |none=>
   simp only[AGE,AEL];exact go a hw (by unfold Yy;rw[hg];simp)
  |some e=>
   simp only[AGF,AEb,AGC];by_cases he0:e.2.1=0
   rotate_left
   ·rw[AEB he0]
    exact go a hw (by unfold Yy;rw[hg];simp[he0])
   rw[AEA he0];cases had:a.2.2.1 with
   |true=>
    rw[AEb];exact go a hw (by rw[had];simp)
   |false=>
    rw[AEL];have ha:=hw.words a (by simp);have hb:Uu (Ae w) (ep,dn++U7 (Ae w) n a::rest,()):=⟨hw.cfg,hw.ep,by simpa using hwn,fun b hb=>by
     simp only[AEZ,AEd]at hb;rcases hb with hb|rfl|hb
     ·exact hw.words b (by simp[hb])
     ·exact⟨ha.1,Ks ha.2.1 hn,rfl⟩
     ·exact hw.words b (by simp[hb]),AFS (cY had) hw.opn⟩
    rw[show(w.1,w.2.1,())=Ae w from rfl,VO (c:=Ae w) (w:=(ep,dn++a::rest,())) (by show w.1.length≤_;omega) (by have:A4 (ep,dn++a::rest,())=Af Bf (dn++a::rest):=rfl;show Af Bf (dn++a::rest)≤_;omega)];have xE:Tf (Ae w) (ep,dn++a::rest,()) ((dn.length:Int)+1) n=((ep,dn++U7 (Ae w) n a::rest,()),true):=by
     unfold Tf;rw[JI.2 hw];simp only[AET,AER,AFJ];rw[e1,show(dn++a::rest).getD dn.length Of=a from e2,had];rw[AEA (by
      rw[AEF,AEF,Aw,Aw];simp only[AEM,AEI];refine⟨by omega,by omega,rfl⟩)]
     rw[AHB _ _ (by omega),AHI,AG0]
    rw[xE];simp only[AF,pkW];exact go _ hb (by unfold Yy;rw[hg];simp[he0,had])
theorem yP:∀(rest pre:List AQ) (se:List A3) (f:Nat),(pre++rest).length≤4→(∀x∈rest,Uu (Ae w) x)→se.length≤120→(∀s∈se,Ay s.1=true)→rest.length*300+w.2.2.2.2.2.2.2.1.length*100+2≤f→
  Aq f n (pre.length:Int) w.1 SS w.2.2.2.1 w.2.2.2.2.1 (pre++rest) w.2.2.2.2.2.2.2.1 w.2.2.2.2.2.2.2.2.1 se w.2.1 w.2.2.2.2.2.1 w.2.2.2.2.2.2.2.2.2.2.1 0 0 false [] [] [] [] [] [] [] [] st.1 st.2.1 st.2.2.1=(some ((((),w.2.1,(),(),(),w.2.2.2.2.2.1,(),(),(),(),w.2.2.2.2.2.2.2.2.2.2.1,()),()),(w.1,SS,w.2.2.2.1,w.2.2.2.2.1,(pre++(Gc true (Ae w) st w.A6 n rest se).1),(w.2.2.2.2.2.2.2.1.map (Mw st w.A6 n)),w.2.2.2.2.2.2.2.2.1,(Gc true (Ae w) st w.A6 n rest se).2,())):Option A8):=by
 have k5:=h.nums.era;intro rest
 induction rest with
 |nil=>
  intro pre se f hl hw bg oB hf;obtain⟨f,rfl⟩:∃f',f=f'+1:=⟨f-1,by omega⟩;simp only[Aq,HW,AE];have:=qe h hs hn (SS:=SS) (ws:=pre) (se:=se) w.2.2.2.2.2.2.2.1.length 0 (by omega) (by omega) f (by omega);rw[show((0:Nat):Int)=0 from rfl,AGH,List.take_zero,AFa]at this;rw[AEX,AEB (by omega),this];simp only[Gc,AEX]
 |cons a rest ih=>
  intro pre se f hl hw bg oB hf;simp only[AEM,AEI]at hl hf;obtain⟨f,rfl⟩:∃f',f=f'+1:=⟨f-1,by omega⟩;simp only[Aq,HW,AE,BL];have oO:(pre++a::rest).length=pre.length+(rest.length+1):=by simp
  have c1:(0:Int)≤(pre.length:Int)∧(pre.length:Int)<((pre++a::rest).length:Int):=by omega
  have e2:(pre++a::rest).getD pre.length (0,[],())=a:=by simp[List.getD]
  have RF:(Bj w.A6 a.1).length≤8:=HK h;rw[AEA c1.2,AEA c1,AEq,e2,show(w.2.2.2.2.1,w.2.2.2.2.2.1,())=CK w from rfl,Ci (r:=CK w) (by show Af CN w.2.2.2.2.1≤_;omega)];rw[show(CK w).1=w.A6 from rfl];simp only[AF];rw[GM (by omega),AG (by omega) (by omega),show((pre.length:Int)+1)=((pre.length+1:Nat):Int)by omega];simp only[AF];have ha:=hw a (by simp);have hae:=ha.ep;have han:=ha.n;have next:∀(b:AQ) (yt:List A3) (f:Nat),yt.length≤120→(∀s∈yt,Ay s.1=true)→rest.length*300+w.2.2.2.2.2.2.2.1.length*100+2≤f→
    Aq f n ((pre.length+1:Nat):Int) w.1 SS w.2.2.2.1 w.2.2.2.2.1 (pre++b::rest) w.2.2.2.2.2.2.2.1 w.2.2.2.2.2.2.2.2.1 yt w.2.1 w.2.2.2.2.2.1 w.2.2.2.2.2.2.2.2.2.2.1 0 0 false [] [] [] [] [] [] [] [] st.1 st.2.1 st.2.2.1=(some ((((),w.2.1,(),(),(),w.2.2.2.2.2.1,(),(),(),(),w.2.2.2.2.2.2.2.2.2.2.1,()),()),(w.1,SS,w.2.2.2.1,w.2.2.2.2.1,(pre++b::(Gc true (Ae w) st w.A6 n rest yt).1),(w.2.2.2.2.2.2.2.1.map (Mw st w.A6 n)),w.2.2.2.2.2.2.2.2.1,(Gc true (Ae w) st w.A6 n rest yt).2,())):Option A8):=fun b yt f h1 h2 h3=>by
   have:=ih (pre++[b]) yt f (by simp only[AEM,AEI,AEc];omega) (fun x hx=>hw x (by simp[hx])) h1 h2 h3;simp only[AEM,AEI,AEc,AEE,AGs]at this;exact this
  simp only[Gc];rcases AD8 (aJ st w.A6 n a)with ht|ht
  rotate_left
  ·rw[ht]
   simp only[AER,AFJ];unfold aJ at ht;rcases AD8 ((Bj w.A6 a.1).contains n)with hc|hc
   ·rw[hc,AEh,AGj]at ht
    rw[hc,AEb,AEA (by omega)];exact next a se f bg oB (by omega)
   ·rw[hc,AEL]
    exact next a se f bg oB (by omega)
  ·rw[ht]
   simp only[AGG];unfold aJ at ht;rw[AEF,AEK]at ht;rw[ht.1,AEb,AEB (by omega)];have htl:=(Ri (s:=st) (ep:=a.1) hn (o:=1) ha.words).2.2;have hsm:∀s∈se.map (NX true a.1 a.2.1 (B7 (Ae w) st a.1 n 1 a.2.1)),Ay s.1=true:=fun s rF=>by
    obtain⟨s',h1,rfl⟩:=AGa.1 rF;exact oB s' h1
   have:=AAA h hs hn (SS:=SS) (ws:=pre++a::rest) (se:=se) (j:=pre.length) (B:=rest.length*300+w.2.2.2.2.2.2.2.1.length*100+2+130) (ep:=a.1) (x:=st.2.2.1) (y:=a.1) (z:=decide (st.2.2.1≥a.1)) (l0:=a.2.1) (R:=(some ((((),w.2.1,(),(),(),w.2.2.2.2.2.1,(),(),(),(),w.2.2.2.2.2.2.2.2.2.2.1,()),()),(w.1,SS,w.2.2.2.1,w.2.2.2.2.1,(pre++(a.1,B7 (Ae w) st a.1 n 1 a.2.1,())::(Gc true (Ae w) st w.A6 n rest (se.map (NX true a.1 a.2.1 (B7 (Ae w) st a.1 n 1 a.2.1)))).1),(w.2.2.2.2.2.2.2.1.map (Mw st w.A6 n)),w.2.2.2.2.2.2.2.2.1,(Gc true (Ae w) st w.A6 n rest (se.map (NX true a.1 a.2.1 (B7 (Ae w) st a.1 n 1 a.2.1)))).2,())):Option A8)) (by omega) (by omega) (fun f hf=>by
    have:=q7 h hs hn (SS:=SS) (ws:=(pre++a::rest).set pre.length (a.1,B7 (Ae w) st a.1 n 1 a.2.1,())) (se:=se) (j:=pre.length) (B:=rest.length*300+w.2.2.2.2.2.2.2.1.length*100+2) (ep:=a.1) (x:=st.2.2.1) (y:=a.1) (z:=decide (st.2.2.1≥a.1)) (old:=a.2.1) (new:=B7 (Ae w) st a.1 n 1 a.2.1) (R:=(some ((((),w.2.1,(),(),(),w.2.2.2.2.2.1,(),(),(),(),w.2.2.2.2.2.2.2.2.2.2.1,()),()),(w.1,SS,w.2.2.2.1,w.2.2.2.2.1,(pre++(a.1,B7 (Ae w) st a.1 n 1 a.2.1,())::(Gc true (Ae w) st w.A6 n rest (se.map (NX true a.1 a.2.1 (B7 (Ae w) st a.1 n 1 a.2.1)))).1),(w.2.2.2.2.2.2.2.1.map (Mw st w.A6 n)),w.2.2.2.2.2.2.2.2.1,(Gc true (Ae w) st w.A6 n rest (se.map (NX true a.1 a.2.1 (B7 (Ae w) st a.1 n 1 a.2.1)))).2,())):Option A8)) (by omega) bg oB (by omega) hae (fun f hf=>by
     rw[AHB _ _ (by omega),AHI,AG0];exact next _ _ f (by simpa using bg) hsm hf) se.length 0 (by omega) (by omega) f (by omega)
    rw[show((0:Nat):Int)=0 from rfl,AGH,List.take_zero,AFa]at this;exact this) a.2.1 [] f (by simpa using ha) (by omega) (by simp)
   simp only[AEc,AFa]at this;exact this
end
section
variable{w:AA} (h:LD w)
include h
theorem Xz{d:AR}:N8 w.2.1 w.2.2.2.2.2.1 w.2.2.2.2.2.2.2.2.2.2.1 d w.1 w.2.2.1 w.2.2.2.1 w.2.2.2.2.1 w.2.2.2.2.2.2.1 w.2.2.2.2.2.2.2.1 w.2.2.2.2.2.2.2.2.1 w.2.2.2.2.2.2.2.2.2.1=some (uq (Rc true w d.2.1)):=by
 have k:=h.nums;have k1:=k.c;have k2:=k.wr;have k3:=k.lost;have k4:=k.st;have X8:=k.jh;have jq:=k.Pq;have lZ:=k.jJ;have k6:=k.md;unfold N8 Rc;rw[show(w.1,w.2.1,w.2.2.1,w.2.2.2.1,w.2.2.2.2.1,w.2.2.2.2.2.1,w.2.2.2.2.2.2.1,w.2.2.2.2.2.2.2.1,w.2.2.2.2.2.2.2.2.1,w.2.2.2.2.2.2.2.2.2.1,w.2.2.2.2.2.2.2.2.2.2.1,())=w from rfl,Ef (by omega) (by omega)];simp only[AF,Em,BL];by_cases h3:BJ w d.2.1=0
 rotate_left
 ·rw[AEB h3,AEA h3];rfl
 obtain⟨hr,s1,s2,s3⟩:=h.Kr h3;have bg:w.2.2.1.getD d.2.1.toNat ([],[],0,())=storeAt w d.2.1:=rfl;rw[AEA h3,AEB (show¬(BJ w d.2.1≠0)from fun hh=>hh h3)];simp only[AEA hr,bg];rw[show((storeAt w d.2.1).1,(storeAt w d.2.1).2.1,(storeAt w d.2.1).2.2.1,())=storeAt w d.2.1 from rfl,Pf s1 s2];simp only[AF,jO];rcases AD8 (CV (storeAt w d.2.1)).2 with h6|h6
 rotate_left
 ·rw[h6];rfl
 have hq:=(MP h6).2.1;have jW:=(h.node h3).1;rw[h6,AEb,LM];have Er:d.2.1.toNat<w.2.2.1.length:=by omega
 unfold Nh J8;rw[AGr,AEA hr,UQ Er];have:=yP h (st:=(CV (storeAt w d.2.1)).1) hq jW (SS:=w.2.2.1.set d.2.1.toNat (CV (storeAt w d.2.1)).1) w.2.2.2.2.2.2.1 [] w.2.2.2.2.2.2.2.2.2.1 Ar (by simpa using k2) (fun x hx=>(h.AJ x hx).1) k.se (fun s hs=>(h.Bk s hs).1) (AGz (A0 (by omega)));simp only[AEc,AFa]at this;rw[show((0:Nat):Int)=0 from rfl]at this;rw[show((CV (storeAt w d.2.1)).1.1,(CV (storeAt w d.2.1)).1.2.1,(CV (storeAt w d.2.1)).1.2.2.1,())=(CV (storeAt w d.2.1)).1 from rfl,this];rfl
end
end Go.M
end
section
set_option maxRecDepth 8000
namespace Go.M
open Go.M.H (AH AN A7 A3 AA Co AK BQ AQ Aj BO A_ AR Ax Ce Af AW Ac Az CN Bf A4 Bq Ek Cp C1 Dm)
section
variable{w:AA} (h:LD w)
include h
theorem bF{d:AR}(h64:BB d.2.1)(hd:d.2.2.2.2.1.length≤40)(hk:1≤d.1∧d.1≤16):∃w',Rj w.2.1 w.2.2.2.2.2.1 w.2.2.2.2.2.2.2.2.2.2.1 d w.1 w.2.2.1 w.2.2.2.1 w.2.2.2.2.1 w.2.2.2.2.2.2.1 w.2.2.2.2.2.2.2.1 w.2.2.2.2.2.2.2.2.1 w.2.2.2.2.2.2.2.2.2.1=some (xm (w',(PR true w d).2))∧((PR true w d).2=0→w' =(PR true w d).1):=by
 have k:=h.nums;have k1:=k.c;have k5:=k.era;unfold Rj PR;rw[show(d.1,d.2.1,d.2.2.1,d.2.2.2.1,d.2.2.2.2.1,())=d from rfl];simp only[EL];by_cases c1:d.1=1
 ·simp only[AEA c1]
  rw[X1 h];exact⟨_,rfl,fun _=>rfl⟩
 by_cases c2:d.1=2
 ·simp only[AEB (show¬d.1=1 by omega),AEA c2]
  obtain⟨w',e1,e2⟩:=Zu h (d:=d) hd;rw[e1];exact⟨w',rfl,e2⟩
 by_cases c3:d.1=3
 ·simp only[AEB (show¬d.1=1 by omega),AEB (show¬d.1=2 by omega),AEA c3]
  rw[W4 h];exact⟨_,rfl,fun _=>rfl⟩
 by_cases c4:d.1=4
 ·simp only[AEB (show¬d.1=1 by omega),AEB (show¬d.1=2 by omega),AEB (show¬d.1=3 by omega),AEA c4]
  rw[Xz h];exact⟨_,rfl,fun _=>rfl⟩
 by_cases c6:d.1=6
 ·simp only[AEB (show¬d.1=1 by omega),AEB (show¬d.1=2 by omega),AEB (show¬d.1=3 by omega),AEB (show¬d.1=4 by omega),AEB (show¬d.1=5 by omega),AEA c6]
  rw[Xv h];exact⟨_,rfl,fun _=>rfl⟩
 by_cases c7:d.1=7
 ·simp only[AEB (show¬d.1=1 by omega),AEB (show¬d.1=2 by omega),AEB (show¬d.1=3 by omega),AEB (show¬d.1=4 by omega),AEB (show¬d.1=5 by omega),AEB (show¬d.1=6 by omega),AEA c7]
  rw[YC h];exact⟨_,rfl,fun _=>rfl⟩
 by_cases c8:d.1=8
 ·simp only[AEB (show¬d.1=1 by omega),AEB (show¬d.1=2 by omega),AEB (show¬d.1=3 by omega),AEB (show¬d.1=4 by omega),AEB (show¬d.1=5 by omega),AEB (show¬d.1=6 by omega),AEB (show¬d.1=7 by omega),AEA c8]
  rw[YB h];exact⟨_,rfl,fun _=>rfl⟩
 by_cases c9:d.1=9
 ·simp only[AEB (show¬d.1=1 by omega),AEB (show¬d.1=2 by omega),AEB (show¬d.1=3 by omega),AEB (show¬d.1=4 by omega),AEB (show¬d.1=5 by omega),AEB (show¬d.1=6 by omega),AEB (show¬d.1=7 by omega),AEB (show¬d.1=8 by omega),AEA c9]
  rw[X3 h];exact⟨_,rfl,fun _=>rfl⟩
 by_cases c10:d.1=10
 ·simp only[AEB (show¬d.1=1 by omega),AEB (show¬d.1=2 by omega),AEB (show¬d.1=3 by omega),AEB (show¬d.1=4 by omega),AEB (show¬d.1=5 by omega),AEB (show¬d.1=6 by omega),AEB (show¬d.1=7 by omega),AEB (show¬d.1=8 by omega),AEB (show¬d.1=9 by omega),AEA c10]
  rw[X9 h];exact⟨_,rfl,fun _=>rfl⟩
 by_cases c11:d.1=11
 ·simp only[AEB (show¬d.1=1 by omega),AEB (show¬d.1=2 by omega),AEB (show¬d.1=3 by omega),AEB (show¬d.1=4 by omega),AEB (show¬d.1=5 by omega),AEB (show¬d.1=6 by omega),AEB (show¬d.1=7 by omega),AEB (show¬d.1=8 by omega),AEB (show¬d.1=9 by omega),AEB (show¬d.1=10 by omega),AEA c11]
  rw[aK h];exact⟨_,rfl,fun _=>rfl⟩
 by_cases c12:d.1=12
 ·simp only[AEB (show¬d.1=1 by omega),AEB (show¬d.1=2 by omega),AEB (show¬d.1=3 by omega),AEB (show¬d.1=4 by omega),AEB (show¬d.1=5 by omega),AEB (show¬d.1=6 by omega),AEB (show¬d.1=7 by omega),AEB (show¬d.1=8 by omega),AEB (show¬d.1=9 by omega),AEB (show¬d.1=10 by omega),AEB (show¬d.1=11 by omega),AEA c12]
  rw[Wh h];exact⟨_,rfl,fun _=>rfl⟩
 by_cases c13:d.1=13
 ·simp only[AEB (show¬d.1=1 by omega),AEB (show¬d.1=2 by omega),AEB (show¬d.1=3 by omega),AEB (show¬d.1=4 by omega),AEB (show¬d.1=5 by omega),AEB (show¬d.1=6 by omega),AEB (show¬d.1=7 by omega),AEB (show¬d.1=8 by omega),AEB (show¬d.1=9 by omega),AEB (show¬d.1=10 by omega),AEB (show¬d.1=11 by omega),AEB (show¬d.1=12 by omega),AEA c13]
  rw[show(w.1,w.2.1,())=Ae w from rfl,show(w.2.2.2.2.1,w.2.2.2.2.2.1,())=CK w from rfl,YJ (c:=Ae w) (r:=CK w) (by show w.1.length≤_;omega) (by show Af CN w.2.2.2.2.1≤_;omega) k.trim h64];simp only[AF,pkR,BL,S_];rcases AD8 (P5 (Ae w) (CK w) d.2.1).2 with hq|hq
  ·rw[hq];exact⟨_,rfl,fun _=>rfl⟩
  ·rw[hq];exact⟨w,rfl,fun _=>rfl⟩
 by_cases c14:d.1=14
 ·simp only[AEB (show¬d.1=1 by omega),AEB (show¬d.1=2 by omega),AEB (show¬d.1=3 by omega),AEB (show¬d.1=4 by omega),AEB (show¬d.1=5 by omega),AEB (show¬d.1=6 by omega),AEB (show¬d.1=7 by omega),AEB (show¬d.1=8 by omega),AEB (show¬d.1=9 by omega),AEB (show¬d.1=10 by omega),AEB (show¬d.1=11 by omega),AEB (show¬d.1=12 by omega),AEB (show¬d.1=13 by omega),AEA c14]
  rw[Xq h];exact⟨_,rfl,fun _=>rfl⟩
 by_cases c15:d.1=15
 ·simp only[AEB (show¬d.1=1 by omega),AEB (show¬d.1=2 by omega),AEB (show¬d.1=3 by omega),AEB (show¬d.1=4 by omega),AEB (show¬d.1=5 by omega),AEB (show¬d.1=6 by omega),AEB (show¬d.1=7 by omega),AEB (show¬d.1=8 by omega),AEB (show¬d.1=9 by omega),AEB (show¬d.1=10 by omega),AEB (show¬d.1=11 by omega),AEB (show¬d.1=12 by omega),AEB (show¬d.1=13 by omega),AEB (show¬d.1=14 by omega),AEA c15]
  rw[Xy h];exact⟨_,rfl,fun _=>rfl⟩
 simp only[AEB c1,AEB c2,AEB c3,AEB c4,AEB c6,AEB c7,AEB c8,AEB c9,AEB c10,AEB c11,AEB c12,AEB c13,AEB c14,AEB c15];rw[XG h];by_cases c5:d.1=5
 ·rw[AEA c5,AEB (by omega)]
  exact⟨_,rfl,fun _=>rfl⟩
 ·rw[AEB c5,AEA (by omega)]
  exact⟨_,rfl,fun _=>rfl⟩
end
theorem Dh{w:AA}{n:Int}{q:AN×Bool}(e:(putAt w n q).2≠0):(putAt w n q).1=w:=by
 unfold putAt at*;split at e
 ·exact absurd rfl e
 ·rename_i hq;rw[AEB hq]
theorem l5{all:Bool}{w:AA}{d:AR}(e:(PR all w d).2≠0):(PR all w d).1=w:=by
 unfold PR at*;by_cases c:d.1=1
 ·rw[AEA c]at e⊢
  clear c
  revert e
  unfold Rk
  try dsimp only
  repeat' split
  all_goals first|(intro e;exact absurd rfl e)|(intro e;rfl)|(intro e;exact Dh e)
 rw[AEB c]at e⊢;clear c;by_cases c:d.1=2
 ·rw[AEA c]at e⊢
  clear c
  revert e
  unfold doAdd
  try dsimp only
  repeat' split
  all_goals first|(intro e;exact absurd rfl e)|(intro e;rfl)|(intro e;exact Dh e)
 rw[AEB c]at e⊢;clear c;by_cases c:d.1=3
 ·rw[AEA c]at e⊢
  clear c
  revert e
  unfold OM
  try dsimp only
  repeat' split
  all_goals first|(intro e;exact absurd rfl e)|(intro e;rfl)|(intro e;exact Dh e)
 rw[AEB c]at e⊢;clear c;by_cases c:d.1=4
 ·rw[AEA c]at e⊢
  clear c
  revert e
  unfold Rc
  try dsimp only
  repeat' split
  all_goals first|(intro e;exact absurd rfl e)|(intro e;rfl)|(intro e;exact Dh e)
 rw[AEB c]at e⊢;clear c;by_cases c:d.1=5
 ·rw[AEA c]at e⊢
  clear c
  revert e
  unfold N5
  try dsimp only
  repeat' split
  all_goals first|(intro e;exact absurd rfl e)|(intro e;rfl)|(intro e;exact Dh e)
 rw[AEB c]at e⊢;clear c;by_cases c:d.1=6
 ·rw[AEA c]at e⊢
  clear c
  revert e
  unfold Rv
  try dsimp only
  repeat' split
  all_goals first|(intro e;exact absurd rfl e)|(intro e;rfl)|(intro e;exact Dh e)
 rw[AEB c]at e⊢;clear c;by_cases c:d.1=7
 ·rw[AEA c]at e⊢
  clear c
  revert e
  unfold Ro
  try dsimp only
  repeat' split
  all_goals first|(intro e;exact absurd rfl e)|(intro e;rfl)|(intro e;exact Dh e)
 rw[AEB c]at e⊢;clear c;by_cases c:d.1=8
 ·rw[AEA c]at e⊢
  clear c
  revert e
  unfold Rr
  try dsimp only
  repeat' split
  all_goals first|(intro e;exact absurd rfl e)|(intro e;rfl)|(intro e;exact Dh e)
 rw[AEB c]at e⊢;clear c;by_cases c:d.1=9
 ·rw[AEA c]at e⊢
  clear c
  revert e
  unfold RW
  try dsimp only
  repeat' split
  all_goals first|(intro e;exact absurd rfl e)|(intro e;rfl)|(intro e;exact Dh e)
 rw[AEB c]at e⊢;clear c;by_cases c:d.1=10
 ·rw[AEA c]at e⊢
  clear c
  revert e
  unfold Rb
  try dsimp only
  repeat' split
  all_goals first|(intro e;exact absurd rfl e)|(intro e;rfl)|(intro e;exact Dh e)
 rw[AEB c]at e⊢;clear c;by_cases c:d.1=11
 ·rw[AEA c]at e⊢
  clear c
  revert e
  unfold V7
  try dsimp only
  repeat' split
  all_goals first|(intro e;exact absurd rfl e)|(intro e;rfl)|(intro e;exact Dh e)
 rw[AEB c]at e⊢;clear c;by_cases c:d.1=12
 ·rw[AEA c]at e⊢
  clear c
  revert e
  unfold Nt
  try dsimp only
  repeat' split
  all_goals first|(intro e;exact absurd rfl e)|(intro e;rfl)|(intro e;exact Dh e)
 rw[AEB c]at e⊢;clear c;by_cases c:d.1=13
 ·rw[AEA c]at e⊢
  clear c
  revert e
  unfold S_
  try dsimp only
  repeat' split
  all_goals first|(intro e;exact absurd rfl e)|(intro e;rfl)|(intro e;exact Dh e)
 rw[AEB c]at e⊢;clear c;by_cases c:d.1=14
 ·rw[AEA c]at e⊢
  clear c
  revert e
  unfold NL
  try dsimp only
  repeat' split
  all_goals first|(intro e;exact absurd rfl e)|(intro e;rfl)|(intro e;exact Dh e)
 rw[AEB c]at e⊢;clear c;by_cases c:d.1=15
 ·rw[AEA c]at e⊢
  clear c
  revert e
  unfold RT
  try dsimp only
  repeat' split
  all_goals first|(intro e;exact absurd rfl e)|(intro e;rfl)|(intro e;exact Dh e)
 rw[AEB c]at e⊢;clear c;unfold Nl at*;split at e
 ·rename_i h1;rw[AEA h1]
 ·rename_i h1;rw[AEB h1];exact Dh e
theorem Xw{w:AA}{d:AR}(h:mi w)(h64:BB d.2.1):Np w d=some (uq (I2 true w d)):=by
 unfold Np I2;rw[show(w.1,w.2.1,w.2.2.1,w.2.2.2.1,w.2.2.2.2.1,w.2.2.2.2.2.1,w.2.2.2.2.2.2.1,w.2.2.2.2.2.2.2.1,w.2.2.2.2.2.2.2.2.1,w.2.2.2.2.2.2.2.2.2.1,w.2.2.2.2.2.2.2.2.2.2.1,())=w from rfl,show(d.1,d.2.1,d.2.2.1,d.2.2.2.1,d.2.2.2.2.1,())=d from rfl,SH h,Ol,YT h];simp only[AF,BL,Em];rcases AD8 (MO w)with hw|hw
 rotate_left
 ·rw[hw];rfl
 rcases AD8 (Dq d)with hd|hd
 rotate_left
 ·rw[hw,hd];rfl
 have hk:1≤d.1∧d.1≤16:=by
  unfold Dq at hd;exact Aw.1 (AEF _ _▸hd).1
 rw[hw,hd,AEb,AEb];obtain⟨w',e1,e2⟩:=bF (Td.1 hw) h64 (Yq hd) hk;rw[e1];simp only[AF,AET,Bool.or_false,AER,AFJ];by_cases hc:(PR true w d).2=0
 ·rw[e2 hc]
  rw[AEA (show(xm ((PR true w d).1,(PR true w d).2)).1.1.2.1=0 from hc)];rfl
 ·rw[AEB (show¬(xm (w',(PR true w d).2)).1.1.2.1=0 from hc)]
  have:=l5 hc;rw[show PR true w d=(w,(PR true w d).2)by rw[←Prod.eta (PR true w d)];simp only[this]];rfl
end Go.M
end
section
namespace Go.M
def At(b:AAQ)(a:Nat)(w:AAQ)(a':Nat):Prop:=a' =a+w.length∧b.drop a=w++b.drop a'
theorem At.nil{b:AAQ}{a:Nat}:At b a [] a:=⟨by simp,by simp⟩
theorem At.split{b w w':AAQ}{a a2:Nat}(ha:a≤b.length)(h:At b a (w++w') a2):At b a w (a+w.length)∧At b (a+w.length) w' a2∧a+w.length≤b.length:=by
 obtain⟨h1,h2⟩:=h;have e1:b.drop (a+w.length)=w'++b.drop a2:=by
  rw[←AHK,h2,AEE];simp
 refine⟨⟨rfl,by rw[h2,e1,AEE]⟩,⟨by simp only[AEM]at h1;omega,e1⟩,?_⟩;have:=congrArg List.length h2;simp only[AEM,AHC]at this;omega
theorem At.all{b w:AAQ}(h:At b 0 w b.length):b=w:=by
 have:=h.2;simpa using this
section
variable{b:AAQ} (hb:Bytes b)
include hb
end
section
variable{code:AAQ} (hc:code.length≤2^30)
include hc
theorem lO{i h:Int}{l:List AAh}(hi:Ch code i)(hl:l≠[])(hn:l.length≤2^30):∃v i' h',DI l code i h=some ((v,()),((code,i',h',()),()))∧v∈l∧Ch code i':=by
 unfold DI;have hp:=AHG.2 hl;obtain⟨v,i1,h1,e,v0,v1,_,MT⟩:=GS hc (h:=h) (n:=l.length) hi (by omega);rw[e];simp only[AEV];have:=v1 (by omega);rw[AEA ⟨v0,this⟩];obtain⟨k,rfl⟩:∃k:Nat,v=(k:Int):=⟨v.toNat,by omega⟩;exact⟨_,i1,h1,rfl,by rw[BC (by omega)];exact AEa _,MT⟩
theorem ZG{i h:Int}(hi:Ch code i):∃v i' h',G7 code i h=some ((v,()),((code,i',h',()),()))∧v<2^63∧ -2^63≤v∧Ch code i':=by
 unfold G7 Bv;obtain⟨v1,i1,h1,e1,a1,b1,_,MT⟩:=GS hc (h:=h) (n:=3) hi (by omega);rw[e1];simp only[AEV];obtain⟨v2,i2,h2,e2,a2,b2,_,Sb⟩:=GS hc (h:=h1) (n:=6) MT (by omega);rw[e2];simp only[AEV];obtain⟨v3,i3,h3,e3,a3,b3,_,gd⟩:=GS hc (h:=h2) (n:=15) Sb (by omega);rw[e3];simp only[AEV];have:=b1 (by omega);have:=b2 (by omega);cases v3==0 with
 |true=>
  simp only[AEb];obtain⟨p,i4,h4,e4,hp,hi4⟩:=N3 hc (h:=h3) (l:=[0,(-1),4294967296,4294967297,9223372036854775807,(-9223372036854775808)]) gd (by simp) (by simp);rw[e4];simp at hp;exact⟨p,i4,h4,rfl,by omega,by omega,hi4⟩
 |false=>
  simp only[AEL];cases v3==1 with
  |true=>
   simp only[AEb];obtain⟨p,i4,h4,e4,hp,hi4⟩:=N3 hc (h:=h3) (l:=[0,30,31]) gd (by simp) (by simp);rw[e4];simp only[AEV];obtain⟨q,i5,h5,e5,hq,hi5⟩:=N3 hc (h:=h4) (l:=[0,60,61]) hi4 (by simp) (by simp);rw[e5];simp only[AEV];simp at hp hq;rw[AG (x:=4294967296*p) (by omega) (by omega),AG (by omega) (by omega)];exact⟨_,i5,h5,rfl,by omega,by omega,hi5⟩
  |false=>
   simp only[AEL];rw[AG (x:=1+v1) (by omega) (by omega),AG (x:=1+v2) (by omega) (by omega),AG (x:=4294967296*_) (by omega) (by omega),AG (by omega) (by omega)];exact⟨_,i3,h3,rfl,by omega,by omega,gd⟩
end
end Go.M
end
section
namespace Go.M
open Go.M.H (Co AK BQ AQ Af AW Ac CN Bf A4)
section
variable{b:AAQ} (hb:Bytes b) (hl:b.length≤2^30)
include hb hl
end
def WI(l:List BQ):Prop:=l.length≤61∧ ∀e∈l,e.1.length≤41∧e.2.1.length≤9
theorem WI.w{l:List BQ}(h:WI l):Af Bf l≤4000:=by
 have key:∀l:List BQ,(∀e∈l,e.1.length≤41∧e.2.1.length≤9)→Af Bf l≤60*l.length:=by
  intro l
  induction l with
  |nil=>intro _;simp[Af]
  |cons e l ih=>
   intro hh;have:=hh e (by simp);have:=ih (fun e he=>hh e (by simp[he]));simp only[Af,Bf,AEI]at this⊢;omega
 have:=key l h.2;have:=h.1;omega
section
variable{code:AAQ} (hc:code.length≤2^30)
include hc
end
end Go.M
end
section
set_option maxRecDepth 8000
namespace Go.M
open Go.M.H (AH AN A7 A3 AA Co AK BQ AQ Aj BO A_ AR Ax Ce Af AW Ac Az CN Bf A4 Bq Ek Cp C1 Dm)
def OK(code:AAQ){X Y:Type}(Q:X→Y→Prop)(o:Option (X×(ABT×Y))):Prop:=
 ∃x i h y,o=some (x,((code,i,h,()),y))∧Ch code i∧Q x y
section
variable{code:AAQ} {X Y Z W:Type} {Q:X→Y→Prop} {R:Z→W→Prop}
theorem OK.bind{o:Option (X×(ABT×Y))}{f:X×(ABT×Y)→Option (Z×(ABT×W))}
  (ho:OK code Q o) (hf:∀x i h y,Ch code i→Q x y→OK code R (f (x,((code,i,h,()),y)))):OK code R (o.bind f):=by
 obtain⟨x,i,h,y,e,hi,hq⟩:=ho;rw[e];exact hf x i h y hi hq
theorem OK.pure{A:Type}{o:Option A}{a:A}{f:A→Option (Z×(ABT×W))}(ho:o=some a)(hf:OK code R (f a)):OK code R (o.bind f):=by
 rw[ho];exact hf
theorem OK.some{x:X}{i h:Int}{y:Y}(hi:Ch code i)(hq:Q x y):OK code Q (some (x,((code,i,h,()),y))):=⟨x,i,h,y,rfl,hi,hq⟩
theorem OK.cond{b:Bool}{x y:Option (X×(ABT×Y))}(h1:b=true→OK code Q x)(h2:b=false→OK code Q y):OK code Q (cond b x y):=by
 cases b
 ·exact h2 rfl
 ·exact h1 rfl
theorem OK.V4{p:Prop}[Decidable p]{x y:Option (X×(ABT×Y))}(h1:p→OK code Q x)(h2: ¬p→OK code Q y):OK code Q (_root_.cond (decide p) x y):=by
 by_cases hp:p
 ·rw[AFM hp];exact h1 hp
 ·rw[AF0 hp];exact h2 hp
theorem OK.Pg{a b:Int}{x y:Option (X×(ABT×Y))}(h1:a=b→OK code Q x)(h2:a≠b→OK code Q y):OK code Q (_root_.cond (a==b) x y):=by
 rw[EL];by_cases hp:a=b
 ·rw[AEA hp];exact h1 hp
 ·rw[AEB hp];exact h2 hp
theorem OK.ite{p:Prop}[Decidable p]{x y:Option (X×(ABT×Y))}(hp:p)(h1:OK code Q x):OK code Q (if p then x else y):=by
 rw[AEA hp];exact h1
end
section
variable{code:AAQ} (hc:code.length≤2^30)
include hc
theorem Ej{i h n:Int}(hi:Ch code i)(hn:n≤2^40):OK code (fun(x:ABO) (y:Unit)=>0≤x.1∧(0<n→x.1<n)∧(n≤0→x.1=0)) (AL n code i h):=by
 obtain⟨v,i',h',e,v0,v1,v2,Dg⟩:=GS hc (h:=h) hi hn;exact⟨(v,()),i',h',(),e,Dg,v0,v1,v2⟩
theorem Ny{i h n:Int}(hi:Ch code i)(hn:n≤2^40):OK code (fun(x:ABH) (y:Unit)=>True) (Al n code i h):=by
 obtain⟨v,i',h',e,Dg⟩:=cK hc (h:=h) hi hn;exact⟨(v,()),i',h',(),e,Dg,trivial⟩
theorem RZ{i h:Int}{l:AAQ}(hi:Ch code i)(hl:l≠[])(hn:l.length≤2^30):OK code (fun(x:ABO) (y:Unit)=>x.1∈l) (Ca l code i h):=by
 obtain⟨v,i',h',e,hv,Dg⟩:=N3 hc (h:=h) hi hl hn;exact⟨(v,()),i',h',(),e,Dg,hv⟩
theorem Tw{i h:Int}{l:List AAh}(hi:Ch code i)(hl:l≠[])(hn:l.length≤2^30):OK code (fun(x:ABR) (y:Unit)=>x.1∈l) (DI l code i h):=by
 obtain⟨v,i',h',e,hv,Dg⟩:=lO hc (h:=h) hi hl hn;exact⟨(v,()),i',h',(),e,Dg,hv⟩
theorem dt{c:B_}(cT:c.1.length≤2^10){i h:Int}(hi:Ch code i):OK code (fun(x:ABQ) (y:ABd)=>y.1.length≤2^12) (JC c code i h):=by
 have key:∀(n k N:Nat) (i h:Int) (b:AAQ),Ch code i→k≤N→N-k<n→N≤2^11→b.length≤k→
   OK code (fun(x:ABQ) (y:ABd)=>y.1.length≤2^12) (Eo n N k code i h c.1 c.2.1 b):=by
  intro n
  induction n with
  |zero=>intro k N i h b _ _ h;omega
  |succ n ih=>
   intro k N i h b hi hk hn hN hb;simp only[Eo,K0];refine OK.V4 (fun Er=> ?_) (fun lV=> ?_)
   ·refine OK.pure Gd ?_
    dsimp only;refine OK.bind (Ej hc hi (by omega)) fun x i' h' y Dg hq=> ?_
    dsimp only;refine OK.pure (Hp (by omega)) ?_
    dsimp only;rw[AG (by omega) (by omega),show((k:Int)+1)=((k+1:Nat):Int)by omega];have:=TA (n:=x.1) (l:=b);exact ih (k+1) N _ _ _ Dg (by omega) (by omega) hN (by omega)
   ·refine OK.bind (Ny hc hi (by omega)) fun x i' h' y Dg hq=> ?_
    dsimp only;refine OK.cond (fun _=> ?_) (fun _=> ?_)
    ·refine OK.bind (RZ hc Dg (by simp) (by simp)) fun x i' h' y Dg hq=> ?_
     dsimp only;refine OK.ite (by rw[Ao];omega) ?_
     exact OK.some Dg (by simp;omega)
    ·exact OK.some Dg (by show b.length≤_;omega)
 unfold JC Kl;rw[AG (by omega) (by omega)];refine OK.bind (Ej hc hi (by omega)) fun x i' h' y Dg hq=> ?_
 dsimp only;obtain⟨N,hN⟩:∃N:Nat,x.1=N:=⟨x.1.toNat,by omega⟩;rw[hN];exact key Ar 0 N i' h' [] Dg (by omega) (A0 (by omega)) (by omega) (by simp)
theorem g_{c:B_}(cT:c.1.length≤2^10){i h:Int}(hi:Ch code i):OK code (fun(x:ABQ) (y:ABd)=>y.1.length≤2^13) (Gy c code i h):=by
 have key:∀(n k:Nat) (i h:Int) (b:AAQ),Ch code i→k≤c.1.length→c.1.length-k<n→b.length≤2^12+k→
   OK code (fun(x:ABQ) (y:ABd)=>y.1.length≤2^13) (GO n k code i h c.1 c.2.1 b):=by
  intro n
  induction n with
  |zero=>intro k i h b _ _ h;omega
  |succ n ih=>
   intro k i h b hi hk hn hb;simp only[GO,Mo];refine OK.V4 (fun Er=> ?_) (fun lV=>OK.some hi (by show b.length≤_;omega));refine OK.pure (Cf (c:=(c.1,c.2.1,())) (by show c.1.length≤_;omega) (by omega)) ?_
   dsimp only;refine OK.cond (fun _=> ?_) (fun _=>OK.some hi (by show b.length≤_;omega));refine OK.pure (Hp (by omega)) ?_
   dsimp only;rw[AG (by omega) (by omega),show((k:Int)+1)=((k+1:Nat):Int)by omega];have:=TA (n:=(k:Int)) (l:=b);exact ih (k+1) _ _ _ hi (by omega) (by omega) (by omega)
 unfold Gy Mh;refine OK.bind (dt hc (c:=(c.1,c.2.1,())) cT hi) fun x i' h' y Dg hq=> ?_
 dsimp only;exact key Ar 0 i' h' y.1 Dg (by omega) (A0 (by omega)) (by omega)
end
theorem oh{x:Int}:BB (IntKind.wrap .i64 x):=by
 unfold BB IntKind.wrap;simp[IntKind.bits,IntKind.signed];split<;>omega
theorem AAr{a b:Int}:BB (bOr .i64 a b):=by
 unfold bOr;exact oh
theorem c_{l:AAQ}(hl:l.length≤2^20):∃r,Gq l=some ((r,()),())∧BB r:=by
 have key:∀(n k:Nat) (t:Int),(∀x∈l,0≤x)→BB t→k≤l.length→l.length-k<n→ ∃r,GC n l t k=some ((r,()),())∧BB r:=by
  intro n
  induction n with
  |zero=>intro k t _ _ _ h;omega
  |succ n ih=>
   intro k t hp ht hk hn;simp only[GC,M1,AE];by_cases Er:k<l.length
   ·rw[AEA (by omega),AEA (by omega),BC Er,AEB (by have:=hp _ (AEa Er);omega),AG (x:=(k:Int)+1) (by omega) (by omega),show((k:Int)+1)=((k+1:Nat):Int)by omega]
    exact ih (k+1) _ hp AAr (by omega) (by omega)
   ·rw[AEB (by omega)]
    exact⟨t,rfl,ht⟩
 unfold Gq Ms;rw[UB (by omega)];simp only[AF,BL];rcases AD8 (dN l 7)with ha|ha
 ·rw[ha]
  exact key Ar 0 0 (fun x hx=>((gG.1 ha).1 x hx).1) (by unfold BB;omega) (by omega) (A0 (by omega))
 ·rw[ha]
  exact⟨-1,rfl,by unfold BB;omega⟩
end Go.M
end
section
set_option maxRecDepth 8000
namespace Go.M
open Go.M.H (AH AN A7 A3 AA Co AK BQ AQ Aj BO A_ AR Ax Ce Af AW Ac Az CN Bf A4 Bq Ek Cp C1 Dm)
abbrev U_:AR×Unit→Unit→Prop:=fun x _=>BB x.1.2.1∧BB x.1.2.2.1∧BB x.1.2.2.2.1∧x.1.2.2.2.2.1.length≤40
theorem kh{x:AAh}(h:x∈[[],[97],[98,99],[100]]):x.length≤40:=by
 simp only[AEd,AHD,or_false]at h;rcases h with rfl|rfl|rfl|rfl<;>simp
theorem iS(x:Int):BB (AX x):=by
 unfold AX IntKind.wrap BB;simp[IntKind.bits,IntKind.signed];split<;>omega
theorem Hc{x:Int}(h: -1000≤x∧x≤1000):BB x:=by unfold BB;omega
section
variable{code:AAQ} (hc:code.length≤2^30) {w:AA} (h:LD w)
include hc h
theorem LD.nq{e:Int}(he:1≤e∧e≤w.A6.length):0<(Bj w.A6 e).length∧(Bj w.A6 e).length≤8∧ ∀x∈Bj w.A6 e,0≤x∧x<8:=by
 have hh:=(h.ak.A6 _ (Bg (d:=Gg) (show(e-1).toNat<(CK w).1.length by show _<w.A6.length;omega))).1;have hn:=MZ hh;have cT:=(Ff h.cfg).2.1;unfold Bj;rw[Aw.2 he,AEA rfl];refine⟨?_,E9 hn,fun x hx=> ?_⟩
 ·rcases Nat.eq_zero_or_pos (w.A6.getD (e-1).toNat Gg).1.length with h0|h0
  ·have dz:=AEg h0
   have hh':holds (Ae w) (w.A6.getD (e-1).toNat Gg).1=true:=hh;rw[dz,holds_nil]at hh';cases hh'
  ·exact h0
 ·have:=(GP.1 hn).2.1 x hx
  omega
theorem dU(hw:0<w.AJ.length){i hh:Int}(hi:Ch code i):OK code U_ (Da w code i hh):=by
 have k:=h.nums;have k2:=k.wr;have k5:=k.era;have oC:0<w.2.2.2.2.2.2.1.length:=hw;have tail:∀(j:Int),0≤j→j<(w.2.2.2.2.2.2.1.length:Int)→ ∀i hh,Ch code i→OK code U_ (
   (BW (w.2.2.2.2.1,w.2.2.2.2.2.1,()) ((w.2.2.2.2.2.2.1.getD (j.toNat) (0,[],())).1)).bind fun fA=>
   (AL (fA.2.1.length:Int) code i hh).bind fun Tv=>
   if(0:Int)≤Tv.1.1∧Tv.1.1<(fA.2.1.length:Int)then(
   cond ((((w.2.2.2.2.2.2.1.getD (j.toNat) (0,[],())).2.1).length:Int)==0)
    ((DI [[],[97],[98,99],[100]] Tv.2.1.1 Tv.2.1.2.1 Tv.2.1.2.2.1).bind fun QX=>
    some (((2,j,0,0,QX.1.1,()),()),((QX.2.1.1,QX.2.1.2.1,QX.2.1.2.2.1,()),())))
   ((Al 7 Tv.2.1.1 Tv.2.1.2.1 Tv.2.1.2.2.1).bind fun YY=>
   cond (YY.1.1)
    ((DI [[],[97],[98,99],[100]] YY.2.1.1 YY.2.1.2.1 YY.2.1.2.2.1).bind fun bG=>
    some (((2,j,0,0,bG.1.1,()),()),((bG.2.1.1,bG.2.1.2.1,bG.2.1.2.2.1,()),())))
   ((Al 3 YY.2.1.1 YY.2.1.2.1 YY.2.1.2.2.1).bind fun ai=>
   cond (ai.1.1)
    (some (((4,(fA.2.1.getD (Tv.1.1.toNat) 0),0,0,[],()),()),((ai.2.1.1,ai.2.1.2.1,ai.2.1.2.2.1,()),())))
   ((HV (((w.2.2.2.2.2.2.1.getD (j.toNat) (0,[],())).2.1).length:Int) 3).bind fun jN=>
   (AL jN.1.1 ai.2.1.1 ai.2.1.2.1 ai.2.1.2.2.1).bind fun UY=>
   some (((3,j,AX ((((w.2.2.2.2.2.2.1.getD (j.toNat) (0,[],())).2.1).length:Int)-UY.1.1),(fA.2.1.getD (Tv.1.1.toNat) 0),[],()),()),((UY.2.1.1,UY.2.1.2.1,UY.2.1.2.2.1,()),()))))))else none):=by
  intro j hj0 hj1 i hh hi;have hx:=h.AJ _ (Bg (d:=CL) (show j.toNat<w.AJ.length by show j.toNat<w.2.2.2.2.2.2.1.length;omega));have he:=hx.1.ep;obtain⟨e1,e2,e3⟩:=h.nq hc (e:=(w.AJ.getD j.toNat CL).1) ⟨he.1,hx.2⟩;refine OK.pure (Ci (r:=CK w) (by show Af CN w.2.2.2.2.1≤_;omega)) ?_
  dsimp only
  generalize hns:Bj (CK w).1 (w.2.2.2.2.2.2.1.getD j.toNat (0,[],())).1=ns
  have xV:Bj w.A6 (w.AJ.getD j.toNat CL).1=ns:=hns;rw[xV]at e1 e2 e3;refine OK.bind (Ej hc hi (by omega)) fun x i1 h1 y MT hq=> ?_
  dsimp only at*;refine OK.ite (by omega) ?_
  have lj:BB (ns.getD x.1.toNat 0):=Hc (by have:=e3 _ (Bg (l:=ns) (i:=x.1.toNat) (d:=0) (by omega));omega);have hjj:BB j:=Hc (by omega);have z:BB 0:=Hc (by omega)
  repeat' (first|refine OK.some (by assumption) ?_|refine OK.V4 (fun _=> ?_) (fun _=> ?_)|refine OK.Pg (fun _=> ?_) (fun _=> ?_)|refine OK.cond (fun _=> ?_) (fun _=> ?_)|refine OK.ite (by omega) ?_|(refine OK.bind (Ny (by assumption) (by assumption) (by omega)) fun x i h y hi hq=> ?_;dsimp only)|(refine OK.bind (Ej (by assumption) (by assumption) (by omega)) fun x i h y hi hq=> ?_;dsimp only at*)|(refine OK.bind (Tw (by assumption) (by assumption) (by simp) (by simp)) fun x i h y hi hq=> ?_;dsimp only)|(refine OK.pure Je ?_;dsimp only)|(refine OK.pure Gd ?_;dsimp only))
  all_goals refine⟨?_,?_,?_,?_⟩
  all_goals first
   |assumption
   |exact iS _
   |exact AG7 _
   |exact kh (by assumption)
 unfold Da;dsimp only;have e1:AX ((w.2.2.2.2.2.2.1.length:Int)-1)=(w.2.2.2.2.2.2.1.length:Int)-1:=AG (by omega) (by omega);simp only[e1];refine OK.bind (Ej hc hi (by omega)) fun x i1 h1 y MT hq=> ?_
 dsimp only at*;refine OK.bind (Ny hc MT (by omega)) fun x2 i2 h2 y2 Sb gW=> ?_
 dsimp only at*;refine OK.cond (fun _=> ?_) (fun _=> ?_)
 ·refine OK.ite (by omega) ?_
  exact tail _ (by omega) (by omega) _ _ Sb
 ·refine OK.ite (by omega) ?_
  exact tail _ (by omega) (by omega) _ _ Sb
end
end Go.M
end
section
set_option maxRecDepth 8000
namespace Go.M
open Go.M.H (AH AN A7 A3 AA Co AK BQ AQ Aj BO A_ AR Ax Ce Af AW Ac Az CN Bf A4 Bq Ek Cp C1 Dm)
section
variable{code:AAQ} (hc:code.length≤2^30) {w:AA} (h:LD w)
include hc h
theorem ez{m:A7}(hm:bj (Ae w) m){t7:Int}(h7:BB t7):∀(n k:Nat) (t8 i hh:Int),BB t8→Ch code i→k≤m.2.2.2.2.2.1.length→m.2.2.2.2.2.1.length-k<n→
  OK code U_ (DH n t7 t8 k code i hh w.1 w.2.1 w.2.2.1 w.2.2.2.1 w.2.2.2.2.1 w.2.2.2.2.2.1 w.2.2.2.2.2.2.1 w.2.2.2.2.2.2.2.1 w.2.2.2.2.2.2.2.2.1 w.2.2.2.2.2.2.2.2.2.1 w.2.2.2.2.2.2.2.2.2.2.1 0 0 0 0 [] m.1 m.2.1 m.2.2.1 m.2.2.2.1 m.2.2.2.2.1 m.2.2.2.2.2.1):=by
 have k1:=h.nums.c;have gV:m.2.2.2.2.2.1.length≤60:=by
  have:=hm.n;have hb:=HL (l:=m.2.2.2.1);split at this<;>omega
 intro n
 induction n with
 |zero=>intro k t8 i hh _ _ _ h;omega
 |succ n ih=>
  intro k t8 i hh h8 hi hk hn;have hk8:BB ((k+1:Nat):Int):=Hc (by omega);simp only[DH,KV];refine OK.V4 (fun Er=> ?_) (fun lV=>OK.some hi ⟨Hc (by show-1000≤(0:Int)∧(0:Int)≤1000;omega),h8,h7,AG7 _⟩);have AF9:k<m.2.2.2.2.2.1.length:=by omega
  refine OK.ite (by omega) ?_
  rw[AG (x:=(k:Int)+1) (by omega) (by omega),show((k:Int)+1)=((k+1:Nat):Int)by omega];have eM:=E9 (hm.wrote _ (Bg (d:=[]) AF9));refine OK.pure (Cf (c:=Ae w) (by show w.1.length≤_;omega) (by show(m.2.2.2.2.2.1.getD k []).length≤_;omega)) ?_
  dsimp only;refine OK.cond (fun _=> ?_) (fun _=>ih (k+1) _ _ _ h8 hi (by omega) (by omega));refine OK.bind (Ny hc hi (by omega)) fun x2 i2 h2 y2 Sb gW=> ?_
  dsimp only;exact OK.cond (fun _=>ih (k+1) _ _ _ hk8 Sb (by omega) (by omega)) (fun _=>ih (k+1) _ _ _ h8 Sb (by omega) (by omega))
theorem fL{i hh:Int}(hi:Ch code i):OK code U_ (G4 w code i hh):=by
 have k:=h.nums;have k5:=k.era;unfold G4 Kv;have z:BB 0:=Hc (by omega);refine OK.Pg (fun _=>OK.some hi ⟨z,z,z,AG7 _⟩) (fun SY=> ?_);have hlen:0<w.Bp.length:=by show 0<w.2.2.2.2.2.2.2.1.length;omega
 refine OK.ite (by omega) ?_
 have hmm:=h.Bp _ (Bg (d:=PL) hlen)
 generalize hg:w.2.2.2.2.2.2.2.1.getD 0 (0,0,[],[],false,[],())=m
 have gP:w.Bp.getD 0 PL=m:=hg;rw[gP]at hmm;obtain⟨hm,hm2,hm3⟩:=hmm;have he:=hm.ep;have hb:=hm.b;obtain⟨e1,e2,e3⟩:=h.nq hc (e:=m.2.1) ⟨he.1,by omega⟩;have gV:m.2.2.2.2.2.1.length≤60:=by
  have:=hm.n;have hb:=HL (l:=m.2.2.2.1);split at this<;>omega
 refine OK.pure (Ci (r:=CK w) (by show Af CN w.2.2.2.2.1≤_;omega)) ?_
 dsimp only
 generalize hns:Bj (CK w).1 m.2.1=ns
 have xV:Bj w.A6 m.2.1=ns:=hns;rw[xV]at e1 e2 e3;refine OK.bind (Ej hc hi (by omega)) fun x i1 h1 y MT hq=> ?_
 dsimp only at*;refine OK.ite (by omega) ?_
 have lj:BB (ns.getD x.1.toNat 0):=Hc (by have:=e3 _ (Bg (l:=ns) (i:=x.1.toNat) (d:=0) (by omega));omega);have fin:∀t8 i hh,BB t8→Ch code i→OK code U_ (DH Ar (ns.getD x.1.toNat 0) t8 0 code i hh w.1 w.2.1 w.2.2.1 w.2.2.2.1 w.2.2.2.2.1 w.2.2.2.2.2.1 w.2.2.2.2.2.2.1 w.2.2.2.2.2.2.2.1 w.2.2.2.2.2.2.2.2.1 w.2.2.2.2.2.2.2.2.2.1 w.2.2.2.2.2.2.2.2.2.2.1 0 0 0 0 [] m.1 m.2.1 m.2.2.1 m.2.2.2.1 m.2.2.2.2.1 m.2.2.2.2.2.1):=fun t8 i hh h8 hi=>
  ez hc h hm lj Ar 0 t8 i hh h8 hi (by omega) (A0 (by omega))
 repeat' (first|refine OK.some (by assumption) ?_|refine OK.V4 (fun _=> ?_) (fun _=> ?_)|refine OK.Pg (fun _=> ?_) (fun _=> ?_)|refine OK.cond (fun _=> ?_) (fun _=> ?_)|refine OK.ite (by omega) ?_|(refine OK.bind (Ny (by assumption) (by assumption) (by omega)) fun x i h y hi hq=> ?_;dsimp only)|(refine OK.bind (Ej (by assumption) (by assumption) (by omega)) fun x i h y hi hq=> ?_;dsimp only at*)|(refine OK.bind (Tw (by assumption) (by assumption) (by simp) (by simp)) fun x i h y hi hq=> ?_;dsimp only)|(refine OK.pure Je ?_;dsimp only)|(refine OK.pure Gd ?_;dsimp only))
 all_goals first
  |exact fin _ _ _ (iS _) (by assumption)
  |exact⟨z,z,z,AG7 _⟩
  |exact⟨lj,z,z,AG7 _⟩
theorem Sx{i hh:Int}(hi:Ch code i):OK code U_ (FK w code i hh):=by
 have k:=h.nums;have k1:=k.c;have k2:=k.wr;have k3:=k.lost;have k4:=k.st;have k5:=k.era;have k6:=k.se;have k7:=k.rh;have yU:=(Ff h.cfg).1;have AGq:1≤w.1.length:=yU;have z:BB 0:=Hc (by omega);have QV:∀i hh,Ch code i→OK code U_ ((Gy (w.1,w.2.1,()) code i hh).bind fun u3=>
   (Gq u3.2.2.1).bind fun u4=>
   some (((1,u4.1.1,0,0,[],()),()),((u3.2.1.1,u3.2.1.2.1,u3.2.1.2.2.1,()),()))):=fun i hh hi=>by
  refine OK.bind (g_ hc (c:=(w.1,w.2.1,())) (by show w.1.length≤_;omega) hi) fun x i1 h1 y MT hq=> ?_
  dsimp only;obtain⟨r,hr,hr2⟩:=c_ (l:=y.1) (by omega);refine OK.pure hr ?_
  exact OK.some MT ⟨hr2,z,z,AG7 _⟩
 have ACI:∀j:Nat,BB (w.2.2.2.2.2.2.2.2.2.1.getD j (0,[],false,())).1:=fun j=>by
  by_cases hj:j<w.2.2.2.2.2.2.2.2.2.1.length
  ·exact IL (h.Bk _ (Bg (d:=Oa) hj)).1
  ·rw[List.getD,AF2 (by omega)];exact z
 have ABz:BB (w.2.2.2.1.getD 0 0):=by
  by_cases hj:0<w.2.2.2.1.length
  ·have:=(GP.1 h.lost).2.1 _ (Bg (d:=0) hj)
   have hc8:(Ae w).1.length≤8:=k1;have AHQ:0≤w.2.2.2.1.getD 0 0∧w.2.2.2.1.getD 0 0<(Ae w).1.length:=this;exact Hc (by omega)
  ·rw[List.getD,AF2 (by omega)];exact z
 unfold FK;refine OK.Pg (fun _=>QV _ _ hi) (fun SY=> ?_);have hw0:0<w.AJ.length:=by show 0<w.2.2.2.2.2.2.1.length;omega
 have hwr:∀i hh,Ch code i→OK code U_ ((Da w code i hh).bind fun XM=>
   some (((XM.1.1.1,XM.1.1.2.1,XM.1.1.2.2.1,XM.1.1.2.2.2.1,XM.1.1.2.2.2.2.1,()),()),((XM.2.1.1,XM.2.1.2.1,XM.2.1.2.2.1,()),()))):=fun i hh hi=>
  OK.bind (dU hc h hw0 hi) fun x i1 h1 y MT hq=>OK.some MT hq
 have hmd:∀i hh,Ch code i→OK code U_ ((G4 w code i hh).bind fun XM=>
   some (((XM.1.1.1,XM.1.1.2.1,XM.1.1.2.2.1,XM.1.1.2.2.2.1,XM.1.1.2.2.2.2.1,()),()),((XM.2.1.1,XM.2.1.2.1,XM.2.1.2.2.1,()),()))):=fun i hh hi=>
  OK.bind (fL hc h hi) fun x i1 h1 y MT hq=>OK.some MT hq
 rw[show(w.1,w.2.1,w.2.2.1,w.2.2.2.1,w.2.2.2.2.1,w.2.2.2.2.2.1,w.2.2.2.2.2.2.1,w.2.2.2.2.2.2.2.1,w.2.2.2.2.2.2.2.2.1,w.2.2.2.2.2.2.2.2.2.1,w.2.2.2.2.2.2.2.2.2.2.1,())=w from rfl];refine OK.bind (Ny hc hi (by omega)) fun x2 i2 h2 y2 Sb gW=> ?_
 dsimp only;refine OK.cond (fun _=>QV _ _ Sb) (fun _=> ?_);refine OK.bind (Ej hc Sb (by omega)) fun x3 i3 h3 y3 gd hq3=> ?_
 dsimp only at*;have hx3:BB x3.1:=Hc (by omega)
 repeat' first
  |exact hwr _ _ (by assumption)
  |exact hmd _ _ (by assumption)
  |(refine OK.pure (H9 (r:=CK w) (by show w.2.2.2.2.1.length≤_;omega)) ?_;dsimp only)
  |(first|refine OK.some (by assumption) ?_|refine OK.V4 (fun _=> ?_) (fun _=> ?_)|refine OK.Pg (fun _=> ?_) (fun _=> ?_)|refine OK.cond (fun _=> ?_) (fun _=> ?_)|refine OK.ite (by omega) ?_|(refine OK.bind (Ny (by assumption) (by assumption) (by omega)) fun x i h y hi hq=> ?_;dsimp only)|(refine OK.bind (Ej (by assumption) (by assumption) (by omega)) fun x i h y hi hq=> ?_;dsimp only at*)|(refine OK.bind (Tw (by assumption) (by assumption) (by simp) (by simp)) fun x i h y hi hq=> ?_;dsimp only)|(refine OK.pure Je ?_;dsimp only)|(refine OK.pure Gd ?_;dsimp only))
 all_goals refine⟨?_,?_,?_,AG7 _⟩
 all_goals first
  |exact z
  |exact hx3
  |exact ACI _
  |exact ABz
  |(refine Hc ?_;dsimp only;omega)
end
end Go.M
end
section
set_option maxRecDepth 8000
namespace Go.M
open Go.M.H (AH AN A7 A3 AA Co AK BQ AQ Aj BO A_ AR Ax Ce Af AW Ac Az CN Bf A4 Bq Ek Cp C1 Dm)
theorem W3{s:AAQ}{p:Int}:∀{l:List A_} {b:Option AH},(∀x,b=some x→Ea x=true)→ ∀x,NG s p b l=some x→Ea x=true
 |[],b,hb,x,h=>hb x h
 |a::l,b,hb,x,h=>by
  simp only[NG]at h;split at h
  ·rename_i hc
   simp only[AEF]at hc;refine W3 (l:=l) ?_ x h
   intro z hz;split at hz
   ·rename_i z' hz'
    unfold better at hz;split at hz
    ·rw[←AGR hz];exact hc.2.2.1
    ·rw[←AGR hz];exact hb _ rfl
   ·rw[←AGR hz];exact hc.2.2.1
  ·exact W3 (l:=l) hb x h
theorem Wa{c:B_}{g:AK}{sure:Int}{r:Aj}{l:List A_}(h:∀e∈r.2.2.1,e.2.2.1.length≤40)(h0:(D1 c g sure r l).2=0):∀e∈(D1 c g sure r l).1.2.2.1,e.2.2.1.length≤40:=by
 have app:∀(ev:BO),ev.2.2.1.length≤40→ ∀e∈r.2.2.1++[ev],e.2.2.1.length≤40:=fun ev u0 e he=>by
  rcases AEZ.1 he with he|he
  ·exact h e he
  ·rw[AFp.1 he];exact u0
 have hf:∀p,(RX p (NG (g.1.getD (r.1-1).toNat Gg).1 p none l)).2.2.1.length≤40:=fun p=>by
  cases hb:NG (g.1.getD (r.1-1).toNat Gg).1 p none l with
  |none=>show 0≤40;omega
  |some x=>
   have:=(GL.1 (W3 (b:=none) (fun x hx=>by cases hx) x hb)).len;unfold RX;dsimp only;split
   ·show 0≤40;omega
   ·exact this
 revert h0
 unfold D1;dsimp only;split
 ·intro h0;cases h0
 split
 ·intro h0;cases h0
 split
 ·intro _;exact app _ (by show 0≤40;omega)
 split
 ·intro _;exact app _ (by show 0≤40;omega)
 split
 ·intro h0;cases h0
 split
 ·intro h0;cases h0
 intro _;exact app _ (hf _)
theorem Ag{w:AA}{n:Int}{q:AN×Bool}:(putAt w n q).1.Ai=w.Ai:=by
 unfold putAt;split<;>rfl
theorem eE{w:AA}{a k:Int}(h:eL w):eL (NL w a k).1:=by
 unfold NL;split
 ·exact h
 dsimp only;split
 ·exact h
 rename_i h2;intro r hr;rcases AGQ hr with hr|rfl
 ·exact h r hr
 ·refine Wa ?_ (by simpa using h2)
  by_cases hl:a.toNat<w.Ai.length
  ·exact h _ (Bg hl)
  ·rw[List.getD,AF2 (by omega)]
   intro e he;exact absurd he (by simp)
theorem B6{w w':AA}(h:eL w)(e:w'.Ai=w.Ai):eL w':=by
 unfold eL;rw[e];exact h
theorem hI{all:Bool}{w:AA}{d:AR}(h:eL w):eL (PR all w d).1:=by
 unfold PR;by_cases c:d.1=1
 ·rw[AEA c]
  clear c
  refine B6 h ?_
  unfold Rk
  try dsimp only
  repeat' split
  all_goals first|rfl|exact Ag
 rw[AEB c];clear c;by_cases c:d.1=2
 ·rw[AEA c]
  clear c
  refine B6 h ?_
  unfold doAdd
  try dsimp only
  repeat' split
  all_goals first|rfl|exact Ag
 rw[AEB c];clear c;by_cases c:d.1=3
 ·rw[AEA c]
  clear c
  refine B6 h ?_
  unfold OM
  try dsimp only
  repeat' split
  all_goals first|rfl|exact Ag
 rw[AEB c];clear c;by_cases c:d.1=4
 ·rw[AEA c]
  clear c
  refine B6 h ?_
  unfold Rc
  try dsimp only
  repeat' split
  all_goals first|rfl|exact Ag
 rw[AEB c];clear c;by_cases c:d.1=5
 ·rw[AEA c]
  clear c
  refine B6 h ?_
  unfold N5
  try dsimp only
  repeat' split
  all_goals first|rfl|exact Ag
 rw[AEB c];clear c;by_cases c:d.1=6
 ·rw[AEA c]
  clear c
  refine B6 h ?_
  unfold Rv
  try dsimp only
  repeat' split
  all_goals first|rfl|exact Ag
 rw[AEB c];clear c;by_cases c:d.1=7
 ·rw[AEA c]
  clear c
  refine B6 h ?_
  unfold Ro
  try dsimp only
  repeat' split
  all_goals first|rfl|exact Ag
 rw[AEB c];clear c;by_cases c:d.1=8
 ·rw[AEA c]
  clear c
  refine B6 h ?_
  unfold Rr
  try dsimp only
  repeat' split
  all_goals first|rfl|exact Ag
 rw[AEB c];clear c;by_cases c:d.1=9
 ·rw[AEA c]
  clear c
  refine B6 h ?_
  unfold RW
  try dsimp only
  repeat' split
  all_goals first|rfl|exact Ag
 rw[AEB c];clear c;by_cases c:d.1=10
 ·rw[AEA c]
  clear c
  refine B6 h ?_
  unfold Rb
  try dsimp only
  repeat' split
  all_goals first|rfl|exact Ag
 rw[AEB c];clear c;by_cases c:d.1=11
 ·rw[AEA c]
  clear c
  refine B6 h ?_
  unfold V7
  try dsimp only
  repeat' split
  all_goals first|rfl|exact Ag
 rw[AEB c];clear c;by_cases c:d.1=12
 ·rw[AEA c]
  clear c
  refine B6 h ?_
  unfold Nt
  try dsimp only
  repeat' split
  all_goals first|rfl|exact Ag
 rw[AEB c];clear c;by_cases c:d.1=13
 ·rw[AEA c]
  clear c
  refine B6 h ?_
  unfold S_
  try dsimp only
  repeat' split
  all_goals first|rfl|exact Ag
 rw[AEB c];clear c;by_cases c:d.1=14
 ·rw[AEA c];exact eE h
 rw[AEB c];clear c;by_cases c:d.1=15
 ·rw[AEA c]
  clear c
  refine B6 h ?_
  unfold RT
  try dsimp only
  repeat' split
  all_goals first|rfl|exact Ag
 rw[AEB c];clear c;refine B6 h ?_
 unfold Nl;split
 ·rfl
 ·exact Ag
theorem bM{c:B_}{g:AK}{sure:Int}{r:Aj}{l:List A_}(h:∀e∈r.2.2.1,BB e.2.1)(h0:(D1 c g sure r l).2=0):∀e∈(D1 c g sure r l).1.2.2.1,BB e.2.1:=by
 have app:∀(ev:BO),BB ev.2.1→ ∀e∈r.2.2.1++[ev],BB e.2.1:=fun ev u0 e he=>by
  rcases AEZ.1 he with he|he
  ·exact h e he
  ·rw[AFp.1 he];exact u0
 have hf:∀p b,(RX p b).2.1=p:=fun p b=>by
  cases b with
  |none=>rfl
  |some x=>unfold RX;dsimp only;split<;>rfl
 revert h0
 unfold D1;dsimp only;split
 ·intro h0;cases h0
 rename_i IK;have ADy:NY c g=true∧UG r=true:=by
  rcases AD8 (NY c g)with h1|h1
  ·rcases AD8 (UG r)with h2|h2
   ·exact⟨h1,h2⟩
   ·rw[h1,h2]at IK;exact absurd rfl IK
  ·rw[h1]at IK;exact absurd rfl IK
 have hrg:=(KF.1 ADy.1).tin;have PS:=Tk.1 ADy.2;have hre:=PS.ep;have hro:=PS.off;split
 ·intro h0;cases h0
 split
 ·intro _;exact app _ hrg
 split
 ·intro _;exact app _ (Hc (by show-1000≤r.1+1∧r.1+1≤1000;omega))
 split
 ·intro h0;cases h0
 split
 ·intro h0;cases h0
 intro _;refine app _ ?_
 rw[hf];unfold BB Lu;omega
theorem kY{w:AA}{a k:Int}(h:Sc w):Sc (NL w a k).1:=by
 unfold NL;split
 ·exact h
 dsimp only;split
 ·exact h
 rename_i h2;intro r hr;rcases AGQ hr with hr|rfl
 ·exact h r hr
 ·refine bM ?_ (by simpa using h2)
  by_cases hl:a.toNat<w.Ai.length
  ·exact h _ (Bg hl)
  ·rw[List.getD,AF2 (by omega)]
   intro e he;exact absurd he (by simp)
theorem C_{w w':AA}(h:Sc w)(e:w'.Ai=w.Ai):Sc w':=by
 unfold Sc;rw[show w'.2.2.2.2.2.2.2.2.1=w.2.2.2.2.2.2.2.2.1 from e];exact h
theorem pk{all:Bool}{w:AA}{d:AR}(h:Sc w):Sc (PR all w d).1:=by
 unfold PR;by_cases c:d.1=1
 ·rw[AEA c]
  clear c
  refine C_ h ?_
  unfold Rk
  try dsimp only
  repeat' split
  all_goals first|rfl|exact Ag
 rw[AEB c];clear c;by_cases c:d.1=2
 ·rw[AEA c]
  clear c
  refine C_ h ?_
  unfold doAdd
  try dsimp only
  repeat' split
  all_goals first|rfl|exact Ag
 rw[AEB c];clear c;by_cases c:d.1=3
 ·rw[AEA c]
  clear c
  refine C_ h ?_
  unfold OM
  try dsimp only
  repeat' split
  all_goals first|rfl|exact Ag
 rw[AEB c];clear c;by_cases c:d.1=4
 ·rw[AEA c]
  clear c
  refine C_ h ?_
  unfold Rc
  try dsimp only
  repeat' split
  all_goals first|rfl|exact Ag
 rw[AEB c];clear c;by_cases c:d.1=5
 ·rw[AEA c]
  clear c
  refine C_ h ?_
  unfold N5
  try dsimp only
  repeat' split
  all_goals first|rfl|exact Ag
 rw[AEB c];clear c;by_cases c:d.1=6
 ·rw[AEA c]
  clear c
  refine C_ h ?_
  unfold Rv
  try dsimp only
  repeat' split
  all_goals first|rfl|exact Ag
 rw[AEB c];clear c;by_cases c:d.1=7
 ·rw[AEA c]
  clear c
  refine C_ h ?_
  unfold Ro
  try dsimp only
  repeat' split
  all_goals first|rfl|exact Ag
 rw[AEB c];clear c;by_cases c:d.1=8
 ·rw[AEA c]
  clear c
  refine C_ h ?_
  unfold Rr
  try dsimp only
  repeat' split
  all_goals first|rfl|exact Ag
 rw[AEB c];clear c;by_cases c:d.1=9
 ·rw[AEA c]
  clear c
  refine C_ h ?_
  unfold RW
  try dsimp only
  repeat' split
  all_goals first|rfl|exact Ag
 rw[AEB c];clear c;by_cases c:d.1=10
 ·rw[AEA c]
  clear c
  refine C_ h ?_
  unfold Rb
  try dsimp only
  repeat' split
  all_goals first|rfl|exact Ag
 rw[AEB c];clear c;by_cases c:d.1=11
 ·rw[AEA c]
  clear c
  refine C_ h ?_
  unfold V7
  try dsimp only
  repeat' split
  all_goals first|rfl|exact Ag
 rw[AEB c];clear c;by_cases c:d.1=12
 ·rw[AEA c]
  clear c
  refine C_ h ?_
  unfold Nt
  try dsimp only
  repeat' split
  all_goals first|rfl|exact Ag
 rw[AEB c];clear c;by_cases c:d.1=13
 ·rw[AEA c]
  clear c
  refine C_ h ?_
  unfold S_
  try dsimp only
  repeat' split
  all_goals first|rfl|exact Ag
 rw[AEB c];clear c;by_cases c:d.1=14
 ·rw[AEA c];exact kY h
 rw[AEB c];clear c;by_cases c:d.1=15
 ·rw[AEA c]
  clear c
  refine C_ h ?_
  unfold RT
  try dsimp only
  repeat' split
  all_goals first|rfl|exact Ag
 rw[AEB c];clear c;refine C_ h ?_
 unfold Nl;split
 ·rfl
 ·exact Ag
theorem iC{all:Bool}{w:AA}{d:AR}(h:Sc w)(e:(I2 all w d).2=0):Sc (I2 all w d).1:=by
 unfold I2 at*;by_cases hc:(!MO w|| !Dq d)=true
 ·rw[AEA hc]at e;cases e
 ·rw[AEB hc];exact pk h
theorem gE{c:B_}:Sc (Qp c):=fun r hr=>by
 have:r=(1,1,[],()):=by
  have hr':r∈([(1,1,[],()),(1,1,[],())]:List Aj):=hr;simpa using hr'
 subst this;intro e he;cases he
theorem ax{all:Bool}{w:AA}{d:AR}(h:eL w)(e:(I2 all w d).2=0):eL (I2 all w d).1:=by
 unfold I2 at*;by_cases hc:(!MO w|| !Dq d)=true
 ·rw[AEA hc]at e;cases e
 ·rw[AEB hc];exact hI h
theorem gM{c:B_}(hc:Gf c=true):LD (Qp c)∧eL (Qp c):=by
 refine⟨⟨hc,by simp[Qp,H.AA.Av],S8 hc,.inr holds_nil,fun i hi=> ?_,⟨hc,by show 0≤30;omega,.inl rfl,fun e he=>(by cases he),fun i hi=>by exact absurd hi (by show¬i<0;omega)⟩,by show 0≤4;omega,by show 0≤1;omega,fun x hx=>(by cases hx),List.Pairwise.nil,fun x hx=>(by cases hx),rfl,fun r hr=> ?_,by show 0≤120;omega,fun x hx=>(by cases hx),List.Pairwise.nil⟩,fun r hr=> ?_⟩
 ·have:(Qp c).Av.getD i DO=DO:=by
   show(List.replicate c.1.length DO).getD i DO=DO
   rw[List.getD,AG3];split<;>rfl
  rw[this];exact⟨VU.nil,fun _=>rfl⟩
 ·have:r=(1,1,[],()):=by
   have hr':r∈([(1,1,[],()),(1,1,[],())]:List Aj):=hr;simpa using hr'
  subst this;exact⟨by show(1:Int)≤1∧(1:Int)≤31;omega,by show(1:Int)≤1∧(1:Int)≤61;omega,by show 0≤120;omega⟩
 ·have:r=(1,1,[],()):=by
   have hr':r∈([(1,1,[],()),(1,1,[],())]:List Aj):=hr;simpa using hr'
  subst this;intro e he;cases he
theorem XC{c:B_}(hc:Gf c=true):D9 c=some (((((),c.2.1,(),(),(),0,(),(),(),(),false,()),true,()),()),(c.1,List.replicate c.1.length DO,[],[],[],[],[(1,1,[],()),(1,1,[],())],[],())):=by
 have hl:=(Ff hc).2.1;unfold D9;rw[show(c.1,c.2.1,())=c from rfl,Dy (by omega),hc];simp only[AF,AET,AEL];rw[AEA (by rw[Ao];omega),AEA ⟨by omega,by omega,by rw[Ao];omega⟩];rfl
def RH(x:(ADs×Unit))(y:Unit×Unit×Unit×Unit×Unit×Unit×Unit×Unit×(List AR)×List Int×(List AN)×List Int×(List Co)×(List AQ)×(List A7)×(List Aj)×(List A3)×Unit):AA:=
 (y.2.2.2.2.2.2.2.2.2.1,x.1.2.2.1.2.1,y.2.2.2.2.2.2.2.2.2.2.1,y.2.2.2.2.2.2.2.2.2.2.2.1,y.2.2.2.2.2.2.2.2.2.2.2.2.1,x.1.2.2.1.2.2.2.2.2.1,y.2.2.2.2.2.2.2.2.2.2.2.2.2.1,y.2.2.2.2.2.2.2.2.2.2.2.2.2.2.1,y.2.2.2.2.2.2.2.2.2.2.2.2.2.2.2.1,y.2.2.2.2.2.2.2.2.2.2.2.2.2.2.2.2.1,x.1.2.2.1.2.2.2.2.2.2.2.2.2.2.1,())
section
variable{code:AAQ} (hc:code.length≤2^30)
include hc
theorem AAZ{T:Int}(hT:T≤1000){z1 z2:Int}{z3:Bool}:∀(n k:Nat) (i hh:Int) (w:AA) (acc:List AR),Ch code i→(k:Int)≤max T 0→(T-k).toNat<n→acc.length≤k→LD w→eL w→Sc w→
  OK code (fun x y=>LD (RH x y)∧eL (RH x y)∧Sc (RH x y)) (CA n T k code i hh 0 0 false [] [] [] [] [] [] [] [] 0 0 false [] [] [] [] [] [] [] [] z1 z2 z3 w.2.1 w.2.2.2.2.2.1 w.2.2.2.2.2.2.2.2.2.2.1 w.1 w.2.2.1 w.2.2.2.1 w.2.2.2.2.1 w.2.2.2.2.2.2.1 w.2.2.2.2.2.2.2.1 w.2.2.2.2.2.2.2.2.1 w.2.2.2.2.2.2.2.2.2.1 acc):=by
 intro n
 induction n with
 |zero=>intro k i hh w acc _ _ h;omega
 |succ n ih=>
  intro k i hh w acc hi hk hn hb hw hr hv;simp only[CA,JW];refine OK.V4 (fun Er=> ?_) (fun lV=>OK.some hi ⟨hw,hr,hv⟩);rw[show(w.1,w.2.1,w.2.2.1,w.2.2.2.1,w.2.2.2.2.1,w.2.2.2.2.2.1,w.2.2.2.2.2.2.1,w.2.2.2.2.2.2.2.1,w.2.2.2.2.2.2.2.2.1,w.2.2.2.2.2.2.2.2.2.1,w.2.2.2.2.2.2.2.2.2.2.1,())=w from rfl];refine OK.bind (Sx hc hw hi) fun x i1 h1 y MT hq=> ?_
  dsimp only;refine OK.ite (by rw[Ao];omega) ?_
  refine OK.pure (Xw (d:=x.1) (hw.win hr) hq.1) ?_
  rw[AG (by omega) (by omega),show((k:Int)+1)=((k+1:Nat):Int)by omega];refine OK.Pg (fun h0=> ?_) (fun h0=> ?_)
  ·have h0':(I2 true w x.1).2=0:=h0
   exact ih (k+1) i1 h1 (I2 true w x.1).1 (acc++[x.1]) MT (by omega) (by omega) (by simp;omega) (Td.1 (gi h0')) (ax hr h0') (iC hv h0')
  ·exact ih (k+1) i1 h1 w (acc++[x.1]) MT (by omega) (by omega) (by simp;omega) hw hr hv
theorem ABu{T:Int}(hT:0≤T∧T≤500){mV:AAQ}{tw:AAQ}(l4:tw.length≤100)(hd:RR mV 1):∀(n:Nat) (c i hh:Int),Ch code i→1≤c∧c≤3→c.toNat+1000≤n→
  OK code (fun x y=>LD (RH x y)∧eL (RH x y)∧Sc (RH x y)) (Cb n T code i hh 0 0 false [] [] [] [] [] [] [] [] 0 0 false [] [] [] [] [] [] [] [] c mV tw):=by
 intro n
 induction n with
 |zero=>intro c i hh _ _ h;omega
 |succ n ih=>
  intro c i hh hi cq hn;have hg:RR mV c:=⟨hd.1,hd.2.1,cq.1,cq.2,hd.2.2.2.2⟩;have hdl:=hd.2.1;simp only[Cb,KO];have fin:OK code (fun x y=>LD (RH x y)∧eL (RH x y)∧Sc (RH x y)) ((D9 (mV,c,())).bind fun u6=>
    (AL (AX (T+1)) code i hh).bind fun u7=>
    CA n u7.1.1 0 u7.2.1.1 u7.2.1.2.1 u7.2.1.2.2.1 0 0 false [] [] [] [] [] [] [] [] 0 0 false [] [] [] [] [] [] [] [] u6.1.1.1.2.1 u6.1.1.1.2.2.2.2.2.1 u6.1.1.1.2.2.2.2.2.2.2.2.2.2.1 u6.1.1.1.2.1 u6.1.1.1.2.2.2.2.2.1 u6.1.1.1.2.2.2.2.2.2.2.2.2.2.1 u6.2.1 u6.2.2.1 u6.2.2.2.1 u6.2.2.2.2.1 u6.2.2.2.2.2.1 u6.2.2.2.2.2.2.1 u6.2.2.2.2.2.2.2.1 u6.2.2.2.2.2.2.2.2.1 []):=by
   refine OK.pure (XC hg.ok) ?_
   rw[AG (by omega) (by omega)];refine OK.bind (Ej hc hi (by omega)) fun x i1 h1 y MT hq=> ?_
   have hwn:=gM hg.ok;exact AAZ hc (T:=x.1) (by omega) n 0 i1 h1 (Qp (mV,c,())) [] MT (by omega) (by omega) (by simp) hwn.1 hwn.2 gE
  refine OK.V4 (fun Er=> ?_) (fun lV=>fin);refine OK.pure (Cf (by show mV.length≤_;omega) (by omega)) ?_
  refine OK.cond (fun _=> ?_) (fun _=>fin);rw[AG (by omega) (by omega)];exact ih (c-1) i hh hi (by omega) (by omega)
theorem AB5{T:Int}(hT:0≤T∧T≤500){mV:AAQ}{c:Int}(hd:RR mV c):∀(n k:Nat) (i hh:Int) (b:AAQ),Ch code i→k≤mV.length→mV.length-k+1010≤n→b.length≤k→
  OK code (fun x y=>LD (RH x y)∧eL (RH x y)∧Sc (RH x y)) (Cd n T k code i hh 0 0 false [] [] [] [] [] [] [] [] 0 0 false [] [] [] [] [] [] [] [] c mV b):=by
 have hdl:=hd.2.1;intro n
 induction n with
 |zero=>intro k i hh b _ _ h;omega
 |succ n ih=>
  intro k i hh b hi hk hn hb;simp only[Cd,KT];refine OK.V4 (fun Er=> ?_) (fun lV=> ?_)
  ·refine OK.ite (by rw[Ao];omega) ?_
   rw[AG (by omega) (by omega),show((k:Int)+1)=((k+1:Nat):Int)by omega];exact ih (k+1) i hh _ hi (by omega) (by omega) (by simp;omega)
  ·exact ABu hc hT (by omega) ⟨hd.1,hd.2.1,by omega,by omega,hd.2.2.2.2⟩ n c i hh hi ⟨hd.2.2.1,hd.2.2.2.1⟩ (by have:=hd.2.2.2.1;omega)
theorem Zh{T:Int}(hT:0≤T∧T≤500){i hh:Int}(hi:Ch code i):OK code (fun x y=>LD (RH x y)∧eL (RH x y)∧Sc (RH x y)) (GK T code i hh):=by
 unfold GK KK;obtain⟨l,c,i1,h1,e,hg,MT⟩:=ZK hc (h:=hh) hi;rw[e];have hgl:=hg.2.1;exact AB5 hc hT hg Ar 0 i1 h1 [] MT (by omega) (AGz (A0 (by omega))) (by simp)
end
end Go.M
end
section
set_option maxRecDepth 8000
namespace Go.M
open Go.M.H (AH AN A7 A3 AA Co AK BQ AQ Aj BO A_ AR Ax Ce Af AW Ac Az CN Bf A4 Bq Ek Cp C1 Dm)
section
variable{code:AAQ} (hc:code.length≤2^30)
include hc
theorem dA{i hh:Int}(hi:Ch code i):OK code (fun(x:ABO) (_:Unit)=>BB x.1) (G7 code i hh):=by
 obtain⟨v,i1,h1,e,a,b,MT⟩:=ZG hc (h:=hh) hi;exact⟨(v,()),i1,h1,(),e,MT,by unfold BB;omega⟩
end
end Go.M
end
section
set_option maxRecDepth 8000
namespace Go.M
open Go.M.H (AH AN A7 A3 AA Co AK BQ AQ Aj BO A_ AR Ax Ce Af AW Ac Az CN Bf A4 Bq Ek Cp C1 Dm)
def kc(c:B_)(r:AK):Prop:=jx c r∨r=([],0,())
theorem kc.w{c:B_}{r:AK}(h:kc c r):Af CN r.1≤270:=by
 rcases h with h|rfl
 ·exact h.w
 ·show 0≤270;omega
theorem kc.n{c:B_}{r:AK}(h:kc c r):r.1.length≤30:=by
 rcases h with h|rfl
 ·exact h.n
 ·show 0≤30;omega
theorem kc.tin{c:B_}{r:AK}(h:kc c r):BB r.2.1:=by
 rcases h with h|rfl
 ·exact h.tin
 ·exact Hc (by show-1000≤(0:Int)∧(0:Int)≤1000;omega)
section
variable{code:AAQ} (hc:code.length≤2^30) {c:B_} (cT:c.1.length≤2^10)
include hc cT
end
section
variable{code:AAQ} (hc:code.length≤2^30) {c:B_} (hcf:Gf c=true)
include hc hcf
end
end Go.M
end
section
set_option maxRecDepth 8000
namespace Go.M
open Go.M.H (AH AN A7 A3 AA Co AK BQ AQ Aj BO A_ AR Ax Ce Af AW Ac Az CN Bf A4 Bq Ek Cp C1 Dm)
section
variable{code:AAQ} (hc:code.length≤2^30)
include hc
def pkw(w:AA):IZ:=((((),w.2.1,(),(),(),w.2.2.2.2.2.1,(),(),(),(),w.2.2.2.2.2.2.2.2.2.2.1,()),()),(w.1,w.2.2.1,w.2.2.2.1,w.2.2.2.2.1,w.2.2.2.2.2.2.1,w.2.2.2.2.2.2.2.1,w.2.2.2.2.2.2.2.2.1,w.2.2.2.2.2.2.2.2.2.1,()))
def oA(o:Option IZ):Prop:= ∃w,o=some (pkw w)∧mi w∧Sc w
omit hc in
theorem oA.bind{X Y:Type}{Q:X→Y→Prop}{o:Option (X×(ABT×Y))}{f:X×(ABT×Y)→Option IZ}
  (ho:OK code Q o) (hf:∀x i h y,Ch code i→Q x y→oA (f (x,((code,i,h,()),y)))):oA (o.bind f):=by
 obtain⟨x,i,h,y,e,hi,hq⟩:=ho;rw[e];exact hf x i h y hi hq
omit hc in
theorem oA.ite{p:Prop}[Decidable p]{x y:Option IZ}(hp:p)(h1:oA x):oA (if p then x else y):=by
 rw[AEA hp];exact h1
omit hc in
theorem oA.Pg{a b:Int}{x y:Option IZ}(h1:a=b→oA x)(h2:a≠b→oA y):oA (_root_.cond (a==b) x y):=by
 rw[EL];by_cases hp:a=b
 ·rw[AEA hp];exact h1 hp
 ·rw[AEB hp];exact h2 hp
end
end Go.M
end
section
set_option maxRecDepth 8000
namespace Go.M
open Go.M.H (AH AN A7 A3 AA Co AK BQ AQ Aj BO A_ AR Ax Ce Af AW Ac Az CN Bf A4 Bq Ek Cp C1 Dm)
structure AGi {α:Type} (f:α→Int) (p:Int) (l:List α) (q:Nat):Prop where
 le:q≤l.length
 lt:∀(i:Nat) (h:i<l.length),i<q→f l[i]<p
 ge:∀(i:Nat) (h:i<l.length),q≤i→p≤f l[i]
theorem VA{e o:Int}:K_ e o=some (((II e o,BX e 1 30&&BX o 1 60,()),()),()):=by
 unfold K_ Kj Oi II;rw[LN,LN];simp only[AF];rcases AD8 (BX e 1 30)with he|he
 rotate_left
 ·rw[he];rfl
 rcases AD8 (BX o 1 60)with ho|ho
 rotate_left
 ·rw[he,ho];rfl
 rw[he,ho];have h1:=Aw.1 he;have h2:=Aw.1 ho;simp only[AET,AEL,Bool.and_self,AGG];rw[AG (x:=4294967296*e) (by omega) (by omega),AG (by omega) (by omega)];rfl
end Go.M
end
section
set_option maxRecDepth 8000
namespace Go.M
open Go.M.H (AH AN A7 A3 AA Co AK BQ AQ Aj BO A_ AR Ax Ce Af AW Ac Az CN Bf A4 Bq Ek Cp C1 Dm)
theorem Sl{d:AR}:Mn d=some ((Dq d,()),()):=by
 obtain⟨k,a,b,n,t,⟨⟩⟩:=d;obtain⟨m,hm⟩:∃m,Ar=m+4:=⟨Ar-4,by have:=VV;omega⟩;have fin:∀(a' b' n':Int) (t':AAh),(((KL k 1 16).bind fun u4=>cond (u4.1.1) (cond ((((0:Int)==0)&&((a' ==0)&&((b' ==0)&&((n' ==0)&&((t' ==[])&&true))))) ) ((Pl t).bind fun u6=>some ((u6.1.1,()),())) (some ((false,()),()))) (some ((false,()),()))):Option Jh)=some ((BX k 1 16&&((a' ==0)&&((b' ==0)&&((n' ==0)&&((t' ==[])&&decide (t.length≤40))))),()),()):=by
  intro a' b' n' t';rw[LN];simp only[AF,Pl,AGl,AEh,AGt];have e:decide ((t.length:Int)≤40)=decide (t.length≤40):=by rw[decide_eq_decide];omega
  rw[e];cases BX k 1 16<;>cases a' ==0<;>cases b' ==0<;>cases n' ==0<;>cases t' ==[]<;>rfl
 unfold Mn PU I1 Dq Nu;rw[hm];have h1:((1:Nat):Int)=1:=rfl;have w1:AX (1:Int)=1:=AG (by omega) (by omega);have w2:AX (2:Int)=2:=AG (by omega) (by omega);have w3:AX (3:Int)=3:=AG (by omega) (by omega);have lim:(3:Nat)≤Cg:=by rw[Ao];omega
 have l0:(0:Nat)≤Cg:=by omega
 have l1:(1:Nat)≤Cg:=by rw[Ao];omega
 have l2:(2:Nat)≤Cg:=by rw[Ao];omega
 dsimp only;by_cases k8:k=8
 ·subst k8
  simpa[CD,Bw]using fin a b n t
 by_cases k10:k=10
 ·subst k10
  simpa[CD,Bw]using fin a b n t
 by_cases k12:k=12
 ·subst k12
  simpa[CD,Bw]using fin a b n t
 by_cases k2:k=2
 ·subst k2
  simpa[CD,Bw,l2,w1,w2]using fin 0 b n []
 by_cases k3:k=3
 ·subst k3
  simpa[CD,Bw,lim,w1,w2,w3]using fin 0 0 0 t
 by_cases k5:k=5
 ·subst k5
  simpa[CD,Bw,l2,w1,w2]using fin 0 0 n t
 by_cases k14:k=14
 ·subst k14
  simpa[CD,Bw,l2,w1,w2]using fin 0 0 n t
 by_cases vZ:k=11
 ·subst vZ
  simpa[CD,Bw,l2,w1,w2]using fin a 0 0 t
 by_cases k13:k=13
 ·subst k13
  simpa[CD,Bw,l1,w1]using fin 0 b n t
 have e8:(k==8)=false:=AEO.2 k8;have e10:(k==10)=false:=AEO.2 k10;have e12:(k==12)=false:=AEO.2 k12;have e2:(k==2)=false:=AEO.2 k2;have e3:(k==3)=false:=AEO.2 k3;have e5:(k==5)=false:=AEO.2 k5;have e14:(k==14)=false:=AEO.2 k14;have e11:(k==11)=false:=AEO.2 vZ;have e13:(k==13)=false:=AEO.2 k13;simpa[k8,k10,k12,k2,k3,k5,k14,vZ,k13,e8,e10,e12,e2,e3,e5,e14,e11,e13,CD,Bw,l1,w1]using fin 0 b n t
end Go.M
end
section
set_option maxRecDepth 8000
namespace Go.M
open Go.M.H (AH AN A7 A3 AA Co AK BQ AQ Aj BO A_ AR Ax Ce Af AW Ac Az CN Bf A4 Bq Ek Cp C1 Dm)
def o0(w:AA)(a:Int):Nat:=(w.Ai.getD a.toNat H6).2.2.1.length
structure HR (w v:AA) (a m:Int):Prop where
 ok:LD v
 win:mi v
 stop:(NL v a 255).2≠0
 cnt:0≤m∧m≤120
 len:(o0 v a:Int)=o0 w a+m
 QQ:o0 v (1-a)=o0 w (1-a)
end Go.M
end
section
set_option maxRecDepth 8000
namespace Go.M
open Go.M.H (AH AN A7 A3 AA Co AK BQ AQ Aj BO A_ AR Ax Ce Af AW Ac Az CN Bf A4 Bq Ek Cp C1 Dm)
def ww(w:AA)(SS:List AN)(ws:List AQ)(ms:List A7)(se:List A3):AA:=(((w.BZ SS).A5 ws).B8 se).Bn ms
section
variable{w:AA} (h:LD w) {st:AN} {SS:List AN} {n:Int} (hs:VU st) (hn:0≤n∧n<(Ae w).1.length) (hnS:n<(SS.length:Int)) (bg:SS.getD n.toNat DO=st)
include h hs hn hnS bg
end
section
variable{w:AA} (h:LD w)
include h
end
end Go.M
end
section
set_option maxRecDepth 8000
namespace Go.M
open Go.M.H (AH AN A7 A3 AA Co AK BQ AQ Aj BO A_ AR Ax Ce Af AW Ac Az CN Bf A4 Bq Ek Cp C1 Dm)
def bare(se:List A3):List (Int×List UInt8):=se.map fun s=>(s.1,s.2.1)
section
variable{w:AA} {se:List A3}
end
theorem nn{l m:List A3}(h:bare l=bare m):l.length=m.length:=by
 have:=congrArg List.length h;simpa[bare]using this
section
variable{w:AA}
end
theorem mW{l m:List A3}(h:bare l=bare m){s:A3}(hs:s∈l):∃t∈m,t.1=s.1∧t.2.1=s.2.1:=by
 have h1:(s.1,s.2.1)∈bare m:=by rw[←h];exact AGa.2 ⟨s,hs,rfl⟩
 obtain⟨t,ht,e⟩:=AGa.1 h1;simp only[AFH]at e;exact⟨t,ht,e.1,e.2⟩
theorem nZ{l m:List A3}(h:bare l=bare m)(ha:QT (fun s:A3=>s.1) l):QT (fun s:A3=>s.1) m:=by
 have e:∀l:List A3,QT (fun s:A3=>s.1) l↔(bare l).Pairwise fun x y=>x.1<y.1:=fun l=>by
  unfold bare QT;rw[AG6]
 rw[e]at ha⊢
 rwa [←h]
theorem LD.B8{w:AA}{se:List A3}(hw:LD w)(h:bare se=bare w.Bk):LD (w.B8 se) where
 cfg:=hw.cfg
 bc:=hw.bc
 lost:=hw.lost
 Fp:=hw.Fp
 Av:=hw.Av
 ak:=hw.ak
 bl:=hw.bl
 iT:=hw.iT
 AJ:=hw.AJ
 UA:=hw.UA
 Bp:=hw.Bp
 bo:=hw.bo
 Ai:=hw.Ai
 Lg:=by
  have:=hw.Lg;rw[←nn h]at this;exact this
 Bk:=fun s hs=>by
  obtain⟨t,ht,e1,e2⟩:=mW h (show s∈se from hs);have:=hw.Bk t ht;rw[e1,e2]at this;exact this
 T1:=nZ h.symm hw.T1
end Go.M
end
section
set_option maxRecDepth 8000
namespace Go.M
open Go.M.H (AH AN A7 A3 AA Co AK BQ AQ Aj BO A_ AR Ax Ce Af AW Ac Az CN Bf A4 Bq Ek Cp C1 Dm)
structure Up (w v:AA):Prop where
 rd:∀k,k<2→Lu (w.Ai.getD k H6).1 (w.Ai.getD k H6).2.1≤Lu (v.Ai.getD k H6).1 (v.Ai.getD k H6).2.1∧(w.Ai.getD k H6).2.2.1.length≤(v.Ai.getD k H6).2.2.1.length
 er:w.A6.length≤v.A6.length∧ ∀i,i<w.A6.length→(w.A6.getD i Gg).2.1=true→(v.A6.getD i Gg).2.1=true∧(v.A6.getD i Gg).2.2.1=(w.A6.getD i Gg).2.2.1
 Fp:w.Fp=true→v.Fp=true
 se:w.Bk.length≤v.Bk.length
section
variable{w:AA} (hw:LD w)
end
end Go.M
end
section
namespace Go.M
open Go.Lib (decDigits itoa)
open Go.M.H (BO AR)
theorem LZ{u:Nat}(h:u<10):decDigits u=[UInt8.ofNat (48+u)]:=by rw[decDigits,dif_pos h]
theorem RO{u:Nat}(h: ¬u<10):decDigits u=decDigits (u/10)++[UInt8.ofNat (48+u%10)]:=by rw[decDigits,dif_neg h]
theorem Mq:∀(n u:Nat),u<10^(n+1)→(decDigits u).length≤n+1
 |0,u,h=>by rw[LZ (by omega)];simp
 |n+1,u,h=>by
  by_cases hu:u<10
  ·rw[LZ hu];simp
  ·rw[RO hu,AEM]
   have:=Mq n (u/10) (by rw[Nat.pow_succ]at h;omega);simp only[AEI,AEc];omega
theorem Qz(u:Nat):1≤(decDigits u).length:=by
 by_cases hu:u<10
 ·rw[LZ hu];simp
 ·rw[RO hu];simp
theorem jA:∀(n t:Nat) (acc:AAh) (f:Nat),0<t→t<10^n→n<f→acc.length+n≤100→t<2^63→Hr f (t:Int) acc=some ((decDigits t++acc,()),())
 |0,t,acc,f,h0,h1,_,_,_=>by simp at h1;omega
 |n+1,t,acc,0,_,_,hf,_,_=>by omega
 |n+1,t,acc,f+1,h0,h1,hf,ha,h63=>by
  show Gn (Hr f) t acc=_
  unfold Gn;have e1:(t:Int).tmod 10=((t%10:Nat):Int):=by rw[AGw (by omega)];omega
  have e2:(t:Int).tdiv 10=((t/10:Nat):Int):=by rw[Int.tdiv_eq_ediv_of_nonneg (by omega)];omega
  rw[AE,AEA (by omega),e1,e2,AG (by omega) (by omega),AG (by omega) (by omega),ACH (by omega) (by omega)];have e3:([48+((t%10:Nat):Int)].map fun n:Int=>UInt8.ofNat n.toNat)=[UInt8.ofNat (48+t%10)]:=by
   simp only[AGY,AG9];rw[show(48+((t%10:Nat):Int)).toNat=48+t%10 by omega]
  simp only[e3];rw[AEA (by rw[Ao];simp only[AEI,AEc];omega)];by_cases ht:t<10
  ·obtain⟨g,rfl⟩:∃g,f=g+1:=⟨f-1,by omega⟩
   rw[show t/10=0 by omega,LZ ht,show t%10=t by omega]
   show Gn (Hr g) ((0:Nat):Int) _=_
   unfold Gn;rw[AE,AEB (by omega)]
  ·rw[jA n (t/10) _ f (by omega) (by rw[Nat.pow_succ]at h1;omega) (by omega) (by simp only[AEM,AEI,AEc];omega) (by omega),RO ht]
   simp
def HS(n:Int):AAh:=decDigits n.toNat
theorem QN{n:Int}(h:n<9223372036854775808):Ly n=some ((HS n,()),()):=by
 unfold Ly Qf HS;rw[AE];by_cases h0:n≤0
 ·rw[AEA h0,show n.toNat=0 by omega,LZ (by omega)];rfl
 ·rw[AEB h0]
  obtain⟨t,rfl⟩:=Int.eq_ofNat_of_zero_le (show 0≤n by omega);rw[show(t:Int).toNat=t by omega];have:=jA 19 t [] Ar (by omega) (by omega) (A0 (by omega)) (by simp) (by omega);simpa using this
theorem itoa_nonneg{n:Int}(h:0≤n):itoa n=HS n:=by
 unfold itoa HS;rw[AEB (by omega)]
theorem SU{n:Int}(h:BB n):FA n=some ((itoa n,()),()):=by
 unfold FA strconv_Itoa Go.Fw.jH;unfold BB at h;rw[AEA (by omega)];rfl
theorem S4{n:Int}(h:BB n)(h0:0≤n):FA n=some ((HS n,()),()):=by rw[SU h,itoa_nonneg h0]
theorem It{n:Int}(h:n<100):(HS n).length≤2:=Mq 1 n.toNat (by omega)
theorem cD{n:Int}(h:n<9223372036854775808):(HS n).length≤19:=Mq 18 n.toNat (by omega)
theorem E_{p:Int}(h:Ay p=true):(1≤Ah p∧Ah p≤30)∧(1≤CY p∧CY p≤60):=by
 unfold Ah CY;rw[AEA h,h,AEb];unfold Ay BX at h;simp only[AEF,AEK]at h;exact h
def ET(p:Int):AAh:=if Ay p then[101]++HS (Ah p)++[46]++HS (CY p)else[]
theorem U2(p:Int):(ET p).length≤6:=by
 unfold ET;split
 ·rename_i h
  obtain⟨h1,h2⟩:=E_ h;have:=It (n:=Ah p) (by omega);have:=It (n:=CY p) (by omega);simp only[AEM,AEI,AEc];omega
 ·simp
theorem Py{p:Int}(h:BB p):IX p=some ((ET p,()),()):=by
 unfold IX ET;rw[C6 h];simp only[AF,BL];rcases AD8 (Ay p)with hp|hp
 rotate_left
 ·rw[hp];rfl
 obtain⟨h1,h2⟩:=E_ hp;have l1:=It (n:=Ah p) (by omega);have l2:=It (n:=CY p) (by omega);rw[hp,AEb,CO h,MV h];simp only[AF,QN (show Ah p<9223372036854775808 by omega),QN (show CY p<9223372036854775808 by omega)];rw[AEA (by rw[Ao];omega),AEA (by rw[Ao];simp only[AEM,AEI,AEc];omega),AEA (by rw[Ao];simp only[AEM,AEI,AEc];omega)];rfl
theorem P0{p:Int}(h:BB p):Gp p=some ((ET p,()),()):=by
 unfold Gp ET;rw[Jk h];simp only[AF,BL];rcases AD8 (Ay p)with hp|hp
 rotate_left
 ·rw[hp];rfl
 obtain⟨h1,h2⟩:=E_ hp;have l1:=It (n:=Ah p) (by omega);have l2:=It (n:=CY p) (by omega);have i1:BB (Ah p):=by unfold BB;omega
 have i2:BB (CY p):=by unfold BB;omega
 rw[hp,AEb,YQ h,bO h];simp only[AF,S4 i1 (by omega),S4 i2 (by omega)];rw[AEA (by rw[Ao];omega),AEA (by rw[Ao];simp only[AEM,AEI,AEc];omega),AEA (by rw[Ao];simp only[AEM,AEI,AEc];omega)];rfl
end Go.M
end
section
namespace Go.M
open Go.Lib (decDigits itoa)
open Go.M.H (BO AR)
theorem cg:∀(n u:Nat),10^n≤u→n+1≤(decDigits u).length
 |0,u,_=>Qz u
 |n+1,u,h=>by
  rw[Nat.pow_succ]at h;have hp:0<10^n:=Nat.pow_pos (by omega);rw[RO (by omega),AEM];have:=cg n (u/10) (by omega);simp only[AEI,AEc];omega
def JM(n:Int):Bool:=BX n 0 9999999999
theorem lS{n:Int}(h:BB n):(decide (n≥0)&&decide (((itoa n).length:Int)≤10))=JM n:=by
 unfold JM BX;by_cases h0:n≥0
 ·rw[AFM h0,AEh,itoa_nonneg h0]
  unfold HS;by_cases h1:n≤9999999999
  ·have:=Mq 9 n.toNat (by omega)
   rw[AFM (show 0≤n∧n≤9999999999 from⟨h0,h1⟩),AFM (by omega)]
  ·have:=cg 10 n.toNat (by omega)
   rw[AF0 (show¬(0≤n∧n≤9999999999)by omega),AF0 (by omega)]
 ·rw[AF0 h0,AHM,AF0 (by omega)]
def Cj:List AAh:=[[111,112,101,110],[97,100,100],[115,116,111,114,101],[115,121,110,99],[99,114,97,115,104],[108,111,115,101],[102,105,108,108],[109,101,110,100],[115,101,97,108],[112,108,97,110],[102,105,120],[99,108,111,115,101],[116,114,105,109],[114,101,97,100],[100,114,111,112],[112,114,117,110,101]]
def BD(k:Int):AAh:=Cj.getD (k-1).toNat []
def JL(k:Int):AAQ:=
 if k=8∨k=10∨k=12 then[]else if k=2 then[65,84]else if k=3 then[65,66,67]else if k=5∨k=14 then[65,66]else if k=11 then[66,67]else if k=13 then[80]else[65]
def Ou(d:AR)(c:Int):Int:=if c=66 then d.2.2.1 else if c=67 then d.2.2.2.1 else d.2.1
def GD(d:AR)(c:Int):AAh:=if c=84 then d.2.2.2.2.1 else if c=80 then ET d.2.1 else itoa (Ou d c)
def Fl(d:AR)(c:Int):Bool:=if c=84 then !Go.Lib.contains d.2.2.2.2.1 [10]else if c=80 then Ay d.2.1 else JM (Ou d c)
def PH(d:AR):List Int→List UInt8→Option AAh
 |[],acc=>some acc
 |c::l,acc=>if Fl d c then PH d l (acc++([32]++GD d c))else none
def BG(d:AR):Option AAh:=if Dq d then PH d (JL d.1) (BD d.1)else none
def Im(o:Option AAh):ADu:=(o.getD [],o.isSome,())
structure QK (d:AR):Prop where
 a:BB d.2.1
 b:BB d.2.2.1
 c:BB d.2.2.2.1
theorem Vi{d:AR}(h:QK d)(ht:d.2.2.2.2.1.length≤2^21)(c:Int):LF d c=some (((GD d c,Fl d c,()),()),()):=by
 have num:∀n:Int,BB n→((FA n).bind fun u4=>cond (decide (n≥0)) (some (((u4.1.1,decide ((u4.1.1.length:Int)≤10),()),()),())) (some (((u4.1.1,false,()),()),())))=(some (((itoa n,JM n,()),()),()):Option Q1):=fun n hn=>by
  rw[SU hn,←lS hn];simp only[AF];cases decide (n≥0)<;>rfl
 unfold LF GD Fl Ou;by_cases c1:c=84
 ·subst c1
  unfold strings_Contains Go.Fw.Tj;rw[AEA (show d.2.2.2.2.1.length<4294967281 by omega)];rfl
 rw[AEO.2 c1,AEB c1,AEB c1,AEL];by_cases c2:c=80
 ·subst c2
  rw[P0 h.a,Jk h.a];rfl
 rw[AEO.2 c2,AEB c2,AEB c2,AEL];by_cases c3:c=66
 ·subst c3
  exact num _ h.b
 rw[AEO.2 c3,AEB c3,AEL];by_cases c4:c=67
 ·subst c4
  exact num _ h.c
 rw[AEO.2 c4,AEB c4,AEL];exact num _ h.a
theorem lC{n:Int}(h:BB n):(itoa n).length≤20:=by
 unfold itoa;unfold BB at h;split
 ·have:=Mq 18 n.natAbs (by omega)
  simp only[AEI];omega
 ·have:=Mq 18 n.toNat (by omega)
  omega
theorem ea{d:AR}(h:QK d)(ht:d.2.2.2.2.1.length≤2^21)(c:Int):(GD d c).length≤2^21:=by
 unfold GD;split
 ·exact ht
 ·split
  ·have:=U2 d.2.1;omega
  ·have:BB (Ou d c):=by
    unfold Ou;split
    ·exact h.b
    ·split
     ·exact h.c
     ·exact h.a
   have:=lC this;omega
theorem SJ{d:AR}(h:QK d)(ht:d.2.2.2.2.1.length≤2^21){all:AAQ}(OJ:all.length≤100):∀(l:AAQ) (i:Nat) (acc:AAh) (f:Nat),all.drop i=l→i≤all.length→l.length<f→acc.length+l.length*2^22≤2^35→
  FN f acc (all.length:Int) (i:Int) d.1 d.2.1 d.2.2.1 d.2.2.2.1 d.2.2.2.2.1 all=some ((Im (PH d l acc),()),())
 |l,i,acc,0,_,_,hf,_=>by omega
 |[],i,acc,f+1,hd,hi,hf,ha=>by
  show En (FN f) acc _ _ _ _ _ _ _ _=_
  unfold En;have:all.length≤i:=by simpa using hd
  rw[AE,AEB (by omega)];rfl
 |c::l,i,acc,f+1,hd,hi,hf,ha=>by
  show En (FN f) acc _ _ _ _ _ _ _ _=_
  unfold En;have Er:i<all.length:=by
   by_cases hh:i<all.length
   ·exact hh
   ·rw[AEU (by omega)]at hd;cases hd
  rw[AFq Er]at hd;have hc:all[i]=c:=(AFs hd).1;have hl:all.drop (i+1)=l:=(AFs hd).2;rw[AE,AEA (by omega),AEA (by omega),BC Er,hc,show(d.1,d.2.1,d.2.2.1,d.2.2.2.1,d.2.2.2.2.1,())=d from rfl,Vi h ht];simp only[AF,BL];have hx:=ea h ht c;simp only[AEI]at ha hf;unfold PH;rcases AD8 (Fl d c)with ho|ho
  ·rw[ho,AEb,AEA rfl,AEA (by rw[Ao];omega),AEA (by rw[Ao];simp only[AEM,AEI,AEc];omega),AG (by omega) (by omega)]
   have:=SJ h ht OJ l (i+1) (acc++([32]++GD d c)) f hl (by omega) (by omega) (by simp only[AEM,AEI,AEc];omega);rw[←this];rfl
  ·rw[ho];rfl
theorem ES{d:AR}(h:Dq d=true):(1≤d.1∧d.1≤16)∧d.2.2.2.2.1.length≤40:=by
 unfold Dq BX at h;simp only[AEF,AEK]at h;exact⟨h.1,h.2.2.2.2.2⟩
theorem Tn{k:Int}(h:1≤k∧k≤16):k=1∨k=2∨k=3∨k=4∨k=5∨k=6∨k=7∨k=8∨k=9∨k=10∨k=11∨k=12∨k=13∨k=14∨k=15∨k=16:=by omega
theorem SV{k:Int}(h:1≤k∧k≤16):∃s:List UInt8,I1 k=some ((s,()),())∧s.length≤3∧(s.map fun c=>(c.toNat:Int))=JL k:=by
 rcases Tn h with rfl|rfl|rfl|rfl|rfl|rfl|rfl|rfl|rfl|rfl|rfl|rfl|rfl|rfl|rfl|rfl<;>exact⟨_,rfl,by decide,rfl⟩
theorem cZ(k:Int):(JL k).length≤3:=by
 unfold JL
 repeat (split;·simp)
 simp
theorem Nz(k:Int):(BD k).length≤5:=by
 unfold BD;by_cases h:(k-1).toNat<Cj.length
 ·rw[List.getD,AD9 h]
  have:∀x∈Cj,x.length≤5:=by decide
  exact this _ (AEa h)
 ·rw[List.getD,AF2 (by omega)];simp
theorem MB{d:AR}(h:QK d):Ga d=some ((Im (BG d),()),()):=by
 unfold Ga Nc BG;rw[show(d.1,d.2.1,d.2.2.1,d.2.2.2.1,d.2.2.2.2.1,())=d from rfl,Sl];simp only[AF,BL];rcases AD8 (Dq d)with ho|ho
 rotate_left
 ·rw[ho];rfl
 obtain⟨hk,ht⟩:=ES ho;obtain⟨s,e1,e2,e3⟩:=SV hk;rw[ho,AEb,AEA rfl,AG (by omega) (by omega)];have e4:Ik=some (((),()),(Cj,())):=rfl;rw[e4];simp only[AF];rw[AEA (by show _∧_<(16:Int);omega),e1];simp only[AF];rw[AEA (by rw[Ao];omega),e3];have hw:=Nz d.1;have hl:=cZ d.1;exact SJ h (by omega) (by omega) (JL d.1) 0 (BD d.1) Ar rfl (by omega) (A0 (by omega)) (by omega)
end Go.M
end
section
namespace Go.M
open Go.Lib (decDigits itoa)
open Go.M.H (BO AR)
theorem fa:∀l:List UInt8,(0≤Go.Lib.index l [10])↔(10:UInt8)∈l
 |[]=>by simp[Go.Lib.index]
 |b::l=>by
  have ih:=fa l;have hg:=Go.Lib.index_ge l [10];unfold Go.Lib.index;by_cases hb:b=10
  ·subst hb
   simp[List.isPrefixOf]
  ·have e:List.isPrefixOf [10] (b::l)=false:=by simp[List.isPrefixOf,Ne.symm hb]
   rw[e];simp only[AER,AFJ,AEd,Ne.symm hb,false_or];rw[←ih];by_cases h1:Go.Lib.index l [10]= -1
   ·rw[h1];simp
   ·rw[AEB (by simpa using h1)]
    omega
theorem fo(l:AAh):Go.Lib.contains l [10]=l.contains 10:=by
 unfold Go.Lib.contains;rw[Bool.eq_iff_iff];simp only[AEK,fa,AGo]
def numsOf(d:AR):AAQ:=
 if d.1=8∨d.1=10∨d.1=12∨d.1=13 then[]else if d.1=3 then[d.2.1,d.2.2.1,d.2.2.2.1]else if d.1=5∨d.1=14 then[d.2.1,d.2.2.1]else if d.1=11 then[d.2.2.1,d.2.2.2.1]else[d.2.1]
def J6:List Int→List UInt8→Option AAh
 |[],acc=>some acc
 |n::l,acc=>if JM n then J6 l ((acc++[32])++HS n)else none
def IM(d:AR)(acc:AAh):AAh:=if d.1=2 then(acc++[32])++d.2.2.2.2.1 else if d.1=13 then(acc++[32])++ET d.2.1 else acc
theorem RJ{n:Int}(h:JM n=true):itoa n=HS n:=by
 unfold JM BX at h;simp only[AEK]at h;exact itoa_nonneg h.1
theorem XT{d:AR}:∀(cs:AAQ) (acc:AAh),(∀c∈cs,c≠84∧c≠80)→PH d cs acc=J6 (cs.map (Ou d)) acc
 |[],acc,_=>rfl
 |c::cs,acc,h=>by
  obtain⟨h1,h2⟩:=h c (by simp);simp only[PH,AGY,J6];rw[show Fl d c=JM (Ou d c)by unfold Fl;rw[AEB h1,AEB h2]];by_cases hn:JM (Ou d c)=true
  ·rw[AEA hn,AEA hn,XT cs _ fun x hx=>h x (by simp[hx])]
   rw[show GD d c=HS (Ou d c)by unfold GD;rw[AEB h1,AEB h2,RJ hn],AEE]
  ·rw[AEB hn,AEB hn]
theorem gm{k:Int}(h2:k≠2)(gp:k≠13):∀c∈JL k,c≠84∧c≠80:=by
 unfold JL;rw[AEB h2,AEB gp];intro c;split
 ·simp
 split
 ·simp;omega
 split
 ·simp;omega
 split
 ·simp;omega
 ·simp;omega
theorem gw{d:AR}(h2:d.1≠2)(gp:d.1≠13):numsOf d=(JL d.1).map (Ou d):=by
 unfold numsOf JL;rw[AEB h2,AEB gp];by_cases c1:d.1=8∨d.1=10∨d.1=12
 ·rw[AEA c1,AEA (by omega)];rfl
 rw[AEB c1,AEB (by omega)];by_cases c2:d.1=3
 ·rw[AEA c2,AEA c2];rfl
 rw[AEB c2,AEB c2];by_cases c3:d.1=5∨d.1=14
 ·rw[AEA c3,AEA c3];rfl
 rw[AEB c3,AEB c3];by_cases c4:d.1=11
 ·rw[AEA c4,AEA c4];rfl
 rw[AEB c4,AEB c4];rfl
theorem fQ{d:AR}(ho:Dq d=true)(h2:d.1≠2):d.2.2.2.2.1=[]:=by
 unfold Dq Nu at ho;simp only[AEF]at ho;have h5:=ho.2.2.2.2.1;rw[AEB h2]at h5;split at h5
 ·simpa using h5
 split at h5
 ·simpa using h5
 split at h5
 ·simpa using h5
 split at h5
 ·simpa using h5
 ·simpa using h5
theorem UO{d:AR}(ho:Dq d=true):BG d=if(d.1=13∧Ay d.2.1=false)∨d.2.2.2.2.1.contains 10=true then none else(J6 (numsOf d) (BD d.1)).map (IM d):=by
 unfold BG;rw[AEA ho];by_cases h2:d.1=2
 ·have e:JL d.1=[65,84]:=by rw[h2];rfl
  have e2:numsOf d=[d.2.1]:=by unfold numsOf;rw[h2];rfl
  rw[e,e2];simp only[PH,J6];rw[show Fl d 65=JM d.2.1 from rfl,show Fl d 84= !d.2.2.2.2.1.contains 10 by rw[←fo];rfl];by_cases hn:JM d.2.1=true
  ·rw[AEA hn,AEA hn,show GD d 65=HS d.2.1 from RJ hn]
   rcases AD8 (d.2.2.2.2.1.contains 10)with hc|hc
   ·rw[hc];simp
   ·have e3:IM d=fun acc=>(acc++[32])++d.2.2.2.2.1:=by funext acc;unfold IM;rw[AEA h2]
    rw[hc,e3,show GD d 84=d.2.2.2.2.1 from rfl];simp[h2]
  ·rw[AEB hn,AEB hn]
   split<;>rfl
 have ht:=fQ ho h2;rw[ht];by_cases gp:d.1=13
 ·have e:JL d.1=[80]:=by rw[gp];rfl
  have e2:numsOf d=[]:=by unfold numsOf;rw[gp];rfl
  rw[e,e2];simp only[PH,J6];rw[show Fl d 80=Ay d.2.1 from rfl];rcases AD8 (Ay d.2.1)with hp|hp
  ·have e3:IM d=fun acc=>(acc++[32])++ET d.2.1:=by funext acc;unfold IM;rw[AEB h2,AEA gp]
   rw[hp,e3,show GD d 80=ET d.2.1 from rfl];simp
  ·rw[hp];simp[gp]
 rw[AEB (by simp[gp]),XT _ _ (gm h2 gp),gw h2 gp];have:IM d=id:=by funext acc;unfold IM;rw[AEB h2,AEB gp];rfl
 rw[this,Option.map_id];rfl
theorem Md{d:AR}(h:QK d)(ht:d.2.2.2.2.1.length≤2^21){all:AAQ}(OJ:all.length≤100)(RE:∀x∈all,BB x):∀(l:AAQ) (i:Nat) (acc:AAh) (f:Nat),all.drop i=l→i≤all.length→l.length<f→acc.length+l.length*100≤2^20→
  CS f acc (i:Int) d.1 d.2.1 d.2.2.1 d.2.2.2.1 d.2.2.2.2.1 all=some ((Im ((J6 l acc).map (IM d)),()),())
 |l,i,acc,0,_,_,hf,_=>by omega
 |[],i,acc,f+1,hd,hi,hf,ha=>by
  show ER (Cl f) (CS f) acc _ _ _ _ _ _ _=_
  unfold ER;have:all.length≤i:=by simpa using hd
  rw[AE,AEB (by omega)];simp only[AEc,Nat.zero_mul,AGS]at ha;by_cases c1:d.1=2
  ·have e3:IM d acc=(acc++[32])++d.2.2.2.2.1:=by unfold IM;rw[AEA c1]
   rw[show J6 [] acc=some acc from rfl,AGV,e3,c1,AEA (by rw[Ao];omega),AEA (by rw[Ao];simp only[AEM,AEI,AEc];omega)];rfl
  by_cases c2:d.1=13
  ·have hp:=U2 d.2.1
   have e3:IM d acc=(acc++[32])++ET d.2.1:=by unfold IM;rw[AEB c1,AEA c2]
   rw[show J6 [] acc=some acc from rfl,AGV,e3,c2,Py h.a];have k1:acc.length+1≤Cg:=by rw[Ao];omega
   have k2:(acc++[32]).length+(ET d.2.1).length≤Cg:=by rw[Ao];simp only[AEM,AEI,AEc];omega
   simp only[AF,AEA k1,AEA k2];rfl
  have e3:IM d acc=acc:=by unfold IM;rw[AEB c1,AEB c2]
  rw[show J6 [] acc=some acc from rfl,AGV,e3,AEO.2 c1,AEL,AEO.2 c2,AEL];rfl
 |c::l,i,acc,f+1,hd,hi,hf,ha=>by
  show ER (Cl f) (CS f) acc _ _ _ _ _ _ _=_
  unfold ER;have Er:i<all.length:=by
   by_cases hh:i<all.length
   ·exact hh
   ·rw[AEU (by omega)]at hd;cases hd
  rw[AFq Er]at hd;have hc:all[i]=c:=(AFs hd).1;have hl:all.drop (i+1)=l:=(AFs hd).2;have hci:BB c:=RE c (by rw[←hc];exact AEa Er);rw[AE,AEA (by omega),AEA (by omega),BC Er,hc,An];simp only[AF,BL,AEI]at ha hf⊢;simp only[J6];rw[show BX c 0 9999999999=JM c from rfl];rcases AD8 (JM c)with ho|ho
  ·have hx:=cD (n:=c) hci.2
   rw[ho,AEb,AEA rfl,AEA (by rw[Ao];omega),AEA (by omega),QN hci.2];simp only[AF];rw[AEA (by rw[Ao];simp only[AEM,AEI,AEc];omega),AG (by omega) (by omega)];have:=Md h ht OJ RE l (i+1) ((acc++[32])++HS c) f hl (by omega) (by omega) (by simp only[AEM,AEI,AEc];omega);rw[←this];rfl
  ·rw[ho];rfl
theorem L2(d:AR):(numsOf d).length≤3:=by
 unfold numsOf
 repeat (split;·simp)
 simp
theorem bh{d:AR}(h:QK d):∀x∈numsOf d,BB x:=by
 have ha:=h.a;have hb:=h.b;have hc:=h.c;unfold numsOf
 repeat (split;·simp_all)
 simp_all
theorem SD{d:AR}:Ku d=some (((),()),(numsOf d,())):=by
 unfold Ku numsOf;by_cases c1:d.1=8
 ·rw[c1];rfl
 by_cases c2:d.1=10
 ·rw[c2];rfl
 by_cases c3:d.1=12
 ·rw[c3];rfl
 by_cases c4:d.1=13
 ·rw[c4];rfl
 rw[AEO.2 c1,AEO.2 c2,AEO.2 c3,AEO.2 c4,AEB (by omega)];simp only[AEL];by_cases c5:d.1=3
 ·rw[c5];rfl
 rw[AEO.2 c5,AEB c5,AEL];by_cases c6:d.1=5
 ·rw[c6];rfl
 by_cases c7:d.1=14
 ·rw[c7];rfl
 rw[AEO.2 c6,AEO.2 c7,AEB (by omega)];simp only[AEL];by_cases c8:d.1=11
 ·rw[c8];rfl
 rw[AEO.2 c8,AEB c8];rfl
theorem SO{k:Int}(h:1≤k∧k≤16):K5 k=some ((BD k,()),()):=by
 unfold K5 BD;rw[AEA (by omega)];obtain⟨m,rfl⟩:∃m:Nat,k=((m+1:Nat):Int):=⟨(k-1).toNat,by omega⟩;rw[show(((m+1:Nat):Int)-1).toNat=m by omega,show(((m+1:Nat):Int)).toNat=m+1 by omega];rfl
theorem Ng{d:AR}(h:QK d)(hk:1≤d.1∧d.1≤16)(ht:d.2.2.2.2.1.length≤40):∀(l:AAh) (i f:Nat),d.2.2.2.2.1.drop i=l→i≤d.2.2.2.2.1.length→l.length+10<f→
  Cl f (i:Int) d.1 d.2.1 d.2.2.1 d.2.2.2.1 d.2.2.2.2.1=some ((Im (if l.contains 10 then none else(J6 (numsOf d) (BD d.1)).map (IM d)),()),())
 |l,i,0,_,_,hf=>by omega
 |[],i,f+1,hd,hi,hf=>by
  show Ep (Cl f) (CS f) _ _ _ _ _ _=_
  unfold Ep;have:d.2.2.2.2.1.length≤i:=by simpa using hd
  have hw:=Nz d.1;have hl:=L2 d;rw[AE,AEB (by omega),SO hk,show(d.1,d.2.1,d.2.2.1,d.2.2.2.1,d.2.2.2.2.1,())=d from rfl,SD];simp only[AF];have:=Md h (by omega) (by omega) (bh h) (numsOf d) 0 (BD d.1) f rfl (by omega) (by simp only[AEc]at hf;omega) (by omega);rw[show((0:Nat):Int)=0 from rfl]at this;rw[this];rfl
 |c::l,i,f+1,hd,hi,hf=>by
  show Ep (Cl f) (CS f) _ _ _ _ _ _=_
  unfold Ep;have Er:i<d.2.2.2.2.1.length:=by
   by_cases hh:i<d.2.2.2.2.1.length
   ·exact hh
   ·rw[AEU (by omega)]at hd;cases hd
  rw[AFq Er]at hd;have hc:d.2.2.2.2.1[i]=c:=(AFs hd).1;have hl:d.2.2.2.2.1.drop (i+1)=l:=(AFs hd).2;rw[AE,AEA (by omega),AEA (by omega),BC Er,hc];by_cases h10:c=10
  ·subst h10
   simp;rfl
  ·have e:((c.toNat:Int)==10)=false:=by
    rw[AEO];intro hh;apply h10;apply UInt8.toNat_inj.1
    show c.toNat=10
    omega
   rw[e,AEL,AG (by omega) (by omega)];simp only[AEI]at hf;have:=Ng h hk ht l (i+1) f hl (by omega) (by omega);rw[show((i:Int)+1)=((i+1:Nat):Int)by omega,this];simp only[List.contains_cons];rw[show(10==c)=false by rw[AEO];exact Ne.symm h10,AGO]
theorem Lr{d:AR}(h:QK d):EB d=some ((Im (BG d),()),()):=by
 unfold EB NN;rw[show(d.1,d.2.1,d.2.2.1,d.2.2.2.1,d.2.2.2.2.1,())=d from rfl,Ol];simp only[AF,BL];rcases AD8 (Dq d)with ho|ho
 rotate_left
 ·unfold BG
  rw[ho];rfl
 obtain⟨hk,ht⟩:=ES ho;have key:=Ng h hk ht d.2.2.2.2.1 0 Ar rfl (by omega) (A0 (by omega));rw[show((0:Nat):Int)=0 from rfl]at key;rw[ho,AEb,UO ho];by_cases c2:d.1=13
 ·rw[c2,C6 h.a]
  simp only[AF,AGl,AEb,BL];rw[c2]at key;rcases AD8 (Ay d.2.1)with hp|hp
  ·rw[hp,AEb,key]
   simp
  ·rw[hp];simp;rfl
 ·rw[AEO.2 c2,AEL,key]
  simp[c2]
end Go.M
end
