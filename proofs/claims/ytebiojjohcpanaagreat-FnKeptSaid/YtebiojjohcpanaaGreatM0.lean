/- Plain facts on what the functions compute. -/
import Derived.Test.YtebiojjohcpanaaGreatG0
set_option linter.unusedVariables false
set_option linter.unusedSimpArgs false
set_option linter.unusedSectionVars false
section
namespace Go.M
theorem AB{α:Type}(p:Prop)[Decidable p](a b:α):cond (decide p) a b=if p then a else b:=by
 simp_all
theorem AL{x:Int}(h1: -9223372036854775808≤x)(h2:x<9223372036854775808):AZ x=x:=by
 grind[AZ,IntKind.wrap,IntKind.bits,IntKind.signed]
theorem AHt{n:Nat}(h:n<9223372036854775808):AZ (n:Int)=n:=AL (by omega) (by omega)
theorem ACS(n:Nat):(BitVec.ofInt 64 (n:Int)).toNat=n%2^64:=by
 rfl
theorem qM{n:Nat}(h:n<2^63):IntKind.wrap .i64 (n:Int)=n:=AHt (by omega)
theorem AD0{a b:Nat}(ha:a<2^63)(hb:b<2^63):cZ .i64 a b=((a &&& b:Nat):Int):=by
 grind[cZ,BitVec.ofInt,IntKind.bits,BitVec.toNat_and,ACS,Nat.mod_eq_of_lt,qM,Nat.lt_of_le_of_lt,Nat.and_le_left]
theorem Ag{n:Nat}(h:n<2^64):n<Ae:=ATM h bV
theorem Aj{α:Type}{l:List α}{i:Nat}{d:α}(h:i<l.length):l.getD ((i:Int).toNat) d=l[i]:=by
 simp_all
theorem drop_cons{α:Type}{l:List α}{i:Nat}(h:i<l.length):l.drop i=l[i]::l.drop (i+1):=(List.getElem_cons_drop h).symm
theorem BX:Dw=68719476736:=rfl
end Go.M
end
section
namespace Go.M
def BN(x a b:Int):Bool:=decide (a≤x∧x≤b)
theorem Bd(x a b:Int):CK x a b=some ((BN x a b,()),()):=by
 unfold CK BN;grind
theorem Ax(x a b:Int):A3 x a b=some ((BN x a b,()),()):=Bd x a b
def Ej(x:ABL):Bool:=BN (x.1.length:Int) 1 8&&(BN x.2.1 1 4&&x.1.all fun d=>BN d 0 7)
theorem cE{l:AAH}{c:Int}(hl:l.length≤2^40):∀(n i:Nat),i≤l.length→l.length-i<n→LP n i l c=some (((l.drop i).all fun d=>BN d 0 7,()),())
 |0,i,_,h=>by omega
 |n+1,i,hi,h=>by
  simp only[LP,Va,AB];by_cases hc:i<l.length
  ·rw[ALP (by omega),ALP (by omega),Aj hc,Bd,AL (by omega) (by omega),drop_cons hc]
   simp only[AM0,ATl];cases hb:BN l[i] 0 7 with
   |false=>simp
   |true=>
    simp only[AMO,AMh,AMn];rw[show(((i:Nat):Int)+1)=((i+1:Nat):Int)by omega,cE hl n (i+1) (by omega) (by omega)]
  grind
theorem HL{x:ABL}(hl:x.1.length≤2^40):GU x=some ((Ej x,()),()):=by
 unfold GU VM Ej;simp only[Bd,AM0];cases BN (x.1.length:Int) 1 8 with
 |false=>simp
 |true=>
  cases BN x.2.1 1 4 with
  |false=>simp
  |true=>
   grind[cE,Ae,Ag]
theorem bl{l:AAH}{c:Int}(hl:l.length≤2^40):∀(n i:Nat),i≤l.length→l.length-i<n→
  Lr n l l.length i l c=some ((((l.drop i).all fun d=>BN d 0 7)&&(BN (l.length:Int) 1 8&&BN c 1 4),()),())
 |0,i,_,h=>by omega
 |n+1,i,hi,h=>by
  simp only[Lr,VJ,AB];by_cases hc:i<l.length
  ·rw[ALP (by omega),ALP (by omega),Aj hc,Ax,AL (by omega) (by omega),drop_cons hc]
   simp only[AM0,ATl];cases hb:BN l[i] 0 7 with
   |false=>simp
   |true=>
    simp only[AMO,AMh,AMn];rw[show(((i:Nat):Int)+1)=((i+1:Nat):Int)by omega,bl hl n (i+1) (by omega) (by omega)]
  ·rw[ALo (by omega)]
   have:i=l.length:=by omega
   subst this;simp only[Ax,AM0,ATs,List.all_nil,AMn];grind
theorem La{x:ABL}(hl:x.1.length≤2^40):E4 x=some ((Ej x,()),()):=by
 unfold E4 Vm Ej;have:=bl (l:=x.1) (c:=x.2.1) hl Ae 0 (by omega) (Ag (by omega));grind
theorem Gh{x:ABL}(h:Ej x=true):1≤x.1.length∧x.1.length≤8∧1≤x.2.1∧x.2.1≤4∧ ∀d∈x.1,0≤d∧d≤7:=by
 simp only[Ej,BN,AMC,AMi,ATg]at h;grind
end Go.M
end
section
namespace Go.M
def Bytes(b:AAH):Prop:= ∀c∈b,0≤c∧c<256
end Go.M
end
section
namespace Go.M
theorem wf_i64{c:Int}(h:(Go.Lit.int .i64 c).wf=true): -9223372036854775808≤c∧c<9223372036854775808:=by
 simp only[Go.Lit.wf,AMC,AMi]at h;have h1:Go.IntKind.min .i64= -9223372036854775808:=rfl;simp_all;omega
end Go.M
end
section
namespace Go.M
abbrev Ev:Type:=Int×Int×List UInt8×Unit
abbrev Rdr:Type:=Int×Int×List Ev×Unit
def W6(x:Rdr):Bool:=BN x.1 1 31&&(BN x.2.1 1 61&&decide ((x.2.2.1.length:Int)≤120))
theorem PJ(x:Rdr):M7 x=some ((W6 x,()),()):=by
 grind[M7,W6,Bd,BN]
theorem Z_(x:Rdr):Tx x=some ((W6 x,()),()):=PJ x
end Go.M
end
section
namespace Go.M
def Gf(code:AAH)(i:Int):Prop:=0≤i∧i≤code.length
theorem AAC(x:Int):∃v:Int,cZ .i64 x 255=v∧0≤v∧v<256:=by
 refine⟨_,rfl,?_⟩;grind[cZ,BitVec.ofInt,Go.IntKind.bits,BitVec.toNat_and,Nat.lt_of_le_of_lt,Nat.and_le_right,qM]
section
variable{code:AAH} (hc:code.length≤2^30)
include hc
theorem aD{i h:Int}(hi:Gf code i):∃v i' h',Ly code i h=some ((v,()),((code,i',h',()),()))∧0≤v∧v<256∧Gf code i':=by
 unfold Ly;simp only[AB];obtain⟨h0,h1⟩:=hi;split
 ·rename_i Lu
  rw[ALP ⟨h0,Lu⟩,AL (x:=i+1) (by omega) (by omega)];obtain⟨v,e,v0,v1⟩:=AAC (AZ (cZ .i64 (AS1 .i64 ((AZ (AZ (h*6364136223846793005)+1442695040888963407)).fdiv (2^33)) ((AZ (AZ (h*6364136223846793005)+1442695040888963407)).fdiv (2^45))) 255+AZ (code.getD i.toNat 0)));exact⟨v,i+1,_,by rw[e],v0,v1,by omega,by omega⟩
 ·obtain⟨v,e,v0,v1⟩:=AAC (AS1 .i64 ((AZ (AZ (h*6364136223846793005)+1442695040888963407)).fdiv (2^33)) ((AZ (AZ (h*6364136223846793005)+1442695040888963407)).fdiv (2^45)))
  exact⟨v,i,_,by rw[e],v0,v1,h0,h1⟩
theorem QL{i h n:Int}(hi:Gf code i)(hn:n≤2^40):∃v i' h',Am n code i h=some ((v,()),((code,i',h',()),()))∧0≤v∧(0<n→v<n)∧(n≤0→v=0)∧Gf code i':=by
 unfold Am;simp only[AB];split
 ·grind
 ·split
  ·obtain⟨v,i1,h1,e,v0,v1,eo⟩:=aD hc (h:=h) hi
   rw[e];simp only[AM0];rw[ALo (by omega),Int.tmod_eq_emod_of_nonneg v0];exact⟨_,i1,h1,rfl,Int.emod_nonneg _ (by omega),fun _=>Int.emod_lt_of_pos _ (by omega),by omega,eo⟩
  ·obtain⟨v1,i1,h1,e1,a1,b1,eo⟩:=aD hc (h:=h) hi
   obtain⟨v2,i2,h2,e2,a2,b2,ye⟩:=aD hc (h:=h1) eo;obtain⟨v3,i3,h3,e3,a3,b3,hi3⟩:=aD hc (h:=h2) ye;obtain⟨v4,i4,h4,e4,a4,b4,hi4⟩:=aD hc (h:=h3) hi3;rw[e1];simp only[AM0];rw[e2];simp only[AM0];rw[e3];simp only[AM0];rw[e4];simp only[AM0];rw[AL (x:=v1*16777216) (by omega) (by omega),AL (x:=v2*65536) (by omega) (by omega),AL (x:=v3*256) (by omega) (by omega),AL (x:=v1*16777216+v2*65536) (by omega) (by omega),
    AL (x:=v1*16777216+v2*65536+v3*256) (by omega) (by omega),AL (by omega) (by omega),ALo (by omega),Int.tmod_eq_emod_of_nonneg (by omega)]
   exact⟨_,i4,h4,rfl,Int.emod_nonneg _ (by omega),fun _=>Int.emod_lt_of_pos _ (by omega),by omega,hi4⟩
theorem sV{i h n:Int}(hi:Gf code i)(hn:n≤2^40):∃v i' h',B6 n code i h=some ((v,()),((code,i',h',()),()))∧Gf code i':=by
 unfold B6;obtain⟨v,i1,h1,e,_,_,_,eo⟩:=QL hc (h:=h) hi hn;rw[e];exact⟨_,i1,h1,rfl,eo⟩
theorem ur{i h:Int}{l:AAH}(hi:Gf code i)(hl:l≠[])(hn:l.length≤2^30):∃v i' h',N_ l code i h=some ((v,()),((code,i',h',()),()))∧v∈l∧Gf code i':=by
 unfold N_;have hp:=AXk.2 hl;obtain⟨v,i1,h1,e,v0,v1,_,eo⟩:=QL hc (h:=h) (n:=l.length) hi (by omega);grind
omit hc in
theorem AAz{n:Nat}:∀(m i:Nat) (h:Int),i≤code.length→code.length-i<m→ ∃h',Pu m code h i=some (((),()),((code,0,h',()),()))
 |0,_,_,_,h=>by omega
 |m+1,i,h,hi,hm=>by
  simp only[Pu,Zv,AB];by_cases Lu:i<code.length
  ·rw[ALP (by omega)]
   split
   ·rw[ALP (by omega),AL (x:=(i:Int)+1) (by omega) (by omega),show((i:Int)+1)=((i+1:Nat):Int)by omega]
    exact AAz (n:=n) m (i+1) _ (by omega) (by omega)
   ·exact⟨_,rfl⟩
  ·rw[ALo (by omega)]
   exact⟨_,rfl⟩
theorem AEa:∃h',bY code=some (((),()),((code,0,h',()),())):=by
 unfold bY Z5;exact AAz (n:=0) Ae 0 _ (by omega) (Ag (by omega))
def ay(l:AAH)(c:Int):Prop:=3≤l.length∧l.length≤7∧1≤c∧c≤3∧ ∀d∈l,0≤d∧d≤4
omit hc in
theorem ay.ok{l:AAH}{c:Int}(h:ay l c):Ej (l,c,())=true:=by
 obtain⟨h1,h2,h3,h4,h5⟩:=h;simp only[Ej,BN,AMC,AMi,ATg];exact⟨by omega,by omega,fun d hd=>by have:=h5 d hd;omega⟩
theorem fj{N:Nat}(hN:3≤N∧N≤7){c:Int}(h1:1≤c∧c≤3){x1:Int}{x2:AAH}:∀(n k:Nat) (i h:Int) (acc:AAH),Gf code i→k≤N→N-k<n→acc.length=k→(∀d∈acc,0≤d∧d≤4)→
  ∃l c' i' h',IW n N k code i h x1 x2 c acc=some ((((),c',()),()),((code,i',h',()),l,()))∧ay l c'∧Gf code i'
 |0,_,_,_,_,_,_,h,_,_=>by omega
 |n+1,k,i,h,acc,hi,hk,hn,hacc,hd=>by
  simp only[IW,RN,AB];by_cases Lu:k<N
  ·rw[ALP (by omega)]
   obtain⟨v,i1,h1',e,v0,v1,_,eo⟩:=QL hc (h:=h) (n:=5) hi (by omega);rw[e];simp only[AM0];rw[ALP (by rw[BX];omega),AL (by omega) (by omega),show((k:Int)+1)=((k+1:Nat):Int)by omega];have:=v1 (by omega);exact fj hN h1 n (k+1) i1 h1' _ eo (by omega) (by omega) (by simp[hacc]) (fun d hdd=>by
    grind)
  ·rw[ALo (by omega)]
   obtain⟨v,i1,h1',e,eo⟩:=sV hc (h:=h) (n:=2) hi (by omega);rw[e];simp only[AM0];cases v
   ·exact⟨acc,c,i1,h1',rfl,⟨by omega,by omega,h1.1,h1.2,hd⟩,eo⟩
   ·exact⟨acc,2,i1,h1',rfl,⟨by omega,by omega,by omega,by omega,hd⟩,eo⟩
theorem pK{i h:Int}(hi:Gf code i):∃l c' i' h',O9 code i h=some ((((),c',()),()),((code,i',h',()),l,()))∧ay l c'∧Gf code i':=by
 unfold O9 SX;obtain⟨v,i1,h1,e1,a1,b1,_,eo⟩:=QL hc (h:=h) (n:=3) hi (by omega);rw[e1];simp only[AM0];obtain⟨w,i2,h2,e2,a2,b2,_,ye⟩:=QL hc (h:=h1) (n:=5) eo (by omega);rw[e2];simp only[AM0];have:=b1 (by omega);have:=b2 (by omega);rw[AL (by omega) (by omega),AL (by omega) (by omega)];obtain⟨N,hN⟩:∃N:Nat,3+w=(N:Int):=⟨(3+w).toNat,by omega⟩;rw[hN];exact fj hc (by omega) (by omega) Ae 0 i2 h2 [] ye (by omega) (Ag (by omega)) rfl (by simp)
end
end Go.M
end
section
namespace Go.M.H
open Go.M
def Af{α:Type}(f:α→Nat):List α→Nat
 |[]=>0
 |x::l=>1+f x+Af f l
theorem AX{α:Type}{f:α→Nat}:∀{l:List α},l.length≤Af f l
 |[]=>AQE _
 |x::l=>by
  have:=AX (f:=f) (l:=l);grind[Af,List.length_cons]
theorem Aa{α:Type}{f:α→Nat}{x:α}:∀{l:List α},x∈l→f x≤Af f l
 |y::l,h=>by
  simp only[Af];rcases AOJ.1 h with rfl|h
  ·omega
  ·have:=Aa (f:=f) h
   omega
abbrev AWS:Type:=List Int
abbrev C9(x:AWS):Nat:=x.length
abbrev AJ:Type:=Int×Int×Bool×List UInt8×Unit
abbrev uu:Go.Fw.Ty:= .cons (.int .i64) (.cons (.int .i64) (.cons .bool (.cons .str (.unit))))
def Aq(x:AJ):Nat:=x.2.2.2.1.length
abbrev AO:Type:=List AJ×List AJ×Int×Unit
abbrev AHX:Go.Fw.Ty:= .cons (.sl uu) (.cons (.sl uu) (.cons (.int .i64) (.unit)))
def Ak(x:AO):Nat:=Af Aq x.1+Af Aq x.2.1
abbrev CO:Type:=List Int×Bool×Int×Unit
abbrev AA5:Go.Fw.Ty:= .cons (.sl (.int .i64)) (.cons .bool (.cons (.int .i64) (.unit)))
def CB(x:CO):Nat:=x.1.length
abbrev AN:Type:=List CO×Int×Unit
abbrev A4:Type:=List UInt8×List Int×Bool×Unit
abbrev uD:Go.Fw.Ty:= .cons .str (.cons (.sl (.int .i64)) (.cons .bool (.unit)))
def BF(x:A4):Nat:=x.1.length+x.2.1.length
abbrev AM:Type:=Int×List A4×Unit
abbrev jV:Go.Fw.Ty:= .cons (.int .i64) (.cons (.sl uD) (.unit))
def Ar(x:AM):Nat:=Af BF x.2.1
abbrev As:Type:=Int×Int×List Int×List AJ×Bool×List AAH×Unit
abbrev AR8:Go.Fw.Ty:= .cons (.int .i64) (.cons (.int .i64) (.cons (.sl (.int .i64)) (.cons (.sl uu) (.cons .bool (.cons (.sl (.sl (.int .i64))) (.unit))))))
def CL(x:As):Nat:=x.2.2.1.length+Af Aq x.2.2.2.1+Af C9 x.2.2.2.2.2.1
abbrev Az:Type:=Int×Int×List UInt8×Unit
abbrev AH7:Go.Fw.Ty:= .cons (.int .i64) (.cons (.int .i64) (.cons .str (.unit)))
def CM(x:Az):Nat:=x.2.2.1.length
abbrev AY:Type:=Int×Int×List Az×Unit
abbrev AFz:Go.Fw.Ty:= .cons (.int .i64) (.cons (.int .i64) (.cons (.sl AH7) (.unit)))
def A7(x:AY):Nat:=Af CM x.2.2.1
abbrev Av:Type:=Int×Bool×Int×Int×Bool×List UInt8×Unit
abbrev Ab:Type:=Int×List UInt8×Bool×Unit
abbrev AP4:Go.Fw.Ty:= .cons (.int .i64) (.cons .str (.cons .bool (.unit)))
def EC(x:Ab):Nat:=x.2.1.length
abbrev AA:Type:=List Int×Int×List AO×List Int×List CO×Int×List AM×List As×List AY×List Ab×Bool×Unit
abbrev V7:Go.Fw.Ty:= .cons (.sl (.int .i64)) (.cons (.int .i64) (.cons (.sl AHX) (.cons (.sl (.int .i64)) (.cons (.sl AA5) (.cons (.int .i64) (.cons (.sl jV) (.cons (.sl AR8) (.cons (.sl AFz) (.cons (.sl AP4) (.cons .bool (.unit)))))))))))
def Cs(x:AA):Nat:=x.1.length+Af Ak x.2.2.1+x.2.2.2.1.length+Af CB x.2.2.2.2.1+Af Ar x.2.2.2.2.2.2.1+Af CL x.2.2.2.2.2.2.2.1+Af A7 x.2.2.2.2.2.2.2.2.1+Af EC x.2.2.2.2.2.2.2.2.2.1
abbrev BS:Type:=Int×Int×Int×Int×List UInt8×Unit
end Go.M.H
end
section
namespace Go.M
def DR(p:Nat→Bool)(i:Nat):Nat→Bool
 |0=>true
 |d+1=>p i&&DR p (i+1) d
theorem GD{L:Nat→Int→Option (ABT×Unit)}{len:Nat}{p:Nat→Bool}{fin:Bool}(h1:∀n (i:Nat),i<len→L (n+1) i=cond (p i) (L n ((i+1:Nat):Int)) (some ((false,()),())))(h2:∀n,L (n+1) (len:Int)=some ((fin,()),())):
  ∀d n i,i+d=len→d<n→L n i=some ((DR p i d&&fin,()),())
 |0,n,i,hd,h=>by
  obtain⟨m,rfl⟩:∃m,n=m+1:=⟨n-1,by omega⟩;have:i=len:=by omega
  subst this;rw[h2];rfl
 |d+1,n,i,hd,h=>by
  obtain⟨m,rfl⟩:∃m,n=m+1:=⟨n-1,by omega⟩;rw[h1 m i (by omega)];simp only[DR];cases p i with
  |false=>rfl
  |true=>rw[AMy,GD h1 h2 d m (i+1) (by omega) (by omega)];rfl
theorem Rf{p:Nat→Bool}:∀{d i:Nat},DR p i d=true→ ∀j,i≤j→j<i+d→p j=true
 |0,i,_,j,h1,h2=>by omega
 |d+1,i,h,j,h1,h2=>by
  simp only[DR,AMC]at h;by_cases hj:j=i
  ·simp_all
  ·exact Rf h.2 j (by omega) (by omega)
theorem oq{p:Nat→Bool}:∀{d i:Nat},(∀j,i≤j→j<i+d→p j=true)→DR p i d=true
 |0,_,_=>rfl
 |d+1,i,h=>by
  simp only[DR,AMC];exact⟨h i (by omega) (by omega),oq fun j h1 h2=>h j (by omega) (by omega)⟩
def Wt(x:Int):Int:=x.tdiv 4294967296
def BR(x:Int):Bool:=BN (Wt x) 1 30&&BN (x.tmod 4294967296) 1 60
def AQ(x:Int):Int:=if BR x then Wt x else 0
theorem jK{x:Int}(h: -9223372036854775808≤x∧x<9223372036854775808):AZ (x.tdiv 4294967296)=Wt x:=by
 grind[Wt,AL,Int.lt_or_le,Int.neg_tdiv,Int.tdiv_eq_ediv_of_nonneg]
theorem ck{x:Int}(h:BR x=true):0<x∧x<2^40:=by
 simp only[BR,BN,AMC,AMi]at h;grind[Wt,Int.lt_or_le,Int.neg_tdiv,Int.tdiv_eq_ediv_of_nonneg,Int.tmod_eq_emod_of_nonneg]
def DH(x:Int):Prop:= -9223372036854775808≤x∧x<9223372036854775808
theorem IH{x:Int}(h:DH x):Hd x=some ((BR x,()),()):=by
 unfold Hd;rw[jK h,AB];split
 ·grind[Bd,BR,BN,Wt]
 ·rename_i h0
  rcases AKr (BR x)with hp|hp
  ·exact absurd (ck hp).1 (by omega)
  ·rw[hp]
theorem P1{x:Int}(h:DH x):D7 x=some ((BR x,()),()):=by
 unfold D7 Hb XU;rw[jK h];grind[Ax,BR,BN,Wt]
theorem E7{x:Int}(h:DH x):C0 x=some ((AQ x,()),()):=by
 unfold C0 AQ;rw[IH h,jK h];grind
theorem EI{x:Int}(h:DH x):FI x=some ((AQ x,()),()):=by
 unfold FI AQ;rw[P1 h,jK h];grind
theorem fD{x:Int}:(BR x=true→1≤AQ x∧AQ x≤30)∧(BR x=false→AQ x=0):=by
 constructor
 ·intro h
  rw[AQ,ALP h];simp only[BR,BN,AMC,AMi]at h;omega
 grind[AQ]
def vD(l:AAH)(hi:Int)(i:Nat):Bool:=BN (l.getD i 0) 0 hi&&(i==0||decide (l.getD (i-1) 0<l.getD i 0))
def qi(l:AAH)(hi:Int):Bool:=DR (vD l hi) 0 l.length
theorem fL{l:AAH}{hi:Int}(hl:l.length≤2^40):We l 0 hi=some ((qi l hi,()),()):=by
 unfold We Zp qi;rw[←ATh (DR _ _ _)];refine GD (L:=fun n i=>Mx n l 0 hi i) (len:=l.length) (p:=vD l hi) (fin:=true) (fun n i Dh=> ?_) (fun n=> ?_) l.length Ae 0 (by omega) (Ag (by omega))
 ·simp only[Mx,Tg,AB]
  rw[ALP (by omega),ALP (by omega),Bd,AL (x:=(i:Int)+1) (by omega) (by omega)];simp only[AM0,AMZ,vD];cases BN (l.getD i 0) 0 hi with
  |false=>rfl
  |true=>
   simp only[AMO,AMh,AMn];by_cases h0:i=0
   ·simp_all
   ·rw[ALP (by omega),AL (by omega) (by omega),ALP (by omega),ALP (by omega)]
    have h1:((i:Int)-1).toNat=i-1:=by omega
    have h2:(i==0)=false:=by simp_all
    rw[h1,h2,ASZ];grind
 ·simp only[Mx,Tg,AB]
  simp_all
theorem mm{l:AAH}{hi:Int}(hl:l.length≤2^40):Vq l hi=some ((qi l hi,()),()):=by
 unfold Vq XO qi;rw[←ATh (DR _ _ _)];refine GD (L:=fun n i=>J7 n l hi l l.length i) (len:=l.length) (p:=vD l hi) (fin:=true) (fun n i Dh=> ?_) (fun n=> ?_) l.length Ae 0 (by omega) (Ag (by omega))
 ·simp only[J7,QM,AB]
  rw[ALP (by omega),ALP (by omega),Ax,AL (x:=(i:Int)+1) (by omega) (by omega)];simp only[AM0,AMZ,vD];cases BN (l.getD i 0) 0 hi with
  |false=>rfl
  |true=>
   simp only[AMO,AMh,AMn];by_cases h0:i=0
   ·simp_all
   ·rw[ALP (by omega),AL (by omega) (by omega),ALP (by omega)]
    have h1:((i:Int)-1).toNat=i-1:=by omega
    have h2:(i==0)=false:=by simp_all
    rw[h1,h2,ASZ];grind
 ·simp only[J7,QM,AB]
  simp_all
theorem wS{l:AAH}{hi:Int}(h:qi l hi=true):∀x∈l,0≤x∧x≤hi:=fun x hx=>by
 obtain⟨i,Dh,rfl⟩:=AQQ hx;have:=Rf h i (by omega) (by omega);simp only[vD,BN,AMC,AMi]at this;simp_all
theorem AAT{l:AAH}{hi:Int}(h:qi l hi=true):∀i,i<l.length→(i:Int)≤l.getD i 0
 |0,hl=>by
  have:=Rf h 0 (by omega) (by omega);simp only[vD,BN,AMC,AMi]at this;omega
 |i+1,hl=>by
  have h1:=AAT h i (by omega);have:=Rf h (i+1) (by omega) (by omega);simp only[vD,AMC,ATI,AMi]at this;grind
theorem ADV{l:AAH}{hi:Int}(h:qi l hi=true)(h0:0≤hi+1):(l.length:Int)≤hi+1:=by
 by_cases hl:l.length=0
 ·omega
 ·have h1:=AAT h (l.length-1) (by omega)
  have h2:=wS h (l.getD (l.length-1) 0) (by
   grind)
  omega
def Ay(c:ABL)(l:AAH):Bool:=Ej c&&qi l ((c.1.length:Int)-1)
theorem G4{c:ABL}{l:AAH}(hc:c.1.length≤2^40)(hl:l.length≤2^40):Gr c l=some ((Ay c l,()),()):=by
 unfold Gr Ay;rw[show(c.1,c.2.1,())=c from rfl,HL hc,AL (by omega) (by omega)];simp only[AM0];cases Ej c with
 |false=>rfl
 |true=>
  rw[AMy,fL hl];rfl
theorem EH{c:ABL}{l:AAH}(hc:c.1.length≤2^40)(hl:l.length≤2^40):EA c l=some ((Ay c l,()),()):=by
 unfold EA Ay;rw[show(c.1,c.2.1,())=c from rfl,La hc,AL (by omega) (by omega)];simp only[AM0];cases Ej c with
 |false=>rfl
 |true=>
  rw[AMy,mm hl];rfl
theorem ar{c:ABL}{l:AAH}(h:Ay c l=true):Ej c=true∧c.1.length≤8∧l.length≤8∧(∀x∈l,0≤x∧x<c.1.length)∧ ∀d∈c.1,0≤d∧d≤7:=by
 simp only[Ay,AMC]at h;obtain⟨k1,k2,k3,k4,k5⟩:=Gh h.1;have h1:=ADV h.2 (by omega);exact⟨h.1,k2,by omega,fun x hx=>by have:=wS h.2 x hx;omega,k5⟩
theorem AAj{l:AAH}{x:Int}(hl:l.length≤2^40):∀(n i:Nat),i≤l.length→l.length-i<n→(∀y∈l.take i,y≠x)→
  ∃r:Int,GF n l x l.length i=some ((r,()),())∧decide (r≥0)=l.contains x
 |0,_,_,h,_=>by omega
 |n+1,i,hi,h,hx=>by
  simp only[GF,OL,AB];by_cases hc:i<l.length
  ·rw[ALP (by omega),ALP (by omega),Aj hc,AL (by omega) (by omega)]
   by_cases he:x=l[i]
   ·simp_all
   ·obtain⟨r,e1,e2⟩:=AAj hl n (i+1) (by omega) (by omega) (fun y hy=>by
     rw[ATV hc]at hy;rcases AOl.1 hy with hy|hy
     ·exact hx y hy
     grind)
    grind
  ·rw[ALo (by omega)]
   grind
theorem Iv{l:AAH}{x:Int}(hl:l.length≤2^40):Bo l x=some ((l.contains x,()),()):=by
 unfold Bo N8 OZ;obtain⟨r,e1,e2⟩:=AAj (x:=x) hl Ae 0 (by omega) (Ag (by omega)) (by simp);simp_all
def jm(c:AAH):List Int→List Int→List Int
 |[],acc=>acc
 |n::l,acc=>jm c l (if acc.contains (c.getD n.toNat 0)then acc else acc++[c.getD n.toNat 0])
def aY(c:AAH)(l:AAH):Nat:=(jm c l []).length
theorem ZV{c:AAH}{q:Int}{l:AAH}(hl:l.length≤8)(hm:∀x∈l,0≤x∧x<c.length):∀(n i:Nat) (acc:AAH),i≤l.length→l.length-i<n→acc.length≤i→
  N6 n l l.length i c q acc=some ((((jm c (l.drop i) acc).length:Int),()),())
 |0,i,_,_,h,_=>by omega
 |n+1,i,acc,hi,h,ha=>by
  simp only[N6,YI,AB];by_cases hc:i<l.length
  ·have hx:=hm _ (AMk hc)
   rw[ALP (by omega),ALP (by omega),Aj hc,drop_cons hc]
   generalize l[i]=x at hx
   rw[ALP (by omega),Iv (by omega),AL (by omega) (by omega),show((i:Int)+1)=((i+1:Nat):Int)by omega];simp only[AM0,jm];cases AUK:acc.contains (c.getD x.toNat 0)with
   |true=>
    simp only[AMO,AMh,ATK];exact ZV hl hm n (i+1) acc (by omega) (by omega) (by omega)
   |false=>
    simp only[ATH,AMy,AMH,AON];rw[ALP (by omega),ALP (by rw[BX];omega)];exact ZV hl hm n (i+1) _ (by omega) (by omega) (by simp_all)
  ·rw[ALo (by omega)]
   grind[jm]
theorem qK{c:ABL}{l:AAH}(hc:c.1.length≤2^40)(hl:l.length≤2^40):Yk c l=some ((if Ay c l then(aY c.1 l:Int)else-1,()),()):=by
 unfold Yk YJ;rw[show(c.1,c.2.1,())=c from rfl,EH hc hl];simp only[AM0];cases h:Ay c l with
 |false=>rfl
 |true=>
  obtain⟨k1,k2,k3,k4,k5⟩:=ar h;grind[ZV,Ae,Ag,aY]
theorem yJ{s:List Bool}{k j:Nat}{b:Bool}(h:k<s.length):(s.set k b).getD j false=if k=j then b else s.getD j false:=by
 grind
theorem ZU{c:AAH}{q:Int}{l:AAH}(hl:l.length≤8)(hd:∀d∈c,0≤d∧d≤7)(hm:∀x∈l,0≤x∧x<c.length):∀(n i:Nat) (acc:AAH) (s:List Bool),i≤l.length→l.length-i<n→acc.length≤i→s.length=8→
  (∀j:Nat,j<8→s.getD j false=acc.contains (j:Int))→
  N2 n l acc.length i c q s=some ((((jm c (l.drop i) acc).length:Int),()),())
 |0,i,_,_,_,h,_,_,_=>by omega
 |n+1,i,acc,s,hi,h,ha,hs,hj=>by
  simp only[N2,YM,AB];by_cases hc:i<l.length
  ·have hx:=hm _ (AMk hc)
   rw[ALP (by omega),ALP (by omega),Aj hc,drop_cons hc]
   generalize l[i]=x at hx
   rw[ALP (by omega)];have AYh:0≤c.getD x.toNat 0∧c.getD x.toNat 0≤7:=by
    simp_all
   simp only[jm]
   generalize c.getD x.toNat 0=d at AYh
   rw[ALP (by omega),AL (x:=(i:Int)+1) (by omega) (by omega),show((i:Int)+1)=((i+1:Nat):Int)by omega];have hsd:s.getD d.toNat false=acc.contains d:=by
    grind
   rw[hsd];cases AUK:acc.contains d with
   |true=>
    simp only[AMO,AMh,ATK];exact ZU hl hd hm n (i+1) acc s (by omega) (by omega) (by omega) hs hj
   |false=>
    simp only[ATH,AMy,AMH,AON];rw[ALP (by omega),AL (by omega) (by omega)];have:=ZU (q:=q) hl hd hm n (i+1) (acc++[d]) (s.set d.toNat true) (by omega) (by omega) (by simp_all) (by simp_all) (fun j hj8=>by
     rw[yJ (by omega),hj j hj8];grind)
    simp_all
  ·rw[ALo (by omega)]
   grind[jm]
theorem cx{c:ABL}{l:AAH}(h:Ay c l=true):US c l=some (((aY c.1 l:Int),()),()):=by
 obtain⟨k1,k2,k3,k4,k5⟩:=ar h;unfold US Yc;have:=ZU (c:=c.1) (q:=c.2.1) k3 k5 k4 Ae 0 [] (List.replicate 8 false) (by omega) (Ag (by omega)) (by simp) (by simp) (fun j hj=>by
  grind)
 grind[aY]
def holds(c:ABL)(l:AAH):Bool:=Ay c l&&decide ((aY c.1 l:Int)≥c.2.1)
theorem E5{c:ABL}{l:AAH}(hc:c.1.length≤2^40)(hl:l.length≤2^40):FQ c l=some ((holds c l,()),()):=by
 unfold FQ holds;rw[show(c.1,c.2.1,())=c from rfl,G4 hc hl];simp only[AM0];cases h:Ay c l with
 |false=>rfl
 |true=>
  rw[AMy,cx h];rfl
theorem GY{c:ABL}{l:AAH}(hc:c.1.length≤2^40)(hl:l.length≤2^40):Gc c l=some ((holds c l,()),()):=by
 unfold Gc holds;rw[show(c.1,c.2.1,())=c from rfl,EH hc hl,qK hc hl];simp only[AM0];cases h:Ay c l<;>rfl
theorem N7{c:ABL}{l:AAH}(h:holds c l=true):Ay c l=true:=by
 simp only[holds,AMC]at h;exact h.1
end Go.M
end
section
namespace Go.M
open Go.M.H (CO AN A4 AM Af AX Aa CB BF Ar AA5 uD jV)
abbrev CD:Type:=List Int×Int×Unit
def GP:CO:=([],false,0,())
def oC(c:CD)(e:CO):Bool:=holds c e.1&&(BN e.2.2.1 0 60&&(e.2.1||e.2.2.1==0))
theorem ru{c:CD}{e:CO}(hc:c.1.length≤2^40)(hl:e.1.length≤2^40):ah c e=some ((oC c e,()),()):=by
 unfold ah oC;rw[show(c.1,c.2.1,())=c from rfl,GY hc hl];grind[Ax,holds,BN]
def uU(c:CD)(l:List CO)(i:Nat):Bool:=
 oC c (l.getD i GP)&& !((l.getD i GP).2.1&&(decide (i+1=l.length)||(decide (0<i)&& !(l.getD (i-1) GP).2.1)))
def fy(r:AN):Bool:=r.2.1==0||(BR r.2.1&&decide (AQ r.2.1≤r.1.length))
def Mk(c:CD)(r:AN):Bool:=Ej c&&(decide (r.1.length≤30)&&(fy r&&DR (uU c r.1) 0 r.1.length))
theorem BJ{α:Type}{l:List α}{i:Nat}{d:α}(h:i<l.length):l.getD i d∈l:=by
 simp_all
theorem mq{c:CD}{l:List CO}{tr:Int}(hc:c.1.length≤2^40)(hl:Af CB l≤2^30):Kd Ae l.length 0 c.1 c.2.1 l tr=some ((DR (uU c l) 0 l.length,()),()):=by
 have hll:=AX (f:=CB) (l:=l);rw[←ATh (DR _ _ _)];refine GD (L:=fun n i=>Kd n l.length i c.1 c.2.1 l tr) (len:=l.length) (p:=uU c l) (fin:=true) (fun n i hi=> ?_) (fun n=> ?_) l.length Ae 0 (by omega) (Ag (by omega))
 ·have hm:=Aa (f:=CB) (BJ (d:=GP) hi)
  simp only[CB]at hm;simp only[Kd,TU,AB];rw[ALP (by omega),ALP (by omega),show(c.1,c.2.1,())=c from rfl,AMZ,show(([],false,0,()):CO)=GP from rfl,E5 hc (by omega),Bd,AL (x:=(i:Int)+1) (by omega) (by omega),
   AL (x:=(l.length:Int)-1) (by omega) (by omega),AL (x:=(i:Int)-1) (by omega) (by omega),show((i:Int)+1)=((i+1:Nat):Int)by omega]
  simp only[AM0,uU,oC];have e1:((i:Int)==(l.length:Int)-1)=decide (i+1=l.length):=by
   grind
  have e2:(((i:Int)-1).toNat)=i-1:=by omega
  grind
 ·simp only[Kd,TU,AB]
  simp_all
theorem Po{c:CD}{r:AN}(hc:c.1.length≤2^40)(hl:Af CB r.1≤2^30)(ht:DH r.2.1):MQ c r=some ((Mk c r,()),()):=by
 unfold MQ aQ Mk fy;rw[show(c.1,c.2.1,())=c from rfl,HL hc,mq hc hl,IH ht,E7 ht];grind
theorem M1{c:CD}{r:AN}(hc:c.1.length≤2^40)(hl:Af CB r.1≤2^30)(ht:DH r.2.1):Kc c r=some ((Mk c r,()),()):=by
 have hll:=AX (f:=CB) (l:=r.1);have AER:Kg Ae r.1 r.1.length 0 c.1 c.2.1 r.1 r.2.1=some ((DR (uU c r.1) 0 r.1.length&&(Ej c&&(decide (r.1.length≤30)&&fy r)),()),()):=by
  refine GD (L:=fun n i=>Kg n r.1 r.1.length i c.1 c.2.1 r.1 r.2.1) (len:=r.1.length) (p:=uU c r.1) (fin:=Ej c&&(decide (r.1.length≤30)&&fy r)) (fun n i hi=> ?_) (fun n=> ?_) r.1.length Ae 0 (by omega) (Ag (by omega))
  ·have hm:=Aa (f:=CB) (BJ (d:=GP) hi)
   simp only[CB]at hm;simp only[Kg,TS,AB];rw[ALP (by omega),ALP (by omega),show(c.1,c.2.1,())=c from rfl,AMZ,show(([],false,0,()):CO)=GP from rfl];rw[show((r.1.getD i GP).1,(r.1.getD i GP).2.1,(r.1.getD i GP).2.2.1,())=r.1.getD i GP from rfl,ru hc (by omega),AL (x:=(i:Int)+1) (by omega) (by omega),
    AL (x:=(r.1.length:Int)-1) (by omega) (by omega),AL (x:=(i:Int)-1) (by omega) (by omega),show((i:Int)+1)=((i+1:Nat):Int)by omega]
   simp only[AM0,uU];have e1:((i:Int)==(r.1.length:Int)-1)=decide (i+1=r.1.length):=by
    grind
   have e2:(((i:Int)-1).toNat)=i-1:=by omega
   grind
  ·simp only[Kg,TS]
   rw[show decide ((r.1.length:Int)<(r.1.length:Int))=false by simp,show(c.1,c.2.1,())=c from rfl,La hc,EI ht];simp only[AMh,AM0,Ax,fy];have e1:decide ((r.1.length:Int)≤30)=decide (r.1.length≤30):=by
    grind
   rw[e1];have e4:BN (AQ r.2.1) 1 (r.1.length:Int)=(BR r.2.1&&decide (AQ r.2.1≤(r.1.length:Int))):=by
    have hr:=fD (x:=r.2.1);unfold BN;grind
   grind
 grind[Kc,aI,Mk,Ej,decide,fy,DR,uU]
def AEA(b:Bool):Int:=if b then 1 else 0
theorem mS(b:Bool):ae b=some ((AEA b,()),()):=by cases b<;>rfl
end Go.M
end
section
namespace Go.M
open Go.M.H (CO AN A4 AM Af AX Aa CB BF Ar AA5 uD jV)
def LR:A4:=([],[],false,())
def WL(c:CD)(e:A4):Bool:=decide (e.1.length≤40)&&(Ay c e.2.1&&(e.2.2.1==holds c e.2.1))
def Qk:List A4→Nat
 |[]=>0
 |e::l=>cond e.2.2.1 0 1+Qk l
def le6(n:Nat):Bool:=decide (n≤6)
theorem AAl(o:Nat):decide ((o:Int)≤6)=le6 o:=by
 grind[le6]
def FK(c:CD)(w:AM):Bool:=Ej c&&(BN w.1 1 30&&(decide (w.2.1.length≤60)&&(w.2.1.all (WL c)&&le6 (Qk w.2.1))))
theorem cM{c:CD}{ep:Int}{l:List A4}(hc:c.1.length≤2^40)(hl:Af BF l≤2^30):∀(n i o:Nat),i≤l.length→l.length-i<n→o≤i→
  LK n o i c.1 c.2.1 ep l=some (((l.drop i).all (WL c)&&le6 (o+Qk (l.drop i)),()),())
 |0,i,_,_,h,_=>by omega
 |n+1,i,o,hi,h,ho=>by
  have hll:=AX (f:=BF) (l:=l);simp only[LK,VH,AB];by_cases q7:i<l.length
  ·have hm:=Aa (f:=BF) (AMk q7)
   rw[ALP (by omega),ALP (by omega),Aj q7,drop_cons q7];have ih:=fun o=>cM (ep:=ep) hc hl n (i+1) o (by omega) (by omega)
   generalize l[i]=e at hm
   simp only[BF]at hm;rw[show(c.1,c.2.1,())=c from rfl,G4 hc (by omega),E5 hc (by omega),AL (x:=(i:Int)+1) (by omega) (by omega),AL (x:=(o:Int)+1) (by omega) (by omega),show((i:Int)+1)=((i+1:Nat):Int)by omega,show((o:Int)+1)=((o+1:Nat):Int)by omega];simp only[AM0,ATl,WL,Qk];by_cases h40:e.1.length≤40
   ·rw[ALo (by omega),AR7 h40,ih o (by omega),ih (o+1) (by omega)]
    cases Ay c e.2.1 with
    |false=>rfl
    |true=>
     cases hd:e.2.2.1 with
     |true=>
      grind
     |false=>
      grind
   grind
  ·rw[ALo (by omega)]
   grind[Qk,AAl]
theorem LO{c:CD}{w:AM}(hc:c.1.length≤2^40)(hl:Af BF w.2.1≤2^30):Hh c w=some ((FK c w,()),()):=by
 have hll:=AX (f:=BF) (l:=w.2.1);unfold Hh Vf FK;have h:=cM (ep:=w.1) hc hl Ae 0 0 (by omega) (Ag (by omega)) (by omega);rw[show((0:Nat):Int)=0 from rfl]at h;rw[show(c.1,c.2.1,())=c from rfl,HL hc,Bd,h];grind
theorem bz{c:CD}{ep:Int}{l:List A4}(hc:c.1.length≤2^40)(hl:Af BF l≤2^30):∀(n i o:Nat),i≤l.length→l.length-i<n→o≤i→
  LG n o l l.length i c.1 c.2.1 ep l=some (((l.drop i).all (WL c)&&(Ej c&&(BN ep 1 30&&(decide (l.length≤60)&&le6 (o+Qk (l.drop i))))),()),())
 |0,i,_,_,h,_=>by omega
 |n+1,i,o,hi,h,ho=>by
  have hll:=AX (f:=BF) (l:=l);simp only[LG,Vb];by_cases q7:i<l.length
  ·have hm:=Aa (f:=BF) (AMk q7)
   rw[show decide ((i:Int)<(l.length:Int))=true by simp_all,AMy,ALP (by omega),Aj q7,drop_cons q7];have ih:=fun o=>bz (ep:=ep) hc hl n (i+1) o (by omega) (by omega)
   generalize l[i]=e at hm
   simp only[BF]at hm;rw[show(c.1,c.2.1,())=c from rfl,EH hc (by omega),GY hc (by omega),mS,AL (x:=(i:Int)+1) (by omega) (by omega),show((i:Int)+1)=((i+1:Nat):Int)by omega];simp only[AM0,ATl,WL,Qk,GK];have e40:decide ((e.1.length:Int)≤40)=decide (e.1.length≤40):=by
    grind
   rw[e40];cases hd:e.2.2.1 with
   |true=>
    rw[show AZ ((o:Int)+AEA (!true))=(o:Int)by rw[AMO,show AEA false=0 from rfl,Int.add_zero,AL (by omega) (by omega)],ih o (by omega)];grind
   |false=>
    rw[show AZ ((o:Int)+AEA (!false))=((o+1:Nat):Int)by rw[ATH,show AEA true=1 from rfl,AL (by omega) (by omega)];omega,ih (o+1) (by omega)];grind
  ·have:i=l.length:=by omega
   subst this;rw[show decide (((l.length:Nat):Int)<(l.length:Int))=false by simp,show(c.1,c.2.1,())=c from rfl,La hc];simp only[AMh,AM0,Hb,Ax,ATs,List.all_nil,Qk,ATu,AMn];grind[decide,AAl,Ej,BN]
theorem I7{c:CD}{w:AM}(hc:c.1.length≤2^40)(hl:Af BF w.2.1≤2^30):GW c w=some ((FK c w,()),()):=by
 have hll:=AX (f:=BF) (l:=w.2.1);unfold GW VL FK;have h:=bz (ep:=w.1) hc hl Ae 0 0 (by omega) (Ag (by omega)) (by omega);grind
theorem fG{c:CD}{w:AM}(h:FK c w=true):Ej c=true∧(1≤w.1∧w.1≤30)∧w.2.1.length≤60∧ ∀e∈w.2.1,WL c e=true:=by
 simp only[FK,BN,AMC,AMi,ATg]at h;simp_all
theorem vU{c:CD}{e:A4}(h:WL c e=true):e.1.length≤40∧e.2.1.length≤8∧(∀x∈e.2.1,0≤x∧x<8)∧e.2.2.1=holds c e.2.1:=by
 simp only[WL,AMC,AMi,ATa]at h;obtain⟨k1,k2,k3,k4,k5⟩:=ar h.2.1;grind
end Go.M
end
section
namespace Go.M
open Go.M.H (AJ AO As Ab AA CO AN A4 AM AY Az Af AX Aa Aq Ak CL EC Cs CB BF Ar A7 CM)
theorem AHh(a b:Int):decide (a≤b)= !decide (b<a):=by
 grind
theorem AU_(n k:Nat):decide ((n:Int)≤(k:Int))=decide (n≤k):=by
 simp_all
theorem ABI(n k:Nat):decide ((n:Int)>(k:Int))= !decide (n≤k):=by
 grind
def A6(x:Int):Int:=cond (BR x) (x.tmod 4294967296) 0
theorem ZS{x:Int}(h:DH x):HM x=some ((A6 x,()),()):=by
 grind[HM,A6,IH,BR]
theorem Tm{x:Int}(h:DH x):TF x=some ((A6 x,()),()):=by
 grind[TF,A6,P1,BR]
abbrev Dt:AJ:=(0,0,false,[],())
def EZ(e:AJ):Bool:=BR e.1&&(BN e.2.1 0 30&&((!decide (e.2.1>0)||decide (AQ e.1<e.2.1))&&(decide (e.2.2.2.1.length≤40)&&(!e.2.2.1||(decide (e.2.1>0)&&e.2.2.2.1==[])))))
theorem QC{e:AJ}(h:DH e.1):MH e=some ((EZ e,()),()):=by
 unfold MH EZ;grind[IH,Bd,E7,AHh,AQ,decide,ABI,BR,BN]
theorem AUk{x:Int}(h:BN x 0 30=true):(x==0)= !decide (x>0):=by
 simp only[BN,AMi]at h;grind
theorem QG{e:AJ}(h:DH e.1):L3 e=some ((EZ e,()),()):=by
 unfold L3 EZ GK;rw[P1 h,Ax,EI h];simp only[AM0];rw[show decide ((e.2.2.2.1.length:Int)≤40)=decide (e.2.2.2.1.length≤40)from AU_ _ 40,show decide (e.2.1>AQ e.1)=decide (AQ e.1<e.2.1)from rfl];rcases AKr (BN e.2.1 0 30)with hi|hi
 all_goals grind[AUk,BR,decide,AQ]
def Xi(l:List AJ):Bool:=DR (fun i=>EZ (l.getD i Dt)) 0 l.length
def iX(l:List AJ):Bool:=DR (fun i=>i==0||decide ((l.getD (i-1) Dt).1<(l.getD i Dt).1)) 0 l.length
def rE(l:List AJ):Prop:= ∀e∈l,DH e.1
theorem rE.getD{l:List AJ}(h:rE l){i:Nat}(hi:i<l.length):DH (l.getD i Dt).1:=h _ (BJ hi)
theorem dq{l:List AJ}{k:Nat}(hl:l.length≤2^40)(h:rE l):Ue l k=some ((decide (l.length≤k)&&Xi l,()),()):=by
 unfold Ue Ym;have:=GD (L:=fun n i=>LD n l i) (len:=l.length) (p:=fun i=>EZ (l.getD i Dt)) (fin:=true) (fun n i hi=>by
  simp only[LD,Rl,AB];rw[ALP (by omega),ALP (by omega),AL (by omega) (by omega),show((i:Int)+1)=((i+1:Nat):Int)by omega];simp only[AMZ];rw[show((l.getD i (0,0,false,[],())).1,(l.getD i (0,0,false,[],())).2.1,(l.getD i (0,0,false,[],())).2.2.1,(l.getD i (0,0,false,[],())).2.2.2.1,())=l.getD i Dt from rfl,QC (h.getD hi)];simp_all) (fun n=>by
  simp only[LD,Rl,AB];simp_all) l.length Ae 0 (by omega) (Ag (by omega))
 rw[show((0:Nat):Int)=0 from rfl]at this;rw[this,ABI,ATh];cases decide (l.length≤k)<;>rfl
theorem fi{l:List AJ}(hl:l.length≤2^40):XT l=some ((iX l,()),()):=by
 unfold XT Z8 iX;have h1:∀n (i:Nat),0<i→i<l.length→GV (n+1) l i=cond (i==0||decide ((l.getD (i-1) Dt).1<(l.getD i Dt).1)) (GV n l ((i+1:Nat):Int)) (some ((false,()),())):=fun n i h0 hi=>by
  simp only[GV,PC,AB];rw[ALP (by omega),AL (x:=(i:Int)-1) (by omega) (by omega),ALP (by omega),ALP (by omega),AL (by omega) (by omega),show((i:Int)+1)=((i+1:Nat):Int)by omega];have h1:((i:Int)-1).toNat=i-1:=by omega
  have h2:(i==0)=false:=by grind
  rw[h1,h2,AMZ,ASZ];grind
 cases hlen:l.length with
 |zero=>
  obtain⟨m,hm⟩:∃m,Ae=m+1:=⟨Ae-1,by have:=bV;omega⟩;rw[hm];simp only[GV,PC,AB];rw[ALo (by omega)];rfl
 |succ k=>
  have:=GD (L:=fun n i=>if(0:Int)<i then GV n l i else cond (decide (0<n)) (GV (n-1) l 1) none) (len:=l.length) (p:=fun i=>i==0||decide ((l.getD (i-1) Dt).1<(l.getD i Dt).1)) (fin:=true) (fun n i hi=>by
   simp_all) (fun n=>by
   rw[ALP (by omega)];simp only[GV,PC,AB];simp_all) l.length (Ae+1) 0 (by omega) (by have:=bV;omega)
  simp_all
theorem Ye{l:List AJ}(hl:l.length≤2^40)(h:rE l):OM l=some ((Xi l,()),()):=by
 unfold OM UL;have:=GD (L:=fun n i=>H_ n l l.length i) (len:=l.length) (p:=fun i=>EZ (l.getD i Dt)) (fin:=true) (fun n i hi=>by
  simp only[H_,Nw,AB];rw[ALP (by omega),ALP (by omega),AL (by omega) (by omega),show((i:Int)+1)=((i+1:Nat):Int)by omega];simp only[AMZ];rw[show((l.getD i (0,0,false,[],())).1,(l.getD i (0,0,false,[],())).2.1,(l.getD i (0,0,false,[],())).2.2.1,(l.getD i (0,0,false,[],())).2.2.2.1,())=l.getD i Dt from rfl,QG (h.getD hi)];simp_all) (fun n=>by
  simp only[H_,Nw,AB];simp_all) l.length Ae 0 (by omega) (Ag (by omega))
 rw[show((0:Nat):Int)=0 from rfl]at this;rw[this,ATh];rfl
theorem UX{l:List AJ}(hl:l.length≤2^40):KH l=some ((iX l,()),()):=by
 unfold KH Qn;have:=GD (L:=fun n i=>F6 n l l l.length i) (len:=l.length) (p:=fun i=>i==0||decide ((l.getD (i-1) Dt).1<(l.getD i Dt).1)) (fin:=true) (fun n i hi=>by
  simp only[F6,LA,AB];rw[ALP (by omega),ALP (by omega),AL (x:=(i:Int)+1) (by omega) (by omega),show((i:Int)+1)=((i+1:Nat):Int)by omega];by_cases h0:i=0
  ·simp_all
  ·rw[ALP (by omega),AL (by omega) (by omega),ALP (by omega)]
   have h1:((i:Int)-1).toNat=i-1:=by omega
   have h2:(i==0)=false:=by simp_all
   rw[h1,h2,AMZ,ASZ];grind) (fun n=>by
  simp only[F6,LA,AB];simp_all) l.length Ae 0 (by omega) (Ag (by omega))
 rw[show((0:Nat):Int)=0 from rfl]at this;rw[this,ATh];rfl
def CF(s:AO):Bool:=(decide (s.1.length≤200)&&Xi s.1)&&((decide (s.2.1.length≤20)&&Xi s.2.1)&&(iX s.1&&BN s.2.2.1 0 30))
def qw(s:AO):Prop:=rE s.1∧rE s.2.1
theorem Fp{s:AO}(hl:Ak s≤2^30)(h:qw s):Ge s=some ((CF s,()),()):=by
 have l1:=AX (f:=Aq) (l:=s.1);have l2:=AX (f:=Aq) (l:=s.2.1);unfold Ak at hl;have e1:=dq (l:=s.1) (k:=200) (by omega) h.1;have e2:=dq (l:=s.2.1) (k:=20) (by omega) h.2;rw[show((200:Nat):Int)=200 from rfl]at e1;rw[show((20:Nat):Int)=20 from rfl]at e2;grind[Ge,CF,fi,Bd,decide,Xi,iX]
theorem E6{s:AO}(hl:Ak s≤2^30)(h:qw s):FF s=some ((CF s,()),()):=by
 have l1:=AX (f:=Aq) (l:=s.1);have l2:=AX (f:=Aq) (l:=s.2.1);unfold Ak at hl;unfold FF CF;rw[Ye (by omega) h.1,Ye (by omega) h.2,UX (by omega),Ax,show decide ((s.1.length:Int)>200)= !decide (s.1.length≤200)from ABI _ 200,show decide ((s.2.1.length:Int)>20)= !decide (s.2.1.length≤20)from ABI _ 20];grind
end Go.M
end
section
namespace Go.M
open Go.M.H (AJ AO As Ab AA CO AN A4 AM AY Az Af AX Aa Aq Ak CL EC Cs CB BF Ar A7 CM C9)
theorem lH{L:Nat→Int→Option (ABT×Unit)}{len N:Nat}{p:Nat→Bool}{fin:Bool}(h1:∀n (i:Nat),i<len→L (n+1) i=cond (p i) (L n ((i+1:Nat):Int)) (some ((false,()),())))(h2:∀n,N≤n→L (n+1) (len:Int)=some ((fin,()),())):
  ∀d n i,i+d=len→d+N<n→L n i=some ((DR p i d&&fin,()),())
 |0,n,i,hd,h=>by
  obtain⟨m,rfl⟩:∃m,n=m+1:=⟨n-1,by omega⟩;have:i=len:=by omega
  subst this;rw[h2 m (by omega)];rfl
 |d+1,n,i,hd,h=>by
  obtain⟨m,rfl⟩:∃m,n=m+1:=⟨n-1,by omega⟩;rw[h1 m i (by omega)];simp only[DR];cases p i with
  |false=>rfl
  |true=>rw[AMy,lH h1 h2 d m (i+1) (by omega) (by omega)];rfl
def LF(l:List AJ):Int:=cond (l.length==0) 0 (A6 (l.getD (l.length-1) Dt).1)
theorem dR{m:As}(hl:m.2.2.2.1.length≤2^40)(h:rE m.2.2.2.1):Q8 m=some ((LF m.2.2.2.1,()),()):=by
 unfold Q8 LF;by_cases h0:m.2.2.2.1.length=0
 ·simp[h0]
 ·have e1:((m.2.2.2.1.length:Int)==0)=false:=by simp_all
  have e2:(m.2.2.2.1.length==0)=false:=by simp_all
  rw[e1,e2];simp only[AMh];rw[AL (by omega) (by omega),ALP (by omega),show((m.2.2.2.1.length:Int)-1).toNat=m.2.2.2.1.length-1 by omega,ZS (h.getD (by omega))];rfl
theorem cO{m:As}(hl:m.2.2.2.1.length≤2^40)(h:rE m.2.2.2.1):Rv m=some ((LF m.2.2.2.1,()),()):=by
 unfold Rv LF;by_cases h0:m.2.2.2.1.length=0
 ·simp[h0]
 ·have e1:((m.2.2.2.1.length:Int)==0)=false:=by simp_all
  have e2:(m.2.2.2.1.length==0)=false:=by simp_all
  rw[e1,e2];simp only[AMh];rw[AL (by omega) (by omega),ALP (by omega),show((m.2.2.2.1.length:Int)-1).toNat=m.2.2.2.1.length-1 by omega,Tm (h.getD (by omega))];rfl
def sE(l:List AJ)(ep by_:Int)(i:Nat):Bool:=EZ (l.getD i Dt)&&((AQ (l.getD i Dt).1==ep)&&decide ((l.getD i Dt).2.1<by_))
def sR(l:List AJ)(ep by_:Int):Bool:=DR (sE l ep by_) 0 l.length
def oG(c:CD)(l:List AAH):Bool:=DR (fun i=>Ay c (l.getD i [])) 0 l.length
def G9(c:CD)(m:As):Bool:=Ej c&&(BN m.2.1 1 30&&(BN m.1 (m.2.1+1) 30&&(Ay c m.2.2.1&&(iX m.2.2.2.1&&(sR m.2.2.2.1 m.2.1 m.1&&(oG c m.2.2.2.2.2.1&&((m.2.2.2.2.2.1.length:Int)==cond m.2.2.2.2.1 (LF m.2.2.2.1) 0)))))))
theorem JN{c:CD}{m:As}(hc:c.1.length≤2^40)(hm:CL m≤2^30)(h:rE m.2.2.2.1):Ix c m=some ((G9 c m,()),()):=by
 have l1:=AX (f:=Aq) (l:=m.2.2.2.1);have l2:=AX (f:=C9) (l:=m.2.2.2.2.2.1);unfold CL at hm;have wr:∀n,m.2.2.2.2.2.1.length+1≤n→Hr n 0 c.1 c.2.1 m.1 m.2.1 m.2.2.1 m.2.2.2.1 m.2.2.2.2.1 m.2.2.2.2.2.1=some ((oG c m.2.2.2.2.2.1&&((m.2.2.2.2.2.1.length:Int)==cond m.2.2.2.2.1 (LF m.2.2.2.1) 0),()),()):=fun n hn=>by
  refine GD (L:=fun n i=>Hr n i c.1 c.2.1 m.1 m.2.1 m.2.2.1 m.2.2.2.1 m.2.2.2.2.1 m.2.2.2.2.2.1) (len:=m.2.2.2.2.2.1.length) (p:=fun i=>Ay c (m.2.2.2.2.2.1.getD i [])) (fin:=(m.2.2.2.2.2.1.length:Int)==cond m.2.2.2.2.1 (LF m.2.2.2.1) 0) (fun n i hi=> ?_) (fun n=> ?_) m.2.2.2.2.2.1.length n 0 (by omega) (by omega)
  ·have hwi:(m.2.2.2.2.2.1.getD i []).length≤Af C9 m.2.2.2.2.2.1:=Aa (f:=C9) (BJ (d:=[]) hi)
   simp only[Hr,SM,AB];rw[ALP (by omega),ALP (by omega),AL (by omega) (by omega),show((i:Int)+1)=((i+1:Nat):Int)by omega,AMZ,show(c.1,c.2.1,())=c from rfl,G4 hc (by omega)];simp_all
  ·simp only[Hr,SM,AB]
   rw[ALo (by omega),show(m.1,m.2.1,m.2.2.1,m.2.2.2.1,m.2.2.2.2.1,m.2.2.2.2.2.1,())=m from rfl,dR (by omega) h];grind
 have se:=lH (L:=fun n i=>JZ n i c.1 c.2.1 m.1 m.2.1 m.2.2.1 m.2.2.2.1 m.2.2.2.2.1 m.2.2.2.2.2.1) (len:=m.2.2.2.1.length) (N:=m.2.2.2.2.2.1.length+1) (p:=sE m.2.2.2.1 m.2.1 m.1) (fin:=oG c m.2.2.2.2.2.1&&((m.2.2.2.2.2.1.length:Int)==cond m.2.2.2.2.1 (LF m.2.2.2.1) 0)) (fun n i hi=>by
   simp only[JZ,SI,AB,sE];have hb:(0:Int)≤(i:Int)∧(i:Int)<(m.2.2.2.1.length:Int):=by omega
   rw[ALP hb.2,AL (by omega) (by omega),show((i:Int)+1)=((i+1:Nat):Int)by omega,AMZ];simp only[ALP hb];rw[show((m.2.2.2.1.getD i (0,0,false,[],())).1,(m.2.2.2.1.getD i (0,0,false,[],())).2.1,(m.2.2.2.1.getD i (0,0,false,[],())).2.2.1,(m.2.2.2.1.getD i (0,0,false,[],())).2.2.2.1,())=m.2.2.2.1.getD i Dt from rfl,QC (h.getD hi),E7 (h.getD hi)];grind) (fun n hn=>by
   simp only[JZ,SI,AB];simp_all) m.2.2.2.1.length Ae 0 (by omega) (Ag (by omega))
 rw[show((0:Nat):Int)=0 from rfl]at se;unfold Ix Yz G9;rw[show(c.1,c.2.1,())=c from rfl,HL hc,Bd,Bd,G4 hc (by omega),fi (by omega),se];simp only[AM0];rcases AKr (BN m.2.1 1 30)with hi|hi
 ·have ye:=hi
  simp only[BN,AMi]at ye;rw[AL (by omega) (by omega),hi];cases Ej c<;>cases BN m.1 (m.2.1+1) 30<;>cases Ay c m.2.2.1<;>cases iX m.2.2.2.1<;>rfl
 simp_all
theorem qZ{m:As}(hm:CL m≤2^30)(h:rE m.2.2.2.1):Ul m=some ((sR m.2.2.2.1 m.2.1 m.1&&iX m.2.2.2.1,()),()):=by
 have l1:=AX (f:=Aq) (l:=m.2.2.2.1);unfold CL at hm;unfold Ul Xz;exact GD (L:=fun n i=>LW n m.2.2.2.1 m.2.2.2.1.length i m.1 m.2.1 m.2.2.1 m.2.2.2.1 m.2.2.2.2.1 m.2.2.2.2.2.1) (len:=m.2.2.2.1.length) (p:=sE m.2.2.2.1 m.2.1 m.1) (fin:=iX m.2.2.2.1) (fun n i hi=>by
  simp only[LW,RR,AB,sE];rw[ALP (by omega),ALP (by omega),AL (by omega) (by omega),show((i:Int)+1)=((i+1:Nat):Int)by omega,AMZ];rw[show((m.2.2.2.1.getD i (0,0,false,[],())).1,(m.2.2.2.1.getD i (0,0,false,[],())).2.1,(m.2.2.2.1.getD i (0,0,false,[],())).2.2.1,(m.2.2.2.1.getD i (0,0,false,[],())).2.2.2.1,())=m.2.2.2.1.getD i Dt from rfl,QG (h.getD hi),EI (h.getD hi)];grind) (fun n=>by
  simp only[LW,RR,AB];rw[ALo (by omega),UX (by omega)];rfl) m.2.2.2.1.length Ae 0 (by omega) (Ag (by omega))
theorem Hn{c:CD}{m:As}(hc:c.1.length≤2^40)(hm:CL m≤2^30)(h:rE m.2.2.2.1):Hv c m=some ((G9 c m,()),()):=by
 have l1:=AX (f:=Aq) (l:=m.2.2.2.1);have l2:=AX (f:=C9) (l:=m.2.2.2.2.2.1);have hm2:=hm;unfold CL at hm;have key:=GD (L:=fun n i=>K7 n m.2.2.2.2.2.1 m.2.2.2.2.2.1.length i c.1 c.2.1 m.1 m.2.1 m.2.2.1 m.2.2.2.1 m.2.2.2.2.1 m.2.2.2.2.2.1) (len:=m.2.2.2.2.2.1.length) (p:=fun i=>Ay c (m.2.2.2.2.2.1.getD i []))
  (fin:=Ej c&&(BN m.2.1 1 30&&(BN m.1 (m.2.1+1) 30&&(Ay c m.2.2.1&&((sR m.2.2.2.1 m.2.1 m.1&&iX m.2.2.2.1)&&((m.2.2.2.2.2.1.length:Int)==cond m.2.2.2.2.1 (LF m.2.2.2.1) 0)))))) (fun n i hi=>by
   have hwi:(m.2.2.2.2.2.1.getD i []).length≤Af C9 m.2.2.2.2.2.1:=Aa (f:=C9) (BJ (d:=[]) hi);simp only[K7,RV,AB];rw[ALP (by omega),ALP (by omega),AL (x:=(i:Int)+1) (by omega) (by omega),show((i:Int)+1)=((i+1:Nat):Int)by omega,AMZ,show(c.1,c.2.1,())=c from rfl,EH hc (by omega)];simp_all) (fun n=>by
   simp only[K7,RV,AB];rw[ALo (by omega),show(m.1,m.2.1,m.2.2.1,m.2.2.2.1,m.2.2.2.2.1,m.2.2.2.2.2.1,())=m from rfl,cO (by omega) h,show(c.1,c.2.1,())=c from rfl,La hc,EH hc (by omega),qZ hm2 h];simp only[AM0,Hb,Ax];rcases AKr (BN m.2.1 1 30)with hi|hi
   ·have ye:=hi
    simp only[BN,AMi]at ye;grind[AL,Ej,BN,Ay,sR,iX]
   simp_all) m.2.2.2.2.2.1.length Ae 0 (by omega) (Ag (by omega))
 unfold Hv YE G9;rw[show((0:Nat):Int)=0 from rfl]at key;grind[oG,DR,Ay,Ej,BN,sR,iX]
end Go.M
end
section
namespace Go.M
open Go.M.H (AJ AO As Ab AA CO AN A4 AM AY Az Af AX Aa Aq Ak CL EC Cs CB BF Ar A7 CM C9)
theorem AEz{x:Int}{l:AAH}(hl:l.length≤2^40):∃r,M9 [x] l=some (((),()),(r,()))∧decide ((r.length:Int)>0)=l.contains x:=by
 obtain⟨m,hm⟩:∃m,Ae=m+2:=⟨Ae-2,by have:=bV;omega⟩;unfold M9 DG;rw[ALP (by rw[BX];simp)];simp only[AM0];unfold Co Dz Dk D8;rw[hm];simp only[B8,D_,Q7,ANL,AQO,AB];rw[ALP (by omega),ALP (by omega)];simp only[Int.toNat_zero,List.getD_cons_zero];rw[Iv hl];simp only[AM0];cases l.contains x with
 |true=>
  simp only[AMO,AMh];rw[AL (x:=0+1) (by omega) (by omega),ALo (by omega)];simp_all
 |false=>
  simp only[ATH,AMy,AM0];rw[AL (x:=0+1) (by omega) (by omega)];simp only[Bu,D2,AB,ANL,AQO];simp_all
theorem Zj{w:AA}{x:Int}(hl:w.2.2.2.1.length≤2^40):C6 w x=some ((w.2.2.2.1.contains x,()),()):=by
 unfold C6;obtain⟨r,h1,h2⟩:=AEz (x:=x) hl;simp_all
theorem KQ{l:AAH}{x:Int}(hl:l.length≤2^40):DK l x=some ((l.contains x,()),()):=by
 have key:∀(n i:Nat),i≤l.length→l.length-i<n→Pm n l x i=some (((l.drop i).contains x,()),()):=by
  intro n
  induction n with
  |zero=>omega
  |succ n ih=>
   intro i hi h;simp only[Pm,aK,AB];by_cases hc:i<l.length
   ·rw[ALP (by omega),ALP (by omega),AL (by omega) (by omega),show((i:Int)+1)=((i+1:Nat):Int)by omega,Aj hc,drop_cons hc,ih (i+1) (by omega) (by omega)]
    simp only[List.contains_cons];by_cases he:l[i]=x
    all_goals grind
   grind
 grind[DK,Z3,Ae,Ag]
def W0(l:List CO):Nat→Nat→Int
 |_,0=>0
 |i,d+1=>cond (!(l.getD i ([],false,0,())).2.1) ((i:Int)+1) (W0 l (i+1) d)
def A8(l:List CO):Int:=W0 l 0 l.length
theorem NS{r:AN}(hl:r.1.length≤2^40):JO r=some ((A8 r.1,()),()):=by
 have key:∀(d n i:Nat),i+d=r.1.length→d<n→IC n i r.1 r.2.1=some ((W0 r.1 i d,()),()):=by
  intro d
  induction d with
  |zero=>
   intro n i hi hn;obtain⟨m,rfl⟩:∃m,n=m+1:=⟨n-1,by omega⟩;simp only[IC,OI,AB,W0];simp_all
  |succ d ih=>
   intro n i hi hn;obtain⟨m,rfl⟩:∃m,n=m+1:=⟨n-1,by omega⟩;simp only[IC,OI,AB,W0];rw[ALP (by omega),ALP (by omega),AL (by omega) (by omega),show((i:Int)+1)=((i+1:Nat):Int)by omega,ih m (i+1) (by omega) (by omega),AMZ];grind
 grind[JO,UT,A8,Ae,Ag]
theorem SL{r:AN}(hl:r.1.length≤2^40):Lq r=some ((A8 r.1,()),()):=by
 have key:∀(d n i:Nat),i+d=r.1.length→d<n→IB n r.1 r.1.length i=some ((W0 r.1 i d,()),()):=by
  intro d
  induction d with
  |zero=>
   intro n i hi hn;obtain⟨m,rfl⟩:∃m,n=m+1:=⟨n-1,by omega⟩;simp only[IB,Of,AB,W0];simp_all
  |succ d ih=>
   intro n i hi hn;obtain⟨m,rfl⟩:∃m,n=m+1:=⟨n-1,by omega⟩;simp only[IB,Of,AB,W0];rw[ALP (by omega),ALP (by omega),AL (by omega) (by omega),show((i:Int)+1)=((i+1:Nat):Int)by omega,ih m (i+1) (by omega) (by omega),AMZ];grind
 grind[Lq,Uf,A8,Ae,Ag]
structure fa (w:AA):Prop where
 weight:Cs w≤2^20
 An:∀s∈w.2.2.1,qw s
 trim:DH w.2.2.2.2.2.1
 BW:∀m∈w.2.2.2.2.2.2.2.1,rE m.2.2.2.1
 HF:∀s∈w.2.2.2.2.2.2.2.2.2.1,DH s.1
abbrev Cr:AO:=([],[],0,())
abbrev Bv:AM:=(0,[],())
abbrev Qs:As:=(0,0,[],[],false,[],())
abbrev Au:AY:=(0,0,[],())
abbrev JF:Ab:=(0,[],false,())
def AS(w:AA):CD:=(w.1,w.2.1,())
def B5(w:AA):AN:=(w.2.2.2.2.1,w.2.2.2.2.2.1,())
def kP(w:AA)(i:Nat):Bool:=CF (w.2.2.1.getD i Cr)&&(!w.2.2.2.1.contains (i:Int)||((w.2.2.1.getD i Cr).1.length==0&&((w.2.2.1.getD i Cr).2.1.length==0&&(w.2.2.1.getD i Cr).2.2.1==0)))
def eX(w:AA)(i:Nat):Bool:=FK (AS w) (w.2.2.2.2.2.2.1.getD i Bv)&&(decide ((w.2.2.2.2.2.2.1.getD i Bv).1≤(w.2.2.2.2.1.length:Int))&&(i==0||decide ((w.2.2.2.2.2.2.1.getD (i-1) Bv).1<(w.2.2.2.2.2.2.1.getD i Bv).1)))
def tN(w:AA)(i:Nat):Bool:=G9 (AS w) (w.2.2.2.2.2.2.2.1.getD i Qs)&&(((w.2.2.2.2.2.2.2.1.getD i Qs).1==(w.2.2.2.2.1.length:Int))&&((w.2.2.2.2.2.2.2.1.getD i Qs).2.1==A8 w.2.2.2.2.1))
def rz(w:AA)(i:Nat):Bool:=(BR (w.2.2.2.2.2.2.2.2.2.1.getD i JF).1&&decide (AQ (w.2.2.2.2.2.2.2.2.2.1.getD i JF).1≤(w.2.2.2.2.1.length:Int)))&&(decide ((w.2.2.2.2.2.2.2.2.2.1.getD i JF).2.1.length≤40)&&(i==0||decide ((w.2.2.2.2.2.2.2.2.2.1.getD (i-1) JF).1<(w.2.2.2.2.2.2.2.2.2.1.getD i JF).1)))
def eF(w:AA):Bool:=DR (kP w) 0 w.2.2.1.length
def Zh(w:AA):Bool:=DR (eX w) 0 w.2.2.2.2.2.2.1.length
def gv(w:AA):Bool:=DR (tN w) 0 w.2.2.2.2.2.2.2.1.length
def r6(w:AA):Bool:=DR (rz w) 0 w.2.2.2.2.2.2.2.2.2.1.length
def aL(w:AA):Bool:=decide (w.2.2.2.2.2.2.2.2.1.length=2)&&(W6 (w.2.2.2.2.2.2.2.2.1.getD 0 Au)&&W6 (w.2.2.2.2.2.2.2.2.1.getD 1 Au))
def Fm(w:AA):Bool:=Ej (AS w)&&(decide (w.2.2.1.length=w.1.length)&&(Ay (AS w) w.2.2.2.1&&((w.2.2.2.2.2.2.2.2.2.2.1|| !holds (AS w) w.2.2.2.1)&&(eF w&&(Mk (AS w) (B5 w)&&(decide (w.2.2.2.2.2.2.1.length≤4)&&(decide (w.2.2.2.2.2.2.2.1.length≤1)&&(Zh w&&(gv w&&(aL w&&(decide (w.2.2.2.2.2.2.2.2.2.1.length≤120)&&r6 w)))))))))))
section
variable{w:AA} (h:fa w)
include h
theorem fa.lens:w.1.length≤2^20∧Af Ak w.2.2.1≤2^20∧w.2.2.2.1.length≤2^20∧Af CB w.2.2.2.2.1≤2^20∧Af Ar w.2.2.2.2.2.2.1≤2^20∧Af CL w.2.2.2.2.2.2.2.1≤2^20∧Af A7 w.2.2.2.2.2.2.2.2.1≤2^20∧Af EC w.2.2.2.2.2.2.2.2.2.1≤2^20:=by
 have:=h.weight;grind[Cs]
theorem fa.Nz:w.2.2.1.length≤2^20∧w.2.2.2.2.1.length≤2^20∧w.2.2.2.2.2.2.1.length≤2^20∧w.2.2.2.2.2.2.2.1.length≤2^20∧w.2.2.2.2.2.2.2.2.1.length≤2^20∧w.2.2.2.2.2.2.2.2.2.1.length≤2^20:=by
 have k:=h.lens;grind[AX,Ak,CB,Ar,CL,A7,EC]
theorem fa.cfg:(AS w).1.length≤2^40:=by
 have:=h.lens
 show w.1.length≤2^40
 omega
theorem wJ:Kr w=some ((decide (w.2.2.1.length=w.1.length)&&(Ay (AS w) w.2.2.2.1&&(eF w&&(w.2.2.2.2.2.2.2.2.2.2.1|| !holds (AS w) w.2.2.2.1))),()),()):=by
 have k1:=h.lens;have k2:=h.Nz;have key:=GD (L:=fun n i=>FH n w w.2.2.1 w.2.2.1.length i) (len:=w.2.2.1.length) (p:=kP w) (fin:=w.2.2.2.2.2.2.2.2.2.2.1|| !holds (AS w) w.2.2.2.1) (fun n i hi=>by
  have hm:=BJ (d:=Cr) hi;have hw:=Aa (f:=Ak) hm;simp only[FH,Jt,AB,kP];rw[ALP (by omega),ALP (by omega),AL (x:=(i:Int)+1) (by omega) (by omega),show((i:Int)+1)=((i+1:Nat):Int)by omega,AMZ,Zj (by omega)];rw[show((w.2.2.1.getD i ([],[],0,())).1,(w.2.2.1.getD i ([],[],0,())).2.1,(w.2.2.1.getD i ([],[],0,())).2.2.1,())=w.2.2.1.getD i Cr from rfl,E6 (by omega) (h.An _ hm)];simp only[AM0]
  show cond (!CF (w.2.2.1.getD i Cr)) _ _=_
  rcases AKr (CF (w.2.2.1.getD i Cr))with hs|hs
  rotate_left
  ·simp_all
  rw[hs];have hs2:=hs;simp only[CF,BN,AMC,AMi]at hs2
  generalize w.2.2.1.getD i Cr=s at hw hs2
  cases w.2.2.2.1.contains ((i:Nat):Int)with
  |false=>rfl
  |true=>
   simp only[AMO,AMh,AMy,AMn,ASZ];unfold Ak at hw;have q1:=AX (f:=Aq) (l:=s.1);have q2:=AX (f:=Aq) (l:=s.2.1);rw[AL (x:=(s.1.length:Int)+_) (by omega) (by omega),AL (by omega) (by omega)];grind) (fun n=>by
  simp only[FH,Jt,AB];rw[ALo (by omega),show(w.1,w.2.1,())=AS w from rfl,GY h.cfg (by omega)];grind) w.2.2.1.length Ae 0 (by omega) (Ag (by omega))
 rw[show((0:Nat):Int)=0 from rfl]at key;unfold Kr PO eF;rw[show(w.1,w.2.1,())=AS w from rfl,EH h.cfg (by omega),key];grind[decide_eq_true,Ay,AS,decide_eq_false]
end
end Go.M
end
section
namespace Go.M
open Go.M.H (AJ AO As Ab AA CO AN A4 AM AY Az Af AX Aa Aq Ak CL EC Cs CB BF Ar A7 CM C9)
theorem AAi{x lo hi:Int}(h:lo≤x):BN x lo hi=decide (x≤hi):=by
 grind[BN,decide_eq_true,decide_eq_false]
theorem AGE{x lo hi:Int}(h:x<lo):BN x lo hi=false:=by
 grind[BN,decide_eq_false]
section
variable{w:AA} (h:fa w)
include h
theorem vR:KE w=some ((Zh w&&decide (w.2.2.2.2.2.2.1.length≤4),()),()):=by
 have k1:=h.lens;have k2:=h.Nz;have key:=GD (L:=fun n i=>Eg n w w.2.2.2.2.2.2.1 w.2.2.2.2.2.2.1.length i) (len:=w.2.2.2.2.2.2.1.length) (p:=eX w) (fin:=decide (w.2.2.2.2.2.2.1.length≤4)) (fun n i hi=>by
  have hm:=BJ (d:=Bv) hi;have hw:=Aa (f:=Ar) hm;unfold Ar at hw;simp only[Eg,JQ,AB,eX,JJ,Ax];rw[ALP (by omega),ALP (by omega),AL (x:=(i:Int)+1) (by omega) (by omega),show((i:Int)+1)=((i+1:Nat):Int)by omega,AMZ];have hw2:Af BF (w.2.2.2.2.2.2.1.getD i Bv).2.1≤2^30:=by
   have:=k1.2.2.2.2.1;unfold Ar at this;omega
  rw[show((w.2.2.2.2.2.2.1.getD i (0,[],())).1,(w.2.2.2.2.2.2.1.getD i (0,[],())).2.1,())=w.2.2.2.2.2.2.1.getD i Bv from rfl,show(w.1,w.2.1,())=AS w from rfl,I7 h.cfg hw2];simp only[AM0];rcases AKr (FK (AS w) (w.2.2.2.2.2.2.1.getD i Bv))with hs|hs
  rotate_left
  ·simp_all
  have he:=(fG hs).2.1;rw[hs,show BN (w.2.2.2.2.2.2.1.getD i (0,[],())).1 1 (w.2.2.2.2.1.length:Int)=decide ((w.2.2.2.2.2.2.1.getD i Bv).1≤(w.2.2.2.2.1.length:Int))from AAi he.1];simp only[AMO,AMh,AMn];cases decide ((w.2.2.2.2.2.2.1.getD i Bv).1≤(w.2.2.2.2.1.length:Int))with
  |false=>rfl
  |true=>
   simp only[AMO,AMh,AMn];by_cases h0:i=0
   ·simp_all
   ·rw[ALP (by omega),AL (by omega) (by omega),ALP (by omega)]
    have h1:((i:Int)-1).toNat=i-1:=by omega
    have h2:(i==0)=false:=by simp_all
    rw[h1,h2,ASZ];grind) (fun n=>by
  simp only[Eg,JQ,AB];simp_all;omega) w.2.2.2.2.2.2.1.length Ae 0 (by omega) (Ag (by omega))
 rw[show((0:Nat):Int)=0 from rfl]at key;grind[KE,Oc,Zh]
theorem zN:L7 w=some ((gv w&&decide (w.2.2.2.2.2.2.2.1.length≤1),()),()):=by
 have k1:=h.lens;have k2:=h.Nz;have key:=GD (L:=fun n i=>FY n w w.2.2.2.2.2.2.2.1 w.2.2.2.2.2.2.2.1.length i) (len:=w.2.2.2.2.2.2.2.1.length) (p:=tN w) (fin:=decide (w.2.2.2.2.2.2.2.1.length≤1)) (fun n i hi=>by
  have hm:=BJ (d:=Qs) hi;have hw:=Aa (f:=CL) hm;simp only[FY,Kj,AB,tN];rw[ALP (by omega),ALP (by omega),AL (x:=(i:Int)+1) (by omega) (by omega),show((i:Int)+1)=((i+1:Nat):Int)by omega,AMZ];rw[show((w.2.2.2.2.2.2.2.1.getD i (0,0,[],[],false,[],())).1,(w.2.2.2.2.2.2.2.1.getD i (0,0,[],[],false,[],())).2.1,(w.2.2.2.2.2.2.2.1.getD i (0,0,[],[],false,[],())).2.2.1,(w.2.2.2.2.2.2.2.1.getD i (0,0,[],[],false,[],())).2.2.2.1,(w.2.2.2.2.2.2.2.1.getD i (0,0,[],[],false,[],())).2.2.2.2.1,(w.2.2.2.2.2.2.2.1.getD i (0,0,[],[],false,[],())).2.2.2.2.2.1,())=w.2.2.2.2.2.2.2.1.getD i Qs from rfl,show(w.1,w.2.1,())=AS w from rfl,Hn h.cfg (by omega) (h.BW _ hm)];rw[SL (by grind)];grind) (fun n=>by
  simp only[FY,Kj,AB];simp_all;omega) w.2.2.2.2.2.2.2.1.length Ae 0 (by omega) (Ag (by omega))
 rw[show((0:Nat):Int)=0 from rfl]at key;grind[L7,Pn,gv]
theorem ub:KL w=some ((aL w,()),()):=by
 have k2:=h.Nz;have key:=GD (L:=fun n i=>Ef n w w.2.2.2.2.2.2.2.2.1 w.2.2.2.2.2.2.2.2.1.length i) (len:=w.2.2.2.2.2.2.2.2.1.length) (p:=fun i=>W6 (w.2.2.2.2.2.2.2.2.1.getD i Au)) (fin:=((w.2.2.2.2.2.2.2.2.1.length:Int)==2)) (fun n i hi=>by
  simp only[Ef,JG,AB];rw[ALP (by omega),ALP (by omega),AL (x:=(i:Int)+1) (by omega) (by omega),show((i:Int)+1)=((i+1:Nat):Int)by omega,AMZ];rw[show((w.2.2.2.2.2.2.2.2.1.getD i (0,0,[],())).1,(w.2.2.2.2.2.2.2.2.1.getD i (0,0,[],())).2.1,(w.2.2.2.2.2.2.2.2.1.getD i (0,0,[],())).2.2.1,())=w.2.2.2.2.2.2.2.2.1.getD i Au from rfl,Z_];simp_all) (fun n=>by
  simp only[Ef,JG,AB];simp_all) w.2.2.2.2.2.2.2.2.1.length Ae 0 (by omega) (Ag (by omega))
 rw[show((0:Nat):Int)=0 from rfl]at key;unfold KL Ns aL;grind[DR,decide_eq_false]
theorem ADA:NY w=some ((r6 w&&decide (w.2.2.2.2.2.2.2.2.2.1.length≤120),()),()):=by
 have k2:=h.Nz;have key:=GD (L:=fun n i=>GL n w w.2.2.2.2.2.2.2.2.2.1 w.2.2.2.2.2.2.2.2.2.1.length i) (len:=w.2.2.2.2.2.2.2.2.2.1.length) (p:=rz w) (fin:=decide (w.2.2.2.2.2.2.2.2.2.1.length≤120)) (fun n i hi=>by
  have hm:=BJ (d:=JF) hi;have PY:DH (w.2.2.2.2.2.2.2.2.2.1.getD i (0,[],false,())).1:=h.HF _ hm;simp only[GL,Ln,AB,rz,JJ,Ax,GK];rw[ALP (by omega),ALP (by omega),AL (x:=(i:Int)+1) (by omega) (by omega),show((i:Int)+1)=((i+1:Nat):Int)by omega,AMZ,EI PY];simp only[AM0];have e1:BN (AQ (w.2.2.2.2.2.2.2.2.2.1.getD i (0,[],false,())).1) 1 (w.2.2.2.2.1.length:Int)=(BR (w.2.2.2.2.2.2.2.2.2.1.getD i JF).1&&decide (AQ (w.2.2.2.2.2.2.2.2.2.1.getD i JF).1≤(w.2.2.2.2.1.length:Int))):=by
   show BN (AQ (w.2.2.2.2.2.2.2.2.2.1.getD i JF).1) 1 (w.2.2.2.2.1.length:Int)=_
   have hr:=fD (x:=(w.2.2.2.2.2.2.2.2.2.1.getD i JF).1);rcases AKr (BR (w.2.2.2.2.2.2.2.2.2.1.getD i JF).1)with hp|hp
   ·rw[hp,AAi (hr.1 hp).1,AMn]
   ·rw[hp,hr.2 hp,AGE (by omega),ATP]
  rw[e1,show decide ((((w.2.2.2.2.2.2.2.2.2.1.getD i (0,[],false,())).2.1.length:Nat):Int)≤40)=decide ((w.2.2.2.2.2.2.2.2.2.1.getD i JF).2.1.length≤40)from AU_ _ 40];cases(BR (w.2.2.2.2.2.2.2.2.2.1.getD i JF).1&&decide (AQ (w.2.2.2.2.2.2.2.2.2.1.getD i JF).1≤(w.2.2.2.2.1.length:Int)))with
  |false=>rfl
  |true=>
   cases decide ((w.2.2.2.2.2.2.2.2.2.1.getD i JF).2.1.length≤40)with
   |false=>rfl
   |true=>
    simp only[AMO,AMh,AMn];by_cases h0:i=0
    ·simp_all
    ·rw[ALP (by omega),AL (by omega) (by omega),ALP (by omega)]
     have h1:((i:Int)-1).toNat=i-1:=by omega
     have h2:(i==0)=false:=by simp_all
     rw[h1,h2,ASZ];grind) (fun n=>by
  simp only[GL,Ln,AB];simp_all;omega) w.2.2.2.2.2.2.2.2.2.1.length Ae 0 (by omega) (Ag (by omega))
 rw[show((0:Nat):Int)=0 from rfl]at key;grind[NY,RG,r6]
theorem Jw:Fq w=some ((Fm w,()),()):=by
 have k1:=h.lens;unfold Fq Fm;rw[show(w.1,w.2.1,w.2.2.1,w.2.2.2.1,w.2.2.2.2.1,w.2.2.2.2.2.1,w.2.2.2.2.2.2.1,w.2.2.2.2.2.2.2.1,w.2.2.2.2.2.2.2.2.1,w.2.2.2.2.2.2.2.2.2.1,w.2.2.2.2.2.2.2.2.2.2.1,())=w from rfl,show(w.1,w.2.1,())=AS w from rfl,show(w.2.2.2.2.1,w.2.2.2.2.2.1,())=B5 w from rfl];rw[La h.cfg,wJ h,M1 h.cfg (by show Af CB w.2.2.2.2.1≤_;omega) h.trim,vR h,zN h,ub h,ADA h];grind
end
end Go.M
end
section
namespace Go.M
open Go.M.H (AJ AO As Ab AA CO AN A4 AM AY Az Af AX Aa Aq Ak CL EC Cs CB BF Ar A7 CM C9)
section
variable{w:AA} (h:fa w)
include h
theorem wR:T_ w=some ((Ej (AS w)&&(decide (w.2.2.1.length=w.1.length)&&(Ay (AS w) w.2.2.2.1&&((w.2.2.2.2.2.2.2.2.2.2.1|| !holds (AS w) w.2.2.2.1)&&eF w))),()),()):=by
 have k1:=h.lens;have k2:=h.Nz;have key:=GD (L:=fun n i=>JC n i w.1 w.2.1 w.2.2.1 w.2.2.2.1 w.2.2.2.2.1 w.2.2.2.2.2.1 w.2.2.2.2.2.2.1 w.2.2.2.2.2.2.2.1 w.2.2.2.2.2.2.2.2.1 w.2.2.2.2.2.2.2.2.2.1 w.2.2.2.2.2.2.2.2.2.2.1) (len:=w.2.2.1.length) (p:=kP w) (fin:=true) (fun n i hi=>by
  have hm:=BJ (d:=Cr) hi;have hw:=Aa (f:=Ak) hm;simp only[JC,Pd,AB,kP];have hb:(0:Int)≤(i:Int)∧(i:Int)<(w.2.2.1.length:Int):=by omega
  rw[ALP hb.2,AL (x:=(i:Int)+1) (by omega) (by omega),show((i:Int)+1)=((i+1:Nat):Int)by omega,AMZ,KQ (by omega)];simp only[ALP hb];rw[show((w.2.2.1.getD i ([],[],0,())).1,(w.2.2.1.getD i ([],[],0,())).2.1,(w.2.2.1.getD i ([],[],0,())).2.2.1,())=w.2.2.1.getD i Cr from rfl,Fp (by omega) (h.An _ hm)];simp only[AM0]
  show cond (!CF (w.2.2.1.getD i Cr)) _ _=_
  cases CF (w.2.2.1.getD i Cr)with
  |false=>rfl
  |true=>
   cases w.2.2.2.1.contains ((i:Nat):Int)with
   |false=>rfl
   |true=>
    simp only[bR,AMO,AMh,AMy,AMn,ASZ];have e1:∀n:Nat,((n:Int)==0)=(n==0):=fun n=>by
     grind
    grind) (fun n=>by
  simp only[JC,Pd,AB];simp_all) w.2.2.1.length Ae 0 (by omega) (Ag (by omega))
 rw[show((0:Nat):Int)=0 from rfl]at key;unfold T_ Vi eF;rw[show(w.1,w.2.1,())=AS w from rfl,HL h.cfg,G4 h.cfg (by omega),E5 h.cfg (by omega),key];simp only[AM0,ATh];grind[decide_eq_true,Ej,AS,Ay,holds,decide_eq_false]
theorem uC:RL w=some ((Mk (AS w) (B5 w)&&(decide (w.2.2.2.2.2.2.1.length≤4)&&(decide (w.2.2.2.2.2.2.2.1.length≤1)&&(Zh w&&gv w))),()),()):=by
 have k1:=h.lens;have k2:=h.Nz;have me:∀n,w.2.2.2.2.2.2.2.1.length+1≤n→Ex n (w.2.2.2.2.1.length:Int) 0 w.1 w.2.1 w.2.2.1 w.2.2.2.1 w.2.2.2.2.1 w.2.2.2.2.2.1 w.2.2.2.2.2.2.1 w.2.2.2.2.2.2.2.1 w.2.2.2.2.2.2.2.2.1 w.2.2.2.2.2.2.2.2.2.1 w.2.2.2.2.2.2.2.2.2.2.1=some ((gv w,()),()):=fun n hn=>by
  have key:=GD (L:=fun n i=>Ex n (w.2.2.2.2.1.length:Int) i w.1 w.2.1 w.2.2.1 w.2.2.2.1 w.2.2.2.2.1 w.2.2.2.2.2.1 w.2.2.2.2.2.2.1 w.2.2.2.2.2.2.2.1 w.2.2.2.2.2.2.2.2.1 w.2.2.2.2.2.2.2.2.2.1 w.2.2.2.2.2.2.2.2.2.2.1) (len:=w.2.2.2.2.2.2.2.1.length) (p:=tN w) (fin:=true) (fun n i hi=>by
   have hm:=BJ (d:=Qs) hi;have hw:=Aa (f:=CL) hm;simp only[Ex,NF,AB,tN];rw[ALP (by omega),ALP (by omega),AL (x:=(i:Int)+1) (by omega) (by omega),show((i:Int)+1)=((i+1:Nat):Int)by omega,AMZ];rw[show((w.2.2.2.2.2.2.2.1.getD i (0,0,[],[],false,[],())).1,(w.2.2.2.2.2.2.2.1.getD i (0,0,[],[],false,[],())).2.1,(w.2.2.2.2.2.2.2.1.getD i (0,0,[],[],false,[],())).2.2.1,(w.2.2.2.2.2.2.2.1.getD i (0,0,[],[],false,[],())).2.2.2.1,(w.2.2.2.2.2.2.2.1.getD i (0,0,[],[],false,[],())).2.2.2.2.1,(w.2.2.2.2.2.2.2.1.getD i (0,0,[],[],false,[],())).2.2.2.2.2.1,())=w.2.2.2.2.2.2.2.1.getD i Qs from rfl,show(w.1,w.2.1,())=AS w from rfl,JN h.cfg (by omega) (h.BW _ hm)];rw[NS (by grind)];grind) (fun n=>by
   simp only[Ex,NF,AB];simp_all) w.2.2.2.2.2.2.2.1.length n 0 (by omega) (by omega)
  rw[show((0:Nat):Int)=0 from rfl]at key;rw[key,ATh];rfl
 have key:=lH (L:=fun n i=>Gg n (w.2.2.2.2.1.length:Int) i w.1 w.2.1 w.2.2.1 w.2.2.2.1 w.2.2.2.2.1 w.2.2.2.2.2.1 w.2.2.2.2.2.2.1 w.2.2.2.2.2.2.2.1 w.2.2.2.2.2.2.2.2.1 w.2.2.2.2.2.2.2.2.2.1 w.2.2.2.2.2.2.2.2.2.2.1) (len:=w.2.2.2.2.2.2.1.length) (N:=w.2.2.2.2.2.2.2.1.length+1) (p:=eX w) (fin:=gv w) (fun n i hi=>by
  have hm:=BJ (d:=Bv) hi;have hw:=Aa (f:=Ar) hm;unfold Ar at hw;simp only[Gg,OS,AB,eX];have hb:(0:Int)≤(i:Int)∧(i:Int)<(w.2.2.2.2.2.2.1.length:Int):=by omega
  rw[ALP hb.2,AL (x:=(i:Int)+1) (by omega) (by omega),show((i:Int)+1)=((i+1:Nat):Int)by omega,AMZ];simp only[ALP hb];have hw2:Af BF (w.2.2.2.2.2.2.1.getD i Bv).2.1≤2^30:=by
   have:=k1.2.2.2.2.1;unfold Ar at this;omega
  rw[show((w.2.2.2.2.2.2.1.getD i (0,[],())).1,(w.2.2.2.2.2.2.1.getD i (0,[],())).2.1,())=w.2.2.2.2.2.2.1.getD i Bv from rfl,show(w.1,w.2.1,())=AS w from rfl,LO h.cfg hw2];simp only[AM0];cases FK (AS w) (w.2.2.2.2.2.2.1.getD i Bv)with
  |false=>rfl
  |true=>
   simp only[AMO,AMh,AMn];by_cases hle:(w.2.2.2.2.2.2.1.getD i (0,[],())).1≤(w.2.2.2.2.1.length:Int)
   ·rw[ALo (by omega),show decide ((w.2.2.2.2.2.2.1.getD i Bv).1≤(w.2.2.2.2.1.length:Int))=true from AR7 hle,AMn]
    by_cases h0:i=0
    ·simp_all
    ·rw[ALP (by omega),AL (by omega) (by omega),ALP (by omega)]
     have h1:((i:Int)-1).toNat=i-1:=by omega
     have h2:(i==0)=false:=by simp_all
     rw[h1,h2,ASZ];grind
   grind) (fun n hn=>by
  simp only[Gg,OS,AB];simp_all) w.2.2.2.2.2.2.1.length Ae 0 (by omega) (Ag (by omega))
 rw[show((0:Nat):Int)=0 from rfl]at key;unfold RL Ur Zh;rw[show(w.1,w.2.1,())=AS w from rfl,show(w.2.2.2.2.1,w.2.2.2.2.2.1,())=B5 w from rfl,Po h.cfg (by show Af CB w.2.2.2.2.1≤_;omega) h.trim,key];grind
theorem za:Vu w=some ((decide (w.2.2.2.2.2.2.2.2.2.1.length≤120)&&r6 w,()),()):=by
 have k2:=h.Nz;have key:=GD (L:=fun n i=>J6 n i w.1 w.2.1 w.2.2.1 w.2.2.2.1 w.2.2.2.2.1 w.2.2.2.2.2.1 w.2.2.2.2.2.2.1 w.2.2.2.2.2.2.2.1 w.2.2.2.2.2.2.2.2.1 w.2.2.2.2.2.2.2.2.2.1 w.2.2.2.2.2.2.2.2.2.2.1) (len:=w.2.2.2.2.2.2.2.2.2.1.length) (p:=rz w) (fin:=true) (fun n i hi=>by
  have hm:=BJ (d:=JF) hi;have PY:DH (w.2.2.2.2.2.2.2.2.2.1.getD i (0,[],false,())).1:=h.HF _ hm;simp only[J6,Qj,AB,rz];rw[ALP (by omega),ALP (by omega),AL (x:=(i:Int)+1) (by omega) (by omega),show((i:Int)+1)=((i+1:Nat):Int)by omega,AMZ,IH PY,E7 PY];simp only[AM0]
  show cond (!BR (w.2.2.2.2.2.2.2.2.2.1.getD i JF).1) _ _=_
  cases BR (w.2.2.2.2.2.2.2.2.2.1.getD i JF).1 with
  |false=>rfl
  |true=>
   simp only[AMO,AMh,AMn];by_cases hle:AQ (w.2.2.2.2.2.2.2.2.2.1.getD i (0,[],false,())).1≤(w.2.2.2.2.1.length:Int)
   ·rw[ALo (by omega),show decide (AQ (w.2.2.2.2.2.2.2.2.2.1.getD i JF).1≤(w.2.2.2.2.1.length:Int))=true from AR7 hle,AMn]
    by_cases h40:(w.2.2.2.2.2.2.2.2.2.1.getD i (0,[],false,())).2.1.length≤40
    ·rw[ALo (by omega),show decide ((w.2.2.2.2.2.2.2.2.2.1.getD i JF).2.1.length≤40)=true from AR7 h40,AMn]
     by_cases h0:i=0
     ·simp_all
     ·rw[ALP (by omega),AL (by omega) (by omega),ALP (by omega)]
      have h1:((i:Int)-1).toNat=i-1:=by omega
      have h2:(i==0)=false:=by simp_all
      rw[h1,h2,ASZ];grind
    grind
   grind) (fun n=>by
  simp only[J6,Qj,AB];simp_all) w.2.2.2.2.2.2.2.2.2.1.length Ae 0 (by omega) (Ag (by omega))
 rw[show((0:Nat):Int)=0 from rfl]at key;unfold Vu Xb r6;grind
theorem nZ:Vn w=some ((Fm w,()),()):=by
 unfold Vn Fm aL;rw[show(w.1,w.2.1,w.2.2.1,w.2.2.2.1,w.2.2.2.2.1,w.2.2.2.2.2.1,w.2.2.2.2.2.2.1,w.2.2.2.2.2.2.2.1,w.2.2.2.2.2.2.2.2.1,w.2.2.2.2.2.2.2.2.2.1,w.2.2.2.2.2.2.2.2.2.2.1,())=w from rfl];rw[wR h,uC h,za h,PJ,PJ];simp only[AM0];by_cases h2:w.2.2.2.2.2.2.2.2.1.length=2
 all_goals grind
end
end Go.M
end
section
namespace Go.M
open Go.M.H (AJ AO As Ab AA CO AN A4 AM AY Az Af AX Aa Aq Ak CL EC Cs CB BF Ar A7 CM C9 V7)
theorem ot{R:Type}{L:Nat→Int→Option R}{len:Nat}{p:Nat→Bool}{K:Nat→Option R}{no:Option R}(h1:∀n (i:Nat),i<len→L (n+1) i=cond (p i) (L n ((i+1:Nat):Int)) no)(h2:∀n,L (n+1) (len:Int)=K n):
  ∀d n i,i+d=len→d<n→L n i=cond (DR p i d) (K (n-d-1)) no
 |0,n,i,hd,h=>by
  obtain⟨m,rfl⟩:∃m,n=m+1:=⟨n-1,by omega⟩;have:i=len:=by omega
  subst this;rw[h2];rfl
 |d+1,n,i,hd,h=>by
  obtain⟨m,rfl⟩:∃m,n=m+1:=⟨n-1,by omega⟩;rw[h1 m i (by omega)];simp only[DR];cases p i with
  |false=>rfl
  |true=>
   rw[AMy,ot h1 h2 d m (i+1) (by omega) (by omega),AMn];simp_all
theorem fa.of{w:AA}(hv:Go.Fw.Vd V7 w)(hw:Cs w≤2^20):fa w where
 weight:=hw
 An:=fun s hs=>⟨fun e he=>wf_i64 (((hv.2.2.1.2 s hs).1).2 e he).1,fun e he=>wf_i64 (((hv.2.2.1.2 s hs).2.1).2 e he).1⟩
 trim:=wf_i64 hv.2.2.2.2.2.1
 BW:=fun m hm e he=>wf_i64 (((hv.2.2.2.2.2.2.2.1.2 m hm).2.2.2.1).2 e he).1
 HF:=fun s hs=>wf_i64 (hv.2.2.2.2.2.2.2.2.2.1.2 s hs).1
abbrev zY:Az:=(0,0,[],())
theorem VE{w:AA}(h:Fm w=true):w.2.2.2.2.2.2.2.2.1.length=2:=by
 simp only[Fm,aL,AMC,AMi]at h;omega
theorem fa.out{w:AA}(h:fa w){i:Nat}(hi:i<w.2.2.2.2.2.2.2.2.1.length):(w.2.2.2.2.2.2.2.2.1.getD i Au).2.2.1.length≤2^20:=by
 have k:=h.lens;have h1:=Aa (f:=A7) (BJ (d:=Au) hi);have h2:=AX (f:=CM) (l:=(w.2.2.2.2.2.2.2.2.1.getD i Au).2.2.1);have h3:A7 (w.2.2.2.2.2.2.2.2.1.getD i Au)=Af CM (w.2.2.2.2.2.2.2.2.1.getD i Au).2.2.1:=rfl;omega
def ke(l:List Az):Bool:=DR (fun i=> !((l.getD i zY).1==3)) 0 l.length
def bI(w:AA):Bool:=Fm w&&(w.2.2.2.2.2.2.2.2.2.2.1||(ke (w.2.2.2.2.2.2.2.2.1.getD 0 Au).2.2.1&&ke (w.2.2.2.2.2.2.2.2.1.getD 1 Au).2.2.1))
section
variable{w:AA} (h:fa w)
include h
theorem gn:E8 w=some ((bI w,()),()):=by
 have k2:=h.Nz;unfold E8 Sp bI;rw[show(w.1,w.2.1,w.2.2.1,w.2.2.2.1,w.2.2.2.2.1,w.2.2.2.2.2.1,w.2.2.2.2.2.2.1,w.2.2.2.2.2.2.2.1,w.2.2.2.2.2.2.2.2.1,w.2.2.2.2.2.2.2.2.2.1,w.2.2.2.2.2.2.2.2.2.2.1,())=w from rfl,Jw h];simp only[AM0];rcases AKr (Fm w)with Bq|Bq
 rotate_left
 ·simp_all
 rw[Bq];simp only[AMO,AMh,AMn];cases w.2.2.2.2.2.2.2.2.2.2.1 with
 |true=>rfl
 |false=>
  have h2:=VE Bq;simp only[AMh,ASZ];have o:=fun i hi=>h.out (i:=i) hi
  generalize w.2.2.2.2.2.2.2.2.1=rs at h2 o
  have inner:∀(i:Nat),i<rs.length→ ∀n,2^20<n→Db (n+1) rs rs.length i=cond (ke (rs.getD i Au).2.2.1) (Db (n-(rs.getD i Au).2.2.1.length-1) rs rs.length ((i+1:Nat):Int)) (some ((false,()),())):=fun i hi n hn=>by
   have ho:=o i hi;simp only[Db,NH,AB];rw[ALP (by omega),ALP (by omega),AMZ];have:=ot (L:=fun n j=>Fu n rs rs.length i (rs.getD i Au).2.2.1 (rs.getD i Au).2.2.1.length j) (len:=(rs.getD i Au).2.2.1.length) (p:=fun j=> !(((rs.getD i Au).2.2.1.getD j zY).1==3)) (K:=fun n=>Db n rs rs.length ((i+1:Nat):Int)) (no:=some ((false,()),())) (fun n j hj=>by
    simp only[Fu,NA,AB];rw[ALP (by omega),ALP (by omega),AMZ,AL (by omega) (by omega),show((j:Int)+1)=((j+1:Nat):Int)by omega];simp_all) (fun n=>by
    simp only[Fu,NA,AB];rw[ALo (by omega),AL (by omega) (by omega),show((i:Int)+1)=((i+1:Nat):Int)by omega]) (rs.getD i Au).2.2.1.length n 0 (by omega) (by omega)
   exact this
  obtain⟨m,hm⟩:∃m,Ae=m+2^40:=⟨Ae-2^40,by have:=bV;omega⟩;have o0:=o 0 (by omega);have o1:=o 1 (by omega);have e0:=inner 0 (by omega) (m+2^40-1) (by omega);have e1:=inner 1 (by omega) (m+2^40-1-(rs.getD 0 Au).2.2.1.length-1-1) (by omega);rw[show m+2^40-1+1=Ae by omega,show((0:Nat):Int)=0 from rfl,show((0+1:Nat):Int)=((1:Nat):Int)from rfl]at e0;rw[show m+2^40-1-(rs.getD 0 Au).2.2.1.length-1-1+1=m+2^40-1-(rs.getD 0 Au).2.2.1.length-1 by omega]at e1;rw[e0,e1];obtain⟨q,hq⟩:∃q,m+2^40-1-(rs.getD 0 Au).2.2.1.length-1-1-(rs.getD 1 Au).2.2.1.length-1=q+1:=⟨_,(Nat.succ_pred_eq_of_pos (by omega)).symm⟩;rw[hq];have Adz:Db (q+1) rs rs.length ((1+1:Nat):Int)=some ((true,()),()):=by
   simp only[Db,NH,AB];simp_all
  grind
end
end Go.M
end
section
namespace Go.M
open Go.M.H (AJ AO As Ab AA CO AN A4 AM AY Az Af AX Aa Aq Ak CL EC Cs CB BF Ar A7 CM C9 V7)
theorem tD{R:Type}{L:Nat→Int→Option R}{len E:Nat}{q:Nat→Bool}{e:Nat→Nat}{fin no:Option R}(he:∀i,i<len→e i≤E)(h1:∀i,i<len→ ∀n,E<n→L (n+1) i=cond (q i) (L (n-e i-1) ((i+1:Nat):Int)) no)(h2:∀n,L (n+1) (len:Int)=fin):
  ∀d n i,i+d=len→d*(E+2)<n→L n i=cond (DR q i d) fin no
 |0,n,i,hd,h=>by
  obtain⟨m,rfl⟩:∃m,n=m+1:=⟨n-1,by omega⟩;have:i=len:=by omega
  subst this;rw[h2];rfl
 |d+1,n,i,hd,h=>by
  rw[Nat.succ_mul]at h;obtain⟨m,rfl⟩:∃m,n=m+1:=⟨n-1,by omega⟩;have hi:=he i (by omega);rw[h1 i (by omega) m (by omega)];simp only[DR];cases q i with
  |false=>rfl
  |true=>rw[AMy,tD he h1 h2 d _ (i+1) (by omega) (by omega),AMn]
theorem AGB{d E:Nat}(hd:d≤2^20)(hE:E≤2^20):d*(E+2)<Ae:=by
 have h1:d*(E+2)≤2^20*(2^20+2):=AXt hd (by omega);exact Ag (by omega)
section
variable{w:AA} (h:fa w)
include h
end
end Go.M
end
section
namespace Go.M
open Go.M.H (AJ AO As Ab AA CO AN A4 AM AY Az Af AX Aa Aq Ak CL EC Cs CB BF Ar A7 CM C9 V7)
def AAL(trim:Int)(s:Ab):Bool:=s.2.2.1&&decide (trim<s.1)
def WZ(w:AA):List Ab:=cond (Fm w) (w.2.2.2.2.2.2.2.2.2.1.filter (AAL w.2.2.2.2.2.1)) []
def fnd(p:Int):List Ab→List UInt8×Bool
 |[]=>([],false)
 |s::l=>cond (s.1==p) (s.2.1,true) (fnd p l)
section
variable{w:AA} (h:fa w)
include h
theorem al{x0:AAH}{x1:Int}{x2:List AO}{x3:AAH}{x4:List CO}{x6:List AM}{x7:List As}{x8:List AY}{x9:List Ab}{x10:Bool}:∀(n i:Nat) (acc:List Ab),i≤w.2.2.2.2.2.2.2.2.2.1.length→w.2.2.2.2.2.2.2.2.2.1.length-i<n→acc.length≤i→
  Pf n w.2.2.2.2.2.2.2.2.2.1 w.2.2.2.2.2.2.2.2.2.1.length i x0 x1 x2 x3 x4 w.2.2.2.2.2.1 x6 x7 x8 x9 x10 acc=some (((),()),(acc++(w.2.2.2.2.2.2.2.2.2.1.drop i).filter (AAL w.2.2.2.2.2.1),()))
 |0,i,_,_,hn,_=>by omega
 |n+1,i,acc,hi,hn,ha=>by
  have k2:=h.Nz;simp only[Pf,Zu,AB];by_cases hc:i<w.2.2.2.2.2.2.2.2.2.1.length
  ·have Xx:acc.length+1≤Dw:=by rw[BX];omega
   rw[ALP (by omega),ALP (by omega),AL (by omega) (by omega),show((i:Int)+1)=((i+1:Nat):Int)by omega];simp only[ALP Xx];rw[Aj hc,drop_cons hc,ATQ];have n1:=al (x0:=x0) (x1:=x1) (x2:=x2) (x3:=x3) (x4:=x4) (x6:=x6) (x7:=x7) (x8:=x8) (x9:=x9) (x10:=x10) n (i+1) acc (by omega) (by omega) (by omega);have n2:=al (x0:=x0) (x1:=x1) (x2:=x2) (x3:=x3) (x4:=x4) (x6:=x6) (x7:=x7) (x8:=x8) (x9:=x9) (x10:=x10) n (i+1) (acc++[w.2.2.2.2.2.2.2.2.2.1[i]]) (by omega) (by omega) (by simp_all);rw[n1,show(w.2.2.2.2.2.2.2.2.2.1[i].1,w.2.2.2.2.2.2.2.2.2.1[i].2.1,w.2.2.2.2.2.2.2.2.2.1[i].2.2.1,())=w.2.2.2.2.2.2.2.2.2.1[i]from rfl,n2];unfold AAL;grind
  grind
theorem rQ:Oh w=some (((),()),(WZ w,())):=by
 have k2:=h.Nz;unfold Oh Zs WZ;rw[show(w.1,w.2.1,w.2.2.1,w.2.2.2.1,w.2.2.2.2.1,w.2.2.2.2.2.1,w.2.2.2.2.2.2.1,w.2.2.2.2.2.2.2.1,w.2.2.2.2.2.2.2.2.1,w.2.2.2.2.2.2.2.2.2.1,w.2.2.2.2.2.2.2.2.2.2.1,())=w from rfl,Jw h];simp only[AM0];cases Fm w with
 |false=>rfl
 |true=>
  grind[al,Ae,Ag]
end
end Go.M
end
section
namespace Go.M
open Go.M.H (AJ AO As Ab AA CO AN A4 AM AY Az Af AX Aa Aq Ak CL EC Cs CB BF Ar A7 CM C9 V7)
def tld(p:Int):List Az→List UInt8×Bool
 |[]=>([],false)
 |e::l=>cond (e.1==1&&e.2.1==p) (e.2.2.1,true) (tld p l)
theorem uT{r:AY}{p:Int}(hl:r.2.2.1.length≤2^40):aH r p=some ((((tld p r.2.2.1).1,(tld p r.2.2.1).2,()),()),()):=by
 unfold aH cN
 generalize r.2.2.1=l at hl
 have key:∀(n i:Nat),i≤l.length→l.length-i<n→RP n p l l.length i=some ((((tld p (l.drop i)).1,(tld p (l.drop i)).2,()),()),()):=by
  intro n
  induction n with
  |zero=>omega
  |succ n ih=>
   intro i hi h;simp only[RP,cH,AB];by_cases hc:i<l.length
   ·rw[ALP (by omega),ALP (by omega),AL (by omega) (by omega),show((i:Int)+1)=((i+1:Nat):Int)by omega,Aj hc,drop_cons hc,ih (i+1) (by omega) (by omega)]
    simp only[tld];cases l[i].1==1<;>cases l[i].2.1==p<;>rfl
   ·rw[ALo (by omega),AMo (by omega)]
    rfl
 grind[Ae,Ag]
def ahead(p:Int)(r:AY):Bool:=cond (decide (AQ p<r.1)) true (cond (AQ p==r.1) (decide (A6 p<r.2.1)) false)
theorem yR{p:Int}{r:AY}(hp:DH p):MU p r=some ((ahead p r,()),()):=by
 grind[MU,ahead,EI,Tm,decide,AQ]
end Go.M
end
section
namespace Go.M
open Go.M.H (AJ AO As Ab AA CO AN A4 AM AY Az Af AX Aa Aq Ak CL EC Cs CB BF Ar A7 CM C9 V7)
def AAM(trim:Int)(r:AY)(s:Ab):Bool:= !(s.2.2.1&&(decide (trim<s.1)&&ahead s.1 r))||(tld s.1 r.2.2.1).2
def sM(trim:Int)(ss:List Ab)(r:AY):Bool:=DR (fun j=>AAM trim r (ss.getD j JF)) 0 ss.length
def eM(w:AA):Bool:=Fm w&&(w.2.2.2.2.2.2.2.2.2.2.1||(sM w.2.2.2.2.2.1 w.2.2.2.2.2.2.2.2.2.1 (w.2.2.2.2.2.2.2.2.1.getD 0 Au)&&sM w.2.2.2.2.2.1 w.2.2.2.2.2.2.2.2.2.1 (w.2.2.2.2.2.2.2.2.1.getD 1 Au)))
section
variable{w:AA} (h:fa w)
include h
theorem jI:Fc w=some ((eM w,()),()):=by
 have k2:=h.Nz;unfold Fc Ua eM;rw[show(w.1,w.2.1,w.2.2.1,w.2.2.2.1,w.2.2.2.2.1,w.2.2.2.2.2.1,w.2.2.2.2.2.2.1,w.2.2.2.2.2.2.2.1,w.2.2.2.2.2.2.2.2.1,w.2.2.2.2.2.2.2.2.2.1,w.2.2.2.2.2.2.2.2.2.2.1,())=w from rfl,Jw h];simp only[AM0];rcases AKr (Fm w)with Bq|Bq
 rotate_left
 ·simp_all
 rw[Bq];simp only[AMO,AMh,AMn];have h2:=VE Bq;have o:=fun i hi=>h.out (i:=i) hi
 have PY:=fun j hj=>h.HF _ (BJ (d:=JF) (i:=j) hj)
 have outer:=tD (L:=fun n i=>FT n w.2.2.2.2.2.2.2.2.1 w.2.2.2.2.2.2.2.2.1.length i w.1 w.2.1 w.2.2.1 w.2.2.2.1 w.2.2.2.2.1 w.2.2.2.2.2.1 w.2.2.2.2.2.2.1 w.2.2.2.2.2.2.2.1 w.2.2.2.2.2.2.2.2.1 w.2.2.2.2.2.2.2.2.2.1 w.2.2.2.2.2.2.2.2.2.2.1) (len:=w.2.2.2.2.2.2.2.2.1.length) (E:=2^20) (q:=fun i=>sM w.2.2.2.2.2.1 w.2.2.2.2.2.2.2.2.2.1 (w.2.2.2.2.2.2.2.2.1.getD i Au)) (e:=fun _=>w.2.2.2.2.2.2.2.2.2.1.length) (fin:=some ((true,()),())) (no:=some ((false,()),())) (fun i hi=>by omega) (fun i hi n hn=>by
   have ho:=o i hi;simp only[FT,Np,AB];rw[ALP (by omega),ALP (by omega),AMZ];have:=ot (L:=fun n j=>Gt n w.2.2.2.2.2.2.2.2.1 w.2.2.2.2.2.2.2.2.1.length i w.2.2.2.2.2.2.2.2.2.1 w.2.2.2.2.2.2.2.2.2.1.length j w.1 w.2.1 w.2.2.1 w.2.2.2.1 w.2.2.2.2.1 w.2.2.2.2.2.1 w.2.2.2.2.2.2.1 w.2.2.2.2.2.2.2.1 w.2.2.2.2.2.2.2.2.1 w.2.2.2.2.2.2.2.2.2.1 w.2.2.2.2.2.2.2.2.2.2.1 (w.2.2.2.2.2.2.2.2.1.getD i Au).1 (w.2.2.2.2.2.2.2.2.1.getD i Au).2.1 (w.2.2.2.2.2.2.2.2.1.getD i Au).2.2.1) (len:=w.2.2.2.2.2.2.2.2.2.1.length) (p:=fun j=>AAM w.2.2.2.2.2.1 (w.2.2.2.2.2.2.2.2.1.getD i Au) (w.2.2.2.2.2.2.2.2.2.1.getD j JF)) (K:=fun n=>FT n w.2.2.2.2.2.2.2.2.1 w.2.2.2.2.2.2.2.2.1.length ((i+1:Nat):Int) w.1 w.2.1 w.2.2.1 w.2.2.2.1 w.2.2.2.2.1 w.2.2.2.2.2.1 w.2.2.2.2.2.2.1 w.2.2.2.2.2.2.2.1 w.2.2.2.2.2.2.2.2.1 w.2.2.2.2.2.2.2.2.2.1 w.2.2.2.2.2.2.2.2.2.2.1) (no:=some ((false,()),())) (fun n j hj=>by
    simp only[Gt,Nx,AAM];rw[show decide ((j:Int)<(w.2.2.2.2.2.2.2.2.2.1.length:Int))=true from AR7 (by omega),AMy,ALP (by omega),AMZ,AL (by omega) (by omega),show((j:Int)+1)=((j+1:Nat):Int)by omega];rw[show((w.2.2.2.2.2.2.2.2.1.getD i Au).1,(w.2.2.2.2.2.2.2.2.1.getD i Au).2.1,(w.2.2.2.2.2.2.2.2.1.getD i Au).2.2.1,())=w.2.2.2.2.2.2.2.2.1.getD i Au from rfl];have hs:=PY j hj
    show(aH (w.2.2.2.2.2.2.2.2.1.getD i Au) (w.2.2.2.2.2.2.2.2.2.1.getD j JF).1).bind _=_
    rw[uT (by omega),yR hs];grind) (fun n=>by
    simp only[Gt,Nx,AB];rw[ALo (by omega),AL (by omega) (by omega),show((i:Int)+1)=((i+1:Nat):Int)by omega]) w.2.2.2.2.2.2.2.2.2.1.length n 0 (by omega) (by omega)
   exact this) (fun n=>by
   simp only[FT,Np,AB];simp_all) w.2.2.2.2.2.2.2.2.1.length Ae 0 (by omega) (AGB (by omega) (by omega))
 rw[show((0:Nat):Int)=0 from rfl]at outer;revert outer;cases w.2.2.2.2.2.2.2.2.2.2.1 with
 |true=>simp_all
 |false=>
  intro outer;simp only[AMh,ASZ];refine Eq.trans outer ?_
  rw[h2];simp only[DR,ATh];grind
end
end Go.M
end
section
namespace Go.M
open Go.M.H (AJ AO As Ab AA CO AN A4 AM AY Az Af AX Aa Aq Ak CL EC Cs CB BF Ar A7 CM C9 V7)
def c_(w:AA):Prop:= ∀r∈w.2.2.2.2.2.2.2.2.1,∀e∈r.2.2.1,DH e.2.1
theorem c_.of{w:AA}(hv:Go.Fw.Vd V7 w):c_ w:=fun r hr e he=>wf_i64 (((hv.2.2.2.2.2.2.2.2.1.2 r hr).2.2.1).2 e he).2.1
section
variable{w:AA} (h:fa w) (yB:c_ w)
include h yB
end
end Go.M
end
section
namespace Go.M
open Go.M.H (AJ AO As Ab AA CO AN A4 AM AY Az Af AX Aa Aq Ak CL EC Cs CB BF Ar A7 CM C9 V7)
def br:List Az→List Ab
 |[]=>[]
 |e::l=>cond (e.1==1) ((e.2.1,e.2.2.1,true,())::br l) (br l)
def gj(w:AA)(p:Int):List Ab:=cond (Fm w&&BN p 0 1) (br (w.2.2.2.2.2.2.2.2.1.getD p.toNat Au).2.2.1) []
section
variable{w:AA} (h:fa w)
include h
theorem pZ{p:Int}:L1 w p=some (((),()),(gj w p,())):=by
 unfold L1 X3 gj;rw[show(w.1,w.2.1,w.2.2.1,w.2.2.2.1,w.2.2.2.2.1,w.2.2.2.2.2.1,w.2.2.2.2.2.2.1,w.2.2.2.2.2.2.2.1,w.2.2.2.2.2.2.2.2.1,w.2.2.2.2.2.2.2.2.2.1,w.2.2.2.2.2.2.2.2.2.2.1,())=w from rfl,Jw h,Ax];simp only[AM0];rcases AKr (Fm w)with Bq|Bq
 rotate_left
 ·simp_all
 have h2:=VE Bq;rw[Bq,AL (by omega) (by omega),show((w.2.2.2.2.2.2.2.2.1.length:Int)-1)=1 by omega];simp only[AMO,AMh,AMn];rcases AKr (BN p 0 1)with hp|hp
 rotate_left
 ·simp_all
 rw[hp];simp only[BN,AMi]at hp;simp only[AMO,AMh,AMy];rw[ALP (by omega)];have ho:=h.out (i:=p.toNat) (by omega)
 show Ls Ae (w.2.2.2.2.2.2.2.2.1.getD p.toNat Au).2.2.1 ((w.2.2.2.2.2.2.2.2.1.getD p.toNat Au).2.2.1.length:Int) 0 []=_
 generalize (w.2.2.2.2.2.2.2.2.1.getD p.toNat Au).2.2.1=l at ho
 have key:∀(n i:Nat) (acc:List Ab),i≤l.length→l.length-i<n→acc.length≤i→Ls n l l.length i acc=some (((),()),(acc++br (l.drop i),())):=by
  intro n
  induction n with
  |zero=>omega
  |succ n ih=>
   intro i acc hi hn ha;simp only[Ls,Yo,AB];by_cases hc:i<l.length
   ·rw[ALP (by omega),ALP (by omega),ALP (by rw[BX];omega),AL (by omega) (by omega),show((i:Int)+1)=((i+1:Nat):Int)by omega,Aj hc,drop_cons hc,ih (i+1) acc (by omega) (by omega) (by omega),ih (i+1) (acc++[(l[i].2.1,l[i].2.2.1,true,())]) (by omega) (by omega) (by simp_all)]
    grind[br]
   ·rw[ALo (by omega),AMo (by omega)]
    simp[br]
 grind[Ae,Ag]
end
end Go.M
end
section
namespace Go.M
open Go.M.H (AJ AO As Ab AA CO AN A4 AM AY Az Av BS)
def D6(e o:Int):Int:=4294967296*e+o
def Gd(e o:Int):Int:=if BN e 1 30&&BN o 1 60 then D6 e o else 0
def gS(x:Int):List Int→List Int
 |[]=>[x]
 |y::l=>if x<y then x::y::l else y::gS x l
def JM(x:Int)(l:AAH):AAH:=if l.contains x then l else gS x l
def less(l m:AAH):AAH:=l.filter fun x=> !m.contains x
def Ji(c:CD)(s l:AAH):Bool:=holds c s&&(Ay c l&&(l.all s.contains&& !holds c (less s l)))
def Ao(k:Int):AAH:=if BN k 0 255 then([0,1,2,3,4,5,6,7]:AAH).filter fun i=>(k/2^i.toNat)%2==1 else[]
def better(a b:AJ):AJ:=if b.2.1>a.2.1 then b else a
def keep(e:AJ):List AJ→List AJ
 |[]=>[e]
 |x::l=>if x.1=e.1 then better x e::l else if x.1>e.1 then e::x::l else x::keep e l
def Dd:List AJ→List AJ→List AJ
 |k,[]=>k
 |k,e::l=>Dd (keep e k) l
def Ma(k:Int):Nat→List AJ→List AJ
 |_,[]=>[]
 |i,e::l=>if(k/2^i)%2=1 then e::Ma k (i+1) l else Ma k (i+1) l
def Ep(p:Int)(l:List AJ):Option AJ:=l.find? fun e=>e.1==p
def takes(s:AO)(e:AJ):Bool:=if e.2.1=0 then decide (AQ e.1>s.2.2.1)else decide (e.2.1>s.2.2.1)
def GB(s:AO)(e:AJ):AO×Bool:=
 if !CF s then(Cr,false)else if EZ e&&(takes s e&&decide (s.2.1.length≠20))then((s.1,s.2.1++[e],s.2.2.1,()),true)else(s,false)
def D9(s:AO)(k:Int):AO×Bool:=
 if !CF s then(Cr,false)else
  let q:=Dd s.1 (Ma k 0 s.2.1)
  if BN k 0 1048575&&decide (q.length≤200)then((q,[],s.2.2.1,()),true)else(s,false)
def Cg(s:AO):AO×Bool:=D9 s 1048575
def Bi(s:AO)(upto:Int):AO×Bool:=
 if !CF s then(Cr,false)else
  let o:=Cg s
  if o.2&&BN upto 0 30 then((o.1.1,o.1.2.1,max o.1.2.2.1 upto,()),true)else(s,false)
def Xe(s:AO)(p:Int):Option AJ:=if CF s then Ep p s.1 else none
def F8(s:AO)(ep:Int):List AJ:=if CF s then s.1.filter fun e=>AQ e.1==ep else[]
def GI(s:AO)(upto:Int):AO×Bool:=
 if !CF s then(Cr,false)else if BR upto then((s.1.filter fun e=>decide (e.1>upto),s.2.1,s.2.2.1,()),true)else(s,false)
abbrev ku:AN:=([],0,())
def Ap(l:List CO)(e:Int):AAH:=if BN e 1 l.length then(l.getD (e-1).toNat GP).1 else[]
def Ig(c:CD)(r:AN)(ns:AAH):AN×Int×Bool:=
 if !Mk c r then(ku,0,false)else if holds c ns&&decide (r.1.length≠30)then((r.1++[(ns,false,0,())],r.2.1,()),(r.1.length:Int)+1,true)else(r,0,false)
def Ga(l:List CO)(i:Nat)(last:Int):List CO:=l.set i ((l.getD i GP).1,true,last,())
def Mo(c:CD)(r:AN)(b last:Int):AN×Bool:=
 if !Mk c r then(ku,false)else
  if decide (b=r.1.length)&&(decide (A8 r.1≠0)&&(decide (b≠A8 r.1)&&BN last 0 60))then((Ga r.1 (A8 r.1-1).toNat last,r.2.1,()),true)else(r,false)
def MV(c:CD)(r:AN)(p:Int):AN×Bool:=
 if !Mk c r then(ku,false)else if BR p&&decide (AQ p≤r.1.length)then((r.1,max r.2.1 p,()),true)else(r,false)
def CI(c:CD)(w:AM)(d:ACD):AM×Int×Bool:=
 if !FK c w then(Bv,0,false)else
  if FK c (w.1,w.2.1++[(d,[],false,())],())then((w.1,w.2.1++[(d,[],false,())],()),(w.2.1.length:Int)+1,true)else(w,0,false)
def EX(c:CD)(n:Int)(x:A4):A4:=(x.1,JM n x.2.1,holds c (JM n x.2.1),())
def RI(c:CD)(w:AM)(o n:Int):AM×Bool:=
 if !FK c w then(Bv,false)else
  if BN o 1 w.2.1.length&&(BN n 0 ((c.1.length:Int)-1)&& !(w.2.1.getD (o-1).toNat LR).2.2.1)then((w.1,w.2.1.set (o-1).toNat (EX c n (w.2.1.getD (o-1).toNat LR)),()),true)else(w,false)
def Cx(n:Int)(x:A4):A4:=(x.1,if x.2.2.1 then x.2.1 else less x.2.1 [n],x.2.2.1,())
def CE(c:CD)(w:AM)(n:Int):AM×Bool:=
 if !FK c w then(Bv,false)else((w.1,w.2.1.map (Cx n),()),true)
def Vh:List A4→Nat
 |[]=>0
 |x::l=>if x.2.2.1 then Vh l+1 else 0
def WK(e b:Int):As:=(b,e,[],[],false,[],())
def K3(c:CD)(m:As)(n:Int)(l:List AJ):As×Bool:=
 if !G9 c m then(Qs,false)else
  let o:As:=(m.1,m.2.1,JM n m.2.2.1,Dd m.2.2.2.1 (l.filter fun e=>AQ e.1==m.2.1),m.2.2.2.2.1,m.2.2.2.2.2.1,())
  if !m.2.2.2.2.1&&G9 c o then(o,true)else(m,false)
def IP(c:CD)(m:As)(s:AAH):As×Bool:=
 if !G9 c m then(Qs,false)else
  if !m.2.2.2.2.1&&Ji c s (m.2.2.1.filter s.contains)then((m.1,m.2.1,m.2.2.1,m.2.2.2.1,true,List.replicate (LF m.2.2.2.1).toNat [],()),true)else(m,false)
def De(m:As)(o:Int):Option AJ:=
 if m.2.2.2.2.1&&(BN m.2.1 1 30&&(BN o 1 60&&decide (o≤m.2.2.2.2.2.1.length)))then
  match Ep (D6 m.2.1 o) m.2.2.2.1 with
  |some x=>some (D6 m.2.1 o,m.1,x.2.2.1,x.2.2.2.1,())
  |none=>some (D6 m.2.1 o,m.1,true,[],())
 else none
def YV(c:CD)(m:As)(o n:Int):As×Bool:=
 if !G9 c m then(Qs,false)else
  if BN o 1 m.2.2.2.2.2.1.length&&BN n 0 ((c.1.length:Int)-1)then((m.1,m.2.1,m.2.2.1,m.2.2.2.1,m.2.2.2.2.1,m.2.2.2.2.2.1.set (o-1).toNat (JM n (m.2.2.2.2.2.1.getD (o-1).toNat [])),()),true)else(m,false)
def CA(c:CD)(m:As)(n:Int):As×Bool:=
 if !G9 c m then(Qs,false)else((m.1,m.2.1,m.2.2.1,m.2.2.2.1,m.2.2.2.2.1,m.2.2.2.2.2.1.map fun l=>less l [n],()),true)
def PF(c:CD)(m:As):Bool:=G9 c m&&(m.2.2.2.2.1&&m.2.2.2.2.2.1.all (holds c))
def U_(a:Av):AJ:=(a.2.2.1,a.2.2.2.1,a.2.2.2.2.1,a.2.2.2.2.2.1,())
def Fb(s:AAH)(p:Int):Option AJ→List Av→Option AJ
 |b,[]=>b
 |b,a::l=>if a.2.1&&(s.contains a.1&&(EZ (U_ a)&&(U_ a).1==p))then
   Fb s p (some (match b with|some x=>better x (U_ a)|none=>U_ a)) l
  else Fb s p b l
def HP(p:Int):Option AJ→Az
 |none=>(3,p,[],())
 |some x=>if x.2.2.1 then(2,p,[],())else(1,p,x.2.2.2.1,())
def B3(c:CD)(g:AN)(sure:Int)(r:AY)(l:List Av):AY×Int:=
 if !(Mk c g&&(W6 r&&Ay c (l.map fun a=>a.1)))then(Au,1)else
 if decide (r.1>g.1.length)||decide (r.2.2.1.length=120)then(r,2)else
 let era:=g.1.getD (r.1-1).toNat GP
 let p:=D6 r.1 r.2.1
 if g.2.1≥p then((AQ g.2.1,A6 g.2.1+1,r.2.2.1++[(5,g.2.1,[],())],()),0)else
 if era.2.1&&decide (r.2.1>era.2.2.1)then((r.1+1,1,r.2.2.1++[(4,r.1+1,[],())],()),0)else
 if(!era.2.1&&decide (r.2.1>sure))||decide (r.2.1>60)then(r,2)else
 if !Ji c era.1 ((l.map fun a=>a.1).filter era.1.contains)then(r,3)else
 ((r.1,r.2.1+1,r.2.2.1++[HP p (Fb era.1 p none l)],()),0)
def Ff:List AJ→List AO→List AJ
 |k,[]=>k
 |k,s::l=>Ff (Dd k s.1) l
def others(lost:AAH):Nat→List AO→List AO
 |_,[]=>[]
 |i,s::l=>if lost.contains (i:Int)then others lost (i+1) l else s::others lost (i+1) l
def Xf(c:CD)(ss:List AO)(lost:AAH)(n upto:Int):AO×Bool:=
 let s:AO:=(Ff [] (others lost 0 ss),[],upto,())
 if Ej c&&(decide (ss.length=c.1.length)&&(Ay c lost&&(!holds c lost&&(lost.contains n&&((others lost 0 ss).all CF&&CF s)))))then(s,true)else(Cr,false)
end Go.M
namespace Go.M.H.AA
open Go.M.H (AJ AO As Ab AA CO AN A4 AM AY Az)
@[reducible] def An (w:AA):List AO:=w.2.2.1
@[reducible] def lost (w:AA):AAH:=w.2.2.2.1
@[reducible] def Ac (w:AA):List CO:=w.2.2.2.2.1
@[reducible] def trim (w:AA):Int:=w.2.2.2.2.2.1
@[reducible] def AH (w:AA):List AM:=w.2.2.2.2.2.2.1
@[reducible] def BW (w:AA):List As:=w.2.2.2.2.2.2.2.1
@[reducible] def AW (w:AA):List AY:=w.2.2.2.2.2.2.2.2.1
@[reducible] def BK (w:AA):List Ab:=w.2.2.2.2.2.2.2.2.2.1
@[reducible] def ED (w:AA):Bool:=w.2.2.2.2.2.2.2.2.2.2.1
@[reducible] def BA (w:AA) (x:List AO):AA:=(w.1,w.2.1,x,w.2.2.2)
@[reducible] def EW (w:AA) (x:AAH):AA:=(w.1,w.2.1,w.2.2.1,x,w.2.2.2.2)
@[reducible] def HO (w:AA) (x:AN):AA:=(w.1,w.2.1,w.2.2.1,w.2.2.2.1,x.1,x.2.1,w.2.2.2.2.2.2)
@[reducible] def A9 (w:AA) (x:List AM):AA:=(w.1,w.2.1,w.2.2.1,w.2.2.2.1,w.2.2.2.2.1,w.2.2.2.2.2.1,x,w.2.2.2.2.2.2.2)
@[reducible] def Bj (w:AA) (x:List As):AA:=(w.1,w.2.1,w.2.2.1,w.2.2.2.1,w.2.2.2.2.1,w.2.2.2.2.2.1,w.2.2.2.2.2.2.1,x,w.2.2.2.2.2.2.2.2)
@[reducible] def Cy (w:AA) (x:List AY):AA:=(w.1,w.2.1,w.2.2.1,w.2.2.2.1,w.2.2.2.2.1,w.2.2.2.2.2.1,w.2.2.2.2.2.2.1,w.2.2.2.2.2.2.2.1,x,w.2.2.2.2.2.2.2.2.2)
@[reducible] def C2 (w:AA) (x:List Ab):AA:=(w.1,w.2.1,w.2.2.1,w.2.2.2.1,w.2.2.2.2.1,w.2.2.2.2.2.1,w.2.2.2.2.2.2.1,w.2.2.2.2.2.2.2.1,w.2.2.2.2.2.2.2.2.1,x,w.2.2.2.2.2.2.2.2.2.2)
@[reducible] def FE (w:AA) (x:Bool):AA:=(w.1,w.2.1,w.2.2.1,w.2.2.2.1,w.2.2.2.2.1,w.2.2.2.2.2.1,w.2.2.2.2.2.2.1,w.2.2.2.2.2.2.2.1,w.2.2.2.2.2.2.2.2.1,w.2.2.2.2.2.2.2.2.2.1,x,())
end Go.M.H.AA
namespace Go.M
open Go.M.H (AJ AO As Ab AA CO AN A4 AM AY Az Av BS)
def APb:AA:=([],0,[],[],[],0,[],[],[],[],false,())
def Eu(c:CD):AA:=(c.1,c.2.1,List.replicate c.1.length Cr,[],[],0,[],[],[(1,1,[],()),(1,1,[],())],[],false,())
def eV(k:Int):Bool×Bool×Bool×Bool:=
 if k=8∨k=10∨k=12 then(false,false,false,false)
 else if k=2 then(true,false,false,true)
 else if k=3 then(true,true,true,false)
 else if k=5∨k=14 then(true,true,false,false)
 else if k=11 then(false,true,true,false)
 else(true,false,false,false)
def PW(d:BS):Bool:=
 BN d.1 1 16&&(((eV d.1).1||d.2.1==0)&&(((eV d.1).2.1||d.2.2.1==0)&&(((eV d.1).2.2.1||d.2.2.2.1==0)&&(((eV d.1).2.2.2||d.2.2.2.2.1==[])&&decide (d.2.2.2.2.1.length≤40)))))
abbrev aO:Type:=AA×Int
def Al(w:AA)(n:Int):Int:=if !BN n 0 ((w.An.length:Int)-1)then 2 else if w.lost.contains n then 3 else 0
def MD(w:AA)(a:Int):aO:=
 if w.AH.length=4 then(w,4)else
 let q:=Ig (AS w) (B5 w) (Ao a)
 if !q.2.2 then(w,4)else(((w.HO q.1).A9 (w.AH++[(q.2.1,[],())])).Bj [],0)
def Xy(s:Ab):List Ab→List Ab
 |[]=>[s]
 |x::l=>if x.1>s.1 then s::x::l else x::Xy s l
def doAdd(w:AA)(a:Int)(d:ACD):aO:=
 if !BN a 0 ((w.AH.length:Int)-1)then(w,2)else
 let x:=w.AH.getD a.toNat Bv
 let q:=CI (AS w) x d
 if !q.2.2||(decide (w.BK.length=120)||w.BK.any fun s=>s.1==D6 x.1 q.2.1)then(w,4)else
 ((w.A9 (w.AH.set a.toNat q.1)).C2 (Xy (D6 x.1 q.2.1,d,false,()) w.BK),0)
def putAt(w:AA)(n:Int)(q:AO×Bool):aO:=if q.2 then(w.BA (w.An.set n.toNat q.1),0)else(w,4)
def storeAt(w:AA)(n:Int):AO:=w.An.getD n.toNat Cr
def Ih(w:AA)(a b n:Int):aO:=
 if !BN a 0 ((w.AH.length:Int)-1)then(w,2)else
 let x:=w.AH.getD a.toNat Bv
 if !BN b 1 x.2.1.length then(w,2)else
 if Al w n≠0 then(w,Al w n)else
 if !(Ap w.Ac x.1).contains n then(w,2)else
 putAt w n (GB (storeAt w n) (D6 x.1 b,0,false,(x.2.1.getD (b-1).toNat LR).1,()))
def JP(s:AO)(p:Int):Bool:=match Ep p s.1 with|some e=>e.2.1==0|none=>false
def BB(c:CD)(s:AO)(ep n:Int):Int→List A4→List A4
 |_,[]=>[]
 |o,x::l=>(if !x.2.2.1&&JP s (D6 ep o)then EX c n x else x)::BB c s ep n (o+1) l
def QP(l:List A4)(o:Int):Bool:=BN o 1 l.length&&(l.getD (o-1).toNat LR).2.2.1
def OW(all:Bool)(ep:Int)(old new:List A4)(s:Ab):Ab:=
 (s.1,s.2.1,s.2.2.1||(AQ s.1==ep&&(QP new (A6 s.1)&&(all|| !QP old (A6 s.1)))),())
def LL(s:AO)(l:List CO)(n:Int)(x:AM):Bool:=(Ap l x.1).contains n&&decide (s.2.2.1<x.1)
def FO(all:Bool)(c:CD)(s:AO)(l:List CO)(n:Int):List AM→List Ab→List AM×List Ab
 |[],ss=>([],ss)
 |x::ws,ss=>
  if LL s l n x then
   let new:=BB c s x.1 n 1 x.2.1
   let q:=FO all c s l n ws (ss.map (OW all x.1 x.2.1 new))
   ((x.1,new,())::q.1,q.2)
  else
   let q:=FO all c s l n ws ss
   (x::q.1,q.2)
def NR(m:As)(s:AO)(o:Int):Bool:=match De m o with|some e=>Ep e.1 s.1==some e|none=>false
def D4(m:As)(s:AO)(n:Int):Int→List AAH→List AAH
 |_,[]=>[]
 |o,x::l=>(if NR m s o then JM n x else x)::D4 m s n (o+1) l
def HG(s:AO)(l:List CO)(n:Int)(m:As):As:=
 if(Ap l m.2.1).contains n then(m.1,m.2.1,m.2.2.1,m.2.2.2.1,m.2.2.2.2.1,D4 m s n 1 m.2.2.2.2.2.1,())else m
def Jv(all:Bool)(w:AA)(n:Int):aO:=
 if Al w n≠0 then(w,Al w n)else
 let q:=Cg (storeAt w n)
 if !q.2 then(w,4)else
 let t:=FO all (AS w) q.1 w.Ac n w.AH w.BK
 ((((w.BA (w.An.set n.toNat q.1)).A9 t.1).C2 t.2).Bj (w.BW.map (HG q.1 w.Ac n)),0)
def IY(w:AA)(n k:Int):aO:=if Al w n≠0 then(w,Al w n)else putAt w n (D9 (storeAt w n) k)
def MZ(w:AA)(n:Int):aO:=
 if Al w n≠0 then(w,Al w n)else
 let ls:=JM n w.lost
 (((((w.BA (w.An.set n.toNat Cr)).EW ls).A9 (w.AH.map fun x=>(CE (AS w) x n).1)).Bj (w.BW.map fun m=>(CA (AS w) m n).1)).FE (w.ED||holds (AS w) ls),0)
def MW(w:AA)(n:Int):aO:=
 if !w.lost.contains n then(w,2)else
 let q:=Xf (AS w) w.An w.lost n (max ((w.Ac.length:Int)-1) 0)
 if !q.2 then(w,4)else((w.BA (w.An.set n.toNat q.1)).EW (less w.lost [n]),0)
def MN(w:AA):aO:=
 if decide ((w.Ac.length:Int)<2)||decide (A8 w.Ac=w.Ac.length)then(w,2)else
 if w.BW.length>0 then(w,4)else(w.Bj [WK (A8 w.Ac) w.Ac.length],0)
def MX(w:AA)(n:Int):aO:=
 match w.BW with
 |[]=>(w,2)
 |m::ms=>
  if Al w n≠0 then(w,Al w n)else
  if !(Ap w.Ac m.2.1).contains n then(w,2)else
  let q:=Bi (storeAt w n) (m.1-1)
  let t:=K3 (AS w) m n (F8 q.1 m.2.1)
  if !q.2|| !t.2 then(w,4)else((w.BA (w.An.set n.toNat q.1)).Bj (t.1::ms),0)
def L4(w:AA):aO:=
 match w.BW with
 |[]=>(w,2)
 |m::ms=>
  let t:=IP (AS w) m (Ap w.Ac m.2.1)
  if !t.2 then(w,4)else(w.Bj (t.1::ms),0)
def SV(w:AA)(b n:Int):aO:=
 match w.BW with
 |[]=>(w,2)
 |m::ms=>
  match De m b with
  |none=>(w,2)
  |some e=>
   if Al w n≠0 then(w,Al w n)else
   if !(Ap w.Ac m.2.1).contains n then(w,2)else putAt w n (GB (storeAt w n) e)
def Ik(w:AA):aO:=
 match w.BW with
 |[]=>(w,2)
 |m::ms=>
  if !PF (AS w) m then(w,5)else
  let q:=Mo (AS w) (B5 w) m.1 m.2.2.2.2.2.1.length
  if !q.2 then(w,4)else((w.HO q.1).Bj [],0)
def OC(w:AA)(a:Int):aO:=
 let q:=MV (AS w) (B5 w) a
 if !q.2 then(w,4)else(w.HO q.1,0)
def answer(w:AA)(p n:Int):Av:=
 match Ep p (storeAt w n).1 with
 |some e=>(n,true,e.1,e.2.1,e.2.2.1,e.2.2.2.1,())
 |none=>(n,false,0,0,false,[],())
def answers(w:AA)(p:Int)(ns:AAH):List Av:=(ns.filter fun n=>Al w n==0).map (answer w p)
def U0(w:AA)(e:Int):Int:=match w.AH.find? (fun x=>x.1==e)with|some x=>Vh x.2.1|none=>0
def IK(w:AA)(a k:Int):aO:=
 if !BN a 0 1 then(w,2)else
 let r:=w.AW.getD a.toNat Au
 let q:=B3 (AS w) (B5 w) (U0 w r.1) r (answers w (D6 r.1 r.2.1) (Ao k))
 if q.2≠0 then(w,5)else(w.Cy (w.AW.set a.toNat q.1),0)
def NB(w:AA)(a:Int):aO:=
 if !BN a 0 ((w.AH.length:Int)-1)then(w,2)else(w.A9 (w.AH.eraseIdx a.toNat),0)
def Ie(w:AA)(n:Int):aO:=if Al w n≠0 then(w,Al w n)else putAt w n (GI (storeAt w n) w.trim)
def Lh(all:Bool)(w:AA)(d:BS):aO:=
 if d.1=1 then MD w d.2.1 else
 if d.1=2 then doAdd w d.2.1 d.2.2.2.2.1 else
 if d.1=3 then Ih w d.2.1 d.2.2.1 d.2.2.2.1 else
 if d.1=4 then Jv all w d.2.1 else
 if d.1=5 then IY w d.2.1 d.2.2.1 else
 if d.1=6 then MZ w d.2.1 else
 if d.1=7 then MW w d.2.1 else
 if d.1=8 then MN w else
 if d.1=9 then MX w d.2.1 else
 if d.1=10 then L4 w else
 if d.1=11 then SV w d.2.2.1 d.2.2.2.1 else
 if d.1=12 then Ik w else
 if d.1=13 then OC w d.2.1 else
 if d.1=14 then IK w d.2.1 d.2.2.1 else
 if d.1=15 then NB w d.2.1 else Ie w d.2.1
def Df(all:Bool)(w:AA)(d:BS):aO:=if !Fm w|| !PW d then(APb,1)else Lh all w d
end Go.M
end
section
namespace Go.M
open Go.M.H (AJ AO As Ab AA CO AN A4 AM AY Az Av BS)
theorem Lx{p:Nat→Bool}{n:Nat}:DR p 0 n=true↔ ∀i,i<n→p i=true:=
 ⟨fun h i hi=>Rf h i (by omega) (by omega),fun h=>oq fun j _ hj=>h j (by omega)⟩
theorem OJ{α:Type}{l:List α}{i:Nat}{d:α}(h:i<l.length):l.getD i d=l[i]:=by simp_all
theorem SW{α:Type}{l:List α}{d:α}{P:α→Prop}:(∀i,i<l.length→P (l.getD i d))↔ ∀x∈l,P x:=by
 constructor
 ·intro h x hx
  obtain⟨i,hi,rfl⟩:=AQQ hx;simp_all
 simp_all
abbrev Tf{α:Type}(f:α→Int)(l:List α):Prop:=l.Pairwise fun a b=>f a<f b
theorem eN{α:Type}{f:α→Int}{l:List α}{d:α}:(∀i,i<l.length→i=0∨f (l.getD (i-1) d)<f (l.getD i d))↔Tf f l:=by
 constructor
 ·intro h
  unfold Tf;rw[AUt];have key:∀(k i:Nat),i+k+1<l.length→f (l.getD i d)<f (l.getD (i+k+1) d):=by
   intro k
   induction k with
   |zero=>
    grind
   |succ k ih=>
    grind
  intro i j hi hj zU;have:=key (j-i-1) i (by omega);grind
 grind[List.pairwise_iff_getElem,OJ]
theorem Ah{x a b:Int}:BN x a b=true↔a≤x∧x≤b:=by simp[BN]
theorem xP{l:AAH}{hi:Int}:qi l hi=true↔(∀x∈l,0≤x∧x≤hi)∧Tf id l:=by
 unfold qi;rw[Lx,←SW (d:=(0:Int)) (P:=fun x=>0≤x∧x≤hi),←eN (d:=(0:Int))];simp only[vD,AMC,Ah,ATI,ATa,AMi,id];grind
theorem ER{c:CD}{l:AAH}:Ay c l=true↔Ej c=true∧(∀x∈l,0≤x∧x<c.1.length)∧Tf id l:=by
 unfold Ay;rw[AMC,xP];grind
theorem vL{l:List AJ}:Xi l=true↔ ∀e∈l,EZ e=true:=by
 unfold Xi;rw[Lx];exact SW (P:=fun e=>EZ e=true)
theorem wa{l:List AJ}:iX l=true↔Tf (fun e:AJ=>e.1) l:=by
 unfold iX;rw[Lx,←eN (d:=Dt)];simp_all
structure fg (s:AO):Prop where
 nk:s.1.length≤200
 kept:∀e∈s.1,EZ e=true
 nl:s.2.1.length≤20
 late:∀e∈s.2.1,EZ e=true
 gM:Tf (fun e:AJ=>e.1) s.1
 sl:0≤s.2.2.1∧s.2.2.1≤30
theorem DL{s:AO}:CF s=true↔fg s:=by
 unfold CF;simp only[AMC,AMi,vL,wa,Ah];exact⟨fun⟨⟨a,b⟩,⟨c,d⟩,e,f⟩=>⟨a,b,c,d,e,f⟩,fun h=>⟨⟨h.nk,h.kept⟩,⟨h.nl,h.late⟩,h.gM,h.sl⟩⟩
structure EOk (e:AJ):Prop where
 pl:BR e.1=true
 w0:0≤e.2.1∧e.2.1≤30
 w1:0<e.2.1→AQ e.1<e.2.1
 len:e.2.2.2.1.length≤40
 hole:e.2.2.1=true→0<e.2.1∧e.2.2.2.1=[]
theorem FX{e:AJ}:EZ e=true↔EOk e:=by
 unfold EZ;simp only[AMC,ATI,ATJ,AMi,ATr,Ah,ATa];constructor
 ·rintro⟨a,b,c,d,e⟩
  refine⟨a,b,fun h=>c.resolve_left fun hn=>hn h,d,fun h=>e.resolve_left fun hn=> ?_⟩;simp_all
 ·intro h
  refine⟨h.pl,h.w0,?_,h.len,?_⟩
  ·by_cases hw:0<e.2.1
   ·exact .inr (h.w1 hw)
   omega
  ·cases hh:e.2.2.1 with
   |false=>simp_all
   |true=>exact .inr (h.hole hh)
structure qG (c:CD) (m:As):Prop where
 cfg:Ej c=true
 ep:1≤m.2.1∧m.2.1≤30
 b:m.2.1+1≤m.1∧m.1≤30
 fK:Ay c m.2.2.1=true
 gM:Tf (fun e:AJ=>e.1) m.2.2.2.1
 seen:∀e∈m.2.2.2.1,EZ e=true∧AQ e.1=m.2.1∧e.2.1<m.1
 wrote:∀l∈m.2.2.2.2.2.1,Ay c l=true
 n:(m.2.2.2.2.2.1.length:Int)=if m.2.2.2.2.1 then LF m.2.2.2.1 else 0
theorem HS{c:CD}{m:As}:G9 c m=true↔qG c m:=by
 unfold G9 sR oG;simp only[AMC,Ah,wa,Lx,sE,ATa,AMi];rw[SW (d:=Dt) (P:=fun e=>EZ e=true∧AQ e.1=m.2.1∧e.2.1<m.1),SW (d:=([]:AAH)) (P:=fun l=>Ay c l=true)];have:(m.2.2.2.2.2.1.length:Int)=cond m.2.2.2.2.1 (LF m.2.2.2.1) 0↔(m.2.2.2.2.2.1.length:Int)=if m.2.2.2.2.1 then LF m.2.2.2.1 else 0:=by
  grind
 rw[this];exact⟨fun⟨a,b,c,d,e,f,g,h⟩=>⟨a,b,c,d,e,f,g,h⟩,fun h=>⟨h.cfg,h.ep,h.b,h.fK,h.gM,h.seen,h.wrote,h.n⟩⟩
structure yk (c:CD) (r:AN):Prop where
 cfg:Ej c=true
 n:r.1.length≤30
 trim:r.2.1=0∨(BR r.2.1=true∧AQ r.2.1≤r.1.length)
 Ac:∀e∈r.1,holds c e.1=true∧(0≤e.2.2.1∧e.2.2.1≤60)∧(e.2.1=false→e.2.2.1=0)
 down:∀i,i<r.1.length→(r.1.getD i GP).2.1=true→i+1<r.1.length∧ ∀j,j<i→(r.1.getD j GP).2.1=true
theorem JE{c:CD}{r:AN}:Mk c r=true↔yk c r:=by
 unfold Mk fy;simp only[AMC,AMi,ATI,ATa,Lx,uU,oC,Ah,ATJ,Bool.and_eq_false_iff,Bool.or_eq_false_iff,ATr,APU];constructor
 ·rintro⟨a,b,c1,d⟩
  refine⟨a,b,c1,(SW (d:=GP) (P:=fun e=>holds c e.1=true∧(0≤e.2.2.1∧e.2.2.1≤60)∧(e.2.1=false→e.2.2.1=0))).1 fun i hi=> ?_,fun i hi hc=> ?_⟩
  ·grind
  ·have step:∀k,k<r.1.length→(r.1.getD k GP).2.1=true→k+1<r.1.length∧(0<k→(r.1.getD (k-1) GP).2.1=true):=fun k hk hkc=>by
    rcases(d k hk).2 with h|⟨h1,h2⟩
    ·simp_all
    ·refine⟨by omega,fun h0=> ?_⟩
     simp_all
   refine⟨(step i hi hc).1,?_⟩;clear hi
   induction i with
   |zero=>omega
   |succ i ih=>
    intro j hj;have Dh:i+1<r.1.length:=by
     rcases Nat.lt_or_ge (i+1) r.1.length with h|h
     ·omega
     ·simp[List.getD,h]at hc
      cases hc
    grind
 ·intro h
  refine⟨h.cfg,h.n,h.trim,fun i hi=>⟨?_,?_⟩⟩
  ·obtain⟨h1,h2,h3⟩:=h.Ac _ (BJ (d:=GP) hi)
   grind
  ·cases hb:(r.1.getD i GP).2.1 with
   |false=>simp_all
   |true=>
    obtain⟨h1,h2⟩:=h.down i hi hb;grind
structure bG (c:CD) (w:AM):Prop where
 cfg:Ej c=true
 ep:1≤w.1∧w.1≤30
 n:w.2.1.length≤60
 words:∀x∈w.2.1,x.1.length≤40∧Ay c x.2.1=true∧x.2.2.1=holds c x.2.1
 opn:Qk w.2.1≤6
theorem IX{c:CD}{w:AM}:FK c w=true↔bG c w:=by
 unfold FK le6 WL;simp only[AMC,AMi,Ah,ATg,ATa];exact⟨fun⟨a,b,c,d,e⟩=>⟨a,b,c,d,e⟩,fun h=>⟨h.cfg,h.ep,h.n,h.words,h.opn⟩⟩
structure AD2 (r:AY):Prop where
 ep:1≤r.1∧r.1≤31
 off:1≤r.2.1∧r.2.1≤61
 n:r.2.2.1.length≤120
theorem RE{r:AY}:W6 r=true↔AD2 r:=by
 unfold W6;simp only[AMC,AMi,Ah];exact⟨fun⟨a,b,c⟩=>⟨a,b,by omega⟩,fun h=>⟨h.ep,h.off,by have:=h.n;omega⟩⟩
structure Nn (w:AA):Prop where
 cfg:Ej (AS w)=true
 qh:w.An.length=w.1.length
 lost:Ay (AS w) w.lost=true
 ED:w.ED=true∨holds (AS w) w.lost=false
 An:∀i,i<w.An.length→fg (w.An.getD i Cr)∧((i:Int)∈w.lost→w.An.getD i Cr=Cr)
 lj:yk (AS w) (B5 w)
 rJ:w.AH.length≤4
 yC:w.BW.length≤1
 AH:∀x∈w.AH,bG (AS w) x∧x.1≤w.Ac.length
 Xw:Tf (fun x:AM=>x.1) w.AH
 BW:∀m∈w.BW,qG (AS w) m∧m.1=w.Ac.length∧m.2.1=A8 w.Ac
 mf:w.AW.length=2
 AW:∀r∈w.AW,AD2 r
 Qp:w.BK.length≤120
 BK:∀s∈w.BK,BR s.1=true∧AQ s.1≤w.Ac.length∧s.2.1.length≤40
 WO:Tf (fun s:Ab=>s.1) w.BK
theorem Iu{w:AA}:Fm w=true↔Nn w:=by
 unfold Fm;simp only[AMC,AMi,eF,Zh,gv,r6,aL,Lx,kP,eX,tN,rz,ATI,ATJ,ATa,DL,JE,IX,HS,RE];have hz:∀s:AO,(s.1.length=0∧s.2.1.length=0∧s.2.2.1=0)↔s=Cr:=fun s=>by
  grind
 simp only[hz];constructor
 ·rintro⟨h1,h2,h3,h4,h5,h6,h7,h8,h9,h10,⟨h11,h12,h13⟩,h14,h15⟩
  refine⟨h1,h2,h3,h4,fun i hi=>⟨(h5 i hi).1,fun hm=>(h5 i hi).2.resolve_left fun hc=> ?_⟩,h6,h7,h8,?_,?_,?_,h11,?_,h14,?_,?_⟩
  ·simp_all
  ·exact(SW (d:=Bv) (P:=fun x:AM=>bG (AS w) x∧x.1≤w.Ac.length)).1 fun i hi=>⟨(h9 i hi).1,(h9 i hi).2.1⟩
  ·exact(eN (f:=fun x:AM=>x.1) (d:=Bv)).1 fun i hi=>(h9 i hi).2.2
  ·exact(SW (d:=Qs) (P:=fun m:As=>qG (AS w) m∧m.1=w.Ac.length∧m.2.1=A8 w.Ac)).1 h10
  ·refine(SW (d:=Au) (P:=AD2)).1 fun i hi=> ?_
   rw[h11]at hi;rcases(by omega:i=0∨i=1)with rfl|rfl
   all_goals omega
  ·exact(SW (d:=JF) (P:=fun s:Ab=>BR s.1=true∧AQ s.1≤w.Ac.length∧s.2.1.length≤40)).1 fun i hi=>⟨(h15 i hi).1.1,(h15 i hi).1.2,(h15 i hi).2.1⟩
  ·exact(eN (f:=fun s:Ab=>s.1) (d:=JF)).1 fun i hi=>(h15 i hi).2.2
 ·intro h
  refine⟨h.cfg,h.qh,h.lost,h.ED,fun i hi=>⟨(h.An i hi).1,?_⟩,h.lj,h.rJ,h.yC,fun i hi=> ?_,fun i hi=>h.BW _ (BJ hi),⟨h.mf,h.AW _ (BJ (by rw[h.mf];omega)),h.AW _ (BJ (by rw[h.mf];omega))⟩,h.Qp,fun i hi=> ?_⟩
  ·by_cases hm:(i:Int)∈w.lost
   ·exact .inr ((h.An i hi).2 hm)
   simp_all
  ·have:=h.AH _ (BJ (d:=Bv) hi)
   exact⟨this.1,this.2,(eN (f:=fun x:AM=>x.1) (d:=Bv)).2 h.Xw i hi⟩
  ·have:=h.BK _ (BJ (d:=JF) hi)
   exact⟨⟨this.1,this.2.1⟩,this.2.2,(eN (f:=fun s:Ab=>s.1) (d:=JF)).2 h.WO i hi⟩
end Go.M
end
section
namespace Go.M
open Go.M.H (AJ AO As Ab AA CO AN A4 AM AY Az Av BS)
theorem oS{x y:Int}:∀{l:AAH},y∈gS x l↔y=x∨y∈l
 |[]=>by simp[gS]
 |z::l=>by
  simp only[gS];split
  ·simp
  ·simp only[AOJ,oS (l:=l)]
   grind
theorem we{x:Int}:∀{l:AAH},Tf id l→x∉l→Tf id (gS x l)
 |[],_,_=>by simp[gS,Tf]
 |z::l,h,hx=>by
  simp only[Tf,AQb,id]at h;simp only[AOJ,AXv]at hx;simp only[gS];split
  ·rename_i hz
   simp only[Tf,AQb,AOJ,id];grind
  ·rename_i hz
   simp only[Tf,AQb,id];refine⟨fun a ha=> ?_,we h.2 hx.2⟩;rcases oS.1 ha with rfl|ha
   all_goals grind
theorem OT{x y:Int}{l:AAH}:y∈JM x l↔y=x∨y∈l:=by
 unfold JM;split
 ·simp_all
 ·exact oS
theorem AGC{x:Int}{l:AAH}(h:Tf id l):Tf id (JM x l):=by
 grind[JM,we]
theorem Ib{c:CD}{x:Int}{l:AAH}(h:Ay c l=true)(hx:0≤x∧x<c.1.length):Ay c (JM x l)=true:=by
 rw[ER]at h⊢;refine⟨h.1,fun y hy=> ?_,AGC h.2.2⟩;rcases OT.1 hy with rfl|hy
 all_goals simp_all
theorem K5{c:CD}{l:AAH}(p:Int→Bool)(h:Ay c l=true):Ay c (l.filter p)=true:=by
 grind[ER]
theorem SZ{x:Int}{l m:AAH}:x∈less l m↔x∈l∧x∉m:=by simp[less]
theorem dm{c:CD}(h:Ej c=true):Ay c []=true:=ER.2 ⟨h,fun _ h=>by simp at h,List.Pairwise.nil⟩
theorem AFX{l m:AAH}(h:l.Nodup)(hs:∀x∈l,x∈m):l.length≤m.length:=by
 induction l generalizing m with
 |nil=>simp
 |cons a l ih=>
  rw[AWf]at h;have ha:=hs a (by simp);have:=ih (m:=m.erase a) h.2 fun x hx=>(List.mem_erase_of_ne (fun e:x=a=>h.1 (by simp_all))).2 (hs x (by simp[hx]))
  grind
theorem wO{c:AAH}{d:Int}:∀{l acc:AAH},d∈jm c l acc↔d∈acc∨ ∃n∈l,c.getD n.toNat 0=d
 |[],acc=>by simp[jm]
 |n::l,acc=>by
  simp only[jm];rw[wO (l:=l)];grind
theorem n0{c:AAH}:∀{l acc:AAH},acc.Nodup→(jm c l acc).Nodup
 |[],acc,h=>h
 |n::l,acc,h=>by
  simp only[jm];refine n0 ?_
  grind
theorem wo{c l m:AAH}(h:∀x∈l,x∈m):aY c l≤aY c m:=by
 refine AFX (n0 List.nodup_nil) fun d hd=> ?_
 grind[wO]
theorem iD{c:CD}{l m:AAH}(hl:holds c l=true)(hm:Ay c m=true)(h:∀x∈l,x∈m):holds c m=true:=by
 simp only[holds,AMC,AMi]at hl⊢;have:=wo (c:=c.1) h;grind
def GQ(c:CD)(S:Int→Prop):Prop:= ∃l,holds c l=true∧ ∀n∈l,S n
theorem GQ.mono{c:CD}(S T:Int→Prop)(h:∀n,S n→T n)(hS:GQ c S):GQ c T:=
 let⟨l,h1,h2⟩:=hS;⟨l,h1,fun n hn=>h n (h2 n hn)⟩
theorem GQ.list{c:CD}{l:AAH}(h:Ay c l=true):GQ c (fun n=>n∈l)↔holds c l=true:=
 ⟨fun⟨_,h1,h2⟩=>iD h1 h h2,fun h1=>⟨l,h1,fun _ hn=>hn⟩⟩
theorem holds_nil{c:CD}:holds c []=false:=by
 rw[ATi];intro h;have hc:=(ER.1 (N7 h)).1;have:=(Gh hc).2.2.1;simp only[holds,AMC,AMi,aY,jm]at h;grind
theorem GQ.empty{c:CD}: ¬GQ c (fun _=>False):=fun⟨l,h1,h2⟩=>by
 cases l with
 |nil=>grind[holds_nil]
 |cons a l=>exact h2 a (by simp)
theorem sr{a b:AJ}(h:a.1=b.1):(better a b).1=b.1:=by grind[better]
theorem dt{e y:AJ}:∀{l:List AJ},y∈keep e l→y=e∨y∈l
 |[],h=>by simpa[keep]using h
 |x::l,h=>by
  simp only[keep]at h;split at h
  ·rcases AOJ.1 h with rfl|h
   all_goals grind[better]
  ·split at h
   ·simp_all
   ·rcases AOJ.1 h with rfl|h
    ·simp
    ·rcases dt h with h|h<;>simp[h]
theorem AKI{e y:AJ}{l:List AJ}(h:y∈keep e l):y.1=e.1∨ ∃z∈l,z.1=y.1:=by
 rcases dt h with rfl|h
 all_goals grind
theorem Wp{e:AJ}:∀{l:List AJ},(keep e l).length≤l.length+1∧l.length≤(keep e l).length
 |[]=>by simp[keep]
 |x::l=>by
  have:=Wp (e:=e) (l:=l);grind[keep,List.length_cons]
abbrev Wr(l:List AJ):Prop:=Tf (fun e:AJ=>e.1) l
theorem UK{e:AJ}:∀{l:List AJ},Wr l→Wr (keep e l)
 |[],_=>by simp[keep,Tf]
 |x::l,h=>by
  have h':=h;simp only[Tf,AQb]at h;simp only[keep];split
  ·rename_i hx
   simp only[Wr,Tf,AQb];grind[sr]
  ·split
   ·rename_i hx
    simp only[Wr,Tf,AQb,AOJ];grind
   ·rename_i h1 h2
    simp only[Wr,Tf,AQb];refine⟨fun a ha=> ?_,UK h.2⟩;grind[AKI]
theorem Gv{p:Int}{l:List AJ}{e:AJ}(h:Ep p l=some e):e∈l∧e.1=p:=by
 grind[Ep,List.mem_of_find?_eq_some]
theorem ABW{p:Int}{l:List AJ}(h:Ep p l=none):∀e∈l,e.1≠p:=by
 grind[Ep]
theorem Lw{e:AJ}:∀{l:List AJ},Wr l→e∈l→Ep e.1 l=some e
 |x::l,h,he=>by
  simp only[Tf,AQb]at h;unfold Ep;rw[ATw];rcases AOJ.1 he with rfl|he
  ·simp
  ·have:=h.1 e he
   have bd:(x.1==e.1)=false:=by grind
   rw[bd];exact Lw h.2 he
theorem j_{e:AJ}{p:Int}:∀{l:List AJ},Wr l→Ep p (keep e l)=if p=e.1 then some (match Ep p l with|some x=>better x e|none=>e)else Ep p l
 |[],_=>by
  simp only[keep,Ep,ATw,List.find?_nil];grind
 |x::l,h=>by
  have h':=h;simp only[Tf,AQb]at h;have tail:∀q,q≤x.1→q≠x.1→Ep q l=none:=fun q hq bd=>by
   grind[Ep,Gv]
  have cons:∀(z:AJ) (m:List AJ),Ep p (z::m)=if z.1=p then some z else Ep p m:=fun z m=>by
   unfold Ep;grind
  simp only[keep];split
  ·rename_i hx
   rw[cons,cons,sr hx];grind
  ·split
   ·grind
   ·rename_i h1 h2
    rw[cons,cons,j_ h.2];grind
theorem Qr{y:AJ}:∀{l k:List AJ},y∈Dd k l→y∈k∨y∈l
 |[],k,h=> .inl h
 |e::l,k,h=>by
  rcases Qr (l:=l) h with h|h
  ·rcases dt h with rfl|h
   all_goals simp_all
  simp_all
theorem Qt:∀{l k:List AJ},Wr k→Wr (Dd k l)
 |[],k,h=>h
 |e::l,k,h=>Qt (l:=l) (UK h)
theorem AJi{e:AJ}{l:List AJ}{p:Int}{x:AJ}(h:Wr l)(hx:Ep p l=some x):∃y,Ep p (keep e l)=some y∧(y=x∨x.2.1<y.2.1):=by
 rw[j_ h];split
 ·rw[hx]
  refine⟨better x e,rfl,?_⟩;unfold better;grind
 simp_all
theorem XJ{p:Int}:∀{l k:List AJ} {x:AJ},Wr k→Ep p k=some x→ ∃y,Ep p (Dd k l)=some y∧(y=x∨x.2.1<y.2.1)
 |[],k,x,_,hx=>⟨x,hx,.inl rfl⟩
 |e::l,k,x,h,hx=>by
  obtain⟨y,h1,h2⟩:=AJi (e:=e) h hx;obtain⟨z,h3,h4⟩:=XJ (l:=l) (UK h) h1;refine⟨z,h3,?_⟩;grind
theorem gT{e:AJ}:∀{l k:List AJ},Wr k→e∈l→ ∃y,Ep e.1 (Dd k l)=some y∧e.2.1≤y.2.1
 |a::l,k,h,he=>by
  rcases AOJ.1 he with rfl|he
  ·have h1:∃y,Ep e.1 (keep e k)=some y∧e.2.1≤y.2.1:=by
    rw[j_ h,ALP rfl];refine⟨_,rfl,?_⟩;split
    ·grind[better]
    omega
   obtain⟨y,h1,h2⟩:=h1;obtain⟨z,h3,h4⟩:=XJ (l:=l) (UK h) h1;exact⟨z,h3,by grind⟩
  ·exact gT (l:=l) (UK h) he
theorem Q9{k:Int}{y:AJ}:∀{l:List AJ} {i:Nat},y∈Ma k i l→y∈l
 |[],_,h=>h
 |e::l,i,h=>by
  simp only[Ma]at h;split at h
  ·rcases AOJ.1 h with rfl|h
   ·simp
   ·simp[Q9 h]
  ·simp[Q9 h]
end Go.M
end
section
namespace Go.M
open Go.M.H (AJ AO As Ab AA CO AN A4 AM AY Az Av BS)
theorem I5{e o:Int}(he:1≤e∧e≤30)(ho:1≤o∧o≤60):BR (D6 e o)=true∧AQ (D6 e o)=e∧A6 (D6 e o)=o:=by
 have h1:Wt (D6 e o)=e:=by
  grind[Wt,D6,Int.tdiv_eq_ediv_of_nonneg]
 have h2:(D6 e o).tmod 4294967296=o:=by
  grind[D6,Int.tmod_eq_emod_of_nonneg]
 have h3:BR (D6 e o)=true:=by
  unfold BR;rw[h1,h2,AMC,Ah,Ah];omega
 exact⟨h3,by unfold AQ;simp_all,by unfold A6;simp_all⟩
theorem CJ{p:Int}(h:BR p=true):(1≤AQ p∧AQ p≤30)∧(1≤A6 p∧A6 p≤60)∧D6 (AQ p) (A6 p)=p:=by
 have h0:=ck h;have h1:=h;unfold BR at h1;rw[AMC,Ah,Ah]at h1;have e1:AQ p=Wt p:=by unfold AQ;rw[ALP h]
 grind[A6,D6,Wt,Int.tdiv_eq_ediv_of_nonneg,Int.tmod_eq_emod_of_nonneg]
theorem sL{p q:Int}(hp:BR p=true)(hq:BR q=true):p≤q↔AQ p<AQ q∨(AQ p=AQ q∧A6 p≤A6 q):=by
 obtain⟨a1,a2,a3⟩:=CJ hp;obtain⟨b1,b2,b3⟩:=CJ hq;grind[D6]
theorem sW{p q:Int}(hp:BR p=true)(hq:BR q=true)(h1:AQ p=AQ q)(h2:A6 p=A6 q):p=q:=by
 rw[←(CJ hp).2.2,←(CJ hq).2.2,h1,h2]
theorem fg.nil:fg Cr:=⟨by simp,by simp,by simp,by simp,List.Pairwise.nil,by simp⟩
theorem dY{s:AO}{e:AJ}(h:(GB s e).2=true):fg (GB s e).1∧(GB s e).1=(s.1,s.2.1++[e],s.2.2.1,())∧EZ e=true∧takes s e=true:=by
 unfold GB at*;split at h
 ·cases h
 rename_i hs;rw[ALo hs];simp only[APN,APU]at hs;rw[DL]at hs;split at h
 case isFalse=>cases h
 rename_i h1;rw[ALP h1];simp only[AMC,AMi]at h1;obtain⟨he,ht,hl⟩:=h1;refine⟨⟨hs.nk,hs.kept,?_,fun x hx=> ?_,hs.gM,hs.sl⟩,rfl,he,ht⟩
 ·have:=hs.nl
  grind
 ·simp only[AOl,ATj]at hx
  rcases hx with hx|rfl
  ·exact hs.late x hx
  omega
theorem Kf{s:AO}{k:Int}(h:(D9 s k).2=true):fg s∧fg (D9 s k).1∧(D9 s k).1=(Dd s.1 (Ma k 0 s.2.1),[],s.2.2.1,()):=by
 unfold D9 at*;split at h
 ·cases h
 rename_i hs;rw[ALo hs];simp only[APN,APU]at hs;rw[DL]at hs;simp only at h⊢;split at h
 case isFalse=>cases h
 rename_i h1;rw[ALP h1];simp only[AMC,AMi]at h1;refine⟨hs,⟨h1.2,fun e he=> ?_,by simp,by simp,Qt hs.gM,hs.sl⟩,rfl⟩;rcases Qr he with he|he
 ·exact hs.kept e he
 ·exact hs.late e (Q9 he)
theorem ag{s:AO}{u:Int}(h:(Bi s u).2=true):fg s∧fg (Bi s u).1∧(Bi s u).1=(Dd s.1 (Ma 1048575 0 s.2.1),[],max s.2.2.1 u,())∧0≤u∧u≤30:=by
 unfold Bi at*;split at h
 ·cases h
 rename_i hs;rw[ALo hs];simp only[APN,APU]at hs;simp only at h⊢;split at h
 case isFalse=>cases h
 rename_i h1;rw[ALP h1];simp only[AMC,Ah]at h1;obtain⟨k1,k2,k3⟩:=Kf h1.1;have iI:(Cg s).1=_:=k3;rw[iI];refine⟨k1,⟨?_,?_,by simp,by simp,Qt k1.gM,?_⟩,rfl,h1.2⟩
 ·have:=k2.nk;simp_all
 ·have:=k2.kept;simp_all
 ·have:=k1.sl
  grind
theorem jN{s:AO}{u:Int}(h:(GI s u).2=true):fg s∧fg (GI s u).1∧(GI s u).1=(s.1.filter fun e=>decide (e.1>u),s.2.1,s.2.2.1,()):=by
 unfold GI at*;split at h
 ·cases h
 rename_i hs;rw[ALo hs];simp only[APN,APU]at hs;rw[DL]at hs;split at h
 case isFalse=>cases h
 rename_i h1;rw[ALP h1];refine⟨hs,⟨AQ4 (ASR _ _) hs.nk,fun e he=>hs.kept e (ATU.1 he).1,hs.nl,hs.late,hs.gM.filter _,hs.sl⟩,rfl⟩
theorem xZ{c:CD}{ss:List AO}{lost:AAH}{n u:Int}(h:(Xf c ss lost n u).2=true):
  fg (Xf c ss lost n u).1∧(Xf c ss lost n u).1=(Ff [] (others lost 0 ss),[],u,())∧holds c lost=false∧ ∀s∈others lost 0 ss,fg s:=by
 unfold Xf at*;simp only at h⊢;split at h
 case isFalse=>cases h
 rename_i h1;rw[ALP h1];simp only[AMC,AMi,ATJ,ATg]at h1;obtain⟨_,_,_,h2,_,h3,h4⟩:=h1;exact⟨DL.1 h4,rfl,h2,fun s hs=>DL.1 (h3 s hs)⟩
theorem dI{l:List CO}:∀{d i:Nat},i+d=l.length→(W0 l i d=0∧ ∀j,i≤j→j<l.length→(l.getD j GP).2.1=true)∨
  ∃k,i≤k∧k<l.length∧W0 l i d=(k:Int)+1∧(l.getD k GP).2.1=false∧ ∀j,i≤j→j<k→(l.getD j GP).2.1=true
 |0,i,h=> .inl ⟨rfl,fun j h1 h2=>by omega⟩
 |d+1,i,h=>by
  simp only[W0];cases hb:(l.getD i ([],false,0,())).2.1 with
  |false=>grind
  |true=>
   simp only[AMO,AMh];rcases dI (l:=l) (d:=d) (i:=i+1) (by omega)with⟨h1,h2⟩|⟨k,h1,h2,h3,h4,h5⟩
   all_goals grind
theorem Nu{c:CD}{r:AN}(h:yk c r)(hl:0<r.1.length):∃k,k<r.1.length∧A8 r.1=(k:Int)+1∧(r.1.getD k GP).2.1=false∧ ∀j,j<k→(r.1.getD j GP).2.1=true:=by
 rcases dI (l:=r.1) (d:=r.1.length) (i:=0) (by omega)with⟨h1,h2⟩|⟨k,h1,h2,h3,h4,h5⟩
 ·have:=(h.down (r.1.length-1) (by omega) (h2 _ (by omega) (by omega))).1
  omega
 ·exact⟨k,h2,h3,h4,fun j hj=>h5 j (by omega) hj⟩
theorem od{c:CD}{r:AN}{ns:AAH}(h:(Ig c r ns).2.2=true):yk c r∧yk c (Ig c r ns).1∧(Ig c r ns).1=(r.1++[(ns,false,0,())],r.2.1,())∧(Ig c r ns).2.1=(r.1.length:Int)+1∧holds c ns=true∧r.1.length<30:=by
 unfold Ig at*;split at h
 ·cases h
 rename_i hs;rw[ALo hs];simp only[APN,APU]at hs;rw[JE]at hs;split at h
 case isFalse=>cases h
 rename_i h1;rw[ALP h1];simp only[AMC,AMi]at h1;have hn:=hs.n;refine⟨hs,⟨hs.cfg,?_,?_,fun e he=> ?_,fun i hi hc=> ?_⟩,rfl,rfl,h1.1,by omega⟩
 ·grind
 ·rcases hs.trim with h2|⟨h2,h3⟩
  all_goals grind
 ·simp only[AOl,ATj]at he
  rcases he with he|rfl
  ·exact hs.Ac e he
  simp_all
 ·simp only[AOs,ANL,AQO]at hi
  have get:∀j,j<r.1.length→(r.1++[(ns,false,0,())]).getD j GP=r.1.getD j GP:=fun j hj=>by
   grind
  by_cases hl:i<r.1.length
  ·rw[get i hl]at hc
   obtain⟨h2,h3⟩:=hs.down i hl hc;grind
  simp_all
theorem WD{l:List CO}{i j:Nat}{last:Int}(hi:i<l.length):(Ga l i last).getD j GP=if i=j then((l.getD i GP).1,true,last,())else l.getD j GP:=by
 grind[Ga]
theorem mA{c:CD}{r:AN}{b last:Int}(h:(Mo c r b last).2=true):yk c r∧yk c (Mo c r b last).1∧
  ∃k,k<r.1.length∧A8 r.1=(k:Int)+1∧k+1<r.1.length∧b=r.1.length∧(0≤last∧last≤60)∧(Mo c r b last).1=(Ga r.1 k last,r.2.1,())∧(r.1.getD k GP).2.1=false∧ ∀j,j<k→(r.1.getD j GP).2.1=true:=by
 unfold Mo at*;split at h
 ·cases h
 rename_i hs;rw[ALo hs];simp only[APN,APU]at hs;rw[JE]at hs;split at h
 case isFalse=>cases h
 rename_i h1;rw[ALP h1];simp only[AMC,AMi,Ah]at h1;obtain⟨hb,h0,bd,hlast⟩:=h1;have hl:0<r.1.length:=by
  rcases AXa r.1.length with hz|hz
  ·exfalso
   apply h0;unfold A8;rw[hz];rfl
  omega
 obtain⟨k,k1,k2,k3,k4⟩:=Nu hs hl;have hk:(A8 r.1-1).toNat=k:=by omega
 rw[hk];have hlen:(Ga r.1 k last).length=r.1.length:=by simp[Ga]
 refine⟨hs,⟨hs.cfg,by rw[hlen];exact hs.n,?_,fun e he=> ?_,fun i hi hc=> ?_⟩,k,k1,k2,by omega,hb,hlast,rfl,k3,k4⟩
 ·simp only[hlen];exact hs.trim
 ·unfold Ga at he
  rcases ATc he with he|rfl
  ·exact hs.Ac e he
  ·exact⟨(hs.Ac _ (BJ k1)).1,hlast,fun hf=>by cases hf⟩
 ·simp only[hlen]at hi⊢
  rw[WD k1]at hc;by_cases hik:k=i
  ·subst hik
   refine⟨by omega,fun j hj=> ?_⟩;rw[WD k1,ALo (by omega)];simp_all
  ·rw[ALo hik]at hc
   obtain⟨h2,h3⟩:=hs.down i hi hc;grind[WD]
theorem ou{c:CD}{r:AN}{p:Int}(h:(MV c r p).2=true):yk c r∧yk c (MV c r p).1∧(MV c r p).1=(r.1,max r.2.1 p,()):=by
 unfold MV at*;split at h
 ·cases h
 rename_i hs;rw[ALo hs];simp only[APN,APU]at hs;rw[JE]at hs;split at h
 case isFalse=>cases h
 rename_i h1;rw[ALP h1];simp only[AMC,AMi]at h1;refine⟨hs,⟨hs.cfg,hs.n,?_,hs.Ac,hs.down⟩,rfl⟩;simp only;have hp:=(ck h1.1).1;by_cases hm:r.2.1≤p
 ·grind
 ·rw[show max r.2.1 p=r.2.1 by omega]
  exact hs.trim
theorem WJ{c:CD}{w:AM}{d:ACD}(h:(CI c w d).2.2=true):bG c w∧bG c (CI c w d).1∧(CI c w d).1=(w.1,w.2.1++[(d,[],false,())],())∧(CI c w d).2.1=(w.2.1.length:Int)+1:=by
 unfold CI at*;split at h
 ·cases h
 rename_i hs;rw[ALo hs];simp only[APN,APU]at hs;rw[IX]at hs;split at h
 case isFalse=>cases h
 rename_i h1;rw[ALP h1];exact⟨hs,IX.1 h1,rfl,rfl⟩
theorem bS{c:CD}{s:AO}{ep n:Int}(hn:0≤n∧n<c.1.length):∀{l:List A4} {o:Int},(∀x∈l,x.1.length≤40∧Ay c x.2.1=true∧x.2.2.1=holds c x.2.1)→
  (∀x∈BB c s ep n o l,x.1.length≤40∧Ay c x.2.1=true∧x.2.2.1=holds c x.2.1)∧Qk (BB c s ep n o l)≤Qk l∧(BB c s ep n o l).length=l.length
 |[],o,h=>by simp[BB]
 |x::l,o,h=>by
  obtain⟨h1,h2,h3⟩:=bS (s:=s) (ep:=ep) hn (l:=l) (o:=o+1) fun y hy=>h y (by simp[hy])
  have hx:=h x (by simp);simp only[BB,AOJ,ANL,Qk];split
  ·rename_i hd
   simp only[AMC,ATJ]at hd;refine⟨?_,?_,by omega⟩
   ·rintro y (rfl|hy)
    ·exact⟨hx.1,Ib hx.2.1 hn,rfl⟩
    grind
   grind
  grind
theorem s6{c:CD}{n:Int}:∀{l:List A4},(∀x∈l,x.1.length≤40∧Ay c x.2.1=true∧x.2.2.1=holds c x.2.1)→
  (∀x∈l.map (Cx n),x.1.length≤40∧Ay c x.2.1=true∧x.2.2.1=holds c x.2.1)∧Qk (l.map (Cx n))=Qk l
 |[],h=>by simp
 |x::l,h=>by
  obtain⟨h1,h2⟩:=s6 (n:=n) (l:=l) fun y hy=>h y (by simp[hy])
  have hx:=h x (by simp);simp only[AUm,AOJ,Qk,h2,Cx,ATS]
  rintro y (rfl|hy)
  ·refine⟨hx.1,?_,?_⟩
   ·simp only
    split
    ·simp_all
    ·exact K5 _ hx.2.1
   ·simp only
    split
    ·simp_all
    ·rename_i hd
     simp only[APN]at hd;rw[hd]
     symm
     rw[ATi];grind[iD,SZ]
  grind
theorem U8{c:CD}{w:AM}{n:Int}(h:bG c w):bG c (CE c w n).1∧(CE c w n).1=(w.1,w.2.1.map (Cx n),()):=by
 unfold CE;rw[IX.2 h];obtain⟨h1,h2⟩:=s6 (n:=n) h.words;exact⟨⟨h.cfg,h.ep,by simpa using h.n,h1,by simp only[AMO];exact h2▸h.opn⟩,rfl⟩
theorem Gj{l:List AJ}:0≤LF l∧LF l≤60:=by
 unfold LF;cases l.length==0 with
 |true=>simp
 |false=>
  simp only[AMh];rcases AKr (BR (l.getD (l.length-1) Dt).1)with h|h
  ·have:=(CJ h).2.1;omega
  grind[A6]
theorem ly{c:CD}{m:As}{n:Int}{l:List AJ}(h:(K3 c m n l).2=true):qG c m∧qG c (K3 c m n l).1∧m.2.2.2.2.1=false∧
  (K3 c m n l).1=(m.1,m.2.1,JM n m.2.2.1,Dd m.2.2.2.1 (l.filter fun e=>AQ e.1==m.2.1),m.2.2.2.2.1,m.2.2.2.2.2.1,()):=by
 unfold K3 at*;split at h
 ·cases h
 rename_i hs;rw[ALo hs];simp only[APN,APU]at hs;rw[HS]at hs;simp only at h⊢;split at h
 case isFalse=>cases h
 rename_i h1;rw[ALP h1];simp only[AMC,ATJ]at h1;exact⟨hs,HS.1 h1.2,h1.1,rfl⟩
theorem mF{c:CD}{m:As}{s:AAH}(h:(IP c m s).2=true):qG c m∧qG c (IP c m s).1∧m.2.2.2.2.1=false∧Ji c s (m.2.2.1.filter s.contains)=true∧
  (IP c m s).1=(m.1,m.2.1,m.2.2.1,m.2.2.2.1,true,List.replicate (LF m.2.2.2.1).toNat [],()):=by
 unfold IP at*;split at h
 ·cases h
 rename_i hs;rw[ALo hs];simp only[APN,APU]at hs;rw[HS]at hs;split at h
 case isFalse=>cases h
 rename_i h1;rw[ALP h1];simp only[AMC,ATJ]at h1;refine⟨hs,⟨hs.cfg,hs.ep,hs.b,hs.fK,hs.gM,hs.seen,fun l hl=> ?_,?_⟩,h1.1,h1.2,rfl⟩
 ·simp only at hl
  rw[ATo hl];exact dm hs.cfg
 ·simp only[AWX,ATK]
  have:=(Gj (l:=m.2.2.2.1)).1;omega
theorem bA{c:CD}{m:As}{s:AO}{n:Int}(hn:0≤n∧n<c.1.length):∀{l:List AAH} {o:Int},(∀x∈l,Ay c x=true)→
  (∀x∈D4 m s n o l,Ay c x=true)∧(D4 m s n o l).length=l.length
 |[],o,h=>by simp[D4]
 |x::l,o,h=>by
  obtain⟨h1,h2⟩:=bA (m:=m) (s:=s) hn (l:=l) (o:=o+1) fun y hy=>h y (by simp[hy])
  have hx:=h x (by simp);simp only[D4,AOJ,ANL,h2,ATS]
  rintro y (rfl|hy)
  all_goals grind[Ib]
theorem AEv{c:CD}{s:AO}{l:List CO}{n:Int}{m:As}(hn:0≤n∧n<c.1.length)(h:qG c m):qG c (HG s l n m):=by
 unfold HG;split
 ·obtain⟨h1,h2⟩:=bA (m:=m) (s:=s) hn (o:=1) h.wrote
  exact⟨h.cfg,h.ep,h.b,h.fK,h.gM,h.seen,h1,by simp only[h2];exact h.n⟩
 omega
theorem fW{c:CD}{m:As}{n:Int}(h:qG c m):qG c (CA c m n).1∧(CA c m n).1=(m.1,m.2.1,m.2.2.1,m.2.2.2.1,m.2.2.2.2.1,m.2.2.2.2.2.1.map fun l=>less l [n],()):=by
 unfold CA;rw[HS.2 h];refine⟨⟨h.cfg,h.ep,h.b,h.fK,h.gM,h.seen,fun l hl=> ?_,?_⟩,rfl⟩
 ·simp only[AMO,AMH,AON,ATd]at hl
  obtain⟨l',h1,rfl⟩:=hl;exact K5 _ (h.wrote l' h1)
 ·simp only[AMO,AMH,AON,AXX]
  exact h.n
theorem rI{c:CD}{g:AN}{sure:Int}{r:AY}{l:List Av}(h:(B3 c g sure r l).2=0):AD2 (B3 c g sure r l).1:=by
 unfold B3 at*;split at h
 ·omega
 rename_i hs;rw[ALo hs];simp only[APN,APU,AMC,JE,RE]at hs;obtain⟨hg,hr,_⟩:=hs;have r1:=hr.ep;have r2:=hr.off;have r3:=hr.n;split at h
 ·omega
 rename_i h1;rw[ALo h1];simp only[ATI,AMi,AXv]at h1;have hn:=hg.n;simp only at h⊢;split at h
 ·rename_i h2
  rw[ALP h2];have hp:BR g.2.1=true:=by
   rcases hg.trim with ht|ht
   all_goals grind[D6]
  obtain⟨a1,a2,_⟩:=CJ hp;exact⟨by grind,by grind,by grind⟩
 ·rename_i h2
  rw[ALo h2];split at h
  ·rename_i h3
   rw[ALP h3];exact⟨by grind,by simp_all,by simp_all;omega⟩
  ·rename_i h3
   rw[ALo h3];split at h
   ·omega
   rename_i h4;rw[ALo h4];simp only[ATI,AMi,AXv]at h4;split at h
   ·omega
   rename_i h5;rw[ALo h5];exact⟨by omega,by grind,by simp_all;omega⟩
end Go.M
end
section
namespace Go.M
open Go.M.H (AJ AO As Ab AA CO AN A4 AM AY Az Av BS)
theorem AD{α β:Type}(a:α)(f:α→Option β):(some a).bind f=f a:=rfl
theorem U7{l:AAH}{x:Int}(hl:l.length≤2^30):∀(n i:Nat) (b:AAH),i≤l.length→l.length-i<n→b.length≤2*i+1→
  Ke n l x true i b=some (((),()),(b++l.drop i,()))
 |0,i,b,_,h,_=>by omega
 |n+1,i,b,hi,h,hb=>by
  simp only[Ke,TM,AB,AMO,AMh];by_cases hc:i<l.length
  ·have c1:(0:Int)≤(i:Int)∧(i:Int)<(l.length:Int):=by omega
   have c2:b.length+1≤Dw:=by rw[BX];omega
   rw[ALP c1.2,ALP c1,ALP c2,AL (by omega) (by omega),show((i:Int)+1)=((i+1:Nat):Int)by omega,Aj hc,drop_cons hc,U7 hl n (i+1) _ (by omega) (by omega) (by grind)];simp
  grind
theorem Zy{l:AAH}{x:Int}(hl:l.length≤2^30):∀(n i:Nat) (b:AAH),i≤l.length→l.length-i<n→b.length≤i→
  Ke n l x false i b=some (((),()),(b++gS x (l.drop i),()))
 |0,i,b,_,h,_=>by omega
 |n+1,i,b,hi,h,hb=>by
  simp only[Ke,TM,AB,ATH,AMy];have c2:b.length+1≤Dw:=by rw[BX];omega
  by_cases hc:i<l.length
  ·have c1:(0:Int)≤(i:Int)∧(i:Int)<(l.length:Int):=by omega
   have c3:(b++[x]).length+1≤Dw:=by grind[BX]
   rw[ALP c1.2];simp only[ALP c1,ALP c2,ALP c3];rw[AL (by omega) (by omega),show((i:Int)+1)=((i+1:Nat):Int)by omega,Aj hc,drop_cons hc];simp only[gS];by_cases hx:l[i]>x
   ·rw[ALP hx,ALP (by omega),U7 hl n (i+1) _ (by omega) (by omega) (by grind)]
    simp
   ·rw[ALo hx,ALo (by omega),Zy hl n (i+1) _ (by omega) (by omega) (by simp_all)]
    simp
  ·rw[ALo (by omega),ALP c2,AMo (by omega)]
   rfl
theorem M8{l:AAH}{x:Int}(hl:l.length≤2^30):L8 l x=some (((),()),(JM x l,())):=by
 unfold L8 Zq JM;rw[KQ (by omega)];simp only[AD];rcases AKr (l.contains x)with h|h
 ·rw[h,ALP rfl]
  grind[U7,Ae,Ag]
 ·rw[h,ALo (by simp)]
  grind[Zy,Ae,Ag]
theorem ZE{l m:AAH}(hl:l.length≤2^30)(hm:m.length≤2^30):∀(n i:Nat) (b:AAH),i≤l.length→l.length-i<n→b.length≤i→
  OO n l m i b=some (((),()),(b++less (l.drop i) m,()))
 |0,i,b,_,h,_=>by omega
 |n+1,i,b,hi,h,hb=>by
  simp only[OO,X4,AB];have c2:b.length+1≤Dw:=by rw[BX];omega
  by_cases hc:i<l.length
  ·have c1:(0:Int)≤(i:Int)∧(i:Int)<(l.length:Int):=by omega
   rw[ALP c1.2];simp only[ALP c1,ALP c2];rw[AL (by omega) (by omega),show((i:Int)+1)=((i+1:Nat):Int)by omega,Aj hc,drop_cons hc,KQ (by omega)];simp only[AD,less,ATQ];cases hx:m.contains l[i]with
   |true=>
    simp only[AMO,AMh,AMH,AON];exact ZE hl hm n (i+1) _ (by omega) (by omega) (by omega)
   |false=>
    simp only[ATH,AMy,ATK];rw[ZE hl hm n (i+1) _ (by omega) (by omega) (by simp_all)];simp[less]
  ·rw[ALo (by omega),AMo (by omega)]
   simp[less]
theorem JU{l m:AAH}(hl:l.length≤2^30)(hm:m.length≤2^30):Ir l m=some (((),()),(less l m,())):=by
 grind[Ir,YT,ZE,Ae,Ag]
theorem Ml{e o:Int}(he: -1000≤e∧e≤1000)(ho: -1000≤o∧o≤1000):Ec e o=some ((D6 e o,()),()):=by
 grind[Ec,D6,AL]
theorem jg{e o:Int}:SH e o=some (((Gd e o,BN e 1 30&&BN o 1 60,()),()),()):=by
 unfold SH Gd;rw[Bd,Bd];simp only[AD];rcases AKr (BN e 1 30)with he|he
 ·rcases AKr (BN o 1 60)with ho|ho
  ·have h1:=Ah.1 he
   have h2:=Ah.1 ho;rw[he,ho,AL (x:=4294967296*e) (by omega) (by omega),AL (by omega) (by omega)];rfl
  simp_all
 simp_all
theorem Km{a b:Int}:L9 a b=some ((max a b,()),()):=by
 unfold L9;grind
theorem Zd{a b:Int}:TG a b=some ((min a b,()),()):=by
 unfold TG;grind
def mP(q:AO×Bool):ADO×(List AJ×List AJ×Unit):=(((((),(),q.1.2.2.1,()),q.2,()),()),(q.1.1,q.1.2.1,()))
theorem Nr{s:AO}(h1:s.1.length≤2^30)(h2:s.2.1.length≤2^30):Er s=some ((((),(),s.2.2.1,()),()),(s.1,s.2.1,())):=by
 unfold Er;rw[ALP (by rw[BX];omega),ALP (by rw[BX];omega)]
theorem mZ{s:AO}{e:AJ}(he:DH e.1):WN s e=some ((takes s e,()),()):=by
 unfold WN takes;rw[E7 he];grind
theorem Wh{a b:AJ}:RF a b=some ((better a b,()),()):=by
 unfold RF better;grind
theorem Fz{s:AO}(h:H.Ak s≤2^30):s.1.length≤2^30∧s.2.1.length≤2^30:=by
 grind[H.AX,H.Aq,H.Ak]
theorem Z0{s:AO}{e:AJ}(hw:H.Ak s≤2^30)(hs:qw s)(he:DH e.1):Pp s e=some (mP (GB s e)):=by
 obtain⟨l1,l2⟩:=Fz hw;unfold Pp GB;rw[show(s.1,s.2.1,s.2.2.1,())=s from rfl,show(e.1,e.2.1,e.2.2.1,e.2.2.2.1,())=e from rfl,Fp hw hs,Nr l1 l2,QC he,mZ he];simp only[AD];rcases AKr (CF s)with h|h
 rotate_left
 ·rw[h];rfl
 rw[h];simp only[AMO,AMh,AMH,AON];cases EZ e with
 |false=>rfl
 |true=>
  cases takes s e with
  |false=>rfl
  |true=>
   simp only[AMO,AMh,AMn];by_cases h20:s.2.1.length=20
   ·rw[show((s.2.1.length:Int)==20)=true by simp[h20],show decide (s.2.1.length≠20)=false by simp[h20]]
    rfl
   ·rw[show((s.2.1.length:Int)==20)=false by grind,show decide (s.2.1.length≠20)=true by simp[h20],AMh,ALP (by rw[BX];omega)]
    rfl
theorem TH{l:List AJ}{e:AJ}(hl:l.length≤2^30):∀(n i:Nat) (b:List AJ),i≤l.length→l.length-i<n→b.length≤2*i+1→
  JI n l true i e.1 e.2.1 e.2.2.1 e.2.2.2.1 b=some (((),()),(b++l.drop i,()))
 |0,i,b,_,h,_=>by omega
 |n+1,i,b,hi,h,hb=>by
  simp only[JI,SG,AB,AMO,AMh];by_cases hc:i<l.length
  ·have c1:(0:Int)≤(i:Int)∧(i:Int)<(l.length:Int):=by omega
   have c2:b.length+1≤Dw:=by rw[BX];omega
   rw[ALP c1.2,ALP c1,ALP c2,AL (by omega) (by omega),show((i:Int)+1)=((i+1:Nat):Int)by omega,Aj hc,drop_cons hc,TH hl n (i+1) _ (by omega) (by omega) (by grind),AM_];rfl
  grind
theorem X9{l:List AJ}{e:AJ}(hl:l.length≤2^30):∀(n i:Nat) (b:List AJ),i≤l.length→l.length-i<n→b.length≤i→
  JI n l false i e.1 e.2.1 e.2.2.1 e.2.2.2.1 b=some (((),()),(b++keep e (l.drop i),()))
 |0,i,b,_,h,_=>by omega
 |n+1,i,b,hi,h,hb=>by
  simp only[JI,SG,AB,ATH,AMy];have c2:b.length+1≤Dw:=by rw[BX];omega
  by_cases hc:i<l.length
  ·have c1:(0:Int)≤(i:Int)∧(i:Int)<(l.length:Int):=by omega
   have c3:(b++[(e.1,e.2.1,e.2.2.1,e.2.2.2.1,())]).length+1≤Dw:=by grind[BX]
   rw[ALP c1.2];simp only[ALP c1,ALP c2,ALP c3];rw[AL (by omega) (by omega),show((i:Int)+1)=((i+1:Nat):Int)by omega,Aj hc,drop_cons hc];rw[show(l[i].1,l[i].2.1,l[i].2.2.1,l[i].2.2.2.1,())=l[i]from rfl,show(e.1,e.2.1,e.2.2.1,e.2.2.2.1,())=e from rfl,Wh];simp only[AD,keep];by_cases hx:l[i].1=e.1
   ·rw[show(l[i].1==e.1)=true by simp_all,ALP hx,AMy,show((better l[i] e).1,(better l[i] e).2.1,(better l[i] e).2.2.1,(better l[i] e).2.2.2.1,())=better l[i] e from rfl,TH hl n (i+1) _ (by omega) (by omega) (by grind)]
    simp
   ·rw[show(l[i].1==e.1)=false by simp_all,ALo hx,AMh]
    by_cases hg:l[i].1>e.1
    ·rw[ALP hg,ALP hg,TH hl n (i+1) _ (by omega) (by omega) (by grind)]
     simp
    ·rw[ALo hg,ALo hg,X9 hl n (i+1) _ (by omega) (by omega) (by simp_all)]
     simp
  ·rw[ALo (by omega),ALP c2,AMo (by omega)]
   rfl
theorem WY{l:List AJ}{e:AJ}(hl:l.length≤2^30):Q5 l e=some (((),()),(keep e l,())):=by
 grind[Q5,X5,X9,Ae,Ag]
theorem T0{l:List AJ}{p:Int}(hl:l.length≤2^30):HV l p=some ((((Ep p l).getD Dt,(Ep p l).isSome,()),()),()):=by
 have key:∀(n i:Nat),i≤l.length→l.length-i<n→Pt n l p i 0 0 false []=some ((((Ep p (l.drop i)).getD Dt,(Ep p (l.drop i)).isSome,()),()),()):=by
  intro n
  induction n with
  |zero=>omega
  |succ n ih=>
   intro i hi h;simp only[Pt,aT,AB];by_cases hc:i<l.length
   ·have c1:(0:Int)≤(i:Int)∧(i:Int)<(l.length:Int):=by omega
    rw[ALP c1.2];simp only[ALP c1];rw[AL (by omega) (by omega),show((i:Int)+1)=((i+1:Nat):Int)by omega,Aj hc,drop_cons hc,ih (i+1) (by omega) (by omega)];simp only[Ep,ATw];cases l[i].1==p<;>rfl
   ·rw[ALo (by omega),AMo (by omega)]
    rfl
 grind[HV,Zk,Ae,Ag]
end Go.M
end
section
namespace Go.M
open Go.M.H (AJ AO As Ab AA CO AN A4 AM AY Az Av BS Ak Af AX Aq)
theorem uV{k:Int}{i:Nat}(hk:0≤k∧k<2^63)(hi:i≤63):(cZ .i64 (k.fdiv (2^(min i 64))) 1==1)=decide ((k/2^i)%2=1):=by
 obtain⟨m,rfl⟩:∃m:Nat,k=m:=⟨k.toNat,by omega⟩;rw[show min i 64=i by omega];have h1:(m:Int).fdiv (2^i)=((m/2^i:Nat):Int):=by
  grind
 have h2:(m:Int)/2^i=((m/2^i:Nat):Int):=by norm_cast
 have h3:m/2^i<2^63:=Nat.lt_of_le_of_lt (Nat.div_le_self _ _) (by omega);rw[h1,h2,show(1:Int)=((1:Nat):Int)from rfl,AD0 h3 (by omega),Nat.and_one_is_mod];rfl
def wB(p:Nat→Bool):Nat→List AJ→List AJ
 |_,[]=>[]
 |i,e::l=>if p i then e::wB p (i+1) l else wB p (i+1) l
theorem sG{k:Int}(hk:0≤k∧k<2^63):∀{l:List AJ} {i:Nat},i+l.length≤60→wB (fun i=>cZ .i64 (k.fdiv (2^(min i 64))) 1==1) i l=Ma k i l
 |[],i,_=>rfl
 |e::l,i,h=>by
  simp only[ANL]at h;have ih:=sG hk (l:=l) (i:=i+1) (by omega);have AC_:=uV hk (i:=i) (by omega);simp only[wB,Ma];simp_all
theorem YG{s:AO}{k:Int}(h1:s.1.length≤200)(h2:s.2.1.length≤20):∀(n i:Nat) (b:List AJ),i≤s.2.1.length→s.2.1.length-i<n→b.length≤200+i→
  JT n k i s.1 s.2.1 s.2.2.1 0 [] [] s.2.2.1 b []=
   some (mP (if BN k 0 1048575&&decide ((Dd b (wB (fun i=>cZ .i64 (k.fdiv (2^(min i 64))) 1==1) i (s.2.1.drop i))).length≤200)then((Dd b (wB (fun i=>cZ .i64 (k.fdiv (2^(min i 64))) 1==1) i (s.2.1.drop i)),[],s.2.2.1,()),true)else(s,false)))
 |0,i,b,_,h,_=>by omega
 |n+1,i,b,hi,h,hb=>by
  simp only[JT,Ss,AB];by_cases hc:i<s.2.1.length
  ·have c1:(0:Int)≤(i:Int)∧(i:Int)<(s.2.1.length:Int):=by omega
   have ih:=fun b hb=>YG (k:=k) h1 h2 n (i+1) b (by omega) (by omega) hb
   rw[ALP c1.2,ALo (by omega)];simp only[ALP c1];rw[AL (by omega) (by omega),show((i:Int)+1)=((i+1:Nat):Int)by omega,Aj hc,drop_cons hc,AMZ];rw[show(s.2.1[i].1,s.2.1[i].2.1,s.2.1[i].2.2.1,s.2.1[i].2.2.2.1,())=s.2.1[i]from rfl,WY (by omega)];simp only[AD,wB];have kl:=Wp (e:=s.2.1[i]) (l:=b);rcases AKr (cZ .i64 (k.fdiv (2^(min i 64))) 1==1)with hb|hb
   ·simp only[hb,AMy,ATK,Dd]
    grind
   grind
  ·rw[ALo (by omega),AMo (by omega),Bd,show(s.1,s.2.1,s.2.2.1,())=s from rfl,Nr (by omega) (by omega)]
   simp only[AD,wB,Dd];cases BN k 0 1048575 with
   |false=>rfl
   |true=>
    simp only[AMO,AMh,AMn];by_cases h200:b.length≤200
    ·rw[ALo (by omega),AR7 h200];rfl
    ·rw[ALP (by omega),ATW h200];rfl
theorem Wg{s:AO}{k:Int}(hw:Ak s≤2^30)(hs:qw s):Mh s k=some (mP (D9 s k)):=by
 obtain⟨l1,l2⟩:=Fz hw;unfold Mh Sw D9;rw[show(s.1,s.2.1,s.2.2.1,())=s from rfl,Fp hw hs];simp only[AD];rcases AKr (CF s)with h|h
 rotate_left
 ·rw[h];rfl
 have Bq:=DL.1 h;rw[h];simp only[AMO,AMh,AMH,AON];rw[ALP (by rw[BX];omega)];have:=YG (k:=k) Bq.nk Bq.nl Ae 0 s.1 (by omega) (Ag (by omega)) (by have:=Bq.nk;omega);rw[show((0:Nat):Int)=0 from rfl,ATN]at this;rw[this];rcases AKr (BN k 0 1048575)with hk|hk
 ·have hk':=Ah.1 hk
  have hn:=Bq.nl;grind[sG]
 simp_all
theorem Yp{s:AO}(hw:Ak s≤2^30)(hs:qw s):OD s=some (mP (Cg s)):=by
 unfold OD Cg;rw[show(s.1,s.2.1,s.2.2.1,())=s from rfl,Wg hw hs];rfl
theorem iP{s:AO}{u:Int}(hw:Ak s≤2^30)(hs:qw s):SR s u=some (mP (Bi s u)):=by
 obtain⟨l1,l2⟩:=Fz hw;unfold SR Bi;rw[show(s.1,s.2.1,s.2.2.1,())=s from rfl,Fp hw hs,Yp hw hs,Nr l1 l2,Bd];simp only[AD];cases CF s with
 |false=>rfl
 |true=>
  simp only[AMO,AMh,AMH,AON,mP];cases(Cg s).2 with
  |false=>rfl
  |true=>
   cases BN u 0 30 with
   |false=>rfl
   |true=>
    simp only[AMO,AMh,AMn,ATK];rw[Km];rfl
theorem lA{s:AO}{ep:Int}(hw:Ak s≤2^30)(hs:qw s):T2 s ep=some (((),()),(F8 s ep,())):=by
 obtain⟨l1,l2⟩:=Fz hw;unfold T2 VN F8;rcases AKr (CF s)with h|h
 ·have key:∀(n i:Nat) (b:List AJ),i≤s.1.length→s.1.length-i<n→b.length≤i→JB n ep i s.1 s.2.1 s.2.2.1 b=some (((),()),(b++(s.1.drop i).filter fun e=>AQ e.1==ep,())):=by
   intro n
   induction n with
   |zero=>omega
   |succ n ih=>
    intro i b hi hn hb;simp only[JB,PU,AB];have c2:b.length+1≤Dw:=by rw[BX];omega
    by_cases hc:i<s.1.length
    ·have c1:(0:Int)≤(i:Int)∧(i:Int)<(s.1.length:Int):=by omega
     rw[ALP c1.2];simp only[ALP c1,ALP c2];rw[AL (by omega) (by omega),show((i:Int)+1)=((i+1:Nat):Int)by omega,Aj hc,drop_cons hc,show(s.1,s.2.1,s.2.2.1,())=s from rfl,Fp hw hs,E7 (hs.1 _ (AMk hc)),h];simp only[AD,AMy,ATQ];cases AQ s.1[i].1==ep with
     |true=>
      simp only[AMy,ATK];rw[ih (i+1) _ (by omega) (by omega) (by simp_all),AM_];rfl
     |false=>
      grind
    grind
  have:=key Ae 0 [] (by omega) (Ag (by omega)) (by simp);simp_all
 ·obtain⟨m,hm⟩:∃m,Ae=m+1:=⟨Ae-1,by have:=bV;omega⟩
  rw[h,hm];simp only[JB,PU,AB];rw[show(s.1,s.2.1,s.2.2.1,())=s from rfl,Fp hw hs,h];simp_all
theorem jR{s:AO}{u:Int}(hw:Ak s≤2^30)(hs:qw s)(hu:DH u):SY s u=some (mP (GI s u)):=by
 obtain⟨l1,l2⟩:=Fz hw;unfold SY UD GI;rw[show(s.1,s.2.1,s.2.2.1,())=s from rfl,Fp hw hs,Nr l1 l2,IH hu];simp only[AD];cases CF s with
 |false=>rfl
 |true=>
  cases BR u with
  |false=>rfl
  |true=>
   simp only[AMO,AMh,AMH,AON,ATK];have key:∀(n i:Nat) (b:List AJ),i≤s.1.length→s.1.length-i<n→b.length≤i→KR n u i s.1 s.2.1 s.2.2.1 0 [] [] s.2.2.1 b s.2.1=some (mP ((b++(s.1.drop i).filter fun e=>decide (e.1>u),s.2.1,s.2.2.1,()),true)):=by
    intro n
    induction n with
    |zero=>omega
    |succ n ih=>
     intro i b hi hn hb;simp only[KR,Us];have c2:b.length+1≤Dw:=by rw[BX];omega
     by_cases hc:i<s.1.length
     ·have c1:(0:Int)≤(i:Int)∧(i:Int)<(s.1.length:Int):=by omega
      rw[AR7 c1.2];simp only[ALP c1,ALP c2,AMy];rw[AL (by omega) (by omega),show((i:Int)+1)=((i+1:Nat):Int)by omega,Aj hc,drop_cons hc];simp only[ATQ];cases decide (s.1[i].1>u)with
      |true=>
       simp only[AMy,ATK];rw[ih (i+1) _ (by omega) (by omega) (by simp_all),AM_];rfl
      |false=>
       grind
     grind[decide_eq_false,List.drop_eq_nil_of_le,mP]
   have:=key Ae 0 [] (by omega) (Ag (by omega)) (by simp);simp_all
end Go.M
end
section
namespace Go.M
open Go.M.H (AJ AO As Ab AA CO AN A4 AM AY Az Av BS Ak Af AX Aa Aq CB BF Ar)
theorem M0{α:Type}{l:List α}{i:Nat}{x d:α}(hi:i<l.length):(l.set i x).getD i d=x:=by
 simp_all
theorem O6{α:Type}{l:List α}{f:α→α}{i:Nat}(hi:i≤l.length):((l.map f).take i++l.drop i).length=l.length:=by
 simp_all
theorem Mt{α:Type}{l:List α}{f:α→α}{i:Nat}{d:α}(hi:i<l.length):((l.map f).take i++l.drop i).getD i d=l[i]:=by
 grind
theorem P4{α:Type}{l:List α}{f:α→α}{i:Nat}{y:α}(hi:i<l.length)(hy:y=f l[i]):((l.map f).take i++l.drop i).set i y=(l.map f).take (i+1)++l.drop (i+1):=by
 have h:((l.map f).take i).length=i:=by grind
 subst hy;rw[AXf _ _ (by omega),h,AXq,drop_cons hi,AXW,ATV (by simp_all),AM_,List.getElem_map];rfl
theorem jH{α:Type}{l:List α}{f:α→α}{i:Nat}(hi:i<l.length)(hf:f l[i]=l[i]):(l.map f).take i++l.drop i=(l.map f).take (i+1)++l.drop (i+1):=by
 grind[List.take_succ_eq_append_getElem,List.append_assoc,drop_cons]
theorem xB{n:Int}:∀{l:AAH},(gS n l).length=l.length+1
 |[]=>rfl
 |a::l=>by
  simp only[gS];split
  ·simp
  ·simp[xB (l:=l)]
theorem UZ{n:Int}{l:AAH}:(JM n l).length≤l.length+1:=by
 grind[JM,xB]
theorem FD{r:AN}{e:Int}(hl:Af CB r.1≤2^30):Ce r e=some (((),()),(Ap r.1 e,())):=by
 have l1:=AX (f:=CB) (l:=r.1);unfold Ce Ap;rw[Bd];simp only[AD];rcases AKr (BN e 1 (r.1.length:Int))with h|h
 ·have h':=Ah.1 h
  have hm:=Aa (f:=CB) (BJ (d:=GP) (l:=r.1) (i:=(e-1).toNat) (by omega));have oH:(r.1.getD (e-1).toNat GP).1.length≤Af CB r.1:=hm;rw[h,AL (by omega) (by omega)];simp only[AMO,AMh,ATK];rw[ALP (by omega),ALP (by grind[BX,GP])];rfl
 simp_all
theorem Rm{r:AN}(hl:Af CB r.1≤2^30):GH r=some ((((),r.2.1,()),()),(r.1,())):=by
 have l1:=AX (f:=CB) (l:=r.1);have key:∀(n i:Nat) (b:List CO),i≤r.1.length→r.1.length-i<n→b.length≤i→Nq n i r.1 r.2.1 0 [] r.2.1 b=some ((((),r.2.1,()),()),(b++r.1.drop i,())):=by
  intro n
  induction n with
  |zero=>omega
  |succ n ih=>
   intro i b hi hn hb;simp only[Nq,Yg,AB];by_cases hc:i<r.1.length
   ·have c1:(0:Int)≤(i:Int)∧(i:Int)<(r.1.length:Int):=by omega
    have hm:=Aa (f:=CB) (AMk hc)
    replace hm:r.1[i].1.length≤Af CB r.1:=hm
    rw[ALP c1.2,ALP c1,AL (by omega) (by omega),show((i:Int)+1)=((i+1:Nat):Int)by omega,Aj hc,ALP (by rw[BX];omega),ALP (by rw[BX];omega),drop_cons hc,ih (i+1) _ (by omega) (by omega) (by simp_all),AM_];rfl
   grind
 grind[GH,X6,Ae,Ag]
def pkR(q:AN×Bool):AFb×(List CO×Unit):=(((((),q.1.2.1,()),q.2,()),()),(q.1.1,()))
section
variable{c:CD} {r:AN} (hc:c.1.length≤2^40) (hl:Af CB r.1≤2^30) (ht:DH r.2.1)
include hc hl ht
theorem nO{ns:AAH}(hn:ns.length≤2^30):PA c r ns=some (((((),(Ig c r ns).1.2.1,()),(Ig c r ns).2.1,(Ig c r ns).2.2,()),()),((Ig c r ns).1.1,())):=by
 have l1:=AX (f:=CB) (l:=r.1);unfold PA Ig;rw[show(c.1,c.2.1,())=c from rfl,show(r.1,r.2.1,())=r from rfl,Po hc hl ht,Rm hl,E5 hc (by omega)];simp only[AD];cases Mk c r with
 |false=>rfl
 |true=>
  cases holds c ns with
  |false=>rfl
  |true=>
   simp only[AMO,AMh,AMH,AON,AMn];by_cases h30:r.1.length=30
   ·simp_all
   ·rw[show((r.1.length:Int)==30)=false by grind,show decide (r.1.length≠30)=true by simp[h30],AMh,ALP (by rw[BX];omega),ALP (by rw[BX];omega)]
    simp
theorem kH{b last:Int}:T1 c r b last=some (pkR (Mo c r b last)):=by
 have l1:=AX (f:=CB) (l:=r.1);unfold T1 Mo;rw[show(c.1,c.2.1,())=c from rfl,show(r.1,r.2.1,())=r from rfl,Po hc hl ht,Rm hl,NS (by omega)];simp only[AD];rcases AKr (Mk c r)with hr|hr
 rotate_left
 ·rw[hr];rfl
 rw[hr];simp only[AMO,AMh,AMH,AON];by_cases h1:b=r.1.length
 rotate_left
 ·rw[show(b !=(r.1.length:Int))=true by simp_all,show decide (b=(r.1.length:Int))=false by simp_all]
  rfl
 rw[show(b !=(r.1.length:Int))=false by simp_all,show decide (b=(r.1.length:Int))=true by simp_all];simp only[AMh,AMn];by_cases h2:A8 r.1=0
 ·rw[show(A8 r.1==0)=true by simp_all,show decide (A8 r.1≠0)=false by simp_all]
  rfl
 rw[show(A8 r.1==0)=false by simp_all,show decide (A8 r.1≠0)=true by simp_all];simp only[AMh,AMn];by_cases h3:b=A8 r.1
 ·rw[show(b==A8 r.1)=true by simp_all,show decide (b≠A8 r.1)=false by simp_all]
  rfl
 rw[show(b==A8 r.1)=false by simp_all,show decide (b≠A8 r.1)=true by simp_all,Bd];simp only[AMh,AMn,AD];cases BN last 0 60 with
 |false=>rfl
 |true=>
  have Bq:=JE.1 hr;have AK2:0<r.1.length:=by
   rcases AXa r.1.length with hz|hz
   ·exact absurd (by unfold A8;rw[hz];rfl) h2
   omega
  obtain⟨k,k1,k2,k3,k4⟩:=Nu Bq AK2;simp only[AMO,AMh,ATK];rw[k2,AL (by omega) (by omega),show((k:Int)+1-1)=(k:Int)by omega,ALP (by omega),ALP (by simp_all),AMZ];unfold pkR Ga;simp_all
theorem mg{p:Int}(hp:DH p):Vs c r p=some (pkR (MV c r p)):=by
 unfold Vs MV;rw[show(c.1,c.2.1,())=c from rfl,show(r.1,r.2.1,())=r from rfl,Po hc hl ht,Rm hl,IH hp,E7 hp];simp only[AD];cases Mk c r with
 |false=>rfl
 |true=>
  cases BR p with
  |false=>rfl
  |true=>
   simp only[AMO,AMh,AMH,AON,AMn];by_cases h:AQ p≤r.1.length
   ·rw[show decide (AQ p>(r.1.length:Int))=false by simp_all,show decide (AQ p≤(r.1.length:Int))=true by simp_all,AMh,Km]
    rfl
   ·rw[show decide (AQ p>(r.1.length:Int))=true by simp_all,show decide (AQ p≤(r.1.length:Int))=false by simp_all]
    rfl
end
theorem SF{w:AM}(hl:Af BF w.2.1≤2^30):FU w=some (((w.1,(),()),()),(w.2.1,())):=by
 have l1:=AX (f:=BF) (l:=w.2.1);have key:∀(n i:Nat) (b:List A4),i≤w.2.1.length→w.2.1.length-i<n→b.length≤i→OQ n i w.1 w.2.1 0 [] w.1 b=some (((w.1,(),()),()),(b++w.2.1.drop i,())):=by
  intro n
  induction n with
  |zero=>omega
  |succ n ih=>
   intro i b hi hn hb;simp only[OQ,YX,AB];by_cases hc:i<w.2.1.length
   ·have c1:(0:Int)≤(i:Int)∧(i:Int)<(w.2.1.length:Int):=by omega
    have hm:w.2.1[i].1.length+w.2.1[i].2.1.length≤Af BF w.2.1:=Aa (f:=BF) (AMk hc);rw[ALP c1.2,ALP c1,AL (by omega) (by omega),show((i:Int)+1)=((i+1:Nat):Int)by omega,Aj hc,ALP (by rw[BX];omega),ALP (by rw[BX];omega),drop_cons hc,ih (i+1) _ (by omega) (by omega) (by simp_all),AM_];rfl
   grind
 grind[FU,Yf,Ae,Ag]
theorem YH{α:Type}{f:α→Nat}{l m:List α}:Af f (l++m)=Af f l+Af f m:=by
 induction l with
 |nil=>simp[Af]
 |cons a l ih=>grind[Af]
theorem mR{n:Int}{x:A4}(h:x.2.2.1=true):Cx n x=x:=by
 obtain⟨a,b,d,e⟩:=x;simp only at h;subst h;rfl
def pkW(q:AM×Bool):AFJ×(List A4×Unit):=((((q.1.1,(),()),q.2,()),()),(q.1.2.1,()))
section
variable{c:CD} {w:AM} (hc:c.1.length≤2^40) (hl:Af BF w.2.1≤2^20)
include hc hl
theorem jQ{d:ACD}(hd:d.length≤2^20):Lb c w d=some (((((CI c w d).1.1,(),()),(CI c w d).2.1,(CI c w d).2.2,()),()),((CI c w d).1.2.1,())):=by
 have l1:=AX (f:=BF) (l:=w.2.1);unfold Lb CI;rw[show(c.1,c.2.1,())=c from rfl,show(w.1,w.2.1,())=w from rfl,LO hc (by omega),SF (by omega)];simp only[AD];cases FK c w with
 |false=>rfl
 |true=>
  simp only[AMO,AMh,AMH,AON];rw[ALP (by rw[BX];omega),LO hc (by
   grind[Af,BF,YH,List.length_nil])]
  grind
theorem jo{o n:Int}:Fg c w o n=some (pkW (RI c w o n)):=by
 have l1:=AX (f:=BF) (l:=w.2.1);unfold Fg RI;rw[show(c.1,c.2.1,())=c from rfl,show(w.1,w.2.1,())=w from rfl,LO hc (by omega),SF (by omega),Bd,Bd];simp only[AD];rcases AKr (FK c w)with hw|hw
 rotate_left
 ·rw[hw];rfl
 have zt:=Gh (IX.1 hw).cfg;rw[hw,AL (x:=(c.1.length:Int)-1) (by omega) (by omega)];simp only[AMO,AMh,AMH,AON];rcases AKr (BN o 1 (w.2.1.length:Int))with ho|ho
 rotate_left
 ·rw[ho];rfl
 have xG:=Ah.1 ho;rw[ho];cases BN n 0 ((c.1.length:Int)-1)with
 |false=>rfl
 |true=>
  have hi:(o-1).toNat<w.2.1.length:=by omega
  have hm:(w.2.1.getD (o-1).toNat LR).1.length+(w.2.1.getD (o-1).toNat LR).2.1.length≤Af BF w.2.1:=Aa (f:=BF) (BJ (d:=LR) hi);simp only[AMO,AMh,AMn];rw[AL (by omega) (by omega),ALP (by omega)]
  show cond (w.2.1.getD (o-1).toNat LR).2.2.1 _ _=_
  cases(w.2.1.getD (o-1).toNat LR).2.2.1 with
  |true=>rfl
  |false=>
   simp only[AMh,ATH,ATK];rw[ALP (by omega),show(w.2.1.getD (o-1).toNat ([],[],false,())).2.1=(w.2.1.getD (o-1).toNat LR).2.1 from rfl,M8 (by omega)];simp only[AD];rw[ALP (by omega)];have hg:∀x:A4,(w.2.1.set (o-1).toNat x).getD (o-1).toNat ([],[],false,())=x:=fun x=>M0 hi
   rw[ALP (by grind),hg,E5 hc (by
    grind[UZ,LR])]
   simp only[AD];rw[ALP (by grind),AXp];rfl
theorem dK{n:Int}:Nd c w n=some (pkW (CE c w n)):=by
 have l1:=AX (f:=BF) (l:=w.2.1);unfold Nd Qo CE;rw[show(c.1,c.2.1,())=c from rfl,show(w.1,w.2.1,())=w from rfl,LO hc (by omega),SF (by omega)];simp only[AD];cases FK c w with
 |false=>rfl
 |true=>
  simp only[AMO,AMh,AMH,AON];have key:∀(k i:Nat),i≤w.2.1.length→w.2.1.length-i<k→Hs k n i 0 [] w.1 ((w.2.1.map (Cx n)).take i++w.2.1.drop i)=some (pkW ((w.1,w.2.1.map (Cx n),()),true)):=by
   intro k
   induction k with
   |zero=>omega
   |succ k ih=>
    intro i hi hk;have hlen:((w.2.1.map (Cx n)).take i++w.2.1.drop i).length=w.2.1.length:=O6 hi;simp only[Hs,Q_,AB,hlen];by_cases Dh:i<w.2.1.length
    ·have c1:(0:Int)≤(i:Int)∧(i:Int)<(w.2.1.length:Int):=by omega
     have hm:w.2.1[i].1.length+w.2.1[i].2.1.length≤Af BF w.2.1:=Aa (f:=BF) (AMk Dh);have hg:((w.2.1.map (Cx n)).take i++w.2.1.drop i).getD ((i:Int).toNat) ([],[],false,())=w.2.1[i]:=Mt Dh;rw[ALP c1.2];simp only[ALP c1,hg];rw[AL (by omega) (by omega),show((i:Int)+1)=((i+1:Nat):Int)by omega];rcases AKr (w.2.1[i].2.2.1)with hd|hd
     ·rw[hd]
      simp only[AMO,AMh];grind[jH,mR]
     ·rw[hd]
      simp only[ATH,AMy];rw[JU (by omega) (by simp)];grind[AD,Int.toNat_natCast,P4,Cx]
    ·rw[ALo (by omega),AMo (by omega)]
     have:i=w.2.1.length:=by omega
     subst this;rw[AM3,ATT (by simp)];rfl
  have:=key Ae 0 (by omega) (Ag (by omega));simp_all
end
end Go.M
end
section
namespace Go.M
open Go.M.H (AJ AO As Ab AA CO AN A4 AM AY Az Av BS Ak Af AX Aa Aq CB BF Ar CL C9)
abbrev PkM:Type:=AEP×(List Int×List AJ×List AAH×Unit)
def ij(q:As×Bool):PkM:=((((q.1.1,q.1.2.1,(),(),q.1.2.2.2.2.1,(),()),q.2,()),()),(q.1.2.2.1,q.1.2.2.2.1,q.1.2.2.2.2.2.1,()))
section
variable{m:As} (hm:CL m≤2^20)
include hm
theorem I2:m.2.2.1.length≤2^20∧m.2.2.2.1.length≤2^20∧m.2.2.2.2.2.1.length≤2^20∧ ∀l∈m.2.2.2.2.2.1,l.length≤2^20:=by
 have l1:=AX (f:=Aq) (l:=m.2.2.2.1);have l2:=AX (f:=C9) (l:=m.2.2.2.2.2.1);have oH:m.2.2.1.length+(Af Aq m.2.2.2.1+(Af C9 m.2.2.2.2.2.1+0))≤2^20:=by
  grind[CL]
 refine⟨by omega,by omega,by omega,fun l hl=> ?_⟩;have:l.length≤Af C9 m.2.2.2.2.2.1:=Aa (f:=C9) hl;omega
theorem Lt:ET m=some (((m.1,m.2.1,(),(),m.2.2.2.2.1,(),()),()),(m.2.2.1,m.2.2.2.1,m.2.2.2.2.2.1,())):=by
 obtain⟨h1,h2,h3,h4⟩:=I2 hm;have key:∀(n i:Nat) (b:List AAH),i≤m.2.2.2.2.2.1.length→m.2.2.2.2.2.1.length-i<n→b.length≤i→
   Hz n i m.1 m.2.1 m.2.2.1 m.2.2.2.1 m.2.2.2.2.1 m.2.2.2.2.2.1 0 0 false [] [] [] m.1 m.2.1 m.2.2.2.2.1 m.2.2.1 m.2.2.2.1 b=some (((m.1,m.2.1,(),(),m.2.2.2.2.1,(),()),()),(m.2.2.1,m.2.2.2.1,b++m.2.2.2.2.2.1.drop i,())):=by
  intro n
  induction n with
  |zero=>omega
  |succ n ih=>
   intro i b hi hn hb;simp only[Hz,Rn,AB];by_cases hc:i<m.2.2.2.2.2.1.length
   ·have c1:(0:Int)≤(i:Int)∧(i:Int)<(m.2.2.2.2.2.1.length:Int):=by omega
    have hq:=h4 _ (AMk hc);rw[ALP c1.2,ALP c1,AL (by omega) (by omega),show((i:Int)+1)=((i+1:Nat):Int)by omega,Aj hc,ALP (by rw[BX];omega),ALP (by rw[BX];omega),drop_cons hc,ih (i+1) _ (by omega) (by omega) (by simp_all),AM_];rfl
   grind
 unfold ET NX;rw[ALP (by rw[BX];omega),ALP (by rw[BX];omega)];grind[Ae,Ag]
end
theorem dV{l s:AAH}(hl:l.length≤2^20)(hs:s.length≤2^20):Kb l s=some (((),()),(l.filter s.contains,())):=by
 unfold Kb;rw[JU (by omega) (by omega)];simp only[AD];have hll:(less l s).length≤l.length:=ASR _ _;rw[JU (by omega) (by omega)];grind[AD,less,List.filter_congr]
theorem dp{c:CD}{s l:AAH}(hc:c.1.length≤2^40)(hl:l.length≤2^20)(hs:s.length≤2^20):KP c s l=some ((Ji c s l,()),()):=by
 unfold KP Ji;rw[show(c.1,c.2.1,())=c from rfl,E5 (l:=s) hc (by omega),G4 (l:=l) hc (by omega),JU (l:=l) (m:=s) (by omega) (by omega),JU (l:=s) (m:=l) (by omega) (by omega)];simp only[AD];rcases AKr (holds c s)with h|h
 rotate_left
 ·simp_all
 rw[h];cases Ay c l with
 |false=>rfl
 |true=>
  simp only[AMO,AMh,AMn];have hn:Ay c (less s l)=true:=K5 _ (N7 h);by_cases ha:(less l s).length>0
  ·rw[show decide (((less l s).length:Int)>0)=true by simp_all]
   have:l.all s.contains=false:=by
    rw[ATi];grind[List.all_eq_true,less,List.filter_eq_nil_iff]
   grind
  ·rw[ATW (show¬((less l s).length:Int)>0 by omega)]
   have:l.all s.contains=true:=by
    grind[less,List.length_eq_zero_iff,List.filter_eq_nil_iff,List.all_eq_true]
   rw[this];simp only[AMh,AMn];rw[cx hn];simp only[AD,holds,hn,AMn];grind[aY,less,decide_eq_true,decide_eq_false]
section
variable{c:CD} {m:As} (hc:c.1.length≤2^40) (hm:CL m≤2^20) (h:rE m.2.2.2.1)
include hc hm h
theorem mv{o n:Int}:Hi c m o n=some (ij (YV c m o n)):=by
 obtain⟨h1,h2,h3,h4⟩:=I2 hm;unfold Hi YV;rw[show(c.1,c.2.1,())=c from rfl,show(m.1,m.2.1,m.2.2.1,m.2.2.2.1,m.2.2.2.2.1,m.2.2.2.2.2.1,())=m from rfl,JN hc (by omega) h,Lt hm,Bd,Bd];simp only[AD];rcases AKr (G9 c m)with hw|hw
 rotate_left
 ·rw[hw];rfl
 have zt:=Gh (HS.1 hw).cfg;rw[hw,AL (x:=(c.1.length:Int)-1) (by omega) (by omega)];simp only[AMO,AMh,AMH,AON];rcases AKr (BN o 1 (m.2.2.2.2.2.1.length:Int))with ho|ho
 rotate_left
 ·rw[ho];rfl
 have xG:=Ah.1 ho;rw[ho];cases BN n 0 ((c.1.length:Int)-1)with
 |false=>rfl
 |true=>
  have hi:(o-1).toNat<m.2.2.2.2.2.1.length:=by omega
  have hq:=h4 _ (BJ (d:=([]:AAH)) hi);simp only[AMO,AMh,AMn,ATK];rw[AL (by omega) (by omega),ALP (by omega),M8 (by omega)];simp only[AD];rw[ALP (by omega)];rfl
theorem fo{n:Int}:QH c m n=some (ij (CA c m n)):=by
 obtain⟨h1,h2,h3,h4⟩:=I2 hm;unfold QH Sj CA;rw[show(c.1,c.2.1,())=c from rfl,show(m.1,m.2.1,m.2.2.1,m.2.2.2.1,m.2.2.2.2.1,m.2.2.2.2.2.1,())=m from rfl,JN hc (by omega) h,Lt hm];simp only[AD];cases G9 c m with
 |false=>rfl
 |true=>
  simp only[AMO,AMh,AMH,AON];have key:∀(k i:Nat),i≤m.2.2.2.2.2.1.length→m.2.2.2.2.2.1.length-i<k→Jd k n i 0 0 false [] [] [] m.1 m.2.1 m.2.2.2.2.1 m.2.2.1 m.2.2.2.1 ((m.2.2.2.2.2.1.map (fun l=>less l [n])).take i++m.2.2.2.2.2.1.drop i)=
    some (ij ((m.1,m.2.1,m.2.2.1,m.2.2.2.1,m.2.2.2.2.1,m.2.2.2.2.2.1.map (fun l=>less l [n]),()),true)):=by
   intro k
   induction k with
   |zero=>omega
   |succ k ih=>
    intro i hi hk;have hlen:=O6 (f:=fun l=>less l [n]) hi;simp only[Jd,Sz,AB,hlen];by_cases Dh:i<m.2.2.2.2.2.1.length
    ·have c1:(0:Int)≤(i:Int)∧(i:Int)<(m.2.2.2.2.2.1.length:Int):=by omega
     have hq:=h4 _ (AMk Dh);have hg:((m.2.2.2.2.2.1.map (fun l=>less l [n])).take i++m.2.2.2.2.2.1.drop i).getD ((i:Int).toNat) []=m.2.2.2.2.2.1[i]:=Mt Dh;rw[ALP c1.2];simp only[ALP c1,hg];rw[AL (by omega) (by omega),show((i:Int)+1)=((i+1:Nat):Int)by omega,JU (by omega) (by simp)];simp only[AD];rw[AMZ,P4 Dh rfl];grind
    ·rw[ALo (by omega),AMo (by omega)]
     have:i=m.2.2.2.2.2.1.length:=by omega
     subst this;rw[AM3,ATT (by simp)];rfl
  have:=key Ae 0 (by omega) (Ag (by omega));simp_all
theorem iv:SC c m=some ((PF c m,()),()):=by
 obtain⟨h1,h2,h3,h4⟩:=I2 hm;unfold SC Ub PF;rw[show(c.1,c.2.1,())=c from rfl,show(m.1,m.2.1,m.2.2.1,m.2.2.2.1,m.2.2.2.2.1,m.2.2.2.2.2.1,())=m from rfl,JN hc (by omega) h];simp only[AD];cases G9 c m with
 |false=>rfl
 |true=>
  rcases AKr m.2.2.2.2.1 with hp|hp
  rotate_left
  ·simp_all
  have key:∀(k i:Nat),i≤m.2.2.2.2.2.1.length→m.2.2.2.2.2.1.length-i<k→KW k i c.1 c.2.1 m.1 m.2.1 m.2.2.1 m.2.2.2.1 m.2.2.2.2.1 m.2.2.2.2.2.1=some (((m.2.2.2.2.2.1.drop i).all (holds c),()),()):=by
   intro k
   induction k with
   |zero=>omega
   |succ k ih=>
    intro i hi hk;simp only[KW,Ud,AB];by_cases Dh:i<m.2.2.2.2.2.1.length
    ·have c1:(0:Int)≤(i:Int)∧(i:Int)<(m.2.2.2.2.2.1.length:Int):=by omega
     have hq:=h4 _ (AMk Dh);rw[ALP c1.2,ALP c1,AL (by omega) (by omega),show((i:Int)+1)=((i+1:Nat):Int)by omega,Aj Dh,drop_cons Dh,show(c.1,c.2.1,())=c from rfl,E5 hc (by omega),ih (i+1) (by omega) (by omega)];simp only[AD,ATl];cases holds c m.2.2.2.2.2.1[i]<;>rfl
    grind
  have:=key Ae 0 (by omega) (Ag (by omega));simp_all
omit hc h in
theorem YZ{o:Int}:Ew m o=some ((((De m o).getD Dt,(De m o).isSome,()),()),()):=by
 obtain⟨h1,h2,h3,h4⟩:=I2 hm;unfold Ew De;rw[jg];simp only[AD];rw[T0 (by omega)];simp only[AD];cases m.2.2.2.2.1 with
 |false=>rfl
 |true=>
  simp only[AMO,AMh,AMn];rcases AKr (BN m.2.1 1 30)with he|he
  rotate_left
  ·rw[he];rfl
  rcases AKr (BN o 1 60)with ho|ho
  rotate_left
  ·rw[he,ho];rfl
  have hp:Gd m.2.1 o=D6 m.2.1 o:=by unfold Gd;rw[he,ho];rfl
  rw[he,ho,hp];simp only[ATh,AMO,AMh,AMn];by_cases hl:o≤m.2.2.2.2.2.1.length
  ·rw[show decide (o>(m.2.2.2.2.2.1.length:Int))=false by simpa using hl,show decide (o≤(m.2.2.2.2.2.1.length:Int))=true by simpa using hl]
   simp only[AMh,ATK];cases Ep (D6 m.2.1 o) m.2.2.2.1<;>rfl
  ·rw[show decide (o>(m.2.2.2.2.2.1.length:Int))=true by simp;omega,show decide (o≤(m.2.2.2.2.2.1.length:Int))=false by simp;omega]
   rfl
theorem lG{s:AAH}(hs:s.length≤2^20):Tu c m s=some (ij (IP c m s)):=by
 obtain⟨h1,h2,h3,h4⟩:=I2 hm;unfold Tu VS IP;rw[show(c.1,c.2.1,())=c from rfl,show(m.1,m.2.1,m.2.2.1,m.2.2.2.1,m.2.2.2.2.1,m.2.2.2.2.2.1,())=m from rfl,JN hc (by omega) h,Lt hm];simp only[AD];rcases AKr (G9 c m)with Bq|Bq
 rotate_left
 ·rw[Bq];rfl
 have hmo:=HS.1 Bq;rw[Bq];rcases AKr m.2.2.2.2.1 with hp|hp
 ·rw[hp]
  simp only[AMO,AMh,AMy,ATP,AMH,AON,ij,hp]
 have hn:=hmo.n;rw[hp]at hn;have hw0:m.2.2.2.2.2.1=[]:=AXY.1 (by simp_all);rw[hp];simp only[AMO,ATH,AMh,AMH,AON,AMn];rw[dV (by omega) hs];have xw:(m.2.2.1.filter s.contains).length≤m.2.2.1.length:=ASR _ _;simp only[AD];rw[dp hc (by omega) hs];simp only[AD];cases Ji c s (m.2.2.1.filter s.contains)with
 |false=>simp[ij,hp]
 |true=>
  simp only[AMO,AMh,ATK];have hlb:=Gj (l:=m.2.2.2.1);have key:∀(k i:Nat),(i:Int)≤LF m.2.2.2.1→(LF m.2.2.2.1).toNat-i<k→K6 k i m.1 m.2.1 m.2.2.1 m.2.2.2.1 false m.2.2.2.2.2.1 0 0 false [] [] [] m.1 m.2.1 true m.2.2.1 m.2.2.2.1 (List.replicate i [])=
    some (ij ((m.1,m.2.1,m.2.2.1,m.2.2.2.1,true,List.replicate (LF m.2.2.2.1).toNat [],()),true)):=by
   intro k
   induction k with
   |zero=>omega
   |succ k ih=>
    intro i hi hk;simp only[K6,VG];rw[show Q8 (m.1,m.2.1,m.2.2.1,m.2.2.2.1,false,m.2.2.2.2.2.1,())=some ((LF m.2.2.2.1,()),())from dR (m:=(m.1,m.2.1,m.2.2.1,m.2.2.2.1,false,m.2.2.2.2.2.1,())) (by grind) h];simp only[AD,AB];by_cases Dh:(i:Int)<LF m.2.2.2.1
    ·rw[ALP Dh,ALP (by rw[BX,AWX];omega),AL (by omega) (by omega),show((i:Int)+1)=((i+1:Nat):Int)by omega,←List.replicate_succ']
     exact ih (i+1) (by omega) (by omega)
    ·rw[ALo Dh]
     have:i=(LF m.2.2.2.1).toNat:=by omega
     rw[this];rfl
  have:=key Ae 0 (by omega) (Ag (by omega));simp_all
theorem lY{n:Int}{l:List AJ}(hl:l.length≤2^20)(PY:rE l)(hw:Af Aq l≤2^20):T4 c m n l=some (ij (K3 c m n l)):=by
 obtain⟨h1,h2,h3,h4⟩:=I2 hm;unfold T4 VY K3;rw[show(c.1,c.2.1,())=c from rfl,show(m.1,m.2.1,m.2.2.1,m.2.2.2.1,m.2.2.2.2.1,m.2.2.2.2.2.1,())=m from rfl,JN hc (by omega) h,Lt hm];simp only[AD];rw[M8 (by omega)];simp only[AD];rcases AKr (G9 c m)with Bq|Bq
 rotate_left
 ·rw[Bq];rfl
 rw[Bq];simp only[AMO,AMh,AMH,AON];have AUJ:∀(e:AJ) (k:List AJ),Af Aq (keep e k)≤Af Aq k+(1+Aq e):=by
  intro e k
  induction k with
  |nil=>simp[keep,Af]
  |cons x k ih=>
   grind[keep,Af,better]
 have key:∀(k i:Nat) (b:List AJ),i≤l.length→l.length-i<k→b.length≤2^20+i→rE b→Af Aq b+Af Aq (l.drop i)≤2^21→
   Lo k l i c.1 c.2.1 m.1 m.2.1 m.2.2.1 m.2.2.2.1 m.2.2.2.2.1 m.2.2.2.2.2.1 0 0 false [] [] [] m.1 m.2.1 m.2.2.2.2.1 (JM n m.2.2.1) b m.2.2.2.2.2.1=
   some (ij (if !m.2.2.2.2.1&&G9 c (m.1,m.2.1,JM n m.2.2.1,Dd b ((l.drop i).filter fun e=>AQ e.1==m.2.1),m.2.2.2.2.1,m.2.2.2.2.2.1,())then
    ((m.1,m.2.1,JM n m.2.2.1,Dd b ((l.drop i).filter fun e=>AQ e.1==m.2.1),m.2.2.2.2.1,m.2.2.2.2.2.1,()),true)else(m,false))):=by
  intro k
  induction k with
  |zero=>omega
  |succ k ih=>
   intro i b hi hk hb hbi hbw;simp only[Lo,VX,AB];by_cases Dh:i<l.length
   ·have c1:(0:Int)≤(i:Int)∧(i:Int)<(l.length:Int):=by omega
    rw[ALP c1.2];simp only[ALP c1];rw[AL (by omega) (by omega),show((i:Int)+1)=((i+1:Nat):Int)by omega,Aj Dh,drop_cons Dh,show(l[i].1,l[i].2.1,l[i].2.2.1,l[i].2.2.2.1,())=l[i]from rfl,E7 (PY _ (AMk Dh)),WY (by omega)];rw[drop_cons Dh]at hbw;simp only[Af]at hbw;simp only[AD,ATQ];rcases AKr (AQ l[i].1==m.2.1)with he|he
    ·simp only[he,AMy,ATK,Dd]
     have:=Wp (e:=l[i]) (l:=b);have hwk:=AUJ l[i] b;exact ih (i+1) _ (by omega) (by omega) (by omega) (fun x hx=>by
      rcases dt hx with rfl|hx
      ·exact PY _ (AMk Dh)
      ·exact hbi x hx) (by omega)
    grind
   ·rw[ALo (by omega),AMo (by omega),show(m.1,m.2.1,m.2.2.1,m.2.2.2.1,m.2.2.2.2.1,m.2.2.2.2.2.1,())=m from rfl,show(c.1,c.2.1,())=c from rfl,Lt hm]
    simp only[AXm,Dd];rcases AKr m.2.2.2.2.1 with hp|hp
    ·grind[ij]
    rw[AMo (by omega)]at hbw;simp only[Af]at hbw;have lR:=UZ (n:=n) (l:=m.2.2.1);have hb2:=AX (f:=Aq) (l:=b);rw[JN (m:=(m.1,m.2.1,JM n m.2.2.1,b,m.2.2.2.2.1,m.2.2.2.2.2.1,())) hc (by
     grind[CL]) hbi]
    simp only[AD];rw[hp];simp only[AMh,ATH,AMn];grind[G9,JM,ij]
 have hsw:Af Aq m.2.2.2.1≤2^20:=by
  grind[CL]
 have:=key Ae 0 m.2.2.2.1 (by omega) (Ag (by omega)) (by omega) h (by grind);simp_all
end
end Go.M
end
section
namespace Go.M
open Go.M.H (AJ AO As Ab AA CO AN A4 AM AY Az Av BS Ak CL Af AX Aa Aq CB)
theorem A5{α:Type}{b:Bool}{x y:α}:cond (!b) x y=cond b y x:=by simp_all
theorem Cv{α:Type}{a b:Int}{x y:α}:cond (a !=b) x y=if a=b then y else x:=by
 simp_all
theorem DI{α:Type}{a b:Int}{x y:α}:cond (a==b) x y=if a=b then x else y:=by
 simp_all
theorem lg{c:CD}{l:List Av}(hc:c.1.length≤2^40)(hl:l.length≤2^20):
  ZN c l=some ((((),Ay c (l.map fun a=>a.1),()),()),(l.map (fun a=>a.1),())):=by
 have key:∀(n i:Nat) (b:AAH),i≤l.length→l.length-i<n→b.length=i→
   LB n l i c.1 c.2.1 b=some ((((),Ay c (b++(l.drop i).map fun a=>a.1),()),()),(b++(l.drop i).map (fun a=>a.1),())):=by
  intro n
  induction n with
  |zero=>omega
  |succ n ih=>
   intro i b hi h hb;simp only[LB,Vk,AB];by_cases Zf:i<l.length
   ·have c1:(0:Int)≤(i:Int)∧(i:Int)<(l.length:Int):=by omega
    have c2:b.length+1≤Dw:=by rw[BX];omega
    rw[ALP c1.2,ALP c1,ALP c2,AL (by omega) (by omega),show((i:Int)+1)=((i+1:Nat):Int)by omega,Aj Zf,ih (i+1) _ (by omega) (by omega) (by simp_all),drop_cons Zf];grind
   ·rw[ALo (by omega),AMo (by omega),AXU,AM3,show(c.1,c.2.1,())=c from rfl,G4 hc (by omega)]
    rfl
 have:=key Ae 0 [] (by omega) (Ag (by omega)) rfl;rw[show((0:Nat):Int)=0 from rfl,ATN,ATL]at this;exact this
theorem U2{r:AY}(h:r.2.2.1.length≤2^30):CR r=some (((r.1,r.2.1,(),()),()),(r.2.2.1,())):=by
 unfold CR;rw[ALP (by rw[BX];omega)]
theorem bn{r:AY}{e:Az}{x y:Int}(h:r.2.2.1.length≤2^30):Ia r e x y=some (((x,y,(),()),()),(r.2.2.1++[e],())):=by
 unfold Ia;rw[show(r.1,r.2.1,r.2.2.1,())=r from rfl,U2 h];simp only[AD];rw[ALP (by rw[BX];omega)]
theorem nN{s:AAH}{p:Int}{l:List Av}(hs:s.length≤2^20)(hl:l.length≤2^20)(PY:∀a∈l,DH a.2.2.1):
  MR s p l=some ((HP p (Fb s p none l),()),()):=by
 have key:∀(n i:Nat) (b:Option AJ),i≤l.length→l.length-i<n→
   Ms n s p l b.isSome i 0 0 [] (b.getD Dt).1 (b.getD Dt).2.1 (b.getD Dt).2.2.1 (b.getD Dt).2.2.2.1=some ((HP p (Fb s p b (l.drop i)),()),()):=by
  intro n
  induction n with
  |zero=>omega
  |succ n ih=>
   intro i b hi h;simp only[Ms,Wc,AB,A5];by_cases Zf:i<l.length
   ·have c1:(0:Int)≤(i:Int)∧(i:Int)<(l.length:Int):=by omega
    rw[ALP c1.2,ALP c1,AL (by omega) (by omega),show((i:Int)+1)=((i+1:Nat):Int)by omega,Aj Zf,drop_cons Zf];have ih':=fun b=>ih (i+1) b (by omega) (by omega)
    simp only[ih'];rw[KQ (by omega),show(l[i].2.2.1,l[i].2.2.2.1,l[i].2.2.2.2.1,l[i].2.2.2.2.2.1,())=U_ l[i]from rfl];rw[QC (e:=U_ l[i]) (PY _ (AMk Zf))];simp only[AD,Fb];cases h1:l[i].2.1 with
    |false=>simp
    |true=>
     cases h2:s.contains l[i].1 with
     |false=>simp
     |true=>
      cases h3:EZ (U_ l[i])with
      |false=>simp
      |true=>
       simp only[AMy,AMn];by_cases h4:l[i].2.2.1=p
       ·rw[Cv,ALP h4,ALP (by show((U_ l[i]).1==p)=true;rw[ATa];exact h4)]
        cases b with
        |none=>
         simp only[ATX,AMh,Wh,AD,Option.getD_none];have:=ih' (some (U_ l[i]));simp only[ATY,ATb]at this;have hb:better (U_ l[i]) (U_ l[i])=U_ l[i]:=by unfold better;simp_all
         simp_all
        |some x=>
         simp only[ATY,AMy,ATb];rw[show(x.1,x.2.1,x.2.2.1,x.2.2.2.1,())=x from rfl];grind[Wh,AD,better,U_,Option.isSome_some]
       ·rw[Cv,ALo h4,ALo (by show¬((U_ l[i]).1==p)=true;rw[ATa];exact h4)]
   ·rw[ALo (by omega),AMo (by omega)]
    simp only[Fb];cases b with
    |none=>rfl
    |some x=>
     simp only[ATY,AMy,ATb,HP];grind
 exact key Ae 0 none (by omega) (Ag (by omega))
theorem iV{x:Int}:0≤A6 x∧A6 x≤60:=by
 cases h:BR x with
 |true=>have:=(CJ h).2.1;omega
 |false=>unfold A6;simp_all
def zm(q:AY×Int):YP:=((((q.1.1,q.1.2.1,(),()),q.2,()),()),(q.1.2.2.1,()))
theorem iA{c:CD}{g:AN}{sure:Int}{r:AY}{l:List Av}(hc:c.1.length≤2^20)(hg:Af CB g.1≤2^20)(ht:DH g.2.1)(hl:l.length≤2^20)(PY:∀a∈l,DH a.2.2.1):
  P8 c g sure r l=some (zm (B3 c g sure r l)):=by
 unfold P8 B3;rw[show(c.1,c.2.1,())=c from rfl,show(g.1,g.2.1,())=g from rfl,show(r.1,r.2.1,r.2.2.1,())=r from rfl,lg (by omega) hl,Po (by omega) (by omega) ht,PJ];simp only[AD,A5,AB];cases h1:Mk c g with
 |false=>rfl
 |true=>
 cases h2:W6 r with
 |false=>rfl
 |true=>
 cases h3:Ay c (l.map fun a=>a.1)with
 |false=>rfl
 |true=>
 have hr:=RE.1 h2;have hre:=hr.ep;have hro:=hr.off;have hrn:=hr.n;have hR:=JE.1 h1;have hRn:=hR.n;simp only[AMy,AMn,AMO,AMH,AON];rw[U2 (by omega)];simp only[AD];by_cases h4:r.1>(g.1.length:Int)
 ·rw[ALP h4,AR7 h4];rfl
 rw[ALo h4,ATW h4];by_cases h5:r.2.2.1.length=120
 ·rw[show(((r.2.2.1.length:Nat):Int)==120)=true by simp_all,AR7 h5];rfl
 rw[show(((r.2.2.1.length:Nat):Int)==120)=false by grind,ATW h5];simp only[AMh,ASZ,AMH,AON];rw[AL (x:=r.1-1) (by omega) (by omega),ALP (by omega),Ml (by omega) (by omega),E7 ht,ZS ht];simp only[AD];have hto:=iV (x:=g.2.1);rw[AL (x:=A6 g.2.1+1) (by omega) (by omega),AL (x:=r.1+1) (by omega) (by omega),AL (x:=r.2.1+1) (by omega) (by omega)];simp only[bn (r:=r) (by omega),AD];by_cases h6:g.2.1≥D6 r.1 r.2.1
 ·rw[ALP h6,ALP h6];rfl
 rw[ALo h6,ALo h6]
 generalize ABs:g.1.getD (r.1-1).toNat GP=era
 have Lu:(r.1-1).toNat<g.1.length:=by omega
 have UR:era.1.length≤2^20:=by
  have h7:=Aa (f:=CB) (BJ (d:=GP) Lu);rw[ABs]at h7;have:CB era=era.1.length:=rfl;omega
 have tail:((Kb (l.map fun a=>a.1) era.1).bind fun P2=>
   (KP c era.1 P2.2.1).bind fun fX=>
   cond (fX.1.1)
    ((MR era.1 (D6 r.1 r.2.1) l).bind fun ZX=>
    some ((((r.1,r.2.1+1,(),()),0,()),()),(r.2.2.1++[(ZX.1.1.1,ZX.1.1.2.1,ZX.1.1.2.2.1,())],())))
    (some ((((r.1,r.2.1,(),()),3,()),()),(r.2.2.1,()))))=
   some (zm (if !Ji c era.1 ((l.map fun a=>a.1).filter era.1.contains)then(r,3)else
    ((r.1,r.2.1+1,r.2.2.1++[HP (D6 r.1 r.2.1) (Fb era.1 (D6 r.1 r.2.1) none l)],()),0))):=by
  have hf:((l.map fun a=>a.1).filter era.1.contains).length≤2^20:=AQ4 (ASR _ _) (by simp_all);rw[dV (by simp_all) UR,nN UR hl PY];simp only[AD];rw[dp (by omega) hf UR];simp only[AD,bn (r:=r) (by omega)];cases Ji c era.1 ((l.map fun a=>a.1).filter era.1.contains)<;>rfl
 have hd:g.1.getD (r.1-1).toNat ([],false,0,())=era:=ABs;rw[hd];simp only[tail];cases h7:era.2.1 with
 |true=>
  simp only[AMy,AMh,AMn,AMO,ATP,ASZ,AMi];by_cases h8:r.2.1>era.2.2.1
  ·rw[ALP h8,ALP h8];rfl
  rw[ALo h8,ALo h8];by_cases h9:r.2.1>60
  ·rw[ALP h9,ALP h9];rfl
  grind
 |false=>
  simp only[AMy,AMh,AMn,ATH,ATP,AMH,AON,ATI,AMi];by_cases h8:r.2.1>sure
  ·rw[ALP h8,ALP (.inl h8)];rfl
  rw[ALo h8];by_cases h9:r.2.1>60
  ·rw[ALP h9,ALP (.inr h9)];rfl
  grind
end Go.M
end
section
set_option maxRecDepth 8000
namespace Go.M
open Go.M.H (AJ AO As Ab AA CO AN A4 AM AY Az Av BS Ak CL Af AX Aa Aq CB BF Ar)
theorem pf{c:CD}{l:AAH}(hc:c.1.length≤2^20)(hl:l.length≤2^20):YS c l=some ((Ay c l&& !holds c l,()),()):=by
 unfold YS;rw[show(c.1,c.2.1,())=c from rfl,G4 (by omega) (by omega),E5 (by omega) (by omega)];grind
theorem kK{ss:List AO}(hs:ss.length≤1024)(h:∀s∈ss,s.1.length≤1024):Za ss=some (((),()),(Ff [] ss,())):=by
 have key:∀n:Nat,
   (∀(i:Nat) (b:List AJ),i≤ss.length→(ss.length-i)*1026+1≤n→b.length≤i*1024→
    JD n ss i b=some (((),()),(Ff b (ss.drop i),())))∧
   (∀(i j:Nat) (b:List AJ),(hi:i<ss.length)→j≤ss[i].1.length→(ss.length-i-1)*1026+1+(ss[i].1.length-j)+1≤n→b.length≤i*1024+j→
    JA n ss i j b=some (((),()),(Ff (Dd b (ss[i].1.drop j)) (ss.drop (i+1)),()))):=by
  intro n
  induction n with
  |zero=>simp_all
  |succ n ih=>
   refine⟨fun i b hi h' hb=> ?_,fun i j b hi hj h' hb=> ?_⟩
   ·simp only[JD,Vc,AB]
    by_cases hc:i<ss.length
    ·rw[ALP (by omega)]
     have hm:=h _ (AMk hc);have e1:(ss.length-i)*1026=(ss.length-i-1)*1026+1026:=by
      omega
     have:=ih.2 i 0 b hc (by omega) (by omega) (by omega);rw[show((0:Nat):Int)=0 from rfl,ATN]at this;rw[this,drop_cons hc];rfl
    ·rw[ALo (by omega),AMo (by omega)]
     rfl
   ·have hm:=h _ (AMk hi)
    simp only[JA,VK,AB];have c1:(0:Int)≤(i:Int)∧(i:Int)<(ss.length:Int):=by omega
    rw[ALP c1,Aj hi];simp only[ALP c1];have hbb:i*1024≤2^20:=by
     omega
    by_cases hc:j<ss[i].1.length
    ·have c2:(0:Int)≤(j:Int)∧(j:Int)<(ss[i].1.length:Int):=by omega
     rw[ALP c2.2,ALP c2,Aj hc,show(ss[i].1[j].1,ss[i].1[j].2.1,ss[i].1[j].2.2.1,ss[i].1[j].2.2.2.1,())=ss[i].1[j]from rfl,WY (by omega)];simp only[AD];rw[AL (by omega) (by omega),show((j:Int)+1)=((j+1:Nat):Int)by omega,drop_cons hc];have hk:=Wp (e:=ss[i].1[j]) (l:=b);exact ih.2 i (j+1) _ hi (by omega) (by omega) (by omega)
    ·rw[ALo (by omega),AL (by omega) (by omega),show((i:Int)+1)=((i+1:Nat):Int)by omega,AMo (by omega)]
     exact ih.1 (i+1) b (by omega) (by grind) (by omega)
 have hf:(ss.length-0)*1026+1≤Ae:=by
  have:ss.length*1026≤1024*1026:=AOi _ hs;exact ATy (Ag (by omega))
 exact(key Ae).1 0 [] (by omega) hf (by simp)
theorem yN(e:AJ):∀l:List AJ,Af Aq (keep e l)≤Af Aq l+(1+Aq e)
 |[]=>by simp[keep,Af]
 |x::l=>by
  have:=yN e l;grind[keep,better,Af]
theorem xA:∀{l k:List AJ},Af Aq (Dd k l)≤Af Aq k+Af Aq l
 |[],k=>by simp[Dd,Af]
 |e::l,k=>by
  have h1:=xA (l:=l) (k:=keep e k);grind[yN,Dd,Af]
theorem zd:∀{l:List AO} {k:List AJ},Af Aq (Ff k l)≤Af Aq k+Af Ak l
 |[],k=>by simp[Ff,Af]
 |s::l,k=>by
  have h1:=zd (l:=l) (k:=Dd k s.1);have h2:=xA (l:=s.1) (k:=k);have:Ak s=Af Aq s.1+Af Aq s.2.1:=rfl;grind[Ff,Af]
theorem lS{y:AJ}:∀{l:List AO} {k:List AJ},y∈Ff k l→y∈k∨ ∃s∈l,y∈s.1
 |[],k,h=> .inl h
 |s::l,k,h=>by
  rcases lS (l:=l) h with h|⟨t,ht,h⟩
  all_goals grind[Qr]
def xU(b:Bool)(x:AO):AO×Bool:=if b then(x,true)else(Cr,false)
def pkF(ss:List AO)(q:AO×Bool):OP:=(((((),(),q.1.2.2.1,()),q.2,()),()),(ss,q.1.1,q.1.2.1,()))
theorem vV{c:CD}{ss:List AO}{lost:AAH}{n upto:Int}(hc:c.1.length≤2^20)(hs:ss.length≤1024)(hn:∀s∈ss,s.1.length≤1024)(hw:Af Ak ss≤2^24)(PY:∀s∈ss,qw s)(hl:lost.length≤2^20):
  eS c lost n upto ss=some (pkF ss (Xf c ss lost n upto)):=by
 have hfs:Xf c ss lost n upto=xU (Ej c&&(decide (ss.length=c.1.length)&&(Ay c lost&&(!holds c lost&&(lost.contains n&&((others lost 0 ss).all CF&&CF (Ff [] (others lost 0 ss),[],upto,()))))))) (Ff [] (others lost 0 ss),[],upto,()):=rfl;rw[hfs];unfold eS cI;rw[show(c.1,c.2.1,())=c from rfl,HL (by omega),pf hc hl,KQ (by omega)];simp only[AD,A5,Cv];have k11:∀(k i:Nat) (o:List AO),(∀s∈o,s∈ss)→o.length≤ss.length→Af Ak o≤2^24→i≤o.length→o.length-i<k→
   M4 k upto i ss 0 [] [] 0 [] [] o=some (pkF ss (xU ((o.drop i).all CF&&CF (Ff [] o,[],upto,())) (Ff [] o,[],upto,()))):=by
  intro k
  induction k with
  |zero=>omega
  |succ k ih=>
   intro i o ho hol how hi h;simp only[M4,aP,AB,A5];by_cases Dh:i<o.length
   ·have c1:(0:Int)≤(i:Int)∧(i:Int)<(o.length:Int):=by omega
    have hm:=ho _ (AMk Dh);have hws:=Aa (f:=Ak) hm;rw[ALP c1.2,ALP c1,Aj Dh,show(o[i].1,o[i].2.1,o[i].2.2.1,())=o[i]from rfl,Fp (by omega) (PY _ hm),AL (by omega) (by omega),show((i:Int)+1)=((i+1:Nat):Int)by omega,ih (i+1) o ho hol how (by omega) (by omega),drop_cons Dh];simp only[AD,ATl];rcases AKr (CF o[i])with hb|hb<;>rw[hb]
    all_goals rfl
   ·rw[ALo (by omega),AMo (by omega),kK (by omega) (fun s hs=>hn s (ho s hs))]
    have hu:=zd (l:=o) (k:=[]);simp only[Af]at hu;simp only[AD];rw[Fp (s:=(Ff [] o,[],upto,())) (by show Af Aq (Ff [] o)+Af Aq []≤_;grind[Af]) ⟨fun e he=>by
     rcases lS he with he|⟨t,ht,he⟩
     ·simp_all
     ·exact(PY t (ho t ht)).1 e he,fun e he=>by simp_all⟩]
    simp only[AD,List.all_nil,AMn];rcases AKr (CF (Ff [] o,[],upto,()))with hb|hb<;>rw[hb]<;>rfl
 have k6:∀(k i:Nat) (o:List AO),(∀s∈o,s∈ss)→i≤ss.length→(ss.length-i)+ss.length+2≤k→o.length≤i→Af Ak o+Af Ak (ss.drop i)≤2^24→
   PD k lost upto i ss 0 [] [] 0 [] [] o=some (pkF ss (xU ((o++others lost i (ss.drop i)).all CF&&CF (Ff [] (o++others lost i (ss.drop i)),[],upto,())) (Ff [] (o++others lost i (ss.drop i)),[],upto,()))):=by
  intro k
  induction k with
  |zero=>omega
  |succ k ih=>
   intro i o ho hi h hol how;simp only[PD,cG,AB,A5];by_cases Dh:i<ss.length
   ·have c1:(0:Int)≤(i:Int)∧(i:Int)<(ss.length:Int):=by omega
    have c2:o.length+1≤Dw:=by rw[BX];omega
    rw[drop_cons Dh]at how;simp only[Af]at how;have hws:Ak ss[i]+(Af Aq []+0)=Ak ss[i]:=rfl;rw[ALP c1.2,KQ (by omega),ALP c1,ALP c2,Aj Dh,show(ss[i].1,ss[i].2.1,ss[i].2.2.1,())=ss[i]from rfl,AL (by omega) (by omega),show((i:Int)+1)=((i+1:Nat):Int)by omega];simp only[AD];rw[ih (i+1) o ho (by omega) (by omega) (by omega) (by omega)];rw[ih (i+1) (o++[ss[i]]) (fun s hs=>by
     grind) (by omega) (by omega) (by simp_all) (by grind[YH,Af])]
    rw[drop_cons Dh];simp only[others];grind
   ·have:=k11 k 0 o ho (by omega) (by omega) (by omega) (by omega)
    rw[show((0:Nat):Int)=0 from rfl,ATN]at this;rw[ALo (by omega),this,AMo (by omega)];simp only[others,AM3]
 have:=k6 Ae 0 [] (by simp) (by omega) (ATy (Ag (by omega))) (by simp) (by grind[Af]);rw[show((0:Nat):Int)=0 from rfl,ATN,ATL]at this;rw[this];rcases AKr (Ej c)with h1|h1
 rotate_left
 ·rw[h1];rfl
 by_cases h2:ss.length=c.1.length
 rotate_left
 ·rw[ALo (by omega),h1,ATW h2];rfl
 rw[ALP (by omega),h1,AR7 h2];rcases AKr (Ay c lost)with h3|h3
 rotate_left
 ·rw[h3];rfl
 rw[h3];rcases AKr (holds c lost)with h4|h4
 ·rw[h4];rfl
 rw[h4];rcases AKr (lost.contains n)with h5|h5
 rotate_left
 ·rw[h5];rfl
 simp_all
end Go.M
end
section
namespace Go.M
open Go.M.H (AJ AO As Ab AA CO AN A4 AM AY Az Av BS)
theorem qd{α:Type}{l:List α}{i j:Nat}{x d:α}(hi:i<l.length):(l.set i x).getD j d=if i=j then x else l.getD j d:=by
 grind
theorem EK{w:AA}{n:Int}(h:Al w n=0):0≤n∧n<w.An.length∧n∉w.lost:=by
 unfold Al at h;split at h
 ·omega
 rename_i h1;simp only[APN,APU,Ah]at h1;grind
theorem oA{s x:Ab}:∀{l:List Ab},x∈Xy s l↔x=s∨x∈l
 |[]=>by simp[Xy]
 |y::l=>by
  simp only[Xy];split
  ·simp
  ·simp only[AOJ,oA (l:=l)]
   grind
theorem xN{s:Ab}:∀{l:List Ab},(Xy s l).length=l.length+1
 |[]=>rfl
 |y::l=>by
  simp only[Xy];split
  ·rfl
  ·simp only[ANL,xN (l:=l)]
theorem vk{s:Ab}:∀{l:List Ab},Tf (fun s:Ab=>s.1) l→(∀x∈l,x.1≠s.1)→Tf (fun s:Ab=>s.1) (Xy s l)
 |[],_,_=>by simp[Xy,Tf]
 |y::l,h,hs=>by
  have h':=h;simp only[Tf,AQb]at h;simp only[Xy];split
  ·rename_i hy
   simp only[Tf,AQb,AOJ];grind
  ·rename_i hy
   simp only[Tf,AQb];refine⟨fun a ha=> ?_,vk h.2 fun x hx=>hs x (by simp[hx])⟩;rcases oA.1 ha with rfl|ha
   all_goals grind
section
variable{w:AA} (h:Nn w)
include h
theorem Nn.node{n:Int}(hn:Al w n=0):(0≤n∧n<(AS w).1.length)∧n.toNat<w.An.length∧n∉w.lost:=by
 obtain⟨a,b,c⟩:=EK hn;have:=h.qh;exact⟨⟨a,by show n<(w.1.length:Int);omega⟩,by omega,c⟩
theorem Nn.qe{n:Int}(hn:Al w n=0){s:AO}(hs:fg s):Nn (w.BA (w.An.set n.toNat s)):=by
 obtain⟨h1,h2,h3⟩:=h.node hn;refine⟨h.cfg,by(try simp only[H.AA.An,H.AA.lost,H.AA.Ac,H.AA.trim,H.AA.AH,H.AA.BW,H.AA.AW,H.AA.BK,H.AA.ED,H.AA.BA,H.AA.EW,H.AA.HO,H.AA.A9,H.AA.Bj,H.AA.Cy,H.AA.C2,H.AA.FE,B5,AS]at*);simpa using h.qh,h.lost,h.ED,fun i hi=> ?_,h.lj,h.rJ,h.yC,h.AH,h.Xw,h.BW,h.mf,h.AW,h.Qp,h.BK,h.WO⟩
 (try simp only[H.AA.An,H.AA.lost,H.AA.Ac,H.AA.trim,H.AA.AH,H.AA.BW,H.AA.AW,H.AA.BK,H.AA.ED,H.AA.BA,H.AA.EW,H.AA.HO,H.AA.A9,H.AA.Bj,H.AA.Cy,H.AA.C2,H.AA.FE,B5,AS]at*);simp only[ATv]at hi
 simp only[qd h2];split
 ·grind
 ·exact h.An i hi
theorem Nn.store{n:Int}(hn:Al w n=0):fg (storeAt w n):=(h.An _ (h.node hn).2.1).1
theorem ik{n:Int}{q:AO×Bool}(hn:Al w n=0)(hs:q.2=true→fg q.1)(e:(putAt w n q).2=0):Nn (putAt w n q).1:=by
 unfold putAt at*;split at e
 ·rename_i hq
  rw[ALP hq];exact h.qe hn (hs hq)
 omega
theorem AAD{a:Int}(e:(MD w a).2=0):Nn (MD w a).1:=by
 unfold MD at*;split at e
 ·omega
 rename_i h4;rw[ALo h4];simp only at e⊢;split at e
 ·omega
 rename_i hq;rw[ALo hq];simp only[APN,APU]at hq;obtain⟨_,r1,r2,r3,r4,r5⟩:=od hq;rw[r2]at r1;rw[r2,r3];have hnw:=h.rJ;have hl:((B5 w).1++[(Ao a,false,0,())]).length=w.Ac.length+1:=by simp[B5]
 refine⟨h.cfg,h.qh,h.lost,h.ED,h.An,r1,?_,by(try simp only[H.AA.An,H.AA.lost,H.AA.Ac,H.AA.trim,H.AA.AH,H.AA.BW,H.AA.AW,H.AA.BK,H.AA.ED,H.AA.BA,H.AA.EW,H.AA.HO,H.AA.A9,H.AA.Bj,H.AA.Cy,H.AA.C2,H.AA.FE,B5,AS]at*);simp,fun x hx=> ?_,?_,fun m hm=>by grind,h.mf,h.AW,h.Qp,fun s hs=> ?_,h.WO⟩
 ·grind
 ·replace hx:x∈w.AH++[((w.Ac.length:Int)+1,[],())]:=hx
  simp only[AOl,ATj]at hx;have AeZ:w.Ac.length<30:=r5;have jP:(((B5 w).1++[(Ao a,false,0,())]).length:Int)=(w.Ac.length:Int)+1:=by omega
  show bG (AS w) x∧x.1≤(((B5 w).1++[(Ao a,false,0,())]).length:Int)
  rw[jP];rcases hx with hx|rfl
  ·have:=h.AH x hx
   grind
  ·exact⟨⟨h.cfg,by omega,by simp,by simp,by simp[Qk]⟩,by omega⟩
 ·show Tf (fun x:AM=>x.1) (w.AH++[((w.Ac.length:Int)+1,[],())])
  simp only[Tf,List.pairwise_append,AQb,List.Pairwise.nil,ATj,ATS];refine⟨h.Xw,by simp,fun x hx y hy=> ?_⟩;subst hy;have:=(h.AH x hx).2;omega
 ·have:=h.BK s hs
  grind
end
section
variable{w:AA} (h:Nn w)
include h
theorem AEn{a:Int}{d:ACD}(hd:d.length≤40)(e:(doAdd w a d).2=0):Nn (doAdd w a d).1:=by
 unfold doAdd at*;split at e
 ·omega
 rename_i ha;rw[ALo ha];simp only[APN,APU,Ah]at ha;simp only at e⊢;split at e
 ·omega
 rename_i hq;rw[ALo hq];simp only[ATI,AXv,APN,APU,ATr,List.any_eq_false,ATa]at hq;obtain⟨hq,h120,hno⟩:=hq;have hi:a.toNat<w.AH.length:=by omega
 have hx:=h.AH _ (BJ (d:=Bv) hi);obtain⟨_,r1,r2,r3⟩:=WJ hq;rw[r2]at r1;rw[r2,r3];rw[r3]at hno;have yr:=r1.n;simp only[AOs,ANL,AQO]at yr;obtain⟨p1,p2,p3⟩:=I5 (e:=(w.AH.getD a.toNat Bv).1) (o:=((w.AH.getD a.toNat Bv).2.1.length:Int)+1) hx.1.ep (by omega);have hns:=h.Qp;refine⟨h.cfg,h.qh,h.lost,h.ED,h.An,h.lj,by(try simp only[H.AA.An,H.AA.lost,H.AA.Ac,H.AA.trim,H.AA.AH,H.AA.BW,H.AA.AW,H.AA.BK,H.AA.ED,H.AA.BA,H.AA.EW,H.AA.HO,H.AA.A9,H.AA.Bj,H.AA.Cy,H.AA.C2,H.AA.FE,B5,AS]at*);simpa using h.rJ,h.yC,fun x ym=> ?_,?_,h.BW,h.mf,h.AW,by grind[xN],fun s hs=> ?_,vk h.WO fun x hx=>by grind⟩
 ·rcases ATc ym with ym|rfl
  ·exact h.AH x ym
  ·exact⟨r1,hx.2⟩
 ·have:=h.Xw
  show Tf (fun x:AM=>x.1) (w.AH.set a.toNat ((w.AH.getD a.toNat Bv).1,(w.AH.getD a.toNat Bv).2.1++[(d,[],false,())],()))
  simp only[Tf,AUt,List.getElem_set,ATv]at this⊢;grind
 ·rcases oA.1 hs with rfl|hs
  ·simp_all
  ·exact h.BK s hs
theorem xg{a b n:Int}(e:(Ih w a b n).2=0):Nn (Ih w a b n).1:=by
 unfold Ih at*;split at e
 ·omega
 rename_i h1;rw[ALo h1];simp only at e⊢;split at e
 ·omega
 rename_i h2;rw[ALo h2];split at e
 ·omega
 rename_i h3;rw[ALo h3];split at e
 ·omega
 rename_i h4;rw[ALo h4];grind[ik,dY]
theorem eK{all:Bool}{s:AO}{n:Int}(hn:0≤n∧n<(AS w).1.length):∀{ws:List AM} {ss:List Ab},
  (FO all (AS w) s w.Ac n ws ss).1=ws.map (fun x=>if LL s w.Ac n x then(x.1,BB (AS w) s x.1 n 1 x.2.1,())else x)∧
  (FO all (AS w) s w.Ac n ws ss).2.map (fun x=>(x.1,x.2.1))=ss.map (fun x=>(x.1,x.2.1))
 |[],ss=>⟨rfl,rfl⟩
 |x::ws,ss=>by
  simp only[FO,AUm];split
  ·rename_i ht
   obtain⟨h1,h2⟩:=eK hn (ws:=ws) (ss:=ss.map (OW all x.1 x.2.1 (BB (AS w) s x.1 n 1 x.2.1)));rw[h1,h2];exact⟨rfl,by rw[ATx];rfl⟩
  ·obtain⟨h1,h2⟩:=eK hn (ws:=ws) (ss:=ss)
   rw[h1,h2];simp_all
theorem AAt{all:Bool}{n:Int}(e:(Jv all w n).2=0):Nn (Jv all w n).1:=by
 unfold Jv at*;split at e
 ·omega
 rename_i h1;rw[ALo h1];simp only at e⊢;split at e
 ·omega
 rename_i h2;rw[ALo h2];simp only[ne_eq,AWt]at h1;simp only[APN,APU]at h2;have hn:=(h.node h1).1;obtain⟨s1,s2,s3⟩:=Kf h2;have hw:=h.qe h1 s2;obtain⟨t1,t2⟩:=eK h (all:=all) (s:=(Cg (storeAt w n)).1) hn (ws:=w.AH) (ss:=w.BK);have ms:∀x∈(FO all (AS w) (Cg (storeAt w n)).1 w.Ac n w.AH w.BK).2,∃y∈w.BK,x.1=y.1∧x.2.1=y.2.1:=fun x hx=>by
  have:(x.1,x.2.1)∈w.BK.map (fun x=>(x.1,x.2.1)):=by grind
  simp_all
 have ml:(FO all (AS w) (Cg (storeAt w n)).1 w.Ac n w.AH w.BK).2.length=w.BK.length:=by
  have:=congrArg List.length t2;grind
 have ma:Tf (fun s:Ab=>s.1) (FO all (AS w) (Cg (storeAt w n)).1 w.Ac n w.AH w.BK).2:=by
  have h1:(FO all (AS w) (Cg (storeAt w n)).1 w.Ac n w.AH w.BK).2.map (fun x=>x.1)=w.BK.map (fun x=>x.1):=by
   have:=congrArg (List.map Prod.fst) t2;rw[ATx,ATx]at this;exact this
  have h2:(w.BK.map (fun x:Ab=>x.1)).Pairwise (· < ·):=AWw.2 h.WO;grind
 refine⟨h.cfg,hw.qh,h.lost,h.ED,hw.An,h.lj,by(try simp only[H.AA.An,H.AA.lost,H.AA.Ac,H.AA.trim,H.AA.AH,H.AA.BW,H.AA.AW,H.AA.BK,H.AA.ED,H.AA.BA,H.AA.EW,H.AA.HO,H.AA.A9,H.AA.Bj,H.AA.Cy,H.AA.C2,H.AA.FE,B5,AS]at*);simp only[t1,AXX];exact h.rJ,by(try simp only[H.AA.An,H.AA.lost,H.AA.Ac,H.AA.trim,H.AA.AH,H.AA.BW,H.AA.AW,H.AA.BK,H.AA.ED,H.AA.BA,H.AA.EW,H.AA.HO,H.AA.A9,H.AA.Bj,H.AA.Cy,H.AA.C2,H.AA.FE,B5,AS]at*);simpa using h.yC,fun x hx=> ?_,?_,fun m hm=> ?_,h.mf,h.AW,by(try simp only[H.AA.An,H.AA.lost,H.AA.Ac,H.AA.trim,H.AA.AH,H.AA.BW,H.AA.AW,H.AA.BK,H.AA.ED,H.AA.BA,H.AA.EW,H.AA.HO,H.AA.A9,H.AA.Bj,H.AA.Cy,H.AA.C2,H.AA.FE,B5,AS]at*);simp only[ml];exact h.Qp,fun x hx=> ?_,ma⟩
 ·(try simp only[H.AA.An,H.AA.lost,H.AA.Ac,H.AA.trim,H.AA.AH,H.AA.BW,H.AA.AW,H.AA.BK,H.AA.ED,H.AA.BA,H.AA.EW,H.AA.HO,H.AA.A9,H.AA.Bj,H.AA.Cy,H.AA.C2,H.AA.FE,B5,AS]at*);simp only[t1]at hx
  obtain⟨y,hy,rfl⟩:=ATd.1 hx;have yE:=h.AH y hy;split
  ·obtain⟨k1,k2,k3⟩:=bS (s:=(Cg (storeAt w n)).1) (ep:=y.1) hn (o:=1) yE.1.words
   exact⟨⟨h.cfg,yE.1.ep,k3▸yE.1.n,k1,AQ4 k2 yE.1.opn⟩,yE.2⟩
  ·exact yE
 ·show Tf (fun x:AM=>x.1) (FO all (AS w) (Cg (storeAt w n)).1 w.Ac n w.AH w.BK).1
  rw[t1];simp only[Tf,AWw];refine h.Xw.imp fun{a b} rh=> ?_
  grind
 ·obtain⟨y,hy,rfl⟩:=ATd.1 hm
  have yE:=h.BW y hy;refine⟨AEv hn yE.1,?_⟩;grind[HG]
 ·obtain⟨y,hy,e1,e2⟩:=ms x hx
  have:=h.BK y hy;simp_all
theorem wg{n k:Int}(e:(IY w n k).2=0):Nn (IY w n k).1:=by
 unfold IY at*;split at e
 ·omega
 rename_i h1;rw[ALo h1];exact ik h (by omega) (fun hq=>(Kf hq).2.1) e
theorem v_{n:Int}(e:(Ie w n).2=0):Nn (Ie w n).1:=by
 unfold Ie at*;split at e
 ·omega
 rename_i h1;rw[ALo h1];exact ik h (by omega) (fun hq=>(jN hq).2.1) e
theorem AAy{n:Int}(e:(MZ w n).2=0):Nn (MZ w n).1:=by
 unfold MZ at*;split at e
 ·omega
 rename_i h1;rw[ALo h1];simp only[ne_eq,AWt]at h1;obtain⟨hn,hn2,hn3⟩:=h.node h1;have fw:∀x∈w.AH,(CE (AS w) x n).1=(x.1,x.2.1.map (Cx n),()):=fun x hx=>(U8 (h.AH x hx).1).2
 refine⟨h.cfg,by(try simp only[H.AA.An,H.AA.lost,H.AA.Ac,H.AA.trim,H.AA.AH,H.AA.BW,H.AA.AW,H.AA.BK,H.AA.ED,H.AA.BA,H.AA.EW,H.AA.HO,H.AA.A9,H.AA.Bj,H.AA.Cy,H.AA.C2,H.AA.FE,B5,AS]at*);simpa using h.qh,Ib h.lost hn,?_,fun i hi=> ?_,h.lj,by(try simp only[H.AA.An,H.AA.lost,H.AA.Ac,H.AA.trim,H.AA.AH,H.AA.BW,H.AA.AW,H.AA.BK,H.AA.ED,H.AA.BA,H.AA.EW,H.AA.HO,H.AA.A9,H.AA.Bj,H.AA.Cy,H.AA.C2,H.AA.FE,B5,AS]at*);simpa using h.rJ,by(try simp only[H.AA.An,H.AA.lost,H.AA.Ac,H.AA.trim,H.AA.AH,H.AA.BW,H.AA.AW,H.AA.BK,H.AA.ED,H.AA.BA,H.AA.EW,H.AA.HO,H.AA.A9,H.AA.Bj,H.AA.Cy,H.AA.C2,H.AA.FE,B5,AS]at*);simpa using h.yC,fun x hx=> ?_,?_,fun m hm=> ?_,h.mf,h.AW,h.Qp,h.BK,h.WO⟩
 ·grind[holds,AS,JM]
 ·(try simp only[H.AA.An,H.AA.lost,H.AA.Ac,H.AA.trim,H.AA.AH,H.AA.BW,H.AA.AW,H.AA.BK,H.AA.ED,H.AA.BA,H.AA.EW,H.AA.HO,H.AA.A9,H.AA.Bj,H.AA.Cy,H.AA.C2,H.AA.FE,B5,AS]at*);simp only[ATv]at hi
  simp only[qd hn2];split
  ·exact⟨fg.nil,fun _=>rfl⟩
  ·rename_i bd
   refine⟨(h.An i hi).1,fun hl=>(h.An i hi).2 ?_⟩;grind[OT]
 ·obtain⟨y,hy,rfl⟩:=ATd.1 hx
  have yE:=h.AH y hy;refine⟨(U8 yE.1).1,?_⟩;simp_all
 ·(try simp only[H.AA.An,H.AA.lost,H.AA.Ac,H.AA.trim,H.AA.AH,H.AA.BW,H.AA.AW,H.AA.BK,H.AA.ED,H.AA.BA,H.AA.EW,H.AA.HO,H.AA.A9,H.AA.Bj,H.AA.Cy,H.AA.C2,H.AA.FE,B5,AS]at*);simp only[Tf,AWw]
  refine List.Pairwise.imp_of_mem (fun{a b} ha hb rh=> ?_) h.Xw;simp_all
 ·obtain⟨y,hy,rfl⟩:=ATd.1 hm
  have yE:=h.BW y hy;obtain⟨k1,k2⟩:=fW (n:=n) yE.1;refine⟨k1,?_⟩;simp_all
theorem AAp{n:Int}(e:(MW w n).2=0):Nn (MW w n).1:=by
 unfold MW at*;split at e
 ·omega
 rename_i h1;rw[ALo h1];simp only at e⊢;split at e
 ·omega
 rename_i h2;rw[ALo h2];simp only[APN,APU]at h1 h2;obtain⟨s1,s2,s3,s4⟩:=xZ h2;rw[List.contains_eq_mem,AMi]at h1;have yr:=(ER.1 h.lost).2.1 n h1;have hns:=h.qh;have hn2:n.toNat<w.An.length:=by
  have:n<(w.1.length:Int):=yr.2;omega
 refine⟨h.cfg,by grind,K5 _ h.lost,?_,fun i hi=> ?_,h.lj,h.rJ,h.yC,h.AH,h.Xw,h.BW,h.mf,h.AW,h.Qp,h.BK,h.WO⟩
 ·refine .inr ?_
  rw[ATi];intro hh
  replace hh:holds (AS w) (less w.lost [n])=true:=hh
  have:=iD (m:=w.lost) hh h.lost fun x hx=>(ATU.1 hx).1
  simp_all
 ·(try simp only[H.AA.An,H.AA.lost,H.AA.Ac,H.AA.trim,H.AA.AH,H.AA.BW,H.AA.AW,H.AA.BK,H.AA.ED,H.AA.BA,H.AA.EW,H.AA.HO,H.AA.A9,H.AA.Bj,H.AA.Cy,H.AA.C2,H.AA.FE,B5,AS]at*);simp only[ATv]at hi
  simp only[qd hn2];split
  ·grind[SZ,List.mem_singleton]
  ·exact⟨(h.An i hi).1,fun hl=>(h.An i hi).2 (SZ.1 hl).1⟩
theorem AAa(e:(MN w).2=0):Nn (MN w).1:=by
 unfold MN at*;split at e
 ·omega
 rename_i h1;rw[ALo h1];split at e
 ·omega
 rename_i h2;rw[ALo h2];simp only[ATI,AMi,AXv]at h1;obtain⟨k,k1,k2,k3,k4⟩:=Nu h.lj (by show 0<w.Ac.length;omega);have k1':k<w.Ac.length:=k1;have Z6:A8 w.Ac=(k:Int)+1:=k2;have hn:w.Ac.length≤30:=h.lj.n;refine⟨h.cfg,h.qh,h.lost,h.ED,h.An,h.lj,h.rJ,by(try simp only[H.AA.An,H.AA.lost,H.AA.Ac,H.AA.trim,H.AA.AH,H.AA.BW,H.AA.AW,H.AA.BK,H.AA.ED,H.AA.BA,H.AA.EW,H.AA.HO,H.AA.A9,H.AA.Bj,H.AA.Cy,H.AA.C2,H.AA.FE,B5,AS]at*);simp,h.AH,h.Xw,fun m hm=> ?_,h.mf,h.AW,h.Qp,h.BK,h.WO⟩
 replace hm:m∈[WK (A8 w.Ac) w.Ac.length]:=hm
 simp only[ATj]at hm;subst hm;refine⟨⟨h.cfg,?_,?_,dm h.cfg,List.Pairwise.nil,by simp[WK],by simp[WK],rfl⟩,rfl,rfl⟩
 ·show 1≤A8 w.Ac∧A8 w.Ac≤30
  omega
 ·show A8 w.Ac+1≤(w.Ac.length:Int)∧(w.Ac.length:Int)≤30
  omega
theorem AA9{n:Int}(e:(MX w n).2=0):Nn (MX w n).1:=by
 unfold MX at*;split at e
 ·omega
 rename_i m ms hm;simp only at e⊢;split at e
 ·omega
 rename_i h1;rw[ALo h1];split at e
 ·omega
 rename_i h2;rw[ALo h2];split at e
 ·omega
 rename_i h3;rw[ALo h3];simp only[ne_eq,AWt]at h1;simp only[ATI,AXv,APN,APU]at h3;obtain⟨s1,s2,s3⟩:=ag h3.1;obtain⟨m1,m2,m3,m4⟩:=ly h3.2;have hw:=h.qe h1 s2;have hm1:=h.yC;rw[hm]at hm1;refine⟨h.cfg,hw.qh,h.lost,h.ED,hw.An,h.lj,h.rJ,by omega,h.AH,h.Xw,fun x hx=> ?_,h.mf,h.AW,h.Qp,h.BK,h.WO⟩;rcases AOJ.1 hx with rfl|hx
 ·have:=h.BW m (by simp_all)
  refine⟨m2,?_⟩;simp_all
 simp_all
theorem AA4(e:(L4 w).2=0):Nn (L4 w).1:=by
 unfold L4 at*;split at e
 ·omega
 rename_i m ms hm;simp only at e⊢;split at e
 ·omega
 rename_i h3;rw[ALo h3];simp only[APN,APU]at h3;obtain⟨m1,m2,m3,m4,m5⟩:=mF h3;have hm1:=h.yC;rw[hm]at hm1;refine⟨h.cfg,h.qh,h.lost,h.ED,h.An,h.lj,h.rJ,by omega,h.AH,h.Xw,fun x hx=> ?_,h.mf,h.AW,h.Qp,h.BK,h.WO⟩;rcases AOJ.1 hx with rfl|hx
 ·have:=h.BW m (by simp_all)
  refine⟨m2,?_⟩;simp_all
 simp_all
theorem AFF{b n:Int}(e:(SV w b n).2=0):Nn (SV w b n).1:=by
 unfold SV at*;split at e
 ·omega
 rename_i m ms hm;split at e
 ·omega
 rename_i x hx;split at e
 ·omega
 rename_i h1;rw[ALo h1];split at e
 ·omega
 rename_i h2;rw[ALo h2];grind[ik,dY]
theorem w6(e:(Ik w).2=0):Nn (Ik w).1:=by
 unfold Ik at*;split at e
 ·omega
 rename_i m ms hm;split at e
 ·omega
 rename_i h1;rw[ALo h1];simp only at e⊢;split at e
 ·omega
 rename_i h2;rw[ALo h2];simp only[APN,APU]at h2;obtain⟨r0,r1,k,k1,k2,k3,k4,k5,k6,k7,k8⟩:=mA h2;rw[k6]at r1;rw[k6];have hl:(Ga (B5 w).1 k (m.2.2.2.2.2.1.length:Int)).length=w.Ac.length:=by simp[Ga,B5]
 refine⟨h.cfg,h.qh,h.lost,h.ED,h.An,r1,h.rJ,by(try simp only[H.AA.An,H.AA.lost,H.AA.Ac,H.AA.trim,H.AA.AH,H.AA.BW,H.AA.AW,H.AA.BK,H.AA.ED,H.AA.BA,H.AA.EW,H.AA.HO,H.AA.A9,H.AA.Bj,H.AA.Cy,H.AA.C2,H.AA.FE,B5,AS]at*);simp,fun x hx=> ?_,h.Xw,fun x hx=>by grind,h.mf,h.AW,h.Qp,fun x hx=> ?_,h.WO⟩
 ·(try simp only[H.AA.An,H.AA.lost,H.AA.Ac,H.AA.trim,H.AA.AH,H.AA.BW,H.AA.AW,H.AA.BK,H.AA.ED,H.AA.BA,H.AA.EW,H.AA.HO,H.AA.A9,H.AA.Bj,H.AA.Cy,H.AA.C2,H.AA.FE,B5,AS]at*);simp only[hl];exact h.AH x hx
 ·(try simp only[H.AA.An,H.AA.lost,H.AA.Ac,H.AA.trim,H.AA.AH,H.AA.BW,H.AA.AW,H.AA.BK,H.AA.ED,H.AA.BA,H.AA.EW,H.AA.HO,H.AA.A9,H.AA.Bj,H.AA.Cy,H.AA.C2,H.AA.FE,B5,AS]at*);simp only[hl];exact h.BK x hx
theorem wP{a:Int}(e:(OC w a).2=0):Nn (OC w a).1:=by
 unfold OC at*;simp only at e⊢;split at e
 ·omega
 rename_i h2;rw[ALo h2];simp only[APN,APU]at h2;obtain⟨r0,r1,r2⟩:=ou h2;rw[r2]at r1;rw[r2];exact⟨h.cfg,h.qh,h.lost,h.ED,h.An,r1,h.rJ,h.yC,h.AH,h.Xw,h.BW,h.mf,h.AW,h.Qp,h.BK,h.WO⟩
theorem uk{a k:Int}(e:(IK w a k).2=0):Nn (IK w a k).1:=by
 unfold IK at*;split at e
 ·omega
 rename_i h1;rw[ALo h1];simp only at e⊢;split at e
 ·omega
 rename_i h2;rw[ALo h2];simp only[ne_eq,AWt]at h2;refine⟨h.cfg,h.qh,h.lost,h.ED,h.An,h.lj,h.rJ,h.yC,h.AH,h.Xw,h.BW,by(try simp only[H.AA.An,H.AA.lost,H.AA.Ac,H.AA.trim,H.AA.AH,H.AA.BW,H.AA.AW,H.AA.BK,H.AA.ED,H.AA.BA,H.AA.EW,H.AA.HO,H.AA.A9,H.AA.Bj,H.AA.Cy,H.AA.C2,H.AA.FE,B5,AS]at*);simpa using h.mf,fun r hr=> ?_,h.Qp,h.BK,h.WO⟩;rcases ATc hr with hr|rfl
 ·exact h.AW r hr
 ·exact rI h2
theorem ABH{a:Int}(e:(NB w a).2=0):Nn (NB w a).1:=by
 unfold NB at*;split at e
 ·omega
 rename_i h1;rw[ALo h1];have hs:(w.AH.eraseIdx a.toNat).Sublist w.AH:=List.eraseIdx_sublist _ _;exact⟨h.cfg,h.qh,h.lost,h.ED,h.An,h.lj,AQ4 hs.length_le h.rJ,h.yC,fun x hx=>h.AH x (hs.subset hx),h.Xw.sublist hs,h.BW,h.mf,h.AW,h.Qp,h.BK,h.WO⟩
theorem ALG{all:Bool}{d:BS}(hd:d.2.2.2.2.1.length≤40)(e:(Lh all w d).2=0):Nn (Lh all w d).1:=by
 unfold Lh at*;by_cases hc:d.1=1
 ·rw[ALP hc]at e⊢;exact AAD h e
 rw[ALo hc]at e⊢;clear hc;by_cases hc:d.1=2
 ·rw[ALP hc]at e⊢;exact AEn h hd e
 rw[ALo hc]at e⊢;clear hc;by_cases hc:d.1=3
 ·rw[ALP hc]at e⊢;exact xg h e
 rw[ALo hc]at e⊢;clear hc;by_cases hc:d.1=4
 ·rw[ALP hc]at e⊢;exact AAt h e
 rw[ALo hc]at e⊢;clear hc;by_cases hc:d.1=5
 ·rw[ALP hc]at e⊢;exact wg h e
 rw[ALo hc]at e⊢;clear hc;by_cases hc:d.1=6
 ·rw[ALP hc]at e⊢;exact AAy h e
 rw[ALo hc]at e⊢;clear hc;by_cases hc:d.1=7
 ·rw[ALP hc]at e⊢;exact AAp h e
 rw[ALo hc]at e⊢;clear hc;by_cases hc:d.1=8
 ·rw[ALP hc]at e⊢;exact AAa h e
 rw[ALo hc]at e⊢;clear hc;by_cases hc:d.1=9
 ·rw[ALP hc]at e⊢;exact AA9 h e
 rw[ALo hc]at e⊢;clear hc;by_cases hc:d.1=10
 ·rw[ALP hc]at e⊢;exact AA4 h e
 rw[ALo hc]at e⊢;clear hc;by_cases hc:d.1=11
 ·rw[ALP hc]at e⊢;exact AFF h e
 rw[ALo hc]at e⊢;clear hc;by_cases hc:d.1=12
 ·rw[ALP hc]at e⊢;exact w6 h e
 rw[ALo hc]at e⊢;clear hc;by_cases hc:d.1=13
 ·rw[ALP hc]at e⊢;exact wP h e
 rw[ALo hc]at e⊢;clear hc;by_cases hc:d.1=14
 ·rw[ALP hc]at e⊢;exact uk h e
 rw[ALo hc]at e⊢;clear hc;by_cases hc:d.1=15
 ·rw[ALP hc]at e⊢;exact ABH h e
 rw[ALo hc]at e⊢;grind[v_]
end
theorem bT{d:BS}(h:PW d=true):d.2.2.2.2.1.length≤40:=by
 unfold PW at h;simp_all
theorem zM{all:Bool}{w:AA}{d:BS}(e:(Df all w d).2=0):Fm (Df all w d).1=true:=by
 unfold Df at*;split at e
 ·omega
 rename_i h1;rw[ALo h1];have hw:Fm w=true:=by
  simp_all
 have hd:PW d=true:=by
  simp_all
 grind[Iu,ALG,bT]
end Go.M
end
section
namespace Go.M
open Go.M.H (AJ AO As Ab AA CO AN A4 AM AY Az Av BS Ak CL Af AX Aa Aq CB BF Ar A7 EC CM Cs C9)
theorem ABK{α:Type}{f:α→Nat}{B:Nat}:∀{l:List α},(∀x∈l,f x≤B)→Af f l≤l.length*(1+B)
 |[],_=>by simp[Af]
 |x::l,h=>by
  have h1:=h x (by simp);have h2:=ABK (l:=l) fun y hy=>h y (by simp[hy])
  grind[Af,List.length_cons,Nat.add_mul]
theorem GG{α:Type}{f:α→Nat}{B N:Nat}{l:List α}(hn:l.length≤N)(h:∀x∈l,f x≤B):Af f l≤N*(1+B):=
 AQ4 (ABK h) (AOi _ hn)
theorem ue{α:Type}{f:α→Int}{b:Int}:∀{l:List α} {a:Int},Tf f l→(∀x∈l,a≤f x∧f x<b)→(l.length:Int)≤max (b-a) 0
 |[],a,_,_=>by grind
 |x::l,a,h,hb=>by
  simp only[Tf,AQb]at h;have h1:=hb x (by simp);have h2:=ue (l:=l) (a:=f x+1) h.2 fun y hy=>⟨by grind,(hb y (by simp[hy])).2⟩
  grind
theorem Hq{c:CD}{l:AAH}(h:Ay c l=true):l.length≤8:=by
 obtain⟨h1,h2,h3⟩:=ER.1 h;have:=(Gh h1).2.1;have:=ue (a:=0) (b:=c.1.length) h3 h2;omega
theorem Jb{p:Int}(h:BR p=true):DH p:=by
 obtain⟨h1,h2,h3⟩:=CJ h;grind[D6,DH]
theorem fg.w{s:AO}(h:fg s):Ak s≤10000:=by
 have h1:=GG (f:=Aq) (B:=40) h.nk fun e he=>(FX.1 (h.kept e he)).len
 have h2:=GG (f:=Aq) (B:=40) h.nl fun e he=>(FX.1 (h.late e he)).len
 unfold Ak;omega
theorem fg.sin{s:AO}(h:fg s):qw s:=
 ⟨fun e he=>Jb (FX.1 (h.kept e he)).pl,fun e he=>Jb (FX.1 (h.late e he)).pl⟩
theorem qG.AXO{c:CD}{m:As}(h:qG c m):m.2.2.2.1.length≤60:=by
 have:=ue (f:=fun e:AJ=>e.1) (a:=D6 m.2.1 1) (b:=D6 m.2.1 61) h.gM fun e he=>by
  have h1:=h.seen e he;have h2:=CJ (FX.1 h1.1).pl;grind[D6]
 grind[D6]
theorem qG.w{c:CD}{m:As}(h:qG c m):CL m≤5000:=by
 have h1:=GG (f:=Aq) (B:=40) h.AXO fun e he=>(FX.1 (h.seen e he).1).len
 have h2:=Hq h.fK;have h3:m.2.2.2.2.2.1.length≤60:=by
  have:=h.n;have hb:=Gj (l:=m.2.2.2.1);omega
 have h4:=GG (f:=C9) (B:=8) h3 fun l hl=>Hq (h.wrote l hl)
 unfold CL;omega
theorem qG.ein{c:CD}{m:As}(h:qG c m):rE m.2.2.2.1:=fun e he=>Jb (FX.1 (h.seen e he).1).pl
theorem yk.w{c:CD}{r:AN}(h:yk c r):Af CB r.1≤270:=by
 have:=GG (f:=CB) (B:=8) h.n fun e he=>Hq (N7 (h.Ac e he).1)
 omega
theorem yk.tin{c:CD}{r:AN}(h:yk c r):DH r.2.1:=by
 rcases h.trim with h|h
 all_goals grind[DH,Jb]
theorem bG.w{c:CD}{w:AM}(h:bG c w):Ar w≤3000:=by
 have:=GG (f:=BF) (B:=48) h.n fun x hx=>by
  have h1:=h.words x hx;grind[Hq,BF]
 unfold Ar;omega
def RdS(w:AA):Prop:= ∀r∈w.AW,∀e∈r.2.2.1,e.2.2.1.length≤40
theorem Nn.Ux{w:AA}(h:Nn w){s:AO}(hs:s∈w.An):fg s:=by
 obtain⟨i,hi,rfl⟩:=AQQ hs;have:=(h.An i hi).1;simp_all
theorem Nn.win{w:AA}(h:Nn w)(hr:RdS w):fa w:=by
 have hc:=(Gh h.cfg).2.1;have Zf:w.1.length≤8:=hc;have a1:=GG (f:=Ak) (B:=10000) (N:=8) (l:=w.An) (by rw[h.qh];omega) fun s hs=>(h.Ux hs).w
 have a2:=Hq h.lost;have a3:=h.lj.w;have a4:=GG (f:=Ar) (B:=3000) h.rJ fun x hx=>(h.AH x hx).1.w
 have a5:=GG (f:=CL) (B:=5000) h.yC fun x hx=>(h.BW x hx).1.w
 have a6:=GG (f:=A7) (B:=5000) (N:=2) (l:=w.AW) (by rw[h.mf];omega) fun r hx=>by
  have:=GG (f:=CM) (B:=40) (h.AW r hx).n (hr r hx);unfold A7;omega
 have a7:=GG (f:=EC) (B:=40) h.Qp fun s hs=>(h.BK s hs).2.2
 refine⟨?_,fun s hs=>(h.Ux hs).sin,h.lj.tin,fun m hm=>(h.BW m hm).1.ein,fun s hs=>Jb (h.BK s hs).1⟩;have a3':Af CB w.Ac≤270:=a3;grind[Cs]
end Go.M
end
section
set_option maxRecDepth 8000
namespace Go.M
open Go.M.H (AJ AO As Ab AA CO AN A4 AM AY Az Av BS Ak CL Af AX Aa Aq CB BF Ar A7 EC CM Cs C9)
theorem sF:∀i,i<8→([0,1,2,3,4,5,6,7]:AAH).drop i=(i:Int)::([0,1,2,3,4,5,6,7]:AAH).drop (i+1):=by decide
theorem X1{k:Int}:Og k=some (((),()),(Ao k,())):=by
 unfold Og UM Ao;rcases AKr (BN k 0 255)with hk|hk
 rotate_left
 ·rw[hk]
  obtain⟨m,hm⟩:∃m,Ae=m+1:=⟨Ae-1,by have:=Ag (n:=0) (by omega);omega⟩;rw[hm];simp only[IF,Ob,Bd,AD,hk,AB];rfl
 rw[hk,ALP rfl];have hk':=Ah.1 hk;have key:∀(n i:Nat) (b:AAH),i≤8→8-i<n→b.length≤i→
   IF n k i b=some (((),()),(b++(([0,1,2,3,4,5,6,7]:AAH).drop i).filter (fun i=>(k/2^i.toNat)%2==1),())):=by
  intro n
  induction n with
  |zero=>omega
  |succ n ih=>
   intro i b hi h hb;simp only[IF,Ob,Bd,AD,hk,AMy,AB];by_cases Dh:i<8
   ·have AC_:=uV (k:=k) (i:=i) (by omega) (by omega)
    rw[ALP (show(i:Int)<8 by omega),ALo (by omega),AMZ,AC_,sF i Dh,ATQ,AMZ,AL (by omega) (by omega),show((i:Int)+1)=((i+1:Nat):Int)by omega,AB];have c2:b.length+1≤Dw:=by rw[BX];omega
    by_cases hb':(k/2^i)%2=1
    ·rw[ALP hb',ALP c2,ALP (by simp_all),ih (i+1) _ (by omega) (by omega) (by simp_all),AM_]
     rfl
    grind
   ·have:i=8:=by omega
    simp_all
 have:=key Ae 0 [] (by omega) (Ag (by omega)) (by simp);simp_all
theorem oF{d:BS}:Yx d=some ((PW d,()),()):=by
 obtain⟨k,a,b,n,t,⟨⟩⟩:=d;unfold Yx PW;rw[Bd];simp only[AD];rcases AKr (BN k 1 16)with hk|hk
 rotate_left
 ·simp_all
 have hk':=Ah.1 hk;rw[hk];have dl:decide ((t.length:Int)≤40)=decide (t.length≤40):=by
  grind
 have:k=1∨k=2∨k=3∨k=4∨k=5∨k=6∨k=7∨k=8∨k=9∨k=10∨k=11∨k=12∨k=13∨k=14∨k=15∨k=16:=by omega
 rcases this with h|h|h|h|h|h|h|h|h|h|h|h|h|h|h|h<;>subst h<;>simp only[AMy,dl]<;>clear dl hk hk'<;>
  (unfold ZO;simp[eV];cases a==0<;>cases b==0<;>cases n==0<;>cases t.isEmpty<;>rfl)
theorem gr{w:AM}(hl:w.2.1.length≤2^20):U1 w=some (((Vh w.2.1:Int),()),()):=by
 have key:∀(n i:Nat),i≤w.2.1.length→w.2.1.length-i<n→
   Ja n i w.1 w.2.1=some ((((i+Vh (w.2.1.drop i):Nat):Int),()),()):=by
  intro n
  induction n with
  |zero=>omega
  |succ n ih=>
   intro i hi h;simp only[Ja,Sx,AB];by_cases Dh:i<w.2.1.length
   ·have c1:(0:Int)≤(i:Int)∧(i:Int)<(w.2.1.length:Int):=by omega
    rw[ALP c1.2,ALP c1,Aj Dh,AL (by omega) (by omega),show((i:Int)+1)=((i+1:Nat):Int)by omega,ih (i+1) (by omega) (by omega),drop_cons Dh];simp only[Vh];cases w.2.1[i].2.2.1 with
    |false=>simp
    |true=>grind
   ·rw[ALo (by omega),AMo (by omega)]
    rfl
 have:=key Ae 0 (by omega) (Ag (by omega));rw[ATf,ATN]at this;exact this
theorem IG{w:AA}{n:Int}(h1:w.An.length≤2^20)(h2:w.lost.length≤2^20):He w n=some ((Al w n,()),()):=by
 unfold He Al
 (try simp only[H.AA.An,H.AA.lost,H.AA.Ac,H.AA.trim,H.AA.AH,H.AA.BW,H.AA.AW,H.AA.BK,H.AA.ED,H.AA.BA,H.AA.EW,H.AA.HO,H.AA.A9,H.AA.Bj,H.AA.Cy,H.AA.C2,H.AA.FE,B5,AS]at*)
 rw[AL (by omega) (by omega),Bd,KQ (by omega)];grind
theorem SB{w:AA}{n:Int}(h1:w.AH.length≤2^20):K_ w n=some ((BN n 0 ((w.AH.length:Int)-1),()),()):=by
 grind[K_,AL,Bd]
theorem pE{w:AA}{e:Int}(hl:Af Ar w.AH≤2^20):dN w e=some ((U0 w e,()),()):=by
 have hll:=AX (f:=Ar) (l:=w.AH);have key:∀(n i:Nat),i≤w.AH.length→w.AH.length-i<n→
   OY n e i w.1 w.2.1 w.2.2.1 w.2.2.2.1 w.2.2.2.2.1 w.2.2.2.2.2.1 w.AH w.2.2.2.2.2.2.2.1 w.2.2.2.2.2.2.2.2.1 w.2.2.2.2.2.2.2.2.2.1 w.2.2.2.2.2.2.2.2.2.2.1=
    some (((match(w.AH.drop i).find? (fun x=>x.1==e)with|some x=>(Vh x.2.1:Int)|none=>0),()),()):=by
  intro n
  induction n with
  |zero=>omega
  |succ n ih=>
   intro i hi h;simp only[OY,YB,AB];by_cases Dh:i<w.AH.length
   ·have c1:(0:Int)≤(i:Int)∧(i:Int)<(w.AH.length:Int):=by omega
    rw[ALP c1.2,ALP c1,ALP c1,Aj Dh,AL (by omega) (by omega),show((i:Int)+1)=((i+1:Nat):Int)by omega,ih (i+1) (by omega) (by omega),drop_cons Dh,ATw,show(w.AH[i].1,w.AH[i].2.1,())=w.AH[i]from rfl];have hm:=Aa (f:=Ar) (AMk Dh);have hw:Ar w.AH[i]=Af BF w.AH[i].2.1:=rfl;have hlw:=AX (f:=BF) (l:=w.AH[i].2.1);rw[gr (by omega)];cases(w.AH[i].1==e)<;>rfl
   grind
 have:=key Ae 0 (by omega) (Ag (by omega));rw[ATN]at this;exact this
theorem gm{w:AA}{r:AY}{k:Int}(h1:Af Ak w.An≤2^20)(h2:w.lost.length≤2^20)(hr1: -1000≤r.1∧r.1≤1000)(hr2: -1000≤r.2.1∧r.2.1≤1000):
  Pz w r k=some (((),()),(answers w (D6 r.1 r.2.1) (Ao k),())):=by
 have hsl:=AX (f:=Ak) (l:=w.An);have vf:(Ao k).length≤8:=by
  unfold Ao;split
  ·exact AQ4 (ASR _ _) (by simp)
  ·simp
 have key:∀(n i:Nat) (b:List Av),i≤(Ao k).length→(Ao k).length-i<n→b.length≤i→
   JH n i w.1 w.2.1 w.2.2.1 w.2.2.2.1 w.2.2.2.2.1 w.2.2.2.2.2.1 w.2.2.2.2.2.2.1 w.2.2.2.2.2.2.2.1 w.2.2.2.2.2.2.2.2.1 w.2.2.2.2.2.2.2.2.2.1 w.2.2.2.2.2.2.2.2.2.2.1 r.1 r.2.1 r.2.2.1 b (Ao k)=
    some (((),()),(b++answers w (D6 r.1 r.2.1) ((Ao k).drop i),())):=by
  intro n
  induction n with
  |zero=>omega
  |succ n ih=>
   intro i b hi h hb;simp only[JH,Sq,AB];by_cases Dh:i<(Ao k).length
   ·have c1:(0:Int)≤(i:Int)∧(i:Int)<((Ao k).length:Int):=by omega
    have c2:b.length+1≤Dw:=by rw[BX];omega
    rw[ALP c1.2,ALP c1,Aj Dh,show(w.1,w.2.1,w.2.2.1,w.2.2.2.1,w.2.2.2.2.1,w.2.2.2.2.2.1,w.2.2.2.2.2.2.1,w.2.2.2.2.2.2.2.1,w.2.2.2.2.2.2.2.2.1,w.2.2.2.2.2.2.2.2.2.1,w.2.2.2.2.2.2.2.2.2.2.1,())=w from rfl,IG (by omega) h2,AL (by omega) (by omega),show((i:Int)+1)=((i+1:Nat):Int)by omega,drop_cons Dh];simp only[AD,Cv,answers,ATQ];by_cases hn:Al w (Ao k)[i]=0
    ·obtain⟨n1,n2,n3⟩:=EK hn
     have hs1:((Ao k)[i]).toNat<w.2.2.1.length:=by simp_all
     rw[ALP hn,ALP c1,ALP ⟨n1,n2⟩,Ml hr1 hr2];simp only[AD];have Ze:w.2.2.1.getD ((Ao k)[i]).toNat ([],[],0,())=storeAt w (Ao k)[i]:=rfl;have hsm:Ak (storeAt w (Ao k)[i])≤2^20:=AQ4 (Aa (f:=Ak) (BJ (d:=Cr) hs1)) h1;rw[Ze,T0 (Fz (by omega)).1];simp only[AD];rw[ALP c1,ALP c2,ih (i+1) _ (by omega) (by omega) (by simp_all),ALP (by simp_all),AUm,AM_];have:((Ao k)[i],(Ep (D6 r.1 r.2.1) (storeAt w (Ao k)[i]).1).isSome,((Ep (D6 r.1 r.2.1) (storeAt w (Ao k)[i]).1).getD Dt).1,((Ep (D6 r.1 r.2.1) (storeAt w (Ao k)[i]).1).getD Dt).2.1,((Ep (D6 r.1 r.2.1) (storeAt w (Ao k)[i]).1).getD Dt).2.2.1,((Ep (D6 r.1 r.2.1) (storeAt w (Ao k)[i]).1).getD Dt).2.2.2.1,())=answer w (D6 r.1 r.2.1) (Ao k)[i]:=by
      grind[answer,Ep,D6,storeAt,Ao]
     rw[this];rfl
    ·rw[ALo hn,ih (i+1) _ (by omega) (by omega) (by omega),ALo (by simp_all)]
     rfl
   ·rw[ALo (by omega),AMo (by omega)]
    simp[answers]
 have:=key Ae 0 [] (by omega) (Ag (by omega)) (by simp);grind[Pz,S1,X1]
end Go.M
end
section
set_option maxRecDepth 8000
namespace Go.M
open Go.M.H (AJ AO As Ab AA CO AN A4 AM AY Az Av BS Ak CL Af AX Aa Aq CB BF Ar A7 EC CM Cs C9)
section
variable{w:AA} (h:fa w)
include h
theorem AIU:∀(n i:Nat) (D5:List AO) (EV:List AM) (FA:List As) (Fl:List AY),i≤w.2.2.2.2.2.2.2.2.1.length→w.2.2.2.2.2.2.2.2.1.length-i<n→Fl.length≤i→
  CW n i w.1 w.2.1 w.2.2.1 w.2.2.2.1 w.2.2.2.2.1 w.2.2.2.2.2.1 w.2.2.2.2.2.2.1 w.2.2.2.2.2.2.2.1 w.2.2.2.2.2.2.2.2.1 w.2.2.2.2.2.2.2.2.2.1 w.2.2.2.2.2.2.2.2.2.2.1 0 0 false [] [] [] [] [] [] [] [] w.2.1 w.2.2.2.2.2.1 w.2.2.2.2.2.2.2.2.2.2.1 w.1 D5 w.2.2.2.1 w.2.2.2.2.1 EV FA Fl w.2.2.2.2.2.2.2.2.2.1=some ((((),w.2.1,(),(),(),w.2.2.2.2.2.1,(),(),(),(),w.2.2.2.2.2.2.2.2.2.2.1,()),()),(w.1,D5,w.2.2.2.1,w.2.2.2.2.1,EV,FA,(Fl++w.2.2.2.2.2.2.2.2.1.drop i),w.2.2.2.2.2.2.2.2.2.1,())):=by
 have xz:=h.Nz;have hl:=h.lens;intro n
 induction n with
 |zero=>omega
 |succ n ih=>
  intro i D5 EV FA Fl hi hn hb;simp only[CW,PX,AB];by_cases Dh:i<w.2.2.2.2.2.2.2.2.1.length
  ·have c1:(0:Int)≤(i:Int)∧(i:Int)<(w.2.2.2.2.2.2.2.2.1.length:Int):=by omega
   have c2:Fl.length+1≤Dw:=by rw[BX];omega
   rw[ALP c1.2,ALP c1,Aj Dh,AL (by omega) (by omega),show((i:Int)+1)=((i+1:Nat):Int)by omega,drop_cons Dh];have hm:=Aa (f:=A7) (AMk Dh);have hw:A7 w.2.2.2.2.2.2.2.2.1[i]=Af CM w.2.2.2.2.2.2.2.2.1[i].2.2.1:=rfl;have hlw:=AX (f:=CM) (l:=w.2.2.2.2.2.2.2.2.1[i].2.2.1);rw[show(w.2.2.2.2.2.2.2.2.1[i].1,w.2.2.2.2.2.2.2.2.1[i].2.1,w.2.2.2.2.2.2.2.2.1[i].2.2.1,())=w.2.2.2.2.2.2.2.2.1[i]from rfl,U2 (by omega)];simp only[AD];rw[ALP c2,ih (i+1) _ _ _ _ (by omega) (by omega) (by simp_all),AM_];rfl
  grind
theorem AIl:∀(n i:Nat) (D5:List AO) (EV:List AM) (FA:List As),i≤w.2.2.2.2.2.2.2.1.length→(w.2.2.2.2.2.2.2.1.length-i)+w.2.2.2.2.2.2.2.2.1.length+2≤n→FA.length≤i→
  CY n i w.1 w.2.1 w.2.2.1 w.2.2.2.1 w.2.2.2.2.1 w.2.2.2.2.2.1 w.2.2.2.2.2.2.1 w.2.2.2.2.2.2.2.1 w.2.2.2.2.2.2.2.2.1 w.2.2.2.2.2.2.2.2.2.1 w.2.2.2.2.2.2.2.2.2.2.1 0 0 false [] [] [] [] [] [] [] [] w.2.1 w.2.2.2.2.2.1 w.2.2.2.2.2.2.2.2.2.2.1 w.1 D5 w.2.2.2.1 w.2.2.2.2.1 EV FA [] w.2.2.2.2.2.2.2.2.2.1=some ((((),w.2.1,(),(),(),w.2.2.2.2.2.1,(),(),(),(),w.2.2.2.2.2.2.2.2.2.2.1,()),()),(w.1,D5,w.2.2.2.1,w.2.2.2.2.1,EV,(FA++w.2.2.2.2.2.2.2.1.drop i),w.2.2.2.2.2.2.2.2.1,w.2.2.2.2.2.2.2.2.2.1,())):=by
 have xz:=h.Nz;have hl:=h.lens;intro n
 induction n with
 |zero=>omega
 |succ n ih=>
  intro i D5 EV FA hi hn hb;simp only[CY,PT,AB];by_cases Dh:i<w.2.2.2.2.2.2.2.1.length
  ·have c1:(0:Int)≤(i:Int)∧(i:Int)<(w.2.2.2.2.2.2.2.1.length:Int):=by omega
   have c2:FA.length+1≤Dw:=by rw[BX];omega
   rw[ALP c1.2,ALP c1,Aj Dh,AL (by omega) (by omega),show((i:Int)+1)=((i+1:Nat):Int)by omega,drop_cons Dh];have hm:=Aa (f:=CL) (AMk Dh);rw[show(w.2.2.2.2.2.2.2.1[i].1,w.2.2.2.2.2.2.2.1[i].2.1,w.2.2.2.2.2.2.2.1[i].2.2.1,w.2.2.2.2.2.2.2.1[i].2.2.2.1,w.2.2.2.2.2.2.2.1[i].2.2.2.2.1,w.2.2.2.2.2.2.2.1[i].2.2.2.2.2.1,())=w.2.2.2.2.2.2.2.1[i]from rfl,Lt (by omega)];simp only[AD];rw[ALP c2,ih (i+1) _ _ _ (by omega) (by omega) (by simp_all),AM_];rfl
  ·have:=AIU h n 0 D5 EV FA [] (by omega) (by omega) (by simp)
   grind
theorem ARz:∀(n i:Nat) (D5:List AO) (EV:List AM),i≤w.2.2.2.2.2.2.1.length→(w.2.2.2.2.2.2.1.length-i)+w.2.2.2.2.2.2.2.1.length+w.2.2.2.2.2.2.2.2.1.length+3≤n→EV.length≤i→
  Cq n i w.1 w.2.1 w.2.2.1 w.2.2.2.1 w.2.2.2.2.1 w.2.2.2.2.2.1 w.2.2.2.2.2.2.1 w.2.2.2.2.2.2.2.1 w.2.2.2.2.2.2.2.2.1 w.2.2.2.2.2.2.2.2.2.1 w.2.2.2.2.2.2.2.2.2.2.1 0 0 false [] [] [] [] [] [] [] [] w.2.1 w.2.2.2.2.2.1 w.2.2.2.2.2.2.2.2.2.2.1 w.1 D5 w.2.2.2.1 w.2.2.2.2.1 EV [] [] w.2.2.2.2.2.2.2.2.2.1=some ((((),w.2.1,(),(),(),w.2.2.2.2.2.1,(),(),(),(),w.2.2.2.2.2.2.2.2.2.2.1,()),()),(w.1,D5,w.2.2.2.1,w.2.2.2.2.1,(EV++w.2.2.2.2.2.2.1.drop i),w.2.2.2.2.2.2.2.1,w.2.2.2.2.2.2.2.2.1,w.2.2.2.2.2.2.2.2.2.1,())):=by
 have xz:=h.Nz;have hl:=h.lens;intro n
 induction n with
 |zero=>omega
 |succ n ih=>
  intro i D5 EV hi hn hb;simp only[Cq,QT,AB];by_cases Dh:i<w.2.2.2.2.2.2.1.length
  ·have c1:(0:Int)≤(i:Int)∧(i:Int)<(w.2.2.2.2.2.2.1.length:Int):=by omega
   have c2:EV.length+1≤Dw:=by rw[BX];omega
   rw[ALP c1.2,ALP c1,Aj Dh,AL (by omega) (by omega),show((i:Int)+1)=((i+1:Nat):Int)by omega,drop_cons Dh];have hm:=Aa (f:=Ar) (AMk Dh);have hw:Ar w.2.2.2.2.2.2.1[i]=Af BF w.2.2.2.2.2.2.1[i].2.1:=rfl;rw[show(w.2.2.2.2.2.2.1[i].1,w.2.2.2.2.2.2.1[i].2.1,())=w.2.2.2.2.2.2.1[i]from rfl,SF (by omega)];simp only[AD];rw[ALP c2,ih (i+1) _ _ (by omega) (by omega) (by simp_all),AM_];rfl
  ·have:=AIl h n 0 D5 EV [] (by omega) (by omega) (by simp)
   grind
theorem ARu:∀(n i:Nat) (D5:List AO),i≤w.2.2.1.length→(w.2.2.1.length-i)+w.2.2.2.2.2.2.1.length+w.2.2.2.2.2.2.2.1.length+w.2.2.2.2.2.2.2.2.1.length+4≤n→D5.length≤i→
  Cc n i w.1 w.2.1 w.2.2.1 w.2.2.2.1 w.2.2.2.2.1 w.2.2.2.2.2.1 w.2.2.2.2.2.2.1 w.2.2.2.2.2.2.2.1 w.2.2.2.2.2.2.2.2.1 w.2.2.2.2.2.2.2.2.2.1 w.2.2.2.2.2.2.2.2.2.2.1 0 0 false [] [] [] [] [] [] [] [] w.2.1 w.2.2.2.2.2.1 w.2.2.2.2.2.2.2.2.2.2.1 w.1 D5 w.2.2.2.1 w.2.2.2.2.1 [] [] [] w.2.2.2.2.2.2.2.2.2.1=some ((((),w.2.1,(),(),(),w.2.2.2.2.2.1,(),(),(),(),w.2.2.2.2.2.2.2.2.2.2.1,()),()),(w.1,(D5++w.2.2.1.drop i),w.2.2.2.1,w.2.2.2.2.1,w.2.2.2.2.2.2.1,w.2.2.2.2.2.2.2.1,w.2.2.2.2.2.2.2.2.1,w.2.2.2.2.2.2.2.2.2.1,())):=by
 have xz:=h.Nz;have hl:=h.lens;intro n
 induction n with
 |zero=>omega
 |succ n ih=>
  intro i D5 hi hn hb;simp only[Cc,QV,AB];by_cases Dh:i<w.2.2.1.length
  ·have c1:(0:Int)≤(i:Int)∧(i:Int)<(w.2.2.1.length:Int):=by omega
   have c2:D5.length+1≤Dw:=by rw[BX];omega
   rw[ALP c1.2,ALP c1,Aj Dh,AL (by omega) (by omega),show((i:Int)+1)=((i+1:Nat):Int)by omega,drop_cons Dh];have hm:=Aa (f:=Ak) (AMk Dh);have hw:=Fz (s:=w.2.2.1[i]) (by omega);rw[show(w.2.2.1[i].1,w.2.2.1[i].2.1,w.2.2.1[i].2.2.1,())=w.2.2.1[i]from rfl,Nr hw.1 hw.2];simp only[AD];rw[ALP c2,ih (i+1) _ (by omega) (by omega) (by simp_all),AM_];rfl
  ·have:=ARz h n 0 D5 [] (by omega) (by omega) (by simp)
   grind
theorem nT:O7 w=some ((((),w.2.1,(),(),(),w.2.2.2.2.2.1,(),(),(),(),w.2.2.2.2.2.2.2.2.2.2.1,()),()),(w.1,w.2.2.1,w.2.2.2.1,w.2.2.2.2.1,w.2.2.2.2.2.2.1,w.2.2.2.2.2.2.2.1,w.2.2.2.2.2.2.2.2.1,w.2.2.2.2.2.2.2.2.2.1,())):=by
 have xz:=h.Nz;have hl:=h.lens;unfold O7 QX;have:=ARu h Ae 0 [] (by omega) (ATy (Ag (by omega))) (by simp);rw[show((0:Nat):Int)=0 from rfl,ATL,ATN]at this;rw[ALP (by rw[BX];omega),ALP (by rw[BX];omega),show(w.2.2.2.2.1,w.2.2.2.2.2.1,())=(B5 w)from rfl,Rm (by show Af CB w.2.2.2.2.1≤_;omega)];simp only[AD];rw[ALP (by rw[BX];omega)];exact this
end
end Go.M
end
section
set_option maxRecDepth 8000
namespace Go.M
open Go.M.H (AJ AO As Ab AA CO AN A4 AM AY Az Av BS Ak CL Af AX Aa Aq CB BF Ar A7 EC CM Cs C9)
def pkD(q:AA×Int):cK:=(((((),q.1.2.1,(),(),(),q.1.2.2.2.2.2.1,(),(),(),(),q.1.2.2.2.2.2.2.2.2.2.2.1,()),q.2,()),()),(q.1.1,q.1.2.2.1,q.1.2.2.2.1,q.1.2.2.2.2.1,q.1.2.2.2.2.2.2.1,q.1.2.2.2.2.2.2.2.1,q.1.2.2.2.2.2.2.2.2.1,q.1.2.2.2.2.2.2.2.2.2.1,()))
def AP7(q:AA×Int):dA:=(((((),q.1.2.1,(),(),(),q.1.2.2.2.2.2.1,(),(),(),(),q.1.2.2.2.2.2.2.2.2.2.2.1,()),q.2,()),()),(q.1.1,q.1.2.2.1,q.1.2.2.2.1,(),(),(),q.1.2.2.2.2.2.2.2.2.1,q.1.2.2.2.2.2.2.2.2.2.1,q.1.2.2.2.2.1,q.1.2.2.2.2.2.2.1,q.1.2.2.2.2.2.2.2.1,()))
def AFM(q:AA×Int):Kh:=(((((),q.1.2.1,(),(),(),q.1.2.2.2.2.2.1,(),(),(),(),q.1.2.2.2.2.2.2.2.2.2.2.1,()),q.2,()),()),(q.1.1,q.1.2.2.1,q.1.2.2.2.1,q.1.2.2.2.2.1,q.1.2.2.2.2.2.2.1,q.1.2.2.2.2.2.2.2.1,q.1.2.2.2.2.2.2.2.2.1,(),q.1.2.2.2.2.2.2.2.2.2.1,()))
def vS(q:AA×Int):JW:=(((((),q.1.2.1,(),(),(),q.1.2.2.2.2.2.1,(),(),(),(),q.1.2.2.2.2.2.2.2.2.2.2.1,()),q.2,()),()),(q.1.1,q.1.2.2.1,(),q.1.2.2.2.2.1,q.1.2.2.2.2.2.2.1,q.1.2.2.2.2.2.2.2.1,q.1.2.2.2.2.2.2.2.2.1,q.1.2.2.2.2.2.2.2.2.2.1,q.1.2.2.2.1,()))
def ARB(q:AA×Int):dP:=(((((),q.1.2.1,(),(),(),q.1.2.2.2.2.2.1,(),(),(),(),q.1.2.2.2.2.2.2.2.2.2.2.1,()),q.2,()),()),(q.1.1,q.1.2.2.1,q.1.2.2.2.1,q.1.2.2.2.2.1,q.1.2.2.2.2.2.2.1,(),q.1.2.2.2.2.2.2.2.2.1,q.1.2.2.2.2.2.2.2.2.2.1,q.1.2.2.2.2.2.2.2.1,()))
def AKR(q:AA×Int):bg:=(((((),q.1.2.1,(),(),(),q.1.2.2.2.2.2.1,(),(),(),(),q.1.2.2.2.2.2.2.2.2.2.2.1,()),q.2,()),()),(q.1.1,q.1.2.2.1,q.1.2.2.2.1,(),q.1.2.2.2.2.2.2.1,(),q.1.2.2.2.2.2.2.2.2.1,q.1.2.2.2.2.2.2.2.2.2.1,q.1.2.2.2.2.1,q.1.2.2.2.2.2.2.2.1,()))
def AFr(q:AA×Int):ON:=(((((),q.1.2.1,(),(),(),q.1.2.2.2.2.2.1,(),(),(),(),q.1.2.2.2.2.2.2.2.2.2.2.1,()),q.2,()),()),(q.1.1,q.1.2.2.1,q.1.2.2.2.1,q.1.2.2.2.2.1,(),q.1.2.2.2.2.2.2.2.1,q.1.2.2.2.2.2.2.2.2.1,q.1.2.2.2.2.2.2.2.2.2.1,q.1.2.2.2.2.2.2.1,()))
def AQU(q:AA×Int):iO:=(((((),q.1.2.1,(),(),(),q.1.2.2.2.2.2.1,(),(),(),(),q.1.2.2.2.2.2.2.2.2.2.2.1,()),q.2,()),()),(q.1.1,q.1.2.2.1,(),(),(),(),q.1.2.2.2.2.2.2.2.2.1,(),q.1.2.2.2.1,q.1.2.2.2.2.1,q.1.2.2.2.2.2.2.1,q.1.2.2.2.2.2.2.2.1,q.1.2.2.2.2.2.2.2.2.2.1,()))
theorem F4{α:Type}{x y:α}:(if(!true)=true then x else y)=y:=rfl
theorem Im{α:Type}{x y:α}:(if(!false)=true then x else y)=x:=rfl
structure AY1 (w:AA):Prop where
 c:w.1.length≤8
 st:w.2.2.1.length=w.1.length
 lost:w.2.2.2.1.length≤8
 era:Af CB w.2.2.2.2.1≤270
 aX:w.2.2.2.2.1.length≤30
 trim:DH w.2.2.2.2.2.1
 wr:w.2.2.2.2.2.2.1.length≤4
 md:w.2.2.2.2.2.2.2.1.length≤1
 rd:w.2.2.2.2.2.2.2.2.1.length=2
 se:w.2.2.2.2.2.2.2.2.2.1.length≤120
 ws:Af Ak w.2.2.1≤80008
 ww:Af Ar w.2.2.2.2.2.2.1≤12004
 aN:w.AH.length≤4
 iH:w.An.length=w.1.length
 Js:w.lost.length≤8
theorem Nn.nums{w:AA}(h:Nn w):AY1 w where
 c:=(Gh h.cfg).2.1
 st:=h.qh
 lost:=Hq h.lost
 era:=h.lj.w
 aX:=h.lj.n
 trim:=h.lj.tin
 wr:=h.rJ
 md:=h.yC
 rd:=h.mf
 se:=h.Qp
 ws:=by
  have:=GG (f:=Ak) (B:=10000) (N:=8) (l:=w.An) (by rw[h.qh];exact(Gh h.cfg).2.1) fun s hs=>(h.Ux hs).w
  omega
 ww:=by
  have:=GG (f:=Ar) (B:=3000) h.rJ fun x hx=>(h.AH x hx).1.w
  omega
 aN:=h.rJ
 iH:=h.qh
 Js:=Hq h.lost
section
variable{w:AA} (h:Nn w)
include h
theorem Nn.de{a:Int}(ha:BN a 0 ((w.AH.length:Int)-1)=true):(0≤a∧a<(w.2.2.2.2.2.2.1.length:Int))∧bG (AS w) (w.AH.getD a.toNat Bv)∧Af BF (w.AH.getD a.toNat Bv).2.1≤3000:=by
 have:=Ah.1 ha;have hi:a.toNat<w.AH.length:=by omega
 have hx:=(h.AH _ (BJ (d:=Bv) hi)).1;refine⟨?_,hx,hx.w⟩
 (try simp only[H.AA.An,H.AA.lost,H.AA.Ac,H.AA.trim,H.AA.AH,H.AA.BW,H.AA.AW,H.AA.BK,H.AA.ED,H.AA.BA,H.AA.EW,H.AA.HO,H.AA.A9,H.AA.Bj,H.AA.Cy,H.AA.C2,H.AA.FE,B5,AS]at*)
 omega
theorem Gk{e:Int}:(Ap (B5 w).1 e).length≤8:=by
 unfold Ap;split
 ·rename_i he
  have he':=Ah.1 he;exact Hq (N7 (h.lj.Ac _ (BJ (d:=GP) (by omega))).1)
 ·simp
theorem mi{d:BS}:V1 w.2.1 w.2.2.2.2.2.1 w.2.2.2.2.2.2.2.2.2.2.1 d w.1 w.2.2.1 w.2.2.2.1 w.2.2.2.2.1 w.2.2.2.2.2.2.1 w.2.2.2.2.2.2.2.1 w.2.2.2.2.2.2.2.2.1 w.2.2.2.2.2.2.2.2.2.1=some (AP7 (MD w d.2.1)):=by
 have k:=h.nums;have k1:=k.c;have k2:=k.wr;unfold V1 MD;rw[DI];by_cases h4:w.2.2.2.2.2.2.1.length=4
 ·rw[ALP (by omega),ALP h4];rfl
 have hm:(Ao d.2.1).length≤8:=by
  unfold Ao;split
  ·exact AQ4 (ASR _ _) (by simp)
  ·simp
 rw[ALo (by omega),ALo h4,X1];simp only[AD];rw[show(w.1,w.2.1,())=AS w from rfl,show(w.2.2.2.2.1,w.2.2.2.2.2.1,())=B5 w from rfl,nO (c:=AS w) (r:=B5 w) (by show w.1.length≤_;omega) (by have:=k.era;show Af CB w.2.2.2.2.1≤_;omega) k.trim (by omega)];simp only[AD,A5];rcases AKr (Ig (AS w) (B5 w) (Ao d.2.1)).2.2 with hq|hq
 ·rw[hq,ALP (by rw[BX];omega),F4];rfl
 ·rw[hq,Im];rfl
theorem kb{d:BS}:Tt w.2.1 w.2.2.2.2.2.1 w.2.2.2.2.2.2.2.2.2.2.1 d w.1 w.2.2.1 w.2.2.2.1 w.2.2.2.2.1 w.2.2.2.2.2.2.1 w.2.2.2.2.2.2.2.1 w.2.2.2.2.2.2.2.2.1 w.2.2.2.2.2.2.2.2.2.1=some (pkD (Ih w d.2.1 d.2.2.1 d.2.2.2.1)):=by
 have k:=h.nums;have k1:=k.c;have k2:=k.wr;have k3:=k.lost;have k4:=k.st;have Z6:=k.aN;have iI:=k.Js;have js:=k.iH;have k5:=k.era;unfold Tt Ih;rw[show(w.1,w.2.1,w.2.2.1,w.2.2.2.1,w.2.2.2.2.1,w.2.2.2.2.2.1,w.2.2.2.2.2.2.1,w.2.2.2.2.2.2.2.1,w.2.2.2.2.2.2.2.2.1,w.2.2.2.2.2.2.2.2.2.1,w.2.2.2.2.2.2.2.2.2.2.1,())=w from rfl,SB (by omega),IG (by omega) (by omega)];simp only[AD,A5,Cv];rcases AKr (BN d.2.1 0 ((w.AH.length:Int)-1))with h1|h1
 rotate_left
 ·rw[h1,Im];rfl
 obtain⟨x1,x2,x3⟩:=h.de h1;rw[h1,AMy,F4,ALP x1,Bd];simp only[AD]
 generalize hx:w.AH.getD d.2.1.toNat Bv=x at*
 rcases AKr (BN d.2.2.1 1 (x.2.1.length:Int))with h2|h2
 rotate_left
 ·rw[h2,Im];rfl
 have h2':=Ah.1 h2;rw[h2,AMy,F4];by_cases h3:Al w d.2.2.2.1=0
 rotate_left
 ·rw[ALo h3,ALP h3];rfl
 rw[ALP h3,ALo (show¬(Al w d.2.2.2.1≠0)from fun hh=>hh h3)];obtain⟨n1,n2,n3⟩:=EK h3;have n2':d.2.2.2.1<(w.2.2.1.length:Int):=n2;have hxl:=x2.n;have hxe:=x2.ep;rw[show(w.2.2.2.2.1,w.2.2.2.2.2.1,())=B5 w from rfl,FD (r:=B5 w) (by show Af CB w.2.2.2.2.1≤_;omega)];have UR:(Ap w.Ac x.1).length≤8:=Gk h;have hr:0≤d.2.2.2.1∧d.2.2.2.1<(w.2.2.1.length:Int):=⟨n1,n2'⟩;rw[show(B5 w).1=w.Ac from rfl];simp only[AD,ALP hr];rw[KQ (by omega),AL (by omega) (by omega),ALP (by omega),Ml (by omega) (by omega)];simp only[AD];have Ze:w.2.2.1.getD d.2.2.2.1.toNat ([],[],0,())=storeAt w d.2.2.2.1:=rfl;have hso:=h.store h3;have lR:=I5 (e:=x.1) (o:=d.2.2.1) hxe (by omega);rw[Ze,show((storeAt w d.2.2.2.1).1,(storeAt w d.2.2.2.1).2.1,(storeAt w d.2.2.2.1).2.2.1,())=storeAt w d.2.2.2.1 from rfl,Z0 (by have:=hso.w;omega) hso.sin (Jb lR.1)];simp only[AD,mP,putAt];rcases AKr ((Ap w.Ac x.1).contains d.2.2.2.1)with h5|h5
 rotate_left
 ·rw[h5,Im];rfl
 rw[h5,F4,AMy];have hwd:(x.2.1.getD (d.2.2.1-1).toNat ([],[],false,()))=x.2.1.getD (d.2.2.1-1).toNat LR:=rfl;rw[hwd];rcases AKr (GB (storeAt w d.2.2.2.1) (D6 x.1 d.2.2.1,0,false,(x.2.1.getD (d.2.2.1-1).toNat LR).1,())).2 with h6|h6
 rotate_left
 ·rw[h6];rfl
 rw[h6,AMy,ALP rfl];rfl
end
end Go.M
end
section
set_option maxRecDepth 8000
namespace Go.M
open Go.M.H (AJ AO As Ab AA CO AN A4 AM AY Az Av BS Ak CL Af AX Aa Aq CB BF Ar A7 EC CM Cs C9)
theorem kQ{α:Type}{f:α→Nat}{p:α→Bool}:∀{l:List α},Af f (l.filter p)≤Af f l
 |[]=>AQE _
 |x::l=>by
  have:=kQ (f:=f) (p:=p) (l:=l);grind[Af]
theorem xl{s:AO}{u:Int}(hs:fg s):fg (Bi s u).1:=by
 rcases AKr (Bi s u).2 with hq|hq
 ·exact(ag hq).2.1
 ·have:(Bi s u).1=s:=by
   unfold Bi at*;rw[DL.2 hs]at*;grind
  simp_all
section
variable{w:AA} (h:Nn w)
include h
theorem Nn.LX{n:Int}(hn:Al w n=0):(0≤n∧n<(w.2.2.1.length:Int))∧Ak (storeAt w n)≤2^30∧qw (storeAt w n)∧fg (storeAt w n):=by
 obtain⟨n1,n2,n3⟩:=EK hn;have:=(h.store hn).w;exact⟨⟨n1,n2⟩,by omega,(h.store hn).sin,h.store hn⟩
theorem lV{d:BS}:T3 w.2.1 w.2.2.2.2.2.1 w.2.2.2.2.2.2.2.2.2.2.1 d w.1 w.2.2.1 w.2.2.2.1 w.2.2.2.2.1 w.2.2.2.2.2.2.1 w.2.2.2.2.2.2.2.1 w.2.2.2.2.2.2.2.2.1 w.2.2.2.2.2.2.2.2.2.1=some (pkD (if d.1=16 then Ie w d.2.1 else IY w d.2.1 d.2.2.1)):=by
 have k:=h.nums;have k1:=k.c;have k2:=k.wr;have k3:=k.lost;have k4:=k.st;have Z6:=k.aN;have iI:=k.Js;have js:=k.iH;have k5:=k.era;unfold T3 Ie IY;rw[show(w.1,w.2.1,w.2.2.1,w.2.2.2.1,w.2.2.2.2.1,w.2.2.2.2.2.1,w.2.2.2.2.2.2.1,w.2.2.2.2.2.2.2.1,w.2.2.2.2.2.2.2.2.1,w.2.2.2.2.2.2.2.2.2.1,w.2.2.2.2.2.2.2.2.2.2.1,())=w from rfl,IG (by omega) (by omega)];simp only[AD,A5,Cv,DI];by_cases h3:Al w d.2.1=0
 rotate_left
 ·rw[ALo h3]
  by_cases h16:d.1=16
  ·rw[ALP h16,ALP h3];rfl
  ·rw[ALo h16,ALP h3];rfl
 obtain⟨hr,s1,s2,s3⟩:=h.LX h3;have Ze:w.2.2.1.getD d.2.1.toNat ([],[],0,())=storeAt w d.2.1:=rfl;have hn3: ¬(Al w d.2.1≠0):=fun hh=>hh h3
 rw[ALP h3];simp only[ALP hr,Ze,ALo hn3];rw[show((storeAt w d.2.1).1,(storeAt w d.2.1).2.1,(storeAt w d.2.1).2.2.1,())=storeAt w d.2.1 from rfl,Wg s1 s2,jR s1 s2 k.trim];simp only[AD,mP,putAt];by_cases h16:d.1=16
 ·rw[ALP h16,ALP h16]
  rcases AKr (GI (storeAt w d.2.1) w.2.2.2.2.2.1).2 with h6|h6
  ·rw[h6];rfl
  ·rw[h6];rfl
 ·rw[ALo h16,ALo h16]
  rcases AKr (D9 (storeAt w d.2.1) d.2.2.1).2 with h6|h6
  ·rw[h6];rfl
  ·rw[h6];rfl
theorem nX{d:BS}:Vv w.2.1 w.2.2.2.2.2.1 w.2.2.2.2.2.2.2.2.2.2.1 d w.1 w.2.2.1 w.2.2.2.1 w.2.2.2.2.1 w.2.2.2.2.2.2.1 w.2.2.2.2.2.2.2.1 w.2.2.2.2.2.2.2.2.1 w.2.2.2.2.2.2.2.2.2.1=some (vS (MW w d.2.1)):=by
 have k:=h.nums;have k1:=k.c;have k2:=k.wr;have k3:=k.lost;have k4:=k.st;have Z6:=k.aN;have iI:=k.Js;have js:=k.iH;have k5:=k.era;have k6:=k.ws;have k6':Af Ak w.An≤80008:=k.ws;have k7:=k.aX;unfold Vv MW;rw[KQ (by omega)];simp only[AD,A5];rcases AKr (w.2.2.2.1.contains d.2.1)with h1|h1
 rotate_left
 ·rw[h1];rfl
 rw[h1,F4,AMy,AL (by omega) (by omega),Km];simp only[AD];rw[show(w.1,w.2.1,())=AS w from rfl,vV (c:=AS w) (by show w.1.length≤_;omega) (by omega) (fun s hs=>by have:=(h.Ux hs).nk;omega) (by omega) (fun s hs=>(h.Ux hs).sin) (by omega)];simp only[AD,pkF];rcases AKr (Xf (AS w) w.2.2.1 w.2.2.2.1 d.2.1 (max ((w.2.2.2.2.1.length:Int)-1) 0)).2 with h2|h2
 rotate_left
 ·rw[h2];rfl
 have hm:d.2.1∈w.lost:=by
  simp_all
 have hn:=(ER.1 h.lost).2.1 d.2.1 hm;have hn':d.2.1<(w.1.length:Int):=hn.2;rw[h2,AMy,F4,ALP (show 0≤d.2.1∧d.2.1<(w.2.2.1.length:Int)from⟨hn.1,by omega⟩),JU (by omega) (by simp)];rfl
theorem nH:Vx w.2.1 w.2.2.2.2.2.1 w.2.2.2.2.2.2.2.2.2.2.1 w.1 w.2.2.1 w.2.2.2.1 w.2.2.2.2.1 w.2.2.2.2.2.2.1 w.2.2.2.2.2.2.2.1 w.2.2.2.2.2.2.2.2.1 w.2.2.2.2.2.2.2.2.2.1=some (ARB (MN w)):=by
 have k:=h.nums;have k1:=k.c;have k2:=k.wr;have k3:=k.lost;have k4:=k.st;have Z6:=k.aN;have iI:=k.Js;have js:=k.iH;have k5:=k.era;have k7:=k.aX;unfold Vx MN;rw[show(w.2.2.2.2.1,w.2.2.2.2.2.1,())=B5 w from rfl,NS (r:=B5 w) (by show w.2.2.2.2.1.length≤_;omega)];simp only[AD,DI,AB];rw[show(B5 w).1=w.Ac from rfl];by_cases h1:(w.2.2.2.2.1.length:Int)<2
 ·rw[ALP h1,show(decide ((w.2.2.2.2.1.length:Int)<2)||decide (A8 w.2.2.2.2.1=(w.2.2.2.2.1.length:Int)))=true by simp_all];rfl
 rw[ALo h1];by_cases h2:A8 w.2.2.2.2.1=(w.2.2.2.2.1.length:Int)
 ·rw[ALP h2,show(decide ((w.2.2.2.2.1.length:Int)<2)||decide (A8 w.2.2.2.2.1=(w.2.2.2.2.1.length:Int)))=true by simp_all];rfl
 rw[ALo h2,show(decide ((w.2.2.2.2.1.length:Int)<2)||decide (A8 w.2.2.2.2.1=(w.2.2.2.2.1.length:Int)))=false by simp_all];rw[ALo (show¬(false=true)by simp)];by_cases h3:w.2.2.2.2.2.2.2.1.length>0
 ·rw[ALP (by omega),ALP h3];rfl
 ·rw[ALo (by omega),ALo h3];rfl
theorem mw{d:BS}:WM w.2.1 w.2.2.2.2.2.1 w.2.2.2.2.2.2.2.2.2.2.1 d w.1 w.2.2.1 w.2.2.2.1 w.2.2.2.2.1 w.2.2.2.2.2.2.1 w.2.2.2.2.2.2.2.1 w.2.2.2.2.2.2.2.2.1 w.2.2.2.2.2.2.2.2.2.1=some (pkD (MX w d.2.1)):=by
 have k:=h.nums;have k1:=k.c;have k2:=k.wr;have k3:=k.lost;have k4:=k.st;have Z6:=k.aN;have iI:=k.Js;have js:=k.iH;have k5:=k.era;unfold WM MX;rcases hm:w.BW with _|⟨m,ms⟩
 ·rw[DI,ALP (by simp_all)];rfl
 have oH:w.2.2.2.2.2.2.2.1=m::ms:=hm;have vf:w.2.2.2.2.2.2.2.1.length=ms.length+1:=by simp_all
 have g0:w.2.2.2.2.2.2.2.1.getD 0 (0,0,[],[],false,[],())=m:=by simp_all
 have zD:(0:Int)≤(0:Int)∧(0:Int)<(w.2.2.2.2.2.2.2.1.length:Int):=by omega
 have ZM:=(h.BW m (by simp_all)).1;have hmw:=ZM.w;have oh:=ZM.ep;have hmb:=ZM.b;simp only[DI,A5,Cv,ALP zD,g0];rw[ALo (by omega)];rw[show(w.1,w.2.1,w.2.2.1,w.2.2.2.1,w.2.2.2.2.1,w.2.2.2.2.2.1,w.2.2.2.2.2.2.1,w.2.2.2.2.2.2.2.1,w.2.2.2.2.2.2.2.2.1,w.2.2.2.2.2.2.2.2.2.1,w.2.2.2.2.2.2.2.2.2.2.1,())=w from rfl,IG (by omega) (by omega),show(w.2.2.2.2.1,w.2.2.2.2.2.1,())=B5 w from rfl,FD (r:=B5 w) (by show Af CB w.2.2.2.2.1≤_;omega)];have UR:(Ap w.Ac m.2.1).length≤8:=Gk h;rw[show(B5 w).1=w.Ac from rfl];simp only[AD];rw[KQ (by omega)];simp only[AD];by_cases h3:Al w d.2.1=0
 rotate_left
 ·rw[ALo h3,ALP h3];rfl
 obtain⟨hr,s1,s2,s3⟩:=h.LX h3;have Ze:w.2.2.1.getD d.2.1.toNat ([],[],0,())=storeAt w d.2.1:=rfl;have hn3: ¬(Al w d.2.1≠0):=fun hh=>hh h3
 rw[ALP h3,ALo hn3];simp only[ALP hr,Ze];rcases AKr ((Ap w.Ac m.2.1).contains d.2.1)with h5|h5
 rotate_left
 ·rw[h5,Im];rfl
 rw[h5,F4,AMy,AL (by omega) (by omega),show((storeAt w d.2.1).1,(storeAt w d.2.1).2.1,(storeAt w d.2.1).2.2.1,())=storeAt w d.2.1 from rfl,iP s1 s2];have hq:=xl (u:=m.1-1) s3;have hqw:=hq.w;simp only[AD,mP];rw[show((Bi (storeAt w d.2.1) (m.1-1)).1.1,(Bi (storeAt w d.2.1) (m.1-1)).1.2.1,(Bi (storeAt w d.2.1) (m.1-1)).1.2.2.1,())=(Bi (storeAt w d.2.1) (m.1-1)).1 from rfl,lA (by omega) hq.sin];simp only[AD];have hes:(F8 (Bi (storeAt w d.2.1) (m.1-1)).1 m.2.1).length≤200∧rE (F8 (Bi (storeAt w d.2.1) (m.1-1)).1 m.2.1)∧Af Aq (F8 (Bi (storeAt w d.2.1) (m.1-1)).1 m.2.1)≤10000:=by
  unfold F8;rw[DL.2 hq,ALP rfl];refine⟨AQ4 (ASR _ _) hq.nk,fun e he=>hq.sin.1 e (ATU.1 he).1,AQ4 kQ ?_⟩;have:Ak (Bi (storeAt w d.2.1) (m.1-1)).1=Af Aq (Bi (storeAt w d.2.1) (m.1-1)).1.1+Af Aq (Bi (storeAt w d.2.1) (m.1-1)).1.2.1:=rfl;omega
 rw[show(m.1,m.2.1,m.2.2.1,m.2.2.2.1,m.2.2.2.2.1,m.2.2.2.2.2.1,())=m from rfl,show(w.1,w.2.1,())=AS w from rfl,lY (c:=AS w) (by show w.1.length≤_;omega) (by omega) ZM.ein (by omega) hes.2.1 (by omega)];simp only[AD,ij];rcases AKr (Bi (storeAt w d.2.1) (m.1-1)).2 with h6|h6
 rotate_left
 ·rw[h6,ATH,AXg,ALP rfl];rfl
 rw[h6,AMO,ASZ];rcases AKr (K3 (AS w) m d.2.1 (F8 (Bi (storeAt w d.2.1) (m.1-1)).1 m.2.1)).2 with h7|h7
 rotate_left
 ·rw[h7,Im];rfl
 rw[h7,F4,AMy,AMy,oH];rfl
theorem my:V3 w.2.1 w.2.2.2.2.2.1 w.2.2.2.2.2.2.2.2.2.2.1 w.1 w.2.2.1 w.2.2.2.1 w.2.2.2.2.1 w.2.2.2.2.2.2.1 w.2.2.2.2.2.2.2.1 w.2.2.2.2.2.2.2.2.1 w.2.2.2.2.2.2.2.2.2.1=some (pkD (L4 w)):=by
 have k:=h.nums;have k1:=k.c;have k2:=k.wr;have k3:=k.lost;have k4:=k.st;have Z6:=k.aN;have iI:=k.Js;have js:=k.iH;have k5:=k.era;unfold V3 L4;rcases hm:w.BW with _|⟨m,ms⟩
 ·rw[DI,ALP (by simp_all)];rfl
 have oH:w.2.2.2.2.2.2.2.1=m::ms:=hm;have vf:w.2.2.2.2.2.2.2.1.length=ms.length+1:=by simp_all
 have g0:w.2.2.2.2.2.2.2.1.getD 0 (0,0,[],[],false,[],())=m:=by simp_all
 have zD:(0:Int)≤(0:Int)∧(0:Int)<(w.2.2.2.2.2.2.2.1.length:Int):=by omega
 have ZM:=(h.BW m (by simp_all)).1;have hmw:=ZM.w;have oh:=ZM.ep;have hmb:=ZM.b;simp only[DI,A5,Cv,ALP zD,g0];rw[ALo (by omega)];rw[show(w.2.2.2.2.1,w.2.2.2.2.2.1,())=B5 w from rfl,FD (r:=B5 w) (by show Af CB w.2.2.2.2.1≤_;omega)];have UR:(Ap w.Ac m.2.1).length≤8:=Gk h;rw[show(B5 w).1=w.Ac from rfl];simp only[AD];rw[show(m.1,m.2.1,m.2.2.1,m.2.2.2.1,m.2.2.2.2.1,m.2.2.2.2.2.1,())=m from rfl,show(w.1,w.2.1,())=AS w from rfl,lG (c:=AS w) (by show w.1.length≤_;omega) (by omega) ZM.ein (by omega)];simp only[AD,ij];rcases AKr (IP (AS w) m (Ap w.Ac m.2.1)).2 with h7|h7
 rotate_left
 ·rw[h7,Im];rfl
 rw[h7,F4,AMy,oH];rfl
theorem qo{d:BS}:Yr w.2.1 w.2.2.2.2.2.1 w.2.2.2.2.2.2.2.2.2.2.1 d w.1 w.2.2.1 w.2.2.2.1 w.2.2.2.2.1 w.2.2.2.2.2.2.1 w.2.2.2.2.2.2.2.1 w.2.2.2.2.2.2.2.2.1 w.2.2.2.2.2.2.2.2.2.1=some (pkD (SV w d.2.2.1 d.2.2.2.1)):=by
 have k:=h.nums;have k1:=k.c;have k2:=k.wr;have k3:=k.lost;have k4:=k.st;have Z6:=k.aN;have iI:=k.Js;have js:=k.iH;have k5:=k.era;unfold Yr SV;rcases hm:w.BW with _|⟨m,ms⟩
 ·rw[DI,ALP (by simp_all)];rfl
 have oH:w.2.2.2.2.2.2.2.1=m::ms:=hm;have vf:w.2.2.2.2.2.2.2.1.length=ms.length+1:=by simp_all
 have g0:w.2.2.2.2.2.2.2.1.getD 0 (0,0,[],[],false,[],())=m:=by simp_all
 have zD:(0:Int)≤(0:Int)∧(0:Int)<(w.2.2.2.2.2.2.2.1.length:Int):=by omega
 have ZM:=(h.BW m (by simp_all)).1;have hmw:=ZM.w;have oh:=ZM.ep;have hmb:=ZM.b;simp only[DI,A5,Cv,ALP zD,g0];rw[ALo (by omega)];rw[show(m.1,m.2.1,m.2.2.1,m.2.2.2.1,m.2.2.2.2.1,m.2.2.2.2.2.1,())=m from rfl,YZ (m:=m) (by omega),show(w.1,w.2.1,w.2.2.1,w.2.2.2.1,w.2.2.2.2.1,w.2.2.2.2.2.1,w.2.2.2.2.2.2.1,w.2.2.2.2.2.2.2.1,w.2.2.2.2.2.2.2.2.1,w.2.2.2.2.2.2.2.2.2.1,w.2.2.2.2.2.2.2.2.2.2.1,())=w from rfl,IG (by omega) (by omega),show(w.2.2.2.2.1,w.2.2.2.2.2.1,())=B5 w from rfl,FD (r:=B5 w) (by show Af CB w.2.2.2.2.1≤_;omega)];have UR:(Ap w.Ac m.2.1).length≤8:=Gk h;rw[show(B5 w).1=w.Ac from rfl];simp only[AD];rw[KQ (by omega)];simp only[AD];have PY:∀e,De m d.2.2.1=some e→DH e.1:=fun e he=>by
  unfold De at he;split at he
  ·rename_i hc
   simp only[AMC,Ah]at hc;grind[I5,Jb]
  simp_all
 cases he:De m d.2.2.1 with
 |none=>rfl
 |some e=>
 simp only[ATY,AMy,ATb];by_cases h3:Al w d.2.2.2.1=0
 rotate_left
 ·rw[ALo h3,ALP h3];rfl
 obtain⟨hr,s1,s2,s3⟩:=h.LX h3;have Ze:w.2.2.1.getD d.2.2.2.1.toNat ([],[],0,())=storeAt w d.2.2.2.1:=rfl;have hn3: ¬(Al w d.2.2.2.1≠0):=fun hh=>hh h3
 rw[ALP h3,ALo hn3];simp only[ALP hr,Ze];rcases AKr ((Ap w.Ac m.2.1).contains d.2.2.2.1)with h5|h5
 rotate_left
 ·rw[h5,Im];rfl
 rw[h5,F4,AMy,show((storeAt w d.2.2.2.1).1,(storeAt w d.2.2.2.1).2.1,(storeAt w d.2.2.2.1).2.2.1,())=storeAt w d.2.2.2.1 from rfl,show(e.1,e.2.1,e.2.2.1,e.2.2.2.1,())=e from rfl,Z0 s1 s2 (PY e he)];simp only[AD,mP,putAt];rcases AKr (GB (storeAt w d.2.2.2.1) e).2 with h6|h6
 ·rw[h6];rfl
 ·rw[h6];rfl
theorem kq:Tz w.2.1 w.2.2.2.2.2.1 w.2.2.2.2.2.2.2.2.2.2.1 w.1 w.2.2.1 w.2.2.2.1 w.2.2.2.2.1 w.2.2.2.2.2.2.1 w.2.2.2.2.2.2.2.1 w.2.2.2.2.2.2.2.2.1 w.2.2.2.2.2.2.2.2.2.1=some (AKR (Ik w)):=by
 have k:=h.nums;have k1:=k.c;have k2:=k.wr;have k3:=k.lost;have k4:=k.st;have Z6:=k.aN;have iI:=k.Js;have js:=k.iH;have k5:=k.era;unfold Tz Ik;rcases hm:w.BW with _|⟨m,ms⟩
 ·rw[DI,ALP (by simp_all)];rfl
 have oH:w.2.2.2.2.2.2.2.1=m::ms:=hm;have vf:w.2.2.2.2.2.2.2.1.length=ms.length+1:=by simp_all
 have g0:w.2.2.2.2.2.2.2.1.getD 0 (0,0,[],[],false,[],())=m:=by simp_all
 have zD:(0:Int)≤(0:Int)∧(0:Int)<(w.2.2.2.2.2.2.2.1.length:Int):=by omega
 have ZM:=(h.BW m (by simp_all)).1;have hmw:=ZM.w;have oh:=ZM.ep;have hmb:=ZM.b;simp only[DI,A5,Cv,ALP zD,g0];rw[ALo (by omega)];rw[show(m.1,m.2.1,m.2.2.1,m.2.2.2.1,m.2.2.2.2.1,m.2.2.2.2.2.1,())=m from rfl,show(w.1,w.2.1,())=AS w from rfl,iv (c:=AS w) (by show w.1.length≤_;omega) (by omega) ZM.ein];simp only[AD];rcases AKr (PF (AS w) m)with h5|h5
 rotate_left
 ·rw[h5,Im];rfl
 rw[h5,F4,AMy,show(w.2.2.2.2.1,w.2.2.2.2.2.1,())=B5 w from rfl,kH (c:=AS w) (r:=B5 w) (by show w.1.length≤_;omega) (by show Af CB w.2.2.2.2.1≤_;omega) k.trim];simp only[AD,pkR];rcases AKr (Mo (AS w) (B5 w) m.1 m.2.2.2.2.2.1.length).2 with h6|h6
 ·rw[h6];rfl
 ·rw[h6];rfl
theorem nC{d:BS}:Vy w.2.1 w.2.2.2.2.2.1 w.2.2.2.2.2.2.2.2.2.2.1 d w.1 w.2.2.1 w.2.2.2.1 w.2.2.2.2.1 w.2.2.2.2.2.2.1 w.2.2.2.2.2.2.2.1 w.2.2.2.2.2.2.2.2.1 w.2.2.2.2.2.2.2.2.2.1=some (pkD (IK w d.2.1 d.2.2.1)):=by
 have k:=h.nums;have k1:=k.c;have k2:=k.wr;have k3:=k.lost;have k4:=k.st;have Z6:=k.aN;have iI:=k.Js;have js:=k.iH;have k5:=k.era;have k6:=k.ws;have k6':Af Ak w.An≤80008:=k.ws;have k7:=k.ww;have k8:=k.rd;unfold Vy IK;rw[Bd];simp only[AD,A5,Cv];rcases AKr (BN d.2.1 0 1)with h1|h1
 rotate_left
 ·rw[h1];rfl
 have h1':=Ah.1 h1;have hr:0≤d.2.1∧d.2.1<(w.2.2.2.2.2.2.2.2.1.length:Int):=by omega
 have Lu:d.2.1.toNat<w.AW.length:=by
  simp_all
 have ZG:=h.AW _ (BJ (d:=Au) Lu);simp only[ALP hr];rw[h1,F4,AMy,show(w.1,w.2.1,w.2.2.1,w.2.2.2.1,w.2.2.2.2.1,w.2.2.2.2.2.1,w.2.2.2.2.2.2.1,w.2.2.2.2.2.2.2.1,w.2.2.2.2.2.2.2.2.1,w.2.2.2.2.2.2.2.2.2.1,w.2.2.2.2.2.2.2.2.2.2.1,())=w from rfl]
 generalize hx:w.AW.getD d.2.1.toNat Au=r at*
 have hre:=ZG.ep;have hro:=ZG.off;rw[pE (by grind),show(r.1,r.2.1,r.2.2.1,())=r from rfl,gm (by omega) (by omega) (by omega) (by omega)];simp only[AD];have ha:∀a∈answers w (D6 r.1 r.2.1) (Ao d.2.2.1),DH a.2.2.1:=fun a ha=>by
  unfold answers at ha;obtain⟨n,hn,rfl⟩:=ATd.1 ha;have hn':Al w n=0:=by simp_all
  unfold answer;split
  ·rename_i e he
   have:=(h.store hn').kept e (ATk he);exact Jb (FX.1 this).pl
  ·exact⟨by simp_all,by simp_all⟩
 have hal:(answers w (D6 r.1 r.2.1) (Ao d.2.2.1)).length≤8:=by
  unfold answers;rw[AXX];refine AQ4 (ASR _ _) ?_
  unfold Ao;split
  ·exact AQ4 (ASR _ _) (by simp)
  ·simp
 rw[show(w.1,w.2.1,())=AS w from rfl,show(w.2.2.2.2.1,w.2.2.2.2.2.1,())=B5 w from rfl,iA (c:=AS w) (g:=B5 w) (by show w.1.length≤_;omega) (by show Af CB w.2.2.2.2.1≤_;omega) k.trim (by omega) ha];simp only[AD,zm];by_cases h2:(B3 (AS w) (B5 w) (U0 w r.1) r (answers w (D6 r.1 r.2.1) (Ao d.2.2.1))).2=0
 ·rw[ALP h2,ALo (fun hh=>hh h2)];rfl
 ·rw[ALo h2,ALP h2];rfl
end
end Go.M
end
section
set_option maxRecDepth 8000
namespace Go.M
open Go.M.H (AJ AO As Ab AA CO AN A4 AM AY Az Av BS Ak CL Af AX Aa Aq CB BF Ar A7 EC CM Cs C9)
section
variable{w:AA} (h:Nn w)
include h
theorem AOe{ws:List AM}{s:Ab}:∀(n i:Nat) (t:Bool) (b:List Ab),i≤w.2.2.2.2.2.2.2.2.2.1.length→w.2.2.2.2.2.2.2.2.2.1.length-i<n→b.length≤2*i+2→
  Jz n t i w.1 w.2.2.1 w.2.2.2.1 w.2.2.2.2.1 ws w.2.2.2.2.2.2.2.1 w.2.2.2.2.2.2.2.2.1 w.2.2.2.2.2.2.2.2.2.1 w.2.1 w.2.2.2.2.2.1 w.2.2.2.2.2.2.2.2.2.2.1 0 0 false [] [] [] [] [] [] [] [] s.1 s.2.1 s.2.2.1 b=some (AFM (((w.A9 ws).C2 (b++(if t then w.2.2.2.2.2.2.2.2.2.1.drop i else Xy s (w.2.2.2.2.2.2.2.2.2.1.drop i)))),0)):=by
 have k6:=h.nums.se;intro n
 induction n with
 |zero=>omega
 |succ n ih=>
  intro i t b hi hn hb;simp only[Jz,XZ,AB,A5];have c2:b.length+1≤Dw:=by rw[BX];omega
  by_cases Dh:i<w.2.2.2.2.2.2.2.2.2.1.length
  ·have c1:(0:Int)≤(i:Int)∧(i:Int)<(w.2.2.2.2.2.2.2.2.2.1.length:Int):=by omega
   have c3:(b++[(s.1,s.2.1,s.2.2.1,())]).length+1≤Dw:=by grind[BX]
   rw[ALP c1.2];simp only[ALP c1,ALP c2,ALP c3];rw[Aj Dh,AL (by omega) (by omega),show((i:Int)+1)=((i+1:Nat):Int)by omega,drop_cons Dh,show(w.2.2.2.2.2.2.2.2.2.1[i].1,w.2.2.2.2.2.2.2.2.2.1[i].2.1,w.2.2.2.2.2.2.2.2.2.1[i].2.2.1,())=w.2.2.2.2.2.2.2.2.2.1[i]from rfl];cases t with
   |true=>
    rw[AMy,ih (i+1) true _ (by omega) (by omega) (by grind),ALP rfl,ALP rfl,AM_];rfl
   |false=>
    rw[AMh,ALo (show¬(false=true)by simp)];simp only[Xy];by_cases hg:w.2.2.2.2.2.2.2.2.2.1[i].1>s.1
    ·rw[ALP hg,ALP hg,ih (i+1) true _ (by omega) (by omega) (by grind),ALP rfl,AM_,AM_]
     rfl
    ·rw[ALo hg,ALo hg,ih (i+1) false _ (by omega) (by omega) (by grind),ALo (show¬(false=true)by simp),AM_]
     rfl
  ·rw[ALo (by omega),AMo (by omega)]
   cases t with
   |true=>rw[AMy,ALP rfl,AM3];rfl
   |false=>rw[AMh,ALP c2];rfl
theorem AUP{ws:List AM}{s:Ab}:∀(n i:Nat),i≤w.2.2.2.2.2.2.2.2.2.1.length→(w.2.2.2.2.2.2.2.2.2.1.length-i)+w.2.2.2.2.2.2.2.2.2.1.length+2≤n→
  LZ n i w.1 w.2.2.1 w.2.2.2.1 w.2.2.2.2.1 ws w.2.2.2.2.2.2.2.1 w.2.2.2.2.2.2.2.2.1 w.2.2.2.2.2.2.2.2.2.1 w.2.1 w.2.2.2.2.2.1 w.2.2.2.2.2.2.2.2.2.2.1 0 0 false [] [] [] [] [] [] [] [] s.1 s.2.1 s.2.2.1=some (AFM (if(w.2.2.2.2.2.2.2.2.2.1.drop i).any (fun x=>x.1==s.1)then(w.A9 ws,4)else(((w.A9 ws).C2 (Xy s w.2.2.2.2.2.2.2.2.2.1)),0))):=by
 have k6:=h.nums.se;intro n
 induction n with
 |zero=>omega
 |succ n ih=>
  intro i hi hn;simp only[LZ,Yl,AB,DI];by_cases Dh:i<w.2.2.2.2.2.2.2.2.2.1.length
  ·have c1:(0:Int)≤(i:Int)∧(i:Int)<(w.2.2.2.2.2.2.2.2.2.1.length:Int):=by omega
   rw[ALP c1.2,ALP c1,Aj Dh,AL (by omega) (by omega),show((i:Int)+1)=((i+1:Nat):Int)by omega,drop_cons Dh,ih (i+1) (by omega) (by omega),List.any_cons];by_cases he:w.2.2.2.2.2.2.2.2.2.1[i].1=s.1
   ·rw[ALP he,show(w.2.2.2.2.2.2.2.2.2.1[i].1==s.1)=true by simp_all,AXg,ALP rfl]
    rfl
   ·rw[ALo he,show(w.2.2.2.2.2.2.2.2.2.1[i].1==s.1)=false by simp_all,ASZ]
  ·have:=AOe h (ws:=ws) (s:=s) n 0 false [] (by omega) (by omega) (by simp)
   grind
theorem oI{d:BS}(hd:d.2.2.2.2.1.length≤40):∃w',YC w.2.1 w.2.2.2.2.2.1 w.2.2.2.2.2.2.2.2.2.2.1 d w.1 w.2.2.1 w.2.2.2.1 w.2.2.2.2.1 w.2.2.2.2.2.2.1 w.2.2.2.2.2.2.2.1 w.2.2.2.2.2.2.2.2.1 w.2.2.2.2.2.2.2.2.2.1=some (AFM (w',(doAdd w d.2.1 d.2.2.2.2.1).2))∧((doAdd w d.2.1 d.2.2.2.2.1).2=0→w' =(doAdd w d.2.1 d.2.2.2.2.1).1):=by
 have k:=h.nums;have k1:=k.c;have k2:=k.wr;have k3:=k.lost;have k4:=k.st;have Z6:=k.aN;have iI:=k.Js;have js:=k.iH;have k5:=k.era;unfold YC YK doAdd;rw[show(w.1,w.2.1,w.2.2.1,w.2.2.2.1,w.2.2.2.2.1,w.2.2.2.2.2.1,w.2.2.2.2.2.2.1,w.2.2.2.2.2.2.2.1,w.2.2.2.2.2.2.2.2.1,w.2.2.2.2.2.2.2.2.2.1,w.2.2.2.2.2.2.2.2.2.2.1,())=w from rfl,SB (by omega)];simp only[AD,A5,DI];rcases AKr (BN d.2.1 0 ((w.AH.length:Int)-1))with h1|h1
 rotate_left
 ·rw[h1];exact⟨w,rfl,fun _=>rfl⟩
 obtain⟨x1,x2,x3⟩:=h.de h1;simp only[h1,AMy,F4,ALP x1]
 generalize hx:w.AH.getD d.2.1.toNat Bv=x at*
 rw[show(x.1,x.2.1,())=x from rfl,show(w.1,w.2.1,())=AS w from rfl,jQ (c:=AS w) (w:=x) (by show w.1.length≤_;omega) (by omega) (by omega)];simp only[AD];rcases AKr (CI (AS w) x d.2.2.2.2.1).2.2 with h2|h2
 rotate_left
 ·rw[h2];exact⟨w,rfl,fun _=>rfl⟩
 obtain⟨_,r1,r2,r3⟩:=WJ h2;rw[r2]at r1;have yr:=r1.n;simp only[AOs,ANL,AQO]at yr;have hxe:=x2.ep;rw[h2,AMy,r3,r2];rw[Ml (by omega) (by omega)];simp only[AD,AMO,ASZ];by_cases h3:w.2.2.2.2.2.2.2.2.2.1.length=120
 ·rw[ALP (by omega),show decide (w.BK.length=120)=true from AR7 h3,AXg,ALP rfl];exact⟨w,rfl,fun hh=>by rfl⟩
 have:=AUP h (ws:=w.AH.set d.2.1.toNat (x.1,x.2.1++[(d.2.2.2.2.1,[],false,())],())) (s:=(D6 x.1 ((x.2.1.length:Int)+1),d.2.2.2.2.1,false,())) Ae 0 (by omega) (ATy (Ag (by have:=h.nums.se;omega)));grind
end
end Go.M
end
section
set_option maxRecDepth 8000
namespace Go.M
open Go.M.H (AJ AO As Ab AA CO AN A4 AM AY Az Av BS Ak CL Af AX Aa Aq CB BF Ar A7 EC CM Cs C9)
section
variable{w:AA} (h:Nn w)
include h
theorem ARL{d:BS}{a:Nat}(ha:d.2.1=(a:Int)):∀(n i:Nat) (b:List AM),i≤w.2.2.2.2.2.2.1.length→w.2.2.2.2.2.2.1.length-i<n→b.length≤i→
  Mi n i w.1 w.2.2.1 w.2.2.2.1 w.2.2.2.2.1 w.2.2.2.2.2.2.1 w.2.2.2.2.2.2.2.1 w.2.2.2.2.2.2.2.2.1 w.2.2.2.2.2.2.2.2.2.1 w.2.1 w.2.2.2.2.2.1 w.2.2.2.2.2.2.2.2.2.2.1 d.1 d.2.1 d.2.2.1 d.2.2.2.1 d.2.2.2.2.1 0 0 false [] [] [] [] [] [] [] [] b=some (AFr (w.A9 (b++(if i≤a then(w.2.2.2.2.2.2.1.drop i).eraseIdx (a-i)else w.2.2.2.2.2.2.1.drop i)),0)):=by
 have k6:=h.nums.wr;intro n
 induction n with
 |zero=>omega
 |succ n ih=>
  intro i b hi hn hb;simp only[Mi,Wf,AB,Cv];by_cases Dh:i<w.2.2.2.2.2.2.1.length
  ·have c1:(0:Int)≤(i:Int)∧(i:Int)<(w.2.2.2.2.2.2.1.length:Int):=by omega
   have c2:b.length+1≤Dw:=by rw[BX];omega
   rw[ALP c1.2];simp only[ALP c1,ALP c2];rw[Aj Dh,AL (by omega) (by omega),show((i:Int)+1)=((i+1:Nat):Int)by omega,drop_cons Dh,show(w.2.2.2.2.2.2.1[i].1,w.2.2.2.2.2.2.1[i].2.1,())=w.2.2.2.2.2.2.1[i]from rfl];by_cases he:(i:Int)=d.2.1
   ·rw[ALP he,ih (i+1) b (by omega) (by omega) (by omega),ALo (by omega),ALP (by omega),show a-i=0 by omega]
    rfl
   ·rw[ALo he,ih (i+1) _ (by omega) (by omega) (by simp_all),AM_]
    by_cases hl:i+1≤a
    ·rw[ALP hl,ALP (by omega),show a-i=(a-(i+1))+1 by omega,List.eraseIdx_cons_succ]
     rfl
    ·rw[ALo hl,ALo (by omega)]
     rfl
  ·rw[ALo (by omega),AMo (by omega)]
   have:(if i≤a then([]:List AM).eraseIdx (a-i)else[])=[]:=by simp_all
   rw[this,AM3];rfl
theorem nL{d:BS}:Vr w.2.1 w.2.2.2.2.2.1 w.2.2.2.2.2.2.2.2.2.2.1 d w.1 w.2.2.1 w.2.2.2.1 w.2.2.2.2.1 w.2.2.2.2.2.2.1 w.2.2.2.2.2.2.2.1 w.2.2.2.2.2.2.2.2.1 w.2.2.2.2.2.2.2.2.2.1=some (AFr (NB w d.2.1)):=by
 have k:=h.nums;have k1:=k.c;have k2:=k.wr;have k3:=k.lost;have k4:=k.st;have Z6:=k.aN;have iI:=k.Js;have js:=k.iH;have k5:=k.era;unfold Vr Wy NB;rw[show(w.1,w.2.1,w.2.2.1,w.2.2.2.1,w.2.2.2.2.1,w.2.2.2.2.2.1,w.2.2.2.2.2.2.1,w.2.2.2.2.2.2.2.1,w.2.2.2.2.2.2.2.2.1,w.2.2.2.2.2.2.2.2.2.1,w.2.2.2.2.2.2.2.2.2.2.1,())=w from rfl,SB (by omega)];simp only[AD,A5];rcases AKr (BN d.2.1 0 ((w.AH.length:Int)-1))with h1|h1
 rotate_left
 ·rw[h1];rfl
 have h1':=Ah.1 h1;have:=ARL h (d:=d) (a:=d.2.1.toNat) (by omega) Ae 0 [] (by omega) (Ag (by omega)) (by simp);simp_all
theorem AIq{d:BS}{ss:List AO}{ls:AAH}{ws:List AM}(hls:ls.length≤2^20):∀(n i:Nat),i≤w.2.2.2.2.2.2.2.1.length→w.2.2.2.2.2.2.2.1.length-i<n→
  I3 n i w.1 ss w.2.2.2.1 w.2.2.2.2.1 ws ((w.2.2.2.2.2.2.2.1.map fun m=>(CA (AS w) m d.2.1).1).take i++w.2.2.2.2.2.2.2.1.drop i) w.2.2.2.2.2.2.2.2.1 w.2.2.2.2.2.2.2.2.2.1 w.2.1 w.2.2.2.2.2.1 w.2.2.2.2.2.2.2.2.2.2.1 ls d.1 d.2.1 d.2.2.1 d.2.2.2.1 d.2.2.2.2.1 0 0 false [] [] [] [] [] [] [] []=some (vS (((((w.BA ss).EW ls).A9 ws).Bj (w.2.2.2.2.2.2.2.1.map fun m=>(CA (AS w) m d.2.1).1)).FE (w.ED||holds (AS w) ls),0)):=by
 have k:=h.nums;have k1:=k.c;have k6:=k.md;intro n
 induction n with
 |zero=>omega
 |succ n ih=>
  intro i hi hn;simp only[I3,Ve,AB,A5];rw[O6 hi];by_cases Dh:i<w.2.2.2.2.2.2.2.1.length
  ·have c1:(0:Int)≤(i:Int)∧(i:Int)<(w.2.2.2.2.2.2.2.1.length:Int):=by omega
   have hm:=(h.BW _ (AMk Dh)).1;have hmw:=hm.w;rw[ALP c1.2];simp only[ALP c1];rw[AMZ,Mt Dh,AL (by omega) (by omega),show((i:Int)+1)=((i+1:Nat):Int)by omega,show(w.2.2.2.2.2.2.2.1[i].1,w.2.2.2.2.2.2.2.1[i].2.1,w.2.2.2.2.2.2.2.1[i].2.2.1,w.2.2.2.2.2.2.2.1[i].2.2.2.1,w.2.2.2.2.2.2.2.1[i].2.2.2.2.1,w.2.2.2.2.2.2.2.1[i].2.2.2.2.2.1,())=w.2.2.2.2.2.2.2.1[i]from rfl,show(w.1,w.2.1,())=AS w from rfl,fo (c:=AS w) (by show w.1.length≤_;omega) (by omega) hm.ein];simp only[AD,ij];rw[show((CA (AS w) w.2.2.2.2.2.2.2.1[i] d.2.1).1.1,(CA (AS w) w.2.2.2.2.2.2.2.1[i] d.2.1).1.2.1,(CA (AS w) w.2.2.2.2.2.2.2.1[i] d.2.1).1.2.2.1,(CA (AS w) w.2.2.2.2.2.2.2.1[i] d.2.1).1.2.2.2.1,(CA (AS w) w.2.2.2.2.2.2.2.1[i] d.2.1).1.2.2.2.2.1,(CA (AS w) w.2.2.2.2.2.2.2.1[i] d.2.1).1.2.2.2.2.2.1,())=(CA (AS w) w.2.2.2.2.2.2.2.1[i] d.2.1).1 from rfl,P4 Dh rfl];grind
  ·have:i=w.2.2.2.2.2.2.2.1.length:=by omega
   rw[ALo (by omega),this,ATs,AM3,ATT (by simp),show(w.1,w.2.1,())=AS w from rfl,E5 (by show w.1.length≤_;omega) (by omega)];simp only[AD];cases ht:w.2.2.2.2.2.2.2.2.2.2.1 with
   |true=>
    have ht':w.ED=true:=ht;rw[ht'];rfl
   |false=>
    have ht':w.ED=false:=ht;rw[ht'];rfl
theorem AQJ{d:BS}{ss:List AO}{ls:AAH}(hls:ls.length≤2^20):∀(n i:Nat),i≤w.2.2.2.2.2.2.1.length→(w.2.2.2.2.2.2.1.length-i)+w.2.2.2.2.2.2.2.1.length+2≤n→
  KB n i w.1 ss w.2.2.2.1 w.2.2.2.2.1 ((w.2.2.2.2.2.2.1.map fun x=>(CE (AS w) x d.2.1).1).take i++w.2.2.2.2.2.2.1.drop i) w.2.2.2.2.2.2.2.1 w.2.2.2.2.2.2.2.2.1 w.2.2.2.2.2.2.2.2.2.1 w.2.1 w.2.2.2.2.2.1 w.2.2.2.2.2.2.2.2.2.2.1 ls d.1 d.2.1 d.2.2.1 d.2.2.2.1 d.2.2.2.2.1 0 0 false [] [] [] [] [] [] [] []=some (vS (((((w.BA ss).EW ls).A9 (w.2.2.2.2.2.2.1.map fun x=>(CE (AS w) x d.2.1).1)).Bj (w.2.2.2.2.2.2.2.1.map fun m=>(CA (AS w) m d.2.1).1)).FE (w.ED||holds (AS w) ls),0)):=by
 have k:=h.nums;have k1:=k.c;have k6:=k.wr;intro n
 induction n with
 |zero=>omega
 |succ n ih=>
  intro i hi hn;simp only[KB,Ww,AB,A5];rw[O6 hi];by_cases Dh:i<w.2.2.2.2.2.2.1.length
  ·have c1:(0:Int)≤(i:Int)∧(i:Int)<(w.2.2.2.2.2.2.1.length:Int):=by omega
   have hm:=(h.AH _ (AMk Dh)).1;have hmw:=hm.w;rw[ALP c1.2];simp only[ALP c1];rw[AMZ,Mt Dh,AL (by omega) (by omega),show((i:Int)+1)=((i+1:Nat):Int)by omega,show(w.2.2.2.2.2.2.1[i].1,w.2.2.2.2.2.2.1[i].2.1,())=w.2.2.2.2.2.2.1[i]from rfl,show(w.1,w.2.1,())=AS w from rfl,dK (c:=AS w) (by show w.1.length≤_;omega) (by have:Ar w.2.2.2.2.2.2.1[i]=Af BF w.2.2.2.2.2.2.1[i].2.1:=rfl;omega)];simp only[AD,pkW];rw[show((CE (AS w) w.2.2.2.2.2.2.1[i] d.2.1).1.1,(CE (AS w) w.2.2.2.2.2.2.1[i] d.2.1).1.2.1,())=(CE (AS w) w.2.2.2.2.2.2.1[i] d.2.1).1 from rfl,P4 Dh rfl];grind
  ·have:i=w.2.2.2.2.2.2.1.length:=by omega
   have k11:=AIq h (d:=d) (ss:=ss) (ws:=w.2.2.2.2.2.2.1.map fun x=>(CE (AS w) x d.2.1).1) hls n 0 (by omega) (by omega);rw[show((0:Nat):Int)=0 from rfl,ATN,AXu,ATL]at k11;rw[ALo (by omega),this,ATs,AM3,ATT (by simp),k11]
theorem nE{d:BS}:V9 w.2.1 w.2.2.2.2.2.1 w.2.2.2.2.2.2.2.2.2.2.1 d w.1 w.2.2.1 w.2.2.2.1 w.2.2.2.2.1 w.2.2.2.2.2.2.1 w.2.2.2.2.2.2.2.1 w.2.2.2.2.2.2.2.2.1 w.2.2.2.2.2.2.2.2.2.1=some (vS (MZ w d.2.1)):=by
 have k:=h.nums;have k1:=k.c;have k2:=k.wr;have k3:=k.lost;have k4:=k.st;have Z6:=k.aN;have iI:=k.Js;have js:=k.iH;have k5:=k.era;have k6:=k.md;unfold V9 XW MZ;rw[show(w.1,w.2.1,w.2.2.1,w.2.2.2.1,w.2.2.2.2.1,w.2.2.2.2.2.1,w.2.2.2.2.2.2.1,w.2.2.2.2.2.2.2.1,w.2.2.2.2.2.2.2.2.1,w.2.2.2.2.2.2.2.2.2.1,w.2.2.2.2.2.2.2.2.2.2.1,())=w from rfl,IG (by omega) (by omega)];simp only[AD,Cv];by_cases h3:Al w d.2.1=0
 rotate_left
 ·rw[ALo h3,ALP h3];rfl
 obtain⟨hr,s1,s2,s3⟩:=h.LX h3;rw[ALP h3,ALo (show¬(Al w d.2.1≠0)from fun hh=>hh h3),ALP hr,M8 (by omega)];simp only[AD];have hp:=UZ (n:=d.2.1) (l:=w.2.2.2.1);have:=AQJ h (d:=d) (ss:=w.2.2.1.set d.2.1.toNat ([],[],0,())) (ls:=JM d.2.1 w.2.2.2.1) (by omega) Ae 0 (by omega) (ATy (Ag (by omega)));simp_all
end
end Go.M
end
section
set_option maxRecDepth 8000
namespace Go.M
open Go.M.H (AJ AO As Ab AA CO AN A4 AM AY Az Av BS Ak CL Af AX Aa Aq CB BF Ar A7 EC CM Cs C9)
theorem eqE{x e:AJ}:(x.1==e.1&&(x.2.1==e.2.1&&(x.2.2.1==e.2.2.1&&(x.2.2.2.1==e.2.2.2.1&&true))))=decide (x=e):=by
 grind
theorem b_{m:As}{o:Int}{l:List AAH}(hl:l.length=m.2.2.2.2.2.1.length):De (m.1,m.2.1,m.2.2.1,m.2.2.2.1,m.2.2.2.2.1,l,()) o=De m o:=by
 grind[De]
section
variable{w:AA} (h:Nn w) {st:AO} (hs:fg st) {n:Int} (hn:0≤n∧n<(AS w).1.length) {SS:List AO}
include h hs hn
theorem AL6{ws:List AM}{se:List Ab}{ms:List As}{j B:Nat}{m:As}{R:Option Bz}(hj:j<ms.length)(qq:ms.length≤2^20)(hlen:(ms.getD j Qs).2.2.2.2.2.1.length=m.2.2.2.2.2.1.length)(hm:qG (AS w) m)
  (hc:(Ap w.Ac m.2.1).contains n=true)
  (cont:∀f,B≤f→Bh f n ((j+1:Nat):Int) w.1 SS w.2.2.2.1 w.2.2.2.2.1 ws (ms.set j (m.1,m.2.1,m.2.2.1,m.2.2.2.1,m.2.2.2.2.1,D4 m st n 1 m.2.2.2.2.2.1,())) w.2.2.2.2.2.2.2.2.1 se w.2.1 w.2.2.2.2.2.1 w.2.2.2.2.2.2.2.2.2.2.1 0 0 false [] [] [] [] [] [] [] [] st.1 st.2.1 st.2.2.1=R):
  ∀(rest dn:List AAH) (f:Nat),dn.length+rest.length=m.2.2.2.2.2.1.length→(∀l∈dn++rest,Ay (AS w) l=true)→rest.length+B+1≤f→
   dn++D4 m st n ((dn.length:Int)+1) rest=D4 m st n 1 m.2.2.2.2.2.1→
   Bb f n (j:Int) ((dn.length:Int)+1) w.1 SS w.2.2.2.1 w.2.2.2.2.1 ws ms w.2.2.2.2.2.2.2.2.1 se w.2.1 w.2.2.2.2.2.1 w.2.2.2.2.2.2.2.2.2.2.1 0 0 false [] [] [] [] [] [] [] [] st.1 st.2.1 st.2.2.1 m.1 m.2.1 m.2.2.1 m.2.2.2.1 m.2.2.2.2.1 (dn++rest)=R:=by
 have k:=h.nums;have k1:=k.c;have k5:=k.era;have c1:(0:Int)≤(j:Int)∧(j:Int)<(ms.length:Int):=by omega
 have UR:(Ap w.Ac m.2.1).length≤8:=Gk h;have vf:m.2.2.2.2.2.1.length≤60:=by
  have:=hm.n;have hb:=Gj (l:=m.2.2.2.1);omega
 intro rest
 induction rest with
 |nil=>
  intro dn f hl ho hf he;obtain⟨f,rfl⟩:∃f',f=f'+1:=⟨f-1,by omega⟩;simp only[AQO,ATu,ATf,D4,AM3]at hl hf he;simp only[Bb,IV,AB,AM3];simp only[ALP c1];rw[show ms.getD ((j:Int)).toNat (0,0,[],[],false,[],())=ms.getD j Qs from rfl,hlen,ALo (by omega),AL (by omega) (by omega),show((j:Int)+1)=((j+1:Nat):Int)by omega,he,AMZ];simp_all
 |cons x rest ih=>
  intro dn f hl ho hf he;obtain⟨f,rfl⟩:∃f',f=f'+1:=⟨f-1,by omega⟩;simp only[ANL]at hl hf;simp only[Bb,IV,AB];simp only[ALP c1];have ZM:qG (AS w) (m.1,m.2.1,m.2.2.1,m.2.2.2.1,m.2.2.2.2.1,dn++x::rest,()):=⟨hm.cfg,hm.ep,hm.b,hm.fK,hm.gM,hm.seen,ho,by
   have:=hm.n;simp_all⟩
  have hmw:=ZM.w;rw[show ms.getD ((j:Int)).toNat (0,0,[],[],false,[],())=ms.getD j Qs from rfl,hlen,ALP (by omega),show(w.2.2.2.2.1,w.2.2.2.2.2.1,())=B5 w from rfl,FD (r:=B5 w) (by show Af CB w.2.2.2.2.1≤_;omega)];rw[show(B5 w).1=w.Ac from rfl];simp only[AD];rw[KQ (by omega),hc];simp only[AD,AMy];have hdl:(dn++x::rest).length=m.2.2.2.2.2.1.length:=by simp_all
  rw[YZ (m:=(m.1,m.2.1,m.2.2.1,m.2.2.2.1,m.2.2.2.2.1,dn++x::rest,())) (by omega),b_ hdl];simp only[AD];have Ab4:m.2.2.2.2.1=true:=by
   have:=hm.n;grind
  have AXL:∃e,De m ((dn.length:Int)+1)=some e:=by
   unfold De;rw[Ab4,ALP (by
    simp only[AMn,AMC,Ah,AMi];have:=hm.ep;omega)]
   split<;>exact⟨_,rfl⟩
  obtain⟨e,hee⟩:=AXL;have fO:=hs.w;rw[hee];simp only[ATb];rw[T0 (Fz (by omega)).1];simp only[AD,eqE,AB];rw[AL (by omega) (by omega)];simp only[D4]at he;have Sd:NR m st ((dn.length:Int)+1)=(Ep e.1 st.1==some e):=by
   unfold NR;rw[hee]
  cases hg:Ep e.1 st.1 with
  |none=>
   simp only[ATX,AMh];rw[Sd,hg]at he;have:=ih (dn++[x]) f (by grind) (by simp_all) (by omega) (by
    simp_all)
   simp_all
  |some y=>
   simp only[ATY,AMy,ATb];by_cases hye:y=e
   ·rw[ALP hye]
    rw[Sd,hg,hye]at he;rw[show(w.1,w.2.1,())=AS w from rfl,mv (c:=AS w) (m:=(m.1,m.2.1,m.2.2.1,m.2.2.2.1,m.2.2.2.2.1,dn++x::rest,())) (by show w.1.length≤_;omega) (by omega) ZM.ein];have AEj:YV (AS w) (m.1,m.2.1,m.2.2.1,m.2.2.2.1,m.2.2.2.2.1,dn++x::rest,()) ((dn.length:Int)+1) n=((m.1,m.2.1,m.2.2.1,m.2.2.2.1,m.2.2.2.2.1,dn++JM n x::rest,()),true):=by
     unfold YV;rw[HS.2 ZM];have hq:(BN ((dn.length:Int)+1) 1 ((dn++x::rest).length:Int)&&BN n 0 (((AS w).1.length:Int)-1))=true:=by
      rw[AMC,Ah,Ah];omega
     grind
    rw[AEj];simp only[AD,ij];have hx:=ho x (by simp);have:=ih (dn++[JM n x]) f (by grind) (by
     intro l jP;simp only[AM_,ATp,AOl,AOJ]at jP;rcases jP with jP|rfl|jP
     all_goals grind[Ib]) (by omega) (by
     simp_all)
    simp_all
   ·rw[ALo hye]
    have hf2:(some y==some e)=false:=by
     simp_all
    rw[Sd,hg,hf2]at he;have:=ih (dn++[x]) f (by grind) (by simp_all) (by omega) (by
     simp_all)
    simp_all
theorem AKV{ws:List AM}{se:List Ab}:∀(k i:Nat),w.2.2.2.2.2.2.2.1.length-i=k→i≤w.2.2.2.2.2.2.2.1.length→ ∀f,k*100+1≤f→
  Bh f n (i:Int) w.1 SS w.2.2.2.1 w.2.2.2.2.1 ws ((w.2.2.2.2.2.2.2.1.map (HG st w.Ac n)).take i++w.2.2.2.2.2.2.2.1.drop i) w.2.2.2.2.2.2.2.2.1 se w.2.1 w.2.2.2.2.2.1 w.2.2.2.2.2.2.2.2.2.2.1 0 0 false [] [] [] [] [] [] [] [] st.1 st.2.1 st.2.2.1=(some ((((),w.2.1,(),(),(),w.2.2.2.2.2.1,(),(),(),(),w.2.2.2.2.2.2.2.2.2.2.1,()),()),(w.1,SS,w.2.2.2.1,w.2.2.2.2.1,ws,(w.2.2.2.2.2.2.2.1.map (HG st w.Ac n)),w.2.2.2.2.2.2.2.2.1,se,())):Option Bz):=by
 have k:=h.nums;have k5:=k.era;have k6:=k.md;intro k
 induction k with
 |zero=>
  intro i hk hi f hf;obtain⟨f,rfl⟩:∃f',f=f'+1:=⟨f-1,by omega⟩;have:i=w.2.2.2.2.2.2.2.1.length:=by omega
  simp only[Bh,Kz,AB];grind
 |succ k ih=>
  intro i hk hi f hf;obtain⟨f,rfl⟩:∃f',f=f'+1:=⟨f-1,by omega⟩;have Dh:i<w.2.2.2.2.2.2.2.1.length:=by omega
  have c1:(0:Int)≤(i:Int)∧(i:Int)<(w.2.2.2.2.2.2.2.1.length:Int):=by omega
  simp only[Bh,Kz,AB];rw[O6 hi,ALP c1.2,ALP c1,AMZ,Mt Dh];have hm:=(h.BW _ (AMk Dh)).1;have vf:w.2.2.2.2.2.2.2.1[i].2.2.2.2.2.1.length≤60:=by
   have:=hm.n;have hb:=Gj (l:=w.2.2.2.2.2.2.2.1[i].2.2.2.1);omega
  rcases AKr ((Ap w.Ac w.2.2.2.2.2.2.2.1[i].2.1).contains n)with hc|hc
  ·have hT:HG st w.Ac n w.2.2.2.2.2.2.2.1[i]=(w.2.2.2.2.2.2.2.1[i].1,w.2.2.2.2.2.2.2.1[i].2.1,w.2.2.2.2.2.2.2.1[i].2.2.1,w.2.2.2.2.2.2.2.1[i].2.2.2.1,w.2.2.2.2.2.2.2.1[i].2.2.2.2.1,D4 w.2.2.2.2.2.2.2.1[i] st n 1 w.2.2.2.2.2.2.2.1[i].2.2.2.2.2.1,()):=by
    unfold HG;simp_all
   have:=AL6 h hs hn (SS:=SS) (ws:=ws) (se:=se) (ms:=(w.2.2.2.2.2.2.2.1.map (HG st w.Ac n)).take i++w.2.2.2.2.2.2.2.1.drop i) (j:=i) (B:=k*100+1) (m:=w.2.2.2.2.2.2.2.1[i]) (R:=(some ((((),w.2.1,(),(),(),w.2.2.2.2.2.1,(),(),(),(),w.2.2.2.2.2.2.2.2.2.2.1,()),()),(w.1,SS,w.2.2.2.1,w.2.2.2.2.1,ws,(w.2.2.2.2.2.2.2.1.map (HG st w.Ac n)),w.2.2.2.2.2.2.2.2.1,se,())):Option Bz)) (by simp_all) (by grind) (by simp_all) hm hc (fun f hf=>by
    grind[P4]) w.2.2.2.2.2.2.2.1[i].2.2.2.2.2.1 [] f (by simp) (by simpa using hm.wrote) (by omega) (by simp)
   simp_all
  ·have hT:HG st w.Ac n w.2.2.2.2.2.2.2.1[i]=w.2.2.2.2.2.2.2.1[i]:=by
    unfold HG;simp_all
   obtain⟨f,rfl⟩:∃f',f=f'+1:=⟨f-1,by omega⟩;simp only[Bb,IV,AB];have UR:(Ap w.Ac w.2.2.2.2.2.2.2.1[i].2.1).length≤8:=Gk h;rw[O6 hi];simp only[ALP c1];rw[AMZ,Mt Dh,show(w.2.2.2.2.1,w.2.2.2.2.2.1,())=B5 w from rfl,FD (r:=B5 w) (by show Af CB w.2.2.2.2.1≤_;omega)];rw[show(B5 w).1=w.Ac from rfl];simp only[AD];rw[KQ (by omega),hc,P4 Dh (show(w.2.2.2.2.2.2.2.1[i].1,w.2.2.2.2.2.2.2.1[i].2.1,w.2.2.2.2.2.2.2.1[i].2.2.1,w.2.2.2.2.2.2.2.1[i].2.2.2.1,w.2.2.2.2.2.2.2.1[i].2.2.2.2.1,w.2.2.2.2.2.2.2.1[i].2.2.2.2.2.1,())=HG st w.Ac n w.2.2.2.2.2.2.2.1[i]from hT.symm),AL (x:=(i:Int)+1) (by omega) (by omega),show((i:Int)+1)=((i+1:Nat):Int)by omega,ih (i+1) (by omega) (by omega) f (by omega)];simp_all
end
end Go.M
end
section
set_option maxRecDepth 8000
namespace Go.M
open Go.M.H (AJ AO As Ab AA CO AN A4 AM AY Az Av BS Ak CL Af AX Aa Aq CB BF Ar A7 EC CM Cs C9)
theorem kY{x y:A4}(hx:x.2.2.1=false):∀{dn rest:List A4},Qk (dn++y::rest)≤Qk (dn++x::rest)
 |[],rest=>by
  grind[Qk]
 |a::dn,rest=>by
  have:=kY (y:=y) hx (dn:=dn) (rest:=rest);grind[Qk]
section
variable{w:AA} (h:Nn w) {st:AO} (hs:fg st) {n:Int} (hn:0≤n∧n<(AS w).1.length) {SS:List AO}
include h hs hn
theorem AG1{ws:List AM}{se:List Ab}{j B:Nat}{ep x y:Int}{z:Bool}{old new:List A4}{R:Option Bz}(hj:j<2^20)(Ze:se.length≤120)(hsp:∀s∈se,BR s.1=true)(wC:new.length≤60)(hep:1≤ep∧ep≤30)
  (cont:∀f,B≤f→Be f n ((j+1:Nat):Int) w.1 SS w.2.2.2.1 w.2.2.2.2.1 ws w.2.2.2.2.2.2.2.1 w.2.2.2.2.2.2.2.2.1 (se.map (OW true ep old new)) w.2.1 w.2.2.2.2.2.1 w.2.2.2.2.2.2.2.2.2.2.1 0 0 false [] [] [] [] [] [] [] [] st.1 st.2.1 st.2.2.1=R):
  ∀(k i:Nat),se.length-i=k→i≤se.length→ ∀f,k+B+1≤f→
   BD f n (j:Int) (i:Int) x y z w.1 SS w.2.2.2.1 w.2.2.2.2.1 ws w.2.2.2.2.2.2.2.1 w.2.2.2.2.2.2.2.2.1 ((se.map (OW true ep old new)).take i++se.drop i) w.2.1 w.2.2.2.2.2.1 w.2.2.2.2.2.2.2.2.2.2.1 0 0 false [] [] [] [] [] [] [] [] st.1 st.2.1 st.2.2.1 ep new=R:=by
 intro k
 induction k with
 |zero=>
  intro i hk hi f hf;obtain⟨f,rfl⟩:∃f',f=f'+1:=⟨f-1,by omega⟩;have:i=se.length:=by omega
  simp only[BD,Ko,AB];rw[O6 hi,ALo (by omega),this,ATs,AM3,ATT (by simp),AL (by omega) (by omega),show((j:Int)+1)=((j+1:Nat):Int)by omega];simp_all
 |succ k ih=>
  intro i hk hi f hf;obtain⟨f,rfl⟩:∃f',f=f'+1:=⟨f-1,by omega⟩;have Dh:i<se.length:=by omega
  have c1:(0:Int)≤(i:Int)∧(i:Int)<(se.length:Int):=by omega
  have hp:=hsp _ (AMk Dh);have hpf:=CJ hp;have ih':=ih (i+1) (by omega) (by omega) f (by omega);simp only[BD,Ko,AB,DI];rw[O6 hi,ALP c1.2];simp only[ALP c1];rw[AMZ,Mt Dh,E7 (Jb hp),ZS (Jb hp),AL (x:=(i:Int)+1) (by omega) (by omega),show((i:Int)+1)=((i+1:Nat):Int)by omega];simp only[AD];have skip:OW true ep old new se[i]=se[i]→BD f n (j:Int) ((i+1:Nat):Int) x y z w.1 SS w.2.2.2.1 w.2.2.2.2.1 ws w.2.2.2.2.2.2.2.1 w.2.2.2.2.2.2.2.2.1 ((se.map (OW true ep old new)).take i++se.drop i) w.2.1 w.2.2.2.2.2.1 w.2.2.2.2.2.2.2.2.2.2.1 0 0 false [] [] [] [] [] [] [] [] st.1 st.2.1 st.2.2.1 ep new=R:=fun hm=>by
   grind[jH]
  by_cases he:AQ se[i].1=ep
  rotate_left
  ·rw[ALo he]
   grind[OW,AQ,beq_eq_false_iff_ne]
  rw[ALP he];by_cases ho:A6 se[i].1≤(new.length:Int)
  rotate_left
  ·rw[ALo ho]
   refine skip ?_
   unfold OW QP;rw[show BN (A6 se[i].1) 1 (new.length:Int)=false by
    rw[ATi];grind[Ah]]
   simp
  rw[ALP ho,AL (x:=A6 se[i].1-1) (by omega) (by omega),ALP (by omega)];have hd:QP new (A6 se[i].1)=(new.getD (A6 se[i].1-1).toNat LR).2.2.1:=by
   unfold QP;rw[Ah.2 ⟨hpf.2.1.1,ho⟩,AMn]
  have v7:(new.getD (A6 se[i].1-1).toNat ([],[],false,())).2.2.1=QP new (A6 se[i].1):=hd.symm;rw[v7];cases hdd:QP new (A6 se[i].1)with
  |false=>
   rw[AMh];grind[OW]
  |true=>
   rw[AMy,P4 Dh (show(se[i].1,se[i].2.1,true,())=OW true ep old new se[i]by
    grind[OW])]
   omega
theorem ARC{ws:List AM}{se:List Ab}{j B:Nat}{ep x y:Int}{z:Bool}{l0:List A4}{R:Option Bz}(hj:j<ws.length)(qq:ws.length≤2^20)
  (cont:∀f,B≤f→BD f n (j:Int) 0 x y z w.1 SS w.2.2.2.1 w.2.2.2.2.1 (ws.set j (ep,BB (AS w) st ep n 1 l0,())) w.2.2.2.2.2.2.2.1 w.2.2.2.2.2.2.2.2.1 se w.2.1 w.2.2.2.2.2.1 w.2.2.2.2.2.2.2.2.2.2.1 0 0 false [] [] [] [] [] [] [] [] st.1 st.2.1 st.2.2.1 ep (BB (AS w) st ep n 1 l0)=R):
  ∀(rest dn:List A4) (f:Nat),bG (AS w) (ep,dn++rest,())→rest.length+B+1≤f→
   dn++BB (AS w) st ep n ((dn.length:Int)+1) rest=BB (AS w) st ep n 1 l0→
   BC f n (j:Int) ((dn.length:Int)+1) x y z w.1 SS w.2.2.2.1 w.2.2.2.2.1 ws w.2.2.2.2.2.2.2.1 w.2.2.2.2.2.2.2.2.1 se w.2.1 w.2.2.2.2.2.1 w.2.2.2.2.2.2.2.2.2.2.1 0 0 false [] [] [] [] [] [] [] [] st.1 st.2.1 st.2.2.1 ep (dn++rest)=R:=by
 have k1:=h.nums.c;have fO:=hs.w;intro rest
 induction rest with
 |nil=>
  intro dn f hw hf he;obtain⟨f,rfl⟩:∃f',f=f'+1:=⟨f-1,by omega⟩;simp only[AQO,ATf,BB,AM3]at hf he;simp only[BC,MF,AB,AM3];grind
 |cons a rest ih=>
  intro dn f hw hf he;obtain⟨f,rfl⟩:∃f',f=f'+1:=⟨f-1,by omega⟩;simp only[ANL]at hf;have hwe:1≤ep∧ep≤30:=hw.ep;have hwn:(dn++a::rest).length≤60:=hw.n;have hww:=hw.w;have hwl:=hwn;simp only[AOs,ANL]at hwl;simp only[BC,MF,AB,A5,Cv];rw[ALP (by grind),Ml (by omega) (by omega)];simp only[AD];rw[T0 (Fz (by omega)).1];simp only[AD];rw[AL (x:=(dn.length:Int)+1+1) (by omega) (by omega),AL (x:=(dn.length:Int)+1-1) (by omega) (by omega),ALP (show(0:Int)≤(dn.length:Int)+1-1∧(dn.length:Int)+1-1<((dn++a::rest).length:Int)by grind)];have e1:((dn.length:Int)+1-1).toNat=dn.length:=by omega
  have e2:(dn++a::rest).getD dn.length ([],[],false,())=a:=by simp[List.getD]
  rw[e1,e2];simp only[BB]at he;have go:∀b:A4,bG (AS w) (ep,dn++b::rest,())→(if(!a.2.2.1&&JP st (D6 ep ((dn.length:Int)+1)))=true then EX (AS w) n a else a)=b→
    BC f n (j:Int) ((dn.length:Int)+1+1) x y z w.1 SS w.2.2.2.1 w.2.2.2.2.1 ws w.2.2.2.2.2.2.2.1 w.2.2.2.2.2.2.2.2.1 se w.2.1 w.2.2.2.2.2.1 w.2.2.2.2.2.2.2.2.2.2.1 0 0 false [] [] [] [] [] [] [] [] st.1 st.2.1 st.2.2.1 ep (dn++b::rest)=R:=fun b hb rh=>by
   rw[rh]at he;have:=ih (dn++[b]) f (by simp_all) (by omega) (by
    simp_all)
   simp_all
  cases hg:Ep (D6 ep ((dn.length:Int)+1)) st.1 with
  |none=>
   simp only[ATX,AMh];grind[JP]
  |some e=>
   simp only[ATY,AMy,ATb];by_cases he0:e.2.1=0
   rotate_left
   ·rw[ALo he0]
    grind[JP]
   rw[ALP he0];cases had:a.2.2.1 with
   |true=>
    grind
   |false=>
    rw[AMh];have ha:=hw.words a (by simp);have hb:bG (AS w) (ep,dn++EX (AS w) n a::rest,()):=⟨hw.cfg,hw.ep,by simp_all,fun b hb=>by
     simp only[AOl,AOJ]at hb;rcases hb with hb|rfl|hb
     ·exact hw.words b (by simp[hb])
     ·exact⟨ha.1,Ib ha.2.1 hn,rfl⟩
     ·exact hw.words b (by simp[hb]),AQ4 (kY had) hw.opn⟩
    rw[show(w.1,w.2.1,())=AS w from rfl,jo (c:=AS w) (w:=(ep,dn++a::rest,())) (by show w.1.length≤_;omega) (by have:Ar (ep,dn++a::rest,())=Af BF (dn++a::rest):=rfl;grind)];have AEj:RI (AS w) (ep,dn++a::rest,()) ((dn.length:Int)+1) n=((ep,dn++EX (AS w) n a::rest,()),true):=by
     unfold RI;rw[IX.2 hw];simp only[AMO,AMH,AON];rw[e1,show(dn++a::rest).getD dn.length LR=a from e2,had];rw[ALP (by
      rw[AMC,AMC,Ah,Ah];grind)]
     simp_all
    grind[AD,pkW,JP]
theorem AQo:∀(rest pre:List AM) (se:List Ab) (f:Nat),(pre++rest).length≤4→(∀x∈rest,bG (AS w) x)→se.length≤120→(∀s∈se,BR s.1=true)→rest.length*300+w.2.2.2.2.2.2.2.1.length*100+2≤f→
  Be f n (pre.length:Int) w.1 SS w.2.2.2.1 w.2.2.2.2.1 (pre++rest) w.2.2.2.2.2.2.2.1 w.2.2.2.2.2.2.2.2.1 se w.2.1 w.2.2.2.2.2.1 w.2.2.2.2.2.2.2.2.2.2.1 0 0 false [] [] [] [] [] [] [] [] st.1 st.2.1 st.2.2.1=(some ((((),w.2.1,(),(),(),w.2.2.2.2.2.1,(),(),(),(),w.2.2.2.2.2.2.2.2.2.2.1,()),()),(w.1,SS,w.2.2.2.1,w.2.2.2.2.1,(pre++(FO true (AS w) st w.Ac n rest se).1),(w.2.2.2.2.2.2.2.1.map (HG st w.Ac n)),w.2.2.2.2.2.2.2.2.1,(FO true (AS w) st w.Ac n rest se).2,())):Option Bz):=by
 have k5:=h.nums.era;intro rest
 induction rest with
 |nil=>
  intro pre se f hl hw Ze hsp hf;obtain⟨f,rfl⟩:∃f',f=f'+1:=⟨f-1,by omega⟩;simp only[Be,Mc,AB];have:=AKV h hs hn (SS:=SS) (ws:=pre) (se:=se) w.2.2.2.2.2.2.2.1.length 0 (by omega) (by omega) f (by omega);rw[show((0:Nat):Int)=0 from rfl,ATN,AXu,ATL]at this;rw[AM3,ALo (by omega),this];simp only[FO,AM3]
 |cons a rest ih=>
  intro pre se f hl hw Ze hsp hf;simp only[AOs,ANL]at hl hf;obtain⟨f,rfl⟩:∃f',f=f'+1:=⟨f-1,by omega⟩;simp only[Be,Mc,AB,A5];have lR:(pre++a::rest).length=pre.length+(rest.length+1):=by simp
  have c1:(0:Int)≤(pre.length:Int)∧(pre.length:Int)<((pre++a::rest).length:Int):=by omega
  have e2:(pre++a::rest).getD pre.length (0,[],())=a:=by simp[List.getD]
  have UR:(Ap w.Ac a.1).length≤8:=Gk h;rw[ALP c1.2,ALP c1,AMZ,e2,show(w.2.2.2.2.1,w.2.2.2.2.2.1,())=B5 w from rfl,FD (r:=B5 w) (by show Af CB w.2.2.2.2.1≤_;omega)];rw[show(B5 w).1=w.Ac from rfl];simp only[AD];rw[KQ (by omega),AL (by omega) (by omega),show((pre.length:Int)+1)=((pre.length+1:Nat):Int)by omega];simp only[AD];have ha:=hw a (by simp);have hae:=ha.ep;have han:=ha.n;have next:∀(b:AM) (ny:List Ab) (f:Nat),ny.length≤120→(∀s∈ny,BR s.1=true)→rest.length*300+w.2.2.2.2.2.2.2.1.length*100+2≤f→
    Be f n ((pre.length+1:Nat):Int) w.1 SS w.2.2.2.1 w.2.2.2.2.1 (pre++b::rest) w.2.2.2.2.2.2.2.1 w.2.2.2.2.2.2.2.2.1 ny w.2.1 w.2.2.2.2.2.1 w.2.2.2.2.2.2.2.2.2.2.1 0 0 false [] [] [] [] [] [] [] [] st.1 st.2.1 st.2.2.1=(some ((((),w.2.1,(),(),(),w.2.2.2.2.2.1,(),(),(),(),w.2.2.2.2.2.2.2.2.2.2.1,()),()),(w.1,SS,w.2.2.2.1,w.2.2.2.2.1,(pre++b::(FO true (AS w) st w.Ac n rest ny).1),(w.2.2.2.2.2.2.2.1.map (HG st w.Ac n)),w.2.2.2.2.2.2.2.2.1,(FO true (AS w) st w.Ac n rest ny).2,())):Option Bz):=fun b ny f h1 h2 h3=>by
   have:=ih (pre++[b]) ny f (by simp only[AOs,ANL,AQO];omega) (fun x hx=>hw x (by simp[hx])) h1 h2 h3;simp only[AOs,ANL,AQO,AM_,ATp]at this;exact this
  simp only[FO];rcases AKr (LL st w.Ac n a)with ht|ht
  rotate_left
  ·rw[ht]
   simp only[AMH,AON];unfold LL at ht;rcases AKr ((Ap w.Ac a.1).contains n)with hc|hc
   ·rw[hc,AMn,ATr]at ht
    rw[hc,AMy,ALP (by omega)];exact next a se f Ze hsp (by omega)
   ·rw[hc,AMh]
    exact next a se f Ze hsp (by omega)
  ·rw[ht]
   simp only[ATK];unfold LL at ht;rw[AMC,AMi]at ht;rw[ht.1,AMy,ALo (by omega)];have htl:=(bS (s:=st) (ep:=a.1) hn (o:=1) ha.words).2.2;have hsm:∀s∈se.map (OW true a.1 a.2.1 (BB (AS w) st a.1 n 1 a.2.1)),BR s.1=true:=fun s xm=>by
    obtain⟨s',h1,rfl⟩:=ATd.1 xm;exact hsp s' h1
   have:=ARC h hs hn (SS:=SS) (ws:=pre++a::rest) (se:=se) (j:=pre.length) (B:=rest.length*300+w.2.2.2.2.2.2.2.1.length*100+2+130) (ep:=a.1) (x:=st.2.2.1) (y:=a.1) (z:=decide (st.2.2.1≥a.1)) (l0:=a.2.1) (R:=(some ((((),w.2.1,(),(),(),w.2.2.2.2.2.1,(),(),(),(),w.2.2.2.2.2.2.2.2.2.2.1,()),()),(w.1,SS,w.2.2.2.1,w.2.2.2.2.1,(pre++(a.1,BB (AS w) st a.1 n 1 a.2.1,())::(FO true (AS w) st w.Ac n rest (se.map (OW true a.1 a.2.1 (BB (AS w) st a.1 n 1 a.2.1)))).1),(w.2.2.2.2.2.2.2.1.map (HG st w.Ac n)),w.2.2.2.2.2.2.2.2.1,(FO true (AS w) st w.Ac n rest (se.map (OW true a.1 a.2.1 (BB (AS w) st a.1 n 1 a.2.1)))).2,())):Option Bz)) (by omega) (by omega) (fun f hf=>by
    have:=AG1 h hs hn (SS:=SS) (ws:=(pre++a::rest).set pre.length (a.1,BB (AS w) st a.1 n 1 a.2.1,())) (se:=se) (j:=pre.length) (B:=rest.length*300+w.2.2.2.2.2.2.2.1.length*100+2) (ep:=a.1) (x:=st.2.2.1) (y:=a.1) (z:=decide (st.2.2.1≥a.1)) (old:=a.2.1) (new:=BB (AS w) st a.1 n 1 a.2.1) (R:=(some ((((),w.2.1,(),(),(),w.2.2.2.2.2.1,(),(),(),(),w.2.2.2.2.2.2.2.2.2.2.1,()),()),(w.1,SS,w.2.2.2.1,w.2.2.2.2.1,(pre++(a.1,BB (AS w) st a.1 n 1 a.2.1,())::(FO true (AS w) st w.Ac n rest (se.map (OW true a.1 a.2.1 (BB (AS w) st a.1 n 1 a.2.1)))).1),(w.2.2.2.2.2.2.2.1.map (HG st w.Ac n)),w.2.2.2.2.2.2.2.2.1,(FO true (AS w) st w.Ac n rest (se.map (OW true a.1 a.2.1 (BB (AS w) st a.1 n 1 a.2.1)))).2,())):Option Bz)) (by omega) Ze hsp (by omega) hae (fun f hf=>by
     rw[AXf _ _ (by omega),AXq,AXW];exact next _ _ f (by simpa using Ze) hsm hf) se.length 0 (by omega) (by omega) f (by omega)
    rw[show((0:Nat):Int)=0 from rfl,ATN,AXu,ATL]at this;exact this) a.2.1 [] f (by simpa using ha) (by omega) (by simp)
   simp only[AQO,ATL]at this;exact this
end
section
variable{w:AA} (h:Nn w)
include h
theorem mb{d:BS}:V0 w.2.1 w.2.2.2.2.2.1 w.2.2.2.2.2.2.2.2.2.2.1 d w.1 w.2.2.1 w.2.2.2.1 w.2.2.2.2.1 w.2.2.2.2.2.2.1 w.2.2.2.2.2.2.2.1 w.2.2.2.2.2.2.2.2.1 w.2.2.2.2.2.2.2.2.2.1=some (pkD (Jv true w d.2.1)):=by
 have k:=h.nums;have k1:=k.c;have k2:=k.wr;have k3:=k.lost;have k4:=k.st;have Z6:=k.aN;have iI:=k.Js;have js:=k.iH;have k6:=k.md;unfold V0 Jv;rw[show(w.1,w.2.1,w.2.2.1,w.2.2.2.1,w.2.2.2.2.1,w.2.2.2.2.2.1,w.2.2.2.2.2.2.1,w.2.2.2.2.2.2.2.1,w.2.2.2.2.2.2.2.2.1,w.2.2.2.2.2.2.2.2.2.1,w.2.2.2.2.2.2.2.2.2.2.1,())=w from rfl,IG (by omega) (by omega)];simp only[AD,Cv,A5];by_cases h3:Al w d.2.1=0
 rotate_left
 ·rw[ALo h3,ALP h3];rfl
 obtain⟨hr,s1,s2,s3⟩:=h.LX h3;have Ze:w.2.2.1.getD d.2.1.toNat ([],[],0,())=storeAt w d.2.1:=rfl;rw[ALP h3,ALo (show¬(Al w d.2.1≠0)from fun hh=>hh h3)];simp only[ALP hr,Ze];rw[show((storeAt w d.2.1).1,(storeAt w d.2.1).2.1,(storeAt w d.2.1).2.2.1,())=storeAt w d.2.1 from rfl,Yp s1 s2];simp only[AD,mP];rcases AKr (Cg (storeAt w d.2.1)).2 with h6|h6
 rotate_left
 ·rw[h6];rfl
 have hq:=(Kf h6).2.1;have yr:=(h.node h3).1;rw[h6,AMy,F4];have Lu:d.2.1.toNat<w.2.2.1.length:=by omega
 unfold Vo QR;rw[ATv,ALP hr,M0 Lu];have:=AQo h (st:=(Cg (storeAt w d.2.1)).1) hq yr (SS:=w.2.2.1.set d.2.1.toNat (Cg (storeAt w d.2.1)).1) w.2.2.2.2.2.2.1 [] w.2.2.2.2.2.2.2.2.2.1 Ae (by simp_all) (fun x hx=>(h.AH x hx).1) k.se (fun s hs=>(h.BK s hs).1) (ATy (Ag (by omega)));simp only[AQO,ATL]at this;rw[show((0:Nat):Int)=0 from rfl]at this;rw[show((Cg (storeAt w d.2.1)).1.1,(Cg (storeAt w d.2.1)).1.2.1,(Cg (storeAt w d.2.1)).1.2.2.1,())=(Cg (storeAt w d.2.1)).1 from rfl,this];rfl
end
end Go.M
end
section
set_option maxRecDepth 8000
namespace Go.M
open Go.M.H (AJ AO As Ab AA CO AN A4 AM AY Az Av BS Ak CL Af AX Aa Aq CB BF Ar A7 EC CM Cs C9)
section
variable{w:AA} (h:Nn w)
include h
theorem rp{d:BS}(h64:DH d.2.1)(hd:d.2.2.2.2.1.length≤40)(hk:1≤d.1∧d.1≤16):∃w',bU w.2.1 w.2.2.2.2.2.1 w.2.2.2.2.2.2.2.2.2.2.1 d w.1 w.2.2.1 w.2.2.2.1 w.2.2.2.2.1 w.2.2.2.2.2.2.1 w.2.2.2.2.2.2.2.1 w.2.2.2.2.2.2.2.2.1 w.2.2.2.2.2.2.2.2.2.1=some (AQU (w',(Lh true w d).2))∧((Lh true w d).2=0→w' =(Lh true w d).1):=by
 have k:=h.nums;have k1:=k.c;have k5:=k.era;unfold bU Lh;rw[show(d.1,d.2.1,d.2.2.1,d.2.2.2.1,d.2.2.2.2.1,())=d from rfl];simp only[DI];by_cases c1:d.1=1
 ·simp only[ALP c1]
  rw[mi h];exact⟨_,rfl,fun _=>rfl⟩
 by_cases c2:d.1=2
 ·simp only[ALo (show¬d.1=1 by omega),ALP c2]
  obtain⟨w',e1,e2⟩:=oI h (d:=d) hd;rw[e1];exact⟨w',rfl,e2⟩
 by_cases c3:d.1=3
 ·simp only[ALo (show¬d.1=1 by omega),ALo (show¬d.1=2 by omega),ALP c3]
  rw[kb h];exact⟨_,rfl,fun _=>rfl⟩
 by_cases c4:d.1=4
 ·simp only[ALo (show¬d.1=1 by omega),ALo (show¬d.1=2 by omega),ALo (show¬d.1=3 by omega),ALP c4]
  rw[mb h];exact⟨_,rfl,fun _=>rfl⟩
 by_cases c6:d.1=6
 ·simp only[ALo (show¬d.1=1 by omega),ALo (show¬d.1=2 by omega),ALo (show¬d.1=3 by omega),ALo (show¬d.1=4 by omega),ALo (show¬d.1=5 by omega),ALP c6]
  rw[nE h];exact⟨_,rfl,fun _=>rfl⟩
 by_cases c7:d.1=7
 ·simp only[ALo (show¬d.1=1 by omega),ALo (show¬d.1=2 by omega),ALo (show¬d.1=3 by omega),ALo (show¬d.1=4 by omega),ALo (show¬d.1=5 by omega),ALo (show¬d.1=6 by omega),ALP c7]
  rw[nX h];exact⟨_,rfl,fun _=>rfl⟩
 by_cases c8:d.1=8
 ·simp only[ALo (show¬d.1=1 by omega),ALo (show¬d.1=2 by omega),ALo (show¬d.1=3 by omega),ALo (show¬d.1=4 by omega),ALo (show¬d.1=5 by omega),ALo (show¬d.1=6 by omega),ALo (show¬d.1=7 by omega),ALP c8]
  rw[nH h];exact⟨_,rfl,fun _=>rfl⟩
 by_cases c9:d.1=9
 ·simp only[ALo (show¬d.1=1 by omega),ALo (show¬d.1=2 by omega),ALo (show¬d.1=3 by omega),ALo (show¬d.1=4 by omega),ALo (show¬d.1=5 by omega),ALo (show¬d.1=6 by omega),ALo (show¬d.1=7 by omega),ALo (show¬d.1=8 by omega),ALP c9]
  rw[mw h];exact⟨_,rfl,fun _=>rfl⟩
 by_cases c10:d.1=10
 ·simp only[ALo (show¬d.1=1 by omega),ALo (show¬d.1=2 by omega),ALo (show¬d.1=3 by omega),ALo (show¬d.1=4 by omega),ALo (show¬d.1=5 by omega),ALo (show¬d.1=6 by omega),ALo (show¬d.1=7 by omega),ALo (show¬d.1=8 by omega),ALo (show¬d.1=9 by omega),ALP c10]
  rw[my h];exact⟨_,rfl,fun _=>rfl⟩
 by_cases c11:d.1=11
 ·simp only[ALo (show¬d.1=1 by omega),ALo (show¬d.1=2 by omega),ALo (show¬d.1=3 by omega),ALo (show¬d.1=4 by omega),ALo (show¬d.1=5 by omega),ALo (show¬d.1=6 by omega),ALo (show¬d.1=7 by omega),ALo (show¬d.1=8 by omega),ALo (show¬d.1=9 by omega),ALo (show¬d.1=10 by omega),ALP c11]
  rw[qo h];exact⟨_,rfl,fun _=>rfl⟩
 by_cases c12:d.1=12
 ·simp only[ALo (show¬d.1=1 by omega),ALo (show¬d.1=2 by omega),ALo (show¬d.1=3 by omega),ALo (show¬d.1=4 by omega),ALo (show¬d.1=5 by omega),ALo (show¬d.1=6 by omega),ALo (show¬d.1=7 by omega),ALo (show¬d.1=8 by omega),ALo (show¬d.1=9 by omega),ALo (show¬d.1=10 by omega),ALo (show¬d.1=11 by omega),ALP c12]
  rw[kq h];exact⟨_,rfl,fun _=>rfl⟩
 by_cases c13:d.1=13
 ·simp only[ALo (show¬d.1=1 by omega),ALo (show¬d.1=2 by omega),ALo (show¬d.1=3 by omega),ALo (show¬d.1=4 by omega),ALo (show¬d.1=5 by omega),ALo (show¬d.1=6 by omega),ALo (show¬d.1=7 by omega),ALo (show¬d.1=8 by omega),ALo (show¬d.1=9 by omega),ALo (show¬d.1=10 by omega),ALo (show¬d.1=11 by omega),ALo (show¬d.1=12 by omega),ALP c13]
  rw[show(w.1,w.2.1,())=AS w from rfl,show(w.2.2.2.2.1,w.2.2.2.2.2.1,())=B5 w from rfl,mg (c:=AS w) (r:=B5 w) (by show w.1.length≤_;omega) (by show Af CB w.2.2.2.2.1≤_;omega) k.trim h64];simp only[AD,pkR,A5,OC];rcases AKr (MV (AS w) (B5 w) d.2.1).2 with hq|hq
  ·rw[hq];exact⟨_,rfl,fun _=>rfl⟩
  ·rw[hq];exact⟨w,rfl,fun _=>rfl⟩
 by_cases c14:d.1=14
 ·simp only[ALo (show¬d.1=1 by omega),ALo (show¬d.1=2 by omega),ALo (show¬d.1=3 by omega),ALo (show¬d.1=4 by omega),ALo (show¬d.1=5 by omega),ALo (show¬d.1=6 by omega),ALo (show¬d.1=7 by omega),ALo (show¬d.1=8 by omega),ALo (show¬d.1=9 by omega),ALo (show¬d.1=10 by omega),ALo (show¬d.1=11 by omega),ALo (show¬d.1=12 by omega),ALo (show¬d.1=13 by omega),ALP c14]
  rw[nC h];exact⟨_,rfl,fun _=>rfl⟩
 by_cases c15:d.1=15
 ·simp only[ALo (show¬d.1=1 by omega),ALo (show¬d.1=2 by omega),ALo (show¬d.1=3 by omega),ALo (show¬d.1=4 by omega),ALo (show¬d.1=5 by omega),ALo (show¬d.1=6 by omega),ALo (show¬d.1=7 by omega),ALo (show¬d.1=8 by omega),ALo (show¬d.1=9 by omega),ALo (show¬d.1=10 by omega),ALo (show¬d.1=11 by omega),ALo (show¬d.1=12 by omega),ALo (show¬d.1=13 by omega),ALo (show¬d.1=14 by omega),ALP c15]
  rw[nL h];exact⟨_,rfl,fun _=>rfl⟩
 simp only[ALo c1,ALo c2,ALo c3,ALo c4,ALo c6,ALo c7,ALo c8,ALo c9,ALo c10,ALo c11,ALo c12,ALo c13,ALo c14,ALo c15];rw[lV h];by_cases c5:d.1=5
 ·rw[ALP c5,ALo (by omega)]
  exact⟨_,rfl,fun _=>rfl⟩
 ·rw[ALo c5,ALP (by omega)]
  exact⟨_,rfl,fun _=>rfl⟩
end
theorem eP{w:AA}{n:Int}{q:AO×Bool}(e:(putAt w n q).2≠0):(putAt w n q).1=w:=by
 unfold putAt at*;grind
theorem vv{all:Bool}{w:AA}{d:BS}(e:(Lh all w d).2≠0):(Lh all w d).1=w:=by
 unfold Lh at*;by_cases c:d.1=1
 ·rw[ALP c]at e⊢
  clear c
  revert e
  unfold MD;grind
 rw[ALo c]at e⊢;clear c;by_cases c:d.1=2
 ·rw[ALP c]at e⊢
  clear c
  revert e
  unfold doAdd;grind
 rw[ALo c]at e⊢;clear c;by_cases c:d.1=3
 ·rw[ALP c]at e⊢
  clear c
  revert e
  unfold Ih
  try dsimp only
  repeat' split
  all_goals first|(intro e;exact absurd rfl e)|(intro e;rfl)|grind[eP]
 rw[ALo c]at e⊢;clear c;by_cases c:d.1=4
 ·rw[ALP c]at e⊢
  clear c
  revert e
  unfold Jv;grind
 rw[ALo c]at e⊢;clear c;by_cases c:d.1=5
 ·rw[ALP c]at e⊢
  clear c
  revert e
  unfold IY
  try dsimp only
  repeat' split
  all_goals first|(intro e;exact absurd rfl e)|(intro e;rfl)|grind[eP]
 rw[ALo c]at e⊢;clear c;by_cases c:d.1=6
 ·rw[ALP c]at e⊢
  clear c
  revert e
  unfold MZ;grind
 rw[ALo c]at e⊢;clear c;by_cases c:d.1=7
 ·rw[ALP c]at e⊢
  clear c
  revert e
  unfold MW;grind
 rw[ALo c]at e⊢;clear c;by_cases c:d.1=8
 ·rw[ALP c]at e⊢
  clear c
  revert e
  unfold MN;grind
 rw[ALo c]at e⊢;clear c;by_cases c:d.1=9
 ·rw[ALP c]at e⊢
  clear c
  revert e
  unfold MX;grind
 rw[ALo c]at e⊢;clear c;by_cases c:d.1=10
 ·rw[ALP c]at e⊢
  clear c
  revert e
  unfold L4;grind
 rw[ALo c]at e⊢;clear c;by_cases c:d.1=11
 ·rw[ALP c]at e⊢
  clear c
  revert e
  unfold SV
  try dsimp only
  repeat' split
  all_goals first|(intro e;exact absurd rfl e)|(intro e;rfl)|grind[eP]
 rw[ALo c]at e⊢;clear c;by_cases c:d.1=12
 ·rw[ALP c]at e⊢
  clear c
  revert e
  unfold Ik;grind
 rw[ALo c]at e⊢;clear c;by_cases c:d.1=13
 ·rw[ALP c]at e⊢
  clear c
  revert e
  unfold OC;grind
 rw[ALo c]at e⊢;clear c;by_cases c:d.1=14
 ·rw[ALP c]at e⊢
  clear c
  revert e
  unfold IK;grind
 rw[ALo c]at e⊢;clear c;by_cases c:d.1=15
 ·rw[ALP c]at e⊢
  clear c
  revert e
  unfold NB;grind
 rw[ALo c]at e⊢;clear c;unfold Ie at*;split at e
 ·simp_all
 ·rename_i h1;rw[ALo h1];exact eP e
theorem bh{w:AA}{d:BS}(h:fa w)(h64:DH d.2.1):IZ w d=some (pkD (Df true w d)):=by
 unfold IZ Df;rw[show(w.1,w.2.1,w.2.2.1,w.2.2.2.1,w.2.2.2.2.1,w.2.2.2.2.2.1,w.2.2.2.2.2.2.1,w.2.2.2.2.2.2.2.1,w.2.2.2.2.2.2.2.2.1,w.2.2.2.2.2.2.2.2.2.1,w.2.2.2.2.2.2.2.2.2.2.1,())=w from rfl,show(d.1,d.2.1,d.2.2.1,d.2.2.2.1,d.2.2.2.2.1,())=d from rfl,nZ h,oF,nT h];simp only[AD,A5,Cv];rcases AKr (Fm w)with hw|hw
 rotate_left
 ·rw[hw];rfl
 rcases AKr (PW d)with hd|hd
 rotate_left
 ·rw[hw,hd];rfl
 have hk:1≤d.1∧d.1≤16:=by
  unfold PW at hd;exact Ah.1 (AMC _ _▸hd).1
 rw[hw,hd,AMy,AMy];obtain⟨w',e1,e2⟩:=rp (Iu.1 hw) h64 (bT hd) hk;rw[e1];simp only[AD,AMO,AXj,AMH,AON];by_cases hc:(Lh true w d).2=0
 ·rw[e2 hc]
  rw[ALP (show(AQU ((Lh true w d).1,(Lh true w d).2)).1.1.2.1=0 from hc)];rfl
 ·rw[ALo (show¬(AQU (w',(Lh true w d).2)).1.1.2.1=0 from hc)]
  have:=vv hc;rw[show Lh true w d=(w,(Lh true w d).2)by grind];rfl
end Go.M
end
section
namespace Go.M
def At(b:AAH)(a:Nat)(w:AAH)(a':Nat):Prop:=a' =a+w.length∧b.drop a=w++b.drop a'
theorem At.nil{b:AAH}{a:Nat}:At b a [] a:=⟨by simp,by simp⟩
theorem At.split{b w w':AAH}{a a2:Nat}(ha:a≤b.length)(h:At b a (w++w') a2):At b a w (a+w.length)∧At b (a+w.length) w' a2∧a+w.length≤b.length:=by
 obtain⟨h1,h2⟩:=h;have e1:b.drop (a+w.length)=w'++b.drop a2:=by
  rw[←List.drop_drop,h2,AM_];simp
 refine⟨⟨rfl,by rw[h2,e1,AM_]⟩,⟨by simp only[AOs]at h1;omega,e1⟩,?_⟩;have:=congrArg List.length h2;simp only[AOs,AVx]at this;omega
theorem At.all{b w:AAH}(h:At b 0 w b.length):b=w:=by
 have:=h.2;simpa using this
theorem At.whole{b w:AAH}(h:b=w):At b 0 w b.length:=by
 subst h;exact⟨by simp,by simp⟩
section
variable{b:AAH} (hb:Bytes b)
include hb
end
section
variable{code:AAH} (hc:code.length≤2^30)
include hc
theorem ACP{i h:Int}{l:List ACD}(hi:Gf code i)(hl:l≠[])(hn:l.length≤2^30):∃v i' h',It l code i h=some ((v,()),((code,i',h',()),()))∧v∈l∧Gf code i':=by
 unfold It;have hp:=AXk.2 hl;obtain⟨v,i1,h1,e,v0,v1,_,eo⟩:=QL hc (h:=h) (n:=l.length) hi (by omega);rw[e];simp only[AM0];have:=v1 (by omega);rw[ALP ⟨v0,this⟩];obtain⟨k,rfl⟩:∃k:Nat,v=(k:Int):=⟨v.toNat,by omega⟩;exact⟨_,i1,h1,rfl,by rw[Aj (by omega)];exact AMk _,eo⟩
end
end Go.M
end
section
namespace Go.M
open Go.M.H (CO AN A4 AM Af AX Aa CB BF Ar AA5 uD jV)
section
variable{b:AAH} (hb:Bytes b) (hl:b.length≤2^30)
include hb hl
end
def WI(l:List A4):Prop:=l.length≤61∧ ∀e∈l,e.1.length≤41∧e.2.1.length≤9
theorem WI.w{l:List A4}(h:WI l):Af BF l≤4000:=by
 have key:∀l:List A4,(∀e∈l,e.1.length≤41∧e.2.1.length≤9)→Af BF l≤60*l.length:=by
  intro l
  induction l with
  |nil=>intro _;simp[Af]
  |cons e l ih=>
   intro hh;have:=hh e (by simp);have:=ih (fun e he=>hh e (by simp[he]));simp only[Af,BF,ANL]at this⊢;omega
 have:=key l h.2;have:=h.1;omega
theorem WI.of{c:CD}{w:AM}(h:FK c w=true):WI w.2.1:=by
 obtain⟨h1,h2,h3,h4⟩:=fG h;exact⟨by omega,fun e he=>by have:=vU (h4 e he);omega⟩
section
variable{code:AAH} (hc:code.length≤2^30)
include hc
end
end Go.M
end
section
set_option maxRecDepth 8000
namespace Go.M
open Go.M.H (AJ AO As Ab AA CO AN A4 AM AY Az Av BS Ak CL Af AX Aa Aq CB BF Ar A7 EC CM Cs C9)
def OK(code:AAH){X Y:Type}(Q:X→Y→Prop)(o:Option (X×(ADL×Y))):Prop:=
 ∃x i h y,o=some (x,((code,i,h,()),y))∧Gf code i∧Q x y
section
variable{code:AAH} {X Y Z W:Type} {Q:X→Y→Prop} {R:Z→W→Prop}
theorem OK.bind{o:Option (X×(ADL×Y))}{f:X×(ADL×Y)→Option (Z×(ADL×W))}
  (ho:OK code Q o) (hf:∀x i h y,Gf code i→Q x y→OK code R (f (x,((code,i,h,()),y)))):OK code R (o.bind f):=by
 obtain⟨x,i,h,y,e,hi,hq⟩:=ho;simp_all
theorem OK.pure{A:Type}{o:Option A}{a:A}{f:A→Option (Z×(ADL×W))}(ho:o=some a)(hf:OK code R (f a)):OK code R (o.bind f):=by
 simp_all
theorem OK.some{x:X}{i h:Int}{y:Y}(hi:Gf code i)(hq:Q x y):OK code Q (some (x,((code,i,h,()),y))):=⟨x,i,h,y,rfl,hi,hq⟩
theorem OK.cond{b:Bool}{x y:Option (X×(ADL×Y))}(h1:b=true→OK code Q x)(h2:b=false→OK code Q y):OK code Q (cond b x y):=by
 grind
theorem OK.jU{p:Prop}[Decidable p]{x y:Option (X×(ADL×Y))}(h1:p→OK code Q x)(h2: ¬p→OK code Q y):OK code Q (_root_.cond (decide p) x y):=by
 grind
theorem OK.oc{a b:Int}{x y:Option (X×(ADL×Y))}(h1:a=b→OK code Q x)(h2:a≠b→OK code Q y):OK code Q (_root_.cond (a==b) x y):=by
 grind
theorem OK.ite{p:Prop}[Decidable p]{x y:Option (X×(ADL×Y))}(hp:p)(h1:OK code Q x):OK code Q (if p then x else y):=by
 simp_all
end
section
variable{code:AAH} (hc:code.length≤2^30)
include hc
theorem Ph{i h n:Int}(hi:Gf code i)(hn:n≤2^40):OK code (fun(x:ABg) (y:Unit)=>0≤x.1∧(0<n→x.1<n)∧(n≤0→x.1=0)) (Am n code i h):=by
 obtain⟨v,i',h',e,v0,v1,v2,Dh⟩:=QL hc (h:=h) hi hn;exact⟨(v,()),i',h',(),e,Dh,v0,v1,v2⟩
theorem bE{i h n:Int}(hi:Gf code i)(hn:n≤2^40):OK code (fun(x:ABT) (y:Unit)=>True) (B6 n code i h):=by
 obtain⟨v,i',h',e,Dh⟩:=sV hc (h:=h) hi hn;exact⟨(v,()),i',h',(),e,Dh,trivial⟩
theorem zT{i h:Int}{l:AAH}(hi:Gf code i)(hl:l≠[])(hn:l.length≤2^30):OK code (fun(x:ABg) (y:Unit)=>x.1∈l) (N_ l code i h):=by
 obtain⟨v,i',h',e,hv,Dh⟩:=ur hc (h:=h) hi hl hn;exact⟨(v,()),i',h',(),e,Dh,hv⟩
theorem uz{i h:Int}{l:List ACD}(hi:Gf code i)(hl:l≠[])(hn:l.length≤2^30):OK code (fun(x:AGO) (y:Unit)=>x.1∈l) (It l code i h):=by
 obtain⟨v,i',h',e,hv,Dh⟩:=ACP hc (h:=h) hi hl hn;exact⟨(v,()),i',h',(),e,Dh,hv⟩
theorem tY{c:CD}(cX:c.1.length≤2^10){i h:Int}(hi:Gf code i):OK code (fun(x:ACL) (y:ACr)=>y.1.length≤2^12) (Oo c code i h):=by
 have key:∀(n k N:Nat) (i h:Int) (b:AAH),Gf code i→k≤N→N-k<n→N≤2^11→b.length≤k→
   OK code (fun(x:ACL) (y:ACr)=>y.1.length≤2^12) (IM n N k code i h c.1 c.2.1 b):=by
  intro n
  induction n with
  |zero=>omega
  |succ n ih=>
   intro k N i h b hi hk hn hN hb;simp only[IM,SK];refine OK.jU (fun Lu=> ?_) (fun hge=> ?_)
   ·refine OK.pure Km ?_
    dsimp only;refine OK.bind (Ph hc hi (by omega)) fun x i' h' y Dh hq=> ?_
    dsimp only;refine OK.pure (M8 (by omega)) ?_
    dsimp only;rw[AL (by omega) (by omega),show((k:Int)+1)=((k+1:Nat):Int)by omega];have:=UZ (n:=x.1) (l:=b);exact ih (k+1) N _ _ _ Dh (by omega) (by omega) hN (by omega)
   ·refine OK.bind (bE hc hi (by omega)) fun x i' h' y Dh hq=> ?_
    dsimp only;refine OK.cond (fun _=> ?_) (fun _=> ?_)
    ·refine OK.bind (zT hc Dh (by simp) (by simp)) fun x i' h' y Dh hq=> ?_
     dsimp only;refine OK.ite (by rw[BX];omega) ?_
     grind[OK.some]
    grind[OK.some]
 unfold Oo Rh;rw[AL (by omega) (by omega)];refine OK.bind (Ph hc hi (by omega)) fun x i' h' y Dh hq=> ?_
 dsimp only;obtain⟨N,hN⟩:∃N:Nat,x.1=N:=⟨x.1.toNat,by omega⟩;grind[Ae,Ag]
theorem z7{c:CD}(cX:c.1.length≤2^10){i h:Int}(hi:Gf code i):OK code (fun(x:ACL) (y:ACr)=>y.1.length≤2^13) (LY c code i h):=by
 have key:∀(n k:Nat) (i h:Int) (b:AAH),Gf code i→k≤c.1.length→c.1.length-k<n→b.length≤2^12+k→
   OK code (fun(x:ACL) (y:ACr)=>y.1.length≤2^13) (KO n k code i h c.1 c.2.1 b):=by
  intro n
  induction n with
  |zero=>omega
  |succ n ih=>
   intro k i h b hi hk hn hb;simp only[KO,UH];refine OK.jU (fun Lu=> ?_) (fun hge=>OK.some hi (by grind));refine OK.pure (E5 (c:=(c.1,c.2.1,())) (by grind) (by omega)) ?_
   dsimp only;refine OK.cond (fun _=> ?_) (fun _=>OK.some hi (by grind));refine OK.pure (M8 (by omega)) ?_
   dsimp only;rw[AL (by omega) (by omega),show((k:Int)+1)=((k+1:Nat):Int)by omega];have:=UZ (n:=(k:Int)) (l:=b);exact ih (k+1) _ _ _ hi (by omega) (by omega) (by omega)
 unfold LY Uj;grind[OK.bind,tY,Ae,Ag]
end
theorem AJE{x:Int}:DH (IntKind.wrap .i64 x):=by
 grind[DH,IntKind.wrap,IntKind.bits,IntKind.signed]
theorem APr{a b:Int}:DH (bOr .i64 a b):=by
 unfold bOr;exact AJE
theorem uo{l:AAH}(hl:l.length≤2^20):∃r,Li l=some ((r,()),())∧DH r:=by
 have key:∀(n k:Nat) (t:Int),(∀x∈l,0≤x)→DH t→k≤l.length→l.length-k<n→ ∃r,KM n l t k=some ((r,()),())∧DH r:=by
  intro n
  induction n with
  |zero=>omega
  |succ n ih=>
   intro k t hp ht hk hn;simp only[KM,UY,AB];by_cases Lu:k<l.length
   ·rw[ALP (by omega),ALP (by omega),Aj Lu,ALo (by simp_all),AL (x:=(k:Int)+1) (by omega) (by omega),show((k:Int)+1)=((k+1:Nat):Int)by omega]
    grind[APr]
   grind
 unfold Li UI;rw[fL (by omega)];simp only[AD,A5];rcases AKr (qi l 7)with ha|ha
 ·rw[ha]
  exact key Ae 0 0 (fun x hx=>((xP.1 ha).1 x hx).1) (by unfold DH;omega) (by omega) (Ag (by omega))
 ·rw[ha]
  exact⟨-1,rfl,by unfold DH;omega⟩
end Go.M
end
section
set_option maxRecDepth 8000
namespace Go.M
open Go.M.H (AJ AO As Ab AA CO AN A4 AM AY Az Av BS Ak CL Af AX Aa Aq CB BF Ar A7 EC CM Cs C9)
abbrev iq:BS×Unit→Unit→Prop:=fun x _=>DH x.1.2.1∧DH x.1.2.2.1∧DH x.1.2.2.2.1∧x.1.2.2.2.2.1.length≤40
theorem AGJ(x:Int):DH (AZ x):=by
 grind[AZ,IntKind.wrap,DH,IntKind.bits,IntKind.signed]
theorem Ou{x:Int}(h: -1000≤x∧x≤1000):DH x:=by unfold DH;omega
section
variable{code:AAH} (hc:code.length≤2^30) {w:AA} (h:Nn w)
include hc h
theorem Nn.ADu{e:Int}(he:1≤e∧e≤w.Ac.length):0<(Ap w.Ac e).length∧(Ap w.Ac e).length≤8∧ ∀x∈Ap w.Ac e,0≤x∧x<8:=by
 have hh:=(h.lj.Ac _ (BJ (d:=GP) (show(e-1).toNat<(B5 w).1.length by show _<w.Ac.length;omega))).1;have hn:=N7 hh;have cX:=(Gh h.cfg).2.1;unfold Ap;rw[Ah.2 he,ALP rfl];refine⟨?_,Hq hn,fun x hx=> ?_⟩
 ·rcases AXa (w.Ac.getD (e-1).toNat GP).1.length with h0|h0
  ·have uc:=APu h0
   have hh':holds (AS w) (w.Ac.getD (e-1).toNat GP).1=true:=hh;grind[holds_nil]
  omega
 ·have:=(ER.1 hn).2.1 x hx
  omega
theorem uE(hw:0<w.AH.length){i hh:Int}(hi:Gf code i):OK code iq (Gp w code i hh):=by
 have k:=h.nums;have k2:=k.wr;have k5:=k.era;have rC:0<w.2.2.2.2.2.2.1.length:=hw;have tail:∀(j:Int),0≤j→j<(w.2.2.2.2.2.2.1.length:Int)→ ∀i hh,Gf code i→OK code iq (
   (Ce (w.2.2.2.2.1,w.2.2.2.2.2.1,()) ((w.2.2.2.2.2.2.1.getD (j.toNat) (0,[],())).1)).bind fun q6=>
   (Am (q6.2.1.length:Int) code i hh).bind fun P2=>
   if(0:Int)≤P2.1.1∧P2.1.1<(q6.2.1.length:Int)then(
   cond ((((w.2.2.2.2.2.2.1.getD (j.toNat) (0,[],())).2.1).length:Int)==0)
    ((It [[],[97],[98,99],[100]] P2.2.1.1 P2.2.1.2.1 P2.2.1.2.2.1).bind fun ZX=>
    some (((2,j,0,0,ZX.1.1,()),()),((ZX.2.1.1,ZX.2.1.2.1,ZX.2.1.2.2.1,()),())))
   ((B6 7 P2.2.1.1 P2.2.1.2.1 P2.2.1.2.2.1).bind fun Xp=>
   cond (Xp.1.1)
    ((It [[],[97],[98,99],[100]] Xp.2.1.1 Xp.2.1.2.1 Xp.2.1.2.2.1).bind fun fP=>
    some (((2,j,0,0,fP.1.1,()),()),((fP.2.1.1,fP.2.1.2.1,fP.2.1.2.2.1,()),())))
   ((B6 3 Xp.2.1.1 Xp.2.1.2.1 Xp.2.1.2.2.1).bind fun jr=>
   cond (jr.1.1)
    (some (((4,(q6.2.1.getD (P2.1.1.toNat) 0),0,0,[],()),()),((jr.2.1.1,jr.2.1.2.1,jr.2.1.2.2.1,()),())))
   ((TG (((w.2.2.2.2.2.2.1.getD (j.toNat) (0,[],())).2.1).length:Int) 3).bind fun ve=>
   (Am ve.1.1 jr.2.1.1 jr.2.1.2.1 jr.2.1.2.2.1).bind fun Xq=>
   some (((3,j,AZ ((((w.2.2.2.2.2.2.1.getD (j.toNat) (0,[],())).2.1).length:Int)-Xq.1.1),(q6.2.1.getD (P2.1.1.toNat) 0),[],()),()),((Xq.2.1.1,Xq.2.1.2.1,Xq.2.1.2.2.1,()),()))))))else none):=by
  intro j hj0 hj1 i hh hi;have hx:=h.AH _ (BJ (d:=Bv) (show j.toNat<w.AH.length by simp_all));have he:=hx.1.ep;obtain⟨e1,e2,e3⟩:=h.ADu hc (e:=(w.AH.getD j.toNat Bv).1) ⟨he.1,hx.2⟩;refine OK.pure (FD (r:=B5 w) (by show Af CB w.2.2.2.2.1≤_;omega)) ?_
  dsimp only
  generalize hns:Ap (B5 w).1 (w.2.2.2.2.2.2.1.getD j.toNat (0,[],())).1=ns
  have AS8:Ap w.Ac (w.AH.getD j.toNat Bv).1=ns:=hns;rw[AS8]at e1 e2 e3;refine OK.bind (Ph hc hi (by omega)) fun x i1 h1 y eo hq=> ?_
  dsimp only at*;refine OK.ite (by omega) ?_
  have i_:DH (ns.getD x.1.toNat 0):=Ou (by grind[BJ]);have hjj:DH j:=Ou (by omega);have z:DH 0:=Ou (by omega)
  repeat' (first|refine OK.some (by assumption) ?_|refine OK.jU (fun _=> ?_) (fun _=> ?_)|refine OK.oc (fun _=> ?_) (fun _=> ?_)|refine OK.cond (fun _=> ?_) (fun _=> ?_)|refine OK.ite (by omega) ?_|(refine OK.bind (bE (by assumption) (by assumption) (by omega)) fun x i h y hi hq=> ?_;dsimp only)|(refine OK.bind (Ph (by assumption) (by assumption) (by omega)) fun x i h y hi hq=> ?_;dsimp only at*)|(refine OK.bind (uz (by assumption) (by assumption) (by simp) (by simp)) fun x i h y hi hq=> ?_;dsimp only)|(refine OK.pure Zd ?_;dsimp only)|(refine OK.pure Km ?_;dsimp only))
  all_goals refine⟨?_,?_,?_,?_⟩
  all_goals first
   |assumption
   |exact AGJ _
   |exact AXd _
   |grind
 unfold Gp;dsimp only;have e1:AZ ((w.2.2.2.2.2.2.1.length:Int)-1)=(w.2.2.2.2.2.2.1.length:Int)-1:=AL (by omega) (by omega);simp only[e1];refine OK.bind (Ph hc hi (by omega)) fun x i1 h1 y eo hq=> ?_
 dsimp only at*;refine OK.bind (bE hc eo (by omega)) fun x2 i2 h2 y2 ye hq2=> ?_
 dsimp only at*;refine OK.cond (fun _=> ?_) (fun _=> ?_)
 ·refine OK.ite (by omega) ?_
  exact tail _ (by omega) (by omega) _ _ ye
 simp_all
end
end Go.M
end
section
set_option maxRecDepth 8000
namespace Go.M
open Go.M.H (AJ AO As Ab AA CO AN A4 AM AY Az Av BS Ak CL Af AX Aa Aq CB BF Ar A7 EC CM Cs C9)
section
variable{code:AAH} (hc:code.length≤2^30) {w:AA} (h:Nn w)
include hc h
theorem wQ{m:As}(hm:qG (AS w) m){t7:Int}(h7:DH t7):∀(n k:Nat) (t8 i hh:Int),DH t8→Gf code i→k≤m.2.2.2.2.2.1.length→m.2.2.2.2.2.1.length-k<n→
  OK code iq (F9 n t7 t8 k code i hh w.1 w.2.1 w.2.2.1 w.2.2.2.1 w.2.2.2.2.1 w.2.2.2.2.2.1 w.2.2.2.2.2.2.1 w.2.2.2.2.2.2.2.1 w.2.2.2.2.2.2.2.2.1 w.2.2.2.2.2.2.2.2.2.1 w.2.2.2.2.2.2.2.2.2.2.1 0 0 0 0 [] m.1 m.2.1 m.2.2.1 m.2.2.2.1 m.2.2.2.2.1 m.2.2.2.2.2.1):=by
 have k1:=h.nums.c;have vf:m.2.2.2.2.2.1.length≤60:=by
  have:=hm.n;have hb:=Gj (l:=m.2.2.2.1);split at this<;>omega
 intro n
 induction n with
 |zero=>intro k t8 i hh _ _ _ h;omega
 |succ n ih=>
  intro k t8 i hh h8 hi hk hn;have hk8:DH ((k+1:Nat):Int):=Ou (by omega);simp only[F9,Qu];refine OK.jU (fun Lu=> ?_) (fun hge=>OK.some hi ⟨Ou (by show-1000≤(0:Int)∧(0:Int)≤1000;omega),h8,h7,AXd _⟩);have Abx:k<m.2.2.2.2.2.1.length:=by omega
  refine OK.ite (by omega) ?_
  rw[AL (x:=(k:Int)+1) (by omega) (by omega),show((k:Int)+1)=((k+1:Nat):Int)by omega];have wC:=Hq (hm.wrote _ (BJ (d:=[]) Abx));refine OK.pure (E5 (c:=AS w) (by show w.1.length≤_;omega) (by show(m.2.2.2.2.2.1.getD k []).length≤_;omega)) ?_
  dsimp only;refine OK.cond (fun _=> ?_) (fun _=>ih (k+1) _ _ _ h8 hi (by omega) (by omega));refine OK.bind (bE hc hi (by omega)) fun x2 i2 h2 y2 ye hq2=> ?_
  dsimp only;exact OK.cond (fun _=>ih (k+1) _ _ _ hk8 ye (by omega) (by omega)) (fun _=>ih (k+1) _ _ _ h8 ye (by omega) (by omega))
theorem xi{i hh:Int}(hi:Gf code i):OK code iq (Lj w code i hh):=by
 have k:=h.nums;have k5:=k.era;unfold Lj RO;have z:DH 0:=Ou (by omega);refine OK.oc (fun _=>OK.some hi ⟨z,z,z,AXd _⟩) (fun bd=> ?_);have hlen:0<w.BW.length:=by show 0<w.2.2.2.2.2.2.2.1.length;omega
 refine OK.ite (by omega) ?_
 have hmm:=h.BW _ (BJ (d:=Qs) hlen)
 generalize hg:w.2.2.2.2.2.2.2.1.getD 0 (0,0,[],[],false,[],())=m
 have xr:w.BW.getD 0 Qs=m:=hg;rw[xr]at hmm;obtain⟨hm,hm2,hm3⟩:=hmm;have he:=hm.ep;have hb:=hm.b;obtain⟨e1,e2,e3⟩:=h.ADu hc (e:=m.2.1) ⟨he.1,by omega⟩;have vf:m.2.2.2.2.2.1.length≤60:=by
  have:=hm.n;have hb:=Gj (l:=m.2.2.2.1);split at this<;>omega
 refine OK.pure (FD (r:=B5 w) (by show Af CB w.2.2.2.2.1≤_;omega)) ?_
 dsimp only
 generalize hns:Ap (B5 w).1 m.2.1=ns
 have AS8:Ap w.Ac m.2.1=ns:=hns;rw[AS8]at e1 e2 e3;refine OK.bind (Ph hc hi (by omega)) fun x i1 h1 y eo hq=> ?_
 dsimp only at*;refine OK.ite (by omega) ?_
 have i_:DH (ns.getD x.1.toNat 0):=Ou (by have:=e3 _ (BJ (l:=ns) (i:=x.1.toNat) (d:=0) (by omega));omega);have fin:∀t8 i hh,DH t8→Gf code i→OK code iq (F9 Ae (ns.getD x.1.toNat 0) t8 0 code i hh w.1 w.2.1 w.2.2.1 w.2.2.2.1 w.2.2.2.2.1 w.2.2.2.2.2.1 w.2.2.2.2.2.2.1 w.2.2.2.2.2.2.2.1 w.2.2.2.2.2.2.2.2.1 w.2.2.2.2.2.2.2.2.2.1 w.2.2.2.2.2.2.2.2.2.2.1 0 0 0 0 [] m.1 m.2.1 m.2.2.1 m.2.2.2.1 m.2.2.2.2.1 m.2.2.2.2.2.1):=fun t8 i hh h8 hi=>
  wQ hc h hm i_ Ae 0 t8 i hh h8 hi (by omega) (Ag (by omega))
 repeat' (first|refine OK.some (by assumption) ?_|refine OK.jU (fun _=> ?_) (fun _=> ?_)|refine OK.oc (fun _=> ?_) (fun _=> ?_)|refine OK.cond (fun _=> ?_) (fun _=> ?_)|refine OK.ite (by omega) ?_|(refine OK.bind (bE (by assumption) (by assumption) (by omega)) fun x i h y hi hq=> ?_;dsimp only)|(refine OK.bind (Ph (by assumption) (by assumption) (by omega)) fun x i h y hi hq=> ?_;dsimp only at*)|(refine OK.bind (uz (by assumption) (by assumption) (by simp) (by simp)) fun x i h y hi hq=> ?_;dsimp only)|(refine OK.pure Zd ?_;dsimp only)|(refine OK.pure Km ?_;dsimp only))
 all_goals first
  |exact fin _ _ _ (AGJ _) (by assumption)
  |exact⟨z,z,z,AXd _⟩
  |exact⟨i_,z,z,AXd _⟩
theorem wb{i hh:Int}(hi:Gf code i):OK code iq (Om w code i hh):=by
 have k:=h.nums;have k1:=k.c;have k2:=k.wr;have k3:=k.lost;have k4:=k.st;have k5:=k.era;have k6:=k.se;have k7:=k.aX;have zt:=(Gh h.cfg).1;have Acx:1≤w.1.length:=zt;have z:DH 0:=Ou (by omega);have W8:∀i hh,Gf code i→OK code iq ((LY (w.1,w.2.1,()) code i hh).bind fun u3=>
   (Li u3.2.2.1).bind fun u4=>
   some (((1,u4.1.1,0,0,[],()),()),((u3.2.1.1,u3.2.1.2.1,u3.2.1.2.2.1,()),()))):=fun i hh hi=>by
  refine OK.bind (z7 hc (c:=(w.1,w.2.1,())) (by show w.1.length≤_;omega) hi) fun x i1 h1 y eo hq=> ?_
  dsimp only;obtain⟨r,hr,hr2⟩:=uo (l:=y.1) (by omega);refine OK.pure hr ?_
  exact OK.some eo ⟨hr2,z,z,AXd _⟩
 have AD3:∀j:Nat,DH (w.2.2.2.2.2.2.2.2.2.1.getD j (0,[],false,())).1:=fun j=>by
  by_cases hj:j<w.2.2.2.2.2.2.2.2.2.1.length
  ·exact Jb (h.BK _ (BJ (d:=JF) hj)).1
  ·rw[List.getD,ATZ (by omega)];exact z
 have AAq:DH (w.2.2.2.1.getD 0 0):=by
  by_cases hj:0<w.2.2.2.1.length
  ·have:=(ER.1 h.lost).2.1 _ (BJ (d:=0) hj)
   have hc8:(AS w).1.length≤8:=k1;have AcV:0≤w.2.2.2.1.getD 0 0∧w.2.2.2.1.getD 0 0<(AS w).1.length:=this;exact Ou (by omega)
  ·rw[List.getD,ATZ (by omega)];exact z
 unfold Om;refine OK.oc (fun _=>W8 _ _ hi) (fun bd=> ?_);have hw0:0<w.AH.length:=by show 0<w.2.2.2.2.2.2.1.length;omega
 have hwr:∀i hh,Gf code i→OK code iq ((Gp w code i hh).bind fun mM=>
   some (((mM.1.1.1,mM.1.1.2.1,mM.1.1.2.2.1,mM.1.1.2.2.2.1,mM.1.1.2.2.2.2.1,()),()),((mM.2.1.1,mM.2.1.2.1,mM.2.1.2.2.1,()),()))):=fun i hh hi=>
  OK.bind (uE hc h hw0 hi) fun x i1 h1 y eo hq=>OK.some eo hq
 have Sd:∀i hh,Gf code i→OK code iq ((Lj w code i hh).bind fun mM=>
   some (((mM.1.1.1,mM.1.1.2.1,mM.1.1.2.2.1,mM.1.1.2.2.2.1,mM.1.1.2.2.2.2.1,()),()),((mM.2.1.1,mM.2.1.2.1,mM.2.1.2.2.1,()),()))):=fun i hh hi=>
  OK.bind (xi hc h hi) fun x i1 h1 y eo hq=>OK.some eo hq
 rw[show(w.1,w.2.1,w.2.2.1,w.2.2.2.1,w.2.2.2.2.1,w.2.2.2.2.2.1,w.2.2.2.2.2.2.1,w.2.2.2.2.2.2.2.1,w.2.2.2.2.2.2.2.2.1,w.2.2.2.2.2.2.2.2.2.1,w.2.2.2.2.2.2.2.2.2.2.1,())=w from rfl];refine OK.bind (bE hc hi (by omega)) fun x2 i2 h2 y2 ye hq2=> ?_
 dsimp only;refine OK.cond (fun _=>W8 _ _ ye) (fun _=> ?_);refine OK.bind (Ph hc ye (by omega)) fun x3 i3 h3 y3 hi3 hq3=> ?_
 dsimp only at*;have hx3:DH x3.1:=Ou (by omega)
 repeat' first
  |exact hwr _ _ (by assumption)
  |exact Sd _ _ (by assumption)
  |(refine OK.pure (NS (r:=B5 w) (by show w.2.2.2.2.1.length≤_;omega)) ?_;dsimp only)
  |(first|refine OK.some (by assumption) ?_|refine OK.jU (fun _=> ?_) (fun _=> ?_)|refine OK.oc (fun _=> ?_) (fun _=> ?_)|refine OK.cond (fun _=> ?_) (fun _=> ?_)|refine OK.ite (by omega) ?_|(refine OK.bind (bE (by assumption) (by assumption) (by omega)) fun x i h y hi hq=> ?_;dsimp only)|(refine OK.bind (Ph (by assumption) (by assumption) (by omega)) fun x i h y hi hq=> ?_;dsimp only at*)|(refine OK.bind (uz (by assumption) (by assumption) (by simp) (by simp)) fun x i h y hi hq=> ?_;dsimp only)|(refine OK.pure Zd ?_;dsimp only)|(refine OK.pure Km ?_;dsimp only))
 all_goals refine⟨?_,?_,?_,AXd _⟩
 all_goals first
  |exact z
  |exact hx3
  |exact AD3 _
  |exact AAq
  |(refine Ou ?_;dsimp only;omega)
end
end Go.M
end
section
set_option maxRecDepth 8000
namespace Go.M
open Go.M.H (AJ AO As Ab AA CO AN A4 AM AY Az Av BS Ak CL Af AX Aa Aq CB BF Ar A7 EC CM Cs C9)
theorem eJ{s:AAH}{p:Int}:∀{l:List Av} {b:Option AJ},(∀x,b=some x→EZ x=true)→ ∀x,Fb s p b l=some x→EZ x=true
 |[],b,hb,x,h=>hb x h
 |a::l,b,hb,x,h=>by
  simp only[Fb]at h;split at h
  ·rename_i hc
   simp only[AMC]at hc;refine eJ (l:=l) ?_ x h
   intro z hz;split at hz
   ·rename_i z' hz'
    unfold better at hz;grind
   simp_all
  ·exact eJ (l:=l) hb x h
theorem j4{c:CD}{g:AN}{sure:Int}{r:AY}{l:List Av}(h:∀e∈r.2.2.1,e.2.2.1.length≤40)(h0:(B3 c g sure r l).2=0):∀e∈(B3 c g sure r l).1.2.2.1,e.2.2.1.length≤40:=by
 have app:∀(ev:Az),ev.2.2.1.length≤40→ ∀e∈r.2.2.1++[ev],e.2.2.1.length≤40:=fun ev yB e he=>by
  grind
 have hf:∀p,(HP p (Fb (g.1.getD (r.1-1).toNat GP).1 p none l)).2.2.1.length≤40:=fun p=>by
  cases hb:Fb (g.1.getD (r.1-1).toNat GP).1 p none l with
  |none=>show 0≤40;omega
  |some x=>
   have:=(FX.1 (eJ (b:=none) (fun x hx=>by cases hx) x hb)).len;unfold HP;dsimp only;split
   all_goals simp_all
 revert h0
 unfold B3;dsimp only;split
 ·omega
 split
 ·omega
 split
 ·grind
 split
 ·grind
 split
 ·omega
 split
 all_goals grind
theorem BH{w:AA}{n:Int}{q:AO×Bool}:(putAt w n q).1.AW=w.AW:=by
 grind[putAt]
theorem vQ{w:AA}{a k:Int}(h:RdS w):RdS (IK w a k).1:=by
 unfold IK;split
 ·omega
 dsimp only;split
 ·omega
 rename_i h2;intro r hr;rcases ATc hr with hr|rfl
 ·exact h r hr
 ·refine j4 ?_ (by omega)
  by_cases hl:a.toNat<w.AW.length
  ·exact h _ (BJ hl)
  simp_all
theorem Da{w w':AA}(h:RdS w)(e:w'.AW=w.AW):RdS w':=by
 unfold RdS;rw[e];exact h
theorem zi{all:Bool}{w:AA}{d:BS}(h:RdS w):RdS (Lh all w d).1:=by
 unfold Lh;by_cases c:d.1=1
 ·rw[ALP c]
  grind[Da,MD,BH]
 rw[ALo c];clear c;by_cases c:d.1=2
 ·rw[ALP c]
  grind[Da,doAdd,BH]
 rw[ALo c];clear c;by_cases c:d.1=3
 ·rw[ALP c]
  grind[Da,Ih,BH]
 rw[ALo c];clear c;by_cases c:d.1=4
 ·rw[ALP c]
  grind[Da,Jv,BH]
 rw[ALo c];clear c;by_cases c:d.1=5
 ·rw[ALP c]
  grind[Da,IY,BH]
 rw[ALo c];clear c;by_cases c:d.1=6
 ·rw[ALP c]
  grind[Da,MZ,BH]
 rw[ALo c];clear c;by_cases c:d.1=7
 ·rw[ALP c]
  grind[Da,MW,BH]
 rw[ALo c];clear c;by_cases c:d.1=8
 ·rw[ALP c]
  grind[Da,MN,BH]
 rw[ALo c];clear c;by_cases c:d.1=9
 ·rw[ALP c]
  grind[Da,MX,BH]
 rw[ALo c];clear c;by_cases c:d.1=10
 ·rw[ALP c]
  grind[Da,L4,BH]
 rw[ALo c];clear c;by_cases c:d.1=11
 ·rw[ALP c]
  grind[Da,SV,BH]
 rw[ALo c];clear c;by_cases c:d.1=12
 ·rw[ALP c]
  grind[Da,Ik,BH]
 rw[ALo c];clear c;by_cases c:d.1=13
 ·rw[ALP c]
  grind[Da,OC,BH]
 rw[ALo c];clear c;by_cases c:d.1=14
 ·rw[ALP c];exact vQ h
 rw[ALo c];clear c;by_cases c:d.1=15
 ·rw[ALP c]
  grind[Da,NB,BH]
 rw[ALo c];grind[Da,Ie,BH]
theorem ra{c:CD}{g:AN}{sure:Int}{r:AY}{l:List Av}(h:∀e∈r.2.2.1,DH e.2.1)(h0:(B3 c g sure r l).2=0):∀e∈(B3 c g sure r l).1.2.2.1,DH e.2.1:=by
 have app:∀(ev:Az),DH ev.2.1→ ∀e∈r.2.2.1++[ev],DH e.2.1:=fun ev yB e he=>by
  grind
 have hf:∀p b,(HP p b).2.1=p:=fun p b=>by
  cases b with
  |none=>rfl
  |some x=>grind[HP]
 revert h0
 unfold B3;dsimp only;split
 ·omega
 rename_i Bq;have AUo:Mk c g=true∧W6 r=true:=by
  simp_all
 have hrg:=(JE.1 AUo.1).tin;have ZG:=RE.1 AUo.2;have hre:=ZG.ep;have hro:=ZG.off;split
 ·omega
 split
 ·grind
 split
 ·grind[Ou]
 split
 ·omega
 split
 ·omega
 intro _;refine app _ ?_
 grind[DH,D6]
theorem ABn{w:AA}{a k:Int}(h:c_ w):c_ (IK w a k).1:=by
 unfold IK;split
 ·omega
 dsimp only;split
 ·omega
 rename_i h2;intro r hr;rcases ATc hr with hr|rfl
 ·exact h r hr
 ·refine ra ?_ (by omega)
  by_cases hl:a.toNat<w.AW.length
  ·exact h _ (BJ hl)
  simp_all
theorem Fy{w w':AA}(h:c_ w)(e:w'.AW=w.AW):c_ w':=by
 unfold c_;rw[show w'.2.2.2.2.2.2.2.2.1=w.2.2.2.2.2.2.2.2.1 from e];exact h
theorem AId{all:Bool}{w:AA}{d:BS}(h:c_ w):c_ (Lh all w d).1:=by
 unfold Lh;by_cases c:d.1=1
 ·rw[ALP c]
  grind[Fy,MD,BH]
 rw[ALo c];clear c;by_cases c:d.1=2
 ·rw[ALP c]
  grind[Fy,doAdd,BH]
 rw[ALo c];clear c;by_cases c:d.1=3
 ·rw[ALP c]
  grind[Fy,Ih,BH]
 rw[ALo c];clear c;by_cases c:d.1=4
 ·rw[ALP c]
  grind[Fy,Jv,BH]
 rw[ALo c];clear c;by_cases c:d.1=5
 ·rw[ALP c]
  grind[Fy,IY,BH]
 rw[ALo c];clear c;by_cases c:d.1=6
 ·rw[ALP c]
  grind[Fy,MZ,BH]
 rw[ALo c];clear c;by_cases c:d.1=7
 ·rw[ALP c]
  grind[Fy,MW,BH]
 rw[ALo c];clear c;by_cases c:d.1=8
 ·rw[ALP c]
  grind[Fy,MN,BH]
 rw[ALo c];clear c;by_cases c:d.1=9
 ·rw[ALP c]
  grind[Fy,MX,BH]
 rw[ALo c];clear c;by_cases c:d.1=10
 ·rw[ALP c]
  grind[Fy,L4,BH]
 rw[ALo c];clear c;by_cases c:d.1=11
 ·rw[ALP c]
  grind[Fy,SV,BH]
 rw[ALo c];clear c;by_cases c:d.1=12
 ·rw[ALP c]
  grind[Fy,Ik,BH]
 rw[ALo c];clear c;by_cases c:d.1=13
 ·rw[ALP c]
  grind[Fy,OC,BH]
 rw[ALo c];clear c;by_cases c:d.1=14
 ·rw[ALP c];exact ABn h
 rw[ALo c];clear c;by_cases c:d.1=15
 ·rw[ALP c]
  grind[Fy,NB,BH]
 rw[ALo c];grind[Fy,Ie,BH]
theorem yP{all:Bool}{w:AA}{d:BS}(h:c_ w)(e:(Df all w d).2=0):c_ (Df all w d).1:=by
 unfold Df at*;by_cases hc:(!Fm w|| !PW d)=true
 ·simp_all
 ·rw[ALo hc];exact AId h
theorem xk{c:CD}:c_ (Eu c):=fun r hr=>by
 have:r=(1,1,[],()):=by
  have hr':r∈([(1,1,[],()),(1,1,[],())]:List AY):=hr;simp_all
 simp_all
theorem rW{all:Bool}{w:AA}{d:BS}(h:RdS w)(e:(Df all w d).2=0):RdS (Df all w d).1:=by
 unfold Df at*;by_cases hc:(!Fm w|| !PW d)=true
 ·simp_all
 ·rw[ALo hc];exact zi h
theorem dk{c:CD}(hc:Ej c=true):Nn (Eu c)∧RdS (Eu c):=by
 refine⟨⟨hc,by simp[Eu,H.AA.An],dm hc,.inr holds_nil,fun i hi=> ?_,⟨hc,by show 0≤30;omega,.inl rfl,fun e he=>(by cases he),fun i hi=>by exact absurd hi (by show¬i<0;omega)⟩,by show 0≤4;omega,by show 0≤1;omega,fun x hx=>(by cases hx),List.Pairwise.nil,fun x hx=>(by cases hx),rfl,fun r hr=> ?_,by show 0≤120;omega,fun x hx=>(by cases hx),List.Pairwise.nil⟩,fun r hr=> ?_⟩
 ·have:(Eu c).An.getD i Cr=Cr:=by
   show(List.replicate c.1.length Cr).getD i Cr=Cr
   grind
  rw[this];exact⟨fg.nil,fun _=>rfl⟩
 ·have:r=(1,1,[],()):=by
   have hr':r∈([(1,1,[],()),(1,1,[],())]:List AY):=hr;simp_all
  subst this;exact⟨by omega,by simp_all,by simp_all⟩
 ·have:r=(1,1,[],()):=by
   have hr':r∈([(1,1,[],()),(1,1,[],())]:List AY):=hr;simp_all
  simp_all
theorem ki{c:CD}(hc:Ej c=true):Hc c=some (((((),c.2.1,(),(),(),0,(),(),(),(),false,()),true,()),()),(c.1,List.replicate c.1.length Cr,[],[],[],[],[(1,1,[],()),(1,1,[],())],[],())):=by
 have hl:=(Gh hc).2.1;unfold Hc;rw[show(c.1,c.2.1,())=c from rfl,HL (by omega),hc];simp only[AD,AMO,AMh];rw[ALP (by rw[BX];omega),ALP ⟨by omega,by omega,by rw[BX];omega⟩];rfl
section
variable{code:AAH} (hc:code.length≤2^30)
include hc
end
end Go.M
end
section
set_option maxRecDepth 8000
namespace Go.M
open Go.M.H (AJ AO As Ab AA CO AN A4 AM AY Az Av BS Ak CL Af AX Aa Aq CB BF Ar A7 EC CM Cs C9)
def ABc(c:CD)(r:AN):Prop:=yk c r∨r=([],0,())
theorem ABc.w{c:CD}{r:AN}(h:ABc c r):Af CB r.1≤270:=by
 rcases h with h|rfl
 ·exact h.w
 ·show 0≤270;omega
theorem ABc.n{c:CD}{r:AN}(h:ABc c r):r.1.length≤30:=by
 rcases h with h|rfl
 ·exact h.n
 ·show 0≤30;omega
theorem ABc.tin{c:CD}{r:AN}(h:ABc c r):DH r.2.1:=by
 rcases h with h|rfl
 ·exact h.tin
 ·exact Ou (by show-1000≤(0:Int)∧(0:Int)≤1000;omega)
section
variable{code:AAH} (hc:code.length≤2^30) {c:CD} (cX:c.1.length≤2^10)
include hc cX
end
section
variable{code:AAH} (hc:code.length≤2^30) {c:CD} (hcf:Ej c=true)
include hc hcf
end
end Go.M
end
section
set_option maxRecDepth 8000
namespace Go.M
open Go.M.H (AJ AO As Ab AA CO AN A4 AM AY Az Av BS Ak CL Af AX Aa Aq CB BF Ar A7 EC CM Cs C9)
section
variable{code:AAH} (hc:code.length≤2^30)
include hc
def pkw(w:AA):OE:=((((),w.2.1,(),(),(),w.2.2.2.2.2.1,(),(),(),(),w.2.2.2.2.2.2.2.2.2.2.1,()),()),(w.1,w.2.2.1,w.2.2.2.1,w.2.2.2.2.1,w.2.2.2.2.2.2.1,w.2.2.2.2.2.2.2.1,w.2.2.2.2.2.2.2.2.1,w.2.2.2.2.2.2.2.2.2.1,()))
def OKW(o:Option OE):Prop:= ∃w,o=some (pkw w)∧fa w∧c_ w
omit hc in
theorem OKW.bind{X Y:Type}{Q:X→Y→Prop}{o:Option (X×(ADL×Y))}{f:X×(ADL×Y)→Option OE}
  (ho:OK code Q o) (hf:∀x i h y,Gf code i→Q x y→OKW (f (x,((code,i,h,()),y)))):OKW (o.bind f):=by
 obtain⟨x,i,h,y,e,hi,hq⟩:=ho;rw[e];exact hf x i h y hi hq
omit hc in
theorem OKW.ite{p:Prop}[Decidable p]{x y:Option OE}(hp:p)(h1:OKW x):OKW (if p then x else y):=by
 rw[ALP hp];exact h1
omit hc in
theorem OKW.oc{a b:Int}{x y:Option OE}(h1:a=b→OKW x)(h2:a≠b→OKW y):OKW (_root_.cond (a==b) x y):=by
 rw[DI];by_cases hp:a=b
 ·rw[ALP hp];exact h1 hp
 ·rw[ALo hp];exact h2 hp
end
end Go.M
end
