/- Plain facts on what the functions compute. -/
import Derived.Test.YtdkfcaidapdecaaGreatG1
set_option linter.unusedVariables false
set_option linter.unusedSimpArgs false
set_option linter.unusedSectionVars false
section
namespace Go.M
theorem AB{α:Type}(p:Prop)[Decidable p](a b:α):cond (decide p) a b=if p then a else b:=by
 simp_all
theorem AH{x:Int}(h1: -9223372036854775808≤x)(h2:x<9223372036854775808):AS x=x:=by
 grind[AS,IntKind.wrap,IntKind.bits,IntKind.signed]
theorem AHo{n:Nat}(h:n<9223372036854775808):AS (n:Int)=n:=AH (by omega) (by omega)
theorem AAG(n:Nat):(BitVec.ofInt 64 (n:Int)).toNat=n%2^64:=by
 rfl
theorem n0{n:Nat}(h:n<2^63):IntKind.wrap .i64 (n:Int)=n:=AHo (by omega)
theorem ABG{a b:Nat}(ha:a<2^63)(hb:b<2^63):cQ .i64 a b=((a &&& b:Nat):Int):=by
 grind[cQ,BitVec.ofInt,IntKind.bits,BitVec.toNat_and,AAG,Nat.mod_eq_of_lt,n0,Nat.lt_of_le_of_lt,Nat.and_le_left]
theorem Aa{n:Nat}(h:n<2^64):n<AY:=AQZ h eO
theorem Ah{α:Type}{l:List α}{i:Nat}{d:α}(h:i<l.length):l.getD ((i:Int).toNat) d=l[i]:=by
 simp_all
theorem drop_cons{α:Type}{l:List α}{i:Nat}(h:i<l.length):l.drop i=l[i]::l.drop (i+1):=(List.getElem_cons_drop h).symm
theorem An:DA=68719476736:=rfl
end Go.M
end
section
namespace Go.M
def BF(x a b:Int):Bool:=decide (a≤x∧x≤b)
theorem BQ(x a b:Int):B8 x a b=some ((BF x a b,()),()):=by
 unfold B8 BF;grind
theorem Aq(x a b:Int):Ay x a b=some ((BF x a b,()),()):=BQ x a b
def Fi(x:AAq):Bool:=BF (x.1.length:Int) 1 8&&(BF x.2.1 1 4&&x.1.all fun d=>BF d 0 7)
theorem cB{l:AAM}{c:Int}(hl:l.length≤2^40):∀(n i:Nat),i≤l.length→l.length-i<n→Lv n i l c=some (((l.drop i).all fun d=>BF d 0 7,()),())
 |0,i,_,h=>by omega
 |n+1,i,hi,h=>by
  simp only[Lv,Vm,AB];by_cases hc:i<l.length
  ·rw[ALC (by omega),ALC (by omega),Ah hc,BQ,AH (by omega) (by omega),drop_cons hc]
   simp only[AMM,AQr];cases hb:BF l[i] 0 7 with
   |false=>simp
   |true=>
    simp only[ALW,AL5,ANm];rw[show(((i:Nat):Int)+1)=((i+1:Nat):Int)by omega,cB hl n (i+1) (by omega) (by omega)]
  grind
theorem HS{x:AAq}(hl:x.1.length≤2^40):GP x=some ((Fi x,()),()):=by
 unfold GP Vn Fi;simp only[BQ,AMM];cases BF (x.1.length:Int) 1 8 with
 |false=>simp
 |true=>
  cases BF x.2.1 1 4 with
  |false=>simp
  |true=>
   grind[cB,AY,Aa]
theorem bY{l:AAM}{c:Int}(hl:l.length≤2^40):∀(n i:Nat),i≤l.length→l.length-i<n→
  Lm n l l.length i l c=some ((((l.drop i).all fun d=>BF d 0 7)&&(BF (l.length:Int) 1 8&&BF c 1 4),()),())
 |0,i,_,h=>by omega
 |n+1,i,hi,h=>by
  simp only[Lm,Vk,AB];by_cases hc:i<l.length
  ·rw[ALC (by omega),ALC (by omega),Ah hc,Aq,AH (by omega) (by omega),drop_cons hc]
   simp only[AMM,AQr];cases hb:BF l[i] 0 7 with
   |false=>simp
   |true=>
    simp only[ALW,AL5,ANm];rw[show(((i:Nat):Int)+1)=((i+1:Nat):Int)by omega,bY hl n (i+1) (by omega) (by omega)]
  ·rw[ALG (by omega)]
   have:i=l.length:=by omega
   subst this;simp only[Aq,AMM,AQn,List.all_nil,ANm];grind
theorem LS{x:AAq}(hl:x.1.length≤2^40):Es x=some ((Fi x,()),()):=by
 unfold Es Vx Fi;have:=bY (l:=x.1) (c:=x.2.1) hl AY 0 (by omega) (Aa (by omega));grind
theorem Dw{x:AAq}(h:Fi x=true):1≤x.1.length∧x.1.length≤8∧1≤x.2.1∧x.2.1≤4∧ ∀d∈x.1,0≤d∧d≤7:=by
 simp only[Fi,BF,ALo,ANR,AQj]at h;grind
end Go.M
end
section
namespace Go.M
def Bytes(b:AAM):Prop:= ∀c∈b,0≤c∧c<256
end Go.M
end
section
namespace Go.M
theorem wf_i64{c:Int}(h:(Go.Lit.int .i64 c).wf=true): -9223372036854775808≤c∧c<9223372036854775808:=by
 simp only[Go.Lit.wf,ALo,ANR]at h;have h1:Go.IntKind.min .i64= -9223372036854775808:=rfl;simp_all;omega
end Go.M
end
section
namespace Go.M
abbrev Ev:Type:=Int×Int×List UInt8×Unit
abbrev Rdr:Type:=Int×Int×List Ev×Unit
def Yt(x:Rdr):Bool:=BF x.1 1 31&&(BF x.2.1 1 61&&decide ((x.2.2.1.length:Int)≤120))
theorem PF(x:Rdr):M5 x=some ((Yt x,()),()):=by
 grind[M5,Yt,BQ,BF]
theorem aE(x:Rdr):UM x=some ((Yt x,()),()):=PF x
end Go.M
end
section
namespace Go.M
def CS(code:AAM)(i:Int):Prop:=0≤i∧i≤code.length
theorem yi(x:Int):∃v:Int,cQ .i64 x 255=v∧0≤v∧v<256:=by
 refine⟨_,rfl,?_⟩;grind[cQ,BitVec.ofInt,Go.IntKind.bits,BitVec.toNat_and,Nat.lt_of_le_of_lt,Nat.and_le_right,n0]
section
variable{code:AAM} (hc:code.length≤2^30)
include hc
theorem Zt{i h:Int}(hi:CS code i):∃v i' h',L_ code i h=some ((v,()),((code,i',h',()),()))∧0≤v∧v<256∧CS code i':=by
 unfold L_;simp only[AB];obtain⟨h0,h1⟩:=hi;split
 ·rename_i Hw
  rw[ALC ⟨h0,Hw⟩,AH (x:=i+1) (by omega) (by omega)];obtain⟨v,e,v0,v1⟩:=yi (AS (cQ .i64 (AQB .i64 ((AS (AS (h*6364136223846793005)+1442695040888963407)).fdiv (2^33)) ((AS (AS (h*6364136223846793005)+1442695040888963407)).fdiv (2^45))) 255+AS (code.getD i.toNat 0)));exact⟨v,i+1,_,by rw[e],v0,v1,by omega,by omega⟩
 ·obtain⟨v,e,v0,v1⟩:=yi (AQB .i64 ((AS (AS (h*6364136223846793005)+1442695040888963407)).fdiv (2^33)) ((AS (AS (h*6364136223846793005)+1442695040888963407)).fdiv (2^45)))
  exact⟨v,i,_,by rw[e],v0,v1,h0,h1⟩
theorem Em{i h n:Int}(hi:CS code i)(hn:n≤2^40):∃v i' h',AJ n code i h=some ((v,()),((code,i',h',()),()))∧0≤v∧(0<n→v<n)∧(n≤0→v=0)∧CS code i':=by
 unfold AJ;simp only[AB];split
 ·grind
 ·split
  ·obtain⟨v,i1,h1,e,v0,v1,K3⟩:=Zt hc (h:=h) hi
   rw[e];simp only[AMM];rw[ALG (by omega),Int.tmod_eq_emod_of_nonneg v0];exact⟨_,i1,h1,rfl,Int.emod_nonneg _ (by omega),fun _=>Int.emod_lt_of_pos _ (by omega),by omega,K3⟩
  ·obtain⟨v1,i1,h1,e1,a1,b1,K3⟩:=Zt hc (h:=h) hi
   obtain⟨v2,i2,h2,e2,a2,b2,H0⟩:=Zt hc (h:=h1) K3;obtain⟨v3,i3,h3,e3,a3,b3,Kn⟩:=Zt hc (h:=h2) H0;obtain⟨v4,i4,h4,e4,a4,b4,sU⟩:=Zt hc (h:=h3) Kn;rw[e1];simp only[AMM];rw[e2];simp only[AMM];rw[e3];simp only[AMM];rw[e4];simp only[AMM];rw[AH (x:=v1*16777216) (by omega) (by omega),AH (x:=v2*65536) (by omega) (by omega),AH (x:=v3*256) (by omega) (by omega),AH (x:=v1*16777216+v2*65536) (by omega) (by omega),
    AH (x:=v1*16777216+v2*65536+v3*256) (by omega) (by omega),AH (by omega) (by omega),ALG (by omega),Int.tmod_eq_emod_of_nonneg (by omega)]
   exact⟨_,i4,h4,rfl,Int.emod_nonneg _ (by omega),fun _=>Int.emod_lt_of_pos _ (by omega),by omega,sU⟩
theorem kd{i h n:Int}(hi:CS code i)(hn:n≤2^40):∃v i' h',A9 n code i h=some ((v,()),((code,i',h',()),()))∧CS code i':=by
 unfold A9;obtain⟨v,i1,h1,e,_,_,_,K3⟩:=Em hc (h:=h) hi hn;rw[e];exact⟨_,i1,h1,rfl,K3⟩
theorem Ki{i h:Int}{l:AAM}(hi:CS code i)(hl:l≠[])(hn:l.length≤2^30):∃v i' h',CI l code i h=some ((v,()),((code,i',h',()),()))∧v∈l∧CS code i':=by
 unfold CI;have hp:=AVA.2 hl;obtain⟨v,i1,h1,e,v0,v1,_,K3⟩:=Em hc (h:=h) (n:=l.length) hi (by omega);grind
omit hc in
theorem yt{n:Nat}:∀(m i:Nat) (h:Int),i≤code.length→code.length-i<m→ ∃h',Pt m code h i=some (((),()),((code,0,h',()),()))
 |0,_,_,_,h=>by omega
 |m+1,i,h,hi,hm=>by
  simp only[Pt,Z9,AB];by_cases Hw:i<code.length
  ·rw[ALC (by omega)]
   split
   ·rw[ALC (by omega),AH (x:=(i:Int)+1) (by omega) (by omega),show((i:Int)+1)=((i+1:Nat):Int)by omega]
    exact yt (n:=n) m (i+1) _ (by omega) (by omega)
   ·exact⟨_,rfl⟩
  ·rw[ALG (by omega)]
   exact⟨_,rfl⟩
theorem ABJ:∃h',aU code=some (((),()),((code,0,h',()),())):=by
 unfold aU aK;exact yt (n:=0) AY 0 _ (by omega) (Aa (by omega))
def bB(l:AAM)(c:Int):Prop:=3≤l.length∧l.length≤7∧1≤c∧c≤3∧ ∀d∈l,0≤d∧d≤4
omit hc in
theorem bB.ok{l:AAM}{c:Int}(h:bB l c):Fi (l,c,())=true:=by
 obtain⟨h1,h2,h3,h4,h5⟩:=h;simp only[Fi,BF,ALo,ANR,AQj];exact⟨by omega,by omega,fun d hd=>by have:=h5 d hd;omega⟩
theorem fX{N:Nat}(hN:3≤N∧N≤7){c:Int}(h1:1≤c∧c≤3){x1:Int}{x2:AAM}:∀(n k:Nat) (i h:Int) (acc:AAM),CS code i→k≤N→N-k<n→acc.length=k→(∀d∈acc,0≤d∧d≤4)→
  ∃l c' i' h',IM n N k code i h x1 x2 c acc=some ((((),c',()),()),((code,i',h',()),l,()))∧bB l c'∧CS code i'
 |0,_,_,_,_,_,_,h,_,_=>by omega
 |n+1,k,i,h,acc,hi,hk,hn,hacc,hd=>by
  simp only[IM,SU,AB];by_cases Hw:k<N
  ·rw[ALC (by omega)]
   obtain⟨v,i1,h1',e,v0,v1,_,K3⟩:=Em hc (h:=h) (n:=5) hi (by omega);rw[e];simp only[AMM];rw[ALC (by rw[An];omega),AH (by omega) (by omega),show((k:Int)+1)=((k+1:Nat):Int)by omega];have:=v1 (by omega);exact fX hN h1 n (k+1) i1 h1' _ K3 (by omega) (by omega) (by simp[hacc]) (fun d hdd=>by
    grind)
  ·rw[ALG (by omega)]
   obtain⟨v,i1,h1',e,K3⟩:=kd hc (h:=h) (n:=2) hi (by omega);rw[e];simp only[AMM];cases v
   ·exact⟨acc,c,i1,h1',rfl,⟨by omega,by omega,h1.1,h1.2,hd⟩,K3⟩
   ·exact⟨acc,2,i1,h1',rfl,⟨by omega,by omega,by omega,by omega,hd⟩,K3⟩
theorem df{i h:Int}(hi:CS code i):∃l c' i' h',L0 code i h=some ((((),c',()),()),((code,i',h',()),l,()))∧bB l c'∧CS code i':=by
 unfold L0 SO;obtain⟨v,i1,h1,e1,a1,b1,_,K3⟩:=Em hc (h:=h) (n:=3) hi (by omega);rw[e1];simp only[AMM];obtain⟨w,i2,h2,e2,a2,b2,_,H0⟩:=Em hc (h:=h1) (n:=5) K3 (by omega);rw[e2];simp only[AMM];have:=b1 (by omega);have:=b2 (by omega);rw[AH (by omega) (by omega),AH (by omega) (by omega)];obtain⟨N,hN⟩:∃N:Nat,3+w=(N:Int):=⟨(3+w).toNat,by omega⟩;rw[hN];exact fX hc (by omega) (by omega) AY 0 i2 h2 [] H0 (by omega) (Aa (by omega)) rfl (by simp)
theorem zY{i h:Int}(hi:CS code i):∃l c' i' h',RC code i h=some ((((),c',()),()),((code,i',h',()),l,()))∧l.length≤9∧CS code i':=by
 unfold RC;obtain⟨l,c,i1,h1,e1,hg,K3⟩:=df hc (h:=h) hi;rw[e1];simp only[AMM];obtain⟨v,i2,h2,e2,a2,b2,_,H0⟩:=Em hc (h:=h1) (n:=20) K3 (by omega);rw[e2];simp only[AMM];obtain⟨g1,g2,g3,g4,g5⟩:=hg;cases v==0 with
 |true=>
  simp only[ANZ];obtain⟨p,i3,h3,e3,hp,Kn⟩:=Ki hc (h:=h2) (l:=[0,4,5]) H0 (by simp) (by simp);grind
 |false=>
  simp only[AL5];cases v==1 with
  |true=>
   simp only[ANZ];obtain⟨p,i3,h3,e3,hp,Kn⟩:=Ki hc (h:=h2) (l:=[-1,7,8]) H0 (by simp) (by simp);grind
  |false=>
   simp only[AL5];cases v==2 with
   |true=>
    simp only[ANZ];obtain⟨p,i3,h3,e3,hp,Kn⟩:=Ki hc (h:=h2) (l:=[0,8,9]) H0 (by simp) (by simp);rw[e3];simp only[AMM];simp at hp;rw[ALC (by rw[An];omega)];grind
   |false=>grind
end
end Go.M
end
section
namespace Go.M.H
open Go.M
def AU{α:Type}(f:α→Nat):List α→Nat
 |[]=>0
 |x::l=>1+f x+AU f l
theorem AW{α:Type}{f:α→Nat}:∀{l:List α},l.length≤AU f l
 |[]=>APM _
 |x::l=>by
  have:=AW (f:=f) (l:=l);grind[AU,List.length_cons]
theorem AX{α:Type}{f:α→Nat}{x:α}:∀{l:List α},x∈l→f x≤AU f l
 |y::l,h=>by
  simp only[AU];rcases APr.1 h with rfl|h
  ·omega
  ·have:=AX (f:=f) h
   omega
abbrev ARO:Type:=List Int
abbrev C3(x:ARO):Nat:=x.length
abbrev AK:Type:=Int×Int×Bool×List UInt8×Unit
abbrev sE:Go.Fw.Ty:= .cons (.int .i64) (.cons (.int .i64) (.cons .bool (.cons .str (.unit))))
def Ag(x:AK):Nat:=x.2.2.2.1.length
abbrev AO:Type:=List AK×List AK×Int×Unit
abbrev AJx:Go.Fw.Ty:= .cons (.sl sE) (.cons (.sl sE) (.cons (.int .i64) (.unit)))
def Ai(x:AO):Nat:=AU Ag x.1+AU Ag x.2.1
abbrev Cp:Type:=List Int×Bool×Int×Unit
abbrev uu:Go.Fw.Ty:= .cons (.sl (.int .i64)) (.cons .bool (.cons (.int .i64) (.unit)))
def Bb(x:Cp):Nat:=x.1.length
abbrev AN:Type:=List Cp×Int×Unit
abbrev A6:Type:=List UInt8×List Int×Bool×Unit
abbrev o4:Go.Fw.Ty:= .cons .str (.cons (.sl (.int .i64)) (.cons .bool (.unit)))
def As(x:A6):Nat:=x.1.length+x.2.1.length
abbrev AQ:Type:=Int×List A6×Unit
abbrev dj:Go.Fw.Ty:= .cons (.int .i64) (.cons (.sl o4) (.unit))
def Am(x:AQ):Nat:=AU As x.2.1
abbrev Ax:Type:=Int×Int×List Int×List AK×Bool×List AAM×Unit
abbrev ANh:Go.Fw.Ty:= .cons (.int .i64) (.cons (.int .i64) (.cons (.sl (.int .i64)) (.cons (.sl sE) (.cons .bool (.cons (.sl (.sl (.int .i64))) (.unit))))))
def B5(x:Ax):Nat:=x.2.2.1.length+AU Ag x.2.2.2.1+AU C3 x.2.2.2.2.2.1
abbrev Bc:Type:=Int×Int×List UInt8×Unit
abbrev AF5:Go.Fw.Ty:= .cons (.int .i64) (.cons (.int .i64) (.cons .str (.unit)))
def CG(x:Bc):Nat:=x.2.2.1.length
abbrev Aj:Type:=Int×Int×List Bc×Unit
abbrev ACA:Go.Fw.Ty:= .cons (.int .i64) (.cons (.int .i64) (.cons (.sl AF5) (.unit)))
def A0(x:Aj):Nat:=AU CG x.2.2.1
abbrev A7:Type:=Int×Bool×Int×Int×Bool×List UInt8×Unit
abbrev Al:Type:=Int×List UInt8×Bool×Unit
abbrev AQA:Go.Fw.Ty:= .cons (.int .i64) (.cons .str (.cons .bool (.unit)))
def D8(x:Al):Nat:=x.2.1.length
abbrev AA:Type:=List Int×Int×List AO×List Int×List Cp×Int×List AQ×List Ax×List Aj×List Al×Bool×Unit
abbrev iF:Go.Fw.Ty:= .cons (.sl (.int .i64)) (.cons (.int .i64) (.cons (.sl AJx) (.cons (.sl (.int .i64)) (.cons (.sl uu) (.cons (.int .i64) (.cons (.sl dj) (.cons (.sl ANh) (.cons (.sl ACA) (.cons (.sl AQA) (.cons .bool (.unit)))))))))))
def Ct(x:AA):Nat:=x.1.length+AU Ai x.2.2.1+x.2.2.2.1.length+AU Bb x.2.2.2.2.1+AU Am x.2.2.2.2.2.2.1+AU B5 x.2.2.2.2.2.2.2.1+AU A0 x.2.2.2.2.2.2.2.2.1+AU D8 x.2.2.2.2.2.2.2.2.2.1
abbrev Br:Type:=Int×Int×Int×Int×List UInt8×Unit
end Go.M.H
end
section
namespace Go.M
def EW(p:Nat→Bool)(i:Nat):Nat→Bool
 |0=>true
 |d+1=>p i&&EW p (i+1) d
theorem Fu{L:Nat→Int→Option (AA1×Unit)}{len:Nat}{p:Nat→Bool}{fin:Bool}(h1:∀n (i:Nat),i<len→L (n+1) i=cond (p i) (L n ((i+1:Nat):Int)) (some ((false,()),())))(h2:∀n,L (n+1) (len:Int)=some ((fin,()),())):
  ∀d n i,i+d=len→d<n→L n i=some ((EW p i d&&fin,()),())
 |0,n,i,hd,h=>by
  obtain⟨m,rfl⟩:∃m,n=m+1:=⟨n-1,by omega⟩;have:i=len:=by omega
  subst this;rw[h2];rfl
 |d+1,n,i,hd,h=>by
  obtain⟨m,rfl⟩:∃m,n=m+1:=⟨n-1,by omega⟩;rw[h1 m i (by omega)];simp only[EW];cases p i with
  |false=>rfl
  |true=>rw[ANZ,Fu h1 h2 d m (i+1) (by omega) (by omega)];rfl
theorem Rb{p:Nat→Bool}:∀{d i:Nat},EW p i d=true→ ∀j,i≤j→j<i+d→p j=true
 |0,i,_,j,h1,h2=>by omega
 |d+1,i,h,j,h1,h2=>by
  simp only[EW,ALo]at h;by_cases hj:j=i
  ·simp_all
  ·exact Rb h.2 j (by omega) (by omega)
theorem oA{p:Nat→Bool}:∀{d i:Nat},(∀j,i≤j→j<i+d→p j=true)→EW p i d=true
 |0,_,_=>rfl
 |d+1,i,h=>by
  simp only[EW,ALo];exact⟨h i (by omega) (by omega),oA fun j h1 h2=>h j (by omega) (by omega)⟩
def XA(x:Int):Int:=x.tdiv 4294967296
def Ba(x:Int):Bool:=BF (XA x) 1 30&&BF (x.tmod 4294967296) 1 60
def Ar(x:Int):Int:=if Ba x then XA x else 0
theorem ir{x:Int}(h: -9223372036854775808≤x∧x<9223372036854775808):AS (x.tdiv 4294967296)=XA x:=by
 grind[XA,AH,Int.lt_or_le,Int.neg_tdiv,Int.tdiv_eq_ediv_of_nonneg]
theorem cY{x:Int}(h:Ba x=true):0<x∧x<2^40:=by
 simp only[Ba,BF,ALo,ANR]at h;grind[XA,Int.lt_or_le,Int.neg_tdiv,Int.tdiv_eq_ediv_of_nonneg,Int.tmod_eq_emod_of_nonneg]
def Ce(x:Int):Prop:= -9223372036854775808≤x∧x<9223372036854775808
theorem IH{x:Int}(h:Ce x):Hb x=some ((Ba x,()),()):=by
 unfold Hb;rw[ir h,AB];split
 ·grind[BQ,Ba,BF,XA]
 ·rename_i h0
  rcases AK_ (Ba x)with hp|hp
  ·exact absurd (cY hp).1 (by omega)
  ·rw[hp]
theorem QD{x:Int}(h:Ce x):Ds x=some ((Ba x,()),()):=by
 unfold Ds HZ Wg;rw[ir h];grind[Aq,Ba,BF,XA]
theorem D7{x:Int}(h:Ce x):Cf x=some ((Ar x,()),()):=by
 unfold Cf Ar;rw[IH h,ir h];grind
theorem Eu{x:Int}(h:Ce x):E4 x=some ((Ar x,()),()):=by
 unfold E4 Ar;rw[QD h,ir h];grind
theorem fV{x:Int}:(Ba x=true→1≤Ar x∧Ar x≤30)∧(Ba x=false→Ar x=0):=by
 constructor
 ·intro h
  rw[Ar,ALC h];simp only[Ba,BF,ALo,ANR]at h;omega
 grind[Ar]
def tG(l:AAM)(hi:Int)(i:Nat):Bool:=BF (l.getD i 0) 0 hi&&(i==0||decide (l.getD (i-1) 0<l.getD i 0))
def pU(l:AAM)(hi:Int):Bool:=EW (tG l hi) 0 l.length
theorem fP{l:AAM}{hi:Int}(hl:l.length≤2^40):Wo l 0 hi=some ((pU l hi,()),()):=by
 unfold Wo Zj pU;rw[←AQp (EW _ _ _)];refine Fu (L:=fun n i=>NG n l 0 hi i) (len:=l.length) (p:=tG l hi) (fin:=true) (fun n i DG=> ?_) (fun n=> ?_) l.length AY 0 (by omega) (Aa (by omega))
 ·simp only[NG,TV,AB]
  rw[ALC (by omega),ALC (by omega),BQ,AH (x:=(i:Int)+1) (by omega) (by omega)];simp only[AMM,AMp,tG];cases BF (l.getD i 0) 0 hi with
  |false=>rfl
  |true=>
   simp only[ALW,AL5,ANm];by_cases h0:i=0
   ·simp_all
   ·rw[ALC (by omega),AH (by omega) (by omega),ALC (by omega),ALC (by omega)]
    have h1:((i:Int)-1).toNat=i-1:=by omega
    have h2:(i==0)=false:=by simp_all
    rw[h1,h2,AQW];grind
 ·simp only[NG,TV,AB]
  simp_all
theorem mO{l:AAM}{hi:Int}(hl:l.length≤2^40):WD l hi=some ((pU l hi,()),()):=by
 unfold WD Wr pU;rw[←AQp (EW _ _ _)];refine Fu (L:=fun n i=>J3 n l hi l l.length i) (len:=l.length) (p:=tG l hi) (fin:=true) (fun n i DG=> ?_) (fun n=> ?_) l.length AY 0 (by omega) (Aa (by omega))
 ·simp only[J3,Qj,AB]
  rw[ALC (by omega),ALC (by omega),Aq,AH (x:=(i:Int)+1) (by omega) (by omega)];simp only[AMM,AMp,tG];cases BF (l.getD i 0) 0 hi with
  |false=>rfl
  |true=>
   simp only[ALW,AL5,ANm];by_cases h0:i=0
   ·simp_all
   ·rw[ALC (by omega),AH (by omega) (by omega),ALC (by omega)]
    have h1:((i:Int)-1).toNat=i-1:=by omega
    have h2:(i==0)=false:=by simp_all
    rw[h1,h2,AQW];grind
 ·simp only[J3,Qj,AB]
  simp_all
theorem uj{l:AAM}{hi:Int}(h:pU l hi=true):∀x∈l,0≤x∧x≤hi:=fun x hx=>by
 obtain⟨i,DG,rfl⟩:=AQS hx;have:=Rb h i (by omega) (by omega);simp only[tG,BF,ALo,ANR]at this;simp_all
theorem yR{l:AAM}{hi:Int}(h:pU l hi=true):∀i,i<l.length→(i:Int)≤l.getD i 0
 |0,hl=>by
  have:=Rb h 0 (by omega) (by omega);simp only[tG,BF,ALo,ANR]at this;omega
 |i+1,hl=>by
  have h1:=yR h i (by omega);have:=Rb h (i+1) (by omega) (by omega);simp only[tG,ALo,AQd,ANR]at this;grind
theorem ADo{l:AAM}{hi:Int}(h:pU l hi=true)(h0:0≤hi+1):(l.length:Int)≤hi+1:=by
 by_cases hl:l.length=0
 ·omega
 ·have h1:=yR h (l.length-1) (by omega)
  have h2:=uj h (l.getD (l.length-1) 0) (by
   grind)
  omega
def Az(c:AAq)(l:AAM):Bool:=Fi c&&pU l ((c.1.length:Int)-1)
theorem Gx{c:AAq}{l:AAM}(hc:c.1.length≤2^40)(hl:l.length≤2^40):Gf c l=some ((Az c l,()),()):=by
 unfold Gf Az;rw[show(c.1,c.2.1,())=c from rfl,HS hc,AH (by omega) (by omega)];simp only[AMM];cases Fi c with
 |false=>rfl
 |true=>
  rw[ANZ,fP hl];rfl
theorem D5{c:AAq}{l:AAM}(hc:c.1.length≤2^40)(hl:l.length≤2^40):Du c l=some ((Az c l,()),()):=by
 unfold Du Az;rw[show(c.1,c.2.1,())=c from rfl,LS hc,AH (by omega) (by omega)];simp only[AMM];cases Fi c with
 |false=>rfl
 |true=>
  rw[ANZ,mO hl];rfl
theorem bE{c:AAq}{l:AAM}(h:Az c l=true):Fi c=true∧c.1.length≤8∧l.length≤8∧(∀x∈l,0≤x∧x<c.1.length)∧ ∀d∈c.1,0≤d∧d≤7:=by
 simp only[Az,ALo]at h;obtain⟨k1,k2,k3,k4,k5⟩:=Dw h.1;have h1:=ADo h.2 (by omega);exact⟨h.1,k2,by omega,fun x hx=>by have:=uj h.2 x hx;omega,k5⟩
theorem yw{l:AAM}{x:Int}(hl:l.length≤2^40):∀(n i:Nat),i≤l.length→l.length-i<n→(∀y∈l.take i,y≠x)→
  ∃r:Int,F_ n l x l.length i=some ((r,()),())∧decide (r≥0)=l.contains x
 |0,_,_,h,_=>by omega
 |n+1,i,hi,h,hx=>by
  simp only[F_,Oi,AB];by_cases hc:i<l.length
  ·rw[ALC (by omega),ALC (by omega),Ah hc,AH (by omega) (by omega)]
   by_cases he:x=l[i]
   ·simp_all
   ·obtain⟨r,e1,e2⟩:=yw hl n (i+1) (by omega) (by omega) (fun y hy=>by
     rw[AQf hc]at hy;rcases AOO.1 hy with hy|hy
     ·exact hx y hy
     grind)
    grind
  ·rw[ALG (by omega)]
   grind
theorem Ix{l:AAM}{x:Int}(hl:l.length≤2^40):Bg l x=some ((l.contains x,()),()):=by
 unfold Bg N6 N5;obtain⟨r,e1,e2⟩:=yw (x:=x) hl AY 0 (by omega) (Aa (by omega)) (by simp);simp_all
def iG(c:AAM):List Int→List Int→List Int
 |[],acc=>acc
 |n::l,acc=>iG c l (if acc.contains (c.getD n.toNat 0)then acc else acc++[c.getD n.toNat 0])
def a_(c:AAM)(l:AAM):Nat:=(iG c l []).length
theorem ZE{c:AAM}{q:Int}{l:AAM}(hl:l.length≤8)(hm:∀x∈l,0≤x∧x<c.length):∀(n i:Nat) (acc:AAM),i≤l.length→l.length-i<n→acc.length≤i→
  Oc n l l.length i c q acc=some ((((iG c (l.drop i) acc).length:Int),()),())
 |0,i,_,_,h,_=>by omega
 |n+1,i,acc,hi,h,ha=>by
  simp only[Oc,YO,AB];by_cases hc:i<l.length
  ·have hx:=hm _ (AMx hc)
   rw[ALC (by omega),ALC (by omega),Ah hc,drop_cons hc]
   generalize l[i]=x at hx
   rw[ALC (by omega),Ix (by omega),AH (by omega) (by omega),show((i:Int)+1)=((i+1:Nat):Int)by omega];simp only[AMM,iG];cases ANn:acc.contains (c.getD x.toNat 0)with
   |true=>
    simp only[ALW,AL5,AQV];exact ZE hl hm n (i+1) acc (by omega) (by omega) (by omega)
   |false=>
    simp only[AQR,ANZ,AL6,APB];rw[ALC (by omega),ALC (by rw[An];omega)];exact ZE hl hm n (i+1) _ (by omega) (by omega) (by simp_all)
  ·rw[ALG (by omega)]
   grind[iG]
theorem nI{c:AAq}{l:AAM}(hc:c.1.length≤2^40)(hl:l.length≤2^40):Yy c l=some ((if Az c l then(a_ c.1 l:Int)else-1,()),()):=by
 unfold Yy Ym;rw[show(c.1,c.2.1,())=c from rfl,D5 hc hl];simp only[AMM];cases h:Az c l with
 |false=>rfl
 |true=>
  obtain⟨k1,k2,k3,k4,k5⟩:=bE h;grind[ZE,AY,Aa,a_]
theorem wi{s:List Bool}{k j:Nat}{b:Bool}(h:k<s.length):(s.set k b).getD j false=if k=j then b else s.getD j false:=by
 grind
theorem Yz{c:AAM}{q:Int}{l:AAM}(hl:l.length≤8)(hd:∀d∈c,0≤d∧d≤7)(hm:∀x∈l,0≤x∧x<c.length):∀(n i:Nat) (acc:AAM) (s:List Bool),i≤l.length→l.length-i<n→acc.length≤i→s.length=8→
  (∀j:Nat,j<8→s.getD j false=acc.contains (j:Int))→
  N_ n l acc.length i c q s=some ((((iG c (l.drop i) acc).length:Int),()),())
 |0,i,_,_,_,h,_,_,_=>by omega
 |n+1,i,acc,s,hi,h,ha,hs,hj=>by
  simp only[N_,YZ,AB];by_cases hc:i<l.length
  ·have hx:=hm _ (AMx hc)
   rw[ALC (by omega),ALC (by omega),Ah hc,drop_cons hc]
   generalize l[i]=x at hx
   rw[ALC (by omega)];have AYm:0≤c.getD x.toNat 0∧c.getD x.toNat 0≤7:=by
    simp_all
   simp only[iG]
   generalize c.getD x.toNat 0=d at AYm
   rw[ALC (by omega),AH (x:=(i:Int)+1) (by omega) (by omega),show((i:Int)+1)=((i+1:Nat):Int)by omega];have hsd:s.getD d.toNat false=acc.contains d:=by
    grind
   rw[hsd];cases ANn:acc.contains d with
   |true=>
    simp only[ALW,AL5,AQV];exact Yz hl hd hm n (i+1) acc s (by omega) (by omega) (by omega) hs hj
   |false=>
    simp only[AQR,ANZ,AL6,APB];rw[ALC (by omega),AH (by omega) (by omega)];have:=Yz (q:=q) hl hd hm n (i+1) (acc++[d]) (s.set d.toNat true) (by omega) (by omega) (by simp_all) (by simp_all) (fun j hj8=>by
     rw[wi (by omega),hj j hj8];grind)
    simp_all
  ·rw[ALG (by omega)]
   grind[iG]
theorem dP{c:AAq}{l:AAM}(h:Az c l=true):Uf c l=some (((a_ c.1 l:Int),()),()):=by
 obtain⟨k1,k2,k3,k4,k5⟩:=bE h;unfold Uf X6;have:=Yz (c:=c.1) (q:=c.2.1) k3 k5 k4 AY 0 [] (List.replicate 8 false) (by omega) (Aa (by omega)) (by simp) (by simp) (fun j hj=>by
  grind)
 grind[a_]
def holds(c:AAq)(l:AAM):Bool:=Az c l&&decide ((a_ c.1 l:Int)≥c.2.1)
theorem Dm{c:AAq}{l:AAM}(hc:c.1.length≤2^40)(hl:l.length≤2^40):Ei c l=some ((holds c l,()),()):=by
 unfold Ei holds;rw[show(c.1,c.2.1,())=c from rfl,Gx hc hl];simp only[AMM];cases h:Az c l with
 |false=>rfl
 |true=>
  rw[ANZ,dP h];rfl
theorem GK{c:AAq}{l:AAM}(hc:c.1.length≤2^40)(hl:l.length≤2^40):GW c l=some ((holds c l,()),()):=by
 unfold GW holds;rw[show(c.1,c.2.1,())=c from rfl,D5 hc hl,nI hc hl];simp only[AMM];cases h:Az c l<;>rfl
theorem Uv{c:AAq}{l:AAM}(h:holds c l=true):Az c l=true:=by
 simp only[holds,ALo]at h;exact h.1
end Go.M
end
section
namespace Go.M
open Go.M.H (Cp AN A6 AQ AU AW AX Bb As Am uu o4 dj)
abbrev B_:Type:=List Int×Int×Unit
def Gt:Cp:=([],false,0,())
def pS(c:B_)(e:Cp):Bool:=holds c e.1&&(BF e.2.2.1 0 60&&(e.2.1||e.2.2.1==0))
theorem qc{c:B_}{e:Cp}(hc:c.1.length≤2^40)(hl:e.1.length≤2^40):bR c e=some ((pS c e,()),()):=by
 unfold bR pS;rw[show(c.1,c.2.1,())=c from rfl,GK hc hl];grind[Aq,holds,BF]
def sv(c:B_)(l:List Cp)(i:Nat):Bool:=
 pS c (l.getD i Gt)&& !((l.getD i Gt).2.1&&(decide (i+1=l.length)||(decide (0<i)&& !(l.getD (i-1) Gt).2.1)))
def gV(r:AN):Bool:=r.2.1==0||(Ba r.2.1&&decide (Ar r.2.1≤r.1.length))
def Mr(c:B_)(r:AN):Bool:=Fi c&&(decide (r.1.length≤30)&&(gV r&&EW (sv c r.1) 0 r.1.length))
theorem BU{α:Type}{l:List α}{i:Nat}{d:α}(h:i<l.length):l.getD i d∈l:=by
 simp_all
theorem mX{c:B_}{l:List Cp}{tr:Int}(hc:c.1.length≤2^40)(hl:AU Bb l≤2^30):Ky AY l.length 0 c.1 c.2.1 l tr=some ((EW (sv c l) 0 l.length,()),()):=by
 have wD:=AW (f:=Bb) (l:=l);rw[←AQp (EW _ _ _)];refine Fu (L:=fun n i=>Ky n l.length i c.1 c.2.1 l tr) (len:=l.length) (p:=sv c l) (fin:=true) (fun n i hi=> ?_) (fun n=> ?_) l.length AY 0 (by omega) (Aa (by omega))
 ·have hm:=AX (f:=Bb) (BU (d:=Gt) hi)
  simp only[Bb]at hm;simp only[Ky,Td,AB];rw[ALC (by omega),ALC (by omega),show(c.1,c.2.1,())=c from rfl,AMp,show(([],false,0,()):Cp)=Gt from rfl,Dm hc (by omega),BQ,AH (x:=(i:Int)+1) (by omega) (by omega),
   AH (x:=(l.length:Int)-1) (by omega) (by omega),AH (x:=(i:Int)-1) (by omega) (by omega),show((i:Int)+1)=((i+1:Nat):Int)by omega]
  simp only[AMM,sv,pS];have e1:((i:Int)==(l.length:Int)-1)=decide (i+1=l.length):=by
   grind
  have e2:(((i:Int)-1).toNat)=i-1:=by omega
  grind
 ·simp only[Ky,Td,AB]
  simp_all
theorem Px{c:B_}{r:AN}(hc:c.1.length≤2^40)(hl:AU Bb r.1≤2^30)(ht:Ce r.2.1):Mj c r=some ((Mr c r,()),()):=by
 unfold Mj Z1 Mr gV;rw[show(c.1,c.2.1,())=c from rfl,HS hc,mX hc hl,IH ht,D7 ht];grind
theorem NH{c:B_}{r:AN}(hc:c.1.length≤2^40)(hl:AU Bb r.1≤2^30)(ht:Ce r.2.1):Ks c r=some ((Mr c r,()),()):=by
 have wD:=AW (f:=Bb) (l:=r.1);have ADO:Kz AY r.1 r.1.length 0 c.1 c.2.1 r.1 r.2.1=some ((EW (sv c r.1) 0 r.1.length&&(Fi c&&(decide (r.1.length≤30)&&gV r)),()),()):=by
  refine Fu (L:=fun n i=>Kz n r.1 r.1.length i c.1 c.2.1 r.1 r.2.1) (len:=r.1.length) (p:=sv c r.1) (fin:=Fi c&&(decide (r.1.length≤30)&&gV r)) (fun n i hi=> ?_) (fun n=> ?_) r.1.length AY 0 (by omega) (Aa (by omega))
  ·have hm:=AX (f:=Bb) (BU (d:=Gt) hi)
   simp only[Bb]at hm;simp only[Kz,T2,AB];rw[ALC (by omega),ALC (by omega),show(c.1,c.2.1,())=c from rfl,AMp,show(([],false,0,()):Cp)=Gt from rfl];rw[show((r.1.getD i Gt).1,(r.1.getD i Gt).2.1,(r.1.getD i Gt).2.2.1,())=r.1.getD i Gt from rfl,qc hc (by omega),AH (x:=(i:Int)+1) (by omega) (by omega),
    AH (x:=(r.1.length:Int)-1) (by omega) (by omega),AH (x:=(i:Int)-1) (by omega) (by omega),show((i:Int)+1)=((i+1:Nat):Int)by omega]
   simp only[AMM,sv];have e1:((i:Int)==(r.1.length:Int)-1)=decide (i+1=r.1.length):=by
    grind
   have e2:(((i:Int)-1).toNat)=i-1:=by omega
   grind
  ·simp only[Kz,T2]
   rw[show decide ((r.1.length:Int)<(r.1.length:Int))=false by simp,show(c.1,c.2.1,())=c from rfl,LS hc,Eu ht];simp only[AL5,AMM,Aq,gV];have e1:decide ((r.1.length:Int)≤30)=decide (r.1.length≤30):=by
    grind
   rw[e1];have e4:BF (Ar r.2.1) 1 (r.1.length:Int)=(Ba r.2.1&&decide (Ar r.2.1≤(r.1.length:Int))):=by
    have hr:=fV (x:=r.2.1);unfold BF;grind
   grind
 grind[Ks,aA,Mr,Fi,decide,gV,EW,sv]
def ADZ(b:Bool):Int:=if b then 1 else 0
theorem l8(b:Bool):au b=some ((ADZ b,()),()):=by cases b<;>rfl
end Go.M
end
section
namespace Go.M
open Go.M.H (Cp AN A6 AQ AU AW AX Bb As Am uu o4 dj)
def MA:A6:=([],[],false,())
def WQ(c:B_)(e:A6):Bool:=decide (e.1.length≤40)&&(Az c e.2.1&&(e.2.2.1==holds c e.2.1))
def RF:List A6→Nat
 |[]=>0
 |e::l=>cond e.2.2.1 0 1+RF l
def le6(n:Nat):Bool:=decide (n≤6)
theorem yN(o:Nat):decide ((o:Int)≤6)=le6 o:=by
 grind[le6]
def DU(c:B_)(w:AQ):Bool:=Fi c&&(BF w.1 1 30&&(decide (w.2.1.length≤60)&&(w.2.1.all (WQ c)&&le6 (RF w.2.1))))
theorem bX{c:B_}{ep:Int}{l:List A6}(hc:c.1.length≤2^40)(hl:AU As l≤2^30):∀(n i o:Nat),i≤l.length→l.length-i<n→o≤i→
  LX n o i c.1 c.2.1 ep l=some (((l.drop i).all (WQ c)&&le6 (o+RF (l.drop i)),()),())
 |0,i,_,_,h,_=>by omega
 |n+1,i,o,hi,h,ho=>by
  have wD:=AW (f:=As) (l:=l);simp only[LX,Ve,AB];by_cases sJ:i<l.length
  ·have hm:=AX (f:=As) (AMx sJ)
   rw[ALC (by omega),ALC (by omega),Ah sJ,drop_cons sJ];have ih:=fun o=>bX (ep:=ep) hc hl n (i+1) o (by omega) (by omega)
   generalize l[i]=e at hm
   simp only[As]at hm;rw[show(c.1,c.2.1,())=c from rfl,Gx hc (by omega),Dm hc (by omega),AH (x:=(i:Int)+1) (by omega) (by omega),AH (x:=(o:Int)+1) (by omega) (by omega),show((i:Int)+1)=((i+1:Nat):Int)by omega,show((o:Int)+1)=((o+1:Nat):Int)by omega];simp only[AMM,AQr,WQ,RF];by_cases h40:e.1.length≤40
   ·rw[ALG (by omega),APl h40,ih o (by omega),ih (o+1) (by omega)]
    cases Az c e.2.1 with
    |false=>rfl
    |true=>
     cases hd:e.2.2.1 with
     |true=>
      grind
     |false=>
      grind
   grind
  ·rw[ALG (by omega)]
   grind[RF,yN]
theorem F5{c:B_}{w:AQ}(hc:c.1.length≤2^40)(hl:AU As w.2.1≤2^30):Hd c w=some ((DU c w,()),()):=by
 have wD:=AW (f:=As) (l:=w.2.1);unfold Hd Vj DU;have h:=bX (ep:=w.1) hc hl AY 0 0 (by omega) (Aa (by omega)) (by omega);rw[show((0:Nat):Int)=0 from rfl]at h;rw[show(c.1,c.2.1,())=c from rfl,HS hc,BQ,h];grind
theorem cF{c:B_}{ep:Int}{l:List A6}(hc:c.1.length≤2^40)(hl:AU As l≤2^30):∀(n i o:Nat),i≤l.length→l.length-i<n→o≤i→
  L2 n o l l.length i c.1 c.2.1 ep l=some (((l.drop i).all (WQ c)&&(Fi c&&(BF ep 1 30&&(decide (l.length≤60)&&le6 (o+RF (l.drop i))))),()),())
 |0,i,_,_,h,_=>by omega
 |n+1,i,o,hi,h,ho=>by
  have wD:=AW (f:=As) (l:=l);simp only[L2,Vi];by_cases sJ:i<l.length
  ·have hm:=AX (f:=As) (AMx sJ)
   rw[show decide ((i:Int)<(l.length:Int))=true by simp_all,ANZ,ALC (by omega),Ah sJ,drop_cons sJ];have ih:=fun o=>cF (ep:=ep) hc hl n (i+1) o (by omega) (by omega)
   generalize l[i]=e at hm
   simp only[As]at hm;rw[show(c.1,c.2.1,())=c from rfl,D5 hc (by omega),GK hc (by omega),l8,AH (x:=(i:Int)+1) (by omega) (by omega),show((i:Int)+1)=((i+1:Nat):Int)by omega];simp only[AMM,AQr,WQ,RF,F4];have e40:decide ((e.1.length:Int)≤40)=decide (e.1.length≤40):=by
    grind
   rw[e40];cases hd:e.2.2.1 with
   |true=>
    rw[show AS ((o:Int)+ADZ (!true))=(o:Int)by rw[ALW,show ADZ false=0 from rfl,Int.add_zero,AH (by omega) (by omega)],ih o (by omega)];grind
   |false=>
    rw[show AS ((o:Int)+ADZ (!false))=((o+1:Nat):Int)by rw[AQR,show ADZ true=1 from rfl,AH (by omega) (by omega)];omega,ih (o+1) (by omega)];grind
  ·have:i=l.length:=by omega
   subst this;rw[show decide (((l.length:Nat):Int)<(l.length:Int))=false by simp,show(c.1,c.2.1,())=c from rfl,LS hc];simp only[AL5,AMM,HZ,Aq,AQn,List.all_nil,RF,AQ2,ANm];grind[decide,yN,Fi,BF]
theorem I8{c:B_}{w:AQ}(hc:c.1.length≤2^40)(hl:AU As w.2.1≤2^30):GN c w=some ((DU c w,()),()):=by
 have wD:=AW (f:=As) (l:=w.2.1);unfold GN Vb DU;have h:=cF (ep:=w.1) hc hl AY 0 0 (by omega) (Aa (by omega)) (by omega);grind
theorem ZL{c:B_}{w:AQ}(h:DU c w=true):Fi c=true∧(1≤w.1∧w.1≤30)∧w.2.1.length≤60∧ ∀e∈w.2.1,WQ c e=true:=by
 simp only[DU,BF,ALo,ANR,AQj]at h;simp_all
theorem ik{c:B_}{e:A6}(h:WQ c e=true):e.1.length≤40∧e.2.1.length≤8∧(∀x∈e.2.1,0≤x∧x<8)∧e.2.2.1=holds c e.2.1:=by
 simp only[WQ,ALo,ANR,AQb]at h;obtain⟨k1,k2,k3,k4,k5⟩:=bE h.2.1;grind
end Go.M
end
section
namespace Go.M
open Go.M.H (AK AO Ax Al AA Cp AN A6 AQ Aj Bc AU AW AX Ag Ai B5 D8 Ct Bb As Am A0 CG)
theorem AFq(a b:Int):decide (a≤b)= !decide (b<a):=by
 grind
theorem AUO(n k:Nat):decide ((n:Int)≤(k:Int))=decide (n≤k):=by
 simp_all
theorem yP(n k:Nat):decide ((n:Int)>(k:Int))= !decide (n≤k):=by
 grind
def D4(x:Int):Int:=cond (Ba x) (x.tmod 4294967296) 0
theorem ZA{x:Int}(h:Ce x):HN x=some ((D4 x,()),()):=by
 grind[HN,D4,IH,Ba]
theorem ZI{x:Int}(h:Ce x):Th x=some ((D4 x,()),()):=by
 grind[Th,D4,QD,Ba]
abbrev Di:AK:=(0,0,false,[],())
def FZ(e:AK):Bool:=Ba e.1&&(BF e.2.1 0 30&&((!decide (e.2.1>0)||decide (Ar e.1<e.2.1))&&(decide (e.2.2.2.1.length≤40)&&(!e.2.2.1||(decide (e.2.1>0)&&e.2.2.2.1==[])))))
theorem P7{e:AK}(h:Ce e.1):MW e=some ((FZ e,()),()):=by
 unfold MW FZ;grind[IH,BQ,D7,AFq,Ar,decide,yP,Ba,BF]
theorem ATX{x:Int}(h:BF x 0 30=true):(x==0)= !decide (x>0):=by
 simp only[BF,ANR]at h;grind
theorem QI{e:AK}(h:Ce e.1):Mh e=some ((FZ e,()),()):=by
 unfold Mh FZ F4;rw[QD h,Aq,Eu h];simp only[AMM];rw[show decide ((e.2.2.2.1.length:Int)≤40)=decide (e.2.2.2.1.length≤40)from AUO _ 40,show decide (e.2.1>Ar e.1)=decide (Ar e.1<e.2.1)from rfl];rcases AK_ (BF e.2.1 0 30)with hi|hi
 all_goals grind[ATX,Ba,decide,Ar]
def Xg(l:List AK):Bool:=EW (fun i=>FZ (l.getD i Di)) 0 l.length
def jE(l:List AK):Bool:=EW (fun i=>i==0||decide ((l.getD (i-1) Di).1<(l.getD i Di).1)) 0 l.length
def eo(l:List AK):Prop:= ∀e∈l,Ce e.1
theorem eo.getD{l:List AK}(h:eo l){i:Nat}(hi:i<l.length):Ce (l.getD i Di).1:=h _ (BU hi)
theorem dy{l:List AK}{k:Nat}(hl:l.length≤2^40)(h:eo l):Uo l k=some ((decide (l.length≤k)&&Xg l,()),()):=by
 unfold Uo YC;have:=Fu (L:=fun n i=>Lf n l i) (len:=l.length) (p:=fun i=>FZ (l.getD i Di)) (fin:=true) (fun n i hi=>by
  simp only[Lf,Sw,AB];rw[ALC (by omega),ALC (by omega),AH (by omega) (by omega),show((i:Int)+1)=((i+1:Nat):Int)by omega];simp only[AMp];rw[show((l.getD i (0,0,false,[],())).1,(l.getD i (0,0,false,[],())).2.1,(l.getD i (0,0,false,[],())).2.2.1,(l.getD i (0,0,false,[],())).2.2.2.1,())=l.getD i Di from rfl,P7 (h.getD hi)];simp_all) (fun n=>by
  simp only[Lf,Sw,AB];simp_all) l.length AY 0 (by omega) (Aa (by omega))
 rw[show((0:Nat):Int)=0 from rfl]at this;rw[this,yP,AQp];cases decide (l.length≤k)<;>rfl
theorem fF{l:List AK}(hl:l.length≤2^40):W6 l=some ((jE l,()),()):=by
 unfold W6 Z6 jE;have h1:∀n (i:Nat),0<i→i<l.length→GQ (n+1) l i=cond (i==0||decide ((l.getD (i-1) Di).1<(l.getD i Di).1)) (GQ n l ((i+1:Nat):Int)) (some ((false,()),())):=fun n i h0 hi=>by
  simp only[GQ,PB,AB];rw[ALC (by omega),AH (x:=(i:Int)-1) (by omega) (by omega),ALC (by omega),ALC (by omega),AH (by omega) (by omega),show((i:Int)+1)=((i+1:Nat):Int)by omega];have h1:((i:Int)-1).toNat=i-1:=by omega
  have h2:(i==0)=false:=by grind
  rw[h1,h2,AMp,AQW];grind
 cases hlen:l.length with
 |zero=>
  obtain⟨m,hm⟩:∃m,AY=m+1:=⟨AY-1,by have:=eO;omega⟩;rw[hm];simp only[GQ,PB,AB];rw[ALG (by omega)];rfl
 |succ k=>
  have:=Fu (L:=fun n i=>if(0:Int)<i then GQ n l i else cond (decide (0<n)) (GQ (n-1) l 1) none) (len:=l.length) (p:=fun i=>i==0||decide ((l.getD (i-1) Di).1<(l.getD i Di).1)) (fin:=true) (fun n i hi=>by
   simp_all) (fun n=>by
   rw[ALC (by omega)];simp only[GQ,PB,AB];simp_all) l.length (AY+1) 0 (by omega) (by have:=eO;omega)
  simp_all
theorem Yr{l:List AK}(hl:l.length≤2^40)(h:eo l):N3 l=some ((Xg l,()),()):=by
 unfold N3 U9;have:=Fu (L:=fun n i=>IE n l l.length i) (len:=l.length) (p:=fun i=>FZ (l.getD i Di)) (fin:=true) (fun n i hi=>by
  simp only[IE,OH,AB];rw[ALC (by omega),ALC (by omega),AH (by omega) (by omega),show((i:Int)+1)=((i+1:Nat):Int)by omega];simp only[AMp];rw[show((l.getD i (0,0,false,[],())).1,(l.getD i (0,0,false,[],())).2.1,(l.getD i (0,0,false,[],())).2.2.1,(l.getD i (0,0,false,[],())).2.2.2.1,())=l.getD i Di from rfl,QI (h.getD hi)];simp_all) (fun n=>by
  simp only[IE,OH,AB];simp_all) l.length AY 0 (by omega) (Aa (by omega))
 rw[show((0:Nat):Int)=0 from rfl]at this;rw[this,AQp];rfl
theorem Ui{l:List AK}(hl:l.length≤2^40):Kd l=some ((jE l,()),()):=by
 unfold Kd Qq;have:=Fu (L:=fun n i=>F6 n l l l.length i) (len:=l.length) (p:=fun i=>i==0||decide ((l.getD (i-1) Di).1<(l.getD i Di).1)) (fin:=true) (fun n i hi=>by
  simp only[F6,L4,AB];rw[ALC (by omega),ALC (by omega),AH (x:=(i:Int)+1) (by omega) (by omega),show((i:Int)+1)=((i+1:Nat):Int)by omega];by_cases h0:i=0
  ·simp_all
  ·rw[ALC (by omega),AH (by omega) (by omega),ALC (by omega)]
   have h1:((i:Int)-1).toNat=i-1:=by omega
   have h2:(i==0)=false:=by simp_all
   rw[h1,h2,AMp,AQW];grind) (fun n=>by
  simp only[F6,L4,AB];simp_all) l.length AY 0 (by omega) (Aa (by omega))
 rw[show((0:Nat):Int)=0 from rfl]at this;rw[this,AQp];rfl
def Bu(s:AO):Bool:=(decide (s.1.length≤200)&&Xg s.1)&&((decide (s.2.1.length≤20)&&Xg s.2.1)&&(jE s.1&&BF s.2.2.1 0 30))
def iS(s:AO):Prop:=eo s.1∧eo s.2.1
theorem Fb{s:AO}(hl:Ai s≤2^30)(h:iS s):GU s=some ((Bu s,()),()):=by
 have l1:=AW (f:=Ag) (l:=s.1);have l2:=AW (f:=Ag) (l:=s.2.1);unfold Ai at hl;have e1:=dy (l:=s.1) (k:=200) (by omega) h.1;have e2:=dy (l:=s.2.1) (k:=20) (by omega) h.2;rw[show((200:Nat):Int)=200 from rfl]at e1;rw[show((20:Nat):Int)=20 from rfl]at e2;grind[GU,Bu,fF,BQ,decide,Xg,jE]
theorem Et{s:AO}(hl:Ai s≤2^30)(h:iS s):E7 s=some ((Bu s,()),()):=by
 have l1:=AW (f:=Ag) (l:=s.1);have l2:=AW (f:=Ag) (l:=s.2.1);unfold Ai at hl;unfold E7 Bu;rw[Yr (by omega) h.1,Yr (by omega) h.2,Ui (by omega),Aq,show decide ((s.1.length:Int)>200)= !decide (s.1.length≤200)from yP _ 200,show decide ((s.2.1.length:Int)>20)= !decide (s.2.1.length≤20)from yP _ 20];grind
end Go.M
end
section
namespace Go.M
open Go.M.H (AK AO Ax Al AA Cp AN A6 AQ Aj Bc AU AW AX Ag Ai B5 D8 Ct Bb As Am A0 CG C3)
theorem jX{L:Nat→Int→Option (AA1×Unit)}{len N:Nat}{p:Nat→Bool}{fin:Bool}(h1:∀n (i:Nat),i<len→L (n+1) i=cond (p i) (L n ((i+1:Nat):Int)) (some ((false,()),())))(h2:∀n,N≤n→L (n+1) (len:Int)=some ((fin,()),())):
  ∀d n i,i+d=len→d+N<n→L n i=some ((EW p i d&&fin,()),())
 |0,n,i,hd,h=>by
  obtain⟨m,rfl⟩:∃m,n=m+1:=⟨n-1,by omega⟩;have:i=len:=by omega
  subst this;rw[h2 m (by omega)];rfl
 |d+1,n,i,hd,h=>by
  obtain⟨m,rfl⟩:∃m,n=m+1:=⟨n-1,by omega⟩;rw[h1 m i (by omega)];simp only[EW];cases p i with
  |false=>rfl
  |true=>rw[ANZ,jX h1 h2 d m (i+1) (by omega) (by omega)];rfl
def N4(l:List AK):Int:=cond (l.length==0) 0 (D4 (l.getD (l.length-1) Di).1)
theorem dO{m:Ax}(hl:m.2.2.2.1.length≤2^40)(h:eo m.2.2.2.1):Q5 m=some ((N4 m.2.2.2.1,()),()):=by
 unfold Q5 N4;by_cases h0:m.2.2.2.1.length=0
 ·simp[h0]
 ·have e1:((m.2.2.2.1.length:Int)==0)=false:=by simp_all
  have e2:(m.2.2.2.1.length==0)=false:=by simp_all
  rw[e1,e2];simp only[AL5];rw[AH (by omega) (by omega),ALC (by omega),show((m.2.2.2.1.length:Int)-1).toNat=m.2.2.2.1.length-1 by omega,ZA (h.getD (by omega))];rfl
theorem bW{m:Ax}(hl:m.2.2.2.1.length≤2^40)(h:eo m.2.2.2.1):SI m=some ((N4 m.2.2.2.1,()),()):=by
 unfold SI N4;by_cases h0:m.2.2.2.1.length=0
 ·simp[h0]
 ·have e1:((m.2.2.2.1.length:Int)==0)=false:=by simp_all
  have e2:(m.2.2.2.1.length==0)=false:=by simp_all
  rw[e1,e2];simp only[AL5];rw[AH (by omega) (by omega),ALC (by omega),show((m.2.2.2.1.length:Int)-1).toNat=m.2.2.2.1.length-1 by omega,ZI (h.getD (by omega))];rfl
def r_(l:List AK)(ep by_:Int)(i:Nat):Bool:=FZ (l.getD i Di)&&((Ar (l.getD i Di).1==ep)&&decide ((l.getD i Di).2.1<by_))
def r7(l:List AK)(ep by_:Int):Bool:=EW (r_ l ep by_) 0 l.length
def pw(c:B_)(l:List AAM):Bool:=EW (fun i=>Az c (l.getD i [])) 0 l.length
def GG(c:B_)(m:Ax):Bool:=Fi c&&(BF m.2.1 1 30&&(BF m.1 (m.2.1+1) 30&&(Az c m.2.2.1&&(jE m.2.2.2.1&&(r7 m.2.2.2.1 m.2.1 m.1&&(pw c m.2.2.2.2.2.1&&((m.2.2.2.2.2.1.length:Int)==cond m.2.2.2.2.1 (N4 m.2.2.2.1) 0)))))))
theorem JH{c:B_}{m:Ax}(hc:c.1.length≤2^40)(hm:B5 m≤2^30)(h:eo m.2.2.2.1):Is c m=some ((GG c m,()),()):=by
 have l1:=AW (f:=Ag) (l:=m.2.2.2.1);have l2:=AW (f:=C3) (l:=m.2.2.2.2.2.1);unfold B5 at hm;have wr:∀n,m.2.2.2.2.2.1.length+1≤n→Hi n 0 c.1 c.2.1 m.1 m.2.1 m.2.2.1 m.2.2.2.1 m.2.2.2.2.1 m.2.2.2.2.2.1=some ((pw c m.2.2.2.2.2.1&&((m.2.2.2.2.2.1.length:Int)==cond m.2.2.2.2.1 (N4 m.2.2.2.1) 0),()),()):=fun n hn=>by
  refine Fu (L:=fun n i=>Hi n i c.1 c.2.1 m.1 m.2.1 m.2.2.1 m.2.2.2.1 m.2.2.2.2.1 m.2.2.2.2.2.1) (len:=m.2.2.2.2.2.1.length) (p:=fun i=>Az c (m.2.2.2.2.2.1.getD i [])) (fin:=(m.2.2.2.2.2.1.length:Int)==cond m.2.2.2.2.1 (N4 m.2.2.2.1) 0) (fun n i hi=> ?_) (fun n=> ?_) m.2.2.2.2.2.1.length n 0 (by omega) (by omega)
  ·have hwi:(m.2.2.2.2.2.1.getD i []).length≤AU C3 m.2.2.2.2.2.1:=AX (f:=C3) (BU (d:=[]) hi)
   simp only[Hi,Sc,AB];rw[ALC (by omega),ALC (by omega),AH (by omega) (by omega),show((i:Int)+1)=((i+1:Nat):Int)by omega,AMp,show(c.1,c.2.1,())=c from rfl,Gx hc (by omega)];simp_all
  ·simp only[Hi,Sc,AB]
   rw[ALG (by omega),show(m.1,m.2.1,m.2.2.1,m.2.2.2.1,m.2.2.2.2.1,m.2.2.2.2.2.1,())=m from rfl,dO (by omega) h];grind
 have se:=jX (L:=fun n i=>JQ n i c.1 c.2.1 m.1 m.2.1 m.2.2.1 m.2.2.2.1 m.2.2.2.2.1 m.2.2.2.2.2.1) (len:=m.2.2.2.1.length) (N:=m.2.2.2.2.2.1.length+1) (p:=r_ m.2.2.2.1 m.2.1 m.1) (fin:=pw c m.2.2.2.2.2.1&&((m.2.2.2.2.2.1.length:Int)==cond m.2.2.2.2.1 (N4 m.2.2.2.1) 0)) (fun n i hi=>by
   simp only[JQ,RR,AB,r_];have hb:(0:Int)≤(i:Int)∧(i:Int)<(m.2.2.2.1.length:Int):=by omega
   rw[ALC hb.2,AH (by omega) (by omega),show((i:Int)+1)=((i+1:Nat):Int)by omega,AMp];simp only[ALC hb];rw[show((m.2.2.2.1.getD i (0,0,false,[],())).1,(m.2.2.2.1.getD i (0,0,false,[],())).2.1,(m.2.2.2.1.getD i (0,0,false,[],())).2.2.1,(m.2.2.2.1.getD i (0,0,false,[],())).2.2.2.1,())=m.2.2.2.1.getD i Di from rfl,P7 (h.getD hi),D7 (h.getD hi)];grind) (fun n hn=>by
   simp only[JQ,RR,AB];simp_all) m.2.2.2.1.length AY 0 (by omega) (Aa (by omega))
 rw[show((0:Nat):Int)=0 from rfl]at se;unfold Is X3 GG;rw[show(c.1,c.2.1,())=c from rfl,HS hc,BQ,BQ,Gx hc (by omega),fF (by omega),se];simp only[AMM];rcases AK_ (BF m.2.1 1 30)with hi|hi
 ·have H0:=hi
  simp only[BF,ANR]at H0;rw[AH (by omega) (by omega),hi];cases Fi c<;>cases BF m.1 (m.2.1+1) 30<;>cases Az c m.2.2.1<;>cases jE m.2.2.2.1<;>rfl
 simp_all
theorem nR{m:Ax}(hm:B5 m≤2^30)(h:eo m.2.2.2.1):Ud m=some ((r7 m.2.2.2.1 m.2.1 m.1&&jE m.2.2.2.1,()),()):=by
 have l1:=AW (f:=Ag) (l:=m.2.2.2.1);unfold B5 at hm;unfold Ud YG;exact Fu (L:=fun n i=>Lx n m.2.2.2.1 m.2.2.2.1.length i m.1 m.2.1 m.2.2.1 m.2.2.2.1 m.2.2.2.2.1 m.2.2.2.2.2.1) (len:=m.2.2.2.1.length) (p:=r_ m.2.2.2.1 m.2.1 m.1) (fin:=jE m.2.2.2.1) (fun n i hi=>by
  simp only[Lx,SK,AB,r_];rw[ALC (by omega),ALC (by omega),AH (by omega) (by omega),show((i:Int)+1)=((i+1:Nat):Int)by omega,AMp];rw[show((m.2.2.2.1.getD i (0,0,false,[],())).1,(m.2.2.2.1.getD i (0,0,false,[],())).2.1,(m.2.2.2.1.getD i (0,0,false,[],())).2.2.1,(m.2.2.2.1.getD i (0,0,false,[],())).2.2.2.1,())=m.2.2.2.1.getD i Di from rfl,QI (h.getD hi),Eu (h.getD hi)];grind) (fun n=>by
  simp only[Lx,SK,AB];rw[ALG (by omega),Ui (by omega)];rfl) m.2.2.2.1.length AY 0 (by omega) (Aa (by omega))
theorem Hf{c:B_}{m:Ax}(hc:c.1.length≤2^40)(hm:B5 m≤2^30)(h:eo m.2.2.2.1):Hu c m=some ((GG c m,()),()):=by
 have l1:=AW (f:=Ag) (l:=m.2.2.2.1);have l2:=AW (f:=C3) (l:=m.2.2.2.2.2.1);have hm2:=hm;unfold B5 at hm;have key:=Fu (L:=fun n i=>Li n m.2.2.2.2.2.1 m.2.2.2.2.2.1.length i c.1 c.2.1 m.1 m.2.1 m.2.2.1 m.2.2.2.1 m.2.2.2.2.1 m.2.2.2.2.2.1) (len:=m.2.2.2.2.2.1.length) (p:=fun i=>Az c (m.2.2.2.2.2.1.getD i []))
  (fin:=Fi c&&(BF m.2.1 1 30&&(BF m.1 (m.2.1+1) 30&&(Az c m.2.2.1&&((r7 m.2.2.2.1 m.2.1 m.1&&jE m.2.2.2.1)&&((m.2.2.2.2.2.1.length:Int)==cond m.2.2.2.2.1 (N4 m.2.2.2.1) 0)))))) (fun n i hi=>by
   have hwi:(m.2.2.2.2.2.1.getD i []).length≤AU C3 m.2.2.2.2.2.1:=AX (f:=C3) (BU (d:=[]) hi);simp only[Li,Ro,AB];rw[ALC (by omega),ALC (by omega),AH (x:=(i:Int)+1) (by omega) (by omega),show((i:Int)+1)=((i+1:Nat):Int)by omega,AMp,show(c.1,c.2.1,())=c from rfl,D5 hc (by omega)];simp_all) (fun n=>by
   simp only[Li,Ro,AB];rw[ALG (by omega),show(m.1,m.2.1,m.2.2.1,m.2.2.2.1,m.2.2.2.2.1,m.2.2.2.2.2.1,())=m from rfl,bW (by omega) h,show(c.1,c.2.1,())=c from rfl,LS hc,D5 hc (by omega),nR hm2 h];simp only[AMM,HZ,Aq];rcases AK_ (BF m.2.1 1 30)with hi|hi
   ·have H0:=hi
    simp only[BF,ANR]at H0;grind[AH,Fi,BF,Az,r7,jE]
   simp_all) m.2.2.2.2.2.1.length AY 0 (by omega) (Aa (by omega))
 unfold Hu Yn GG;rw[show((0:Nat):Int)=0 from rfl]at key;grind[pw,EW,Az,Fi,BF,r7,jE]
end Go.M
end
section
namespace Go.M
open Go.M.H (AK AO Ax Al AA Cp AN A6 AQ Aj Bc AU AW AX Ag Ai B5 D8 Ct Bb As Am A0 CG C3)
theorem ABF{x:Int}{l:AAM}(hl:l.length≤2^40):∃r,M7 [x] l=some (((),()),(r,()))∧decide ((r.length:Int)>0)=l.contains x:=by
 obtain⟨m,hm⟩:∃m,AY=m+2:=⟨AY-2,by have:=eO;omega⟩;unfold M7 DB;rw[ALC (by rw[An];simp)];simp only[AMM];unfold Cg Dp DZ Dv;rw[hm];simp only[Bq,Dx,Qx,AN2,APp,AB];rw[ALC (by omega),ALC (by omega)];simp only[Int.toNat_zero,List.getD_cons_zero];rw[Ix hl];simp only[AMM];cases l.contains x with
 |true=>
  simp only[ALW,AL5];rw[AH (x:=0+1) (by omega) (by omega),ALG (by omega)];simp_all
 |false=>
  simp only[AQR,ANZ,AMM];rw[AH (x:=0+1) (by omega) (by omega)];simp only[Bl,Dq,AB,AN2,APp];simp_all
theorem Zp{w:AA}{x:Int}(hl:w.2.2.2.1.length≤2^40):Cz w x=some ((w.2.2.2.1.contains x,()),()):=by
 unfold Cz;obtain⟨r,h1,h2⟩:=ABF (x:=x) hl;simp_all
theorem KS{l:AAM}{x:Int}(hl:l.length≤2^40):Cv l x=some ((l.contains x,()),()):=by
 have key:∀(n i:Nat),i≤l.length→l.length-i<n→Kt n l x i=some (((l.drop i).contains x,()),()):=by
  intro n
  induction n with
  |zero=>omega
  |succ n ih=>
   intro i hi h;simp only[Kt,Tu,AB];by_cases hc:i<l.length
   ·rw[ALC (by omega),ALC (by omega),AH (by omega) (by omega),show((i:Int)+1)=((i+1:Nat):Int)by omega,Ah hc,drop_cons hc,ih (i+1) (by omega) (by omega)]
    simp only[List.contains_cons];by_cases he:l[i]=x
    all_goals grind
   grind
 grind[Cv,T3,AY,Aa]
def XF(l:List Cp):Nat→Nat→Int
 |_,0=>0
 |i,d+1=>cond (!(l.getD i ([],false,0,())).2.1) ((i:Int)+1) (XF l (i+1) d)
def BC(l:List Cp):Int:=XF l 0 l.length
theorem Ny{r:AN}(hl:r.1.length≤2^40):JZ r=some ((BC r.1,()),()):=by
 have key:∀(d n i:Nat),i+d=r.1.length→d<n→H4 n i r.1 r.2.1=some ((XF r.1 i d,()),()):=by
  intro d
  induction d with
  |zero=>
   intro n i hi hn;obtain⟨m,rfl⟩:∃m,n=m+1:=⟨n-1,by omega⟩;simp only[H4,OU,AB,XF];simp_all
  |succ d ih=>
   intro n i hi hn;obtain⟨m,rfl⟩:∃m,n=m+1:=⟨n-1,by omega⟩;simp only[H4,OU,AB,XF];rw[ALC (by omega),ALC (by omega),AH (by omega) (by omega),show((i:Int)+1)=((i+1:Nat):Int)by omega,ih m (i+1) (by omega) (by omega),AMp];grind
 grind[JZ,U5,BC,AY,Aa]
theorem Sj{r:AN}(hl:r.1.length≤2^40):LP r=some ((BC r.1,()),()):=by
 have key:∀(d n i:Nat),i+d=r.1.length→d<n→IF n r.1 r.1.length i=some ((XF r.1 i d,()),()):=by
  intro d
  induction d with
  |zero=>
   intro n i hi hn;obtain⟨m,rfl⟩:∃m,n=m+1:=⟨n-1,by omega⟩;simp only[IF,OY,AB,XF];simp_all
  |succ d ih=>
   intro n i hi hn;obtain⟨m,rfl⟩:∃m,n=m+1:=⟨n-1,by omega⟩;simp only[IF,OY,AB,XF];rw[ALC (by omega),ALC (by omega),AH (by omega) (by omega),show((i:Int)+1)=((i+1:Nat):Int)by omega,ih m (i+1) (by omega) (by omega),AMp];grind
 grind[LP,U_,BC,AY,Aa]
structure kQ (w:AA):Prop where
 weight:Ct w≤2^20
 BG:∀s∈w.2.2.1,iS s
 trim:Ce w.2.2.2.2.2.1
 CB:∀m∈w.2.2.2.2.2.2.2.1,eo m.2.2.2.1
 AJj:∀s∈w.2.2.2.2.2.2.2.2.2.1,Ce s.1
abbrev D9:AO:=([],[],0,())
abbrev CM:AQ:=(0,[],())
abbrev Q7:Ax:=(0,0,[],[],false,[],())
abbrev EX:Aj:=(0,0,[],())
abbrev Mu:Al:=(0,[],false,())
def Ac(w:AA):B_:=(w.1,w.2.1,())
def CJ(w:AA):AN:=(w.2.2.2.2.1,w.2.2.2.2.2.1,())
def kX(w:AA)(i:Nat):Bool:=Bu (w.2.2.1.getD i D9)&&(!w.2.2.2.1.contains (i:Int)||((w.2.2.1.getD i D9).1.length==0&&((w.2.2.1.getD i D9).2.1.length==0&&(w.2.2.1.getD i D9).2.2.1==0)))
def eJ(w:AA)(i:Nat):Bool:=DU (Ac w) (w.2.2.2.2.2.2.1.getD i CM)&&(decide ((w.2.2.2.2.2.2.1.getD i CM).1≤(w.2.2.2.2.1.length:Int))&&(i==0||decide ((w.2.2.2.2.2.2.1.getD (i-1) CM).1<(w.2.2.2.2.2.2.1.getD i CM).1)))
def rF(w:AA)(i:Nat):Bool:=GG (Ac w) (w.2.2.2.2.2.2.2.1.getD i Q7)&&(((w.2.2.2.2.2.2.2.1.getD i Q7).1==(w.2.2.2.2.1.length:Int))&&((w.2.2.2.2.2.2.2.1.getD i Q7).2.1==BC w.2.2.2.2.1))
def rD(w:AA)(i:Nat):Bool:=(Ba (w.2.2.2.2.2.2.2.2.2.1.getD i Mu).1&&decide (Ar (w.2.2.2.2.2.2.2.2.2.1.getD i Mu).1≤(w.2.2.2.2.1.length:Int)))&&(decide ((w.2.2.2.2.2.2.2.2.2.1.getD i Mu).2.1.length≤40)&&(i==0||decide ((w.2.2.2.2.2.2.2.2.2.1.getD (i-1) Mu).1<(w.2.2.2.2.2.2.2.2.2.1.getD i Mu).1)))
def eQ(w:AA):Bool:=EW (kX w) 0 w.2.2.1.length
def Zq(w:AA):Bool:=EW (eJ w) 0 w.2.2.2.2.2.2.1.length
def gD(w:AA):Bool:=EW (rF w) 0 w.2.2.2.2.2.2.2.1.length
def rG(w:AA):Bool:=EW (rD w) 0 w.2.2.2.2.2.2.2.2.2.1.length
def cj(w:AA):Bool:=decide (w.2.2.2.2.2.2.2.2.1.length=2)&&(Yt (w.2.2.2.2.2.2.2.2.1.getD 0 EX)&&Yt (w.2.2.2.2.2.2.2.2.1.getD 1 EX))
def Jq(w:AA):Bool:=Fi (Ac w)&&(decide (w.2.2.1.length=w.1.length)&&(Az (Ac w) w.2.2.2.1&&((w.2.2.2.2.2.2.2.2.2.2.1|| !holds (Ac w) w.2.2.2.1)&&(eQ w&&(Mr (Ac w) (CJ w)&&(decide (w.2.2.2.2.2.2.1.length≤4)&&(decide (w.2.2.2.2.2.2.2.1.length≤1)&&(Zq w&&(gD w&&(cj w&&(decide (w.2.2.2.2.2.2.2.2.2.1.length≤120)&&rG w)))))))))))
section
variable{w:AA} (h:kQ w)
include h
theorem kQ.lens:w.1.length≤2^20∧AU Ai w.2.2.1≤2^20∧w.2.2.2.1.length≤2^20∧AU Bb w.2.2.2.2.1≤2^20∧AU Am w.2.2.2.2.2.2.1≤2^20∧AU B5 w.2.2.2.2.2.2.2.1≤2^20∧AU A0 w.2.2.2.2.2.2.2.2.1≤2^20∧AU D8 w.2.2.2.2.2.2.2.2.2.1≤2^20:=by
 have:=h.weight;grind[Ct]
theorem kQ.SW:w.2.2.1.length≤2^20∧w.2.2.2.2.1.length≤2^20∧w.2.2.2.2.2.2.1.length≤2^20∧w.2.2.2.2.2.2.2.1.length≤2^20∧w.2.2.2.2.2.2.2.2.1.length≤2^20∧w.2.2.2.2.2.2.2.2.2.1.length≤2^20:=by
 have k:=h.lens;grind[AW,Ai,Bb,Am,B5,A0,D8]
theorem kQ.cfg:(Ac w).1.length≤2^40:=by
 have:=h.lens
 show w.1.length≤2^40
 omega
theorem vg:LI w=some ((decide (w.2.2.1.length=w.1.length)&&(Az (Ac w) w.2.2.2.1&&(eQ w&&(w.2.2.2.2.2.2.2.2.2.2.1|| !holds (Ac w) w.2.2.2.1))),()),()):=by
 have k1:=h.lens;have k2:=h.SW;have key:=Fu (L:=fun n i=>E5 n w w.2.2.1 w.2.2.1.length i) (len:=w.2.2.1.length) (p:=kX w) (fin:=w.2.2.2.2.2.2.2.2.2.2.1|| !holds (Ac w) w.2.2.2.1) (fun n i hi=>by
  have hm:=BU (d:=D9) hi;have hw:=AX (f:=Ai) hm;simp only[E5,Jx,AB,kX];rw[ALC (by omega),ALC (by omega),AH (x:=(i:Int)+1) (by omega) (by omega),show((i:Int)+1)=((i+1:Nat):Int)by omega,AMp,Zp (by omega)];rw[show((w.2.2.1.getD i ([],[],0,())).1,(w.2.2.1.getD i ([],[],0,())).2.1,(w.2.2.1.getD i ([],[],0,())).2.2.1,())=w.2.2.1.getD i D9 from rfl,Et (by omega) (h.BG _ hm)];simp only[AMM]
  show cond (!Bu (w.2.2.1.getD i D9)) _ _=_
  rcases AK_ (Bu (w.2.2.1.getD i D9))with hs|hs
  rotate_left
  ·simp_all
  rw[hs];have hs2:=hs;simp only[Bu,BF,ALo,ANR]at hs2
  generalize w.2.2.1.getD i D9=s at hw hs2
  cases w.2.2.2.1.contains ((i:Nat):Int)with
  |false=>rfl
  |true=>
   simp only[ALW,AL5,ANZ,ANm,AQW];unfold Ai at hw;have q1:=AW (f:=Ag) (l:=s.1);have q2:=AW (f:=Ag) (l:=s.2.1);rw[AH (x:=(s.1.length:Int)+_) (by omega) (by omega),AH (by omega) (by omega)];grind) (fun n=>by
  simp only[E5,Jx,AB];rw[ALG (by omega),show(w.1,w.2.1,())=Ac w from rfl,GK h.cfg (by omega)];grind) w.2.2.1.length AY 0 (by omega) (Aa (by omega))
 rw[show((0:Nat):Int)=0 from rfl]at key;unfold LI PN eQ;rw[show(w.1,w.2.1,())=Ac w from rfl,D5 h.cfg (by omega),key];grind[decide_eq_true,Az,Ac,decide_eq_false]
end
end Go.M
end
section
namespace Go.M
open Go.M.H (AK AO Ax Al AA Cp AN A6 AQ Aj Bc AU AW AX Ag Ai B5 D8 Ct Bb As Am A0 CG C3)
theorem yF{x lo hi:Int}(h:lo≤x):BF x lo hi=decide (x≤hi):=by
 grind[BF,decide_eq_true,decide_eq_false]
theorem AB_{x lo hi:Int}(h:x<lo):BF x lo hi=false:=by
 grind[BF,decide_eq_false]
section
variable{w:AA} (h:kQ w)
include h
theorem tN:KJ w=some ((Zq w&&decide (w.2.2.2.2.2.2.1.length≤4),()),()):=by
 have k1:=h.lens;have k2:=h.SW;have key:=Fu (L:=fun n i=>ET n w w.2.2.2.2.2.2.1 w.2.2.2.2.2.2.1.length i) (len:=w.2.2.2.2.2.2.1.length) (p:=eJ w) (fin:=decide (w.2.2.2.2.2.2.1.length≤4)) (fun n i hi=>by
  have hm:=BU (d:=CM) hi;have hw:=AX (f:=Am) hm;unfold Am at hw;simp only[ET,JL,AB,eJ,Jk,Aq];rw[ALC (by omega),ALC (by omega),AH (x:=(i:Int)+1) (by omega) (by omega),show((i:Int)+1)=((i+1:Nat):Int)by omega,AMp];have hw2:AU As (w.2.2.2.2.2.2.1.getD i CM).2.1≤2^30:=by
   have:=k1.2.2.2.2.1;unfold Am at this;omega
  rw[show((w.2.2.2.2.2.2.1.getD i (0,[],())).1,(w.2.2.2.2.2.2.1.getD i (0,[],())).2.1,())=w.2.2.2.2.2.2.1.getD i CM from rfl,show(w.1,w.2.1,())=Ac w from rfl,I8 h.cfg hw2];simp only[AMM];rcases AK_ (DU (Ac w) (w.2.2.2.2.2.2.1.getD i CM))with hs|hs
  rotate_left
  ·simp_all
  have he:=(ZL hs).2.1;rw[hs,show BF (w.2.2.2.2.2.2.1.getD i (0,[],())).1 1 (w.2.2.2.2.1.length:Int)=decide ((w.2.2.2.2.2.2.1.getD i CM).1≤(w.2.2.2.2.1.length:Int))from yF he.1];simp only[ALW,AL5,ANm];cases decide ((w.2.2.2.2.2.2.1.getD i CM).1≤(w.2.2.2.2.1.length:Int))with
  |false=>rfl
  |true=>
   simp only[ALW,AL5,ANm];by_cases h0:i=0
   ·simp_all
   ·rw[ALC (by omega),AH (by omega) (by omega),ALC (by omega)]
    have h1:((i:Int)-1).toNat=i-1:=by omega
    have h2:(i==0)=false:=by simp_all
    rw[h1,h2,AQW];grind) (fun n=>by
  simp only[ET,JL,AB];simp_all;omega) w.2.2.2.2.2.2.1.length AY 0 (by omega) (Aa (by omega))
 rw[show((0:Nat):Int)=0 from rfl]at key;grind[KJ,OO,Zq]
theorem xN:MT w=some ((gD w&&decide (w.2.2.2.2.2.2.2.1.length≤1),()),()):=by
 have k1:=h.lens;have k2:=h.SW;have key:=Fu (L:=fun n i=>FO n w w.2.2.2.2.2.2.2.1 w.2.2.2.2.2.2.2.1.length i) (len:=w.2.2.2.2.2.2.2.1.length) (p:=rF w) (fin:=decide (w.2.2.2.2.2.2.2.1.length≤1)) (fun n i hi=>by
  have hm:=BU (d:=Q7) hi;have hw:=AX (f:=B5) hm;simp only[FO,Kr,AB,rF];rw[ALC (by omega),ALC (by omega),AH (x:=(i:Int)+1) (by omega) (by omega),show((i:Int)+1)=((i+1:Nat):Int)by omega,AMp];rw[show((w.2.2.2.2.2.2.2.1.getD i (0,0,[],[],false,[],())).1,(w.2.2.2.2.2.2.2.1.getD i (0,0,[],[],false,[],())).2.1,(w.2.2.2.2.2.2.2.1.getD i (0,0,[],[],false,[],())).2.2.1,(w.2.2.2.2.2.2.2.1.getD i (0,0,[],[],false,[],())).2.2.2.1,(w.2.2.2.2.2.2.2.1.getD i (0,0,[],[],false,[],())).2.2.2.2.1,(w.2.2.2.2.2.2.2.1.getD i (0,0,[],[],false,[],())).2.2.2.2.2.1,())=w.2.2.2.2.2.2.2.1.getD i Q7 from rfl,show(w.1,w.2.1,())=Ac w from rfl,Hf h.cfg (by omega) (h.CB _ hm)];rw[Sj (by grind)];grind) (fun n=>by
  simp only[FO,Kr,AB];simp_all;omega) w.2.2.2.2.2.2.2.1.length AY 0 (by omega) (Aa (by omega))
 rw[show((0:Nat):Int)=0 from rfl]at key;grind[MT,Pr,gD]
theorem tE:KU w=some ((cj w,()),()):=by
 have k2:=h.SW;have key:=Fu (L:=fun n i=>ES n w w.2.2.2.2.2.2.2.2.1 w.2.2.2.2.2.2.2.2.1.length i) (len:=w.2.2.2.2.2.2.2.2.1.length) (p:=fun i=>Yt (w.2.2.2.2.2.2.2.2.1.getD i EX)) (fin:=((w.2.2.2.2.2.2.2.2.1.length:Int)==2)) (fun n i hi=>by
  simp only[ES,JK,AB];rw[ALC (by omega),ALC (by omega),AH (x:=(i:Int)+1) (by omega) (by omega),show((i:Int)+1)=((i+1:Nat):Int)by omega,AMp];rw[show((w.2.2.2.2.2.2.2.2.1.getD i (0,0,[],())).1,(w.2.2.2.2.2.2.2.2.1.getD i (0,0,[],())).2.1,(w.2.2.2.2.2.2.2.2.1.getD i (0,0,[],())).2.2.1,())=w.2.2.2.2.2.2.2.2.1.getD i EX from rfl,aE];simp_all) (fun n=>by
  simp only[ES,JK,AB];simp_all) w.2.2.2.2.2.2.2.2.1.length AY 0 (by omega) (Aa (by omega))
 rw[show((0:Nat):Int)=0 from rfl]at key;unfold KU Og cj;grind[EW,decide_eq_false]
theorem AAo:Nh w=some ((rG w&&decide (w.2.2.2.2.2.2.2.2.2.1.length≤120),()),()):=by
 have k2:=h.SW;have key:=Fu (L:=fun n i=>GA n w w.2.2.2.2.2.2.2.2.2.1 w.2.2.2.2.2.2.2.2.2.1.length i) (len:=w.2.2.2.2.2.2.2.2.2.1.length) (p:=rD w) (fin:=decide (w.2.2.2.2.2.2.2.2.2.1.length≤120)) (fun n i hi=>by
  have hm:=BU (d:=Mu) hi;have TQ:Ce (w.2.2.2.2.2.2.2.2.2.1.getD i (0,[],false,())).1:=h.AJj _ hm;simp only[GA,L1,AB,rD,Jk,Aq,F4];rw[ALC (by omega),ALC (by omega),AH (x:=(i:Int)+1) (by omega) (by omega),show((i:Int)+1)=((i+1:Nat):Int)by omega,AMp,Eu TQ];simp only[AMM];have e1:BF (Ar (w.2.2.2.2.2.2.2.2.2.1.getD i (0,[],false,())).1) 1 (w.2.2.2.2.1.length:Int)=(Ba (w.2.2.2.2.2.2.2.2.2.1.getD i Mu).1&&decide (Ar (w.2.2.2.2.2.2.2.2.2.1.getD i Mu).1≤(w.2.2.2.2.1.length:Int))):=by
   show BF (Ar (w.2.2.2.2.2.2.2.2.2.1.getD i Mu).1) 1 (w.2.2.2.2.1.length:Int)=_
   have hr:=fV (x:=(w.2.2.2.2.2.2.2.2.2.1.getD i Mu).1);rcases AK_ (Ba (w.2.2.2.2.2.2.2.2.2.1.getD i Mu).1)with hp|hp
   ·rw[hp,yF (hr.1 hp).1,ANm]
   ·rw[hp,hr.2 hp,AB_ (by omega),AQi]
  rw[e1,show decide ((((w.2.2.2.2.2.2.2.2.2.1.getD i (0,[],false,())).2.1.length:Nat):Int)≤40)=decide ((w.2.2.2.2.2.2.2.2.2.1.getD i Mu).2.1.length≤40)from AUO _ 40];cases(Ba (w.2.2.2.2.2.2.2.2.2.1.getD i Mu).1&&decide (Ar (w.2.2.2.2.2.2.2.2.2.1.getD i Mu).1≤(w.2.2.2.2.1.length:Int)))with
  |false=>rfl
  |true=>
   cases decide ((w.2.2.2.2.2.2.2.2.2.1.getD i Mu).2.1.length≤40)with
   |false=>rfl
   |true=>
    simp only[ALW,AL5,ANm];by_cases h0:i=0
    ·simp_all
    ·rw[ALC (by omega),AH (by omega) (by omega),ALC (by omega)]
     have h1:((i:Int)-1).toNat=i-1:=by omega
     have h2:(i==0)=false:=by simp_all
     rw[h1,h2,AQW];grind) (fun n=>by
  simp only[GA,L1,AB];simp_all;omega) w.2.2.2.2.2.2.2.2.2.1.length AY 0 (by omega) (Aa (by omega))
 rw[show((0:Nat):Int)=0 from rfl]at key;grind[Nh,Qw,rG]
theorem VN:SL w=some ((Jq w,()),()):=by
 have k1:=h.lens;unfold SL Jq;rw[show(w.1,w.2.1,w.2.2.1,w.2.2.2.1,w.2.2.2.2.1,w.2.2.2.2.2.1,w.2.2.2.2.2.2.1,w.2.2.2.2.2.2.2.1,w.2.2.2.2.2.2.2.2.1,w.2.2.2.2.2.2.2.2.2.1,w.2.2.2.2.2.2.2.2.2.2.1,())=w from rfl,show(w.1,w.2.1,())=Ac w from rfl,show(w.2.2.2.2.1,w.2.2.2.2.2.1,())=CJ w from rfl];rw[LS h.cfg,vg h,NH h.cfg (by show AU Bb w.2.2.2.2.1≤_;omega) h.trim,tN h,xN h,tE h,AAo h];grind
end
end Go.M
end
section
namespace Go.M
open Go.M.H (AK AO Ax Al AA Cp AN A6 AQ Aj Bc AU AW AX Ag Ai B5 D8 Ct Bb As Am A0 CG C3)
section
variable{w:AA} (h:kQ w)
include h
theorem vS:UK w=some ((Fi (Ac w)&&(decide (w.2.2.1.length=w.1.length)&&(Az (Ac w) w.2.2.2.1&&((w.2.2.2.2.2.2.2.2.2.2.1|| !holds (Ac w) w.2.2.2.1)&&eQ w))),()),()):=by
 have k1:=h.lens;have k2:=h.SW;have key:=Fu (L:=fun n i=>JA n i w.1 w.2.1 w.2.2.1 w.2.2.2.1 w.2.2.2.2.1 w.2.2.2.2.2.1 w.2.2.2.2.2.2.1 w.2.2.2.2.2.2.2.1 w.2.2.2.2.2.2.2.2.1 w.2.2.2.2.2.2.2.2.2.1 w.2.2.2.2.2.2.2.2.2.2.1) (len:=w.2.2.1.length) (p:=kX w) (fin:=true) (fun n i hi=>by
  have hm:=BU (d:=D9) hi;have hw:=AX (f:=Ai) hm;simp only[JA,PS,AB,kX];have hb:(0:Int)≤(i:Int)∧(i:Int)<(w.2.2.1.length:Int):=by omega
  rw[ALC hb.2,AH (x:=(i:Int)+1) (by omega) (by omega),show((i:Int)+1)=((i+1:Nat):Int)by omega,AMp,KS (by omega)];simp only[ALC hb];rw[show((w.2.2.1.getD i ([],[],0,())).1,(w.2.2.1.getD i ([],[],0,())).2.1,(w.2.2.1.getD i ([],[],0,())).2.2.1,())=w.2.2.1.getD i D9 from rfl,Fb (by omega) (h.BG _ hm)];simp only[AMM]
  show cond (!Bu (w.2.2.1.getD i D9)) _ _=_
  cases Bu (w.2.2.1.getD i D9)with
  |false=>rfl
  |true=>
   cases w.2.2.2.1.contains ((i:Nat):Int)with
   |false=>rfl
   |true=>
    simp only[al,ALW,AL5,ANZ,ANm,AQW];have e1:∀n:Nat,((n:Int)==0)=(n==0):=fun n=>by
     grind
    grind) (fun n=>by
  simp only[JA,PS,AB];simp_all) w.2.2.1.length AY 0 (by omega) (Aa (by omega))
 rw[show((0:Nat):Int)=0 from rfl]at key;unfold UK Vl eQ;rw[show(w.1,w.2.1,())=Ac w from rfl,HS h.cfg,Gx h.cfg (by omega),Dm h.cfg (by omega),key];simp only[AMM,AQp];grind[decide_eq_true,Fi,Ac,Az,holds,decide_eq_false]
theorem sZ:Ra w=some ((Mr (Ac w) (CJ w)&&(decide (w.2.2.2.2.2.2.1.length≤4)&&(decide (w.2.2.2.2.2.2.2.1.length≤1)&&(Zq w&&gD w))),()),()):=by
 have k1:=h.lens;have k2:=h.SW;have me:∀n,w.2.2.2.2.2.2.2.1.length+1≤n→Ek n (w.2.2.2.2.1.length:Int) 0 w.1 w.2.1 w.2.2.1 w.2.2.2.1 w.2.2.2.2.1 w.2.2.2.2.2.1 w.2.2.2.2.2.2.1 w.2.2.2.2.2.2.2.1 w.2.2.2.2.2.2.2.2.1 w.2.2.2.2.2.2.2.2.2.1 w.2.2.2.2.2.2.2.2.2.2.1=some ((gD w,()),()):=fun n hn=>by
  have key:=Fu (L:=fun n i=>Ek n (w.2.2.2.2.1.length:Int) i w.1 w.2.1 w.2.2.1 w.2.2.2.1 w.2.2.2.2.1 w.2.2.2.2.2.1 w.2.2.2.2.2.2.1 w.2.2.2.2.2.2.2.1 w.2.2.2.2.2.2.2.2.1 w.2.2.2.2.2.2.2.2.2.1 w.2.2.2.2.2.2.2.2.2.2.1) (len:=w.2.2.2.2.2.2.2.1.length) (p:=rF w) (fin:=true) (fun n i hi=>by
   have hm:=BU (d:=Q7) hi;have hw:=AX (f:=B5) hm;simp only[Ek,NZ,AB,rF];rw[ALC (by omega),ALC (by omega),AH (x:=(i:Int)+1) (by omega) (by omega),show((i:Int)+1)=((i+1:Nat):Int)by omega,AMp];rw[show((w.2.2.2.2.2.2.2.1.getD i (0,0,[],[],false,[],())).1,(w.2.2.2.2.2.2.2.1.getD i (0,0,[],[],false,[],())).2.1,(w.2.2.2.2.2.2.2.1.getD i (0,0,[],[],false,[],())).2.2.1,(w.2.2.2.2.2.2.2.1.getD i (0,0,[],[],false,[],())).2.2.2.1,(w.2.2.2.2.2.2.2.1.getD i (0,0,[],[],false,[],())).2.2.2.2.1,(w.2.2.2.2.2.2.2.1.getD i (0,0,[],[],false,[],())).2.2.2.2.2.1,())=w.2.2.2.2.2.2.2.1.getD i Q7 from rfl,show(w.1,w.2.1,())=Ac w from rfl,JH h.cfg (by omega) (h.CB _ hm)];rw[Ny (by grind)];grind) (fun n=>by
   simp only[Ek,NZ,AB];simp_all) w.2.2.2.2.2.2.2.1.length n 0 (by omega) (by omega)
  rw[show((0:Nat):Int)=0 from rfl]at key;rw[key,AQp];rfl
 have key:=jX (L:=fun n i=>Gc n (w.2.2.2.2.1.length:Int) i w.1 w.2.1 w.2.2.1 w.2.2.2.1 w.2.2.2.2.1 w.2.2.2.2.2.1 w.2.2.2.2.2.2.1 w.2.2.2.2.2.2.2.1 w.2.2.2.2.2.2.2.2.1 w.2.2.2.2.2.2.2.2.2.1 w.2.2.2.2.2.2.2.2.2.2.1) (len:=w.2.2.2.2.2.2.1.length) (N:=w.2.2.2.2.2.2.2.1.length+1) (p:=eJ w) (fin:=gD w) (fun n i hi=>by
  have hm:=BU (d:=CM) hi;have hw:=AX (f:=Am) hm;unfold Am at hw;simp only[Gc,OI,AB,eJ];have hb:(0:Int)≤(i:Int)∧(i:Int)<(w.2.2.2.2.2.2.1.length:Int):=by omega
  rw[ALC hb.2,AH (x:=(i:Int)+1) (by omega) (by omega),show((i:Int)+1)=((i+1:Nat):Int)by omega,AMp];simp only[ALC hb];have hw2:AU As (w.2.2.2.2.2.2.1.getD i CM).2.1≤2^30:=by
   have:=k1.2.2.2.2.1;unfold Am at this;omega
  rw[show((w.2.2.2.2.2.2.1.getD i (0,[],())).1,(w.2.2.2.2.2.2.1.getD i (0,[],())).2.1,())=w.2.2.2.2.2.2.1.getD i CM from rfl,show(w.1,w.2.1,())=Ac w from rfl,F5 h.cfg hw2];simp only[AMM];cases DU (Ac w) (w.2.2.2.2.2.2.1.getD i CM)with
  |false=>rfl
  |true=>
   simp only[ALW,AL5,ANm];by_cases hle:(w.2.2.2.2.2.2.1.getD i (0,[],())).1≤(w.2.2.2.2.1.length:Int)
   ·rw[ALG (by omega),show decide ((w.2.2.2.2.2.2.1.getD i CM).1≤(w.2.2.2.2.1.length:Int))=true from APl hle,ANm]
    by_cases h0:i=0
    ·simp_all
    ·rw[ALC (by omega),AH (by omega) (by omega),ALC (by omega)]
     have h1:((i:Int)-1).toNat=i-1:=by omega
     have h2:(i==0)=false:=by simp_all
     rw[h1,h2,AQW];grind
   grind) (fun n hn=>by
  simp only[Gc,OI,AB];simp_all) w.2.2.2.2.2.2.1.length AY 0 (by omega) (Aa (by omega))
 rw[show((0:Nat):Int)=0 from rfl]at key;unfold Ra U6 Zq;rw[show(w.1,w.2.1,())=Ac w from rfl,show(w.2.2.2.2.1,w.2.2.2.2.2.1,())=CJ w from rfl,Px h.cfg (by show AU Bb w.2.2.2.2.1≤_;omega) h.trim,key];grind
theorem xD:WA w=some ((decide (w.2.2.2.2.2.2.2.2.2.1.length≤120)&&rG w,()),()):=by
 have k2:=h.SW;have key:=Fu (L:=fun n i=>J7 n i w.1 w.2.1 w.2.2.1 w.2.2.2.1 w.2.2.2.2.1 w.2.2.2.2.2.1 w.2.2.2.2.2.2.1 w.2.2.2.2.2.2.2.1 w.2.2.2.2.2.2.2.2.1 w.2.2.2.2.2.2.2.2.2.1 w.2.2.2.2.2.2.2.2.2.2.1) (len:=w.2.2.2.2.2.2.2.2.2.1.length) (p:=rD w) (fin:=true) (fun n i hi=>by
  have hm:=BU (d:=Mu) hi;have TQ:Ce (w.2.2.2.2.2.2.2.2.2.1.getD i (0,[],false,())).1:=h.AJj _ hm;simp only[J7,Qk,AB,rD];rw[ALC (by omega),ALC (by omega),AH (x:=(i:Int)+1) (by omega) (by omega),show((i:Int)+1)=((i+1:Nat):Int)by omega,AMp,IH TQ,D7 TQ];simp only[AMM]
  show cond (!Ba (w.2.2.2.2.2.2.2.2.2.1.getD i Mu).1) _ _=_
  cases Ba (w.2.2.2.2.2.2.2.2.2.1.getD i Mu).1 with
  |false=>rfl
  |true=>
   simp only[ALW,AL5,ANm];by_cases hle:Ar (w.2.2.2.2.2.2.2.2.2.1.getD i (0,[],false,())).1≤(w.2.2.2.2.1.length:Int)
   ·rw[ALG (by omega),show decide (Ar (w.2.2.2.2.2.2.2.2.2.1.getD i Mu).1≤(w.2.2.2.2.1.length:Int))=true from APl hle,ANm]
    by_cases h40:(w.2.2.2.2.2.2.2.2.2.1.getD i (0,[],false,())).2.1.length≤40
    ·rw[ALG (by omega),show decide ((w.2.2.2.2.2.2.2.2.2.1.getD i Mu).2.1.length≤40)=true from APl h40,ANm]
     by_cases h0:i=0
     ·simp_all
     ·rw[ALC (by omega),AH (by omega) (by omega),ALC (by omega)]
      have h1:((i:Int)-1).toNat=i-1:=by omega
      have h2:(i==0)=false:=by simp_all
      rw[h1,h2,AQW];grind
    grind
   grind) (fun n=>by
  simp only[J7,Qk,AB];simp_all) w.2.2.2.2.2.2.2.2.2.1.length AY 0 (by omega) (Aa (by omega))
 rw[show((0:Nat):Int)=0 from rfl]at key;unfold WA Wl rG;grind
theorem VU:PJ w=some ((Jq w,()),()):=by
 unfold PJ Jq cj;rw[show(w.1,w.2.1,w.2.2.1,w.2.2.2.1,w.2.2.2.2.1,w.2.2.2.2.2.1,w.2.2.2.2.2.2.1,w.2.2.2.2.2.2.2.1,w.2.2.2.2.2.2.2.2.1,w.2.2.2.2.2.2.2.2.2.1,w.2.2.2.2.2.2.2.2.2.2.1,())=w from rfl];rw[vS h,sZ h,xD h,PF,PF];simp only[AMM];by_cases h2:w.2.2.2.2.2.2.2.2.1.length=2
 all_goals grind
end
end Go.M
end
section
namespace Go.M
open Go.M.H (AK AO Ax Al AA Cp AN A6 AQ Aj Bc AU AW AX Ag Ai B5 D8 Ct Bb As Am A0 CG C3 iF)
theorem kQ.of{w:AA}(hv:Go.Fw.Vd iF w)(hw:Ct w≤2^20):kQ w where
 weight:=hw
 BG:=fun s hs=>⟨fun e he=>wf_i64 (((hv.2.2.1.2 s hs).1).2 e he).1,fun e he=>wf_i64 (((hv.2.2.1.2 s hs).2.1).2 e he).1⟩
 trim:=wf_i64 hv.2.2.2.2.2.1
 CB:=fun m hm e he=>wf_i64 (((hv.2.2.2.2.2.2.2.1.2 m hm).2.2.2.1).2 e he).1
 AJj:=fun s hs=>wf_i64 (hv.2.2.2.2.2.2.2.2.2.1.2 s hs).1
section
variable{w:AA} (h:kQ w)
include h
end
end Go.M
end
section
namespace Go.M
open Go.M.H (AK AO Ax Al AA Cp AN A6 AQ Aj Bc AU AW AX Ag Ai B5 D8 Ct Bb As Am A0 CG C3 iF)
def fnd(p:Int):List Al→List UInt8×Bool
 |[]=>([],false)
 |s::l=>cond (s.1==p) (s.2.1,true) (fnd p l)
section
variable{w:AA} (h:kQ w)
include h
end
end Go.M
end
section
namespace Go.M
open Go.M.H (AK AO Ax Al AA Cp AN A6 AQ Aj Bc AU AW AX Ag Ai B5 D8 Ct Bb As Am A0 CG C3 iF)
def Zc(w:AA):Prop:= ∀r∈w.2.2.2.2.2.2.2.2.1,∀e∈r.2.2.1,Ce e.2.1
theorem Zc.of{w:AA}(hv:Go.Fw.Vd iF w):Zc w:=fun r hr e he=>wf_i64 (((hv.2.2.2.2.2.2.2.2.1.2 r hr).2.2.1).2 e he).2.1
section
variable{w:AA} (h:kQ w) (hev:Zc w)
include h hev
end
end Go.M
end
section
namespace Go.M
open Go.M.H (AK AO Ax Al AA Cp AN A6 AQ Aj Bc A7 Br)
def HB(e o:Int):Int:=4294967296*e+o
def Gi(e o:Int):Int:=if BF e 1 30&&BF o 1 60 then HB e o else 0
def fc(x:Int):List Int→List Int
 |[]=>[x]
 |y::l=>if x<y then x::y::l else y::fc x l
def NY(x:Int)(l:AAM):AAM:=if l.contains x then l else fc x l
def less(l m:AAM):AAM:=l.filter fun x=> !m.contains x
def Qo(c:B_)(s l:AAM):Bool:=holds c s&&(Az c l&&(l.all s.contains&& !holds c (less s l)))
def BH(k:Int):AAM:=if BF k 0 255 then([0,1,2,3,4,5,6,7]:AAM).filter fun i=>(k/2^i.toNat)%2==1 else[]
def better(a b:AK):AK:=if b.2.1>a.2.1 then b else a
def keep(e:AK):List AK→List AK
 |[]=>[e]
 |x::l=>if x.1=e.1 then better x e::l else if x.1>e.1 then e::x::l else x::keep e l
def EA:List AK→List AK→List AK
 |k,[]=>k
 |k,e::l=>EA (keep e k) l
def Me(k:Int):Nat→List AK→List AK
 |_,[]=>[]
 |i,e::l=>if(k/2^i)%2=1 then e::Me k (i+1) l else Me k (i+1) l
def Od(p:Int)(l:List AK):Option AK:=l.find? fun e=>e.1==p
def takes(s:AO)(e:AK):Bool:=if e.2.1=0 then decide (Ar e.1>s.2.2.1)else decide (e.2.1>s.2.2.1)
def G8(s:AO)(e:AK):AO×Bool:=
 if !Bu s then(D9,false)else if FZ e&&(takes s e&&decide (s.2.1.length≠20))then((s.1,s.2.1++[e],s.2.2.1,()),true)else(s,false)
def Fl(s:AO)(k:Int):AO×Bool:=
 if !Bu s then(D9,false)else
  let q:=EA s.1 (Me k 0 s.2.1)
  if BF k 0 1048575&&decide (q.length≤200)then((q,[],s.2.2.1,()),true)else(s,false)
def B6(s:AO):AO×Bool:=Fl s 1048575
def Bk(s:AO)(upto:Int):AO×Bool:=
 if !Bu s then(D9,false)else
  let o:=B6 s
  if o.2&&BF upto 0 30 then((o.1.1,o.1.2.1,max o.1.2.2.1 upto,()),true)else(s,false)
def XJ(s:AO)(p:Int):Option AK:=if Bu s then Od p s.1 else none
def GS(s:AO)(ep:Int):List AK:=if Bu s then s.1.filter fun e=>Ar e.1==ep else[]
def I7(s:AO)(upto:Int):AO×Bool:=
 if !Bu s then(D9,false)else if Ba upto then((s.1.filter fun e=>decide (e.1>upto),s.2.1,s.2.2.1,()),true)else(s,false)
abbrev ku:AN:=([],0,())
def Bd(l:List Cp)(e:Int):AAM:=if BF e 1 l.length then(l.getD (e-1).toNat Gt).1 else[]
def Ie(c:B_)(r:AN)(ns:AAM):AN×Int×Bool:=
 if !Mr c r then(ku,0,false)else if holds c ns&&decide (r.1.length≠30)then((r.1++[(ns,false,0,())],r.2.1,()),(r.1.length:Int)+1,true)else(r,0,false)
def OP(l:List Cp)(i:Nat)(last:Int):List Cp:=l.set i ((l.getD i Gt).1,true,last,())
def Mp(c:B_)(r:AN)(b last:Int):AN×Bool:=
 if !Mr c r then(ku,false)else
  if decide (b=r.1.length)&&(decide (BC r.1≠0)&&(decide (b≠BC r.1)&&BF last 0 60))then((OP r.1 (BC r.1-1).toNat last,r.2.1,()),true)else(r,false)
def Nv(c:B_)(r:AN)(p:Int):AN×Bool:=
 if !Mr c r then(ku,false)else if Ba p&&decide (Ar p≤r.1.length)then((r.1,max r.2.1 p,()),true)else(r,false)
def B9(c:B_)(w:AQ)(d:AA7):AQ×Int×Bool:=
 if !DU c w then(CM,0,false)else
  if DU c (w.1,w.2.1++[(d,[],false,())],())then((w.1,w.2.1++[(d,[],false,())],()),(w.2.1.length:Int)+1,true)else(w,0,false)
def GF(c:B_)(n:Int)(x:A6):A6:=(x.1,NY n x.2.1,holds c (NY n x.2.1),())
def RO(c:B_)(w:AQ)(o n:Int):AQ×Bool:=
 if !DU c w then(CM,false)else
  if BF o 1 w.2.1.length&&(BF n 0 ((c.1.length:Int)-1)&& !(w.2.1.getD (o-1).toNat MA).2.2.1)then((w.1,w.2.1.set (o-1).toNat (GF c n (w.2.1.getD (o-1).toNat MA)),()),true)else(w,false)
def Ep(n:Int)(x:A6):A6:=(x.1,if x.2.2.1 then x.2.1 else less x.2.1 [n],x.2.2.1,())
def B7(c:B_)(w:AQ)(n:Int):AQ×Bool:=
 if !DU c w then(CM,false)else((w.1,w.2.1.map (Ep n),()),true)
def XU:List A6→Nat
 |[]=>0
 |x::l=>if x.2.2.1 then XU l+1 else 0
def mr(e b:Int):Ax:=(b,e,[],[],false,[],())
def OS(c:B_)(m:Ax)(n:Int)(l:List AK):Ax×Bool:=
 if !GG c m then(Q7,false)else
  let o:Ax:=(m.1,m.2.1,NY n m.2.2.1,EA m.2.2.2.1 (l.filter fun e=>Ar e.1==m.2.1),m.2.2.2.2.1,m.2.2.2.2.2.1,())
  if !m.2.2.2.2.1&&GG c o then(o,true)else(m,false)
def Ld(c:B_)(m:Ax)(s:AAM):Ax×Bool:=
 if !GG c m then(Q7,false)else
  if !m.2.2.2.2.1&&Qo c s (m.2.2.1.filter s.contains)then((m.1,m.2.1,m.2.2.1,m.2.2.2.1,true,List.replicate (N4 m.2.2.2.1).toNat [],()),true)else(m,false)
def EU(m:Ax)(o:Int):Option AK:=
 if m.2.2.2.2.1&&(BF m.2.1 1 30&&(BF o 1 60&&decide (o≤m.2.2.2.2.2.1.length)))then
  match Od (HB m.2.1 o) m.2.2.2.1 with
  |some x=>some (HB m.2.1 o,m.1,x.2.2.1,x.2.2.2.1,())
  |none=>some (HB m.2.1 o,m.1,true,[],())
 else none
def SJ(c:B_)(m:Ax)(o n:Int):Ax×Bool:=
 if !GG c m then(Q7,false)else
  if BF o 1 m.2.2.2.2.2.1.length&&BF n 0 ((c.1.length:Int)-1)then((m.1,m.2.1,m.2.2.1,m.2.2.2.1,m.2.2.2.2.1,m.2.2.2.2.2.1.set (o-1).toNat (NY n (m.2.2.2.2.2.1.getD (o-1).toNat [])),()),true)else(m,false)
def B4(c:B_)(m:Ax)(n:Int):Ax×Bool:=
 if !GG c m then(Q7,false)else((m.1,m.2.1,m.2.2.1,m.2.2.2.1,m.2.2.2.2.1,m.2.2.2.2.2.1.map fun l=>less l [n],()),true)
def TX(c:B_)(m:Ax):Bool:=GG c m&&(m.2.2.2.2.1&&m.2.2.2.2.2.1.all (holds c))
def WL(a:A7):AK:=(a.2.2.1,a.2.2.2.1,a.2.2.2.2.1,a.2.2.2.2.2.1,())
def HG(s:AAM)(p:Int):Option AK→List A7→Option AK
 |b,[]=>b
 |b,a::l=>if a.2.1&&(s.contains a.1&&(FZ (WL a)&&(WL a).1==p))then
   HG s p (some (match b with|some x=>better x (WL a)|none=>WL a)) l
  else HG s p b l
def Qa(p:Int):Option AK→Bc
 |none=>(3,p,[],())
 |some x=>if x.2.2.1 then(2,p,[],())else(1,p,x.2.2.2.1,())
def Ck(c:B_)(g:AN)(sure:Int)(r:Aj)(l:List A7):Aj×Int:=
 if !(Mr c g&&(Yt r&&Az c (l.map fun a=>a.1)))then(EX,1)else
 if decide (r.1>g.1.length)||decide (r.2.2.1.length=120)then(r,2)else
 let era:=g.1.getD (r.1-1).toNat Gt
 let p:=HB r.1 r.2.1
 if g.2.1≥p then((Ar g.2.1,D4 g.2.1+1,r.2.2.1++[(5,g.2.1,[],())],()),0)else
 if era.2.1&&decide (r.2.1>era.2.2.1)then((r.1+1,1,r.2.2.1++[(4,r.1+1,[],())],()),0)else
 if(!era.2.1&&decide (r.2.1>sure))||decide (r.2.1>60)then(r,2)else
 if !Qo c era.1 ((l.map fun a=>a.1).filter era.1.contains)then(r,3)else
 ((r.1,r.2.1+1,r.2.2.1++[Qa p (HG era.1 p none l)],()),0)
def GY:List AK→List AO→List AK
 |k,[]=>k
 |k,s::l=>GY (EA k s.1) l
def others(lost:AAM):Nat→List AO→List AO
 |_,[]=>[]
 |i,s::l=>if lost.contains (i:Int)then others lost (i+1) l else s::others lost (i+1) l
def Z5(c:B_)(ss:List AO)(lost:AAM)(n upto:Int):AO×Bool:=
 let s:AO:=(GY [] (others lost 0 ss),[],upto,())
 if Fi c&&(decide (ss.length=c.1.length)&&(Az c lost&&(!holds c lost&&(lost.contains n&&((others lost 0 ss).all Bu&&Bu s)))))then(s,true)else(D9,false)
end Go.M
namespace Go.M.H.AA
open Go.M.H (AK AO Ax Al AA Cp AN A6 AQ Aj Bc)
@[reducible] def BG (w:AA):List AO:=w.2.2.1
@[reducible] def lost (w:AA):AAM:=w.2.2.2.1
@[reducible] def A8 (w:AA):List Cp:=w.2.2.2.2.1
@[reducible] def trim (w:AA):Int:=w.2.2.2.2.2.1
@[reducible] def AR (w:AA):List AQ:=w.2.2.2.2.2.2.1
@[reducible] def CB (w:AA):List Ax:=w.2.2.2.2.2.2.2.1
@[reducible] def Af (w:AA):List Aj:=w.2.2.2.2.2.2.2.2.1
@[reducible] def CK (w:AA):List Al:=w.2.2.2.2.2.2.2.2.2.1
@[reducible] def IL (w:AA):Bool:=w.2.2.2.2.2.2.2.2.2.2.1
@[reducible] def CD (w:AA) (x:List AO):AA:=(w.1,w.2.1,x,w.2.2.2)
@[reducible] def Ez (w:AA) (x:AAM):AA:=(w.1,w.2.1,w.2.2.1,x,w.2.2.2.2)
@[reducible] def Ik (w:AA) (x:AN):AA:=(w.1,w.2.1,w.2.2.1,w.2.2.2.1,x.1,x.2.1,w.2.2.2.2.2.2)
@[reducible] def BZ (w:AA) (x:List AQ):AA:=(w.1,w.2.1,w.2.2.1,w.2.2.2.1,w.2.2.2.2.1,w.2.2.2.2.2.1,x,w.2.2.2.2.2.2.2)
@[reducible] def Cq (w:AA) (x:List Ax):AA:=(w.1,w.2.1,w.2.2.1,w.2.2.2.1,w.2.2.2.2.1,w.2.2.2.2.2.1,w.2.2.2.2.2.2.1,x,w.2.2.2.2.2.2.2.2)
@[reducible] def C2 (w:AA) (x:List Aj):AA:=(w.1,w.2.1,w.2.2.1,w.2.2.2.1,w.2.2.2.2.1,w.2.2.2.2.2.1,w.2.2.2.2.2.2.1,w.2.2.2.2.2.2.2.1,x,w.2.2.2.2.2.2.2.2.2)
@[reducible] def DT (w:AA) (x:List Al):AA:=(w.1,w.2.1,w.2.2.1,w.2.2.2.1,w.2.2.2.2.1,w.2.2.2.2.2.1,w.2.2.2.2.2.2.1,w.2.2.2.2.2.2.2.1,w.2.2.2.2.2.2.2.2.1,x,w.2.2.2.2.2.2.2.2.2.2)
@[reducible] def FM (w:AA) (x:Bool):AA:=(w.1,w.2.1,w.2.2.1,w.2.2.2.1,w.2.2.2.2.1,w.2.2.2.2.2.1,w.2.2.2.2.2.2.1,w.2.2.2.2.2.2.2.1,w.2.2.2.2.2.2.2.2.1,w.2.2.2.2.2.2.2.2.2.1,x,())
end Go.M.H.AA
namespace Go.M
open Go.M.H (AK AO Ax Al AA Cp AN A6 AQ Aj Bc A7 Br)
def xM:AA:=([],0,[],[],[],0,[],[],[],[],false,())
def aJ(c:B_):AA:=(c.1,c.2.1,List.replicate c.1.length D9,[],[],0,[],[],[(1,1,[],()),(1,1,[],())],[],false,())
def eV(k:Int):Bool×Bool×Bool×Bool:=
 if k=8∨k=10∨k=12 then(false,false,false,false)
 else if k=2 then(true,false,false,true)
 else if k=3 then(true,true,true,false)
 else if k=5∨k=14 then(true,true,false,false)
 else if k=11 then(false,true,true,false)
 else(true,false,false,false)
def Qe(d:Br):Bool:=
 BF d.1 1 16&&(((eV d.1).1||d.2.1==0)&&(((eV d.1).2.1||d.2.2.1==0)&&(((eV d.1).2.2.1||d.2.2.2.1==0)&&(((eV d.1).2.2.2||d.2.2.2.2.1==[])&&decide (d.2.2.2.2.1.length≤40)))))
abbrev aP:Type:=AA×Int
def Aw(w:AA)(n:Int):Int:=if !BF n 0 ((w.BG.length:Int)-1)then 2 else if w.lost.contains n then 3 else 0
def We(w:AA)(a:Int):aP:=
 if w.AR.length=4 then(w,4)else
 let q:=Ie (Ac w) (CJ w) (BH a)
 if !q.2.2 then(w,4)else(((w.Ik q.1).BZ (w.AR++[(q.2.1,[],())])).Cq [],0)
def dD(s:Al):List Al→List Al
 |[]=>[s]
 |x::l=>if x.1>s.1 then s::x::l else x::dD s l
def doAdd(w:AA)(a:Int)(d:AA7):aP:=
 if !BF a 0 ((w.AR.length:Int)-1)then(w,2)else
 let x:=w.AR.getD a.toNat CM
 let q:=B9 (Ac w) x d
 if !q.2.2||(decide (w.CK.length=120)||w.CK.any fun s=>s.1==HB x.1 q.2.1)then(w,4)else
 ((w.BZ (w.AR.set a.toNat q.1)).DT (dD (HB x.1 q.2.1,d,false,()) w.CK),0)
def putAt(w:AA)(n:Int)(q:AO×Bool):aP:=if q.2 then(w.CD (w.BG.set n.toNat q.1),0)else(w,4)
def storeAt(w:AA)(n:Int):AO:=w.BG.getD n.toNat D9
def Sy(w:AA)(a b n:Int):aP:=
 if !BF a 0 ((w.AR.length:Int)-1)then(w,2)else
 let x:=w.AR.getD a.toNat CM
 if !BF b 1 x.2.1.length then(w,2)else
 if Aw w n≠0 then(w,Aw w n)else
 if !(Bd w.A8 x.1).contains n then(w,2)else
 putAt w n (G8 (storeAt w n) (HB x.1 b,0,false,(x.2.1.getD (b-1).toNat MA).1,()))
def NN(s:AO)(p:Int):Bool:=match Od p s.1 with|some e=>e.2.1==0|none=>false
def Bv(c:B_)(s:AO)(ep n:Int):Int→List A6→List A6
 |_,[]=>[]
 |o,x::l=>(if !x.2.2.1&&NN s (HB ep o)then GF c n x else x)::Bv c s ep n (o+1) l
def dK(l:List A6)(o:Int):Bool:=BF o 1 l.length&&(l.getD (o-1).toNat MA).2.2.1
def S_(all:Bool)(ep:Int)(old new:List A6)(s:Al):Al:=
 (s.1,s.2.1,s.2.2.1||(Ar s.1==ep&&(dK new (D4 s.1)&&(all|| !dK old (D4 s.1)))),())
def dE(s:AO)(l:List Cp)(n:Int)(x:AQ):Bool:=(Bd l x.1).contains n&&decide (s.2.2.1<x.1)
def HQ(all:Bool)(c:B_)(s:AO)(l:List Cp)(n:Int):List AQ→List Al→List AQ×List Al
 |[],ss=>([],ss)
 |x::ws,ss=>
  if dE s l n x then
   let new:=Bv c s x.1 n 1 x.2.1
   let q:=HQ all c s l n ws (ss.map (S_ all x.1 x.2.1 new))
   ((x.1,new,())::q.1,q.2)
  else
   let q:=HQ all c s l n ws ss
   (x::q.1,q.2)
def T7(m:Ax)(s:AO)(o:Int):Bool:=match EU m o with|some e=>Od e.1 s.1==some e|none=>false
def FP(m:Ax)(s:AO)(n:Int):Int→List AAM→List AAM
 |_,[]=>[]
 |o,x::l=>(if T7 m s o then NY n x else x)::FP m s n (o+1) l
def MD(s:AO)(l:List Cp)(n:Int)(m:Ax):Ax:=
 if(Bd l m.2.1).contains n then(m.1,m.2.1,m.2.2.1,m.2.2.2.1,m.2.2.2.2.1,FP m s n 1 m.2.2.2.2.2.1,())else m
def Xa(all:Bool)(w:AA)(n:Int):aP:=
 if Aw w n≠0 then(w,Aw w n)else
 let q:=B6 (storeAt w n)
 if !q.2 then(w,4)else
 let t:=HQ all (Ac w) q.1 w.A8 n w.AR w.CK
 ((((w.CD (w.BG.set n.toNat q.1)).BZ t.1).DT t.2).Cq (w.CB.map (MD q.1 w.A8 n)),0)
def RW(w:AA)(n k:Int):aP:=if Aw w n≠0 then(w,Aw w n)else putAt w n (Fl (storeAt w n) k)
def Xm(w:AA)(n:Int):aP:=
 if Aw w n≠0 then(w,Aw w n)else
 let ls:=NY n w.lost
 (((((w.CD (w.BG.set n.toNat D9)).Ez ls).BZ (w.AR.map fun x=>(B7 (Ac w) x n).1)).Cq (w.CB.map fun m=>(B4 (Ac w) m n).1)).FM (w.IL||holds (Ac w) ls),0)
def Xd(w:AA)(n:Int):aP:=
 if !w.lost.contains n then(w,2)else
 let q:=Z5 (Ac w) w.BG w.lost n (max ((w.A8.length:Int)-1) 0)
 if !q.2 then(w,4)else((w.CD (w.BG.set n.toNat q.1)).Ez (less w.lost [n]),0)
def Xb(w:AA):aP:=
 if decide ((w.A8.length:Int)<2)||decide (BC w.A8=w.A8.length)then(w,2)else
 if w.CB.length>0 then(w,4)else(w.Cq [mr (BC w.A8) w.A8.length],0)
def W0(w:AA)(n:Int):aP:=
 match w.CB with
 |[]=>(w,2)
 |m::ms=>
  if Aw w n≠0 then(w,Aw w n)else
  if !(Bd w.A8 m.2.1).contains n then(w,2)else
  let q:=Bk (storeAt w n) (m.1-1)
  let t:=OS (Ac w) m n (GS q.1 m.2.1)
  if !q.2|| !t.2 then(w,4)else((w.CD (w.BG.set n.toNat q.1)).Cq (t.1::ms),0)
def XN(w:AA):aP:=
 match w.CB with
 |[]=>(w,2)
 |m::ms=>
  let t:=Ld (Ac w) m (Bd w.A8 m.2.1)
  if !t.2 then(w,4)else(w.Cq (t.1::ms),0)
def cc(w:AA)(b n:Int):aP:=
 match w.CB with
 |[]=>(w,2)
 |m::ms=>
  match EU m b with
  |none=>(w,2)
  |some e=>
   if Aw w n≠0 then(w,Aw w n)else
   if !(Bd w.A8 m.2.1).contains n then(w,2)else putAt w n (G8 (storeAt w n) e)
def RS(w:AA):aP:=
 match w.CB with
 |[]=>(w,2)
 |m::ms=>
  if !TX (Ac w) m then(w,5)else
  let q:=Mp (Ac w) (CJ w) m.1 m.2.2.2.2.2.1.length
  if !q.2 then(w,4)else((w.Ik q.1).Cq [],0)
def bK(w:AA)(a:Int):aP:=
 let q:=Nv (Ac w) (CJ w) a
 if !q.2 then(w,4)else(w.Ik q.1,0)
def answer(w:AA)(p n:Int):A7:=
 match Od p (storeAt w n).1 with
 |some e=>(n,true,e.1,e.2.1,e.2.2.1,e.2.2.2.1,())
 |none=>(n,false,0,0,false,[],())
def answers(w:AA)(p:Int)(ns:AAM):List A7:=(ns.filter fun n=>Aw w n==0).map (answer w p)
def bN(w:AA)(e:Int):Int:=match w.AR.find? (fun x=>x.1==e)with|some x=>XU x.2.1|none=>0
def CY(w:AA)(a k:Int):aP:=
 if !BF a 0 1 then(w,2)else
 let r:=w.Af.getD a.toNat EX
 let q:=Ck (Ac w) (CJ w) (bN w r.1) r (answers w (HB r.1 r.2.1) (BH k))
 if q.2≠0 then(w,5)else(w.C2 (w.Af.set a.toNat q.1),0)
def Zd(w:AA)(a:Int):aP:=
 if !BF a 0 ((w.AR.length:Int)-1)then(w,2)else(w.BZ (w.AR.eraseIdx a.toNat),0)
def RX(w:AA)(n:Int):aP:=if Aw w n≠0 then(w,Aw w n)else putAt w n (I7 (storeAt w n) w.trim)
def Qm(all:Bool)(w:AA)(d:Br):aP:=
 if d.1=1 then We w d.2.1 else
 if d.1=2 then doAdd w d.2.1 d.2.2.2.2.1 else
 if d.1=3 then Sy w d.2.1 d.2.2.1 d.2.2.2.1 else
 if d.1=4 then Xa all w d.2.1 else
 if d.1=5 then RW w d.2.1 d.2.2.1 else
 if d.1=6 then Xm w d.2.1 else
 if d.1=7 then Xd w d.2.1 else
 if d.1=8 then Xb w else
 if d.1=9 then W0 w d.2.1 else
 if d.1=10 then XN w else
 if d.1=11 then cc w d.2.2.1 d.2.2.2.1 else
 if d.1=12 then RS w else
 if d.1=13 then bK w d.2.1 else
 if d.1=14 then CY w d.2.1 d.2.2.1 else
 if d.1=15 then Zd w d.2.1 else RX w d.2.1
def Ij(all:Bool)(w:AA)(d:Br):aP:=if !Jq w|| !Qe d then(xM,1)else Qm all w d
end Go.M
end
section
namespace Go.M
open Go.M.H (AK AO Ax Al AA Cp AN A6 AQ Aj Bc A7 Br)
theorem RJ{p:Nat→Bool}{n:Nat}:EW p 0 n=true↔ ∀i,i<n→p i=true:=
 ⟨fun h i hi=>Rb h i (by omega) (by omega),fun h=>oA fun j _ hj=>h j (by omega)⟩
theorem iX{α:Type}{l:List α}{i:Nat}{d:α}(h:i<l.length):l.getD i d=l[i]:=by simp_all
theorem Sr{α:Type}{l:List α}{d:α}{P:α→Prop}:(∀i,i<l.length→P (l.getD i d))↔ ∀x∈l,P x:=by
 constructor
 ·intro h x hx
  obtain⟨i,hi,rfl⟩:=AQS hx;simp_all
 simp_all
abbrev VW{α:Type}(f:α→Int)(l:List α):Prop:=l.Pairwise fun a b=>f a<f b
theorem eE{α:Type}{f:α→Int}{l:List α}{d:α}:(∀i,i<l.length→i=0∨f (l.getD (i-1) d)<f (l.getD i d))↔VW f l:=by
 constructor
 ·intro h
  unfold VW;rw[AT8];have key:∀(k i:Nat),i+k+1<l.length→f (l.getD i d)<f (l.getD (i+k+1) d):=by
   intro k
   induction k with
   |zero=>
    grind
   |succ k ih=>
    grind
  intro i j hi hj hij;have:=key (j-i-1) i (by omega);grind
 grind[List.pairwise_iff_getElem,iX]
theorem Ak{x a b:Int}:BF x a b=true↔a≤x∧x≤b:=by simp[BF]
theorem um{l:AAM}{hi:Int}:pU l hi=true↔(∀x∈l,0≤x∧x≤hi)∧VW id l:=by
 unfold pU;rw[RJ,←Sr (d:=(0:Int)) (P:=fun x=>0≤x∧x≤hi),←eE (d:=(0:Int))];simp only[tG,ALo,Ak,AQd,AQb,ANR,id];grind
theorem EY{c:B_}{l:AAM}:Az c l=true↔Fi c=true∧(∀x∈l,0≤x∧x<c.1.length)∧VW id l:=by
 unfold Az;rw[ALo,um];grind
theorem tT{l:List AK}:Xg l=true↔ ∀e∈l,FZ e=true:=by
 unfold Xg;rw[RJ];exact Sr (P:=fun e=>FZ e=true)
theorem vW{l:List AK}:jE l=true↔VW (fun e:AK=>e.1) l:=by
 unfold jE;rw[RJ,←eE (d:=Di)];simp_all
structure bQ (s:AO):Prop where
 nk:s.1.length≤200
 kept:∀e∈s.1,FZ e=true
 nl:s.2.1.length≤20
 late:∀e∈s.2.1,FZ e=true
 tz:VW (fun e:AK=>e.1) s.1
 sl:0≤s.2.2.1∧s.2.2.1≤30
theorem DF{s:AO}:Bu s=true↔bQ s:=by
 unfold Bu;simp only[ALo,ANR,tT,vW,Ak];exact⟨fun⟨⟨a,b⟩,⟨c,d⟩,e,f⟩=>⟨a,b,c,d,e,f⟩,fun h=>⟨⟨h.nk,h.kept⟩,⟨h.nl,h.late⟩,h.tz,h.sl⟩⟩
structure EOk (e:AK):Prop where
 pl:Ba e.1=true
 w0:0≤e.2.1∧e.2.1≤30
 w1:0<e.2.1→Ar e.1<e.2.1
 len:e.2.2.2.1.length≤40
 hole:e.2.2.1=true→0<e.2.1∧e.2.2.2.1=[]
theorem FI{e:AK}:FZ e=true↔EOk e:=by
 unfold FZ;simp only[ALo,AQd,AQo,ANR,AQ4,Ak,AQb];constructor
 ·rintro⟨a,b,c,d,e⟩
  refine⟨a,b,fun h=>c.resolve_left fun hn=>hn h,d,fun h=>e.resolve_left fun hn=> ?_⟩;simp_all
 ·intro h
  refine⟨h.pl,h.w0,?_,h.len,?_⟩
  ·by_cases hw:0<e.2.1
   ·exact .inr (h.w1 hw)
   omega
  ·cases hh:e.2.2.1 with
   |false=>simp_all
   |true=>exact .inr (h.hole hh)
structure jW (c:B_) (m:Ax):Prop where
 cfg:Fi c=true
 ep:1≤m.2.1∧m.2.1≤30
 b:m.2.1+1≤m.1∧m.1≤30
 sld:Az c m.2.2.1=true
 tz:VW (fun e:AK=>e.1) m.2.2.2.1
 seen:∀e∈m.2.2.2.1,FZ e=true∧Ar e.1=m.2.1∧e.2.1<m.1
 wrote:∀l∈m.2.2.2.2.2.1,Az c l=true
 n:(m.2.2.2.2.2.1.length:Int)=if m.2.2.2.2.1 then N4 m.2.2.2.1 else 0
theorem Gh{c:B_}{m:Ax}:GG c m=true↔jW c m:=by
 unfold GG r7 pw;simp only[ALo,Ak,vW,RJ,r_,AQb,ANR];rw[Sr (d:=Di) (P:=fun e=>FZ e=true∧Ar e.1=m.2.1∧e.2.1<m.1),Sr (d:=([]:AAM)) (P:=fun l=>Az c l=true)];have:(m.2.2.2.2.2.1.length:Int)=cond m.2.2.2.2.1 (N4 m.2.2.2.1) 0↔(m.2.2.2.2.2.1.length:Int)=if m.2.2.2.2.1 then N4 m.2.2.2.1 else 0:=by
  grind
 rw[this];exact⟨fun⟨a,b,c,d,e,f,g,h⟩=>⟨a,b,c,d,e,f,g,h⟩,fun h=>⟨h.cfg,h.ep,h.b,h.sld,h.tz,h.seen,h.wrote,h.n⟩⟩
structure yn (c:B_) (r:AN):Prop where
 cfg:Fi c=true
 n:r.1.length≤30
 trim:r.2.1=0∨(Ba r.2.1=true∧Ar r.2.1≤r.1.length)
 A8:∀e∈r.1,holds c e.1=true∧(0≤e.2.2.1∧e.2.2.1≤60)∧(e.2.1=false→e.2.2.1=0)
 down:∀i,i<r.1.length→(r.1.getD i Gt).2.1=true→i+1<r.1.length∧ ∀j,j<i→(r.1.getD j Gt).2.1=true
theorem J5{c:B_}{r:AN}:Mr c r=true↔yn c r:=by
 unfold Mr gV;simp only[ALo,ANR,AQd,AQb,RJ,sv,pS,Ak,AQo,Bool.and_eq_false_iff,Bool.or_eq_false_iff,AQ4,APd];constructor
 ·rintro⟨a,b,c1,d⟩
  refine⟨a,b,c1,(Sr (d:=Gt) (P:=fun e=>holds c e.1=true∧(0≤e.2.2.1∧e.2.2.1≤60)∧(e.2.1=false→e.2.2.1=0))).1 fun i hi=> ?_,fun i hi hc=> ?_⟩
  ·grind
  ·have step:∀k,k<r.1.length→(r.1.getD k Gt).2.1=true→k+1<r.1.length∧(0<k→(r.1.getD (k-1) Gt).2.1=true):=fun k hk hkc=>by
    rcases(d k hk).2 with h|⟨h1,h2⟩
    ·simp_all
    ·refine⟨by omega,fun h0=> ?_⟩
     simp_all
   refine⟨(step i hi hc).1,?_⟩;clear hi
   induction i with
   |zero=>omega
   |succ i ih=>
    intro j hj;have DG:i+1<r.1.length:=by
     rcases Nat.lt_or_ge (i+1) r.1.length with h|h
     ·omega
     ·simp[List.getD,h]at hc
      cases hc
    grind
 ·intro h
  refine⟨h.cfg,h.n,h.trim,fun i hi=>⟨?_,?_⟩⟩
  ·obtain⟨h1,h2,h3⟩:=h.A8 _ (BU (d:=Gt) hi)
   grind
  ·cases hb:(r.1.getD i Gt).2.1 with
   |false=>simp_all
   |true=>
    obtain⟨h1,h2⟩:=h.down i hi hb;grind
structure bF (c:B_) (w:AQ):Prop where
 cfg:Fi c=true
 ep:1≤w.1∧w.1≤30
 n:w.2.1.length≤60
 words:∀x∈w.2.1,x.1.length≤40∧Az c x.2.1=true∧x.2.2.1=holds c x.2.1
 opn:RF w.2.1≤6
theorem Ig{c:B_}{w:AQ}:DU c w=true↔bF c w:=by
 unfold DU le6 WQ;simp only[ALo,ANR,Ak,AQj,AQb];exact⟨fun⟨a,b,c,d,e⟩=>⟨a,b,c,d,e⟩,fun h=>⟨h.cfg,h.ep,h.n,h.words,h.opn⟩⟩
structure AFA (r:Aj):Prop where
 ep:1≤r.1∧r.1≤31
 off:1≤r.2.1∧r.2.1≤61
 n:r.2.2.1.length≤120
theorem TY{r:Aj}:Yt r=true↔AFA r:=by
 unfold Yt;simp only[ALo,ANR,Ak];exact⟨fun⟨a,b,c⟩=>⟨a,b,by omega⟩,fun h=>⟨h.ep,h.off,by have:=h.n;omega⟩⟩
structure On (w:AA):Prop where
 cfg:Fi (Ac w)=true
 qD:w.BG.length=w.1.length
 lost:Az (Ac w) w.lost=true
 IL:w.IL=true∨holds (Ac w) w.lost=false
 BG:∀i,i<w.BG.length→bQ (w.BG.getD i D9)∧((i:Int)∈w.lost→w.BG.getD i D9=D9)
 mC:yn (Ac w) (CJ w)
 qu:w.AR.length≤4
 vK:w.CB.length≤1
 AR:∀x∈w.AR,bF (Ac w) x∧x.1≤w.A8.length
 ei:VW (fun x:AQ=>x.1) w.AR
 CB:∀m∈w.CB,jW (Ac w) m∧m.1=w.A8.length∧m.2.1=BC w.A8
 mS:w.Af.length=2
 Af:∀r∈w.Af,AFA r
 Q3:w.CK.length≤120
 CK:∀s∈w.CK,Ba s.1=true∧Ar s.1≤w.A8.length∧s.2.1.length≤40
 aT:VW (fun s:Al=>s.1) w.CK
theorem KQ{w:AA}:Jq w=true↔On w:=by
 unfold Jq;simp only[ALo,ANR,eQ,Zq,gD,rG,cj,RJ,kX,eJ,rF,rD,AQd,AQo,AQb,DF,J5,Ig,Gh,TY];have hz:∀s:AO,(s.1.length=0∧s.2.1.length=0∧s.2.2.1=0)↔s=D9:=fun s=>by
  grind
 simp only[hz];constructor
 ·rintro⟨h1,h2,h3,h4,h5,h6,h7,h8,h9,h10,⟨h11,h12,h13⟩,h14,h15⟩
  refine⟨h1,h2,h3,h4,fun i hi=>⟨(h5 i hi).1,fun hm=>(h5 i hi).2.resolve_left fun hc=> ?_⟩,h6,h7,h8,?_,?_,?_,h11,?_,h14,?_,?_⟩
  ·simp_all
  ·exact(Sr (d:=CM) (P:=fun x:AQ=>bF (Ac w) x∧x.1≤w.A8.length)).1 fun i hi=>⟨(h9 i hi).1,(h9 i hi).2.1⟩
  ·exact(eE (f:=fun x:AQ=>x.1) (d:=CM)).1 fun i hi=>(h9 i hi).2.2
  ·exact(Sr (d:=Q7) (P:=fun m:Ax=>jW (Ac w) m∧m.1=w.A8.length∧m.2.1=BC w.A8)).1 h10
  ·refine(Sr (d:=EX) (P:=AFA)).1 fun i hi=> ?_
   rw[h11]at hi;rcases(by omega:i=0∨i=1)with rfl|rfl
   all_goals omega
  ·exact(Sr (d:=Mu) (P:=fun s:Al=>Ba s.1=true∧Ar s.1≤w.A8.length∧s.2.1.length≤40)).1 fun i hi=>⟨(h15 i hi).1.1,(h15 i hi).1.2,(h15 i hi).2.1⟩
  ·exact(eE (f:=fun s:Al=>s.1) (d:=Mu)).1 fun i hi=>(h15 i hi).2.2
 ·intro h
  refine⟨h.cfg,h.qD,h.lost,h.IL,fun i hi=>⟨(h.BG i hi).1,?_⟩,h.mC,h.qu,h.vK,fun i hi=> ?_,fun i hi=>h.CB _ (BU hi),⟨h.mS,h.Af _ (BU (by rw[h.mS];omega)),h.Af _ (BU (by rw[h.mS];omega))⟩,h.Q3,fun i hi=> ?_⟩
  ·by_cases hm:(i:Int)∈w.lost
   ·exact .inr ((h.BG i hi).2 hm)
   simp_all
  ·have:=h.AR _ (BU (d:=CM) hi)
   exact⟨this.1,this.2,(eE (f:=fun x:AQ=>x.1) (d:=CM)).2 h.ei i hi⟩
  ·have:=h.CK _ (BU (d:=Mu) hi)
   exact⟨⟨this.1,this.2.1⟩,this.2.2,(eE (f:=fun s:Al=>s.1) (d:=Mu)).2 h.aT i hi⟩
end Go.M
end
section
namespace Go.M
open Go.M.H (AK AO Ax Al AA Cp AN A6 AQ Aj Bc A7 Br)
theorem pI{x y:Int}:∀{l:AAM},y∈fc x l↔y=x∨y∈l
 |[]=>by simp[fc]
 |z::l=>by
  simp only[fc];split
  ·simp
  ·simp only[APr,pI (l:=l)]
   grind
theorem vG{x:Int}:∀{l:AAM},VW id l→x∉l→VW id (fc x l)
 |[],_,_=>by simp[fc,VW]
 |z::l,h,hx=>by
  simp only[VW,AQT,id]at h;simp only[APr,not_or]at hx;simp only[fc];split
  ·rename_i hz
   simp only[VW,AQT,APr,id];grind
  ·rename_i hz
   simp only[VW,AQT,id];refine⟨fun a ha=> ?_,vG h.2 hx.2⟩;rcases pI.1 ha with rfl|ha
   all_goals grind
theorem vt{x y:Int}{l:AAM}:y∈NY x l↔y=x∨y∈l:=by
 unfold NY;split
 ·simp_all
 ·exact pI
theorem ABN{x:Int}{l:AAM}(h:VW id l):VW id (NY x l):=by
 grind[NY,vG]
theorem KK{c:B_}{x:Int}{l:AAM}(h:Az c l=true)(hx:0≤x∧x<c.1.length):Az c (NY x l)=true:=by
 rw[EY]at h⊢;refine⟨h.1,fun y hy=> ?_,ABN h.2.2⟩;rcases vt.1 hy with rfl|hy
 all_goals simp_all
theorem RV{c:B_}{l:AAM}(p:Int→Bool)(h:Az c l=true):Az c (l.filter p)=true:=by
 grind[EY]
theorem oQ{x:Int}{l m:AAM}:x∈less l m↔x∈l∧x∉m:=by simp[less]
theorem YM{c:B_}(h:Fi c=true):Az c []=true:=EY.2 ⟨h,fun _ h=>by simp at h,List.Pairwise.nil⟩
theorem AC5{l m:AAM}(h:l.Nodup)(hs:∀x∈l,x∈m):l.length≤m.length:=by
 induction l generalizing m with
 |nil=>simp
 |cons a l ih=>
  rw[AS8]at h;have ha:=hs a (by simp);have:=ih (m:=m.erase a) h.2 fun x hx=>(List.mem_erase_of_ne (fun e:x=a=>h.1 (by simp_all))).2 (hs x (by simp[hx]))
  grind
theorem ub{c:AAM}{d:Int}:∀{l acc:AAM},d∈iG c l acc↔d∈acc∨ ∃n∈l,c.getD n.toNat 0=d
 |[],acc=>by simp[iG]
 |n::l,acc=>by
  simp only[iG];rw[ub (l:=l)];grind
theorem oR{c:AAM}:∀{l acc:AAM},acc.Nodup→(iG c l acc).Nodup
 |[],acc,h=>h
 |n::l,acc,h=>by
  simp only[iG];refine oR ?_
  grind
theorem uF{c l m:AAM}(h:∀x∈l,x∈m):a_ c l≤a_ c m:=by
 refine AC5 (oR List.nodup_nil) fun d hd=> ?_
 grind[ub]
theorem nQ{c:B_}{l m:AAM}(hl:holds c l=true)(hm:Az c m=true)(h:∀x∈l,x∈m):holds c m=true:=by
 simp only[holds,ALo,ANR]at hl⊢;have:=uF (c:=c.1) h;grind
theorem holds_nil{c:B_}:holds c []=false:=by
 rw[AQy];intro h;have hc:=(EY.1 (Uv h)).1;have:=(Dw hc).2.2.1;simp only[holds,ALo,ANR,a_,iG]at h;grind
theorem AAQ{a b:AK}(h:a.1=b.1):(better a b).1=b.1:=by grind[better]
theorem dk{e y:AK}:∀{l:List AK},y∈keep e l→y=e∨y∈l
 |[],h=>by simpa[keep]using h
 |x::l,h=>by
  simp only[keep]at h;split at h
  ·rcases APr.1 h with rfl|h
   all_goals grind[better]
  ·split at h
   ·simp_all
   ·rcases APr.1 h with rfl|h
    ·simp
    ·rcases dk h with h|h<;>simp[h]
theorem AIM{e y:AK}{l:List AK}(h:y∈keep e l):y.1=e.1∨ ∃z∈l,z.1=y.1:=by
 rcases dk h with rfl|h
 all_goals grind
theorem Wn{e:AK}:∀{l:List AK},(keep e l).length≤l.length+1∧l.length≤(keep e l).length
 |[]=>by simp[keep]
 |x::l=>by
  have:=Wn (e:=e) (l:=l);grind[keep,List.length_cons]
abbrev en(l:List AK):Prop:=VW (fun e:AK=>e.1) l
theorem dF{e:AK}:∀{l:List AK},en l→en (keep e l)
 |[],_=>by simp[keep,VW]
 |x::l,h=>by
  have h':=h;simp only[VW,AQT]at h;simp only[keep];split
  ·rename_i hx
   simp only[en,VW,AQT];grind[AAQ]
  ·split
   ·rename_i hx
    simp only[en,VW,AQT,APr];grind
   ·rename_i h1 h2
    simp only[en,VW,AQT];refine⟨fun a ha=> ?_,dF h.2⟩;grind[AIM]
theorem rp{p:Int}{l:List AK}{e:AK}(h:Od p l=some e):e∈l∧e.1=p:=by
 grind[Od,List.mem_of_find?_eq_some]
theorem lp{e:AK}:∀{l:List AK},en l→e∈l→Od e.1 l=some e
 |x::l,h,he=>by
  simp only[VW,AQT]at h;unfold Od;rw[AUM];rcases APr.1 he with rfl|he
  ·simp
  ·have:=h.1 e he
   have cq:(x.1==e.1)=false:=by grind
   rw[cq];exact lp h.2 he
theorem dI{y:AK}:∀{l k:List AK},y∈EA k l→y∈k∨y∈l
 |[],k,h=> .inl h
 |e::l,k,h=>by
  rcases dI (l:=l) h with h|h
  ·rcases dk h with rfl|h
   all_goals simp_all
  simp_all
theorem dX:∀{l k:List AK},en k→en (EA k l)
 |[],k,h=>h
 |e::l,k,h=>dX (l:=l) (dF h)
theorem da{k:Int}{y:AK}:∀{l:List AK} {i:Nat},y∈Me k i l→y∈l
 |[],_,h=>h
 |e::l,i,h=>by
  simp only[Me]at h;split at h
  ·rcases APr.1 h with rfl|h
   ·simp
   ·simp[da h]
  ·simp[da h]
end Go.M
end
section
namespace Go.M
open Go.M.H (AK AO Ax Al AA Cp AN A6 AQ Aj Bc A7 Br)
theorem JE{e o:Int}(he:1≤e∧e≤30)(ho:1≤o∧o≤60):Ba (HB e o)=true∧Ar (HB e o)=e∧D4 (HB e o)=o:=by
 have h1:XA (HB e o)=e:=by
  grind[XA,HB,Int.tdiv_eq_ediv_of_nonneg]
 have h2:(HB e o).tmod 4294967296=o:=by
  grind[HB,Int.tmod_eq_emod_of_nonneg]
 have h3:Ba (HB e o)=true:=by
  unfold Ba;rw[h1,h2,ALo,Ak,Ak];omega
 exact⟨h3,by unfold Ar;simp_all,by unfold D4;simp_all⟩
theorem Gw{p:Int}(h:Ba p=true):(1≤Ar p∧Ar p≤30)∧(1≤D4 p∧D4 p≤60)∧HB (Ar p) (D4 p)=p:=by
 have h0:=cY h;have h1:=h;unfold Ba at h1;rw[ALo,Ak,Ak]at h1;have e1:Ar p=XA p:=by unfold Ar;rw[ALC h]
 grind[D4,HB,XA,Int.tdiv_eq_ediv_of_nonneg,Int.tmod_eq_emod_of_nonneg]
theorem bQ.nil:bQ D9:=⟨by simp,by simp,by simp,by simp,List.Pairwise.nil,by simp⟩
theorem dQ{s:AO}{e:AK}(h:(G8 s e).2=true):bQ (G8 s e).1∧(G8 s e).1=(s.1,s.2.1++[e],s.2.2.1,())∧FZ e=true∧takes s e=true:=by
 unfold G8 at*;split at h
 ·cases h
 rename_i hs;rw[ALG hs];simp only[APR,APd]at hs;rw[DF]at hs;split at h
 case isFalse=>cases h
 rename_i h1;rw[ALC h1];simp only[ALo,ANR]at h1;obtain⟨he,ht,hl⟩:=h1;refine⟨⟨hs.nk,hs.kept,?_,fun x hx=> ?_,hs.tz,hs.sl⟩,rfl,he,ht⟩
 ·have:=hs.nl
  grind
 ·simp only[AOO,AP_]at hx
  rcases hx with hx|rfl
  ·exact hs.late x hx
  omega
theorem NF{s:AO}{k:Int}(h:(Fl s k).2=true):bQ s∧bQ (Fl s k).1∧(Fl s k).1=(EA s.1 (Me k 0 s.2.1),[],s.2.2.1,()):=by
 unfold Fl at*;split at h
 ·cases h
 rename_i hs;rw[ALG hs];simp only[APR,APd]at hs;rw[DF]at hs;simp only at h⊢;split at h
 case isFalse=>cases h
 rename_i h1;rw[ALC h1];simp only[ALo,ANR]at h1;refine⟨hs,⟨h1.2,fun e he=> ?_,by simp,by simp,dX hs.tz,hs.sl⟩,rfl⟩;rcases dI he with he|he
 ·exact hs.kept e he
 ·exact hs.late e (da he)
theorem jJ{s:AO}{u:Int}(h:(Bk s u).2=true):bQ s∧bQ (Bk s u).1∧(Bk s u).1=(EA s.1 (Me 1048575 0 s.2.1),[],max s.2.2.1 u,())∧0≤u∧u≤30:=by
 unfold Bk at*;split at h
 ·cases h
 rename_i hs;rw[ALG hs];simp only[APR,APd]at hs;simp only at h⊢;split at h
 case isFalse=>cases h
 rename_i h1;rw[ALC h1];simp only[ALo,Ak]at h1;obtain⟨k1,k2,k3⟩:=NF h1.1;have gq:(B6 s).1=_:=k3;rw[gq];refine⟨k1,⟨?_,?_,by simp,by simp,dX k1.tz,?_⟩,rfl,h1.2⟩
 ·have:=k2.nk;simp_all
 ·have:=k2.kept;simp_all
 ·have:=k1.sl
  grind
theorem tH{s:AO}{u:Int}(h:(I7 s u).2=true):bQ s∧bQ (I7 s u).1∧(I7 s u).1=(s.1.filter fun e=>decide (e.1>u),s.2.1,s.2.2.1,()):=by
 unfold I7 at*;split at h
 ·cases h
 rename_i hs;rw[ALG hs];simp only[APR,APd]at hs;rw[DF]at hs;split at h
 case isFalse=>cases h
 rename_i h1;rw[ALC h1];refine⟨hs,⟨AQL (AQM _ _) hs.nk,fun e he=>hs.kept e (AQ7.1 he).1,hs.nl,hs.late,hs.tz.filter _,hs.sl⟩,rfl⟩
theorem ABd{c:B_}{ss:List AO}{lost:AAM}{n u:Int}(h:(Z5 c ss lost n u).2=true):
  bQ (Z5 c ss lost n u).1∧(Z5 c ss lost n u).1=(GY [] (others lost 0 ss),[],u,())∧holds c lost=false∧ ∀s∈others lost 0 ss,bQ s:=by
 unfold Z5 at*;simp only at h⊢;split at h
 case isFalse=>cases h
 rename_i h1;rw[ALC h1];simp only[ALo,ANR,AQo,AQj]at h1;obtain⟨_,_,_,h2,_,h3,h4⟩:=h1;exact⟨DF.1 h4,rfl,h2,fun s hs=>DF.1 (h3 s hs)⟩
theorem dS{l:List Cp}:∀{d i:Nat},i+d=l.length→(XF l i d=0∧ ∀j,i≤j→j<l.length→(l.getD j Gt).2.1=true)∨
  ∃k,i≤k∧k<l.length∧XF l i d=(k:Int)+1∧(l.getD k Gt).2.1=false∧ ∀j,i≤j→j<k→(l.getD j Gt).2.1=true
 |0,i,h=> .inl ⟨rfl,fun j h1 h2=>by omega⟩
 |d+1,i,h=>by
  simp only[XF];cases hb:(l.getD i ([],false,0,())).2.1 with
  |false=>grind
  |true=>
   simp only[ALW,AL5];rcases dS (l:=l) (d:=d) (i:=i+1) (by omega)with⟨h1,h2⟩|⟨k,h1,h2,h3,h4,h5⟩
   all_goals grind
theorem SZ{c:B_}{r:AN}(h:yn c r)(hl:0<r.1.length):∃k,k<r.1.length∧BC r.1=(k:Int)+1∧(r.1.getD k Gt).2.1=false∧ ∀j,j<k→(r.1.getD j Gt).2.1=true:=by
 rcases dS (l:=r.1) (d:=r.1.length) (i:=0) (by omega)with⟨h1,h2⟩|⟨k,h1,h2,h3,h4,h5⟩
 ·have:=(h.down (r.1.length-1) (by omega) (h2 _ (by omega) (by omega))).1
  omega
 ·exact⟨k,h2,h3,h4,fun j hj=>h5 j (by omega) hj⟩
theorem pf{c:B_}{r:AN}{ns:AAM}(h:(Ie c r ns).2.2=true):yn c r∧yn c (Ie c r ns).1∧(Ie c r ns).1=(r.1++[(ns,false,0,())],r.2.1,())∧(Ie c r ns).2.1=(r.1.length:Int)+1∧holds c ns=true∧r.1.length<30:=by
 unfold Ie at*;split at h
 ·cases h
 rename_i hs;rw[ALG hs];simp only[APR,APd]at hs;rw[J5]at hs;split at h
 case isFalse=>cases h
 rename_i h1;rw[ALC h1];simp only[ALo,ANR]at h1;have hn:=hs.n;refine⟨hs,⟨hs.cfg,?_,?_,fun e he=> ?_,fun i hi hc=> ?_⟩,rfl,rfl,h1.1,by omega⟩
 ·grind
 ·rcases hs.trim with h2|⟨h2,h3⟩
  all_goals grind
 ·simp only[AOO,AP_]at he
  rcases he with he|rfl
  ·exact hs.A8 e he
  simp_all
 ·simp only[AOc,AN2,APp]at hi
  have get:∀j,j<r.1.length→(r.1++[(ns,false,0,())]).getD j Gt=r.1.getD j Gt:=fun j hj=>by
   grind
  by_cases hl:i<r.1.length
  ·rw[get i hl]at hc
   obtain⟨h2,h3⟩:=hs.down i hl hc;grind
  simp_all
theorem bT{l:List Cp}{i j:Nat}{last:Int}(hi:i<l.length):(OP l i last).getD j Gt=if i=j then((l.getD i Gt).1,true,last,())else l.getD j Gt:=by
 grind[OP]
theorem lf{c:B_}{r:AN}{b last:Int}(h:(Mp c r b last).2=true):yn c r∧yn c (Mp c r b last).1∧
  ∃k,k<r.1.length∧BC r.1=(k:Int)+1∧k+1<r.1.length∧b=r.1.length∧(0≤last∧last≤60)∧(Mp c r b last).1=(OP r.1 k last,r.2.1,())∧(r.1.getD k Gt).2.1=false∧ ∀j,j<k→(r.1.getD j Gt).2.1=true:=by
 unfold Mp at*;split at h
 ·cases h
 rename_i hs;rw[ALG hs];simp only[APR,APd]at hs;rw[J5]at hs;split at h
 case isFalse=>cases h
 rename_i h1;rw[ALC h1];simp only[ALo,ANR,Ak]at h1;obtain⟨hb,h0,cq,hlast⟩:=h1;have hl:0<r.1.length:=by
  rcases AUQ r.1.length with hz|hz
  ·exfalso
   apply h0;unfold BC;rw[hz];rfl
  omega
 obtain⟨k,k1,k2,k3,k4⟩:=SZ hs hl;have hk:(BC r.1-1).toNat=k:=by omega
 rw[hk];have hlen:(OP r.1 k last).length=r.1.length:=by simp[OP]
 refine⟨hs,⟨hs.cfg,by rw[hlen];exact hs.n,?_,fun e he=> ?_,fun i hi hc=> ?_⟩,k,k1,k2,by omega,hb,hlast,rfl,k3,k4⟩
 ·simp only[hlen];exact hs.trim
 ·unfold OP at he
  rcases AQX he with he|rfl
  ·exact hs.A8 e he
  ·exact⟨(hs.A8 _ (BU k1)).1,hlast,fun hf=>by cases hf⟩
 ·simp only[hlen]at hi⊢
  rw[bT k1]at hc;by_cases hik:k=i
  ·subst hik
   refine⟨by omega,fun j hj=> ?_⟩;rw[bT k1,ALG (by omega)];simp_all
  ·rw[ALG hik]at hc
   obtain⟨h2,h3⟩:=hs.down i hi hc;grind[bT]
theorem pj{c:B_}{r:AN}{p:Int}(h:(Nv c r p).2=true):yn c r∧yn c (Nv c r p).1∧(Nv c r p).1=(r.1,max r.2.1 p,()):=by
 unfold Nv at*;split at h
 ·cases h
 rename_i hs;rw[ALG hs];simp only[APR,APd]at hs;rw[J5]at hs;split at h
 case isFalse=>cases h
 rename_i h1;rw[ALC h1];simp only[ALo,ANR]at h1;refine⟨hs,⟨hs.cfg,hs.n,?_,hs.A8,hs.down⟩,rfl⟩;simp only;have hp:=(cY h1.1).1;by_cases hm:r.2.1≤p
 ·grind
 ·rw[show max r.2.1 p=r.2.1 by omega]
  exact hs.trim
theorem bP{c:B_}{w:AQ}{d:AA7}(h:(B9 c w d).2.2=true):bF c w∧bF c (B9 c w d).1∧(B9 c w d).1=(w.1,w.2.1++[(d,[],false,())],())∧(B9 c w d).2.1=(w.2.1.length:Int)+1:=by
 unfold B9 at*;split at h
 ·cases h
 rename_i hs;rw[ALG hs];simp only[APR,APd]at hs;rw[Ig]at hs;split at h
 case isFalse=>cases h
 rename_i h1;rw[ALC h1];exact⟨hs,Ig.1 h1,rfl,rfl⟩
theorem ah{c:B_}{s:AO}{ep n:Int}(hn:0≤n∧n<c.1.length):∀{l:List A6} {o:Int},(∀x∈l,x.1.length≤40∧Az c x.2.1=true∧x.2.2.1=holds c x.2.1)→
  (∀x∈Bv c s ep n o l,x.1.length≤40∧Az c x.2.1=true∧x.2.2.1=holds c x.2.1)∧RF (Bv c s ep n o l)≤RF l∧(Bv c s ep n o l).length=l.length
 |[],o,h=>by simp[Bv]
 |x::l,o,h=>by
  obtain⟨h1,h2,h3⟩:=ah (s:=s) (ep:=ep) hn (l:=l) (o:=o+1) fun y hy=>h y (by simp[hy])
  have hx:=h x (by simp);simp only[Bv,APr,AN2,RF];split
  ·rename_i hd
   simp only[ALo,AQo]at hd;refine⟨?_,?_,by omega⟩
   ·rintro y (rfl|hy)
    ·exact⟨hx.1,KK hx.2.1 hn,rfl⟩
    grind
   grind
  grind
theorem q9{c:B_}{n:Int}:∀{l:List A6},(∀x∈l,x.1.length≤40∧Az c x.2.1=true∧x.2.2.1=holds c x.2.1)→
  (∀x∈l.map (Ep n),x.1.length≤40∧Az c x.2.1=true∧x.2.2.1=holds c x.2.1)∧RF (l.map (Ep n))=RF l
 |[],h=>by simp
 |x::l,h=>by
  obtain⟨h1,h2⟩:=q9 (n:=n) (l:=l) fun y hy=>h y (by simp[hy])
  have hx:=h x (by simp);simp only[ARf,APr,RF,h2,Ep,AQc]
  rintro y (rfl|hy)
  ·refine⟨hx.1,?_,?_⟩
   ·simp only
    split
    ·simp_all
    ·exact RV _ hx.2.1
   ·simp only
    split
    ·simp_all
    ·rename_i hd
     simp only[APR]at hd;rw[hd]
     symm
     rw[AQy];grind[nQ,oQ]
  grind
theorem cM{c:B_}{w:AQ}{n:Int}(h:bF c w):bF c (B7 c w n).1∧(B7 c w n).1=(w.1,w.2.1.map (Ep n),()):=by
 unfold B7;rw[Ig.2 h];obtain⟨h1,h2⟩:=q9 (n:=n) h.words;exact⟨⟨h.cfg,h.ep,by simpa using h.n,h1,by simp only[ALW];exact h2▸h.opn⟩,rfl⟩
theorem HX{l:List AK}:0≤N4 l∧N4 l≤60:=by
 unfold N4;cases l.length==0 with
 |true=>simp
 |false=>
  simp only[AL5];rcases AK_ (Ba (l.getD (l.length-1) Di).1)with h|h
  ·have:=(Gw h).2.1;omega
  grind[D4]
theorem lH{c:B_}{m:Ax}{n:Int}{l:List AK}(h:(OS c m n l).2=true):jW c m∧jW c (OS c m n l).1∧m.2.2.2.2.1=false∧
  (OS c m n l).1=(m.1,m.2.1,NY n m.2.2.1,EA m.2.2.2.1 (l.filter fun e=>Ar e.1==m.2.1),m.2.2.2.2.1,m.2.2.2.2.2.1,()):=by
 unfold OS at*;split at h
 ·cases h
 rename_i hs;rw[ALG hs];simp only[APR,APd]at hs;rw[Gh]at hs;simp only at h⊢;split at h
 case isFalse=>cases h
 rename_i h1;rw[ALC h1];simp only[ALo,AQo]at h1;exact⟨hs,Gh.1 h1.2,h1.1,rfl⟩
theorem lE{c:B_}{m:Ax}{s:AAM}(h:(Ld c m s).2=true):jW c m∧jW c (Ld c m s).1∧m.2.2.2.2.1=false∧Qo c s (m.2.2.1.filter s.contains)=true∧
  (Ld c m s).1=(m.1,m.2.1,m.2.2.1,m.2.2.2.1,true,List.replicate (N4 m.2.2.2.1).toNat [],()):=by
 unfold Ld at*;split at h
 ·cases h
 rename_i hs;rw[ALG hs];simp only[APR,APd]at hs;rw[Gh]at hs;split at h
 case isFalse=>cases h
 rename_i h1;rw[ALC h1];simp only[ALo,AQo]at h1;refine⟨hs,⟨hs.cfg,hs.ep,hs.b,hs.sld,hs.tz,hs.seen,fun l hl=> ?_,?_⟩,h1.1,h1.2,rfl⟩
 ·simp only at hl
  rw[AQw hl];exact YM hs.cfg
 ·simp only[AQv,AQV]
  have:=(HX (l:=m.2.2.2.1)).1;omega
theorem iU{c:B_}{m:Ax}{s:AO}{n:Int}(hn:0≤n∧n<c.1.length):∀{l:List AAM} {o:Int},(∀x∈l,Az c x=true)→
  (∀x∈FP m s n o l,Az c x=true)∧(FP m s n o l).length=l.length
 |[],o,h=>by simp[FP]
 |x::l,o,h=>by
  obtain⟨h1,h2⟩:=iU (m:=m) (s:=s) hn (l:=l) (o:=o+1) fun y hy=>h y (by simp[hy])
  have hx:=h x (by simp);simp only[FP,APr,AN2,h2,AQc]
  rintro y (rfl|hy)
  all_goals grind[KK]
theorem AC8{c:B_}{s:AO}{l:List Cp}{n:Int}{m:Ax}(hn:0≤n∧n<c.1.length)(h:jW c m):jW c (MD s l n m):=by
 unfold MD;split
 ·obtain⟨h1,h2⟩:=iU (m:=m) (s:=s) hn (o:=1) h.wrote
  exact⟨h.cfg,h.ep,h.b,h.sld,h.tz,h.seen,h1,by simp only[h2];exact h.n⟩
 omega
theorem qQ{c:B_}{m:Ax}{n:Int}(h:jW c m):jW c (B4 c m n).1∧(B4 c m n).1=(m.1,m.2.1,m.2.2.1,m.2.2.2.1,m.2.2.2.2.1,m.2.2.2.2.2.1.map fun l=>less l [n],()):=by
 unfold B4;rw[Gh.2 h];refine⟨⟨h.cfg,h.ep,h.b,h.sld,h.tz,h.seen,fun l hl=> ?_,?_⟩,rfl⟩
 ·simp only[ALW,AL6,APB,AQ0]at hl
  obtain⟨l',h1,rfl⟩:=hl;exact RV _ (h.wrote l' h1)
 ·simp only[ALW,AL6,APB,AQ6]
  exact h.n
theorem qJ{c:B_}{g:AN}{sure:Int}{r:Aj}{l:List A7}(h:(Ck c g sure r l).2=0):AFA (Ck c g sure r l).1:=by
 unfold Ck at*;split at h
 ·omega
 rename_i hs;rw[ALG hs];simp only[APR,APd,ALo,J5,TY]at hs;obtain⟨hg,hr,_⟩:=hs;have r1:=hr.ep;have r2:=hr.off;have r3:=hr.n;split at h
 ·omega
 rename_i h1;rw[ALG h1];simp only[AQd,ANR,not_or]at h1;have hn:=hg.n;simp only at h⊢;split at h
 ·rename_i h2
  rw[ALC h2];have hp:Ba g.2.1=true:=by
   rcases hg.trim with ht|ht
   all_goals grind[HB]
  obtain⟨a1,a2,_⟩:=Gw hp;exact⟨by grind,by grind,by grind⟩
 ·rename_i h2
  rw[ALG h2];split at h
  ·rename_i h3
   rw[ALC h3];exact⟨by grind,by simp_all,by simp_all;omega⟩
  ·rename_i h3
   rw[ALG h3];split at h
   ·omega
   rename_i h4;rw[ALG h4];simp only[AQd,ANR,not_or]at h4;split at h
   ·omega
   rename_i h5;rw[ALG h5];exact⟨by omega,by grind,by simp_all;omega⟩
end Go.M
end
section
namespace Go.M
open Go.M.H (AK AO Ax Al AA Cp AN A6 AQ Aj Bc A7 Br)
theorem AD{α β:Type}(a:α)(f:α→Option β):(some a).bind f=f a:=rfl
theorem VH{l:AAM}{x:Int}(hl:l.length≤2^30):∀(n i:Nat) (b:AAM),i≤l.length→l.length-i<n→b.length≤2*i+1→
  HW n l x true i b=some (((),()),(b++l.drop i,()))
 |0,i,b,_,h,_=>by omega
 |n+1,i,b,hi,h,hb=>by
  simp only[HW,O6,AB,ALW,AL5];by_cases hc:i<l.length
  ·have c1:(0:Int)≤(i:Int)∧(i:Int)<(l.length:Int):=by omega
   have c2:b.length+1≤DA:=by rw[An];omega
   rw[ALC c1.2,ALC c1,ALC c2,AH (by omega) (by omega),show((i:Int)+1)=((i+1:Nat):Int)by omega,Ah hc,drop_cons hc,VH hl n (i+1) _ (by omega) (by omega) (by grind)];simp
  grind
theorem Zh{l:AAM}{x:Int}(hl:l.length≤2^30):∀(n i:Nat) (b:AAM),i≤l.length→l.length-i<n→b.length≤i→
  HW n l x false i b=some (((),()),(b++fc x (l.drop i),()))
 |0,i,b,_,h,_=>by omega
 |n+1,i,b,hi,h,hb=>by
  simp only[HW,O6,AB,AQR,ANZ];have c2:b.length+1≤DA:=by rw[An];omega
  by_cases hc:i<l.length
  ·have c1:(0:Int)≤(i:Int)∧(i:Int)<(l.length:Int):=by omega
   have c3:(b++[x]).length+1≤DA:=by grind[An]
   rw[ALC c1.2];simp only[ALC c1,ALC c2,ALC c3];rw[AH (by omega) (by omega),show((i:Int)+1)=((i+1:Nat):Int)by omega,Ah hc,drop_cons hc];simp only[fc];by_cases hx:l[i]>x
   ·rw[ALC hx,ALC (by omega),VH hl n (i+1) _ (by omega) (by omega) (by grind)]
    simp
   ·rw[ALG hx,ALG (by omega),Zh hl n (i+1) _ (by omega) (by omega) (by simp_all)]
    simp
  ·rw[ALG (by omega),ALC c2,AMG (by omega)]
   rfl
theorem Ku{l:AAM}{x:Int}(hl:l.length≤2^30):IG l x=some (((),()),(NY x l,())):=by
 unfold IG Tj NY;rw[KS (by omega)];simp only[AD];rcases AK_ (l.contains x)with h|h
 ·rw[h,ALC rfl]
  grind[VH,AY,Aa]
 ·rw[h,ALG (by simp)]
  grind[Zh,AY,Aa]
theorem Ze{l m:AAM}(hl:l.length≤2^30)(hm:m.length≤2^30):∀(n i:Nat) (b:AAM),i≤l.length→l.length-i<n→b.length≤i→
  Of n l m i b=some (((),()),(b++less (l.drop i) m,()))
 |0,i,b,_,h,_=>by omega
 |n+1,i,b,hi,h,hb=>by
  simp only[Of,X_,AB];have c2:b.length+1≤DA:=by rw[An];omega
  by_cases hc:i<l.length
  ·have c1:(0:Int)≤(i:Int)∧(i:Int)<(l.length:Int):=by omega
   rw[ALC c1.2];simp only[ALC c1,ALC c2];rw[AH (by omega) (by omega),show((i:Int)+1)=((i+1:Nat):Int)by omega,Ah hc,drop_cons hc,KS (by omega)];simp only[AD,less,AP6];cases hx:m.contains l[i]with
   |true=>
    simp only[ALW,AL5,AL6,APB];exact Ze hl hm n (i+1) _ (by omega) (by omega) (by omega)
   |false=>
    simp only[AQR,ANZ,AQV];rw[Ze hl hm n (i+1) _ (by omega) (by omega) (by simp_all)];simp[less]
  ·rw[ALG (by omega),AMG (by omega)]
   simp[less]
theorem JI{l m:AAM}(hl:l.length≤2^30)(hm:m.length≤2^30):Iq l m=some (((),()),(less l m,())):=by
 grind[Iq,YT,Ze,AY,Aa]
theorem Ff{e o:Int}(he: -1000≤e∧e≤1000)(ho: -1000≤o∧o≤1000):CW e o=some ((HB e o,()),()):=by
 grind[CW,HB,AH]
theorem iT{e o:Int}:Rl e o=some (((Gi e o,BF e 1 30&&BF o 1 60,()),()),()):=by
 unfold Rl Gi;rw[BQ,BQ];simp only[AD];rcases AK_ (BF e 1 30)with he|he
 ·rcases AK_ (BF o 1 60)with ho|ho
  ·have h1:=Ak.1 he
   have h2:=Ak.1 ho;rw[he,ho,AH (x:=4294967296*e) (by omega) (by omega),AH (by omega) (by omega)];rfl
  simp_all
 simp_all
theorem Iv{a b:Int}:FF a b=some ((max a b,()),()):=by
 unfold FF;grind
theorem ZO{a b:Int}:Ts a b=some ((min a b,()),()):=by
 unfold Ts;grind
def gp(q:AO×Bool):AC4×(List AK×List AK×Unit):=(((((),(),q.1.2.2.1,()),q.2,()),()),(q.1.1,q.1.2.1,()))
theorem OC{s:AO}(h1:s.1.length≤2^30)(h2:s.2.1.length≤2^30):El s=some ((((),(),s.2.2.1,()),()),(s.1,s.2.1,())):=by
 unfold El;rw[ALC (by rw[An];omega),ALC (by rw[An];omega)]
theorem mg{s:AO}{e:AK}(he:Ce e.1):WK s e=some ((takes s e,()),()):=by
 unfold WK takes;rw[D7 he];grind
theorem Xj{a b:AK}:Q2 a b=some ((better a b,()),()):=by
 unfold Q2 better;grind
theorem Fp{s:AO}(h:H.Ai s≤2^30):s.1.length≤2^30∧s.2.1.length≤2^30:=by
 grind[H.AW,H.Ag,H.Ai]
theorem Ti{s:AO}{e:AK}(hw:H.Ai s≤2^30)(hs:iS s)(he:Ce e.1):M4 s e=some (gp (G8 s e)):=by
 obtain⟨l1,l2⟩:=Fp hw;unfold M4 G8;rw[show(s.1,s.2.1,s.2.2.1,())=s from rfl,show(e.1,e.2.1,e.2.2.1,e.2.2.2.1,())=e from rfl,Fb hw hs,OC l1 l2,P7 he,mg he];simp only[AD];rcases AK_ (Bu s)with h|h
 rotate_left
 ·rw[h];rfl
 rw[h];simp only[ALW,AL5,AL6,APB];cases FZ e with
 |false=>rfl
 |true=>
  cases takes s e with
  |false=>rfl
  |true=>
   simp only[ALW,AL5,ANm];by_cases h20:s.2.1.length=20
   ·rw[show((s.2.1.length:Int)==20)=true by simp[h20],show decide (s.2.1.length≠20)=false by simp[h20]]
    rfl
   ·rw[show((s.2.1.length:Int)==20)=false by grind,show decide (s.2.1.length≠20)=true by simp[h20],AL5,ALC (by rw[An];omega)]
    rfl
theorem To{l:List AK}{e:AK}(hl:l.length≤2^30):∀(n i:Nat) (b:List AK),i≤l.length→l.length-i<n→b.length≤2*i+1→
  JW n l true i e.1 e.2.1 e.2.2.1 e.2.2.2.1 b=some (((),()),(b++l.drop i,()))
 |0,i,b,_,h,_=>by omega
 |n+1,i,b,hi,h,hb=>by
  simp only[JW,SX,AB,ALW,AL5];by_cases hc:i<l.length
  ·have c1:(0:Int)≤(i:Int)∧(i:Int)<(l.length:Int):=by omega
   have c2:b.length+1≤DA:=by rw[An];omega
   rw[ALC c1.2,ALC c1,ALC c2,AH (by omega) (by omega),show((i:Int)+1)=((i+1:Nat):Int)by omega,Ah hc,drop_cons hc,To hl n (i+1) _ (by omega) (by omega) (by grind),ANi];rfl
  grind
theorem Yu{l:List AK}{e:AK}(hl:l.length≤2^30):∀(n i:Nat) (b:List AK),i≤l.length→l.length-i<n→b.length≤i→
  JW n l false i e.1 e.2.1 e.2.2.1 e.2.2.2.1 b=some (((),()),(b++keep e (l.drop i),()))
 |0,i,b,_,h,_=>by omega
 |n+1,i,b,hi,h,hb=>by
  simp only[JW,SX,AB,AQR,ANZ];have c2:b.length+1≤DA:=by rw[An];omega
  by_cases hc:i<l.length
  ·have c1:(0:Int)≤(i:Int)∧(i:Int)<(l.length:Int):=by omega
   have c3:(b++[(e.1,e.2.1,e.2.2.1,e.2.2.2.1,())]).length+1≤DA:=by grind[An]
   rw[ALC c1.2];simp only[ALC c1,ALC c2,ALC c3];rw[AH (by omega) (by omega),show((i:Int)+1)=((i+1:Nat):Int)by omega,Ah hc,drop_cons hc];rw[show(l[i].1,l[i].2.1,l[i].2.2.1,l[i].2.2.2.1,())=l[i]from rfl,show(e.1,e.2.1,e.2.2.1,e.2.2.2.1,())=e from rfl,Xj];simp only[AD,keep];by_cases hx:l[i].1=e.1
   ·rw[show(l[i].1==e.1)=true by simp_all,ALC hx,ANZ,show((better l[i] e).1,(better l[i] e).2.1,(better l[i] e).2.2.1,(better l[i] e).2.2.2.1,())=better l[i] e from rfl,To hl n (i+1) _ (by omega) (by omega) (by grind)]
    simp
   ·rw[show(l[i].1==e.1)=false by simp_all,ALG hx,AL5]
    by_cases hg:l[i].1>e.1
    ·rw[ALC hg,ALC hg,To hl n (i+1) _ (by omega) (by omega) (by grind)]
     simp
    ·rw[ALG hg,ALG hg,Yu hl n (i+1) _ (by omega) (by omega) (by simp_all)]
     simp
  ·rw[ALG (by omega),ALC c2,AMG (by omega)]
   rfl
theorem Xi{l:List AK}{e:AK}(hl:l.length≤2^30):Qz l e=some (((),()),(keep e l,())):=by
 grind[Qz,X2,Yu,AY,Aa]
theorem UI{l:List AK}{p:Int}(hl:l.length≤2^30):HD l p=some ((((Od p l).getD Di,(Od p l).isSome,()),()),()):=by
 have key:∀(n i:Nat),i≤l.length→l.length-i<n→Pv n l p i 0 0 false []=some ((((Od p (l.drop i)).getD Di,(Od p (l.drop i)).isSome,()),()),()):=by
  intro n
  induction n with
  |zero=>omega
  |succ n ih=>
   intro i hi h;simp only[Pv,aI,AB];by_cases hc:i<l.length
   ·have c1:(0:Int)≤(i:Int)∧(i:Int)<(l.length:Int):=by omega
    rw[ALC c1.2];simp only[ALC c1];rw[AH (by omega) (by omega),show((i:Int)+1)=((i+1:Nat):Int)by omega,Ah hc,drop_cons hc,ih (i+1) (by omega) (by omega)];simp only[Od,AUM];cases l[i].1==p<;>rfl
   ·rw[ALG (by omega),AMG (by omega)]
    rfl
 grind[HD,aG,AY,Aa]
end Go.M
end
section
namespace Go.M
open Go.M.H (AK AO Ax Al AA Cp AN A6 AQ Aj Bc A7 Br Ai AU AW Ag)
theorem sH{k:Int}{i:Nat}(hk:0≤k∧k<2^63)(hi:i≤63):(cQ .i64 (k.fdiv (2^(min i 64))) 1==1)=decide ((k/2^i)%2=1):=by
 obtain⟨m,rfl⟩:∃m:Nat,k=m:=⟨k.toNat,by omega⟩;rw[show min i 64=i by omega];have h1:(m:Int).fdiv (2^i)=((m/2^i:Nat):Int):=by
  grind
 have h2:(m:Int)/2^i=((m/2^i:Nat):Int):=by norm_cast
 have h3:m/2^i<2^63:=Nat.lt_of_le_of_lt (Nat.div_le_self _ _) (by omega);rw[h1,h2,show(1:Int)=((1:Nat):Int)from rfl,ABG h3 (by omega),Nat.and_one_is_mod];rfl
def ua(p:Nat→Bool):Nat→List AK→List AK
 |_,[]=>[]
 |i,e::l=>if p i then e::ua p (i+1) l else ua p (i+1) l
theorem re{k:Int}(hk:0≤k∧k<2^63):∀{l:List AK} {i:Nat},i+l.length≤60→ua (fun i=>cQ .i64 (k.fdiv (2^(min i 64))) 1==1) i l=Me k i l
 |[],i,_=>rfl
 |e::l,i,h=>by
  simp only[AN2]at h;have ih:=re hk (l:=l) (i:=i+1) (by omega);have zS:=sH hk (i:=i) (by omega);simp only[ua,Me];simp_all
theorem Yw{s:AO}{k:Int}(h1:s.1.length≤200)(h2:s.2.1.length≤20):∀(n i:Nat) (b:List AK),i≤s.2.1.length→s.2.1.length-i<n→b.length≤200+i→
  Ji n k i s.1 s.2.1 s.2.2.1 0 [] [] s.2.2.1 b []=
   some (gp (if BF k 0 1048575&&decide ((EA b (ua (fun i=>cQ .i64 (k.fdiv (2^(min i 64))) 1==1) i (s.2.1.drop i))).length≤200)then((EA b (ua (fun i=>cQ .i64 (k.fdiv (2^(min i 64))) 1==1) i (s.2.1.drop i)),[],s.2.2.1,()),true)else(s,false)))
 |0,i,b,_,h,_=>by omega
 |n+1,i,b,hi,h,hb=>by
  simp only[Ji,S4,AB];by_cases hc:i<s.2.1.length
  ·have c1:(0:Int)≤(i:Int)∧(i:Int)<(s.2.1.length:Int):=by omega
   have ih:=fun b hb=>Yw (k:=k) h1 h2 n (i+1) b (by omega) (by omega) hb
   rw[ALC c1.2,ALG (by omega)];simp only[ALC c1];rw[AH (by omega) (by omega),show((i:Int)+1)=((i+1:Nat):Int)by omega,Ah hc,drop_cons hc,AMp];rw[show(s.2.1[i].1,s.2.1[i].2.1,s.2.1[i].2.2.1,s.2.1[i].2.2.2.1,())=s.2.1[i]from rfl,Xi (by omega)];simp only[AD,ua];have kl:=Wn (e:=s.2.1[i]) (l:=b);rcases AK_ (cQ .i64 (k.fdiv (2^(min i 64))) 1==1)with hb|hb
   ·simp only[hb,ANZ,AQV,EA]
    grind
   grind
  ·rw[ALG (by omega),AMG (by omega),BQ,show(s.1,s.2.1,s.2.2.1,())=s from rfl,OC (by omega) (by omega)]
   simp only[AD,ua,EA];cases BF k 0 1048575 with
   |false=>rfl
   |true=>
    simp only[ALW,AL5,ANm];by_cases h200:b.length≤200
    ·rw[ALG (by omega),APl h200];rfl
    ·rw[ALC (by omega),AQO h200];rfl
theorem Wz{s:AO}{k:Int}(hw:Ai s≤2^30)(hs:iS s):Ml s k=some (gp (Fl s k)):=by
 obtain⟨l1,l2⟩:=Fp hw;unfold Ml S7 Fl;rw[show(s.1,s.2.1,s.2.2.1,())=s from rfl,Fb hw hs];simp only[AD];rcases AK_ (Bu s)with h|h
 rotate_left
 ·rw[h];rfl
 have FX:=DF.1 h;rw[h];simp only[ALW,AL5,AL6,APB];rw[ALC (by rw[An];omega)];have:=Yw (k:=k) FX.nk FX.nl AY 0 s.1 (by omega) (Aa (by omega)) (by have:=FX.nk;omega);rw[show((0:Nat):Int)=0 from rfl,AOu]at this;rw[this];rcases AK_ (BF k 0 1048575)with hk|hk
 ·have hk':=Ak.1 hk
  have hn:=FX.nl;grind[re]
 simp_all
theorem Nk{s:AO}(hw:Ai s≤2^30)(hs:iS s):JS s=some (gp (B6 s)):=by
 unfold JS B6;rw[show(s.1,s.2.1,s.2.2.1,())=s from rfl,Wz hw hs];rfl
theorem YJ{s:AO}{u:Int}(hw:Ai s≤2^30)(hs:iS s):Oa s u=some (gp (Bk s u)):=by
 obtain⟨l1,l2⟩:=Fp hw;unfold Oa Bk;rw[show(s.1,s.2.1,s.2.2.1,())=s from rfl,Fb hw hs,Nk hw hs,OC l1 l2,BQ];simp only[AD];cases Bu s with
 |false=>rfl
 |true=>
  simp only[ALW,AL5,AL6,APB,gp];cases(B6 s).2 with
  |false=>rfl
  |true=>
   cases BF u 0 30 with
   |false=>rfl
   |true=>
    simp only[ALW,AL5,ANm,AQV];rw[Iv];rfl
theorem Zm{s:AO}{ep:Int}(hw:Ai s≤2^30)(hs:iS s):I1 s ep=some (((),()),(GS s ep,())):=by
 obtain⟨l1,l2⟩:=Fp hw;unfold I1 Vy GS;rcases AK_ (Bu s)with h|h
 ·have key:∀(n i:Nat) (b:List AK),i≤s.1.length→s.1.length-i<n→b.length≤i→JD n ep i s.1 s.2.1 s.2.2.1 b=some (((),()),(b++(s.1.drop i).filter fun e=>Ar e.1==ep,())):=by
   intro n
   induction n with
   |zero=>omega
   |succ n ih=>
    intro i b hi hn hb;simp only[JD,PR,AB];have c2:b.length+1≤DA:=by rw[An];omega
    by_cases hc:i<s.1.length
    ·have c1:(0:Int)≤(i:Int)∧(i:Int)<(s.1.length:Int):=by omega
     rw[ALC c1.2];simp only[ALC c1,ALC c2];rw[AH (by omega) (by omega),show((i:Int)+1)=((i+1:Nat):Int)by omega,Ah hc,drop_cons hc,show(s.1,s.2.1,s.2.2.1,())=s from rfl,Fb hw hs,D7 (hs.1 _ (AMx hc)),h];simp only[AD,ANZ,AP6];cases Ar s.1[i].1==ep with
     |true=>
      simp only[ANZ,AQV];rw[ih (i+1) _ (by omega) (by omega) (by simp_all),ANi];rfl
     |false=>
      grind
    grind
  have:=key AY 0 [] (by omega) (Aa (by omega)) (by simp);simp_all
 ·obtain⟨m,hm⟩:∃m,AY=m+1:=⟨AY-1,by have:=eO;omega⟩
  rw[h,hm];simp only[JD,PR,AB];rw[show(s.1,s.2.1,s.2.2.1,())=s from rfl,Fb hw hs,h];simp_all
theorem iz{s:AO}{u:Int}(hw:Ai s≤2^30)(hs:iS s)(hu:Ce u):Re s u=some (gp (I7 s u)):=by
 obtain⟨l1,l2⟩:=Fp hw;unfold Re Ut I7;rw[show(s.1,s.2.1,s.2.2.1,())=s from rfl,Fb hw hs,OC l1 l2,IH hu];simp only[AD];cases Bu s with
 |false=>rfl
 |true=>
  cases Ba u with
  |false=>rfl
  |true=>
   simp only[ALW,AL5,AL6,APB,AQV];have key:∀(n i:Nat) (b:List AK),i≤s.1.length→s.1.length-i<n→b.length≤i→KV n u i s.1 s.2.1 s.2.2.1 0 [] [] s.2.2.1 b s.2.1=some (gp ((b++(s.1.drop i).filter fun e=>decide (e.1>u),s.2.1,s.2.2.1,()),true)):=by
    intro n
    induction n with
    |zero=>omega
    |succ n ih=>
     intro i b hi hn hb;simp only[KV,Uw];have c2:b.length+1≤DA:=by rw[An];omega
     by_cases hc:i<s.1.length
     ·have c1:(0:Int)≤(i:Int)∧(i:Int)<(s.1.length:Int):=by omega
      rw[APl c1.2];simp only[ALC c1,ALC c2,ANZ];rw[AH (by omega) (by omega),show((i:Int)+1)=((i+1:Nat):Int)by omega,Ah hc,drop_cons hc];simp only[AP6];cases decide (s.1[i].1>u)with
      |true=>
       simp only[ANZ,AQV];rw[ih (i+1) _ (by omega) (by omega) (by simp_all),ANi];rfl
      |false=>
       grind
     grind[decide_eq_false,List.drop_eq_nil_of_le,gp]
   have:=key AY 0 [] (by omega) (Aa (by omega)) (by simp);simp_all
end Go.M
end
section
namespace Go.M
open Go.M.H (AK AO Ax Al AA Cp AN A6 AQ Aj Bc A7 Br Ai AU AW AX Ag Bb As Am)
theorem M8{α:Type}{l:List α}{i:Nat}{x d:α}(hi:i<l.length):(l.set i x).getD i d=x:=by
 simp_all
theorem Np{α:Type}{l:List α}{f:α→α}{i:Nat}(hi:i≤l.length):((l.map f).take i++l.drop i).length=l.length:=by
 simp_all
theorem Mw{α:Type}{l:List α}{f:α→α}{i:Nat}{d:α}(hi:i<l.length):((l.map f).take i++l.drop i).getD i d=l[i]:=by
 grind
theorem QE{α:Type}{l:List α}{f:α→α}{i:Nat}{y:α}(hi:i<l.length)(hy:y=f l[i]):((l.map f).take i++l.drop i).set i y=(l.map f).take (i+1)++l.drop (i+1):=by
 have h:((l.map f).take i).length=i:=by grind
 subst hy;rw[ATL _ _ (by omega),h,AVE,drop_cons hi,ARg,AQf (by simp_all),ANi,List.getElem_map];rfl
theorem h_{α:Type}{l:List α}{f:α→α}{i:Nat}(hi:i<l.length)(hf:f l[i]=l[i]):(l.map f).take i++l.drop i=(l.map f).take (i+1)++l.drop (i+1):=by
 grind[List.take_succ_eq_append_getElem,List.append_assoc,drop_cons]
theorem vB{n:Int}:∀{l:AAM},(fc n l).length=l.length+1
 |[]=>rfl
 |a::l=>by
  simp only[fc];split
  ·simp
  ·simp[vB (l:=l)]
theorem Sx{n:Int}{l:AAM}:(NY n l).length≤l.length+1:=by
 grind[NY,vB]
theorem E9{r:AN}{e:Int}(hl:AU Bb r.1≤2^30):CU r e=some (((),()),(Bd r.1 e,())):=by
 have l1:=AW (f:=Bb) (l:=r.1);unfold CU Bd;rw[BQ];simp only[AD];rcases AK_ (BF e 1 (r.1.length:Int))with h|h
 ·have h':=Ak.1 h
  have hm:=AX (f:=Bb) (BU (d:=Gt) (l:=r.1) (i:=(e-1).toNat) (by omega));have Xw:(r.1.getD (e-1).toNat Gt).1.length≤AU Bb r.1:=hm;rw[h,AH (by omega) (by omega)];simp only[ALW,AL5,AQV];rw[ALC (by omega),ALC (by grind[An,Gt])];rfl
 simp_all
theorem Ss{r:AN}(hl:AU Bb r.1≤2^30):F8 r=some ((((),r.2.1,()),()),(r.1,())):=by
 have l1:=AW (f:=Bb) (l:=r.1);have key:∀(n i:Nat) (b:List Cp),i≤r.1.length→r.1.length-i<n→b.length≤i→OJ n i r.1 r.2.1 0 [] r.2.1 b=some ((((),r.2.1,()),()),(b++r.1.drop i,())):=by
  intro n
  induction n with
  |zero=>omega
  |succ n ih=>
   intro i b hi hn hb;simp only[OJ,YI,AB];by_cases hc:i<r.1.length
   ·have c1:(0:Int)≤(i:Int)∧(i:Int)<(r.1.length:Int):=by omega
    have hm:=AX (f:=Bb) (AMx hc)
    replace hm:r.1[i].1.length≤AU Bb r.1:=hm
    rw[ALC c1.2,ALC c1,AH (by omega) (by omega),show((i:Int)+1)=((i+1:Nat):Int)by omega,Ah hc,ALC (by rw[An];omega),ALC (by rw[An];omega),drop_cons hc,ih (i+1) _ (by omega) (by omega) (by simp_all),ANi];rfl
   grind
 grind[F8,Yx,AY,Aa]
def pkR(q:AN×Bool):AEH×(List Cp×Unit):=(((((),q.1.2.1,()),q.2,()),()),(q.1.1,()))
section
variable{c:B_} {r:AN} (hc:c.1.length≤2^40) (hl:AU Bb r.1≤2^30) (ht:Ce r.2.1)
include hc hl ht
theorem b_{ns:AAM}(hn:ns.length≤2^30):MS c r ns=some (((((),(Ie c r ns).1.2.1,()),(Ie c r ns).2.1,(Ie c r ns).2.2,()),()),((Ie c r ns).1.1,())):=by
 have l1:=AW (f:=Bb) (l:=r.1);unfold MS Ie;rw[show(c.1,c.2.1,())=c from rfl,show(r.1,r.2.1,())=r from rfl,Px hc hl ht,Ss hl,Dm hc (by omega)];simp only[AD];cases Mr c r with
 |false=>rfl
 |true=>
  cases holds c ns with
  |false=>rfl
  |true=>
   simp only[ALW,AL5,AL6,APB,ANm];by_cases h30:r.1.length=30
   ·simp_all
   ·rw[show((r.1.length:Int)==30)=false by grind,show decide (r.1.length≠30)=true by simp[h30],AL5,ALC (by rw[An];omega),ALC (by rw[An];omega)]
    simp
theorem Zu{b last:Int}:Po c r b last=some (pkR (Mp c r b last)):=by
 have l1:=AW (f:=Bb) (l:=r.1);unfold Po Mp;rw[show(c.1,c.2.1,())=c from rfl,show(r.1,r.2.1,())=r from rfl,Px hc hl ht,Ss hl,Ny (by omega)];simp only[AD];rcases AK_ (Mr c r)with hr|hr
 rotate_left
 ·rw[hr];rfl
 rw[hr];simp only[ALW,AL5,AL6,APB];by_cases h1:b=r.1.length
 rotate_left
 ·rw[show(b !=(r.1.length:Int))=true by simp_all,show decide (b=(r.1.length:Int))=false by simp_all]
  rfl
 rw[show(b !=(r.1.length:Int))=false by simp_all,show decide (b=(r.1.length:Int))=true by simp_all];simp only[AL5,ANm];by_cases h2:BC r.1=0
 ·rw[show(BC r.1==0)=true by simp_all,show decide (BC r.1≠0)=false by simp_all]
  rfl
 rw[show(BC r.1==0)=false by simp_all,show decide (BC r.1≠0)=true by simp_all];simp only[AL5,ANm];by_cases h3:b=BC r.1
 ·rw[show(b==BC r.1)=true by simp_all,show decide (b≠BC r.1)=false by simp_all]
  rfl
 rw[show(b==BC r.1)=false by simp_all,show decide (b≠BC r.1)=true by simp_all,BQ];simp only[AL5,ANm,AD];cases BF last 0 60 with
 |false=>rfl
 |true=>
  have FX:=J5.1 hr;have AEX:0<r.1.length:=by
   rcases AUQ r.1.length with hz|hz
   ·exact absurd (by unfold BC;rw[hz];rfl) h2
   omega
  obtain⟨k,k1,k2,k3,k4⟩:=SZ FX AEX;simp only[ALW,AL5,AQV];rw[k2,AH (by omega) (by omega),show((k:Int)+1-1)=(k:Int)by omega,ALC (by omega),ALC (by simp_all),AMp];unfold pkR OP;simp_all
theorem bU{p:Int}(hp:Ce p):SH c r p=some (pkR (Nv c r p)):=by
 unfold SH Nv;rw[show(c.1,c.2.1,())=c from rfl,show(r.1,r.2.1,())=r from rfl,Px hc hl ht,Ss hl,IH hp,D7 hp];simp only[AD];cases Mr c r with
 |false=>rfl
 |true=>
  cases Ba p with
  |false=>rfl
  |true=>
   simp only[ALW,AL5,AL6,APB,ANm];by_cases h:Ar p≤r.1.length
   ·rw[show decide (Ar p>(r.1.length:Int))=false by simp_all,show decide (Ar p≤(r.1.length:Int))=true by simp_all,AL5,Iv]
    rfl
   ·rw[show decide (Ar p>(r.1.length:Int))=true by simp_all,show decide (Ar p≤(r.1.length:Int))=false by simp_all]
    rfl
end
theorem Rr{w:AQ}(hl:AU As w.2.1≤2^30):EH w=some (((w.1,(),()),()),(w.2.1,())):=by
 have l1:=AW (f:=As) (l:=w.2.1);have key:∀(n i:Nat) (b:List A6),i≤w.2.1.length→w.2.1.length-i<n→b.length≤i→Jf n i w.1 w.2.1 0 [] w.1 b=some (((w.1,(),()),()),(b++w.2.1.drop i,())):=by
  intro n
  induction n with
  |zero=>omega
  |succ n ih=>
   intro i b hi hn hb;simp only[Jf,Rj,AB];by_cases hc:i<w.2.1.length
   ·have c1:(0:Int)≤(i:Int)∧(i:Int)<(w.2.1.length:Int):=by omega
    have hm:w.2.1[i].1.length+w.2.1[i].2.1.length≤AU As w.2.1:=AX (f:=As) (AMx hc);rw[ALC c1.2,ALC c1,AH (by omega) (by omega),show((i:Int)+1)=((i+1:Nat):Int)by omega,Ah hc,ALC (by rw[An];omega),ALC (by rw[An];omega),drop_cons hc,ih (i+1) _ (by omega) (by omega) (by simp_all),ANi];rfl
   grind
 grind[EH,Rn,AY,Aa]
theorem Iw{α:Type}{f:α→Nat}{l m:List α}:AU f (l++m)=AU f l+AU f m:=by
 induction l with
 |nil=>simp[AU]
 |cons a l ih=>grind[AU]
theorem lI{n:Int}{x:A6}(h:x.2.2.1=true):Ep n x=x:=by
 obtain⟨a,b,d,e⟩:=x;simp only at h;subst h;rfl
def pkW(q:AQ×Bool):AEC×(List A6×Unit):=((((q.1.1,(),()),q.2,()),()),(q.1.2.1,()))
section
variable{c:B_} {w:AQ} (hc:c.1.length≤2^40) (hl:AU As w.2.1≤2^20)
include hc hl
theorem iH{d:AA7}(hd:d.length≤2^20):Gj c w d=some (((((B9 c w d).1.1,(),()),(B9 c w d).2.1,(B9 c w d).2.2,()),()),((B9 c w d).1.2.1,())):=by
 have l1:=AW (f:=As) (l:=w.2.1);unfold Gj B9;rw[show(c.1,c.2.1,())=c from rfl,show(w.1,w.2.1,())=w from rfl,F5 hc (by omega),Rr (by omega)];simp only[AD];cases DU c w with
 |false=>rfl
 |true=>
  simp only[ALW,AL5,AL6,APB];rw[ALC (by rw[An];omega),F5 hc (by
   grind[AU,As,Iw,List.length_nil])]
  grind
theorem iE{o n:Int}:Dh c w o n=some (pkW (RO c w o n)):=by
 have l1:=AW (f:=As) (l:=w.2.1);unfold Dh RO;rw[show(c.1,c.2.1,())=c from rfl,show(w.1,w.2.1,())=w from rfl,F5 hc (by omega),Rr (by omega),BQ,BQ];simp only[AD];rcases AK_ (DU c w)with hw|hw
 rotate_left
 ·rw[hw];rfl
 have wm:=Dw (Ig.1 hw).cfg;rw[hw,AH (x:=(c.1.length:Int)-1) (by omega) (by omega)];simp only[ALW,AL5,AL6,APB];rcases AK_ (BF o 1 (w.2.1.length:Int))with ho|ho
 rotate_left
 ·rw[ho];rfl
 have wB:=Ak.1 ho;rw[ho];cases BF n 0 ((c.1.length:Int)-1)with
 |false=>rfl
 |true=>
  have hi:(o-1).toNat<w.2.1.length:=by omega
  have hm:(w.2.1.getD (o-1).toNat MA).1.length+(w.2.1.getD (o-1).toNat MA).2.1.length≤AU As w.2.1:=AX (f:=As) (BU (d:=MA) hi);simp only[ALW,AL5,ANm];rw[AH (by omega) (by omega),ALC (by omega)]
  show cond (w.2.1.getD (o-1).toNat MA).2.2.1 _ _=_
  cases(w.2.1.getD (o-1).toNat MA).2.2.1 with
  |true=>rfl
  |false=>
   simp only[AL5,AQR,AQV];rw[ALC (by omega),show(w.2.1.getD (o-1).toNat ([],[],false,())).2.1=(w.2.1.getD (o-1).toNat MA).2.1 from rfl,Ku (by omega)];simp only[AD];rw[ALC (by omega)];have hg:∀x:A6,(w.2.1.set (o-1).toNat x).getD (o-1).toNat ([],[],false,())=x:=fun x=>M8 hi
   rw[ALC (by grind),hg,Dm hc (by
    grind[Sx,MA])]
   simp only[AD];rw[ALC (by grind),AUf];rfl
theorem dV{n:Int}:Nn c w n=some (pkW (B7 c w n)):=by
 have l1:=AW (f:=As) (l:=w.2.1);unfold Nn Q1 B7;rw[show(c.1,c.2.1,())=c from rfl,show(w.1,w.2.1,())=w from rfl,F5 hc (by omega),Rr (by omega)];simp only[AD];cases DU c w with
 |false=>rfl
 |true=>
  simp only[ALW,AL5,AL6,APB];have key:∀(k i:Nat),i≤w.2.1.length→w.2.1.length-i<k→Hj k n i 0 [] w.1 ((w.2.1.map (Ep n)).take i++w.2.1.drop i)=some (pkW ((w.1,w.2.1.map (Ep n),()),true)):=by
   intro k
   induction k with
   |zero=>omega
   |succ k ih=>
    intro i hi hk;have hlen:((w.2.1.map (Ep n)).take i++w.2.1.drop i).length=w.2.1.length:=Np hi;simp only[Hj,RI,AB,hlen];by_cases DG:i<w.2.1.length
    ·have c1:(0:Int)≤(i:Int)∧(i:Int)<(w.2.1.length:Int):=by omega
     have hm:w.2.1[i].1.length+w.2.1[i].2.1.length≤AU As w.2.1:=AX (f:=As) (AMx DG);have hg:((w.2.1.map (Ep n)).take i++w.2.1.drop i).getD ((i:Int).toNat) ([],[],false,())=w.2.1[i]:=Mw DG;rw[ALC c1.2];simp only[ALC c1,hg];rw[AH (by omega) (by omega),show((i:Int)+1)=((i+1:Nat):Int)by omega];rcases AK_ (w.2.1[i].2.2.1)with hd|hd
     ·rw[hd]
      simp only[ALW,AL5];grind[h_,lI]
     ·rw[hd]
      simp only[AQR,ANZ];rw[JI (by omega) (by simp)];grind[AD,Int.toNat_natCast,QE,Ep]
    ·rw[ALG (by omega),AMG (by omega)]
     have:i=w.2.1.length:=by omega
     subst this;rw[ANI,AQa (by simp)];rfl
  have:=key AY 0 (by omega) (Aa (by omega));simp_all
end
end Go.M
end
section
namespace Go.M
open Go.M.H (AK AO Ax Al AA Cp AN A6 AQ Aj Bc A7 Br Ai AU AW AX Ag Bb As Am B5 C3)
abbrev PkM:Type:=ADt×(List Int×List AK×List AAM×Unit)
def fL(q:Ax×Bool):PkM:=((((q.1.1,q.1.2.1,(),(),q.1.2.2.2.2.1,(),()),q.2,()),()),(q.1.2.2.1,q.1.2.2.2.1,q.1.2.2.2.2.2.1,()))
section
variable{m:Ax} (hm:B5 m≤2^20)
include hm
theorem HE:m.2.2.1.length≤2^20∧m.2.2.2.1.length≤2^20∧m.2.2.2.2.2.1.length≤2^20∧ ∀l∈m.2.2.2.2.2.1,l.length≤2^20:=by
 have l1:=AW (f:=Ag) (l:=m.2.2.2.1);have l2:=AW (f:=C3) (l:=m.2.2.2.2.2.1);have Xw:m.2.2.1.length+(AU Ag m.2.2.2.1+(AU C3 m.2.2.2.2.2.1+0))≤2^20:=by
  grind[B5]
 refine⟨by omega,by omega,by omega,fun l hl=> ?_⟩;have:l.length≤AU C3 m.2.2.2.2.2.1:=AX (f:=C3) hl;omega
theorem LY:EI m=some (((m.1,m.2.1,(),(),m.2.2.2.2.1,(),()),()),(m.2.2.1,m.2.2.2.1,m.2.2.2.2.2.1,())):=by
 obtain⟨h1,h2,h3,h4⟩:=HE hm;have key:∀(n i:Nat) (b:List AAM),i≤m.2.2.2.2.2.1.length→m.2.2.2.2.2.1.length-i<n→b.length≤i→
   Hh n i m.1 m.2.1 m.2.2.1 m.2.2.2.1 m.2.2.2.2.1 m.2.2.2.2.2.1 0 0 false [] [] [] m.1 m.2.1 m.2.2.2.2.1 m.2.2.1 m.2.2.2.1 b=some (((m.1,m.2.1,(),(),m.2.2.2.2.1,(),()),()),(m.2.2.1,m.2.2.2.1,b++m.2.2.2.2.2.1.drop i,())):=by
  intro n
  induction n with
  |zero=>omega
  |succ n ih=>
   intro i b hi hn hb;simp only[Hh,R0,AB];by_cases hc:i<m.2.2.2.2.2.1.length
   ·have c1:(0:Int)≤(i:Int)∧(i:Int)<(m.2.2.2.2.2.1.length:Int):=by omega
    have hq:=h4 _ (AMx hc);rw[ALC c1.2,ALC c1,AH (by omega) (by omega),show((i:Int)+1)=((i+1:Nat):Int)by omega,Ah hc,ALC (by rw[An];omega),ALC (by rw[An];omega),drop_cons hc,ih (i+1) _ (by omega) (by omega) (by simp_all),ANi];rfl
   grind
 unfold EI Ni;rw[ALC (by rw[An];omega),ALC (by rw[An];omega)];grind[AY,Aa]
end
theorem cZ{l s:AAM}(hl:l.length≤2^20)(hs:s.length≤2^20):KM l s=some (((),()),(l.filter s.contains,())):=by
 unfold KM;rw[JI (by omega) (by omega)];simp only[AD];have wD:(less l s).length≤l.length:=AQM _ _;rw[JI (by omega) (by omega)];grind[AD,less,List.filter_congr]
theorem dG{c:B_}{s l:AAM}(hc:c.1.length≤2^40)(hl:l.length≤2^20)(hs:s.length≤2^20):Kf c s l=some ((Qo c s l,()),()):=by
 unfold Kf Qo;rw[show(c.1,c.2.1,())=c from rfl,Dm (l:=s) hc (by omega),Gx (l:=l) hc (by omega),JI (l:=l) (m:=s) (by omega) (by omega),JI (l:=s) (m:=l) (by omega) (by omega)];simp only[AD];rcases AK_ (holds c s)with h|h
 rotate_left
 ·simp_all
 rw[h];cases Az c l with
 |false=>rfl
 |true=>
  simp only[ALW,AL5,ANm];have hn:Az c (less s l)=true:=RV _ (Uv h);by_cases ha:(less l s).length>0
  ·rw[show decide (((less l s).length:Int)>0)=true by simp_all]
   have:l.all s.contains=false:=by
    rw[AQy];grind[List.all_eq_true,less,List.filter_eq_nil_iff]
   grind
  ·rw[AQO (show¬((less l s).length:Int)>0 by omega)]
   have:l.all s.contains=true:=by
    grind[less,List.length_eq_zero_iff,List.filter_eq_nil_iff,List.all_eq_true]
   rw[this];simp only[AL5,ANm];rw[dP hn];simp only[AD,holds,hn,ANm];grind[a_,less,decide_eq_true,decide_eq_false]
section
variable{c:B_} {m:Ax} (hc:c.1.length≤2^40) (hm:B5 m≤2^20) (h:eo m.2.2.2.1)
include hc hm h
theorem cE{o n:Int}:EM c m o n=some (fL (SJ c m o n)):=by
 obtain⟨h1,h2,h3,h4⟩:=HE hm;unfold EM SJ;rw[show(c.1,c.2.1,())=c from rfl,show(m.1,m.2.1,m.2.2.1,m.2.2.2.1,m.2.2.2.2.1,m.2.2.2.2.2.1,())=m from rfl,JH hc (by omega) h,LY hm,BQ,BQ];simp only[AD];rcases AK_ (GG c m)with hw|hw
 rotate_left
 ·rw[hw];rfl
 have wm:=Dw (Gh.1 hw).cfg;rw[hw,AH (x:=(c.1.length:Int)-1) (by omega) (by omega)];simp only[ALW,AL5,AL6,APB];rcases AK_ (BF o 1 (m.2.2.2.2.2.1.length:Int))with ho|ho
 rotate_left
 ·rw[ho];rfl
 have wB:=Ak.1 ho;rw[ho];cases BF n 0 ((c.1.length:Int)-1)with
 |false=>rfl
 |true=>
  have hi:(o-1).toNat<m.2.2.2.2.2.1.length:=by omega
  have hq:=h4 _ (BU (d:=([]:AAM)) hi);simp only[ALW,AL5,ANm,AQV];rw[AH (by omega) (by omega),ALC (by omega),Ku (by omega)];simp only[AD];rw[ALC (by omega)];rfl
theorem gO{n:Int}:QJ c m n=some (fL (B4 c m n)):=by
 obtain⟨h1,h2,h3,h4⟩:=HE hm;unfold QJ TP B4;rw[show(c.1,c.2.1,())=c from rfl,show(m.1,m.2.1,m.2.2.1,m.2.2.2.1,m.2.2.2.2.1,m.2.2.2.2.2.1,())=m from rfl,JH hc (by omega) h,LY hm];simp only[AD];cases GG c m with
 |false=>rfl
 |true=>
  simp only[ALW,AL5,AL6,APB];have key:∀(k i:Nat),i≤m.2.2.2.2.2.1.length→m.2.2.2.2.2.1.length-i<k→JM k n i 0 0 false [] [] [] m.1 m.2.1 m.2.2.2.2.1 m.2.2.1 m.2.2.2.1 ((m.2.2.2.2.2.1.map (fun l=>less l [n])).take i++m.2.2.2.2.2.1.drop i)=
    some (fL ((m.1,m.2.1,m.2.2.1,m.2.2.2.1,m.2.2.2.2.1,m.2.2.2.2.2.1.map (fun l=>less l [n]),()),true)):=by
   intro k
   induction k with
   |zero=>omega
   |succ k ih=>
    intro i hi hk;have hlen:=Np (f:=fun l=>less l [n]) hi;simp only[JM,TA,AB,hlen];by_cases DG:i<m.2.2.2.2.2.1.length
    ·have c1:(0:Int)≤(i:Int)∧(i:Int)<(m.2.2.2.2.2.1.length:Int):=by omega
     have hq:=h4 _ (AMx DG);have hg:((m.2.2.2.2.2.1.map (fun l=>less l [n])).take i++m.2.2.2.2.2.1.drop i).getD ((i:Int).toNat) []=m.2.2.2.2.2.1[i]:=Mw DG;rw[ALC c1.2];simp only[ALC c1,hg];rw[AH (by omega) (by omega),show((i:Int)+1)=((i+1:Nat):Int)by omega,JI (by omega) (by simp)];simp only[AD];rw[AMp,QE DG rfl];grind
    ·rw[ALG (by omega),AMG (by omega)]
     have:i=m.2.2.2.2.2.1.length:=by omega
     subst this;rw[ANI,AQa (by simp)];rfl
  have:=key AY 0 (by omega) (Aa (by omega));simp_all
theorem jG:R_ c m=some ((TX c m,()),()):=by
 obtain⟨h1,h2,h3,h4⟩:=HE hm;unfold R_ Uq TX;rw[show(c.1,c.2.1,())=c from rfl,show(m.1,m.2.1,m.2.2.1,m.2.2.2.1,m.2.2.2.2.1,m.2.2.2.2.2.1,())=m from rfl,JH hc (by omega) h];simp only[AD];cases GG c m with
 |false=>rfl
 |true=>
  rcases AK_ m.2.2.2.2.1 with hp|hp
  rotate_left
  ·simp_all
  have key:∀(k i:Nat),i≤m.2.2.2.2.2.1.length→m.2.2.2.2.2.1.length-i<k→KT k i c.1 c.2.1 m.1 m.2.1 m.2.2.1 m.2.2.2.1 m.2.2.2.2.1 m.2.2.2.2.2.1=some (((m.2.2.2.2.2.1.drop i).all (holds c),()),()):=by
   intro k
   induction k with
   |zero=>omega
   |succ k ih=>
    intro i hi hk;simp only[KT,Uh,AB];by_cases DG:i<m.2.2.2.2.2.1.length
    ·have c1:(0:Int)≤(i:Int)∧(i:Int)<(m.2.2.2.2.2.1.length:Int):=by omega
     have hq:=h4 _ (AMx DG);rw[ALC c1.2,ALC c1,AH (by omega) (by omega),show((i:Int)+1)=((i+1:Nat):Int)by omega,Ah DG,drop_cons DG,show(c.1,c.2.1,())=c from rfl,Dm hc (by omega),ih (i+1) (by omega) (by omega)];simp only[AD,AQr];cases holds c m.2.2.2.2.2.1[i]<;>rfl
    grind
  have:=key AY 0 (by omega) (Aa (by omega));simp_all
omit hc h in
theorem Ys{o:Int}:Ec m o=some ((((EU m o).getD Di,(EU m o).isSome,()),()),()):=by
 obtain⟨h1,h2,h3,h4⟩:=HE hm;unfold Ec EU;rw[iT];simp only[AD];rw[UI (by omega)];simp only[AD];cases m.2.2.2.2.1 with
 |false=>rfl
 |true=>
  simp only[ALW,AL5,ANm];rcases AK_ (BF m.2.1 1 30)with he|he
  rotate_left
  ·rw[he];rfl
  rcases AK_ (BF o 1 60)with ho|ho
  rotate_left
  ·rw[he,ho];rfl
  have hp:Gi m.2.1 o=HB m.2.1 o:=by unfold Gi;rw[he,ho];rfl
  rw[he,ho,hp];simp only[AQp,ALW,AL5,ANm];by_cases hl:o≤m.2.2.2.2.2.1.length
  ·rw[show decide (o>(m.2.2.2.2.2.1.length:Int))=false by simpa using hl,show decide (o≤(m.2.2.2.2.2.1.length:Int))=true by simpa using hl]
   simp only[AL5,AQV];cases Od (HB m.2.1 o) m.2.2.2.1<;>rfl
  ·rw[show decide (o>(m.2.2.2.2.2.1.length:Int))=true by simp;omega,show decide (o≤(m.2.2.2.2.2.1.length:Int))=false by simp;omega]
   rfl
theorem Z4{s:AAM}(hs:s.length≤2^20):It c m s=some (fL (Ld c m s)):=by
 obtain⟨h1,h2,h3,h4⟩:=HE hm;unfold It VV Ld;rw[show(c.1,c.2.1,())=c from rfl,show(m.1,m.2.1,m.2.2.1,m.2.2.2.1,m.2.2.2.2.1,m.2.2.2.2.2.1,())=m from rfl,JH hc (by omega) h,LY hm];simp only[AD];rcases AK_ (GG c m)with FX|FX
 rotate_left
 ·rw[FX];rfl
 have hmo:=Gh.1 FX;rw[FX];rcases AK_ m.2.2.2.2.1 with hp|hp
 ·rw[hp]
  simp only[ALW,AL5,ANZ,AQi,AL6,APB,fL,hp]
 have hn:=hmo.n;rw[hp]at hn;have hw0:m.2.2.2.2.2.1=[]:=AT_.1 (by simp_all);rw[hp];simp only[ALW,AQR,AL5,AL6,APB,ANm];rw[cZ (by omega) hs];have wC:(m.2.2.1.filter s.contains).length≤m.2.2.1.length:=AQM _ _;simp only[AD];rw[dG hc (by omega) hs];simp only[AD];cases Qo c s (m.2.2.1.filter s.contains)with
 |false=>simp[fL,hp]
 |true=>
  simp only[ALW,AL5,AQV];have hlb:=HX (l:=m.2.2.2.1);have key:∀(k i:Nat),(i:Int)≤N4 m.2.2.2.1→(N4 m.2.2.2.1).toNat-i<k→Lt k i m.1 m.2.1 m.2.2.1 m.2.2.2.1 false m.2.2.2.2.2.1 0 0 false [] [] [] m.1 m.2.1 true m.2.2.1 m.2.2.2.1 (List.replicate i [])=
    some (fL ((m.1,m.2.1,m.2.2.1,m.2.2.2.1,true,List.replicate (N4 m.2.2.2.1).toNat [],()),true)):=by
   intro k
   induction k with
   |zero=>omega
   |succ k ih=>
    intro i hi hk;simp only[Lt,Vc];rw[show Q5 (m.1,m.2.1,m.2.2.1,m.2.2.2.1,false,m.2.2.2.2.2.1,())=some ((N4 m.2.2.2.1,()),())from dO (m:=(m.1,m.2.1,m.2.2.1,m.2.2.2.1,false,m.2.2.2.2.2.1,())) (by grind) h];simp only[AD,AB];by_cases DG:(i:Int)<N4 m.2.2.2.1
    ·rw[ALC DG,ALC (by rw[An,AQv];omega),AH (by omega) (by omega),show((i:Int)+1)=((i+1:Nat):Int)by omega,←List.replicate_succ']
     exact ih (i+1) (by omega) (by omega)
    ·rw[ALG DG]
     have:i=(N4 m.2.2.2.1).toNat:=by omega
     rw[this];rfl
  have:=key AY 0 (by omega) (Aa (by omega));simp_all
theorem Zk{n:Int}{l:List AK}(hl:l.length≤2^20)(TQ:eo l)(hw:AU Ag l≤2^20):I0 c m n l=some (fL (OS c m n l)):=by
 obtain⟨h1,h2,h3,h4⟩:=HE hm;unfold I0 Vu OS;rw[show(c.1,c.2.1,())=c from rfl,show(m.1,m.2.1,m.2.2.1,m.2.2.2.1,m.2.2.2.2.1,m.2.2.2.2.2.1,())=m from rfl,JH hc (by omega) h,LY hm];simp only[AD];rw[Ku (by omega)];simp only[AD];rcases AK_ (GG c m)with FX|FX
 rotate_left
 ·rw[FX];rfl
 rw[FX];simp only[ALW,AL5,AL6,APB];have ASG:∀(e:AK) (k:List AK),AU Ag (keep e k)≤AU Ag k+(1+Ag e):=by
  intro e k
  induction k with
  |nil=>simp[keep,AU]
  |cons x k ih=>
   grind[keep,AU,better]
 have key:∀(k i:Nat) (b:List AK),i≤l.length→l.length-i<k→b.length≤2^20+i→eo b→AU Ag b+AU Ag (l.drop i)≤2^21→
   Lo k l i c.1 c.2.1 m.1 m.2.1 m.2.2.1 m.2.2.2.1 m.2.2.2.2.1 m.2.2.2.2.2.1 0 0 false [] [] [] m.1 m.2.1 m.2.2.2.2.1 (NY n m.2.2.1) b m.2.2.2.2.2.1=
   some (fL (if !m.2.2.2.2.1&&GG c (m.1,m.2.1,NY n m.2.2.1,EA b ((l.drop i).filter fun e=>Ar e.1==m.2.1),m.2.2.2.2.1,m.2.2.2.2.2.1,())then
    ((m.1,m.2.1,NY n m.2.2.1,EA b ((l.drop i).filter fun e=>Ar e.1==m.2.1),m.2.2.2.2.1,m.2.2.2.2.2.1,()),true)else(m,false))):=by
  intro k
  induction k with
  |zero=>omega
  |succ k ih=>
   intro i b hi hk hb wz qA;simp only[Lo,Vz,AB];by_cases DG:i<l.length
   ·have c1:(0:Int)≤(i:Int)∧(i:Int)<(l.length:Int):=by omega
    rw[ALC c1.2];simp only[ALC c1];rw[AH (by omega) (by omega),show((i:Int)+1)=((i+1:Nat):Int)by omega,Ah DG,drop_cons DG,show(l[i].1,l[i].2.1,l[i].2.2.1,l[i].2.2.2.1,())=l[i]from rfl,D7 (TQ _ (AMx DG)),Xi (by omega)];rw[drop_cons DG]at qA;simp only[AU]at qA;simp only[AD,AP6];rcases AK_ (Ar l[i].1==m.2.1)with he|he
    ·simp only[he,ANZ,AQV,EA]
     have:=Wn (e:=l[i]) (l:=b);have hwk:=ASG l[i] b;exact ih (i+1) _ (by omega) (by omega) (by omega) (fun x hx=>by
      rcases dk hx with rfl|hx
      ·exact TQ _ (AMx DG)
      ·exact wz x hx) (by omega)
    grind
   ·rw[ALG (by omega),AMG (by omega),show(m.1,m.2.1,m.2.2.1,m.2.2.2.1,m.2.2.2.2.1,m.2.2.2.2.2.1,())=m from rfl,show(c.1,c.2.1,())=c from rfl,LY hm]
    simp only[ARq,EA];rcases AK_ m.2.2.2.2.1 with hp|hp
    ·grind[fL]
    rw[AMG (by omega)]at qA;simp only[AU]at qA;have wR:=Sx (n:=n) (l:=m.2.2.1);have hb2:=AW (f:=Ag) (l:=b);rw[JH (m:=(m.1,m.2.1,NY n m.2.2.1,b,m.2.2.2.2.1,m.2.2.2.2.2.1,())) hc (by
     grind[B5]) wz]
    simp only[AD];rw[hp];simp only[AL5,AQR,ANm];grind[GG,NY,fL]
 have hsw:AU Ag m.2.2.2.1≤2^20:=by
  grind[B5]
 have:=key AY 0 m.2.2.2.1 (by omega) (Aa (by omega)) (by omega) h (by grind);simp_all
end
end Go.M
end
section
namespace Go.M
open Go.M.H (AK AO Ax Al AA Cp AN A6 AQ Aj Bc A7 Br Ai B5 AU AW AX Ag Bb)
theorem Au{α:Type}{b:Bool}{x y:α}:cond (!b) x y=cond b y x:=by simp_all
theorem Co{α:Type}{a b:Int}{x y:α}:cond (a !=b) x y=if a=b then y else x:=by
 simp_all
theorem C9{α:Type}{a b:Int}{x y:α}:cond (a==b) x y=if a=b then x else y:=by
 simp_all
theorem jb{c:B_}{l:List A7}(hc:c.1.length≤2^40)(hl:l.length≤2^20):
  ZT c l=some ((((),Az c (l.map fun a=>a.1),()),()),(l.map (fun a=>a.1),())):=by
 have key:∀(n i:Nat) (b:AAM),i≤l.length→l.length-i<n→b.length=i→
   Lu n l i c.1 c.2.1 b=some ((((),Az c (b++(l.drop i).map fun a=>a.1),()),()),(b++(l.drop i).map (fun a=>a.1),())):=by
  intro n
  induction n with
  |zero=>omega
  |succ n ih=>
   intro i b hi h hb;simp only[Lu,Vf,AB];by_cases cR:i<l.length
   ·have c1:(0:Int)≤(i:Int)∧(i:Int)<(l.length:Int):=by omega
    have c2:b.length+1≤DA:=by rw[An];omega
    rw[ALC c1.2,ALC c1,ALC c2,AH (by omega) (by omega),show((i:Int)+1)=((i+1:Nat):Int)by omega,Ah cR,ih (i+1) _ (by omega) (by omega) (by simp_all),drop_cons cR];grind
   ·rw[ALG (by omega),AMG (by omega),AS4,ANI,show(c.1,c.2.1,())=c from rfl,Gx hc (by omega)]
    rfl
 have:=key AY 0 [] (by omega) (Aa (by omega)) rfl;rw[show((0:Nat):Int)=0 from rfl,AOu,APq]at this;exact this
theorem VO{r:Aj}(h:r.2.2.1.length≤2^30):CF r=some (((r.1,r.2.1,(),()),()),(r.2.2.1,())):=by
 unfold CF;rw[ALC (by rw[An];omega)]
theorem cH{r:Aj}{e:Bc}{x y:Int}(h:r.2.2.1.length≤2^30):Ip r e x y=some (((x,y,(),()),()),(r.2.2.1++[e],())):=by
 unfold Ip;rw[show(r.1,r.2.1,r.2.2.1,())=r from rfl,VO h];simp only[AD];rw[ALC (by rw[An];omega)]
theorem mL{s:AAM}{p:Int}{l:List A7}(hs:s.length≤2^20)(hl:l.length≤2^20)(TQ:∀a∈l,Ce a.2.2.1):
  Mg s p l=some ((Qa p (HG s p none l),()),()):=by
 have key:∀(n i:Nat) (b:Option AK),i≤l.length→l.length-i<n→
   Mv n s p l b.isSome i 0 0 [] (b.getD Di).1 (b.getD Di).2.1 (b.getD Di).2.2.1 (b.getD Di).2.2.2.1=some ((Qa p (HG s p b (l.drop i)),()),()):=by
  intro n
  induction n with
  |zero=>omega
  |succ n ih=>
   intro i b hi h;simp only[Mv,Wi,AB,Au];by_cases cR:i<l.length
   ·have c1:(0:Int)≤(i:Int)∧(i:Int)<(l.length:Int):=by omega
    rw[ALC c1.2,ALC c1,AH (by omega) (by omega),show((i:Int)+1)=((i+1:Nat):Int)by omega,Ah cR,drop_cons cR];have ih':=fun b=>ih (i+1) b (by omega) (by omega)
    simp only[ih'];rw[KS (by omega),show(l[i].2.2.1,l[i].2.2.2.1,l[i].2.2.2.2.1,l[i].2.2.2.2.2.1,())=WL l[i]from rfl];rw[P7 (e:=WL l[i]) (TQ _ (AMx cR))];simp only[AD,HG];cases h1:l[i].2.1 with
    |false=>simp
    |true=>
     cases h2:s.contains l[i].1 with
     |false=>simp
     |true=>
      cases h3:FZ (WL l[i])with
      |false=>simp
      |true=>
       simp only[ANZ,ANm];by_cases h4:l[i].2.2.1=p
       ·rw[Co,ALC h4,ALC (by show((WL l[i]).1==p)=true;rw[AQb];exact h4)]
        cases b with
        |none=>
         simp only[AQh,AL5,Xj,AD,Option.getD_none];have:=ih' (some (WL l[i]));simp only[AQe,AQg]at this;have hb:better (WL l[i]) (WL l[i])=WL l[i]:=by unfold better;simp_all
         simp_all
        |some x=>
         simp only[AQe,ANZ,AQg];rw[show(x.1,x.2.1,x.2.2.1,x.2.2.2.1,())=x from rfl];grind[Xj,AD,better,WL,Option.isSome_some]
       ·rw[Co,ALG h4,ALG (by show¬((WL l[i]).1==p)=true;rw[AQb];exact h4)]
   ·rw[ALG (by omega),AMG (by omega)]
    simp only[HG];cases b with
    |none=>rfl
    |some x=>
     simp only[AQe,ANZ,AQg,Qa];grind
 exact key AY 0 none (by omega) (Aa (by omega))
theorem i_{x:Int}:0≤D4 x∧D4 x≤60:=by
 cases h:Ba x with
 |true=>have:=(Gw h).2.1;omega
 |false=>unfold D4;simp_all
def xG(q:Aj×Int):X4:=((((q.1.1,q.1.2.1,(),()),q.2,()),()),(q.1.2.2.1,()))
theorem fl{c:B_}{g:AN}{sure:Int}{r:Aj}{l:List A7}(hc:c.1.length≤2^20)(hg:AU Bb g.1≤2^20)(ht:Ce g.2.1)(hl:l.length≤2^20)(TQ:∀a∈l,Ce a.2.2.1):
  QG c g sure r l=some (xG (Ck c g sure r l)):=by
 unfold QG Ck;rw[show(c.1,c.2.1,())=c from rfl,show(g.1,g.2.1,())=g from rfl,show(r.1,r.2.1,r.2.2.1,())=r from rfl,jb (by omega) hl,Px (by omega) (by omega) ht,PF];simp only[AD,Au,AB];cases h1:Mr c g with
 |false=>rfl
 |true=>
 cases h2:Yt r with
 |false=>rfl
 |true=>
 cases h3:Az c (l.map fun a=>a.1)with
 |false=>rfl
 |true=>
 have hr:=TY.1 h2;have hre:=hr.ep;have hro:=hr.off;have hrn:=hr.n;have hR:=J5.1 h1;have hRn:=hR.n;simp only[ANZ,ANm,ALW,AL6,APB];rw[VO (by omega)];simp only[AD];by_cases h4:r.1>(g.1.length:Int)
 ·rw[ALC h4,APl h4];rfl
 rw[ALG h4,AQO h4];by_cases h5:r.2.2.1.length=120
 ·rw[show(((r.2.2.1.length:Nat):Int)==120)=true by simp_all,APl h5];rfl
 rw[show(((r.2.2.1.length:Nat):Int)==120)=false by grind,AQO h5];simp only[AL5,AQW,AL6,APB];rw[AH (x:=r.1-1) (by omega) (by omega),ALC (by omega),Ff (by omega) (by omega),D7 ht,ZA ht];simp only[AD];have hto:=i_ (x:=g.2.1);rw[AH (x:=D4 g.2.1+1) (by omega) (by omega),AH (x:=r.1+1) (by omega) (by omega),AH (x:=r.2.1+1) (by omega) (by omega)];simp only[cH (r:=r) (by omega),AD];by_cases h6:g.2.1≥HB r.1 r.2.1
 ·rw[ALC h6,ALC h6];rfl
 rw[ALG h6,ALG h6]
 generalize ABR:g.1.getD (r.1-1).toNat Gt=era
 have Hw:(r.1-1).toNat<g.1.length:=by omega
 have Uj:era.1.length≤2^20:=by
  have h7:=AX (f:=Bb) (BU (d:=Gt) Hw);rw[ABR]at h7;have:Bb era=era.1.length:=rfl;omega
 have tail:((KM (l.map fun a=>a.1) era.1).bind fun L9=>
   (Kf c era.1 L9.2.1).bind fun lA=>
   cond (lA.1.1)
    ((Mg era.1 (HB r.1 r.2.1) l).bind fun ZX=>
    some ((((r.1,r.2.1+1,(),()),0,()),()),(r.2.2.1++[(ZX.1.1.1,ZX.1.1.2.1,ZX.1.1.2.2.1,())],())))
    (some ((((r.1,r.2.1,(),()),3,()),()),(r.2.2.1,()))))=
   some (xG (if !Qo c era.1 ((l.map fun a=>a.1).filter era.1.contains)then(r,3)else
    ((r.1,r.2.1+1,r.2.2.1++[Qa (HB r.1 r.2.1) (HG era.1 (HB r.1 r.2.1) none l)],()),0))):=by
  have hf:((l.map fun a=>a.1).filter era.1.contains).length≤2^20:=AQL (AQM _ _) (by simp_all);rw[cZ (by simp_all) Uj,mL Uj hl TQ];simp only[AD];rw[dG (by omega) hf Uj];simp only[AD,cH (r:=r) (by omega)];cases Qo c era.1 ((l.map fun a=>a.1).filter era.1.contains)<;>rfl
 have hd:g.1.getD (r.1-1).toNat ([],false,0,())=era:=ABR;rw[hd];simp only[tail];cases h7:era.2.1 with
 |true=>
  simp only[ANZ,AL5,ANm,ALW,AQi,AQW,ANR];by_cases h8:r.2.1>era.2.2.1
  ·rw[ALC h8,ALC h8];rfl
  rw[ALG h8,ALG h8];by_cases h9:r.2.1>60
  ·rw[ALC h9,ALC h9];rfl
  grind
 |false=>
  simp only[ANZ,AL5,ANm,AQR,AQi,AL6,APB,AQd,ANR];by_cases h8:r.2.1>sure
  ·rw[ALC h8,ALC (.inl h8)];rfl
  rw[ALG h8];by_cases h9:r.2.1>60
  ·rw[ALC h9,ALC (.inr h9)];rfl
  grind
end Go.M
end
section
set_option maxRecDepth 8000
namespace Go.M
open Go.M.H (AK AO Ax Al AA Cp AN A6 AQ Aj Bc A7 Br Ai B5 AU AW AX Ag Bb As Am)
theorem py{c:B_}{l:AAM}(hc:c.1.length≤2^20)(hl:l.length≤2^20):X9 c l=some ((Az c l&& !holds c l,()),()):=by
 unfold X9;rw[show(c.1,c.2.1,())=c from rfl,Gx (by omega) (by omega),Dm (by omega) (by omega)];grind
theorem kK{ss:List AO}(hs:ss.length≤1024)(h:∀s∈ss,s.1.length≤1024):ZV ss=some (((),()),(GY [] ss,())):=by
 have key:∀n:Nat,
   (∀(i:Nat) (b:List AK),i≤ss.length→(ss.length-i)*1026+1≤n→b.length≤i*1024→
    JG n ss i b=some (((),()),(GY b (ss.drop i),())))∧
   (∀(i j:Nat) (b:List AK),(hi:i<ss.length)→j≤ss[i].1.length→(ss.length-i-1)*1026+1+(ss[i].1.length-j)+1≤n→b.length≤i*1024+j→
    I3 n ss i j b=some (((),()),(GY (EA b (ss[i].1.drop j)) (ss.drop (i+1)),()))):=by
  intro n
  induction n with
  |zero=>simp_all
  |succ n ih=>
   refine⟨fun i b hi h' hb=> ?_,fun i j b hi hj h' hb=> ?_⟩
   ·simp only[JG,Vh,AB]
    by_cases hc:i<ss.length
    ·rw[ALC (by omega)]
     have hm:=h _ (AMx hc);have e1:(ss.length-i)*1026=(ss.length-i-1)*1026+1026:=by
      omega
     have:=ih.2 i 0 b hc (by omega) (by omega) (by omega);rw[show((0:Nat):Int)=0 from rfl,AOu]at this;rw[this,drop_cons hc];rfl
    ·rw[ALG (by omega),AMG (by omega)]
     rfl
   ·have hm:=h _ (AMx hi)
    simp only[I3,VX,AB];have c1:(0:Int)≤(i:Int)∧(i:Int)<(ss.length:Int):=by omega
    rw[ALC c1,Ah hi];simp only[ALC c1];have hbb:i*1024≤2^20:=by
     omega
    by_cases hc:j<ss[i].1.length
    ·have c2:(0:Int)≤(j:Int)∧(j:Int)<(ss[i].1.length:Int):=by omega
     rw[ALC c2.2,ALC c2,Ah hc,show(ss[i].1[j].1,ss[i].1[j].2.1,ss[i].1[j].2.2.1,ss[i].1[j].2.2.2.1,())=ss[i].1[j]from rfl,Xi (by omega)];simp only[AD];rw[AH (by omega) (by omega),show((j:Int)+1)=((j+1:Nat):Int)by omega,drop_cons hc];have hk:=Wn (e:=ss[i].1[j]) (l:=b);exact ih.2 i (j+1) _ hi (by omega) (by omega) (by omega)
    ·rw[ALG (by omega),AH (by omega) (by omega),show((i:Int)+1)=((i+1:Nat):Int)by omega,AMG (by omega)]
     exact ih.1 (i+1) b (by omega) (by grind) (by omega)
 have hf:(ss.length-0)*1026+1≤AY:=by
  have:ss.length*1026≤1024*1026:=AOr _ hs;exact AQ3 (Aa (by omega))
 exact(key AY).1 0 [] (by omega) hf (by simp)
theorem xg(e:AK):∀l:List AK,AU Ag (keep e l)≤AU Ag l+(1+Ag e)
 |[]=>by simp[keep,AU]
 |x::l=>by
  have:=xg e l;grind[keep,better,AU]
theorem uP:∀{l k:List AK},AU Ag (EA k l)≤AU Ag k+AU Ag l
 |[],k=>by simp[EA,AU]
 |e::l,k=>by
  have h1:=uP (l:=l) (k:=keep e k);grind[xg,EA,AU]
theorem w4:∀{l:List AO} {k:List AK},AU Ag (GY k l)≤AU Ag k+AU Ai l
 |[],k=>by simp[GY,AU]
 |s::l,k=>by
  have h1:=w4 (l:=l) (k:=EA k s.1);have h2:=uP (l:=s.1) (k:=k);have:Ai s=AU Ag s.1+AU Ag s.2.1:=rfl;grind[GY,AU]
theorem jk{y:AK}:∀{l:List AO} {k:List AK},y∈GY k l→y∈k∨ ∃s∈l,y∈s.1
 |[],k,h=> .inl h
 |s::l,k,h=>by
  rcases jk (l:=l) h with h|⟨t,ht,h⟩
  all_goals grind[dI]
def uN(b:Bool)(x:AO):AO×Bool:=if b then(x,true)else(D9,false)
def pkF(ss:List AO)(q:AO×Bool):Oe:=(((((),(),q.1.2.2.1,()),q.2,()),()),(ss,q.1.1,q.1.2.1,()))
theorem sK{c:B_}{ss:List AO}{lost:AAM}{n upto:Int}(hc:c.1.length≤2^20)(hs:ss.length≤1024)(hn:∀s∈ss,s.1.length≤1024)(hw:AU Ai ss≤2^24)(TQ:∀s∈ss,iS s)(hl:lost.length≤2^20):
  eW c lost n upto ss=some (pkF ss (Z5 c ss lost n upto)):=by
 have hfs:Z5 c ss lost n upto=uN (Fi c&&(decide (ss.length=c.1.length)&&(Az c lost&&(!holds c lost&&(lost.contains n&&((others lost 0 ss).all Bu&&Bu (GY [] (others lost 0 ss),[],upto,()))))))) (GY [] (others lost 0 ss),[],upto,()):=rfl;rw[hfs];unfold eW bd;rw[show(c.1,c.2.1,())=c from rfl,HS (by omega),py hc hl,KS (by omega)];simp only[AD,Au,Co];have k11:∀(k i:Nat) (o:List AO),(∀s∈o,s∈ss)→o.length≤ss.length→AU Ai o≤2^24→i≤o.length→o.length-i<k→
   ND k upto i ss 0 [] [] 0 [] [] o=some (pkF ss (uN ((o.drop i).all Bu&&Bu (GY [] o,[],upto,())) (GY [] o,[],upto,()))):=by
  intro k
  induction k with
  |zero=>omega
  |succ k ih=>
   intro i o ho hol how hi h;simp only[ND,aD,AB,Au];by_cases DG:i<o.length
   ·have c1:(0:Int)≤(i:Int)∧(i:Int)<(o.length:Int):=by omega
    have hm:=ho _ (AMx DG);have hws:=AX (f:=Ai) hm;rw[ALC c1.2,ALC c1,Ah DG,show(o[i].1,o[i].2.1,o[i].2.2.1,())=o[i]from rfl,Fb (by omega) (TQ _ hm),AH (by omega) (by omega),show((i:Int)+1)=((i+1:Nat):Int)by omega,ih (i+1) o ho hol how (by omega) (by omega),drop_cons DG];simp only[AD,AQr];rcases AK_ (Bu o[i])with hb|hb<;>rw[hb]
    all_goals rfl
   ·rw[ALG (by omega),AMG (by omega),kK (by omega) (fun s hs=>hn s (ho s hs))]
    have hu:=w4 (l:=o) (k:=[]);simp only[AU]at hu;simp only[AD];rw[Fb (s:=(GY [] o,[],upto,())) (by show AU Ag (GY [] o)+AU Ag []≤_;grind[AU]) ⟨fun e he=>by
     rcases jk he with he|⟨t,ht,he⟩
     ·simp_all
     ·exact(TQ t (ho t ht)).1 e he,fun e he=>by simp_all⟩]
    simp only[AD,List.all_nil,ANm];rcases AK_ (Bu (GY [] o,[],upto,()))with hb|hb<;>rw[hb]<;>rfl
 have k6:∀(k i:Nat) (o:List AO),(∀s∈o,s∈ss)→i≤ss.length→(ss.length-i)+ss.length+2≤k→o.length≤i→AU Ai o+AU Ai (ss.drop i)≤2^24→
   O0 k lost upto i ss 0 [] [] 0 [] [] o=some (pkF ss (uN ((o++others lost i (ss.drop i)).all Bu&&Bu (GY [] (o++others lost i (ss.drop i)),[],upto,())) (GY [] (o++others lost i (ss.drop i)),[],upto,()))):=by
  intro k
  induction k with
  |zero=>omega
  |succ k ih=>
   intro i o ho hi h hol how;simp only[O0,bc,AB,Au];by_cases DG:i<ss.length
   ·have c1:(0:Int)≤(i:Int)∧(i:Int)<(ss.length:Int):=by omega
    have c2:o.length+1≤DA:=by rw[An];omega
    rw[drop_cons DG]at how;simp only[AU]at how;have hws:Ai ss[i]+(AU Ag []+0)=Ai ss[i]:=rfl;rw[ALC c1.2,KS (by omega),ALC c1,ALC c2,Ah DG,show(ss[i].1,ss[i].2.1,ss[i].2.2.1,())=ss[i]from rfl,AH (by omega) (by omega),show((i:Int)+1)=((i+1:Nat):Int)by omega];simp only[AD];rw[ih (i+1) o ho (by omega) (by omega) (by omega) (by omega)];rw[ih (i+1) (o++[ss[i]]) (fun s hs=>by
     grind) (by omega) (by omega) (by simp_all) (by grind[Iw,AU])]
    rw[drop_cons DG];simp only[others];grind
   ·have:=k11 k 0 o ho (by omega) (by omega) (by omega) (by omega)
    rw[show((0:Nat):Int)=0 from rfl,AOu]at this;rw[ALG (by omega),this,AMG (by omega)];simp only[others,ANI]
 have:=k6 AY 0 [] (by simp) (by omega) (AQ3 (Aa (by omega))) (by simp) (by grind[AU]);rw[show((0:Nat):Int)=0 from rfl,AOu,APq]at this;rw[this];rcases AK_ (Fi c)with h1|h1
 rotate_left
 ·rw[h1];rfl
 by_cases h2:ss.length=c.1.length
 rotate_left
 ·rw[ALG (by omega),h1,AQO h2];rfl
 rw[ALC (by omega),h1,APl h2];rcases AK_ (Az c lost)with h3|h3
 rotate_left
 ·rw[h3];rfl
 rw[h3];rcases AK_ (holds c lost)with h4|h4
 ·rw[h4];rfl
 rw[h4];rcases AK_ (lost.contains n)with h5|h5
 rotate_left
 ·rw[h5];rfl
 simp_all
end Go.M
end
section
namespace Go.M
open Go.M.H (AK AO Ax Al AA Cp AN A6 AQ Aj Bc A7 Br)
theorem pe{α:Type}{l:List α}{i j:Nat}{x d:α}(hi:i<l.length):(l.set i x).getD j d=if i=j then x else l.getD j d:=by
 grind
theorem Pn{w:AA}{n:Int}(h:Aw w n=0):0≤n∧n<w.BG.length∧n∉w.lost:=by
 unfold Aw at h;split at h
 ·omega
 rename_i h1;simp only[APR,APd,Ak]at h1;grind
theorem oY{s x:Al}:∀{l:List Al},x∈dD s l↔x=s∨x∈l
 |[]=>by simp[dD]
 |y::l=>by
  simp only[dD];split
  ·simp
  ·simp only[APr,oY (l:=l)]
   grind
theorem ue{s:Al}:∀{l:List Al},(dD s l).length=l.length+1
 |[]=>rfl
 |y::l=>by
  simp only[dD];split
  ·rfl
  ·simp only[AN2,ue (l:=l)]
theorem uS{s:Al}:∀{l:List Al},VW (fun s:Al=>s.1) l→(∀x∈l,x.1≠s.1)→VW (fun s:Al=>s.1) (dD s l)
 |[],_,_=>by simp[dD,VW]
 |y::l,h,hs=>by
  have h':=h;simp only[VW,AQT]at h;simp only[dD];split
  ·rename_i hy
   simp only[VW,AQT,APr];grind
  ·rename_i hy
   simp only[VW,AQT];refine⟨fun a ha=> ?_,uS h.2 fun x hx=>hs x (by simp[hx])⟩;rcases oY.1 ha with rfl|ha
   all_goals grind
section
variable{w:AA} (h:On w)
include h
theorem On.node{n:Int}(hn:Aw w n=0):(0≤n∧n<(Ac w).1.length)∧n.toNat<w.BG.length∧n∉w.lost:=by
 obtain⟨a,b,c⟩:=Pn hn;have:=h.qD;exact⟨⟨a,by show n<(w.1.length:Int);omega⟩,by omega,c⟩
theorem On.o9{n:Int}(hn:Aw w n=0){s:AO}(hs:bQ s):On (w.CD (w.BG.set n.toNat s)):=by
 obtain⟨h1,h2,h3⟩:=h.node hn;refine⟨h.cfg,by(try simp only[H.AA.BG,H.AA.lost,H.AA.A8,H.AA.trim,H.AA.AR,H.AA.CB,H.AA.Af,H.AA.CK,H.AA.IL,H.AA.CD,H.AA.Ez,H.AA.Ik,H.AA.BZ,H.AA.Cq,H.AA.C2,H.AA.DT,H.AA.FM,CJ,Ac]at*);simpa using h.qD,h.lost,h.IL,fun i hi=> ?_,h.mC,h.qu,h.vK,h.AR,h.ei,h.CB,h.mS,h.Af,h.Q3,h.CK,h.aT⟩
 (try simp only[H.AA.BG,H.AA.lost,H.AA.A8,H.AA.trim,H.AA.AR,H.AA.CB,H.AA.Af,H.AA.CK,H.AA.IL,H.AA.CD,H.AA.Ez,H.AA.Ik,H.AA.BZ,H.AA.Cq,H.AA.C2,H.AA.DT,H.AA.FM,CJ,Ac]at*);simp only[AQk]at hi
 simp only[pe h2];split
 ·grind
 ·exact h.BG i hi
theorem On.store{n:Int}(hn:Aw w n=0):bQ (storeAt w n):=(h.BG _ (h.node hn).2.1).1
theorem hU{n:Int}{q:AO×Bool}(hn:Aw w n=0)(hs:q.2=true→bQ q.1)(e:(putAt w n q).2=0):On (putAt w n q).1:=by
 unfold putAt at*;split at e
 ·rename_i hq
  rw[ALC hq];exact h.o9 hn (hs hq)
 omega
theorem AHL{a:Int}(e:(We w a).2=0):On (We w a).1:=by
 unfold We at*;split at e
 ·omega
 rename_i h4;rw[ALG h4];simp only at e⊢;split at e
 ·omega
 rename_i hq;rw[ALG hq];simp only[APR,APd]at hq;obtain⟨_,r1,r2,r3,r4,r5⟩:=pf hq;rw[r2]at r1;rw[r2,r3];have hnw:=h.qu;have hl:((CJ w).1++[(BH a,false,0,())]).length=w.A8.length+1:=by simp[CJ]
 refine⟨h.cfg,h.qD,h.lost,h.IL,h.BG,r1,?_,by(try simp only[H.AA.BG,H.AA.lost,H.AA.A8,H.AA.trim,H.AA.AR,H.AA.CB,H.AA.Af,H.AA.CK,H.AA.IL,H.AA.CD,H.AA.Ez,H.AA.Ik,H.AA.BZ,H.AA.Cq,H.AA.C2,H.AA.DT,H.AA.FM,CJ,Ac]at*);simp,fun x hx=> ?_,?_,fun m hm=>by grind,h.mS,h.Af,h.Q3,fun s hs=> ?_,h.aT⟩
 ·grind
 ·replace hx:x∈w.AR++[((w.A8.length:Int)+1,[],())]:=hx
  simp only[AOO,AP_]at hx;have Abk:w.A8.length<30:=r5;have kV:(((CJ w).1++[(BH a,false,0,())]).length:Int)=(w.A8.length:Int)+1:=by omega
  show bF (Ac w) x∧x.1≤(((CJ w).1++[(BH a,false,0,())]).length:Int)
  rw[kV];rcases hx with hx|rfl
  ·have:=h.AR x hx
   grind
  ·exact⟨⟨h.cfg,by omega,by simp,by simp,by simp[RF]⟩,by omega⟩
 ·show VW (fun x:AQ=>x.1) (w.AR++[((w.A8.length:Int)+1,[],())])
  simp only[VW,List.pairwise_append,AQT,List.Pairwise.nil,AP_,AQc];refine⟨h.ei,by simp,fun x hx y hy=> ?_⟩;subst hy;have:=(h.AR x hx).2;omega
 ·have:=h.CK s hs
  grind
end
section
variable{w:AA} (h:On w)
include h
theorem AOg{a:Int}{d:AA7}(hd:d.length≤40)(e:(doAdd w a d).2=0):On (doAdd w a d).1:=by
 unfold doAdd at*;split at e
 ·omega
 rename_i ha;rw[ALG ha];simp only[APR,APd,Ak]at ha;simp only at e⊢;split at e
 ·omega
 rename_i hq;rw[ALG hq];simp only[AQd,not_or,APR,APd,AQ4,List.any_eq_false,AQb]at hq;obtain⟨hq,h120,hno⟩:=hq;have hi:a.toNat<w.AR.length:=by omega
 have hx:=h.AR _ (BU (d:=CM) hi);obtain⟨_,r1,r2,r3⟩:=bP hq;rw[r2]at r1;rw[r2,r3];rw[r3]at hno;have hnn:=r1.n;simp only[AOc,AN2,APp]at hnn;obtain⟨p1,p2,p3⟩:=JE (e:=(w.AR.getD a.toNat CM).1) (o:=((w.AR.getD a.toNat CM).2.1.length:Int)+1) hx.1.ep (by omega);have hns:=h.Q3;refine⟨h.cfg,h.qD,h.lost,h.IL,h.BG,h.mC,by(try simp only[H.AA.BG,H.AA.lost,H.AA.A8,H.AA.trim,H.AA.AR,H.AA.CB,H.AA.Af,H.AA.CK,H.AA.IL,H.AA.CD,H.AA.Ez,H.AA.Ik,H.AA.BZ,H.AA.Cq,H.AA.C2,H.AA.DT,H.AA.FM,CJ,Ac]at*);simpa using h.qu,h.vK,fun x hx' => ?_,?_,h.CB,h.mS,h.Af,by grind[ue],fun s hs=> ?_,uS h.aT fun x hx=>by grind⟩
 ·rcases AQX hx' with hx'|rfl
  ·exact h.AR x hx'
  ·exact⟨r1,hx.2⟩
 ·have:=h.ei
  show VW (fun x:AQ=>x.1) (w.AR.set a.toNat ((w.AR.getD a.toNat CM).1,(w.AR.getD a.toNat CM).2.1++[(d,[],false,())],()))
  simp only[VW,AT8,List.getElem_set,AQk]at this⊢;grind
 ·rcases oY.1 hs with rfl|hs
  ·simp_all
  ·exact h.CK s hs
theorem ADF{a b n:Int}(e:(Sy w a b n).2=0):On (Sy w a b n).1:=by
 unfold Sy at*;split at e
 ·omega
 rename_i h1;rw[ALG h1];simp only at e⊢;split at e
 ·omega
 rename_i h2;rw[ALG h2];split at e
 ·omega
 rename_i h3;rw[ALG h3];split at e
 ·omega
 rename_i h4;rw[ALG h4];grind[hU,dQ]
theorem j_{all:Bool}{s:AO}{n:Int}(hn:0≤n∧n<(Ac w).1.length):∀{ws:List AQ} {ss:List Al},
  (HQ all (Ac w) s w.A8 n ws ss).1=ws.map (fun x=>if dE s w.A8 n x then(x.1,Bv (Ac w) s x.1 n 1 x.2.1,())else x)∧
  (HQ all (Ac w) s w.A8 n ws ss).2.map (fun x=>(x.1,x.2.1))=ss.map (fun x=>(x.1,x.2.1))
 |[],ss=>⟨rfl,rfl⟩
 |x::ws,ss=>by
  simp only[HQ,ARf];split
  ·rename_i ht
   obtain⟨h1,h2⟩:=j_ hn (ws:=ws) (ss:=ss.map (S_ all x.1 x.2.1 (Bv (Ac w) s x.1 n 1 x.2.1)));rw[h1,h2];exact⟨rfl,by rw[ARt];rfl⟩
  ·obtain⟨h1,h2⟩:=j_ hn (ws:=ws) (ss:=ss)
   rw[h1,h2];simp_all
theorem AEA{all:Bool}{n:Int}(e:(Xa all w n).2=0):On (Xa all w n).1:=by
 unfold Xa at*;split at e
 ·omega
 rename_i h1;rw[ALG h1];simp only at e⊢;split at e
 ·omega
 rename_i h2;rw[ALG h2];simp only[ne_eq,ATS]at h1;simp only[APR,APd]at h2;have hn:=(h.node h1).1;obtain⟨s1,s2,s3⟩:=NF h2;have hw:=h.o9 h1 s2;obtain⟨t1,t2⟩:=j_ h (all:=all) (s:=(B6 (storeAt w n)).1) hn (ws:=w.AR) (ss:=w.CK);have ms:∀x∈(HQ all (Ac w) (B6 (storeAt w n)).1 w.A8 n w.AR w.CK).2,∃y∈w.CK,x.1=y.1∧x.2.1=y.2.1:=fun x hx=>by
  have:(x.1,x.2.1)∈w.CK.map (fun x=>(x.1,x.2.1)):=by grind
  simp_all
 have ml:(HQ all (Ac w) (B6 (storeAt w n)).1 w.A8 n w.AR w.CK).2.length=w.CK.length:=by
  have:=congrArg List.length t2;grind
 have ma:VW (fun s:Al=>s.1) (HQ all (Ac w) (B6 (storeAt w n)).1 w.A8 n w.AR w.CK).2:=by
  have h1:(HQ all (Ac w) (B6 (storeAt w n)).1 w.A8 n w.AR w.CK).2.map (fun x=>x.1)=w.CK.map (fun x=>x.1):=by
   have:=congrArg (List.map Prod.fst) t2;rw[ARt,ARt]at this;exact this
  have h2:(w.CK.map (fun x:Al=>x.1)).Pairwise (· < ·):=ARr.2 h.aT;grind
 refine⟨h.cfg,hw.qD,h.lost,h.IL,hw.BG,h.mC,by(try simp only[H.AA.BG,H.AA.lost,H.AA.A8,H.AA.trim,H.AA.AR,H.AA.CB,H.AA.Af,H.AA.CK,H.AA.IL,H.AA.CD,H.AA.Ez,H.AA.Ik,H.AA.BZ,H.AA.Cq,H.AA.C2,H.AA.DT,H.AA.FM,CJ,Ac]at*);simp only[t1,AQ6];exact h.qu,by(try simp only[H.AA.BG,H.AA.lost,H.AA.A8,H.AA.trim,H.AA.AR,H.AA.CB,H.AA.Af,H.AA.CK,H.AA.IL,H.AA.CD,H.AA.Ez,H.AA.Ik,H.AA.BZ,H.AA.Cq,H.AA.C2,H.AA.DT,H.AA.FM,CJ,Ac]at*);simpa using h.vK,fun x hx=> ?_,?_,fun m hm=> ?_,h.mS,h.Af,by(try simp only[H.AA.BG,H.AA.lost,H.AA.A8,H.AA.trim,H.AA.AR,H.AA.CB,H.AA.Af,H.AA.CK,H.AA.IL,H.AA.CD,H.AA.Ez,H.AA.Ik,H.AA.BZ,H.AA.Cq,H.AA.C2,H.AA.DT,H.AA.FM,CJ,Ac]at*);simp only[ml];exact h.Q3,fun x hx=> ?_,ma⟩
 ·(try simp only[H.AA.BG,H.AA.lost,H.AA.A8,H.AA.trim,H.AA.AR,H.AA.CB,H.AA.Af,H.AA.CK,H.AA.IL,H.AA.CD,H.AA.Ez,H.AA.Ik,H.AA.BZ,H.AA.Cq,H.AA.C2,H.AA.DT,H.AA.FM,CJ,Ac]at*);simp only[t1]at hx
  obtain⟨y,hy,rfl⟩:=AQ0.1 hx;have yu:=h.AR y hy;split
  ·obtain⟨k1,k2,k3⟩:=ah (s:=(B6 (storeAt w n)).1) (ep:=y.1) hn (o:=1) yu.1.words
   exact⟨⟨h.cfg,yu.1.ep,k3▸yu.1.n,k1,AQL k2 yu.1.opn⟩,yu.2⟩
  ·exact yu
 ·show VW (fun x:AQ=>x.1) (HQ all (Ac w) (B6 (storeAt w n)).1 w.A8 n w.AR w.CK).1
  rw[t1];simp only[VW,ARr];refine h.ei.imp fun{a b} nA=> ?_
  grind
 ·obtain⟨y,hy,rfl⟩:=AQ0.1 hm
  have yu:=h.CB y hy;refine⟨AC8 hn yu.1,?_⟩;grind[MD]
 ·obtain⟨y,hy,e1,e2⟩:=ms x hx
  have:=h.CK y hy;simp_all
theorem ABx{n k:Int}(e:(RW w n k).2=0):On (RW w n k).1:=by
 unfold RW at*;split at e
 ·omega
 rename_i h1;rw[ALG h1];exact hU h (by omega) (fun hq=>(NF hq).2.1) e
theorem ADh{n:Int}(e:(RX w n).2=0):On (RX w n).1:=by
 unfold RX at*;split at e
 ·omega
 rename_i h1;rw[ALG h1];exact hU h (by omega) (fun hq=>(tH hq).2.1) e
theorem AGm{n:Int}(e:(Xm w n).2=0):On (Xm w n).1:=by
 unfold Xm at*;split at e
 ·omega
 rename_i h1;rw[ALG h1];simp only[ne_eq,ATS]at h1;obtain⟨hn,hn2,hn3⟩:=h.node h1;have fw:∀x∈w.AR,(B7 (Ac w) x n).1=(x.1,x.2.1.map (Ep n),()):=fun x hx=>(cM (h.AR x hx).1).2
 refine⟨h.cfg,by(try simp only[H.AA.BG,H.AA.lost,H.AA.A8,H.AA.trim,H.AA.AR,H.AA.CB,H.AA.Af,H.AA.CK,H.AA.IL,H.AA.CD,H.AA.Ez,H.AA.Ik,H.AA.BZ,H.AA.Cq,H.AA.C2,H.AA.DT,H.AA.FM,CJ,Ac]at*);simpa using h.qD,KK h.lost hn,?_,fun i hi=> ?_,h.mC,by(try simp only[H.AA.BG,H.AA.lost,H.AA.A8,H.AA.trim,H.AA.AR,H.AA.CB,H.AA.Af,H.AA.CK,H.AA.IL,H.AA.CD,H.AA.Ez,H.AA.Ik,H.AA.BZ,H.AA.Cq,H.AA.C2,H.AA.DT,H.AA.FM,CJ,Ac]at*);simpa using h.qu,by(try simp only[H.AA.BG,H.AA.lost,H.AA.A8,H.AA.trim,H.AA.AR,H.AA.CB,H.AA.Af,H.AA.CK,H.AA.IL,H.AA.CD,H.AA.Ez,H.AA.Ik,H.AA.BZ,H.AA.Cq,H.AA.C2,H.AA.DT,H.AA.FM,CJ,Ac]at*);simpa using h.vK,fun x hx=> ?_,?_,fun m hm=> ?_,h.mS,h.Af,h.Q3,h.CK,h.aT⟩
 ·grind[holds,Ac,NY]
 ·(try simp only[H.AA.BG,H.AA.lost,H.AA.A8,H.AA.trim,H.AA.AR,H.AA.CB,H.AA.Af,H.AA.CK,H.AA.IL,H.AA.CD,H.AA.Ez,H.AA.Ik,H.AA.BZ,H.AA.Cq,H.AA.C2,H.AA.DT,H.AA.FM,CJ,Ac]at*);simp only[AQk]at hi
  simp only[pe hn2];split
  ·exact⟨bQ.nil,fun _=>rfl⟩
  ·rename_i cq
   refine⟨(h.BG i hi).1,fun hl=>(h.BG i hi).2 ?_⟩;grind[vt]
 ·obtain⟨y,hy,rfl⟩:=AQ0.1 hx
  have yu:=h.AR y hy;refine⟨(cM yu.1).1,?_⟩;simp_all
 ·(try simp only[H.AA.BG,H.AA.lost,H.AA.A8,H.AA.trim,H.AA.AR,H.AA.CB,H.AA.Af,H.AA.CK,H.AA.IL,H.AA.CD,H.AA.Ez,H.AA.Ik,H.AA.BZ,H.AA.Cq,H.AA.C2,H.AA.DT,H.AA.FM,CJ,Ac]at*);simp only[VW,ARr]
  refine List.Pairwise.imp_of_mem (fun{a b} ha hb nA=> ?_) h.ei;simp_all
 ·obtain⟨y,hy,rfl⟩:=AQ0.1 hm
  have yu:=h.CB y hy;obtain⟨k1,k2⟩:=qQ (n:=n) yu.1;refine⟨k1,?_⟩;simp_all
theorem AHh{n:Int}(e:(Xd w n).2=0):On (Xd w n).1:=by
 unfold Xd at*;split at e
 ·omega
 rename_i h1;rw[ALG h1];simp only at e⊢;split at e
 ·omega
 rename_i h2;rw[ALG h2];simp only[APR,APd]at h1 h2;obtain⟨s1,s2,s3,s4⟩:=ABd h2;rw[List.contains_eq_mem,ANR]at h1;have hnn:=(EY.1 h.lost).2.1 n h1;have hns:=h.qD;have hn2:n.toNat<w.BG.length:=by
  have:n<(w.1.length:Int):=hnn.2;omega
 refine⟨h.cfg,by grind,RV _ h.lost,?_,fun i hi=> ?_,h.mC,h.qu,h.vK,h.AR,h.ei,h.CB,h.mS,h.Af,h.Q3,h.CK,h.aT⟩
 ·refine .inr ?_
  rw[AQy];intro hh
  replace hh:holds (Ac w) (less w.lost [n])=true:=hh
  have:=nQ (m:=w.lost) hh h.lost fun x hx=>(AQ7.1 hx).1
  simp_all
 ·(try simp only[H.AA.BG,H.AA.lost,H.AA.A8,H.AA.trim,H.AA.AR,H.AA.CB,H.AA.Af,H.AA.CK,H.AA.IL,H.AA.CD,H.AA.Ez,H.AA.Ik,H.AA.BZ,H.AA.Cq,H.AA.C2,H.AA.DT,H.AA.FM,CJ,Ac]at*);simp only[AQk]at hi
  simp only[pe hn2];split
  ·grind[oQ,List.mem_singleton]
  ·exact⟨(h.BG i hi).1,fun hl=>(h.BG i hi).2 (oQ.1 hl).1⟩
theorem AEt(e:(Xb w).2=0):On (Xb w).1:=by
 unfold Xb at*;split at e
 ·omega
 rename_i h1;rw[ALG h1];split at e
 ·omega
 rename_i h2;rw[ALG h2];simp only[AQd,ANR,not_or]at h1;obtain⟨k,k1,k2,k3,k4⟩:=SZ h.mC (by show 0<w.A8.length;omega);have k1':k<w.A8.length:=k1;have bD:BC w.A8=(k:Int)+1:=k2;have hn:w.A8.length≤30:=h.mC.n;refine⟨h.cfg,h.qD,h.lost,h.IL,h.BG,h.mC,h.qu,by(try simp only[H.AA.BG,H.AA.lost,H.AA.A8,H.AA.trim,H.AA.AR,H.AA.CB,H.AA.Af,H.AA.CK,H.AA.IL,H.AA.CD,H.AA.Ez,H.AA.Ik,H.AA.BZ,H.AA.Cq,H.AA.C2,H.AA.DT,H.AA.FM,CJ,Ac]at*);simp,h.AR,h.ei,fun m hm=> ?_,h.mS,h.Af,h.Q3,h.CK,h.aT⟩
 replace hm:m∈[mr (BC w.A8) w.A8.length]:=hm
 simp only[AP_]at hm;subst hm;refine⟨⟨h.cfg,?_,?_,YM h.cfg,List.Pairwise.nil,by simp[mr],by simp[mr],rfl⟩,rfl,rfl⟩
 ·show 1≤BC w.A8∧BC w.A8≤30
  omega
 ·show BC w.A8+1≤(w.A8.length:Int)∧(w.A8.length:Int)≤30
  omega
theorem AGO{n:Int}(e:(W0 w n).2=0):On (W0 w n).1:=by
 unfold W0 at*;split at e
 ·omega
 rename_i m ms hm;simp only at e⊢;split at e
 ·omega
 rename_i h1;rw[ALG h1];split at e
 ·omega
 rename_i h2;rw[ALG h2];split at e
 ·omega
 rename_i h3;rw[ALG h3];simp only[ne_eq,ATS]at h1;simp only[AQd,not_or,APR,APd]at h3;obtain⟨s1,s2,s3⟩:=jJ h3.1;obtain⟨m1,m2,m3,m4⟩:=lH h3.2;have hw:=h.o9 h1 s2;have hm1:=h.vK;rw[hm]at hm1;refine⟨h.cfg,hw.qD,h.lost,h.IL,hw.BG,h.mC,h.qu,by omega,h.AR,h.ei,fun x hx=> ?_,h.mS,h.Af,h.Q3,h.CK,h.aT⟩;rcases APr.1 hx with rfl|hx
 ·have:=h.CB m (by simp_all)
  refine⟨m2,?_⟩;simp_all
 simp_all
theorem AI5(e:(XN w).2=0):On (XN w).1:=by
 unfold XN at*;split at e
 ·omega
 rename_i m ms hm;simp only at e⊢;split at e
 ·omega
 rename_i h3;rw[ALG h3];simp only[APR,APd]at h3;obtain⟨m1,m2,m3,m4,m5⟩:=lE h3;have hm1:=h.vK;rw[hm]at hm1;refine⟨h.cfg,h.qD,h.lost,h.IL,h.BG,h.mC,h.qu,by omega,h.AR,h.ei,fun x hx=> ?_,h.mS,h.Af,h.Q3,h.CK,h.aT⟩;rcases APr.1 hx with rfl|hx
 ·have:=h.CB m (by simp_all)
  refine⟨m2,?_⟩;simp_all
 simp_all
theorem ALb{b n:Int}(e:(cc w b n).2=0):On (cc w b n).1:=by
 unfold cc at*;split at e
 ·omega
 rename_i m ms hm;split at e
 ·omega
 rename_i x hx;split at e
 ·omega
 rename_i h1;rw[ALG h1];split at e
 ·omega
 rename_i h2;rw[ALG h2];grind[hU,dQ]
theorem ABS(e:(RS w).2=0):On (RS w).1:=by
 unfold RS at*;split at e
 ·omega
 rename_i m ms hm;split at e
 ·omega
 rename_i h1;rw[ALG h1];simp only at e⊢;split at e
 ·omega
 rename_i h2;rw[ALG h2];simp only[APR,APd]at h2;obtain⟨r0,r1,k,k1,k2,k3,k4,k5,k6,k7,k8⟩:=lf h2;rw[k6]at r1;rw[k6];have hl:(OP (CJ w).1 k (m.2.2.2.2.2.1.length:Int)).length=w.A8.length:=by simp[OP,CJ]
 refine⟨h.cfg,h.qD,h.lost,h.IL,h.BG,r1,h.qu,by(try simp only[H.AA.BG,H.AA.lost,H.AA.A8,H.AA.trim,H.AA.AR,H.AA.CB,H.AA.Af,H.AA.CK,H.AA.IL,H.AA.CD,H.AA.Ez,H.AA.Ik,H.AA.BZ,H.AA.Cq,H.AA.C2,H.AA.DT,H.AA.FM,CJ,Ac]at*);simp,fun x hx=> ?_,h.ei,fun x hx=>by grind,h.mS,h.Af,h.Q3,fun x hx=> ?_,h.aT⟩
 ·(try simp only[H.AA.BG,H.AA.lost,H.AA.A8,H.AA.trim,H.AA.AR,H.AA.CB,H.AA.Af,H.AA.CK,H.AA.IL,H.AA.CD,H.AA.Ez,H.AA.Ik,H.AA.BZ,H.AA.Cq,H.AA.C2,H.AA.DT,H.AA.FM,CJ,Ac]at*);simp only[hl];exact h.AR x hx
 ·(try simp only[H.AA.BG,H.AA.lost,H.AA.A8,H.AA.trim,H.AA.AR,H.AA.CB,H.AA.Af,H.AA.CK,H.AA.IL,H.AA.CD,H.AA.Ez,H.AA.Ik,H.AA.BZ,H.AA.Cq,H.AA.C2,H.AA.DT,H.AA.FM,CJ,Ac]at*);simp only[hl];exact h.CK x hx
theorem ADH{a:Int}(e:(bK w a).2=0):On (bK w a).1:=by
 unfold bK at*;simp only at e⊢;split at e
 ·omega
 rename_i h2;rw[ALG h2];simp only[APR,APd]at h2;obtain⟨r0,r1,r2⟩:=pj h2;rw[r2]at r1;rw[r2];exact⟨h.cfg,h.qD,h.lost,h.IL,h.BG,r1,h.qu,h.vK,h.AR,h.ei,h.CB,h.mS,h.Af,h.Q3,h.CK,h.aT⟩
theorem ym{a k:Int}(e:(CY w a k).2=0):On (CY w a k).1:=by
 unfold CY at*;split at e
 ·omega
 rename_i h1;rw[ALG h1];simp only at e⊢;split at e
 ·omega
 rename_i h2;rw[ALG h2];simp only[ne_eq,ATS]at h2;refine⟨h.cfg,h.qD,h.lost,h.IL,h.BG,h.mC,h.qu,h.vK,h.AR,h.ei,h.CB,by(try simp only[H.AA.BG,H.AA.lost,H.AA.A8,H.AA.trim,H.AA.AR,H.AA.CB,H.AA.Af,H.AA.CK,H.AA.IL,H.AA.CD,H.AA.Ez,H.AA.Ik,H.AA.BZ,H.AA.Cq,H.AA.C2,H.AA.DT,H.AA.FM,CJ,Ac]at*);simpa using h.mS,fun r hr=> ?_,h.Q3,h.CK,h.aT⟩;rcases AQX hr with hr|rfl
 ·exact h.Af r hr
 ·exact qJ h2
theorem AGz{a:Int}(e:(Zd w a).2=0):On (Zd w a).1:=by
 unfold Zd at*;split at e
 ·omega
 rename_i h1;rw[ALG h1];have hs:(w.AR.eraseIdx a.toNat).Sublist w.AR:=List.eraseIdx_sublist _ _;exact⟨h.cfg,h.qD,h.lost,h.IL,h.BG,h.mC,AQL hs.length_le h.qu,h.vK,fun x hx=>h.AR x (hs.subset hx),h.ei.sublist hs,h.CB,h.mS,h.Af,h.Q3,h.CK,h.aT⟩
theorem AIa{all:Bool}{d:Br}(hd:d.2.2.2.2.1.length≤40)(e:(Qm all w d).2=0):On (Qm all w d).1:=by
 unfold Qm at*;by_cases hc:d.1=1
 ·rw[ALC hc]at e⊢;exact AHL h e
 rw[ALG hc]at e⊢;clear hc;by_cases hc:d.1=2
 ·rw[ALC hc]at e⊢;exact AOg h hd e
 rw[ALG hc]at e⊢;clear hc;by_cases hc:d.1=3
 ·rw[ALC hc]at e⊢;exact ADF h e
 rw[ALG hc]at e⊢;clear hc;by_cases hc:d.1=4
 ·rw[ALC hc]at e⊢;exact AEA h e
 rw[ALG hc]at e⊢;clear hc;by_cases hc:d.1=5
 ·rw[ALC hc]at e⊢;exact ABx h e
 rw[ALG hc]at e⊢;clear hc;by_cases hc:d.1=6
 ·rw[ALC hc]at e⊢;exact AGm h e
 rw[ALG hc]at e⊢;clear hc;by_cases hc:d.1=7
 ·rw[ALC hc]at e⊢;exact AHh h e
 rw[ALG hc]at e⊢;clear hc;by_cases hc:d.1=8
 ·rw[ALC hc]at e⊢;exact AEt h e
 rw[ALG hc]at e⊢;clear hc;by_cases hc:d.1=9
 ·rw[ALC hc]at e⊢;exact AGO h e
 rw[ALG hc]at e⊢;clear hc;by_cases hc:d.1=10
 ·rw[ALC hc]at e⊢;exact AI5 h e
 rw[ALG hc]at e⊢;clear hc;by_cases hc:d.1=11
 ·rw[ALC hc]at e⊢;exact ALb h e
 rw[ALG hc]at e⊢;clear hc;by_cases hc:d.1=12
 ·rw[ALC hc]at e⊢;exact ABS h e
 rw[ALG hc]at e⊢;clear hc;by_cases hc:d.1=13
 ·rw[ALC hc]at e⊢;exact ADH h e
 rw[ALG hc]at e⊢;clear hc;by_cases hc:d.1=14
 ·rw[ALC hc]at e⊢;exact ym h e
 rw[ALG hc]at e⊢;clear hc;by_cases hc:d.1=15
 ·rw[ALC hc]at e⊢;exact AGz h e
 rw[ALG hc]at e⊢;grind[ADh]
end
theorem gN{d:Br}(h:Qe d=true):d.2.2.2.2.1.length≤40:=by
 unfold Qe at h;simp_all
theorem xu{all:Bool}{w:AA}{d:Br}(e:(Ij all w d).2=0):Jq (Ij all w d).1=true:=by
 unfold Ij at*;split at e
 ·omega
 rename_i h1;rw[ALG h1];have hw:Jq w=true:=by
  simp_all
 have hd:Qe d=true:=by
  simp_all
 grind[KQ,AIa,gN]
end Go.M
end
section
namespace Go.M
open Go.M.H (AK AO Ax Al AA Cp AN A6 AQ Aj Bc A7 Br Ai B5 AU AW AX Ag Bb As Am A0 D8 CG Ct C3)
theorem yY{α:Type}{f:α→Nat}{B:Nat}:∀{l:List α},(∀x∈l,f x≤B)→AU f l≤l.length*(1+B)
 |[],_=>by simp[AU]
 |x::l,h=>by
  have h1:=h x (by simp);have h2:=yY (l:=l) fun y hy=>h y (by simp[hy])
  grind[AU,List.length_cons,Nat.add_mul]
theorem D6{α:Type}{f:α→Nat}{B N:Nat}{l:List α}(hn:l.length≤N)(h:∀x∈l,f x≤B):AU f l≤N*(1+B):=
 AQL (yY h) (AOr _ hn)
theorem sB{α:Type}{f:α→Int}{b:Int}:∀{l:List α} {a:Int},VW f l→(∀x∈l,a≤f x∧f x<b)→(l.length:Int)≤max (b-a) 0
 |[],a,_,_=>by grind
 |x::l,a,h,hb=>by
  simp only[VW,AQT]at h;have h1:=hb x (by simp);have h2:=sB (l:=l) (a:=f x+1) h.2 fun y hy=>⟨by grind,(hb y (by simp[hy])).2⟩
  grind
theorem G2{c:B_}{l:AAM}(h:Az c l=true):l.length≤8:=by
 obtain⟨h1,h2,h3⟩:=EY.1 h;have:=(Dw h1).2.1;have:=sB (a:=0) (b:=c.1.length) h3 h2;omega
theorem Gd{p:Int}(h:Ba p=true):Ce p:=by
 obtain⟨h1,h2,h3⟩:=Gw h;grind[HB,Ce]
theorem bQ.w{s:AO}(h:bQ s):Ai s≤10000:=by
 have h1:=D6 (f:=Ag) (B:=40) h.nk fun e he=>(FI.1 (h.kept e he)).len
 have h2:=D6 (f:=Ag) (B:=40) h.nl fun e he=>(FI.1 (h.late e he)).len
 unfold Ai;omega
theorem bQ.sin{s:AO}(h:bQ s):iS s:=
 ⟨fun e he=>Gd (FI.1 (h.kept e he)).pl,fun e he=>Gd (FI.1 (h.late e he)).pl⟩
theorem jW.ART{c:B_}{m:Ax}(h:jW c m):m.2.2.2.1.length≤60:=by
 have:=sB (f:=fun e:AK=>e.1) (a:=HB m.2.1 1) (b:=HB m.2.1 61) h.tz fun e he=>by
  have h1:=h.seen e he;have h2:=Gw (FI.1 h1.1).pl;grind[HB]
 grind[HB]
theorem jW.w{c:B_}{m:Ax}(h:jW c m):B5 m≤5000:=by
 have h1:=D6 (f:=Ag) (B:=40) h.ART fun e he=>(FI.1 (h.seen e he).1).len
 have h2:=G2 h.sld;have h3:m.2.2.2.2.2.1.length≤60:=by
  have:=h.n;have hb:=HX (l:=m.2.2.2.1);omega
 have h4:=D6 (f:=C3) (B:=8) h3 fun l hl=>G2 (h.wrote l hl)
 unfold B5;omega
theorem jW.wG{c:B_}{m:Ax}(h:jW c m):eo m.2.2.2.1:=fun e he=>Gd (FI.1 (h.seen e he).1).pl
theorem yn.w{c:B_}{r:AN}(h:yn c r):AU Bb r.1≤270:=by
 have:=D6 (f:=Bb) (B:=8) h.n fun e he=>G2 (Uv (h.A8 e he).1)
 omega
theorem yn.tin{c:B_}{r:AN}(h:yn c r):Ce r.2.1:=by
 rcases h.trim with h|h
 all_goals grind[Ce,Gd]
theorem bF.w{c:B_}{w:AQ}(h:bF c w):Am w≤3000:=by
 have:=D6 (f:=As) (B:=48) h.n fun x hx=>by
  have h1:=h.words x hx;grind[G2,As]
 unfold Am;omega
def uH(w:AA):Prop:= ∀r∈w.Af,∀e∈r.2.2.1,e.2.2.1.length≤40
theorem On.UR{w:AA}(h:On w){s:AO}(hs:s∈w.BG):bQ s:=by
 obtain⟨i,hi,rfl⟩:=AQS hs;have:=(h.BG i hi).1;simp_all
theorem On.win{w:AA}(h:On w)(hr:uH w):kQ w:=by
 have hc:=(Dw h.cfg).2.1;have cR:w.1.length≤8:=hc;have a1:=D6 (f:=Ai) (B:=10000) (N:=8) (l:=w.BG) (by rw[h.qD];omega) fun s hs=>(h.UR hs).w
 have a2:=G2 h.lost;have a3:=h.mC.w;have a4:=D6 (f:=Am) (B:=3000) h.qu fun x hx=>(h.AR x hx).1.w
 have a5:=D6 (f:=B5) (B:=5000) h.vK fun x hx=>(h.CB x hx).1.w
 have a6:=D6 (f:=A0) (B:=5000) (N:=2) (l:=w.Af) (by rw[h.mS];omega) fun r hx=>by
  have:=D6 (f:=CG) (B:=40) (h.Af r hx).n (hr r hx);unfold A0;omega
 have a7:=D6 (f:=D8) (B:=40) h.Q3 fun s hs=>(h.CK s hs).2.2
 refine⟨?_,fun s hs=>(h.UR hs).sin,h.mC.tin,fun m hm=>(h.CB m hm).1.wG,fun s hs=>Gd (h.CK s hs).1⟩;have a3':AU Bb w.A8≤270:=a3;grind[Ct]
end Go.M
end
section
set_option maxRecDepth 8000
namespace Go.M
open Go.M.H (AK AO Ax Al AA Cp AN A6 AQ Aj Bc A7 Br Ai B5 AU AW AX Ag Bb As Am A0 D8 CG Ct C3)
theorem rq:∀i,i<8→([0,1,2,3,4,5,6,7]:AAM).drop i=(i:Int)::([0,1,2,3,4,5,6,7]:AAM).drop (i+1):=by decide
theorem Yj{k:Int}:N7 k=some (((),()),(BH k,())):=by
 unfold N7 Ul BH;rcases AK_ (BF k 0 255)with hk|hk
 rotate_left
 ·rw[hk]
  obtain⟨m,hm⟩:∃m,AY=m+1:=⟨AY-1,by have:=Aa (n:=0) (by omega);omega⟩;rw[hm];simp only[H9,OB,BQ,AD,hk,AB];rfl
 rw[hk,ALC rfl];have hk':=Ak.1 hk;have key:∀(n i:Nat) (b:AAM),i≤8→8-i<n→b.length≤i→
   H9 n k i b=some (((),()),(b++(([0,1,2,3,4,5,6,7]:AAM).drop i).filter (fun i=>(k/2^i.toNat)%2==1),())):=by
  intro n
  induction n with
  |zero=>omega
  |succ n ih=>
   intro i b hi h hb;simp only[H9,OB,BQ,AD,hk,ANZ,AB];by_cases DG:i<8
   ·have zS:=sH (k:=k) (i:=i) (by omega) (by omega)
    rw[ALC (show(i:Int)<8 by omega),ALG (by omega),AMp,zS,rq i DG,AP6,AMp,AH (by omega) (by omega),show((i:Int)+1)=((i+1:Nat):Int)by omega,AB];have c2:b.length+1≤DA:=by rw[An];omega
    by_cases uv:(k/2^i)%2=1
    ·rw[ALC uv,ALC c2,ALC (by simp_all),ih (i+1) _ (by omega) (by omega) (by simp_all),ANi]
     rfl
    grind
   ·have:i=8:=by omega
    simp_all
 have:=key AY 0 [] (by omega) (Aa (by omega)) (by simp);simp_all
theorem od{d:Br}:Yq d=some ((Qe d,()),()):=by
 obtain⟨k,a,b,n,t,⟨⟩⟩:=d;unfold Yq Qe;rw[BQ];simp only[AD];rcases AK_ (BF k 1 16)with hk|hk
 rotate_left
 ·simp_all
 have hk':=Ak.1 hk;rw[hk];have dl:decide ((t.length:Int)≤40)=decide (t.length≤40):=by
  grind
 have:k=1∨k=2∨k=3∨k=4∨k=5∨k=6∨k=7∨k=8∨k=9∨k=10∨k=11∨k=12∨k=13∨k=14∨k=15∨k=16:=by omega
 rcases this with h|h|h|h|h|h|h|h|h|h|h|h|h|h|h|h<;>subst h<;>simp only[ANZ,dl]<;>clear dl hk hk'<;>
  (unfold ZW;simp[eV];cases a==0<;>cases b==0<;>cases n==0<;>cases t.isEmpty<;>rfl)
theorem gS{w:AQ}(hl:w.2.1.length≤2^20):VM w=some (((XU w.2.1:Int),()),()):=by
 have key:∀(n i:Nat),i≤w.2.1.length→w.2.1.length-i<n→
   Ja n i w.1 w.2.1=some ((((i+XU (w.2.1.drop i):Nat):Int),()),()):=by
  intro n
  induction n with
  |zero=>omega
  |succ n ih=>
   intro i hi h;simp only[Ja,S6,AB];by_cases DG:i<w.2.1.length
   ·have c1:(0:Int)≤(i:Int)∧(i:Int)<(w.2.1.length:Int):=by omega
    rw[ALC c1.2,ALC c1,Ah DG,AH (by omega) (by omega),show((i:Int)+1)=((i+1:Nat):Int)by omega,ih (i+1) (by omega) (by omega),drop_cons DG];simp only[XU];cases w.2.1[i].2.2.1 with
    |false=>simp
    |true=>grind
   ·rw[ALG (by omega),AMG (by omega)]
    rfl
 have:=key AY 0 (by omega) (Aa (by omega));rw[AQu,AOu]at this;exact this
theorem II{w:AA}{n:Int}(h1:w.BG.length≤2^20)(h2:w.lost.length≤2^20):Ha w n=some ((Aw w n,()),()):=by
 unfold Ha Aw
 (try simp only[H.AA.BG,H.AA.lost,H.AA.A8,H.AA.trim,H.AA.AR,H.AA.CB,H.AA.Af,H.AA.CK,H.AA.IL,H.AA.CD,H.AA.Ez,H.AA.Ik,H.AA.BZ,H.AA.Cq,H.AA.C2,H.AA.DT,H.AA.FM,CJ,Ac]at*)
 rw[AH (by omega) (by omega),BQ,KS (by omega)];grind
theorem Sd{w:AA}{n:Int}(h1:w.AR.length≤2^20):Lc w n=some ((BF n 0 ((w.AR.length:Int)-1),()),()):=by
 grind[Lc,AH,BQ]
theorem pg{w:AA}{e:Int}(hl:AU Am w.AR≤2^20):dL w e=some ((bN w e,()),()):=by
 have wD:=AW (f:=Am) (l:=w.AR);have key:∀(n i:Nat),i≤w.AR.length→w.AR.length-i<n→
   OM n e i w.1 w.2.1 w.2.2.1 w.2.2.2.1 w.2.2.2.2.1 w.2.2.2.2.2.1 w.AR w.2.2.2.2.2.2.2.1 w.2.2.2.2.2.2.2.2.1 w.2.2.2.2.2.2.2.2.2.1 w.2.2.2.2.2.2.2.2.2.2.1=
    some (((match(w.AR.drop i).find? (fun x=>x.1==e)with|some x=>(XU x.2.1:Int)|none=>0),()),()):=by
  intro n
  induction n with
  |zero=>omega
  |succ n ih=>
   intro i hi h;simp only[OM,Yd,AB];by_cases DG:i<w.AR.length
   ·have c1:(0:Int)≤(i:Int)∧(i:Int)<(w.AR.length:Int):=by omega
    rw[ALC c1.2,ALC c1,ALC c1,Ah DG,AH (by omega) (by omega),show((i:Int)+1)=((i+1:Nat):Int)by omega,ih (i+1) (by omega) (by omega),drop_cons DG,AUM,show(w.AR[i].1,w.AR[i].2.1,())=w.AR[i]from rfl];have hm:=AX (f:=Am) (AMx DG);have hw:Am w.AR[i]=AU As w.AR[i].2.1:=rfl;have hlw:=AW (f:=As) (l:=w.AR[i].2.1);rw[gS (by omega)];cases(w.AR[i].1==e)<;>rfl
   grind
 have:=key AY 0 (by omega) (Aa (by omega));rw[AOu]at this;exact this
theorem fz{w:AA}{r:Aj}{k:Int}(h1:AU Ai w.BG≤2^20)(h2:w.lost.length≤2^20)(hr1: -1000≤r.1∧r.1≤1000)(hr2: -1000≤r.2.1∧r.2.1≤1000):
  P8 w r k=some (((),()),(answers w (HB r.1 r.2.1) (BH k),())):=by
 have zT:=AW (f:=Ai) (l:=w.BG);have wA:(BH k).length≤8:=by
  unfold BH;split
  ·exact AQL (AQM _ _) (by simp)
  ·simp
 have key:∀(n i:Nat) (b:List A7),i≤(BH k).length→(BH k).length-i<n→b.length≤i→
   JN n i w.1 w.2.1 w.2.2.1 w.2.2.2.1 w.2.2.2.2.1 w.2.2.2.2.2.1 w.2.2.2.2.2.2.1 w.2.2.2.2.2.2.2.1 w.2.2.2.2.2.2.2.2.1 w.2.2.2.2.2.2.2.2.2.1 w.2.2.2.2.2.2.2.2.2.2.1 r.1 r.2.1 r.2.2.1 b (BH k)=
    some (((),()),(b++answers w (HB r.1 r.2.1) ((BH k).drop i),())):=by
  intro n
  induction n with
  |zero=>omega
  |succ n ih=>
   intro i b hi h hb;simp only[JN,TL,AB];by_cases DG:i<(BH k).length
   ·have c1:(0:Int)≤(i:Int)∧(i:Int)<((BH k).length:Int):=by omega
    have c2:b.length+1≤DA:=by rw[An];omega
    rw[ALC c1.2,ALC c1,Ah DG,show(w.1,w.2.1,w.2.2.1,w.2.2.2.1,w.2.2.2.2.1,w.2.2.2.2.2.1,w.2.2.2.2.2.2.1,w.2.2.2.2.2.2.2.1,w.2.2.2.2.2.2.2.2.1,w.2.2.2.2.2.2.2.2.2.1,w.2.2.2.2.2.2.2.2.2.2.1,())=w from rfl,II (by omega) h2,AH (by omega) (by omega),show((i:Int)+1)=((i+1:Nat):Int)by omega,drop_cons DG];simp only[AD,Co,answers,AP6];by_cases hn:Aw w (BH k)[i]=0
    ·obtain⟨n1,n2,n3⟩:=Pn hn
     have hs1:((BH k)[i]).toNat<w.2.2.1.length:=by simp_all
     rw[ALC hn,ALC c1,ALC ⟨n1,n2⟩,Ff hr1 hr2];simp only[AD];have an:w.2.2.1.getD ((BH k)[i]).toNat ([],[],0,())=storeAt w (BH k)[i]:=rfl;have hsm:Ai (storeAt w (BH k)[i])≤2^20:=AQL (AX (f:=Ai) (BU (d:=D9) hs1)) h1;rw[an,UI (Fp (by omega)).1];simp only[AD];rw[ALC c1,ALC c2,ih (i+1) _ (by omega) (by omega) (by simp_all),ALC (by simp_all),ARf,ANi];have:((BH k)[i],(Od (HB r.1 r.2.1) (storeAt w (BH k)[i]).1).isSome,((Od (HB r.1 r.2.1) (storeAt w (BH k)[i]).1).getD Di).1,((Od (HB r.1 r.2.1) (storeAt w (BH k)[i]).1).getD Di).2.1,((Od (HB r.1 r.2.1) (storeAt w (BH k)[i]).1).getD Di).2.2.1,((Od (HB r.1 r.2.1) (storeAt w (BH k)[i]).1).getD Di).2.2.2.1,())=answer w (HB r.1 r.2.1) (BH k)[i]:=by
      grind[answer,Od,HB,storeAt,BH]
     rw[this];rfl
    ·rw[ALG hn,ih (i+1) _ (by omega) (by omega) (by omega),ALG (by simp_all)]
     rfl
   ·rw[ALG (by omega),AMG (by omega)]
    simp[answers]
 have:=key AY 0 [] (by omega) (Aa (by omega)) (by simp);grind[P8,S8,Yj]
end Go.M
end
section
set_option maxRecDepth 8000
namespace Go.M
open Go.M.H (AK AO Ax Al AA Cp AN A6 AQ Aj Bc A7 Br Ai B5 AU AW AX Ag Bb As Am A0 D8 CG Ct C3)
section
variable{w:AA} (h:kQ w)
include h
theorem AGS:∀(n i:Nat) (DX:List AO) (Dy:List AQ) (EP:List Ax) (FD:List Aj),i≤w.2.2.2.2.2.2.2.2.1.length→w.2.2.2.2.2.2.2.2.1.length-i<n→FD.length≤i→
  CO n i w.1 w.2.1 w.2.2.1 w.2.2.2.1 w.2.2.2.2.1 w.2.2.2.2.2.1 w.2.2.2.2.2.2.1 w.2.2.2.2.2.2.2.1 w.2.2.2.2.2.2.2.2.1 w.2.2.2.2.2.2.2.2.2.1 w.2.2.2.2.2.2.2.2.2.2.1 0 0 false [] [] [] [] [] [] [] [] w.2.1 w.2.2.2.2.2.1 w.2.2.2.2.2.2.2.2.2.2.1 w.1 DX w.2.2.2.1 w.2.2.2.2.1 Dy EP FD w.2.2.2.2.2.2.2.2.2.1=some ((((),w.2.1,(),(),(),w.2.2.2.2.2.1,(),(),(),(),w.2.2.2.2.2.2.2.2.2.2.1,()),()),(w.1,DX,w.2.2.2.1,w.2.2.2.2.1,Dy,EP,(FD++w.2.2.2.2.2.2.2.2.1.drop i),w.2.2.2.2.2.2.2.2.2.1,())):=by
 have tu:=h.SW;have hl:=h.lens;intro n
 induction n with
 |zero=>omega
 |succ n ih=>
  intro i DX Dy EP FD hi hn hb;simp only[CO,PT,AB];by_cases DG:i<w.2.2.2.2.2.2.2.2.1.length
  ·have c1:(0:Int)≤(i:Int)∧(i:Int)<(w.2.2.2.2.2.2.2.2.1.length:Int):=by omega
   have c2:FD.length+1≤DA:=by rw[An];omega
   rw[ALC c1.2,ALC c1,Ah DG,AH (by omega) (by omega),show((i:Int)+1)=((i+1:Nat):Int)by omega,drop_cons DG];have hm:=AX (f:=A0) (AMx DG);have hw:A0 w.2.2.2.2.2.2.2.2.1[i]=AU CG w.2.2.2.2.2.2.2.2.1[i].2.2.1:=rfl;have hlw:=AW (f:=CG) (l:=w.2.2.2.2.2.2.2.2.1[i].2.2.1);rw[show(w.2.2.2.2.2.2.2.2.1[i].1,w.2.2.2.2.2.2.2.2.1[i].2.1,w.2.2.2.2.2.2.2.2.1[i].2.2.1,())=w.2.2.2.2.2.2.2.2.1[i]from rfl,VO (by omega)];simp only[AD];rw[ALC c2,ih (i+1) _ _ _ _ (by omega) (by omega) (by simp_all),ANi];rfl
  grind
theorem AHr:∀(n i:Nat) (DX:List AO) (Dy:List AQ) (EP:List Ax),i≤w.2.2.2.2.2.2.2.1.length→(w.2.2.2.2.2.2.2.1.length-i)+w.2.2.2.2.2.2.2.2.1.length+2≤n→EP.length≤i→
  CP n i w.1 w.2.1 w.2.2.1 w.2.2.2.1 w.2.2.2.2.1 w.2.2.2.2.2.1 w.2.2.2.2.2.2.1 w.2.2.2.2.2.2.2.1 w.2.2.2.2.2.2.2.2.1 w.2.2.2.2.2.2.2.2.2.1 w.2.2.2.2.2.2.2.2.2.2.1 0 0 false [] [] [] [] [] [] [] [] w.2.1 w.2.2.2.2.2.1 w.2.2.2.2.2.2.2.2.2.2.1 w.1 DX w.2.2.2.1 w.2.2.2.2.1 Dy EP [] w.2.2.2.2.2.2.2.2.2.1=some ((((),w.2.1,(),(),(),w.2.2.2.2.2.1,(),(),(),(),w.2.2.2.2.2.2.2.2.2.2.1,()),()),(w.1,DX,w.2.2.2.1,w.2.2.2.2.1,Dy,(EP++w.2.2.2.2.2.2.2.1.drop i),w.2.2.2.2.2.2.2.2.1,w.2.2.2.2.2.2.2.2.2.1,())):=by
 have tu:=h.SW;have hl:=h.lens;intro n
 induction n with
 |zero=>omega
 |succ n ih=>
  intro i DX Dy EP hi hn hb;simp only[CP,PU,AB];by_cases DG:i<w.2.2.2.2.2.2.2.1.length
  ·have c1:(0:Int)≤(i:Int)∧(i:Int)<(w.2.2.2.2.2.2.2.1.length:Int):=by omega
   have c2:EP.length+1≤DA:=by rw[An];omega
   rw[ALC c1.2,ALC c1,Ah DG,AH (by omega) (by omega),show((i:Int)+1)=((i+1:Nat):Int)by omega,drop_cons DG];have hm:=AX (f:=B5) (AMx DG);rw[show(w.2.2.2.2.2.2.2.1[i].1,w.2.2.2.2.2.2.2.1[i].2.1,w.2.2.2.2.2.2.2.1[i].2.2.1,w.2.2.2.2.2.2.2.1[i].2.2.2.1,w.2.2.2.2.2.2.2.1[i].2.2.2.2.1,w.2.2.2.2.2.2.2.1[i].2.2.2.2.2.1,())=w.2.2.2.2.2.2.2.1[i]from rfl,LY (by omega)];simp only[AD];rw[ALC c2,ih (i+1) _ _ _ (by omega) (by omega) (by simp_all),ANi];rfl
  ·have:=AGS h n 0 DX Dy EP [] (by omega) (by omega) (by simp)
   grind
theorem AOB:∀(n i:Nat) (DX:List AO) (Dy:List AQ),i≤w.2.2.2.2.2.2.1.length→(w.2.2.2.2.2.2.1.length-i)+w.2.2.2.2.2.2.2.1.length+w.2.2.2.2.2.2.2.2.1.length+3≤n→Dy.length≤i→
  Cj n i w.1 w.2.1 w.2.2.1 w.2.2.2.1 w.2.2.2.2.1 w.2.2.2.2.2.1 w.2.2.2.2.2.2.1 w.2.2.2.2.2.2.2.1 w.2.2.2.2.2.2.2.2.1 w.2.2.2.2.2.2.2.2.2.1 w.2.2.2.2.2.2.2.2.2.2.1 0 0 false [] [] [] [] [] [] [] [] w.2.1 w.2.2.2.2.2.1 w.2.2.2.2.2.2.2.2.2.2.1 w.1 DX w.2.2.2.1 w.2.2.2.2.1 Dy [] [] w.2.2.2.2.2.2.2.2.2.1=some ((((),w.2.1,(),(),(),w.2.2.2.2.2.1,(),(),(),(),w.2.2.2.2.2.2.2.2.2.2.1,()),()),(w.1,DX,w.2.2.2.1,w.2.2.2.2.1,(Dy++w.2.2.2.2.2.2.1.drop i),w.2.2.2.2.2.2.2.1,w.2.2.2.2.2.2.2.2.1,w.2.2.2.2.2.2.2.2.2.1,())):=by
 have tu:=h.SW;have hl:=h.lens;intro n
 induction n with
 |zero=>omega
 |succ n ih=>
  intro i DX Dy hi hn hb;simp only[Cj,QO,AB];by_cases DG:i<w.2.2.2.2.2.2.1.length
  ·have c1:(0:Int)≤(i:Int)∧(i:Int)<(w.2.2.2.2.2.2.1.length:Int):=by omega
   have c2:Dy.length+1≤DA:=by rw[An];omega
   rw[ALC c1.2,ALC c1,Ah DG,AH (by omega) (by omega),show((i:Int)+1)=((i+1:Nat):Int)by omega,drop_cons DG];have hm:=AX (f:=Am) (AMx DG);have hw:Am w.2.2.2.2.2.2.1[i]=AU As w.2.2.2.2.2.2.1[i].2.1:=rfl;rw[show(w.2.2.2.2.2.2.1[i].1,w.2.2.2.2.2.2.1[i].2.1,())=w.2.2.2.2.2.2.1[i]from rfl,Rr (by omega)];simp only[AD];rw[ALC c2,ih (i+1) _ _ (by omega) (by omega) (by simp_all),ANi];rfl
  ·have:=AHr h n 0 DX Dy [] (by omega) (by omega) (by simp)
   grind
theorem AOj:∀(n i:Nat) (DX:List AO),i≤w.2.2.1.length→(w.2.2.1.length-i)+w.2.2.2.2.2.2.1.length+w.2.2.2.2.2.2.2.1.length+w.2.2.2.2.2.2.2.2.1.length+4≤n→DX.length≤i→
  CT n i w.1 w.2.1 w.2.2.1 w.2.2.2.1 w.2.2.2.2.1 w.2.2.2.2.2.1 w.2.2.2.2.2.2.1 w.2.2.2.2.2.2.2.1 w.2.2.2.2.2.2.2.2.1 w.2.2.2.2.2.2.2.2.2.1 w.2.2.2.2.2.2.2.2.2.2.1 0 0 false [] [] [] [] [] [] [] [] w.2.1 w.2.2.2.2.2.1 w.2.2.2.2.2.2.2.2.2.2.1 w.1 DX w.2.2.2.1 w.2.2.2.2.1 [] [] [] w.2.2.2.2.2.2.2.2.2.1=some ((((),w.2.1,(),(),(),w.2.2.2.2.2.1,(),(),(),(),w.2.2.2.2.2.2.2.2.2.2.1,()),()),(w.1,(DX++w.2.2.1.drop i),w.2.2.2.1,w.2.2.2.2.1,w.2.2.2.2.2.2.1,w.2.2.2.2.2.2.2.1,w.2.2.2.2.2.2.2.2.1,w.2.2.2.2.2.2.2.2.2.1,())):=by
 have tu:=h.SW;have hl:=h.lens;intro n
 induction n with
 |zero=>omega
 |succ n ih=>
  intro i DX hi hn hb;simp only[CT,Qh,AB];by_cases DG:i<w.2.2.1.length
  ·have c1:(0:Int)≤(i:Int)∧(i:Int)<(w.2.2.1.length:Int):=by omega
   have c2:DX.length+1≤DA:=by rw[An];omega
   rw[ALC c1.2,ALC c1,Ah DG,AH (by omega) (by omega),show((i:Int)+1)=((i+1:Nat):Int)by omega,drop_cons DG];have hm:=AX (f:=Ai) (AMx DG);have hw:=Fp (s:=w.2.2.1[i]) (by omega);rw[show(w.2.2.1[i].1,w.2.2.1[i].2.1,w.2.2.1[i].2.2.1,())=w.2.2.1[i]from rfl,OC hw.1 hw.2];simp only[AD];rw[ALC c2,ih (i+1) _ (by omega) (by omega) (by simp_all),ANi];rfl
  ·have:=AOB h n 0 DX [] (by omega) (by omega) (by simp)
   grind
theorem ba:MG w=some ((((),w.2.1,(),(),(),w.2.2.2.2.2.1,(),(),(),(),w.2.2.2.2.2.2.2.2.2.2.1,()),()),(w.1,w.2.2.1,w.2.2.2.1,w.2.2.2.2.1,w.2.2.2.2.2.2.1,w.2.2.2.2.2.2.2.1,w.2.2.2.2.2.2.2.2.1,w.2.2.2.2.2.2.2.2.2.1,())):=by
 have tu:=h.SW;have hl:=h.lens;unfold MG Ql;have:=AOj h AY 0 [] (by omega) (AQ3 (Aa (by omega))) (by simp);rw[show((0:Nat):Int)=0 from rfl,APq,AOu]at this;rw[ALC (by rw[An];omega),ALC (by rw[An];omega),show(w.2.2.2.2.1,w.2.2.2.2.2.1,())=(CJ w)from rfl,Ss (by show AU Bb w.2.2.2.2.1≤_;omega)];simp only[AD];rw[ALC (by rw[An];omega)];exact this
end
end Go.M
end
section
set_option maxRecDepth 8000
namespace Go.M
open Go.M.H (AK AO Ax Al AA Cp AN A6 AQ Aj Bc A7 Br Ai B5 AU AW AX Ag Bb As Am A0 D8 CG Ct C3)
def xF(q:AA×Int):bZ:=(((((),q.1.2.1,(),(),(),q.1.2.2.2.2.2.1,(),(),(),(),q.1.2.2.2.2.2.2.2.2.2.2.1,()),q.2,()),()),(q.1.1,q.1.2.2.1,q.1.2.2.2.1,q.1.2.2.2.2.1,q.1.2.2.2.2.2.2.1,q.1.2.2.2.2.2.2.2.1,q.1.2.2.2.2.2.2.2.2.1,q.1.2.2.2.2.2.2.2.2.2.1,()))
def AOT(q:AA×Int):dp:=(((((),q.1.2.1,(),(),(),q.1.2.2.2.2.2.1,(),(),(),(),q.1.2.2.2.2.2.2.2.2.2.2.1,()),q.2,()),()),(q.1.1,q.1.2.2.1,q.1.2.2.2.1,(),(),(),q.1.2.2.2.2.2.2.2.2.1,q.1.2.2.2.2.2.2.2.2.2.1,q.1.2.2.2.2.1,q.1.2.2.2.2.2.2.1,q.1.2.2.2.2.2.2.2.1,()))
def ADj(q:AA×Int):Kq:=(((((),q.1.2.1,(),(),(),q.1.2.2.2.2.2.1,(),(),(),(),q.1.2.2.2.2.2.2.2.2.2.2.1,()),q.2,()),()),(q.1.1,q.1.2.2.1,q.1.2.2.2.1,q.1.2.2.2.2.1,q.1.2.2.2.2.2.2.1,q.1.2.2.2.2.2.2.2.1,q.1.2.2.2.2.2.2.2.2.1,(),q.1.2.2.2.2.2.2.2.2.2.1,()))
def sW(q:AA×Int):JJ:=(((((),q.1.2.1,(),(),(),q.1.2.2.2.2.2.1,(),(),(),(),q.1.2.2.2.2.2.2.2.2.2.2.1,()),q.2,()),()),(q.1.1,q.1.2.2.1,(),q.1.2.2.2.2.1,q.1.2.2.2.2.2.2.1,q.1.2.2.2.2.2.2.2.1,q.1.2.2.2.2.2.2.2.2.1,q.1.2.2.2.2.2.2.2.2.2.1,q.1.2.2.2.1,()))
def AP4(q:AA×Int):dZ:=(((((),q.1.2.1,(),(),(),q.1.2.2.2.2.2.1,(),(),(),(),q.1.2.2.2.2.2.2.2.2.2.2.1,()),q.2,()),()),(q.1.1,q.1.2.2.1,q.1.2.2.2.1,q.1.2.2.2.2.1,q.1.2.2.2.2.2.2.1,(),q.1.2.2.2.2.2.2.2.2.1,q.1.2.2.2.2.2.2.2.2.2.1,q.1.2.2.2.2.2.2.2.1,()))
def AHf(q:AA×Int):bj:=(((((),q.1.2.1,(),(),(),q.1.2.2.2.2.2.1,(),(),(),(),q.1.2.2.2.2.2.2.2.2.2.2.1,()),q.2,()),()),(q.1.1,q.1.2.2.1,q.1.2.2.2.1,(),q.1.2.2.2.2.2.2.1,(),q.1.2.2.2.2.2.2.2.2.1,q.1.2.2.2.2.2.2.2.2.2.1,q.1.2.2.2.2.1,q.1.2.2.2.2.2.2.2.1,()))
def ABu(q:AA×Int):OW:=(((((),q.1.2.1,(),(),(),q.1.2.2.2.2.2.1,(),(),(),(),q.1.2.2.2.2.2.2.2.2.2.2.1,()),q.2,()),()),(q.1.1,q.1.2.2.1,q.1.2.2.2.1,q.1.2.2.2.2.1,(),q.1.2.2.2.2.2.2.2.1,q.1.2.2.2.2.2.2.2.2.1,q.1.2.2.2.2.2.2.2.2.2.1,q.1.2.2.2.2.2.2.1,()))
def ALp(q:AA×Int):im:=(((((),q.1.2.1,(),(),(),q.1.2.2.2.2.2.1,(),(),(),(),q.1.2.2.2.2.2.2.2.2.2.2.1,()),q.2,()),()),(q.1.1,q.1.2.2.1,(),(),(),(),q.1.2.2.2.2.2.2.2.2.1,(),q.1.2.2.2.1,q.1.2.2.2.2.1,q.1.2.2.2.2.2.2.1,q.1.2.2.2.2.2.2.2.1,q.1.2.2.2.2.2.2.2.2.2.1,()))
theorem Fq{α:Type}{x y:α}:(if(!true)=true then x else y)=y:=rfl
theorem Ic{α:Type}{x y:α}:(if(!false)=true then x else y)=x:=rfl
structure AYO (w:AA):Prop where
 c:w.1.length≤8
 st:w.2.2.1.length=w.1.length
 lost:w.2.2.2.1.length≤8
 era:AU Bb w.2.2.2.2.1≤270
 aj:w.2.2.2.2.1.length≤30
 trim:Ce w.2.2.2.2.2.1
 wr:w.2.2.2.2.2.2.1.length≤4
 md:w.2.2.2.2.2.2.2.1.length≤1
 rd:w.2.2.2.2.2.2.2.2.1.length=2
 se:w.2.2.2.2.2.2.2.2.2.1.length≤120
 ws:AU Ai w.2.2.1≤80008
 ww:AU Am w.2.2.2.2.2.2.1≤12004
 iK:w.AR.length≤4
 gv:w.BG.length=w.1.length
 Jt:w.lost.length≤8
theorem On.nums{w:AA}(h:On w):AYO w where
 c:=(Dw h.cfg).2.1
 st:=h.qD
 lost:=G2 h.lost
 era:=h.mC.w
 aj:=h.mC.n
 trim:=h.mC.tin
 wr:=h.qu
 md:=h.vK
 rd:=h.mS
 se:=h.Q3
 ws:=by
  have:=D6 (f:=Ai) (B:=10000) (N:=8) (l:=w.BG) (by rw[h.qD];exact(Dw h.cfg).2.1) fun s hs=>(h.UR hs).w
  omega
 ww:=by
  have:=D6 (f:=Am) (B:=3000) h.qu fun x hx=>(h.AR x hx).1.w
  omega
 iK:=h.qu
 gv:=h.qD
 Jt:=G2 h.lost
section
variable{w:AA} (h:On w)
include h
theorem On.dm{a:Int}(ha:BF a 0 ((w.AR.length:Int)-1)=true):(0≤a∧a<(w.2.2.2.2.2.2.1.length:Int))∧bF (Ac w) (w.AR.getD a.toNat CM)∧AU As (w.AR.getD a.toNat CM).2.1≤3000:=by
 have:=Ak.1 ha;have hi:a.toNat<w.AR.length:=by omega
 have hx:=(h.AR _ (BU (d:=CM) hi)).1;refine⟨?_,hx,hx.w⟩
 (try simp only[H.AA.BG,H.AA.lost,H.AA.A8,H.AA.trim,H.AA.AR,H.AA.CB,H.AA.Af,H.AA.CK,H.AA.IL,H.AA.CD,H.AA.Ez,H.AA.Ik,H.AA.BZ,H.AA.Cq,H.AA.C2,H.AA.DT,H.AA.FM,CJ,Ac]at*)
 omega
theorem GX{e:Int}:(Bd (CJ w).1 e).length≤8:=by
 unfold Bd;split
 ·rename_i he
  have he':=Ak.1 he;exact G2 (Uv (h.mC.A8 _ (BU (d:=Gt) (by omega))).1)
 ·simp
theorem mR{d:Br}:V8 w.2.1 w.2.2.2.2.2.1 w.2.2.2.2.2.2.2.2.2.2.1 d w.1 w.2.2.1 w.2.2.2.1 w.2.2.2.2.1 w.2.2.2.2.2.2.1 w.2.2.2.2.2.2.2.1 w.2.2.2.2.2.2.2.2.1 w.2.2.2.2.2.2.2.2.2.1=some (AOT (We w d.2.1)):=by
 have k:=h.nums;have k1:=k.c;have k2:=k.wr;unfold V8 We;rw[C9];by_cases h4:w.2.2.2.2.2.2.1.length=4
 ·rw[ALC (by omega),ALC h4];rfl
 have hm:(BH d.2.1).length≤8:=by
  unfold BH;split
  ·exact AQL (AQM _ _) (by simp)
  ·simp
 rw[ALG (by omega),ALG h4,Yj];simp only[AD];rw[show(w.1,w.2.1,())=Ac w from rfl,show(w.2.2.2.2.1,w.2.2.2.2.2.1,())=CJ w from rfl,b_ (c:=Ac w) (r:=CJ w) (by show w.1.length≤_;omega) (by have:=k.era;show AU Bb w.2.2.2.2.1≤_;omega) k.trim (by omega)];simp only[AD,Au];rcases AK_ (Ie (Ac w) (CJ w) (BH d.2.1)).2.2 with hq|hq
 ·rw[hq,ALC (by rw[An];omega),Fq];rfl
 ·rw[hq,Ic];rfl
theorem ju{d:Br}:T_ w.2.1 w.2.2.2.2.2.1 w.2.2.2.2.2.2.2.2.2.2.1 d w.1 w.2.2.1 w.2.2.2.1 w.2.2.2.2.1 w.2.2.2.2.2.2.1 w.2.2.2.2.2.2.2.1 w.2.2.2.2.2.2.2.2.1 w.2.2.2.2.2.2.2.2.2.1=some (xF (Sy w d.2.1 d.2.2.1 d.2.2.2.1)):=by
 have k:=h.nums;have k1:=k.c;have k2:=k.wr;have k3:=k.lost;have k4:=k.st;have bD:=k.iK;have gq:=k.Jt;have jU:=k.gv;have k5:=k.era;unfold T_ Sy;rw[show(w.1,w.2.1,w.2.2.1,w.2.2.2.1,w.2.2.2.2.1,w.2.2.2.2.2.1,w.2.2.2.2.2.2.1,w.2.2.2.2.2.2.2.1,w.2.2.2.2.2.2.2.2.1,w.2.2.2.2.2.2.2.2.2.1,w.2.2.2.2.2.2.2.2.2.2.1,())=w from rfl,Sd (by omega),II (by omega) (by omega)];simp only[AD,Au,Co];rcases AK_ (BF d.2.1 0 ((w.AR.length:Int)-1))with h1|h1
 rotate_left
 ·rw[h1,Ic];rfl
 obtain⟨x1,x2,x3⟩:=h.dm h1;rw[h1,ANZ,Fq,ALC x1,BQ];simp only[AD]
 generalize hx:w.AR.getD d.2.1.toNat CM=x at*
 rcases AK_ (BF d.2.2.1 1 (x.2.1.length:Int))with h2|h2
 rotate_left
 ·rw[h2,Ic];rfl
 have h2':=Ak.1 h2;rw[h2,ANZ,Fq];by_cases h3:Aw w d.2.2.2.1=0
 rotate_left
 ·rw[ALG h3,ALC h3];rfl
 rw[ALC h3,ALG (show¬(Aw w d.2.2.2.1≠0)from fun hh=>hh h3)];obtain⟨n1,n2,n3⟩:=Pn h3;have n2':d.2.2.2.1<(w.2.2.1.length:Int):=n2;have hxl:=x2.n;have hxe:=x2.ep;rw[show(w.2.2.2.2.1,w.2.2.2.2.2.1,())=CJ w from rfl,E9 (r:=CJ w) (by show AU Bb w.2.2.2.2.1≤_;omega)];have Uj:(Bd w.A8 x.1).length≤8:=GX h;have hr:0≤d.2.2.2.1∧d.2.2.2.1<(w.2.2.1.length:Int):=⟨n1,n2'⟩;rw[show(CJ w).1=w.A8 from rfl];simp only[AD,ALC hr];rw[KS (by omega),AH (by omega) (by omega),ALC (by omega),Ff (by omega) (by omega)];simp only[AD];have an:w.2.2.1.getD d.2.2.2.1.toNat ([],[],0,())=storeAt w d.2.2.2.1:=rfl;have hso:=h.store h3;have wR:=JE (e:=x.1) (o:=d.2.2.1) hxe (by omega);rw[an,show((storeAt w d.2.2.2.1).1,(storeAt w d.2.2.2.1).2.1,(storeAt w d.2.2.2.1).2.2.1,())=storeAt w d.2.2.2.1 from rfl,Ti (by have:=hso.w;omega) hso.sin (Gd wR.1)];simp only[AD,gp,putAt];rcases AK_ ((Bd w.A8 x.1).contains d.2.2.2.1)with h5|h5
 rotate_left
 ·rw[h5,Ic];rfl
 rw[h5,Fq,ANZ];have hwd:(x.2.1.getD (d.2.2.1-1).toNat ([],[],false,()))=x.2.1.getD (d.2.2.1-1).toNat MA:=rfl;rw[hwd];rcases AK_ (G8 (storeAt w d.2.2.2.1) (HB x.1 d.2.2.1,0,false,(x.2.1.getD (d.2.2.1-1).toNat MA).1,())).2 with h6|h6
 rotate_left
 ·rw[h6];rfl
 rw[h6,ANZ,ALC rfl];rfl
end
end Go.M
end
section
set_option maxRecDepth 8000
namespace Go.M
open Go.M.H (AK AO Ax Al AA Cp AN A6 AQ Aj Bc A7 Br Ai B5 AU AW AX Ag Bb As Am A0 D8 CG Ct C3)
theorem eT{α:Type}{f:α→Nat}{p:α→Bool}:∀{l:List α},AU f (l.filter p)≤AU f l
 |[]=>APM _
 |x::l=>by
  have:=eT (f:=f) (p:=p) (l:=l);grind[AU]
theorem p8{s:AO}{u:Int}(hs:bQ s):bQ (Bk s u).1:=by
 rcases AK_ (Bk s u).2 with hq|hq
 ·exact(jJ hq).2.1
 ·have:(Bk s u).1=s:=by
   unfold Bk at*;rw[DF.2 hs]at*;grind
  simp_all
section
variable{w:AA} (h:On w)
include h
theorem On.L7{n:Int}(hn:Aw w n=0):(0≤n∧n<(w.2.2.1.length:Int))∧Ai (storeAt w n)≤2^30∧iS (storeAt w n)∧bQ (storeAt w n):=by
 obtain⟨n1,n2,n3⟩:=Pn hn;have:=(h.store hn).w;exact⟨⟨n1,n2⟩,by omega,(h.store hn).sin,h.store hn⟩
theorem jx{d:Br}:UN w.2.1 w.2.2.2.2.2.1 w.2.2.2.2.2.2.2.2.2.2.1 d w.1 w.2.2.1 w.2.2.2.1 w.2.2.2.2.1 w.2.2.2.2.2.2.1 w.2.2.2.2.2.2.2.1 w.2.2.2.2.2.2.2.2.1 w.2.2.2.2.2.2.2.2.2.1=some (xF (if d.1=16 then RX w d.2.1 else RW w d.2.1 d.2.2.1)):=by
 have k:=h.nums;have k1:=k.c;have k2:=k.wr;have k3:=k.lost;have k4:=k.st;have bD:=k.iK;have gq:=k.Jt;have jU:=k.gv;have k5:=k.era;unfold UN RX RW;rw[show(w.1,w.2.1,w.2.2.1,w.2.2.2.1,w.2.2.2.2.1,w.2.2.2.2.2.1,w.2.2.2.2.2.2.1,w.2.2.2.2.2.2.2.1,w.2.2.2.2.2.2.2.2.1,w.2.2.2.2.2.2.2.2.2.1,w.2.2.2.2.2.2.2.2.2.2.1,())=w from rfl,II (by omega) (by omega)];simp only[AD,Au,Co,C9];by_cases h3:Aw w d.2.1=0
 rotate_left
 ·rw[ALG h3]
  by_cases h16:d.1=16
  ·rw[ALC h16,ALC h3];rfl
  ·rw[ALG h16,ALC h3];rfl
 obtain⟨hr,s1,s2,s3⟩:=h.L7 h3;have an:w.2.2.1.getD d.2.1.toNat ([],[],0,())=storeAt w d.2.1:=rfl;have hn3: ¬(Aw w d.2.1≠0):=fun hh=>hh h3
 rw[ALC h3];simp only[ALC hr,an,ALG hn3];rw[show((storeAt w d.2.1).1,(storeAt w d.2.1).2.1,(storeAt w d.2.1).2.2.1,())=storeAt w d.2.1 from rfl,Wz s1 s2,iz s1 s2 k.trim];simp only[AD,gp,putAt];by_cases h16:d.1=16
 ·rw[ALC h16,ALC h16]
  rcases AK_ (I7 (storeAt w d.2.1) w.2.2.2.2.2.1).2 with h6|h6
  ·rw[h6];rfl
  ·rw[h6];rfl
 ·rw[ALG h16,ALG h16]
  rcases AK_ (Fl (storeAt w d.2.1) d.2.2.1).2 with h6|h6
  ·rw[h6];rfl
  ·rw[h6];rfl
theorem mf{d:Br}:WN w.2.1 w.2.2.2.2.2.1 w.2.2.2.2.2.2.2.2.2.2.1 d w.1 w.2.2.1 w.2.2.2.1 w.2.2.2.2.1 w.2.2.2.2.2.2.1 w.2.2.2.2.2.2.2.1 w.2.2.2.2.2.2.2.2.1 w.2.2.2.2.2.2.2.2.2.1=some (sW (Xd w d.2.1)):=by
 have k:=h.nums;have k1:=k.c;have k2:=k.wr;have k3:=k.lost;have k4:=k.st;have bD:=k.iK;have gq:=k.Jt;have jU:=k.gv;have k5:=k.era;have k6:=k.ws;have k6':AU Ai w.BG≤80008:=k.ws;have k7:=k.aj;unfold WN Xd;rw[KS (by omega)];simp only[AD,Au];rcases AK_ (w.2.2.2.1.contains d.2.1)with h1|h1
 rotate_left
 ·rw[h1];rfl
 rw[h1,Fq,ANZ,AH (by omega) (by omega),Iv];simp only[AD];rw[show(w.1,w.2.1,())=Ac w from rfl,sK (c:=Ac w) (by show w.1.length≤_;omega) (by omega) (fun s hs=>by have:=(h.UR hs).nk;omega) (by omega) (fun s hs=>(h.UR hs).sin) (by omega)];simp only[AD,pkF];rcases AK_ (Z5 (Ac w) w.2.2.1 w.2.2.2.1 d.2.1 (max ((w.2.2.2.2.1.length:Int)-1) 0)).2 with h2|h2
 rotate_left
 ·rw[h2];rfl
 have hm:d.2.1∈w.lost:=by
  simp_all
 have hn:=(EY.1 h.lost).2.1 d.2.1 hm;have hn':d.2.1<(w.1.length:Int):=hn.2;rw[h2,ANZ,Fq,ALC (show 0≤d.2.1∧d.2.1<(w.2.2.1.length:Int)from⟨hn.1,by omega⟩),JI (by omega) (by simp)];rfl
theorem mm:WO w.2.1 w.2.2.2.2.2.1 w.2.2.2.2.2.2.2.2.2.2.1 w.1 w.2.2.1 w.2.2.2.1 w.2.2.2.2.1 w.2.2.2.2.2.2.1 w.2.2.2.2.2.2.2.1 w.2.2.2.2.2.2.2.2.1 w.2.2.2.2.2.2.2.2.2.1=some (AP4 (Xb w)):=by
 have k:=h.nums;have k1:=k.c;have k2:=k.wr;have k3:=k.lost;have k4:=k.st;have bD:=k.iK;have gq:=k.Jt;have jU:=k.gv;have k5:=k.era;have k7:=k.aj;unfold WO Xb;rw[show(w.2.2.2.2.1,w.2.2.2.2.2.1,())=CJ w from rfl,Ny (r:=CJ w) (by show w.2.2.2.2.1.length≤_;omega)];simp only[AD,C9,AB];rw[show(CJ w).1=w.A8 from rfl];by_cases h1:(w.2.2.2.2.1.length:Int)<2
 ·rw[ALC h1,show(decide ((w.2.2.2.2.1.length:Int)<2)||decide (BC w.2.2.2.2.1=(w.2.2.2.2.1.length:Int)))=true by simp_all];rfl
 rw[ALG h1];by_cases h2:BC w.2.2.2.2.1=(w.2.2.2.2.1.length:Int)
 ·rw[ALC h2,show(decide ((w.2.2.2.2.1.length:Int)<2)||decide (BC w.2.2.2.2.1=(w.2.2.2.2.1.length:Int)))=true by simp_all];rfl
 rw[ALG h2,show(decide ((w.2.2.2.2.1.length:Int)<2)||decide (BC w.2.2.2.2.1=(w.2.2.2.2.1.length:Int)))=false by simp_all];rw[ALG (show¬(false=true)by simp)];by_cases h3:w.2.2.2.2.2.2.2.1.length>0
 ·rw[ALC (by omega),ALC h3];rfl
 ·rw[ALG (by omega),ALG h3];rfl
theorem lz{d:Br}:WS w.2.1 w.2.2.2.2.2.1 w.2.2.2.2.2.2.2.2.2.2.1 d w.1 w.2.2.1 w.2.2.2.1 w.2.2.2.2.1 w.2.2.2.2.2.2.1 w.2.2.2.2.2.2.2.1 w.2.2.2.2.2.2.2.2.1 w.2.2.2.2.2.2.2.2.2.1=some (xF (W0 w d.2.1)):=by
 have k:=h.nums;have k1:=k.c;have k2:=k.wr;have k3:=k.lost;have k4:=k.st;have bD:=k.iK;have gq:=k.Jt;have jU:=k.gv;have k5:=k.era;unfold WS W0;rcases hm:w.CB with _|⟨m,ms⟩
 ·rw[C9,ALC (by simp_all)];rfl
 have Xw:w.2.2.2.2.2.2.2.1=m::ms:=hm;have wA:w.2.2.2.2.2.2.2.1.length=ms.length+1:=by simp_all
 have g0:w.2.2.2.2.2.2.2.1.getD 0 (0,0,[],[],false,[],())=m:=by simp_all
 have wQ:(0:Int)≤(0:Int)∧(0:Int)<(w.2.2.2.2.2.2.2.1.length:Int):=by omega
 have ZS:=(h.CB m (by simp_all)).1;have xy:=ZS.w;have hme:=ZS.ep;have hmb:=ZS.b;simp only[C9,Au,Co,ALC wQ,g0];rw[ALG (by omega)];rw[show(w.1,w.2.1,w.2.2.1,w.2.2.2.1,w.2.2.2.2.1,w.2.2.2.2.2.1,w.2.2.2.2.2.2.1,w.2.2.2.2.2.2.2.1,w.2.2.2.2.2.2.2.2.1,w.2.2.2.2.2.2.2.2.2.1,w.2.2.2.2.2.2.2.2.2.2.1,())=w from rfl,II (by omega) (by omega),show(w.2.2.2.2.1,w.2.2.2.2.2.1,())=CJ w from rfl,E9 (r:=CJ w) (by show AU Bb w.2.2.2.2.1≤_;omega)];have Uj:(Bd w.A8 m.2.1).length≤8:=GX h;rw[show(CJ w).1=w.A8 from rfl];simp only[AD];rw[KS (by omega)];simp only[AD];by_cases h3:Aw w d.2.1=0
 rotate_left
 ·rw[ALG h3,ALC h3];rfl
 obtain⟨hr,s1,s2,s3⟩:=h.L7 h3;have an:w.2.2.1.getD d.2.1.toNat ([],[],0,())=storeAt w d.2.1:=rfl;have hn3: ¬(Aw w d.2.1≠0):=fun hh=>hh h3
 rw[ALC h3,ALG hn3];simp only[ALC hr,an];rcases AK_ ((Bd w.A8 m.2.1).contains d.2.1)with h5|h5
 rotate_left
 ·rw[h5,Ic];rfl
 rw[h5,Fq,ANZ,AH (by omega) (by omega),show((storeAt w d.2.1).1,(storeAt w d.2.1).2.1,(storeAt w d.2.1).2.2.1,())=storeAt w d.2.1 from rfl,YJ s1 s2];have hq:=p8 (u:=m.1-1) s3;have hqw:=hq.w;simp only[AD,gp];rw[show((Bk (storeAt w d.2.1) (m.1-1)).1.1,(Bk (storeAt w d.2.1) (m.1-1)).1.2.1,(Bk (storeAt w d.2.1) (m.1-1)).1.2.2.1,())=(Bk (storeAt w d.2.1) (m.1-1)).1 from rfl,Zm (by omega) hq.sin];simp only[AD];have hes:(GS (Bk (storeAt w d.2.1) (m.1-1)).1 m.2.1).length≤200∧eo (GS (Bk (storeAt w d.2.1) (m.1-1)).1 m.2.1)∧AU Ag (GS (Bk (storeAt w d.2.1) (m.1-1)).1 m.2.1)≤10000:=by
  unfold GS;rw[DF.2 hq,ALC rfl];refine⟨AQL (AQM _ _) hq.nk,fun e he=>hq.sin.1 e (AQ7.1 he).1,AQL eT ?_⟩;have:Ai (Bk (storeAt w d.2.1) (m.1-1)).1=AU Ag (Bk (storeAt w d.2.1) (m.1-1)).1.1+AU Ag (Bk (storeAt w d.2.1) (m.1-1)).1.2.1:=rfl;omega
 rw[show(m.1,m.2.1,m.2.2.1,m.2.2.2.1,m.2.2.2.2.1,m.2.2.2.2.2.1,())=m from rfl,show(w.1,w.2.1,())=Ac w from rfl,Zk (c:=Ac w) (by show w.1.length≤_;omega) (by omega) ZS.wG (by omega) hes.2.1 (by omega)];simp only[AD,fL];rcases AK_ (Bk (storeAt w d.2.1) (m.1-1)).2 with h6|h6
 rotate_left
 ·rw[h6,AQR,AUy,ALC rfl];rfl
 rw[h6,ALW,AQW];rcases AK_ (OS (Ac w) m d.2.1 (GS (Bk (storeAt w d.2.1) (m.1-1)).1 m.2.1)).2 with h7|h7
 rotate_left
 ·rw[h7,Ic];rfl
 rw[h7,Fq,ANZ,ANZ,Xw];rfl
theorem mj:V5 w.2.1 w.2.2.2.2.2.1 w.2.2.2.2.2.2.2.2.2.2.1 w.1 w.2.2.1 w.2.2.2.1 w.2.2.2.2.1 w.2.2.2.2.2.2.1 w.2.2.2.2.2.2.2.1 w.2.2.2.2.2.2.2.2.1 w.2.2.2.2.2.2.2.2.2.1=some (xF (XN w)):=by
 have k:=h.nums;have k1:=k.c;have k2:=k.wr;have k3:=k.lost;have k4:=k.st;have bD:=k.iK;have gq:=k.Jt;have jU:=k.gv;have k5:=k.era;unfold V5 XN;rcases hm:w.CB with _|⟨m,ms⟩
 ·rw[C9,ALC (by simp_all)];rfl
 have Xw:w.2.2.2.2.2.2.2.1=m::ms:=hm;have wA:w.2.2.2.2.2.2.2.1.length=ms.length+1:=by simp_all
 have g0:w.2.2.2.2.2.2.2.1.getD 0 (0,0,[],[],false,[],())=m:=by simp_all
 have wQ:(0:Int)≤(0:Int)∧(0:Int)<(w.2.2.2.2.2.2.2.1.length:Int):=by omega
 have ZS:=(h.CB m (by simp_all)).1;have xy:=ZS.w;have hme:=ZS.ep;have hmb:=ZS.b;simp only[C9,Au,Co,ALC wQ,g0];rw[ALG (by omega)];rw[show(w.2.2.2.2.1,w.2.2.2.2.2.1,())=CJ w from rfl,E9 (r:=CJ w) (by show AU Bb w.2.2.2.2.1≤_;omega)];have Uj:(Bd w.A8 m.2.1).length≤8:=GX h;rw[show(CJ w).1=w.A8 from rfl];simp only[AD];rw[show(m.1,m.2.1,m.2.2.1,m.2.2.2.1,m.2.2.2.2.1,m.2.2.2.2.2.1,())=m from rfl,show(w.1,w.2.1,())=Ac w from rfl,Z4 (c:=Ac w) (by show w.1.length≤_;omega) (by omega) ZS.wG (by omega)];simp only[AD,fL];rcases AK_ (Ld (Ac w) m (Bd w.A8 m.2.1)).2 with h7|h7
 rotate_left
 ·rw[h7,Ic];rfl
 rw[h7,Fq,ANZ,Xw];rfl
theorem nv{d:Br}:Ya w.2.1 w.2.2.2.2.2.1 w.2.2.2.2.2.2.2.2.2.2.1 d w.1 w.2.2.1 w.2.2.2.1 w.2.2.2.2.1 w.2.2.2.2.2.2.1 w.2.2.2.2.2.2.2.1 w.2.2.2.2.2.2.2.2.1 w.2.2.2.2.2.2.2.2.2.1=some (xF (cc w d.2.2.1 d.2.2.2.1)):=by
 have k:=h.nums;have k1:=k.c;have k2:=k.wr;have k3:=k.lost;have k4:=k.st;have bD:=k.iK;have gq:=k.Jt;have jU:=k.gv;have k5:=k.era;unfold Ya cc;rcases hm:w.CB with _|⟨m,ms⟩
 ·rw[C9,ALC (by simp_all)];rfl
 have Xw:w.2.2.2.2.2.2.2.1=m::ms:=hm;have wA:w.2.2.2.2.2.2.2.1.length=ms.length+1:=by simp_all
 have g0:w.2.2.2.2.2.2.2.1.getD 0 (0,0,[],[],false,[],())=m:=by simp_all
 have wQ:(0:Int)≤(0:Int)∧(0:Int)<(w.2.2.2.2.2.2.2.1.length:Int):=by omega
 have ZS:=(h.CB m (by simp_all)).1;have xy:=ZS.w;have hme:=ZS.ep;have hmb:=ZS.b;simp only[C9,Au,Co,ALC wQ,g0];rw[ALG (by omega)];rw[show(m.1,m.2.1,m.2.2.1,m.2.2.2.1,m.2.2.2.2.1,m.2.2.2.2.2.1,())=m from rfl,Ys (m:=m) (by omega),show(w.1,w.2.1,w.2.2.1,w.2.2.2.1,w.2.2.2.2.1,w.2.2.2.2.2.1,w.2.2.2.2.2.2.1,w.2.2.2.2.2.2.2.1,w.2.2.2.2.2.2.2.2.1,w.2.2.2.2.2.2.2.2.2.1,w.2.2.2.2.2.2.2.2.2.2.1,())=w from rfl,II (by omega) (by omega),show(w.2.2.2.2.1,w.2.2.2.2.2.1,())=CJ w from rfl,E9 (r:=CJ w) (by show AU Bb w.2.2.2.2.1≤_;omega)];have Uj:(Bd w.A8 m.2.1).length≤8:=GX h;rw[show(CJ w).1=w.A8 from rfl];simp only[AD];rw[KS (by omega)];simp only[AD];have TQ:∀e,EU m d.2.2.1=some e→Ce e.1:=fun e he=>by
  unfold EU at he;split at he
  ·rename_i hc
   simp only[ALo,Ak]at hc;grind[JE,Gd]
  simp_all
 cases he:EU m d.2.2.1 with
 |none=>rfl
 |some e=>
 simp only[AQe,ANZ,AQg];by_cases h3:Aw w d.2.2.2.1=0
 rotate_left
 ·rw[ALG h3,ALC h3];rfl
 obtain⟨hr,s1,s2,s3⟩:=h.L7 h3;have an:w.2.2.1.getD d.2.2.2.1.toNat ([],[],0,())=storeAt w d.2.2.2.1:=rfl;have hn3: ¬(Aw w d.2.2.2.1≠0):=fun hh=>hh h3
 rw[ALC h3,ALG hn3];simp only[ALC hr,an];rcases AK_ ((Bd w.A8 m.2.1).contains d.2.2.2.1)with h5|h5
 rotate_left
 ·rw[h5,Ic];rfl
 rw[h5,Fq,ANZ,show((storeAt w d.2.2.2.1).1,(storeAt w d.2.2.2.1).2.1,(storeAt w d.2.2.2.1).2.2.1,())=storeAt w d.2.2.2.1 from rfl,show(e.1,e.2.1,e.2.2.1,e.2.2.2.1,())=e from rfl,Ti s1 s2 (TQ e he)];simp only[AD,gp,putAt];rcases AK_ (G8 (storeAt w d.2.2.2.1) e).2 with h6|h6
 ·rw[h6];rfl
 ·rw[h6];rfl
theorem kt:UL w.2.1 w.2.2.2.2.2.1 w.2.2.2.2.2.2.2.2.2.2.1 w.1 w.2.2.1 w.2.2.2.1 w.2.2.2.2.1 w.2.2.2.2.2.2.1 w.2.2.2.2.2.2.2.1 w.2.2.2.2.2.2.2.2.1 w.2.2.2.2.2.2.2.2.2.1=some (AHf (RS w)):=by
 have k:=h.nums;have k1:=k.c;have k2:=k.wr;have k3:=k.lost;have k4:=k.st;have bD:=k.iK;have gq:=k.Jt;have jU:=k.gv;have k5:=k.era;unfold UL RS;rcases hm:w.CB with _|⟨m,ms⟩
 ·rw[C9,ALC (by simp_all)];rfl
 have Xw:w.2.2.2.2.2.2.2.1=m::ms:=hm;have wA:w.2.2.2.2.2.2.2.1.length=ms.length+1:=by simp_all
 have g0:w.2.2.2.2.2.2.2.1.getD 0 (0,0,[],[],false,[],())=m:=by simp_all
 have wQ:(0:Int)≤(0:Int)∧(0:Int)<(w.2.2.2.2.2.2.2.1.length:Int):=by omega
 have ZS:=(h.CB m (by simp_all)).1;have xy:=ZS.w;have hme:=ZS.ep;have hmb:=ZS.b;simp only[C9,Au,Co,ALC wQ,g0];rw[ALG (by omega)];rw[show(m.1,m.2.1,m.2.2.1,m.2.2.2.1,m.2.2.2.2.1,m.2.2.2.2.2.1,())=m from rfl,show(w.1,w.2.1,())=Ac w from rfl,jG (c:=Ac w) (by show w.1.length≤_;omega) (by omega) ZS.wG];simp only[AD];rcases AK_ (TX (Ac w) m)with h5|h5
 rotate_left
 ·rw[h5,Ic];rfl
 rw[h5,Fq,ANZ,show(w.2.2.2.2.1,w.2.2.2.2.2.1,())=CJ w from rfl,Zu (c:=Ac w) (r:=CJ w) (by show w.1.length≤_;omega) (by show AU Bb w.2.2.2.2.1≤_;omega) k.trim];simp only[AD,pkR];rcases AK_ (Mp (Ac w) (CJ w) m.1 m.2.2.2.2.2.1.length).2 with h6|h6
 ·rw[h6];rfl
 ·rw[h6];rfl
theorem mh{d:Br}:WR w.2.1 w.2.2.2.2.2.1 w.2.2.2.2.2.2.2.2.2.2.1 d w.1 w.2.2.1 w.2.2.2.1 w.2.2.2.2.1 w.2.2.2.2.2.2.1 w.2.2.2.2.2.2.2.1 w.2.2.2.2.2.2.2.2.1 w.2.2.2.2.2.2.2.2.2.1=some (xF (CY w d.2.1 d.2.2.1)):=by
 have k:=h.nums;have k1:=k.c;have k2:=k.wr;have k3:=k.lost;have k4:=k.st;have bD:=k.iK;have gq:=k.Jt;have jU:=k.gv;have k5:=k.era;have k6:=k.ws;have k6':AU Ai w.BG≤80008:=k.ws;have k7:=k.ww;have k8:=k.rd;unfold WR CY;rw[BQ];simp only[AD,Au,Co];rcases AK_ (BF d.2.1 0 1)with h1|h1
 rotate_left
 ·rw[h1];rfl
 have h1':=Ak.1 h1;have hr:0≤d.2.1∧d.2.1<(w.2.2.2.2.2.2.2.2.1.length:Int):=by omega
 have Hw:d.2.1.toNat<w.Af.length:=by
  simp_all
 have Xu:=h.Af _ (BU (d:=EX) Hw);simp only[ALC hr];rw[h1,Fq,ANZ,show(w.1,w.2.1,w.2.2.1,w.2.2.2.1,w.2.2.2.2.1,w.2.2.2.2.2.1,w.2.2.2.2.2.2.1,w.2.2.2.2.2.2.2.1,w.2.2.2.2.2.2.2.2.1,w.2.2.2.2.2.2.2.2.2.1,w.2.2.2.2.2.2.2.2.2.2.1,())=w from rfl]
 generalize hx:w.Af.getD d.2.1.toNat EX=r at*
 have hre:=Xu.ep;have hro:=Xu.off;rw[pg (by grind),show(r.1,r.2.1,r.2.2.1,())=r from rfl,fz (by omega) (by omega) (by omega) (by omega)];simp only[AD];have ha:∀a∈answers w (HB r.1 r.2.1) (BH d.2.2.1),Ce a.2.2.1:=fun a ha=>by
  unfold answers at ha;obtain⟨n,hn,rfl⟩:=AQ0.1 ha;have hn':Aw w n=0:=by simp_all
  unfold answer;split
  ·rename_i e he
   have:=(h.store hn').kept e (ATl he);exact Gd (FI.1 this).pl
  ·exact⟨by simp_all,by simp_all⟩
 have zm:(answers w (HB r.1 r.2.1) (BH d.2.2.1)).length≤8:=by
  unfold answers;rw[AQ6];refine AQL (AQM _ _) ?_
  unfold BH;split
  ·exact AQL (AQM _ _) (by simp)
  ·simp
 rw[show(w.1,w.2.1,())=Ac w from rfl,show(w.2.2.2.2.1,w.2.2.2.2.2.1,())=CJ w from rfl,fl (c:=Ac w) (g:=CJ w) (by show w.1.length≤_;omega) (by show AU Bb w.2.2.2.2.1≤_;omega) k.trim (by omega) ha];simp only[AD,xG];by_cases h2:(Ck (Ac w) (CJ w) (bN w r.1) r (answers w (HB r.1 r.2.1) (BH d.2.2.1))).2=0
 ·rw[ALC h2,ALG (fun hh=>hh h2)];rfl
 ·rw[ALG h2,ALC h2];rfl
end
end Go.M
end
section
set_option maxRecDepth 8000
namespace Go.M
open Go.M.H (AK AO Ax Al AA Cp AN A6 AQ Aj Bc A7 Br Ai B5 AU AW AX Ag Bb As Am A0 D8 CG Ct C3)
section
variable{w:AA} (h:On w)
include h
theorem AOm{ws:List AQ}{s:Al}:∀(n i:Nat) (t:Bool) (b:List Al),i≤w.2.2.2.2.2.2.2.2.2.1.length→w.2.2.2.2.2.2.2.2.2.1.length-i<n→b.length≤2*i+2→
  J8 n t i w.1 w.2.2.1 w.2.2.2.1 w.2.2.2.2.1 ws w.2.2.2.2.2.2.2.1 w.2.2.2.2.2.2.2.2.1 w.2.2.2.2.2.2.2.2.2.1 w.2.1 w.2.2.2.2.2.1 w.2.2.2.2.2.2.2.2.2.2.1 0 0 false [] [] [] [] [] [] [] [] s.1 s.2.1 s.2.2.1 b=some (ADj (((w.BZ ws).DT (b++(if t then w.2.2.2.2.2.2.2.2.2.1.drop i else dD s (w.2.2.2.2.2.2.2.2.2.1.drop i)))),0)):=by
 have k6:=h.nums.se;intro n
 induction n with
 |zero=>omega
 |succ n ih=>
  intro i t b hi hn hb;simp only[J8,Xp,AB,Au];have c2:b.length+1≤DA:=by rw[An];omega
  by_cases DG:i<w.2.2.2.2.2.2.2.2.2.1.length
  ·have c1:(0:Int)≤(i:Int)∧(i:Int)<(w.2.2.2.2.2.2.2.2.2.1.length:Int):=by omega
   have c3:(b++[(s.1,s.2.1,s.2.2.1,())]).length+1≤DA:=by grind[An]
   rw[ALC c1.2];simp only[ALC c1,ALC c2,ALC c3];rw[Ah DG,AH (by omega) (by omega),show((i:Int)+1)=((i+1:Nat):Int)by omega,drop_cons DG,show(w.2.2.2.2.2.2.2.2.2.1[i].1,w.2.2.2.2.2.2.2.2.2.1[i].2.1,w.2.2.2.2.2.2.2.2.2.1[i].2.2.1,())=w.2.2.2.2.2.2.2.2.2.1[i]from rfl];cases t with
   |true=>
    rw[ANZ,ih (i+1) true _ (by omega) (by omega) (by grind),ALC rfl,ALC rfl,ANi];rfl
   |false=>
    rw[AL5,ALG (show¬(false=true)by simp)];simp only[dD];by_cases hg:w.2.2.2.2.2.2.2.2.2.1[i].1>s.1
    ·rw[ALC hg,ALC hg,ih (i+1) true _ (by omega) (by omega) (by grind),ALC rfl,ANi,ANi]
     rfl
    ·rw[ALG hg,ALG hg,ih (i+1) false _ (by omega) (by omega) (by grind),ALG (show¬(false=true)by simp),ANi]
     rfl
  ·rw[ALG (by omega),AMG (by omega)]
   cases t with
   |true=>rw[ANZ,ALC rfl,ANI];rfl
   |false=>rw[AL5,ALC c2];rfl
theorem ARU{ws:List AQ}{s:Al}:∀(n i:Nat),i≤w.2.2.2.2.2.2.2.2.2.1.length→(w.2.2.2.2.2.2.2.2.2.1.length-i)+w.2.2.2.2.2.2.2.2.2.1.length+2≤n→
  L3 n i w.1 w.2.2.1 w.2.2.2.1 w.2.2.2.2.1 ws w.2.2.2.2.2.2.2.1 w.2.2.2.2.2.2.2.2.1 w.2.2.2.2.2.2.2.2.2.1 w.2.1 w.2.2.2.2.2.1 w.2.2.2.2.2.2.2.2.2.2.1 0 0 false [] [] [] [] [] [] [] [] s.1 s.2.1 s.2.2.1=some (ADj (if(w.2.2.2.2.2.2.2.2.2.1.drop i).any (fun x=>x.1==s.1)then(w.BZ ws,4)else(((w.BZ ws).DT (dD s w.2.2.2.2.2.2.2.2.2.1)),0))):=by
 have k6:=h.nums.se;intro n
 induction n with
 |zero=>omega
 |succ n ih=>
  intro i hi hn;simp only[L3,X5,AB,C9];by_cases DG:i<w.2.2.2.2.2.2.2.2.2.1.length
  ·have c1:(0:Int)≤(i:Int)∧(i:Int)<(w.2.2.2.2.2.2.2.2.2.1.length:Int):=by omega
   rw[ALC c1.2,ALC c1,Ah DG,AH (by omega) (by omega),show((i:Int)+1)=((i+1:Nat):Int)by omega,drop_cons DG,ih (i+1) (by omega) (by omega),List.any_cons];by_cases he:w.2.2.2.2.2.2.2.2.2.1[i].1=s.1
   ·rw[ALC he,show(w.2.2.2.2.2.2.2.2.2.1[i].1==s.1)=true by simp_all,AUy,ALC rfl]
    rfl
   ·rw[ALG he,show(w.2.2.2.2.2.2.2.2.2.1[i].1==s.1)=false by simp_all,AQW]
  ·have:=AOm h (ws:=ws) (s:=s) n 0 false [] (by omega) (by omega) (by simp)
   grind
theorem o8{d:Br}(hd:d.2.2.2.2.1.length≤40):∃w',Yp w.2.1 w.2.2.2.2.2.1 w.2.2.2.2.2.2.2.2.2.2.1 d w.1 w.2.2.1 w.2.2.2.1 w.2.2.2.2.1 w.2.2.2.2.2.2.1 w.2.2.2.2.2.2.2.1 w.2.2.2.2.2.2.2.2.1 w.2.2.2.2.2.2.2.2.2.1=some (ADj (w',(doAdd w d.2.1 d.2.2.2.2.1).2))∧((doAdd w d.2.1 d.2.2.2.2.1).2=0→w' =(doAdd w d.2.1 d.2.2.2.2.1).1):=by
 have k:=h.nums;have k1:=k.c;have k2:=k.wr;have k3:=k.lost;have k4:=k.st;have bD:=k.iK;have gq:=k.Jt;have jU:=k.gv;have k5:=k.era;unfold Yp YX doAdd;rw[show(w.1,w.2.1,w.2.2.1,w.2.2.2.1,w.2.2.2.2.1,w.2.2.2.2.2.1,w.2.2.2.2.2.2.1,w.2.2.2.2.2.2.2.1,w.2.2.2.2.2.2.2.2.1,w.2.2.2.2.2.2.2.2.2.1,w.2.2.2.2.2.2.2.2.2.2.1,())=w from rfl,Sd (by omega)];simp only[AD,Au,C9];rcases AK_ (BF d.2.1 0 ((w.AR.length:Int)-1))with h1|h1
 rotate_left
 ·rw[h1];exact⟨w,rfl,fun _=>rfl⟩
 obtain⟨x1,x2,x3⟩:=h.dm h1;simp only[h1,ANZ,Fq,ALC x1]
 generalize hx:w.AR.getD d.2.1.toNat CM=x at*
 rw[show(x.1,x.2.1,())=x from rfl,show(w.1,w.2.1,())=Ac w from rfl,iH (c:=Ac w) (w:=x) (by show w.1.length≤_;omega) (by omega) (by omega)];simp only[AD];rcases AK_ (B9 (Ac w) x d.2.2.2.2.1).2.2 with h2|h2
 rotate_left
 ·rw[h2];exact⟨w,rfl,fun _=>rfl⟩
 obtain⟨_,r1,r2,r3⟩:=bP h2;rw[r2]at r1;have hnn:=r1.n;simp only[AOc,AN2,APp]at hnn;have hxe:=x2.ep;rw[h2,ANZ,r3,r2];rw[Ff (by omega) (by omega)];simp only[AD,ALW,AQW];by_cases h3:w.2.2.2.2.2.2.2.2.2.1.length=120
 ·rw[ALC (by omega),show decide (w.CK.length=120)=true from APl h3,AUy,ALC rfl];exact⟨w,rfl,fun hh=>by rfl⟩
 have:=ARU h (ws:=w.AR.set d.2.1.toNat (x.1,x.2.1++[(d.2.2.2.2.1,[],false,())],())) (s:=(HB x.1 ((x.2.1.length:Int)+1),d.2.2.2.2.1,false,())) AY 0 (by omega) (AQ3 (Aa (by have:=h.nums.se;omega)));grind
end
end Go.M
end
section
set_option maxRecDepth 8000
namespace Go.M
open Go.M.H (AK AO Ax Al AA Cp AN A6 AQ Aj Bc A7 Br Ai B5 AU AW AX Ag Bb As Am A0 D8 CG Ct C3)
section
variable{w:AA} (h:On w)
include h
theorem ALl{d:Br}{a:Nat}(ha:d.2.1=(a:Int)):∀(n i:Nat) (b:List AQ),i≤w.2.2.2.2.2.2.1.length→w.2.2.2.2.2.2.1.length-i<n→b.length≤i→
  M0 n i w.1 w.2.2.1 w.2.2.2.1 w.2.2.2.2.1 w.2.2.2.2.2.2.1 w.2.2.2.2.2.2.2.1 w.2.2.2.2.2.2.2.2.1 w.2.2.2.2.2.2.2.2.2.1 w.2.1 w.2.2.2.2.2.1 w.2.2.2.2.2.2.2.2.2.2.1 d.1 d.2.1 d.2.2.1 d.2.2.2.1 d.2.2.2.2.1 0 0 false [] [] [] [] [] [] [] [] b=some (ABu (w.BZ (b++(if i≤a then(w.2.2.2.2.2.2.1.drop i).eraseIdx (a-i)else w.2.2.2.2.2.2.1.drop i)),0)):=by
 have k6:=h.nums.wr;intro n
 induction n with
 |zero=>omega
 |succ n ih=>
  intro i b hi hn hb;simp only[M0,XB,AB,Co];by_cases DG:i<w.2.2.2.2.2.2.1.length
  ·have c1:(0:Int)≤(i:Int)∧(i:Int)<(w.2.2.2.2.2.2.1.length:Int):=by omega
   have c2:b.length+1≤DA:=by rw[An];omega
   rw[ALC c1.2];simp only[ALC c1,ALC c2];rw[Ah DG,AH (by omega) (by omega),show((i:Int)+1)=((i+1:Nat):Int)by omega,drop_cons DG,show(w.2.2.2.2.2.2.1[i].1,w.2.2.2.2.2.2.1[i].2.1,())=w.2.2.2.2.2.2.1[i]from rfl];by_cases he:(i:Int)=d.2.1
   ·rw[ALC he,ih (i+1) b (by omega) (by omega) (by omega),ALG (by omega),ALC (by omega),show a-i=0 by omega]
    rfl
   ·rw[ALG he,ih (i+1) _ (by omega) (by omega) (by simp_all),ANi]
    by_cases hl:i+1≤a
    ·rw[ALC hl,ALC (by omega),show a-i=(a-(i+1))+1 by omega,List.eraseIdx_cons_succ]
     rfl
    ·rw[ALG hl,ALG (by omega)]
     rfl
  ·rw[ALG (by omega),AMG (by omega)]
   have:(if i≤a then([]:List AQ).eraseIdx (a-i)else[])=[]:=by simp_all
   rw[this,ANI];rfl
theorem l7{d:Br}:WX w.2.1 w.2.2.2.2.2.1 w.2.2.2.2.2.2.2.2.2.2.1 d w.1 w.2.2.1 w.2.2.2.1 w.2.2.2.2.1 w.2.2.2.2.2.2.1 w.2.2.2.2.2.2.2.1 w.2.2.2.2.2.2.2.2.1 w.2.2.2.2.2.2.2.2.2.1=some (ABu (Zd w d.2.1)):=by
 have k:=h.nums;have k1:=k.c;have k2:=k.wr;have k3:=k.lost;have k4:=k.st;have bD:=k.iK;have gq:=k.Jt;have jU:=k.gv;have k5:=k.era;unfold WX Xk Zd;rw[show(w.1,w.2.1,w.2.2.1,w.2.2.2.1,w.2.2.2.2.1,w.2.2.2.2.2.1,w.2.2.2.2.2.2.1,w.2.2.2.2.2.2.2.1,w.2.2.2.2.2.2.2.2.1,w.2.2.2.2.2.2.2.2.2.1,w.2.2.2.2.2.2.2.2.2.2.1,())=w from rfl,Sd (by omega)];simp only[AD,Au];rcases AK_ (BF d.2.1 0 ((w.AR.length:Int)-1))with h1|h1
 rotate_left
 ·rw[h1];rfl
 have h1':=Ak.1 h1;have:=ALl h (d:=d) (a:=d.2.1.toNat) (by omega) AY 0 [] (by omega) (Aa (by omega)) (by simp);simp_all
theorem AGh{d:Br}{ss:List AO}{ls:AAM}{ws:List AQ}(hls:ls.length≤2^20):∀(n i:Nat),i≤w.2.2.2.2.2.2.2.1.length→w.2.2.2.2.2.2.2.1.length-i<n→
  JB n i w.1 ss w.2.2.2.1 w.2.2.2.2.1 ws ((w.2.2.2.2.2.2.2.1.map fun m=>(B4 (Ac w) m d.2.1).1).take i++w.2.2.2.2.2.2.2.1.drop i) w.2.2.2.2.2.2.2.2.1 w.2.2.2.2.2.2.2.2.2.1 w.2.1 w.2.2.2.2.2.1 w.2.2.2.2.2.2.2.2.2.2.1 ls d.1 d.2.1 d.2.2.1 d.2.2.2.1 d.2.2.2.2.1 0 0 false [] [] [] [] [] [] [] []=some (sW (((((w.CD ss).Ez ls).BZ ws).Cq (w.2.2.2.2.2.2.2.1.map fun m=>(B4 (Ac w) m d.2.1).1)).FM (w.IL||holds (Ac w) ls),0)):=by
 have k:=h.nums;have k1:=k.c;have k6:=k.md;intro n
 induction n with
 |zero=>omega
 |succ n ih=>
  intro i hi hn;simp only[JB,VZ,AB,Au];rw[Np hi];by_cases DG:i<w.2.2.2.2.2.2.2.1.length
  ·have c1:(0:Int)≤(i:Int)∧(i:Int)<(w.2.2.2.2.2.2.2.1.length:Int):=by omega
   have hm:=(h.CB _ (AMx DG)).1;have xy:=hm.w;rw[ALC c1.2];simp only[ALC c1];rw[AMp,Mw DG,AH (by omega) (by omega),show((i:Int)+1)=((i+1:Nat):Int)by omega,show(w.2.2.2.2.2.2.2.1[i].1,w.2.2.2.2.2.2.2.1[i].2.1,w.2.2.2.2.2.2.2.1[i].2.2.1,w.2.2.2.2.2.2.2.1[i].2.2.2.1,w.2.2.2.2.2.2.2.1[i].2.2.2.2.1,w.2.2.2.2.2.2.2.1[i].2.2.2.2.2.1,())=w.2.2.2.2.2.2.2.1[i]from rfl,show(w.1,w.2.1,())=Ac w from rfl,gO (c:=Ac w) (by show w.1.length≤_;omega) (by omega) hm.wG];simp only[AD,fL];rw[show((B4 (Ac w) w.2.2.2.2.2.2.2.1[i] d.2.1).1.1,(B4 (Ac w) w.2.2.2.2.2.2.2.1[i] d.2.1).1.2.1,(B4 (Ac w) w.2.2.2.2.2.2.2.1[i] d.2.1).1.2.2.1,(B4 (Ac w) w.2.2.2.2.2.2.2.1[i] d.2.1).1.2.2.2.1,(B4 (Ac w) w.2.2.2.2.2.2.2.1[i] d.2.1).1.2.2.2.2.1,(B4 (Ac w) w.2.2.2.2.2.2.2.1[i] d.2.1).1.2.2.2.2.2.1,())=(B4 (Ac w) w.2.2.2.2.2.2.2.1[i] d.2.1).1 from rfl,QE DG rfl];grind
  ·have:i=w.2.2.2.2.2.2.2.1.length:=by omega
   rw[ALG (by omega),this,AQn,ANI,AQa (by simp),show(w.1,w.2.1,())=Ac w from rfl,Dm (by show w.1.length≤_;omega) (by omega)];simp only[AD];cases ht:w.2.2.2.2.2.2.2.2.2.2.1 with
   |true=>
    have ht':w.IL=true:=ht;rw[ht'];rfl
   |false=>
    have ht':w.IL=false:=ht;rw[ht'];rfl
theorem AMe{d:Br}{ss:List AO}{ls:AAM}(hls:ls.length≤2^20):∀(n i:Nat),i≤w.2.2.2.2.2.2.1.length→(w.2.2.2.2.2.2.1.length-i)+w.2.2.2.2.2.2.2.1.length+2≤n→
  KC n i w.1 ss w.2.2.2.1 w.2.2.2.2.1 ((w.2.2.2.2.2.2.1.map fun x=>(B7 (Ac w) x d.2.1).1).take i++w.2.2.2.2.2.2.1.drop i) w.2.2.2.2.2.2.2.1 w.2.2.2.2.2.2.2.2.1 w.2.2.2.2.2.2.2.2.2.1 w.2.1 w.2.2.2.2.2.1 w.2.2.2.2.2.2.2.2.2.2.1 ls d.1 d.2.1 d.2.2.1 d.2.2.2.1 d.2.2.2.2.1 0 0 false [] [] [] [] [] [] [] []=some (sW (((((w.CD ss).Ez ls).BZ (w.2.2.2.2.2.2.1.map fun x=>(B7 (Ac w) x d.2.1).1)).Cq (w.2.2.2.2.2.2.2.1.map fun m=>(B4 (Ac w) m d.2.1).1)).FM (w.IL||holds (Ac w) ls),0)):=by
 have k:=h.nums;have k1:=k.c;have k6:=k.wr;intro n
 induction n with
 |zero=>omega
 |succ n ih=>
  intro i hi hn;simp only[KC,Wm,AB,Au];rw[Np hi];by_cases DG:i<w.2.2.2.2.2.2.1.length
  ·have c1:(0:Int)≤(i:Int)∧(i:Int)<(w.2.2.2.2.2.2.1.length:Int):=by omega
   have hm:=(h.AR _ (AMx DG)).1;have xy:=hm.w;rw[ALC c1.2];simp only[ALC c1];rw[AMp,Mw DG,AH (by omega) (by omega),show((i:Int)+1)=((i+1:Nat):Int)by omega,show(w.2.2.2.2.2.2.1[i].1,w.2.2.2.2.2.2.1[i].2.1,())=w.2.2.2.2.2.2.1[i]from rfl,show(w.1,w.2.1,())=Ac w from rfl,dV (c:=Ac w) (by show w.1.length≤_;omega) (by have:Am w.2.2.2.2.2.2.1[i]=AU As w.2.2.2.2.2.2.1[i].2.1:=rfl;omega)];simp only[AD,pkW];rw[show((B7 (Ac w) w.2.2.2.2.2.2.1[i] d.2.1).1.1,(B7 (Ac w) w.2.2.2.2.2.2.1[i] d.2.1).1.2.1,())=(B7 (Ac w) w.2.2.2.2.2.2.1[i] d.2.1).1 from rfl,QE DG rfl];grind
  ·have:i=w.2.2.2.2.2.2.1.length:=by omega
   have k11:=AGh h (d:=d) (ss:=ss) (ws:=w.2.2.2.2.2.2.1.map fun x=>(B7 (Ac w) x d.2.1).1) hls n 0 (by omega) (by omega);rw[show((0:Nat):Int)=0 from rfl,AOu,AT9,APq]at k11;rw[ALG (by omega),this,AQn,ANI,AQa (by simp),k11]
theorem mb{d:Br}:V0 w.2.1 w.2.2.2.2.2.1 w.2.2.2.2.2.2.2.2.2.2.1 d w.1 w.2.2.1 w.2.2.2.1 w.2.2.2.2.1 w.2.2.2.2.2.2.1 w.2.2.2.2.2.2.2.1 w.2.2.2.2.2.2.2.2.1 w.2.2.2.2.2.2.2.2.2.1=some (sW (Xm w d.2.1)):=by
 have k:=h.nums;have k1:=k.c;have k2:=k.wr;have k3:=k.lost;have k4:=k.st;have bD:=k.iK;have gq:=k.Jt;have jU:=k.gv;have k5:=k.era;have k6:=k.md;unfold V0 XQ Xm;rw[show(w.1,w.2.1,w.2.2.1,w.2.2.2.1,w.2.2.2.2.1,w.2.2.2.2.2.1,w.2.2.2.2.2.2.1,w.2.2.2.2.2.2.2.1,w.2.2.2.2.2.2.2.2.1,w.2.2.2.2.2.2.2.2.2.1,w.2.2.2.2.2.2.2.2.2.2.1,())=w from rfl,II (by omega) (by omega)];simp only[AD,Co];by_cases h3:Aw w d.2.1=0
 rotate_left
 ·rw[ALG h3,ALC h3];rfl
 obtain⟨hr,s1,s2,s3⟩:=h.L7 h3;rw[ALC h3,ALG (show¬(Aw w d.2.1≠0)from fun hh=>hh h3),ALC hr,Ku (by omega)];simp only[AD];have hp:=Sx (n:=d.2.1) (l:=w.2.2.2.1);have:=AMe h (d:=d) (ss:=w.2.2.1.set d.2.1.toNat ([],[],0,())) (ls:=NY d.2.1 w.2.2.2.1) (by omega) AY 0 (by omega) (AQ3 (Aa (by omega)));simp_all
end
end Go.M
end
section
set_option maxRecDepth 8000
namespace Go.M
open Go.M.H (AK AO Ax Al AA Cp AN A6 AQ Aj Bc A7 Br Ai B5 AU AW AX Ag Bb As Am A0 D8 CG Ct C3)
theorem eqE{x e:AK}:(x.1==e.1&&(x.2.1==e.2.1&&(x.2.2.1==e.2.2.1&&(x.2.2.2.1==e.2.2.2.1&&true))))=decide (x=e):=by
 grind
theorem bp{m:Ax}{o:Int}{l:List AAM}(hl:l.length=m.2.2.2.2.2.1.length):EU (m.1,m.2.1,m.2.2.1,m.2.2.2.1,m.2.2.2.2.1,l,()) o=EU m o:=by
 grind[EU]
section
variable{w:AA} (h:On w) {st:AO} (hs:bQ st) {n:Int} (hn:0≤n∧n<(Ac w).1.length) {SS:List AO}
include h hs hn
theorem AJc{ws:List AQ}{se:List Al}{ms:List Ax}{j B:Nat}{m:Ax}{R:Option Bn}(hj:j<ms.length)(wI:ms.length≤2^20)(hlen:(ms.getD j Q7).2.2.2.2.2.1.length=m.2.2.2.2.2.1.length)(hm:jW (Ac w) m)
  (hc:(Bd w.A8 m.2.1).contains n=true)
  (cont:∀f,B≤f→BX f n ((j+1:Nat):Int) w.1 SS w.2.2.2.1 w.2.2.2.2.1 ws (ms.set j (m.1,m.2.1,m.2.2.1,m.2.2.2.1,m.2.2.2.2.1,FP m st n 1 m.2.2.2.2.2.1,())) w.2.2.2.2.2.2.2.2.1 se w.2.1 w.2.2.2.2.2.1 w.2.2.2.2.2.2.2.2.2.2.1 0 0 false [] [] [] [] [] [] [] [] st.1 st.2.1 st.2.2.1=R):
  ∀(rest dn:List AAM) (f:Nat),dn.length+rest.length=m.2.2.2.2.2.1.length→(∀l∈dn++rest,Az (Ac w) l=true)→rest.length+B+1≤f→
   dn++FP m st n ((dn.length:Int)+1) rest=FP m st n 1 m.2.2.2.2.2.1→
   BS f n (j:Int) ((dn.length:Int)+1) w.1 SS w.2.2.2.1 w.2.2.2.2.1 ws ms w.2.2.2.2.2.2.2.2.1 se w.2.1 w.2.2.2.2.2.1 w.2.2.2.2.2.2.2.2.2.2.1 0 0 false [] [] [] [] [] [] [] [] st.1 st.2.1 st.2.2.1 m.1 m.2.1 m.2.2.1 m.2.2.2.1 m.2.2.2.2.1 (dn++rest)=R:=by
 have k:=h.nums;have k1:=k.c;have k5:=k.era;have c1:(0:Int)≤(j:Int)∧(j:Int)<(ms.length:Int):=by omega
 have Uj:(Bd w.A8 m.2.1).length≤8:=GX h;have wA:m.2.2.2.2.2.1.length≤60:=by
  have:=hm.n;have hb:=HX (l:=m.2.2.2.1);omega
 intro rest
 induction rest with
 |nil=>
  intro dn f hl ho hf he;obtain⟨f,rfl⟩:∃f',f=f'+1:=⟨f-1,by omega⟩;simp only[APp,AQ2,AQu,FP,ANI]at hl hf he;simp only[BS,IU,AB,ANI];simp only[ALC c1];rw[show ms.getD ((j:Int)).toNat (0,0,[],[],false,[],())=ms.getD j Q7 from rfl,hlen,ALG (by omega),AH (by omega) (by omega),show((j:Int)+1)=((j+1:Nat):Int)by omega,he,AMp];simp_all
 |cons x rest ih=>
  intro dn f hl ho hf he;obtain⟨f,rfl⟩:∃f',f=f'+1:=⟨f-1,by omega⟩;simp only[AN2]at hl hf;simp only[BS,IU,AB];simp only[ALC c1];have ZS:jW (Ac w) (m.1,m.2.1,m.2.2.1,m.2.2.2.1,m.2.2.2.2.1,dn++x::rest,()):=⟨hm.cfg,hm.ep,hm.b,hm.sld,hm.tz,hm.seen,ho,by
   have:=hm.n;simp_all⟩
  have xy:=ZS.w;rw[show ms.getD ((j:Int)).toNat (0,0,[],[],false,[],())=ms.getD j Q7 from rfl,hlen,ALC (by omega),show(w.2.2.2.2.1,w.2.2.2.2.2.1,())=CJ w from rfl,E9 (r:=CJ w) (by show AU Bb w.2.2.2.2.1≤_;omega)];rw[show(CJ w).1=w.A8 from rfl];simp only[AD];rw[KS (by omega),hc];simp only[AD,ANZ];have hdl:(dn++x::rest).length=m.2.2.2.2.2.1.length:=by simp_all
  rw[Ys (m:=(m.1,m.2.1,m.2.2.1,m.2.2.2.1,m.2.2.2.2.1,dn++x::rest,())) (by omega),bp hdl];simp only[AD];have AWN:m.2.2.2.2.1=true:=by
   have:=hm.n;grind
  have AU7:∃e,EU m ((dn.length:Int)+1)=some e:=by
   unfold EU;rw[AWN,ALC (by
    simp only[ANm,ALo,Ak,ANR];have:=hm.ep;omega)]
   split<;>exact⟨_,rfl⟩
  obtain⟨e,hee⟩:=AU7;have qE:=hs.w;rw[hee];simp only[AQg];rw[UI (Fp (by omega)).1];simp only[AD,eqE,AB];rw[AH (by omega) (by omega)];simp only[FP]at he;have hmd:T7 m st ((dn.length:Int)+1)=(Od e.1 st.1==some e):=by
   unfold T7;rw[hee]
  cases hg:Od e.1 st.1 with
  |none=>
   simp only[AQh,AL5];rw[hmd,hg]at he;have:=ih (dn++[x]) f (by grind) (by simp_all) (by omega) (by
    simp_all)
   simp_all
  |some y=>
   simp only[AQe,ANZ,AQg];by_cases hye:y=e
   ·rw[ALC hye]
    rw[hmd,hg,hye]at he;rw[show(w.1,w.2.1,())=Ac w from rfl,cE (c:=Ac w) (m:=(m.1,m.2.1,m.2.2.1,m.2.2.2.1,m.2.2.2.2.1,dn++x::rest,())) (by show w.1.length≤_;omega) (by omega) ZS.wG];have AAF:SJ (Ac w) (m.1,m.2.1,m.2.2.1,m.2.2.2.1,m.2.2.2.2.1,dn++x::rest,()) ((dn.length:Int)+1) n=((m.1,m.2.1,m.2.2.1,m.2.2.2.1,m.2.2.2.2.1,dn++NY n x::rest,()),true):=by
     unfold SJ;rw[Gh.2 ZS];have hq:(BF ((dn.length:Int)+1) 1 ((dn++x::rest).length:Int)&&BF n 0 (((Ac w).1.length:Int)-1))=true:=by
      rw[ALo,Ak,Ak];omega
     grind
    rw[AAF];simp only[AD,fL];have hx:=ho x (by simp);have:=ih (dn++[NY n x]) f (by grind) (by
     intro l kV;simp only[ANi,AQY,AOO,APr]at kV;rcases kV with kV|rfl|kV
     all_goals grind[KK]) (by omega) (by
     simp_all)
    simp_all
   ·rw[ALG hye]
    have hf2:(some y==some e)=false:=by
     simp_all
    rw[hmd,hg,hf2]at he;have:=ih (dn++[x]) f (by grind) (by simp_all) (by omega) (by
     simp_all)
    simp_all
theorem AFw{ws:List AQ}{se:List Al}:∀(k i:Nat),w.2.2.2.2.2.2.2.1.length-i=k→i≤w.2.2.2.2.2.2.2.1.length→ ∀f,k*100+1≤f→
  BX f n (i:Int) w.1 SS w.2.2.2.1 w.2.2.2.2.1 ws ((w.2.2.2.2.2.2.2.1.map (MD st w.A8 n)).take i++w.2.2.2.2.2.2.2.1.drop i) w.2.2.2.2.2.2.2.2.1 se w.2.1 w.2.2.2.2.2.1 w.2.2.2.2.2.2.2.2.2.2.1 0 0 false [] [] [] [] [] [] [] [] st.1 st.2.1 st.2.2.1=(some ((((),w.2.1,(),(),(),w.2.2.2.2.2.1,(),(),(),(),w.2.2.2.2.2.2.2.2.2.2.1,()),()),(w.1,SS,w.2.2.2.1,w.2.2.2.2.1,ws,(w.2.2.2.2.2.2.2.1.map (MD st w.A8 n)),w.2.2.2.2.2.2.2.2.1,se,())):Option Bn):=by
 have k:=h.nums;have k5:=k.era;have k6:=k.md;intro k
 induction k with
 |zero=>
  intro i hk hi f hf;obtain⟨f,rfl⟩:∃f',f=f'+1:=⟨f-1,by omega⟩;have:i=w.2.2.2.2.2.2.2.1.length:=by omega
  simp only[BX,LB,AB];grind
 |succ k ih=>
  intro i hk hi f hf;obtain⟨f,rfl⟩:∃f',f=f'+1:=⟨f-1,by omega⟩;have DG:i<w.2.2.2.2.2.2.2.1.length:=by omega
  have c1:(0:Int)≤(i:Int)∧(i:Int)<(w.2.2.2.2.2.2.2.1.length:Int):=by omega
  simp only[BX,LB,AB];rw[Np hi,ALC c1.2,ALC c1,AMp,Mw DG];have hm:=(h.CB _ (AMx DG)).1;have wA:w.2.2.2.2.2.2.2.1[i].2.2.2.2.2.1.length≤60:=by
   have:=hm.n;have hb:=HX (l:=w.2.2.2.2.2.2.2.1[i].2.2.2.1);omega
  rcases AK_ ((Bd w.A8 w.2.2.2.2.2.2.2.1[i].2.1).contains n)with hc|hc
  ·have hT:MD st w.A8 n w.2.2.2.2.2.2.2.1[i]=(w.2.2.2.2.2.2.2.1[i].1,w.2.2.2.2.2.2.2.1[i].2.1,w.2.2.2.2.2.2.2.1[i].2.2.1,w.2.2.2.2.2.2.2.1[i].2.2.2.1,w.2.2.2.2.2.2.2.1[i].2.2.2.2.1,FP w.2.2.2.2.2.2.2.1[i] st n 1 w.2.2.2.2.2.2.2.1[i].2.2.2.2.2.1,()):=by
    unfold MD;simp_all
   have:=AJc h hs hn (SS:=SS) (ws:=ws) (se:=se) (ms:=(w.2.2.2.2.2.2.2.1.map (MD st w.A8 n)).take i++w.2.2.2.2.2.2.2.1.drop i) (j:=i) (B:=k*100+1) (m:=w.2.2.2.2.2.2.2.1[i]) (R:=(some ((((),w.2.1,(),(),(),w.2.2.2.2.2.1,(),(),(),(),w.2.2.2.2.2.2.2.2.2.2.1,()),()),(w.1,SS,w.2.2.2.1,w.2.2.2.2.1,ws,(w.2.2.2.2.2.2.2.1.map (MD st w.A8 n)),w.2.2.2.2.2.2.2.2.1,se,())):Option Bn)) (by simp_all) (by grind) (by simp_all) hm hc (fun f hf=>by
    grind[QE]) w.2.2.2.2.2.2.2.1[i].2.2.2.2.2.1 [] f (by simp) (by simpa using hm.wrote) (by omega) (by simp)
   simp_all
  ·have hT:MD st w.A8 n w.2.2.2.2.2.2.2.1[i]=w.2.2.2.2.2.2.2.1[i]:=by
    unfold MD;simp_all
   obtain⟨f,rfl⟩:∃f',f=f'+1:=⟨f-1,by omega⟩;simp only[BS,IU,AB];have Uj:(Bd w.A8 w.2.2.2.2.2.2.2.1[i].2.1).length≤8:=GX h;rw[Np hi];simp only[ALC c1];rw[AMp,Mw DG,show(w.2.2.2.2.1,w.2.2.2.2.2.1,())=CJ w from rfl,E9 (r:=CJ w) (by show AU Bb w.2.2.2.2.1≤_;omega)];rw[show(CJ w).1=w.A8 from rfl];simp only[AD];rw[KS (by omega),hc,QE DG (show(w.2.2.2.2.2.2.2.1[i].1,w.2.2.2.2.2.2.2.1[i].2.1,w.2.2.2.2.2.2.2.1[i].2.2.1,w.2.2.2.2.2.2.2.1[i].2.2.2.1,w.2.2.2.2.2.2.2.1[i].2.2.2.2.1,w.2.2.2.2.2.2.2.1[i].2.2.2.2.2.1,())=MD st w.A8 n w.2.2.2.2.2.2.2.1[i]from hT.symm),AH (x:=(i:Int)+1) (by omega) (by omega),show((i:Int)+1)=((i+1:Nat):Int)by omega,ih (i+1) (by omega) (by omega) f (by omega)];simp_all
end
end Go.M
end
section
set_option maxRecDepth 8000
namespace Go.M
open Go.M.H (AK AO Ax Al AA Cp AN A6 AQ Aj Bc A7 Br Ai B5 AU AW AX Ag Bb As Am A0 D8 CG Ct C3)
theorem jo{x y:A6}(hx:x.2.2.1=false):∀{dn rest:List A6},RF (dn++y::rest)≤RF (dn++x::rest)
 |[],rest=>by
  simp only[APq,RF,hx];cases y.2.2.1<;>simp
 |a::dn,rest=>by
  have:=jo (y:=y) hx (dn:=dn) (rest:=rest);simp only[AQq,RF];cases a.2.2.1<;>simp<;>omega
section
variable{w:AA} (h:On w) {st:AO} (hs:bQ st) {n:Int} (hn:0≤n∧n<(Ac w).1.length) {SS:List AO}
include h hs hn
theorem AIw{ws:List AQ}{se:List Al}{j B:Nat}{ep x y:Int}{z:Bool}{old new:List A6}{R:Option Bn}(hj:j<2^20)(an:se.length≤120)(hsp:∀s∈se,Ba s.1=true)(vh:new.length≤60)(hep:1≤ep∧ep≤30)
  (cont:∀f,B≤f→BV f n ((j+1:Nat):Int) w.1 SS w.2.2.2.1 w.2.2.2.2.1 ws w.2.2.2.2.2.2.2.1 w.2.2.2.2.2.2.2.2.1 (se.map (S_ true ep old new)) w.2.1 w.2.2.2.2.2.1 w.2.2.2.2.2.2.2.2.2.2.1 0 0 false [] [] [] [] [] [] [] [] st.1 st.2.1 st.2.2.1=R):
  ∀(k i:Nat),se.length-i=k→i≤se.length→ ∀f,k+B+1≤f→
   A4 f n (j:Int) (i:Int) x y z w.1 SS w.2.2.2.1 w.2.2.2.2.1 ws w.2.2.2.2.2.2.2.1 w.2.2.2.2.2.2.2.2.1 ((se.map (S_ true ep old new)).take i++se.drop i) w.2.1 w.2.2.2.2.2.1 w.2.2.2.2.2.2.2.2.2.2.1 0 0 false [] [] [] [] [] [] [] [] st.1 st.2.1 st.2.2.1 ep new=R:=by
 intro k
 induction k with
 |zero=>
  intro i hk hi f hf;obtain⟨f,rfl⟩:∃f',f=f'+1:=⟨f-1,by omega⟩;have:i=se.length:=by omega
  simp only[A4,K_,AB];rw[Np hi,ALG (by omega),this,AQn,ANI,AQa (by simp),AH (by omega) (by omega),show((j:Int)+1)=((j+1:Nat):Int)by omega];exact cont f (by omega)
 |succ k ih=>
  intro i hk hi f hf;obtain⟨f,rfl⟩:∃f',f=f'+1:=⟨f-1,by omega⟩;have DG:i<se.length:=by omega
  have c1:(0:Int)≤(i:Int)∧(i:Int)<(se.length:Int):=by omega
  have hp:=hsp _ (AMx DG);have hpf:=Gw hp;have ih':=ih (i+1) (by omega) (by omega) f (by omega);simp only[A4,K_,AB,C9];rw[Np hi,ALC c1.2];simp only[ALC c1];rw[AMp,Mw DG,D7 (Gd hp),ZA (Gd hp),AH (x:=(i:Int)+1) (by omega) (by omega),show((i:Int)+1)=((i+1:Nat):Int)by omega];simp only[AD];have skip:S_ true ep old new se[i]=se[i]→A4 f n (j:Int) ((i+1:Nat):Int) x y z w.1 SS w.2.2.2.1 w.2.2.2.2.1 ws w.2.2.2.2.2.2.2.1 w.2.2.2.2.2.2.2.2.1 ((se.map (S_ true ep old new)).take i++se.drop i) w.2.1 w.2.2.2.2.2.1 w.2.2.2.2.2.2.2.2.2.2.1 0 0 false [] [] [] [] [] [] [] [] st.1 st.2.1 st.2.2.1 ep new=R:=fun hm=>by
   rw[h_ DG hm];exact ih'
  by_cases he:Ar se[i].1=ep
  rotate_left
  ·rw[ALG he]
   refine skip ?_
   unfold S_;rw[show(Ar se[i].1==ep)=false by rw[APA];exact he];simp
  rw[ALC he];by_cases ho:D4 se[i].1≤(new.length:Int)
  rotate_left
  ·rw[ALG ho]
   refine skip ?_
   unfold S_ dK;rw[show BF (D4 se[i].1) 1 (new.length:Int)=false by
    rw[AQy];intro hh;exact ho (Ak.1 hh).2]
   simp
  rw[ALC ho,AH (x:=D4 se[i].1-1) (by omega) (by omega),ALC (by omega)];have hd:dK new (D4 se[i].1)=(new.getD (D4 se[i].1-1).toNat MA).2.2.1:=by
   unfold dK;rw[Ak.2 ⟨hpf.2.1.1,ho⟩,ANm]
  have ui:(new.getD (D4 se[i].1-1).toNat ([],[],false,())).2.2.1=dK new (D4 se[i].1):=hd.symm;rw[ui];cases hdd:dK new (D4 se[i].1)with
  |false=>
   rw[AL5];refine skip ?_
   unfold S_;rw[hdd];simp
  |true=>
   rw[ANZ,QE DG (show(se[i].1,se[i].2.1,true,())=S_ true ep old new se[i]by
    unfold S_;rw[hdd,he];simp)]
   exact ih'
theorem AMB{ws:List AQ}{se:List Al}{j B:Nat}{ep x y:Int}{z:Bool}{l0:List A6}{R:Option Bn}(hj:j<ws.length)(wI:ws.length≤2^20)
  (cont:∀f,B≤f→A4 f n (j:Int) 0 x y z w.1 SS w.2.2.2.1 w.2.2.2.2.1 (ws.set j (ep,Bv (Ac w) st ep n 1 l0,())) w.2.2.2.2.2.2.2.1 w.2.2.2.2.2.2.2.2.1 se w.2.1 w.2.2.2.2.2.1 w.2.2.2.2.2.2.2.2.2.2.1 0 0 false [] [] [] [] [] [] [] [] st.1 st.2.1 st.2.2.1 ep (Bv (Ac w) st ep n 1 l0)=R):
  ∀(rest dn:List A6) (f:Nat),bF (Ac w) (ep,dn++rest,())→rest.length+B+1≤f→
   dn++Bv (Ac w) st ep n ((dn.length:Int)+1) rest=Bv (Ac w) st ep n 1 l0→
   A3 f n (j:Int) ((dn.length:Int)+1) x y z w.1 SS w.2.2.2.1 w.2.2.2.2.1 ws w.2.2.2.2.2.2.2.1 w.2.2.2.2.2.2.2.2.1 se w.2.1 w.2.2.2.2.2.1 w.2.2.2.2.2.2.2.2.2.2.1 0 0 false [] [] [] [] [] [] [] [] st.1 st.2.1 st.2.2.1 ep (dn++rest)=R:=by
 have k1:=h.nums.c;have qE:=hs.w;intro rest
 induction rest with
 |nil=>
  intro dn f hw hf he;obtain⟨f,rfl⟩:∃f',f=f'+1:=⟨f-1,by simp at hf;omega⟩;simp only[APp,AQu,Bv,ANI]at hf he;simp only[A3,ML,AB,ANI];rw[ALG (by omega),ALC (by omega),he,AMp];exact cont f (by omega)
 |cons a rest ih=>
  intro dn f hw hf he;obtain⟨f,rfl⟩:∃f',f=f'+1:=⟨f-1,by simp at hf;omega⟩;simp only[AN2]at hf;have hwe:1≤ep∧ep≤30:=hw.ep;have hwn:(dn++a::rest).length≤60:=hw.n;have hww:=hw.w;have hwl:=hwn;simp only[AOc,AN2]at hwl;simp only[A3,ML,AB,Au,Co];rw[ALC (by simp only[AOc,AN2];omega),Ff (by omega) (by omega)];simp only[AD];rw[UI (Fp (by omega)).1];simp only[AD];rw[AH (x:=(dn.length:Int)+1+1) (by omega) (by omega),AH (x:=(dn.length:Int)+1-1) (by omega) (by omega),ALC (show(0:Int)≤(dn.length:Int)+1-1∧(dn.length:Int)+1-1<((dn++a::rest).length:Int)by simp only[AOc,AN2];omega)];have e1:((dn.length:Int)+1-1).toNat=dn.length:=by omega
  have e2:(dn++a::rest).getD dn.length ([],[],false,())=a:=by simp[List.getD]
  rw[e1,e2];simp only[Bv]at he;have go:∀b:A6,bF (Ac w) (ep,dn++b::rest,())→(if(!a.2.2.1&&NN st (HB ep ((dn.length:Int)+1)))=true then GF (Ac w) n a else a)=b→
    A3 f n (j:Int) ((dn.length:Int)+1+1) x y z w.1 SS w.2.2.2.1 w.2.2.2.2.1 ws w.2.2.2.2.2.2.2.1 w.2.2.2.2.2.2.2.2.1 se w.2.1 w.2.2.2.2.2.1 w.2.2.2.2.2.2.2.2.2.2.1 0 0 false [] [] [] [] [] [] [] [] st.1 st.2.1 st.2.2.1 ep (dn++b::rest)=R:=fun b hb nA=>by
   rw[nA]at he;have:=ih (dn++[b]) f (by simpa using hb) (by omega) (by
    rw[←he];simp only[AOc,AN2,APp,ANi,AQY];rw[show(((dn.length+(0+1):Nat):Int)+1)=(dn.length:Int)+1+1 by omega])
   simp only[AOc,AN2,APp,ANi,AQY]at this;rw[show(((dn.length+(0+1):Nat):Int)+1)=(dn.length:Int)+1+1 by omega]at this;exact this
  cases hg:Od (HB ep ((dn.length:Int)+1)) st.1 with
  |none=>
   simp only[AQh,AL5];exact go a hw (by unfold NN;rw[hg];simp)
  |some e=>
   simp only[AQe,ANZ,AQg];by_cases he0:e.2.1=0
   rotate_left
   ·rw[ALG he0]
    exact go a hw (by unfold NN;rw[hg];simp[he0])
   rw[ALC he0];cases had:a.2.2.1 with
   |true=>
    rw[ANZ];exact go a hw (by rw[had];simp)
   |false=>
    rw[AL5];have ha:=hw.words a (by simp);have hb:bF (Ac w) (ep,dn++GF (Ac w) n a::rest,()):=⟨hw.cfg,hw.ep,by simpa using hwn,fun b hb=>by
     simp only[AOO,APr]at hb;rcases hb with hb|rfl|hb
     ·exact hw.words b (by simp[hb])
     ·exact⟨ha.1,KK ha.2.1 hn,rfl⟩
     ·exact hw.words b (by simp[hb]),AQL (jo had) hw.opn⟩
    rw[show(w.1,w.2.1,())=Ac w from rfl,iE (c:=Ac w) (w:=(ep,dn++a::rest,())) (by show w.1.length≤_;omega) (by have:Am (ep,dn++a::rest,())=AU As (dn++a::rest):=rfl;show AU As (dn++a::rest)≤_;omega)];have AAF:RO (Ac w) (ep,dn++a::rest,()) ((dn.length:Int)+1) n=((ep,dn++GF (Ac w) n a::rest,()),true):=by
     unfold RO;rw[Ig.2 hw];simp only[ALW,AL6,APB];rw[e1,show(dn++a::rest).getD dn.length MA=a from e2,had];rw[ALC (by
      rw[ALo,ALo,Ak,Ak];simp only[AOc,AN2];refine⟨by omega,by omega,rfl⟩)]
     rw[ATL _ _ (by omega),AVE,ARg]
    rw[AAF];simp only[AD,pkW];exact go _ hb (by unfold NN;rw[hg];simp[he0,had])
theorem APc:∀(rest pre:List AQ) (se:List Al) (f:Nat),(pre++rest).length≤4→(∀x∈rest,bF (Ac w) x)→se.length≤120→(∀s∈se,Ba s.1=true)→rest.length*300+w.2.2.2.2.2.2.2.1.length*100+2≤f→
  BV f n (pre.length:Int) w.1 SS w.2.2.2.1 w.2.2.2.2.1 (pre++rest) w.2.2.2.2.2.2.2.1 w.2.2.2.2.2.2.2.2.1 se w.2.1 w.2.2.2.2.2.1 w.2.2.2.2.2.2.2.2.2.2.1 0 0 false [] [] [] [] [] [] [] [] st.1 st.2.1 st.2.2.1=(some ((((),w.2.1,(),(),(),w.2.2.2.2.2.1,(),(),(),(),w.2.2.2.2.2.2.2.2.2.2.1,()),()),(w.1,SS,w.2.2.2.1,w.2.2.2.2.1,(pre++(HQ true (Ac w) st w.A8 n rest se).1),(w.2.2.2.2.2.2.2.1.map (MD st w.A8 n)),w.2.2.2.2.2.2.2.2.1,(HQ true (Ac w) st w.A8 n rest se).2,())):Option Bn):=by
 have k5:=h.nums.era;intro rest
 induction rest with
 |nil=>
  intro pre se f hl hw an hsp hf;obtain⟨f,rfl⟩:∃f',f=f'+1:=⟨f-1,by omega⟩;simp only[BV,Md,AB];have:=AFw h hs hn (SS:=SS) (ws:=pre) (se:=se) w.2.2.2.2.2.2.2.1.length 0 (by omega) (by omega) f (by omega);rw[show((0:Nat):Int)=0 from rfl,AOu,AT9,APq]at this;rw[ANI,ALG (by omega),this];simp only[HQ,ANI]
 |cons a rest ih=>
  intro pre se f hl hw an hsp hf;simp only[AOc,AN2]at hl hf;obtain⟨f,rfl⟩:∃f',f=f'+1:=⟨f-1,by omega⟩;simp only[BV,Md,AB,Au];have wR:(pre++a::rest).length=pre.length+(rest.length+1):=by simp
  have c1:(0:Int)≤(pre.length:Int)∧(pre.length:Int)<((pre++a::rest).length:Int):=by omega
  have e2:(pre++a::rest).getD pre.length (0,[],())=a:=by simp[List.getD]
  have Uj:(Bd w.A8 a.1).length≤8:=GX h;rw[ALC c1.2,ALC c1,AMp,e2,show(w.2.2.2.2.1,w.2.2.2.2.2.1,())=CJ w from rfl,E9 (r:=CJ w) (by show AU Bb w.2.2.2.2.1≤_;omega)];rw[show(CJ w).1=w.A8 from rfl];simp only[AD];rw[KS (by omega),AH (by omega) (by omega),show((pre.length:Int)+1)=((pre.length+1:Nat):Int)by omega];simp only[AD];have ha:=hw a (by simp);have hae:=ha.ep;have han:=ha.n;have next:∀(b:AQ) (m_:List Al) (f:Nat),m_.length≤120→(∀s∈m_,Ba s.1=true)→rest.length*300+w.2.2.2.2.2.2.2.1.length*100+2≤f→
    BV f n ((pre.length+1:Nat):Int) w.1 SS w.2.2.2.1 w.2.2.2.2.1 (pre++b::rest) w.2.2.2.2.2.2.2.1 w.2.2.2.2.2.2.2.2.1 m_ w.2.1 w.2.2.2.2.2.1 w.2.2.2.2.2.2.2.2.2.2.1 0 0 false [] [] [] [] [] [] [] [] st.1 st.2.1 st.2.2.1=(some ((((),w.2.1,(),(),(),w.2.2.2.2.2.1,(),(),(),(),w.2.2.2.2.2.2.2.2.2.2.1,()),()),(w.1,SS,w.2.2.2.1,w.2.2.2.2.1,(pre++b::(HQ true (Ac w) st w.A8 n rest m_).1),(w.2.2.2.2.2.2.2.1.map (MD st w.A8 n)),w.2.2.2.2.2.2.2.2.1,(HQ true (Ac w) st w.A8 n rest m_).2,())):Option Bn):=fun b m_ f h1 h2 h3=>by
   have:=ih (pre++[b]) m_ f (by simp only[AOc,AN2,APp];omega) (fun x hx=>hw x (by simp[hx])) h1 h2 h3;simp only[AOc,AN2,APp,ANi,AQY]at this;exact this
  simp only[HQ];rcases AK_ (dE st w.A8 n a)with ht|ht
  rotate_left
  ·rw[ht]
   simp only[AL6,APB];unfold dE at ht;rcases AK_ ((Bd w.A8 a.1).contains n)with hc|hc
   ·rw[hc,ANm,AQ4]at ht
    rw[hc,ANZ,ALC (by omega)];exact next a se f an hsp (by omega)
   ·rw[hc,AL5]
    exact next a se f an hsp (by omega)
  ·rw[ht]
   simp only[AQV];unfold dE at ht;rw[ALo,ANR]at ht;rw[ht.1,ANZ,ALG (by omega)];have htl:=(ah (s:=st) (ep:=a.1) hn (o:=1) ha.words).2.2;have hsm:∀s∈se.map (S_ true a.1 a.2.1 (Bv (Ac w) st a.1 n 1 a.2.1)),Ba s.1=true:=fun s hs' =>by
    obtain⟨s',h1,rfl⟩:=AQ0.1 hs';exact hsp s' h1
   have:=AMB h hs hn (SS:=SS) (ws:=pre++a::rest) (se:=se) (j:=pre.length) (B:=rest.length*300+w.2.2.2.2.2.2.2.1.length*100+2+130) (ep:=a.1) (x:=st.2.2.1) (y:=a.1) (z:=decide (st.2.2.1≥a.1)) (l0:=a.2.1) (R:=(some ((((),w.2.1,(),(),(),w.2.2.2.2.2.1,(),(),(),(),w.2.2.2.2.2.2.2.2.2.2.1,()),()),(w.1,SS,w.2.2.2.1,w.2.2.2.2.1,(pre++(a.1,Bv (Ac w) st a.1 n 1 a.2.1,())::(HQ true (Ac w) st w.A8 n rest (se.map (S_ true a.1 a.2.1 (Bv (Ac w) st a.1 n 1 a.2.1)))).1),(w.2.2.2.2.2.2.2.1.map (MD st w.A8 n)),w.2.2.2.2.2.2.2.2.1,(HQ true (Ac w) st w.A8 n rest (se.map (S_ true a.1 a.2.1 (Bv (Ac w) st a.1 n 1 a.2.1)))).2,())):Option Bn)) (by omega) (by omega) (fun f hf=>by
    have:=AIw h hs hn (SS:=SS) (ws:=(pre++a::rest).set pre.length (a.1,Bv (Ac w) st a.1 n 1 a.2.1,())) (se:=se) (j:=pre.length) (B:=rest.length*300+w.2.2.2.2.2.2.2.1.length*100+2) (ep:=a.1) (x:=st.2.2.1) (y:=a.1) (z:=decide (st.2.2.1≥a.1)) (old:=a.2.1) (new:=Bv (Ac w) st a.1 n 1 a.2.1) (R:=(some ((((),w.2.1,(),(),(),w.2.2.2.2.2.1,(),(),(),(),w.2.2.2.2.2.2.2.2.2.2.1,()),()),(w.1,SS,w.2.2.2.1,w.2.2.2.2.1,(pre++(a.1,Bv (Ac w) st a.1 n 1 a.2.1,())::(HQ true (Ac w) st w.A8 n rest (se.map (S_ true a.1 a.2.1 (Bv (Ac w) st a.1 n 1 a.2.1)))).1),(w.2.2.2.2.2.2.2.1.map (MD st w.A8 n)),w.2.2.2.2.2.2.2.2.1,(HQ true (Ac w) st w.A8 n rest (se.map (S_ true a.1 a.2.1 (Bv (Ac w) st a.1 n 1 a.2.1)))).2,())):Option Bn)) (by omega) an hsp (by omega) hae (fun f hf=>by
     rw[ATL _ _ (by omega),AVE,ARg];exact next _ _ f (by simpa using an) hsm hf) se.length 0 (by omega) (by omega) f (by omega)
    rw[show((0:Nat):Int)=0 from rfl,AOu,AT9,APq]at this;exact this) a.2.1 [] f (by simpa using ha) (by omega) (by simp)
   simp only[APp,APq]at this;exact this
end
section
variable{w:AA} (h:On w)
include h
theorem mE{d:Br}:WJ w.2.1 w.2.2.2.2.2.1 w.2.2.2.2.2.2.2.2.2.2.1 d w.1 w.2.2.1 w.2.2.2.1 w.2.2.2.2.1 w.2.2.2.2.2.2.1 w.2.2.2.2.2.2.2.1 w.2.2.2.2.2.2.2.2.1 w.2.2.2.2.2.2.2.2.2.1=some (xF (Xa true w d.2.1)):=by
 have k:=h.nums;have k1:=k.c;have k2:=k.wr;have k3:=k.lost;have k4:=k.st;have bD:=k.iK;have gq:=k.Jt;have jU:=k.gv;have k6:=k.md;unfold WJ Xa;rw[show(w.1,w.2.1,w.2.2.1,w.2.2.2.1,w.2.2.2.2.1,w.2.2.2.2.2.1,w.2.2.2.2.2.2.1,w.2.2.2.2.2.2.2.1,w.2.2.2.2.2.2.2.2.1,w.2.2.2.2.2.2.2.2.2.1,w.2.2.2.2.2.2.2.2.2.2.1,())=w from rfl,II (by omega) (by omega)];simp only[AD,Co,Au];by_cases h3:Aw w d.2.1=0
 rotate_left
 ·rw[ALG h3,ALC h3];rfl
 obtain⟨hr,s1,s2,s3⟩:=h.L7 h3;have an:w.2.2.1.getD d.2.1.toNat ([],[],0,())=storeAt w d.2.1:=rfl;rw[ALC h3,ALG (show¬(Aw w d.2.1≠0)from fun hh=>hh h3)];simp only[ALC hr,an];rw[show((storeAt w d.2.1).1,(storeAt w d.2.1).2.1,(storeAt w d.2.1).2.2.1,())=storeAt w d.2.1 from rfl,Nk s1 s2];simp only[AD,gp];rcases AK_ (B6 (storeAt w d.2.1)).2 with h6|h6
 rotate_left
 ·rw[h6];rfl
 have hq:=(NF h6).2.1;have hnn:=(h.node h3).1;rw[h6,ANZ,Fq];have Hw:d.2.1.toNat<w.2.2.1.length:=by omega
 unfold V6 QL;rw[AQk,ALC hr,M8 Hw];have:=APc h (st:=(B6 (storeAt w d.2.1)).1) hq hnn (SS:=w.2.2.1.set d.2.1.toNat (B6 (storeAt w d.2.1)).1) w.2.2.2.2.2.2.1 [] w.2.2.2.2.2.2.2.2.2.1 AY (by simpa using k2) (fun x hx=>(h.AR x hx).1) k.se (fun s hs=>(h.CK s hs).1) (AQ3 (Aa (by omega)));simp only[APp,APq]at this;rw[show((0:Nat):Int)=0 from rfl]at this;rw[show((B6 (storeAt w d.2.1)).1.1,(B6 (storeAt w d.2.1)).1.2.1,(B6 (storeAt w d.2.1)).1.2.2.1,())=(B6 (storeAt w d.2.1)).1 from rfl,this];rfl
end
end Go.M
end
section
set_option maxRecDepth 8000
namespace Go.M
open Go.M.H (AK AO Ax Al AA Cp AN A6 AQ Aj Bc A7 Br Ai B5 AU AW AX Ag Bb As Am A0 D8 CG Ct C3)
section
variable{w:AA} (h:On w)
include h
theorem qv{d:Br}(h64:Ce d.2.1)(hd:d.2.2.2.2.1.length≤40)(hk:1≤d.1∧d.1≤16):∃w',ai w.2.1 w.2.2.2.2.2.1 w.2.2.2.2.2.2.2.2.2.2.1 d w.1 w.2.2.1 w.2.2.2.1 w.2.2.2.2.1 w.2.2.2.2.2.2.1 w.2.2.2.2.2.2.2.1 w.2.2.2.2.2.2.2.2.1 w.2.2.2.2.2.2.2.2.2.1=some (ALp (w',(Qm true w d).2))∧((Qm true w d).2=0→w' =(Qm true w d).1):=by
 have k:=h.nums;have k1:=k.c;have k5:=k.era;unfold ai Qm;rw[show(d.1,d.2.1,d.2.2.1,d.2.2.2.1,d.2.2.2.2.1,())=d from rfl];simp only[C9];by_cases c1:d.1=1
 ·simp only[ALC c1]
  rw[mR h];exact⟨_,rfl,fun _=>rfl⟩
 by_cases c2:d.1=2
 ·simp only[ALG (show¬d.1=1 by omega),ALC c2]
  obtain⟨w',e1,e2⟩:=o8 h (d:=d) hd;rw[e1];exact⟨w',rfl,e2⟩
 by_cases c3:d.1=3
 ·simp only[ALG (show¬d.1=1 by omega),ALG (show¬d.1=2 by omega),ALC c3]
  rw[ju h];exact⟨_,rfl,fun _=>rfl⟩
 by_cases c4:d.1=4
 ·simp only[ALG (show¬d.1=1 by omega),ALG (show¬d.1=2 by omega),ALG (show¬d.1=3 by omega),ALC c4]
  rw[mE h];exact⟨_,rfl,fun _=>rfl⟩
 by_cases c6:d.1=6
 ·simp only[ALG (show¬d.1=1 by omega),ALG (show¬d.1=2 by omega),ALG (show¬d.1=3 by omega),ALG (show¬d.1=4 by omega),ALG (show¬d.1=5 by omega),ALC c6]
  rw[mb h];exact⟨_,rfl,fun _=>rfl⟩
 by_cases c7:d.1=7
 ·simp only[ALG (show¬d.1=1 by omega),ALG (show¬d.1=2 by omega),ALG (show¬d.1=3 by omega),ALG (show¬d.1=4 by omega),ALG (show¬d.1=5 by omega),ALG (show¬d.1=6 by omega),ALC c7]
  rw[mf h];exact⟨_,rfl,fun _=>rfl⟩
 by_cases c8:d.1=8
 ·simp only[ALG (show¬d.1=1 by omega),ALG (show¬d.1=2 by omega),ALG (show¬d.1=3 by omega),ALG (show¬d.1=4 by omega),ALG (show¬d.1=5 by omega),ALG (show¬d.1=6 by omega),ALG (show¬d.1=7 by omega),ALC c8]
  rw[mm h];exact⟨_,rfl,fun _=>rfl⟩
 by_cases c9:d.1=9
 ·simp only[ALG (show¬d.1=1 by omega),ALG (show¬d.1=2 by omega),ALG (show¬d.1=3 by omega),ALG (show¬d.1=4 by omega),ALG (show¬d.1=5 by omega),ALG (show¬d.1=6 by omega),ALG (show¬d.1=7 by omega),ALG (show¬d.1=8 by omega),ALC c9]
  rw[lz h];exact⟨_,rfl,fun _=>rfl⟩
 by_cases c10:d.1=10
 ·simp only[ALG (show¬d.1=1 by omega),ALG (show¬d.1=2 by omega),ALG (show¬d.1=3 by omega),ALG (show¬d.1=4 by omega),ALG (show¬d.1=5 by omega),ALG (show¬d.1=6 by omega),ALG (show¬d.1=7 by omega),ALG (show¬d.1=8 by omega),ALG (show¬d.1=9 by omega),ALC c10]
  rw[mj h];exact⟨_,rfl,fun _=>rfl⟩
 by_cases c11:d.1=11
 ·simp only[ALG (show¬d.1=1 by omega),ALG (show¬d.1=2 by omega),ALG (show¬d.1=3 by omega),ALG (show¬d.1=4 by omega),ALG (show¬d.1=5 by omega),ALG (show¬d.1=6 by omega),ALG (show¬d.1=7 by omega),ALG (show¬d.1=8 by omega),ALG (show¬d.1=9 by omega),ALG (show¬d.1=10 by omega),ALC c11]
  rw[nv h];exact⟨_,rfl,fun _=>rfl⟩
 by_cases c12:d.1=12
 ·simp only[ALG (show¬d.1=1 by omega),ALG (show¬d.1=2 by omega),ALG (show¬d.1=3 by omega),ALG (show¬d.1=4 by omega),ALG (show¬d.1=5 by omega),ALG (show¬d.1=6 by omega),ALG (show¬d.1=7 by omega),ALG (show¬d.1=8 by omega),ALG (show¬d.1=9 by omega),ALG (show¬d.1=10 by omega),ALG (show¬d.1=11 by omega),ALC c12]
  rw[kt h];exact⟨_,rfl,fun _=>rfl⟩
 by_cases c13:d.1=13
 ·simp only[ALG (show¬d.1=1 by omega),ALG (show¬d.1=2 by omega),ALG (show¬d.1=3 by omega),ALG (show¬d.1=4 by omega),ALG (show¬d.1=5 by omega),ALG (show¬d.1=6 by omega),ALG (show¬d.1=7 by omega),ALG (show¬d.1=8 by omega),ALG (show¬d.1=9 by omega),ALG (show¬d.1=10 by omega),ALG (show¬d.1=11 by omega),ALG (show¬d.1=12 by omega),ALC c13]
  rw[show(w.1,w.2.1,())=Ac w from rfl,show(w.2.2.2.2.1,w.2.2.2.2.2.1,())=CJ w from rfl,bU (c:=Ac w) (r:=CJ w) (by show w.1.length≤_;omega) (by show AU Bb w.2.2.2.2.1≤_;omega) k.trim h64];simp only[AD,pkR,Au,bK];rcases AK_ (Nv (Ac w) (CJ w) d.2.1).2 with hq|hq
  ·rw[hq];exact⟨_,rfl,fun _=>rfl⟩
  ·rw[hq];exact⟨w,rfl,fun _=>rfl⟩
 by_cases c14:d.1=14
 ·simp only[ALG (show¬d.1=1 by omega),ALG (show¬d.1=2 by omega),ALG (show¬d.1=3 by omega),ALG (show¬d.1=4 by omega),ALG (show¬d.1=5 by omega),ALG (show¬d.1=6 by omega),ALG (show¬d.1=7 by omega),ALG (show¬d.1=8 by omega),ALG (show¬d.1=9 by omega),ALG (show¬d.1=10 by omega),ALG (show¬d.1=11 by omega),ALG (show¬d.1=12 by omega),ALG (show¬d.1=13 by omega),ALC c14]
  rw[mh h];exact⟨_,rfl,fun _=>rfl⟩
 by_cases c15:d.1=15
 ·simp only[ALG (show¬d.1=1 by omega),ALG (show¬d.1=2 by omega),ALG (show¬d.1=3 by omega),ALG (show¬d.1=4 by omega),ALG (show¬d.1=5 by omega),ALG (show¬d.1=6 by omega),ALG (show¬d.1=7 by omega),ALG (show¬d.1=8 by omega),ALG (show¬d.1=9 by omega),ALG (show¬d.1=10 by omega),ALG (show¬d.1=11 by omega),ALG (show¬d.1=12 by omega),ALG (show¬d.1=13 by omega),ALG (show¬d.1=14 by omega),ALC c15]
  rw[l7 h];exact⟨_,rfl,fun _=>rfl⟩
 simp only[ALG c1,ALG c2,ALG c3,ALG c4,ALG c6,ALG c7,ALG c8,ALG c9,ALG c10,ALG c11,ALG c12,ALG c13,ALG c14,ALG c15];rw[jx h];by_cases c5:d.1=5
 ·rw[ALC c5,ALG (by omega)]
  exact⟨_,rfl,fun _=>rfl⟩
 ·rw[ALG c5,ALC (by omega)]
  exact⟨_,rfl,fun _=>rfl⟩
end
theorem Gl{w:AA}{n:Int}{q:AO×Bool}(e:(putAt w n q).2≠0):(putAt w n q).1=w:=by
 unfold putAt at*;split at e
 ·exact absurd rfl e
 ·rename_i hq;rw[ALG hq]
theorem uw{all:Bool}{w:AA}{d:Br}(e:(Qm all w d).2≠0):(Qm all w d).1=w:=by
 unfold Qm at*;by_cases c:d.1=1
 ·rw[ALC c]at e⊢
  clear c
  revert e
  unfold We
  try dsimp only
  repeat' split
  all_goals first|(intro e;exact absurd rfl e)|(intro e;rfl)|(intro e;exact Gl e)
 rw[ALG c]at e⊢;clear c;by_cases c:d.1=2
 ·rw[ALC c]at e⊢
  clear c
  revert e
  unfold doAdd
  try dsimp only
  repeat' split
  all_goals first|(intro e;exact absurd rfl e)|(intro e;rfl)|(intro e;exact Gl e)
 rw[ALG c]at e⊢;clear c;by_cases c:d.1=3
 ·rw[ALC c]at e⊢
  clear c
  revert e
  unfold Sy
  try dsimp only
  repeat' split
  all_goals first|(intro e;exact absurd rfl e)|(intro e;rfl)|(intro e;exact Gl e)
 rw[ALG c]at e⊢;clear c;by_cases c:d.1=4
 ·rw[ALC c]at e⊢
  clear c
  revert e
  unfold Xa
  try dsimp only
  repeat' split
  all_goals first|(intro e;exact absurd rfl e)|(intro e;rfl)|(intro e;exact Gl e)
 rw[ALG c]at e⊢;clear c;by_cases c:d.1=5
 ·rw[ALC c]at e⊢
  clear c
  revert e
  unfold RW
  try dsimp only
  repeat' split
  all_goals first|(intro e;exact absurd rfl e)|(intro e;rfl)|(intro e;exact Gl e)
 rw[ALG c]at e⊢;clear c;by_cases c:d.1=6
 ·rw[ALC c]at e⊢
  clear c
  revert e
  unfold Xm
  try dsimp only
  repeat' split
  all_goals first|(intro e;exact absurd rfl e)|(intro e;rfl)|(intro e;exact Gl e)
 rw[ALG c]at e⊢;clear c;by_cases c:d.1=7
 ·rw[ALC c]at e⊢
  clear c
  revert e
  unfold Xd
  try dsimp only
  repeat' split
  all_goals first|(intro e;exact absurd rfl e)|(intro e;rfl)|(intro e;exact Gl e)
 rw[ALG c]at e⊢;clear c;by_cases c:d.1=8
 ·rw[ALC c]at e⊢
  clear c
  revert e
  unfold Xb
  try dsimp only
  repeat' split
  all_goals first|(intro e;exact absurd rfl e)|(intro e;rfl)|(intro e;exact Gl e)
 rw[ALG c]at e⊢;clear c;by_cases c:d.1=9
 ·rw[ALC c]at e⊢
  clear c
  revert e
  unfold W0
  try dsimp only
  repeat' split
  all_goals first|(intro e;exact absurd rfl e)|(intro e;rfl)|(intro e;exact Gl e)
 rw[ALG c]at e⊢;clear c;by_cases c:d.1=10
 ·rw[ALC c]at e⊢
  clear c
  revert e
  unfold XN
  try dsimp only
  repeat' split
  all_goals first|(intro e;exact absurd rfl e)|(intro e;rfl)|(intro e;exact Gl e)
 rw[ALG c]at e⊢;clear c;by_cases c:d.1=11
 ·rw[ALC c]at e⊢
  clear c
  revert e
  unfold cc
  try dsimp only
  repeat' split
  all_goals first|(intro e;exact absurd rfl e)|(intro e;rfl)|(intro e;exact Gl e)
 rw[ALG c]at e⊢;clear c;by_cases c:d.1=12
 ·rw[ALC c]at e⊢
  clear c
  revert e
  unfold RS
  try dsimp only
  repeat' split
  all_goals first|(intro e;exact absurd rfl e)|(intro e;rfl)|(intro e;exact Gl e)
 rw[ALG c]at e⊢;clear c;by_cases c:d.1=13
 ·rw[ALC c]at e⊢
  clear c
  revert e
  unfold bK
  try dsimp only
  repeat' split
  all_goals first|(intro e;exact absurd rfl e)|(intro e;rfl)|(intro e;exact Gl e)
 rw[ALG c]at e⊢;clear c;by_cases c:d.1=14
 ·rw[ALC c]at e⊢
  clear c
  revert e
  unfold CY
  try dsimp only
  repeat' split
  all_goals first|(intro e;exact absurd rfl e)|(intro e;rfl)|(intro e;exact Gl e)
 rw[ALG c]at e⊢;clear c;by_cases c:d.1=15
 ·rw[ALC c]at e⊢
  clear c
  revert e
  unfold Zd
  try dsimp only
  repeat' split
  all_goals first|(intro e;exact absurd rfl e)|(intro e;rfl)|(intro e;exact Gl e)
 rw[ALG c]at e⊢;clear c;unfold RX at*;split at e
 ·rename_i h1;rw[ALC h1]
 ·rename_i h1;rw[ALG h1];exact Gl e
theorem bw{w:AA}{d:Br}(h:kQ w)(h64:Ce d.2.1):Sb w d=some (xF (Ij true w d)):=by
 unfold Sb Ij;rw[show(w.1,w.2.1,w.2.2.1,w.2.2.2.1,w.2.2.2.2.1,w.2.2.2.2.2.1,w.2.2.2.2.2.2.1,w.2.2.2.2.2.2.2.1,w.2.2.2.2.2.2.2.2.1,w.2.2.2.2.2.2.2.2.2.1,w.2.2.2.2.2.2.2.2.2.2.1,())=w from rfl,show(d.1,d.2.1,d.2.2.1,d.2.2.2.1,d.2.2.2.2.1,())=d from rfl,VU h,od,ba h];simp only[AD,Au,Co];rcases AK_ (Jq w)with hw|hw
 rotate_left
 ·rw[hw];rfl
 rcases AK_ (Qe d)with hd|hd
 rotate_left
 ·rw[hw,hd];rfl
 have hk:1≤d.1∧d.1≤16:=by
  unfold Qe at hd;exact Ak.1 (ALo _ _▸hd).1
 rw[hw,hd,ANZ,ANZ];obtain⟨w',e1,e2⟩:=qv (KQ.1 hw) h64 (gN hd) hk;rw[e1];simp only[AD,ALW,AU_,AL6,APB];by_cases hc:(Qm true w d).2=0
 ·rw[e2 hc]
  rw[ALC (show(ALp ((Qm true w d).1,(Qm true w d).2)).1.1.2.1=0 from hc)];rfl
 ·rw[ALG (show¬(ALp (w',(Qm true w d).2)).1.1.2.1=0 from hc)]
  have:=uw hc;rw[show Qm true w d=(w,(Qm true w d).2)by rw[←Prod.eta (Qm true w d)];simp only[this]];rfl
end Go.M
end
section
namespace Go.M
open Go.M.H (Cp AN A6 AQ AU AW AX Bb As Am uu o4 dj)
section
variable{b:AAM} (hb:Bytes b) (hl:b.length≤2^30)
include hb hl
omit hb hl in
theorem oU{l:List A6}{e:A6}:AU As (l++[e])=AU As l+(1+As e):=by
 induction l with
 |nil=>simp[AU]
 |cons x l ih=>simp only[AQq,AU,ih];omega
end
end Go.M
end
section
namespace Go.M
def At(b:AAM)(a:Nat)(w:AAM)(a':Nat):Prop:=a' =a+w.length∧b.drop a=w++b.drop a'
theorem At.nil{b:AAM}{a:Nat}:At b a [] a:=⟨by simp,by simp⟩
theorem At.split{b w w':AAM}{a a2:Nat}(ha:a≤b.length)(h:At b a (w++w') a2):At b a w (a+w.length)∧At b (a+w.length) w' a2∧a+w.length≤b.length:=by
 obtain⟨h1,h2⟩:=h;have e1:b.drop (a+w.length)=w'++b.drop a2:=by
  rw[←List.drop_drop,h2,ANi];simp
 refine⟨⟨rfl,by rw[h2,e1,ANi]⟩,⟨by simp only[AOc]at h1;omega,e1⟩,?_⟩;have:=congrArg List.length h2;simp only[AOc,ASJ]at this;omega
theorem At.all{b w:AAM}(h:At b 0 w b.length):b=w:=by
 have:=h.2;simpa using this
section
variable{b:AAM} (hb:Bytes b)
include hb
end
section
variable{code:AAM} (hc:code.length≤2^30)
include hc
theorem ru{i h:Int}{l:List AA7}(hi:CS code i)(hl:l≠[])(hn:l.length≤2^30):∃v i' h',Gz l code i h=some ((v,()),((code,i',h',()),()))∧v∈l∧CS code i':=by
 unfold Gz;have hp:=AVA.2 hl;obtain⟨v,i1,h1,e,v0,v1,_,K3⟩:=Em hc (h:=h) (n:=l.length) hi (by omega);rw[e];simp only[AMM];have:=v1 (by omega);rw[ALC ⟨v0,this⟩];obtain⟨k,rfl⟩:∃k:Nat,v=(k:Int):=⟨v.toNat,by omega⟩;exact⟨_,i1,h1,rfl,by rw[Ah (by omega)];exact AMx _,K3⟩
theorem nP{i h:Int}(hi:CS code i):∃v i' h',E_ code i h=some ((v,()),((code,i',h',()),()))∧v<2^63∧ -2^63≤v∧CS code i':=by
 unfold E_ CW;obtain⟨v1,i1,h1,e1,a1,b1,_,K3⟩:=Em hc (h:=h) (n:=3) hi (by omega);rw[e1];simp only[AMM];obtain⟨v2,i2,h2,e2,a2,b2,_,H0⟩:=Em hc (h:=h1) (n:=6) K3 (by omega);rw[e2];simp only[AMM];obtain⟨v3,i3,h3,e3,a3,b3,_,Kn⟩:=Em hc (h:=h2) (n:=15) H0 (by omega);rw[e3];simp only[AMM];have:=b1 (by omega);have:=b2 (by omega);cases v3==0 with
 |true=>
  simp only[ANZ];obtain⟨p,i4,h4,e4,hp,sU⟩:=Ki hc (h:=h3) (l:=[0,(-1),4294967296,4294967297,9223372036854775807,(-9223372036854775808)]) Kn (by simp) (by simp);rw[e4];simp at hp;exact⟨p,i4,h4,rfl,by omega,by omega,sU⟩
 |false=>
  simp only[AL5];cases v3==1 with
  |true=>
   simp only[ANZ];obtain⟨p,i4,h4,e4,hp,sU⟩:=Ki hc (h:=h3) (l:=[0,30,31]) Kn (by simp) (by simp);rw[e4];simp only[AMM];obtain⟨q,i5,h5,e5,hq,hi5⟩:=Ki hc (h:=h4) (l:=[0,60,61]) sU (by simp) (by simp);rw[e5];simp only[AMM];simp at hp hq;rw[AH (x:=4294967296*p) (by omega) (by omega),AH (by omega) (by omega)];exact⟨_,i5,h5,rfl,by omega,by omega,hi5⟩
  |false=>
   simp only[AL5];rw[AH (x:=1+v1) (by omega) (by omega),AH (x:=1+v2) (by omega) (by omega),AH (x:=4294967296*_) (by omega) (by omega),AH (by omega) (by omega)];exact⟨_,i3,h3,rfl,by omega,by omega,Kn⟩
end
end Go.M
end
section
namespace Go.M
open Go.M.H (Cp AN A6 AQ AU AW AX Bb As Am uu o4 dj)
section
variable{b:AAM} (hb:Bytes b) (hl:b.length≤2^30)
include hb hl
end
theorem vq{o:Int}{l:List A6}{x:Int}{y:List A6}{z:Int}(hl:AU As l≤2^30):∀(n i:Nat) (acc:List A6),i≤l.length→l.length-i<n→acc.length=i→
  Jf n i o l x y z acc=some (((z,(),()),()),(acc++l.drop i,()))
 |0,i,_,_,h,_=>by omega
 |n+1,i,acc,hi,h,ha=>by
  have wD:=AW (f:=As) (l:=l);simp only[Jf,Rj,AB];by_cases hc:i<l.length
  ·have hm:=AX (f:=As) (AMx hc)
   rw[ALC (by omega),ALC (by omega),Ah hc,drop_cons hc];simp only[As]at hm;rw[ALC (by rw[An];omega),ALC (by rw[An];omega),AH (by omega) (by omega),show((i:Int)+1)=((i+1:Nat):Int)by omega];rw[vq hl n (i+1) _ (by omega) (by omega) (by simp[ha])];simp only[ANi,AQq,APq]
  ·rw[ALG (by omega)]
   have:i=l.length:=by omega
   subst this;simp
theorem rX{w:AQ}(hl:AU As w.2.1≤2^30):EH w=some (((w.1,(),()),()),(w.2.1,())):=by
 have wD:=AW (f:=As) (l:=w.2.1);unfold EH Rn;have:=vq (o:=w.1) (l:=w.2.1) (x:=0) (y:=[]) (z:=w.1) hl AY 0 [] (by omega) (Aa (by omega)) rfl;simpa using this
theorem ACi{l:AAM}{x:Int}(hl:l.length≤2^30):∃r,Cv l x=some ((r,()),()):=by
 have key:∀(n i:Nat),i≤l.length→l.length-i<n→ ∃r,Kt n l x i=some ((r,()),()):=by
  intro n
  induction n with
  |zero=>intro i _ h;omega
  |succ n ih=>
   intro i hi h;simp only[Kt,Tu,AB];by_cases hc:i<l.length
   ·rw[ALC (by omega),ALC (by omega),AH (by omega) (by omega),show((i:Int)+1)=((i+1:Nat):Int)by omega]
    cases(l.getD ((i:Int).toNat) 0==x)with
    |true=>exact⟨true,rfl⟩
    |false=>exact ih (i+1) (by omega) (by omega)
   ·rw[ALG (by omega)]
    exact⟨false,rfl⟩
 unfold Cv T3;have:=key AY 0 (by omega) (Aa (by omega));simpa using this
theorem nF{l:AAM}{x:Int}(hl:l.length≤2^30):∀(n i:Nat) (t:Bool) (b:AAM),i≤l.length→l.length-i<n→b.length≤i+cond t 1 0→ ∃l',HW n l x t i b=some (((),()),(l',()))∧l'.length≤l.length+1
 |0,i,_,_,_,h,_=>by omega
 |n+1,i,t,b,hi,h,hbl=>by
  simp only[HW,O6,AB];have hb2:b.length≤i+1:=by cases t<;>simp at hbl<;>omega
  by_cases hc:i<l.length
  ·have hc2:(0:Int)≤(i:Int)∧(i:Int)<(l.length:Int):=by omega
   have Xy:b.length+1≤DA:=by rw[An];omega
   rw[ALC hc2.2,AH (by omega) (by omega),show((i:Int)+1)=((i+1:Nat):Int)by omega];simp only[ALC hc2,ALC Xy];cases t with
   |true=>
    simp only[ALW,AL5];exact nF hl n (i+1) true _ (by omega) (by omega) (by simp at hbl⊢;omega)
   |false=>
    simp only[AQR,ANZ];simp at hbl;by_cases hg:l.getD ((i:Int).toNat) 0>x
    ·rw[ALC hg,ALC (by rw[An];simp;omega)]
     exact nF hl n (i+1) true _ (by omega) (by omega) (by simp;omega)
    ·rw[ALG hg]
     exact nF hl n (i+1) false _ (by omega) (by omega) (by simp;omega)
  ·rw[ALG (by omega),ALC (by rw[An];omega)]
   cases t with
   |true=>exact⟨b,rfl,by omega⟩
   |false=>exact⟨_,rfl,by simp at hbl⊢;omega⟩
theorem ABP{l:AAM}{x:Int}(hl:l.length≤2^30):∃l',IG l x=some (((),()),(l',()))∧l'.length≤l.length+1:=by
 unfold IG Tj;obtain⟨r,h⟩:=ACi (x:=x) hl;rw[h];exact nF hl AY 0 r [] (by omega) (Aa (by omega)) (by cases r<;>simp)
def WI(l:List A6):Prop:=l.length≤61∧ ∀e∈l,e.1.length≤41∧e.2.1.length≤9
theorem WI.w{l:List A6}(h:WI l):AU As l≤4000:=by
 have key:∀l:List A6,(∀e∈l,e.1.length≤41∧e.2.1.length≤9)→AU As l≤60*l.length:=by
  intro l
  induction l with
  |nil=>intro _;simp[AU]
  |cons e l ih=>
   intro hh;have:=hh e (by simp);have:=ih (fun e he=>hh e (by simp[he]));simp only[AU,As,AN2]at this⊢;omega
 have:=key l h.2;have:=h.1;omega
theorem WI.of{c:B_}{w:AQ}(h:DU c w=true):WI w.2.1:=by
 obtain⟨h1,h2,h3,h4⟩:=ZL h;exact⟨by omega,fun e he=>by have:=ik (h4 e he);omega⟩
theorem tb{c:B_}{w:AQ}{s:AA7}(hc:c.1.length≤2^40)(hw:WI w.2.1)(hs:s.length≤41):
  ∃w':AQ,∃off ok,Gj c w s=some ((((w'.1,(),()),off,ok,()),()),(w'.2.1,()))∧WI w'.2.1:=by
 unfold Gj;have hww:=hw.w;rw[show(c.1,c.2.1,())=c from rfl,show(w.1,w.2.1,())=w from rfl,F5 hc (by omega),rX (by omega)];simp only[AMM];cases DU c w with
 |false=>exact⟨(0,[],()),0,false,rfl,by simp[WI]⟩
 |true=>
  have h1:=hw.1;simp only[ALW,AL5];rw[ALC (by rw[An];omega)];have ABc:AU As (w.2.1++[(s,[],false,())])≤2^30:=by
   rw[oU];simp only[As,APp];omega
  rw[F5 (w:=(w.1,w.2.1++[(s,[],false,())],())) hc ABc];simp only[AMM];rcases AK_ (DU c (w.1,w.2.1++[(s,[],false,())],()))with hf|hf
  ·rw[hf]
   exact⟨(w.1,w.2.1++[(s,[],false,())],()),_,true,rfl,WI.of hf⟩
  ·rw[hf]
   exact⟨w,0,false,rfl,hw⟩
theorem sR{c:B_}{w:AQ}{p q:Int}(hc:c.1.length≤2^40)(hw:WI w.2.1):
  ∃w':AQ,∃ok,Dh c w p q=some ((((w'.1,(),()),ok,()),()),(w'.2.1,()))∧WI w'.2.1:=by
 unfold Dh;have hww:=hw.w;rw[show(c.1,c.2.1,())=c from rfl,show(w.1,w.2.1,())=w from rfl,F5 hc (by omega),rX (by omega),BQ,BQ];simp only[AMM];rcases AK_ (DU c w)with FX|FX
 rotate_left
 ·rw[FX]
  exact⟨(0,[],()),false,rfl,by simp[WI]⟩
 have h1:=hw.1;rw[FX];simp only[ALW,AL5];rcases AK_ (BF p 1 (w.2.1.length:Int))with hp|hp
 rotate_left
 ·rw[hp]
  exact⟨w,false,rfl,hw⟩
 rw[hp];simp only[ALW,AL5];cases BF q 0 (AS ((c.1.length:Int)-1))with
 |false=>exact⟨w,false,rfl,hw⟩
 |true=>
  simp only[BF,ANR]at hp;rw[AH (x:=p-1) (by omega) (by omega)];obtain⟨k,hk⟩:∃k:Nat,p-1=(k:Int):=⟨(p-1).toNat,by omega⟩;rw[hk];have hkl:k<w.2.1.length:=by omega
  have hb:(0:Int)≤(k:Int)∧(k:Int)<(w.2.1.length:Int):=by omega
  simp only[ALW,AL5,AQk];rw[ALC hb,ALC hb,Ah hkl];have he:=hw.2 _ (AMx hkl);have he2:=ik ((ZL FX).2.2.2 _ (AMx hkl))
  generalize wK:w.2.1[k]=e at he he2
  cases e.2.2.1 with
  |true=>exact⟨w,false,rfl,hw⟩
  |false=>
   simp only[AL5];obtain⟨l',hl1,tu⟩:=ABP (l:=e.2.1) (x:=q) (by omega);rw[hl1];simp only[AMM];rw[ALC hb,ALC hb,AMp];have hg:(w.2.1.set k (e.1,l',false,())).getD k ([],[],false,())=(e.1,l',false,()):=by
    simp[List.getD,hkl]
   rw[hg];simp only;rw[Dm hc (by omega)];simp only[AMM];rw[ALC hb];refine⟨(w.1,(w.2.1.set k (e.1,l',false,())).set k (e.1,l',holds c l',()),()),true,rfl,by simp only[AQk];exact h1,?_⟩;intro y hy;simp only[AUf]at hy;rcases AQX hy with hy|rfl
   ·exact hw.2 y hy
   ·exact⟨he.1,by simp only;omega⟩
section
variable{code:AAM} (hc:code.length≤2^30)
include hc
theorem Ph{c:B_}(YF:c.1.length≤2^20){x:Int}{y:List A6}:∀(n k:Nat) (i h:Int) (w:AQ),CS code i→k≤14→14-k<n→WI w.2.1→
  ∃(w':AQ) (i' h':Int),IV n k code i h c.1 c.2.1 x y w.1 w.2.1=some (((w'.1,(),()),()),((code,i',h',()),w'.2.1,()))∧WI w'.2.1∧CS code i'
 |0,_,_,_,_,_,_,h,_=>by omega
 |n+1,k,i,h,w,hi,hk,hn,hw=>by
  simp only[IV,Sh,AB];obtain⟨v,i1,h1,e1,a1,b1,_,K3⟩:=Em hc (h:=h) (n:=14) hi (by omega);rw[e1];simp only[AMM];have:=b1 (by omega);by_cases Hw:(k:Int)<v
  ·rw[ALC Hw]
   obtain⟨s,i2,h2,e2,hs,H0⟩:=ru hc (h:=h1) (l:=[[],[97],[98,99]]) K3 (by simp) (by simp);rw[e2];simp only[AMM];have zT:s.length≤41:=by
    simp at hs;rcases hs with rfl|rfl|rfl<;>simp
   obtain⟨w1,off,ok,e3,hw1⟩:=tb (c:=c) (w:=w) (s:=s) (by omega) hw zT;rw[show(c.1,c.2.1,())=c from rfl,show(w.1,w.2.1,())=w from rfl,e3];simp only[AMM];obtain⟨o,i3,h3,e4,Kn⟩:=kd hc (h:=h2) (n:=2) H0 (by omega);rw[e4];simp only[AMM];rw[AH (x:=(k:Int)+1) (by omega) (by omega),show((k:Int)+1)=((k+1:Nat):Int)by omega];cases o with
   |true=>
    simp only[ANZ];have h61:=hw.1;obtain⟨m,em,hm⟩:∃m:Int,FF (w.2.1.length:Int) 1=some ((m,()),())∧m≤2^40:=by
     unfold FF;rw[AB];split
     ·exact⟨_,rfl,by omega⟩
     ·exact⟨1,rfl,by omega⟩
    rw[em];simp only[AMM];obtain⟨v4,i4,h4,e5,a5,b5,_,sU⟩:=Em hc (h:=h3) (n:=m) Kn hm;rw[e5];simp only[AMM];obtain⟨v5,i5,h5,e6,a6,b6,_,hi5⟩:=Em hc (h:=h4) (n:=(c.1.length:Int)) sU (by omega);rw[e6];simp only[AMM];obtain⟨w2,ok2,e7,hw2⟩:=sR (c:=c) (w:=w) (p:=AS (1+v4)) (q:=v5) (by omega) hw;rw[e7];simp only[AMM];cases ok2 with
    |true=>exact Ph YF n (k+1) i5 h5 w2 hi5 (by omega) (by omega) hw2
    |false=>exact Ph YF n (k+1) i5 h5 w hi5 (by omega) (by omega) hw
   |false=>
    simp only[AL5];cases ok with
    |true=>exact Ph YF n (k+1) i3 h3 w1 Kn (by omega) (by omega) hw1
    |false=>exact Ph YF n (k+1) i3 h3 w Kn (by omega) (by omega) hw
  ·rw[ALG Hw]
   exact⟨w,i1,h1,rfl,hw,K3⟩
theorem nW{c:B_}(YF:c.1.length≤2^20){i h:Int}(hi:CS code i):
  ∃(w':AQ) (i' h':Int),PM c code i h=some (((w'.1,(),()),()),((code,i',h',()),w'.2.1,()))∧WI w'.2.1∧CS code i':=by
 unfold PM Se;obtain⟨v,i1,h1,e1,a1,b1,_,K3⟩:=Em hc (h:=h) (n:=4) hi (by omega);rw[e1];exact Ph hc YF AY 0 i1 h1 (AS (1+v),[],()) K3 (by omega) (Aa (by omega)) (by simp[WI])
omit hc in
theorem vd{x:Int}{y:List A6}{z:Int}{i h:Int}(hi:CS code i):∀(n:Nat) (l:List A6),61-l.length<n→WI l→
  ∃l',Gv n code i h x y z l=some (((z,(),()),()),((code,i,h,()),l',()))∧WI l'
 |0,_,h,_=>by omega
 |n+1,l,hn,hw=>by
  simp only[Gv,QP,AB];have h1:=hw.1;by_cases h60:l.length<60
  ·rw[ALC (by omega)]
   by_cases h0:0<l.length
   ·rw[ALC (by omega),ALC (by omega),ALC (by rw[An];omega)]
    refine vd hi n _ (by simp;omega) ⟨by simp;omega,fun e he=> ?_⟩;rcases AOO.1 he with he|he
    ·exact hw.2 e he
    ·simp only[AP_]at he
     have hm:l.getD 0 ([],[],false,())∈l:=by
      have:=Ah (l:=l) (i:=0) (d:=([],[],false,())) h0;simp only[Int.ofNat_zero,Int.toNat_zero]at this;rw[this];exact AMx _
     rw[he];exact hw.2 _ hm
   ·rw[ALG (by omega)]
    exact⟨l,rfl,hw⟩
  ·rw[ALG (by omega)]
   exact⟨l,rfl,hw⟩
theorem AAX{c:B_}(YF:c.1.length≤2^20){i h:Int}(hi:CS code i):
  ∃(w':AQ) (i' h':Int),OA c code i h=some (((w'.1,(),()),()),((code,i',h',()),w'.2.1,()))∧AU As w'.2.1≤4000∧CS code i':=by
 unfold OA Nf;obtain⟨w,i1,h1,e1,hw,K3⟩:=nW hc YF (h:=h) hi;rw[show(c.1,c.2.1,())=c from rfl,e1];simp only[AMM];obtain⟨v,i2,h2,e2,a2,b2,_,H0⟩:=Em hc (h:=h1) (n:=25) K3 (by omega);rw[e2];simp only[AMM];have h61:=hw.1;cases v==0 with
 |true=>
  simp only[ANZ];obtain⟨p,i3,h3,e3,hp,Kn⟩:=Ki hc (h:=h2) (l:=[0,30,31]) H0 (by simp) (by simp);rw[e3];exact⟨(p,w.2.1,()),i3,h3,rfl,hw.w,Kn⟩
 |false=>
  simp only[AL5];cases v==1 with
  |true=>
   simp only[ANZ,AB];by_cases h0:0<w.2.1.length
   ·rw[ALC (by omega),ALC (by omega),ALC (by omega)]
    refine⟨(w.1,w.2.1.set 0 ((w.2.1.getD 0 ([],[],false,())).1,(w.2.1.getD 0 ([],[],false,())).2.1,!(w.2.1.getD 0 ([],[],false,())).2.2.1,()),()),i2,h2,rfl,WI.w ⟨by simp;omega,fun e he=> ?_⟩,H0⟩;rcases AQX he with he|rfl
    ·exact hw.2 e he
    ·have hm:w.2.1.getD 0 ([],[],false,())∈w.2.1:=by
      have:=Ah (l:=w.2.1) (i:=0) (d:=([],[],false,())) h0;simp only[Int.ofNat_zero,Int.toNat_zero]at this;rw[this];exact AMx _
     have:=hw.2 _ hm;exact this
   ·rw[ALG (by omega)]
    exact⟨w,i2,h2,rfl,hw.w,H0⟩
  |false=>
   simp only[AL5];cases v==2 with
   |true=>
    simp only[ANZ];obtain⟨p,i3,h3,e3,a3,b3,_,Kn⟩:=Em hc (h:=h2) (n:=2) H0 (by omega);rw[e3];simp only[AMM];have:=b3 (by omega);rw[AH (by omega) (by omega),ALC (by rw[An];omega),ALC (by rw[An];omega)];refine⟨(w.1,w.2.1++[(List.map (fun n:Int=>UInt8.ofNat n.toNat) (List.replicate (40+p).toNat 0),[],false,())],()),i3,h3,rfl,?_,Kn⟩;have hww:=hw.w;have key:=oU (l:=w.2.1) (e:=(List.map (fun n:Int=>UInt8.ofNat n.toNat) (List.replicate (40+p).toNat 0),[],false,()));have hws:AU As w.2.1≤60*61:=by
     have AW0:∀l:List A6,(∀e∈l,e.1.length≤41∧e.2.1.length≤9)→AU As l≤60*l.length:=by
      intro l
      induction l with
      |nil=>intro _;simp[AU]
      |cons e l ih=>
       intro hh;have:=hh e (by simp);have:=ih (fun e he=>hh e (by simp[he]));simp only[AU,As,AN2]at this⊢;omega
     have:=AW0 _ hw.2;omega
    simp only;rw[key];simp only[As,AQ6,AQv,APp];omega
   |false=>
    simp only[AL5];cases v==3 with
    |true=>
     simp only[ANZ];obtain⟨l',e4,hw4⟩:=vd (x:=0) (y:=[]) (z:=w.1) (h:=h2) H0 AY w.2.1 (Aa (by omega)) hw;rw[e4];exact⟨(w.1,l',()),i2,h2,rfl,hw4.w,H0⟩
    |false=>exact⟨w,i2,h2,rfl,hw.w,H0⟩
end
end Go.M
end
section
set_option maxRecDepth 8000
namespace Go.M
open Go.M.H (AK AO Ax Al AA Cp AN A6 AQ Aj Bc A7 Br Ai B5 AU AW AX Ag Bb As Am A0 D8 CG Ct C3)
def OK(code:AAM){X Y:Type}(Q:X→Y→Prop)(o:Option (X×(ACP×Y))):Prop:=
 ∃x i h y,o=some (x,((code,i,h,()),y))∧CS code i∧Q x y
section
variable{code:AAM} {X Y Z W:Type} {Q:X→Y→Prop} {R:Z→W→Prop}
theorem OK.bind{o:Option (X×(ACP×Y))}{f:X×(ACP×Y)→Option (Z×(ACP×W))}
  (ho:OK code Q o) (hf:∀x i h y,CS code i→Q x y→OK code R (f (x,((code,i,h,()),y)))):OK code R (o.bind f):=by
 obtain⟨x,i,h,y,e,hi,hq⟩:=ho;rw[e];exact hf x i h y hi hq
theorem OK.pure{A:Type}{o:Option A}{a:A}{f:A→Option (Z×(ACP×W))}(ho:o=some a)(hf:OK code R (f a)):OK code R (o.bind f):=by
 rw[ho];exact hf
theorem OK.some{x:X}{i h:Int}{y:Y}(hi:CS code i)(hq:Q x y):OK code Q (some (x,((code,i,h,()),y))):=⟨x,i,h,y,rfl,hi,hq⟩
theorem OK.cond{b:Bool}{x y:Option (X×(ACP×Y))}(h1:b=true→OK code Q x)(h2:b=false→OK code Q y):OK code Q (cond b x y):=by
 cases b
 ·exact h2 rfl
 ·exact h1 rfl
theorem OK.Pk{p:Prop}[Decidable p]{x y:Option (X×(ACP×Y))}(h1:p→OK code Q x)(h2: ¬p→OK code Q y):OK code Q (_root_.cond (decide p) x y):=by
 by_cases hp:p
 ·rw[APl hp];exact h1 hp
 ·rw[AQO hp];exact h2 hp
theorem OK.Fj{a b:Int}{x y:Option (X×(ACP×Y))}(h1:a=b→OK code Q x)(h2:a≠b→OK code Q y):OK code Q (_root_.cond (a==b) x y):=by
 rw[C9];by_cases hp:a=b
 ·rw[ALC hp];exact h1 hp
 ·rw[ALG hp];exact h2 hp
theorem OK.ite{p:Prop}[Decidable p]{x y:Option (X×(ACP×Y))}(hp:p)(h1:OK code Q x):OK code Q (if p then x else y):=by
 rw[ALC hp];exact h1
end
section
variable{code:AAM} (hc:code.length≤2^30)
include hc
theorem Bo{i h n:Int}(hi:CS code i)(hn:n≤2^40):OK code (fun(x:AA3) (y:Unit)=>0≤x.1∧(0<n→x.1<n)∧(n≤0→x.1=0)) (AJ n code i h):=by
 obtain⟨v,i',h',e,v0,v1,v2,DG⟩:=Em hc (h:=h) hi hn;exact⟨(v,()),i',h',(),e,DG,v0,v1,v2⟩
theorem P_{i h n:Int}(hi:CS code i)(hn:n≤2^40):OK code (fun(x:AA1) (y:Unit)=>True) (A9 n code i h):=by
 obtain⟨v,i',h',e,DG⟩:=kd hc (h:=h) hi hn;exact⟨(v,()),i',h',(),e,DG,trivial⟩
theorem Qc{i h:Int}{l:AAM}(hi:CS code i)(hl:l≠[])(hn:l.length≤2^30):OK code (fun(x:AA3) (y:Unit)=>x.1∈l) (CI l code i h):=by
 obtain⟨v,i',h',e,hv,DG⟩:=Ki hc (h:=h) hi hl hn;exact⟨(v,()),i',h',(),e,DG,hv⟩
theorem mw{i h:Int}{l:List AA7}(hi:CS code i)(hl:l≠[])(hn:l.length≤2^30):OK code (fun(x:AGJ) (y:Unit)=>x.1∈l) (Gz l code i h):=by
 obtain⟨v,i',h',e,hv,DG⟩:=ru hc (h:=h) hi hl hn;exact⟨(v,()),i',h',(),e,DG,hv⟩
theorem SN{c:B_}(YF:c.1.length≤2^10){i h:Int}(hi:CS code i):OK code (fun(x:AA9) (y:AA_)=>y.1.length≤2^12) (E8 c code i h):=by
 have key:∀(n k N:Nat) (i h:Int) (b:AAM),CS code i→k≤N→N-k<n→N≤2^11→b.length≤k→
   OK code (fun(x:AA9) (y:AA_)=>y.1.length≤2^12) (IQ n N k code i h c.1 c.2.1 b):=by
  intro n
  induction n with
  |zero=>intro k N i h b _ _ h;omega
  |succ n ih=>
   intro k N i h b hi hk hn hN hb;simp only[IQ,Rf];refine OK.Pk (fun Hw=> ?_) (fun wK=> ?_)
   ·refine OK.pure Iv ?_
    dsimp only;refine OK.bind (Bo hc hi (by omega)) fun x i' h' y DG hq=> ?_
    dsimp only;refine OK.pure (Ku (by omega)) ?_
    dsimp only;rw[AH (by omega) (by omega),show((k:Int)+1)=((k+1:Nat):Int)by omega];have:=Sx (n:=x.1) (l:=b);exact ih (k+1) N _ _ _ DG (by omega) (by omega) hN (by omega)
   ·refine OK.bind (P_ hc hi (by omega)) fun x i' h' y DG hq=> ?_
    dsimp only;refine OK.cond (fun _=> ?_) (fun _=> ?_)
    ·refine OK.bind (Qc hc DG (by simp) (by simp)) fun x i' h' y DG hq=> ?_
     dsimp only;refine OK.ite (by rw[An];omega) ?_
     exact OK.some DG (by simp;omega)
    ·exact OK.some DG (by show b.length≤_;omega)
 unfold E8 SE;rw[AH (by omega) (by omega)];refine OK.bind (Bo hc hi (by omega)) fun x i' h' y DG hq=> ?_
 dsimp only;obtain⟨N,hN⟩:∃N:Nat,x.1=N:=⟨x.1.toNat,by omega⟩;rw[hN];exact key AY 0 N i' h' [] DG (by omega) (Aa (by omega)) (by omega) (by simp)
theorem gf{c:B_}(YF:c.1.length≤2^10){i h:Int}(hi:CS code i):OK code (fun(x:AA9) (y:AA_)=>y.1.length≤2^13) (Hv c code i h):=by
 have key:∀(n k:Nat) (i h:Int) (b:AAM),CS code i→k≤c.1.length→c.1.length-k<n→b.length≤2^12+k→
   OK code (fun(x:AA9) (y:AA_)=>y.1.length≤2^13) (Km n k code i h c.1 c.2.1 b):=by
  intro n
  induction n with
  |zero=>intro k i h b _ _ h;omega
  |succ n ih=>
   intro k i h b hi hk hn hb;simp only[Km,Uc];refine OK.Pk (fun Hw=> ?_) (fun wK=>OK.some hi (by show b.length≤_;omega));refine OK.pure (Dm (c:=(c.1,c.2.1,())) (by show c.1.length≤_;omega) (by omega)) ?_
   dsimp only;refine OK.cond (fun _=> ?_) (fun _=>OK.some hi (by show b.length≤_;omega));refine OK.pure (Ku (by omega)) ?_
   dsimp only;rw[AH (by omega) (by omega),show((k:Int)+1)=((k+1:Nat):Int)by omega];have:=Sx (n:=(k:Int)) (l:=b);exact ih (k+1) _ _ _ hi (by omega) (by omega) (by omega)
 unfold Hv UX;refine OK.bind (SN hc (c:=(c.1,c.2.1,())) YF hi) fun x i' h' y DG hq=> ?_
 dsimp only;exact key AY 0 i' h' y.1 DG (by omega) (Aa (by omega)) (by omega)
end
theorem AG2{x:Int}:Ce (IntKind.wrap .i64 x):=by
 unfold Ce IntKind.wrap;simp[IntKind.bits,IntKind.signed];split<;>omega
theorem AMS{a b:Int}:Ce (bOr .i64 a b):=by
 unfold bOr;exact AG2
theorem sN{l:AAM}(hl:l.length≤2^20):∃r,LN l=some ((r,()),())∧Ce r:=by
 have key:∀(n k:Nat) (t:Int),(∀x∈l,0≤x)→Ce t→k≤l.length→l.length-k<n→ ∃r,Kl n l t k=some ((r,()),())∧Ce r:=by
  intro n
  induction n with
  |zero=>intro k t _ _ _ h;omega
  |succ n ih=>
   intro k t hp ht hk hn;simp only[Kl,Um,AB];by_cases Hw:k<l.length
   ·rw[ALC (by omega),ALC (by omega),Ah Hw,ALG (by have:=hp _ (AMx Hw);omega),AH (x:=(k:Int)+1) (by omega) (by omega),show((k:Int)+1)=((k+1:Nat):Int)by omega]
    exact ih (k+1) _ hp AMS (by omega) (by omega)
   ·rw[ALG (by omega)]
    exact⟨t,rfl,ht⟩
 unfold LN UY;rw[fP (by omega)];simp only[AD,Au];rcases AK_ (pU l 7)with ha|ha
 ·rw[ha]
  exact key AY 0 0 (fun x hx=>((um.1 ha).1 x hx).1) (by unfold Ce;omega) (by omega) (Aa (by omega))
 ·rw[ha]
  exact⟨-1,rfl,by unfold Ce;omega⟩
end Go.M
end
section
set_option maxRecDepth 8000
namespace Go.M
open Go.M.H (AK AO Ax Al AA Cp AN A6 AQ Aj Bc A7 Br Ai B5 AU AW AX Ag Bb As Am A0 D8 CG Ct C3)
abbrev jN:Br×Unit→Unit→Prop:=fun x _=>Ce x.1.2.1∧Ce x.1.2.2.1∧Ce x.1.2.2.2.1∧x.1.2.2.2.2.1.length≤40
theorem zf{x:AA7}(h:x∈[[],[97],[98,99],[100]]):x.length≤40:=by
 simp only[APr,List.not_mem_nil,or_false]at h;rcases h with rfl|rfl|rfl|rfl<;>simp
theorem ACB(x:Int):Ce (AS x):=by
 unfold AS IntKind.wrap Ce;simp[IntKind.bits,IntKind.signed];split<;>omega
theorem Nq{x:Int}(h: -1000≤x∧x≤1000):Ce x:=by unfold Ce;omega
section
variable{code:AAM} (hc:code.length≤2^30) {w:AA} (h:On w)
include hc h
theorem On.AC7{e:Int}(he:1≤e∧e≤w.A8.length):0<(Bd w.A8 e).length∧(Bd w.A8 e).length≤8∧ ∀x∈Bd w.A8 e,0≤x∧x<8:=by
 have hh:=(h.mC.A8 _ (BU (d:=Gt) (show(e-1).toNat<(CJ w).1.length by show _<w.A8.length;omega))).1;have hn:=Uv hh;have YF:=(Dw h.cfg).2.1;unfold Bd;rw[Ak.2 he,ALC rfl];refine⟨?_,G2 hn,fun x hx=> ?_⟩
 ·rcases AUQ (w.A8.getD (e-1).toNat Gt).1.length with h0|h0
  ·have vT:=AP0 h0
   have hh':holds (Ac w) (w.A8.getD (e-1).toNat Gt).1=true:=hh;rw[vT,holds_nil]at hh';cases hh'
  ·exact h0
 ·have:=(EY.1 hn).2.1 x hx
  omega
theorem sr(hw:0<w.AR.length){i hh:Int}(hi:CS code i):OK code jN (Ga w code i hh):=by
 have k:=h.nums;have k2:=k.wr;have k5:=k.era;have qw:0<w.2.2.2.2.2.2.1.length:=hw;have tail:∀(j:Int),0≤j→j<(w.2.2.2.2.2.2.1.length:Int)→ ∀i hh,CS code i→OK code jN (
   (CU (w.2.2.2.2.1,w.2.2.2.2.2.1,()) ((w.2.2.2.2.2.2.1.getD (j.toNat) (0,[],())).1)).bind fun Vq=>
   (AJ (Vq.2.1.length:Int) code i hh).bind fun L9=>
   if(0:Int)≤L9.1.1∧L9.1.1<(Vq.2.1.length:Int)then(
   cond ((((w.2.2.2.2.2.2.1.getD (j.toNat) (0,[],())).2.1).length:Int)==0)
    ((Gz [[],[97],[98,99],[100]] L9.2.1.1 L9.2.1.2.1 L9.2.1.2.2.1).bind fun ZX=>
    some (((2,j,0,0,ZX.1.1,()),()),((ZX.2.1.1,ZX.2.1.2.1,ZX.2.1.2.2.1,()),())))
   ((A9 7 L9.2.1.1 L9.2.1.2.1 L9.2.1.2.2.1).bind fun IZ=>
   cond (IZ.1.1)
    ((Gz [[],[97],[98,99],[100]] IZ.2.1.1 IZ.2.1.2.1 IZ.2.1.2.2.1).bind fun aR=>
    some (((2,j,0,0,aR.1.1,()),()),((aR.2.1.1,aR.2.1.2.1,aR.2.1.2.2.1,()),())))
   ((A9 3 IZ.2.1.1 IZ.2.1.2.1 IZ.2.1.2.2.1).bind fun fU=>
   cond (fU.1.1)
    (some (((4,(Vq.2.1.getD (L9.1.1.toNat) 0),0,0,[],()),()),((fU.2.1.1,fU.2.1.2.1,fU.2.1.2.2.1,()),())))
   ((Ts (((w.2.2.2.2.2.2.1.getD (j.toNat) (0,[],())).2.1).length:Int) 3).bind fun fE=>
   (AJ fE.1.1 fU.2.1.1 fU.2.1.2.1 fU.2.1.2.2.1).bind fun Om=>
   some (((3,j,AS ((((w.2.2.2.2.2.2.1.getD (j.toNat) (0,[],())).2.1).length:Int)-Om.1.1),(Vq.2.1.getD (L9.1.1.toNat) 0),[],()),()),((Om.2.1.1,Om.2.1.2.1,Om.2.1.2.2.1,()),()))))))else none):=by
  intro j hj0 hj1 i hh hi;have hx:=h.AR _ (BU (d:=CM) (show j.toNat<w.AR.length by show j.toNat<w.2.2.2.2.2.2.1.length;omega));have he:=hx.1.ep;obtain⟨e1,e2,e3⟩:=h.AC7 hc (e:=(w.AR.getD j.toNat CM).1) ⟨he.1,hx.2⟩;refine OK.pure (E9 (r:=CJ w) (by show AU Bb w.2.2.2.2.1≤_;omega)) ?_
  dsimp only
  generalize hns:Bd (CJ w).1 (w.2.2.2.2.2.2.1.getD j.toNat (0,[],())).1=ns
  have APj:Bd w.A8 (w.AR.getD j.toNat CM).1=ns:=hns;rw[APj]at e1 e2 e3;refine OK.bind (Bo hc hi (by omega)) fun x i1 h1 y K3 hq=> ?_
  dsimp only at*;refine OK.ite (by omega) ?_
  have ABf:Ce (ns.getD x.1.toNat 0):=Nq (by have:=e3 _ (BU (l:=ns) (i:=x.1.toNat) (d:=0) (by omega));omega);have hjj:Ce j:=Nq (by omega);have z:Ce 0:=Nq (by omega)
  repeat' (first|refine OK.some (by assumption) ?_|refine OK.Pk (fun _=> ?_) (fun _=> ?_)|refine OK.Fj (fun _=> ?_) (fun _=> ?_)|refine OK.cond (fun _=> ?_) (fun _=> ?_)|refine OK.ite (by omega) ?_|(refine OK.bind (P_ (by assumption) (by assumption) (by omega)) fun x i h y hi hq=> ?_;dsimp only)|(refine OK.bind (Bo (by assumption) (by assumption) (by omega)) fun x i h y hi hq=> ?_;dsimp only at*)|(refine OK.bind (mw (by assumption) (by assumption) (by simp) (by simp)) fun x i h y hi hq=> ?_;dsimp only)|(refine OK.pure ZO ?_;dsimp only)|(refine OK.pure Iv ?_;dsimp only))
  all_goals refine⟨?_,?_,?_,?_⟩
  all_goals first
   |assumption
   |exact ACB _
   |exact AUb _
   |exact zf (by assumption)
 unfold Ga;dsimp only;have e1:AS ((w.2.2.2.2.2.2.1.length:Int)-1)=(w.2.2.2.2.2.2.1.length:Int)-1:=AH (by omega) (by omega);simp only[e1];refine OK.bind (Bo hc hi (by omega)) fun x i1 h1 y K3 hq=> ?_
 dsimp only at*;refine OK.bind (P_ hc K3 (by omega)) fun x2 i2 h2 y2 H0 qZ=> ?_
 dsimp only at*;refine OK.cond (fun _=> ?_) (fun _=> ?_)
 ·refine OK.ite (by omega) ?_
  exact tail _ (by omega) (by omega) _ _ H0
 ·refine OK.ite (by omega) ?_
  exact tail _ (by omega) (by omega) _ _ H0
end
end Go.M
end
section
set_option maxRecDepth 8000
namespace Go.M
open Go.M.H (AK AO Ax Al AA Cp AN A6 AQ Aj Bc A7 Br Ai B5 AU AW AX Ag Bb As Am A0 D8 CG Ct C3)
section
variable{code:AAM} (hc:code.length≤2^30) {w:AA} (h:On w)
include hc h
theorem uX{m:Ax}(hm:jW (Ac w) m){t7:Int}(h7:Ce t7):∀(n k:Nat) (t8 i hh:Int),Ce t8→CS code i→k≤m.2.2.2.2.2.1.length→m.2.2.2.2.2.1.length-k<n→
  OK code jN (Fy n t7 t8 k code i hh w.1 w.2.1 w.2.2.1 w.2.2.2.1 w.2.2.2.2.1 w.2.2.2.2.2.1 w.2.2.2.2.2.2.1 w.2.2.2.2.2.2.2.1 w.2.2.2.2.2.2.2.2.1 w.2.2.2.2.2.2.2.2.2.1 w.2.2.2.2.2.2.2.2.2.2.1 0 0 0 0 [] m.1 m.2.1 m.2.2.1 m.2.2.2.1 m.2.2.2.2.1 m.2.2.2.2.2.1):=by
 have k1:=h.nums.c;have wA:m.2.2.2.2.2.1.length≤60:=by
  have:=hm.n;have hb:=HX (l:=m.2.2.2.1);split at this<;>omega
 intro n
 induction n with
 |zero=>intro k t8 i hh _ _ _ h;omega
 |succ n ih=>
  intro k t8 i hh h8 hi hk hn;have hk8:Ce ((k+1:Nat):Int):=Nq (by omega);simp only[Fy,RE];refine OK.Pk (fun Hw=> ?_) (fun wK=>OK.some hi ⟨Nq (by show-1000≤(0:Int)∧(0:Int)≤1000;omega),h8,h7,AUb _⟩);have AXD:k<m.2.2.2.2.2.1.length:=by omega
  refine OK.ite (by omega) ?_
  rw[AH (x:=(k:Int)+1) (by omega) (by omega),show((k:Int)+1)=((k+1:Nat):Int)by omega];have vh:=G2 (hm.wrote _ (BU (d:=[]) AXD));refine OK.pure (Dm (c:=Ac w) (by show w.1.length≤_;omega) (by show(m.2.2.2.2.2.1.getD k []).length≤_;omega)) ?_
  dsimp only;refine OK.cond (fun _=> ?_) (fun _=>ih (k+1) _ _ _ h8 hi (by omega) (by omega));refine OK.bind (P_ hc hi (by omega)) fun x2 i2 h2 y2 H0 qZ=> ?_
  dsimp only;exact OK.cond (fun _=>ih (k+1) _ _ _ hk8 H0 (by omega) (by omega)) (fun _=>ih (k+1) _ _ _ h8 H0 (by omega) (by omega))
theorem vk{i hh:Int}(hi:CS code i):OK code jN (LM w code i hh):=by
 have k:=h.nums;have k5:=k.era;unfold LM Sa;have z:Ce 0:=Nq (by omega);refine OK.Fj (fun _=>OK.some hi ⟨z,z,z,AUb _⟩) (fun cq=> ?_);have hlen:0<w.CB.length:=by show 0<w.2.2.2.2.2.2.2.1.length;omega
 refine OK.ite (by omega) ?_
 have hmm:=h.CB _ (BU (d:=Q7) hlen)
 generalize hg:w.2.2.2.2.2.2.2.1.getD 0 (0,0,[],[],false,[],())=m
 have vN:w.CB.getD 0 Q7=m:=hg;rw[vN]at hmm;obtain⟨hm,hm2,hm3⟩:=hmm;have he:=hm.ep;have hb:=hm.b;obtain⟨e1,e2,e3⟩:=h.AC7 hc (e:=m.2.1) ⟨he.1,by omega⟩;have wA:m.2.2.2.2.2.1.length≤60:=by
  have:=hm.n;have hb:=HX (l:=m.2.2.2.1);split at this<;>omega
 refine OK.pure (E9 (r:=CJ w) (by show AU Bb w.2.2.2.2.1≤_;omega)) ?_
 dsimp only
 generalize hns:Bd (CJ w).1 m.2.1=ns
 have APj:Bd w.A8 m.2.1=ns:=hns;rw[APj]at e1 e2 e3;refine OK.bind (Bo hc hi (by omega)) fun x i1 h1 y K3 hq=> ?_
 dsimp only at*;refine OK.ite (by omega) ?_
 have ABf:Ce (ns.getD x.1.toNat 0):=Nq (by have:=e3 _ (BU (l:=ns) (i:=x.1.toNat) (d:=0) (by omega));omega);have fin:∀t8 i hh,Ce t8→CS code i→OK code jN (Fy AY (ns.getD x.1.toNat 0) t8 0 code i hh w.1 w.2.1 w.2.2.1 w.2.2.2.1 w.2.2.2.2.1 w.2.2.2.2.2.1 w.2.2.2.2.2.2.1 w.2.2.2.2.2.2.2.1 w.2.2.2.2.2.2.2.2.1 w.2.2.2.2.2.2.2.2.2.1 w.2.2.2.2.2.2.2.2.2.2.1 0 0 0 0 [] m.1 m.2.1 m.2.2.1 m.2.2.2.1 m.2.2.2.2.1 m.2.2.2.2.2.1):=fun t8 i hh h8 hi=>
  uX hc h hm ABf AY 0 t8 i hh h8 hi (by omega) (Aa (by omega))
 repeat' (first|refine OK.some (by assumption) ?_|refine OK.Pk (fun _=> ?_) (fun _=> ?_)|refine OK.Fj (fun _=> ?_) (fun _=> ?_)|refine OK.cond (fun _=> ?_) (fun _=> ?_)|refine OK.ite (by omega) ?_|(refine OK.bind (P_ (by assumption) (by assumption) (by omega)) fun x i h y hi hq=> ?_;dsimp only)|(refine OK.bind (Bo (by assumption) (by assumption) (by omega)) fun x i h y hi hq=> ?_;dsimp only at*)|(refine OK.bind (mw (by assumption) (by assumption) (by simp) (by simp)) fun x i h y hi hq=> ?_;dsimp only)|(refine OK.pure ZO ?_;dsimp only)|(refine OK.pure Iv ?_;dsimp only))
 all_goals first
  |exact fin _ _ _ (ACB _) (by assumption)
  |exact⟨z,z,z,AUb _⟩
  |exact⟨ABf,z,z,AUb _⟩
theorem vE{i hh:Int}(hi:CS code i):OK code jN (PC w code i hh):=by
 have k:=h.nums;have k1:=k.c;have k2:=k.wr;have k3:=k.lost;have k4:=k.st;have k5:=k.era;have k6:=k.se;have k7:=k.aj;have wm:=(Dw h.cfg).1;have AZb:1≤w.1.length:=wm;have z:Ce 0:=Nq (by omega);have UZ:∀i hh,CS code i→OK code jN ((Hv (w.1,w.2.1,()) code i hh).bind fun u3=>
   (LN u3.2.2.1).bind fun u4=>
   some (((1,u4.1.1,0,0,[],()),()),((u3.2.1.1,u3.2.1.2.1,u3.2.1.2.2.1,()),()))):=fun i hh hi=>by
  refine OK.bind (gf hc (c:=(w.1,w.2.1,())) (by show w.1.length≤_;omega) hi) fun x i1 h1 y K3 hq=> ?_
  dsimp only;obtain⟨r,hr,hr2⟩:=sN (l:=y.1) (by omega);refine OK.pure hr ?_
  exact OK.some K3 ⟨hr2,z,z,AUb _⟩
 have AUd:∀j:Nat,Ce (w.2.2.2.2.2.2.2.2.2.1.getD j (0,[],false,())).1:=fun j=>by
  by_cases hj:j<w.2.2.2.2.2.2.2.2.2.1.length
  ·exact Gd (h.CK _ (BU (d:=Mu) hj)).1
  ·rw[List.getD,AQU (by omega)];exact z
 have ATq:Ce (w.2.2.2.1.getD 0 0):=by
  by_cases hj:0<w.2.2.2.1.length
  ·have:=(EY.1 h.lost).2.1 _ (BU (d:=0) hj)
   have hc8:(Ac w).1.length≤8:=k1;have Aaf:0≤w.2.2.2.1.getD 0 0∧w.2.2.2.1.getD 0 0<(Ac w).1.length:=this;exact Nq (by omega)
  ·rw[List.getD,AQU (by omega)];exact z
 unfold PC;refine OK.Fj (fun _=>UZ _ _ hi) (fun cq=> ?_);have hw0:0<w.AR.length:=by show 0<w.2.2.2.2.2.2.1.length;omega
 have hwr:∀i hh,CS code i→OK code jN ((Ga w code i hh).bind fun lN=>
   some (((lN.1.1.1,lN.1.1.2.1,lN.1.1.2.2.1,lN.1.1.2.2.2.1,lN.1.1.2.2.2.2.1,()),()),((lN.2.1.1,lN.2.1.2.1,lN.2.1.2.2.1,()),()))):=fun i hh hi=>
  OK.bind (sr hc h hw0 hi) fun x i1 h1 y K3 hq=>OK.some K3 hq
 have hmd:∀i hh,CS code i→OK code jN ((LM w code i hh).bind fun lN=>
   some (((lN.1.1.1,lN.1.1.2.1,lN.1.1.2.2.1,lN.1.1.2.2.2.1,lN.1.1.2.2.2.2.1,()),()),((lN.2.1.1,lN.2.1.2.1,lN.2.1.2.2.1,()),()))):=fun i hh hi=>
  OK.bind (vk hc h hi) fun x i1 h1 y K3 hq=>OK.some K3 hq
 rw[show(w.1,w.2.1,w.2.2.1,w.2.2.2.1,w.2.2.2.2.1,w.2.2.2.2.2.1,w.2.2.2.2.2.2.1,w.2.2.2.2.2.2.2.1,w.2.2.2.2.2.2.2.2.1,w.2.2.2.2.2.2.2.2.2.1,w.2.2.2.2.2.2.2.2.2.2.1,())=w from rfl];refine OK.bind (P_ hc hi (by omega)) fun x2 i2 h2 y2 H0 qZ=> ?_
 dsimp only;refine OK.cond (fun _=>UZ _ _ H0) (fun _=> ?_);refine OK.bind (Bo hc H0 (by omega)) fun x3 i3 h3 y3 Kn Tc=> ?_
 dsimp only at*;have hx3:Ce x3.1:=Nq (by omega)
 repeat' first
  |exact hwr _ _ (by assumption)
  |exact hmd _ _ (by assumption)
  |(refine OK.pure (Ny (r:=CJ w) (by show w.2.2.2.2.1.length≤_;omega)) ?_;dsimp only)
  |(first|refine OK.some (by assumption) ?_|refine OK.Pk (fun _=> ?_) (fun _=> ?_)|refine OK.Fj (fun _=> ?_) (fun _=> ?_)|refine OK.cond (fun _=> ?_) (fun _=> ?_)|refine OK.ite (by omega) ?_|(refine OK.bind (P_ (by assumption) (by assumption) (by omega)) fun x i h y hi hq=> ?_;dsimp only)|(refine OK.bind (Bo (by assumption) (by assumption) (by omega)) fun x i h y hi hq=> ?_;dsimp only at*)|(refine OK.bind (mw (by assumption) (by assumption) (by simp) (by simp)) fun x i h y hi hq=> ?_;dsimp only)|(refine OK.pure ZO ?_;dsimp only)|(refine OK.pure Iv ?_;dsimp only))
 all_goals refine⟨?_,?_,?_,AUb _⟩
 all_goals first
  |exact z
  |exact hx3
  |exact AUd _
  |exact ATq
  |(refine Nq ?_;dsimp only;omega)
end
end Go.M
end
