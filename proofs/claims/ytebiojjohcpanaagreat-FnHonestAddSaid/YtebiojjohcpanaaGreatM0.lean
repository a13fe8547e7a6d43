/- Plain facts on what the functions compute. -/
import Derived.Test.YtebiojjohcpanaaGreatG1
set_option linter.unusedVariables false
set_option linter.unusedSimpArgs false
set_option linter.unusedSectionVars false
section
namespace Go.M
theorem AB{α:Type}(p:Prop)[Decidable p](a b:α):cond (decide p) a b=if p then a else b:=by
 simp_all
theorem AJ{x:Int}(h1: -9223372036854775808≤x)(h2:x<9223372036854775808):AS x=x:=by
 grind[AS,IntKind.wrap,IntKind.bits,IntKind.signed]
theorem AI0{n:Nat}(h:n<9223372036854775808):AS (n:Int)=n:=AJ (by omega) (by omega)
theorem ADR(n:Nat):(BitVec.ofInt 64 (n:Int)).toNat=n%2^64:=by
 rfl
theorem rh{n:Nat}(h:n<2^63):IntKind.wrap .i64 (n:Int)=n:=AI0 (by omega)
theorem AFF{a b:Nat}(ha:a<2^63)(hb:b<2^63):dk .i64 a b=((a &&& b:Nat):Int):=by
 grind[dk,BitVec.ofInt,IntKind.bits,BitVec.toNat_and,ADR,Nat.mod_eq_of_lt,rh,Nat.lt_of_le_of_lt,Nat.and_le_left]
theorem Ae{n:Nat}(h:n<2^64):n<Ac:=AT9 h fo
theorem Am{α:Type}{l:List α}{i:Nat}{d:α}(h:i<l.length):l.getD ((i:Int).toNat) d=l[i]:=by
 simp_all
theorem drop_cons{α:Type}{l:List α}{i:Nat}(h:i<l.length):l.drop i=l[i]::l.drop (i+1):=(List.getElem_cons_drop h).symm
theorem Au:DE=68719476736:=rfl
end Go.M
end
section
namespace Go.M
def BF(x a b:Int):Bool:=decide (a≤x∧x≤b)
theorem BV(x a b:Int):CG x a b=some ((BF x a b,()),()):=by
 unfold CG BF;grind
theorem Az(x a b:Int):A7 x a b=some ((BF x a b,()),()):=BV x a b
def GB(x:ABU):Bool:=BF (x.1.length:Int) 1 8&&(BF x.2.1 1 4&&x.1.all fun d=>BF d 0 7)
theorem dS{l:AAG}{c:Int}(hl:l.length≤2^40):∀(n i:Nat),i≤l.length→l.length-i<n→Lv n i l c=some (((l.drop i).all fun d=>BF d 0 7,()),())
 |0,i,_,h=>by omega
 |n+1,i,hi,h=>by
  simp only[Lv,WY,AB];by_cases hc:i<l.length
  ·rw[AMp (by omega),AMp (by omega),Am hc,BV,AJ (by omega) (by omega),drop_cons hc]
   simp only[ANY,AUT];cases hb:BF l[i] 0 7 with
   |false=>simp
   |true=>
    simp only[ANX,ANI,ANr];rw[show(((i:Nat):Int)+1)=((i+1:Nat):Int)by omega,dS hl n (i+1) (by omega) (by omega)]
  grind
theorem HX{x:ABU}(hl:x.1.length≤2^40):Gg x=some ((GB x,()),()):=by
 unfold Gg Wq GB;simp only[BV,ANY];cases BF (x.1.length:Int) 1 8 with
 |false=>simp
 |true=>
  cases BF x.2.1 1 4 with
  |false=>simp
  |true=>
   grind[dS,Ac,Ae]
theorem dM{l:AAG}{c:Int}(hl:l.length≤2^40):∀(n i:Nat),i≤l.length→l.length-i<n→
  L2 n l l.length i l c=some ((((l.drop i).all fun d=>BF d 0 7)&&(BF (l.length:Int) 1 8&&BF c 1 4),()),())
 |0,i,_,h=>by omega
 |n+1,i,hi,h=>by
  simp only[L2,We,AB];by_cases hc:i<l.length
  ·rw[AMp (by omega),AMp (by omega),Am hc,Az,AJ (by omega) (by omega),drop_cons hc]
   simp only[ANY,AUT];cases hb:BF l[i] 0 7 with
   |false=>simp
   |true=>
    simp only[ANX,ANI,ANr];rw[show(((i:Nat):Int)+1)=((i+1:Nat):Int)by omega,dM hl n (i+1) (by omega) (by omega)]
  ·rw[AM5 (by omega)]
   have:i=l.length:=by omega
   subst this;simp only[Az,ANY,AU_,List.all_nil,ANr];grind
theorem MV{x:ABU}(hl:x.1.length≤2^40):FF x=some ((GB x,()),()):=by
 unfold FF Wn GB;have:=dM (l:=x.1) (c:=x.2.1) hl Ac 0 (by omega) (Ae (by omega));grind
theorem Db{x:ABU}(h:GB x=true):1≤x.1.length∧x.1.length≤8∧1≤x.2.1∧x.2.1≤4∧ ∀d∈x.1,0≤d∧d≤7:=by
 simp only[GB,BF,ANB,ANo,AUS]at h;grind
end Go.M
end
section
namespace Go.M
def Bytes(b:AAG):Prop:= ∀c∈b,0≤c∧c<256
end Go.M
end
section
namespace Go.M
theorem wf_i64{c:Int}(h:(Go.Lit.int .i64 c).wf=true): -9223372036854775808≤c∧c<9223372036854775808:=by
 simp only[Go.Lit.wf,ANB,ANo]at h;have h1:Go.IntKind.min .i64= -9223372036854775808:=rfl;simp_all;omega
end Go.M
end
section
namespace Go.M
abbrev Ev:Type:=Int×Int×List UInt8×Unit
abbrev Rdr:Type:=Int×Int×List Ev×Unit
def ae(x:Rdr):Bool:=BF x.1 1 31&&(BF x.2.1 1 61&&decide ((x.2.2.1.length:Int)≤120))
theorem Pk(x:Rdr):Nf x=some ((ae x,()),()):=by
 grind[Nf,ae,BV,BF]
theorem bC(x:Rdr):U6 x=some ((ae x,()),()):=Pk x
end Go.M
end
section
namespace Go.M
def Cb(code:AAG)(i:Int):Prop:=0≤i∧i≤code.length
theorem ABP(x:Int):∃v:Int,dk .i64 x 255=v∧0≤v∧v<256:=by
 refine⟨_,rfl,?_⟩;grind[dk,BitVec.ofInt,Go.IntKind.bits,BitVec.toNat_and,Nat.lt_of_le_of_lt,Nat.and_le_right,rh]
section
variable{code:AAG} (hc:code.length≤2^30)
include hc
theorem bA{i h:Int}(hi:Cb code i):∃v i' h',Mg code i h=some ((v,()),((code,i',h',()),()))∧0≤v∧v<256∧Cb code i':=by
 unfold Mg;simp only[AB];obtain⟨h0,h1⟩:=hi;split
 ·rename_i Hh
  rw[AMp ⟨h0,Hh⟩,AJ (x:=i+1) (by omega) (by omega)];obtain⟨v,e,v0,v1⟩:=ABP (AS (dk .i64 (ARh .i64 ((AS (AS (h*6364136223846793005)+1442695040888963407)).fdiv (2^33)) ((AS (AS (h*6364136223846793005)+1442695040888963407)).fdiv (2^45))) 255+AS (code.getD i.toNat 0)));exact⟨v,i+1,_,by rw[e],v0,v1,by omega,by omega⟩
 ·obtain⟨v,e,v0,v1⟩:=ABP (ARh .i64 ((AS (AS (h*6364136223846793005)+1442695040888963407)).fdiv (2^33)) ((AS (AS (h*6364136223846793005)+1442695040888963407)).fdiv (2^45)))
  exact⟨v,i,_,by rw[e],v0,v1,h0,h1⟩
theorem FA{i h n:Int}(hi:Cb code i)(hn:n≤2^40):∃v i' h',AL n code i h=some ((v,()),((code,i',h',()),()))∧0≤v∧(0<n→v<n)∧(n≤0→v=0)∧Cb code i':=by
 unfold AL;simp only[AB];split
 ·grind
 ·split
  ·obtain⟨v,i1,h1,e,v0,v1,MI⟩:=bA hc (h:=h) hi
   rw[e];simp only[ANY];rw[AM5 (by omega),Int.tmod_eq_emod_of_nonneg v0];exact⟨_,i1,h1,rfl,Int.emod_nonneg _ (by omega),fun _=>Int.emod_lt_of_pos _ (by omega),by omega,MI⟩
  ·obtain⟨v1,i1,h1,e1,a1,b1,MI⟩:=bA hc (h:=h) hi
   obtain⟨v2,i2,h2,e2,a2,b2,IY⟩:=bA hc (h:=h1) MI;obtain⟨v3,i3,h3,e3,a3,b3,LQ⟩:=bA hc (h:=h2) IY;obtain⟨v4,i4,h4,e4,a4,b4,wG⟩:=bA hc (h:=h3) LQ;rw[e1];simp only[ANY];rw[e2];simp only[ANY];rw[e3];simp only[ANY];rw[e4];simp only[ANY];rw[AJ (x:=v1*16777216) (by omega) (by omega),AJ (x:=v2*65536) (by omega) (by omega),AJ (x:=v3*256) (by omega) (by omega),AJ (x:=v1*16777216+v2*65536) (by omega) (by omega),
    AJ (x:=v1*16777216+v2*65536+v3*256) (by omega) (by omega),AJ (by omega) (by omega),AM5 (by omega),Int.tmod_eq_emod_of_nonneg (by omega)]
   exact⟨_,i4,h4,rfl,Int.emod_nonneg _ (by omega),fun _=>Int.emod_lt_of_pos _ (by omega),by omega,wG⟩
theorem ly{i h n:Int}(hi:Cb code i)(hn:n≤2^40):∃v i' h',BA n code i h=some ((v,()),((code,i',h',()),()))∧Cb code i':=by
 unfold BA;obtain⟨v,i1,h1,e,_,_,_,MI⟩:=FA hc (h:=h) hi hn;rw[e];exact⟨_,i1,h1,rfl,MI⟩
theorem Kt{i h:Int}{l:AAG}(hi:Cb code i)(hl:l≠[])(hn:l.length≤2^30):∃v i' h',CQ l code i h=some ((v,()),((code,i',h',()),()))∧v∈l∧Cb code i':=by
 unfold CQ;have hp:=AYf.2 hl;obtain⟨v,i1,h1,e,v0,v1,_,MI⟩:=FA hc (h:=h) (n:=l.length) hi (by omega);grind
omit hc in
theorem ABD{n:Nat}:∀(m i:Nat) (h:Int),i≤code.length→code.length-i<m→ ∃h',QW m code h i=some (((),()),((code,0,h',()),()))
 |0,_,_,_,h=>by omega
 |m+1,i,h,hi,hm=>by
  simp only[QW,bZ,AB];by_cases Hh:i<code.length
  ·rw[AMp (by omega)]
   split
   ·rw[AMp (by omega),AJ (x:=(i:Int)+1) (by omega) (by omega),show((i:Int)+1)=((i+1:Nat):Int)by omega]
    exact ABD (n:=n) m (i+1) _ (by omega) (by omega)
   ·exact⟨_,rfl⟩
  ·rw[AM5 (by omega)]
   exact⟨_,rfl⟩
theorem AD_:∃h',cE code=some (((),()),((code,0,h',()),())):=by
 unfold cE bN;exact ABD (n:=0) Ac 0 _ (by omega) (Ae (by omega))
def cR(l:AAG)(c:Int):Prop:=3≤l.length∧l.length≤7∧1≤c∧c≤3∧ ∀d∈l,0≤d∧d≤4
omit hc in
theorem cR.ok{l:AAG}{c:Int}(h:cR l c):GB (l,c,())=true:=by
 obtain⟨h1,h2,h3,h4,h5⟩:=h;simp only[GB,BF,ANB,ANo,AUS];exact⟨by omega,by omega,fun d hd=>by have:=h5 d hd;omega⟩
theorem gW{N:Nat}(hN:3≤N∧N≤7){c:Int}(h1:1≤c∧c≤3){x1:Int}{x2:AAG}:∀(n k:Nat) (i h:Int) (acc:AAG),Cb code i→k≤N→N-k<n→acc.length=k→(∀d∈acc,0≤d∧d≤4)→
  ∃l c' i' h',Im n N k code i h x1 x2 c acc=some ((((),c',()),()),((code,i',h',()),l,()))∧cR l c'∧Cb code i'
 |0,_,_,_,_,_,_,h,_,_=>by omega
 |n+1,k,i,h,acc,hi,hk,hn,hacc,hd=>by
  simp only[Im,TP,AB];by_cases Hh:k<N
  ·rw[AMp (by omega)]
   obtain⟨v,i1,h1',e,v0,v1,_,MI⟩:=FA hc (h:=h) (n:=5) hi (by omega);rw[e];simp only[ANY];rw[AMp (by rw[Au];omega),AJ (by omega) (by omega),show((k:Int)+1)=((k+1:Nat):Int)by omega];have:=v1 (by omega);exact gW hN h1 n (k+1) i1 h1' _ MI (by omega) (by omega) (by simp[hacc]) (fun d hdd=>by
    grind)
  ·rw[AM5 (by omega)]
   obtain⟨v,i1,h1',e,MI⟩:=ly hc (h:=h) (n:=2) hi (by omega);rw[e];simp only[ANY];cases v
   ·exact⟨acc,c,i1,h1',rfl,⟨by omega,by omega,h1.1,h1.2,hd⟩,MI⟩
   ·exact⟨acc,2,i1,h1',rfl,⟨by omega,by omega,by omega,by omega,hd⟩,MI⟩
theorem ef{i h:Int}(hi:Cb code i):∃l c' i' h',L_ code i h=some ((((),c',()),()),((code,i',h',()),l,()))∧cR l c'∧Cb code i':=by
 unfold L_ Tg;obtain⟨v,i1,h1,e1,a1,b1,_,MI⟩:=FA hc (h:=h) (n:=3) hi (by omega);rw[e1];simp only[ANY];obtain⟨w,i2,h2,e2,a2,b2,_,IY⟩:=FA hc (h:=h1) (n:=5) MI (by omega);rw[e2];simp only[ANY];have:=b1 (by omega);have:=b2 (by omega);rw[AJ (by omega) (by omega),AJ (by omega) (by omega)];obtain⟨N,hN⟩:∃N:Nat,3+w=(N:Int):=⟨(3+w).toNat,by omega⟩;rw[hN];exact gW hc (by omega) (by omega) Ac 0 i2 h2 [] IY (by omega) (Ae (by omega)) rfl (by simp)
theorem ADM{i h:Int}(hi:Cb code i):∃l c' i' h',Rl code i h=some ((((),c',()),()),((code,i',h',()),l,()))∧l.length≤9∧Cb code i':=by
 unfold Rl;obtain⟨l,c,i1,h1,e1,hg,MI⟩:=ef hc (h:=h) hi;rw[e1];simp only[ANY];obtain⟨v,i2,h2,e2,a2,b2,_,IY⟩:=FA hc (h:=h1) (n:=20) MI (by omega);rw[e2];simp only[ANY];obtain⟨g1,g2,g3,g4,g5⟩:=hg;cases v==0 with
 |true=>
  simp only[ANk];obtain⟨p,i3,h3,e3,hp,LQ⟩:=Kt hc (h:=h2) (l:=[0,4,5]) IY (by simp) (by simp);grind
 |false=>
  simp only[ANI];cases v==1 with
  |true=>
   simp only[ANk];obtain⟨p,i3,h3,e3,hp,LQ⟩:=Kt hc (h:=h2) (l:=[-1,7,8]) IY (by simp) (by simp);grind
  |false=>
   simp only[ANI];cases v==2 with
   |true=>
    simp only[ANk];obtain⟨p,i3,h3,e3,hp,LQ⟩:=Kt hc (h:=h2) (l:=[0,8,9]) IY (by simp) (by simp);rw[e3];simp only[ANY];simp at hp;rw[AMp (by rw[Au];omega)];grind
   |false=>grind
end
end Go.M
end
section
namespace Go.M.H
open Go.M
def AX{α:Type}(f:α→Nat):List α→Nat
 |[]=>0
 |x::l=>1+f x+AX f l
theorem AW{α:Type}{f:α→Nat}:∀{l:List α},l.length≤AX f l
 |[]=>AQm _
 |x::l=>by
  have:=AW (f:=f) (l:=l);grind[AX,List.length_cons]
theorem Aa{α:Type}{f:α→Nat}{x:α}:∀{l:List α},x∈l→f x≤AX f l
 |y::l,h=>by
  simp only[AX];rcases AQQ.1 h with rfl|h
  ·omega
  ·have:=Aa (f:=f) h
   omega
abbrev AXB:Type:=List Int
abbrev C3(x:AXB):Nat:=x.length
abbrev AK:Type:=Int×Int×Bool×List UInt8×Unit
abbrev vu:Go.Fw.Ty:= .cons (.int .i64) (.cons (.int .i64) (.cons .bool (.cons .str (.unit))))
def Ai(x:AK):Nat:=x.2.2.2.1.length
abbrev AQ:Type:=List AK×List AK×Int×Unit
abbrev AI3:Go.Fw.Ty:= .cons (.sl vu) (.cons (.sl vu) (.cons (.int .i64) (.unit)))
def Al(x:AQ):Nat:=AX Ai x.1+AX Ai x.2.1
abbrev CR:Type:=List Int×Bool×Int×Unit
abbrev wh:Go.Fw.Ty:= .cons (.sl (.int .i64)) (.cons .bool (.cons (.int .i64) (.unit)))
def Bh(x:CR):Nat:=x.1.length
abbrev AO:Type:=List CR×Int×Unit
abbrev Ay:Type:=List UInt8×List Int×Bool×Unit
abbrev pz:Go.Fw.Ty:= .cons .str (.cons (.sl (.int .i64)) (.cons .bool (.unit)))
def A4(x:Ay):Nat:=x.1.length+x.2.1.length
abbrev AR:Type:=Int×List Ay×Unit
abbrev ey:Go.Fw.Ty:= .cons (.int .i64) (.cons (.sl pz) (.unit))
def Ap(x:AR):Nat:=AX A4 x.2.1
abbrev Av:Type:=Int×Int×List Int×List AK×Bool×List AAG×Unit
abbrev ATY:Go.Fw.Ty:= .cons (.int .i64) (.cons (.int .i64) (.cons (.sl (.int .i64)) (.cons (.sl vu) (.cons .bool (.cons (.sl (.sl (.int .i64))) (.unit))))))
def CD(x:Av):Nat:=x.2.2.1.length+AX Ai x.2.2.2.1+AX C3 x.2.2.2.2.2.1
abbrev BR:Type:=Int×Int×List UInt8×Unit
abbrev AKW:Go.Fw.Ty:= .cons (.int .i64) (.cons (.int .i64) (.cons .str (.unit)))
def CP(x:BR):Nat:=x.2.2.1.length
abbrev Ah:Type:=Int×Int×List BR×Unit
abbrev AFk:Go.Fw.Ty:= .cons (.int .i64) (.cons (.int .i64) (.cons (.sl AKW) (.unit)))
def A_(x:Ah):Nat:=AX CP x.2.2.1
abbrev A6:Type:=Int×Bool×Int×Int×Bool×List UInt8×Unit
abbrev Af:Type:=Int×List UInt8×Bool×Unit
abbrev AQi:Go.Fw.Ty:= .cons (.int .i64) (.cons .str (.cons .bool (.unit)))
def EH(x:Af):Nat:=x.2.1.length
abbrev AA:Type:=List Int×Int×List AQ×List Int×List CR×Int×List AR×List Av×List Ah×List Af×Bool×Unit
abbrev kV:Go.Fw.Ty:= .cons (.sl (.int .i64)) (.cons (.int .i64) (.cons (.sl AI3) (.cons (.sl (.int .i64)) (.cons (.sl wh) (.cons (.int .i64) (.cons (.sl ey) (.cons (.sl ATY) (.cons (.sl AFk) (.cons (.sl AQi) (.cons .bool (.unit)))))))))))
def Cv(x:AA):Nat:=x.1.length+AX Al x.2.2.1+x.2.2.2.1.length+AX Bh x.2.2.2.2.1+AX Ap x.2.2.2.2.2.2.1+AX CD x.2.2.2.2.2.2.2.1+AX A_ x.2.2.2.2.2.2.2.2.1+AX EH x.2.2.2.2.2.2.2.2.2.1
abbrev BN:Type:=Int×Int×Int×Int×List UInt8×Unit
end Go.M.H
end
section
namespace Go.M
def Em(p:Nat→Bool)(i:Nat):Nat→Bool
 |0=>true
 |d+1=>p i&&Em p (i+1) d
theorem GR{L:Nat→Int→Option (ABk×Unit)}{len:Nat}{p:Nat→Bool}{fin:Bool}(h1:∀n (i:Nat),i<len→L (n+1) i=cond (p i) (L n ((i+1:Nat):Int)) (some ((false,()),())))(h2:∀n,L (n+1) (len:Int)=some ((fin,()),())):
  ∀d n i,i+d=len→d<n→L n i=some ((Em p i d&&fin,()),())
 |0,n,i,hd,h=>by
  obtain⟨m,rfl⟩:∃m,n=m+1:=⟨n-1,by omega⟩;have:i=len:=by omega
  subst this;rw[h2];rfl
 |d+1,n,i,hd,h=>by
  obtain⟨m,rfl⟩:∃m,n=m+1:=⟨n-1,by omega⟩;rw[h1 m i (by omega)];simp only[Em];cases p i with
  |false=>rfl
  |true=>rw[ANk,GR h1 h2 d m (i+1) (by omega) (by omega)];rfl
theorem TY{p:Nat→Bool}:∀{d i:Nat},Em p i d=true→ ∀j,i≤j→j<i+d→p j=true
 |0,i,_,j,h1,h2=>by omega
 |d+1,i,h,j,h1,h2=>by
  simp only[Em,ANB]at h;by_cases hj:j=i
  ·simp_all
  ·exact TY h.2 j (by omega) (by omega)
theorem qW{p:Nat→Bool}:∀{d i:Nat},(∀j,i≤j→j<i+d→p j=true)→Em p i d=true
 |0,_,_=>rfl
 |d+1,i,h=>by
  simp only[Em,ANB];exact⟨h i (by omega) (by omega),qW fun j h1 h2=>h j (by omega) (by omega)⟩
def YV(x:Int):Int:=x.tdiv 4294967296
def Bf(x:Int):Bool:=BF (YV x) 1 30&&BF (x.tmod 4294967296) 1 60
def An(x:Int):Int:=if Bf x then YV x else 0
theorem kK{x:Int}(h: -9223372036854775808≤x∧x<9223372036854775808):AS (x.tdiv 4294967296)=YV x:=by
 grind[YV,AJ,Int.lt_or_le,Int.neg_tdiv,Int.tdiv_eq_ediv_of_nonneg]
theorem eL{x:Int}(h:Bf x=true):0<x∧x<2^40:=by
 simp only[Bf,BF,ANB,ANo]at h;grind[YV,Int.lt_or_le,Int.neg_tdiv,Int.tdiv_eq_ediv_of_nonneg,Int.tmod_eq_emod_of_nonneg]
def CO(x:Int):Prop:= -9223372036854775808≤x∧x<9223372036854775808
theorem Ie{x:Int}(h:CO x):Hn x=some ((Bf x,()),()):=by
 unfold Hn;rw[kK h,AB];split
 ·grind[BV,Bf,BF,YV]
 ·rename_i h0
  rcases AMo (Bf x)with hp|hp
  ·exact absurd (eL hp).1 (by omega)
  ·rw[hp]
theorem Qy{x:Int}(h:CO x):EA x=some ((Bf x,()),()):=by
 unfold EA Hp X3;rw[kK h];grind[Az,Bf,BF,YV]
theorem EN{x:Int}(h:CO x):Cn x=some ((An x,()),()):=by
 unfold Cn An;rw[Ie h,kK h];grind
theorem FB{x:Int}(h:CO x):FL x=some ((An x,()),()):=by
 unfold FL An;rw[Qy h,kK h];grind
theorem ga{x:Int}:(Bf x=true→1≤An x∧An x≤30)∧(Bf x=false→An x=0):=by
 constructor
 ·intro h
  rw[An,AMp h];simp only[Bf,BF,ANB,ANo]at h;omega
 grind[An]
def vI(l:AAG)(hi:Int)(i:Nat):Bool:=BF (l.getD i 0) 0 hi&&(i==0||decide (l.getD (i-1) 0<l.getD i 0))
def r_(l:AAG)(hi:Int):Bool:=Em (vI l hi) 0 l.length
theorem gV{l:AAG}{hi:Int}(hl:l.length≤2^40):Yc l 0 hi=some ((r_ l hi,()),()):=by
 unfold Yc af r_;rw[←AUU (Em _ _ _)];refine GR (L:=fun n i=>Nk n l 0 hi i) (len:=l.length) (p:=vI l hi) (fin:=true) (fun n i Dn=> ?_) (fun n=> ?_) l.length Ac 0 (by omega) (Ae (by omega))
 ·simp only[Nk,UK,AB]
  rw[AMp (by omega),AMp (by omega),BV,AJ (x:=(i:Int)+1) (by omega) (by omega)];simp only[ANY,ANN,vI];cases BF (l.getD i 0) 0 hi with
  |false=>rfl
  |true=>
   simp only[ANX,ANI,ANr];by_cases h0:i=0
   ·simp_all
   ·rw[AMp (by omega),AJ (by omega) (by omega),AMp (by omega),AMp (by omega)]
    have h1:((i:Int)-1).toNat=i-1:=by omega
    have h2:(i==0)=false:=by simp_all
    rw[h1,h2,AT5];grind
 ·simp only[Nk,UK,AB]
  simp_all
theorem oI{l:AAG}{hi:Int}(hl:l.length≤2^40):XN l hi=some ((r_ l hi,()),()):=by
 unfold XN YQ r_;rw[←AUU (Em _ _ _)];refine GR (L:=fun n i=>KF n l hi l l.length i) (len:=l.length) (p:=vI l hi) (fin:=true) (fun n i Dn=> ?_) (fun n=> ?_) l.length Ac 0 (by omega) (Ae (by omega))
 ·simp only[KF,RJ,AB]
  rw[AMp (by omega),AMp (by omega),Az,AJ (x:=(i:Int)+1) (by omega) (by omega)];simp only[ANY,ANN,vI];cases BF (l.getD i 0) 0 hi with
  |false=>rfl
  |true=>
   simp only[ANX,ANI,ANr];by_cases h0:i=0
   ·simp_all
   ·rw[AMp (by omega),AJ (by omega) (by omega),AMp (by omega)]
    have h1:((i:Int)-1).toNat=i-1:=by omega
    have h2:(i==0)=false:=by simp_all
    rw[h1,h2,AT5];grind
 ·simp only[KF,RJ,AB]
  simp_all
theorem yN{l:AAG}{hi:Int}(h:r_ l hi=true):∀x∈l,0≤x∧x≤hi:=fun x hx=>by
 obtain⟨i,Dn,rfl⟩:=AT2 hx;have:=TY h i (by omega) (by omega);simp only[vI,BF,ANB,ANo]at this;simp_all
theorem AA7{l:AAG}{hi:Int}(h:r_ l hi=true):∀i,i<l.length→(i:Int)≤l.getD i 0
 |0,hl=>by
  have:=TY h 0 (by omega) (by omega);simp only[vI,BF,ANB,ANo]at this;omega
 |i+1,hl=>by
  have h1:=AA7 h i (by omega);have:=TY h (i+1) (by omega) (by omega);simp only[vI,ANB,AUE,ANo]at this;grind
theorem AEc{l:AAG}{hi:Int}(h:r_ l hi=true)(h0:0≤hi+1):(l.length:Int)≤hi+1:=by
 by_cases hl:l.length=0
 ·omega
 ·have h1:=AA7 h (l.length-1) (by omega)
  have h2:=yN h (l.getD (l.length-1) 0) (by
   grind)
  omega
def A9(c:ABU)(l:AAG):Bool:=GB c&&r_ l ((c.1.length:Int)-1)
theorem HD{c:ABU}{l:AAG}(hc:c.1.length≤2^40)(hl:l.length≤2^40):Gx c l=some ((A9 c l,()),()):=by
 unfold Gx A9;rw[show(c.1,c.2.1,())=c from rfl,HX hc,AJ (by omega) (by omega)];simp only[ANY];cases GB c with
 |false=>rfl
 |true=>
  rw[ANk,gV hl];rfl
theorem EL{c:ABU}{l:AAG}(hc:c.1.length≤2^40)(hl:l.length≤2^40):EF c l=some ((A9 c l,()),()):=by
 unfold EF A9;rw[show(c.1,c.2.1,())=c from rfl,MV hc,AJ (by omega) (by omega)];simp only[ANY];cases GB c with
 |false=>rfl
 |true=>
  rw[ANk,oI hl];rfl
theorem bz{c:ABU}{l:AAG}(h:A9 c l=true):GB c=true∧c.1.length≤8∧l.length≤8∧(∀x∈l,0≤x∧x<c.1.length)∧ ∀d∈c.1,0≤d∧d≤7:=by
 simp only[A9,ANB]at h;obtain⟨k1,k2,k3,k4,k5⟩:=Db h.1;have h1:=AEc h.2 (by omega);exact⟨h.1,k2,by omega,fun x hx=>by have:=yN h.2 x hx;omega,k5⟩
theorem ABL{l:AAG}{x:Int}(hl:l.length≤2^40):∀(n i:Nat),i≤l.length→l.length-i<n→(∀y∈l.take i,y≠x)→
  ∃r:Int,Ga n l x l.length i=some ((r,()),())∧decide (r≥0)=l.contains x
 |0,_,_,h,_=>by omega
 |n+1,i,hi,h,hx=>by
  simp only[Ga,O3,AB];by_cases hc:i<l.length
  ·rw[AMp (by omega),AMp (by omega),Am hc,AJ (by omega) (by omega)]
   by_cases he:x=l[i]
   ·simp_all
   ·obtain⟨r,e1,e2⟩:=ABL hl n (i+1) (by omega) (by omega) (fun y hy=>by
     rw[AUF hc]at hy;rcases AOt.1 hy with hy|hy
     ·exact hx y hy
     grind)
    grind
  ·rw[AM5 (by omega)]
   grind
theorem JD{l:AAG}{x:Int}(hl:l.length≤2^40):Bo l x=some ((l.contains x,()),()):=by
 unfold Bo Oq PL;obtain⟨r,e1,e2⟩:=ABL (x:=x) hl Ac 0 (by omega) (Ae (by omega)) (by simp);simp_all
def je(c:AAG):List Int→List Int→List Int
 |[],acc=>acc
 |n::l,acc=>je c l (if acc.contains (c.getD n.toNat 0)then acc else acc++[c.getD n.toNat 0])
def bh(c:AAG)(l:AAG):Nat:=(je c l []).length
theorem aN{c:AAG}{q:Int}{l:AAG}(hl:l.length≤8)(hm:∀x∈l,0≤x∧x<c.length):∀(n i:Nat) (acc:AAG),i≤l.length→l.length-i<n→acc.length≤i→
  OZ n l l.length i c q acc=some ((((je c (l.drop i) acc).length:Int),()),())
 |0,i,_,_,h,_=>by omega
 |n+1,i,acc,hi,h,ha=>by
  simp only[OZ,ZJ,AB];by_cases hc:i<l.length
  ·have hx:=hm _ (ANa hc)
   rw[AMp (by omega),AMp (by omega),Am hc,drop_cons hc]
   generalize l[i]=x at hx
   rw[AMp (by omega),JD (by omega),AJ (by omega) (by omega),show((i:Int)+1)=((i+1:Nat):Int)by omega];simp only[ANY,je];cases AXn:acc.contains (c.getD x.toNat 0)with
   |true=>
    simp only[ANX,ANI,AT8];exact aN hl hm n (i+1) acc (by omega) (by omega) (by omega)
   |false=>
    simp only[ATb,ANk,ANZ,AQ7];rw[AMp (by omega),AMp (by rw[Au];omega)];exact aN hl hm n (i+1) _ (by omega) (by omega) (by simp_all)
  ·rw[AM5 (by omega)]
   grind[je]
theorem rk{c:ABU}{l:AAG}(hc:c.1.length≤2^40)(hl:l.length≤2^40):ZM c l=some ((if A9 c l then(bh c.1 l:Int)else-1,()),()):=by
 unfold ZM Zw;rw[show(c.1,c.2.1,())=c from rfl,EL hc hl];simp only[ANY];cases h:A9 c l with
 |false=>rfl
 |true=>
  obtain⟨k1,k2,k3,k4,k5⟩:=bz h;grind[aN,Ac,Ae,bh]
theorem zR{s:List Bool}{k j:Nat}{b:Bool}(h:k<s.length):(s.set k b).getD j false=if k=j then b else s.getD j false:=by
 grind
theorem Zx{c:AAG}{q:Int}{l:AAG}(hl:l.length≤8)(hd:∀d∈c,0≤d∧d≤7)(hm:∀x∈l,0≤x∧x<c.length):∀(n i:Nat) (acc:AAG) (s:List Bool),i≤l.length→l.length-i<n→acc.length≤i→s.length=8→
  (∀j:Nat,j<8→s.getD j false=acc.contains (j:Int))→
  Oe n l acc.length i c q s=some ((((je c (l.drop i) acc).length:Int),()),())
 |0,i,_,_,_,h,_,_,_=>by omega
 |n+1,i,acc,s,hi,h,ha,hs,hj=>by
  simp only[Oe,ZO,AB];by_cases hc:i<l.length
  ·have hx:=hm _ (ANa hc)
   rw[AMp (by omega),AMp (by omega),Am hc,drop_cons hc]
   generalize l[i]=x at hx
   rw[AMp (by omega)];have AbF:0≤c.getD x.toNat 0∧c.getD x.toNat 0≤7:=by
    simp_all
   simp only[je]
   generalize c.getD x.toNat 0=d at AbF
   rw[AMp (by omega),AJ (x:=(i:Int)+1) (by omega) (by omega),show((i:Int)+1)=((i+1:Nat):Int)by omega];have hsd:s.getD d.toNat false=acc.contains d:=by
    grind
   rw[hsd];cases AXn:acc.contains d with
   |true=>
    simp only[ANX,ANI,AT8];exact Zx hl hd hm n (i+1) acc s (by omega) (by omega) (by omega) hs hj
   |false=>
    simp only[ATb,ANk,ANZ,AQ7];rw[AMp (by omega),AJ (by omega) (by omega)];have:=Zx (q:=q) hl hd hm n (i+1) (acc++[d]) (s.set d.toNat true) (by omega) (by omega) (by simp_all) (by simp_all) (fun j hj8=>by
     rw[zR (by omega),hj j hj8];grind)
    simp_all
  ·rw[AM5 (by omega)]
   grind[je]
theorem eF{c:ABU}{l:AAG}(h:A9 c l=true):VD c l=some (((bh c.1 l:Int),()),()):=by
 obtain⟨k1,k2,k3,k4,k5⟩:=bz h;unfold VD Zv;have:=Zx (c:=c.1) (q:=c.2.1) k3 k5 k4 Ac 0 [] (List.replicate 8 false) (by omega) (Ae (by omega)) (by simp) (by simp) (fun j hj=>by
  grind)
 grind[bh]
def holds(c:ABU)(l:AAG):Bool:=A9 c l&&decide ((bh c.1 l:Int)≥c.2.1)
theorem D3{c:ABU}{l:AAG}(hc:c.1.length≤2^40)(hl:l.length≤2^40):Ey c l=some ((holds c l,()),()):=by
 unfold Ey holds;rw[show(c.1,c.2.1,())=c from rfl,HD hc hl];simp only[ANY];cases h:A9 c l with
 |false=>rfl
 |true=>
  rw[ANk,eF h];rfl
theorem Fp{c:ABU}{l:AAG}(hc:c.1.length≤2^40)(hl:l.length≤2^40):GF c l=some ((holds c l,()),()):=by
 unfold GF holds;rw[show(c.1,c.2.1,())=c from rfl,EL hc hl,rk hc hl];simp only[ANY];cases h:A9 c l<;>rfl
theorem Vz{c:ABU}{l:AAG}(h:holds c l=true):A9 c l=true:=by
 simp only[holds,ANB]at h;exact h.1
end Go.M
end
section
namespace Go.M
open Go.M.H (CR AO Ay AR AX AW Aa Bh A4 Ap wh pz ey)
abbrev Bz:Type:=List Int×Int×Unit
def HG:CR:=([],false,0,())
def qB(c:Bz)(e:CR):Bool:=holds c e.1&&(BF e.2.2.1 0 60&&(e.2.1||e.2.2.1==0))
theorem s_{c:Bz}{e:CR}(hc:c.1.length≤2^40)(hl:e.1.length≤2^40):cV c e=some ((qB c e,()),()):=by
 unfold cV qB;rw[show(c.1,c.2.1,())=c from rfl,Fp hc hl];grind[Az,holds,BF]
def uo(c:Bz)(l:List CR)(i:Nat):Bool:=
 qB c (l.getD i HG)&& !((l.getD i HG).2.1&&(decide (i+1=l.length)||(decide (0<i)&& !(l.getD (i-1) HG).2.1)))
def ix(r:AO):Bool:=r.2.1==0||(Bf r.2.1&&decide (An r.2.1≤r.1.length))
def On(c:Bz)(r:AO):Bool:=GB c&&(decide (r.1.length≤30)&&(ix r&&Em (uo c r.1) 0 r.1.length))
theorem Ba{α:Type}{l:List α}{i:Nat}{d:α}(h:i<l.length):l.getD i d∈l:=by
 simp_all
theorem oN{c:Bz}{l:List CR}{tr:Int}(hc:c.1.length≤2^40)(hl:AX Bh l≤2^30):LD Ac l.length 0 c.1 c.2.1 l tr=some ((Em (uo c l) 0 l.length,()),()):=by
 have yW:=AW (f:=Bh) (l:=l);rw[←AUU (Em _ _ _)];refine GR (L:=fun n i=>LD n l.length i c.1 c.2.1 l tr) (len:=l.length) (p:=uo c l) (fin:=true) (fun n i hi=> ?_) (fun n=> ?_) l.length Ac 0 (by omega) (Ae (by omega))
 ·have hm:=Aa (f:=Bh) (Ba (d:=HG) hi)
  simp only[Bh]at hm;simp only[LD,UL,AB];rw[AMp (by omega),AMp (by omega),show(c.1,c.2.1,())=c from rfl,ANN,show(([],false,0,()):CR)=HG from rfl,D3 hc (by omega),BV,AJ (x:=(i:Int)+1) (by omega) (by omega),
   AJ (x:=(l.length:Int)-1) (by omega) (by omega),AJ (x:=(i:Int)-1) (by omega) (by omega),show((i:Int)+1)=((i+1:Nat):Int)by omega]
  simp only[ANY,uo,qB];have e1:((i:Int)==(l.length:Int)-1)=decide (i+1=l.length):=by
   grind
  have e2:(((i:Int)-1).toNat)=i-1:=by omega
  grind
 ·simp only[LD,UL,AB]
  simp_all
theorem QT{c:Bz}{r:AO}(hc:c.1.length≤2^40)(hl:AX Bh r.1≤2^30)(ht:CO r.2.1):NH c r=some ((On c r,()),()):=by
 unfold NH au On ix;rw[show(c.1,c.2.1,())=c from rfl,HX hc,oN hc hl,Ie ht,EN ht];grind
theorem Nq{c:Bz}{r:AO}(hc:c.1.length≤2^40)(hl:AX Bh r.1≤2^30)(ht:CO r.2.1):K7 c r=some ((On c r,()),()):=by
 have yW:=AW (f:=Bh) (l:=r.1);have AF9:LJ Ac r.1 r.1.length 0 c.1 c.2.1 r.1 r.2.1=some ((Em (uo c r.1) 0 r.1.length&&(GB c&&(decide (r.1.length≤30)&&ix r)),()),()):=by
  refine GR (L:=fun n i=>LJ n r.1 r.1.length i c.1 c.2.1 r.1 r.2.1) (len:=r.1.length) (p:=uo c r.1) (fin:=GB c&&(decide (r.1.length≤30)&&ix r)) (fun n i hi=> ?_) (fun n=> ?_) r.1.length Ac 0 (by omega) (Ae (by omega))
  ·have hm:=Aa (f:=Bh) (Ba (d:=HG) hi)
   simp only[Bh]at hm;simp only[LJ,UN,AB];rw[AMp (by omega),AMp (by omega),show(c.1,c.2.1,())=c from rfl,ANN,show(([],false,0,()):CR)=HG from rfl];rw[show((r.1.getD i HG).1,(r.1.getD i HG).2.1,(r.1.getD i HG).2.2.1,())=r.1.getD i HG from rfl,s_ hc (by omega),AJ (x:=(i:Int)+1) (by omega) (by omega),
    AJ (x:=(r.1.length:Int)-1) (by omega) (by omega),AJ (x:=(i:Int)-1) (by omega) (by omega),show((i:Int)+1)=((i+1:Nat):Int)by omega]
   simp only[ANY,uo];have e1:((i:Int)==(r.1.length:Int)-1)=decide (i+1=r.1.length):=by
    grind
   have e2:(((i:Int)-1).toNat)=i-1:=by omega
   grind
  ·simp only[LJ,UN]
   rw[show decide ((r.1.length:Int)<(r.1.length:Int))=false by simp,show(c.1,c.2.1,())=c from rfl,MV hc,FB ht];simp only[ANI,ANY,Az,ix];have e1:decide ((r.1.length:Int)≤30)=decide (r.1.length≤30):=by
    grind
   rw[e1];have e4:BF (An r.2.1) 1 (r.1.length:Int)=(Bf r.2.1&&decide (An r.2.1≤(r.1.length:Int))):=by
    have hr:=ga (x:=r.2.1);unfold BF;grind
   grind
 grind[K7,az,On,GB,decide,ix,Em,uo]
def ADn(b:Bool):Int:=if b then 1 else 0
theorem oq(b:Bool):cS b=some ((ADn b,()),()):=by cases b<;>rfl
end Go.M
end
section
namespace Go.M
open Go.M.H (CR AO Ay AR AX AW Aa Bh A4 Ap wh pz ey)
def LR:Ay:=([],[],false,())
def XB(c:Bz)(e:Ay):Bool:=decide (e.1.length≤40)&&(A9 c e.2.1&&(e.2.2.1==holds c e.2.1))
def Rk:List Ay→Nat
 |[]=>0
 |e::l=>cond e.2.2.1 0 1+Rk l
def le6(n:Nat):Bool:=decide (n≤6)
theorem ABG(o:Nat):decide ((o:Int)≤6)=le6 o:=by
 grind[le6]
def EM(c:Bz)(w:AR):Bool:=GB c&&(BF w.1 1 30&&(decide (w.2.1.length≤60)&&(w.2.1.all (XB c)&&le6 (Rk w.2.1))))
theorem cx{c:Bz}{ep:Int}{l:List Ay}(hc:c.1.length≤2^40)(hl:AX A4 l≤2^30):∀(n i o:Nat),i≤l.length→l.length-i<n→o≤i→
  L1 n o i c.1 c.2.1 ep l=some (((l.drop i).all (XB c)&&le6 (o+Rk (l.drop i)),()),())
 |0,i,_,_,h,_=>by omega
 |n+1,i,o,hi,h,ho=>by
  have yW:=AW (f:=A4) (l:=l);simp only[L1,WT,AB];by_cases vf:i<l.length
  ·have hm:=Aa (f:=A4) (ANa vf)
   rw[AMp (by omega),AMp (by omega),Am vf,drop_cons vf];have ih:=fun o=>cx (ep:=ep) hc hl n (i+1) o (by omega) (by omega)
   generalize l[i]=e at hm
   simp only[A4]at hm;rw[show(c.1,c.2.1,())=c from rfl,HD hc (by omega),D3 hc (by omega),AJ (x:=(i:Int)+1) (by omega) (by omega),AJ (x:=(o:Int)+1) (by omega) (by omega),show((i:Int)+1)=((i+1:Nat):Int)by omega,show((o:Int)+1)=((o+1:Nat):Int)by omega];simp only[ANY,AUT,XB,Rk];by_cases h40:e.1.length≤40
   ·rw[AM5 (by omega),ATy h40,ih o (by omega),ih (o+1) (by omega)]
    cases A9 c e.2.1 with
    |false=>rfl
    |true=>
     cases hd:e.2.2.1 with
     |true=>
      grind
     |false=>
      grind
   grind
  ·rw[AM5 (by omega)]
   grind[Rk,ABG]
theorem GN{c:Bz}{w:AR}(hc:c.1.length≤2^40)(hl:AX A4 w.2.1≤2^30):Hm c w=some ((EM c w,()),()):=by
 have yW:=AW (f:=A4) (l:=w.2.1);unfold Hm Wb EM;have h:=cx (ep:=w.1) hc hl Ac 0 0 (by omega) (Ae (by omega)) (by omega);rw[show((0:Nat):Int)=0 from rfl]at h;rw[show(c.1,c.2.1,())=c from rfl,HX hc,BV,h];grind
theorem dK{c:Bz}{ep:Int}{l:List Ay}(hc:c.1.length≤2^40)(hl:AX A4 l≤2^30):∀(n i o:Nat),i≤l.length→l.length-i<n→o≤i→
  MU n o l l.length i c.1 c.2.1 ep l=some (((l.drop i).all (XB c)&&(GB c&&(BF ep 1 30&&(decide (l.length≤60)&&le6 (o+Rk (l.drop i))))),()),())
 |0,i,_,_,h,_=>by omega
 |n+1,i,o,hi,h,ho=>by
  have yW:=AW (f:=A4) (l:=l);simp only[MU,WZ];by_cases vf:i<l.length
  ·have hm:=Aa (f:=A4) (ANa vf)
   rw[show decide ((i:Int)<(l.length:Int))=true by simp_all,ANk,AMp (by omega),Am vf,drop_cons vf];have ih:=fun o=>dK (ep:=ep) hc hl n (i+1) o (by omega) (by omega)
   generalize l[i]=e at hm
   simp only[A4]at hm;rw[show(c.1,c.2.1,())=c from rfl,EL hc (by omega),Fp hc (by omega),oq,AJ (x:=(i:Int)+1) (by omega) (by omega),show((i:Int)+1)=((i+1:Nat):Int)by omega];simp only[ANY,AUT,XB,Rk,GL];have e40:decide ((e.1.length:Int)≤40)=decide (e.1.length≤40):=by
    grind
   rw[e40];cases hd:e.2.2.1 with
   |true=>
    rw[show AS ((o:Int)+ADn (!true))=(o:Int)by rw[ANX,show ADn false=0 from rfl,Int.add_zero,AJ (by omega) (by omega)],ih o (by omega)];grind
   |false=>
    rw[show AS ((o:Int)+ADn (!false))=((o+1:Nat):Int)by rw[ATb,show ADn true=1 from rfl,AJ (by omega) (by omega)];omega,ih (o+1) (by omega)];grind
  ·have:i=l.length:=by omega
   subst this;rw[show decide (((l.length:Nat):Int)<(l.length:Int))=false by simp,show(c.1,c.2.1,())=c from rfl,MV hc];simp only[ANI,ANY,Hp,Az,AU_,List.all_nil,Rk,AVe,ANr];grind[decide,ABG,GB,BF]
theorem JF{c:Bz}{w:AR}(hc:c.1.length≤2^40)(hl:AX A4 w.2.1≤2^30):Gh c w=some ((EM c w,()),()):=by
 have yW:=AW (f:=A4) (l:=w.2.1);unfold Gh Wf EM;have h:=dK (ep:=w.1) hc hl Ac 0 0 (by omega) (Ae (by omega)) (by omega);grind
theorem aR{c:Bz}{w:AR}(h:EM c w=true):GB c=true∧(1≤w.1∧w.1≤30)∧w.2.1.length≤60∧ ∀e∈w.2.1,XB c e=true:=by
 simp only[EM,BF,ANB,ANo,AUS]at h;simp_all
theorem ka{c:Bz}{e:Ay}(h:XB c e=true):e.1.length≤40∧e.2.1.length≤8∧(∀x∈e.2.1,0≤x∧x<8)∧e.2.2.1=holds c e.2.1:=by
 simp only[XB,ANB,ANo,AUP]at h;obtain⟨k1,k2,k3,k4,k5⟩:=bz h.2.1;grind
end Go.M
end
section
namespace Go.M
open Go.M.H (AK AQ Av Af AA CR AO Ay AR Ah BR AX AW Aa Ai Al CD EH Cv Bh A4 Ap A_ CP)
theorem AG_(a b:Int):decide (a≤b)= !decide (b<a):=by
 grind
theorem AXk(n k:Nat):decide ((n:Int)≤(k:Int))=decide (n≤k):=by
 simp_all
theorem AA5(n k:Nat):decide ((n:Int)>(k:Int))= !decide (n≤k):=by
 grind
def Cp(x:Int):Int:=cond (Bf x) (x.tmod 4294967296) 0
theorem Z5{x:Int}(h:CO x):HU x=some ((Cp x,()),()):=by
 grind[HU,Cp,Ie,Bf]
theorem aA{x:Int}(h:CO x):UW x=some ((Cp x,()),()):=by
 grind[UW,Cp,Qy,Bf]
abbrev Dy:AK:=(0,0,false,[],())
def F7(e:AK):Bool:=Bf e.1&&(BF e.2.1 0 30&&((!decide (e.2.1>0)||decide (An e.1<e.2.1))&&(decide (e.2.2.2.1.length≤40)&&(!e.2.2.1||(decide (e.2.1>0)&&e.2.2.2.1==[])))))
theorem Qt{e:AK}(h:CO e.1):Mz e=some ((F7 e,()),()):=by
 unfold Mz F7;grind[Ie,BV,EN,AG_,An,decide,AA5,Bf,BF]
theorem AXf{x:Int}(h:BF x 0 30=true):(x==0)= !decide (x>0):=by
 simp only[BF,ANo]at h;grind
theorem Qr{e:AK}(h:CO e.1):Mu e=some ((F7 e,()),()):=by
 unfold Mu F7 GL;rw[Qy h,Az,FB h];simp only[ANY];rw[show decide ((e.2.2.2.1.length:Int)≤40)=decide (e.2.2.2.1.length≤40)from AXk _ 40,show decide (e.2.1>An e.1)=decide (An e.1<e.2.1)from rfl];rcases AMo (BF e.2.1 0 30)with hi|hi
 all_goals grind[AXf,Bf,decide,An]
def Xi(l:List AK):Bool:=Em (fun i=>F7 (l.getD i Dy)) 0 l.length
def jd(l:List AK):Bool:=Em (fun i=>i==0||decide ((l.getD (i-1) Dy).1<(l.getD i Dy).1)) 0 l.length
def gB(l:List AK):Prop:= ∀e∈l,CO e.1
theorem gB.getD{l:List AK}(h:gB l){i:Nat}(hi:i<l.length):CO (l.getD i Dy).1:=h _ (Ba hi)
theorem eS{l:List AK}{k:Nat}(hl:l.length≤2^40)(h:gB l):VY l k=some ((decide (l.length≤k)&&Xi l,()),()):=by
 unfold VY ZC;have:=GR (L:=fun n i=>MP n l i) (len:=l.length) (p:=fun i=>F7 (l.getD i Dy)) (fin:=true) (fun n i hi=>by
  simp only[MP,S3,AB];rw[AMp (by omega),AMp (by omega),AJ (by omega) (by omega),show((i:Int)+1)=((i+1:Nat):Int)by omega];simp only[ANN];rw[show((l.getD i (0,0,false,[],())).1,(l.getD i (0,0,false,[],())).2.1,(l.getD i (0,0,false,[],())).2.2.1,(l.getD i (0,0,false,[],())).2.2.2.1,())=l.getD i Dy from rfl,Qt (h.getD hi)];simp_all) (fun n=>by
  simp only[MP,S3,AB];simp_all) l.length Ac 0 (by omega) (Ae (by omega))
 rw[show((0:Nat):Int)=0 from rfl]at this;rw[this,AA5,AUU];cases decide (l.length≤k)<;>rfl
theorem gb{l:List AK}(hl:l.length≤2^40):YC l=some ((jd l,()),()):=by
 unfold YC bB jd;have h1:∀n (i:Nat),0<i→i<l.length→Gj (n+1) l i=cond (i==0||decide ((l.getD (i-1) Dy).1<(l.getD i Dy).1)) (Gj n l ((i+1:Nat):Int)) (some ((false,()),())):=fun n i h0 hi=>by
  simp only[Gj,P1,AB];rw[AMp (by omega),AJ (x:=(i:Int)-1) (by omega) (by omega),AMp (by omega),AMp (by omega),AJ (by omega) (by omega),show((i:Int)+1)=((i+1:Nat):Int)by omega];have h1:((i:Int)-1).toNat=i-1:=by omega
  have h2:(i==0)=false:=by grind
  rw[h1,h2,ANN,AT5];grind
 cases hlen:l.length with
 |zero=>
  obtain⟨m,hm⟩:∃m,Ac=m+1:=⟨Ac-1,by have:=fo;omega⟩;rw[hm];simp only[Gj,P1,AB];rw[AM5 (by omega)];rfl
 |succ k=>
  have:=GR (L:=fun n i=>if(0:Int)<i then Gj n l i else cond (decide (0<n)) (Gj (n-1) l 1) none) (len:=l.length) (p:=fun i=>i==0||decide ((l.getD (i-1) Dy).1<(l.getD i Dy).1)) (fin:=true) (fun n i hi=>by
   simp_all) (fun n=>by
   rw[AMp (by omega)];simp only[Gj,P1,AB];simp_all) l.length (Ac+1) 0 (by omega) (by have:=fo;omega)
  simp_all
theorem Zh{l:List AK}(hl:l.length≤2^40)(h:gB l):O5 l=some ((Xi l,()),()):=by
 unfold O5 Vm;have:=GR (L:=fun n i=>IQ n l l.length i) (len:=l.length) (p:=fun i=>F7 (l.getD i Dy)) (fin:=true) (fun n i hi=>by
  simp only[IQ,Oy,AB];rw[AMp (by omega),AMp (by omega),AJ (by omega) (by omega),show((i:Int)+1)=((i+1:Nat):Int)by omega];simp only[ANN];rw[show((l.getD i (0,0,false,[],())).1,(l.getD i (0,0,false,[],())).2.1,(l.getD i (0,0,false,[],())).2.2.1,(l.getD i (0,0,false,[],())).2.2.2.1,())=l.getD i Dy from rfl,Qr (h.getD hi)];simp_all) (fun n=>by
  simp only[IQ,Oy,AB];simp_all) l.length Ac 0 (by omega) (Ae (by omega))
 rw[show((0:Nat):Int)=0 from rfl]at this;rw[this,AUU];rfl
theorem Vw{l:List AK}(hl:l.length≤2^40):Kl l=some ((jd l,()),()):=by
 unfold Kl Rj;have:=GR (L:=fun n i=>GY n l l l.length i) (len:=l.length) (p:=fun i=>i==0||decide ((l.getD (i-1) Dy).1<(l.getD i Dy).1)) (fin:=true) (fun n i hi=>by
  simp only[GY,MX,AB];rw[AMp (by omega),AMp (by omega),AJ (x:=(i:Int)+1) (by omega) (by omega),show((i:Int)+1)=((i+1:Nat):Int)by omega];by_cases h0:i=0
  ·simp_all
  ·rw[AMp (by omega),AJ (by omega) (by omega),AMp (by omega)]
   have h1:((i:Int)-1).toNat=i-1:=by omega
   have h2:(i==0)=false:=by simp_all
   rw[h1,h2,ANN,AT5];grind) (fun n=>by
  simp only[GY,MX,AB];simp_all) l.length Ac 0 (by omega) (Ae (by omega))
 rw[show((0:Nat):Int)=0 from rfl]at this;rw[this,AUU];rfl
def B8(s:AQ):Bool:=(decide (s.1.length≤200)&&Xi s.1)&&((decide (s.2.1.length≤20)&&Xi s.2.1)&&(jd s.1&&BF s.2.2.1 0 30))
def kH(s:AQ):Prop:=gB s.1∧gB s.2.1
theorem F8{s:AQ}(hl:Al s≤2^30)(h:kH s):G4 s=some ((B8 s,()),()):=by
 have l1:=AW (f:=Ai) (l:=s.1);have l2:=AW (f:=Ai) (l:=s.2.1);unfold Al at hl;have e1:=eS (l:=s.1) (k:=200) (by omega) h.1;have e2:=eS (l:=s.2.1) (k:=20) (by omega) h.2;rw[show((200:Nat):Int)=200 from rfl]at e1;rw[show((20:Nat):Int)=20 from rfl]at e2;grind[G4,B8,gb,BV,decide,Xi,jd]
theorem FE{s:AQ}(hl:Al s≤2^30)(h:kH s):FK s=some ((B8 s,()),()):=by
 have l1:=AW (f:=Ai) (l:=s.1);have l2:=AW (f:=Ai) (l:=s.2.1);unfold Al at hl;unfold FK B8;rw[Zh (by omega) h.1,Zh (by omega) h.2,Vw (by omega),Az,show decide ((s.1.length:Int)>200)= !decide (s.1.length≤200)from AA5 _ 200,show decide ((s.2.1.length:Int)>20)= !decide (s.2.1.length≤20)from AA5 _ 20];grind
end Go.M
end
section
namespace Go.M
open Go.M.H (AK AQ Av Af AA CR AO Ay AR Ah BR AX AW Aa Ai Al CD EH Cv Bh A4 Ap A_ CP C3)
theorem mW{L:Nat→Int→Option (ABk×Unit)}{len N:Nat}{p:Nat→Bool}{fin:Bool}(h1:∀n (i:Nat),i<len→L (n+1) i=cond (p i) (L n ((i+1:Nat):Int)) (some ((false,()),())))(h2:∀n,N≤n→L (n+1) (len:Int)=some ((fin,()),())):
  ∀d n i,i+d=len→d+N<n→L n i=some ((Em p i d&&fin,()),())
 |0,n,i,hd,h=>by
  obtain⟨m,rfl⟩:∃m,n=m+1:=⟨n-1,by omega⟩;have:i=len:=by omega
  subst this;rw[h2 m (by omega)];rfl
 |d+1,n,i,hd,h=>by
  obtain⟨m,rfl⟩:∃m,n=m+1:=⟨n-1,by omega⟩;rw[h1 m i (by omega)];simp only[Em];cases p i with
  |false=>rfl
  |true=>rw[ANk,mW h1 h2 d m (i+1) (by omega) (by omega)];rfl
def O6(l:List AK):Int:=cond (l.length==0) 0 (Cp (l.getD (l.length-1) Dy).1)
theorem eX{m:Av}(hl:m.2.2.2.1.length≤2^40)(h:gB m.2.2.2.1):Ro m=some ((O6 m.2.2.2.1,()),()):=by
 unfold Ro O6;by_cases h0:m.2.2.2.1.length=0
 ·simp[h0]
 ·have e1:((m.2.2.2.1.length:Int)==0)=false:=by simp_all
  have e2:(m.2.2.2.1.length==0)=false:=by simp_all
  rw[e1,e2];simp only[ANI];rw[AJ (by omega) (by omega),AMp (by omega),show((m.2.2.2.1.length:Int)-1).toNat=m.2.2.2.1.length-1 by omega,Z5 (h.getD (by omega))];rfl
theorem cy{m:Av}(hl:m.2.2.2.1.length≤2^40)(h:gB m.2.2.2.1):SN m=some ((O6 m.2.2.2.1,()),()):=by
 unfold SN O6;by_cases h0:m.2.2.2.1.length=0
 ·simp[h0]
 ·have e1:((m.2.2.2.1.length:Int)==0)=false:=by simp_all
  have e2:(m.2.2.2.1.length==0)=false:=by simp_all
  rw[e1,e2];simp only[ANI];rw[AJ (by omega) (by omega),AMp (by omega),show((m.2.2.2.1.length:Int)-1).toNat=m.2.2.2.1.length-1 by omega,aA (h.getD (by omega))];rfl
def uG(l:List AK)(ep by_:Int)(i:Nat):Bool:=F7 (l.getD i Dy)&&((An (l.getD i Dy).1==ep)&&decide ((l.getD i Dy).2.1<by_))
def uA(l:List AK)(ep by_:Int):Bool:=Em (uG l ep by_) 0 l.length
def rW(c:Bz)(l:List AAG):Bool:=Em (fun i=>A9 c (l.getD i [])) 0 l.length
def Gv(c:Bz)(m:Av):Bool:=GB c&&(BF m.2.1 1 30&&(BF m.1 (m.2.1+1) 30&&(A9 c m.2.2.1&&(jd m.2.2.2.1&&(uA m.2.2.2.1 m.2.1 m.1&&(rW c m.2.2.2.2.2.1&&((m.2.2.2.2.2.1.length:Int)==cond m.2.2.2.2.1 (O6 m.2.2.2.1) 0)))))))
theorem Jf{c:Bz}{m:Av}(hc:c.1.length≤2^40)(hm:CD m≤2^30)(h:gB m.2.2.2.1):JC c m=some ((Gv c m,()),()):=by
 have l1:=AW (f:=Ai) (l:=m.2.2.2.1);have l2:=AW (f:=C3) (l:=m.2.2.2.2.2.1);unfold CD at hm;have wr:∀n,m.2.2.2.2.2.1.length+1≤n→H3 n 0 c.1 c.2.1 m.1 m.2.1 m.2.2.1 m.2.2.2.1 m.2.2.2.2.1 m.2.2.2.2.2.1=some ((rW c m.2.2.2.2.2.1&&((m.2.2.2.2.2.1.length:Int)==cond m.2.2.2.2.1 (O6 m.2.2.2.1) 0),()),()):=fun n hn=>by
  refine GR (L:=fun n i=>H3 n i c.1 c.2.1 m.1 m.2.1 m.2.2.1 m.2.2.2.1 m.2.2.2.2.1 m.2.2.2.2.2.1) (len:=m.2.2.2.2.2.1.length) (p:=fun i=>A9 c (m.2.2.2.2.2.1.getD i [])) (fin:=(m.2.2.2.2.2.1.length:Int)==cond m.2.2.2.2.1 (O6 m.2.2.2.1) 0) (fun n i hi=> ?_) (fun n=> ?_) m.2.2.2.2.2.1.length n 0 (by omega) (by omega)
  ·have hwi:(m.2.2.2.2.2.1.getD i []).length≤AX C3 m.2.2.2.2.2.1:=Aa (f:=C3) (Ba (d:=[]) hi)
   simp only[H3,Sm,AB];rw[AMp (by omega),AMp (by omega),AJ (by omega) (by omega),show((i:Int)+1)=((i+1:Nat):Int)by omega,ANN,show(c.1,c.2.1,())=c from rfl,HD hc (by omega)];simp_all
  ·simp only[H3,Sm,AB]
   rw[AM5 (by omega),show(m.1,m.2.1,m.2.2.1,m.2.2.2.1,m.2.2.2.2.1,m.2.2.2.2.2.1,())=m from rfl,eX (by omega) h];grind
 have se:=mW (L:=fun n i=>Jl n i c.1 c.2.1 m.1 m.2.1 m.2.2.1 m.2.2.2.1 m.2.2.2.2.1 m.2.2.2.2.2.1) (len:=m.2.2.2.1.length) (N:=m.2.2.2.2.2.1.length+1) (p:=uG m.2.2.2.1 m.2.1 m.1) (fin:=rW c m.2.2.2.2.2.1&&((m.2.2.2.2.2.1.length:Int)==cond m.2.2.2.2.1 (O6 m.2.2.2.1) 0)) (fun n i hi=>by
   simp only[Jl,TZ,AB,uG];have hb:(0:Int)≤(i:Int)∧(i:Int)<(m.2.2.2.1.length:Int):=by omega
   rw[AMp hb.2,AJ (by omega) (by omega),show((i:Int)+1)=((i+1:Nat):Int)by omega,ANN];simp only[AMp hb];rw[show((m.2.2.2.1.getD i (0,0,false,[],())).1,(m.2.2.2.1.getD i (0,0,false,[],())).2.1,(m.2.2.2.1.getD i (0,0,false,[],())).2.2.1,(m.2.2.2.1.getD i (0,0,false,[],())).2.2.2.1,())=m.2.2.2.1.getD i Dy from rfl,Qt (h.getD hi),EN (h.getD hi)];grind) (fun n hn=>by
   simp only[Jl,TZ,AB];simp_all) m.2.2.2.1.length Ac 0 (by omega) (Ae (by omega))
 rw[show((0:Nat):Int)=0 from rfl]at se;unfold JC ZF Gv;rw[show(c.1,c.2.1,())=c from rfl,HX hc,BV,BV,HD hc (by omega),gb (by omega),se];simp only[ANY];rcases AMo (BF m.2.1 1 30)with hi|hi
 ·have IY:=hi
  simp only[BF,ANo]at IY;rw[AJ (by omega) (by omega),hi];cases GB c<;>cases BF m.1 (m.2.1+1) 30<;>cases A9 c m.2.2.1<;>cases jd m.2.2.2.1<;>rfl
 simp_all
theorem ri{m:Av}(hm:CD m≤2^30)(h:gB m.2.2.2.1):VC m=some ((uA m.2.2.2.1 m.2.1 m.1&&jd m.2.2.2.1,()),()):=by
 have l1:=AW (f:=Ai) (l:=m.2.2.2.1);unfold CD at hm;unfold VC Zc;exact GR (L:=fun n i=>MF n m.2.2.2.1 m.2.2.2.1.length i m.1 m.2.1 m.2.2.1 m.2.2.2.1 m.2.2.2.2.1 m.2.2.2.2.2.1) (len:=m.2.2.2.1.length) (p:=uG m.2.2.2.1 m.2.1 m.1) (fin:=jd m.2.2.2.1) (fun n i hi=>by
  simp only[MF,Sn,AB,uG];rw[AMp (by omega),AMp (by omega),AJ (by omega) (by omega),show((i:Int)+1)=((i+1:Nat):Int)by omega,ANN];rw[show((m.2.2.2.1.getD i (0,0,false,[],())).1,(m.2.2.2.1.getD i (0,0,false,[],())).2.1,(m.2.2.2.1.getD i (0,0,false,[],())).2.2.1,(m.2.2.2.1.getD i (0,0,false,[],())).2.2.2.1,())=m.2.2.2.1.getD i Dy from rfl,Qr (h.getD hi),FB (h.getD hi)];grind) (fun n=>by
  simp only[MF,Sn,AB];rw[AM5 (by omega),Vw (by omega)];rfl) m.2.2.2.1.length Ac 0 (by omega) (Ae (by omega))
theorem Hy{c:Bz}{m:Av}(hc:c.1.length≤2^40)(hm:CD m≤2^30)(h:gB m.2.2.2.1):H6 c m=some ((Gv c m,()),()):=by
 have l1:=AW (f:=Ai) (l:=m.2.2.2.1);have l2:=AW (f:=C3) (l:=m.2.2.2.2.2.1);have hm2:=hm;unfold CD at hm;have key:=GR (L:=fun n i=>MB n m.2.2.2.2.2.1 m.2.2.2.2.2.1.length i c.1 c.2.1 m.1 m.2.1 m.2.2.1 m.2.2.2.1 m.2.2.2.2.1 m.2.2.2.2.2.1) (len:=m.2.2.2.2.2.1.length) (p:=fun i=>A9 c (m.2.2.2.2.2.1.getD i []))
  (fin:=GB c&&(BF m.2.1 1 30&&(BF m.1 (m.2.1+1) 30&&(A9 c m.2.2.1&&((uA m.2.2.2.1 m.2.1 m.1&&jd m.2.2.2.1)&&((m.2.2.2.2.2.1.length:Int)==cond m.2.2.2.2.1 (O6 m.2.2.2.1) 0)))))) (fun n i hi=>by
   have hwi:(m.2.2.2.2.2.1.getD i []).length≤AX C3 m.2.2.2.2.2.1:=Aa (f:=C3) (Ba (d:=[]) hi);simp only[MB,SJ,AB];rw[AMp (by omega),AMp (by omega),AJ (x:=(i:Int)+1) (by omega) (by omega),show((i:Int)+1)=((i+1:Nat):Int)by omega,ANN,show(c.1,c.2.1,())=c from rfl,EL hc (by omega)];simp_all) (fun n=>by
   simp only[MB,SJ,AB];rw[AM5 (by omega),show(m.1,m.2.1,m.2.2.1,m.2.2.2.1,m.2.2.2.2.1,m.2.2.2.2.2.1,())=m from rfl,cy (by omega) h,show(c.1,c.2.1,())=c from rfl,MV hc,EL hc (by omega),ri hm2 h];simp only[ANY,Hp,Az];rcases AMo (BF m.2.1 1 30)with hi|hi
   ·have IY:=hi
    simp only[BF,ANo]at IY;grind[AJ,GB,BF,A9,uA,jd]
   simp_all) m.2.2.2.2.2.1.length Ac 0 (by omega) (Ae (by omega))
 unfold H6 Zm Gv;rw[show((0:Nat):Int)=0 from rfl]at key;grind[rW,Em,A9,GB,BF,uA,jd]
end Go.M
end
section
namespace Go.M
open Go.M.H (AK AQ Av Af AA CR AO Ay AR Ah BR AX AW Aa Ai Al CD EH Cv Bh A4 Ap A_ CP C3)
theorem ADq{x:Int}{l:AAG}(hl:l.length≤2^40):∃r,Ng [x] l=some (((),()),(r,()))∧decide ((r.length:Int)>0)=l.contains x:=by
 obtain⟨m,hm⟩:∃m,Ac=m+2:=⟨Ac-2,by have:=fo;omega⟩;unfold Ng DF;rw[AMp (by rw[Au];simp)];simp only[ANY];unfold Ck D6 Dp EG;rw[hm];simp only[B4,EC,Rb,AOw,ARW,AB];rw[AMp (by omega),AMp (by omega)];simp only[Int.toNat_zero,List.getD_cons_zero];rw[JD hl];simp only[ANY];cases l.contains x with
 |true=>
  simp only[ANX,ANI];rw[AJ (x:=0+1) (by omega) (by omega),AM5 (by omega)];simp_all
 |false=>
  simp only[ATb,ANk,ANY];rw[AJ (x:=0+1) (by omega) (by omega)];simp only[Bt,D5,AB,AOw,ARW];simp_all
theorem av{w:AA}{x:Int}(hl:w.2.2.2.1.length≤2^40):C5 w x=some ((w.2.2.2.1.contains x,()),()):=by
 unfold C5;obtain⟨r,h1,h2⟩:=ADq (x:=x) hl;simp_all
theorem KV{l:AAG}{x:Int}(hl:l.length≤2^40):Cz l x=some ((l.contains x,()),()):=by
 have key:∀(n i:Nat),i≤l.length→l.length-i<n→LG n l x i=some (((l.drop i).contains x,()),()):=by
  intro n
  induction n with
  |zero=>omega
  |succ n ih=>
   intro i hi h;simp only[LG,UZ,AB];by_cases hc:i<l.length
   ·rw[AMp (by omega),AMp (by omega),AJ (by omega) (by omega),show((i:Int)+1)=((i+1:Nat):Int)by omega,Am hc,drop_cons hc,ih (i+1) (by omega) (by omega)]
    simp only[List.contains_cons];by_cases he:l[i]=x
    all_goals grind
   grind
 grind[Cz,Ua,Ac,Ae]
def Yi(l:List CR):Nat→Nat→Int
 |_,0=>0
 |i,d+1=>cond (!(l.getD i ([],false,0,())).2.1) ((i:Int)+1) (Yi l (i+1) d)
def BK(l:List CR):Int:=Yi l 0 l.length
theorem OM{r:AO}(hl:r.1.length≤2^40):Jt r=some ((BK r.1,()),()):=by
 have key:∀(d n i:Nat),i+d=r.1.length→d<n→IV n i r.1 r.2.1=some ((Yi r.1 i d,()),()):=by
  intro d
  induction d with
  |zero=>
   intro n i hi hn;obtain⟨m,rfl⟩:∃m,n=m+1:=⟨n-1,by omega⟩;simp only[IV,PB,AB,Yi];simp_all
  |succ d ih=>
   intro n i hi hn;obtain⟨m,rfl⟩:∃m,n=m+1:=⟨n-1,by omega⟩;simp only[IV,PB,AB,Yi];rw[AMp (by omega),AMp (by omega),AJ (by omega) (by omega),show((i:Int)+1)=((i+1:Nat):Int)by omega,ih m (i+1) (by omega) (by omega),ANN];grind
 grind[Jt,Vj,BK,Ac,Ae]
theorem S7{r:AO}(hl:r.1.length≤2^40):L7 r=some ((BK r.1,()),()):=by
 have key:∀(d n i:Nat),i+d=r.1.length→d<n→IL n r.1 r.1.length i=some ((Yi r.1 i d,()),()):=by
  intro d
  induction d with
  |zero=>
   intro n i hi hn;obtain⟨m,rfl⟩:∃m,n=m+1:=⟨n-1,by omega⟩;simp only[IL,PK,AB,Yi];simp_all
  |succ d ih=>
   intro n i hi hn;obtain⟨m,rfl⟩:∃m,n=m+1:=⟨n-1,by omega⟩;simp only[IL,PK,AB,Yi];rw[AMp (by omega),AMp (by omega),AJ (by omega) (by omega),show((i:Int)+1)=((i+1:Nat):Int)by omega,ih m (i+1) (by omega) (by omega),ANN];grind
 grind[L7,Va,BK,Ac,Ae]
structure fW (w:AA):Prop where
 weight:Cv w≤2^20
 Aq:∀s∈w.2.2.1,kH s
 trim:CO w.2.2.2.2.2.1
 CE:∀m∈w.2.2.2.2.2.2.2.1,gB m.2.2.2.1
 VS:∀s∈w.2.2.2.2.2.2.2.2.2.1,CO s.1
abbrev Dk:AQ:=([],[],0,())
abbrev Ag:AR:=(0,[],())
abbrev Rc:Av:=(0,0,[],[],false,[],())
abbrev Gn:Ah:=(0,0,[],())
abbrev NO:Af:=(0,[],false,())
def AY(w:AA):Bz:=(w.1,w.2.1,())
def CJ(w:AA):AO:=(w.2.2.2.2.1,w.2.2.2.2.2.1,())
def mY(w:AA)(i:Nat):Bool:=B8 (w.2.2.1.getD i Dk)&&(!w.2.2.2.1.contains (i:Int)||((w.2.2.1.getD i Dk).1.length==0&&((w.2.2.1.getD i Dk).2.1.length==0&&(w.2.2.1.getD i Dk).2.2.1==0)))
def fh(w:AA)(i:Nat):Bool:=EM (AY w) (w.2.2.2.2.2.2.1.getD i Ag)&&(decide ((w.2.2.2.2.2.2.1.getD i Ag).1≤(w.2.2.2.2.1.length:Int))&&(i==0||decide ((w.2.2.2.2.2.2.1.getD (i-1) Ag).1<(w.2.2.2.2.2.2.1.getD i Ag).1)))
def uN(w:AA)(i:Nat):Bool:=Gv (AY w) (w.2.2.2.2.2.2.2.1.getD i Rc)&&(((w.2.2.2.2.2.2.2.1.getD i Rc).1==(w.2.2.2.2.1.length:Int))&&((w.2.2.2.2.2.2.2.1.getD i Rc).2.1==BK w.2.2.2.2.1))
def tp(w:AA)(i:Nat):Bool:=(Bf (w.2.2.2.2.2.2.2.2.2.1.getD i NO).1&&decide (An (w.2.2.2.2.2.2.2.2.2.1.getD i NO).1≤(w.2.2.2.2.1.length:Int)))&&(decide ((w.2.2.2.2.2.2.2.2.2.1.getD i NO).2.1.length≤40)&&(i==0||decide ((w.2.2.2.2.2.2.2.2.2.1.getD (i-1) NO).1<(w.2.2.2.2.2.2.2.2.2.1.getD i NO).1)))
def ft(w:AA):Bool:=Em (mY w) 0 w.2.2.1.length
def an(w:AA):Bool:=Em (fh w) 0 w.2.2.2.2.2.2.1.length
def iJ(w:AA):Bool:=Em (uN w) 0 w.2.2.2.2.2.2.2.1.length
def uW(w:AA):Bool:=Em (tp w) 0 w.2.2.2.2.2.2.2.2.2.1.length
def fN(w:AA):Bool:=decide (w.2.2.2.2.2.2.2.2.1.length=2)&&(ae (w.2.2.2.2.2.2.2.2.1.getD 0 Gn)&&ae (w.2.2.2.2.2.2.2.2.1.getD 1 Gn))
def Dg(w:AA):Bool:=GB (AY w)&&(decide (w.2.2.1.length=w.1.length)&&(A9 (AY w) w.2.2.2.1&&((w.2.2.2.2.2.2.2.2.2.2.1|| !holds (AY w) w.2.2.2.1)&&(ft w&&(On (AY w) (CJ w)&&(decide (w.2.2.2.2.2.2.1.length≤4)&&(decide (w.2.2.2.2.2.2.2.1.length≤1)&&(an w&&(iJ w&&(fN w&&(decide (w.2.2.2.2.2.2.2.2.2.1.length≤120)&&uW w)))))))))))
section
variable{w:AA} (h:fW w)
include h
theorem fW.lens:w.1.length≤2^20∧AX Al w.2.2.1≤2^20∧w.2.2.2.1.length≤2^20∧AX Bh w.2.2.2.2.1≤2^20∧AX Ap w.2.2.2.2.2.2.1≤2^20∧AX CD w.2.2.2.2.2.2.2.1≤2^20∧AX A_ w.2.2.2.2.2.2.2.2.1≤2^20∧AX EH w.2.2.2.2.2.2.2.2.2.1≤2^20:=by
 have:=h.weight;grind[Cv]
theorem fW.TH:w.2.2.1.length≤2^20∧w.2.2.2.2.1.length≤2^20∧w.2.2.2.2.2.2.1.length≤2^20∧w.2.2.2.2.2.2.2.1.length≤2^20∧w.2.2.2.2.2.2.2.2.1.length≤2^20∧w.2.2.2.2.2.2.2.2.2.1.length≤2^20:=by
 have k:=h.lens;grind[AW,Al,Bh,Ap,CD,A_,EH]
theorem fW.cfg:(AY w).1.length≤2^40:=by
 have:=h.lens
 show w.1.length≤2^40
 omega
theorem w8:La w=some ((decide (w.2.2.1.length=w.1.length)&&(A9 (AY w) w.2.2.2.1&&(ft w&&(w.2.2.2.2.2.2.2.2.2.2.1|| !holds (AY w) w.2.2.2.1))),()),()):=by
 have k1:=h.lens;have k2:=h.TH;have key:=GR (L:=fun n i=>FN n w w.2.2.1 w.2.2.1.length i) (len:=w.2.2.1.length) (p:=mY w) (fin:=w.2.2.2.2.2.2.2.2.2.2.1|| !holds (AY w) w.2.2.2.1) (fun n i hi=>by
  have hm:=Ba (d:=Dk) hi;have hw:=Aa (f:=Al) hm;simp only[FN,J7,AB,mY];rw[AMp (by omega),AMp (by omega),AJ (x:=(i:Int)+1) (by omega) (by omega),show((i:Int)+1)=((i+1:Nat):Int)by omega,ANN,av (by omega)];rw[show((w.2.2.1.getD i ([],[],0,())).1,(w.2.2.1.getD i ([],[],0,())).2.1,(w.2.2.1.getD i ([],[],0,())).2.2.1,())=w.2.2.1.getD i Dk from rfl,FE (by omega) (h.Aq _ hm)];simp only[ANY]
  show cond (!B8 (w.2.2.1.getD i Dk)) _ _=_
  rcases AMo (B8 (w.2.2.1.getD i Dk))with hs|hs
  rotate_left
  ·simp_all
  rw[hs];have hs2:=hs;simp only[B8,BF,ANB,ANo]at hs2
  generalize w.2.2.1.getD i Dk=s at hw hs2
  cases w.2.2.2.1.contains ((i:Nat):Int)with
  |false=>rfl
  |true=>
   simp only[ANX,ANI,ANk,ANr,AT5];unfold Al at hw;have q1:=AW (f:=Ai) (l:=s.1);have q2:=AW (f:=Ai) (l:=s.2.1);rw[AJ (x:=(s.1.length:Int)+_) (by omega) (by omega),AJ (by omega) (by omega)];grind) (fun n=>by
  simp only[FN,J7,AB];rw[AM5 (by omega),show(w.1,w.2.1,())=AY w from rfl,Fp h.cfg (by omega)];grind) w.2.2.1.length Ac 0 (by omega) (Ae (by omega))
 rw[show((0:Nat):Int)=0 from rfl]at key;unfold La P7 ft;rw[show(w.1,w.2.1,())=AY w from rfl,EL h.cfg (by omega),key];grind[decide_eq_true,A9,AY,decide_eq_false]
end
end Go.M
end
section
namespace Go.M
open Go.M.H (AK AQ Av Af AA CR AO Ay AR Ah BR AX AW Aa Ai Al CD EH Cv Bh A4 Ap A_ CP C3)
theorem AAx{x lo hi:Int}(h:lo≤x):BF x lo hi=decide (x≤hi):=by
 grind[BF,decide_eq_true,decide_eq_false]
theorem AGW{x lo hi:Int}(h:x<lo):BF x lo hi=false:=by
 grind[BF,decide_eq_false]
section
variable{w:AA} (h:fW w)
include h
theorem ur:Kw w=some ((an w&&decide (w.2.2.2.2.2.2.1.length≤4),()),()):=by
 have k1:=h.lens;have k2:=h.TH;have key:=GR (L:=fun n i=>Ek n w w.2.2.2.2.2.2.1 w.2.2.2.2.2.2.1.length i) (len:=w.2.2.2.2.2.2.1.length) (p:=fh w) (fin:=decide (w.2.2.2.2.2.2.1.length≤4)) (fun n i hi=>by
  have hm:=Ba (d:=Ag) hi;have hw:=Aa (f:=Ap) hm;unfold Ap at hw;simp only[Ek,Jr,AB,fh,Js,Az];rw[AMp (by omega),AMp (by omega),AJ (x:=(i:Int)+1) (by omega) (by omega),show((i:Int)+1)=((i+1:Nat):Int)by omega,ANN];have hw2:AX A4 (w.2.2.2.2.2.2.1.getD i Ag).2.1≤2^30:=by
   have:=k1.2.2.2.2.1;unfold Ap at this;omega
  rw[show((w.2.2.2.2.2.2.1.getD i (0,[],())).1,(w.2.2.2.2.2.2.1.getD i (0,[],())).2.1,())=w.2.2.2.2.2.2.1.getD i Ag from rfl,show(w.1,w.2.1,())=AY w from rfl,JF h.cfg hw2];simp only[ANY];rcases AMo (EM (AY w) (w.2.2.2.2.2.2.1.getD i Ag))with hs|hs
  rotate_left
  ·simp_all
  have he:=(aR hs).2.1;rw[hs,show BF (w.2.2.2.2.2.2.1.getD i (0,[],())).1 1 (w.2.2.2.2.1.length:Int)=decide ((w.2.2.2.2.2.2.1.getD i Ag).1≤(w.2.2.2.2.1.length:Int))from AAx he.1];simp only[ANX,ANI,ANr];cases decide ((w.2.2.2.2.2.2.1.getD i Ag).1≤(w.2.2.2.2.1.length:Int))with
  |false=>rfl
  |true=>
   simp only[ANX,ANI,ANr];by_cases h0:i=0
   ·simp_all
   ·rw[AMp (by omega),AJ (by omega) (by omega),AMp (by omega)]
    have h1:((i:Int)-1).toNat=i-1:=by omega
    have h2:(i==0)=false:=by simp_all
    rw[h1,h2,AT5];grind) (fun n=>by
  simp only[Ek,Jr,AB];simp_all;omega) w.2.2.2.2.2.2.1.length Ac 0 (by omega) (Ae (by omega))
 rw[show((0:Nat):Int)=0 from rfl]at key;grind[Kw,Oc,an]
theorem AAL:Mk w=some ((iJ w&&decide (w.2.2.2.2.2.2.2.1.length≤1),()),()):=by
 have k1:=h.lens;have k2:=h.TH;have key:=GR (L:=fun n i=>Fl n w w.2.2.2.2.2.2.2.1 w.2.2.2.2.2.2.2.1.length i) (len:=w.2.2.2.2.2.2.2.1.length) (p:=uN w) (fin:=decide (w.2.2.2.2.2.2.2.1.length≤1)) (fun n i hi=>by
  have hm:=Ba (d:=Rc) hi;have hw:=Aa (f:=CD) hm;simp only[Fl,LM,AB,uN];rw[AMp (by omega),AMp (by omega),AJ (x:=(i:Int)+1) (by omega) (by omega),show((i:Int)+1)=((i+1:Nat):Int)by omega,ANN];rw[show((w.2.2.2.2.2.2.2.1.getD i (0,0,[],[],false,[],())).1,(w.2.2.2.2.2.2.2.1.getD i (0,0,[],[],false,[],())).2.1,(w.2.2.2.2.2.2.2.1.getD i (0,0,[],[],false,[],())).2.2.1,(w.2.2.2.2.2.2.2.1.getD i (0,0,[],[],false,[],())).2.2.2.1,(w.2.2.2.2.2.2.2.1.getD i (0,0,[],[],false,[],())).2.2.2.2.1,(w.2.2.2.2.2.2.2.1.getD i (0,0,[],[],false,[],())).2.2.2.2.2.1,())=w.2.2.2.2.2.2.2.1.getD i Rc from rfl,show(w.1,w.2.1,())=AY w from rfl,Hy h.cfg (by omega) (h.CE _ hm)];rw[S7 (by grind)];grind) (fun n=>by
  simp only[Fl,LM,AB];simp_all;omega) w.2.2.2.2.2.2.2.1.length Ac 0 (by omega) (Ae (by omega))
 rw[show((0:Nat):Int)=0 from rfl]at key;grind[Mk,Qc,iJ]
theorem vy:Kb w=some ((fN w,()),()):=by
 have k2:=h.TH;have key:=GR (L:=fun n i=>El n w w.2.2.2.2.2.2.2.2.1 w.2.2.2.2.2.2.2.2.1.length i) (len:=w.2.2.2.2.2.2.2.2.1.length) (p:=fun i=>ae (w.2.2.2.2.2.2.2.2.1.getD i Gn)) (fin:=((w.2.2.2.2.2.2.2.2.1.length:Int)==2)) (fun n i hi=>by
  simp only[El,Jp,AB];rw[AMp (by omega),AMp (by omega),AJ (x:=(i:Int)+1) (by omega) (by omega),show((i:Int)+1)=((i+1:Nat):Int)by omega,ANN];rw[show((w.2.2.2.2.2.2.2.2.1.getD i (0,0,[],())).1,(w.2.2.2.2.2.2.2.2.1.getD i (0,0,[],())).2.1,(w.2.2.2.2.2.2.2.2.1.getD i (0,0,[],())).2.2.1,())=w.2.2.2.2.2.2.2.2.1.getD i Gn from rfl,bC];simp_all) (fun n=>by
  simp only[El,Jp,AB];simp_all) w.2.2.2.2.2.2.2.2.1.length Ac 0 (by omega) (Ae (by omega))
 rw[show((0:Nat):Int)=0 from rfl]at key;unfold Kb Ob fN;grind[Em,decide_eq_false]
theorem ACW:OH w=some ((uW w&&decide (w.2.2.2.2.2.2.2.2.2.1.length≤120),()),()):=by
 have k2:=h.TH;have key:=GR (L:=fun n i=>GQ n w w.2.2.2.2.2.2.2.2.2.1 w.2.2.2.2.2.2.2.2.2.1.length i) (len:=w.2.2.2.2.2.2.2.2.2.1.length) (p:=tp w) (fin:=decide (w.2.2.2.2.2.2.2.2.2.1.length≤120)) (fun n i hi=>by
  have hm:=Ba (d:=NO) hi;have U2:CO (w.2.2.2.2.2.2.2.2.2.1.getD i (0,[],false,())).1:=h.VS _ hm;simp only[GQ,MK,AB,tp,Js,Az,GL];rw[AMp (by omega),AMp (by omega),AJ (x:=(i:Int)+1) (by omega) (by omega),show((i:Int)+1)=((i+1:Nat):Int)by omega,ANN,FB U2];simp only[ANY];have e1:BF (An (w.2.2.2.2.2.2.2.2.2.1.getD i (0,[],false,())).1) 1 (w.2.2.2.2.1.length:Int)=(Bf (w.2.2.2.2.2.2.2.2.2.1.getD i NO).1&&decide (An (w.2.2.2.2.2.2.2.2.2.1.getD i NO).1≤(w.2.2.2.2.1.length:Int))):=by
   show BF (An (w.2.2.2.2.2.2.2.2.2.1.getD i NO).1) 1 (w.2.2.2.2.1.length:Int)=_
   have hr:=ga (x:=(w.2.2.2.2.2.2.2.2.2.1.getD i NO).1);rcases AMo (Bf (w.2.2.2.2.2.2.2.2.2.1.getD i NO).1)with hp|hp
   ·rw[hp,AAx (hr.1 hp).1,ANr]
   ·rw[hp,hr.2 hp,AGW (by omega),AUC]
  rw[e1,show decide ((((w.2.2.2.2.2.2.2.2.2.1.getD i (0,[],false,())).2.1.length:Nat):Int)≤40)=decide ((w.2.2.2.2.2.2.2.2.2.1.getD i NO).2.1.length≤40)from AXk _ 40];cases(Bf (w.2.2.2.2.2.2.2.2.2.1.getD i NO).1&&decide (An (w.2.2.2.2.2.2.2.2.2.1.getD i NO).1≤(w.2.2.2.2.1.length:Int)))with
  |false=>rfl
  |true=>
   cases decide ((w.2.2.2.2.2.2.2.2.2.1.getD i NO).2.1.length≤40)with
   |false=>rfl
   |true=>
    simp only[ANX,ANI,ANr];by_cases h0:i=0
    ·simp_all
    ·rw[AMp (by omega),AJ (by omega) (by omega),AMp (by omega)]
     have h1:((i:Int)-1).toNat=i-1:=by omega
     have h2:(i==0)=false:=by simp_all
     rw[h1,h2,AT5];grind) (fun n=>by
  simp only[GQ,MK,AB];simp_all;omega) w.2.2.2.2.2.2.2.2.2.1.length Ac 0 (by omega) (Ae (by omega))
 rw[show((0:Nat):Int)=0 from rfl]at key;grind[OH,Ru,uW]
theorem NV:ND w=some ((Dg w,()),()):=by
 have k1:=h.lens;unfold ND Dg;rw[show(w.1,w.2.1,w.2.2.1,w.2.2.2.1,w.2.2.2.2.1,w.2.2.2.2.2.1,w.2.2.2.2.2.2.1,w.2.2.2.2.2.2.2.1,w.2.2.2.2.2.2.2.2.1,w.2.2.2.2.2.2.2.2.2.1,w.2.2.2.2.2.2.2.2.2.2.1,())=w from rfl,show(w.1,w.2.1,())=AY w from rfl,show(w.2.2.2.2.1,w.2.2.2.2.2.1,())=CJ w from rfl];rw[MV h.cfg,w8 h,Nq h.cfg (by show AX Bh w.2.2.2.2.1≤_;omega) h.trim,ur h,AAL h,vy h,ACW h];grind
end
end Go.M
end
section
namespace Go.M
open Go.M.H (AK AQ Av Af AA CR AO Ay AR Ah BR AX AW Aa Ai Al CD EH Cv Bh A4 Ap A_ CP C3)
section
variable{w:AA} (h:fW w)
include h
theorem xm:Ur w=some ((GB (AY w)&&(decide (w.2.2.1.length=w.1.length)&&(A9 (AY w) w.2.2.2.1&&((w.2.2.2.2.2.2.2.2.2.2.1|| !holds (AY w) w.2.2.2.1)&&ft w))),()),()):=by
 have k1:=h.lens;have k2:=h.TH;have key:=GR (L:=fun n i=>JT n i w.1 w.2.1 w.2.2.1 w.2.2.2.1 w.2.2.2.2.1 w.2.2.2.2.2.1 w.2.2.2.2.2.2.1 w.2.2.2.2.2.2.2.1 w.2.2.2.2.2.2.2.2.1 w.2.2.2.2.2.2.2.2.2.1 w.2.2.2.2.2.2.2.2.2.2.1) (len:=w.2.2.1.length) (p:=mY w) (fin:=true) (fun n i hi=>by
  have hm:=Ba (d:=Dk) hi;have hw:=Aa (f:=Al) hm;simp only[JT,QH,AB,mY];have hb:(0:Int)≤(i:Int)∧(i:Int)<(w.2.2.1.length:Int):=by omega
  rw[AMp hb.2,AJ (x:=(i:Int)+1) (by omega) (by omega),show((i:Int)+1)=((i+1:Nat):Int)by omega,ANN,KV (by omega)];simp only[AMp hb];rw[show((w.2.2.1.getD i ([],[],0,())).1,(w.2.2.1.getD i ([],[],0,())).2.1,(w.2.2.1.getD i ([],[],0,())).2.2.1,())=w.2.2.1.getD i Dk from rfl,F8 (by omega) (h.Aq _ hm)];simp only[ANY]
  show cond (!B8 (w.2.2.1.getD i Dk)) _ _=_
  cases B8 (w.2.2.1.getD i Dk)with
  |false=>rfl
  |true=>
   cases w.2.2.2.1.contains ((i:Nat):Int)with
   |false=>rfl
   |true=>
    simp only[bl,ANX,ANI,ANk,ANr,AT5];have e1:∀n:Nat,((n:Int)==0)=(n==0):=fun n=>by
     grind
    grind) (fun n=>by
  simp only[JT,QH,AB];simp_all) w.2.2.1.length Ac 0 (by omega) (Ae (by omega))
 rw[show((0:Nat):Int)=0 from rfl]at key;unfold Ur WQ ft;rw[show(w.1,w.2.1,())=AY w from rfl,HX h.cfg,HD h.cfg (by omega),D3 h.cfg (by omega),key];simp only[ANY,AUU];grind[decide_eq_true,GB,AY,A9,holds,decide_eq_false]
theorem vJ:Se w=some ((On (AY w) (CJ w)&&(decide (w.2.2.2.2.2.2.1.length≤4)&&(decide (w.2.2.2.2.2.2.2.1.length≤1)&&(an w&&iJ w))),()),()):=by
 have k1:=h.lens;have k2:=h.TH;have me:∀n,w.2.2.2.2.2.2.2.1.length+1≤n→En n (w.2.2.2.2.1.length:Int) 0 w.1 w.2.1 w.2.2.1 w.2.2.2.1 w.2.2.2.2.1 w.2.2.2.2.2.1 w.2.2.2.2.2.2.1 w.2.2.2.2.2.2.2.1 w.2.2.2.2.2.2.2.2.1 w.2.2.2.2.2.2.2.2.2.1 w.2.2.2.2.2.2.2.2.2.2.1=some ((iJ w,()),()):=fun n hn=>by
  have key:=GR (L:=fun n i=>En n (w.2.2.2.2.1.length:Int) i w.1 w.2.1 w.2.2.1 w.2.2.2.1 w.2.2.2.2.1 w.2.2.2.2.2.1 w.2.2.2.2.2.2.1 w.2.2.2.2.2.2.2.1 w.2.2.2.2.2.2.2.2.1 w.2.2.2.2.2.2.2.2.2.1 w.2.2.2.2.2.2.2.2.2.2.1) (len:=w.2.2.2.2.2.2.2.1.length) (p:=uN w) (fin:=true) (fun n i hi=>by
   have hm:=Ba (d:=Rc) hi;have hw:=Aa (f:=CD) hm;simp only[En,N4,AB,uN];rw[AMp (by omega),AMp (by omega),AJ (x:=(i:Int)+1) (by omega) (by omega),show((i:Int)+1)=((i+1:Nat):Int)by omega,ANN];rw[show((w.2.2.2.2.2.2.2.1.getD i (0,0,[],[],false,[],())).1,(w.2.2.2.2.2.2.2.1.getD i (0,0,[],[],false,[],())).2.1,(w.2.2.2.2.2.2.2.1.getD i (0,0,[],[],false,[],())).2.2.1,(w.2.2.2.2.2.2.2.1.getD i (0,0,[],[],false,[],())).2.2.2.1,(w.2.2.2.2.2.2.2.1.getD i (0,0,[],[],false,[],())).2.2.2.2.1,(w.2.2.2.2.2.2.2.1.getD i (0,0,[],[],false,[],())).2.2.2.2.2.1,())=w.2.2.2.2.2.2.2.1.getD i Rc from rfl,show(w.1,w.2.1,())=AY w from rfl,Jf h.cfg (by omega) (h.CE _ hm)];rw[OM (by grind)];grind) (fun n=>by
   simp only[En,N4,AB];simp_all) w.2.2.2.2.2.2.2.1.length n 0 (by omega) (by omega)
  rw[show((0:Nat):Int)=0 from rfl]at key;rw[key,AUU];rfl
 have key:=mW (L:=fun n i=>Gm n (w.2.2.2.2.1.length:Int) i w.1 w.2.1 w.2.2.1 w.2.2.2.1 w.2.2.2.2.1 w.2.2.2.2.2.1 w.2.2.2.2.2.2.1 w.2.2.2.2.2.2.2.1 w.2.2.2.2.2.2.2.2.1 w.2.2.2.2.2.2.2.2.2.1 w.2.2.2.2.2.2.2.2.2.2.1) (len:=w.2.2.2.2.2.2.1.length) (N:=w.2.2.2.2.2.2.2.1.length+1) (p:=fh w) (fin:=iJ w) (fun n i hi=>by
  have hm:=Ba (d:=Ag) hi;have hw:=Aa (f:=Ap) hm;unfold Ap at hw;simp only[Gm,PQ,AB,fh];have hb:(0:Int)≤(i:Int)∧(i:Int)<(w.2.2.2.2.2.2.1.length:Int):=by omega
  rw[AMp hb.2,AJ (x:=(i:Int)+1) (by omega) (by omega),show((i:Int)+1)=((i+1:Nat):Int)by omega,ANN];simp only[AMp hb];have hw2:AX A4 (w.2.2.2.2.2.2.1.getD i Ag).2.1≤2^30:=by
   have:=k1.2.2.2.2.1;unfold Ap at this;omega
  rw[show((w.2.2.2.2.2.2.1.getD i (0,[],())).1,(w.2.2.2.2.2.2.1.getD i (0,[],())).2.1,())=w.2.2.2.2.2.2.1.getD i Ag from rfl,show(w.1,w.2.1,())=AY w from rfl,GN h.cfg hw2];simp only[ANY];cases EM (AY w) (w.2.2.2.2.2.2.1.getD i Ag)with
  |false=>rfl
  |true=>
   simp only[ANX,ANI,ANr];by_cases hle:(w.2.2.2.2.2.2.1.getD i (0,[],())).1≤(w.2.2.2.2.1.length:Int)
   ·rw[AM5 (by omega),show decide ((w.2.2.2.2.2.2.1.getD i Ag).1≤(w.2.2.2.2.1.length:Int))=true from ATy hle,ANr]
    by_cases h0:i=0
    ·simp_all
    ·rw[AMp (by omega),AJ (by omega) (by omega),AMp (by omega)]
     have h1:((i:Int)-1).toNat=i-1:=by omega
     have h2:(i==0)=false:=by simp_all
     rw[h1,h2,AT5];grind
   grind) (fun n hn=>by
  simp only[Gm,PQ,AB];simp_all) w.2.2.2.2.2.2.1.length Ac 0 (by omega) (Ae (by omega))
 rw[show((0:Nat):Int)=0 from rfl]at key;unfold Se Vs an;rw[show(w.1,w.2.1,())=AY w from rfl,show(w.2.2.2.2.1,w.2.2.2.2.2.1,())=CJ w from rfl,QT h.cfg (by show AX Bh w.2.2.2.2.1≤_;omega) h.trim,key];grind
theorem yc:W7 w=some ((decide (w.2.2.2.2.2.2.2.2.2.1.length≤120)&&uW w,()),()):=by
 have k2:=h.TH;have key:=GR (L:=fun n i=>KO n i w.1 w.2.1 w.2.2.1 w.2.2.2.1 w.2.2.2.2.1 w.2.2.2.2.2.1 w.2.2.2.2.2.2.1 w.2.2.2.2.2.2.2.1 w.2.2.2.2.2.2.2.2.1 w.2.2.2.2.2.2.2.2.2.1 w.2.2.2.2.2.2.2.2.2.2.1) (len:=w.2.2.2.2.2.2.2.2.2.1.length) (p:=tp w) (fin:=true) (fun n i hi=>by
  have hm:=Ba (d:=NO) hi;have U2:CO (w.2.2.2.2.2.2.2.2.2.1.getD i (0,[],false,())).1:=h.VS _ hm;simp only[KO,RF,AB,tp];rw[AMp (by omega),AMp (by omega),AJ (x:=(i:Int)+1) (by omega) (by omega),show((i:Int)+1)=((i+1:Nat):Int)by omega,ANN,Ie U2,EN U2];simp only[ANY]
  show cond (!Bf (w.2.2.2.2.2.2.2.2.2.1.getD i NO).1) _ _=_
  cases Bf (w.2.2.2.2.2.2.2.2.2.1.getD i NO).1 with
  |false=>rfl
  |true=>
   simp only[ANX,ANI,ANr];by_cases hle:An (w.2.2.2.2.2.2.2.2.2.1.getD i (0,[],false,())).1≤(w.2.2.2.2.1.length:Int)
   ·rw[AM5 (by omega),show decide (An (w.2.2.2.2.2.2.2.2.2.1.getD i NO).1≤(w.2.2.2.2.1.length:Int))=true from ATy hle,ANr]
    by_cases h40:(w.2.2.2.2.2.2.2.2.2.1.getD i (0,[],false,())).2.1.length≤40
    ·rw[AM5 (by omega),show decide ((w.2.2.2.2.2.2.2.2.2.1.getD i NO).2.1.length≤40)=true from ATy h40,ANr]
     by_cases h0:i=0
     ·simp_all
     ·rw[AMp (by omega),AJ (by omega) (by omega),AMp (by omega)]
      have h1:((i:Int)-1).toNat=i-1:=by omega
      have h2:(i==0)=false:=by simp_all
      rw[h1,h2,AT5];grind
    grind
   grind) (fun n=>by
  simp only[KO,RF,AB];simp_all) w.2.2.2.2.2.2.2.2.2.1.length Ac 0 (by omega) (Ae (by omega))
 rw[show((0:Nat):Int)=0 from rfl]at key;unfold W7 YM uW;grind
theorem dZ:Sa w=some ((Dg w,()),()):=by
 unfold Sa Dg fN;rw[show(w.1,w.2.1,w.2.2.1,w.2.2.2.1,w.2.2.2.2.1,w.2.2.2.2.2.1,w.2.2.2.2.2.2.1,w.2.2.2.2.2.2.2.1,w.2.2.2.2.2.2.2.2.1,w.2.2.2.2.2.2.2.2.2.1,w.2.2.2.2.2.2.2.2.2.2.1,())=w from rfl];rw[xm h,vJ h,yc h,Pk,Pk];simp only[ANY];by_cases h2:w.2.2.2.2.2.2.2.2.1.length=2
 all_goals grind
end
end Go.M
end
section
namespace Go.M
open Go.M.H (AK AQ Av Af AA CR AO Ay AR Ah BR AX AW Aa Ai Al CD EH Cv Bh A4 Ap A_ CP C3 kV)
theorem fW.of{w:AA}(hv:Go.Fw.Vd kV w)(hw:Cv w≤2^20):fW w where
 weight:=hw
 Aq:=fun s hs=>⟨fun e he=>wf_i64 (((hv.2.2.1.2 s hs).1).2 e he).1,fun e he=>wf_i64 (((hv.2.2.1.2 s hs).2.1).2 e he).1⟩
 trim:=wf_i64 hv.2.2.2.2.2.1
 CE:=fun m hm e he=>wf_i64 (((hv.2.2.2.2.2.2.2.1.2 m hm).2.2.2.1).2 e he).1
 VS:=fun s hs=>wf_i64 (hv.2.2.2.2.2.2.2.2.2.1.2 s hs).1
theorem fW.out{w:AA}(h:fW w){i:Nat}(hi:i<w.2.2.2.2.2.2.2.2.1.length):(w.2.2.2.2.2.2.2.2.1.getD i Gn).2.2.1.length≤2^20:=by
 have k:=h.lens;have h1:=Aa (f:=A_) (Ba (d:=Gn) hi);have h2:=AW (f:=CP) (l:=(w.2.2.2.2.2.2.2.2.1.getD i Gn).2.2.1);have h3:A_ (w.2.2.2.2.2.2.2.2.1.getD i Gn)=AX CP (w.2.2.2.2.2.2.2.2.1.getD i Gn).2.2.1:=rfl;omega
section
variable{w:AA} (h:fW w)
include h
end
end Go.M
end
section
namespace Go.M
open Go.M.H (AK AQ Av Af AA CR AO Ay AR Ah BR AX AW Aa Ai Al CD EH Cv Bh A4 Ap A_ CP C3 kV)
def fnd(p:Int):List Af→List UInt8×Bool
 |[]=>([],false)
 |s::l=>cond (s.1==p) (s.2.1,true) (fnd p l)
section
variable{w:AA} (h:fW w)
include h
end
end Go.M
end
section
namespace Go.M
open Go.M.H (AK AQ Av Af AA CR AO Ay AR Ah BR AX AW Aa Ai Al CD EH Cv Bh A4 Ap A_ CP C3 kV)
def bL(w:AA):Prop:= ∀r∈w.2.2.2.2.2.2.2.2.1,∀e∈r.2.2.1,CO e.2.1
theorem bL.of{w:AA}(hv:Go.Fw.Vd kV w):bL w:=fun r hr e he=>wf_i64 (((hv.2.2.2.2.2.2.2.2.1.2 r hr).2.2.1).2 e he).2.1
section
variable{w:AA} (h:fW w) (hev:bL w)
include h hev
end
end Go.M
end
section
namespace Go.M
open Go.M.H (AK AQ Av Af AA CR AO Ay AR Ah BR A6 BN)
def Ge(e o:Int):Int:=4294967296*e+o
def F_(e o:Int):Int:=if BF e 1 30&&BF o 1 60 then Ge e o else 0
def gw(x:Int):List Int→List Int
 |[]=>[x]
 |y::l=>if x<y then x::y::l else y::gw x l
def N2(x:Int)(l:AAG):AAG:=if l.contains x then l else gw x l
def less(l m:AAG):AAG:=l.filter fun x=> !m.contains x
def Q_(c:Bz)(s l:AAG):Bool:=holds c s&&(A9 c l&&(l.all s.contains&& !holds c (less s l)))
def BU(k:Int):AAG:=if BF k 0 255 then([0,1,2,3,4,5,6,7]:AAG).filter fun i=>(k/2^i.toNat)%2==1 else[]
def better(a b:AK):AK:=if b.2.1>a.2.1 then b else a
def keep(e:AK):List AK→List AK
 |[]=>[e]
 |x::l=>if x.1=e.1 then better x e::l else if x.1>e.1 then e::x::l else x::keep e l
def ED:List AK→List AK→List AK
 |k,[]=>k
 |k,e::l=>ED (keep e k) l
def LW(k:Int):Nat→List AK→List AK
 |_,[]=>[]
 |i,e::l=>if(k/2^i)%2=1 then e::LW k (i+1) l else LW k (i+1) l
def G_(p:Int)(l:List AK):Option AK:=l.find? fun e=>e.1==p
def takes(s:AQ)(e:AK):Bool:=if e.2.1=0 then decide (An e.1>s.2.2.1)else decide (e.2.1>s.2.2.1)
def GM(s:AQ)(e:AK):AQ×Bool:=
 if !B8 s then(Dk,false)else if F7 e&&(takes s e&&decide (s.2.1.length≠20))then((s.1,s.2.1++[e],s.2.2.1,()),true)else(s,false)
def FX(s:AQ)(k:Int):AQ×Bool:=
 if !B8 s then(Dk,false)else
  let q:=ED s.1 (LW k 0 s.2.1)
  if BF k 0 1048575&&decide (q.length≤200)then((q,[],s.2.2.1,()),true)else(s,false)
def Bk(s:AQ):AQ×Bool:=FX s 1048575
def Bu(s:AQ)(upto:Int):AQ×Bool:=
 if !B8 s then(Dk,false)else
  let o:=Bk s
  if o.2&&BF upto 0 30 then((o.1.1,o.1.2.1,max o.1.2.2.1 upto,()),true)else(s,false)
def VZ(s:AQ)(p:Int):Option AK:=if B8 s then G_ p s.1 else none
def G2(s:AQ)(ep:Int):List AK:=if B8 s then s.1.filter fun e=>An e.1==ep else[]
def JS(s:AQ)(upto:Int):AQ×Bool:=
 if !B8 s then(Dk,false)else if Bf upto then((s.1.filter fun e=>decide (e.1>upto),s.2.1,s.2.2.1,()),true)else(s,false)
abbrev lB:AO:=([],0,())
def A5(l:List CR)(e:Int):AAG:=if BF e 1 l.length then(l.getD (e-1).toNat HG).1 else[]
def Iu(c:Bz)(r:AO)(ns:AAG):AO×Int×Bool:=
 if !On c r then(lB,0,false)else if holds c ns&&decide (r.1.length≠30)then((r.1++[(ns,false,0,())],r.2.1,()),(r.1.length:Int)+1,true)else(r,0,false)
def O1(l:List CR)(i:Nat)(last:Int):List CR:=l.set i ((l.getD i HG).1,true,last,())
def NY(c:Bz)(r:AO)(b last:Int):AO×Bool:=
 if !On c r then(lB,false)else
  if decide (b=r.1.length)&&(decide (BK r.1≠0)&&(decide (b≠BK r.1)&&BF last 0 60))then((O1 r.1 (BK r.1-1).toNat last,r.2.1,()),true)else(r,false)
def OT(c:Bz)(r:AO)(p:Int):AO×Bool:=
 if !On c r then(lB,false)else if Bf p&&decide (An p≤r.1.length)then((r.1,max r.2.1 p,()),true)else(r,false)
def Bn(c:Bz)(w:AR)(d:ABp):AR×Int×Bool:=
 if !EM c w then(Ag,0,false)else
  if EM c (w.1,w.2.1++[(d,[],false,())],())then((w.1,w.2.1++[(d,[],false,())],()),(w.2.1.length:Int)+1,true)else(w,0,false)
def Fc(c:Bz)(n:Int)(x:Ay):Ay:=(x.1,N2 n x.2.1,holds c (N2 n x.2.1),())
def Ra(c:Bz)(w:AR)(o n:Int):AR×Bool:=
 if !EM c w then(Ag,false)else
  if BF o 1 w.2.1.length&&(BF n 0 ((c.1.length:Int)-1)&& !(w.2.1.getD (o-1).toNat LR).2.2.1)then((w.1,w.2.1.set (o-1).toNat (Fc c n (w.2.1.getD (o-1).toNat LR)),()),true)else(w,false)
def E4(n:Int)(x:Ay):Ay:=(x.1,if x.2.2.1 then x.2.1 else less x.2.1 [n],x.2.2.1,())
def CF(c:Bz)(w:AR)(n:Int):AR×Bool:=
 if !EM c w then(Ag,false)else((w.1,w.2.1.map (E4 n),()),true)
def bJ:List Ay→Nat
 |[]=>0
 |x::l=>if x.2.2.1 then bJ l+1 else 0
def pC(e b:Int):Av:=(b,e,[],[],false,[],())
def Oz(c:Bz)(m:Av)(n:Int)(l:List AK):Av×Bool:=
 if !Gv c m then(Rc,false)else
  let o:Av:=(m.1,m.2.1,N2 n m.2.2.1,ED m.2.2.2.1 (l.filter fun e=>An e.1==m.2.1),m.2.2.2.2.1,m.2.2.2.2.2.1,())
  if !m.2.2.2.2.1&&Gv c o then(o,true)else(m,false)
def MC(c:Bz)(m:Av)(s:AAG):Av×Bool:=
 if !Gv c m then(Rc,false)else
  if !m.2.2.2.2.1&&Q_ c s (m.2.2.1.filter s.contains)then((m.1,m.2.1,m.2.2.1,m.2.2.2.1,true,List.replicate (O6 m.2.2.2.1).toNat [],()),true)else(m,false)
def ES(m:Av)(o:Int):Option AK:=
 if m.2.2.2.2.1&&(BF m.2.1 1 30&&(BF o 1 60&&decide (o≤m.2.2.2.2.2.1.length)))then
  match G_ (Ge m.2.1 o) m.2.2.2.1 with
  |some x=>some (Ge m.2.1 o,m.1,x.2.2.1,x.2.2.2.1,())
  |none=>some (Ge m.2.1 o,m.1,true,[],())
 else none
def Td(c:Bz)(m:Av)(o n:Int):Av×Bool:=
 if !Gv c m then(Rc,false)else
  if BF o 1 m.2.2.2.2.2.1.length&&BF n 0 ((c.1.length:Int)-1)then((m.1,m.2.1,m.2.2.1,m.2.2.2.1,m.2.2.2.2.1,m.2.2.2.2.2.1.set (o-1).toNat (N2 n (m.2.2.2.2.2.1.getD (o-1).toNat [])),()),true)else(m,false)
def B9(c:Bz)(m:Av)(n:Int):Av×Bool:=
 if !Gv c m then(Rc,false)else((m.1,m.2.1,m.2.2.1,m.2.2.2.1,m.2.2.2.2.1,m.2.2.2.2.2.1.map fun l=>less l [n],()),true)
def UF(c:Bz)(m:Av):Bool:=Gv c m&&(m.2.2.2.2.1&&m.2.2.2.2.2.1.all (holds c))
def XD(a:A6):AK:=(a.2.2.1,a.2.2.2.1,a.2.2.2.2.1,a.2.2.2.2.2.1,())
def I2(s:AAG)(p:Int):Option AK→List A6→Option AK
 |b,[]=>b
 |b,a::l=>if a.2.1&&(s.contains a.1&&(F7 (XD a)&&(XD a).1==p))then
   I2 s p (some (match b with|some x=>better x (XD a)|none=>XD a)) l
  else I2 s p b l
def UT(p:Int):Option AK→BR
 |none=>(3,p,[],())
 |some x=>if x.2.2.1 then(2,p,[],())else(1,p,x.2.2.2.1,())
def Df(c:Bz)(g:AO)(sure:Int)(r:Ah)(l:List A6):Ah×Int:=
 if !(On c g&&(ae r&&A9 c (l.map fun a=>a.1)))then(Gn,1)else
 if decide (r.1>g.1.length)||decide (r.2.2.1.length=120)then(r,2)else
 let era:=g.1.getD (r.1-1).toNat HG
 let p:=Ge r.1 r.2.1
 if g.2.1≥p then((An g.2.1,Cp g.2.1+1,r.2.2.1++[(5,g.2.1,[],())],()),0)else
 if era.2.1&&decide (r.2.1>era.2.2.1)then((r.1+1,1,r.2.2.1++[(4,r.1+1,[],())],()),0)else
 if(!era.2.1&&decide (r.2.1>sure))||decide (r.2.1>60)then(r,2)else
 if !Q_ c era.1 ((l.map fun a=>a.1).filter era.1.contains)then(r,3)else
 ((r.1,r.2.1+1,r.2.2.1++[UT p (I2 era.1 p none l)],()),0)
def Gz:List AK→List AQ→List AK
 |k,[]=>k
 |k,s::l=>Gz (ED k s.1) l
def others(lost:AAG):Nat→List AQ→List AQ
 |_,[]=>[]
 |i,s::l=>if lost.contains (i:Int)then others lost (i+1) l else s::others lost (i+1) l
def al(c:Bz)(ss:List AQ)(lost:AAG)(n upto:Int):AQ×Bool:=
 let s:AQ:=(Gz [] (others lost 0 ss),[],upto,())
 if GB c&&(decide (ss.length=c.1.length)&&(A9 c lost&&(!holds c lost&&(lost.contains n&&((others lost 0 ss).all B8&&B8 s)))))then(s,true)else(Dk,false)
end Go.M
namespace Go.M.H.AA
open Go.M.H (AK AQ Av Af AA CR AO Ay AR Ah BR)
@[reducible] def Aq (w:AA):List AQ:=w.2.2.1
@[reducible] def lost (w:AA):AAG:=w.2.2.2.1
@[reducible] def Ao (w:AA):List CR:=w.2.2.2.2.1
@[reducible] def trim (w:AA):Int:=w.2.2.2.2.2.1
@[reducible] def AG (w:AA):List AR:=w.2.2.2.2.2.2.1
@[reducible] def CE (w:AA):List Av:=w.2.2.2.2.2.2.2.1
@[reducible] def Aj (w:AA):List Ah:=w.2.2.2.2.2.2.2.2.1
@[reducible] def AU (w:AA):List Af:=w.2.2.2.2.2.2.2.2.2.1
@[reducible] def GU (w:AA):Bool:=w.2.2.2.2.2.2.2.2.2.2.1
@[reducible] def Bj (w:AA) (x:List AQ):AA:=(w.1,w.2.1,x,w.2.2.2)
@[reducible] def FO (w:AA) (x:AAG):AA:=(w.1,w.2.1,w.2.2.1,x,w.2.2.2.2)
@[reducible] def Iz (w:AA) (x:AO):AA:=(w.1,w.2.1,w.2.2.1,w.2.2.2.1,x.1,x.2.1,w.2.2.2.2.2.2)
@[reducible] def BZ (w:AA) (x:List AR):AA:=(w.1,w.2.1,w.2.2.1,w.2.2.2.1,w.2.2.2.2.1,w.2.2.2.2.2.1,x,w.2.2.2.2.2.2.2)
@[reducible] def Cd (w:AA) (x:List Av):AA:=(w.1,w.2.1,w.2.2.1,w.2.2.2.1,w.2.2.2.2.1,w.2.2.2.2.2.1,w.2.2.2.2.2.2.1,x,w.2.2.2.2.2.2.2.2)
@[reducible] def DB (w:AA) (x:List Ah):AA:=(w.1,w.2.1,w.2.2.1,w.2.2.2.1,w.2.2.2.2.1,w.2.2.2.2.2.1,w.2.2.2.2.2.2.1,w.2.2.2.2.2.2.2.1,x,w.2.2.2.2.2.2.2.2.2)
@[reducible] def Ax (w:AA) (x:List Af):AA:=(w.1,w.2.1,w.2.2.1,w.2.2.2.1,w.2.2.2.2.1,w.2.2.2.2.2.1,w.2.2.2.2.2.2.1,w.2.2.2.2.2.2.2.1,w.2.2.2.2.2.2.2.2.1,x,w.2.2.2.2.2.2.2.2.2.2)
@[reducible] def Ff (w:AA) (x:Bool):AA:=(w.1,w.2.1,w.2.2.1,w.2.2.2.1,w.2.2.2.2.1,w.2.2.2.2.2.1,w.2.2.2.2.2.2.1,w.2.2.2.2.2.2.2.1,w.2.2.2.2.2.2.2.2.1,w.2.2.2.2.2.2.2.2.2.1,x,())
end Go.M.H.AA
namespace Go.M
open Go.M.H (AK AQ Av Af AA CR AO Ay AR Ah BR A6 BN)
def QB:AA:=([],0,[],[],[],0,[],[],[],[],false,())
def ak(c:Bz):AA:=(c.1,c.2.1,List.replicate c.1.length Dk,[],[],0,[],[],[(1,1,[],()),(1,1,[],())],[],false,())
def fU(k:Int):Bool×Bool×Bool×Bool:=
 if k=8∨k=10∨k=12 then(false,false,false,false)
 else if k=2 then(true,false,false,true)
 else if k=3 then(true,true,true,false)
 else if k=5∨k=14 then(true,true,false,false)
 else if k=11 then(false,true,true,false)
 else(true,false,false,false)
def K9(d:BN):Bool:=
 BF d.1 1 16&&(((fU d.1).1||d.2.1==0)&&(((fU d.1).2.1||d.2.2.1==0)&&(((fU d.1).2.2.1||d.2.2.2.1==0)&&(((fU d.1).2.2.2||d.2.2.2.2.1==[])&&decide (d.2.2.2.2.1.length≤40)))))
abbrev Yq:Type:=AA×Int
def Aw(w:AA)(n:Int):Int:=if !BF n 0 ((w.Aq.length:Int)-1)then 2 else if w.lost.contains n then 3 else 0
def PR(w:AA)(a:Int):Yq:=
 if w.AG.length=4 then(w,4)else
 let q:=Iu (AY w) (CJ w) (BU a)
 if !q.2.2 then(w,4)else(((w.Iz q.1).BZ (w.AG++[(q.2.1,[],())])).Cd [],0)
def V2(s:Af):List Af→List Af
 |[]=>[s]
 |x::l=>if x.1>s.1 then s::x::l else x::V2 s l
def doAdd(w:AA)(a:Int)(d:ABp):Yq:=
 if !BF a 0 ((w.AG.length:Int)-1)then(w,2)else
 let x:=w.AG.getD a.toNat Ag
 let q:=Bn (AY w) x d
 if !q.2.2||(decide (w.AU.length=120)||w.AU.any fun s=>s.1==Ge x.1 q.2.1)then(w,4)else
 ((w.BZ (w.AG.set a.toNat q.1)).Ax (V2 (Ge x.1 q.2.1,d,false,()) w.AU),0)
def putAt(w:AA)(n:Int)(q:AQ×Bool):Yq:=if q.2 then(w.Bj (w.Aq.set n.toNat q.1),0)else(w,4)
def storeAt(w:AA)(n:Int):AQ:=w.Aq.getD n.toNat Dk
def Gt(w:AA)(a b n:Int):Yq:=
 if !BF a 0 ((w.AG.length:Int)-1)then(w,2)else
 let x:=w.AG.getD a.toNat Ag
 if !BF b 1 x.2.1.length then(w,2)else
 if Aw w n≠0 then(w,Aw w n)else
 if !(A5 w.Ao x.1).contains n then(w,2)else
 putAt w n (GM (storeAt w n) (Ge x.1 b,0,false,(x.2.1.getD (b-1).toNat LR).1,()))
def KA(s:AQ)(p:Int):Bool:=match G_ p s.1 with|some e=>e.2.1==0|none=>false
def A8(c:Bz)(s:AQ)(ep n:Int):Int→List Ay→List Ay
 |_,[]=>[]
 |o,x::l=>(if !x.2.2.1&&KA s (Ge ep o)then Fc c n x else x)::A8 c s ep n (o+1) l
def LA(l:List Ay)(o:Int):Bool:=BF o 1 l.length&&(l.getD (o-1).toNat LR).2.2.1
def P_(all:Bool)(ep:Int)(old new:List Ay)(s:Af):Af:=
 (s.1,s.2.1,s.2.2.1||(An s.1==ep&&(LA new (Cp s.1)&&(all|| !LA old (Cp s.1)))),())
def J_(s:AQ)(l:List CR)(n:Int)(x:AR):Bool:=(A5 l x.1).contains n&&decide (s.2.2.1<x.1)
def Ec(all:Bool)(c:Bz)(s:AQ)(l:List CR)(n:Int):List AR→List Af→List AR×List Af
 |[],ss=>([],ss)
 |x::ws,ss=>
  if J_ s l n x then
   let new:=A8 c s x.1 n 1 x.2.1
   let q:=Ec all c s l n ws (ss.map (P_ all x.1 x.2.1 new))
   ((x.1,new,())::q.1,q.2)
  else
   let q:=Ec all c s l n ws ss
   (x::q.1,q.2)
def U5(m:Av)(s:AQ)(o:Int):Bool:=match ES m o with|some e=>G_ e.1 s.1==some e|none=>false
def Fm(m:Av)(s:AQ)(n:Int):Int→List AAG→List AAG
 |_,[]=>[]
 |o,x::l=>(if U5 m s o then N2 n x else x)::Fm m s n (o+1) l
def LP(s:AQ)(l:List CR)(n:Int)(m:Av):Av:=
 if(A5 l m.2.1).contains n then(m.1,m.2.1,m.2.2.1,m.2.2.2.1,m.2.2.2.2.1,Fm m s n 1 m.2.2.2.2.2.1,())else m
def MT(all:Bool)(w:AA)(n:Int):Yq:=
 if Aw w n≠0 then(w,Aw w n)else
 let q:=Bk (storeAt w n)
 if !q.2 then(w,4)else
 let t:=Ec all (AY w) q.1 w.Ao n w.AG w.AU
 ((((w.Bj (w.Aq.set n.toNat q.1)).BZ t.1).Ax t.2).Cd (w.CE.map (LP q.1 w.Ao n)),0)
def Kj(w:AA)(n k:Int):Yq:=if Aw w n≠0 then(w,Aw w n)else putAt w n (FX (storeAt w n) k)
def PA(w:AA)(n:Int):Yq:=
 if Aw w n≠0 then(w,Aw w n)else
 let ls:=N2 n w.lost
 (((((w.Bj (w.Aq.set n.toNat Dk)).FO ls).BZ (w.AG.map fun x=>(CF (AY w) x n).1)).Cd (w.CE.map fun m=>(B9 (AY w) m n).1)).Ff (w.GU||holds (AY w) ls),0)
def O0(w:AA)(n:Int):Yq:=
 if !w.lost.contains n then(w,2)else
 let q:=al (AY w) w.Aq w.lost n (max ((w.Ao.length:Int)-1) 0)
 if !q.2 then(w,4)else((w.Bj (w.Aq.set n.toNat q.1)).FO (less w.lost [n]),0)
def O9(w:AA):Yq:=
 if decide ((w.Ao.length:Int)<2)||decide (BK w.Ao=w.Ao.length)then(w,2)else
 if w.CE.length>0 then(w,4)else(w.Cd [pC (BK w.Ao) w.Ao.length],0)
def PH(w:AA)(n:Int):Yq:=
 match w.CE with
 |[]=>(w,2)
 |m::ms=>
  if Aw w n≠0 then(w,Aw w n)else
  if !(A5 w.Ao m.2.1).contains n then(w,2)else
  let q:=Bu (storeAt w n) (m.1-1)
  let t:=Oz (AY w) m n (G2 q.1 m.2.1)
  if !q.2|| !t.2 then(w,4)else((w.Bj (w.Aq.set n.toNat q.1)).Cd (t.1::ms),0)
def O_(w:AA):Yq:=
 match w.CE with
 |[]=>(w,2)
 |m::ms=>
  let t:=MC (AY w) m (A5 w.Ao m.2.1)
  if !t.2 then(w,4)else(w.Cd (t.1::ms),0)
def VV(w:AA)(b n:Int):Yq:=
 match w.CE with
 |[]=>(w,2)
 |m::ms=>
  match ES m b with
  |none=>(w,2)
  |some e=>
   if Aw w n≠0 then(w,Aw w n)else
   if !(A5 w.Ao m.2.1).contains n then(w,2)else putAt w n (GM (storeAt w n) e)
def KZ(w:AA):Yq:=
 match w.CE with
 |[]=>(w,2)
 |m::ms=>
  if !UF (AY w) m then(w,5)else
  let q:=NY (AY w) (CJ w) m.1 m.2.2.2.2.2.1.length
  if !q.2 then(w,4)else((w.Iz q.1).Cd [],0)
def RL(w:AA)(a:Int):Yq:=
 let q:=OT (AY w) (CJ w) a
 if !q.2 then(w,4)else(w.Iz q.1,0)
def answer(w:AA)(p n:Int):A6:=
 match G_ p (storeAt w n).1 with
 |some e=>(n,true,e.1,e.2.1,e.2.2.1,e.2.2.2.1,())
 |none=>(n,false,0,0,false,[],())
def answers(w:AA)(p:Int)(ns:AAG):List A6:=(ns.filter fun n=>Aw w n==0).map (answer w p)
def eY(w:AA)(e:Int):Int:=match w.AG.find? (fun x=>x.1==e)with|some x=>bJ x.2.1|none=>0
def NF(w:AA)(a k:Int):Yq:=
 if !BF a 0 1 then(w,2)else
 let r:=w.Aj.getD a.toNat Gn
 let q:=Df (AY w) (CJ w) (eY w r.1) r (answers w (Ge r.1 r.2.1) (BU k))
 if q.2≠0 then(w,5)else(w.DB (w.Aj.set a.toNat q.1),0)
def QE(w:AA)(a:Int):Yq:=
 if !BF a 0 ((w.AG.length:Int)-1)then(w,2)else(w.BZ (w.AG.eraseIdx a.toNat),0)
def K0(w:AA)(n:Int):Yq:=if Aw w n≠0 then(w,Aw w n)else putAt w n (JS (storeAt w n) w.trim)
def Nx(all:Bool)(w:AA)(d:BN):Yq:=
 if d.1=1 then PR w d.2.1 else
 if d.1=2 then doAdd w d.2.1 d.2.2.2.2.1 else
 if d.1=3 then Gt w d.2.1 d.2.2.1 d.2.2.2.1 else
 if d.1=4 then MT all w d.2.1 else
 if d.1=5 then Kj w d.2.1 d.2.2.1 else
 if d.1=6 then PA w d.2.1 else
 if d.1=7 then O0 w d.2.1 else
 if d.1=8 then O9 w else
 if d.1=9 then PH w d.2.1 else
 if d.1=10 then O_ w else
 if d.1=11 then VV w d.2.2.1 d.2.2.2.1 else
 if d.1=12 then KZ w else
 if d.1=13 then RL w d.2.1 else
 if d.1=14 then NF w d.2.1 d.2.2.1 else
 if d.1=15 then QE w d.2.1 else K0 w d.2.1
def CT(all:Bool)(w:AA)(d:BN):Yq:=if !Dg w|| !K9 d then(QB,1)else Nx all w d
end Go.M
end
section
namespace Go.M
open Go.M.H (AK AQ Av Af AA CR AO Ay AR Ah BR A6 BN)
theorem Rn{p:Nat→Bool}{n:Nat}:Em p 0 n=true↔ ∀i,i<n→p i=true:=
 ⟨fun h i hi=>TY h i (by omega) (by omega),fun h=>qW fun j _ hj=>h j (by omega)⟩
theorem NU{α:Type}{l:List α}{i:Nat}{d:α}(h:i<l.length):l.getD i d=l[i]:=by simp_all
theorem Sk{α:Type}{l:List α}{d:α}{P:α→Prop}:(∀i,i<l.length→P (l.getD i d))↔ ∀x∈l,P x:=by
 constructor
 ·intro h x hx
  obtain⟨i,hi,rfl⟩:=AT2 hx;simp_all
 simp_all
abbrev Uc{α:Type}(f:α→Int)(l:List α):Prop:=l.Pairwise fun a b=>f a<f b
theorem fj{α:Type}{f:α→Int}{l:List α}{d:α}:(∀i,i<l.length→i=0∨f (l.getD (i-1) d)<f (l.getD i d))↔Uc f l:=by
 constructor
 ·intro h
  unfold Uc;rw[List.pairwise_iff_getElem];have key:∀(k i:Nat),i+k+1<l.length→f (l.getD i d)<f (l.getD (i+k+1) d):=by
   intro k
   induction k with
   |zero=>
    grind
   |succ k ih=>
    grind
  intro i j hi hj hij;have:=key (j-i-1) i (by omega);grind
 grind[List.pairwise_iff_getElem,NU]
theorem Ak{x a b:Int}:BF x a b=true↔a≤x∧x≤b:=by simp[BF]
theorem w5{l:AAG}{hi:Int}:r_ l hi=true↔(∀x∈l,0≤x∧x≤hi)∧Uc id l:=by
 unfold r_;rw[Rn,←Sk (d:=(0:Int)) (P:=fun x=>0≤x∧x≤hi),←fj (d:=(0:Int))];simp only[vI,ANB,Ak,AUE,AUP,ANo,id];grind
theorem DO{c:Bz}{l:AAG}:A9 c l=true↔GB c=true∧(∀x∈l,0≤x∧x<c.1.length)∧Uc id l:=by
 unfold A9;rw[ANB,w5];grind
theorem vg{l:List AK}:Xi l=true↔ ∀e∈l,F7 e=true:=by
 unfold Xi;rw[Rn];exact Sk (P:=fun e=>F7 e=true)
theorem xr{l:List AK}:jd l=true↔Uc (fun e:AK=>e.1) l:=by
 unfold jd;rw[Rn,←fj (d:=Dy)];simp_all
structure cZ (s:AQ):Prop where
 nk:s.1.length≤200
 kept:∀e∈s.1,F7 e=true
 nl:s.2.1.length≤20
 late:∀e∈s.2.1,F7 e=true
 sA:Uc (fun e:AK=>e.1) s.1
 sl:0≤s.2.2.1∧s.2.2.1≤30
theorem DC{s:AQ}:B8 s=true↔cZ s:=by
 unfold B8;simp only[ANB,ANo,vg,xr,Ak];exact⟨fun⟨⟨a,b⟩,⟨c,d⟩,e,f⟩=>⟨a,b,c,d,e,f⟩,fun h=>⟨⟨h.nk,h.kept⟩,⟨h.nl,h.late⟩,h.sA,h.sl⟩⟩
structure EOk (e:AK):Prop where
 pl:Bf e.1=true
 w0:0≤e.2.1∧e.2.1≤30
 w1:0<e.2.1→An e.1<e.2.1
 len:e.2.2.2.1.length≤40
 hole:e.2.2.1=true→0<e.2.1∧e.2.2.2.1=[]
theorem GS{e:AK}:F7 e=true↔EOk e:=by
 unfold F7;simp only[ANB,AUE,AUO,ANo,AUu,Ak,AUP];constructor
 ·rintro⟨a,b,c,d,e⟩
  refine⟨a,b,fun h=>c.resolve_left fun hn=>hn h,d,fun h=>e.resolve_left fun hn=> ?_⟩;simp_all
 ·intro h
  refine⟨h.pl,h.w0,?_,h.len,?_⟩
  ·by_cases hw:0<e.2.1
   ·exact .inr (h.w1 hw)
   omega
  ·cases hh:e.2.2.1 with
   |false=>simp_all
   |true=>exact .inr (h.hole hh)
structure ku (c:Bz) (m:Av):Prop where
 cfg:GB c=true
 ep:1≤m.2.1∧m.2.1≤30
 b:m.2.1+1≤m.1∧m.1≤30
 yd:A9 c m.2.2.1=true
 sA:Uc (fun e:AK=>e.1) m.2.2.2.1
 seen:∀e∈m.2.2.2.1,F7 e=true∧An e.1=m.2.1∧e.2.1<m.1
 wrote:∀l∈m.2.2.2.2.2.1,A9 c l=true
 n:(m.2.2.2.2.2.1.length:Int)=if m.2.2.2.2.1 then O6 m.2.2.2.1 else 0
theorem Gq{c:Bz}{m:Av}:Gv c m=true↔ku c m:=by
 unfold Gv uA rW;simp only[ANB,Ak,xr,Rn,uG,AUP,ANo];rw[Sk (d:=Dy) (P:=fun e=>F7 e=true∧An e.1=m.2.1∧e.2.1<m.1),Sk (d:=([]:AAG)) (P:=fun l=>A9 c l=true)];have:(m.2.2.2.2.2.1.length:Int)=cond m.2.2.2.2.1 (O6 m.2.2.2.1) 0↔(m.2.2.2.2.2.1.length:Int)=if m.2.2.2.2.1 then O6 m.2.2.2.1 else 0:=by
  grind
 rw[this];exact⟨fun⟨a,b,c,d,e,f,g,h⟩=>⟨a,b,c,d,e,f,g,h⟩,fun h=>⟨h.cfg,h.ep,h.b,h.yd,h.sA,h.seen,h.wrote,h.n⟩⟩
structure ROk (c:Bz) (r:AO):Prop where
 cfg:GB c=true
 n:r.1.length≤30
 trim:r.2.1=0∨(Bf r.2.1=true∧An r.2.1≤r.1.length)
 Ao:∀e∈r.1,holds c e.1=true∧(0≤e.2.2.1∧e.2.2.1≤60)∧(e.2.1=false→e.2.2.1=0)
 down:∀i,i<r.1.length→(r.1.getD i HG).2.1=true→i+1<r.1.length∧ ∀j,j<i→(r.1.getD j HG).2.1=true
theorem KC{c:Bz}{r:AO}:On c r=true↔ROk c r:=by
 unfold On ix;simp only[ANB,ANo,AUE,AUP,Rn,uo,qB,Ak,AUO,Bool.and_eq_false_iff,Bool.or_eq_false_iff,AUu,AQk];constructor
 ·rintro⟨a,b,c1,d⟩
  refine⟨a,b,c1,(Sk (d:=HG) (P:=fun e=>holds c e.1=true∧(0≤e.2.2.1∧e.2.2.1≤60)∧(e.2.1=false→e.2.2.1=0))).1 fun i hi=> ?_,fun i hi hc=> ?_⟩
  ·grind
  ·have step:∀k,k<r.1.length→(r.1.getD k HG).2.1=true→k+1<r.1.length∧(0<k→(r.1.getD (k-1) HG).2.1=true):=fun k hk hkc=>by
    rcases(d k hk).2 with h|⟨h1,h2⟩
    ·simp_all
    ·refine⟨by omega,fun h0=> ?_⟩
     simp_all
   refine⟨(step i hi hc).1,?_⟩;clear hi
   induction i with
   |zero=>omega
   |succ i ih=>
    intro j hj;have Dn:i+1<r.1.length:=by
     rcases Nat.lt_or_ge (i+1) r.1.length with h|h
     ·omega
     ·simp[List.getD,h]at hc
      cases hc
    grind
 ·intro h
  refine⟨h.cfg,h.n,h.trim,fun i hi=>⟨?_,?_⟩⟩
  ·obtain⟨h1,h2,h3⟩:=h.Ao _ (Ba (d:=HG) hi)
   grind
  ·cases hb:(r.1.getD i HG).2.1 with
   |false=>simp_all
   |true=>
    obtain⟨h1,h2⟩:=h.down i hi hb;grind
structure cO (c:Bz) (w:AR):Prop where
 cfg:GB c=true
 ep:1≤w.1∧w.1≤30
 n:w.2.1.length≤60
 words:∀x∈w.2.1,x.1.length≤40∧A9 c x.2.1=true∧x.2.2.1=holds c x.2.1
 opn:Rk w.2.1≤6
theorem Ir{c:Bz}{w:AR}:EM c w=true↔cO c w:=by
 unfold EM le6 XB;simp only[ANB,ANo,Ak,AUS,AUP];exact⟨fun⟨a,b,c,d,e⟩=>⟨a,b,c,d,e⟩,fun h=>⟨h.cfg,h.ep,h.n,h.words,h.opn⟩⟩
structure AI6 (r:Ah):Prop where
 ep:1≤r.1∧r.1≤31
 off:1≤r.2.1∧r.2.1≤61
 n:r.2.2.1.length≤120
theorem Xd{r:Ah}:ae r=true↔AI6 r:=by
 unfold ae;simp only[ANB,ANo,Ak];exact⟨fun⟨a,b,c⟩=>⟨a,b,by omega⟩,fun h=>⟨h.ep,h.off,by have:=h.n;omega⟩⟩
structure Me (w:AA):Prop where
 cfg:GB (AY w)=true
 nw:w.Aq.length=w.1.length
 lost:A9 (AY w) w.lost=true
 GU:w.GU=true∨holds (AY w) w.lost=false
 Aq:∀i,i<w.Aq.length→cZ (w.Aq.getD i Dk)∧((i:Int)∈w.lost→w.Aq.getD i Dk=Dk)
 lU:ROk (AY w) (CJ w)
 sU:w.AG.length≤4
 x_:w.CE.length≤1
 AG:∀x∈w.AG,cO (AY w) x∧x.1≤w.Ao.length
 dm:Uc (fun x:AR=>x.1) w.AG
 CE:∀m∈w.CE,ku (AY w) m∧m.1=w.Ao.length∧m.2.1=BK w.Ao
 sv:w.Aj.length=2
 Aj:∀r∈w.Aj,AI6 r
 OS:w.AU.length≤120
 AU:∀s∈w.AU,Bf s.1=true∧An s.1≤w.Ao.length∧s.2.1.length≤40
 XF:Uc (fun s:Af=>s.1) w.AU
theorem GV{w:AA}:Dg w=true↔Me w:=by
 unfold Dg;simp only[ANB,ANo,ft,an,iJ,uW,fN,Rn,mY,fh,uN,tp,AUE,AUO,AUP,DC,KC,Ir,Gq,Xd];have hz:∀s:AQ,(s.1.length=0∧s.2.1.length=0∧s.2.2.1=0)↔s=Dk:=fun s=>by
  grind
 simp only[hz];constructor
 ·rintro⟨h1,h2,h3,h4,h5,h6,h7,h8,h9,h10,⟨h11,h12,h13⟩,h14,h15⟩
  refine⟨h1,h2,h3,h4,fun i hi=>⟨(h5 i hi).1,fun hm=>(h5 i hi).2.resolve_left fun hc=> ?_⟩,h6,h7,h8,?_,?_,?_,h11,?_,h14,?_,?_⟩
  ·simp_all
  ·exact(Sk (d:=Ag) (P:=fun x:AR=>cO (AY w) x∧x.1≤w.Ao.length)).1 fun i hi=>⟨(h9 i hi).1,(h9 i hi).2.1⟩
  ·exact(fj (f:=fun x:AR=>x.1) (d:=Ag)).1 fun i hi=>(h9 i hi).2.2
  ·exact(Sk (d:=Rc) (P:=fun m:Av=>ku (AY w) m∧m.1=w.Ao.length∧m.2.1=BK w.Ao)).1 h10
  ·refine(Sk (d:=Gn) (P:=AI6)).1 fun i hi=> ?_
   rw[h11]at hi;rcases(by omega:i=0∨i=1)with rfl|rfl
   all_goals omega
  ·exact(Sk (d:=NO) (P:=fun s:Af=>Bf s.1=true∧An s.1≤w.Ao.length∧s.2.1.length≤40)).1 fun i hi=>⟨(h15 i hi).1.1,(h15 i hi).1.2,(h15 i hi).2.1⟩
  ·exact(fj (f:=fun s:Af=>s.1) (d:=NO)).1 fun i hi=>(h15 i hi).2.2
 ·intro h
  refine⟨h.cfg,h.nw,h.lost,h.GU,fun i hi=>⟨(h.Aq i hi).1,?_⟩,h.lU,h.sU,h.x_,fun i hi=> ?_,fun i hi=>h.CE _ (Ba hi),⟨h.sv,h.Aj _ (Ba (by rw[h.sv];omega)),h.Aj _ (Ba (by rw[h.sv];omega))⟩,h.OS,fun i hi=> ?_⟩
  ·by_cases hm:(i:Int)∈w.lost
   ·exact .inr ((h.Aq i hi).2 hm)
   simp_all
  ·have:=h.AG _ (Ba (d:=Ag) hi)
   exact⟨this.1,this.2,(fj (f:=fun x:AR=>x.1) (d:=Ag)).2 h.dm i hi⟩
  ·have:=h.AU _ (Ba (d:=NO) hi)
   exact⟨⟨this.1,this.2.1⟩,this.2.2,(fj (f:=fun s:Af=>s.1) (d:=NO)).2 h.XF i hi⟩
end Go.M
end
section
namespace Go.M
open Go.M.H (AK AQ Av Af AA CR AO Ay AR Ah BR A6 BN)
theorem pg{x y:Int}:∀{l:AAG},y∈gw x l↔y=x∨y∈l
 |[]=>by simp[gw]
 |z::l=>by
  simp only[gw];split
  ·simp
  ·simp only[AQQ,pg (l:=l)]
   grind
theorem xo{x:Int}:∀{l:AAG},Uc id l→x∉l→Uc id (gw x l)
 |[],_,_=>by simp[gw,Uc]
 |z::l,h,hx=>by
  simp only[Uc,ARx,id]at h;simp only[AQQ,not_or]at hx;simp only[gw];split
  ·rename_i hz
   simp only[Uc,ARx,AQQ,id];grind
  ·rename_i hz
   simp only[Uc,ARx,id];refine⟨fun a ha=> ?_,xo h.2 hx.2⟩;rcases pg.1 ha with rfl|ha
   all_goals grind
theorem pk{x y:Int}{l:AAG}:y∈N2 x l↔y=x∨y∈l:=by
 unfold N2;split
 ·simp_all
 ·exact pg
theorem AEm{x:Int}{l:AAG}(h:Uc id l):Uc id (N2 x l):=by
 grind[N2,xo]
theorem Ka{c:Bz}{x:Int}{l:AAG}(h:A9 c l=true)(hx:0≤x∧x<c.1.length):A9 c (N2 x l)=true:=by
 rw[DO]at h⊢;refine⟨h.1,fun y hy=> ?_,AEm h.2.2⟩;rcases pk.1 hy with rfl|hy
 all_goals simp_all
theorem Sg{c:Bz}{l:AAG}(p:Int→Bool)(h:A9 c l=true):A9 c (l.filter p)=true:=by
 grind[DO]
theorem rB{x:Int}{l m:AAG}:x∈less l m↔x∈l∧x∉m:=by simp[less]
theorem Ys{c:Bz}(h:GB c=true):A9 c []=true:=DO.2 ⟨h,fun _ h=>by simp at h,List.Pairwise.nil⟩
theorem AGP{l m:AAG}(h:l.Nodup)(hs:∀x∈l,x∈m):l.length≤m.length:=by
 induction l generalizing m with
 |nil=>simp
 |cons a l ih=>
  rw[AYF]at h;have ha:=hs a (by simp);have:=ih (m:=m.erase a) h.2 fun x hx=>(List.mem_erase_of_ne (fun e:x=a=>h.1 (by simp_all))).2 (hs x (by simp[hx]))
  grind
theorem xi{c:AAG}{d:Int}:∀{l acc:AAG},d∈je c l acc↔d∈acc∨ ∃n∈l,c.getD n.toNat 0=d
 |[],acc=>by simp[je]
 |n::l,acc=>by
  simp only[je];rw[xi (l:=l)];grind
theorem rQ{c:AAG}:∀{l acc:AAG},acc.Nodup→(je c l acc).Nodup
 |[],acc,h=>h
 |n::l,acc,h=>by
  simp only[je];refine rQ ?_
  grind
theorem xk{c l m:AAG}(h:∀x∈l,x∈m):bh c l≤bh c m:=by
 refine AGP (rQ List.nodup_nil) fun d hd=> ?_
 grind[xi]
theorem gq{c:Bz}{l m:AAG}(hl:holds c l=true)(hm:A9 c m=true)(h:∀x∈l,x∈m):holds c m=true:=by
 simp only[holds,ANB,ANo]at hl⊢;have:=xk (c:=c.1) h;grind
def AEn(c:Bz)(S:Int→Prop):Prop:= ∃l,holds c l=true∧ ∀n∈l,S n
theorem holds_nil{c:Bz}:holds c []=false:=by
 rw[AUQ];intro h;have hc:=(DO.1 (Vz h)).1;have:=(Db hc).2.2.1;simp only[holds,ANB,ANo,bh,je]at h;grind
theorem tO{a b:AK}(h:a.1=b.1):(better a b).1=b.1:=by grind[better]
theorem dw{e y:AK}:∀{l:List AK},y∈keep e l→y=e∨y∈l
 |[],h=>by simpa[keep]using h
 |x::l,h=>by
  simp only[keep]at h;split at h
  ·rcases AQQ.1 h with rfl|h
   all_goals grind[better]
  ·split at h
   ·simp_all
   ·rcases AQQ.1 h with rfl|h
    ·simp
    ·rcases dw h with h|h<;>simp[h]
theorem ALF{e y:AK}{l:List AK}(h:y∈keep e l):y.1=e.1∨ ∃z∈l,z.1=y.1:=by
 rcases dw h with rfl|h
 all_goals grind
theorem YN{e:AK}:∀{l:List AK},(keep e l).length≤l.length+1∧l.length≤(keep e l).length
 |[]=>by simp[keep]
 |x::l=>by
  have:=YN (e:=e) (l:=l);grind[keep,List.length_cons]
abbrev bu(l:List AK):Prop:=Uc (fun e:AK=>e.1) l
theorem ax{e:AK}:∀{l:List AK},bu l→bu (keep e l)
 |[],_=>by simp[keep,Uc]
 |x::l,h=>by
  have h':=h;simp only[Uc,ARx]at h;simp only[keep];split
  ·rename_i hx
   simp only[bu,Uc,ARx];grind[tO]
  ·split
   ·rename_i hx
    simp only[bu,Uc,ARx,AQQ];grind
   ·rename_i h1 h2
    simp only[bu,Uc,ARx];refine⟨fun a ha=> ?_,ax h.2⟩;grind[ALF]
theorem lP{p:Int}{l:List AK}{e:AK}(h:G_ p l=some e):e∈l∧e.1=p:=by
 grind[G_,List.mem_of_find?_eq_some]
theorem mz{e:AK}:∀{l:List AK},bu l→e∈l→G_ e.1 l=some e
 |x::l,h,he=>by
  simp only[Uc,ARx]at h;unfold G_;rw[AVh];rcases AQQ.1 he with rfl|he
  ·simp
  ·have:=h.1 e he
   have fT:(x.1==e.1)=false:=by grind
   rw[fT];exact mz h.2 he
theorem tE{e:AK}{p:Int}:∀{l:List AK},bu l→G_ p (keep e l)=if p=e.1 then some (match G_ p l with|some x=>better x e|none=>e)else G_ p l
 |[],_=>by
  simp only[keep,G_,AVh,List.find?_nil];grind
 |x::l,h=>by
  have h':=h;simp only[Uc,ARx]at h;have tail:∀q,q≤x.1→q≠x.1→G_ q l=none:=fun q hq fT=>by
   grind[G_,lP]
  have cons:∀(z:AK) (m:List AK),G_ p (z::m)=if z.1=p then some z else G_ p m:=fun z m=>by
   unfold G_;grind
  simp only[keep];split
  ·rename_i hx
   rw[cons,cons,tO hx];grind
  ·split
   ·grind
   ·rename_i h1 h2
    rw[cons,cons,tE h.2];grind
theorem eR{y:AK}:∀{l k:List AK},y∈ED k l→y∈k∨y∈l
 |[],k,h=> .inl h
 |e::l,k,h=>by
  rcases eR (l:=l) h with h|h
  ·rcases dw h with rfl|h
   all_goals simp_all
  simp_all
theorem fC:∀{l k:List AK},bu k→bu (ED k l)
 |[],k,h=>h
 |e::l,k,h=>fC (l:=l) (ax h)
theorem AKh{e:AK}{l:List AK}{p:Int}{x:AK}(h:bu l)(hx:G_ p l=some x):∃y,G_ p (keep e l)=some y∧(y=x∨x.2.1<y.2.1):=by
 rw[tE h];split
 ·rw[hx]
  refine⟨better x e,rfl,?_⟩;unfold better;grind
 simp_all
theorem rD{p:Int}:∀{l k:List AK} {x:AK},bu k→G_ p k=some x→ ∃y,G_ p (ED k l)=some y∧(y=x∨x.2.1<y.2.1)
 |[],k,x,_,hx=>⟨x,hx,.inl rfl⟩
 |e::l,k,x,h,hx=>by
  obtain⟨y,h1,h2⟩:=AKh (e:=e) h hx;obtain⟨z,h3,h4⟩:=rD (l:=l) (ax h) h1;refine⟨z,h3,?_⟩;grind
theorem fI{k:Int}{y:AK}:∀{l:List AK} {i:Nat},y∈LW k i l→y∈l
 |[],_,h=>h
 |e::l,i,h=>by
  simp only[LW]at h;split at h
  ·rcases AQQ.1 h with rfl|h
   ·simp
   ·simp[fI h]
  ·simp[fI h]
end Go.M
end
section
namespace Go.M
open Go.M.H (AK AQ Av Af AA CR AO Ay AR Ah BR A6 BN)
theorem IU{e o:Int}(he:1≤e∧e≤30)(ho:1≤o∧o≤60):Bf (Ge e o)=true∧An (Ge e o)=e∧Cp (Ge e o)=o:=by
 have h1:YV (Ge e o)=e:=by
  grind[YV,Ge,Int.tdiv_eq_ediv_of_nonneg]
 have h2:(Ge e o).tmod 4294967296=o:=by
  grind[Ge,Int.tmod_eq_emod_of_nonneg]
 have h3:Bf (Ge e o)=true:=by
  unfold Bf;rw[h1,h2,ANB,Ak,Ak];omega
 exact⟨h3,by unfold An;simp_all,by unfold Cp;simp_all⟩
theorem EV{p:Int}(h:Bf p=true):(1≤An p∧An p≤30)∧(1≤Cp p∧Cp p≤60)∧Ge (An p) (Cp p)=p:=by
 have h0:=eL h;have h1:=h;unfold Bf at h1;rw[ANB,Ak,Ak]at h1;have e1:An p=YV p:=by unfold An;rw[AMp h]
 grind[Cp,Ge,YV,Int.tdiv_eq_ediv_of_nonneg,Int.tmod_eq_emod_of_nonneg]
theorem cZ.nil:cZ Dk:=⟨by simp,by simp,by simp,by simp,List.Pairwise.nil,by simp⟩
theorem Zg{s:AQ}{e:AK}(h:(GM s e).2=true):cZ (GM s e).1∧(GM s e).1=(s.1,s.2.1++[e],s.2.2.1,())∧F7 e=true∧takes s e=true:=by
 unfold GM at*;split at h
 ·cases h
 rename_i hs;rw[AM5 hs];simp only[AQS,AQk]at hs;rw[DC]at hs;split at h
 case isFalse=>cases h
 rename_i h1;rw[AMp h1];simp only[ANB,ANo]at h1;obtain⟨he,ht,hl⟩:=h1;refine⟨⟨hs.nk,hs.kept,?_,fun x hx=> ?_,hs.sA,hs.sl⟩,rfl,he,ht⟩
 ·have:=hs.nl
  grind
 ·simp only[AOt,AT3]at hx
  rcases hx with hx|rfl
  ·exact hs.late x hx
  omega
theorem K8{s:AQ}{k:Int}(h:(FX s k).2=true):cZ s∧cZ (FX s k).1∧(FX s k).1=(ED s.1 (LW k 0 s.2.1),[],s.2.2.1,()):=by
 unfold FX at*;split at h
 ·cases h
 rename_i hs;rw[AM5 hs];simp only[AQS,AQk]at hs;rw[DC]at hs;simp only at h⊢;split at h
 case isFalse=>cases h
 rename_i h1;rw[AMp h1];simp only[ANB,ANo]at h1;refine⟨hs,⟨h1.2,fun e he=> ?_,by simp,by simp,fC hs.sA,hs.sl⟩,rfl⟩;rcases eR he with he|he
 ·exact hs.kept e he
 ·exact hs.late e (fI he)
theorem kW{s:AQ}{u:Int}(h:(Bu s u).2=true):cZ s∧cZ (Bu s u).1∧(Bu s u).1=(ED s.1 (LW 1048575 0 s.2.1),[],max s.2.2.1 u,())∧0≤u∧u≤30:=by
 unfold Bu at*;split at h
 ·cases h
 rename_i hs;rw[AM5 hs];simp only[AQS,AQk]at hs;simp only at h⊢;split at h
 case isFalse=>cases h
 rename_i h1;rw[AMp h1];simp only[ANB,Ak]at h1;obtain⟨k1,k2,k3⟩:=K8 h1.1;have jH:(Bk s).1=_:=k3;rw[jH];refine⟨k1,⟨?_,?_,by simp,by simp,fC k1.sA,?_⟩,rfl,h1.2⟩
 ·have:=k2.nk;simp_all
 ·have:=k2.kept;simp_all
 ·have:=k1.sl
  grind
theorem vU{s:AQ}{u:Int}(h:(JS s u).2=true):cZ s∧cZ (JS s u).1∧(JS s u).1=(s.1.filter fun e=>decide (e.1>u),s.2.1,s.2.2.1,()):=by
 unfold JS at*;split at h
 ·cases h
 rename_i hs;rw[AM5 hs];simp only[AQS,AQk]at hs;rw[DC]at hs;split at h
 case isFalse=>cases h
 rename_i h1;rw[AMp h1];refine⟨hs,⟨ASX (ARp _ _) hs.nk,fun e he=>hs.kept e (AUN.1 he).1,hs.nl,hs.late,hs.sA.filter _,hs.sl⟩,rfl⟩
theorem AEs{c:Bz}{ss:List AQ}{lost:AAG}{n u:Int}(h:(al c ss lost n u).2=true):
  cZ (al c ss lost n u).1∧(al c ss lost n u).1=(Gz [] (others lost 0 ss),[],u,())∧holds c lost=false∧ ∀s∈others lost 0 ss,cZ s:=by
 unfold al at*;simp only at h⊢;split at h
 case isFalse=>cases h
 rename_i h1;rw[AMp h1];simp only[ANB,ANo,AUO,AUS]at h1;obtain⟨_,_,_,h2,_,h3,h4⟩:=h1;exact⟨DC.1 h4,rfl,h2,fun s hs=>DC.1 (h3 s hs)⟩
theorem dt{l:List CR}:∀{d i:Nat},i+d=l.length→(Yi l i d=0∧ ∀j,i≤j→j<l.length→(l.getD j HG).2.1=true)∨
  ∃k,i≤k∧k<l.length∧Yi l i d=(k:Int)+1∧(l.getD k HG).2.1=false∧ ∀j,i≤j→j<k→(l.getD j HG).2.1=true
 |0,i,h=> .inl ⟨rfl,fun j h1 h2=>by omega⟩
 |d+1,i,h=>by
  simp only[Yi];cases hb:(l.getD i ([],false,0,())).2.1 with
  |false=>grind
  |true=>
   simp only[ANX,ANI];rcases dt (l:=l) (d:=d) (i:=i+1) (by omega)with⟨h1,h2⟩|⟨k,h1,h2,h3,h4,h5⟩
   all_goals grind
theorem TL{c:Bz}{r:AO}(h:ROk c r)(hl:0<r.1.length):∃k,k<r.1.length∧BK r.1=(k:Int)+1∧(r.1.getD k HG).2.1=false∧ ∀j,j<k→(r.1.getD j HG).2.1=true:=by
 rcases dt (l:=r.1) (d:=r.1.length) (i:=0) (by omega)with⟨h1,h2⟩|⟨k,h1,h2,h3,h4,h5⟩
 ·have:=(h.down (r.1.length-1) (by omega) (h2 _ (by omega) (by omega))).1
  omega
 ·exact⟨k,h2,h3,h4,fun j hj=>h5 j (by omega) hj⟩
theorem rX{c:Bz}{r:AO}{ns:AAG}(h:(Iu c r ns).2.2=true):ROk c r∧ROk c (Iu c r ns).1∧(Iu c r ns).1=(r.1++[(ns,false,0,())],r.2.1,())∧(Iu c r ns).2.1=(r.1.length:Int)+1∧holds c ns=true∧r.1.length<30:=by
 unfold Iu at*;split at h
 ·cases h
 rename_i hs;rw[AM5 hs];simp only[AQS,AQk]at hs;rw[KC]at hs;split at h
 case isFalse=>cases h
 rename_i h1;rw[AMp h1];simp only[ANB,ANo]at h1;have hn:=hs.n;refine⟨hs,⟨hs.cfg,?_,?_,fun e he=> ?_,fun i hi hc=> ?_⟩,rfl,rfl,h1.1,by omega⟩
 ·grind
 ·rcases hs.trim with h2|⟨h2,h3⟩
  all_goals grind
 ·simp only[AOt,AT3]at he
  rcases he with he|rfl
  ·exact hs.Ao e he
  simp_all
 ·simp only[AQU,AOw,ARW]at hi
  have get:∀j,j<r.1.length→(r.1++[(ns,false,0,())]).getD j HG=r.1.getD j HG:=fun j hj=>by
   grind
  by_cases hl:i<r.1.length
  ·rw[get i hl]at hc
   obtain⟨h2,h3⟩:=hs.down i hl hc;grind
  simp_all
theorem cf{l:List CR}{i j:Nat}{last:Int}(hi:i<l.length):(O1 l i last).getD j HG=if i=j then((l.getD i HG).1,true,last,())else l.getD j HG:=by
 grind[O1]
theorem nY{c:Bz}{r:AO}{b last:Int}(h:(NY c r b last).2=true):ROk c r∧ROk c (NY c r b last).1∧
  ∃k,k<r.1.length∧BK r.1=(k:Int)+1∧k+1<r.1.length∧b=r.1.length∧(0≤last∧last≤60)∧(NY c r b last).1=(O1 r.1 k last,r.2.1,())∧(r.1.getD k HG).2.1=false∧ ∀j,j<k→(r.1.getD j HG).2.1=true:=by
 unfold NY at*;split at h
 ·cases h
 rename_i hs;rw[AM5 hs];simp only[AQS,AQk]at hs;rw[KC]at hs;split at h
 case isFalse=>cases h
 rename_i h1;rw[AMp h1];simp only[ANB,ANo,Ak]at h1;obtain⟨hb,h0,fT,hlast⟩:=h1;have hl:0<r.1.length:=by
  rcases AYQ r.1.length with hz|hz
  ·exfalso
   apply h0;unfold BK;rw[hz];rfl
  omega
 obtain⟨k,k1,k2,k3,k4⟩:=TL hs hl;have hk:(BK r.1-1).toNat=k:=by omega
 rw[hk];have hlen:(O1 r.1 k last).length=r.1.length:=by simp[O1]
 refine⟨hs,⟨hs.cfg,by rw[hlen];exact hs.n,?_,fun e he=> ?_,fun i hi hc=> ?_⟩,k,k1,k2,by omega,hb,hlast,rfl,k3,k4⟩
 ·simp only[hlen];exact hs.trim
 ·unfold O1 at he
  rcases AT7 he with he|rfl
  ·exact hs.Ao e he
  ·exact⟨(hs.Ao _ (Ba k1)).1,hlast,fun hf=>by cases hf⟩
 ·simp only[hlen]at hi⊢
  rw[cf k1]at hc;by_cases hik:k=i
  ·subst hik
   refine⟨by omega,fun j hj=> ?_⟩;rw[cf k1,AM5 (by omega)];simp_all
  ·rw[AM5 hik]at hc
   obtain⟨h2,h3⟩:=hs.down i hi hc;grind[cf]
theorem p8{c:Bz}{r:AO}{p:Int}(h:(OT c r p).2=true):ROk c r∧ROk c (OT c r p).1∧(OT c r p).1=(r.1,max r.2.1 p,()):=by
 unfold OT at*;split at h
 ·cases h
 rename_i hs;rw[AM5 hs];simp only[AQS,AQk]at hs;rw[KC]at hs;split at h
 case isFalse=>cases h
 rename_i h1;rw[AMp h1];simp only[ANB,ANo]at h1;refine⟨hs,⟨hs.cfg,hs.n,?_,hs.Ao,hs.down⟩,rfl⟩;simp only;have hp:=(eL h1.1).1;by_cases hm:r.2.1≤p
 ·grind
 ·rw[show max r.2.1 p=r.2.1 by omega]
  exact hs.trim
theorem W_{c:Bz}{w:AR}{d:ABp}(h:(Bn c w d).2.2=true):cO c w∧cO c (Bn c w d).1∧(Bn c w d).1=(w.1,w.2.1++[(d,[],false,())],())∧(Bn c w d).2.1=(w.2.1.length:Int)+1:=by
 unfold Bn at*;split at h
 ·cases h
 rename_i hs;rw[AM5 hs];simp only[AQS,AQk]at hs;rw[Ir]at hs;split at h
 case isFalse=>cases h
 rename_i h1;rw[AMp h1];exact⟨hs,Ir.1 h1,rfl,rfl⟩
theorem XT{c:Bz}{s:AQ}{ep n:Int}(hn:0≤n∧n<c.1.length):∀{l:List Ay} {o:Int},(∀x∈l,x.1.length≤40∧A9 c x.2.1=true∧x.2.2.1=holds c x.2.1)→
  (∀x∈A8 c s ep n o l,x.1.length≤40∧A9 c x.2.1=true∧x.2.2.1=holds c x.2.1)∧Rk (A8 c s ep n o l)≤Rk l∧(A8 c s ep n o l).length=l.length
 |[],o,h=>by simp[A8]
 |x::l,o,h=>by
  obtain⟨h1,h2,h3⟩:=XT (s:=s) (ep:=ep) hn (l:=l) (o:=o+1) fun y hy=>h y (by simp[hy])
  have hx:=h x (by simp);simp only[A8,AQQ,AOw,Rk];split
  ·rename_i hd
   simp only[ANB,AUO]at hd;refine⟨?_,?_,by omega⟩
   ·rintro y (rfl|hy)
    ·exact⟨hx.1,Ka hx.2.1 hn,rfl⟩
    grind
   grind
  grind
theorem tF{c:Bz}{n:Int}:∀{l:List Ay},(∀x∈l,x.1.length≤40∧A9 c x.2.1=true∧x.2.2.1=holds c x.2.1)→
  (∀x∈l.map (E4 n),x.1.length≤40∧A9 c x.2.1=true∧x.2.2.1=holds c x.2.1)∧Rk (l.map (E4 n))=Rk l
 |[],h=>by simp
 |x::l,h=>by
  obtain⟨h1,h2⟩:=tF (n:=n) (l:=l) fun y hy=>h y (by simp[hy])
  have hx:=h x (by simp);simp only[AVt,AQQ,Rk,h2,E4,AUD]
  rintro y (rfl|hy)
  ·refine⟨hx.1,?_,?_⟩
   ·simp only
    split
    ·simp_all
    ·exact Sg _ hx.2.1
   ·simp only
    split
    ·simp_all
    ·rename_i hd
     simp only[AQS]at hd;rw[hd]
     symm
     rw[AUQ];grind[gq,rB]
  grind
theorem dO{c:Bz}{w:AR}{n:Int}(h:cO c w):cO c (CF c w n).1∧(CF c w n).1=(w.1,w.2.1.map (E4 n),()):=by
 unfold CF;rw[Ir.2 h];obtain⟨h1,h2⟩:=tF (n:=n) h.words;exact⟨⟨h.cfg,h.ep,by simpa using h.n,h1,by simp only[ANX];exact h2▸h.opn⟩,rfl⟩
theorem Ho{l:List AK}:0≤O6 l∧O6 l≤60:=by
 unfold O6;cases l.length==0 with
 |true=>simp
 |false=>
  simp only[ANI];rcases AMo (Bf (l.getD (l.length-1) Dy).1)with h|h
  ·have:=(EV h).2.1;omega
  grind[Cp]
theorem nL{c:Bz}{m:Av}{n:Int}{l:List AK}(h:(Oz c m n l).2=true):ku c m∧ku c (Oz c m n l).1∧m.2.2.2.2.1=false∧
  (Oz c m n l).1=(m.1,m.2.1,N2 n m.2.2.1,ED m.2.2.2.1 (l.filter fun e=>An e.1==m.2.1),m.2.2.2.2.1,m.2.2.2.2.2.1,()):=by
 unfold Oz at*;split at h
 ·cases h
 rename_i hs;rw[AM5 hs];simp only[AQS,AQk]at hs;rw[Gq]at hs;simp only at h⊢;split at h
 case isFalse=>cases h
 rename_i h1;rw[AMp h1];simp only[ANB,AUO]at h1;exact⟨hs,Gq.1 h1.2,h1.1,rfl⟩
theorem nt{c:Bz}{m:Av}{s:AAG}(h:(MC c m s).2=true):ku c m∧ku c (MC c m s).1∧m.2.2.2.2.1=false∧Q_ c s (m.2.2.1.filter s.contains)=true∧
  (MC c m s).1=(m.1,m.2.1,m.2.2.1,m.2.2.2.1,true,List.replicate (O6 m.2.2.2.1).toNat [],()):=by
 unfold MC at*;split at h
 ·cases h
 rename_i hs;rw[AM5 hs];simp only[AQS,AQk]at hs;rw[Gq]at hs;split at h
 case isFalse=>cases h
 rename_i h1;rw[AMp h1];simp only[ANB,AUO]at h1;refine⟨hs,⟨hs.cfg,hs.ep,hs.b,hs.yd,hs.sA,hs.seen,fun l hl=> ?_,?_⟩,h1.1,h1.2,rfl⟩
 ·simp only at hl
  rw[AUj hl];exact Ys hs.cfg
 ·simp only[AUf,AT8]
  have:=(Ho (l:=m.2.2.2.1)).1;omega
theorem jT{c:Bz}{m:Av}{s:AQ}{n:Int}(hn:0≤n∧n<c.1.length):∀{l:List AAG} {o:Int},(∀x∈l,A9 c x=true)→
  (∀x∈Fm m s n o l,A9 c x=true)∧(Fm m s n o l).length=l.length
 |[],o,h=>by simp[Fm]
 |x::l,o,h=>by
  obtain⟨h1,h2⟩:=jT (m:=m) (s:=s) hn (l:=l) (o:=o+1) fun y hy=>h y (by simp[hy])
  have hx:=h x (by simp);simp only[Fm,AQQ,AOw,h2,AUD]
  rintro y (rfl|hy)
  all_goals grind[Ka]
theorem AFM{c:Bz}{s:AQ}{l:List CR}{n:Int}{m:Av}(hn:0≤n∧n<c.1.length)(h:ku c m):ku c (LP s l n m):=by
 unfold LP;split
 ·obtain⟨h1,h2⟩:=jT (m:=m) (s:=s) hn (o:=1) h.wrote
  exact⟨h.cfg,h.ep,h.b,h.yd,h.sA,h.seen,h1,by simp only[h2];exact h.n⟩
 omega
theorem sb{c:Bz}{m:Av}{n:Int}(h:ku c m):ku c (B9 c m n).1∧(B9 c m n).1=(m.1,m.2.1,m.2.2.1,m.2.2.2.1,m.2.2.2.2.1,m.2.2.2.2.2.1.map fun l=>less l [n],()):=by
 unfold B9;rw[Gq.2 h];refine⟨⟨h.cfg,h.ep,h.b,h.yd,h.sA,h.seen,fun l hl=> ?_,?_⟩,rfl⟩
 ·simp only[ANX,ANZ,AQ7,AUR]at hl
  obtain⟨l',h1,rfl⟩:=hl;exact Sg _ (h.wrote l' h1)
 ·simp only[ANX,ANZ,AQ7,AWH]
  exact h.n
theorem tC{c:Bz}{g:AO}{sure:Int}{r:Ah}{l:List A6}(h:(Df c g sure r l).2=0):AI6 (Df c g sure r l).1:=by
 unfold Df at*;split at h
 ·omega
 rename_i hs;rw[AM5 hs];simp only[AQS,AQk,ANB,KC,Xd]at hs;obtain⟨hg,hr,_⟩:=hs;have r1:=hr.ep;have r2:=hr.off;have r3:=hr.n;split at h
 ·omega
 rename_i h1;rw[AM5 h1];simp only[AUE,ANo,not_or]at h1;have hn:=hg.n;simp only at h⊢;split at h
 ·rename_i h2
  rw[AMp h2];have hp:Bf g.2.1=true:=by
   rcases hg.trim with ht|ht
   all_goals grind[Ge]
  obtain⟨a1,a2,_⟩:=EV hp;exact⟨by grind,by grind,by grind⟩
 ·rename_i h2
  rw[AM5 h2];split at h
  ·rename_i h3
   rw[AMp h3];exact⟨by grind,by simp_all,by simp_all;omega⟩
  ·rename_i h3
   rw[AM5 h3];split at h
   ·omega
   rename_i h4;rw[AM5 h4];simp only[AUE,ANo,not_or]at h4;split at h
   ·omega
   rename_i h5;rw[AM5 h5];exact⟨by omega,by grind,by simp_all;omega⟩
end Go.M
end
section
namespace Go.M
open Go.M.H (AK AQ Av Af AA CR AO Ay AR Ah BR A6 BN)
theorem AD{α β:Type}(a:α)(f:α→Option β):(some a).bind f=f a:=rfl
theorem V5{l:AAG}{x:Int}(hl:l.length≤2^30):∀(n i:Nat) (b:AAG),i≤l.length→l.length-i<n→b.length≤2*i+1→
  Hk n l x true i b=some (((),()),(b++l.drop i,()))
 |0,i,b,_,h,_=>by omega
 |n+1,i,b,hi,h,hb=>by
  simp only[Hk,PY,AB,ANX,ANI];by_cases hc:i<l.length
  ·have c1:(0:Int)≤(i:Int)∧(i:Int)<(l.length:Int):=by omega
   have c2:b.length+1≤DE:=by rw[Au];omega
   rw[AMp c1.2,AMp c1,AMp c2,AJ (by omega) (by omega),show((i:Int)+1)=((i+1:Nat):Int)by omega,Am hc,drop_cons hc,V5 hl n (i+1) _ (by omega) (by omega) (by grind)];simp
  grind
theorem ah{l:AAG}{x:Int}(hl:l.length≤2^30):∀(n i:Nat) (b:AAG),i≤l.length→l.length-i<n→b.length≤i→
  Hk n l x false i b=some (((),()),(b++gw x (l.drop i),()))
 |0,i,b,_,h,_=>by omega
 |n+1,i,b,hi,h,hb=>by
  simp only[Hk,PY,AB,ATb,ANk];have c2:b.length+1≤DE:=by rw[Au];omega
  by_cases hc:i<l.length
  ·have c1:(0:Int)≤(i:Int)∧(i:Int)<(l.length:Int):=by omega
   have c3:(b++[x]).length+1≤DE:=by grind[Au]
   rw[AMp c1.2];simp only[AMp c1,AMp c2,AMp c3];rw[AJ (by omega) (by omega),show((i:Int)+1)=((i+1:Nat):Int)by omega,Am hc,drop_cons hc];simp only[gw];by_cases hx:l[i]>x
   ·rw[AMp hx,AMp (by omega),V5 hl n (i+1) _ (by omega) (by omega) (by grind)]
    simp
   ·rw[AM5 hx,AM5 (by omega),ah hl n (i+1) _ (by omega) (by omega) (by simp_all)]
    simp
  ·rw[AM5 (by omega),AMp c2,ANl (by omega)]
   rfl
theorem K_{l:AAG}{x:Int}(hl:l.length≤2^30):Ib l x=some (((),()),(N2 x l,())):=by
 unfold Ib Ul N2;rw[KV (by omega)];simp only[AD];rcases AMo (l.contains x)with h|h
 ·rw[h,AMp rfl]
  grind[V5,Ac,Ae]
 ·rw[h,AM5 (by simp)]
  grind[ah,Ac,Ae]
theorem aJ{l m:AAG}(hl:l.length≤2^30)(hm:m.length≤2^30):∀(n i:Nat) (b:AAG),i≤l.length→l.length-i<n→b.length≤i→
  Om n l m i b=some (((),()),(b++less (l.drop i) m,()))
 |0,i,b,_,h,_=>by omega
 |n+1,i,b,hi,h,hb=>by
  simp only[Om,ZH,AB];have c2:b.length+1≤DE:=by rw[Au];omega
  by_cases hc:i<l.length
  ·have c1:(0:Int)≤(i:Int)∧(i:Int)<(l.length:Int):=by omega
   rw[AMp c1.2];simp only[AMp c1,AMp c2];rw[AJ (by omega) (by omega),show((i:Int)+1)=((i+1:Nat):Int)by omega,Am hc,drop_cons hc,KV (by omega)];simp only[AD,less,AUA];cases hx:m.contains l[i]with
   |true=>
    simp only[ANX,ANI,ANZ,AQ7];exact aJ hl hm n (i+1) _ (by omega) (by omega) (by omega)
   |false=>
    simp only[ATb,ANk,AT8];rw[aJ hl hm n (i+1) _ (by omega) (by omega) (by simp_all)];simp[less]
  ·rw[AM5 (by omega),ANl (by omega)]
   simp[less]
theorem Hr{l m:AAG}(hl:l.length≤2^30)(hm:m.length≤2^30):H7 l m=some (((),()),(less l m,())):=by
 grind[H7,ZP,aJ,Ac,Ae]
theorem FD{e o:Int}(he: -1000≤e∧e≤1000)(ho: -1000≤o∧o≤1000):CN e o=some ((Ge e o,()),()):=by
 grind[CN,Ge,AJ]
theorem j0{e o:Int}:TU e o=some (((F_ e o,BF e 1 30&&BF o 1 60,()),()),()):=by
 unfold TU F_;rw[BV,BV];simp only[AD];rcases AMo (BF e 1 30)with he|he
 ·rcases AMo (BF o 1 60)with ho|ho
  ·have h1:=Ak.1 he
   have h2:=Ak.1 ho;rw[he,ho,AJ (x:=4294967296*e) (by omega) (by omega),AJ (by omega) (by omega)];rfl
  simp_all
 simp_all
theorem I_{a b:Int}:FY a b=some ((max a b,()),()):=by
 unfold FY;grind
theorem Z_{a b:Int}:Uh a b=some ((min a b,()),()):=by
 unfold Uh;grind
def jI(q:AQ×Bool):ADj×(List AK×List AK×Unit):=(((((),(),q.1.2.2.1,()),q.2,()),()),(q.1.1,q.1.2.1,()))
theorem PJ{s:AQ}(h1:s.1.length≤2^30)(h2:s.2.1.length≤2^30):Es s=some ((((),(),s.2.2.1,()),()),(s.1,s.2.1,())):=by
 unfold Es;rw[AMp (by rw[Au];omega),AMp (by rw[Au];omega)]
theorem oE{s:AQ}{e:AK}(he:CO e.1):W0 s e=some ((takes s e,()),()):=by
 unfold W0 takes;rw[EN he];grind
theorem Yg{a b:AK}:SA a b=some ((better a b,()),()):=by
 unfold SA better;grind
theorem GG{s:AQ}(h:H.Al s≤2^30):s.1.length≤2^30∧s.2.1.length≤2^30:=by
 grind[H.AW,H.Ai,H.Al]
theorem UH{s:AQ}{e:AK}(hw:H.Al s≤2^30)(hs:kH s)(he:CO e.1):Nl s e=some (jI (GM s e)):=by
 obtain⟨l1,l2⟩:=GG hw;unfold Nl GM;rw[show(s.1,s.2.1,s.2.2.1,())=s from rfl,show(e.1,e.2.1,e.2.2.1,e.2.2.2.1,())=e from rfl,F8 hw hs,PJ l1 l2,Qt he,oE he];simp only[AD];rcases AMo (B8 s)with h|h
 rotate_left
 ·rw[h];rfl
 rw[h];simp only[ANX,ANI,ANZ,AQ7];cases F7 e with
 |false=>rfl
 |true=>
  cases takes s e with
  |false=>rfl
  |true=>
   simp only[ANX,ANI,ANr];by_cases h20:s.2.1.length=20
   ·rw[show((s.2.1.length:Int)==20)=true by simp[h20],show decide (s.2.1.length≠20)=false by simp[h20]]
    rfl
   ·rw[show((s.2.1.length:Int)==20)=false by grind,show decide (s.2.1.length≠20)=true by simp[h20],ANI,AMp (by rw[Au];omega)]
    rfl
theorem UY{l:List AK}{e:AK}(hl:l.length≤2^30):∀(n i:Nat) (b:List AK),i≤l.length→l.length-i<n→b.length≤2*i+1→
  Jm n l true i e.1 e.2.1 e.2.2.1 e.2.2.2.1 b=some (((),()),(b++l.drop i,()))
 |0,i,b,_,h,_=>by omega
 |n+1,i,b,hi,h,hb=>by
  simp only[Jm,TM,AB,ANX,ANI];by_cases hc:i<l.length
  ·have c1:(0:Int)≤(i:Int)∧(i:Int)<(l.length:Int):=by omega
   have c2:b.length+1≤DE:=by rw[Au];omega
   rw[AMp c1.2,AMp c1,AMp c2,AJ (by omega) (by omega),show((i:Int)+1)=((i+1:Nat):Int)by omega,Am hc,drop_cons hc,UY hl n (i+1) _ (by omega) (by omega) (by grind),AOj];rfl
  grind
theorem ZB{l:List AK}{e:AK}(hl:l.length≤2^30):∀(n i:Nat) (b:List AK),i≤l.length→l.length-i<n→b.length≤i→
  Jm n l false i e.1 e.2.1 e.2.2.1 e.2.2.2.1 b=some (((),()),(b++keep e (l.drop i),()))
 |0,i,b,_,h,_=>by omega
 |n+1,i,b,hi,h,hb=>by
  simp only[Jm,TM,AB,ATb,ANk];have c2:b.length+1≤DE:=by rw[Au];omega
  by_cases hc:i<l.length
  ·have c1:(0:Int)≤(i:Int)∧(i:Int)<(l.length:Int):=by omega
   have c3:(b++[(e.1,e.2.1,e.2.2.1,e.2.2.2.1,())]).length+1≤DE:=by grind[Au]
   rw[AMp c1.2];simp only[AMp c1,AMp c2,AMp c3];rw[AJ (by omega) (by omega),show((i:Int)+1)=((i+1:Nat):Int)by omega,Am hc,drop_cons hc];rw[show(l[i].1,l[i].2.1,l[i].2.2.1,l[i].2.2.2.1,())=l[i]from rfl,show(e.1,e.2.1,e.2.2.1,e.2.2.2.1,())=e from rfl,Yg];simp only[AD,keep];by_cases hx:l[i].1=e.1
   ·rw[show(l[i].1==e.1)=true by simp_all,AMp hx,ANk,show((better l[i] e).1,(better l[i] e).2.1,(better l[i] e).2.2.1,(better l[i] e).2.2.2.1,())=better l[i] e from rfl,UY hl n (i+1) _ (by omega) (by omega) (by grind)]
    simp
   ·rw[show(l[i].1==e.1)=false by simp_all,AM5 hx,ANI]
    by_cases hg:l[i].1>e.1
    ·rw[AMp hg,AMp hg,UY hl n (i+1) _ (by omega) (by omega) (by grind)]
     simp
    ·rw[AM5 hg,AM5 hg,ZB hl n (i+1) _ (by omega) (by omega) (by simp_all)]
     simp
  ·rw[AM5 (by omega),AMp c2,ANl (by omega)]
   rfl
theorem YJ{l:List AK}{e:AK}(hl:l.length≤2^30):Rz l e=some (((),()),(keep e l,())):=by
 grind[Rz,Yw,ZB,Ac,Ae]
theorem Uq{l:List AK}{p:Int}(hl:l.length≤2^30):He l p=some ((((G_ p l).getD Dy,(G_ p l).isSome,()),()),()):=by
 have key:∀(n i:Nat),i≤l.length→l.length-i<n→Qd n l p i 0 0 false []=some ((((G_ p (l.drop i)).getD Dy,(G_ p (l.drop i)).isSome,()),()),()):=by
  intro n
  induction n with
  |zero=>omega
  |succ n ih=>
   intro i hi h;simp only[Qd,bY,AB];by_cases hc:i<l.length
   ·have c1:(0:Int)≤(i:Int)∧(i:Int)<(l.length:Int):=by omega
    rw[AMp c1.2];simp only[AMp c1];rw[AJ (by omega) (by omega),show((i:Int)+1)=((i+1:Nat):Int)by omega,Am hc,drop_cons hc,ih (i+1) (by omega) (by omega)];simp only[G_,AVh];cases l[i].1==p<;>rfl
   ·rw[AM5 (by omega),ANl (by omega)]
    rfl
 grind[He,ba,Ac,Ae]
end Go.M
end
section
namespace Go.M
open Go.M.H (AK AQ Av Af AA CR AO Ay AR Ah BR A6 BN Al AX AW Ai)
theorem vC{k:Int}{i:Nat}(hk:0≤k∧k<2^63)(hi:i≤63):(dk .i64 (k.fdiv (2^(min i 64))) 1==1)=decide ((k/2^i)%2=1):=by
 obtain⟨m,rfl⟩:∃m:Nat,k=m:=⟨k.toNat,by omega⟩;rw[show min i 64=i by omega];have h1:(m:Int).fdiv (2^i)=((m/2^i:Nat):Int):=by
  grind
 have h2:(m:Int)/2^i=((m/2^i:Nat):Int):=by norm_cast
 have h3:m/2^i<2^63:=Nat.lt_of_le_of_lt (Nat.div_le_self _ _) (by omega);rw[h1,h2,show(1:Int)=((1:Nat):Int)from rfl,AFF h3 (by omega),Nat.and_one_is_mod];rfl
def yJ(p:Nat→Bool):Nat→List AK→List AK
 |_,[]=>[]
 |i,e::l=>if p i then e::yJ p (i+1) l else yJ p (i+1) l
theorem uR{k:Int}(hk:0≤k∧k<2^63):∀{l:List AK} {i:Nat},i+l.length≤60→yJ (fun i=>dk .i64 (k.fdiv (2^(min i 64))) 1==1) i l=LW k i l
 |[],i,_=>rfl
 |e::l,i,h=>by
  simp only[AOw]at h;have ih:=uR hk (l:=l) (i:=i+1) (by omega);have ADX:=vC hk (i:=i) (by omega);simp only[yJ,LW];simp_all
theorem ZU{s:AQ}{k:Int}(h1:s.1.length≤200)(h2:s.2.1.length≤20):∀(n i:Nat) (b:List AK),i≤s.2.1.length→s.2.1.length-i<n→b.length≤200+i→
  Jc n k i s.1 s.2.1 s.2.2.1 0 [] [] s.2.2.1 b []=
   some (jI (if BF k 0 1048575&&decide ((ED b (yJ (fun i=>dk .i64 (k.fdiv (2^(min i 64))) 1==1) i (s.2.1.drop i))).length≤200)then((ED b (yJ (fun i=>dk .i64 (k.fdiv (2^(min i 64))) 1==1) i (s.2.1.drop i)),[],s.2.2.1,()),true)else(s,false)))
 |0,i,b,_,h,_=>by omega
 |n+1,i,b,hi,h,hb=>by
  simp only[Jc,Tw,AB];by_cases hc:i<s.2.1.length
  ·have c1:(0:Int)≤(i:Int)∧(i:Int)<(s.2.1.length:Int):=by omega
   have ih:=fun b hb=>ZU (k:=k) h1 h2 n (i+1) b (by omega) (by omega) hb
   rw[AMp c1.2,AM5 (by omega)];simp only[AMp c1];rw[AJ (by omega) (by omega),show((i:Int)+1)=((i+1:Nat):Int)by omega,Am hc,drop_cons hc,ANN];rw[show(s.2.1[i].1,s.2.1[i].2.1,s.2.1[i].2.2.1,s.2.1[i].2.2.2.1,())=s.2.1[i]from rfl,YJ (by omega)];simp only[AD,yJ];have kl:=YN (e:=s.2.1[i]) (l:=b);rcases AMo (dk .i64 (k.fdiv (2^(min i 64))) 1==1)with hb|hb
   ·simp only[hb,ANk,AT8,ED]
    grind
   grind
  ·rw[AM5 (by omega),ANl (by omega),BV,show(s.1,s.2.1,s.2.2.1,())=s from rfl,PJ (by omega) (by omega)]
   simp only[AD,yJ,ED];cases BF k 0 1048575 with
   |false=>rfl
   |true=>
    simp only[ANX,ANI,ANr];by_cases h200:b.length≤200
    ·rw[AM5 (by omega),ATy h200];rfl
    ·rw[AMp (by omega),AUG h200];rfl
theorem X9{s:AQ}{k:Int}(hw:Al s≤2^30)(hs:kH s):NJ s k=some (jI (FX s k)):=by
 obtain⟨l1,l2⟩:=GG hw;unfold NJ T0 FX;rw[show(s.1,s.2.1,s.2.2.1,())=s from rfl,F8 hw hs];simp only[AD];rcases AMo (B8 s)with h|h
 rotate_left
 ·rw[h];rfl
 have Ei:=DC.1 h;rw[h];simp only[ANX,ANI,ANZ,AQ7];rw[AMp (by rw[Au];omega)];have:=ZU (k:=k) Ei.nk Ei.nl Ac 0 s.1 (by omega) (Ae (by omega)) (by have:=Ei.nk;omega);rw[show((0:Nat):Int)=0 from rfl,AT_]at this;rw[this];rcases AMo (BF k 0 1048575)with hk|hk
 ·have hk':=Ak.1 hk
  have hn:=Ei.nl;grind[uR]
 simp_all
theorem OJ{s:AQ}(hw:Al s≤2^30)(hs:kH s):Jv s=some (jI (Bk s)):=by
 unfold Jv Bk;rw[show(s.1,s.2.1,s.2.2.1,())=s from rfl,X9 hw hs];rfl
theorem ZD{s:AQ}{u:Int}(hw:Al s≤2^30)(hs:kH s):O2 s u=some (jI (Bu s u)):=by
 obtain⟨l1,l2⟩:=GG hw;unfold O2 Bu;rw[show(s.1,s.2.1,s.2.2.1,())=s from rfl,F8 hw hs,OJ hw hs,PJ l1 l2,BV];simp only[AD];cases B8 s with
 |false=>rfl
 |true=>
  simp only[ANX,ANI,ANZ,AQ7,jI];cases(Bk s).2 with
  |false=>rfl
  |true=>
   cases BF u 0 30 with
   |false=>rfl
   |true=>
    simp only[ANX,ANI,ANr,AT8];rw[I_];rfl
theorem ay{s:AQ}{ep:Int}(hw:Al s≤2^30)(hs:kH s):I6 s ep=some (((),()),(G2 s ep,())):=by
 obtain⟨l1,l2⟩:=GG hw;unfold I6 WX G2;rcases AMo (B8 s)with h|h
 ·have key:∀(n i:Nat) (b:List AK),i≤s.1.length→s.1.length-i<n→b.length≤i→JK n ep i s.1 s.2.1 s.2.2.1 b=some (((),()),(b++(s.1.drop i).filter fun e=>An e.1==ep,())):=by
   intro n
   induction n with
   |zero=>omega
   |succ n ih=>
    intro i b hi hn hb;simp only[JK,QD,AB];have c2:b.length+1≤DE:=by rw[Au];omega
    by_cases hc:i<s.1.length
    ·have c1:(0:Int)≤(i:Int)∧(i:Int)<(s.1.length:Int):=by omega
     rw[AMp c1.2];simp only[AMp c1,AMp c2];rw[AJ (by omega) (by omega),show((i:Int)+1)=((i+1:Nat):Int)by omega,Am hc,drop_cons hc,show(s.1,s.2.1,s.2.2.1,())=s from rfl,F8 hw hs,EN (hs.1 _ (ANa hc)),h];simp only[AD,ANk,AUA];cases An s.1[i].1==ep with
     |true=>
      simp only[ANk,AT8];rw[ih (i+1) _ (by omega) (by omega) (by simp_all),AOj];rfl
     |false=>
      grind
    grind
  have:=key Ac 0 [] (by omega) (Ae (by omega)) (by simp);simp_all
 ·obtain⟨m,hm⟩:∃m,Ac=m+1:=⟨Ac-1,by have:=fo;omega⟩
  rw[h,hm];simp only[JK,QD,AB];rw[show(s.1,s.2.1,s.2.2.1,())=s from rfl,F8 hw hs,h];simp_all
theorem jn{s:AQ}{u:Int}(hw:Al s≤2^30)(hs:kH s)(hu:CO u):S5 s u=some (jI (JS s u)):=by
 obtain⟨l1,l2⟩:=GG hw;unfold S5 V0 JS;rw[show(s.1,s.2.1,s.2.2.1,())=s from rfl,F8 hw hs,PJ l1 l2,Ie hu];simp only[AD];cases B8 s with
 |false=>rfl
 |true=>
  cases Bf u with
  |false=>rfl
  |true=>
   simp only[ANX,ANI,ANZ,AQ7,AT8];have key:∀(n i:Nat) (b:List AK),i≤s.1.length→s.1.length-i<n→b.length≤i→KW n u i s.1 s.2.1 s.2.2.1 0 [] [] s.2.2.1 b s.2.1=some (jI ((b++(s.1.drop i).filter fun e=>decide (e.1>u),s.2.1,s.2.2.1,()),true)):=by
    intro n
    induction n with
    |zero=>omega
    |succ n ih=>
     intro i b hi hn hb;simp only[KW,VK];have c2:b.length+1≤DE:=by rw[Au];omega
     by_cases hc:i<s.1.length
     ·have c1:(0:Int)≤(i:Int)∧(i:Int)<(s.1.length:Int):=by omega
      rw[ATy c1.2];simp only[AMp c1,AMp c2,ANk];rw[AJ (by omega) (by omega),show((i:Int)+1)=((i+1:Nat):Int)by omega,Am hc,drop_cons hc];simp only[AUA];cases decide (s.1[i].1>u)with
      |true=>
       simp only[ANk,AT8];rw[ih (i+1) _ (by omega) (by omega) (by simp_all),AOj];rfl
      |false=>
       grind
     grind[decide_eq_false,List.drop_eq_nil_of_le,jI]
   have:=key Ac 0 [] (by omega) (Ae (by omega)) (by simp);simp_all
end Go.M
end
section
namespace Go.M
open Go.M.H (AK AQ Av Af AA CR AO Ay AR Ah BR A6 BN Al AX AW Aa Ai Bh A4 Ap)
theorem Np{α:Type}{l:List α}{i:Nat}{x d:α}(hi:i<l.length):(l.set i x).getD i d=x:=by
 simp_all
theorem Pr{α:Type}{l:List α}{f:α→α}{i:Nat}(hi:i≤l.length):((l.map f).take i++l.drop i).length=l.length:=by
 simp_all
theorem NN{α:Type}{l:List α}{f:α→α}{i:Nat}{d:α}(hi:i<l.length):((l.map f).take i++l.drop i).getD i d=l[i]:=by
 grind
theorem Qv{α:Type}{l:List α}{f:α→α}{i:Nat}{y:α}(hi:i<l.length)(hy:y=f l[i]):((l.map f).take i++l.drop i).set i y=(l.map f).take (i+1)++l.drop (i+1):=by
 have h:((l.map f).take i).length=i:=by grind
 subst hy;rw[AYY _ _ (by omega),h,Nat.sub_self,drop_cons hi,AXz,AUF (by simp_all),AOj,List.getElem_map];rfl
theorem kj{α:Type}{l:List α}{f:α→α}{i:Nat}(hi:i<l.length)(hf:f l[i]=l[i]):(l.map f).take i++l.drop i=(l.map f).take (i+1)++l.drop (i+1):=by
 grind[List.take_succ_eq_append_getElem,List.append_assoc,drop_cons]
theorem xl{n:Int}:∀{l:AAG},(gw n l).length=l.length+1
 |[]=>rfl
 |a::l=>by
  simp only[gw];split
  ·simp
  ·simp[xl (l:=l)]
theorem TA{n:Int}{l:AAG}:(N2 n l).length≤l.length+1:=by
 grind[N2,xl]
theorem ET{r:AO}{e:Int}(hl:AX Bh r.1≤2^30):CK r e=some (((),()),(A5 r.1 e,())):=by
 have l1:=AW (f:=Bh) (l:=r.1);unfold CK A5;rw[BV];simp only[AD];rcases AMo (BF e 1 (r.1.length:Int))with h|h
 ·have h':=Ak.1 h
  have hm:=Aa (f:=Bh) (Ba (d:=HG) (l:=r.1) (i:=(e-1).toNat) (by omega));have n_:(r.1.getD (e-1).toNat HG).1.length≤AX Bh r.1:=hm;rw[h,AJ (by omega) (by omega)];simp only[ANX,ANI,AT8];rw[AMp (by omega),AMp (by grind[Au,HG])];rfl
 simp_all
theorem S8{r:AO}(hl:AX Bh r.1≤2^30):GW r=some ((((),r.2.1,()),()),(r.1,())):=by
 have l1:=AW (f:=Bh) (l:=r.1);have key:∀(n i:Nat) (b:List CR),i≤r.1.length→r.1.length-i<n→b.length≤i→Oj n i r.1 r.2.1 0 [] r.2.1 b=some ((((),r.2.1,()),()),(b++r.1.drop i,())):=by
  intro n
  induction n with
  |zero=>omega
  |succ n ih=>
   intro i b hi hn hb;simp only[Oj,ZK,AB];by_cases hc:i<r.1.length
   ·have c1:(0:Int)≤(i:Int)∧(i:Int)<(r.1.length:Int):=by omega
    have hm:=Aa (f:=Bh) (ANa hc)
    replace hm:r.1[i].1.length≤AX Bh r.1:=hm
    rw[AMp c1.2,AMp c1,AJ (by omega) (by omega),show((i:Int)+1)=((i+1:Nat):Int)by omega,Am hc,AMp (by rw[Au];omega),AMp (by rw[Au];omega),drop_cons hc,ih (i+1) _ (by omega) (by omega) (by simp_all),AOj];rfl
   grind
 grind[GW,ZL,Ac,Ae]
def pkR(q:AO×Bool):AGh×(List CR×Unit):=(((((),q.1.2.1,()),q.2,()),()),(q.1.1,()))
section
variable{c:Bz} {r:AO} (hc:c.1.length≤2^40) (hl:AX Bh r.1≤2^30) (ht:CO r.2.1)
include hc hl ht
theorem ct{ns:AAG}(hn:ns.length≤2^30):Mr c r ns=some (((((),(Iu c r ns).1.2.1,()),(Iu c r ns).2.1,(Iu c r ns).2.2,()),()),((Iu c r ns).1.1,())):=by
 have l1:=AW (f:=Bh) (l:=r.1);unfold Mr Iu;rw[show(c.1,c.2.1,())=c from rfl,show(r.1,r.2.1,())=r from rfl,QT hc hl ht,S8 hl,D3 hc (by omega)];simp only[AD];cases On c r with
 |false=>rfl
 |true=>
  cases holds c ns with
  |false=>rfl
  |true=>
   simp only[ANX,ANI,ANZ,AQ7,ANr];by_cases h30:r.1.length=30
   ·simp_all
   ·rw[show((r.1.length:Int)==30)=false by grind,show decide (r.1.length≠30)=true by simp[h30],ANI,AMp (by rw[Au];omega),AMp (by rw[Au];omega)]
    simp
theorem bR{b last:Int}:QZ c r b last=some (pkR (NY c r b last)):=by
 have l1:=AW (f:=Bh) (l:=r.1);unfold QZ NY;rw[show(c.1,c.2.1,())=c from rfl,show(r.1,r.2.1,())=r from rfl,QT hc hl ht,S8 hl,OM (by omega)];simp only[AD];rcases AMo (On c r)with hr|hr
 rotate_left
 ·rw[hr];rfl
 rw[hr];simp only[ANX,ANI,ANZ,AQ7];by_cases h1:b=r.1.length
 rotate_left
 ·rw[show(b !=(r.1.length:Int))=true by simp_all,show decide (b=(r.1.length:Int))=false by simp_all]
  rfl
 rw[show(b !=(r.1.length:Int))=false by simp_all,show decide (b=(r.1.length:Int))=true by simp_all];simp only[ANI,ANr];by_cases h2:BK r.1=0
 ·rw[show(BK r.1==0)=true by simp_all,show decide (BK r.1≠0)=false by simp_all]
  rfl
 rw[show(BK r.1==0)=false by simp_all,show decide (BK r.1≠0)=true by simp_all];simp only[ANI,ANr];by_cases h3:b=BK r.1
 ·rw[show(b==BK r.1)=true by simp_all,show decide (b≠BK r.1)=false by simp_all]
  rfl
 rw[show(b==BK r.1)=false by simp_all,show decide (b≠BK r.1)=true by simp_all,BV];simp only[ANI,ANr,AD];cases BF last 0 60 with
 |false=>rfl
 |true=>
  have Ei:=KC.1 hr;have AIj:0<r.1.length:=by
   rcases AYQ r.1.length with hz|hz
   ·exact absurd (by unfold BK;rw[hz];rfl) h2
   omega
  obtain⟨k,k1,k2,k3,k4⟩:=TL Ei AIj;simp only[ANX,ANI,AT8];rw[k2,AJ (by omega) (by omega),show((k:Int)+1-1)=(k:Int)by omega,AMp (by omega),AMp (by simp_all),ANN];unfold pkR O1;simp_all
theorem dB{p:Int}(hp:CO p):SK c r p=some (pkR (OT c r p)):=by
 unfold SK OT;rw[show(c.1,c.2.1,())=c from rfl,show(r.1,r.2.1,())=r from rfl,QT hc hl ht,S8 hl,Ie hp,EN hp];simp only[AD];cases On c r with
 |false=>rfl
 |true=>
  cases Bf p with
  |false=>rfl
  |true=>
   simp only[ANX,ANI,ANZ,AQ7,ANr];by_cases h:An p≤r.1.length
   ·rw[show decide (An p>(r.1.length:Int))=false by simp_all,show decide (An p≤(r.1.length:Int))=true by simp_all,ANI,I_]
    rfl
   ·rw[show decide (An p>(r.1.length:Int))=true by simp_all,show decide (An p≤(r.1.length:Int))=false by simp_all]
    rfl
end
theorem TE{w:AR}(hl:AX A4 w.2.1≤2^30):EX w=some (((w.1,(),()),()),(w.2.1,())):=by
 have l1:=AW (f:=A4) (l:=w.2.1);have key:∀(n i:Nat) (b:List Ay),i≤w.2.1.length→w.2.1.length-i<n→b.length≤i→Jg n i w.1 w.2.1 0 [] w.1 b=some (((w.1,(),()),()),(b++w.2.1.drop i,())):=by
  intro n
  induction n with
  |zero=>omega
  |succ n ih=>
   intro i b hi hn hb;simp only[Jg,Sc,AB];by_cases hc:i<w.2.1.length
   ·have c1:(0:Int)≤(i:Int)∧(i:Int)<(w.2.1.length:Int):=by omega
    have hm:w.2.1[i].1.length+w.2.1[i].2.1.length≤AX A4 w.2.1:=Aa (f:=A4) (ANa hc);rw[AMp c1.2,AMp c1,AJ (by omega) (by omega),show((i:Int)+1)=((i+1:Nat):Int)by omega,Am hc,AMp (by rw[Au];omega),AMp (by rw[Au];omega),drop_cons hc,ih (i+1) _ (by omega) (by omega) (by simp_all),AOj];rfl
   grind
 grind[EX,Tj,Ac,Ae]
theorem I8{α:Type}{f:α→Nat}{l m:List α}:AX f (l++m)=AX f l+AX f m:=by
 induction l with
 |nil=>simp[AX]
 |cons a l ih=>grind[AX]
theorem my{n:Int}{x:Ay}(h:x.2.2.1=true):E4 n x=x:=by
 obtain⟨a,b,d,e⟩:=x;simp only at h;subst h;rfl
def pkW(q:AR×Bool):AGg×(List Ay×Unit):=((((q.1.1,(),()),q.2,()),()),(q.1.2.1,()))
section
variable{c:Bz} {w:AR} (hc:c.1.length≤2^40) (hl:AX A4 w.2.1≤2^20)
include hc hl
theorem kG{d:ABp}(hd:d.length≤2^20):G3 c w d=some (((((Bn c w d).1.1,(),()),(Bn c w d).2.1,(Bn c w d).2.2,()),()),((Bn c w d).1.2.1,())):=by
 have l1:=AW (f:=A4) (l:=w.2.1);unfold G3 Bn;rw[show(c.1,c.2.1,())=c from rfl,show(w.1,w.2.1,())=w from rfl,GN hc (by omega),TE (by omega)];simp only[AD];cases EM c w with
 |false=>rfl
 |true=>
  simp only[ANX,ANI,ANZ,AQ7];rw[AMp (by rw[Au];omega),GN hc (by
   grind[AX,A4,I8,List.length_nil])]
  grind
theorem jU{o n:Int}:Dv c w o n=some (pkW (Ra c w o n)):=by
 have l1:=AW (f:=A4) (l:=w.2.1);unfold Dv Ra;rw[show(c.1,c.2.1,())=c from rfl,show(w.1,w.2.1,())=w from rfl,GN hc (by omega),TE (by omega),BV,BV];simp only[AD];rcases AMo (EM c w)with hw|hw
 rotate_left
 ·rw[hw];rfl
 have zd:=Db (Ir.1 hw).cfg;rw[hw,AJ (x:=(c.1.length:Int)-1) (by omega) (by omega)];simp only[ANX,ANI,ANZ,AQ7];rcases AMo (BF o 1 (w.2.1.length:Int))with ho|ho
 rotate_left
 ·rw[ho];rfl
 have yY:=Ak.1 ho;rw[ho];cases BF n 0 ((c.1.length:Int)-1)with
 |false=>rfl
 |true=>
  have hi:(o-1).toNat<w.2.1.length:=by omega
  have hm:(w.2.1.getD (o-1).toNat LR).1.length+(w.2.1.getD (o-1).toNat LR).2.1.length≤AX A4 w.2.1:=Aa (f:=A4) (Ba (d:=LR) hi);simp only[ANX,ANI,ANr];rw[AJ (by omega) (by omega),AMp (by omega)]
  show cond (w.2.1.getD (o-1).toNat LR).2.2.1 _ _=_
  cases(w.2.1.getD (o-1).toNat LR).2.2.1 with
  |true=>rfl
  |false=>
   simp only[ANI,ATb,AT8];rw[AMp (by omega),show(w.2.1.getD (o-1).toNat ([],[],false,())).2.1=(w.2.1.getD (o-1).toNat LR).2.1 from rfl,K_ (by omega)];simp only[AD];rw[AMp (by omega)];have hg:∀x:Ay,(w.2.1.set (o-1).toNat x).getD (o-1).toNat ([],[],false,())=x:=fun x=>Np hi
   rw[AMp (by grind),hg,D3 hc (by
    grind[TA,LR])]
   simp only[AD];rw[AMp (by grind),AYW];rfl
theorem eu{n:Int}:OG c w n=some (pkW (CF c w n)):=by
 have l1:=AW (f:=A4) (l:=w.2.1);unfold OG RZ CF;rw[show(c.1,c.2.1,())=c from rfl,show(w.1,w.2.1,())=w from rfl,GN hc (by omega),TE (by omega)];simp only[AD];cases EM c w with
 |false=>rfl
 |true=>
  simp only[ANX,ANI,ANZ,AQ7];have key:∀(k i:Nat),i≤w.2.1.length→w.2.1.length-i<k→Ht k n i 0 [] w.1 ((w.2.1.map (E4 n)).take i++w.2.1.drop i)=some (pkW ((w.1,w.2.1.map (E4 n),()),true)):=by
   intro k
   induction k with
   |zero=>omega
   |succ k ih=>
    intro i hi hk;have hlen:((w.2.1.map (E4 n)).take i++w.2.1.drop i).length=w.2.1.length:=Pr hi;simp only[Ht,RY,AB,hlen];by_cases Dn:i<w.2.1.length
    ·have c1:(0:Int)≤(i:Int)∧(i:Int)<(w.2.1.length:Int):=by omega
     have hm:w.2.1[i].1.length+w.2.1[i].2.1.length≤AX A4 w.2.1:=Aa (f:=A4) (ANa Dn);have hg:((w.2.1.map (E4 n)).take i++w.2.1.drop i).getD ((i:Int).toNat) ([],[],false,())=w.2.1[i]:=NN Dn;rw[AMp c1.2];simp only[AMp c1,hg];rw[AJ (by omega) (by omega),show((i:Int)+1)=((i+1:Nat):Int)by omega];rcases AMo (w.2.1[i].2.2.1)with hd|hd
     ·rw[hd]
      simp only[ANX,ANI];grind[kj,my]
     ·rw[hd]
      simp only[ATb,ANk];rw[Hr (by omega) (by simp)];grind[AD,Int.toNat_natCast,Qv,E4]
    ·rw[AM5 (by omega),ANl (by omega)]
     have:i=w.2.1.length:=by omega
     subst this;rw[AN6,AUB (by simp)];rfl
  have:=key Ac 0 (by omega) (Ae (by omega));simp_all
end
end Go.M
end
section
namespace Go.M
open Go.M.H (AK AQ Av Af AA CR AO Ay AR Ah BR A6 BN Al AX AW Aa Ai Bh A4 Ap CD C3)
abbrev PkM:Type:=AEj×(List Int×List AK×List AAG×Unit)
def gZ(q:Av×Bool):PkM:=((((q.1.1,q.1.2.1,(),(),q.1.2.2.2.2.1,(),()),q.2,()),()),(q.1.2.2.1,q.1.2.2.2.1,q.1.2.2.2.2.2.1,()))
section
variable{m:Av} (hm:CD m≤2^20)
include hm
theorem HZ:m.2.2.1.length≤2^20∧m.2.2.2.1.length≤2^20∧m.2.2.2.2.2.1.length≤2^20∧ ∀l∈m.2.2.2.2.2.1,l.length≤2^20:=by
 have l1:=AW (f:=Ai) (l:=m.2.2.2.1);have l2:=AW (f:=C3) (l:=m.2.2.2.2.2.1);have n_:m.2.2.1.length+(AX Ai m.2.2.2.1+(AX C3 m.2.2.2.2.2.1+0))≤2^20:=by
  grind[CD]
 refine⟨by omega,by omega,by omega,fun l hl=> ?_⟩;have:l.length≤AX C3 m.2.2.2.2.2.1:=Aa (f:=C3) hl;omega
theorem Lr:EW m=some (((m.1,m.2.1,(),(),m.2.2.2.2.1,(),()),()),(m.2.2.1,m.2.2.2.1,m.2.2.2.2.2.1,())):=by
 obtain⟨h1,h2,h3,h4⟩:=HZ hm;have key:∀(n i:Nat) (b:List AAG),i≤m.2.2.2.2.2.1.length→m.2.2.2.2.2.1.length-i<n→b.length≤i→
   H9 n i m.1 m.2.1 m.2.2.1 m.2.2.2.1 m.2.2.2.2.1 m.2.2.2.2.2.1 0 0 false [] [] [] m.1 m.2.1 m.2.2.2.2.1 m.2.2.1 m.2.2.2.1 b=some (((m.1,m.2.1,(),(),m.2.2.2.2.1,(),()),()),(m.2.2.1,m.2.2.2.1,b++m.2.2.2.2.2.1.drop i,())):=by
  intro n
  induction n with
  |zero=>omega
  |succ n ih=>
   intro i b hi hn hb;simp only[H9,Sj,AB];by_cases hc:i<m.2.2.2.2.2.1.length
   ·have c1:(0:Int)≤(i:Int)∧(i:Int)<(m.2.2.2.2.2.1.length:Int):=by omega
    have hq:=h4 _ (ANa hc);rw[AMp c1.2,AMp c1,AJ (by omega) (by omega),show((i:Int)+1)=((i+1:Nat):Int)by omega,Am hc,AMp (by rw[Au];omega),AMp (by rw[Au];omega),drop_cons hc,ih (i+1) _ (by omega) (by omega) (by simp_all),AOj];rfl
   grind
 unfold EW N_;rw[AMp (by rw[Au];omega),AMp (by rw[Au];omega)];grind[Ac,Ae]
end
theorem fE{l s:AAG}(hl:l.length≤2^20)(hs:s.length≤2^20):Ke l s=some (((),()),(l.filter s.contains,())):=by
 unfold Ke;rw[Hr (by omega) (by omega)];simp only[AD];have yW:(less l s).length≤l.length:=ARp _ _;rw[Hr (by omega) (by omega)];grind[AD,less,List.filter_congr]
theorem fL{c:Bz}{s l:AAG}(hc:c.1.length≤2^40)(hl:l.length≤2^20)(hs:s.length≤2^20):Km c s l=some ((Q_ c s l,()),()):=by
 unfold Km Q_;rw[show(c.1,c.2.1,())=c from rfl,D3 (l:=s) hc (by omega),HD (l:=l) hc (by omega),Hr (l:=l) (m:=s) (by omega) (by omega),Hr (l:=s) (m:=l) (by omega) (by omega)];simp only[AD];rcases AMo (holds c s)with h|h
 rotate_left
 ·simp_all
 rw[h];cases A9 c l with
 |false=>rfl
 |true=>
  simp only[ANX,ANI,ANr];have hn:A9 c (less s l)=true:=Sg _ (Vz h);by_cases ha:(less l s).length>0
  ·rw[show decide (((less l s).length:Int)>0)=true by simp_all]
   have:l.all s.contains=false:=by
    rw[AUQ];grind[List.all_eq_true,less,List.filter_eq_nil_iff]
   grind
  ·rw[AUG (show¬((less l s).length:Int)>0 by omega)]
   have:l.all s.contains=true:=by
    grind[less,List.length_eq_zero_iff,List.filter_eq_nil_iff,List.all_eq_true]
   rw[this];simp only[ANI,ANr];rw[eF hn];simp only[AD,holds,hn,ANr];grind[bh,less,decide_eq_true,decide_eq_false]
section
variable{c:Bz} {m:Av} (hc:c.1.length≤2^40) (hm:CD m≤2^20) (h:gB m.2.2.2.1)
include hc hm h
theorem cu{o n:Int}:Eg c m o n=some (gZ (Td c m o n)):=by
 obtain⟨h1,h2,h3,h4⟩:=HZ hm;unfold Eg Td;rw[show(c.1,c.2.1,())=c from rfl,show(m.1,m.2.1,m.2.2.1,m.2.2.2.1,m.2.2.2.2.1,m.2.2.2.2.2.1,())=m from rfl,Jf hc (by omega) h,Lr hm,BV,BV];simp only[AD];rcases AMo (Gv c m)with hw|hw
 rotate_left
 ·rw[hw];rfl
 have zd:=Db (Gq.1 hw).cfg;rw[hw,AJ (x:=(c.1.length:Int)-1) (by omega) (by omega)];simp only[ANX,ANI,ANZ,AQ7];rcases AMo (BF o 1 (m.2.2.2.2.2.1.length:Int))with ho|ho
 rotate_left
 ·rw[ho];rfl
 have yY:=Ak.1 ho;rw[ho];cases BF n 0 ((c.1.length:Int)-1)with
 |false=>rfl
 |true=>
  have hi:(o-1).toNat<m.2.2.2.2.2.1.length:=by omega
  have hq:=h4 _ (Ba (d:=([]:AAG)) hi);simp only[ANX,ANI,ANr,AT8];rw[AJ (by omega) (by omega),AMp (by omega),K_ (by omega)];simp only[AD];rw[AMp (by omega)];rfl
theorem iY{n:Int}:Qp c m n=some (gZ (B9 c m n)):=by
 obtain⟨h1,h2,h3,h4⟩:=HZ hm;unfold Qp Tr B9;rw[show(c.1,c.2.1,())=c from rfl,show(m.1,m.2.1,m.2.2.1,m.2.2.2.1,m.2.2.2.2.1,m.2.2.2.2.2.1,())=m from rfl,Jf hc (by omega) h,Lr hm];simp only[AD];cases Gv c m with
 |false=>rfl
 |true=>
  simp only[ANX,ANI,ANZ,AQ7];have key:∀(k i:Nat),i≤m.2.2.2.2.2.1.length→m.2.2.2.2.2.1.length-i<k→Ji k n i 0 0 false [] [] [] m.1 m.2.1 m.2.2.2.2.1 m.2.2.1 m.2.2.2.1 ((m.2.2.2.2.2.1.map (fun l=>less l [n])).take i++m.2.2.2.2.2.1.drop i)=
    some (gZ ((m.1,m.2.1,m.2.2.1,m.2.2.2.1,m.2.2.2.2.1,m.2.2.2.2.2.1.map (fun l=>less l [n]),()),true)):=by
   intro k
   induction k with
   |zero=>omega
   |succ k ih=>
    intro i hi hk;have hlen:=Pr (f:=fun l=>less l [n]) hi;simp only[Ji,T6,AB,hlen];by_cases Dn:i<m.2.2.2.2.2.1.length
    ·have c1:(0:Int)≤(i:Int)∧(i:Int)<(m.2.2.2.2.2.1.length:Int):=by omega
     have hq:=h4 _ (ANa Dn);have hg:((m.2.2.2.2.2.1.map (fun l=>less l [n])).take i++m.2.2.2.2.2.1.drop i).getD ((i:Int).toNat) []=m.2.2.2.2.2.1[i]:=NN Dn;rw[AMp c1.2];simp only[AMp c1,hg];rw[AJ (by omega) (by omega),show((i:Int)+1)=((i+1:Nat):Int)by omega,Hr (by omega) (by simp)];simp only[AD];rw[ANN,Qv Dn rfl];grind
    ·rw[AM5 (by omega),ANl (by omega)]
     have:i=m.2.2.2.2.2.1.length:=by omega
     subst this;rw[AN6,AUB (by simp)];rfl
  have:=key Ac 0 (by omega) (Ae (by omega));simp_all
theorem jO:Sb c m=some ((UF c m,()),()):=by
 obtain⟨h1,h2,h3,h4⟩:=HZ hm;unfold Sb Vf UF;rw[show(c.1,c.2.1,())=c from rfl,show(m.1,m.2.1,m.2.2.1,m.2.2.2.1,m.2.2.2.2.1,m.2.2.2.2.2.1,())=m from rfl,Jf hc (by omega) h];simp only[AD];cases Gv c m with
 |false=>rfl
 |true=>
  rcases AMo m.2.2.2.2.1 with hp|hp
  rotate_left
  ·simp_all
  have key:∀(k i:Nat),i≤m.2.2.2.2.2.1.length→m.2.2.2.2.2.1.length-i<k→Kk k i c.1 c.2.1 m.1 m.2.1 m.2.2.1 m.2.2.2.1 m.2.2.2.2.1 m.2.2.2.2.2.1=some (((m.2.2.2.2.2.1.drop i).all (holds c),()),()):=by
   intro k
   induction k with
   |zero=>omega
   |succ k ih=>
    intro i hi hk;simp only[Kk,Vv,AB];by_cases Dn:i<m.2.2.2.2.2.1.length
    ·have c1:(0:Int)≤(i:Int)∧(i:Int)<(m.2.2.2.2.2.1.length:Int):=by omega
     have hq:=h4 _ (ANa Dn);rw[AMp c1.2,AMp c1,AJ (by omega) (by omega),show((i:Int)+1)=((i+1:Nat):Int)by omega,Am Dn,drop_cons Dn,show(c.1,c.2.1,())=c from rfl,D3 hc (by omega),ih (i+1) (by omega) (by omega)];simp only[AD,AUT];cases holds c m.2.2.2.2.2.1[i]<;>rfl
    grind
  have:=key Ac 0 (by omega) (Ae (by omega));simp_all
omit hc h in
theorem Yx{o:Int}:Eo m o=some ((((ES m o).getD Dy,(ES m o).isSome,()),()),()):=by
 obtain⟨h1,h2,h3,h4⟩:=HZ hm;unfold Eo ES;rw[j0];simp only[AD];rw[Uq (by omega)];simp only[AD];cases m.2.2.2.2.1 with
 |false=>rfl
 |true=>
  simp only[ANX,ANI,ANr];rcases AMo (BF m.2.1 1 30)with he|he
  rotate_left
  ·rw[he];rfl
  rcases AMo (BF o 1 60)with ho|ho
  rotate_left
  ·rw[he,ho];rfl
  have hp:F_ m.2.1 o=Ge m.2.1 o:=by unfold F_;rw[he,ho];rfl
  rw[he,ho,hp];simp only[AUU,ANX,ANI,ANr];by_cases hl:o≤m.2.2.2.2.2.1.length
  ·rw[show decide (o>(m.2.2.2.2.2.1.length:Int))=false by simpa using hl,show decide (o≤(m.2.2.2.2.2.1.length:Int))=true by simpa using hl]
   simp only[ANI,AT8];cases G_ (Ge m.2.1 o) m.2.2.2.1<;>rfl
  ·rw[show decide (o>(m.2.2.2.2.2.1.length:Int))=true by simp;omega,show decide (o≤(m.2.2.2.2.2.1.length:Int))=false by simp;omega]
   rfl
theorem bc{s:AAG}(hs:s.length≤2^20):I5 c m s=some (gZ (MC c m s)):=by
 obtain⟨h1,h2,h3,h4⟩:=HZ hm;unfold I5 Wv MC;rw[show(c.1,c.2.1,())=c from rfl,show(m.1,m.2.1,m.2.2.1,m.2.2.2.1,m.2.2.2.2.1,m.2.2.2.2.2.1,())=m from rfl,Jf hc (by omega) h,Lr hm];simp only[AD];rcases AMo (Gv c m)with Ei|Ei
 rotate_left
 ·rw[Ei];rfl
 have hmo:=Gq.1 Ei;rw[Ei];rcases AMo m.2.2.2.2.1 with hp|hp
 ·rw[hp]
  simp only[ANX,ANI,ANk,AUC,ANZ,AQ7,gZ,hp]
 have hn:=hmo.n;rw[hp]at hn;have hw0:m.2.2.2.2.2.1=[]:=AYN.1 (by simp_all);rw[hp];simp only[ANX,ATb,ANI,ANZ,AQ7,ANr];rw[fE (by omega) hs];have yZ:(m.2.2.1.filter s.contains).length≤m.2.2.1.length:=ARp _ _;simp only[AD];rw[fL hc (by omega) hs];simp only[AD];cases Q_ c s (m.2.2.1.filter s.contains)with
 |false=>simp[gZ,hp]
 |true=>
  simp only[ANX,ANI,AT8];have hlb:=Ho (l:=m.2.2.2.1);have key:∀(k i:Nat),(i:Int)≤O6 m.2.2.2.1→(O6 m.2.2.2.1).toNat-i<k→L8 k i m.1 m.2.1 m.2.2.1 m.2.2.2.1 false m.2.2.2.2.2.1 0 0 false [] [] [] m.1 m.2.1 true m.2.2.1 m.2.2.2.1 (List.replicate i [])=
    some (gZ ((m.1,m.2.1,m.2.2.1,m.2.2.2.1,true,List.replicate (O6 m.2.2.2.1).toNat [],()),true)):=by
   intro k
   induction k with
   |zero=>omega
   |succ k ih=>
    intro i hi hk;simp only[L8,WW];rw[show Ro (m.1,m.2.1,m.2.2.1,m.2.2.2.1,false,m.2.2.2.2.2.1,())=some ((O6 m.2.2.2.1,()),())from eX (m:=(m.1,m.2.1,m.2.2.1,m.2.2.2.1,false,m.2.2.2.2.2.1,())) (by grind) h];simp only[AD,AB];by_cases Dn:(i:Int)<O6 m.2.2.2.1
    ·rw[AMp Dn,AMp (by rw[Au,AUf];omega),AJ (by omega) (by omega),show((i:Int)+1)=((i+1:Nat):Int)by omega,←List.replicate_succ']
     exact ih (i+1) (by omega) (by omega)
    ·rw[AM5 Dn]
     have:i=(O6 m.2.2.2.1).toNat:=by omega
     rw[this];rfl
  have:=key Ac 0 (by omega) (Ae (by omega));simp_all
theorem ai{n:Int}{l:List AK}(hl:l.length≤2^20)(U2:gB l)(hw:AX Ai l≤2^20):I7 c m n l=some (gZ (Oz c m n l)):=by
 obtain⟨h1,h2,h3,h4⟩:=HZ hm;unfold I7 Wc Oz;rw[show(c.1,c.2.1,())=c from rfl,show(m.1,m.2.1,m.2.2.1,m.2.2.2.1,m.2.2.2.2.1,m.2.2.2.2.2.1,())=m from rfl,Jf hc (by omega) h,Lr hm];simp only[AD];rw[K_ (by omega)];simp only[AD];rcases AMo (Gv c m)with Ei|Ei
 rotate_left
 ·rw[Ei];rfl
 rw[Ei];simp only[ANX,ANI,ANZ,AQ7];have AXe:∀(e:AK) (k:List AK),AX Ai (keep e k)≤AX Ai k+(1+Ai e):=by
  intro e k
  induction k with
  |nil=>simp[keep,AX]
  |cons x k ih=>
   grind[keep,AX,better]
 have key:∀(k i:Nat) (b:List AK),i≤l.length→l.length-i<k→b.length≤2^20+i→gB b→AX Ai b+AX Ai (l.drop i)≤2^21→
   Lq k l i c.1 c.2.1 m.1 m.2.1 m.2.2.1 m.2.2.2.1 m.2.2.2.2.1 m.2.2.2.2.2.1 0 0 false [] [] [] m.1 m.2.1 m.2.2.2.2.1 (N2 n m.2.2.1) b m.2.2.2.2.2.1=
   some (gZ (if !m.2.2.2.2.1&&Gv c (m.1,m.2.1,N2 n m.2.2.1,ED b ((l.drop i).filter fun e=>An e.1==m.2.1),m.2.2.2.2.1,m.2.2.2.2.2.1,())then
    ((m.1,m.2.1,N2 n m.2.2.1,ED b ((l.drop i).filter fun e=>An e.1==m.2.1),m.2.2.2.2.1,m.2.2.2.2.2.1,()),true)else(m,false))):=by
  intro k
  induction k with
  |zero=>omega
  |succ k ih=>
   intro i b hi hk hb hbi q8;simp only[Lq,WU,AB];by_cases Dn:i<l.length
   ·have c1:(0:Int)≤(i:Int)∧(i:Int)<(l.length:Int):=by omega
    rw[AMp c1.2];simp only[AMp c1];rw[AJ (by omega) (by omega),show((i:Int)+1)=((i+1:Nat):Int)by omega,Am Dn,drop_cons Dn,show(l[i].1,l[i].2.1,l[i].2.2.1,l[i].2.2.2.1,())=l[i]from rfl,EN (U2 _ (ANa Dn)),YJ (by omega)];rw[drop_cons Dn]at q8;simp only[AX]at q8;simp only[AD,AUA];rcases AMo (An l[i].1==m.2.1)with he|he
    ·simp only[he,ANk,AT8,ED]
     have:=YN (e:=l[i]) (l:=b);have hwk:=AXe l[i] b;exact ih (i+1) _ (by omega) (by omega) (by omega) (fun x hx=>by
      rcases dw hx with rfl|hx
      ·exact U2 _ (ANa Dn)
      ·exact hbi x hx) (by omega)
    grind
   ·rw[AM5 (by omega),ANl (by omega),show(m.1,m.2.1,m.2.2.1,m.2.2.2.1,m.2.2.2.2.1,m.2.2.2.2.2.1,())=m from rfl,show(c.1,c.2.1,())=c from rfl,Lr hm]
    simp only[AYg,ED];rcases AMo m.2.2.2.2.1 with hp|hp
    ·grind[gZ]
    rw[ANl (by omega)]at q8;simp only[AX]at q8;have wo:=TA (n:=n) (l:=m.2.2.1);have hb2:=AW (f:=Ai) (l:=b);rw[Jf (m:=(m.1,m.2.1,N2 n m.2.2.1,b,m.2.2.2.2.1,m.2.2.2.2.2.1,())) hc (by
     grind[CD]) hbi]
    simp only[AD];rw[hp];simp only[ANI,ATb,ANr];grind[Gv,N2,gZ]
 have hsw:AX Ai m.2.2.2.1≤2^20:=by
  grind[CD]
 have:=key Ac 0 m.2.2.2.1 (by omega) (Ae (by omega)) (by omega) h (by grind);simp_all
end
end Go.M
end
section
namespace Go.M
open Go.M.H (AK AQ Av Af AA CR AO Ay AR Ah BR A6 BN Al CD AX AW Aa Ai Bh)
theorem A0{α:Type}{b:Bool}{x y:α}:cond (!b) x y=cond b y x:=by simp_all
theorem Cs{α:Type}{a b:Int}{x y:α}:cond (a !=b) x y=if a=b then y else x:=by
 simp_all
theorem DS{α:Type}{a b:Int}{x y:α}:cond (a==b) x y=if a=b then x else y:=by
 simp_all
theorem mO{c:Bz}{l:List A6}(hc:c.1.length≤2^40)(hl:l.length≤2^20):
  Z3 c l=some ((((),A9 c (l.map fun a=>a.1),()),()),(l.map (fun a=>a.1),())):=by
 have key:∀(n i:Nat) (b:AAG),i≤l.length→l.length-i<n→b.length=i→
   Lw n l i c.1 c.2.1 b=some ((((),A9 c (b++(l.drop i).map fun a=>a.1),()),()),(b++(l.drop i).map (fun a=>a.1),())):=by
  intro n
  induction n with
  |zero=>omega
  |succ n ih=>
   intro i b hi h hb;simp only[Lw,Wa,AB];by_cases dj:i<l.length
   ·have c1:(0:Int)≤(i:Int)∧(i:Int)<(l.length:Int):=by omega
    have c2:b.length+1≤DE:=by rw[Au];omega
    rw[AMp c1.2,AMp c1,AMp c2,AJ (by omega) (by omega),show((i:Int)+1)=((i+1:Nat):Int)by omega,Am dj,ih (i+1) _ (by omega) (by omega) (by simp_all),drop_cons dj];grind
   ·rw[AM5 (by omega),ANl (by omega),AYM,AN6,show(c.1,c.2.1,())=c from rfl,HD hc (by omega)]
    rfl
 have:=key Ac 0 [] (by omega) (Ae (by omega)) rfl;rw[show((0:Nat):Int)=0 from rfl,AT_,AT6]at this;exact this
theorem V4{r:Ah}(h:r.2.2.1.length≤2^30):CL r=some (((r.1,r.2.1,(),()),()),(r.2.2.1,())):=by
 unfold CL;rw[AMp (by rw[Au];omega)]
theorem c_{r:Ah}{e:BR}{x y:Int}(h:r.2.2.1.length≤2^30):Is r e x y=some (((x,y,(),()),()),(r.2.2.1++[e],())):=by
 unfold Is;rw[show(r.1,r.2.1,r.2.2.1,())=r from rfl,V4 h];simp only[AD];rw[AMp (by rw[Au];omega)]
theorem nz{s:AAG}{p:Int}{l:List A6}(hs:s.length≤2^20)(hl:l.length≤2^20)(U2:∀a∈l,CO a.2.2.1):
  Mx s p l=some ((UT p (I2 s p none l),()),()):=by
 have key:∀(n i:Nat) (b:Option AK),i≤l.length→l.length-i<n→
   Na n s p l b.isSome i 0 0 [] (b.getD Dy).1 (b.getD Dy).2.1 (b.getD Dy).2.2.1 (b.getD Dy).2.2.2.1=some ((UT p (I2 s p b (l.drop i)),()),()):=by
  intro n
  induction n with
  |zero=>omega
  |succ n ih=>
   intro i b hi h;simp only[Na,YU,AB,A0];by_cases dj:i<l.length
   ·have c1:(0:Int)≤(i:Int)∧(i:Int)<(l.length:Int):=by omega
    rw[AMp c1.2,AMp c1,AJ (by omega) (by omega),show((i:Int)+1)=((i+1:Nat):Int)by omega,Am dj,drop_cons dj];have ih':=fun b=>ih (i+1) b (by omega) (by omega)
    simp only[ih'];rw[KV (by omega),show(l[i].2.2.1,l[i].2.2.2.1,l[i].2.2.2.2.1,l[i].2.2.2.2.2.1,())=XD l[i]from rfl];rw[Qt (e:=XD l[i]) (U2 _ (ANa dj))];simp only[AD,I2];cases h1:l[i].2.1 with
    |false=>simp
    |true=>
     cases h2:s.contains l[i].1 with
     |false=>simp
     |true=>
      cases h3:F7 (XD l[i])with
      |false=>simp
      |true=>
       simp only[ANk,ANr];by_cases h4:l[i].2.2.1=p
       ·rw[Cs,AMp h4,AMp (by show((XD l[i]).1==p)=true;rw[AUP];exact h4)]
        cases b with
        |none=>
         simp only[AUH,ANI,Yg,AD,Option.getD_none];have:=ih' (some (XD l[i]));simp only[AUI,AUJ]at this;have hb:better (XD l[i]) (XD l[i])=XD l[i]:=by unfold better;simp_all
         simp_all
        |some x=>
         simp only[AUI,ANk,AUJ];rw[show(x.1,x.2.1,x.2.2.1,x.2.2.2.1,())=x from rfl];grind[Yg,AD,better,XD,Option.isSome_some]
       ·rw[Cs,AM5 h4,AM5 (by show¬((XD l[i]).1==p)=true;rw[AUP];exact h4)]
   ·rw[AM5 (by omega),ANl (by omega)]
    simp only[I2];cases b with
    |none=>rfl
    |some x=>
     simp only[AUI,ANk,AUJ,UT];grind
 exact key Ac 0 none (by omega) (Ae (by omega))
theorem jm{x:Int}:0≤Cp x∧Cp x≤60:=by
 cases h:Bf x with
 |true=>have:=(EV h).2.1;omega
 |false=>unfold Cp;simp_all
def AAU(q:Ah×Int):Zd:=((((q.1.1,q.1.2.1,(),()),q.2,()),()),(q.1.2.2.1,()))
theorem jB{c:Bz}{g:AO}{sure:Int}{r:Ah}{l:List A6}(hc:c.1.length≤2^20)(hg:AX Bh g.1≤2^20)(ht:CO g.2.1)(hl:l.length≤2^20)(U2:∀a∈l,CO a.2.2.1):
  Q1 c g sure r l=some (AAU (Df c g sure r l)):=by
 unfold Q1 Df;rw[show(c.1,c.2.1,())=c from rfl,show(g.1,g.2.1,())=g from rfl,show(r.1,r.2.1,r.2.2.1,())=r from rfl,mO (by omega) hl,QT (by omega) (by omega) ht,Pk];simp only[AD,A0,AB];cases h1:On c g with
 |false=>rfl
 |true=>
 cases h2:ae r with
 |false=>rfl
 |true=>
 cases h3:A9 c (l.map fun a=>a.1)with
 |false=>rfl
 |true=>
 have hr:=Xd.1 h2;have hre:=hr.ep;have hro:=hr.off;have hrn:=hr.n;have hR:=KC.1 h1;have hRn:=hR.n;simp only[ANk,ANr,ANX,ANZ,AQ7];rw[V4 (by omega)];simp only[AD];by_cases h4:r.1>(g.1.length:Int)
 ·rw[AMp h4,ATy h4];rfl
 rw[AM5 h4,AUG h4];by_cases h5:r.2.2.1.length=120
 ·rw[show(((r.2.2.1.length:Nat):Int)==120)=true by simp_all,ATy h5];rfl
 rw[show(((r.2.2.1.length:Nat):Int)==120)=false by grind,AUG h5];simp only[ANI,AT5,ANZ,AQ7];rw[AJ (x:=r.1-1) (by omega) (by omega),AMp (by omega),FD (by omega) (by omega),EN ht,Z5 ht];simp only[AD];have hto:=jm (x:=g.2.1);rw[AJ (x:=Cp g.2.1+1) (by omega) (by omega),AJ (x:=r.1+1) (by omega) (by omega),AJ (x:=r.2.1+1) (by omega) (by omega)];simp only[c_ (r:=r) (by omega),AD];by_cases h6:g.2.1≥Ge r.1 r.2.1
 ·rw[AMp h6,AMp h6];rfl
 rw[AM5 h6,AM5 h6]
 generalize ADw:g.1.getD (r.1-1).toNat HG=era
 have Hh:(r.1-1).toNat<g.1.length:=by omega
 have VO:era.1.length≤2^20:=by
  have h7:=Aa (f:=Bh) (Ba (d:=HG) Hh);rw[ADw]at h7;have:Bh era=era.1.length:=rfl;omega
 have tail:((Ke (l.map fun a=>a.1) era.1).bind fun Li=>
   (Km c era.1 Li.2.1).bind fun nM=>
   cond (nM.1.1)
    ((Mx era.1 (Ge r.1 r.2.1) l).bind fun aQ=>
    some ((((r.1,r.2.1+1,(),()),0,()),()),(r.2.2.1++[(aQ.1.1.1,aQ.1.1.2.1,aQ.1.1.2.2.1,())],())))
    (some ((((r.1,r.2.1,(),()),3,()),()),(r.2.2.1,()))))=
   some (AAU (if !Q_ c era.1 ((l.map fun a=>a.1).filter era.1.contains)then(r,3)else
    ((r.1,r.2.1+1,r.2.2.1++[UT (Ge r.1 r.2.1) (I2 era.1 (Ge r.1 r.2.1) none l)],()),0))):=by
  have hf:((l.map fun a=>a.1).filter era.1.contains).length≤2^20:=ASX (ARp _ _) (by simp_all);rw[fE (by simp_all) VO,nz VO hl U2];simp only[AD];rw[fL (by omega) hf VO];simp only[AD,c_ (r:=r) (by omega)];cases Q_ c era.1 ((l.map fun a=>a.1).filter era.1.contains)<;>rfl
 have hd:g.1.getD (r.1-1).toNat ([],false,0,())=era:=ADw;rw[hd];simp only[tail];cases h7:era.2.1 with
 |true=>
  simp only[ANk,ANI,ANr,ANX,AUC,AT5,ANo];by_cases h8:r.2.1>era.2.2.1
  ·rw[AMp h8,AMp h8];rfl
  rw[AM5 h8,AM5 h8];by_cases h9:r.2.1>60
  ·rw[AMp h9,AMp h9];rfl
  grind
 |false=>
  simp only[ANk,ANI,ANr,ATb,AUC,ANZ,AQ7,AUE,ANo];by_cases h8:r.2.1>sure
  ·rw[AMp h8,AMp (.inl h8)];rfl
  rw[AM5 h8];by_cases h9:r.2.1>60
  ·rw[AMp h9,AMp (.inr h9)];rfl
  grind
end Go.M
end
section
set_option maxRecDepth 8000
namespace Go.M
open Go.M.H (AK AQ Av Af AA CR AO Ay AR Ah BR A6 BN Al CD AX AW Aa Ai Bh A4 Ap)
theorem r8{c:Bz}{l:AAG}(hc:c.1.length≤2^20)(hl:l.length≤2^20):Zu c l=some ((A9 c l&& !holds c l,()),()):=by
 unfold Zu;rw[show(c.1,c.2.1,())=c from rfl,HD (by omega) (by omega),D3 (by omega) (by omega)];grind
theorem lE{ss:List AQ}(hs:ss.length≤1024)(h:∀s∈ss,s.1.length≤1024):Z1 ss=some (((),()),(Gz [] ss,())):=by
 have key:∀n:Nat,
   (∀(i:Nat) (b:List AK),i≤ss.length→(ss.length-i)*1026+1≤n→b.length≤i*1024→
    JN n ss i b=some (((),()),(Gz b (ss.drop i),())))∧
   (∀(i j:Nat) (b:List AK),(hi:i<ss.length)→j≤ss[i].1.length→(ss.length-i-1)*1026+1+(ss[i].1.length-j)+1≤n→b.length≤i*1024+j→
    JU n ss i j b=some (((),()),(Gz (ED b (ss[i].1.drop j)) (ss.drop (i+1)),()))):=by
  intro n
  induction n with
  |zero=>simp_all
  |succ n ih=>
   refine⟨fun i b hi h' hb=> ?_,fun i j b hi hj h' hb=> ?_⟩
   ·simp only[JN,Wu,AB]
    by_cases hc:i<ss.length
    ·rw[AMp (by omega)]
     have hm:=h _ (ANa hc);have e1:(ss.length-i)*1026=(ss.length-i-1)*1026+1026:=by
      omega
     have:=ih.2 i 0 b hc (by omega) (by omega) (by omega);rw[show((0:Nat):Int)=0 from rfl,AT_]at this;rw[this,drop_cons hc];rfl
    ·rw[AM5 (by omega),ANl (by omega)]
     rfl
   ·have hm:=h _ (ANa hi)
    simp only[JU,Wo,AB];have c1:(0:Int)≤(i:Int)∧(i:Int)<(ss.length:Int):=by omega
    rw[AMp c1,Am hi];simp only[AMp c1];have hbb:i*1024≤2^20:=by
     omega
    by_cases hc:j<ss[i].1.length
    ·have c2:(0:Int)≤(j:Int)∧(j:Int)<(ss[i].1.length:Int):=by omega
     rw[AMp c2.2,AMp c2,Am hc,show(ss[i].1[j].1,ss[i].1[j].2.1,ss[i].1[j].2.2.1,ss[i].1[j].2.2.2.1,())=ss[i].1[j]from rfl,YJ (by omega)];simp only[AD];rw[AJ (by omega) (by omega),show((j:Int)+1)=((j+1:Nat):Int)by omega,drop_cons hc];have hk:=YN (e:=ss[i].1[j]) (l:=b);exact ih.2 i (j+1) _ hi (by omega) (by omega) (by omega)
    ·rw[AM5 (by omega),AJ (by omega) (by omega),show((i:Int)+1)=((i+1:Nat):Int)by omega,ANl (by omega)]
     exact ih.1 (i+1) b (by omega) (by grind) (by omega)
 have hf:(ss.length-0)*1026+1≤Ac:=by
  have:ss.length*1026≤1024*1026:=AP0 _ hs;exact AV2 (Ae (by omega))
 exact(key Ac).1 0 [] (by omega) hf (by simp)
theorem zj(e:AK):∀l:List AK,AX Ai (keep e l)≤AX Ai l+(1+Ai e)
 |[]=>by simp[keep,AX]
 |x::l=>by
  have:=zj e l;grind[keep,better,AX]
theorem wN:∀{l k:List AK},AX Ai (ED k l)≤AX Ai k+AX Ai l
 |[],k=>by simp[ED,AX]
 |e::l,k=>by
  have h1:=wN (l:=l) (k:=keep e k);grind[zj,ED,AX]
theorem y_:∀{l:List AQ} {k:List AK},AX Ai (Gz k l)≤AX Ai k+AX Al l
 |[],k=>by simp[Gz,AX]
 |s::l,k=>by
  have h1:=y_ (l:=l) (k:=ED k s.1);have h2:=wN (l:=s.1) (k:=k);have:Al s=AX Ai s.1+AX Ai s.2.1:=rfl;grind[Gz,AX]
theorem lA{y:AK}:∀{l:List AQ} {k:List AK},y∈Gz k l→y∈k∨ ∃s∈l,y∈s.1
 |[],k,h=> .inl h
 |s::l,k,h=>by
  rcases lA (l:=l) h with h|⟨t,ht,h⟩
  all_goals grind[eR]
def xg(b:Bool)(x:AQ):AQ×Bool:=if b then(x,true)else(Dk,false)
def pkF(ss:List AQ)(q:AQ×Bool):Ox:=(((((),(),q.1.2.2.1,()),q.2,()),()),(ss,q.1.1,q.1.2.1,()))
theorem vZ{c:Bz}{ss:List AQ}{lost:AAG}{n upto:Int}(hc:c.1.length≤2^20)(hs:ss.length≤1024)(hn:∀s∈ss,s.1.length≤1024)(hw:AX Al ss≤2^24)(U2:∀s∈ss,kH s)(hl:lost.length≤2^20):
  fl c lost n upto ss=some (pkF ss (al c ss lost n upto)):=by
 have hfs:al c ss lost n upto=xg (GB c&&(decide (ss.length=c.1.length)&&(A9 c lost&&(!holds c lost&&(lost.contains n&&((others lost 0 ss).all B8&&B8 (Gz [] (others lost 0 ss),[],upto,()))))))) (Gz [] (others lost 0 ss),[],upto,()):=rfl;rw[hfs];unfold fl dG;rw[show(c.1,c.2.1,())=c from rfl,HX (by omega),r8 hc hl,KV (by omega)];simp only[AD,A0,Cs];have k11:∀(k i:Nat) (o:List AQ),(∀s∈o,s∈ss)→o.length≤ss.length→AX Al o≤2^24→i≤o.length→o.length-i<k→
   Nn k upto i ss 0 [] [] 0 [] [] o=some (pkF ss (xg ((o.drop i).all B8&&B8 (Gz [] o,[],upto,())) (Gz [] o,[],upto,()))):=by
  intro k
  induction k with
  |zero=>omega
  |succ k ih=>
   intro i o ho hol how hi h;simp only[Nn,ag,AB,A0];by_cases Dn:i<o.length
   ·have c1:(0:Int)≤(i:Int)∧(i:Int)<(o.length:Int):=by omega
    have hm:=ho _ (ANa Dn);have hws:=Aa (f:=Al) hm;rw[AMp c1.2,AMp c1,Am Dn,show(o[i].1,o[i].2.1,o[i].2.2.1,())=o[i]from rfl,F8 (by omega) (U2 _ hm),AJ (by omega) (by omega),show((i:Int)+1)=((i+1:Nat):Int)by omega,ih (i+1) o ho hol how (by omega) (by omega),drop_cons Dn];simp only[AD,AUT];rcases AMo (B8 o[i])with hb|hb<;>rw[hb]
    all_goals rfl
   ·rw[AM5 (by omega),ANl (by omega),lE (by omega) (fun s hs=>hn s (ho s hs))]
    have hu:=y_ (l:=o) (k:=[]);simp only[AX]at hu;simp only[AD];rw[F8 (s:=(Gz [] o,[],upto,())) (by show AX Ai (Gz [] o)+AX Ai []≤_;grind[AX]) ⟨fun e he=>by
     rcases lA he with he|⟨t,ht,he⟩
     ·simp_all
     ·exact(U2 t (ho t ht)).1 e he,fun e he=>by simp_all⟩]
    simp only[AD,List.all_nil,ANr];rcases AMo (B8 (Gz [] o,[],upto,()))with hb|hb<;>rw[hb]<;>rfl
 have k6:∀(k i:Nat) (o:List AQ),(∀s∈o,s∈ss)→i≤ss.length→(ss.length-i)+ss.length+2≤k→o.length≤i→AX Al o+AX Al (ss.drop i)≤2^24→
   PZ k lost upto i ss 0 [] [] 0 [] [] o=some (pkF ss (xg ((o++others lost i (ss.drop i)).all B8&&B8 (Gz [] (o++others lost i (ss.drop i)),[],upto,())) (Gz [] (o++others lost i (ss.drop i)),[],upto,()))):=by
  intro k
  induction k with
  |zero=>omega
  |succ k ih=>
   intro i o ho hi h hol how;simp only[PZ,dD,AB,A0];by_cases Dn:i<ss.length
   ·have c1:(0:Int)≤(i:Int)∧(i:Int)<(ss.length:Int):=by omega
    have c2:o.length+1≤DE:=by rw[Au];omega
    rw[drop_cons Dn]at how;simp only[AX]at how;have hws:Al ss[i]+(AX Ai []+0)=Al ss[i]:=rfl;rw[AMp c1.2,KV (by omega),AMp c1,AMp c2,Am Dn,show(ss[i].1,ss[i].2.1,ss[i].2.2.1,())=ss[i]from rfl,AJ (by omega) (by omega),show((i:Int)+1)=((i+1:Nat):Int)by omega];simp only[AD];rw[ih (i+1) o ho (by omega) (by omega) (by omega) (by omega)];rw[ih (i+1) (o++[ss[i]]) (fun s hs=>by
     grind) (by omega) (by omega) (by simp_all) (by grind[I8,AX])]
    rw[drop_cons Dn];simp only[others];grind
   ·have:=k11 k 0 o ho (by omega) (by omega) (by omega) (by omega)
    rw[show((0:Nat):Int)=0 from rfl,AT_]at this;rw[AM5 (by omega),this,ANl (by omega)];simp only[others,AN6]
 have:=k6 Ac 0 [] (by simp) (by omega) (AV2 (Ae (by omega))) (by simp) (by grind[AX]);rw[show((0:Nat):Int)=0 from rfl,AT_,AT6]at this;rw[this];rcases AMo (GB c)with h1|h1
 rotate_left
 ·rw[h1];rfl
 by_cases h2:ss.length=c.1.length
 rotate_left
 ·rw[AM5 (by omega),h1,AUG h2];rfl
 rw[AMp (by omega),h1,ATy h2];rcases AMo (A9 c lost)with h3|h3
 rotate_left
 ·rw[h3];rfl
 rw[h3];rcases AMo (holds c lost)with h4|h4
 ·rw[h4];rfl
 rw[h4];rcases AMo (lost.contains n)with h5|h5
 rotate_left
 ·rw[h5];rfl
 simp_all
end Go.M
end
section
namespace Go.M
open Go.M.H (AK AQ Av Af AA CR AO Ay AR Ah BR A6 BN)
theorem fK{α:Type}{l:List α}{i j:Nat}{x d:α}(hi:i<l.length):(l.set i x).getD j d=if i=j then x else l.getD j d:=by
 grind
theorem LK{w:AA}{n:Int}(h:Aw w n=0):0≤n∧n<w.Aq.length∧n∉w.lost:=by
 unfold Aw at h;split at h
 ·omega
 rename_i h1;simp only[AQS,AQk,Ak]at h1;grind
theorem pV{s x:Af}:∀{l:List Af},x∈V2 s l↔x=s∨x∈l
 |[]=>by simp[V2]
 |y::l=>by
  simp only[V2];split
  ·simp
  ·simp only[AQQ,pV (l:=l)]
   grind
theorem rY{s:Af}:∀{l:List Af},(V2 s l).length=l.length+1
 |[]=>rfl
 |y::l=>by
  simp only[V2];split
  ·rfl
  ·simp only[AOw,rY (l:=l)]
theorem xL{s:Af}:∀{l:List Af},Uc (fun s:Af=>s.1) l→(∀x∈l,x.1≠s.1)→Uc (fun s:Af=>s.1) (V2 s l)
 |[],_,_=>by simp[V2,Uc]
 |y::l,h,hs=>by
  have h':=h;simp only[Uc,ARx]at h;simp only[V2];split
  ·rename_i hy
   simp only[Uc,ARx,AQQ];grind
  ·rename_i hy
   simp only[Uc,ARx];refine⟨fun a ha=> ?_,xL h.2 fun x hx=>hs x (by simp[hx])⟩;rcases pV.1 ha with rfl|ha
   all_goals grind
section
variable{w:AA} (h:Me w)
include h
theorem Me.node{n:Int}(hn:Aw w n=0):(0≤n∧n<(AY w).1.length)∧n.toNat<w.Aq.length∧n∉w.lost:=by
 obtain⟨a,b,c⟩:=LK hn;have:=h.nw;exact⟨⟨a,by show n<(w.1.length:Int);omega⟩,by omega,c⟩
theorem Me.ql{n:Int}(hn:Aw w n=0){s:AQ}(hs:cZ s):Me (w.Bj (w.Aq.set n.toNat s)):=by
 obtain⟨h1,h2,h3⟩:=h.node hn;refine⟨h.cfg,by(try simp only[H.AA.Aq,H.AA.lost,H.AA.Ao,H.AA.trim,H.AA.AG,H.AA.CE,H.AA.Aj,H.AA.AU,H.AA.GU,H.AA.Bj,H.AA.FO,H.AA.Iz,H.AA.BZ,H.AA.Cd,H.AA.DB,H.AA.Ax,H.AA.Ff,CJ,AY]at*);simpa using h.nw,h.lost,h.GU,fun i hi=> ?_,h.lU,h.sU,h.x_,h.AG,h.dm,h.CE,h.sv,h.Aj,h.OS,h.AU,h.XF⟩
 (try simp only[H.AA.Aq,H.AA.lost,H.AA.Ao,H.AA.trim,H.AA.AG,H.AA.CE,H.AA.Aj,H.AA.AU,H.AA.GU,H.AA.Bj,H.AA.FO,H.AA.Iz,H.AA.BZ,H.AA.Cd,H.AA.DB,H.AA.Ax,H.AA.Ff,CJ,AY]at*);simp only[AUM]at hi
 simp only[fK h2];split
 ·grind
 ·exact h.Aq i hi
theorem Me.store{n:Int}(hn:Aw w n=0):cZ (storeAt w n):=(h.Aq _ (h.node hn).2.1).1
theorem jQ{n:Int}{q:AQ×Bool}(hn:Aw w n=0)(hs:q.2=true→cZ q.1)(e:(putAt w n q).2=0):Me (putAt w n q).1:=by
 unfold putAt at*;split at e
 ·rename_i hq
  rw[AMp hq];exact h.ql hn (hs hq)
 omega
theorem AG7{a:Int}(e:(PR w a).2=0):Me (PR w a).1:=by
 unfold PR at*;split at e
 ·omega
 rename_i h4;rw[AM5 h4];simp only at e⊢;split at e
 ·omega
 rename_i hq;rw[AM5 hq];simp only[AQS,AQk]at hq;obtain⟨_,r1,r2,r3,r4,r5⟩:=rX hq;rw[r2]at r1;rw[r2,r3];have hnw:=h.sU;have hl:((CJ w).1++[(BU a,false,0,())]).length=w.Ao.length+1:=by simp[CJ]
 refine⟨h.cfg,h.nw,h.lost,h.GU,h.Aq,r1,?_,by(try simp only[H.AA.Aq,H.AA.lost,H.AA.Ao,H.AA.trim,H.AA.AG,H.AA.CE,H.AA.Aj,H.AA.AU,H.AA.GU,H.AA.Bj,H.AA.FO,H.AA.Iz,H.AA.BZ,H.AA.Cd,H.AA.DB,H.AA.Ax,H.AA.Ff,CJ,AY]at*);simp,fun x hx=> ?_,?_,fun m hm=>by grind,h.sv,h.Aj,h.OS,fun s hs=> ?_,h.XF⟩
 ·grind
 ·replace hx:x∈w.AG++[((w.Ao.length:Int)+1,[],())]:=hx
  simp only[AOt,AT3]at hx;have Afr:w.Ao.length<30:=r5;have mM:(((CJ w).1++[(BU a,false,0,())]).length:Int)=(w.Ao.length:Int)+1:=by omega
  show cO (AY w) x∧x.1≤(((CJ w).1++[(BU a,false,0,())]).length:Int)
  rw[mM];rcases hx with hx|rfl
  ·have:=h.AG x hx
   grind
  ·exact⟨⟨h.cfg,by omega,by simp,by simp,by simp[Rk]⟩,by omega⟩
 ·show Uc (fun x:AR=>x.1) (w.AG++[((w.Ao.length:Int)+1,[],())])
  simp only[Uc,List.pairwise_append,ARx,List.Pairwise.nil,AT3,AUD];refine⟨h.dm,by simp,fun x hx y hy=> ?_⟩;subst hy;have:=(h.AG x hx).2;omega
 ·have:=h.AU s hs
  grind
end
section
variable{w:AA} (h:Me w)
include h
theorem AFb{a:Int}{d:ABp}(hd:d.length≤40)(e:(doAdd w a d).2=0):Me (doAdd w a d).1:=by
 unfold doAdd at*;split at e
 ·omega
 rename_i ha;rw[AM5 ha];simp only[AQS,AQk,Ak]at ha;simp only at e⊢;split at e
 ·omega
 rename_i hq;rw[AM5 hq];simp only[AUE,not_or,AQS,AQk,AUu,AYT,AUP]at hq;obtain⟨hq,h120,hno⟩:=hq;have hi:a.toNat<w.AG.length:=by omega
 have hx:=h.AG _ (Ba (d:=Ag) hi);obtain⟨_,r1,r2,r3⟩:=W_ hq;rw[r2]at r1;rw[r2,r3];rw[r3]at hno;have hnn:=r1.n;simp only[AQU,AOw,ARW]at hnn;obtain⟨p1,p2,p3⟩:=IU (e:=(w.AG.getD a.toNat Ag).1) (o:=((w.AG.getD a.toNat Ag).2.1.length:Int)+1) hx.1.ep (by omega);have tP:=h.OS;refine⟨h.cfg,h.nw,h.lost,h.GU,h.Aq,h.lU,by(try simp only[H.AA.Aq,H.AA.lost,H.AA.Ao,H.AA.trim,H.AA.AG,H.AA.CE,H.AA.Aj,H.AA.AU,H.AA.GU,H.AA.Bj,H.AA.FO,H.AA.Iz,H.AA.BZ,H.AA.Cd,H.AA.DB,H.AA.Ax,H.AA.Ff,CJ,AY]at*);simpa using h.sU,h.x_,fun x wF=> ?_,?_,h.CE,h.sv,h.Aj,by grind[rY],fun s hs=> ?_,xL h.XF fun x hx=>by grind⟩
 ·rcases AT7 wF with wF|rfl
  ·exact h.AG x wF
  ·exact⟨r1,hx.2⟩
 ·have:=h.dm
  show Uc (fun x:AR=>x.1) (w.AG.set a.toNat ((w.AG.getD a.toNat Ag).1,(w.AG.getD a.toNat Ag).2.1++[(d,[],false,())],()))
  simp only[Uc,List.pairwise_iff_getElem,List.getElem_set,AUM]at this⊢;grind
 ·rcases pV.1 hs with rfl|hs
  ·simp_all
  ·exact h.AU s hs
theorem xF{a b n:Int}(e:(Gt w a b n).2=0):Me (Gt w a b n).1:=by
 unfold Gt at*;split at e
 ·omega
 rename_i h1;rw[AM5 h1];simp only at e⊢;split at e
 ·omega
 rename_i h2;rw[AM5 h2];split at e
 ·omega
 rename_i h3;rw[AM5 h3];split at e
 ·omega
 rename_i h4;rw[AM5 h4];grind[jQ,Zg]
theorem fY{all:Bool}{s:AQ}{n:Int}(hn:0≤n∧n<(AY w).1.length):∀{ws:List AR} {ss:List Af},
  (Ec all (AY w) s w.Ao n ws ss).1=ws.map (fun x=>if J_ s w.Ao n x then(x.1,A8 (AY w) s x.1 n 1 x.2.1,())else x)∧
  (Ec all (AY w) s w.Ao n ws ss).2.map (fun x=>(x.1,x.2.1))=ss.map (fun x=>(x.1,x.2.1))
 |[],ss=>⟨rfl,rfl⟩
 |x::ws,ss=>by
  simp only[Ec,AVt];split
  ·rename_i ht
   obtain⟨h1,h2⟩:=fY hn (ws:=ws) (ss:=ss.map (P_ all x.1 x.2.1 (A8 (AY w) s x.1 n 1 x.2.1)));rw[h1,h2];exact⟨rfl,by rw[AVu];rfl⟩
  ·obtain⟨h1,h2⟩:=fY hn (ws:=ws) (ss:=ss)
   rw[h1,h2];simp_all
theorem ABF{all:Bool}{n:Int}(e:(MT all w n).2=0):Me (MT all w n).1:=by
 unfold MT at*;split at e
 ·omega
 rename_i h1;rw[AM5 h1];simp only at e⊢;split at e
 ·omega
 rename_i h2;rw[AM5 h2];simp only[ne_eq,AYU]at h1;simp only[AQS,AQk]at h2;have hn:=(h.node h1).1;obtain⟨s1,s2,s3⟩:=K8 h2;have hw:=h.ql h1 s2;obtain⟨t1,t2⟩:=fY h (all:=all) (s:=(Bk (storeAt w n)).1) hn (ws:=w.AG) (ss:=w.AU);have ms:∀x∈(Ec all (AY w) (Bk (storeAt w n)).1 w.Ao n w.AG w.AU).2,∃y∈w.AU,x.1=y.1∧x.2.1=y.2.1:=fun x hx=>by
  have:(x.1,x.2.1)∈w.AU.map (fun x=>(x.1,x.2.1)):=by grind
  simp_all
 have ml:(Ec all (AY w) (Bk (storeAt w n)).1 w.Ao n w.AG w.AU).2.length=w.AU.length:=by
  have:=congrArg List.length t2;grind
 have ma:Uc (fun s:Af=>s.1) (Ec all (AY w) (Bk (storeAt w n)).1 w.Ao n w.AG w.AU).2:=by
  have h1:(Ec all (AY w) (Bk (storeAt w n)).1 w.Ao n w.AG w.AU).2.map (fun x=>x.1)=w.AU.map (fun x=>x.1):=by
   have:=congrArg (List.map Prod.fst) t2;rw[AVu,AVu]at this;exact this
  have h2:(w.AU.map (fun x:Af=>x.1)).Pairwise (· < ·):=AXI.2 h.XF;grind
 refine⟨h.cfg,hw.nw,h.lost,h.GU,hw.Aq,h.lU,by(try simp only[H.AA.Aq,H.AA.lost,H.AA.Ao,H.AA.trim,H.AA.AG,H.AA.CE,H.AA.Aj,H.AA.AU,H.AA.GU,H.AA.Bj,H.AA.FO,H.AA.Iz,H.AA.BZ,H.AA.Cd,H.AA.DB,H.AA.Ax,H.AA.Ff,CJ,AY]at*);simp only[t1,AWH];exact h.sU,by(try simp only[H.AA.Aq,H.AA.lost,H.AA.Ao,H.AA.trim,H.AA.AG,H.AA.CE,H.AA.Aj,H.AA.AU,H.AA.GU,H.AA.Bj,H.AA.FO,H.AA.Iz,H.AA.BZ,H.AA.Cd,H.AA.DB,H.AA.Ax,H.AA.Ff,CJ,AY]at*);simpa using h.x_,fun x hx=> ?_,?_,fun m hm=> ?_,h.sv,h.Aj,by(try simp only[H.AA.Aq,H.AA.lost,H.AA.Ao,H.AA.trim,H.AA.AG,H.AA.CE,H.AA.Aj,H.AA.AU,H.AA.GU,H.AA.Bj,H.AA.FO,H.AA.Iz,H.AA.BZ,H.AA.Cd,H.AA.DB,H.AA.Ax,H.AA.Ff,CJ,AY]at*);simp only[ml];exact h.OS,fun x hx=> ?_,ma⟩
 ·(try simp only[H.AA.Aq,H.AA.lost,H.AA.Ao,H.AA.trim,H.AA.AG,H.AA.CE,H.AA.Aj,H.AA.AU,H.AA.GU,H.AA.Bj,H.AA.FO,H.AA.Iz,H.AA.BZ,H.AA.Cd,H.AA.DB,H.AA.Ax,H.AA.Ff,CJ,AY]at*);simp only[t1]at hx
  obtain⟨y,hy,rfl⟩:=AUR.1 hx;have hy':=h.AG y hy;split
  ·obtain⟨k1,k2,k3⟩:=XT (s:=(Bk (storeAt w n)).1) (ep:=y.1) hn (o:=1) hy'.1.words
   exact⟨⟨h.cfg,hy'.1.ep,k3▸hy'.1.n,k1,ASX k2 hy'.1.opn⟩,hy'.2⟩
  ·exact hy'
 ·show Uc (fun x:AR=>x.1) (Ec all (AY w) (Bk (storeAt w n)).1 w.Ao n w.AG w.AU).1
  rw[t1];simp only[Uc,AXI];refine h.dm.imp fun{a b} sC=> ?_
  grind
 ·obtain⟨y,hy,rfl⟩:=AUR.1 hm
  have hy':=h.CE y hy;refine⟨AFM hn hy'.1,?_⟩;grind[LP]
 ·obtain⟨y,hy,e1,e2⟩:=ms x hx
  have:=h.AU y hy;simp_all
theorem AGT{n k:Int}(e:(Kj w n k).2=0):Me (Kj w n k).1:=by
 unfold Kj at*;split at e
 ·omega
 rename_i h1;rw[AM5 h1];exact jQ h (by omega) (fun hq=>(K8 hq).2.1) e
theorem AEz{n:Int}(e:(K0 w n).2=0):Me (K0 w n).1:=by
 unfold K0 at*;split at e
 ·omega
 rename_i h1;rw[AM5 h1];exact jQ h (by omega) (fun hq=>(vU hq).2.1) e
theorem AKZ{n:Int}(e:(PA w n).2=0):Me (PA w n).1:=by
 unfold PA at*;split at e
 ·omega
 rename_i h1;rw[AM5 h1];simp only[ne_eq,AYU]at h1;obtain⟨hn,hn2,hn3⟩:=h.node h1;have fw:∀x∈w.AG,(CF (AY w) x n).1=(x.1,x.2.1.map (E4 n),()):=fun x hx=>(dO (h.AG x hx).1).2
 refine⟨h.cfg,by(try simp only[H.AA.Aq,H.AA.lost,H.AA.Ao,H.AA.trim,H.AA.AG,H.AA.CE,H.AA.Aj,H.AA.AU,H.AA.GU,H.AA.Bj,H.AA.FO,H.AA.Iz,H.AA.BZ,H.AA.Cd,H.AA.DB,H.AA.Ax,H.AA.Ff,CJ,AY]at*);simpa using h.nw,Ka h.lost hn,?_,fun i hi=> ?_,h.lU,by(try simp only[H.AA.Aq,H.AA.lost,H.AA.Ao,H.AA.trim,H.AA.AG,H.AA.CE,H.AA.Aj,H.AA.AU,H.AA.GU,H.AA.Bj,H.AA.FO,H.AA.Iz,H.AA.BZ,H.AA.Cd,H.AA.DB,H.AA.Ax,H.AA.Ff,CJ,AY]at*);simpa using h.sU,by(try simp only[H.AA.Aq,H.AA.lost,H.AA.Ao,H.AA.trim,H.AA.AG,H.AA.CE,H.AA.Aj,H.AA.AU,H.AA.GU,H.AA.Bj,H.AA.FO,H.AA.Iz,H.AA.BZ,H.AA.Cd,H.AA.DB,H.AA.Ax,H.AA.Ff,CJ,AY]at*);simpa using h.x_,fun x hx=> ?_,?_,fun m hm=> ?_,h.sv,h.Aj,h.OS,h.AU,h.XF⟩
 ·grind[holds,AY,N2]
 ·(try simp only[H.AA.Aq,H.AA.lost,H.AA.Ao,H.AA.trim,H.AA.AG,H.AA.CE,H.AA.Aj,H.AA.AU,H.AA.GU,H.AA.Bj,H.AA.FO,H.AA.Iz,H.AA.BZ,H.AA.Cd,H.AA.DB,H.AA.Ax,H.AA.Ff,CJ,AY]at*);simp only[AUM]at hi
  simp only[fK hn2];split
  ·exact⟨cZ.nil,fun _=>rfl⟩
  ·rename_i fT
   refine⟨(h.Aq i hi).1,fun hl=>(h.Aq i hi).2 ?_⟩;grind[pk]
 ·obtain⟨y,hy,rfl⟩:=AUR.1 hx
  have hy':=h.AG y hy;refine⟨(dO hy'.1).1,?_⟩;simp_all
 ·(try simp only[H.AA.Aq,H.AA.lost,H.AA.Ao,H.AA.trim,H.AA.AG,H.AA.CE,H.AA.Aj,H.AA.AU,H.AA.GU,H.AA.Bj,H.AA.FO,H.AA.Iz,H.AA.BZ,H.AA.Cd,H.AA.DB,H.AA.Ax,H.AA.Ff,CJ,AY]at*);simp only[Uc,AXI]
  refine List.Pairwise.imp_of_mem (fun{a b} ha hb sC=> ?_) h.dm;simp_all
 ·obtain⟨y,hy,rfl⟩:=AUR.1 hm
  have hy':=h.CE y hy;obtain⟨k1,k2⟩:=sb (n:=n) hy'.1;refine⟨k1,?_⟩;simp_all
theorem ALu{n:Int}(e:(O0 w n).2=0):Me (O0 w n).1:=by
 unfold O0 at*;split at e
 ·omega
 rename_i h1;rw[AM5 h1];simp only at e⊢;split at e
 ·omega
 rename_i h2;rw[AM5 h2];simp only[AQS,AQk]at h1 h2;obtain⟨s1,s2,s3,s4⟩:=AEs h2;rw[List.contains_eq_mem,ANo]at h1;have hnn:=(DO.1 h.lost).2.1 n h1;have tP:=h.nw;have hn2:n.toNat<w.Aq.length:=by
  have:n<(w.1.length:Int):=hnn.2;omega
 refine⟨h.cfg,by grind,Sg _ h.lost,?_,fun i hi=> ?_,h.lU,h.sU,h.x_,h.AG,h.dm,h.CE,h.sv,h.Aj,h.OS,h.AU,h.XF⟩
 ·refine .inr ?_
  rw[AUQ];intro hh
  replace hh:holds (AY w) (less w.lost [n])=true:=hh
  have:=gq (m:=w.lost) hh h.lost fun x hx=>(AUN.1 hx).1
  simp_all
 ·(try simp only[H.AA.Aq,H.AA.lost,H.AA.Ao,H.AA.trim,H.AA.AG,H.AA.CE,H.AA.Aj,H.AA.AU,H.AA.GU,H.AA.Bj,H.AA.FO,H.AA.Iz,H.AA.BZ,H.AA.Cd,H.AA.DB,H.AA.Ax,H.AA.Ff,CJ,AY]at*);simp only[AUM]at hi
  simp only[fK hn2];split
  ·grind[rB,List.mem_singleton]
  ·exact⟨(h.Aq i hi).1,fun hl=>(h.Aq i hi).2 (rB.1 hl).1⟩
theorem AMC(e:(O9 w).2=0):Me (O9 w).1:=by
 unfold O9 at*;split at e
 ·omega
 rename_i h1;rw[AM5 h1];split at e
 ·omega
 rename_i h2;rw[AM5 h2];simp only[AUE,ANo,not_or]at h1;obtain⟨k,k1,k2,k3,k4⟩:=TL h.lU (by show 0<w.Ao.length;omega);have k1':k<w.Ao.length:=k1;have cD:BK w.Ao=(k:Int)+1:=k2;have hn:w.Ao.length≤30:=h.lU.n;refine⟨h.cfg,h.nw,h.lost,h.GU,h.Aq,h.lU,h.sU,by(try simp only[H.AA.Aq,H.AA.lost,H.AA.Ao,H.AA.trim,H.AA.AG,H.AA.CE,H.AA.Aj,H.AA.AU,H.AA.GU,H.AA.Bj,H.AA.FO,H.AA.Iz,H.AA.BZ,H.AA.Cd,H.AA.DB,H.AA.Ax,H.AA.Ff,CJ,AY]at*);simp,h.AG,h.dm,fun m hm=> ?_,h.sv,h.Aj,h.OS,h.AU,h.XF⟩
 replace hm:m∈[pC (BK w.Ao) w.Ao.length]:=hm
 simp only[AT3]at hm;subst hm;refine⟨⟨h.cfg,?_,?_,Ys h.cfg,List.Pairwise.nil,by simp[pC],by simp[pC],rfl⟩,rfl,rfl⟩
 ·show 1≤BK w.Ao∧BK w.Ao≤30
  omega
 ·show BK w.Ao+1≤(w.Ao.length:Int)∧(w.Ao.length:Int)≤30
  omega
theorem AI1{n:Int}(e:(PH w n).2=0):Me (PH w n).1:=by
 unfold PH at*;split at e
 ·omega
 rename_i m ms hm;simp only at e⊢;split at e
 ·omega
 rename_i h1;rw[AM5 h1];split at e
 ·omega
 rename_i h2;rw[AM5 h2];split at e
 ·omega
 rename_i h3;rw[AM5 h3];simp only[ne_eq,AYU]at h1;simp only[AUE,not_or,AQS,AQk]at h3;obtain⟨s1,s2,s3⟩:=kW h3.1;obtain⟨m1,m2,m3,m4⟩:=nL h3.2;have hw:=h.ql h1 s2;have hm1:=h.x_;rw[hm]at hm1;refine⟨h.cfg,hw.nw,h.lost,h.GU,hw.Aq,h.lU,h.sU,by omega,h.AG,h.dm,fun x hx=> ?_,h.sv,h.Aj,h.OS,h.AU,h.XF⟩;rcases AQQ.1 hx with rfl|hx
 ·have:=h.CE m (by simp_all)
  refine⟨m2,?_⟩;simp_all
 simp_all
theorem ALS(e:(O_ w).2=0):Me (O_ w).1:=by
 unfold O_ at*;split at e
 ·omega
 rename_i m ms hm;simp only at e⊢;split at e
 ·omega
 rename_i h3;rw[AM5 h3];simp only[AQS,AQk]at h3;obtain⟨m1,m2,m3,m4,m5⟩:=nt h3;have hm1:=h.x_;rw[hm]at hm1;refine⟨h.cfg,h.nw,h.lost,h.GU,h.Aq,h.lU,h.sU,by omega,h.AG,h.dm,fun x hx=> ?_,h.sv,h.Aj,h.OS,h.AU,h.XF⟩;rcases AQQ.1 hx with rfl|hx
 ·have:=h.CE m (by simp_all)
  refine⟨m2,?_⟩;simp_all
 simp_all
theorem ARM{b n:Int}(e:(VV w b n).2=0):Me (VV w b n).1:=by
 unfold VV at*;split at e
 ·omega
 rename_i m ms hm;split at e
 ·omega
 rename_i x hx;split at e
 ·omega
 rename_i h1;rw[AM5 h1];split at e
 ·omega
 rename_i h2;rw[AM5 h2];grind[jQ,Zg]
theorem AEY(e:(KZ w).2=0):Me (KZ w).1:=by
 unfold KZ at*;split at e
 ·omega
 rename_i m ms hm;split at e
 ·omega
 rename_i h1;rw[AM5 h1];simp only at e⊢;split at e
 ·omega
 rename_i h2;rw[AM5 h2];simp only[AQS,AQk]at h2;obtain⟨r0,r1,k,k1,k2,k3,k4,k5,k6,k7,k8⟩:=nY h2;rw[k6]at r1;rw[k6];have hl:(O1 (CJ w).1 k (m.2.2.2.2.2.1.length:Int)).length=w.Ao.length:=by simp[O1,CJ]
 refine⟨h.cfg,h.nw,h.lost,h.GU,h.Aq,r1,h.sU,by(try simp only[H.AA.Aq,H.AA.lost,H.AA.Ao,H.AA.trim,H.AA.AG,H.AA.CE,H.AA.Aj,H.AA.AU,H.AA.GU,H.AA.Bj,H.AA.FO,H.AA.Iz,H.AA.BZ,H.AA.Cd,H.AA.DB,H.AA.Ax,H.AA.Ff,CJ,AY]at*);simp,fun x hx=> ?_,h.dm,fun x hx=>by grind,h.sv,h.Aj,h.OS,fun x hx=> ?_,h.XF⟩
 ·(try simp only[H.AA.Aq,H.AA.lost,H.AA.Ao,H.AA.trim,H.AA.AG,H.AA.CE,H.AA.Aj,H.AA.AU,H.AA.GU,H.AA.Bj,H.AA.FO,H.AA.Iz,H.AA.BZ,H.AA.Cd,H.AA.DB,H.AA.Ax,H.AA.Ff,CJ,AY]at*);simp only[hl];exact h.AG x hx
 ·(try simp only[H.AA.Aq,H.AA.lost,H.AA.Ao,H.AA.trim,H.AA.AG,H.AA.CE,H.AA.Aj,H.AA.AU,H.AA.GU,H.AA.Bj,H.AA.FO,H.AA.Iz,H.AA.BZ,H.AA.Cd,H.AA.DB,H.AA.Ax,H.AA.Ff,CJ,AY]at*);simp only[hl];exact h.AU x hx
theorem AER{a:Int}(e:(RL w a).2=0):Me (RL w a).1:=by
 unfold RL at*;simp only at e⊢;split at e
 ·omega
 rename_i h2;rw[AM5 h2];simp only[AQS,AQk]at h2;obtain⟨r0,r1,r2⟩:=p8 h2;rw[r2]at r1;rw[r2];exact⟨h.cfg,h.nw,h.lost,h.GU,h.Aq,r1,h.sU,h.x_,h.AG,h.dm,h.CE,h.sv,h.Aj,h.OS,h.AU,h.XF⟩
theorem AH_{a k:Int}(e:(NF w a k).2=0):Me (NF w a k).1:=by
 unfold NF at*;split at e
 ·omega
 rename_i h1;rw[AM5 h1];simp only at e⊢;split at e
 ·omega
 rename_i h2;rw[AM5 h2];simp only[ne_eq,AYU]at h2;refine⟨h.cfg,h.nw,h.lost,h.GU,h.Aq,h.lU,h.sU,h.x_,h.AG,h.dm,h.CE,by(try simp only[H.AA.Aq,H.AA.lost,H.AA.Ao,H.AA.trim,H.AA.AG,H.AA.CE,H.AA.Aj,H.AA.AU,H.AA.GU,H.AA.Bj,H.AA.FO,H.AA.Iz,H.AA.BZ,H.AA.Cd,H.AA.DB,H.AA.Ax,H.AA.Ff,CJ,AY]at*);simpa using h.sv,fun r hr=> ?_,h.OS,h.AU,h.XF⟩;rcases AT7 hr with hr|rfl
 ·exact h.Aj r hr
 ·exact tC h2
theorem AHM{a:Int}(e:(QE w a).2=0):Me (QE w a).1:=by
 unfold QE at*;split at e
 ·omega
 rename_i h1;rw[AM5 h1];have hs:(w.AG.eraseIdx a.toNat).Sublist w.AG:=List.eraseIdx_sublist _ _;exact⟨h.cfg,h.nw,h.lost,h.GU,h.Aq,h.lU,ASX hs.length_le h.sU,h.x_,fun x hx=>h.AG x (hs.subset hx),h.dm.sublist hs,h.CE,h.sv,h.Aj,h.OS,h.AU,h.XF⟩
theorem AHX{all:Bool}{d:BN}(hd:d.2.2.2.2.1.length≤40)(e:(Nx all w d).2=0):Me (Nx all w d).1:=by
 unfold Nx at*;by_cases hc:d.1=1
 ·rw[AMp hc]at e⊢;exact AG7 h e
 rw[AM5 hc]at e⊢;clear hc;by_cases hc:d.1=2
 ·rw[AMp hc]at e⊢;exact AFb h hd e
 rw[AM5 hc]at e⊢;clear hc;by_cases hc:d.1=3
 ·rw[AMp hc]at e⊢;exact xF h e
 rw[AM5 hc]at e⊢;clear hc;by_cases hc:d.1=4
 ·rw[AMp hc]at e⊢;exact ABF h e
 rw[AM5 hc]at e⊢;clear hc;by_cases hc:d.1=5
 ·rw[AMp hc]at e⊢;exact AGT h e
 rw[AM5 hc]at e⊢;clear hc;by_cases hc:d.1=6
 ·rw[AMp hc]at e⊢;exact AKZ h e
 rw[AM5 hc]at e⊢;clear hc;by_cases hc:d.1=7
 ·rw[AMp hc]at e⊢;exact ALu h e
 rw[AM5 hc]at e⊢;clear hc;by_cases hc:d.1=8
 ·rw[AMp hc]at e⊢;exact AMC h e
 rw[AM5 hc]at e⊢;clear hc;by_cases hc:d.1=9
 ·rw[AMp hc]at e⊢;exact AI1 h e
 rw[AM5 hc]at e⊢;clear hc;by_cases hc:d.1=10
 ·rw[AMp hc]at e⊢;exact ALS h e
 rw[AM5 hc]at e⊢;clear hc;by_cases hc:d.1=11
 ·rw[AMp hc]at e⊢;exact ARM h e
 rw[AM5 hc]at e⊢;clear hc;by_cases hc:d.1=12
 ·rw[AMp hc]at e⊢;exact AEY h e
 rw[AM5 hc]at e⊢;clear hc;by_cases hc:d.1=13
 ·rw[AMp hc]at e⊢;exact AER h e
 rw[AM5 hc]at e⊢;clear hc;by_cases hc:d.1=14
 ·rw[AMp hc]at e⊢;exact AH_ h e
 rw[AM5 hc]at e⊢;clear hc;by_cases hc:d.1=15
 ·rw[AMp hc]at e⊢;exact AHM h e
 rw[AM5 hc]at e⊢;grind[AEz]
end
theorem iq{d:BN}(h:K9 d=true):d.2.2.2.2.1.length≤40:=by
 unfold K9 at h;simp_all
theorem yb{all:Bool}{w:AA}{d:BN}(e:(CT all w d).2=0):Dg (CT all w d).1=true:=by
 unfold CT at*;split at e
 ·omega
 rename_i h1;rw[AM5 h1];have hw:Dg w=true:=by
  simp_all
 have hd:K9 d=true:=by
  simp_all
 grind[GV,AHX,iq]
end Go.M
end
section
namespace Go.M
open Go.M.H (AK AQ Av Af AA CR AO Ay AR Ah BR A6 BN Al CD AX AW Aa Ai Bh A4 Ap A_ EH CP Cv C3)
theorem AAr{α:Type}{f:α→Nat}{B:Nat}:∀{l:List α},(∀x∈l,f x≤B)→AX f l≤l.length*(1+B)
 |[],_=>by simp[AX]
 |x::l,h=>by
  have h1:=h x (by simp);have h2:=AAr (l:=l) fun y hy=>h y (by simp[hy])
  grind[AX,List.length_cons,Nat.add_mul]
theorem EK{α:Type}{f:α→Nat}{B N:Nat}{l:List α}(hn:l.length≤N)(h:∀x∈l,f x≤B):AX f l≤N*(1+B):=
 ASX (AAr h) (AP0 _ hn)
theorem uf{α:Type}{f:α→Int}{b:Int}:∀{l:List α} {a:Int},Uc f l→(∀x∈l,a≤f x∧f x<b)→(l.length:Int)≤max (b-a) 0
 |[],a,_,_=>by grind
 |x::l,a,h,hb=>by
  simp only[Uc,ARx]at h;have h1:=hb x (by simp);have h2:=uf (l:=l) (a:=f x+1) h.2 fun y hy=>⟨by grind,(hb y (by simp[hy])).2⟩
  grind
theorem Fj{c:Bz}{l:AAG}(h:A9 c l=true):l.length≤8:=by
 obtain⟨h1,h2,h3⟩:=DO.1 h;have:=(Db h1).2.1;have:=uf (a:=0) (b:=c.1.length) h3 h2;omega
theorem Gr{p:Int}(h:Bf p=true):CO p:=by
 obtain⟨h1,h2,h3⟩:=EV h;grind[Ge,CO]
theorem cZ.w{s:AQ}(h:cZ s):Al s≤10000:=by
 have h1:=EK (f:=Ai) (B:=40) h.nk fun e he=>(GS.1 (h.kept e he)).len
 have h2:=EK (f:=Ai) (B:=40) h.nl fun e he=>(GS.1 (h.late e he)).len
 unfold Al;omega
theorem cZ.sin{s:AQ}(h:cZ s):kH s:=
 ⟨fun e he=>Gr (GS.1 (h.kept e he)).pl,fun e he=>Gr (GS.1 (h.late e he)).pl⟩
theorem ku.AWW{c:Bz}{m:Av}(h:ku c m):m.2.2.2.1.length≤60:=by
 have:=uf (f:=fun e:AK=>e.1) (a:=Ge m.2.1 1) (b:=Ge m.2.1 61) h.sA fun e he=>by
  have h1:=h.seen e he;have h2:=EV (GS.1 h1.1).pl;grind[Ge]
 grind[Ge]
theorem ku.w{c:Bz}{m:Av}(h:ku c m):CD m≤5000:=by
 have h1:=EK (f:=Ai) (B:=40) h.AWW fun e he=>(GS.1 (h.seen e he).1).len
 have h2:=Fj h.yd;have h3:m.2.2.2.2.2.1.length≤60:=by
  have:=h.n;have hb:=Ho (l:=m.2.2.2.1);omega
 have h4:=EK (f:=C3) (B:=8) h3 fun l hl=>Fj (h.wrote l hl)
 unfold CD;omega
theorem ku.yT{c:Bz}{m:Av}(h:ku c m):gB m.2.2.2.1:=fun e he=>Gr (GS.1 (h.seen e he).1).pl
theorem ROk.w{c:Bz}{r:AO}(h:ROk c r):AX Bh r.1≤270:=by
 have:=EK (f:=Bh) (B:=8) h.n fun e he=>Fj (Vz (h.Ao e he).1)
 omega
theorem ROk.tin{c:Bz}{r:AO}(h:ROk c r):CO r.2.1:=by
 rcases h.trim with h|h
 all_goals grind[CO,Gr]
theorem cO.w{c:Bz}{w:AR}(h:cO c w):Ap w≤3000:=by
 have:=EK (f:=A4) (B:=48) h.n fun x hx=>by
  have h1:=h.words x hx;grind[Fj,A4]
 unfold Ap;omega
def wg(w:AA):Prop:= ∀r∈w.Aj,∀e∈r.2.2.1,e.2.2.1.length≤40
theorem Me.QU{w:AA}(h:Me w){s:AQ}(hs:s∈w.Aq):cZ s:=by
 obtain⟨i,hi,rfl⟩:=AT2 hs;have:=(h.Aq i hi).1;simp_all
theorem Me.win{w:AA}(h:Me w)(hr:wg w):fW w:=by
 have hc:=(Db h.cfg).2.1;have dj:w.1.length≤8:=hc;have a1:=EK (f:=Al) (B:=10000) (N:=8) (l:=w.Aq) (by rw[h.nw];omega) fun s hs=>(h.QU hs).w
 have a2:=Fj h.lost;have a3:=h.lU.w;have a4:=EK (f:=Ap) (B:=3000) h.sU fun x hx=>(h.AG x hx).1.w
 have a5:=EK (f:=CD) (B:=5000) h.x_ fun x hx=>(h.CE x hx).1.w
 have a6:=EK (f:=A_) (B:=5000) (N:=2) (l:=w.Aj) (by rw[h.sv];omega) fun r hx=>by
  have:=EK (f:=CP) (B:=40) (h.Aj r hx).n (hr r hx);unfold A_;omega
 have a7:=EK (f:=EH) (B:=40) h.OS fun s hs=>(h.AU s hs).2.2
 refine⟨?_,fun s hs=>(h.QU hs).sin,h.lU.tin,fun m hm=>(h.CE m hm).1.yT,fun s hs=>Gr (h.AU s hs).1⟩;have a3':AX Bh w.Ao≤270:=a3;grind[Cv]
end Go.M
end
section
set_option maxRecDepth 8000
namespace Go.M
open Go.M.H (AK AQ Av Af AA CR AO Ay AR Ah BR A6 BN Al CD AX AW Aa Ai Bh A4 Ap A_ EH CP Cv C3)
theorem uT:∀i,i<8→([0,1,2,3,4,5,6,7]:AAG).drop i=(i:Int)::([0,1,2,3,4,5,6,7]:AAG).drop (i+1):=by decide
theorem ZX{k:Int}:PS k=some (((),()),(BU k,())):=by
 unfold PS Vr BU;rcases AMo (BF k 0 255)with hk|hk
 rotate_left
 ·rw[hk]
  obtain⟨m,hm⟩:∃m,Ac=m+1:=⟨Ac-1,by have:=Ae (n:=0) (by omega);omega⟩;rw[hm];simp only[IM,PG,BV,AD,hk,AB];rfl
 rw[hk,AMp rfl];have hk':=Ak.1 hk;have key:∀(n i:Nat) (b:AAG),i≤8→8-i<n→b.length≤i→
   IM n k i b=some (((),()),(b++(([0,1,2,3,4,5,6,7]:AAG).drop i).filter (fun i=>(k/2^i.toNat)%2==1),())):=by
  intro n
  induction n with
  |zero=>omega
  |succ n ih=>
   intro i b hi h hb;simp only[IM,PG,BV,AD,hk,ANk,AB];by_cases Dn:i<8
   ·have ADX:=vC (k:=k) (i:=i) (by omega) (by omega)
    rw[AMp (show(i:Int)<8 by omega),AM5 (by omega),ANN,ADX,uT i Dn,AUA,ANN,AJ (by omega) (by omega),show((i:Int)+1)=((i+1:Nat):Int)by omega,AB];have c2:b.length+1≤DE:=by rw[Au];omega
    by_cases hb':(k/2^i)%2=1
    ·rw[AMp hb',AMp c2,AMp (by simp_all),ih (i+1) _ (by omega) (by omega) (by simp_all),AOj]
     rfl
    grind
   ·have:i=8:=by omega
    simp_all
 have:=key Ac 0 [] (by omega) (Ae (by omega)) (by simp);simp_all
theorem pe{d:BN}:Zp d=some ((K9 d,()),()):=by
 obtain⟨k,a,b,n,t,⟨⟩⟩:=d;unfold Zp K9;rw[BV];simp only[AD];rcases AMo (BF k 1 16)with hk|hk
 rotate_left
 ·simp_all
 have hk':=Ak.1 hk;rw[hk];have dl:decide ((t.length:Int)≤40)=decide (t.length≤40):=by
  grind
 have:k=1∨k=2∨k=3∨k=4∨k=5∨k=6∨k=7∨k=8∨k=9∨k=10∨k=11∨k=12∨k=13∨k=14∨k=15∨k=16:=by omega
 rcases this with h|h|h|h|h|h|h|h|h|h|h|h|h|h|h|h<;>subst h<;>simp only[ANk,dl]<;>clear dl hk hk'<;>
  (unfold Zy;simp[fU];cases a==0<;>cases b==0<;>cases n==0<;>cases t.isEmpty<;>rfl)
theorem ib{w:AR}(hl:w.2.1.length≤2^20):WN w=some (((bJ w.2.1:Int),()),()):=by
 have key:∀(n i:Nat),i≤w.2.1.length→w.2.1.length-i<n→
   Jq n i w.1 w.2.1=some ((((i+bJ (w.2.1.drop i):Nat):Int),()),()):=by
  intro n
  induction n with
  |zero=>omega
  |succ n ih=>
   intro i hi h;simp only[Jq,UB,AB];by_cases Dn:i<w.2.1.length
   ·have c1:(0:Int)≤(i:Int)∧(i:Int)<(w.2.1.length:Int):=by omega
    rw[AMp c1.2,AMp c1,Am Dn,AJ (by omega) (by omega),show((i:Int)+1)=((i+1:Nat):Int)by omega,ih (i+1) (by omega) (by omega),drop_cons Dn];simp only[bJ];cases w.2.1[i].2.2.1 with
    |false=>simp
    |true=>grind
   ·rw[AM5 (by omega),ANl (by omega)]
    rfl
 have:=key Ac 0 (by omega) (Ae (by omega));rw[AUY,AT_]at this;exact this
theorem Ig{w:AA}{n:Int}(h1:w.Aq.length≤2^20)(h2:w.lost.length≤2^20):Hj w n=some ((Aw w n,()),()):=by
 unfold Hj Aw
 (try simp only[H.AA.Aq,H.AA.lost,H.AA.Ao,H.AA.trim,H.AA.AG,H.AA.CE,H.AA.Aj,H.AA.AU,H.AA.GU,H.AA.Bj,H.AA.FO,H.AA.Iz,H.AA.BZ,H.AA.Cd,H.AA.DB,H.AA.Ax,H.AA.Ff,CJ,AY]at*)
 rw[AJ (by omega) (by omega),BV,KV (by omega)];grind
theorem Sv{w:AA}{n:Int}(h1:w.AG.length≤2^20):L4 w n=some ((BF n 0 ((w.AG.length:Int)-1),()),()):=by
 grind[L4,AJ,BV]
theorem rm{w:AA}{e:Int}(hl:AX Ap w.AG≤2^20):eW w e=some ((eY w e,()),()):=by
 have yW:=AW (f:=Ap) (l:=w.AG);have key:∀(n i:Nat),i≤w.AG.length→w.AG.length-i<n→
   PF n e i w.1 w.2.1 w.2.2.1 w.2.2.2.1 w.2.2.2.2.1 w.2.2.2.2.2.1 w.AG w.2.2.2.2.2.2.2.1 w.2.2.2.2.2.2.2.2.1 w.2.2.2.2.2.2.2.2.2.1 w.2.2.2.2.2.2.2.2.2.2.1=
    some (((match(w.AG.drop i).find? (fun x=>x.1==e)with|some x=>(bJ x.2.1:Int)|none=>0),()),()):=by
  intro n
  induction n with
  |zero=>omega
  |succ n ih=>
   intro i hi h;simp only[PF,ZQ,AB];by_cases Dn:i<w.AG.length
   ·have c1:(0:Int)≤(i:Int)∧(i:Int)<(w.AG.length:Int):=by omega
    rw[AMp c1.2,AMp c1,AMp c1,Am Dn,AJ (by omega) (by omega),show((i:Int)+1)=((i+1:Nat):Int)by omega,ih (i+1) (by omega) (by omega),drop_cons Dn,AVh,show(w.AG[i].1,w.AG[i].2.1,())=w.AG[i]from rfl];have hm:=Aa (f:=Ap) (ANa Dn);have hw:Ap w.AG[i]=AX A4 w.AG[i].2.1:=rfl;have hlw:=AW (f:=A4) (l:=w.AG[i].2.1);rw[ib (by omega)];cases(w.AG[i].1==e)<;>rfl
   grind
 have:=key Ac 0 (by omega) (Ae (by omega));rw[AT_]at this;exact this
theorem i_{w:AA}{r:Ah}{k:Int}(h1:AX Al w.Aq≤2^20)(h2:w.lost.length≤2^20)(hr1: -1000≤r.1∧r.1≤1000)(hr2: -1000≤r.2.1∧r.2.1≤1000):
  Ql w r k=some (((),()),(answers w (Ge r.1 r.2.1) (BU k),())):=by
 have hsl:=AW (f:=Al) (l:=w.Aq);have yQ:(BU k).length≤8:=by
  unfold BU;split
  ·exact ASX (ARp _ _) (by simp)
  ·simp
 have key:∀(n i:Nat) (b:List A6),i≤(BU k).length→(BU k).length-i<n→b.length≤i→
   Je n i w.1 w.2.1 w.2.2.1 w.2.2.2.1 w.2.2.2.2.1 w.2.2.2.2.2.1 w.2.2.2.2.2.2.1 w.2.2.2.2.2.2.2.1 w.2.2.2.2.2.2.2.2.1 w.2.2.2.2.2.2.2.2.2.1 w.2.2.2.2.2.2.2.2.2.2.1 r.1 r.2.1 r.2.2.1 b (BU k)=
    some (((),()),(b++answers w (Ge r.1 r.2.1) ((BU k).drop i),())):=by
  intro n
  induction n with
  |zero=>omega
  |succ n ih=>
   intro i b hi h hb;simp only[Je,T4,AB];by_cases Dn:i<(BU k).length
   ·have c1:(0:Int)≤(i:Int)∧(i:Int)<((BU k).length:Int):=by omega
    have c2:b.length+1≤DE:=by rw[Au];omega
    rw[AMp c1.2,AMp c1,Am Dn,show(w.1,w.2.1,w.2.2.1,w.2.2.2.1,w.2.2.2.2.1,w.2.2.2.2.2.1,w.2.2.2.2.2.2.1,w.2.2.2.2.2.2.2.1,w.2.2.2.2.2.2.2.2.1,w.2.2.2.2.2.2.2.2.2.1,w.2.2.2.2.2.2.2.2.2.2.1,())=w from rfl,Ig (by omega) h2,AJ (by omega) (by omega),show((i:Int)+1)=((i+1:Nat):Int)by omega,drop_cons Dn];simp only[AD,Cs,answers,AUA];by_cases hn:Aw w (BU k)[i]=0
    ·obtain⟨n1,n2,n3⟩:=LK hn
     have hs1:((BU k)[i]).toNat<w.2.2.1.length:=by simp_all
     rw[AMp hn,AMp c1,AMp ⟨n1,n2⟩,FD hr1 hr2];simp only[AD];have cM:w.2.2.1.getD ((BU k)[i]).toNat ([],[],0,())=storeAt w (BU k)[i]:=rfl;have hsm:Al (storeAt w (BU k)[i])≤2^20:=ASX (Aa (f:=Al) (Ba (d:=Dk) hs1)) h1;rw[cM,Uq (GG (by omega)).1];simp only[AD];rw[AMp c1,AMp c2,ih (i+1) _ (by omega) (by omega) (by simp_all),AMp (by simp_all),AVt,AOj];have:((BU k)[i],(G_ (Ge r.1 r.2.1) (storeAt w (BU k)[i]).1).isSome,((G_ (Ge r.1 r.2.1) (storeAt w (BU k)[i]).1).getD Dy).1,((G_ (Ge r.1 r.2.1) (storeAt w (BU k)[i]).1).getD Dy).2.1,((G_ (Ge r.1 r.2.1) (storeAt w (BU k)[i]).1).getD Dy).2.2.1,((G_ (Ge r.1 r.2.1) (storeAt w (BU k)[i]).1).getD Dy).2.2.2.1,())=answer w (Ge r.1 r.2.1) (BU k)[i]:=by
      grind[answer,G_,Ge,storeAt,BU]
     rw[this];rfl
    ·rw[AM5 hn,ih (i+1) _ (by omega) (by omega) (by omega),AM5 (by simp_all)]
     rfl
   ·rw[AM5 (by omega),ANl (by omega)]
    simp[answers]
 have:=key Ac 0 [] (by omega) (Ae (by omega)) (by simp);grind[Ql,T7,ZX]
end Go.M
end
section
set_option maxRecDepth 8000
namespace Go.M
open Go.M.H (AK AQ Av Af AA CR AO Ay AR Ah BR A6 BN Al CD AX AW Aa Ai Bh A4 Ap A_ EH CP Cv C3)
section
variable{w:AA} (h:fW w)
include h
theorem AIt:∀(n i:Nat) (DR:List AQ) (Dq:List AR) (EB:List Av) (EJ:List Ah),i≤w.2.2.2.2.2.2.2.2.1.length→w.2.2.2.2.2.2.2.2.1.length-i<n→EJ.length≤i→
  CU n i w.1 w.2.1 w.2.2.1 w.2.2.2.1 w.2.2.2.2.1 w.2.2.2.2.2.1 w.2.2.2.2.2.2.1 w.2.2.2.2.2.2.2.1 w.2.2.2.2.2.2.2.2.1 w.2.2.2.2.2.2.2.2.2.1 w.2.2.2.2.2.2.2.2.2.2.1 0 0 false [] [] [] [] [] [] [] [] w.2.1 w.2.2.2.2.2.1 w.2.2.2.2.2.2.2.2.2.2.1 w.1 DR w.2.2.2.1 w.2.2.2.2.1 Dq EB EJ w.2.2.2.2.2.2.2.2.2.1=some ((((),w.2.1,(),(),(),w.2.2.2.2.2.1,(),(),(),(),w.2.2.2.2.2.2.2.2.2.2.1,()),()),(w.1,DR,w.2.2.2.1,w.2.2.2.2.1,Dq,EB,(EJ++w.2.2.2.2.2.2.2.2.1.drop i),w.2.2.2.2.2.2.2.2.2.1,())):=by
 have wH:=h.TH;have hl:=h.lens;intro n
 induction n with
 |zero=>omega
 |succ n ih=>
  intro i DR Dq EB EJ hi hn hb;simp only[CU,QK,AB];by_cases Dn:i<w.2.2.2.2.2.2.2.2.1.length
  ·have c1:(0:Int)≤(i:Int)∧(i:Int)<(w.2.2.2.2.2.2.2.2.1.length:Int):=by omega
   have c2:EJ.length+1≤DE:=by rw[Au];omega
   rw[AMp c1.2,AMp c1,Am Dn,AJ (by omega) (by omega),show((i:Int)+1)=((i+1:Nat):Int)by omega,drop_cons Dn];have hm:=Aa (f:=A_) (ANa Dn);have hw:A_ w.2.2.2.2.2.2.2.2.1[i]=AX CP w.2.2.2.2.2.2.2.2.1[i].2.2.1:=rfl;have hlw:=AW (f:=CP) (l:=w.2.2.2.2.2.2.2.2.1[i].2.2.1);rw[show(w.2.2.2.2.2.2.2.2.1[i].1,w.2.2.2.2.2.2.2.2.1[i].2.1,w.2.2.2.2.2.2.2.2.1[i].2.2.1,())=w.2.2.2.2.2.2.2.2.1[i]from rfl,V4 (by omega)];simp only[AD];rw[AMp c2,ih (i+1) _ _ _ _ (by omega) (by omega) (by simp_all),AOj];rfl
  grind
theorem AKs:∀(n i:Nat) (DR:List AQ) (Dq:List AR) (EB:List Av),i≤w.2.2.2.2.2.2.2.1.length→(w.2.2.2.2.2.2.2.1.length-i)+w.2.2.2.2.2.2.2.2.1.length+2≤n→EB.length≤i→
  CV n i w.1 w.2.1 w.2.2.1 w.2.2.2.1 w.2.2.2.2.1 w.2.2.2.2.2.1 w.2.2.2.2.2.2.1 w.2.2.2.2.2.2.2.1 w.2.2.2.2.2.2.2.2.1 w.2.2.2.2.2.2.2.2.2.1 w.2.2.2.2.2.2.2.2.2.2.1 0 0 false [] [] [] [] [] [] [] [] w.2.1 w.2.2.2.2.2.1 w.2.2.2.2.2.2.2.2.2.2.1 w.1 DR w.2.2.2.1 w.2.2.2.2.1 Dq EB [] w.2.2.2.2.2.2.2.2.2.1=some ((((),w.2.1,(),(),(),w.2.2.2.2.2.1,(),(),(),(),w.2.2.2.2.2.2.2.2.2.2.1,()),()),(w.1,DR,w.2.2.2.1,w.2.2.2.2.1,Dq,(EB++w.2.2.2.2.2.2.2.1.drop i),w.2.2.2.2.2.2.2.2.1,w.2.2.2.2.2.2.2.2.2.1,())):=by
 have wH:=h.TH;have hl:=h.lens;intro n
 induction n with
 |zero=>omega
 |succ n ih=>
  intro i DR Dq EB hi hn hb;simp only[CV,QM,AB];by_cases Dn:i<w.2.2.2.2.2.2.2.1.length
  ·have c1:(0:Int)≤(i:Int)∧(i:Int)<(w.2.2.2.2.2.2.2.1.length:Int):=by omega
   have c2:EB.length+1≤DE:=by rw[Au];omega
   rw[AMp c1.2,AMp c1,Am Dn,AJ (by omega) (by omega),show((i:Int)+1)=((i+1:Nat):Int)by omega,drop_cons Dn];have hm:=Aa (f:=CD) (ANa Dn);rw[show(w.2.2.2.2.2.2.2.1[i].1,w.2.2.2.2.2.2.2.1[i].2.1,w.2.2.2.2.2.2.2.1[i].2.2.1,w.2.2.2.2.2.2.2.1[i].2.2.2.1,w.2.2.2.2.2.2.2.1[i].2.2.2.2.1,w.2.2.2.2.2.2.2.1[i].2.2.2.2.2.1,())=w.2.2.2.2.2.2.2.1[i]from rfl,Lr (by omega)];simp only[AD];rw[AMp c2,ih (i+1) _ _ _ (by omega) (by omega) (by simp_all),AOj];rfl
  ·have:=AIt h n 0 DR Dq EB [] (by omega) (by omega) (by simp)
   grind
theorem ARz:∀(n i:Nat) (DR:List AQ) (Dq:List AR),i≤w.2.2.2.2.2.2.1.length→(w.2.2.2.2.2.2.1.length-i)+w.2.2.2.2.2.2.2.1.length+w.2.2.2.2.2.2.2.2.1.length+3≤n→Dq.length≤i→
  Co n i w.1 w.2.1 w.2.2.1 w.2.2.2.1 w.2.2.2.2.1 w.2.2.2.2.2.1 w.2.2.2.2.2.2.1 w.2.2.2.2.2.2.2.1 w.2.2.2.2.2.2.2.2.1 w.2.2.2.2.2.2.2.2.2.1 w.2.2.2.2.2.2.2.2.2.2.1 0 0 false [] [] [] [] [] [] [] [] w.2.1 w.2.2.2.2.2.1 w.2.2.2.2.2.2.2.2.2.2.1 w.1 DR w.2.2.2.1 w.2.2.2.2.1 Dq [] [] w.2.2.2.2.2.2.2.2.2.1=some ((((),w.2.1,(),(),(),w.2.2.2.2.2.1,(),(),(),(),w.2.2.2.2.2.2.2.2.2.2.1,()),()),(w.1,DR,w.2.2.2.1,w.2.2.2.2.1,(Dq++w.2.2.2.2.2.2.1.drop i),w.2.2.2.2.2.2.2.1,w.2.2.2.2.2.2.2.2.1,w.2.2.2.2.2.2.2.2.2.1,())):=by
 have wH:=h.TH;have hl:=h.lens;intro n
 induction n with
 |zero=>omega
 |succ n ih=>
  intro i DR Dq hi hn hb;simp only[Co,RU,AB];by_cases Dn:i<w.2.2.2.2.2.2.1.length
  ·have c1:(0:Int)≤(i:Int)∧(i:Int)<(w.2.2.2.2.2.2.1.length:Int):=by omega
   have c2:Dq.length+1≤DE:=by rw[Au];omega
   rw[AMp c1.2,AMp c1,Am Dn,AJ (by omega) (by omega),show((i:Int)+1)=((i+1:Nat):Int)by omega,drop_cons Dn];have hm:=Aa (f:=Ap) (ANa Dn);have hw:Ap w.2.2.2.2.2.2.1[i]=AX A4 w.2.2.2.2.2.2.1[i].2.1:=rfl;rw[show(w.2.2.2.2.2.2.1[i].1,w.2.2.2.2.2.2.1[i].2.1,())=w.2.2.2.2.2.2.1[i]from rfl,TE (by omega)];simp only[AD];rw[AMp c2,ih (i+1) _ _ (by omega) (by omega) (by simp_all),AOj];rfl
  ·have:=AKs h n 0 DR Dq [] (by omega) (by omega) (by simp)
   grind
theorem AR5:∀(n i:Nat) (DR:List AQ),i≤w.2.2.1.length→(w.2.2.1.length-i)+w.2.2.2.2.2.2.1.length+w.2.2.2.2.2.2.2.1.length+w.2.2.2.2.2.2.2.2.1.length+4≤n→DR.length≤i→
  CZ n i w.1 w.2.1 w.2.2.1 w.2.2.2.1 w.2.2.2.2.1 w.2.2.2.2.2.1 w.2.2.2.2.2.2.1 w.2.2.2.2.2.2.2.1 w.2.2.2.2.2.2.2.2.1 w.2.2.2.2.2.2.2.2.2.1 w.2.2.2.2.2.2.2.2.2.2.1 0 0 false [] [] [] [] [] [] [] [] w.2.1 w.2.2.2.2.2.1 w.2.2.2.2.2.2.2.2.2.2.1 w.1 DR w.2.2.2.1 w.2.2.2.2.1 [] [] [] w.2.2.2.2.2.2.2.2.2.1=some ((((),w.2.1,(),(),(),w.2.2.2.2.2.1,(),(),(),(),w.2.2.2.2.2.2.2.2.2.2.1,()),()),(w.1,(DR++w.2.2.1.drop i),w.2.2.2.1,w.2.2.2.2.1,w.2.2.2.2.2.2.1,w.2.2.2.2.2.2.2.1,w.2.2.2.2.2.2.2.2.1,w.2.2.2.2.2.2.2.2.2.1,())):=by
 have wH:=h.TH;have hl:=h.lens;intro n
 induction n with
 |zero=>omega
 |succ n ih=>
  intro i DR hi hn hb;simp only[CZ,RR,AB];by_cases Dn:i<w.2.2.1.length
  ·have c1:(0:Int)≤(i:Int)∧(i:Int)<(w.2.2.1.length:Int):=by omega
   have c2:DR.length+1≤DE:=by rw[Au];omega
   rw[AMp c1.2,AMp c1,Am Dn,AJ (by omega) (by omega),show((i:Int)+1)=((i+1:Nat):Int)by omega,drop_cons Dn];have hm:=Aa (f:=Al) (ANa Dn);have hw:=GG (s:=w.2.2.1[i]) (by omega);rw[show(w.2.2.1[i].1,w.2.2.1[i].2.1,w.2.2.1[i].2.2.1,())=w.2.2.1[i]from rfl,PJ hw.1 hw.2];simp only[AD];rw[AMp c2,ih (i+1) _ (by omega) (by omega) (by simp_all),AOj];rfl
  ·have:=ARz h n 0 DR [] (by omega) (by omega) (by simp)
   grind
theorem WJ:Kn w=some ((((),w.2.1,(),(),(),w.2.2.2.2.2.1,(),(),(),(),w.2.2.2.2.2.2.2.2.2.2.1,()),()),(w.1,w.2.2.1,w.2.2.2.1,w.2.2.2.2.1,w.2.2.2.2.2.2.1,w.2.2.2.2.2.2.2.1,w.2.2.2.2.2.2.2.2.1,w.2.2.2.2.2.2.2.2.2.1,())):=by
 have wH:=h.TH;have hl:=h.lens;unfold Kn RW;have:=AR5 h Ac 0 [] (by omega) (AV2 (Ae (by omega))) (by simp);rw[show((0:Nat):Int)=0 from rfl,AT6,AT_]at this;rw[AMp (by rw[Au];omega),AMp (by rw[Au];omega),show(w.2.2.2.2.1,w.2.2.2.2.2.1,())=(CJ w)from rfl,S8 (by show AX Bh w.2.2.2.2.1≤_;omega)];simp only[AD];rw[AMp (by rw[Au];omega)];exact this
end
end Go.M
end
section
set_option maxRecDepth 8000
namespace Go.M
open Go.M.H (AK AQ Av Af AA CR AO Ay AR Ah BR A6 BN Al CD AX AW Aa Ai Bh A4 Ap A_ EH CP Cv C3)
def Uf(q:AA×Int):dW:=(((((),q.1.2.1,(),(),(),q.1.2.2.2.2.2.1,(),(),(),(),q.1.2.2.2.2.2.2.2.2.2.2.1,()),q.2,()),()),(q.1.1,q.1.2.2.1,q.1.2.2.2.1,q.1.2.2.2.2.1,q.1.2.2.2.2.2.2.1,q.1.2.2.2.2.2.2.2.1,q.1.2.2.2.2.2.2.2.2.1,q.1.2.2.2.2.2.2.2.2.2.1,()))
def AOV(q:AA×Int):fJ:=(((((),q.1.2.1,(),(),(),q.1.2.2.2.2.2.1,(),(),(),(),q.1.2.2.2.2.2.2.2.2.2.2.1,()),q.2,()),()),(q.1.1,q.1.2.2.1,q.1.2.2.2.1,(),(),(),q.1.2.2.2.2.2.2.2.2.1,q.1.2.2.2.2.2.2.2.2.2.1,q.1.2.2.2.2.1,q.1.2.2.2.2.2.2.1,q.1.2.2.2.2.2.2.2.1,()))
def AFO(q:AA×Int):LO:=(((((),q.1.2.1,(),(),(),q.1.2.2.2.2.2.1,(),(),(),(),q.1.2.2.2.2.2.2.2.2.2.2.1,()),q.2,()),()),(q.1.1,q.1.2.2.1,q.1.2.2.2.1,q.1.2.2.2.2.1,q.1.2.2.2.2.2.2.1,q.1.2.2.2.2.2.2.2.1,q.1.2.2.2.2.2.2.2.2.1,(),q.1.2.2.2.2.2.2.2.2.2.1,()))
def v7(q:AA×Int):JW:=(((((),q.1.2.1,(),(),(),q.1.2.2.2.2.2.1,(),(),(),(),q.1.2.2.2.2.2.2.2.2.2.2.1,()),q.2,()),()),(q.1.1,q.1.2.2.1,(),q.1.2.2.2.2.1,q.1.2.2.2.2.2.2.1,q.1.2.2.2.2.2.2.2.1,q.1.2.2.2.2.2.2.2.2.1,q.1.2.2.2.2.2.2.2.2.2.1,q.1.2.2.2.1,()))
def AP1(q:AA×Int):e_:=(((((),q.1.2.1,(),(),(),q.1.2.2.2.2.2.1,(),(),(),(),q.1.2.2.2.2.2.2.2.2.2.2.1,()),q.2,()),()),(q.1.1,q.1.2.2.1,q.1.2.2.2.1,q.1.2.2.2.2.1,q.1.2.2.2.2.2.2.1,(),q.1.2.2.2.2.2.2.2.2.1,q.1.2.2.2.2.2.2.2.2.2.1,q.1.2.2.2.2.2.2.2.1,()))
def AJV(q:AA×Int):dd:=(((((),q.1.2.1,(),(),(),q.1.2.2.2.2.2.1,(),(),(),(),q.1.2.2.2.2.2.2.2.2.2.2.1,()),q.2,()),()),(q.1.1,q.1.2.2.1,q.1.2.2.2.1,(),q.1.2.2.2.2.2.2.1,(),q.1.2.2.2.2.2.2.2.2.1,q.1.2.2.2.2.2.2.2.2.2.1,q.1.2.2.2.2.1,q.1.2.2.2.2.2.2.2.1,()))
def AGF(q:AA×Int):PN:=(((((),q.1.2.1,(),(),(),q.1.2.2.2.2.2.1,(),(),(),(),q.1.2.2.2.2.2.2.2.2.2.2.1,()),q.2,()),()),(q.1.1,q.1.2.2.1,q.1.2.2.2.1,q.1.2.2.2.2.1,(),q.1.2.2.2.2.2.2.2.1,q.1.2.2.2.2.2.2.2.2.1,q.1.2.2.2.2.2.2.2.2.2.1,q.1.2.2.2.2.2.2.1,()))
def APS(q:AA×Int):kD:=(((((),q.1.2.1,(),(),(),q.1.2.2.2.2.2.1,(),(),(),(),q.1.2.2.2.2.2.2.2.2.2.2.1,()),q.2,()),()),(q.1.1,q.1.2.2.1,(),(),(),(),q.1.2.2.2.2.2.2.2.2.1,(),q.1.2.2.2.1,q.1.2.2.2.2.1,q.1.2.2.2.2.2.2.1,q.1.2.2.2.2.2.2.2.1,q.1.2.2.2.2.2.2.2.2.2.1,()))
theorem GH{α:Type}{x y:α}:(if(!true)=true then x else y)=y:=rfl
theorem Iy{α:Type}{x y:α}:(if(!false)=true then x else y)=x:=rfl
structure Aao (w:AA):Prop where
 c:w.1.length≤8
 st:w.2.2.1.length=w.1.length
 lost:w.2.2.2.1.length≤8
 era:AX Bh w.2.2.2.2.1≤270
 cP:w.2.2.2.2.1.length≤30
 trim:CO w.2.2.2.2.2.1
 wr:w.2.2.2.2.2.2.1.length≤4
 md:w.2.2.2.2.2.2.2.1.length≤1
 rd:w.2.2.2.2.2.2.2.2.1.length=2
 se:w.2.2.2.2.2.2.2.2.2.1.length≤120
 ws:AX Al w.2.2.1≤80008
 ww:AX Ap w.2.2.2.2.2.2.1≤12004
 jF:w.AG.length≤4
 jL:w.Aq.length=w.1.length
 J6:w.lost.length≤8
theorem Me.nums{w:AA}(h:Me w):Aao w where
 c:=(Db h.cfg).2.1
 st:=h.nw
 lost:=Fj h.lost
 era:=h.lU.w
 cP:=h.lU.n
 trim:=h.lU.tin
 wr:=h.sU
 md:=h.x_
 rd:=h.sv
 se:=h.OS
 ws:=by
  have:=EK (f:=Al) (B:=10000) (N:=8) (l:=w.Aq) (by rw[h.nw];exact(Db h.cfg).2.1) fun s hs=>(h.QU hs).w
  omega
 ww:=by
  have:=EK (f:=Ap) (B:=3000) h.sU fun x hx=>(h.AG x hx).1.w
  omega
 jF:=h.sU
 jL:=h.nw
 J6:=Fj h.lost
section
variable{w:AA} (h:Me w)
include h
theorem Me.d_{a:Int}(ha:BF a 0 ((w.AG.length:Int)-1)=true):(0≤a∧a<(w.2.2.2.2.2.2.1.length:Int))∧cO (AY w) (w.AG.getD a.toNat Ag)∧AX A4 (w.AG.getD a.toNat Ag).2.1≤3000:=by
 have:=Ak.1 ha;have hi:a.toNat<w.AG.length:=by omega
 have hx:=(h.AG _ (Ba (d:=Ag) hi)).1;refine⟨?_,hx,hx.w⟩
 (try simp only[H.AA.Aq,H.AA.lost,H.AA.Ao,H.AA.trim,H.AA.AG,H.AA.CE,H.AA.Aj,H.AA.AU,H.AA.GU,H.AA.Bj,H.AA.FO,H.AA.Iz,H.AA.BZ,H.AA.Cd,H.AA.DB,H.AA.Ax,H.AA.Ff,CJ,AY]at*)
 omega
theorem Ee{e:Int}:(A5 (CJ w).1 e).length≤8:=by
 unfold A5;split
 ·rename_i he
  have he':=Ak.1 he;exact Fj (Vz (h.lU.Ao _ (Ba (d:=HG) (by omega))).1)
 ·simp
theorem oD{d:BN}:XS w.2.1 w.2.2.2.2.2.1 w.2.2.2.2.2.2.2.2.2.2.1 d w.1 w.2.2.1 w.2.2.2.1 w.2.2.2.2.1 w.2.2.2.2.2.2.1 w.2.2.2.2.2.2.2.1 w.2.2.2.2.2.2.2.2.1 w.2.2.2.2.2.2.2.2.2.1=some (AOV (PR w d.2.1)):=by
 have k:=h.nums;have k1:=k.c;have k2:=k.wr;unfold XS PR;rw[DS];by_cases h4:w.2.2.2.2.2.2.1.length=4
 ·rw[AMp (by omega),AMp h4];rfl
 have hm:(BU d.2.1).length≤8:=by
  unfold BU;split
  ·exact ASX (ARp _ _) (by simp)
  ·simp
 rw[AM5 (by omega),AM5 h4,ZX];simp only[AD];rw[show(w.1,w.2.1,())=AY w from rfl,show(w.2.2.2.2.1,w.2.2.2.2.2.1,())=CJ w from rfl,ct (c:=AY w) (r:=CJ w) (by show w.1.length≤_;omega) (by have:=k.era;show AX Bh w.2.2.2.2.1≤_;omega) k.trim (by omega)];simp only[AD,A0];rcases AMo (Iu (AY w) (CJ w) (BU d.2.1)).2.2 with hq|hq
 ·rw[hq,AMp (by rw[Au];omega),GH];rfl
 ·rw[hq,Iy];rfl
theorem lO{d:BN}:Uu w.2.1 w.2.2.2.2.2.1 w.2.2.2.2.2.2.2.2.2.2.1 d w.1 w.2.2.1 w.2.2.2.1 w.2.2.2.2.1 w.2.2.2.2.2.2.1 w.2.2.2.2.2.2.2.1 w.2.2.2.2.2.2.2.2.1 w.2.2.2.2.2.2.2.2.2.1=some (Uf (Gt w d.2.1 d.2.2.1 d.2.2.2.1)):=by
 have k:=h.nums;have k1:=k.c;have k2:=k.wr;have k3:=k.lost;have k4:=k.st;have cD:=k.jF;have jH:=k.J6;have kq:=k.jL;have k5:=k.era;unfold Uu Gt;rw[show(w.1,w.2.1,w.2.2.1,w.2.2.2.1,w.2.2.2.2.1,w.2.2.2.2.2.1,w.2.2.2.2.2.2.1,w.2.2.2.2.2.2.2.1,w.2.2.2.2.2.2.2.2.1,w.2.2.2.2.2.2.2.2.2.1,w.2.2.2.2.2.2.2.2.2.2.1,())=w from rfl,Sv (by omega),Ig (by omega) (by omega)];simp only[AD,A0,Cs];rcases AMo (BF d.2.1 0 ((w.AG.length:Int)-1))with h1|h1
 rotate_left
 ·rw[h1,Iy];rfl
 obtain⟨x1,x2,x3⟩:=h.d_ h1;rw[h1,ANk,GH,AMp x1,BV];simp only[AD]
 generalize hx:w.AG.getD d.2.1.toNat Ag=x at*
 rcases AMo (BF d.2.2.1 1 (x.2.1.length:Int))with h2|h2
 rotate_left
 ·rw[h2,Iy];rfl
 have h2':=Ak.1 h2;rw[h2,ANk,GH];by_cases h3:Aw w d.2.2.2.1=0
 rotate_left
 ·rw[AM5 h3,AMp h3];rfl
 rw[AMp h3,AM5 (show¬(Aw w d.2.2.2.1≠0)from fun hh=>hh h3)];obtain⟨n1,n2,n3⟩:=LK h3;have n2':d.2.2.2.1<(w.2.2.1.length:Int):=n2;have hxl:=x2.n;have hxe:=x2.ep;rw[show(w.2.2.2.2.1,w.2.2.2.2.2.1,())=CJ w from rfl,ET (r:=CJ w) (by show AX Bh w.2.2.2.2.1≤_;omega)];have VO:(A5 w.Ao x.1).length≤8:=Ee h;have hr:0≤d.2.2.2.1∧d.2.2.2.1<(w.2.2.1.length:Int):=⟨n1,n2'⟩;rw[show(CJ w).1=w.Ao from rfl];simp only[AD,AMp hr];rw[KV (by omega),AJ (by omega) (by omega),AMp (by omega),FD (by omega) (by omega)];simp only[AD];have cM:w.2.2.1.getD d.2.2.2.1.toNat ([],[],0,())=storeAt w d.2.2.2.1:=rfl;have hso:=h.store h3;have wo:=IU (e:=x.1) (o:=d.2.2.1) hxe (by omega);rw[cM,show((storeAt w d.2.2.2.1).1,(storeAt w d.2.2.2.1).2.1,(storeAt w d.2.2.2.1).2.2.1,())=storeAt w d.2.2.2.1 from rfl,UH (by have:=hso.w;omega) hso.sin (Gr wo.1)];simp only[AD,jI,putAt];rcases AMo ((A5 w.Ao x.1).contains d.2.2.2.1)with h5|h5
 rotate_left
 ·rw[h5,Iy];rfl
 rw[h5,GH,ANk];have hwd:(x.2.1.getD (d.2.2.1-1).toNat ([],[],false,()))=x.2.1.getD (d.2.2.1-1).toNat LR:=rfl;rw[hwd];rcases AMo (GM (storeAt w d.2.2.2.1) (Ge x.1 d.2.2.1,0,false,(x.2.1.getD (d.2.2.1-1).toNat LR).1,())).2 with h6|h6
 rotate_left
 ·rw[h6];rfl
 rw[h6,ANk,AMp rfl];rfl
end
end Go.M
end
section
set_option maxRecDepth 8000
namespace Go.M
open Go.M.H (AK AQ Av Af AA CR AO Ay AR Ah BR A6 BN Al CD AX AW Aa Ai Bh A4 Ap A_ EH CP Cv C3)
theorem fS{α:Type}{f:α→Nat}{p:α→Bool}:∀{l:List α},AX f (l.filter p)≤AX f l
 |[]=>AQm _
 |x::l=>by
  have:=fS (f:=f) (p:=p) (l:=l);grind[AX]
theorem qt{s:AQ}{u:Int}(hs:cZ s):cZ (Bu s u).1:=by
 rcases AMo (Bu s u).2 with hq|hq
 ·exact(kW hq).2.1
 ·have:(Bu s u).1=s:=by
   unfold Bu at*;rw[DC.2 hs]at*;grind
  simp_all
section
variable{w:AA} (h:Me w)
include h
theorem Me.Mb{n:Int}(hn:Aw w n=0):(0≤n∧n<(w.2.2.1.length:Int))∧Al (storeAt w n)≤2^30∧kH (storeAt w n)∧cZ (storeAt w n):=by
 obtain⟨n1,n2,n3⟩:=LK hn;have:=(h.store hn).w;exact⟨⟨n1,n2⟩,by omega,(h.store hn).sin,h.store hn⟩
theorem mU{d:BN}:Um w.2.1 w.2.2.2.2.2.1 w.2.2.2.2.2.2.2.2.2.2.1 d w.1 w.2.2.1 w.2.2.2.1 w.2.2.2.2.1 w.2.2.2.2.2.2.1 w.2.2.2.2.2.2.2.1 w.2.2.2.2.2.2.2.2.1 w.2.2.2.2.2.2.2.2.2.1=some (Uf (if d.1=16 then K0 w d.2.1 else Kj w d.2.1 d.2.2.1)):=by
 have k:=h.nums;have k1:=k.c;have k2:=k.wr;have k3:=k.lost;have k4:=k.st;have cD:=k.jF;have jH:=k.J6;have kq:=k.jL;have k5:=k.era;unfold Um K0 Kj;rw[show(w.1,w.2.1,w.2.2.1,w.2.2.2.1,w.2.2.2.2.1,w.2.2.2.2.2.1,w.2.2.2.2.2.2.1,w.2.2.2.2.2.2.2.1,w.2.2.2.2.2.2.2.2.1,w.2.2.2.2.2.2.2.2.2.1,w.2.2.2.2.2.2.2.2.2.2.1,())=w from rfl,Ig (by omega) (by omega)];simp only[AD,A0,Cs,DS];by_cases h3:Aw w d.2.1=0
 rotate_left
 ·rw[AM5 h3]
  by_cases h16:d.1=16
  ·rw[AMp h16,AMp h3];rfl
  ·rw[AM5 h16,AMp h3];rfl
 obtain⟨hr,s1,s2,s3⟩:=h.Mb h3;have cM:w.2.2.1.getD d.2.1.toNat ([],[],0,())=storeAt w d.2.1:=rfl;have hn3: ¬(Aw w d.2.1≠0):=fun hh=>hh h3
 rw[AMp h3];simp only[AMp hr,cM,AM5 hn3];rw[show((storeAt w d.2.1).1,(storeAt w d.2.1).2.1,(storeAt w d.2.1).2.2.1,())=storeAt w d.2.1 from rfl,X9 s1 s2,jn s1 s2 k.trim];simp only[AD,jI,putAt];by_cases h16:d.1=16
 ·rw[AMp h16,AMp h16]
  rcases AMo (JS (storeAt w d.2.1) w.2.2.2.2.2.1).2 with h6|h6
  ·rw[h6];rfl
  ·rw[h6];rfl
 ·rw[AM5 h16,AM5 h16]
  rcases AMo (FX (storeAt w d.2.1) d.2.2.1).2 with h6|h6
  ·rw[h6];rfl
  ·rw[h6];rfl
theorem o6{d:BN}:XY w.2.1 w.2.2.2.2.2.1 w.2.2.2.2.2.2.2.2.2.2.1 d w.1 w.2.2.1 w.2.2.2.1 w.2.2.2.2.1 w.2.2.2.2.2.2.1 w.2.2.2.2.2.2.2.1 w.2.2.2.2.2.2.2.2.1 w.2.2.2.2.2.2.2.2.2.1=some (v7 (O0 w d.2.1)):=by
 have k:=h.nums;have k1:=k.c;have k2:=k.wr;have k3:=k.lost;have k4:=k.st;have cD:=k.jF;have jH:=k.J6;have kq:=k.jL;have k5:=k.era;have k6:=k.ws;have k6':AX Al w.Aq≤80008:=k.ws;have k7:=k.cP;unfold XY O0;rw[KV (by omega)];simp only[AD,A0];rcases AMo (w.2.2.2.1.contains d.2.1)with h1|h1
 rotate_left
 ·rw[h1];rfl
 rw[h1,GH,ANk,AJ (by omega) (by omega),I_];simp only[AD];rw[show(w.1,w.2.1,())=AY w from rfl,vZ (c:=AY w) (by show w.1.length≤_;omega) (by omega) (fun s hs=>by have:=(h.QU hs).nk;omega) (by omega) (fun s hs=>(h.QU hs).sin) (by omega)];simp only[AD,pkF];rcases AMo (al (AY w) w.2.2.1 w.2.2.2.1 d.2.1 (max ((w.2.2.2.2.1.length:Int)-1) 0)).2 with h2|h2
 rotate_left
 ·rw[h2];rfl
 have hm:d.2.1∈w.lost:=by
  simp_all
 have hn:=(DO.1 h.lost).2.1 d.2.1 hm;have hn':d.2.1<(w.1.length:Int):=hn.2;rw[h2,ANk,GH,AMp (show 0≤d.2.1∧d.2.1<(w.2.2.1.length:Int)from⟨hn.1,by omega⟩),Hr (by omega) (by simp)];rfl
theorem o8:XJ w.2.1 w.2.2.2.2.2.1 w.2.2.2.2.2.2.2.2.2.2.1 w.1 w.2.2.1 w.2.2.2.1 w.2.2.2.2.1 w.2.2.2.2.2.2.1 w.2.2.2.2.2.2.2.1 w.2.2.2.2.2.2.2.2.1 w.2.2.2.2.2.2.2.2.2.1=some (AP1 (O9 w)):=by
 have k:=h.nums;have k1:=k.c;have k2:=k.wr;have k3:=k.lost;have k4:=k.st;have cD:=k.jF;have jH:=k.J6;have kq:=k.jL;have k5:=k.era;have k7:=k.cP;unfold XJ O9;rw[show(w.2.2.2.2.1,w.2.2.2.2.2.1,())=CJ w from rfl,OM (r:=CJ w) (by show w.2.2.2.2.1.length≤_;omega)];simp only[AD,DS,AB];rw[show(CJ w).1=w.Ao from rfl];by_cases h1:(w.2.2.2.2.1.length:Int)<2
 ·rw[AMp h1,show(decide ((w.2.2.2.2.1.length:Int)<2)||decide (BK w.2.2.2.2.1=(w.2.2.2.2.1.length:Int)))=true by simp_all];rfl
 rw[AM5 h1];by_cases h2:BK w.2.2.2.2.1=(w.2.2.2.2.1.length:Int)
 ·rw[AMp h2,show(decide ((w.2.2.2.2.1.length:Int)<2)||decide (BK w.2.2.2.2.1=(w.2.2.2.2.1.length:Int)))=true by simp_all];rfl
 rw[AM5 h2,show(decide ((w.2.2.2.2.1.length:Int)<2)||decide (BK w.2.2.2.2.1=(w.2.2.2.2.1.length:Int)))=false by simp_all];rw[AM5 (show¬(false=true)by simp)];by_cases h3:w.2.2.2.2.2.2.2.1.length>0
 ·rw[AMp (by omega),AMp h3];rfl
 ·rw[AM5 (by omega),AM5 h3];rfl
theorem nv{d:BN}:XO w.2.1 w.2.2.2.2.2.1 w.2.2.2.2.2.2.2.2.2.2.1 d w.1 w.2.2.1 w.2.2.2.1 w.2.2.2.2.1 w.2.2.2.2.2.2.1 w.2.2.2.2.2.2.2.1 w.2.2.2.2.2.2.2.2.1 w.2.2.2.2.2.2.2.2.2.1=some (Uf (PH w d.2.1)):=by
 have k:=h.nums;have k1:=k.c;have k2:=k.wr;have k3:=k.lost;have k4:=k.st;have cD:=k.jF;have jH:=k.J6;have kq:=k.jL;have k5:=k.era;unfold XO PH;rcases hm:w.CE with _|⟨m,ms⟩
 ·rw[DS,AMp (by simp_all)];rfl
 have n_:w.2.2.2.2.2.2.2.1=m::ms:=hm;have yQ:w.2.2.2.2.2.2.2.1.length=ms.length+1:=by simp_all
 have g0:w.2.2.2.2.2.2.2.1.getD 0 (0,0,[],[],false,[],())=m:=by simp_all
 have yq:(0:Int)≤(0:Int)∧(0:Int)<(w.2.2.2.2.2.2.2.1.length:Int):=by omega
 have Z9:=(h.CE m (by simp_all)).1;have hmw:=Z9.w;have hme:=Z9.ep;have hmb:=Z9.b;simp only[DS,A0,Cs,AMp yq,g0];rw[AM5 (by omega)];rw[show(w.1,w.2.1,w.2.2.1,w.2.2.2.1,w.2.2.2.2.1,w.2.2.2.2.2.1,w.2.2.2.2.2.2.1,w.2.2.2.2.2.2.2.1,w.2.2.2.2.2.2.2.2.1,w.2.2.2.2.2.2.2.2.2.1,w.2.2.2.2.2.2.2.2.2.2.1,())=w from rfl,Ig (by omega) (by omega),show(w.2.2.2.2.1,w.2.2.2.2.2.1,())=CJ w from rfl,ET (r:=CJ w) (by show AX Bh w.2.2.2.2.1≤_;omega)];have VO:(A5 w.Ao m.2.1).length≤8:=Ee h;rw[show(CJ w).1=w.Ao from rfl];simp only[AD];rw[KV (by omega)];simp only[AD];by_cases h3:Aw w d.2.1=0
 rotate_left
 ·rw[AM5 h3,AMp h3];rfl
 obtain⟨hr,s1,s2,s3⟩:=h.Mb h3;have cM:w.2.2.1.getD d.2.1.toNat ([],[],0,())=storeAt w d.2.1:=rfl;have hn3: ¬(Aw w d.2.1≠0):=fun hh=>hh h3
 rw[AMp h3,AM5 hn3];simp only[AMp hr,cM];rcases AMo ((A5 w.Ao m.2.1).contains d.2.1)with h5|h5
 rotate_left
 ·rw[h5,Iy];rfl
 rw[h5,GH,ANk,AJ (by omega) (by omega),show((storeAt w d.2.1).1,(storeAt w d.2.1).2.1,(storeAt w d.2.1).2.2.1,())=storeAt w d.2.1 from rfl,ZD s1 s2];have hq:=qt (u:=m.1-1) s3;have hqw:=hq.w;simp only[AD,jI];rw[show((Bu (storeAt w d.2.1) (m.1-1)).1.1,(Bu (storeAt w d.2.1) (m.1-1)).1.2.1,(Bu (storeAt w d.2.1) (m.1-1)).1.2.2.1,())=(Bu (storeAt w d.2.1) (m.1-1)).1 from rfl,ay (by omega) hq.sin];simp only[AD];have hes:(G2 (Bu (storeAt w d.2.1) (m.1-1)).1 m.2.1).length≤200∧gB (G2 (Bu (storeAt w d.2.1) (m.1-1)).1 m.2.1)∧AX Ai (G2 (Bu (storeAt w d.2.1) (m.1-1)).1 m.2.1)≤10000:=by
  unfold G2;rw[DC.2 hq,AMp rfl];refine⟨ASX (ARp _ _) hq.nk,fun e he=>hq.sin.1 e (AUN.1 he).1,ASX fS ?_⟩;have:Al (Bu (storeAt w d.2.1) (m.1-1)).1=AX Ai (Bu (storeAt w d.2.1) (m.1-1)).1.1+AX Ai (Bu (storeAt w d.2.1) (m.1-1)).1.2.1:=rfl;omega
 rw[show(m.1,m.2.1,m.2.2.1,m.2.2.2.1,m.2.2.2.2.1,m.2.2.2.2.2.1,())=m from rfl,show(w.1,w.2.1,())=AY w from rfl,ai (c:=AY w) (by show w.1.length≤_;omega) (by omega) Z9.yT (by omega) hes.2.1 (by omega)];simp only[AD,gZ];rcases AMo (Bu (storeAt w d.2.1) (m.1-1)).2 with h6|h6
 rotate_left
 ·rw[h6,ATb,AYZ,AMp rfl];rfl
 rw[h6,ANX,AT5];rcases AMo (Oz (AY w) m d.2.1 (G2 (Bu (storeAt w d.2.1) (m.1-1)).1 m.2.1)).2 with h7|h7
 rotate_left
 ·rw[h7,Iy];rfl
 rw[h7,GH,ANk,ANk,n_];rfl
theorem o9:XM w.2.1 w.2.2.2.2.2.1 w.2.2.2.2.2.2.2.2.2.2.1 w.1 w.2.2.1 w.2.2.2.1 w.2.2.2.2.1 w.2.2.2.2.2.2.1 w.2.2.2.2.2.2.2.1 w.2.2.2.2.2.2.2.2.1 w.2.2.2.2.2.2.2.2.2.1=some (Uf (O_ w)):=by
 have k:=h.nums;have k1:=k.c;have k2:=k.wr;have k3:=k.lost;have k4:=k.st;have cD:=k.jF;have jH:=k.J6;have kq:=k.jL;have k5:=k.era;unfold XM O_;rcases hm:w.CE with _|⟨m,ms⟩
 ·rw[DS,AMp (by simp_all)];rfl
 have n_:w.2.2.2.2.2.2.2.1=m::ms:=hm;have yQ:w.2.2.2.2.2.2.2.1.length=ms.length+1:=by simp_all
 have g0:w.2.2.2.2.2.2.2.1.getD 0 (0,0,[],[],false,[],())=m:=by simp_all
 have yq:(0:Int)≤(0:Int)∧(0:Int)<(w.2.2.2.2.2.2.2.1.length:Int):=by omega
 have Z9:=(h.CE m (by simp_all)).1;have hmw:=Z9.w;have hme:=Z9.ep;have hmb:=Z9.b;simp only[DS,A0,Cs,AMp yq,g0];rw[AM5 (by omega)];rw[show(w.2.2.2.2.1,w.2.2.2.2.2.1,())=CJ w from rfl,ET (r:=CJ w) (by show AX Bh w.2.2.2.2.1≤_;omega)];have VO:(A5 w.Ao m.2.1).length≤8:=Ee h;rw[show(CJ w).1=w.Ao from rfl];simp only[AD];rw[show(m.1,m.2.1,m.2.2.1,m.2.2.2.1,m.2.2.2.2.1,m.2.2.2.2.2.1,())=m from rfl,show(w.1,w.2.1,())=AY w from rfl,bc (c:=AY w) (by show w.1.length≤_;omega) (by omega) Z9.yT (by omega)];simp only[AD,gZ];rcases AMo (MC (AY w) m (A5 w.Ao m.2.1)).2 with h7|h7
 rotate_left
 ·rw[h7,Iy];rfl
 rw[h7,GH,ANk,n_];rfl
theorem qJ{d:BN}:Y_ w.2.1 w.2.2.2.2.2.1 w.2.2.2.2.2.2.2.2.2.2.1 d w.1 w.2.2.1 w.2.2.2.1 w.2.2.2.2.1 w.2.2.2.2.2.2.1 w.2.2.2.2.2.2.2.1 w.2.2.2.2.2.2.2.2.1 w.2.2.2.2.2.2.2.2.2.1=some (Uf (VV w d.2.2.1 d.2.2.2.1)):=by
 have k:=h.nums;have k1:=k.c;have k2:=k.wr;have k3:=k.lost;have k4:=k.st;have cD:=k.jF;have jH:=k.J6;have kq:=k.jL;have k5:=k.era;unfold Y_ VV;rcases hm:w.CE with _|⟨m,ms⟩
 ·rw[DS,AMp (by simp_all)];rfl
 have n_:w.2.2.2.2.2.2.2.1=m::ms:=hm;have yQ:w.2.2.2.2.2.2.2.1.length=ms.length+1:=by simp_all
 have g0:w.2.2.2.2.2.2.2.1.getD 0 (0,0,[],[],false,[],())=m:=by simp_all
 have yq:(0:Int)≤(0:Int)∧(0:Int)<(w.2.2.2.2.2.2.2.1.length:Int):=by omega
 have Z9:=(h.CE m (by simp_all)).1;have hmw:=Z9.w;have hme:=Z9.ep;have hmb:=Z9.b;simp only[DS,A0,Cs,AMp yq,g0];rw[AM5 (by omega)];rw[show(m.1,m.2.1,m.2.2.1,m.2.2.2.1,m.2.2.2.2.1,m.2.2.2.2.2.1,())=m from rfl,Yx (m:=m) (by omega),show(w.1,w.2.1,w.2.2.1,w.2.2.2.1,w.2.2.2.2.1,w.2.2.2.2.2.1,w.2.2.2.2.2.2.1,w.2.2.2.2.2.2.2.1,w.2.2.2.2.2.2.2.2.1,w.2.2.2.2.2.2.2.2.2.1,w.2.2.2.2.2.2.2.2.2.2.1,())=w from rfl,Ig (by omega) (by omega),show(w.2.2.2.2.1,w.2.2.2.2.2.1,())=CJ w from rfl,ET (r:=CJ w) (by show AX Bh w.2.2.2.2.1≤_;omega)];have VO:(A5 w.Ao m.2.1).length≤8:=Ee h;rw[show(CJ w).1=w.Ao from rfl];simp only[AD];rw[KV (by omega)];simp only[AD];have U2:∀e,ES m d.2.2.1=some e→CO e.1:=fun e he=>by
  unfold ES at he;split at he
  ·rename_i hc
   simp only[ANB,Ak]at hc;grind[IU,Gr]
  simp_all
 cases he:ES m d.2.2.1 with
 |none=>rfl
 |some e=>
 simp only[AUI,ANk,AUJ];by_cases h3:Aw w d.2.2.2.1=0
 rotate_left
 ·rw[AM5 h3,AMp h3];rfl
 obtain⟨hr,s1,s2,s3⟩:=h.Mb h3;have cM:w.2.2.1.getD d.2.2.2.1.toNat ([],[],0,())=storeAt w d.2.2.2.1:=rfl;have hn3: ¬(Aw w d.2.2.2.1≠0):=fun hh=>hh h3
 rw[AMp h3,AM5 hn3];simp only[AMp hr,cM];rcases AMo ((A5 w.Ao m.2.1).contains d.2.2.2.1)with h5|h5
 rotate_left
 ·rw[h5,Iy];rfl
 rw[h5,GH,ANk,show((storeAt w d.2.2.2.1).1,(storeAt w d.2.2.2.1).2.1,(storeAt w d.2.2.2.1).2.2.1,())=storeAt w d.2.2.2.1 from rfl,show(e.1,e.2.1,e.2.2.1,e.2.2.2.1,())=e from rfl,UH s1 s2 (U2 e he)];simp only[AD,jI,putAt];rcases AMo (GM (storeAt w d.2.2.2.1) e).2 with h6|h6
 ·rw[h6];rfl
 ·rw[h6];rfl
theorem mo:U_ w.2.1 w.2.2.2.2.2.1 w.2.2.2.2.2.2.2.2.2.2.1 w.1 w.2.2.1 w.2.2.2.1 w.2.2.2.2.1 w.2.2.2.2.2.2.1 w.2.2.2.2.2.2.2.1 w.2.2.2.2.2.2.2.2.1 w.2.2.2.2.2.2.2.2.2.1=some (AJV (KZ w)):=by
 have k:=h.nums;have k1:=k.c;have k2:=k.wr;have k3:=k.lost;have k4:=k.st;have cD:=k.jF;have jH:=k.J6;have kq:=k.jL;have k5:=k.era;unfold U_ KZ;rcases hm:w.CE with _|⟨m,ms⟩
 ·rw[DS,AMp (by simp_all)];rfl
 have n_:w.2.2.2.2.2.2.2.1=m::ms:=hm;have yQ:w.2.2.2.2.2.2.2.1.length=ms.length+1:=by simp_all
 have g0:w.2.2.2.2.2.2.2.1.getD 0 (0,0,[],[],false,[],())=m:=by simp_all
 have yq:(0:Int)≤(0:Int)∧(0:Int)<(w.2.2.2.2.2.2.2.1.length:Int):=by omega
 have Z9:=(h.CE m (by simp_all)).1;have hmw:=Z9.w;have hme:=Z9.ep;have hmb:=Z9.b;simp only[DS,A0,Cs,AMp yq,g0];rw[AM5 (by omega)];rw[show(m.1,m.2.1,m.2.2.1,m.2.2.2.1,m.2.2.2.2.1,m.2.2.2.2.2.1,())=m from rfl,show(w.1,w.2.1,())=AY w from rfl,jO (c:=AY w) (by show w.1.length≤_;omega) (by omega) Z9.yT];simp only[AD];rcases AMo (UF (AY w) m)with h5|h5
 rotate_left
 ·rw[h5,Iy];rfl
 rw[h5,GH,ANk,show(w.2.2.2.2.1,w.2.2.2.2.2.1,())=CJ w from rfl,bR (c:=AY w) (r:=CJ w) (by show w.1.length≤_;omega) (by show AX Bh w.2.2.2.2.1≤_;omega) k.trim];simp only[AD,pkR];rcases AMo (NY (AY w) (CJ w) m.1 m.2.2.2.2.2.1.length).2 with h6|h6
 ·rw[h6];rfl
 ·rw[h6];rfl
theorem oG{d:BN}:XL w.2.1 w.2.2.2.2.2.1 w.2.2.2.2.2.2.2.2.2.2.1 d w.1 w.2.2.1 w.2.2.2.1 w.2.2.2.2.1 w.2.2.2.2.2.2.1 w.2.2.2.2.2.2.2.1 w.2.2.2.2.2.2.2.2.1 w.2.2.2.2.2.2.2.2.2.1=some (Uf (NF w d.2.1 d.2.2.1)):=by
 have k:=h.nums;have k1:=k.c;have k2:=k.wr;have k3:=k.lost;have k4:=k.st;have cD:=k.jF;have jH:=k.J6;have kq:=k.jL;have k5:=k.era;have k6:=k.ws;have k6':AX Al w.Aq≤80008:=k.ws;have k7:=k.ww;have k8:=k.rd;unfold XL NF;rw[BV];simp only[AD,A0,Cs];rcases AMo (BF d.2.1 0 1)with h1|h1
 rotate_left
 ·rw[h1];rfl
 have h1':=Ak.1 h1;have hr:0≤d.2.1∧d.2.1<(w.2.2.2.2.2.2.2.2.1.length:Int):=by omega
 have Hh:d.2.1.toNat<w.Aj.length:=by
  simp_all
 have Xc:=h.Aj _ (Ba (d:=Gn) Hh);simp only[AMp hr];rw[h1,GH,ANk,show(w.1,w.2.1,w.2.2.1,w.2.2.2.1,w.2.2.2.2.1,w.2.2.2.2.2.1,w.2.2.2.2.2.2.1,w.2.2.2.2.2.2.2.1,w.2.2.2.2.2.2.2.2.1,w.2.2.2.2.2.2.2.2.2.1,w.2.2.2.2.2.2.2.2.2.2.1,())=w from rfl]
 generalize hx:w.Aj.getD d.2.1.toNat Gn=r at*
 have hre:=Xc.ep;have hro:=Xc.off;rw[rm (by grind),show(r.1,r.2.1,r.2.2.1,())=r from rfl,i_ (by omega) (by omega) (by omega) (by omega)];simp only[AD];have ha:∀a∈answers w (Ge r.1 r.2.1) (BU d.2.2.1),CO a.2.2.1:=fun a ha=>by
  unfold answers at ha;obtain⟨n,hn,rfl⟩:=AUR.1 ha;have hn':Aw w n=0:=by simp_all
  unfold answer;split
  ·rename_i e he
   have:=(h.store hn').kept e (AWy he);exact Gr (GS.1 this).pl
  ·exact⟨by simp_all,by simp_all⟩
 have xS:(answers w (Ge r.1 r.2.1) (BU d.2.2.1)).length≤8:=by
  unfold answers;rw[AWH];refine ASX (ARp _ _) ?_
  unfold BU;split
  ·exact ASX (ARp _ _) (by simp)
  ·simp
 rw[show(w.1,w.2.1,())=AY w from rfl,show(w.2.2.2.2.1,w.2.2.2.2.2.1,())=CJ w from rfl,jB (c:=AY w) (g:=CJ w) (by show w.1.length≤_;omega) (by show AX Bh w.2.2.2.2.1≤_;omega) k.trim (by omega) ha];simp only[AD,AAU];by_cases h2:(Df (AY w) (CJ w) (eY w r.1) r (answers w (Ge r.1 r.2.1) (BU d.2.2.1))).2=0
 ·rw[AMp h2,AM5 (fun hh=>hh h2)];rfl
 ·rw[AM5 h2,AMp h2];rfl
end
end Go.M
end
section
set_option maxRecDepth 8000
namespace Go.M
open Go.M.H (AK AQ Av Af AA CR AO Ay AR Ah BR A6 BN Al CD AX AW Aa Ai Bh A4 Ap A_ EH CP Cv C3)
section
variable{w:AA} (h:Me w)
include h
theorem ATM{ws:List AR}{s:Af}:∀(n i:Nat) (t:Bool) (b:List Af),i≤w.2.2.2.2.2.2.2.2.2.1.length→w.2.2.2.2.2.2.2.2.2.1.length-i<n→b.length≤2*i+2→
  KU n t i w.1 w.2.2.1 w.2.2.2.1 w.2.2.2.2.1 ws w.2.2.2.2.2.2.2.1 w.2.2.2.2.2.2.2.2.1 w.2.2.2.2.2.2.2.2.2.1 w.2.1 w.2.2.2.2.2.1 w.2.2.2.2.2.2.2.2.2.2.1 0 0 false [] [] [] [] [] [] [] [] s.1 s.2.1 s.2.2.1 b=some (AFO (((w.BZ ws).Ax (b++(if t then w.2.2.2.2.2.2.2.2.2.1.drop i else V2 s (w.2.2.2.2.2.2.2.2.2.1.drop i)))),0)):=by
 have k6:=h.nums.se;intro n
 induction n with
 |zero=>omega
 |succ n ih=>
  intro i t b hi hn hb;simp only[KU,YI,AB,A0];have c2:b.length+1≤DE:=by rw[Au];omega
  by_cases Dn:i<w.2.2.2.2.2.2.2.2.2.1.length
  ·have c1:(0:Int)≤(i:Int)∧(i:Int)<(w.2.2.2.2.2.2.2.2.2.1.length:Int):=by omega
   have c3:(b++[(s.1,s.2.1,s.2.2.1,())]).length+1≤DE:=by grind[Au]
   rw[AMp c1.2];simp only[AMp c1,AMp c2,AMp c3];rw[Am Dn,AJ (by omega) (by omega),show((i:Int)+1)=((i+1:Nat):Int)by omega,drop_cons Dn,show(w.2.2.2.2.2.2.2.2.2.1[i].1,w.2.2.2.2.2.2.2.2.2.1[i].2.1,w.2.2.2.2.2.2.2.2.2.1[i].2.2.1,())=w.2.2.2.2.2.2.2.2.2.1[i]from rfl];cases t with
   |true=>
    rw[ANk,ih (i+1) true _ (by omega) (by omega) (by grind),AMp rfl,AMp rfl,AOj];rfl
   |false=>
    rw[ANI,AM5 (show¬(false=true)by simp)];simp only[V2];by_cases hg:w.2.2.2.2.2.2.2.2.2.1[i].1>s.1
    ·rw[AMp hg,AMp hg,ih (i+1) true _ (by omega) (by omega) (by grind),AMp rfl,AOj,AOj]
     rfl
    ·rw[AM5 hg,AM5 hg,ih (i+1) false _ (by omega) (by omega) (by grind),AM5 (show¬(false=true)by simp),AOj]
     rfl
  ·rw[AM5 (by omega),ANl (by omega)]
   cases t with
   |true=>rw[ANk,AMp rfl,AN6];rfl
   |false=>rw[ANI,AMp c2];rfl
theorem AVw{ws:List AR}{s:Af}:∀(n i:Nat),i≤w.2.2.2.2.2.2.2.2.2.1.length→(w.2.2.2.2.2.2.2.2.2.1.length-i)+w.2.2.2.2.2.2.2.2.2.1.length+2≤n→
  MY n i w.1 w.2.2.1 w.2.2.2.1 w.2.2.2.2.1 ws w.2.2.2.2.2.2.2.1 w.2.2.2.2.2.2.2.2.1 w.2.2.2.2.2.2.2.2.2.1 w.2.1 w.2.2.2.2.2.1 w.2.2.2.2.2.2.2.2.2.2.1 0 0 false [] [] [] [] [] [] [] [] s.1 s.2.1 s.2.2.1=some (AFO (if(w.2.2.2.2.2.2.2.2.2.1.drop i).any (fun x=>x.1==s.1)then(w.BZ ws,4)else(((w.BZ ws).Ax (V2 s w.2.2.2.2.2.2.2.2.2.1)),0))):=by
 have k6:=h.nums.se;intro n
 induction n with
 |zero=>omega
 |succ n ih=>
  intro i hi hn;simp only[MY,Zl,AB,DS];by_cases Dn:i<w.2.2.2.2.2.2.2.2.2.1.length
  ·have c1:(0:Int)≤(i:Int)∧(i:Int)<(w.2.2.2.2.2.2.2.2.2.1.length:Int):=by omega
   rw[AMp c1.2,AMp c1,Am Dn,AJ (by omega) (by omega),show((i:Int)+1)=((i+1:Nat):Int)by omega,drop_cons Dn,ih (i+1) (by omega) (by omega),List.any_cons];by_cases he:w.2.2.2.2.2.2.2.2.2.1[i].1=s.1
   ·rw[AMp he,show(w.2.2.2.2.2.2.2.2.2.1[i].1==s.1)=true by simp_all,AYZ,AMp rfl]
    rfl
   ·rw[AM5 he,show(w.2.2.2.2.2.2.2.2.2.1[i].1==s.1)=false by simp_all,AT5]
  ·have:=ATM h (ws:=ws) (s:=s) n 0 false [] (by omega) (by omega) (by simp)
   grind
theorem ry{d:BN}(hd:d.2.2.2.2.1.length≤40):∃w',Zj w.2.1 w.2.2.2.2.2.1 w.2.2.2.2.2.2.2.2.2.2.1 d w.1 w.2.2.1 w.2.2.2.1 w.2.2.2.2.1 w.2.2.2.2.2.2.1 w.2.2.2.2.2.2.2.1 w.2.2.2.2.2.2.2.2.1 w.2.2.2.2.2.2.2.2.2.1=some (AFO (w',(doAdd w d.2.1 d.2.2.2.2.1).2))∧((doAdd w d.2.1 d.2.2.2.2.1).2=0→w' =(doAdd w d.2.1 d.2.2.2.2.1).1):=by
 have k:=h.nums;have k1:=k.c;have k2:=k.wr;have k3:=k.lost;have k4:=k.st;have cD:=k.jF;have jH:=k.J6;have kq:=k.jL;have k5:=k.era;unfold Zj ZT doAdd;rw[show(w.1,w.2.1,w.2.2.1,w.2.2.2.1,w.2.2.2.2.1,w.2.2.2.2.2.1,w.2.2.2.2.2.2.1,w.2.2.2.2.2.2.2.1,w.2.2.2.2.2.2.2.2.1,w.2.2.2.2.2.2.2.2.2.1,w.2.2.2.2.2.2.2.2.2.2.1,())=w from rfl,Sv (by omega)];simp only[AD,A0,DS];rcases AMo (BF d.2.1 0 ((w.AG.length:Int)-1))with h1|h1
 rotate_left
 ·rw[h1];exact⟨w,rfl,fun _=>rfl⟩
 obtain⟨x1,x2,x3⟩:=h.d_ h1;simp only[h1,ANk,GH,AMp x1]
 generalize hx:w.AG.getD d.2.1.toNat Ag=x at*
 rw[show(x.1,x.2.1,())=x from rfl,show(w.1,w.2.1,())=AY w from rfl,kG (c:=AY w) (w:=x) (by show w.1.length≤_;omega) (by omega) (by omega)];simp only[AD];rcases AMo (Bn (AY w) x d.2.2.2.2.1).2.2 with h2|h2
 rotate_left
 ·rw[h2];exact⟨w,rfl,fun _=>rfl⟩
 obtain⟨_,r1,r2,r3⟩:=W_ h2;rw[r2]at r1;have hnn:=r1.n;simp only[AQU,AOw,ARW]at hnn;have hxe:=x2.ep;rw[h2,ANk,r3,r2];rw[FD (by omega) (by omega)];simp only[AD,ANX,AT5];by_cases h3:w.2.2.2.2.2.2.2.2.2.1.length=120
 ·rw[AMp (by omega),show decide (w.AU.length=120)=true from ATy h3,AYZ,AMp rfl];exact⟨w,rfl,fun hh=>by rfl⟩
 have:=AVw h (ws:=w.AG.set d.2.1.toNat (x.1,x.2.1++[(d.2.2.2.2.1,[],false,())],())) (s:=(Ge x.1 ((x.2.1.length:Int)+1),d.2.2.2.2.1,false,())) Ac 0 (by omega) (AV2 (Ae (by have:=h.nums.se;omega)));grind
end
end Go.M
end
section
set_option maxRecDepth 8000
namespace Go.M
open Go.M.H (AK AQ Av Af AA CR AO Ay AR Ah BR A6 BN Al CD AX AW Aa Ai Bh A4 Ap A_ EH CP Cv C3)
section
variable{w:AA} (h:Me w)
include h
theorem AS3{d:BN}{a:Nat}(ha:d.2.1=(a:Int)):∀(n i:Nat) (b:List AR),i≤w.2.2.2.2.2.2.1.length→w.2.2.2.2.2.2.1.length-i<n→b.length≤i→
  NQ n i w.1 w.2.2.1 w.2.2.2.1 w.2.2.2.2.1 w.2.2.2.2.2.2.1 w.2.2.2.2.2.2.2.1 w.2.2.2.2.2.2.2.2.1 w.2.2.2.2.2.2.2.2.2.1 w.2.1 w.2.2.2.2.2.1 w.2.2.2.2.2.2.2.2.2.2.1 d.1 d.2.1 d.2.2.1 d.2.2.2.1 d.2.2.2.2.1 0 0 false [] [] [] [] [] [] [] [] b=some (AGF (w.BZ (b++(if i≤a then(w.2.2.2.2.2.2.1.drop i).eraseIdx (a-i)else w.2.2.2.2.2.2.1.drop i)),0)):=by
 have k6:=h.nums.wr;intro n
 induction n with
 |zero=>omega
 |succ n ih=>
  intro i b hi hn hb;simp only[NQ,Xn,AB,Cs];by_cases Dn:i<w.2.2.2.2.2.2.1.length
  ·have c1:(0:Int)≤(i:Int)∧(i:Int)<(w.2.2.2.2.2.2.1.length:Int):=by omega
   have c2:b.length+1≤DE:=by rw[Au];omega
   rw[AMp c1.2];simp only[AMp c1,AMp c2];rw[Am Dn,AJ (by omega) (by omega),show((i:Int)+1)=((i+1:Nat):Int)by omega,drop_cons Dn,show(w.2.2.2.2.2.2.1[i].1,w.2.2.2.2.2.2.1[i].2.1,())=w.2.2.2.2.2.2.1[i]from rfl];by_cases he:(i:Int)=d.2.1
   ·rw[AMp he,ih (i+1) b (by omega) (by omega) (by omega),AM5 (by omega),AMp (by omega),show a-i=0 by omega]
    rfl
   ·rw[AM5 he,ih (i+1) _ (by omega) (by omega) (by simp_all),AOj]
    by_cases hl:i+1≤a
    ·rw[AMp hl,AMp (by omega),show a-i=(a-(i+1))+1 by omega,List.eraseIdx_cons_succ]
     rfl
    ·rw[AM5 hl,AM5 (by omega)]
     rfl
  ·rw[AM5 (by omega),ANl (by omega)]
   have:(if i≤a then([]:List AR).eraseIdx (a-i)else[])=[]:=by simp_all
   rw[this,AN6];rfl
theorem oM{d:BN}:XE w.2.1 w.2.2.2.2.2.1 w.2.2.2.2.2.2.2.2.2.2.1 d w.1 w.2.2.1 w.2.2.2.1 w.2.2.2.2.1 w.2.2.2.2.2.2.1 w.2.2.2.2.2.2.2.1 w.2.2.2.2.2.2.2.2.1 w.2.2.2.2.2.2.2.2.2.1=some (AGF (QE w d.2.1)):=by
 have k:=h.nums;have k1:=k.c;have k2:=k.wr;have k3:=k.lost;have k4:=k.st;have cD:=k.jF;have jH:=k.J6;have kq:=k.jL;have k5:=k.era;unfold XE Xr QE;rw[show(w.1,w.2.1,w.2.2.1,w.2.2.2.1,w.2.2.2.2.1,w.2.2.2.2.2.1,w.2.2.2.2.2.2.1,w.2.2.2.2.2.2.2.1,w.2.2.2.2.2.2.2.2.1,w.2.2.2.2.2.2.2.2.2.1,w.2.2.2.2.2.2.2.2.2.2.1,())=w from rfl,Sv (by omega)];simp only[AD,A0];rcases AMo (BF d.2.1 0 ((w.AG.length:Int)-1))with h1|h1
 rotate_left
 ·rw[h1];rfl
 have h1':=Ak.1 h1;have:=AS3 h (d:=d) (a:=d.2.1.toNat) (by omega) Ac 0 [] (by omega) (Ae (by omega)) (by simp);simp_all
theorem AIR{d:BN}{ss:List AQ}{ls:AAG}{ws:List AR}(hls:ls.length≤2^20):∀(n i:Nat),i≤w.2.2.2.2.2.2.2.1.length→w.2.2.2.2.2.2.2.1.length-i<n→
  JQ n i w.1 ss w.2.2.2.1 w.2.2.2.2.1 ws ((w.2.2.2.2.2.2.2.1.map fun m=>(B9 (AY w) m d.2.1).1).take i++w.2.2.2.2.2.2.2.1.drop i) w.2.2.2.2.2.2.2.2.1 w.2.2.2.2.2.2.2.2.2.1 w.2.1 w.2.2.2.2.2.1 w.2.2.2.2.2.2.2.2.2.2.1 ls d.1 d.2.1 d.2.2.1 d.2.2.2.1 d.2.2.2.2.1 0 0 false [] [] [] [] [] [] [] []=some (v7 (((((w.Bj ss).FO ls).BZ ws).Cd (w.2.2.2.2.2.2.2.1.map fun m=>(B9 (AY w) m d.2.1).1)).Ff (w.GU||holds (AY w) ls),0)):=by
 have k:=h.nums;have k1:=k.c;have k6:=k.md;intro n
 induction n with
 |zero=>omega
 |succ n ih=>
  intro i hi hn;simp only[JQ,Wi,AB,A0];rw[Pr hi];by_cases Dn:i<w.2.2.2.2.2.2.2.1.length
  ·have c1:(0:Int)≤(i:Int)∧(i:Int)<(w.2.2.2.2.2.2.2.1.length:Int):=by omega
   have hm:=(h.CE _ (ANa Dn)).1;have hmw:=hm.w;rw[AMp c1.2];simp only[AMp c1];rw[ANN,NN Dn,AJ (by omega) (by omega),show((i:Int)+1)=((i+1:Nat):Int)by omega,show(w.2.2.2.2.2.2.2.1[i].1,w.2.2.2.2.2.2.2.1[i].2.1,w.2.2.2.2.2.2.2.1[i].2.2.1,w.2.2.2.2.2.2.2.1[i].2.2.2.1,w.2.2.2.2.2.2.2.1[i].2.2.2.2.1,w.2.2.2.2.2.2.2.1[i].2.2.2.2.2.1,())=w.2.2.2.2.2.2.2.1[i]from rfl,show(w.1,w.2.1,())=AY w from rfl,iY (c:=AY w) (by show w.1.length≤_;omega) (by omega) hm.yT];simp only[AD,gZ];rw[show((B9 (AY w) w.2.2.2.2.2.2.2.1[i] d.2.1).1.1,(B9 (AY w) w.2.2.2.2.2.2.2.1[i] d.2.1).1.2.1,(B9 (AY w) w.2.2.2.2.2.2.2.1[i] d.2.1).1.2.2.1,(B9 (AY w) w.2.2.2.2.2.2.2.1[i] d.2.1).1.2.2.2.1,(B9 (AY w) w.2.2.2.2.2.2.2.1[i] d.2.1).1.2.2.2.2.1,(B9 (AY w) w.2.2.2.2.2.2.2.1[i] d.2.1).1.2.2.2.2.2.1,())=(B9 (AY w) w.2.2.2.2.2.2.2.1[i] d.2.1).1 from rfl,Qv Dn rfl];grind
  ·have:i=w.2.2.2.2.2.2.2.1.length:=by omega
   rw[AM5 (by omega),this,AU_,AN6,AUB (by simp),show(w.1,w.2.1,())=AY w from rfl,D3 (by show w.1.length≤_;omega) (by omega)];simp only[AD];cases ht:w.2.2.2.2.2.2.2.2.2.2.1 with
   |true=>
    have ht':w.GU=true:=ht;rw[ht'];rfl
   |false=>
    have ht':w.GU=false:=ht;rw[ht'];rfl
theorem ATc{d:BN}{ss:List AQ}{ls:AAG}(hls:ls.length≤2^20):∀(n i:Nat),i≤w.2.2.2.2.2.2.1.length→(w.2.2.2.2.2.2.1.length-i)+w.2.2.2.2.2.2.2.1.length+2≤n→
  KI n i w.1 ss w.2.2.2.1 w.2.2.2.2.1 ((w.2.2.2.2.2.2.1.map fun x=>(CF (AY w) x d.2.1).1).take i++w.2.2.2.2.2.2.1.drop i) w.2.2.2.2.2.2.2.1 w.2.2.2.2.2.2.2.2.1 w.2.2.2.2.2.2.2.2.2.1 w.2.1 w.2.2.2.2.2.1 w.2.2.2.2.2.2.2.2.2.2.1 ls d.1 d.2.1 d.2.2.1 d.2.2.2.1 d.2.2.2.2.1 0 0 false [] [] [] [] [] [] [] []=some (v7 (((((w.Bj ss).FO ls).BZ (w.2.2.2.2.2.2.1.map fun x=>(CF (AY w) x d.2.1).1)).Cd (w.2.2.2.2.2.2.2.1.map fun m=>(B9 (AY w) m d.2.1).1)).Ff (w.GU||holds (AY w) ls),0)):=by
 have k:=h.nums;have k1:=k.c;have k6:=k.wr;intro n
 induction n with
 |zero=>omega
 |succ n ih=>
  intro i hi hn;simp only[KI,YW,AB,A0];rw[Pr hi];by_cases Dn:i<w.2.2.2.2.2.2.1.length
  ·have c1:(0:Int)≤(i:Int)∧(i:Int)<(w.2.2.2.2.2.2.1.length:Int):=by omega
   have hm:=(h.AG _ (ANa Dn)).1;have hmw:=hm.w;rw[AMp c1.2];simp only[AMp c1];rw[ANN,NN Dn,AJ (by omega) (by omega),show((i:Int)+1)=((i+1:Nat):Int)by omega,show(w.2.2.2.2.2.2.1[i].1,w.2.2.2.2.2.2.1[i].2.1,())=w.2.2.2.2.2.2.1[i]from rfl,show(w.1,w.2.1,())=AY w from rfl,eu (c:=AY w) (by show w.1.length≤_;omega) (by have:Ap w.2.2.2.2.2.2.1[i]=AX A4 w.2.2.2.2.2.2.1[i].2.1:=rfl;omega)];simp only[AD,pkW];rw[show((CF (AY w) w.2.2.2.2.2.2.1[i] d.2.1).1.1,(CF (AY w) w.2.2.2.2.2.2.1[i] d.2.1).1.2.1,())=(CF (AY w) w.2.2.2.2.2.2.1[i] d.2.1).1 from rfl,Qv Dn rfl];grind
  ·have:i=w.2.2.2.2.2.2.1.length:=by omega
   have k11:=AIR h (d:=d) (ss:=ss) (ws:=w.2.2.2.2.2.2.1.map fun x=>(CF (AY w) x d.2.1).1) hls n 0 (by omega) (by omega);rw[show((0:Nat):Int)=0 from rfl,AT_,AYl,AT6]at k11;rw[AM5 (by omega),this,AU_,AN6,AUB (by simp),k11]
theorem pA{d:BN}:XZ w.2.1 w.2.2.2.2.2.1 w.2.2.2.2.2.2.2.2.2.2.1 d w.1 w.2.2.1 w.2.2.2.1 w.2.2.2.2.1 w.2.2.2.2.2.2.1 w.2.2.2.2.2.2.2.1 w.2.2.2.2.2.2.2.2.1 w.2.2.2.2.2.2.2.2.2.1=some (v7 (PA w d.2.1)):=by
 have k:=h.nums;have k1:=k.c;have k2:=k.wr;have k3:=k.lost;have k4:=k.st;have cD:=k.jF;have jH:=k.J6;have kq:=k.jL;have k5:=k.era;have k6:=k.md;unfold XZ Xy PA;rw[show(w.1,w.2.1,w.2.2.1,w.2.2.2.1,w.2.2.2.2.1,w.2.2.2.2.2.1,w.2.2.2.2.2.2.1,w.2.2.2.2.2.2.2.1,w.2.2.2.2.2.2.2.2.1,w.2.2.2.2.2.2.2.2.2.1,w.2.2.2.2.2.2.2.2.2.2.1,())=w from rfl,Ig (by omega) (by omega)];simp only[AD,Cs];by_cases h3:Aw w d.2.1=0
 rotate_left
 ·rw[AM5 h3,AMp h3];rfl
 obtain⟨hr,s1,s2,s3⟩:=h.Mb h3;rw[AMp h3,AM5 (show¬(Aw w d.2.1≠0)from fun hh=>hh h3),AMp hr,K_ (by omega)];simp only[AD];have hp:=TA (n:=d.2.1) (l:=w.2.2.2.1);have:=ATc h (d:=d) (ss:=w.2.2.1.set d.2.1.toNat ([],[],0,())) (ls:=N2 d.2.1 w.2.2.2.1) (by omega) Ac 0 (by omega) (AV2 (Ae (by omega)));simp_all
end
end Go.M
end
section
set_option maxRecDepth 8000
namespace Go.M
open Go.M.H (AK AQ Av Af AA CR AO Ay AR Ah BR A6 BN Al CD AX AW Aa Ai Bh A4 Ap A_ EH CP Cv C3)
theorem eqE{x e:AK}:(x.1==e.1&&(x.2.1==e.2.1&&(x.2.2.1==e.2.2.1&&(x.2.2.2.1==e.2.2.2.1&&true))))=decide (x=e):=by
 grind
theorem dQ{m:Av}{o:Int}{l:List AAG}(hl:l.length=m.2.2.2.2.2.1.length):ES (m.1,m.2.1,m.2.2.1,m.2.2.2.1,m.2.2.2.2.1,l,()) o=ES m o:=by
 grind[ES]
section
variable{w:AA} (h:Me w) {st:AQ} (hs:cZ st) {n:Int} (hn:0≤n∧n<(AY w).1.length) {SS:List AQ}
include h hs hn
theorem AMD{ws:List AR}{se:List Af}{ms:List Av}{j B:Nat}{m:Av}{R:Option Bw}(hj:j<ms.length)(yU:ms.length≤2^20)(hlen:(ms.getD j Rc).2.2.2.2.2.1.length=m.2.2.2.2.2.1.length)(hm:ku (AY w) m)
  (hc:(A5 w.Ao m.2.1).contains n=true)
  (cont:∀f,B≤f→Bi f n ((j+1:Nat):Int) w.1 SS w.2.2.2.1 w.2.2.2.2.1 ws (ms.set j (m.1,m.2.1,m.2.2.1,m.2.2.2.1,m.2.2.2.2.1,Fm m st n 1 m.2.2.2.2.2.1,())) w.2.2.2.2.2.2.2.2.1 se w.2.1 w.2.2.2.2.2.1 w.2.2.2.2.2.2.2.2.2.2.1 0 0 false [] [] [] [] [] [] [] [] st.1 st.2.1 st.2.2.1=R):
  ∀(rest dn:List AAG) (f:Nat),dn.length+rest.length=m.2.2.2.2.2.1.length→(∀l∈dn++rest,A9 (AY w) l=true)→rest.length+B+1≤f→
   dn++Fm m st n ((dn.length:Int)+1) rest=Fm m st n 1 m.2.2.2.2.2.1→
   Bc f n (j:Int) ((dn.length:Int)+1) w.1 SS w.2.2.2.1 w.2.2.2.2.1 ws ms w.2.2.2.2.2.2.2.2.1 se w.2.1 w.2.2.2.2.2.1 w.2.2.2.2.2.2.2.2.2.2.1 0 0 false [] [] [] [] [] [] [] [] st.1 st.2.1 st.2.2.1 m.1 m.2.1 m.2.2.1 m.2.2.2.1 m.2.2.2.2.1 (dn++rest)=R:=by
 have k:=h.nums;have k1:=k.c;have k5:=k.era;have c1:(0:Int)≤(j:Int)∧(j:Int)<(ms.length:Int):=by omega
 have VO:(A5 w.Ao m.2.1).length≤8:=Ee h;have yQ:m.2.2.2.2.2.1.length≤60:=by
  have:=hm.n;have hb:=Ho (l:=m.2.2.2.1);omega
 intro rest
 induction rest with
 |nil=>
  intro dn f hl ho hf he;obtain⟨f,rfl⟩:∃f',f=f'+1:=⟨f-1,by omega⟩;simp only[ARW,AVe,AUY,Fm,AN6]at hl hf he;simp only[Bc,Il,AB,AN6];simp only[AMp c1];rw[show ms.getD ((j:Int)).toNat (0,0,[],[],false,[],())=ms.getD j Rc from rfl,hlen,AM5 (by omega),AJ (by omega) (by omega),show((j:Int)+1)=((j+1:Nat):Int)by omega,he,ANN];simp_all
 |cons x rest ih=>
  intro dn f hl ho hf he;obtain⟨f,rfl⟩:∃f',f=f'+1:=⟨f-1,by omega⟩;simp only[AOw]at hl hf;simp only[Bc,Il,AB];simp only[AMp c1];have Z9:ku (AY w) (m.1,m.2.1,m.2.2.1,m.2.2.2.1,m.2.2.2.2.1,dn++x::rest,()):=⟨hm.cfg,hm.ep,hm.b,hm.yd,hm.sA,hm.seen,ho,by
   have:=hm.n;simp_all⟩
  have hmw:=Z9.w;rw[show ms.getD ((j:Int)).toNat (0,0,[],[],false,[],())=ms.getD j Rc from rfl,hlen,AMp (by omega),show(w.2.2.2.2.1,w.2.2.2.2.2.1,())=CJ w from rfl,ET (r:=CJ w) (by show AX Bh w.2.2.2.2.1≤_;omega)];rw[show(CJ w).1=w.Ao from rfl];simp only[AD];rw[KV (by omega),hc];simp only[AD,ANk];have hdl:(dn++x::rest).length=m.2.2.2.2.2.1.length:=by simp_all
  rw[Yx (m:=(m.1,m.2.1,m.2.2.1,m.2.2.2.1,m.2.2.2.2.1,dn++x::rest,())) (by omega),dQ hdl];simp only[AD];have AZu:m.2.2.2.2.1=true:=by
   have:=hm.n;grind
  have AWu:∃e,ES m ((dn.length:Int)+1)=some e:=by
   unfold ES;rw[AZu,AMp (by
    simp only[ANr,ANB,Ak,ANo];have:=hm.ep;omega)]
   split<;>exact⟨_,rfl⟩
  obtain⟨e,hee⟩:=AWu;have pE:=hs.w;rw[hee];simp only[AUJ];rw[Uq (GG (by omega)).1];simp only[AD,eqE,AB];rw[AJ (by omega) (by omega)];simp only[Fm]at he;have hmd:U5 m st ((dn.length:Int)+1)=(G_ e.1 st.1==some e):=by
   unfold U5;rw[hee]
  cases hg:G_ e.1 st.1 with
  |none=>
   simp only[AUH,ANI];rw[hmd,hg]at he;have:=ih (dn++[x]) f (by grind) (by simp_all) (by omega) (by
    simp_all)
   simp_all
  |some y=>
   simp only[AUI,ANk,AUJ];by_cases hye:y=e
   ·rw[AMp hye]
    rw[hmd,hg,hye]at he;rw[show(w.1,w.2.1,())=AY w from rfl,cu (c:=AY w) (m:=(m.1,m.2.1,m.2.2.1,m.2.2.2.1,m.2.2.2.2.1,dn++x::rest,())) (by show w.1.length≤_;omega) (by omega) Z9.yT];have AEg:Td (AY w) (m.1,m.2.1,m.2.2.1,m.2.2.2.1,m.2.2.2.2.1,dn++x::rest,()) ((dn.length:Int)+1) n=((m.1,m.2.1,m.2.2.1,m.2.2.2.1,m.2.2.2.2.1,dn++N2 n x::rest,()),true):=by
     unfold Td;rw[Gq.2 Z9];have hq:(BF ((dn.length:Int)+1) 1 ((dn++x::rest).length:Int)&&BF n 0 (((AY w).1.length:Int)-1))=true:=by
      rw[ANB,Ak,Ak];omega
     grind
    rw[AEg];simp only[AD,gZ];have hx:=ho x (by simp);have:=ih (dn++[N2 n x]) f (by grind) (by
     intro l mM;simp only[AOj,AUk,AOt,AQQ]at mM;rcases mM with mM|rfl|mM
     all_goals grind[Ka]) (by omega) (by
     simp_all)
    simp_all
   ·rw[AM5 hye]
    have hf2:(some y==some e)=false:=by
     simp_all
    rw[hmd,hg,hf2]at he;have:=ih (dn++[x]) f (by grind) (by simp_all) (by omega) (by
     simp_all)
    simp_all
theorem AKL{ws:List AR}{se:List Af}:∀(k i:Nat),w.2.2.2.2.2.2.2.1.length-i=k→i≤w.2.2.2.2.2.2.2.1.length→ ∀f,k*100+1≤f→
  Bi f n (i:Int) w.1 SS w.2.2.2.1 w.2.2.2.2.1 ws ((w.2.2.2.2.2.2.2.1.map (LP st w.Ao n)).take i++w.2.2.2.2.2.2.2.1.drop i) w.2.2.2.2.2.2.2.2.1 se w.2.1 w.2.2.2.2.2.1 w.2.2.2.2.2.2.2.2.2.2.1 0 0 false [] [] [] [] [] [] [] [] st.1 st.2.1 st.2.2.1=(some ((((),w.2.1,(),(),(),w.2.2.2.2.2.1,(),(),(),(),w.2.2.2.2.2.2.2.2.2.2.1,()),()),(w.1,SS,w.2.2.2.1,w.2.2.2.2.1,ws,(w.2.2.2.2.2.2.2.1.map (LP st w.Ao n)),w.2.2.2.2.2.2.2.2.1,se,())):Option Bw):=by
 have k:=h.nums;have k5:=k.era;have k6:=k.md;intro k
 induction k with
 |zero=>
  intro i hk hi f hf;obtain⟨f,rfl⟩:∃f',f=f'+1:=⟨f-1,by omega⟩;have:i=w.2.2.2.2.2.2.2.1.length:=by omega
  simp only[Bi,Lj,AB];grind
 |succ k ih=>
  intro i hk hi f hf;obtain⟨f,rfl⟩:∃f',f=f'+1:=⟨f-1,by omega⟩;have Dn:i<w.2.2.2.2.2.2.2.1.length:=by omega
  have c1:(0:Int)≤(i:Int)∧(i:Int)<(w.2.2.2.2.2.2.2.1.length:Int):=by omega
  simp only[Bi,Lj,AB];rw[Pr hi,AMp c1.2,AMp c1,ANN,NN Dn];have hm:=(h.CE _ (ANa Dn)).1;have yQ:w.2.2.2.2.2.2.2.1[i].2.2.2.2.2.1.length≤60:=by
   have:=hm.n;have hb:=Ho (l:=w.2.2.2.2.2.2.2.1[i].2.2.2.1);omega
  rcases AMo ((A5 w.Ao w.2.2.2.2.2.2.2.1[i].2.1).contains n)with hc|hc
  ·have hT:LP st w.Ao n w.2.2.2.2.2.2.2.1[i]=(w.2.2.2.2.2.2.2.1[i].1,w.2.2.2.2.2.2.2.1[i].2.1,w.2.2.2.2.2.2.2.1[i].2.2.1,w.2.2.2.2.2.2.2.1[i].2.2.2.1,w.2.2.2.2.2.2.2.1[i].2.2.2.2.1,Fm w.2.2.2.2.2.2.2.1[i] st n 1 w.2.2.2.2.2.2.2.1[i].2.2.2.2.2.1,()):=by
    unfold LP;simp_all
   have:=AMD h hs hn (SS:=SS) (ws:=ws) (se:=se) (ms:=(w.2.2.2.2.2.2.2.1.map (LP st w.Ao n)).take i++w.2.2.2.2.2.2.2.1.drop i) (j:=i) (B:=k*100+1) (m:=w.2.2.2.2.2.2.2.1[i]) (R:=(some ((((),w.2.1,(),(),(),w.2.2.2.2.2.1,(),(),(),(),w.2.2.2.2.2.2.2.2.2.2.1,()),()),(w.1,SS,w.2.2.2.1,w.2.2.2.2.1,ws,(w.2.2.2.2.2.2.2.1.map (LP st w.Ao n)),w.2.2.2.2.2.2.2.2.1,se,())):Option Bw)) (by simp_all) (by grind) (by simp_all) hm hc (fun f hf=>by
    grind[Qv]) w.2.2.2.2.2.2.2.1[i].2.2.2.2.2.1 [] f (by simp) (by simpa using hm.wrote) (by omega) (by simp)
   simp_all
  ·have hT:LP st w.Ao n w.2.2.2.2.2.2.2.1[i]=w.2.2.2.2.2.2.2.1[i]:=by
    unfold LP;simp_all
   obtain⟨f,rfl⟩:∃f',f=f'+1:=⟨f-1,by omega⟩;simp only[Bc,Il,AB];have VO:(A5 w.Ao w.2.2.2.2.2.2.2.1[i].2.1).length≤8:=Ee h;rw[Pr hi];simp only[AMp c1];rw[ANN,NN Dn,show(w.2.2.2.2.1,w.2.2.2.2.2.1,())=CJ w from rfl,ET (r:=CJ w) (by show AX Bh w.2.2.2.2.1≤_;omega)];rw[show(CJ w).1=w.Ao from rfl];simp only[AD];rw[KV (by omega),hc,Qv Dn (show(w.2.2.2.2.2.2.2.1[i].1,w.2.2.2.2.2.2.2.1[i].2.1,w.2.2.2.2.2.2.2.1[i].2.2.1,w.2.2.2.2.2.2.2.1[i].2.2.2.1,w.2.2.2.2.2.2.2.1[i].2.2.2.2.1,w.2.2.2.2.2.2.2.1[i].2.2.2.2.2.1,())=LP st w.Ao n w.2.2.2.2.2.2.2.1[i]from hT.symm),AJ (x:=(i:Int)+1) (by omega) (by omega),show((i:Int)+1)=((i+1:Nat):Int)by omega,ih (i+1) (by omega) (by omega) f (by omega)];simp_all
end
end Go.M
end
section
set_option maxRecDepth 8000
namespace Go.M
open Go.M.H (AK AQ Av Af AA CR AO Ay AR Ah BR A6 BN Al CD AX AW Aa Ai Bh A4 Ap A_ EH CP Cv C3)
theorem lR{x y:Ay}(hx:x.2.2.1=false):∀{dn rest:List Ay},Rk (dn++y::rest)≤Rk (dn++x::rest)
 |[],rest=>by
  grind[Rk]
 |a::dn,rest=>by
  have:=lR (y:=y) hx (dn:=dn) (rest:=rest);grind[Rk]
section
variable{w:AA} (h:Me w) {st:AQ} (hs:cZ st) {n:Int} (hn:0≤n∧n<(AY w).1.length) {SS:List AQ}
include h hs hn
theorem AHO{ws:List AR}{se:List Af}{j B:Nat}{ep x y:Int}{z:Bool}{old new:List Ay}{R:Option Bw}(hj:j<2^20)(cM:se.length≤120)(hsp:∀s∈se,Bf s.1=true)(wu:new.length≤60)(hep:1≤ep∧ep≤30)
  (cont:∀f,B≤f→Be f n ((j+1:Nat):Int) w.1 SS w.2.2.2.1 w.2.2.2.2.1 ws w.2.2.2.2.2.2.2.1 w.2.2.2.2.2.2.2.2.1 (se.map (P_ true ep old new)) w.2.1 w.2.2.2.2.2.1 w.2.2.2.2.2.2.2.2.2.2.1 0 0 false [] [] [] [] [] [] [] [] st.1 st.2.1 st.2.2.1=R):
  ∀(k i:Nat),se.length-i=k→i≤se.length→ ∀f,k+B+1≤f→
   BD f n (j:Int) (i:Int) x y z w.1 SS w.2.2.2.1 w.2.2.2.2.1 ws w.2.2.2.2.2.2.2.1 w.2.2.2.2.2.2.2.2.1 ((se.map (P_ true ep old new)).take i++se.drop i) w.2.1 w.2.2.2.2.2.1 w.2.2.2.2.2.2.2.2.2.2.1 0 0 false [] [] [] [] [] [] [] [] st.1 st.2.1 st.2.2.1 ep new=R:=by
 intro k
 induction k with
 |zero=>
  intro i hk hi f hf;obtain⟨f,rfl⟩:∃f',f=f'+1:=⟨f-1,by omega⟩;have:i=se.length:=by omega
  simp only[BD,LX,AB];rw[Pr hi,AM5 (by omega),this,AU_,AN6,AUB (by simp),AJ (by omega) (by omega),show((j:Int)+1)=((j+1:Nat):Int)by omega];simp_all
 |succ k ih=>
  intro i hk hi f hf;obtain⟨f,rfl⟩:∃f',f=f'+1:=⟨f-1,by omega⟩;have Dn:i<se.length:=by omega
  have c1:(0:Int)≤(i:Int)∧(i:Int)<(se.length:Int):=by omega
  have hp:=hsp _ (ANa Dn);have hpf:=EV hp;have ih':=ih (i+1) (by omega) (by omega) f (by omega);simp only[BD,LX,AB,DS];rw[Pr hi,AMp c1.2];simp only[AMp c1];rw[ANN,NN Dn,EN (Gr hp),Z5 (Gr hp),AJ (x:=(i:Int)+1) (by omega) (by omega),show((i:Int)+1)=((i+1:Nat):Int)by omega];simp only[AD];have skip:P_ true ep old new se[i]=se[i]→BD f n (j:Int) ((i+1:Nat):Int) x y z w.1 SS w.2.2.2.1 w.2.2.2.2.1 ws w.2.2.2.2.2.2.2.1 w.2.2.2.2.2.2.2.2.1 ((se.map (P_ true ep old new)).take i++se.drop i) w.2.1 w.2.2.2.2.2.1 w.2.2.2.2.2.2.2.2.2.2.1 0 0 false [] [] [] [] [] [] [] [] st.1 st.2.1 st.2.2.1 ep new=R:=fun hm=>by
   grind[kj]
  by_cases he:An se[i].1=ep
  rotate_left
  ·rw[AM5 he]
   grind[P_,An,beq_eq_false_iff_ne]
  rw[AMp he];by_cases ho:Cp se[i].1≤(new.length:Int)
  rotate_left
  ·rw[AM5 ho]
   refine skip ?_
   unfold P_ LA;rw[show BF (Cp se[i].1) 1 (new.length:Int)=false by
    rw[AUQ];grind[Ak]]
   simp
  rw[AMp ho,AJ (x:=Cp se[i].1-1) (by omega) (by omega),AMp (by omega)];have hd:LA new (Cp se[i].1)=(new.getD (Cp se[i].1-1).toNat LR).2.2.1:=by
   unfold LA;rw[Ak.2 ⟨hpf.2.1.1,ho⟩,ANr]
  have xt:(new.getD (Cp se[i].1-1).toNat ([],[],false,())).2.2.1=LA new (Cp se[i].1):=hd.symm;rw[xt];cases hdd:LA new (Cp se[i].1)with
  |false=>
   rw[ANI];grind[P_]
  |true=>
   rw[ANk,Qv Dn (show(se[i].1,se[i].2.1,true,())=P_ true ep old new se[i]by
    grind[P_])]
   omega
theorem AQj{ws:List AR}{se:List Af}{j B:Nat}{ep x y:Int}{z:Bool}{l0:List Ay}{R:Option Bw}(hj:j<ws.length)(yU:ws.length≤2^20)
  (cont:∀f,B≤f→BD f n (j:Int) 0 x y z w.1 SS w.2.2.2.1 w.2.2.2.2.1 (ws.set j (ep,A8 (AY w) st ep n 1 l0,())) w.2.2.2.2.2.2.2.1 w.2.2.2.2.2.2.2.2.1 se w.2.1 w.2.2.2.2.2.1 w.2.2.2.2.2.2.2.2.2.2.1 0 0 false [] [] [] [] [] [] [] [] st.1 st.2.1 st.2.2.1 ep (A8 (AY w) st ep n 1 l0)=R):
  ∀(rest dn:List Ay) (f:Nat),cO (AY w) (ep,dn++rest,())→rest.length+B+1≤f→
   dn++A8 (AY w) st ep n ((dn.length:Int)+1) rest=A8 (AY w) st ep n 1 l0→
   BB f n (j:Int) ((dn.length:Int)+1) x y z w.1 SS w.2.2.2.1 w.2.2.2.2.1 ws w.2.2.2.2.2.2.2.1 w.2.2.2.2.2.2.2.2.1 se w.2.1 w.2.2.2.2.2.1 w.2.2.2.2.2.2.2.2.2.2.1 0 0 false [] [] [] [] [] [] [] [] st.1 st.2.1 st.2.2.1 ep (dn++rest)=R:=by
 have k1:=h.nums.c;have pE:=hs.w;intro rest
 induction rest with
 |nil=>
  intro dn f hw hf he;obtain⟨f,rfl⟩:∃f',f=f'+1:=⟨f-1,by omega⟩;simp only[ARW,AUY,A8,AN6]at hf he;simp only[BB,Mw,AB,AN6];grind
 |cons a rest ih=>
  intro dn f hw hf he;obtain⟨f,rfl⟩:∃f',f=f'+1:=⟨f-1,by omega⟩;simp only[AOw]at hf;have hwe:1≤ep∧ep≤30:=hw.ep;have hwn:(dn++a::rest).length≤60:=hw.n;have hww:=hw.w;have hwl:=hwn;simp only[AQU,AOw]at hwl;simp only[BB,Mw,AB,A0,Cs];rw[AMp (by grind),FD (by omega) (by omega)];simp only[AD];rw[Uq (GG (by omega)).1];simp only[AD];rw[AJ (x:=(dn.length:Int)+1+1) (by omega) (by omega),AJ (x:=(dn.length:Int)+1-1) (by omega) (by omega),AMp (show(0:Int)≤(dn.length:Int)+1-1∧(dn.length:Int)+1-1<((dn++a::rest).length:Int)by grind)];have e1:((dn.length:Int)+1-1).toNat=dn.length:=by omega
  have e2:(dn++a::rest).getD dn.length ([],[],false,())=a:=by simp[List.getD]
  rw[e1,e2];simp only[A8]at he;have go:∀b:Ay,cO (AY w) (ep,dn++b::rest,())→(if(!a.2.2.1&&KA st (Ge ep ((dn.length:Int)+1)))=true then Fc (AY w) n a else a)=b→
    BB f n (j:Int) ((dn.length:Int)+1+1) x y z w.1 SS w.2.2.2.1 w.2.2.2.2.1 ws w.2.2.2.2.2.2.2.1 w.2.2.2.2.2.2.2.2.1 se w.2.1 w.2.2.2.2.2.1 w.2.2.2.2.2.2.2.2.2.2.1 0 0 false [] [] [] [] [] [] [] [] st.1 st.2.1 st.2.2.1 ep (dn++b::rest)=R:=fun b hb sC=>by
   rw[sC]at he;have:=ih (dn++[b]) f (by simp_all) (by omega) (by
    simp_all)
   simp_all
  cases hg:G_ (Ge ep ((dn.length:Int)+1)) st.1 with
  |none=>
   simp only[AUH,ANI];grind[KA]
  |some e=>
   simp only[AUI,ANk,AUJ];by_cases he0:e.2.1=0
   rotate_left
   ·rw[AM5 he0]
    grind[KA]
   rw[AMp he0];cases had:a.2.2.1 with
   |true=>
    grind
   |false=>
    rw[ANI];have ha:=hw.words a (by simp);have hb:cO (AY w) (ep,dn++Fc (AY w) n a::rest,()):=⟨hw.cfg,hw.ep,by simp_all,fun b hb=>by
     simp only[AOt,AQQ]at hb;rcases hb with hb|rfl|hb
     ·exact hw.words b (by simp[hb])
     ·exact⟨ha.1,Ka ha.2.1 hn,rfl⟩
     ·exact hw.words b (by simp[hb]),ASX (lR had) hw.opn⟩
    rw[show(w.1,w.2.1,())=AY w from rfl,jU (c:=AY w) (w:=(ep,dn++a::rest,())) (by show w.1.length≤_;omega) (by have:Ap (ep,dn++a::rest,())=AX A4 (dn++a::rest):=rfl;grind)];have AEg:Ra (AY w) (ep,dn++a::rest,()) ((dn.length:Int)+1) n=((ep,dn++Fc (AY w) n a::rest,()),true):=by
     unfold Ra;rw[Ir.2 hw];simp only[ANX,ANZ,AQ7];rw[e1,show(dn++a::rest).getD dn.length LR=a from e2,had];rw[AMp (by
      rw[ANB,ANB,Ak,Ak];grind)]
     simp_all
    grind[AD,pkW,KA]
theorem AOZ:∀(rest pre:List AR) (se:List Af) (f:Nat),(pre++rest).length≤4→(∀x∈rest,cO (AY w) x)→se.length≤120→(∀s∈se,Bf s.1=true)→rest.length*300+w.2.2.2.2.2.2.2.1.length*100+2≤f→
  Be f n (pre.length:Int) w.1 SS w.2.2.2.1 w.2.2.2.2.1 (pre++rest) w.2.2.2.2.2.2.2.1 w.2.2.2.2.2.2.2.2.1 se w.2.1 w.2.2.2.2.2.1 w.2.2.2.2.2.2.2.2.2.2.1 0 0 false [] [] [] [] [] [] [] [] st.1 st.2.1 st.2.2.1=(some ((((),w.2.1,(),(),(),w.2.2.2.2.2.1,(),(),(),(),w.2.2.2.2.2.2.2.2.2.2.1,()),()),(w.1,SS,w.2.2.2.1,w.2.2.2.2.1,(pre++(Ec true (AY w) st w.Ao n rest se).1),(w.2.2.2.2.2.2.2.1.map (LP st w.Ao n)),w.2.2.2.2.2.2.2.2.1,(Ec true (AY w) st w.Ao n rest se).2,())):Option Bw):=by
 have k5:=h.nums.era;intro rest
 induction rest with
 |nil=>
  intro pre se f hl hw cM hsp hf;obtain⟨f,rfl⟩:∃f',f=f'+1:=⟨f-1,by omega⟩;simp only[Be,Mv,AB];have:=AKL h hs hn (SS:=SS) (ws:=pre) (se:=se) w.2.2.2.2.2.2.2.1.length 0 (by omega) (by omega) f (by omega);rw[show((0:Nat):Int)=0 from rfl,AT_,AYl,AT6]at this;rw[AN6,AM5 (by omega),this];simp only[Ec,AN6]
 |cons a rest ih=>
  intro pre se f hl hw cM hsp hf;simp only[AQU,AOw]at hl hf;obtain⟨f,rfl⟩:∃f',f=f'+1:=⟨f-1,by omega⟩;simp only[Be,Mv,AB,A0];have wo:(pre++a::rest).length=pre.length+(rest.length+1):=by simp
  have c1:(0:Int)≤(pre.length:Int)∧(pre.length:Int)<((pre++a::rest).length:Int):=by omega
  have e2:(pre++a::rest).getD pre.length (0,[],())=a:=by simp[List.getD]
  have VO:(A5 w.Ao a.1).length≤8:=Ee h;rw[AMp c1.2,AMp c1,ANN,e2,show(w.2.2.2.2.1,w.2.2.2.2.2.1,())=CJ w from rfl,ET (r:=CJ w) (by show AX Bh w.2.2.2.2.1≤_;omega)];rw[show(CJ w).1=w.Ao from rfl];simp only[AD];rw[KV (by omega),AJ (by omega) (by omega),show((pre.length:Int)+1)=((pre.length+1:Nat):Int)by omega];simp only[AD];have ha:=hw a (by simp);have hae:=ha.ep;have han:=ha.n;have next:∀(b:AR) (b_:List Af) (f:Nat),b_.length≤120→(∀s∈b_,Bf s.1=true)→rest.length*300+w.2.2.2.2.2.2.2.1.length*100+2≤f→
    Be f n ((pre.length+1:Nat):Int) w.1 SS w.2.2.2.1 w.2.2.2.2.1 (pre++b::rest) w.2.2.2.2.2.2.2.1 w.2.2.2.2.2.2.2.2.1 b_ w.2.1 w.2.2.2.2.2.1 w.2.2.2.2.2.2.2.2.2.2.1 0 0 false [] [] [] [] [] [] [] [] st.1 st.2.1 st.2.2.1=(some ((((),w.2.1,(),(),(),w.2.2.2.2.2.1,(),(),(),(),w.2.2.2.2.2.2.2.2.2.2.1,()),()),(w.1,SS,w.2.2.2.1,w.2.2.2.2.1,(pre++b::(Ec true (AY w) st w.Ao n rest b_).1),(w.2.2.2.2.2.2.2.1.map (LP st w.Ao n)),w.2.2.2.2.2.2.2.2.1,(Ec true (AY w) st w.Ao n rest b_).2,())):Option Bw):=fun b b_ f h1 h2 h3=>by
   have:=ih (pre++[b]) b_ f (by simp only[AQU,AOw,ARW];omega) (fun x hx=>hw x (by simp[hx])) h1 h2 h3;simp only[AQU,AOw,ARW,AOj,AUk]at this;exact this
  simp only[Ec];rcases AMo (J_ st w.Ao n a)with ht|ht
  rotate_left
  ·rw[ht]
   simp only[ANZ,AQ7];unfold J_ at ht;rcases AMo ((A5 w.Ao a.1).contains n)with hc|hc
   ·rw[hc,ANr,AUu]at ht
    rw[hc,ANk,AMp (by omega)];exact next a se f cM hsp (by omega)
   ·rw[hc,ANI]
    exact next a se f cM hsp (by omega)
  ·rw[ht]
   simp only[AT8];unfold J_ at ht;rw[ANB,ANo]at ht;rw[ht.1,ANk,AM5 (by omega)];have htl:=(XT (s:=st) (ep:=a.1) hn (o:=1) ha.words).2.2;have hsm:∀s∈se.map (P_ true a.1 a.2.1 (A8 (AY w) st a.1 n 1 a.2.1)),Bf s.1=true:=fun s hs' =>by
    obtain⟨s',h1,rfl⟩:=AUR.1 hs';exact hsp s' h1
   have:=AQj h hs hn (SS:=SS) (ws:=pre++a::rest) (se:=se) (j:=pre.length) (B:=rest.length*300+w.2.2.2.2.2.2.2.1.length*100+2+130) (ep:=a.1) (x:=st.2.2.1) (y:=a.1) (z:=decide (st.2.2.1≥a.1)) (l0:=a.2.1) (R:=(some ((((),w.2.1,(),(),(),w.2.2.2.2.2.1,(),(),(),(),w.2.2.2.2.2.2.2.2.2.2.1,()),()),(w.1,SS,w.2.2.2.1,w.2.2.2.2.1,(pre++(a.1,A8 (AY w) st a.1 n 1 a.2.1,())::(Ec true (AY w) st w.Ao n rest (se.map (P_ true a.1 a.2.1 (A8 (AY w) st a.1 n 1 a.2.1)))).1),(w.2.2.2.2.2.2.2.1.map (LP st w.Ao n)),w.2.2.2.2.2.2.2.2.1,(Ec true (AY w) st w.Ao n rest (se.map (P_ true a.1 a.2.1 (A8 (AY w) st a.1 n 1 a.2.1)))).2,())):Option Bw)) (by omega) (by omega) (fun f hf=>by
    have:=AHO h hs hn (SS:=SS) (ws:=(pre++a::rest).set pre.length (a.1,A8 (AY w) st a.1 n 1 a.2.1,())) (se:=se) (j:=pre.length) (B:=rest.length*300+w.2.2.2.2.2.2.2.1.length*100+2) (ep:=a.1) (x:=st.2.2.1) (y:=a.1) (z:=decide (st.2.2.1≥a.1)) (old:=a.2.1) (new:=A8 (AY w) st a.1 n 1 a.2.1) (R:=(some ((((),w.2.1,(),(),(),w.2.2.2.2.2.1,(),(),(),(),w.2.2.2.2.2.2.2.2.2.2.1,()),()),(w.1,SS,w.2.2.2.1,w.2.2.2.2.1,(pre++(a.1,A8 (AY w) st a.1 n 1 a.2.1,())::(Ec true (AY w) st w.Ao n rest (se.map (P_ true a.1 a.2.1 (A8 (AY w) st a.1 n 1 a.2.1)))).1),(w.2.2.2.2.2.2.2.1.map (LP st w.Ao n)),w.2.2.2.2.2.2.2.2.1,(Ec true (AY w) st w.Ao n rest (se.map (P_ true a.1 a.2.1 (A8 (AY w) st a.1 n 1 a.2.1)))).2,())):Option Bw)) (by omega) cM hsp (by omega) hae (fun f hf=>by
     rw[AYY _ _ (by omega),Nat.sub_self,AXz];exact next _ _ f (by simpa using cM) hsm hf) se.length 0 (by omega) (by omega) f (by omega)
    rw[show((0:Nat):Int)=0 from rfl,AT_,AYl,AT6]at this;exact this) a.2.1 [] f (by simpa using ha) (by omega) (by simp)
   simp only[ARW,AT6]at this;exact this
end
section
variable{w:AA} (h:Me w)
include h
theorem o4{d:BN}:XA w.2.1 w.2.2.2.2.2.1 w.2.2.2.2.2.2.2.2.2.2.1 d w.1 w.2.2.1 w.2.2.2.1 w.2.2.2.2.1 w.2.2.2.2.2.2.1 w.2.2.2.2.2.2.2.1 w.2.2.2.2.2.2.2.2.1 w.2.2.2.2.2.2.2.2.2.1=some (Uf (MT true w d.2.1)):=by
 have k:=h.nums;have k1:=k.c;have k2:=k.wr;have k3:=k.lost;have k4:=k.st;have cD:=k.jF;have jH:=k.J6;have kq:=k.jL;have k6:=k.md;unfold XA MT;rw[show(w.1,w.2.1,w.2.2.1,w.2.2.2.1,w.2.2.2.2.1,w.2.2.2.2.2.1,w.2.2.2.2.2.2.1,w.2.2.2.2.2.2.2.1,w.2.2.2.2.2.2.2.2.1,w.2.2.2.2.2.2.2.2.2.1,w.2.2.2.2.2.2.2.2.2.2.1,())=w from rfl,Ig (by omega) (by omega)];simp only[AD,Cs,A0];by_cases h3:Aw w d.2.1=0
 rotate_left
 ·rw[AM5 h3,AMp h3];rfl
 obtain⟨hr,s1,s2,s3⟩:=h.Mb h3;have cM:w.2.2.1.getD d.2.1.toNat ([],[],0,())=storeAt w d.2.1:=rfl;rw[AMp h3,AM5 (show¬(Aw w d.2.1≠0)from fun hh=>hh h3)];simp only[AMp hr,cM];rw[show((storeAt w d.2.1).1,(storeAt w d.2.1).2.1,(storeAt w d.2.1).2.2.1,())=storeAt w d.2.1 from rfl,OJ s1 s2];simp only[AD,jI];rcases AMo (Bk (storeAt w d.2.1)).2 with h6|h6
 rotate_left
 ·rw[h6];rfl
 have hq:=(K8 h6).2.1;have hnn:=(h.node h3).1;rw[h6,ANk,GH];have Hh:d.2.1.toNat<w.2.2.1.length:=by omega
 unfold Wz Q5;rw[AUM,AMp hr,Np Hh];have:=AOZ h (st:=(Bk (storeAt w d.2.1)).1) hq hnn (SS:=w.2.2.1.set d.2.1.toNat (Bk (storeAt w d.2.1)).1) w.2.2.2.2.2.2.1 [] w.2.2.2.2.2.2.2.2.2.1 Ac (by simp_all) (fun x hx=>(h.AG x hx).1) k.se (fun s hs=>(h.AU s hs).1) (AV2 (Ae (by omega)));simp only[ARW,AT6]at this;rw[show((0:Nat):Int)=0 from rfl]at this;rw[show((Bk (storeAt w d.2.1)).1.1,(Bk (storeAt w d.2.1)).1.2.1,(Bk (storeAt w d.2.1)).1.2.2.1,())=(Bk (storeAt w d.2.1)).1 from rfl,this];rfl
end
end Go.M
end
section
set_option maxRecDepth 8000
namespace Go.M
open Go.M.H (AK AQ Av Af AA CR AO Ay AR Ah BR A6 BN Al CD AX AW Aa Ai Bh A4 Ap A_ EH CP Cv C3)
section
variable{w:AA} (h:Me w)
include h
theorem sO{d:BN}(h64:CO d.2.1)(hd:d.2.2.2.2.1.length≤40)(hk:1≤d.1∧d.1≤16):∃w',cU w.2.1 w.2.2.2.2.2.1 w.2.2.2.2.2.2.2.2.2.2.1 d w.1 w.2.2.1 w.2.2.2.1 w.2.2.2.2.1 w.2.2.2.2.2.2.1 w.2.2.2.2.2.2.2.1 w.2.2.2.2.2.2.2.2.1 w.2.2.2.2.2.2.2.2.2.1=some (APS (w',(Nx true w d).2))∧((Nx true w d).2=0→w' =(Nx true w d).1):=by
 have k:=h.nums;have k1:=k.c;have k5:=k.era;unfold cU Nx;rw[show(d.1,d.2.1,d.2.2.1,d.2.2.2.1,d.2.2.2.2.1,())=d from rfl];simp only[DS];by_cases c1:d.1=1
 ·simp only[AMp c1]
  rw[oD h];exact⟨_,rfl,fun _=>rfl⟩
 by_cases c2:d.1=2
 ·simp only[AM5 (show¬d.1=1 by omega),AMp c2]
  obtain⟨w',e1,e2⟩:=ry h (d:=d) hd;rw[e1];exact⟨w',rfl,e2⟩
 by_cases c3:d.1=3
 ·simp only[AM5 (show¬d.1=1 by omega),AM5 (show¬d.1=2 by omega),AMp c3]
  rw[lO h];exact⟨_,rfl,fun _=>rfl⟩
 by_cases c4:d.1=4
 ·simp only[AM5 (show¬d.1=1 by omega),AM5 (show¬d.1=2 by omega),AM5 (show¬d.1=3 by omega),AMp c4]
  rw[o4 h];exact⟨_,rfl,fun _=>rfl⟩
 by_cases c6:d.1=6
 ·simp only[AM5 (show¬d.1=1 by omega),AM5 (show¬d.1=2 by omega),AM5 (show¬d.1=3 by omega),AM5 (show¬d.1=4 by omega),AM5 (show¬d.1=5 by omega),AMp c6]
  rw[pA h];exact⟨_,rfl,fun _=>rfl⟩
 by_cases c7:d.1=7
 ·simp only[AM5 (show¬d.1=1 by omega),AM5 (show¬d.1=2 by omega),AM5 (show¬d.1=3 by omega),AM5 (show¬d.1=4 by omega),AM5 (show¬d.1=5 by omega),AM5 (show¬d.1=6 by omega),AMp c7]
  rw[o6 h];exact⟨_,rfl,fun _=>rfl⟩
 by_cases c8:d.1=8
 ·simp only[AM5 (show¬d.1=1 by omega),AM5 (show¬d.1=2 by omega),AM5 (show¬d.1=3 by omega),AM5 (show¬d.1=4 by omega),AM5 (show¬d.1=5 by omega),AM5 (show¬d.1=6 by omega),AM5 (show¬d.1=7 by omega),AMp c8]
  rw[o8 h];exact⟨_,rfl,fun _=>rfl⟩
 by_cases c9:d.1=9
 ·simp only[AM5 (show¬d.1=1 by omega),AM5 (show¬d.1=2 by omega),AM5 (show¬d.1=3 by omega),AM5 (show¬d.1=4 by omega),AM5 (show¬d.1=5 by omega),AM5 (show¬d.1=6 by omega),AM5 (show¬d.1=7 by omega),AM5 (show¬d.1=8 by omega),AMp c9]
  rw[nv h];exact⟨_,rfl,fun _=>rfl⟩
 by_cases c10:d.1=10
 ·simp only[AM5 (show¬d.1=1 by omega),AM5 (show¬d.1=2 by omega),AM5 (show¬d.1=3 by omega),AM5 (show¬d.1=4 by omega),AM5 (show¬d.1=5 by omega),AM5 (show¬d.1=6 by omega),AM5 (show¬d.1=7 by omega),AM5 (show¬d.1=8 by omega),AM5 (show¬d.1=9 by omega),AMp c10]
  rw[o9 h];exact⟨_,rfl,fun _=>rfl⟩
 by_cases c11:d.1=11
 ·simp only[AM5 (show¬d.1=1 by omega),AM5 (show¬d.1=2 by omega),AM5 (show¬d.1=3 by omega),AM5 (show¬d.1=4 by omega),AM5 (show¬d.1=5 by omega),AM5 (show¬d.1=6 by omega),AM5 (show¬d.1=7 by omega),AM5 (show¬d.1=8 by omega),AM5 (show¬d.1=9 by omega),AM5 (show¬d.1=10 by omega),AMp c11]
  rw[qJ h];exact⟨_,rfl,fun _=>rfl⟩
 by_cases c12:d.1=12
 ·simp only[AM5 (show¬d.1=1 by omega),AM5 (show¬d.1=2 by omega),AM5 (show¬d.1=3 by omega),AM5 (show¬d.1=4 by omega),AM5 (show¬d.1=5 by omega),AM5 (show¬d.1=6 by omega),AM5 (show¬d.1=7 by omega),AM5 (show¬d.1=8 by omega),AM5 (show¬d.1=9 by omega),AM5 (show¬d.1=10 by omega),AM5 (show¬d.1=11 by omega),AMp c12]
  rw[mo h];exact⟨_,rfl,fun _=>rfl⟩
 by_cases c13:d.1=13
 ·simp only[AM5 (show¬d.1=1 by omega),AM5 (show¬d.1=2 by omega),AM5 (show¬d.1=3 by omega),AM5 (show¬d.1=4 by omega),AM5 (show¬d.1=5 by omega),AM5 (show¬d.1=6 by omega),AM5 (show¬d.1=7 by omega),AM5 (show¬d.1=8 by omega),AM5 (show¬d.1=9 by omega),AM5 (show¬d.1=10 by omega),AM5 (show¬d.1=11 by omega),AM5 (show¬d.1=12 by omega),AMp c13]
  rw[show(w.1,w.2.1,())=AY w from rfl,show(w.2.2.2.2.1,w.2.2.2.2.2.1,())=CJ w from rfl,dB (c:=AY w) (r:=CJ w) (by show w.1.length≤_;omega) (by show AX Bh w.2.2.2.2.1≤_;omega) k.trim h64];simp only[AD,pkR,A0,RL];rcases AMo (OT (AY w) (CJ w) d.2.1).2 with hq|hq
  ·rw[hq];exact⟨_,rfl,fun _=>rfl⟩
  ·rw[hq];exact⟨w,rfl,fun _=>rfl⟩
 by_cases c14:d.1=14
 ·simp only[AM5 (show¬d.1=1 by omega),AM5 (show¬d.1=2 by omega),AM5 (show¬d.1=3 by omega),AM5 (show¬d.1=4 by omega),AM5 (show¬d.1=5 by omega),AM5 (show¬d.1=6 by omega),AM5 (show¬d.1=7 by omega),AM5 (show¬d.1=8 by omega),AM5 (show¬d.1=9 by omega),AM5 (show¬d.1=10 by omega),AM5 (show¬d.1=11 by omega),AM5 (show¬d.1=12 by omega),AM5 (show¬d.1=13 by omega),AMp c14]
  rw[oG h];exact⟨_,rfl,fun _=>rfl⟩
 by_cases c15:d.1=15
 ·simp only[AM5 (show¬d.1=1 by omega),AM5 (show¬d.1=2 by omega),AM5 (show¬d.1=3 by omega),AM5 (show¬d.1=4 by omega),AM5 (show¬d.1=5 by omega),AM5 (show¬d.1=6 by omega),AM5 (show¬d.1=7 by omega),AM5 (show¬d.1=8 by omega),AM5 (show¬d.1=9 by omega),AM5 (show¬d.1=10 by omega),AM5 (show¬d.1=11 by omega),AM5 (show¬d.1=12 by omega),AM5 (show¬d.1=13 by omega),AM5 (show¬d.1=14 by omega),AMp c15]
  rw[oM h];exact⟨_,rfl,fun _=>rfl⟩
 simp only[AM5 c1,AM5 c2,AM5 c3,AM5 c4,AM5 c6,AM5 c7,AM5 c8,AM5 c9,AM5 c10,AM5 c11,AM5 c12,AM5 c13,AM5 c14,AM5 c15];rw[mU h];by_cases c5:d.1=5
 ·rw[AMp c5,AM5 (by omega)]
  exact⟨_,rfl,fun _=>rfl⟩
 ·rw[AM5 c5,AMp (by omega)]
  exact⟨_,rfl,fun _=>rfl⟩
end
theorem fc{w:AA}{n:Int}{q:AQ×Bool}(e:(putAt w n q).2≠0):(putAt w n q).1=w:=by
 unfold putAt at*;grind
theorem pr{all:Bool}{w:AA}{d:BN}(e:(Nx all w d).2≠0):(Nx all w d).1=w:=by
 unfold Nx at*;by_cases c:d.1=1
 ·rw[AMp c]at e⊢
  clear c
  revert e
  unfold PR;grind
 rw[AM5 c]at e⊢;clear c;by_cases c:d.1=2
 ·rw[AMp c]at e⊢
  clear c
  revert e
  unfold doAdd;grind
 rw[AM5 c]at e⊢;clear c;by_cases c:d.1=3
 ·rw[AMp c]at e⊢
  clear c
  revert e
  unfold Gt
  try dsimp only
  repeat' split
  all_goals first|(intro e;exact absurd rfl e)|(intro e;rfl)|grind[fc]
 rw[AM5 c]at e⊢;clear c;by_cases c:d.1=4
 ·rw[AMp c]at e⊢
  clear c
  revert e
  unfold MT;grind
 rw[AM5 c]at e⊢;clear c;by_cases c:d.1=5
 ·rw[AMp c]at e⊢
  clear c
  revert e
  unfold Kj
  try dsimp only
  repeat' split
  all_goals first|(intro e;exact absurd rfl e)|(intro e;rfl)|grind[fc]
 rw[AM5 c]at e⊢;clear c;by_cases c:d.1=6
 ·rw[AMp c]at e⊢
  clear c
  revert e
  unfold PA;grind
 rw[AM5 c]at e⊢;clear c;by_cases c:d.1=7
 ·rw[AMp c]at e⊢
  clear c
  revert e
  unfold O0;grind
 rw[AM5 c]at e⊢;clear c;by_cases c:d.1=8
 ·rw[AMp c]at e⊢
  clear c
  revert e
  unfold O9;grind
 rw[AM5 c]at e⊢;clear c;by_cases c:d.1=9
 ·rw[AMp c]at e⊢
  clear c
  revert e
  unfold PH;grind
 rw[AM5 c]at e⊢;clear c;by_cases c:d.1=10
 ·rw[AMp c]at e⊢
  clear c
  revert e
  unfold O_;grind
 rw[AM5 c]at e⊢;clear c;by_cases c:d.1=11
 ·rw[AMp c]at e⊢
  clear c
  revert e
  unfold VV
  try dsimp only
  repeat' split
  all_goals first|(intro e;exact absurd rfl e)|(intro e;rfl)|grind[fc]
 rw[AM5 c]at e⊢;clear c;by_cases c:d.1=12
 ·rw[AMp c]at e⊢
  clear c
  revert e
  unfold KZ;grind
 rw[AM5 c]at e⊢;clear c;by_cases c:d.1=13
 ·rw[AMp c]at e⊢
  clear c
  revert e
  unfold RL;grind
 rw[AM5 c]at e⊢;clear c;by_cases c:d.1=14
 ·rw[AMp c]at e⊢
  clear c
  revert e
  unfold NF;grind
 rw[AM5 c]at e⊢;clear c;by_cases c:d.1=15
 ·rw[AMp c]at e⊢
  clear c
  revert e
  unfold QE;grind
 rw[AM5 c]at e⊢;clear c;unfold K0 at*;split at e
 ·simp_all
 ·rename_i h1;rw[AM5 h1];exact fc e
theorem V_{w:AA}{d:BN}(h:fW w)(h64:CO d.2.1):P0 w d=some (Uf (CT true w d)):=by
 unfold P0 CT;rw[show(w.1,w.2.1,w.2.2.1,w.2.2.2.1,w.2.2.2.2.1,w.2.2.2.2.2.1,w.2.2.2.2.2.2.1,w.2.2.2.2.2.2.2.1,w.2.2.2.2.2.2.2.2.1,w.2.2.2.2.2.2.2.2.2.1,w.2.2.2.2.2.2.2.2.2.2.1,())=w from rfl,show(d.1,d.2.1,d.2.2.1,d.2.2.2.1,d.2.2.2.2.1,())=d from rfl,dZ h,pe,WJ h];simp only[AD,A0,Cs];rcases AMo (Dg w)with hw|hw
 rotate_left
 ·rw[hw];rfl
 rcases AMo (K9 d)with hd|hd
 rotate_left
 ·rw[hw,hd];rfl
 have hk:1≤d.1∧d.1≤16:=by
  unfold K9 at hd;exact Ak.1 (ANB _ _▸hd).1
 rw[hw,hd,ANk,ANk];obtain⟨w',e1,e2⟩:=sO (GV.1 hw) h64 (iq hd) hk;rw[e1];simp only[AD,ANX,AYd,ANZ,AQ7];by_cases hc:(Nx true w d).2=0
 ·rw[e2 hc]
  rw[AMp (show(APS ((Nx true w d).1,(Nx true w d).2)).1.1.2.1=0 from hc)];rfl
 ·rw[AM5 (show¬(APS (w',(Nx true w d).2)).1.1.2.1=0 from hc)]
  have:=pr hc;rw[show Nx true w d=(w,(Nx true w d).2)by grind];rfl
end Go.M
end
section
namespace Go.M
open Go.M.H (CR AO Ay AR AX AW Aa Bh A4 Ap wh pz ey)
section
variable{b:AAG} (hb:Bytes b) (hl:b.length≤2^30)
include hb hl
omit hb hl in
theorem pS{l:List Ay}{e:Ay}:AX A4 (l++[e])=AX A4 l+(1+A4 e):=by
 induction l with
 |nil=>simp[AX]
 |cons x l ih=>simp only[AVo,AX,ih];omega
end
end Go.M
end
section
namespace Go.M
section
variable{b:AAG} (hb:Bytes b)
include hb
end
section
variable{code:AAG} (hc:code.length≤2^30)
include hc
theorem uB{i h:Int}{l:List ABp}(hi:Cb code i)(hl:l≠[])(hn:l.length≤2^30):∃v i' h',Fh l code i h=some ((v,()),((code,i',h',()),()))∧v∈l∧Cb code i':=by
 unfold Fh;have hp:=AYf.2 hl;obtain⟨v,i1,h1,e,v0,v1,_,MI⟩:=FA hc (h:=h) (n:=l.length) hi (by omega);rw[e];simp only[ANY];have:=v1 (by omega);rw[AMp ⟨v0,this⟩];obtain⟨k,rfl⟩:∃k:Nat,v=(k:Int):=⟨v.toNat,by omega⟩;exact⟨_,i1,h1,rfl,by rw[Am (by omega)];exact ANa _,MI⟩
theorem rO{i h:Int}(hi:Cb code i):∃v i' h',FJ code i h=some ((v,()),((code,i',h',()),()))∧v<2^63∧ -2^63≤v∧Cb code i':=by
 unfold FJ CN;obtain⟨v1,i1,h1,e1,a1,b1,_,MI⟩:=FA hc (h:=h) (n:=3) hi (by omega);rw[e1];simp only[ANY];obtain⟨v2,i2,h2,e2,a2,b2,_,IY⟩:=FA hc (h:=h1) (n:=6) MI (by omega);rw[e2];simp only[ANY];obtain⟨v3,i3,h3,e3,a3,b3,_,LQ⟩:=FA hc (h:=h2) (n:=15) IY (by omega);rw[e3];simp only[ANY];have:=b1 (by omega);have:=b2 (by omega);cases v3==0 with
 |true=>
  simp only[ANk];obtain⟨p,i4,h4,e4,hp,wG⟩:=Kt hc (h:=h3) (l:=[0,(-1),4294967296,4294967297,9223372036854775807,(-9223372036854775808)]) LQ (by simp) (by simp);rw[e4];simp at hp;exact⟨p,i4,h4,rfl,by omega,by omega,wG⟩
 |false=>
  simp only[ANI];cases v3==1 with
  |true=>
   simp only[ANk];obtain⟨p,i4,h4,e4,hp,wG⟩:=Kt hc (h:=h3) (l:=[0,30,31]) LQ (by simp) (by simp);rw[e4];simp only[ANY];obtain⟨q,i5,h5,e5,hq,hi5⟩:=Kt hc (h:=h4) (l:=[0,60,61]) wG (by simp) (by simp);rw[e5];simp only[ANY];simp at hp hq;rw[AJ (x:=4294967296*p) (by omega) (by omega),AJ (by omega) (by omega)];exact⟨_,i5,h5,rfl,by omega,by omega,hi5⟩
  |false=>
   simp only[ANI];rw[AJ (x:=1+v1) (by omega) (by omega),AJ (x:=1+v2) (by omega) (by omega),AJ (x:=4294967296*_) (by omega) (by omega),AJ (by omega) (by omega)];exact⟨_,i3,h3,rfl,by omega,by omega,LQ⟩
end
end Go.M
end
section
namespace Go.M
open Go.M.H (CR AO Ay AR AX AW Aa Bh A4 Ap wh pz ey)
section
variable{b:AAG} (hb:Bytes b) (hl:b.length≤2^30)
include hb hl
end
theorem yC{o:Int}{l:List Ay}{x:Int}{y:List Ay}{z:Int}(hl:AX A4 l≤2^30):∀(n i:Nat) (acc:List Ay),i≤l.length→l.length-i<n→acc.length=i→
  Jg n i o l x y z acc=some (((z,(),()),()),(acc++l.drop i,()))
 |0,i,_,_,h,_=>by omega
 |n+1,i,acc,hi,h,ha=>by
  have yW:=AW (f:=A4) (l:=l);simp only[Jg,Sc,AB];by_cases hc:i<l.length
  ·have hm:=Aa (f:=A4) (ANa hc)
   rw[AMp (by omega),AMp (by omega),Am hc,drop_cons hc];simp only[A4]at hm;rw[AMp (by rw[Au];omega),AMp (by rw[Au];omega),AJ (by omega) (by omega),show((i:Int)+1)=((i+1:Nat):Int)by omega];rw[yC hl n (i+1) _ (by omega) (by omega) (by simp[ha])];simp only[AOj,AVo,AT6]
  ·rw[AM5 (by omega)]
   have:i=l.length:=by omega
   subst this;simp
theorem th{w:AR}(hl:AX A4 w.2.1≤2^30):EX w=some (((w.1,(),()),()),(w.2.1,())):=by
 have yW:=AW (f:=A4) (l:=w.2.1);unfold EX Tj;have:=yC (o:=w.1) (l:=w.2.1) (x:=0) (y:=[]) (z:=w.1) hl Ac 0 [] (by omega) (Ae (by omega)) rfl;simpa using this
theorem AEZ{l:AAG}{x:Int}(hl:l.length≤2^30):∃r,Cz l x=some ((r,()),()):=by
 have key:∀(n i:Nat),i≤l.length→l.length-i<n→ ∃r,LG n l x i=some ((r,()),()):=by
  intro n
  induction n with
  |zero=>intro i _ h;omega
  |succ n ih=>
   intro i hi h;simp only[LG,UZ,AB];by_cases hc:i<l.length
   ·rw[AMp (by omega),AMp (by omega),AJ (by omega) (by omega),show((i:Int)+1)=((i+1:Nat):Int)by omega]
    cases(l.getD ((i:Int).toNat) 0==x)with
    |true=>exact⟨true,rfl⟩
    |false=>exact ih (i+1) (by omega) (by omega)
   ·rw[AM5 (by omega)]
    exact⟨false,rfl⟩
 unfold Cz Ua;have:=key Ac 0 (by omega) (Ae (by omega));simpa using this
theorem pK{l:AAG}{x:Int}(hl:l.length≤2^30):∀(n i:Nat) (t:Bool) (b:AAG),i≤l.length→l.length-i<n→b.length≤i+cond t 1 0→ ∃l',Hk n l x t i b=some (((),()),(l',()))∧l'.length≤l.length+1
 |0,i,_,_,_,h,_=>by omega
 |n+1,i,t,b,hi,h,hbl=>by
  simp only[Hk,PY,AB];have hb2:b.length≤i+1:=by cases t<;>simp at hbl<;>omega
  by_cases hc:i<l.length
  ·have hc2:(0:Int)≤(i:Int)∧(i:Int)<(l.length:Int):=by omega
   have Yl:b.length+1≤DE:=by rw[Au];omega
   rw[AMp hc2.2,AJ (by omega) (by omega),show((i:Int)+1)=((i+1:Nat):Int)by omega];simp only[AMp hc2,AMp Yl];cases t with
   |true=>
    simp only[ANX,ANI];exact pK hl n (i+1) true _ (by omega) (by omega) (by simp at hbl⊢;omega)
   |false=>
    simp only[ATb,ANk];simp at hbl;by_cases hg:l.getD ((i:Int).toNat) 0>x
    ·rw[AMp hg,AMp (by rw[Au];simp;omega)]
     exact pK hl n (i+1) true _ (by omega) (by omega) (by simp;omega)
    ·rw[AM5 hg]
     exact pK hl n (i+1) false _ (by omega) (by omega) (by simp;omega)
  ·rw[AM5 (by omega),AMp (by rw[Au];omega)]
   cases t with
   |true=>exact⟨b,rfl,by omega⟩
   |false=>exact⟨_,rfl,by simp at hbl⊢;omega⟩
theorem AFR{l:AAG}{x:Int}(hl:l.length≤2^30):∃l',Ib l x=some (((),()),(l',()))∧l'.length≤l.length+1:=by
 unfold Ib Ul;obtain⟨r,h⟩:=AEZ (x:=x) hl;rw[h];exact pK hl Ac 0 r [] (by omega) (Ae (by omega)) (by cases r<;>simp)
def WI(l:List Ay):Prop:=l.length≤61∧ ∀e∈l,e.1.length≤41∧e.2.1.length≤9
theorem WI.w{l:List Ay}(h:WI l):AX A4 l≤4000:=by
 have key:∀l:List Ay,(∀e∈l,e.1.length≤41∧e.2.1.length≤9)→AX A4 l≤60*l.length:=by
  intro l
  induction l with
  |nil=>intro _;simp[AX]
  |cons e l ih=>
   intro hh;have:=hh e (by simp);have:=ih (fun e he=>hh e (by simp[he]));simp only[AX,A4,AOw]at this⊢;omega
 have:=key l h.2;have:=h.1;omega
theorem WI.of{c:Bz}{w:AR}(h:EM c w=true):WI w.2.1:=by
 obtain⟨h1,h2,h3,h4⟩:=aR h;exact⟨by omega,fun e he=>by have:=ka (h4 e he);omega⟩
theorem ua{c:Bz}{w:AR}{s:ABp}(hc:c.1.length≤2^40)(hw:WI w.2.1)(hs:s.length≤41):
  ∃w':AR,∃off ok,G3 c w s=some ((((w'.1,(),()),off,ok,()),()),(w'.2.1,()))∧WI w'.2.1:=by
 unfold G3;have hww:=hw.w;rw[show(c.1,c.2.1,())=c from rfl,show(w.1,w.2.1,())=w from rfl,GN hc (by omega),th (by omega)];simp only[ANY];cases EM c w with
 |false=>exact⟨(0,[],()),0,false,rfl,by simp[WI]⟩
 |true=>
  have h1:=hw.1;simp only[ANX,ANI];rw[AMp (by rw[Au];omega)];have AGD:AX A4 (w.2.1++[(s,[],false,())])≤2^30:=by
   rw[pS];simp only[A4,ARW];omega
  rw[GN (w:=(w.1,w.2.1++[(s,[],false,())],())) hc AGD];simp only[ANY];rcases AMo (EM c (w.1,w.2.1++[(s,[],false,())],()))with hf|hf
  ·rw[hf]
   exact⟨(w.1,w.2.1++[(s,[],false,())],()),_,true,rfl,WI.of hf⟩
  ·rw[hf]
   exact⟨w,0,false,rfl,hw⟩
theorem uq{c:Bz}{w:AR}{p q:Int}(hc:c.1.length≤2^40)(hw:WI w.2.1):
  ∃w':AR,∃ok,Dv c w p q=some ((((w'.1,(),()),ok,()),()),(w'.2.1,()))∧WI w'.2.1:=by
 unfold Dv;have hww:=hw.w;rw[show(c.1,c.2.1,())=c from rfl,show(w.1,w.2.1,())=w from rfl,GN hc (by omega),th (by omega),BV,BV];simp only[ANY];rcases AMo (EM c w)with Ei|Ei
 rotate_left
 ·rw[Ei]
  exact⟨(0,[],()),false,rfl,by simp[WI]⟩
 have h1:=hw.1;rw[Ei];simp only[ANX,ANI];rcases AMo (BF p 1 (w.2.1.length:Int))with hp|hp
 rotate_left
 ·rw[hp]
  exact⟨w,false,rfl,hw⟩
 rw[hp];simp only[ANX,ANI];cases BF q 0 (AS ((c.1.length:Int)-1))with
 |false=>exact⟨w,false,rfl,hw⟩
 |true=>
  simp only[BF,ANo]at hp;rw[AJ (x:=p-1) (by omega) (by omega)];obtain⟨k,hk⟩:∃k:Nat,p-1=(k:Int):=⟨(p-1).toNat,by omega⟩;rw[hk];have hkl:k<w.2.1.length:=by omega
  have hb:(0:Int)≤(k:Int)∧(k:Int)<(w.2.1.length:Int):=by omega
  simp only[ANX,ANI,AUM];rw[AMp hb,AMp hb,Am hkl];have he:=hw.2 _ (ANa hkl);have he2:=ka ((aR Ei).2.2.2 _ (ANa hkl))
  generalize yS:w.2.1[k]=e at he he2
  cases e.2.2.1 with
  |true=>exact⟨w,false,rfl,hw⟩
  |false=>
   simp only[ANI];obtain⟨l',hl1,wH⟩:=AFR (l:=e.2.1) (x:=q) (by omega);rw[hl1];simp only[ANY];rw[AMp hb,AMp hb,ANN];have hg:(w.2.1.set k (e.1,l',false,())).getD k ([],[],false,())=(e.1,l',false,()):=by
    simp[List.getD,hkl]
   rw[hg];simp only;rw[D3 hc (by omega)];simp only[ANY];rw[AMp hb];refine⟨(w.1,(w.2.1.set k (e.1,l',false,())).set k (e.1,l',holds c l',()),()),true,rfl,by simp only[AUM];exact h1,?_⟩;intro y hy;simp only[AYW]at hy;rcases AT7 hy with hy|rfl
   ·exact hw.2 y hy
   ·exact⟨he.1,by simp only;omega⟩
section
variable{code:AAG} (hc:code.length≤2^30)
include hc
theorem QS{c:Bz}(aS:c.1.length≤2^20){x:Int}{y:List Ay}:∀(n k:Nat) (i h:Int) (w:AR),Cb code i→k≤14→14-k<n→WI w.2.1→
  ∃(w':AR) (i' h':Int),Ik n k code i h c.1 c.2.1 x y w.1 w.2.1=some (((w'.1,(),()),()),((code,i',h',()),w'.2.1,()))∧WI w'.2.1∧Cb code i'
 |0,_,_,_,_,_,_,h,_=>by omega
 |n+1,k,i,h,w,hi,hk,hn,hw=>by
  simp only[Ik,Ss,AB];obtain⟨v,i1,h1,e1,a1,b1,_,MI⟩:=FA hc (h:=h) (n:=14) hi (by omega);rw[e1];simp only[ANY];have:=b1 (by omega);by_cases Hh:(k:Int)<v
  ·rw[AMp Hh]
   obtain⟨s,i2,h2,e2,hs,IY⟩:=uB hc (h:=h1) (l:=[[],[97],[98,99]]) MI (by simp) (by simp);rw[e2];simp only[ANY];have hsl:s.length≤41:=by
    simp at hs;rcases hs with rfl|rfl|rfl<;>simp
   obtain⟨w1,off,ok,e3,hw1⟩:=ua (c:=c) (w:=w) (s:=s) (by omega) hw hsl;rw[show(c.1,c.2.1,())=c from rfl,show(w.1,w.2.1,())=w from rfl,e3];simp only[ANY];obtain⟨o,i3,h3,e4,LQ⟩:=ly hc (h:=h2) (n:=2) IY (by omega);rw[e4];simp only[ANY];rw[AJ (x:=(k:Int)+1) (by omega) (by omega),show((k:Int)+1)=((k+1:Nat):Int)by omega];cases o with
   |true=>
    simp only[ANk];have h61:=hw.1;obtain⟨m,em,hm⟩:∃m:Int,FY (w.2.1.length:Int) 1=some ((m,()),())∧m≤2^40:=by
     unfold FY;rw[AB];split
     ·exact⟨_,rfl,by omega⟩
     ·exact⟨1,rfl,by omega⟩
    rw[em];simp only[ANY];obtain⟨v4,i4,h4,e5,a5,b5,_,wG⟩:=FA hc (h:=h3) (n:=m) LQ hm;rw[e5];simp only[ANY];obtain⟨v5,i5,h5,e6,a6,b6,_,hi5⟩:=FA hc (h:=h4) (n:=(c.1.length:Int)) wG (by omega);rw[e6];simp only[ANY];obtain⟨w2,ok2,e7,hw2⟩:=uq (c:=c) (w:=w) (p:=AS (1+v4)) (q:=v5) (by omega) hw;rw[e7];simp only[ANY];cases ok2 with
    |true=>exact QS aS n (k+1) i5 h5 w2 hi5 (by omega) (by omega) hw2
    |false=>exact QS aS n (k+1) i5 h5 w hi5 (by omega) (by omega) hw
   |false=>
    simp only[ANI];cases ok with
    |true=>exact QS aS n (k+1) i3 h3 w1 LQ (by omega) (by omega) hw1
    |false=>exact QS aS n (k+1) i3 h3 w LQ (by omega) (by omega) hw
  ·rw[AM5 Hh]
   exact⟨w,i1,h1,rfl,hw,MI⟩
theorem qn{c:Bz}(aS:c.1.length≤2^20){i h:Int}(hi:Cb code i):
  ∃(w':AR) (i' h':Int),Pc c code i h=some (((w'.1,(),()),()),((code,i',h',()),w'.2.1,()))∧WI w'.2.1∧Cb code i':=by
 unfold Pc Sh;obtain⟨v,i1,h1,e1,a1,b1,_,MI⟩:=FA hc (h:=h) (n:=4) hi (by omega);rw[e1];exact QS hc aS Ac 0 i1 h1 (AS (1+v),[],()) MI (by omega) (Ae (by omega)) (by simp[WI])
omit hc in
theorem xD{x:Int}{y:List Ay}{z:Int}{i h:Int}(hi:Cb code i):∀(n:Nat) (l:List Ay),61-l.length<n→WI l→
  ∃l',HC n code i h x y z l=some (((z,(),()),()),((code,i,h,()),l',()))∧WI l'
 |0,_,h,_=>by omega
 |n+1,l,hn,hw=>by
  simp only[HC,RC,AB];have h1:=hw.1;by_cases h60:l.length<60
  ·rw[AMp (by omega)]
   by_cases h0:0<l.length
   ·rw[AMp (by omega),AMp (by omega),AMp (by rw[Au];omega)]
    refine xD hi n _ (by simp;omega) ⟨by simp;omega,fun e he=> ?_⟩;rcases AOt.1 he with he|he
    ·exact hw.2 e he
    ·simp only[AT3]at he
     have hm:l.getD 0 ([],[],false,())∈l:=by
      have:=Am (l:=l) (i:=0) (d:=([],[],false,())) h0;simp only[Int.ofNat_zero,Int.toNat_zero]at this;rw[this];exact ANa _
     rw[he];exact hw.2 _ hm
   ·rw[AM5 (by omega)]
    exact⟨l,rfl,hw⟩
  ·rw[AM5 (by omega)]
   exact⟨l,rfl,hw⟩
theorem ACf{c:Bz}(aS:c.1.length≤2^20){i h:Int}(hi:Cb code i):
  ∃(w':AR) (i' h':Int),Oi c code i h=some (((w'.1,(),()),()),((code,i',h',()),w'.2.1,()))∧AX A4 w'.2.1≤4000∧Cb code i':=by
 unfold Oi OW;obtain⟨w,i1,h1,e1,hw,MI⟩:=qn hc aS (h:=h) hi;rw[show(c.1,c.2.1,())=c from rfl,e1];simp only[ANY];obtain⟨v,i2,h2,e2,a2,b2,_,IY⟩:=FA hc (h:=h1) (n:=25) MI (by omega);rw[e2];simp only[ANY];have h61:=hw.1;cases v==0 with
 |true=>
  simp only[ANk];obtain⟨p,i3,h3,e3,hp,LQ⟩:=Kt hc (h:=h2) (l:=[0,30,31]) IY (by simp) (by simp);rw[e3];exact⟨(p,w.2.1,()),i3,h3,rfl,hw.w,LQ⟩
 |false=>
  simp only[ANI];cases v==1 with
  |true=>
   simp only[ANk,AB];by_cases h0:0<w.2.1.length
   ·rw[AMp (by omega),AMp (by omega),AMp (by omega)]
    refine⟨(w.1,w.2.1.set 0 ((w.2.1.getD 0 ([],[],false,())).1,(w.2.1.getD 0 ([],[],false,())).2.1,!(w.2.1.getD 0 ([],[],false,())).2.2.1,()),()),i2,h2,rfl,WI.w ⟨by simp;omega,fun e he=> ?_⟩,IY⟩;rcases AT7 he with he|rfl
    ·exact hw.2 e he
    ·have hm:w.2.1.getD 0 ([],[],false,())∈w.2.1:=by
      have:=Am (l:=w.2.1) (i:=0) (d:=([],[],false,())) h0;simp only[Int.ofNat_zero,Int.toNat_zero]at this;rw[this];exact ANa _
     have:=hw.2 _ hm;exact this
   ·rw[AM5 (by omega)]
    exact⟨w,i2,h2,rfl,hw.w,IY⟩
  |false=>
   simp only[ANI];cases v==2 with
   |true=>
    simp only[ANk];obtain⟨p,i3,h3,e3,a3,b3,_,LQ⟩:=FA hc (h:=h2) (n:=2) IY (by omega);rw[e3];simp only[ANY];have:=b3 (by omega);rw[AJ (by omega) (by omega),AMp (by rw[Au];omega),AMp (by rw[Au];omega)];refine⟨(w.1,w.2.1++[(List.map (fun n:Int=>UInt8.ofNat n.toNat) (List.replicate (40+p).toNat 0),[],false,())],()),i3,h3,rfl,?_,LQ⟩;have hww:=hw.w;have key:=pS (l:=w.2.1) (e:=(List.map (fun n:Int=>UInt8.ofNat n.toNat) (List.replicate (40+p).toNat 0),[],false,()));have hws:AX A4 w.2.1≤60*61:=by
     have Abb:∀l:List Ay,(∀e∈l,e.1.length≤41∧e.2.1.length≤9)→AX A4 l≤60*l.length:=by
      intro l
      induction l with
      |nil=>intro _;simp[AX]
      |cons e l ih=>
       intro hh;have:=hh e (by simp);have:=ih (fun e he=>hh e (by simp[he]));simp only[AX,A4,AOw]at this⊢;omega
     have:=Abb _ hw.2;omega
    simp only;rw[key];simp only[A4,AWH,AUf,ARW];omega
   |false=>
    simp only[ANI];cases v==3 with
    |true=>
     simp only[ANk];obtain⟨l',e4,hw4⟩:=xD (x:=0) (y:=[]) (z:=w.1) (h:=h2) IY Ac w.2.1 (Ae (by omega)) hw;rw[e4];exact⟨(w.1,l',()),i2,h2,rfl,hw4.w,IY⟩
    |false=>exact⟨w,i2,h2,rfl,hw.w,IY⟩
end
end Go.M
end
section
set_option maxRecDepth 8000
namespace Go.M
open Go.M.H (AK AQ Av Af AA CR AO Ay AR Ah BR A6 BN Al CD AX AW Aa Ai Bh A4 Ap A_ EH CP Cv C3)
def OK(code:AAG){X Y:Type}(Q:X→Y→Prop)(o:Option (X×(ADc×Y))):Prop:=
 ∃x i h y,o=some (x,((code,i,h,()),y))∧Cb code i∧Q x y
section
variable{code:AAG} {X Y Z W:Type} {Q:X→Y→Prop} {R:Z→W→Prop}
theorem OK.bind{o:Option (X×(ADc×Y))}{f:X×(ADc×Y)→Option (Z×(ADc×W))}
  (ho:OK code Q o) (hf:∀x i h y,Cb code i→Q x y→OK code R (f (x,((code,i,h,()),y)))):OK code R (o.bind f):=by
 obtain⟨x,i,h,y,e,hi,hq⟩:=ho;simp_all
theorem OK.pure{A:Type}{o:Option A}{a:A}{f:A→Option (Z×(ADc×W))}(ho:o=some a)(hf:OK code R (f a)):OK code R (o.bind f):=by
 simp_all
theorem OK.some{x:X}{i h:Int}{y:Y}(hi:Cb code i)(hq:Q x y):OK code Q (some (x,((code,i,h,()),y))):=⟨x,i,h,y,rfl,hi,hq⟩
theorem OK.cond{b:Bool}{x y:Option (X×(ADc×Y))}(h1:b=true→OK code Q x)(h2:b=false→OK code Q y):OK code Q (cond b x y):=by
 grind
theorem OK.Qa{p:Prop}[Decidable p]{x y:Option (X×(ADc×Y))}(h1:p→OK code Q x)(h2: ¬p→OK code Q y):OK code Q (_root_.cond (decide p) x y):=by
 grind
theorem OK.GP{a b:Int}{x y:Option (X×(ADc×Y))}(h1:a=b→OK code Q x)(h2:a≠b→OK code Q y):OK code Q (_root_.cond (a==b) x y):=by
 grind
theorem OK.ite{p:Prop}[Decidable p]{x y:Option (X×(ADc×Y))}(hp:p)(h1:OK code Q x):OK code Q (if p then x else y):=by
 simp_all
end
section
variable{code:AAG} (hc:code.length≤2^30)
include hc
theorem B5{i h n:Int}(hi:Cb code i)(hn:n≤2^40):OK code (fun(x:AB5) (y:Unit)=>0≤x.1∧(0<n→x.1<n)∧(n≤0→x.1=0)) (AL n code i h):=by
 obtain⟨v,i',h',e,v0,v1,v2,Dn⟩:=FA hc (h:=h) hi hn;exact⟨(v,()),i',h',(),e,Dn,v0,v1,v2⟩
theorem P3{i h n:Int}(hi:Cb code i)(hn:n≤2^40):OK code (fun(x:ABk) (y:Unit)=>True) (BA n code i h):=by
 obtain⟨v,i',h',e,Dn⟩:=ly hc (h:=h) hi hn;exact⟨(v,()),i',h',(),e,Dn,trivial⟩
theorem Q8{i h:Int}{l:AAG}(hi:Cb code i)(hl:l≠[])(hn:l.length≤2^30):OK code (fun(x:AB5) (y:Unit)=>x.1∈l) (CQ l code i h):=by
 obtain⟨v,i',h',e,hv,Dn⟩:=Kt hc (h:=h) hi hl hn;exact⟨(v,()),i',h',(),e,Dn,hv⟩
theorem fi{i h:Int}{l:List ABp}(hi:Cb code i)(hl:l≠[])(hn:l.length≤2^30):OK code (fun(x:AGo) (y:Unit)=>x.1∈l) (Fh l code i h):=by
 obtain⟨v,i',h',e,hv,Dn⟩:=uB hc (h:=h) hi hl hn;exact⟨(v,()),i',h',(),e,Dn,hv⟩
theorem Sw{c:Bz}(aS:c.1.length≤2^10){i h:Int}(hi:Cb code i):OK code (fun(x:ACx) (y:ADA)=>y.1.length≤2^12) (FP c code i h):=by
 have key:∀(n k N:Nat) (i h:Int) (b:AAG),Cb code i→k≤N→N-k<n→N≤2^11→b.length≤k→
   OK code (fun(x:ACx) (y:ADA)=>y.1.length≤2^12) (Io n N k code i h c.1 c.2.1 b):=by
  intro n
  induction n with
  |zero=>omega
  |succ n ih=>
   intro k N i h b hi hk hn hN hb;simp only[Io,TG];refine OK.Qa (fun Hh=> ?_) (fun yS=> ?_)
   ·refine OK.pure I_ ?_
    dsimp only;refine OK.bind (B5 hc hi (by omega)) fun x i' h' y Dn hq=> ?_
    dsimp only;refine OK.pure (K_ (by omega)) ?_
    dsimp only;rw[AJ (by omega) (by omega),show((k:Int)+1)=((k+1:Nat):Int)by omega];have:=TA (n:=x.1) (l:=b);exact ih (k+1) N _ _ _ Dn (by omega) (by omega) hN (by omega)
   ·refine OK.bind (P3 hc hi (by omega)) fun x i' h' y Dn hq=> ?_
    dsimp only;refine OK.cond (fun _=> ?_) (fun _=> ?_)
    ·refine OK.bind (Q8 hc Dn (by simp) (by simp)) fun x i' h' y Dn hq=> ?_
     dsimp only;refine OK.ite (by rw[Au];omega) ?_
     grind[OK.some]
    grind[OK.some]
 unfold FP TT;rw[AJ (by omega) (by omega)];refine OK.bind (B5 hc hi (by omega)) fun x i' h' y Dn hq=> ?_
 dsimp only;obtain⟨N,hN⟩:∃N:Nat,x.1=N:=⟨x.1.toNat,by omega⟩;grind[Ac,Ae]
theorem gl{c:Bz}(aS:c.1.length≤2^10){i h:Int}(hi:Cb code i):OK code (fun(x:ACx) (y:ADA)=>y.1.length≤2^13) (H5 c code i h):=by
 have key:∀(n k:Nat) (i h:Int) (b:AAG),Cb code i→k≤c.1.length→c.1.length-k<n→b.length≤2^12+k→
   OK code (fun(x:ACx) (y:ADA)=>y.1.length≤2^13) (Ky n k code i h c.1 c.2.1 b):=by
  intro n
  induction n with
  |zero=>omega
  |succ n ih=>
   intro k i h b hi hk hn hb;simp only[Ky,Vt];refine OK.Qa (fun Hh=> ?_) (fun yS=>OK.some hi (by grind));refine OK.pure (D3 (c:=(c.1,c.2.1,())) (by grind) (by omega)) ?_
   dsimp only;refine OK.cond (fun _=> ?_) (fun _=>OK.some hi (by grind));refine OK.pure (K_ (by omega)) ?_
   dsimp only;rw[AJ (by omega) (by omega),show((k:Int)+1)=((k+1:Nat):Int)by omega];have:=TA (n:=(k:Int)) (l:=b);exact ih (k+1) _ _ _ hi (by omega) (by omega) (by omega)
 unfold H5 Vx;grind[OK.bind,Sw,Ac,Ae]
end
theorem AJO{x:Int}:CO (IntKind.wrap .i64 x):=by
 grind[CO,IntKind.wrap,IntKind.bits,IntKind.signed]
theorem APH{a b:Int}:CO (bOr .i64 a b):=by
 unfold bOr;exact AJO
theorem vX{l:AAG}(hl:l.length≤2^20):∃r,L9 l=some ((r,()),())∧CO r:=by
 have key:∀(n k:Nat) (t:Int),(∀x∈l,0≤x)→CO t→k≤l.length→l.length-k<n→ ∃r,Kf n l t k=some ((r,()),())∧CO r:=by
  intro n
  induction n with
  |zero=>omega
  |succ n ih=>
   intro k t hp ht hk hn;simp only[Kf,VB,AB];by_cases Hh:k<l.length
   ·rw[AMp (by omega),AMp (by omega),Am Hh,AM5 (by simp_all),AJ (x:=(k:Int)+1) (by omega) (by omega),show((k:Int)+1)=((k+1:Nat):Int)by omega]
    grind[APH]
   grind
 unfold L9 VF;rw[gV (by omega)];simp only[AD,A0];rcases AMo (r_ l 7)with ha|ha
 ·rw[ha]
  exact key Ac 0 0 (fun x hx=>((w5.1 ha).1 x hx).1) (by unfold CO;omega) (by omega) (Ae (by omega))
 ·rw[ha]
  exact⟨-1,rfl,by unfold CO;omega⟩
end Go.M
end
section
set_option maxRecDepth 8000
namespace Go.M
open Go.M.H (AK AQ Av Af AA CR AO Ay AR Ah BR A6 BN Al CD AX AW Aa Ai Bh A4 Ap A_ EH CP Cv C3)
abbrev j_:BN×Unit→Unit→Prop:=fun x _=>CO x.1.2.1∧CO x.1.2.2.1∧CO x.1.2.2.2.1∧x.1.2.2.2.2.1.length≤40
theorem um(x:Int):CO (AS x):=by
 grind[AS,IntKind.wrap,CO,IntKind.bits,IntKind.signed]
theorem OE{x:Int}(h: -1000≤x∧x≤1000):CO x:=by unfold CO;omega
section
variable{code:AAG} (hc:code.length≤2^30) {w:AA} (h:Me w)
include hc h
theorem Me.AAN{e:Int}(he:1≤e∧e≤w.Ao.length):0<(A5 w.Ao e).length∧(A5 w.Ao e).length≤8∧ ∀x∈A5 w.Ao e,0≤x∧x<8:=by
 have hh:=(h.lU.Ao _ (Ba (d:=HG) (show(e-1).toNat<(CJ w).1.length by show _<w.Ao.length;omega))).1;have hn:=Vz hh;have aS:=(Db h.cfg).2.1;unfold A5;rw[Ak.2 he,AMp rfl];refine⟨?_,Fj hn,fun x hx=> ?_⟩
 ·rcases AYQ (w.Ao.getD (e-1).toNat HG).1.length with h0|h0
  ·have AAM:=ARJ h0
   have hh':holds (AY w) (w.Ao.getD (e-1).toNat HG).1=true:=hh;grind[holds_nil]
  omega
 ·have:=(DO.1 hn).2.1 x hx
  omega
theorem wC(hw:0<w.AG.length){i hh:Int}(hi:Cb code i):OK code j_ (Gu w code i hh):=by
 have k:=h.nums;have k2:=k.wr;have k5:=k.era;have sZ:0<w.2.2.2.2.2.2.1.length:=hw;have tail:∀(j:Int),0≤j→j<(w.2.2.2.2.2.2.1.length:Int)→ ∀i hh,Cb code i→OK code j_ (
   (CK (w.2.2.2.2.1,w.2.2.2.2.2.1,()) ((w.2.2.2.2.2.2.1.getD (j.toNat) (0,[],())).1)).bind fun WR=>
   (AL (WR.2.1.length:Int) code i hh).bind fun Li=>
   if(0:Int)≤Li.1.1∧Li.1.1<(WR.2.1.length:Int)then(
   cond ((((w.2.2.2.2.2.2.1.getD (j.toNat) (0,[],())).2.1).length:Int)==0)
    ((Fh [[],[97],[98,99],[100]] Li.2.1.1 Li.2.1.2.1 Li.2.1.2.2.1).bind fun aQ=>
    some (((2,j,0,0,aQ.1.1,()),()),((aQ.2.1.1,aQ.2.1.2.1,aQ.2.1.2.2.1,()),())))
   ((BA 7 Li.2.1.1 Li.2.1.2.1 Li.2.1.2.2.1).bind fun Iq=>
   cond (Iq.1.1)
    ((Fh [[],[97],[98,99],[100]] Iq.2.1.1 Iq.2.1.2.1 Iq.2.1.2.2.1).bind fun bf=>
    some (((2,j,0,0,bf.1.1,()),()),((bf.2.1.1,bf.2.1.2.1,bf.2.1.2.2.1,()),())))
   ((BA 3 Iq.2.1.1 Iq.2.1.2.1 Iq.2.1.2.2.1).bind fun gT=>
   cond (gT.1.1)
    (some (((4,(WR.2.1.getD (Li.1.1.toNat) 0),0,0,[],()),()),((gT.2.1.1,gT.2.1.2.1,gT.2.1.2.2.1,()),())))
   ((Uh (((w.2.2.2.2.2.2.1.getD (j.toNat) (0,[],())).2.1).length:Int) 3).bind fun gN=>
   (AL gN.1.1 gT.2.1.1 gT.2.1.2.1 gT.2.1.2.2.1).bind fun PT=>
   some (((3,j,AS ((((w.2.2.2.2.2.2.1.getD (j.toNat) (0,[],())).2.1).length:Int)-PT.1.1),(WR.2.1.getD (Li.1.1.toNat) 0),[],()),()),((PT.2.1.1,PT.2.1.2.1,PT.2.1.2.2.1,()),()))))))else none):=by
  intro j hj0 hj1 i hh hi;have hx:=h.AG _ (Ba (d:=Ag) (show j.toNat<w.AG.length by simp_all));have he:=hx.1.ep;obtain⟨e1,e2,e3⟩:=h.AAN hc (e:=(w.AG.getD j.toNat Ag).1) ⟨he.1,hx.2⟩;refine OK.pure (ET (r:=CJ w) (by show AX Bh w.2.2.2.2.1≤_;omega)) ?_
  dsimp only
  generalize tP:A5 (CJ w).1 (w.2.2.2.2.2.2.1.getD j.toNat (0,[],())).1=ns
  have ANu:A5 w.Ao (w.AG.getD j.toNat Ag).1=ns:=tP;rw[ANu]at e1 e2 e3;refine OK.bind (B5 hc hi (by omega)) fun x i1 h1 y MI hq=> ?_
  dsimp only at*;refine OK.ite (by omega) ?_
  have tD:CO (ns.getD x.1.toNat 0):=OE (by grind[Ba]);have hjj:CO j:=OE (by omega);have z:CO 0:=OE (by omega)
  repeat' (first|refine OK.some (by assumption) ?_|refine OK.Qa (fun _=> ?_) (fun _=> ?_)|refine OK.GP (fun _=> ?_) (fun _=> ?_)|refine OK.cond (fun _=> ?_) (fun _=> ?_)|refine OK.ite (by omega) ?_|(refine OK.bind (P3 (by assumption) (by assumption) (by omega)) fun x i h y hi hq=> ?_;dsimp only)|(refine OK.bind (B5 (by assumption) (by assumption) (by omega)) fun x i h y hi hq=> ?_;dsimp only at*)|(refine OK.bind (fi (by assumption) (by assumption) (by simp) (by simp)) fun x i h y hi hq=> ?_;dsimp only)|(refine OK.pure Z_ ?_;dsimp only)|(refine OK.pure I_ ?_;dsimp only))
  all_goals refine⟨?_,?_,?_,?_⟩
  all_goals first
   |assumption
   |exact um _
   |exact AYV _
   |grind
 unfold Gu;dsimp only;have e1:AS ((w.2.2.2.2.2.2.1.length:Int)-1)=(w.2.2.2.2.2.2.1.length:Int)-1:=AJ (by omega) (by omega);simp only[e1];refine OK.bind (B5 hc hi (by omega)) fun x i1 h1 y MI hq=> ?_
 dsimp only at*;refine OK.bind (P3 hc MI (by omega)) fun x2 i2 h2 y2 IY sf=> ?_
 dsimp only at*;refine OK.cond (fun _=> ?_) (fun _=> ?_)
 ·refine OK.ite (by omega) ?_
  exact tail _ (by omega) (by omega) _ _ IY
 simp_all
end
end Go.M
end
section
set_option maxRecDepth 8000
namespace Go.M
open Go.M.H (AK AQ Av Af AA CR AO Ay AR Ah BR A6 BN Al CD AX AW Aa Ai Bh A4 Ap A_ EH CP Cv C3)
section
variable{code:AAG} (hc:code.length≤2^30) {w:AA} (h:Me w)
include hc h
theorem xz{m:Av}(hm:ku (AY w) m){t7:Int}(h7:CO t7):∀(n k:Nat) (t8 i hh:Int),CO t8→Cb code i→k≤m.2.2.2.2.2.1.length→m.2.2.2.2.2.1.length-k<n→
  OK code j_ (GO n t7 t8 k code i hh w.1 w.2.1 w.2.2.1 w.2.2.2.1 w.2.2.2.2.1 w.2.2.2.2.2.1 w.2.2.2.2.2.2.1 w.2.2.2.2.2.2.2.1 w.2.2.2.2.2.2.2.2.1 w.2.2.2.2.2.2.2.2.2.1 w.2.2.2.2.2.2.2.2.2.2.1 0 0 0 0 [] m.1 m.2.1 m.2.2.1 m.2.2.2.1 m.2.2.2.2.1 m.2.2.2.2.2.1):=by
 have k1:=h.nums.c;have yQ:m.2.2.2.2.2.1.length≤60:=by
  have:=hm.n;have hb:=Ho (l:=m.2.2.2.1);split at this<;>omega
 intro n
 induction n with
 |zero=>intro k t8 i hh _ _ _ h;omega
 |succ n ih=>
  intro k t8 i hh h8 hi hk hn;have hk8:CO ((k+1:Nat):Int):=OE (by omega);simp only[GO,Rq];refine OK.Qa (fun Hh=> ?_) (fun yS=>OK.some hi ⟨OE (by show-1000≤(0:Int)∧(0:Int)≤1000;omega),h8,h7,AYV _⟩);have Aai:k<m.2.2.2.2.2.1.length:=by omega
  refine OK.ite (by omega) ?_
  rw[AJ (x:=(k:Int)+1) (by omega) (by omega),show((k:Int)+1)=((k+1:Nat):Int)by omega];have wu:=Fj (hm.wrote _ (Ba (d:=[]) Aai));refine OK.pure (D3 (c:=AY w) (by show w.1.length≤_;omega) (by show(m.2.2.2.2.2.1.getD k []).length≤_;omega)) ?_
  dsimp only;refine OK.cond (fun _=> ?_) (fun _=>ih (k+1) _ _ _ h8 hi (by omega) (by omega));refine OK.bind (P3 hc hi (by omega)) fun x2 i2 h2 y2 IY sf=> ?_
  dsimp only;exact OK.cond (fun _=>ih (k+1) _ _ _ hk8 IY (by omega) (by omega)) (fun _=>ih (k+1) _ _ _ h8 IY (by omega) (by omega))
theorem yE{i hh:Int}(hi:Cb code i):OK code j_ (MW w code i hh):=by
 have k:=h.nums;have k5:=k.era;unfold MW Tc;have z:CO 0:=OE (by omega);refine OK.GP (fun _=>OK.some hi ⟨z,z,z,AYV _⟩) (fun fT=> ?_);have hlen:0<w.CE.length:=by show 0<w.2.2.2.2.2.2.2.1.length;omega
 refine OK.ite (by omega) ?_
 have hmm:=h.CE _ (Ba (d:=Rc) hlen)
 generalize hg:w.2.2.2.2.2.2.2.1.getD 0 (0,0,[],[],false,[],())=m
 have w6:w.CE.getD 0 Rc=m:=hg;rw[w6]at hmm;obtain⟨hm,hm2,hm3⟩:=hmm;have he:=hm.ep;have hb:=hm.b;obtain⟨e1,e2,e3⟩:=h.AAN hc (e:=m.2.1) ⟨he.1,by omega⟩;have yQ:m.2.2.2.2.2.1.length≤60:=by
  have:=hm.n;have hb:=Ho (l:=m.2.2.2.1);split at this<;>omega
 refine OK.pure (ET (r:=CJ w) (by show AX Bh w.2.2.2.2.1≤_;omega)) ?_
 dsimp only
 generalize tP:A5 (CJ w).1 m.2.1=ns
 have ANu:A5 w.Ao m.2.1=ns:=tP;rw[ANu]at e1 e2 e3;refine OK.bind (B5 hc hi (by omega)) fun x i1 h1 y MI hq=> ?_
 dsimp only at*;refine OK.ite (by omega) ?_
 have tD:CO (ns.getD x.1.toNat 0):=OE (by have:=e3 _ (Ba (l:=ns) (i:=x.1.toNat) (d:=0) (by omega));omega);have fin:∀t8 i hh,CO t8→Cb code i→OK code j_ (GO Ac (ns.getD x.1.toNat 0) t8 0 code i hh w.1 w.2.1 w.2.2.1 w.2.2.2.1 w.2.2.2.2.1 w.2.2.2.2.2.1 w.2.2.2.2.2.2.1 w.2.2.2.2.2.2.2.1 w.2.2.2.2.2.2.2.2.1 w.2.2.2.2.2.2.2.2.2.1 w.2.2.2.2.2.2.2.2.2.2.1 0 0 0 0 [] m.1 m.2.1 m.2.2.1 m.2.2.2.1 m.2.2.2.2.1 m.2.2.2.2.2.1):=fun t8 i hh h8 hi=>
  xz hc h hm tD Ac 0 t8 i hh h8 hi (by omega) (Ae (by omega))
 repeat' (first|refine OK.some (by assumption) ?_|refine OK.Qa (fun _=> ?_) (fun _=> ?_)|refine OK.GP (fun _=> ?_) (fun _=> ?_)|refine OK.cond (fun _=> ?_) (fun _=> ?_)|refine OK.ite (by omega) ?_|(refine OK.bind (P3 (by assumption) (by assumption) (by omega)) fun x i h y hi hq=> ?_;dsimp only)|(refine OK.bind (B5 (by assumption) (by assumption) (by omega)) fun x i h y hi hq=> ?_;dsimp only at*)|(refine OK.bind (fi (by assumption) (by assumption) (by simp) (by simp)) fun x i h y hi hq=> ?_;dsimp only)|(refine OK.pure Z_ ?_;dsimp only)|(refine OK.pure I_ ?_;dsimp only))
 all_goals first
  |exact fin _ _ _ (um _) (by assumption)
  |exact⟨z,z,z,AYV _⟩
  |exact⟨tD,z,z,AYV _⟩
theorem wm{i hh:Int}(hi:Cb code i):OK code j_ (P5 w code i hh):=by
 have k:=h.nums;have k1:=k.c;have k2:=k.wr;have k3:=k.lost;have k4:=k.st;have k5:=k.era;have k6:=k.se;have k7:=k.cP;have zd:=(Db h.cfg).1;have Adc:1≤w.1.length:=zd;have z:CO 0:=OE (by omega);have VW:∀i hh,Cb code i→OK code j_ ((H5 (w.1,w.2.1,()) code i hh).bind fun u3=>
   (L9 u3.2.2.1).bind fun u4=>
   some (((1,u4.1.1,0,0,[],()),()),((u3.2.1.1,u3.2.1.2.1,u3.2.1.2.2.1,()),()))):=fun i hh hi=>by
  refine OK.bind (gl hc (c:=(w.1,w.2.1,())) (by show w.1.length≤_;omega) hi) fun x i1 h1 y MI hq=> ?_
  dsimp only;obtain⟨r,hr,hr2⟩:=vX (l:=y.1) (by omega);refine OK.pure hr ?_
  exact OK.some MI ⟨hr2,z,z,AYV _⟩
 have AXR:∀j:Nat,CO (w.2.2.2.2.2.2.2.2.2.1.getD j (0,[],false,())).1:=fun j=>by
  by_cases hj:j<w.2.2.2.2.2.2.2.2.2.1.length
  ·exact Gr (h.AU _ (Ba (d:=NO) hj)).1
  ·rw[List.getD,AVj (by omega)];exact z
 have AWa:CO (w.2.2.2.1.getD 0 0):=by
  by_cases hj:0<w.2.2.2.1.length
  ·have:=(DO.1 h.lost).2.1 _ (Ba (d:=0) hj)
   have hc8:(AY w).1.length≤8:=k1;have Adp:0≤w.2.2.2.1.getD 0 0∧w.2.2.2.1.getD 0 0<(AY w).1.length:=this;exact OE (by omega)
  ·rw[List.getD,AVj (by omega)];exact z
 unfold P5;refine OK.GP (fun _=>VW _ _ hi) (fun fT=> ?_);have hw0:0<w.AG.length:=by show 0<w.2.2.2.2.2.2.1.length;omega
 have hwr:∀i hh,Cb code i→OK code j_ ((Gu w code i hh).bind fun ni=>
   some (((ni.1.1.1,ni.1.1.2.1,ni.1.1.2.2.1,ni.1.1.2.2.2.1,ni.1.1.2.2.2.2.1,()),()),((ni.2.1.1,ni.2.1.2.1,ni.2.1.2.2.1,()),()))):=fun i hh hi=>
  OK.bind (wC hc h hw0 hi) fun x i1 h1 y MI hq=>OK.some MI hq
 have hmd:∀i hh,Cb code i→OK code j_ ((MW w code i hh).bind fun ni=>
   some (((ni.1.1.1,ni.1.1.2.1,ni.1.1.2.2.1,ni.1.1.2.2.2.1,ni.1.1.2.2.2.2.1,()),()),((ni.2.1.1,ni.2.1.2.1,ni.2.1.2.2.1,()),()))):=fun i hh hi=>
  OK.bind (yE hc h hi) fun x i1 h1 y MI hq=>OK.some MI hq
 rw[show(w.1,w.2.1,w.2.2.1,w.2.2.2.1,w.2.2.2.2.1,w.2.2.2.2.2.1,w.2.2.2.2.2.2.1,w.2.2.2.2.2.2.2.1,w.2.2.2.2.2.2.2.2.1,w.2.2.2.2.2.2.2.2.2.1,w.2.2.2.2.2.2.2.2.2.2.1,())=w from rfl];refine OK.bind (P3 hc hi (by omega)) fun x2 i2 h2 y2 IY sf=> ?_
 dsimp only;refine OK.cond (fun _=>VW _ _ IY) (fun _=> ?_);refine OK.bind (B5 hc IY (by omega)) fun x3 i3 h3 y3 LQ V1=> ?_
 dsimp only at*;have hx3:CO x3.1:=OE (by omega)
 repeat' first
  |exact hwr _ _ (by assumption)
  |exact hmd _ _ (by assumption)
  |(refine OK.pure (OM (r:=CJ w) (by show w.2.2.2.2.1.length≤_;omega)) ?_;dsimp only)
  |(first|refine OK.some (by assumption) ?_|refine OK.Qa (fun _=> ?_) (fun _=> ?_)|refine OK.GP (fun _=> ?_) (fun _=> ?_)|refine OK.cond (fun _=> ?_) (fun _=> ?_)|refine OK.ite (by omega) ?_|(refine OK.bind (P3 (by assumption) (by assumption) (by omega)) fun x i h y hi hq=> ?_;dsimp only)|(refine OK.bind (B5 (by assumption) (by assumption) (by omega)) fun x i h y hi hq=> ?_;dsimp only at*)|(refine OK.bind (fi (by assumption) (by assumption) (by simp) (by simp)) fun x i h y hi hq=> ?_;dsimp only)|(refine OK.pure Z_ ?_;dsimp only)|(refine OK.pure I_ ?_;dsimp only))
 all_goals refine⟨?_,?_,?_,AYV _⟩
 all_goals first
  |exact z
  |exact hx3
  |exact AXR _
  |exact AWa
  |(refine OE ?_;dsimp only;omega)
end
end Go.M
end
section
set_option maxRecDepth 8000
namespace Go.M
open Go.M.H (AK AQ Av Af AA CR AO Ay AR Ah BR A6 BN Al CD AX AW Aa Ai Bh A4 Ap A_ EH CP Cv C3)
theorem l7{s:AAG}{p:Int}:∀{l:List A6} {b:Option AK},(∀x,b=some x→F7 x=true)→ ∀x,I2 s p b l=some x→F7 x=true
 |[],b,hb,x,h=>hb x h
 |a::l,b,hb,x,h=>by
  simp only[I2]at h;split at h
  ·rename_i hc
   simp only[ANB]at hc;refine l7 (l:=l) ?_ x h
   intro z hz;split at hz
   ·rename_i z' hz'
    unfold better at hz;grind
   simp_all
  ·exact l7 (l:=l) hb x h
theorem lT{c:Bz}{g:AO}{sure:Int}{r:Ah}{l:List A6}(h:∀e∈r.2.2.1,e.2.2.1.length≤40)(h0:(Df c g sure r l).2=0):∀e∈(Df c g sure r l).1.2.2.1,e.2.2.1.length≤40:=by
 have app:∀(ev:BR),ev.2.2.1.length≤40→ ∀e∈r.2.2.1++[ev],e.2.2.1.length≤40:=fun ev hev e he=>by
  grind
 have hf:∀p,(UT p (I2 (g.1.getD (r.1-1).toNat HG).1 p none l)).2.2.1.length≤40:=fun p=>by
  cases hb:I2 (g.1.getD (r.1-1).toNat HG).1 p none l with
  |none=>show 0≤40;omega
  |some x=>
   have:=(GS.1 (l7 (b:=none) (fun x hx=>by cases hx) x hb)).len;unfold UT;dsimp only;split
   all_goals simp_all
 revert h0
 unfold Df;dsimp only;split
 ·omega
 split
 ·omega
 split
 ·grind
 split
 ·grind
 split
 ·omega
 split
 all_goals grind
theorem BI{w:AA}{n:Int}{q:AQ×Bool}:(putAt w n q).1.Aj=w.Aj:=by
 grind[putAt]
theorem vm{w:AA}{a k:Int}(h:wg w):wg (NF w a k).1:=by
 unfold NF;split
 ·omega
 dsimp only;split
 ·omega
 rename_i h2;intro r hr;rcases AT7 hr with hr|rfl
 ·exact h r hr
 ·refine lT ?_ (by omega)
  by_cases hl:a.toNat<w.Aj.length
  ·exact h _ (Ba hl)
  simp_all
theorem Da{w w':AA}(h:wg w)(e:w'.Aj=w.Aj):wg w':=by
 unfold wg;rw[e];exact h
theorem yn{all:Bool}{w:AA}{d:BN}(h:wg w):wg (Nx all w d).1:=by
 unfold Nx;by_cases c:d.1=1
 ·rw[AMp c]
  grind[Da,PR,BI]
 rw[AM5 c];clear c;by_cases c:d.1=2
 ·rw[AMp c]
  grind[Da,doAdd,BI]
 rw[AM5 c];clear c;by_cases c:d.1=3
 ·rw[AMp c]
  grind[Da,Gt,BI]
 rw[AM5 c];clear c;by_cases c:d.1=4
 ·rw[AMp c]
  grind[Da,MT,BI]
 rw[AM5 c];clear c;by_cases c:d.1=5
 ·rw[AMp c]
  grind[Da,Kj,BI]
 rw[AM5 c];clear c;by_cases c:d.1=6
 ·rw[AMp c]
  grind[Da,PA,BI]
 rw[AM5 c];clear c;by_cases c:d.1=7
 ·rw[AMp c]
  grind[Da,O0,BI]
 rw[AM5 c];clear c;by_cases c:d.1=8
 ·rw[AMp c]
  grind[Da,O9,BI]
 rw[AM5 c];clear c;by_cases c:d.1=9
 ·rw[AMp c]
  grind[Da,PH,BI]
 rw[AM5 c];clear c;by_cases c:d.1=10
 ·rw[AMp c]
  grind[Da,O_,BI]
 rw[AM5 c];clear c;by_cases c:d.1=11
 ·rw[AMp c]
  grind[Da,VV,BI]
 rw[AM5 c];clear c;by_cases c:d.1=12
 ·rw[AMp c]
  grind[Da,KZ,BI]
 rw[AM5 c];clear c;by_cases c:d.1=13
 ·rw[AMp c]
  grind[Da,RL,BI]
 rw[AM5 c];clear c;by_cases c:d.1=14
 ·rw[AMp c];exact vm h
 rw[AM5 c];clear c;by_cases c:d.1=15
 ·rw[AMp c]
  grind[Da,QE,BI]
 rw[AM5 c];grind[Da,K0,BI]
theorem sW{c:Bz}{g:AO}{sure:Int}{r:Ah}{l:List A6}(h:∀e∈r.2.2.1,CO e.2.1)(h0:(Df c g sure r l).2=0):∀e∈(Df c g sure r l).1.2.2.1,CO e.2.1:=by
 have app:∀(ev:BR),CO ev.2.1→ ∀e∈r.2.2.1++[ev],CO e.2.1:=fun ev hev e he=>by
  grind
 have hf:∀p b,(UT p b).2.1=p:=fun p b=>by
  cases b with
  |none=>rfl
  |some x=>grind[UT]
 revert h0
 unfold Df;dsimp only;split
 ·omega
 rename_i Ei;have AVN:On c g=true∧ae r=true:=by
  simp_all
 have hrg:=(KC.1 AVN.1).tin;have Xc:=Xd.1 AVN.2;have hre:=Xc.ep;have hro:=Xc.off;split
 ·omega
 split
 ·grind
 split
 ·grind[OE]
 split
 ·omega
 split
 ·omega
 intro _;refine app _ ?_
 grind[CO,Ge]
theorem AB7{w:AA}{a k:Int}(h:bL w):bL (NF w a k).1:=by
 unfold NF;split
 ·omega
 dsimp only;split
 ·omega
 rename_i h2;intro r hr;rcases AT7 hr with hr|rfl
 ·exact h r hr
 ·refine sW ?_ (by omega)
  by_cases hl:a.toNat<w.Aj.length
  ·exact h _ (Ba hl)
  simp_all
theorem GC{w w':AA}(h:bL w)(e:w'.Aj=w.Aj):bL w':=by
 unfold bL;rw[show w'.2.2.2.2.2.2.2.2.1=w.2.2.2.2.2.2.2.2.1 from e];exact h
theorem AJN{all:Bool}{w:AA}{d:BN}(h:bL w):bL (Nx all w d).1:=by
 unfold Nx;by_cases c:d.1=1
 ·rw[AMp c]
  grind[GC,PR,BI]
 rw[AM5 c];clear c;by_cases c:d.1=2
 ·rw[AMp c]
  grind[GC,doAdd,BI]
 rw[AM5 c];clear c;by_cases c:d.1=3
 ·rw[AMp c]
  grind[GC,Gt,BI]
 rw[AM5 c];clear c;by_cases c:d.1=4
 ·rw[AMp c]
  grind[GC,MT,BI]
 rw[AM5 c];clear c;by_cases c:d.1=5
 ·rw[AMp c]
  grind[GC,Kj,BI]
 rw[AM5 c];clear c;by_cases c:d.1=6
 ·rw[AMp c]
  grind[GC,PA,BI]
 rw[AM5 c];clear c;by_cases c:d.1=7
 ·rw[AMp c]
  grind[GC,O0,BI]
 rw[AM5 c];clear c;by_cases c:d.1=8
 ·rw[AMp c]
  grind[GC,O9,BI]
 rw[AM5 c];clear c;by_cases c:d.1=9
 ·rw[AMp c]
  grind[GC,PH,BI]
 rw[AM5 c];clear c;by_cases c:d.1=10
 ·rw[AMp c]
  grind[GC,O_,BI]
 rw[AM5 c];clear c;by_cases c:d.1=11
 ·rw[AMp c]
  grind[GC,VV,BI]
 rw[AM5 c];clear c;by_cases c:d.1=12
 ·rw[AMp c]
  grind[GC,KZ,BI]
 rw[AM5 c];clear c;by_cases c:d.1=13
 ·rw[AMp c]
  grind[GC,RL,BI]
 rw[AM5 c];clear c;by_cases c:d.1=14
 ·rw[AMp c];exact AB7 h
 rw[AM5 c];clear c;by_cases c:d.1=15
 ·rw[AMp c]
  grind[GC,QE,BI]
 rw[AM5 c];grind[GC,K0,BI]
theorem AAA{all:Bool}{w:AA}{d:BN}(h:bL w)(e:(CT all w d).2=0):bL (CT all w d).1:=by
 unfold CT at*;by_cases hc:(!Dg w|| !K9 d)=true
 ·simp_all
 ·rw[AM5 hc];exact AJN h
theorem yL{c:Bz}:bL (ak c):=fun r hr=>by
 have:r=(1,1,[],()):=by
  have hr':r∈([(1,1,[],()),(1,1,[],())]:List Ah):=hr;simp_all
 simp_all
theorem sV{all:Bool}{w:AA}{d:BN}(h:wg w)(e:(CT all w d).2=0):wg (CT all w d).1:=by
 unfold CT at*;by_cases hc:(!Dg w|| !K9 d)=true
 ·simp_all
 ·rw[AM5 hc];exact yn h
theorem wX{c:Bz}(hc:GB c=true):Me (ak c)∧wg (ak c):=by
 refine⟨⟨hc,by simp[ak,H.AA.Aq],Ys hc,.inr holds_nil,fun i hi=> ?_,⟨hc,by show 0≤30;omega,.inl rfl,fun e he=>(by cases he),fun i hi=>by exact absurd hi (by show¬i<0;omega)⟩,by show 0≤4;omega,by show 0≤1;omega,fun x hx=>(by cases hx),List.Pairwise.nil,fun x hx=>(by cases hx),rfl,fun r hr=> ?_,by show 0≤120;omega,fun x hx=>(by cases hx),List.Pairwise.nil⟩,fun r hr=> ?_⟩
 ·have:(ak c).Aq.getD i Dk=Dk:=by
   show(List.replicate c.1.length Dk).getD i Dk=Dk
   grind
  rw[this];exact⟨cZ.nil,fun _=>rfl⟩
 ·have:r=(1,1,[],()):=by
   have hr':r∈([(1,1,[],()),(1,1,[],())]:List Ah):=hr;simp_all
  subst this;exact⟨by omega,by simp_all,by simp_all⟩
 ·have:r=(1,1,[],()):=by
   have hr':r∈([(1,1,[],()),(1,1,[],())]:List Ah):=hr;simp_all
  simp_all
theorem lM{c:Bz}(hc:GB c=true):Hi c=some (((((),c.2.1,(),(),(),0,(),(),(),(),false,()),true,()),()),(c.1,List.replicate c.1.length Dk,[],[],[],[],[(1,1,[],()),(1,1,[],())],[],())):=by
 have hl:=(Db hc).2.1;unfold Hi;rw[show(c.1,c.2.1,())=c from rfl,HX (by omega),hc];simp only[AD,ANX,ANI];rw[AMp (by rw[Au];omega),AMp ⟨by omega,by omega,by rw[Au];omega⟩];rfl
def f_(x:(AKX×Unit))(y:Unit×Unit×Unit×Unit×Unit×Unit×Unit×Unit×(List BN)×List Int×(List AQ)×List Int×(List CR)×(List AR)×(List Av)×(List Ah)×(List Af)×Unit):AA:=
 (y.2.2.2.2.2.2.2.2.2.1,x.1.2.2.1.2.1,y.2.2.2.2.2.2.2.2.2.2.1,y.2.2.2.2.2.2.2.2.2.2.2.1,y.2.2.2.2.2.2.2.2.2.2.2.2.1,x.1.2.2.1.2.2.2.2.2.1,y.2.2.2.2.2.2.2.2.2.2.2.2.2.1,y.2.2.2.2.2.2.2.2.2.2.2.2.2.2.1,y.2.2.2.2.2.2.2.2.2.2.2.2.2.2.2.1,y.2.2.2.2.2.2.2.2.2.2.2.2.2.2.2.2.1,x.1.2.2.1.2.2.2.2.2.2.2.2.2.2.1,())
section
variable{code:AAG} (hc:code.length≤2^30)
include hc
theorem APX{T:Int}(hT:T≤1000){z1 z2:Int}{z3:Bool}:∀(n k:Nat) (i hh:Int) (w:AA) (acc:List BN),Cb code i→(k:Int)≤max T 0→(T-k).toNat<n→acc.length≤k→Me w→wg w→bL w→
  OK code (fun x y=>Me (f_ x y)∧wg (f_ x y)∧bL (f_ x y)) (Dl n T k code i hh 0 0 false [] [] [] [] [] [] [] [] 0 0 false [] [] [] [] [] [] [] [] z1 z2 z3 w.2.1 w.2.2.2.2.2.1 w.2.2.2.2.2.2.2.2.2.2.1 w.1 w.2.2.1 w.2.2.2.1 w.2.2.2.2.1 w.2.2.2.2.2.2.1 w.2.2.2.2.2.2.2.1 w.2.2.2.2.2.2.2.2.1 w.2.2.2.2.2.2.2.2.2.1 acc):=by
 intro n
 induction n with
 |zero=>omega
 |succ n ih=>
  intro k i hh w acc hi hk hn hb hw hr hv;simp only[Dl,QX];refine OK.Qa (fun Hh=> ?_) (fun yS=>OK.some hi ⟨hw,hr,hv⟩);rw[show(w.1,w.2.1,w.2.2.1,w.2.2.2.1,w.2.2.2.2.1,w.2.2.2.2.2.1,w.2.2.2.2.2.2.1,w.2.2.2.2.2.2.2.1,w.2.2.2.2.2.2.2.2.1,w.2.2.2.2.2.2.2.2.2.1,w.2.2.2.2.2.2.2.2.2.2.1,())=w from rfl];refine OK.bind (wm hc hw hi) fun x i1 h1 y MI hq=> ?_
  dsimp only;refine OK.ite (by rw[Au];omega) ?_
  refine OK.pure (V_ (d:=x.1) (hw.win hr) hq.1) ?_
  rw[AJ (by omega) (by omega),show((k:Int)+1)=((k+1:Nat):Int)by omega];refine OK.GP (fun h0=> ?_) (fun h0=> ?_)
  ·have h0':(CT true w x.1).2=0:=h0
   exact ih (k+1) i1 h1 (CT true w x.1).1 (acc++[x.1]) MI (by omega) (by omega) (by simp_all) (GV.1 (yb h0')) (sV hr h0') (AAA hv h0')
  ·exact ih (k+1) i1 h1 w (acc++[x.1]) MI (by omega) (by omega) (by simp_all) hw hr hv
theorem AVE{T:Int}(hT:0≤T∧T≤500){dom:AAG}{wE:AAG}(hbl:wE.length≤100)(hd:cR dom 1):∀(n:Nat) (c i hh:Int),Cb code i→1≤c∧c≤3→c.toNat+1000≤n→
  OK code (fun x y=>Me (f_ x y)∧wg (f_ x y)∧bL (f_ x y)) (E7 n T code i hh 0 0 false [] [] [] [] [] [] [] [] 0 0 false [] [] [] [] [] [] [] [] c dom wE):=by
 intro n
 induction n with
 |zero=>omega
 |succ n ih=>
  intro c i hh hi vf hn;have hg:cR dom c:=⟨hd.1,hd.2.1,vf.1,vf.2,hd.2.2.2.2⟩;have hdl:=hd.2.1;simp only[E7,Rw];have fin:OK code (fun x y=>Me (f_ x y)∧wg (f_ x y)∧bL (f_ x y)) ((Hi (dom,c,())).bind fun u6=>
    (AL (AS (T+1)) code i hh).bind fun u7=>
    Dl n u7.1.1 0 u7.2.1.1 u7.2.1.2.1 u7.2.1.2.2.1 0 0 false [] [] [] [] [] [] [] [] 0 0 false [] [] [] [] [] [] [] [] u6.1.1.1.2.1 u6.1.1.1.2.2.2.2.2.1 u6.1.1.1.2.2.2.2.2.2.2.2.2.2.1 u6.1.1.1.2.1 u6.1.1.1.2.2.2.2.2.1 u6.1.1.1.2.2.2.2.2.2.2.2.2.2.1 u6.2.1 u6.2.2.1 u6.2.2.2.1 u6.2.2.2.2.1 u6.2.2.2.2.2.1 u6.2.2.2.2.2.2.1 u6.2.2.2.2.2.2.2.1 u6.2.2.2.2.2.2.2.2.1 []):=by
   refine OK.pure (lM hg.ok) ?_
   rw[AJ (by omega) (by omega)];refine OK.bind (B5 hc hi (by omega)) fun x i1 h1 y MI hq=> ?_
   have hwn:=wX hg.ok;grind[APX,ak,yL]
  refine OK.Qa (fun Hh=> ?_) (fun yS=>fin);refine OK.pure (D3 (by grind) (by omega)) ?_
  refine OK.cond (fun _=> ?_) (fun _=>fin);grind[AJ]
theorem AX0{T:Int}(hT:0≤T∧T≤500){dom:AAG}{c:Int}(hd:cR dom c):∀(n k:Nat) (i hh:Int) (b:AAG),Cb code i→k≤dom.length→dom.length-k+1010≤n→b.length≤k→
  OK code (fun x y=>Me (f_ x y)∧wg (f_ x y)∧bL (f_ x y)) (Ez n T k code i hh 0 0 false [] [] [] [] [] [] [] [] 0 0 false [] [] [] [] [] [] [] [] c dom b):=by
 have hdl:=hd.2.1;intro n
 induction n with
 |zero=>omega
 |succ n ih=>
  intro k i hh b hi hk hn hb;simp only[Ez,Rf];refine OK.Qa (fun Hh=> ?_) (fun yS=> ?_)
  ·refine OK.ite (by rw[Au];omega) ?_
   rw[AJ (by omega) (by omega),show((k:Int)+1)=((k+1:Nat):Int)by omega];exact ih (k+1) i hh _ hi (by omega) (by omega) (by simp_all)
  ·exact AVE hc hT (by omega) ⟨hd.1,hd.2.1,by omega,by omega,hd.2.2.2.2⟩ n c i hh hi ⟨hd.2.2.1,hd.2.2.2.1⟩ (by have:=hd.2.2.2.1;omega)
theorem AAP{T:Int}(hT:0≤T∧T≤500){i hh:Int}(hi:Cb code i):OK code (fun x y=>Me (f_ x y)∧wg (f_ x y)∧bL (f_ x y)) (Kq T code i hh):=by
 unfold Kq Ri;obtain⟨l,c,i1,h1,e,hg,MI⟩:=ef hc (h:=hh) hi;rw[e];have hgl:=hg.2.1;grind[AX0,Ac,Nat.le_of_lt,Ae]
end
end Go.M
end
