/- Plain facts on what the functions compute. -/
import Derived.Test.YtebiojjohcpanaaGreatG1
set_option linter.unusedVariables false
set_option linter.unusedSimpArgs false
set_option linter.unusedSectionVars false
section
namespace Go.M
theorem QD{A0 A1 A2:Type}(w:A0×A1×A2×Unit):(w.1,w.2.1,w.2.2.1,())=w:=rfl
theorem cu{A0 A1 A2 A3:Type}(w:A0×A1×A2×A3×Unit):(w.1,w.2.1,w.2.2.1,w.2.2.2.1,())=w:=rfl
theorem zy{A0 A1 A2 A3 A4:Type}(w:A0×A1×A2×A3×A4×Unit):(w.1,w.2.1,w.2.2.1,w.2.2.2.1,w.2.2.2.2.1,())=w:=rfl
theorem T5{A0 A1 A2 A3 A4 A5:Type}(w:A0×A1×A2×A3×A4×A5×Unit):(w.1,w.2.1,w.2.2.1,w.2.2.2.1,w.2.2.2.2.1,w.2.2.2.2.2.1,())=w:=rfl
theorem Gk{A0 A1 A2 A3 A4 A5 A6 A7 A8 A9 A10:Type}(w:A0×A1×A2×A3×A4×A5×A6×A7×A8×A9×A10×Unit):(w.1,w.2.1,w.2.2.1,w.2.2.2.1,w.2.2.2.2.1,w.2.2.2.2.2.1,w.2.2.2.2.2.2.1,w.2.2.2.2.2.2.2.1,w.2.2.2.2.2.2.2.2.1,w.2.2.2.2.2.2.2.2.2.1,w.2.2.2.2.2.2.2.2.2.2.1,())=w:=rfl
end Go.M
namespace Go.M
theorem AB{α:Type}(p:Prop)[Decidable p](a b:α):cond (decide p) a b=if p then a else b:=by
 simp_all
theorem AH{x:Int}(h1: -9223372036854775808<=x)(h2:x<9223372036854775808):AW x=x:=by
 grind[AW,IntKind.wrap,IntKind.bits,IntKind.signed]
theorem AIZ{n:Nat}(h:n<9223372036854775808):AW (n:Int)=n:=AH (by omega) (by omega)
theorem AD5(n:Nat):(BitVec.ofInt 64 (n:Int)).toNat=n%2^64:=by
 rfl
theorem rj{n:Nat}(h:n<2^63):IntKind.wrap .i64 (n:Int)=n:=AIZ (by omega)
theorem AFf{a b:Nat}(ha:a<2^63)(hb:b<2^63):eP .i64 a b=((a &&& b:Nat):Int):=by
 grind[eP,BitVec.ofInt,IntKind.bits,BitVec.toNat_and,AD5,Nat.mod_eq_of_lt,rj,Nat.lt_of_le_of_lt,Nat.and_le_left]
theorem Ac{n:Nat}(h:n<2^64):n<AZ:=AVS h gS
theorem Al{α:Type}{l:List α}{i:Nat}{d:α}(h:i<l.length):l.getD ((i:Int).toNat) d=l[i]:=by
 simp_all
theorem drop_cons{α:Type}{l:List α}{i:Nat}(h:i<l.length):l.drop i=l[i]::l.drop (i+1):=(List.getElem_cons_drop h).symm
theorem Ap:C_=68719476736:=rfl
end Go.M
end
section
set_option maxRecDepth 8000
namespace Go.M
def Bd(x a b:Int):Bool:=decide (a<=x/\x<=b)
theorem Be(x a b:Int):CU x a b=some ((Bd x a b,()),()):=by
 unfold CU Bd;grind
theorem A_(x a b:Int):BE x a b=some ((Bd x a b,()),()):=Be x a b
def GI(x:ABS):Bool:=Bd (x.1.length:Int) 1 8&&(Bd x.2.1 1 4&&x.1.all fun d=>Bd d 0 7)
theorem dp{l:AAB}{c:Int}(hl:l.length<=2^40):∀(n i:Nat),i<=l.length->l.length-i<n->Mf n i l c=some (((l.drop i).all fun d=>Bd d 0 7,()),())
 |0,i,_,h=>by omega
 |n+1,i,hi,h=>by
  simp only[Mf,Wv,AB];by_cases hc:i<l.length
  ·rw[AOJ (by omega),AOJ (by omega),Al hc,Be,AH (by omega) (by omega),drop_cons hc]
   simp only[AOv,AVl];cases hb:Bd l[i] 0 7 with
   |false=>simp
   |true=>
    simp only[AOx,AOk,APr];rw[show(((i:Nat):Int)+1)=((i+1:Nat):Int)by omega,dp hl n (i+1) (by omega) (by omega)]
  grind
theorem Hq{x:ABS}(hl:x.1.length<=2^40):Gp x=some ((GI x,()),()):=by
 unfold Gp W4 GI;simp only[Be,AOv];cases Bd (x.1.length:Int) 1 8 with
 |false=>simp
 |true=>
  cases Bd x.2.1 1 4 with
  |false=>simp
  |true=>
   grind[dp,AZ,Ac]
theorem da{l:AAB}{c:Int}(hl:l.length<=2^40):∀(n i:Nat),i<=l.length->l.length-i<n->
  MD n l l.length i l c=some ((((l.drop i).all fun d=>Bd d 0 7)&&(Bd (l.length:Int) 1 8&&Bd c 1 4),()),())
 |0,i,_,h=>by omega
 |n+1,i,hi,h=>by
  simp only[MD,Wm,AB];by_cases hc:i<l.length
  ·rw[AOJ (by omega),AOJ (by omega),Al hc,A_,AH (by omega) (by omega),drop_cons hc]
   simp only[AOv,AVl];cases hb:Bd l[i] 0 7 with
   |false=>simp
   |true=>
    simp only[AOx,AOk,APr];rw[show(((i:Nat):Int)+1)=((i+1:Nat):Int)by omega,da hl n (i+1) (by omega) (by omega)]
  ·rw[AOK (by omega)]
   have:i=l.length:=by omega
   subst this;simp only[A_,AOv,AWl,List.all_nil,APr];grind
theorem Mb{x:ABS}(hl:x.1.length<=2^40):FO x=some ((GI x,()),()):=by
 unfold FO Wq GI;have:=da (l:=x.1) (c:=x.2.1) hl AZ 0 (by omega) (Ac (by omega));grind
theorem D8{x:ABS}(h:GI x=true):1<=x.1.length/\x.1.length<=8/\1<=x.2.1/\x.2.1<=4/\ ∀d∈x.1,0<=d/\d<=7:=by
 simp only[GI,Bd,AOw,APo,AVk]at h;grind
def Bytes(b:AAB):Prop:= ∀c∈b,0<=c/\c<256
theorem wf_i64{c:Int}(h:(Go.Lit.int .i64 c).wf=true): -9223372036854775808<=c/\c<9223372036854775808:=by
 simp only[Go.Lit.wf,AOw,APo]at h;have h1:Go.IntKind.min .i64= -9223372036854775808:=rfl;simp_all;omega
abbrev Ev:Type:=Int×Int×List UInt8×Unit
abbrev Rdr:Type:=Int×Int×List Ev×Unit
def bp(x:Rdr):Bool:=Bd x.1 1 31&&(Bd x.2.1 1 61&&decide ((x.2.2.1.length:Int)<=120))
theorem P9(x:Rdr):Nx x=some ((bp x,()),()):=by
 grind[Nx,bp,Be,Bd]
theorem cC(x:Rdr):VK x=some ((bp x,()),()):=P9 x
def Cl(code:AAB)(i:Int):Prop:=0<=i/\i<=code.length
theorem ABg(x:Int):∃v:Int,eP .i64 x 255=v/\0<=v/\v<256:=by
 refine⟨_,rfl,?_⟩;grind[eP,BitVec.ofInt,Go.IntKind.bits,BitVec.toNat_and,Nat.lt_of_le_of_lt,Nat.and_le_right,rj]
section
variable{code:AAB} (hc:code.length<=2^30)
include hc
theorem bZ{i h:Int}(hi:Cl code i):∃v i' h',Mw code i h=some ((v,()),((code,i',h',()),()))/\0<=v/\v<256/\Cl code i':=by
 unfold Mw;simp only[AB];obtain⟨h0,h1⟩:=hi;split
 ·rename_i Ha
  rw[AOJ ⟨h0,Ha⟩,AH (x:=i+1) (by omega) (by omega)];obtain⟨v,e,v0,v1⟩:=ABg (AW (eP .i64 (ARb .i64 ((AW (AW (h*6364136223846793005)+1442695040888963407)).fdiv (2^33)) ((AW (AW (h*6364136223846793005)+1442695040888963407)).fdiv (2^45))) 255+AW (code.getD i.toNat 0)));exact⟨v,i+1,_,by rw[e],v0,v1,by omega,by omega⟩
 ·obtain⟨v,e,v0,v1⟩:=ABg (ARb .i64 ((AW (AW (h*6364136223846793005)+1442695040888963407)).fdiv (2^33)) ((AW (AW (h*6364136223846793005)+1442695040888963407)).fdiv (2^45)))
  exact⟨v,i,_,by rw[e],v0,v1,h0,h1⟩
theorem FL{i h n:Int}(hi:Cl code i)(hn:n<=2^40):∃v i' h',AK n code i h=some ((v,()),((code,i',h',()),()))/\0<=v/\(0<n->v<n)/\(n<=0->v=0)/\Cl code i':=by
 unfold AK;simp only[AB];split
 ·grind
 ·split
  ·obtain⟨v,i1,h1,e,v0,v1,MJ⟩:=bZ hc (h:=h) hi
   rw[e];simp only[AOv];rw[AOK (by omega),Int.tmod_eq_emod_of_nonneg v0];exact⟨_,i1,h1,rfl,Int.emod_nonneg _ (by omega),fun _=>Int.emod_lt_of_pos _ (by omega),by omega,MJ⟩
  ·obtain⟨v1,i1,h1,e1,a1,b1,MJ⟩:=bZ hc (h:=h) hi
   obtain⟨v2,i2,h2,e2,a2,b2,Ig⟩:=bZ hc (h:=h1) MJ;obtain⟨v3,i3,h3,e3,a3,b3,Lq⟩:=bZ hc (h:=h2) Ig;obtain⟨v4,i4,h4,e4,a4,b4,wk⟩:=bZ hc (h:=h3) Lq;rw[e1];simp only[AOv];rw[e2];simp only[AOv];rw[e3];simp only[AOv];rw[e4];simp only[AOv];rw[AH (x:=v1*16777216) (by omega) (by omega),AH (x:=v2*65536) (by omega) (by omega),AH (x:=v3*256) (by omega) (by omega),AH (x:=v1*16777216+v2*65536) (by omega) (by omega),
    AH (x:=v1*16777216+v2*65536+v3*256) (by omega) (by omega),AH (by omega) (by omega),AOK (by omega),Int.tmod_eq_emod_of_nonneg (by omega)]
   exact⟨_,i4,h4,rfl,Int.emod_nonneg _ (by omega),fun _=>Int.emod_lt_of_pos _ (by omega),by omega,wk⟩
theorem nF{i h n:Int}(hi:Cl code i)(hn:n<=2^40):∃v i' h',BL n code i h=some ((v,()),((code,i',h',()),()))/\Cl code i':=by
 unfold BL;obtain⟨v,i1,h1,e,_,_,_,MJ⟩:=FL hc (h:=h) hi hn;rw[e];exact⟨_,i1,h1,rfl,MJ⟩
theorem LS{i h:Int}{l:AAB}(hi:Cl code i)(hl:l≠[])(hn:l.length<=2^30):∃v i' h',CZ l code i h=some ((v,()),((code,i',h',()),()))/\v∈l/\Cl code i':=by
 unfold CZ;have hp:=AZ3.2 hl;obtain⟨v,i1,h1,e,v0,v1,_,MJ⟩:=FL hc (h:=h) (n:=l.length) hi (by omega);grind
omit hc in
theorem ABs{n:Nat}:∀(m i:Nat) (h:Int),i<=code.length->code.length-i<m-> ∃h',Q3 m code h i=some (((),()),((code,0,h',()),()))
 |0,_,_,_,h=>by omega
 |m+1,i,h,hi,hm=>by
  simp only[Q3,bw,AB];by_cases Ha:i<code.length
  ·rw[AOJ (by omega)]
   split
   ·rw[AOJ (by omega),AH (x:=(i:Int)+1) (by omega) (by omega),show((i:Int)+1)=((i+1:Nat):Int)by omega]
    exact ABs (n:=n) m (i+1) _ (by omega) (by omega)
   ·exact⟨_,rfl⟩
  ·rw[AOK (by omega)]
   exact⟨_,rfl⟩
theorem AGi:∃h',cx code=some (((),()),((code,0,h',()),())):=by
 unfold cx bg;exact ABs (n:=0) AZ 0 _ (by omega) (Ac (by omega))
def ct(l:AAB)(c:Int):Prop:=3<=l.length/\l.length<=7/\1<=c/\c<=3/\ ∀d∈l,0<=d/\d<=4
omit hc in
theorem ct.ok{l:AAB}{c:Int}(h:ct l c):GI (l,c,())=true:=by
 obtain⟨h1,h2,h3,h4,h5⟩:=h;simp only[GI,Bd,AOw,APo,AVk];exact⟨by omega,by omega,fun d hd=>by have:=h5 d hd;omega⟩
theorem iT{N:Nat}(hN:3<=N/\N<=7){c:Int}(h1:1<=c/\c<=3){x1:Int}{x2:AAB}:∀(n k:Nat) (i h:Int) (acc:AAB),Cl code i->k<=N->N-k<n->acc.length=k->(∀d∈acc,0<=d/\d<=4)->
  ∃l c' i' h',I9 n N k code i h x1 x2 c acc=some ((((),c',()),()),((code,i',h',()),l,()))/\ct l c'/\Cl code i'
 |0,_,_,_,_,_,_,h,_,_=>by omega
 |n+1,k,i,h,acc,hi,hk,hn,hacc,hd=>by
  simp only[I9,T4,AB];by_cases Ha:k<N
  ·rw[AOJ (by omega)]
   obtain⟨v,i1,h1',e,v0,v1,_,MJ⟩:=FL hc (h:=h) (n:=5) hi (by omega);rw[e];simp only[AOv];rw[AOJ (by rw[Ap];omega),AH (by omega) (by omega),show((k:Int)+1)=((k+1:Nat):Int)by omega];have:=v1 (by omega);exact iT hN h1 n (k+1) i1 h1' _ MJ (by omega) (by omega) (by simp[hacc]) (fun d hdd=>by
    grind)
  ·rw[AOK (by omega)]
   obtain⟨v,i1,h1',e,MJ⟩:=nF hc (h:=h) (n:=2) hi (by omega);rw[e];simp only[AOv];cases v
   ·exact⟨acc,c,i1,h1',rfl,⟨by omega,by omega,h1.1,h1.2,hd⟩,MJ⟩
   ·exact⟨acc,2,i1,h1',rfl,⟨by omega,by omega,by omega,by omega,hd⟩,MJ⟩
theorem fp{i h:Int}(hi:Cl code i):∃l c' i' h',Mn code i h=some ((((),c',()),()),((code,i',h',()),l,()))/\ct l c'/\Cl code i':=by
 unfold Mn TB;obtain⟨v,i1,h1,e1,a1,b1,_,MJ⟩:=FL hc (h:=h) (n:=3) hi (by omega);rw[e1];simp only[AOv];obtain⟨w,i2,h2,e2,a2,b2,_,Ig⟩:=FL hc (h:=h1) (n:=5) MJ (by omega);rw[e2];simp only[AOv];have:=b1 (by omega);have:=b2 (by omega);rw[AH (by omega) (by omega),AH (by omega) (by omega)];obtain⟨N,hN⟩:∃N:Nat,3+w=(N:Int):=⟨(3+w).toNat,by omega⟩;rw[hN];exact iT hc (by omega) (by omega) AZ 0 i2 h2 [] Ig (by omega) (Ac (by omega)) rfl (by simp)
theorem AC4{i h:Int}(hi:Cl code i):∃l c' i' h',Sa code i h=some ((((),c',()),()),((code,i',h',()),l,()))/\l.length<=9/\Cl code i':=by
 unfold Sa;obtain⟨l,c,i1,h1,e1,hg,MJ⟩:=fp hc (h:=h) hi;rw[e1];simp only[AOv];obtain⟨v,i2,h2,e2,a2,b2,_,Ig⟩:=FL hc (h:=h1) (n:=20) MJ (by omega);rw[e2];simp only[AOv];obtain⟨g1,g2,g3,g4,g5⟩:=hg;cases v==0 with
 |true=>
  simp only[APm];obtain⟨p,i3,h3,e3,hp,Lq⟩:=LS hc (h:=h2) (l:=[0,4,5]) Ig (by simp) (by simp);grind
 |false=>
  simp only[AOk];cases v==1 with
  |true=>
   simp only[APm];obtain⟨p,i3,h3,e3,hp,Lq⟩:=LS hc (h:=h2) (l:=[-1,7,8]) Ig (by simp) (by simp);grind
  |false=>
   simp only[AOk];cases v==2 with
   |true=>
    simp only[APm];obtain⟨p,i3,h3,e3,hp,Lq⟩:=LS hc (h:=h2) (l:=[0,8,9]) Ig (by simp) (by simp);rw[e3];simp only[AOv];simp at hp;rw[AOJ (by rw[Ap];omega)];grind
   |false=>grind
end
end Go.M
end
section
namespace Go.M.H
open Go.M
def AS{α:Type}(f:α->Nat):List α->Nat
 |[]=>0
 |x::l=>1+f x+AS f l
theorem AU{α:Type}{f:α->Nat}:∀{l:List α},l.length<=AS f l
 |[]=>ATX _
 |x::l=>by
  have:=AU (f:=f) (l:=l);grind[AS,List.length_cons]
theorem AY{α:Type}{f:α->Nat}{x:α}:∀{l:List α},x∈l->f x<=AS f l
 |y::l,h=>by
  simp only[AS];rcases ASY.1 h with rfl|h
  ·omega
  ·have:=AY (f:=f) h
   omega
abbrev AXR:Type:=List Int
abbrev C8(x:AXR):Nat:=x.length
abbrev AJ:Type:=Int×Int×Bool×List UInt8×Unit
abbrev vP:Go.Fw.Ty:= .cons (.int .i64) (.cons (.int .i64) (.cons .bool (.cons .str (.unit))))
def Ah(x:AJ):Nat:=x.2.2.2.1.length
abbrev AO:Type:=List AJ×List AJ×Int×Unit
abbrev AJX:Go.Fw.Ty:= .cons (.sl vP) (.cons (.sl vP) (.cons (.int .i64) (.unit)))
def Aj(x:AO):Nat:=AS Ah x.1+AS Ah x.2.1
abbrev CW:Type:=List Int×Bool×Int×Unit
abbrev yu:Go.Fw.Ty:= .cons (.sl (.int .i64)) (.cons .bool (.cons (.int .i64) (.unit)))
def Bk(x:CW):Nat:=x.1.length
abbrev AN:Type:=List CW×Int×Unit
abbrev BD:Type:=List UInt8×List Int×Bool×Unit
abbrev qx:Go.Fw.Ty:= .cons .str (.cons (.sl (.int .i64)) (.cons .bool (.unit)))
def Az(x:BD):Nat:=x.1.length+x.2.1.length
abbrev AR:Type:=Int×List BD×Unit
abbrev f_:Go.Fw.Ty:= .cons (.int .i64) (.cons (.sl qx) (.unit))
def Aq(x:AR):Nat:=AS Az x.2.1
abbrev Av:Type:=Int×Int×List Int×List AJ×Bool×List AAB×Unit
abbrev AUa:Go.Fw.Ty:= .cons (.int .i64) (.cons (.int .i64) (.cons (.sl (.int .i64)) (.cons (.sl vP) (.cons .bool (.cons (.sl (.sl (.int .i64))) (.unit))))))
def CK(x:Av):Nat:=x.2.2.1.length+AS Ah x.2.2.2.1+AS C8 x.2.2.2.2.2.1
abbrev BU:Type:=Int×Int×List UInt8×Unit
abbrev AIF:Go.Fw.Ty:= .cons (.int .i64) (.cons (.int .i64) (.cons .str (.unit)))
def CL(x:BU):Nat:=x.2.2.1.length
abbrev Ag:Type:=Int×Int×List BU×Unit
abbrev AGE:Go.Fw.Ty:= .cons (.int .i64) (.cons (.int .i64) (.cons (.sl AIF) (.unit)))
def Ak(x:Ag):Nat:=AS CL x.2.2.1
abbrev BA:Type:=Int×Bool×Int×Int×Bool×List UInt8×Unit
abbrev Af:Type:=Int×List UInt8×Bool×Unit
abbrev ATa:Go.Fw.Ty:= .cons (.int .i64) (.cons .str (.cons .bool (.unit)))
def D9(x:Af):Nat:=x.2.1.length
abbrev AA:Type:=List Int×Int×List AO×List Int×List CW×Int×List AR×List Av×List Ag×List Af×Bool×Unit
abbrev lO:Go.Fw.Ty:= .cons (.sl (.int .i64)) (.cons (.int .i64) (.cons (.sl AJX) (.cons (.sl (.int .i64)) (.cons (.sl yu) (.cons (.int .i64) (.cons (.sl f_) (.cons (.sl AUa) (.cons (.sl AGE) (.cons (.sl ATa) (.cons .bool (.unit)))))))))))
def Cn(x:AA):Nat:=x.1.length+AS Aj x.2.2.1+x.2.2.2.1.length+AS Bk x.2.2.2.2.1+AS Aq x.2.2.2.2.2.2.1+AS CK x.2.2.2.2.2.2.2.1+AS Ak x.2.2.2.2.2.2.2.2.1+AS D9 x.2.2.2.2.2.2.2.2.2.1
abbrev Ao:Type:=Int×Int×Int×Int×List UInt8×Unit
end Go.M.H
end
section
set_option maxRecDepth 8000
namespace Go.M
open Go.M.H (AA AJ AN AO AR AS AU AY Af Ag Ah Aj Ak Aq Av Az BD BU Bk C8 CK CL CW Cn D9 f_ lO qx yu)
def E4(p:Nat->Bool)(i:Nat):Nat->Bool
 |0=>true
 |d+1=>p i&&E4 p (i+1) d
theorem GZ{L:Nat->Int->Option (ABi×Unit)}{len:Nat}{p:Nat->Bool}{fin:Bool}(h1:∀n (i:Nat),i<len->L (n+1) i=cond (p i) (L n ((i+1:Nat):Int)) (some ((false,()),())))(h2:∀n,L (n+1) (len:Int)=some ((fin,()),())):
  ∀d n i,i+d=len->d<n->L n i=some ((E4 p i d&&fin,()),())
 |0,n,i,hd,h=>by
  obtain⟨m,rfl⟩:∃m,n=m+1:=⟨n-1,by omega⟩;have:i=len:=by omega
  subst this;rw[h2];rfl
 |d+1,n,i,hd,h=>by
  obtain⟨m,rfl⟩:∃m,n=m+1:=⟨n-1,by omega⟩;rw[h1 m i (by omega)];simp only[E4];cases p i with
  |false=>rfl
  |true=>rw[APm,GZ h1 h2 d m (i+1) (by omega) (by omega)];rfl
theorem Tw{p:Nat->Bool}:∀{d i:Nat},E4 p i d=true-> ∀j,i<=j->j<i+d->p j=true
 |0,i,_,j,h1,h2=>by omega
 |d+1,i,h,j,h1,h2=>by
  simp only[E4,AOw]at h;by_cases hj:j=i
  ·simp_all
  ·exact Tw h.2 j (by omega) (by omega)
theorem qY{p:Nat->Bool}:∀{d i:Nat},(∀j,i<=j->j<i+d->p j=true)->E4 p i d=true
 |0,_,_=>rfl
 |d+1,i,h=>by
  simp only[E4,AOw];exact⟨h i (by omega) (by omega),qY fun j h1 h2=>h j (by omega) (by omega)⟩
def Yp(x:Int):Int:=x.tdiv 4294967296
def Bp(x:Int):Bool:=Bd (Yp x) 1 30&&Bd (x.tmod 4294967296) 1 60
def Ar(x:Int):Int:=if Bp x then Yp x else 0
theorem kN{x:Int}(h: -9223372036854775808<=x/\x<9223372036854775808):AW (x.tdiv 4294967296)=Yp x:=by
 grind[Yp,AH,Int.lt_or_le,Int.neg_tdiv,Int.tdiv_eq_ediv_of_nonneg]
theorem ef{x:Int}(h:Bp x=true):0<x/\x<2^40:=by
 simp only[Bp,Bd,AOw,APo]at h;grind[Yp,Int.lt_or_le,Int.neg_tdiv,Int.tdiv_eq_ediv_of_nonneg,Int.tmod_eq_emod_of_nonneg]
def CB(x:Int):Prop:= -9223372036854775808<=x/\x<9223372036854775808
theorem Ix{x:Int}(h:CB x):H4 x=some ((Bp x,()),()):=by
 unfold H4;rw[kN h,AB];split
 ·grind[Be,Bp,Bd,Yp]
 ·rename_i h0
  rcases AOB (Bp x)with hp|hp
  ·exact absurd (ef hp).1 (by omega)
  ·rw[hp]
theorem Q9{x:Int}(h:CB x):EJ x=some ((Bp x,()),()):=by
 unfold EJ H0 X1;rw[kN h];grind[A_,Bp,Bd,Yp]
theorem EW{x:Int}(h:CB x):C1 x=some ((Ar x,()),()):=by
 unfold C1 Ar;rw[Ix h,kN h];grind
theorem FP{x:Int}(h:CB x):FW x=some ((Ar x,()),()):=by
 unfold FW Ar;rw[Q9 h,kN h];grind
theorem iD{x:Int}:(Bp x=true->1<=Ar x/\Ar x<=30)/\(Bp x=false->Ar x=0):=by
 constructor
 ·intro h
  rw[Ar,AOJ h];simp only[Bp,Bd,AOw,APo]at h;omega
 grind[Ar]
def vQ(l:AAB)(hi:Int)(i:Nat):Bool:=Bd (l.getD i 0) 0 hi&&(i==0||decide (l.getD (i-1) 0<l.getD i 0))
def sS(l:AAB)(hi:Int):Bool:=E4 (vQ l hi) 0 l.length
theorem iM{l:AAB}{hi:Int}(hl:l.length<=2^40):X2 l 0 hi=some ((sS l hi,()),()):=by
 unfold X2 bP sS;rw[<-AVm (E4 _ _ _)];refine GZ (L:=fun n i=>N8 n l 0 hi i) (len:=l.length) (p:=vQ l hi) (fin:=true) (fun n i Du=> ?_) (fun n=> ?_) l.length AZ 0 (by omega) (Ac (by omega))
 ·simp only[N8,Ue,AB]
  rw[AOJ (by omega),AOJ (by omega),Be,AH (x:=(i:Int)+1) (by omega) (by omega)];simp only[AOv,AO2,vQ];cases Bd (l.getD i 0) 0 hi with
  |false=>rfl
  |true=>
   simp only[AOx,AOk,APr];by_cases h0:i=0
   ·simp_all
   ·rw[AOJ (by omega),AH (by omega) (by omega),AOJ (by omega),AOJ (by omega)]
    have h1:((i:Int)-1).toNat=i-1:=by omega
    have h2:(i==0)=false:=by simp_all
    rw[h1,h2,AVP];grind
 ·simp only[N8,Ue,AB]
  simp_all
theorem pZ{l:AAB}{hi:Int}(hl:l.length<=2^40):Xg l hi=some ((sS l hi,()),()):=by
 unfold Xg X9 sS;rw[<-AVm (E4 _ _ _)];refine GZ (L:=fun n i=>Kd n l hi l l.length i) (len:=l.length) (p:=vQ l hi) (fin:=true) (fun n i Du=> ?_) (fun n=> ?_) l.length AZ 0 (by omega) (Ac (by omega))
 ·simp only[Kd,Rr,AB]
  rw[AOJ (by omega),AOJ (by omega),A_,AH (x:=(i:Int)+1) (by omega) (by omega)];simp only[AOv,AO2,vQ];cases Bd (l.getD i 0) 0 hi with
  |false=>rfl
  |true=>
   simp only[AOx,AOk,APr];by_cases h0:i=0
   ·simp_all
   ·rw[AOJ (by omega),AH (by omega) (by omega),AOJ (by omega)]
    have h1:((i:Int)-1).toNat=i-1:=by omega
    have h2:(i==0)=false:=by simp_all
    rw[h1,h2,AVP];grind
 ·simp only[Kd,Rr,AB]
  simp_all
theorem xZ{l:AAB}{hi:Int}(h:sS l hi=true):∀x∈l,0<=x/\x<=hi:=fun x hx=>by
 obtain⟨i,Du,rfl⟩:=AVO hx;have:=Tw h i (by omega) (by omega);simp only[vQ,Bd,AOw,APo]at this;simp_all
theorem ABa{l:AAB}{hi:Int}(h:sS l hi=true):∀i,i<l.length->(i:Int)<=l.getD i 0
 |0,hl=>by
  have:=Tw h 0 (by omega) (by omega);simp only[vQ,Bd,AOw,APo]at this;omega
 |i+1,hl=>by
  have h1:=ABa h i (by omega);have:=Tw h (i+1) (by omega) (by omega);simp only[vQ,AOw,AVX,APo]at this;grind
theorem AEl{l:AAB}{hi:Int}(h:sS l hi=true)(h0:0<=hi+1):(l.length:Int)<=hi+1:=by
 by_cases hl:l.length=0
 ·omega
 ·have h1:=ABa h (l.length-1) (by omega)
  have h2:=xZ h (l.getD (l.length-1) 0) (by
   grind)
  omega
def BH(c:ABS)(l:AAB):Bool:=GI c&&sS l ((c.1.length:Int)-1)
theorem HQ{c:ABS}{l:AAB}(hc:c.1.length<=2^40)(hl:l.length<=2^40):G4 c l=some ((BH c l,()),()):=by
 unfold G4 BH;rw[show(c.1,c.2.1,())=c from rfl,Hq hc,AH (by omega) (by omega)];simp only[AOv];cases GI c with
 |false=>rfl
 |true=>
  rw[APm,iM hl];rfl
theorem EU{c:ABS}{l:AAB}(hc:c.1.length<=2^40)(hl:l.length<=2^40):EM c l=some ((BH c l,()),()):=by
 unfold EM BH;rw[show(c.1,c.2.1,())=c from rfl,Mb hc,AH (by omega) (by omega)];simp only[AOv];cases GI c with
 |false=>rfl
 |true=>
  rw[APm,pZ hl];rfl
theorem dL{c:ABS}{l:AAB}(h:BH c l=true):GI c=true/\c.1.length<=8/\l.length<=8/\(∀x∈l,0<=x/\x<c.1.length)/\ ∀d∈c.1,0<=d/\d<=7:=by
 simp only[BH,AOw]at h;obtain⟨k1,k2,k3,k4,k5⟩:=D8 h.1;have h1:=AEl h.2 (by omega);exact⟨h.1,k2,by omega,fun x hx=>by have:=xZ h.2 x hx;omega,k5⟩
theorem AB2{l:AAB}{x:Int}(hl:l.length<=2^40):∀(n i:Nat),i<=l.length->l.length-i<n->(∀y∈l.take i,y≠x)->
  ∃r:Int,Gf n l x l.length i=some ((r,()),())/\decide (r>=0)=l.contains x
 |0,_,_,h,_=>by omega
 |n+1,i,hi,h,hx=>by
  simp only[Gf,PA,AB];by_cases hc:i<l.length
  ·rw[AOJ (by omega),AOJ (by omega),Al hc,AH (by omega) (by omega)]
   by_cases he:x=l[i]
   ·simp_all
   ·obtain⟨r,e1,e2⟩:=AB2 hl n (i+1) (by omega) (by omega) (fun y hy=>by
     rw[AVa hc]at hy;rcases ARh.1 hy with hy|hy
     ·exact hx y hy
     grind)
    grind
  ·rw[AOK (by omega)]
   grind
theorem JT{l:AAB}{x:Int}(hl:l.length<=2^40):Bv l x=some ((l.contains x,()),()):=by
 unfold Bv PC O5;obtain⟨r,e1,e2⟩:=AB2 (x:=x) hl AZ 0 (by omega) (Ac (by omega)) (by simp);simp_all
def ky(c:AAB):List Int->List Int->List Int
 |[],acc=>acc
 |n::l,acc=>ky c l (if acc.contains (c.getD n.toNat 0)then acc else acc++[c.getD n.toNat 0])
def cO(c:AAB)(l:AAB):Nat:=(ky c l []).length
theorem ak{c:AAB}{q:Int}{l:AAB}(hl:l.length<=8)(hm:∀x∈l,0<=x/\x<c.length):∀(n i:Nat) (acc:AAB),i<=l.length->l.length-i<n->acc.length<=i->
  O6 n l l.length i c q acc=some ((((ky c (l.drop i) acc).length:Int),()),())
 |0,i,_,_,h,_=>by omega
 |n+1,i,acc,hi,h,ha=>by
  simp only[O6,Zc,AB];by_cases hc:i<l.length
  ·have hx:=hm _ (AO7 hc)
   rw[AOJ (by omega),AOJ (by omega),Al hc,drop_cons hc]
   generalize l[i]=x at hx
   rw[AOJ (by omega),JT (by omega),AH (by omega) (by omega),show((i:Int)+1)=((i+1:Nat):Int)by omega];simp only[AOv,ky];cases AWu:acc.contains (c.getD x.toNat 0)with
   |true=>
    simp only[AOx,AOk,AVR];exact ak hl hm n (i+1) acc (by omega) (by omega) (by omega)
   |false=>
    simp only[AVN,APm,AO5,ATF];rw[AOJ (by omega),AOJ (by rw[Ap];omega)];exact ak hl hm n (i+1) _ (by omega) (by omega) (by simp_all)
  ·rw[AOK (by omega)]
   grind[ky]
theorem sH{c:ABS}{l:AAB}(hc:c.1.length<=2^40)(hl:l.length<=2^40):Zk c l=some ((if BH c l then(cO c.1 l:Int)else-1,()),()):=by
 unfold Zk Za;rw[show(c.1,c.2.1,())=c from rfl,EU hc hl];simp only[AOv];cases h:BH c l with
 |false=>rfl
 |true=>
  obtain⟨k1,k2,k3,k4,k5⟩:=dL h;grind[ak,AZ,Ac,cO]
theorem AAy{s:List Bool}{k j:Nat}{b:Bool}(h:k<s.length):(s.set k b).getD j false=if k=j then b else s.getD j false:=by
 grind
theorem al{c:AAB}{q:Int}{l:AAB}(hl:l.length<=8)(hd:∀d∈c,0<=d/\d<=7)(hm:∀x∈l,0<=x/\x<c.length):∀(n i:Nat) (acc:AAB) (s:List Bool),i<=l.length->l.length-i<n->acc.length<=i->s.length=8->
  (∀j:Nat,j<8->s.getD j false=acc.contains (j:Int))->
  O_ n l acc.length i c q s=some ((((ky c (l.drop i) acc).length:Int),()),())
 |0,i,_,_,_,h,_,_,_=>by omega
 |n+1,i,acc,s,hi,h,ha,hs,hj=>by
  simp only[O_,aF,AB];by_cases hc:i<l.length
  ·have hx:=hm _ (AO7 hc)
   rw[AOJ (by omega),AOJ (by omega),Al hc,drop_cons hc]
   generalize l[i]=x at hx
   rw[AOJ (by omega)];have AcM:0<=c.getD x.toNat 0/\c.getD x.toNat 0<=7:=by
    simp_all
   simp only[ky]
   generalize c.getD x.toNat 0=d at AcM
   rw[AOJ (by omega),AH (x:=(i:Int)+1) (by omega) (by omega),show((i:Int)+1)=((i+1:Nat):Int)by omega];have hsd:s.getD d.toNat false=acc.contains d:=by
    grind
   rw[hsd];cases AWu:acc.contains d with
   |true=>
    simp only[AOx,AOk,AVR];exact al hl hd hm n (i+1) acc s (by omega) (by omega) (by omega) hs hj
   |false=>
    simp only[AVN,APm,AO5,ATF];rw[AOJ (by omega),AH (by omega) (by omega)];have:=al (q:=q) hl hd hm n (i+1) (acc++[d]) (s.set d.toNat true) (by omega) (by omega) (by simp_all) (by simp_all) (fun j hj8=>by
     rw[AAy (by omega),hj j hj8];grind)
    simp_all
  ·rw[AOK (by omega)]
   grind[ky]
theorem fI{c:ABS}{l:AAB}(h:BH c l=true):V5 c l=some (((cO c.1 l:Int),()),()):=by
 obtain⟨k1,k2,k3,k4,k5⟩:=dL h;unfold V5 Zd;have:=al (c:=c.1) (q:=c.2.1) k3 k5 k4 AZ 0 [] (List.replicate 8 false) (by omega) (Ac (by omega)) (by simp) (by simp) (fun j hj=>by
  grind)
 grind[cO]
def holds(c:ABS)(l:AAB):Bool:=BH c l&&decide ((cO c.1 l:Int)>=c.2.1)
theorem EC{c:ABS}{l:AAB}(hc:c.1.length<=2^40)(hl:l.length<=2^40):FD c l=some ((holds c l,()),()):=by
 unfold FD holds;rw[show(c.1,c.2.1,())=c from rfl,HQ hc hl];simp only[AOv];cases h:BH c l with
 |false=>rfl
 |true=>
  rw[APm,fI h];rfl
theorem Gq{c:ABS}{l:AAB}(hc:c.1.length<=2^40)(hl:l.length<=2^40):Gz c l=some ((holds c l,()),()):=by
 unfold Gz holds;rw[show(c.1,c.2.1,())=c from rfl,EU hc hl,sH hc hl];simp only[AOv];cases h:BH c l<;>rfl
theorem V1{c:ABS}{l:AAB}(h:holds c l=true):BH c l=true:=by
 simp only[holds,AOw]at h;exact h.1
abbrev CG:Type:=List Int×Int×Unit
def GB:CW:=([],false,0,())
def ri(c:CG)(e:CW):Bool:=holds c e.1&&(Bd e.2.2.1 0 60&&(e.2.1||e.2.2.1==0))
theorem tG{c:CG}{e:CW}(hc:c.1.length<=2^40)(hl:e.1.length<=2^40):cz c e=some ((ri c e,()),()):=by
 unfold cz ri;rw[show(c.1,c.2.1,())=c from rfl,Gq hc hl];grind[A_,holds,Bd]
def wM(c:CG)(l:List CW)(i:Nat):Bool:=
 ri c (l.getD i GB)&& !((l.getD i GB).2.1&&(decide (i+1=l.length)||(decide (0<i)&& !(l.getD (i-1) GB).2.1)))
def ix(r:AN):Bool:=r.2.1==0||(Bp r.2.1&&decide (Ar r.2.1<=r.1.length))
def Pp(c:CG)(r:AN):Bool:=GI c&&(decide (r.1.length<=30)&&(ix r&&E4 (wM c r.1) 0 r.1.length))
theorem Bm{α:Type}{l:List α}{i:Nat}{d:α}(h:i<l.length):l.getD i d∈l:=by
 simp_all
theorem pq{c:CG}{l:List CW}{tr:Int}(hc:c.1.length<=2^40)(hl:AS Bk l<=2^30):Lb AZ l.length 0 c.1 c.2.1 l tr=some ((E4 (wM c l) 0 l.length,()),()):=by
 have zG:=AU (f:=Bk) (l:=l);rw[<-AVm (E4 _ _ _)];refine GZ (L:=fun n i=>Lb n l.length i c.1 c.2.1 l tr) (len:=l.length) (p:=wM c l) (fin:=true) (fun n i hi=> ?_) (fun n=> ?_) l.length AZ 0 (by omega) (Ac (by omega))
 ·have hm:=AY (f:=Bk) (Bm (d:=GB) hi)
  simp only[Bk]at hm;simp only[Lb,U3,AB];rw[AOJ (by omega),AOJ (by omega),show(c.1,c.2.1,())=c from rfl,AO2,show(([],false,0,()):CW)=GB from rfl,EC hc (by omega),Be,AH (x:=(i:Int)+1) (by omega) (by omega),
   AH (x:=(l.length:Int)-1) (by omega) (by omega),AH (x:=(i:Int)-1) (by omega) (by omega),show((i:Int)+1)=((i+1:Nat):Int)by omega]
  simp only[AOv,wM,ri];have e1:((i:Int)==(l.length:Int)-1)=decide (i+1=l.length):=by
   grind
  have e2:(((i:Int)-1).toNat)=i-1:=by omega
  grind
 ·simp only[Lb,U3,AB]
  simp_all
theorem Qy{c:CG}{r:AN}(hc:c.1.length<=2^40)(hl:AS Bk r.1<=2^30)(ht:CB r.2.1):NS c r=some ((Pp c r,()),()):=by
 unfold NS cA Pp ix;rw[show(c.1,c.2.1,())=c from rfl,Hq hc,pq hc hl,Ix ht,EW ht];grind
theorem N4{c:CG}{r:AN}(hc:c.1.length<=2^40)(hl:AS Bk r.1<=2^30)(ht:CB r.2.1):Ll c r=some ((Pp c r,()),()):=by
 have zG:=AU (f:=Bk) (l:=r.1);have AFJ:Lg AZ r.1 r.1.length 0 c.1 c.2.1 r.1 r.2.1=some ((E4 (wM c r.1) 0 r.1.length&&(GI c&&(decide (r.1.length<=30)&&ix r)),()),()):=by
  refine GZ (L:=fun n i=>Lg n r.1 r.1.length i c.1 c.2.1 r.1 r.2.1) (len:=r.1.length) (p:=wM c r.1) (fin:=GI c&&(decide (r.1.length<=30)&&ix r)) (fun n i hi=> ?_) (fun n=> ?_) r.1.length AZ 0 (by omega) (Ac (by omega))
  ·have hm:=AY (f:=Bk) (Bm (d:=GB) hi)
   simp only[Bk]at hm;simp only[Lg,U4,AB];rw[AOJ (by omega),AOJ (by omega),show(c.1,c.2.1,())=c from rfl,AO2,show(([],false,0,()):CW)=GB from rfl];rw[show((r.1.getD i GB).1,(r.1.getD i GB).2.1,(r.1.getD i GB).2.2.1,())=r.1.getD i GB from rfl,tG hc (by omega),AH (x:=(i:Int)+1) (by omega) (by omega),
    AH (x:=(r.1.length:Int)-1) (by omega) (by omega),AH (x:=(i:Int)-1) (by omega) (by omega),show((i:Int)+1)=((i+1:Nat):Int)by omega]
   simp only[AOv,wM];have e1:((i:Int)==(r.1.length:Int)-1)=decide (i+1=r.1.length):=by
    grind
   have e2:(((i:Int)-1).toNat)=i-1:=by omega
   grind
  ·simp only[Lg,U4]
   rw[show decide ((r.1.length:Int)<(r.1.length:Int))=false by simp,show(c.1,c.2.1,())=c from rfl,Mb hc,FP ht];simp only[AOk,AOv,A_,ix];have e1:decide ((r.1.length:Int)<=30)=decide (r.1.length<=30):=by
    grind
   rw[e1];have e4:Bd (Ar r.2.1) 1 (r.1.length:Int)=(Bp r.2.1&&decide (Ar r.2.1<=(r.1.length:Int))):=by
    have hr:=iD (x:=r.2.1);unfold Bd;grind
   grind
 grind[Ll,bm,Pp,GI,decide,ix,E4,wM]
def AEk(b:Bool):Int:=if b then 1 else 0
theorem pT(b:Bool):cW b=some ((AEk b,()),()):=by cases b<;>rfl
def MB:BD:=([],[],false,())
def XN(c:CG)(e:BD):Bool:=decide (e.1.length<=40)&&(BH c e.2.1&&(e.2.2.1==holds c e.2.1))
def SZ:List BD->Nat
 |[]=>0
 |e::l=>cond e.2.2.1 0 1+SZ l
def le6(n:Nat):Bool:=decide (n<=6)
theorem AB6(o:Nat):decide ((o:Int)<=6)=le6 o:=by
 grind[le6]
def EX(c:CG)(w:AR):Bool:=GI c&&(Bd w.1 1 30&&(decide (w.2.1.length<=60)&&(w.2.1.all (XN c)&&le6 (SZ w.2.1))))
theorem dj{c:CG}{ep:Int}{l:List BD}(hc:c.1.length<=2^40)(hl:AS Az l<=2^30):∀(n i o:Nat),i<=l.length->l.length-i<n->o<=i->
  L_ n o i c.1 c.2.1 ep l=some (((l.drop i).all (XN c)&&le6 (o+SZ (l.drop i)),()),())
 |0,i,_,_,h,_=>by omega
 |n+1,i,o,hi,h,ho=>by
  have zG:=AU (f:=Az) (l:=l);simp only[L_,XC,AB];by_cases vf:i<l.length
  ·have hm:=AY (f:=Az) (AO7 vf)
   rw[AOJ (by omega),AOJ (by omega),Al vf,drop_cons vf];have ih:=fun o=>dj (ep:=ep) hc hl n (i+1) o (by omega) (by omega)
   generalize l[i]=e at hm
   simp only[Az]at hm;rw[show(c.1,c.2.1,())=c from rfl,HQ hc (by omega),EC hc (by omega),AH (x:=(i:Int)+1) (by omega) (by omega),AH (x:=(o:Int)+1) (by omega) (by omega),show((i:Int)+1)=((i+1:Nat):Int)by omega,show((o:Int)+1)=((o+1:Nat):Int)by omega];simp only[AOv,AVl,XN,SZ];by_cases h40:e.1.length<=40
   ·rw[AOK (by omega),AVH h40,ih o (by omega),ih (o+1) (by omega)]
    cases BH c e.2.1 with
    |false=>rfl
    |true=>
     cases hd:e.2.2.1 with
     |true=>
      grind
     |false=>
      grind
   grind
  ·rw[AOK (by omega)]
   grind[SZ,AB6]
theorem Gg{c:CG}{w:AR}(hc:c.1.length<=2^40)(hl:AS Az w.2.1<=2^30):H6 c w=some ((EX c w,()),()):=by
 have zG:=AU (f:=Az) (l:=w.2.1);unfold H6 Wb EX;have h:=dj (ep:=w.1) hc hl AZ 0 0 (by omega) (Ac (by omega)) (by omega);rw[show((0:Nat):Int)=0 from rfl]at h;rw[show(c.1,c.2.1,())=c from rfl,Hq hc,Be,h];grind
theorem dR{c:CG}{ep:Int}{l:List BD}(hc:c.1.length<=2^40)(hl:AS Az l<=2^30):∀(n i o:Nat),i<=l.length->l.length-i<n->o<=i->
  MW n o l l.length i c.1 c.2.1 ep l=some (((l.drop i).all (XN c)&&(GI c&&(Bd ep 1 30&&(decide (l.length<=60)&&le6 (o+SZ (l.drop i))))),()),())
 |0,i,_,_,h,_=>by omega
 |n+1,i,o,hi,h,ho=>by
  have zG:=AU (f:=Az) (l:=l);simp only[MW,W6];by_cases vf:i<l.length
  ·have hm:=AY (f:=Az) (AO7 vf)
   rw[show decide ((i:Int)<(l.length:Int))=true by simp_all,APm,AOJ (by omega),Al vf,drop_cons vf];have ih:=fun o=>dR (ep:=ep) hc hl n (i+1) o (by omega) (by omega)
   generalize l[i]=e at hm
   simp only[Az]at hm;rw[show(c.1,c.2.1,())=c from rfl,EU hc (by omega),Gq hc (by omega),pT,AH (x:=(i:Int)+1) (by omega) (by omega),show((i:Int)+1)=((i+1:Nat):Int)by omega];simp only[AOv,AVl,XN,SZ,GR];have e40:decide ((e.1.length:Int)<=40)=decide (e.1.length<=40):=by
    grind
   rw[e40];cases hd:e.2.2.1 with
   |true=>
    rw[show AW ((o:Int)+AEk (!true))=(o:Int)by rw[AOx,show AEk false=0 from rfl,Int.add_zero,AH (by omega) (by omega)],ih o (by omega)];grind
   |false=>
    rw[show AW ((o:Int)+AEk (!false))=((o+1:Nat):Int)by rw[AVN,show AEk true=1 from rfl,AH (by omega) (by omega)];omega,ih (o+1) (by omega)];grind
  ·have:i=l.length:=by omega
   subst this;rw[show decide (((l.length:Nat):Int)<(l.length:Int))=false by simp,show(c.1,c.2.1,())=c from rfl,Mb hc];simp only[AOk,AOv,H0,A_,AWl,List.all_nil,SZ,AW4,APr];grind[decide,AB6,GI,Bd]
theorem Jm{c:CG}{w:AR}(hc:c.1.length<=2^40)(hl:AS Az w.2.1<=2^30):Gv c w=some ((EX c w,()),()):=by
 have zG:=AU (f:=Az) (l:=w.2.1);unfold Gv W_ EX;have h:=dR (ep:=w.1) hc hl AZ 0 0 (by omega) (Ac (by omega)) (by omega);grind
theorem bE{c:CG}{w:AR}(h:EX c w=true):GI c=true/\(1<=w.1/\w.1<=30)/\w.2.1.length<=60/\ ∀e∈w.2.1,XN c e=true:=by
 simp only[EX,Bd,AOw,APo,AVk]at h;simp_all
theorem kt{c:CG}{e:BD}(h:XN c e=true):e.1.length<=40/\e.2.1.length<=8/\(∀x∈e.2.1,0<=x/\x<8)/\e.2.2.1=holds c e.2.1:=by
 simp only[XN,AOw,APo,AVi]at h;obtain⟨k1,k2,k3,k4,k5⟩:=dL h.2.1;grind
theorem AMW(a b:Int):decide (a<=b)= !decide (b<a):=by
 grind
theorem AWf(n k:Nat):decide ((n:Int)<=(k:Int))=decide (n<=k):=by
 simp_all
theorem ABo(n k:Nat):decide ((n:Int)>(k:Int))= !decide (n<=k):=by
 grind
def DX(x:Int):Int:=cond (Bp x) (x.tmod 4294967296) 0
theorem av{x:Int}(h:CB x):Hp x=some ((DX x,()),()):=by
 grind[Hp,DX,Ix,Bp]
theorem aY{x:Int}(h:CB x):Ud x=some ((DX x,()),()):=by
 grind[Ud,DX,Q9,Bp]
abbrev D6:AJ:=(0,0,false,[],())
def GG(e:AJ):Bool:=Bp e.1&&(Bd e.2.1 0 30&&((!decide (e.2.1>0)||decide (Ar e.1<e.2.1))&&(decide (e.2.2.2.1.length<=40)&&(!e.2.2.1||(decide (e.2.1>0)&&e.2.2.2.1==[])))))
theorem RV{e:AJ}(h:CB e.1):Mz e=some ((GG e,()),()):=by
 unfold Mz GG;grind[Ix,Be,EW,AMW,Ar,decide,ABo,Bp,Bd]
theorem AXh{x:Int}(h:Bd x 0 30=true):(x==0)= !decide (x>0):=by
 simp only[Bd,APo]at h;grind
theorem RC{e:AJ}(h:CB e.1):NU e=some ((GG e,()),()):=by
 unfold NU GG GR;rw[Q9 h,A_,FP h];simp only[AOv];rw[show decide ((e.2.2.2.1.length:Int)<=40)=decide (e.2.2.2.1.length<=40)from AWf _ 40,show decide (e.2.1>Ar e.1)=decide (Ar e.1<e.2.1)from rfl];rcases AOB (Bd e.2.1 0 30)with hi|hi
 all_goals grind[AXh,Bp,decide,Ar]
def X_(l:List AJ):Bool:=E4 (fun i=>GG (l.getD i D6)) 0 l.length
def lG(l:List AJ):Bool:=E4 (fun i=>i==0||decide ((l.getD (i-1) D6).1<(l.getD i D6).1)) 0 l.length
def gu(l:List AJ):Prop:= ∀e∈l,CB e.1
theorem gu.getD{l:List AJ}(h:gu l){i:Nat}(hi:i<l.length):CB (l.getD i D6).1:=h _ (Bm hi)
theorem fO{l:List AJ}{k:Nat}(hl:l.length<=2^40)(h:gu l):VY l k=some ((decide (l.length<=k)&&X_ l,()),()):=by
 unfold VY Z4;have:=GZ (L:=fun n i=>MH n l i) (len:=l.length) (p:=fun i=>GG (l.getD i D6)) (fin:=true) (fun n i hi=>by
  simp only[MH,Tb,AB];rw[AOJ (by omega),AOJ (by omega),AH (by omega) (by omega),show((i:Int)+1)=((i+1:Nat):Int)by omega];simp only[AO2];rw[show((l.getD i (0,0,false,[],())).1,(l.getD i (0,0,false,[],())).2.1,(l.getD i (0,0,false,[],())).2.2.1,(l.getD i (0,0,false,[],())).2.2.2.1,())=l.getD i D6 from rfl,RV (h.getD hi)];simp_all) (fun n=>by
  simp only[MH,Tb,AB];simp_all) l.length AZ 0 (by omega) (Ac (by omega))
 rw[show((0:Nat):Int)=0 from rfl]at this;rw[this,ABo,AVm];cases decide (l.length<=k)<;>rfl
theorem iA{l:List AJ}(hl:l.length<=2^40):YA l=some ((lG l,()),()):=by
 unfold YA bX lG;have h1:∀n (i:Nat),0<i->i<l.length->Gr (n+1) l i=cond (i==0||decide ((l.getD (i-1) D6).1<(l.getD i D6).1)) (Gr n l ((i+1:Nat):Int)) (some ((false,()),())):=fun n i h0 hi=>by
  simp only[Gr,QO,AB];rw[AOJ (by omega),AH (x:=(i:Int)-1) (by omega) (by omega),AOJ (by omega),AOJ (by omega),AH (by omega) (by omega),show((i:Int)+1)=((i+1:Nat):Int)by omega];have h1:((i:Int)-1).toNat=i-1:=by omega
  have h2:(i==0)=false:=by grind
  rw[h1,h2,AO2,AVP];grind
 cases hlen:l.length with
 |zero=>
  obtain⟨m,hm⟩:∃m,AZ=m+1:=⟨AZ-1,by have:=gS;omega⟩;rw[hm];simp only[Gr,QO,AB];rw[AOK (by omega)];rfl
 |succ k=>
  have:=GZ (L:=fun n i=>if(0:Int)<i then Gr n l i else cond (decide (0<n)) (Gr (n-1) l 1) none) (len:=l.length) (p:=fun i=>i==0||decide ((l.getD (i-1) D6).1<(l.getD i D6).1)) (fin:=true) (fun n i hi=>by
   simp_all) (fun n=>by
   rw[AOJ (by omega)];simp only[Gr,QO,AB];simp_all) l.length (AZ+1) 0 (by omega) (by have:=gS;omega)
  simp_all
theorem Zb{l:List AJ}(hl:l.length<=2^40)(h:gu l):PG l=some ((X_ l,()),()):=by
 unfold PG WC;have:=GZ (L:=fun n i=>Is n l l.length i) (len:=l.length) (p:=fun i=>GG (l.getD i D6)) (fin:=true) (fun n i hi=>by
  simp only[Is,PE,AB];rw[AOJ (by omega),AOJ (by omega),AH (by omega) (by omega),show((i:Int)+1)=((i+1:Nat):Int)by omega];simp only[AO2];rw[show((l.getD i (0,0,false,[],())).1,(l.getD i (0,0,false,[],())).2.1,(l.getD i (0,0,false,[],())).2.2.1,(l.getD i (0,0,false,[],())).2.2.2.1,())=l.getD i D6 from rfl,RC (h.getD hi)];simp_all) (fun n=>by
  simp only[Is,PE,AB];simp_all) l.length AZ 0 (by omega) (Ac (by omega))
 rw[show((0:Nat):Int)=0 from rfl]at this;rw[this,AVm];rfl
theorem WA{l:List AJ}(hl:l.length<=2^40):LQ l=some ((lG l,()),()):=by
 unfold LQ Sd;have:=GZ (L:=fun n i=>GY n l l l.length i) (len:=l.length) (p:=fun i=>i==0||decide ((l.getD (i-1) D6).1<(l.getD i D6).1)) (fin:=true) (fun n i hi=>by
  simp only[GY,MP,AB];rw[AOJ (by omega),AOJ (by omega),AH (x:=(i:Int)+1) (by omega) (by omega),show((i:Int)+1)=((i+1:Nat):Int)by omega];by_cases h0:i=0
  ·simp_all
  ·rw[AOJ (by omega),AH (by omega) (by omega),AOJ (by omega)]
   have h1:((i:Int)-1).toNat=i-1:=by omega
   have h2:(i==0)=false:=by simp_all
   rw[h1,h2,AO2,AVP];grind) (fun n=>by
  simp only[GY,MP,AB];simp_all) l.length AZ 0 (by omega) (Ac (by omega))
 rw[show((0:Nat):Int)=0 from rfl]at this;rw[this,AVm];rfl
def CN(s:AO):Bool:=(decide (s.1.length<=200)&&X_ s.1)&&((decide (s.2.1.length<=20)&&X_ s.2.1)&&(lG s.1&&Bd s.2.2.1 0 30))
def kC(s:AO):Prop:=gu s.1/\gu s.2.1
theorem GA{s:AO}(hl:Aj s<=2^30)(h:kC s):Gy s=some ((CN s,()),()):=by
 have l1:=AU (f:=Ah) (l:=s.1);have l2:=AU (f:=Ah) (l:=s.2.1);unfold Aj at hl;have e1:=fO (l:=s.1) (k:=200) (by omega) h.1;have e2:=fO (l:=s.2.1) (k:=20) (by omega) h.2;rw[show((200:Nat):Int)=200 from rfl]at e1;rw[show((20:Nat):Int)=20 from rfl]at e2;grind[Gy,CN,iA,Be,decide,X_,lG]
theorem FN{s:AO}(hl:Aj s<=2^30)(h:kC s):FU s=some ((CN s,()),()):=by
 have l1:=AU (f:=Ah) (l:=s.1);have l2:=AU (f:=Ah) (l:=s.2.1);unfold Aj at hl;unfold FU CN;rw[Zb (by omega) h.1,Zb (by omega) h.2,WA (by omega),A_,show decide ((s.1.length:Int)>200)= !decide (s.1.length<=200)from ABo _ 200,show decide ((s.2.1.length:Int)>20)= !decide (s.2.1.length<=20)from ABo _ 20];grind
theorem l7{L:Nat->Int->Option (ABi×Unit)}{len N:Nat}{p:Nat->Bool}{fin:Bool}(h1:∀n (i:Nat),i<len->L (n+1) i=cond (p i) (L n ((i+1:Nat):Int)) (some ((false,()),())))(h2:∀n,N<=n->L (n+1) (len:Int)=some ((fin,()),())):
  ∀d n i,i+d=len->d+N<n->L n i=some ((E4 p i d&&fin,()),())
 |0,n,i,hd,h=>by
  obtain⟨m,rfl⟩:∃m,n=m+1:=⟨n-1,by omega⟩;have:i=len:=by omega
  subst this;rw[h2 m (by omega)];rfl
 |d+1,n,i,hd,h=>by
  obtain⟨m,rfl⟩:∃m,n=m+1:=⟨n-1,by omega⟩;rw[h1 m i (by omega)];simp only[E4];cases p i with
  |false=>rfl
  |true=>rw[APm,l7 h1 h2 d m (i+1) (by omega) (by omega)];rfl
def PL(l:List AJ):Int:=cond (l.length==0) 0 (DX (l.getD (l.length-1) D6).1)
theorem eW{m:Av}(hl:m.2.2.2.1.length<=2^40)(h:gu m.2.2.2.1):SX m=some ((PL m.2.2.2.1,()),()):=by
 unfold SX PL;by_cases h0:m.2.2.2.1.length=0
 ·simp[h0]
 ·have e1:((m.2.2.2.1.length:Int)==0)=false:=by simp_all
  have e2:(m.2.2.2.1.length==0)=false:=by simp_all
  rw[e1,e2];simp only[AOk];rw[AH (by omega) (by omega),AOJ (by omega),show((m.2.2.2.1.length:Int)-1).toNat=m.2.2.2.1.length-1 by omega,av (h.getD (by omega))];rfl
theorem eE{m:Av}(hl:m.2.2.2.1.length<=2^40)(h:gu m.2.2.2.1):Th m=some ((PL m.2.2.2.1,()),()):=by
 unfold Th PL;by_cases h0:m.2.2.2.1.length=0
 ·simp[h0]
 ·have e1:((m.2.2.2.1.length:Int)==0)=false:=by simp_all
  have e2:(m.2.2.2.1.length==0)=false:=by simp_all
  rw[e1,e2];simp only[AOk];rw[AH (by omega) (by omega),AOJ (by omega),show((m.2.2.2.1.length:Int)-1).toNat=m.2.2.2.1.length-1 by omega,aY (h.getD (by omega))];rfl
def ue(l:List AJ)(ep by_:Int)(i:Nat):Bool:=GG (l.getD i D6)&&((Ar (l.getD i D6).1==ep)&&decide ((l.getD i D6).2.1<by_))
def uc(l:List AJ)(ep by_:Int):Bool:=E4 (ue l ep by_) 0 l.length
def r6(c:CG)(l:List AAB):Bool:=E4 (fun i=>BH c (l.getD i [])) 0 l.length
def G9(c:CG)(m:Av):Bool:=GI c&&(Bd m.2.1 1 30&&(Bd m.1 (m.2.1+1) 30&&(BH c m.2.2.1&&(lG m.2.2.2.1&&(uc m.2.2.2.1 m.2.1 m.1&&(r6 c m.2.2.2.2.2.1&&((m.2.2.2.2.2.1.length:Int)==cond m.2.2.2.2.1 (PL m.2.2.2.1) 0)))))))
theorem J9{c:CG}{m:Av}(hc:c.1.length<=2^40)(hm:CK m<=2^30)(h:gu m.2.2.2.1):JO c m=some ((G9 c m,()),()):=by
 have l1:=AU (f:=Ah) (l:=m.2.2.2.1);have l2:=AU (f:=C8) (l:=m.2.2.2.2.2.1);unfold CK at hm;have wr:∀n,m.2.2.2.2.2.1.length+1<=n->H9 n 0 c.1 c.2.1 m.1 m.2.1 m.2.2.1 m.2.2.2.1 m.2.2.2.2.1 m.2.2.2.2.2.1=some ((r6 c m.2.2.2.2.2.1&&((m.2.2.2.2.2.1.length:Int)==cond m.2.2.2.2.1 (PL m.2.2.2.1) 0),()),()):=fun n hn=>by
  refine GZ (L:=fun n i=>H9 n i c.1 c.2.1 m.1 m.2.1 m.2.2.1 m.2.2.2.1 m.2.2.2.2.1 m.2.2.2.2.2.1) (len:=m.2.2.2.2.2.1.length) (p:=fun i=>BH c (m.2.2.2.2.2.1.getD i [])) (fin:=(m.2.2.2.2.2.1.length:Int)==cond m.2.2.2.2.1 (PL m.2.2.2.1) 0) (fun n i hi=> ?_) (fun n=> ?_) m.2.2.2.2.2.1.length n 0 (by omega) (by omega)
  ·have hwi:(m.2.2.2.2.2.1.getD i []).length<=AS C8 m.2.2.2.2.2.1:=AY (f:=C8) (Bm (d:=[]) hi)
   simp only[H9,TX,AB];rw[AOJ (by omega),AOJ (by omega),AH (by omega) (by omega),show((i:Int)+1)=((i+1:Nat):Int)by omega,AO2,show(c.1,c.2.1,())=c from rfl,HQ hc (by omega)];simp_all
  ·simp only[H9,TX,AB]
   rw[AOK (by omega),T5 m,eW (by omega) h];grind
 have se:=l7 (L:=fun n i=>J3 n i c.1 c.2.1 m.1 m.2.1 m.2.2.1 m.2.2.2.1 m.2.2.2.2.1 m.2.2.2.2.2.1) (len:=m.2.2.2.1.length) (N:=m.2.2.2.2.2.1.length+1) (p:=ue m.2.2.2.1 m.2.1 m.1) (fin:=r6 c m.2.2.2.2.2.1&&((m.2.2.2.2.2.1.length:Int)==cond m.2.2.2.2.1 (PL m.2.2.2.1) 0)) (fun n i hi=>by
   simp only[J3,TH,AB,ue];have hb:(0:Int)<=(i:Int)/\(i:Int)<(m.2.2.2.1.length:Int):=by omega
   rw[AOJ hb.2,AH (by omega) (by omega),show((i:Int)+1)=((i+1:Nat):Int)by omega,AO2];simp only[AOJ hb];rw[show((m.2.2.2.1.getD i (0,0,false,[],())).1,(m.2.2.2.1.getD i (0,0,false,[],())).2.1,(m.2.2.2.1.getD i (0,0,false,[],())).2.2.1,(m.2.2.2.1.getD i (0,0,false,[],())).2.2.2.1,())=m.2.2.2.1.getD i D6 from rfl,RV (h.getD hi),EW (h.getD hi)];grind) (fun n hn=>by
   simp only[J3,TH,AB];simp_all) m.2.2.2.1.length AZ 0 (by omega) (Ac (by omega))
 rw[show((0:Nat):Int)=0 from rfl]at se;unfold JO aJ G9;rw[show(c.1,c.2.1,())=c from rfl,Hq hc,Be,Be,HQ hc (by omega),iA (by omega),se];simp only[AOv];rcases AOB (Bd m.2.1 1 30)with hi|hi
 ·have Ig:=hi
  simp only[Bd,APo]at Ig;rw[AH (by omega) (by omega),hi];cases GI c<;>cases Bd m.1 (m.2.1+1) 30<;>cases BH c m.2.2.1<;>cases lG m.2.2.2.1<;>rfl
 simp_all
theorem rI{m:Av}(hm:CK m<=2^30)(h:gu m.2.2.2.1):Vg m=some ((uc m.2.2.2.1 m.2.1 m.1&&lG m.2.2.2.1,()),()):=by
 have l1:=AU (f:=Ah) (l:=m.2.2.2.1);unfold CK at hm;unfold Vg aB;exact GZ (L:=fun n i=>Mp n m.2.2.2.1 m.2.2.2.1.length i m.1 m.2.1 m.2.2.1 m.2.2.2.1 m.2.2.2.2.1 m.2.2.2.2.2.1) (len:=m.2.2.2.1.length) (p:=ue m.2.2.2.1 m.2.1 m.1) (fin:=lG m.2.2.2.1) (fun n i hi=>by
  simp only[Mp,TO,AB,ue];rw[AOJ (by omega),AOJ (by omega),AH (by omega) (by omega),show((i:Int)+1)=((i+1:Nat):Int)by omega,AO2];rw[show((m.2.2.2.1.getD i (0,0,false,[],())).1,(m.2.2.2.1.getD i (0,0,false,[],())).2.1,(m.2.2.2.1.getD i (0,0,false,[],())).2.2.1,(m.2.2.2.1.getD i (0,0,false,[],())).2.2.2.1,())=m.2.2.2.1.getD i D6 from rfl,RC (h.getD hi),FP (h.getD hi)];grind) (fun n=>by
  simp only[Mp,TO,AB];rw[AOK (by omega),WA (by omega)];rfl) m.2.2.2.1.length AZ 0 (by omega) (Ac (by omega))
theorem IJ{c:CG}{m:Av}(hc:c.1.length<=2^40)(hm:CK m<=2^30)(h:gu m.2.2.2.1):IF c m=some ((G9 c m,()),()):=by
 have l1:=AU (f:=Ah) (l:=m.2.2.2.1);have l2:=AU (f:=C8) (l:=m.2.2.2.2.2.1);have hm2:=hm;unfold CK at hm;have key:=GZ (L:=fun n i=>MZ n m.2.2.2.2.2.1 m.2.2.2.2.2.1.length i c.1 c.2.1 m.1 m.2.1 m.2.2.1 m.2.2.2.1 m.2.2.2.2.1 m.2.2.2.2.2.1) (len:=m.2.2.2.2.2.1.length) (p:=fun i=>BH c (m.2.2.2.2.2.1.getD i []))
  (fin:=GI c&&(Bd m.2.1 1 30&&(Bd m.1 (m.2.1+1) 30&&(BH c m.2.2.1&&((uc m.2.2.2.1 m.2.1 m.1&&lG m.2.2.2.1)&&((m.2.2.2.2.2.1.length:Int)==cond m.2.2.2.2.1 (PL m.2.2.2.1) 0)))))) (fun n i hi=>by
   have hwi:(m.2.2.2.2.2.1.getD i []).length<=AS C8 m.2.2.2.2.2.1:=AY (f:=C8) (Bm (d:=[]) hi);simp only[MZ,TF,AB];rw[AOJ (by omega),AOJ (by omega),AH (x:=(i:Int)+1) (by omega) (by omega),show((i:Int)+1)=((i+1:Nat):Int)by omega,AO2,show(c.1,c.2.1,())=c from rfl,EU hc (by omega)];simp_all) (fun n=>by
   simp only[MZ,TF,AB];rw[AOK (by omega),T5 m,eE (by omega) h,show(c.1,c.2.1,())=c from rfl,Mb hc,EU hc (by omega),rI hm2 h];simp only[AOv,H0,A_];rcases AOB (Bd m.2.1 1 30)with hi|hi
   ·have Ig:=hi
    simp only[Bd,APo]at Ig;grind[AH,GI,Bd,BH,uc,lG]
   simp_all) m.2.2.2.2.2.1.length AZ 0 (by omega) (Ac (by omega))
 unfold IF Z6 G9;rw[show((0:Nat):Int)=0 from rfl]at key;grind[r6,E4,BH,GI,Bd,uc,lG]
theorem AGH{x:Int}{l:AAB}(hl:l.length<=2^40):∃r,Nw [x] l=some (((),()),(r,()))/\decide ((r.length:Int)>0)=l.contains x:=by
 obtain⟨m,hm⟩:∃m,AZ=m+2:=⟨AZ-2,by have:=gS;omega⟩;unfold Nw DU;rw[AOJ (by rw[Ap];simp)];simp only[AOv];unfold Cx EE Dx EL;rw[hm];simp only[CC,EO,SR,ART,AS0,AB];rw[AOJ (by omega),AOJ (by omega)];simp only[Int.toNat_zero,List.getD_cons_zero];rw[JT hl];simp only[AOv];cases l.contains x with
 |true=>
  simp only[AOx,AOk];rw[AH (x:=0+1) (by omega) (by omega),AOK (by omega)];simp_all
 |false=>
  simp only[AVN,APm,AOv];rw[AH (x:=0+1) (by omega) (by omega)];simp only[B7,EF,AB,ART,AS0];simp_all
theorem bu{w:AA}{x:Int}(hl:w.2.2.2.1.length<=2^40):DH w x=some ((w.2.2.2.1.contains x,()),()):=by
 unfold DH;obtain⟨r,h1,h2⟩:=AGH (x:=x) hl;simp_all
theorem LV{l:AAB}{x:Int}(hl:l.length<=2^40):DA l x=some ((l.contains x,()),()):=by
 have key:∀(n i:Nat),i<=l.length->l.length-i<n->Lk n l x i=some (((l.drop i).contains x,()),()):=by
  intro n
  induction n with
  |zero=>omega
  |succ n ih=>
   intro i hi h;simp only[Lk,Ul,AB];by_cases hc:i<l.length
   ·rw[AOJ (by omega),AOJ (by omega),AH (by omega) (by omega),show((i:Int)+1)=((i+1:Nat):Int)by omega,Al hc,drop_cons hc,ih (i+1) (by omega) (by omega)]
    simp only[List.contains_cons];by_cases he:l[i]=x
    all_goals grind
   grind
 grind[DA,Ug,AZ,Ac]
def Yn(l:List CW):Nat->Nat->Int
 |_,0=>0
 |i,d+1=>cond (!(l.getD i ([],false,0,())).2.1) ((i:Int)+1) (Yn l (i+1) d)
def BF(l:List CW):Int:=Yn l 0 l.length
theorem Oc{r:AN}(hl:r.1.length<=2^40):Jy r=some ((BF r.1,()),()):=by
 have key:∀(d n i:Nat),i+d=r.1.length->d<n->Io n i r.1 r.2.1=some ((Yn r.1 i d,()),()):=by
  intro d
  induction d with
  |zero=>
   intro n i hi hn;obtain⟨m,rfl⟩:∃m,n=m+1:=⟨n-1,by omega⟩;simp only[Io,O9,AB,Yn];simp_all
  |succ d ih=>
   intro n i hi hn;obtain⟨m,rfl⟩:∃m,n=m+1:=⟨n-1,by omega⟩;simp only[Io,O9,AB,Yn];rw[AOJ (by omega),AOJ (by omega),AH (by omega) (by omega),show((i:Int)+1)=((i+1:Nat):Int)by omega,ih m (i+1) (by omega) (by omega),AO2];grind
 grind[Jy,V7,BF,AZ,Ac]
theorem K5{r:AN}(hl:r.1.length<=2^40):IB r=some ((BF r.1,()),()):=by
 have key:∀(d n i:Nat),i+d=r.1.length->d<n->It n r.1 r.1.length i=some ((Yn r.1 i d,()),()):=by
  intro d
  induction d with
  |zero=>
   intro n i hi hn;obtain⟨m,rfl⟩:∃m,n=m+1:=⟨n-1,by omega⟩;simp only[It,Pm,AB,Yn];simp_all
  |succ d ih=>
   intro n i hi hn;obtain⟨m,rfl⟩:∃m,n=m+1:=⟨n-1,by omega⟩;simp only[It,Pm,AB,Yn];rw[AOJ (by omega),AOJ (by omega),AH (by omega) (by omega),show((i:Int)+1)=((i+1:Nat):Int)by omega,ih m (i+1) (by omega) (by omega),AO2];grind
 grind[IB,Vt,BF,AZ,Ac]
structure dX (w:AA):Prop where
 weight:Cn w<=2^20
 BX:∀s∈w.2.2.1,kC s
 trim:CB w.2.2.2.2.2.1
 An:∀m∈w.2.2.2.2.2.2.2.1,gu m.2.2.2.1
 aj:∀s∈w.2.2.2.2.2.2.2.2.2.1,CB s.1
abbrev EN:AO:=([],[],0,())
abbrev B3:AR:=(0,[],())
abbrev Ei:Av:=(0,0,[],[],false,[],())
abbrev ER:Ag:=(0,0,[],())
abbrev Nn:Af:=(0,[],false,())
def Ae(w:AA):CG:=(w.1,w.2.1,())
def CQ(w:AA):AN:=(w.2.2.2.2.1,w.2.2.2.2.2.1,())
def mF(w:AA)(i:Nat):Bool:=CN (w.2.2.1.getD i EN)&&(!w.2.2.2.1.contains (i:Int)||((w.2.2.1.getD i EN).1.length==0&&((w.2.2.1.getD i EN).2.1.length==0&&(w.2.2.1.getD i EN).2.2.1==0)))
def gC(w:AA)(i:Nat):Bool:=EX (Ae w) (w.2.2.2.2.2.2.1.getD i B3)&&(decide ((w.2.2.2.2.2.2.1.getD i B3).1<=(w.2.2.2.2.1.length:Int))&&(i==0||decide ((w.2.2.2.2.2.2.1.getD (i-1) B3).1<(w.2.2.2.2.2.2.1.getD i B3).1)))
def uZ(w:AA)(i:Nat):Bool:=G9 (Ae w) (w.2.2.2.2.2.2.2.1.getD i Ei)&&(((w.2.2.2.2.2.2.2.1.getD i Ei).1==(w.2.2.2.2.1.length:Int))&&((w.2.2.2.2.2.2.2.1.getD i Ei).2.1==BF w.2.2.2.2.1))
def uq(w:AA)(i:Nat):Bool:=(Bp (w.2.2.2.2.2.2.2.2.2.1.getD i Nn).1&&decide (Ar (w.2.2.2.2.2.2.2.2.2.1.getD i Nn).1<=(w.2.2.2.2.1.length:Int)))&&(decide ((w.2.2.2.2.2.2.2.2.2.1.getD i Nn).2.1.length<=40)&&(i==0||decide ((w.2.2.2.2.2.2.2.2.2.1.getD (i-1) Nn).1<(w.2.2.2.2.2.2.2.2.2.1.getD i Nn).1)))
def gA(w:AA):Bool:=E4 (mF w) 0 w.2.2.1.length
def cD(w:AA):Bool:=E4 (gC w) 0 w.2.2.2.2.2.2.1.length
def jN(w:AA):Bool:=E4 (uZ w) 0 w.2.2.2.2.2.2.2.1.length
def uv(w:AA):Bool:=E4 (uq w) 0 w.2.2.2.2.2.2.2.2.2.1.length
def fA(w:AA):Bool:=decide (w.2.2.2.2.2.2.2.2.1.length=2)&&(bp (w.2.2.2.2.2.2.2.2.1.getD 0 ER)&&bp (w.2.2.2.2.2.2.2.2.1.getD 1 ER))
def Cq(w:AA):Bool:=GI (Ae w)&&(decide (w.2.2.1.length=w.1.length)&&(BH (Ae w) w.2.2.2.1&&((w.2.2.2.2.2.2.2.2.2.2.1|| !holds (Ae w) w.2.2.2.1)&&(gA w&&(Pp (Ae w) (CQ w)&&(decide (w.2.2.2.2.2.2.1.length<=4)&&(decide (w.2.2.2.2.2.2.2.1.length<=1)&&(cD w&&(jN w&&(fA w&&(decide (w.2.2.2.2.2.2.2.2.2.1.length<=120)&&uv w)))))))))))
section
variable{w:AA} (h:dX w)
include h
theorem dX.lens:w.1.length<=2^20/\AS Aj w.2.2.1<=2^20/\w.2.2.2.1.length<=2^20/\AS Bk w.2.2.2.2.1<=2^20/\AS Aq w.2.2.2.2.2.2.1<=2^20/\AS CK w.2.2.2.2.2.2.2.1<=2^20/\AS Ak w.2.2.2.2.2.2.2.2.1<=2^20/\AS D9 w.2.2.2.2.2.2.2.2.2.1<=2^20:=by
 have:=h.weight;grind[Cn]
theorem dX.TN:w.2.2.1.length<=2^20/\w.2.2.2.2.1.length<=2^20/\w.2.2.2.2.2.2.1.length<=2^20/\w.2.2.2.2.2.2.2.1.length<=2^20/\w.2.2.2.2.2.2.2.2.1.length<=2^20/\w.2.2.2.2.2.2.2.2.2.1.length<=2^20:=by
 have k:=h.lens;grind[AU,Aj,Bk,Aq,CK,Ak,D9]
theorem dX.cfg:(Ae w).1.length<=2^40:=by
 have:=h.lens
 show w.1.length<=2^40
 omega
theorem yN:L2 w=some ((decide (w.2.2.1.length=w.1.length)&&(BH (Ae w) w.2.2.2.1&&(gA w&&(w.2.2.2.2.2.2.2.2.2.2.1|| !holds (Ae w) w.2.2.2.1))),()),()):=by
 have k1:=h.lens;have k2:=h.TN;have key:=GZ (L:=fun n i=>FY n w w.2.2.1 w.2.2.1.length i) (len:=w.2.2.1.length) (p:=mF w) (fin:=w.2.2.2.2.2.2.2.2.2.2.1|| !holds (Ae w) w.2.2.2.1) (fun n i hi=>by
  have hm:=Bm (d:=EN) hi;have hw:=AY (f:=Aj) hm;simp only[FY,Kb,AB,mF];rw[AOJ (by omega),AOJ (by omega),AH (x:=(i:Int)+1) (by omega) (by omega),show((i:Int)+1)=((i+1:Nat):Int)by omega,AO2,bu (by omega)];rw[show((w.2.2.1.getD i ([],[],0,())).1,(w.2.2.1.getD i ([],[],0,())).2.1,(w.2.2.1.getD i ([],[],0,())).2.2.1,())=w.2.2.1.getD i EN from rfl,FN (by omega) (h.BX _ hm)];simp only[AOv]
  show cond (!CN (w.2.2.1.getD i EN)) _ _=_
  rcases AOB (CN (w.2.2.1.getD i EN))with hs|hs
  rotate_left
  ·simp_all
  rw[hs];have hs2:=hs;simp only[CN,Bd,AOw,APo]at hs2
  generalize w.2.2.1.getD i EN=s at hw hs2
  cases w.2.2.2.1.contains ((i:Nat):Int)with
  |false=>rfl
  |true=>
   simp only[AOx,AOk,APm,APr,AVP];unfold Aj at hw;have q1:=AU (f:=Ah) (l:=s.1);have q2:=AU (f:=Ah) (l:=s.2.1);rw[AH (x:=(s.1.length:Int)+_) (by omega) (by omega),AH (by omega) (by omega)];grind) (fun n=>by
  simp only[FY,Kb,AB];rw[AOK (by omega),show(w.1,w.2.1,())=Ae w from rfl,Gq h.cfg (by omega)];grind) w.2.2.1.length AZ 0 (by omega) (Ac (by omega))
 rw[show((0:Nat):Int)=0 from rfl]at key;unfold L2 QY gA;rw[show(w.1,w.2.1,())=Ae w from rfl,EU h.cfg (by omega),key];grind[decide_eq_true,BH,Ae,decide_eq_false]
end
theorem ABm{x lo hi:Int}(h:lo<=x):Bd x lo hi=decide (x<=hi):=by
 grind[Bd,decide_eq_true,decide_eq_false]
theorem AGZ{x lo hi:Int}(h:x<lo):Bd x lo hi=false:=by
 grind[Bd,decide_eq_false]
section
variable{w:AA} (h:dX w)
include h
theorem vz:LB w=some ((cD w&&decide (w.2.2.2.2.2.2.1.length<=4),()),()):=by
 have k1:=h.lens;have k2:=h.TN;have key:=GZ (L:=fun n i=>Ew n w w.2.2.2.2.2.2.1 w.2.2.2.2.2.2.1.length i) (len:=w.2.2.2.2.2.2.1.length) (p:=gC w) (fin:=decide (w.2.2.2.2.2.2.1.length<=4)) (fun n i hi=>by
  have hm:=Bm (d:=B3) hi;have hw:=AY (f:=Aq) hm;unfold Aq at hw;simp only[Ew,J8,AB,gC,J1,A_];rw[AOJ (by omega),AOJ (by omega),AH (x:=(i:Int)+1) (by omega) (by omega),show((i:Int)+1)=((i+1:Nat):Int)by omega,AO2];have hw2:AS Az (w.2.2.2.2.2.2.1.getD i B3).2.1<=2^30:=by
   have:=k1.2.2.2.2.1;unfold Aq at this;omega
  rw[show((w.2.2.2.2.2.2.1.getD i (0,[],())).1,(w.2.2.2.2.2.2.1.getD i (0,[],())).2.1,())=w.2.2.2.2.2.2.1.getD i B3 from rfl,show(w.1,w.2.1,())=Ae w from rfl,Jm h.cfg hw2];simp only[AOv];rcases AOB (EX (Ae w) (w.2.2.2.2.2.2.1.getD i B3))with hs|hs
  rotate_left
  ·simp_all
  have he:=(bE hs).2.1;rw[hs,show Bd (w.2.2.2.2.2.2.1.getD i (0,[],())).1 1 (w.2.2.2.2.1.length:Int)=decide ((w.2.2.2.2.2.2.1.getD i B3).1<=(w.2.2.2.2.1.length:Int))from ABm he.1];simp only[AOx,AOk,APr];cases decide ((w.2.2.2.2.2.2.1.getD i B3).1<=(w.2.2.2.2.1.length:Int))with
  |false=>rfl
  |true=>
   simp only[AOx,AOk,APr];by_cases h0:i=0
   ·simp_all
   ·rw[AOJ (by omega),AH (by omega) (by omega),AOJ (by omega)]
    have h1:((i:Int)-1).toNat=i-1:=by omega
    have h2:(i==0)=false:=by simp_all
    rw[h1,h2,AVP];grind) (fun n=>by
  simp only[Ew,J8,AB];simp_all;omega) w.2.2.2.2.2.2.1.length AZ 0 (by omega) (Ac (by omega))
 rw[show((0:Nat):Int)=0 from rfl]at key;grind[LB,PO,cD]
theorem zP:NH w=some ((jN w&&decide (w.2.2.2.2.2.2.2.1.length<=1),()),()):=by
 have k1:=h.lens;have k2:=h.TN;have key:=GZ (L:=fun n i=>Ft n w w.2.2.2.2.2.2.2.1 w.2.2.2.2.2.2.2.1.length i) (len:=w.2.2.2.2.2.2.2.1.length) (p:=uZ w) (fin:=decide (w.2.2.2.2.2.2.2.1.length<=1)) (fun n i hi=>by
  have hm:=Bm (d:=Ei) hi;have hw:=AY (f:=CK) hm;simp only[Ft,LY,AB,uZ];rw[AOJ (by omega),AOJ (by omega),AH (x:=(i:Int)+1) (by omega) (by omega),show((i:Int)+1)=((i+1:Nat):Int)by omega,AO2];rw[show((w.2.2.2.2.2.2.2.1.getD i (0,0,[],[],false,[],())).1,(w.2.2.2.2.2.2.2.1.getD i (0,0,[],[],false,[],())).2.1,(w.2.2.2.2.2.2.2.1.getD i (0,0,[],[],false,[],())).2.2.1,(w.2.2.2.2.2.2.2.1.getD i (0,0,[],[],false,[],())).2.2.2.1,(w.2.2.2.2.2.2.2.1.getD i (0,0,[],[],false,[],())).2.2.2.2.1,(w.2.2.2.2.2.2.2.1.getD i (0,0,[],[],false,[],())).2.2.2.2.2.1,())=w.2.2.2.2.2.2.2.1.getD i Ei from rfl,show(w.1,w.2.1,())=Ae w from rfl,IJ h.cfg (by omega) (h.An _ hm)];rw[K5 (by grind)];grind) (fun n=>by
  simp only[Ft,LY,AB];simp_all;omega) w.2.2.2.2.2.2.2.1.length AZ 0 (by omega) (Ac (by omega))
 rw[show((0:Nat):Int)=0 from rfl]at key;grind[NH,Q5,jN]
theorem vI:LC w=some ((fA w,()),()):=by
 have k2:=h.TN;have key:=GZ (L:=fun n i=>Ex n w w.2.2.2.2.2.2.2.2.1 w.2.2.2.2.2.2.2.2.1.length i) (len:=w.2.2.2.2.2.2.2.2.1.length) (p:=fun i=>bp (w.2.2.2.2.2.2.2.2.1.getD i ER)) (fin:=((w.2.2.2.2.2.2.2.2.1.length:Int)==2)) (fun n i hi=>by
  simp only[Ex,J2,AB];rw[AOJ (by omega),AOJ (by omega),AH (x:=(i:Int)+1) (by omega) (by omega),show((i:Int)+1)=((i+1:Nat):Int)by omega,AO2];rw[show((w.2.2.2.2.2.2.2.2.1.getD i (0,0,[],())).1,(w.2.2.2.2.2.2.2.2.1.getD i (0,0,[],())).2.1,(w.2.2.2.2.2.2.2.2.1.getD i (0,0,[],())).2.2.1,())=w.2.2.2.2.2.2.2.2.1.getD i ER from rfl,cC];simp_all) (fun n=>by
  simp only[Ex,J2,AB];simp_all) w.2.2.2.2.2.2.2.2.1.length AZ 0 (by omega) (Ac (by omega))
 rw[show((0:Nat):Int)=0 from rfl]at key;unfold LC PN fA;grind[E4,decide_eq_false]
theorem ADR:Ob w=some ((uv w&&decide (w.2.2.2.2.2.2.2.2.2.1.length<=120),()),()):=by
 have k2:=h.TN;have key:=GZ (L:=fun n i=>Ga n w w.2.2.2.2.2.2.2.2.2.1 w.2.2.2.2.2.2.2.2.2.1.length i) (len:=w.2.2.2.2.2.2.2.2.2.1.length) (p:=uq w) (fin:=decide (w.2.2.2.2.2.2.2.2.2.1.length<=120)) (fun n i hi=>by
  have hm:=Bm (d:=Nn) hi;have VP:CB (w.2.2.2.2.2.2.2.2.2.1.getD i (0,[],false,())).1:=h.aj _ hm;simp only[Ga,MT,AB,uq,J1,A_,GR];rw[AOJ (by omega),AOJ (by omega),AH (x:=(i:Int)+1) (by omega) (by omega),show((i:Int)+1)=((i+1:Nat):Int)by omega,AO2,FP VP];simp only[AOv];have e1:Bd (Ar (w.2.2.2.2.2.2.2.2.2.1.getD i (0,[],false,())).1) 1 (w.2.2.2.2.1.length:Int)=(Bp (w.2.2.2.2.2.2.2.2.2.1.getD i Nn).1&&decide (Ar (w.2.2.2.2.2.2.2.2.2.1.getD i Nn).1<=(w.2.2.2.2.1.length:Int))):=by
   show Bd (Ar (w.2.2.2.2.2.2.2.2.2.1.getD i Nn).1) 1 (w.2.2.2.2.1.length:Int)=_
   have hr:=iD (x:=(w.2.2.2.2.2.2.2.2.2.1.getD i Nn).1);rcases AOB (Bp (w.2.2.2.2.2.2.2.2.2.1.getD i Nn).1)with hp|hp
   ·rw[hp,ABm (hr.1 hp).1,APr]
   ·rw[hp,hr.2 hp,AGZ (by omega),AVZ]
  rw[e1,show decide ((((w.2.2.2.2.2.2.2.2.2.1.getD i (0,[],false,())).2.1.length:Nat):Int)<=40)=decide ((w.2.2.2.2.2.2.2.2.2.1.getD i Nn).2.1.length<=40)from AWf _ 40];cases(Bp (w.2.2.2.2.2.2.2.2.2.1.getD i Nn).1&&decide (Ar (w.2.2.2.2.2.2.2.2.2.1.getD i Nn).1<=(w.2.2.2.2.1.length:Int)))with
  |false=>rfl
  |true=>
   cases decide ((w.2.2.2.2.2.2.2.2.2.1.getD i Nn).2.1.length<=40)with
   |false=>rfl
   |true=>
    simp only[AOx,AOk,APr];by_cases h0:i=0
    ·simp_all
    ·rw[AOJ (by omega),AH (by omega) (by omega),AOJ (by omega)]
     have h1:((i:Int)-1).toNat=i-1:=by omega
     have h2:(i==0)=false:=by simp_all
     rw[h1,h2,AVP];grind) (fun n=>by
  simp only[Ga,MT,AB];simp_all;omega) w.2.2.2.2.2.2.2.2.2.1.length AZ 0 (by omega) (Ac (by omega))
 rw[show((0:Nat):Int)=0 from rfl]at key;grind[Ob,SH,uv]
theorem Iy:Kz w=some ((Cq w,()),()):=by
 have k1:=h.lens;unfold Kz Cq;rw[Gk w,show(w.1,w.2.1,())=Ae w from rfl,show(w.2.2.2.2.1,w.2.2.2.2.2.1,())=CQ w from rfl];rw[Mb h.cfg,yN h,N4 h.cfg (by show AS Bk w.2.2.2.2.1<=_;omega) h.trim,vz h,zP h,vI h,ADR h];grind
end
section
variable{w:AA} (h:dX w)
include h
theorem xL:VM w=some ((GI (Ae w)&&(decide (w.2.2.1.length=w.1.length)&&(BH (Ae w) w.2.2.2.1&&((w.2.2.2.2.2.2.2.2.2.2.1|| !holds (Ae w) w.2.2.2.1)&&gA w))),()),()):=by
 have k1:=h.lens;have k2:=h.TN;have key:=GZ (L:=fun n i=>Jj n i w.1 w.2.1 w.2.2.1 w.2.2.2.1 w.2.2.2.2.1 w.2.2.2.2.2.1 w.2.2.2.2.2.2.1 w.2.2.2.2.2.2.2.1 w.2.2.2.2.2.2.2.2.1 w.2.2.2.2.2.2.2.2.2.1 w.2.2.2.2.2.2.2.2.2.2.1) (len:=w.2.2.1.length) (p:=mF w) (fin:=true) (fun n i hi=>by
  have hm:=Bm (d:=EN) hi;have hw:=AY (f:=Aj) hm;simp only[Jj,Qc,AB,mF];have hb:(0:Int)<=(i:Int)/\(i:Int)<(w.2.2.1.length:Int):=by omega
  rw[AOJ hb.2,AH (x:=(i:Int)+1) (by omega) (by omega),show((i:Int)+1)=((i+1:Nat):Int)by omega,AO2,LV (by omega)];simp only[AOJ hb];rw[show((w.2.2.1.getD i ([],[],0,())).1,(w.2.2.1.getD i ([],[],0,())).2.1,(w.2.2.1.getD i ([],[],0,())).2.2.1,())=w.2.2.1.getD i EN from rfl,GA (by omega) (h.BX _ hm)];simp only[AOv]
  show cond (!CN (w.2.2.1.getD i EN)) _ _=_
  cases CN (w.2.2.1.getD i EN)with
  |false=>rfl
  |true=>
   cases w.2.2.2.1.contains ((i:Nat):Int)with
   |false=>rfl
   |true=>
    simp only[dA,AOx,AOk,APm,APr,AVP];have e1:∀n:Nat,((n:Int)==0)=(n==0):=fun n=>by
     grind
    grind) (fun n=>by
  simp only[Jj,Qc,AB];simp_all) w.2.2.1.length AZ 0 (by omega) (Ac (by omega))
 rw[show((0:Nat):Int)=0 from rfl]at key;unfold VM Wx gA;rw[show(w.1,w.2.1,())=Ae w from rfl,Hq h.cfg,HQ h.cfg (by omega),EC h.cfg (by omega),key];simp only[AOv,AVm];grind[decide_eq_true,GI,Ae,BH,holds,decide_eq_false]
theorem wU:To w=some ((Pp (Ae w) (CQ w)&&(decide (w.2.2.2.2.2.2.1.length<=4)&&(decide (w.2.2.2.2.2.2.2.1.length<=1)&&(cD w&&jN w))),()),()):=by
 have k1:=h.lens;have k2:=h.TN;have me:∀n,w.2.2.2.2.2.2.2.1.length+1<=n->E7 n (w.2.2.2.2.1.length:Int) 0 w.1 w.2.1 w.2.2.1 w.2.2.2.1 w.2.2.2.2.1 w.2.2.2.2.2.1 w.2.2.2.2.2.2.1 w.2.2.2.2.2.2.2.1 w.2.2.2.2.2.2.2.2.1 w.2.2.2.2.2.2.2.2.2.1 w.2.2.2.2.2.2.2.2.2.2.1=some ((jN w,()),()):=fun n hn=>by
  have key:=GZ (L:=fun n i=>E7 n (w.2.2.2.2.1.length:Int) i w.1 w.2.1 w.2.2.1 w.2.2.2.1 w.2.2.2.2.1 w.2.2.2.2.2.1 w.2.2.2.2.2.2.1 w.2.2.2.2.2.2.2.1 w.2.2.2.2.2.2.2.2.1 w.2.2.2.2.2.2.2.2.2.1 w.2.2.2.2.2.2.2.2.2.2.1) (len:=w.2.2.2.2.2.2.2.1.length) (p:=uZ w) (fin:=true) (fun n i hi=>by
   have hm:=Bm (d:=Ei) hi;have hw:=AY (f:=CK) hm;simp only[E7,OM,AB,uZ];rw[AOJ (by omega),AOJ (by omega),AH (x:=(i:Int)+1) (by omega) (by omega),show((i:Int)+1)=((i+1:Nat):Int)by omega,AO2];rw[show((w.2.2.2.2.2.2.2.1.getD i (0,0,[],[],false,[],())).1,(w.2.2.2.2.2.2.2.1.getD i (0,0,[],[],false,[],())).2.1,(w.2.2.2.2.2.2.2.1.getD i (0,0,[],[],false,[],())).2.2.1,(w.2.2.2.2.2.2.2.1.getD i (0,0,[],[],false,[],())).2.2.2.1,(w.2.2.2.2.2.2.2.1.getD i (0,0,[],[],false,[],())).2.2.2.2.1,(w.2.2.2.2.2.2.2.1.getD i (0,0,[],[],false,[],())).2.2.2.2.2.1,())=w.2.2.2.2.2.2.2.1.getD i Ei from rfl,show(w.1,w.2.1,())=Ae w from rfl,J9 h.cfg (by omega) (h.An _ hm)];rw[Oc (by grind)];grind) (fun n=>by
   simp only[E7,OM,AB];simp_all) w.2.2.2.2.2.2.2.1.length n 0 (by omega) (by omega)
  rw[show((0:Nat):Int)=0 from rfl]at key;rw[key,AVm];rfl
 have key:=l7 (L:=fun n i=>HB n (w.2.2.2.2.1.length:Int) i w.1 w.2.1 w.2.2.1 w.2.2.2.1 w.2.2.2.2.1 w.2.2.2.2.2.1 w.2.2.2.2.2.2.1 w.2.2.2.2.2.2.2.1 w.2.2.2.2.2.2.2.2.1 w.2.2.2.2.2.2.2.2.2.1 w.2.2.2.2.2.2.2.2.2.2.1) (len:=w.2.2.2.2.2.2.1.length) (N:=w.2.2.2.2.2.2.2.1.length+1) (p:=gC w) (fin:=jN w) (fun n i hi=>by
  have hm:=Bm (d:=B3) hi;have hw:=AY (f:=Aq) hm;unfold Aq at hw;simp only[HB,PK,AB,gC];have hb:(0:Int)<=(i:Int)/\(i:Int)<(w.2.2.2.2.2.2.1.length:Int):=by omega
  rw[AOJ hb.2,AH (x:=(i:Int)+1) (by omega) (by omega),show((i:Int)+1)=((i+1:Nat):Int)by omega,AO2];simp only[AOJ hb];have hw2:AS Az (w.2.2.2.2.2.2.1.getD i B3).2.1<=2^30:=by
   have:=k1.2.2.2.2.1;unfold Aq at this;omega
  rw[show((w.2.2.2.2.2.2.1.getD i (0,[],())).1,(w.2.2.2.2.2.2.1.getD i (0,[],())).2.1,())=w.2.2.2.2.2.2.1.getD i B3 from rfl,show(w.1,w.2.1,())=Ae w from rfl,Gg h.cfg hw2];simp only[AOv];cases EX (Ae w) (w.2.2.2.2.2.2.1.getD i B3)with
  |false=>rfl
  |true=>
   simp only[AOx,AOk,APr];by_cases hle:(w.2.2.2.2.2.2.1.getD i (0,[],())).1<=(w.2.2.2.2.1.length:Int)
   ·rw[AOK (by omega),show decide ((w.2.2.2.2.2.2.1.getD i B3).1<=(w.2.2.2.2.1.length:Int))=true from AVH hle,APr]
    by_cases h0:i=0
    ·simp_all
    ·rw[AOJ (by omega),AH (by omega) (by omega),AOJ (by omega)]
     have h1:((i:Int)-1).toNat=i-1:=by omega
     have h2:(i==0)=false:=by simp_all
     rw[h1,h2,AVP];grind
   grind) (fun n hn=>by
  simp only[HB,PK,AB];simp_all) w.2.2.2.2.2.2.1.length AZ 0 (by omega) (Ac (by omega))
 rw[show((0:Nat):Int)=0 from rfl]at key;unfold To V8 cD;rw[show(w.1,w.2.1,())=Ae w from rfl,show(w.2.2.2.2.1,w.2.2.2.2.2.1,())=CQ w from rfl,Qy h.cfg (by show AS Bk w.2.2.2.2.1<=_;omega) h.trim,key];grind
theorem AAa:Xm w=some ((decide (w.2.2.2.2.2.2.2.2.2.1.length<=120)&&uv w,()),()):=by
 have k2:=h.TN;have key:=GZ (L:=fun n i=>Ku n i w.1 w.2.1 w.2.2.1 w.2.2.2.1 w.2.2.2.2.1 w.2.2.2.2.2.1 w.2.2.2.2.2.2.1 w.2.2.2.2.2.2.2.1 w.2.2.2.2.2.2.2.2.1 w.2.2.2.2.2.2.2.2.2.1 w.2.2.2.2.2.2.2.2.2.2.1) (len:=w.2.2.2.2.2.2.2.2.2.1.length) (p:=uq w) (fin:=true) (fun n i hi=>by
  have hm:=Bm (d:=Nn) hi;have VP:CB (w.2.2.2.2.2.2.2.2.2.1.getD i (0,[],false,())).1:=h.aj _ hm;simp only[Ku,Rq,AB,uq];rw[AOJ (by omega),AOJ (by omega),AH (x:=(i:Int)+1) (by omega) (by omega),show((i:Int)+1)=((i+1:Nat):Int)by omega,AO2,Ix VP,EW VP];simp only[AOv]
  show cond (!Bp (w.2.2.2.2.2.2.2.2.2.1.getD i Nn).1) _ _=_
  cases Bp (w.2.2.2.2.2.2.2.2.2.1.getD i Nn).1 with
  |false=>rfl
  |true=>
   simp only[AOx,AOk,APr];by_cases hle:Ar (w.2.2.2.2.2.2.2.2.2.1.getD i (0,[],false,())).1<=(w.2.2.2.2.1.length:Int)
   ·rw[AOK (by omega),show decide (Ar (w.2.2.2.2.2.2.2.2.2.1.getD i Nn).1<=(w.2.2.2.2.1.length:Int))=true from AVH hle,APr]
    by_cases h40:(w.2.2.2.2.2.2.2.2.2.1.getD i (0,[],false,())).2.1.length<=40
    ·rw[AOK (by omega),show decide ((w.2.2.2.2.2.2.2.2.2.1.getD i Nn).2.1.length<=40)=true from AVH h40,APr]
     by_cases h0:i=0
     ·simp_all
     ·rw[AOJ (by omega),AH (by omega) (by omega),AOJ (by omega)]
      have h1:((i:Int)-1).toNat=i-1:=by omega
      have h2:(i==0)=false:=by simp_all
      rw[h1,h2,AVP];grind
    grind
   grind) (fun n=>by
  simp only[Ku,Rq,AB];simp_all) w.2.2.2.2.2.2.2.2.2.1.length AZ 0 (by omega) (Ac (by omega))
 rw[show((0:Nat):Int)=0 from rfl]at key;unfold Xm Yj uv;grind
theorem WO:QQ w=some ((Cq w,()),()):=by
 unfold QQ Cq fA;rw[Gk w];rw[xL h,wU h,AAa h,P9,P9];simp only[AOv];by_cases h2:w.2.2.2.2.2.2.2.2.1.length=2
 all_goals grind
end
theorem dX.of{w:AA}(hv:Go.Fw.Vd lO w)(hw:Cn w<=2^20):dX w where
 weight:=hw
 BX:=fun s hs=>⟨fun e he=>wf_i64 (((hv.2.2.1.2 s hs).1).2 e he).1,fun e he=>wf_i64 (((hv.2.2.1.2 s hs).2.1).2 e he).1⟩
 trim:=wf_i64 hv.2.2.2.2.2.1
 An:=fun m hm e he=>wf_i64 (((hv.2.2.2.2.2.2.2.1.2 m hm).2.2.2.1).2 e he).1
 aj:=fun s hs=>wf_i64 (hv.2.2.2.2.2.2.2.2.2.1.2 s hs).1
theorem dX.out{w:AA}(h:dX w){i:Nat}(hi:i<w.2.2.2.2.2.2.2.2.1.length):(w.2.2.2.2.2.2.2.2.1.getD i ER).2.2.1.length<=2^20:=by
 have k:=h.lens;have h1:=AY (f:=Ak) (Bm (d:=ER) hi);have h2:=AU (f:=CL) (l:=(w.2.2.2.2.2.2.2.2.1.getD i ER).2.2.1);have h3:Ak (w.2.2.2.2.2.2.2.2.1.getD i ER)=AS CL (w.2.2.2.2.2.2.2.2.1.getD i ER).2.2.1:=rfl;omega
section
variable{w:AA} (h:dX w)
include h
end
def fnd(p:Int):List Af->List UInt8×Bool
 |[]=>([],false)
 |s::l=>cond (s.1==p) (s.2.1,true) (fnd p l)
section
variable{w:AA} (h:dX w)
include h
end
def bq(w:AA):Prop:= ∀r∈w.2.2.2.2.2.2.2.2.1,∀e∈r.2.2.1,CB e.2.1
theorem bq.of{w:AA}(hv:Go.Fw.Vd lO w):bq w:=fun r hr e he=>wf_i64 (((hv.2.2.2.2.2.2.2.2.1.2 r hr).2.2.1).2 e he).2.1
section
variable{w:AA} (h:dX w) (hev:bq w)
include h hev
end
end Go.M
end
section
namespace Go.M
open Go.M.H (AJ AO Av Af AA CW AN BD AR Ag BU BA Ao)
def HN(e o:Int):Int:=4294967296*e+o
def HE(e o:Int):Int:=if Bd e 1 30&&Bd o 1 60 then HN e o else 0
def jM(x:Int):List Int->List Int
 |[]=>[x]
 |y::l=>if x<y then x::y::l else y::jM x l
def OH(x:Int)(l:AAB):AAB:=if l.contains x then l else jM x l
def less(l m:AAB):AAB:=l.filter fun x=> !m.contains x
def Rc(c:CG)(s l:AAB):Bool:=holds c s&&(BH c l&&(l.all s.contains&& !holds c (less s l)))
def BZ(k:Int):AAB:=if Bd k 0 255 then([0,1,2,3,4,5,6,7]:AAB).filter fun i=>(k/2^i.toNat)%2==1 else[]
def better(a b:AJ):AJ:=if b.2.1>a.2.1 then b else a
def keep(e:AJ):List AJ->List AJ
 |[]=>[e]
 |x::l=>if x.1=e.1 then better x e::l else if x.1>e.1 then e::x::l else x::keep e l
def EY:List AJ->List AJ->List AJ
 |k,[]=>k
 |k,e::l=>EY (keep e k) l
def NN(k:Int):Nat->List AJ->List AJ
 |_,[]=>[]
 |i,e::l=>if(k/2^i)%2=1 then e::NN k (i+1) l else NN k (i+1) l
def OO(p:Int)(l:List AJ):Option AJ:=l.find? fun e=>e.1==p
def takes(s:AO)(e:AJ):Bool:=if e.2.1=0 then decide (Ar e.1>s.2.2.1)else decide (e.2.1>s.2.2.1)
def Hd(s:AO)(e:AJ):AO×Bool:=
 if !CN s then(EN,false)else if GG e&&(takes s e&&decide (s.2.1.length≠20))then((s.1,s.2.1++[e],s.2.2.1,()),true)else(s,false)
def GN(s:AO)(k:Int):AO×Bool:=
 if !CN s then(EN,false)else
  let q:=EY s.1 (NN k 0 s.2.1)
  if Bd k 0 1048575&&decide (q.length<=200)then((q,[],s.2.2.1,()),true)else(s,false)
def CI(s:AO):AO×Bool:=GN s 1048575
def B8(s:AO)(upto:Int):AO×Bool:=
 if !CN s then(EN,false)else
  let o:=CI s
  if o.2&&Bd upto 0 30 then((o.1.1,o.1.2.1,max o.1.2.2.1 upto,()),true)else(s,false)
def X6(s:AO)(p:Int):Option AJ:=if CN s then OO p s.1 else none
def HC(s:AO)(ep:Int):List AJ:=if CN s then s.1.filter fun e=>Ar e.1==ep else[]
def Jk(s:AO)(upto:Int):AO×Bool:=
 if !CN s then(EN,false)else if Bp upto then((s.1.filter fun e=>decide (e.1>upto),s.2.1,s.2.2.1,()),true)else(s,false)
abbrev nZ:AN:=([],0,())
def BK(l:List CW)(e:Int):AAB:=if Bd e 1 l.length then(l.getD (e-1).toNat GB).1 else[]
def JG(c:CG)(r:AN)(ns:AAB):AN×Int×Bool:=
 if !Pp c r then(nZ,0,false)else if holds c ns&&decide (r.1.length≠30)then((r.1++[(ns,false,0,())],r.2.1,()),(r.1.length:Int)+1,true)else(r,0,false)
def F5(l:List CW)(i:Nat)(last:Int):List CW:=l.set i ((l.getD i GB).1,true,last,())
def LU(c:CG)(r:AN)(b last:Int):AN×Bool:=
 if !Pp c r then(nZ,false)else
  if decide (b=r.1.length)&&(decide (BF r.1≠0)&&(decide (b≠BF r.1)&&Bd last 0 60))then((F5 r.1 (BF r.1-1).toNat last,r.2.1,()),true)else(r,false)
def Oh(c:CG)(r:AN)(p:Int):AN×Bool:=
 if !Pp c r then(nZ,false)else if Bp p&&decide (Ar p<=r.1.length)then((r.1,max r.2.1 p,()),true)else(r,false)
def CD(c:CG)(w:AR)(d:ACH):AR×Int×Bool:=
 if !EX c w then(B3,0,false)else
  if EX c (w.1,w.2.1++[(d,[],false,())],())then((w.1,w.2.1++[(d,[],false,())],()),(w.2.1.length:Int)+1,true)else(w,0,false)
def Gj(c:CG)(n:Int)(x:BD):BD:=(x.1,OH n x.2.1,holds c (OH n x.2.1),())
def SK(c:CG)(w:AR)(o n:Int):AR×Bool:=
 if !EX c w then(B3,false)else
  if Bd o 1 w.2.1.length&&(Bd n 0 ((c.1.length:Int)-1)&& !(w.2.1.getD (o-1).toNat MB).2.2.1)then((w.1,w.2.1.set (o-1).toNat (Gj c n (w.2.1.getD (o-1).toNat MB)),()),true)else(w,false)
def E5(n:Int)(x:BD):BD:=(x.1,if x.2.2.1 then x.2.1 else less x.2.1 [n],x.2.2.1,())
def CT(c:CG)(w:AR)(n:Int):AR×Bool:=
 if !EX c w then(B3,false)else((w.1,w.2.1.map (E5 n),()),true)
def cG:List BD->Nat
 |[]=>0
 |x::l=>if x.2.2.1 then cG l+1 else 0
def qB(e b:Int):Av:=(b,e,[],[],false,[],())
def Pj(c:CG)(m:Av)(n:Int)(l:List AJ):Av×Bool:=
 if !G9 c m then(Ei,false)else
  let o:Av:=(m.1,m.2.1,OH n m.2.2.1,EY m.2.2.2.1 (l.filter fun e=>Ar e.1==m.2.1),m.2.2.2.2.1,m.2.2.2.2.2.1,())
  if !m.2.2.2.2.1&&G9 c o then(o,true)else(m,false)
def MU(c:CG)(m:Av)(s:AAB):Av×Bool:=
 if !G9 c m then(Ei,false)else
  if !m.2.2.2.2.1&&Rc c s (m.2.2.1.filter s.contains)then((m.1,m.2.1,m.2.2.1,m.2.2.2.1,true,List.replicate (PL m.2.2.2.1).toNat [],()),true)else(m,false)
def Ec(m:Av)(o:Int):Option AJ:=
 if m.2.2.2.2.1&&(Bd m.2.1 1 30&&(Bd o 1 60&&decide (o<=m.2.2.2.2.2.1.length)))then
  match OO (HN m.2.1 o) m.2.2.2.1 with
  |some x=>some (HN m.2.1 o,m.1,x.2.2.1,x.2.2.2.1,())
  |none=>some (HN m.2.1 o,m.1,true,[],())
 else none
def TG(c:CG)(m:Av)(o n:Int):Av×Bool:=
 if !G9 c m then(Ei,false)else
  if Bd o 1 m.2.2.2.2.2.1.length&&Bd n 0 ((c.1.length:Int)-1)then((m.1,m.2.1,m.2.2.1,m.2.2.2.1,m.2.2.2.2.1,m.2.2.2.2.2.1.set (o-1).toNat (OH n (m.2.2.2.2.2.1.getD (o-1).toNat [])),()),true)else(m,false)
def CO(c:CG)(m:Av)(n:Int):Av×Bool:=
 if !G9 c m then(Ei,false)else((m.1,m.2.1,m.2.2.1,m.2.2.2.1,m.2.2.2.2.1,m.2.2.2.2.2.1.map fun l=>less l [n],()),true)
def QH(c:CG)(m:Av):Bool:=G9 c m&&(m.2.2.2.2.1&&m.2.2.2.2.2.1.all (holds c))
def Xe(a:BA):AJ:=(a.2.2.1,a.2.2.2.1,a.2.2.2.2.1,a.2.2.2.2.2.1,())
def IA(s:AAB)(p:Int):Option AJ->List BA->Option AJ
 |b,[]=>b
 |b,a::l=>if a.2.1&&(s.contains a.1&&(GG (Xe a)&&(Xe a).1==p))then
   IA s p (some (match b with|some x=>better x (Xe a)|none=>Xe a)) l
  else IA s p b l
def Rj(p:Int):Option AJ->BU
 |none=>(3,p,[],())
 |some x=>if x.2.2.1 then(2,p,[],())else(1,p,x.2.2.2.1,())
def C2(c:CG)(g:AN)(sure:Int)(r:Ag)(l:List BA):Ag×Int:=
 if !(Pp c g&&(bp r&&BH c (l.map fun a=>a.1)))then(ER,1)else
 if decide (r.1>g.1.length)||decide (r.2.2.1.length=120)then(r,2)else
 let era:=g.1.getD (r.1-1).toNat GB
 let p:=HN r.1 r.2.1
 if g.2.1>=p then((Ar g.2.1,DX g.2.1+1,r.2.2.1++[(5,g.2.1,[],())],()),0)else
 if era.2.1&&decide (r.2.1>era.2.2.1)then((r.1+1,1,r.2.2.1++[(4,r.1+1,[],())],()),0)else
 if(!era.2.1&&decide (r.2.1>sure))||decide (r.2.1>60)then(r,2)else
 if !Rc c era.1 ((l.map fun a=>a.1).filter era.1.contains)then(r,3)else
 ((r.1,r.2.1+1,r.2.2.1++[Rj p (IA era.1 p none l)],()),0)
def HF:List AJ->List AO->List AJ
 |k,[]=>k
 |k,s::l=>HF (EY k s.1) l
def others(lost:AAB):Nat->List AO->List AO
 |_,[]=>[]
 |i,s::l=>if lost.contains (i:Int)then others lost (i+1) l else s::others lost (i+1) l
def bJ(c:CG)(ss:List AO)(lost:AAB)(n upto:Int):AO×Bool:=
 let s:AO:=(HF [] (others lost 0 ss),[],upto,())
 if GI c&&(decide (ss.length=c.1.length)&&(BH c lost&&(!holds c lost&&(lost.contains n&&((others lost 0 ss).all CN&&CN s)))))then(s,true)else(EN,false)
end Go.M
namespace Go.M.H.AA
open Go.M.H (AJ AO Av Af AA CW AN BD AR Ag BU)
@[reducible] def BX (w:AA):List AO:=w.2.2.1
@[reducible] def lost (w:AA):AAB:=w.2.2.2.1
@[reducible] def Am (w:AA):List CW:=w.2.2.2.2.1
@[reducible] def trim (w:AA):Int:=w.2.2.2.2.2.1
@[reducible] def AQ (w:AA):List AR:=w.2.2.2.2.2.2.1
@[reducible] def An (w:AA):List Av:=w.2.2.2.2.2.2.2.1
@[reducible] def AX (w:AA):List Ag:=w.2.2.2.2.2.2.2.2.1
@[reducible] def Ai (w:AA):List Af:=w.2.2.2.2.2.2.2.2.2.1
@[reducible] def GP (w:AA):Bool:=w.2.2.2.2.2.2.2.2.2.2.1
@[reducible] def CV (w:AA) (x:List AO):AA:=(w.1,w.2.1,x,w.2.2.2)
@[reducible] def Fb (w:AA) (x:AAB):AA:=(w.1,w.2.1,w.2.2.1,x,w.2.2.2.2)
@[reducible] def JB (w:AA) (x:AN):AA:=(w.1,w.2.1,w.2.2.1,w.2.2.2.1,x.1,x.2.1,w.2.2.2.2.2.2)
@[reducible] def Bl (w:AA) (x:List AR):AA:=(w.1,w.2.1,w.2.2.1,w.2.2.2.1,w.2.2.2.2.1,w.2.2.2.2.2.1,x,w.2.2.2.2.2.2.2)
@[reducible] def Cy (w:AA) (x:List Av):AA:=(w.1,w.2.1,w.2.2.1,w.2.2.2.1,w.2.2.2.2.1,w.2.2.2.2.2.1,w.2.2.2.2.2.2.1,x,w.2.2.2.2.2.2.2.2)
@[reducible] def DN (w:AA) (x:List Ag):AA:=(w.1,w.2.1,w.2.2.1,w.2.2.2.1,w.2.2.2.2.1,w.2.2.2.2.2.1,w.2.2.2.2.2.2.1,w.2.2.2.2.2.2.2.1,x,w.2.2.2.2.2.2.2.2.2)
@[reducible] def Ax (w:AA) (x:List Af):AA:=(w.1,w.2.1,w.2.2.1,w.2.2.2.1,w.2.2.2.2.1,w.2.2.2.2.2.1,w.2.2.2.2.2.2.1,w.2.2.2.2.2.2.2.1,w.2.2.2.2.2.2.2.2.1,x,w.2.2.2.2.2.2.2.2.2.2)
@[reducible] def Fj (w:AA) (x:Bool):AA:=(w.1,w.2.1,w.2.2.1,w.2.2.2.1,w.2.2.2.2.1,w.2.2.2.2.2.1,w.2.2.2.2.2.2.1,w.2.2.2.2.2.2.2.1,w.2.2.2.2.2.2.2.2.1,w.2.2.2.2.2.2.2.2.2.1,x,())
end Go.M.H.AA
namespace Go.M
open Go.M.H (AJ AO Av Af AA CW AN BD AR Ag BU BA Ao)
def ON:AA:=([],0,[],[],[],0,[],[],[],[],false,())
def bQ(c:CG):AA:=(c.1,c.2.1,List.replicate c.1.length EN,[],[],0,[],[],[(1,1,[],()),(1,1,[],())],[],false,())
def gP(k:Int):Bool×Bool×Bool×Bool:=
 if k=8\/k=10\/k=12 then(false,false,false,false)
 else if k=2 then(true,false,false,true)
 else if k=3 then(true,true,true,false)
 else if k=5\/k=14 then(true,true,false,false)
 else if k=11 then(false,true,true,false)
 else(true,false,false,false)
def OP(d:Ao):Bool:=
 Bd d.1 1 16&&(((gP d.1).1||d.2.1==0)&&(((gP d.1).2.1||d.2.2.1==0)&&(((gP d.1).2.2.1||d.2.2.2.1==0)&&(((gP d.1).2.2.2||d.2.2.2.2.1==[])&&decide (d.2.2.2.2.1.length<=40)))))
abbrev Yl:Type:=AA×Int
def Ay(w:AA)(n:Int):Int:=if !Bd n 0 ((w.BX.length:Int)-1)then 2 else if w.lost.contains n then 3 else 0
def M9(w:AA)(a:Int):Yl:=
 if w.AQ.length=4 then(w,4)else
 let q:=JG (Ae w) (CQ w) (BZ a)
 if !q.2.2 then(w,4)else(((w.JB q.1).Bl (w.AQ++[(q.2.1,[],())])).Cy [],0)
def af(s:Af):List Af->List Af
 |[]=>[s]
 |x::l=>if x.1>s.1 then s::x::l else x::af s l
def doAdd(w:AA)(a:Int)(d:ACH):Yl:=
 if !Bd a 0 ((w.AQ.length:Int)-1)then(w,2)else
 let x:=w.AQ.getD a.toNat B3
 let q:=CD (Ae w) x d
 if !q.2.2||(decide (w.Ai.length=120)||w.Ai.any fun s=>s.1==HN x.1 q.2.1)then(w,4)else
 ((w.Bl (w.AQ.set a.toNat q.1)).Ax (af (HN x.1 q.2.1,d,false,()) w.Ai),0)
def putAt(w:AA)(n:Int)(q:AO×Bool):Yl:=if q.2 then(w.CV (w.BX.set n.toNat q.1),0)else(w,4)
def storeAt(w:AA)(n:Int):AO:=w.BX.getD n.toNat EN
def JL(w:AA)(a b n:Int):Yl:=
 if !Bd a 0 ((w.AQ.length:Int)-1)then(w,2)else
 let x:=w.AQ.getD a.toNat B3
 if !Bd b 1 x.2.1.length then(w,2)else
 if Ay w n≠0 then(w,Ay w n)else
 if !(BK w.Am x.1).contains n then(w,2)else
 putAt w n (Hd (storeAt w n) (HN x.1 b,0,false,(x.2.1.getD (b-1).toNat MB).1,()))
def OD(s:AO)(p:Int):Bool:=match OO p s.1 with|some e=>e.2.1==0|none=>false
def Bu(c:CG)(s:AO)(ep n:Int):Int->List BD->List BD
 |_,[]=>[]
 |o,x::l=>(if !x.2.2.1&&OD s (HN ep o)then Gj c n x else x)::Bu c s ep n (o+1) l
def ae(l:List BD)(o:Int):Bool:=Bd o 1 l.length&&(l.getD (o-1).toNat MB).2.2.1
def QZ(all:Bool)(ep:Int)(old new:List BD)(s:Af):Af:=
 (s.1,s.2.1,s.2.2.1||(Ar s.1==ep&&(ae new (DX s.1)&&(all|| !ae old (DX s.1)))),())
def aa(s:AO)(l:List CW)(n:Int)(x:AR):Bool:=(BK l x.1).contains n&&decide (s.2.2.1<x.1)
def EV(all:Bool)(c:CG)(s:AO)(l:List CW)(n:Int):List AR->List Af->List AR×List Af
 |[],ss=>([],ss)
 |x::ws,ss=>
  if aa s l n x then
   let new:=Bu c s x.1 n 1 x.2.1
   let q:=EV all c s l n ws (ss.map (QZ all x.1 x.2.1 new))
   ((x.1,new,())::q.1,q.2)
  else
   let q:=EV all c s l n ws ss
   (x::q.1,q.2)
def VO(m:Av)(s:AO)(o:Int):Bool:=match Ec m o with|some e=>OO e.1 s.1==some e|none=>false
def Fu(m:Av)(s:AO)(n:Int):Int->List AAB->List AAB
 |_,[]=>[]
 |o,x::l=>(if VO m s o then OH n x else x)::Fu m s n (o+1) l
def Mt(s:AO)(l:List CW)(n:Int)(m:Av):Av:=
 if(BK l m.2.1).contains n then(m.1,m.2.1,m.2.2.1,m.2.2.2.1,m.2.2.2.2.1,Fu m s n 1 m.2.2.2.2.2.1,())else m
def Mr(all:Bool)(w:AA)(n:Int):Yl:=
 if Ay w n≠0 then(w,Ay w n)else
 let q:=CI (storeAt w n)
 if !q.2 then(w,4)else
 let t:=EV all (Ae w) q.1 w.Am n w.AQ w.Ai
 ((((w.CV (w.BX.set n.toNat q.1)).Bl t.1).Ax t.2).Cy (w.An.map (Mt q.1 w.Am n)),0)
def JM(w:AA)(n k:Int):Yl:=if Ay w n≠0 then(w,Ay w n)else putAt w n (GN (storeAt w n) k)
def NR(w:AA)(n:Int):Yl:=
 if Ay w n≠0 then(w,Ay w n)else
 let ls:=OH n w.lost
 (((((w.CV (w.BX.set n.toNat EN)).Fb ls).Bl (w.AQ.map fun x=>(CT (Ae w) x n).1)).Cy (w.An.map fun m=>(CO (Ae w) m n).1)).Fj (w.GP||holds (Ae w) ls),0)
def NT(w:AA)(n:Int):Yl:=
 if !w.lost.contains n then(w,2)else
 let q:=bJ (Ae w) w.BX w.lost n (max ((w.Am.length:Int)-1) 0)
 if !q.2 then(w,4)else((w.CV (w.BX.set n.toNat q.1)).Fb (less w.lost [n]),0)
def Jr(w:AA):Yl:=
 if decide ((w.Am.length:Int)<2)||decide (BF w.Am=w.Am.length)then(w,2)else
 if w.An.length>0 then(w,4)else(w.Cy [qB (BF w.Am) w.Am.length],0)
def La(w:AA)(n:Int):Yl:=
 match w.An with
 |[]=>(w,2)
 |m::ms=>
  if Ay w n≠0 then(w,Ay w n)else
  if !(BK w.Am m.2.1).contains n then(w,2)else
  let q:=B8 (storeAt w n) (m.1-1)
  let t:=Pj (Ae w) m n (HC q.1 m.2.1)
  if !q.2|| !t.2 then(w,4)else((w.CV (w.BX.set n.toNat q.1)).Cy (t.1::ms),0)
def Jx(w:AA):Yl:=
 match w.An with
 |[]=>(w,2)
 |m::ms=>
  let t:=MU (Ae w) m (BK w.Am m.2.1)
  if !t.2 then(w,4)else(w.Cy (t.1::ms),0)
def Q2(w:AA)(b n:Int):Yl:=
 match w.An with
 |[]=>(w,2)
 |m::ms=>
  match Ec m b with
  |none=>(w,2)
  |some e=>
   if Ay w n≠0 then(w,Ay w n)else
   if !(BK w.Am m.2.1).contains n then(w,2)else putAt w n (Hd (storeAt w n) e)
def Im(w:AA):Yl:=
 match w.An with
 |[]=>(w,2)
 |m::ms=>
  if !QH (Ae w) m then(w,5)else
  let q:=LU (Ae w) (CQ w) m.1 m.2.2.2.2.2.1.length
  if !q.2 then(w,4)else((w.JB q.1).Cy [],0)
def PB(w:AA)(a:Int):Yl:=
 let q:=Oh (Ae w) (CQ w) a
 if !q.2 then(w,4)else(w.JB q.1,0)
def answer(w:AA)(p n:Int):BA:=
 match OO p (storeAt w n).1 with
 |some e=>(n,true,e.1,e.2.1,e.2.2.1,e.2.2.2.1,())
 |none=>(n,false,0,0,false,[],())
def answers(w:AA)(p:Int)(ns:AAB):List BA:=(ns.filter fun n=>Ay w n==0).map (answer w p)
def dF(w:AA)(e:Int):Int:=match w.AQ.find? (fun x=>x.1==e)with|some x=>cG x.2.1|none=>0
def IY(w:AA)(a k:Int):Yl:=
 if !Bd a 0 1 then(w,2)else
 let r:=w.AX.getD a.toNat ER
 let q:=C2 (Ae w) (CQ w) (dF w r.1) r (answers w (HN r.1 r.2.1) (BZ k))
 if q.2≠0 then(w,5)else(w.DN (w.AX.set a.toNat q.1),0)
def OQ(w:AA)(a:Int):Yl:=
 if !Bd a 0 ((w.AQ.length:Int)-1)then(w,2)else(w.Bl (w.AQ.eraseIdx a.toNat),0)
def JI(w:AA)(n:Int):Yl:=if Ay w n≠0 then(w,Ay w n)else putAt w n (Jk (storeAt w n) w.trim)
def K9(all:Bool)(w:AA)(d:Ao):Yl:=
 if d.1=1 then M9 w d.2.1 else
 if d.1=2 then doAdd w d.2.1 d.2.2.2.2.1 else
 if d.1=3 then JL w d.2.1 d.2.2.1 d.2.2.2.1 else
 if d.1=4 then Mr all w d.2.1 else
 if d.1=5 then JM w d.2.1 d.2.2.1 else
 if d.1=6 then NR w d.2.1 else
 if d.1=7 then NT w d.2.1 else
 if d.1=8 then Jr w else
 if d.1=9 then La w d.2.1 else
 if d.1=10 then Jx w else
 if d.1=11 then Q2 w d.2.2.1 d.2.2.2.1 else
 if d.1=12 then Im w else
 if d.1=13 then PB w d.2.1 else
 if d.1=14 then IY w d.2.1 d.2.2.1 else
 if d.1=15 then OQ w d.2.1 else JI w d.2.1
def BJ(all:Bool)(w:AA)(d:Ao):Yl:=if !Cq w|| !OP d then(ON,1)else K9 all w d
end Go.M
end
section
set_option maxRecDepth 8000
namespace Go.M
open Go.M.H (AA AJ AN AO AR AS AU AY Af Ag Ah Aj Ak Ao Aq Av Az BA BD BU Bk C8 CK CL CW Cn D9 f_ qx yu)
theorem SY{p:Nat->Bool}{n:Nat}:E4 p 0 n=true↔ ∀i,i<n->p i=true:=
 ⟨fun h i hi=>Tw h i (by omega) (by omega),fun h=>qY fun j _ hj=>h j (by omega)⟩
theorem Ph{α:Type}{l:List α}{i:Nat}{d:α}(h:i<l.length):l.getD i d=l[i]:=by simp_all
theorem Tl{α:Type}{l:List α}{d:α}{P:α->Prop}:(∀i,i<l.length->P (l.getD i d))↔ ∀x∈l,P x:=by
 constructor
 ·intro h x hx
  obtain⟨i,hi,rfl⟩:=AVO hx;simp_all
 simp_all
abbrev WD{α:Type}(f:α->Int)(l:List α):Prop:=l.Pairwise fun a b=>f a<f b
theorem gN{α:Type}{f:α->Int}{l:List α}{d:α}:(∀i,i<l.length->i=0\/f (l.getD (i-1) d)<f (l.getD i d))↔WD f l:=by
 constructor
 ·intro h
  unfold WD;rw[List.pairwise_iff_getElem];have key:∀(k i:Nat),i+k+1<l.length->f (l.getD i d)<f (l.getD (i+k+1) d):=by
   intro k
   induction k with
   |zero=>
    grind
   |succ k ih=>
    grind
  intro i j hi hj hij;have:=key (j-i-1) i (by omega);grind
 grind[List.pairwise_iff_getElem,Ph]
theorem As{x a b:Int}:Bd x a b=true↔a<=x/\x<=b:=by simp[Bd]
theorem yx{l:AAB}{hi:Int}:sS l hi=true↔(∀x∈l,0<=x/\x<=hi)/\WD id l:=by
 unfold sS;rw[SY,<-Tl (d:=(0:Int)) (P:=fun x=>0<=x/\x<=hi),<-gN (d:=(0:Int))];simp only[vQ,AOw,As,AVX,AVi,APo,id];grind
theorem FA{c:CG}{l:AAB}:BH c l=true↔GI c=true/\(∀x∈l,0<=x/\x<c.1.length)/\WD id l:=by
 unfold BH;rw[AOw,yx];grind
theorem vZ{l:List AJ}:X_ l=true↔ ∀e∈l,GG e=true:=by
 unfold X_;rw[SY];exact Tl (P:=fun e=>GG e=true)
theorem xU{l:List AJ}:lG l=true↔WD (fun e:AJ=>e.1) l:=by
 unfold lG;rw[SY,<-gN (d:=D6)];simp_all
structure dO (s:AO):Prop where
 nk:s.1.length<=200
 kept:∀e∈s.1,GG e=true
 nl:s.2.1.length<=20
 late:∀e∈s.2.1,GG e=true
 tf:WD (fun e:AJ=>e.1) s.1
 sl:0<=s.2.2.1/\s.2.2.1<=30
theorem De{s:AO}:CN s=true↔dO s:=by
 unfold CN;simp only[AOw,APo,vZ,xU,As];exact⟨fun⟨⟨a,b⟩,⟨c,d⟩,e,f⟩=>⟨a,b,c,d,e,f⟩,fun h=>⟨⟨h.nk,h.kept⟩,⟨h.nl,h.late⟩,h.tf,h.sl⟩⟩
structure EOk (e:AJ):Prop where
 pl:Bp e.1=true
 w0:0<=e.2.1/\e.2.1<=30
 w1:0<e.2.1->Ar e.1<e.2.1
 len:e.2.2.2.1.length<=40
 hole:e.2.2.1=true->0<e.2.1/\e.2.2.2.1=[]
theorem Fp{e:AJ}:GG e=true↔EOk e:=by
 unfold GG;simp only[AOw,AVX,AVg,APo,AW8,As,AVi];constructor
 ·rintro⟨a,b,c,d,e⟩
  refine⟨a,b,fun h=>c.resolve_left fun hn=>hn h,d,fun h=>e.resolve_left fun hn=> ?_⟩;simp_all
 ·intro h
  refine⟨h.pl,h.w0,?_,h.len,?_⟩
  ·by_cases hw:0<e.2.1
   ·exact .inr (h.w1 hw)
   omega
  ·cases hh:e.2.2.1 with
   |false=>simp_all
   |true=>exact .inr (h.hole hh)
structure lx (c:CG) (m:Av):Prop where
 cfg:GI c=true
 ep:1<=m.2.1/\m.2.1<=30
 b:m.2.1+1<=m.1/\m.1<=30
 zx:BH c m.2.2.1=true
 tf:WD (fun e:AJ=>e.1) m.2.2.2.1
 seen:∀e∈m.2.2.2.1,GG e=true/\Ar e.1=m.2.1/\e.2.1<m.1
 wrote:∀l∈m.2.2.2.2.2.1,BH c l=true
 n:(m.2.2.2.2.2.1.length:Int)=if m.2.2.2.2.1 then PL m.2.2.2.1 else 0
theorem G8{c:CG}{m:Av}:G9 c m=true↔lx c m:=by
 unfold G9 uc r6;simp only[AOw,As,xU,SY,ue,AVi,APo];rw[Tl (d:=D6) (P:=fun e=>GG e=true/\Ar e.1=m.2.1/\e.2.1<m.1),Tl (d:=([]:AAB)) (P:=fun l=>BH c l=true)];have:(m.2.2.2.2.2.1.length:Int)=cond m.2.2.2.2.1 (PL m.2.2.2.1) 0↔(m.2.2.2.2.2.1.length:Int)=if m.2.2.2.2.1 then PL m.2.2.2.1 else 0:=by
  grind
 rw[this];exact⟨fun⟨a,b,c,d,e,f,g,h⟩=>⟨a,b,c,d,e,f,g,h⟩,fun h=>⟨h.cfg,h.ep,h.b,h.zx,h.tf,h.seen,h.wrote,h.n⟩⟩
structure ROk (c:CG) (r:AN):Prop where
 cfg:GI c=true
 n:r.1.length<=30
 trim:r.2.1=0\/(Bp r.2.1=true/\Ar r.2.1<=r.1.length)
 Am:∀e∈r.1,holds c e.1=true/\(0<=e.2.2.1/\e.2.2.1<=60)/\(e.2.1=false->e.2.2.1=0)
 down:∀i,i<r.1.length->(r.1.getD i GB).2.1=true->i+1<r.1.length/\ ∀j,j<i->(r.1.getD j GB).2.1=true
theorem Ke{c:CG}{r:AN}:Pp c r=true↔ROk c r:=by
 unfold Pp ix;simp only[AOw,APo,AVX,AVi,SY,wM,ri,As,AVg,Bool.and_eq_false_iff,Bool.or_eq_false_iff,AW8,AS2];constructor
 ·rintro⟨a,b,c1,d⟩
  refine⟨a,b,c1,(Tl (d:=GB) (P:=fun e=>holds c e.1=true/\(0<=e.2.2.1/\e.2.2.1<=60)/\(e.2.1=false->e.2.2.1=0))).1 fun i hi=> ?_,fun i hi hc=> ?_⟩
  ·grind
  ·have step:∀k,k<r.1.length->(r.1.getD k GB).2.1=true->k+1<r.1.length/\(0<k->(r.1.getD (k-1) GB).2.1=true):=fun k hk hkc=>by
    rcases(d k hk).2 with h|⟨h1,h2⟩
    ·simp_all
    ·refine⟨by omega,fun h0=> ?_⟩
     simp_all
   refine⟨(step i hi hc).1,?_⟩;clear hi
   induction i with
   |zero=>omega
   |succ i ih=>
    intro j hj;have Du:i+1<r.1.length:=by
     rcases Nat.lt_or_ge (i+1) r.1.length with h|h
     ·omega
     ·simp[List.getD,h]at hc
      cases hc
    grind
 ·intro h
  refine⟨h.cfg,h.n,h.trim,fun i hi=>⟨?_,?_⟩⟩
  ·obtain⟨h1,h2,h3⟩:=h.Am _ (Bm (d:=GB) hi)
   grind
  ·cases hb:(r.1.getD i GB).2.1 with
   |false=>simp_all
   |true=>
    obtain⟨h1,h2⟩:=h.down i hi hb;grind
structure cX (c:CG) (w:AR):Prop where
 cfg:GI c=true
 ep:1<=w.1/\w.1<=30
 n:w.2.1.length<=60
 words:∀x∈w.2.1,x.1.length<=40/\BH c x.2.1=true/\x.2.2.1=holds c x.2.1
 opn:SZ w.2.1<=6
theorem JC{c:CG}{w:AR}:EX c w=true↔cX c w:=by
 unfold EX le6 XN;simp only[AOw,APo,As,AVk,AVi];exact⟨fun⟨a,b,c,d,e⟩=>⟨a,b,c,d,e⟩,fun h=>⟨h.cfg,h.ep,h.n,h.words,h.opn⟩⟩
structure ALm (r:Ag):Prop where
 ep:1<=r.1/\r.1<=31
 off:1<=r.2.1/\r.2.1<=61
 n:r.2.2.1.length<=120
theorem Uy{r:Ag}:bp r=true↔ALm r:=by
 unfold bp;simp only[AOw,APo,As];exact⟨fun⟨a,b,c⟩=>⟨a,b,by omega⟩,fun h=>⟨h.ep,h.off,by have:=h.n;omega⟩⟩
structure KU (w:AA):Prop where
 cfg:GI (Ae w)=true
 sn:w.BX.length=w.1.length
 lost:BH (Ae w) w.lost=true
 GP:w.GP=true\/holds (Ae w) w.lost=false
 BX:∀i,i<w.BX.length->dO (w.BX.getD i EN)/\((i:Int)∈w.lost->w.BX.getD i EN=EN)
 jx:ROk (Ae w) (CQ w)
 tK:w.AQ.length<=4
 xO:w.An.length<=1
 AQ:∀x∈w.AQ,cX (Ae w) x/\x.1<=w.Am.length
 gg:WD (fun x:AR=>x.1) w.AQ
 An:∀m∈w.An,lx (Ae w) m/\m.1=w.Am.length/\m.2.1=BF w.Am
 sg:w.AX.length=2
 AX:∀r∈w.AX,ALm r
 SF:w.Ai.length<=120
 Ai:∀s∈w.Ai,Bp s.1=true/\Ar s.1<=w.Am.length/\s.2.1.length<=40
 an:WD (fun s:Af=>s.1) w.Ai
theorem Co{w:AA}:Cq w=true↔KU w:=by
 unfold Cq;simp only[AOw,APo,gA,cD,jN,uv,fA,SY,mF,gC,uZ,uq,AVX,AVg,AVi,De,Ke,JC,G8,Uy];have hz:∀s:AO,(s.1.length=0/\s.2.1.length=0/\s.2.2.1=0)↔s=EN:=fun s=>by
  grind
 simp only[hz];constructor
 ·rintro⟨h1,h2,h3,h4,h5,h6,h7,h8,h9,h10,⟨h11,h12,h13⟩,h14,h15⟩
  refine⟨h1,h2,h3,h4,fun i hi=>⟨(h5 i hi).1,fun hm=>(h5 i hi).2.resolve_left fun hc=> ?_⟩,h6,h7,h8,?_,?_,?_,h11,?_,h14,?_,?_⟩
  ·simp_all
  ·exact(Tl (d:=B3) (P:=fun x:AR=>cX (Ae w) x/\x.1<=w.Am.length)).1 fun i hi=>⟨(h9 i hi).1,(h9 i hi).2.1⟩
  ·exact(gN (f:=fun x:AR=>x.1) (d:=B3)).1 fun i hi=>(h9 i hi).2.2
  ·exact(Tl (d:=Ei) (P:=fun m:Av=>lx (Ae w) m/\m.1=w.Am.length/\m.2.1=BF w.Am)).1 h10
  ·refine(Tl (d:=ER) (P:=ALm)).1 fun i hi=> ?_
   rw[h11]at hi;rcases(by omega:i=0\/i=1)with rfl|rfl
   all_goals omega
  ·exact(Tl (d:=Nn) (P:=fun s:Af=>Bp s.1=true/\Ar s.1<=w.Am.length/\s.2.1.length<=40)).1 fun i hi=>⟨(h15 i hi).1.1,(h15 i hi).1.2,(h15 i hi).2.1⟩
  ·exact(gN (f:=fun s:Af=>s.1) (d:=Nn)).1 fun i hi=>(h15 i hi).2.2
 ·intro h
  refine⟨h.cfg,h.sn,h.lost,h.GP,fun i hi=>⟨(h.BX i hi).1,?_⟩,h.jx,h.tK,h.xO,fun i hi=> ?_,fun i hi=>h.An _ (Bm hi),⟨h.sg,h.AX _ (Bm (by rw[h.sg];omega)),h.AX _ (Bm (by rw[h.sg];omega))⟩,h.SF,fun i hi=> ?_⟩
  ·by_cases hm:(i:Int)∈w.lost
   ·exact .inr ((h.BX i hi).2 hm)
   simp_all
  ·have:=h.AQ _ (Bm (d:=B3) hi)
   exact⟨this.1,this.2,(gN (f:=fun x:AR=>x.1) (d:=B3)).2 h.gg i hi⟩
  ·have:=h.Ai _ (Bm (d:=Nn) hi)
   exact⟨⟨this.1,this.2.1⟩,this.2.2,(gN (f:=fun s:Af=>s.1) (d:=Nn)).2 h.an i hi⟩
theorem rz{x y:Int}:∀{l:AAB},y∈jM x l↔y=x\/y∈l
 |[]=>by simp[jM]
 |z::l=>by
  simp only[jM];split
  ·simp
  ·simp only[ASY,rz (l:=l)]
   grind
theorem xj{x:Int}:∀{l:AAB},WD id l->x∉l->WD id (jM x l)
 |[],_,_=>by simp[jM,WD]
 |z::l,h,hx=>by
  simp only[WD,AVM,id]at h;simp only[ASY,not_or]at hx;simp only[jM];split
  ·rename_i hz
   simp only[WD,AVM,ASY,id];grind
  ·rename_i hz
   simp only[WD,AVM,id];refine⟨fun a ha=> ?_,xj h.2 hx.2⟩;rcases rz.1 ha with rfl|ha
   all_goals grind
theorem wz{x y:Int}{l:AAB}:y∈OH x l↔y=x\/y∈l:=by
 unfold OH;split
 ·simp_all
 ·exact rz
theorem AFj{x:Int}{l:AAB}(h:WD id l):WD id (OH x l):=by
 grind[OH,xj]
theorem LF{c:CG}{x:Int}{l:AAB}(h:BH c l=true)(hx:0<=x/\x<c.1.length):BH c (OH x l)=true:=by
 rw[FA]at h|-;refine⟨h.1,fun y hy=> ?_,AFj h.2.2⟩;rcases wz.1 hy with rfl|hy
 all_goals simp_all
theorem TY{c:CG}{l:AAB}(p:Int->Bool)(h:BH c l=true):BH c (l.filter p)=true:=by
 grind[FA]
theorem rl{x:Int}{l m:AAB}:x∈less l m↔x∈l/\x∉m:=by simp[less]
theorem Zs{c:CG}(h:GI c=true):BH c []=true:=FA.2 ⟨h,fun _ h=>by simp at h,List.Pairwise.nil⟩
theorem AHQ{l m:AAB}(h:l.Nodup)(hs:∀x∈l,x∈m):l.length<=m.length:=by
 induction l generalizing m with
 |nil=>simp
 |cons a l ih=>
  rw[AZO]at h;have ha:=hs a (by simp);have:=ih (m:=m.erase a) h.2 fun x hx=>(List.mem_erase_of_ne (fun e:x=a=>h.1 (by simp_all))).2 (hs x (by simp[hx]))
  grind
theorem wx{c:AAB}{d:Int}:∀{l acc:AAB},d∈ky c l acc↔d∈acc\/ ∃n∈l,c.getD n.toNat 0=d
 |[],acc=>by simp[ky]
 |n::l,acc=>by
  simp only[ky];rw[wx (l:=l)];grind
theorem rZ{c:AAB}:∀{l acc:AAB},acc.Nodup->(ky c l acc).Nodup
 |[],acc,h=>h
 |n::l,acc,h=>by
  simp only[ky];refine rZ ?_
  grind
theorem xK{c l m:AAB}(h:∀x∈l,x∈m):cO c l<=cO c m:=by
 refine AHQ (rZ List.nodup_nil) fun d hd=> ?_
 grind[wx]
theorem qb{c:CG}{l m:AAB}(hl:holds c l=true)(hm:BH c m=true)(h:∀x∈l,x∈m):holds c m=true:=by
 simp only[holds,AOw,APo]at hl|-;have:=xK (c:=c.1) h;grind
def AGG(c:CG)(S:Int->Prop):Prop:= ∃l,holds c l=true/\ ∀n∈l,S n
theorem holds_nil{c:CG}:holds c []=false:=by
 rw[AWt];intro h;have hc:=(FA.1 (V1 h)).1;have:=(D8 hc).2.2.1;simp only[holds,AOw,APo,cO,ky]at h;grind
theorem ADJ{a b:AJ}(h:a.1=b.1):(better a b).1=b.1:=by grind[better]
theorem ft{e y:AJ}:∀{l:List AJ},y∈keep e l->y=e\/y∈l
 |[],h=>by simpa[keep]using h
 |x::l,h=>by
  simp only[keep]at h;split at h
  ·rcases ASY.1 h with rfl|h
   all_goals grind[better]
  ·split at h
   ·simp_all
   ·rcases ASY.1 h with rfl|h
    ·simp
    ·rcases ft h with h|h<;>simp[h]
theorem AJe{e y:AJ}{l:List AJ}(h:y∈keep e l):y.1=e.1\/ ∃z∈l,z.1=y.1:=by
 rcases ft h with rfl|h
 all_goals grind
theorem Yw{e:AJ}:∀{l:List AJ},(keep e l).length<=l.length+1/\l.length<=(keep e l).length
 |[]=>by simp[keep]
 |x::l=>by
  have:=Yw (e:=e) (l:=l);grind[keep,List.length_cons]
abbrev gp(l:List AJ):Prop:=WD (fun e:AJ=>e.1) l
theorem ea{e:AJ}:∀{l:List AJ},gp l->gp (keep e l)
 |[],_=>by simp[keep,WD]
 |x::l,h=>by
  have h':=h;simp only[WD,AVM]at h;simp only[keep];split
  ·rename_i hx
   simp only[gp,WD,AVM];grind[ADJ]
  ·split
   ·rename_i hx
    simp only[gp,WD,AVM,ASY];grind
   ·rename_i h1 h2
    simp only[gp,WD,AVM];refine⟨fun a ha=> ?_,ea h.2⟩;grind[AJe]
theorem uP{p:Int}{l:List AJ}{e:AJ}(h:OO p l=some e):e∈l/\e.1=p:=by
 grind[OO,List.mem_of_find?_eq_some]
theorem oI{e:AJ}:∀{l:List AJ},gp l->e∈l->OO e.1 l=some e
 |x::l,h,he=>by
  simp only[WD,AVM]at h;unfold OO;rw[AZZ];rcases ASY.1 he with rfl|he
  ·simp
  ·have:=h.1 e he
   have ew:(x.1==e.1)=false:=by grind
   rw[ew];exact oI h.2 he
theorem fC{y:AJ}:∀{l k:List AJ},y∈EY k l->y∈k\/y∈l
 |[],k,h=> .inl h
 |e::l,k,h=>by
  rcases fC (l:=l) h with h|h
  ·rcases ft h with rfl|h
   all_goals simp_all
  simp_all
theorem eV:∀{l k:List AJ},gp k->gp (EY k l)
 |[],k,h=>h
 |e::l,k,h=>eV (l:=l) (ea h)
theorem fh{k:Int}{y:AJ}:∀{l:List AJ} {i:Nat},y∈NN k i l->y∈l
 |[],_,h=>h
 |e::l,i,h=>by
  simp only[NN]at h;split at h
  ·rcases ASY.1 h with rfl|h
   ·simp
   ·simp[fh h]
  ·simp[fh h]
theorem Jn{e o:Int}(he:1<=e/\e<=30)(ho:1<=o/\o<=60):Bp (HN e o)=true/\Ar (HN e o)=e/\DX (HN e o)=o:=by
 have h1:Yp (HN e o)=e:=by
  grind[Yp,HN,Int.tdiv_eq_ediv_of_nonneg]
 have h2:(HN e o).tmod 4294967296=o:=by
  grind[HN,Int.tmod_eq_emod_of_nonneg]
 have h3:Bp (HN e o)=true:=by
  unfold Bp;rw[h1,h2,AOw,As,As];omega
 exact⟨h3,by unfold Ar;simp_all,by unfold DX;simp_all⟩
theorem HX{p:Int}(h:Bp p=true):(1<=Ar p/\Ar p<=30)/\(1<=DX p/\DX p<=60)/\HN (Ar p) (DX p)=p:=by
 have h0:=ef h;have h1:=h;unfold Bp at h1;rw[AOw,As,As]at h1;have e1:Ar p=Yp p:=by unfold Ar;rw[AOJ h]
 grind[DX,HN,Yp,Int.tdiv_eq_ediv_of_nonneg,Int.tmod_eq_emod_of_nonneg]
theorem dO.nil:dO EN:=⟨by simp,by simp,by simp,by simp,List.Pairwise.nil,by simp⟩
theorem fN{s:AO}{e:AJ}(h:(Hd s e).2=true):dO (Hd s e).1/\(Hd s e).1=(s.1,s.2.1++[e],s.2.2.1,())/\GG e=true/\takes s e=true:=by
 unfold Hd at*;split at h
 ·cases h
 rename_i hs;rw[AOK hs];simp only[ASw,AS2]at hs;rw[De]at hs;split at h
 case isFalse=>cases h
 rename_i h1;rw[AOJ h1];simp only[AOw,APo]at h1;obtain⟨he,ht,hl⟩:=h1;refine⟨⟨hs.nk,hs.kept,?_,fun x hx=> ?_,hs.tf,hs.sl⟩,rfl,he,ht⟩
 ·have:=hs.nl
  grind
 ·simp only[ARh,AU4]at hx
  rcases hx with hx|rfl
  ·exact hs.late x hx
  omega
theorem N2{s:AO}{k:Int}(h:(GN s k).2=true):dO s/\dO (GN s k).1/\(GN s k).1=(EY s.1 (NN k 0 s.2.1),[],s.2.2.1,()):=by
 unfold GN at*;split at h
 ·cases h
 rename_i hs;rw[AOK hs];simp only[ASw,AS2]at hs;rw[De]at hs;simp only at h|-;split at h
 case isFalse=>cases h
 rename_i h1;rw[AOJ h1];simp only[AOw,APo]at h1;refine⟨hs,⟨h1.2,fun e he=> ?_,by simp,by simp,eV hs.tf,hs.sl⟩,rfl⟩;rcases fC he with he|he
 ·exact hs.kept e he
 ·exact hs.late e (fh he)
theorem ke{s:AO}{u:Int}(h:(B8 s u).2=true):dO s/\dO (B8 s u).1/\(B8 s u).1=(EY s.1 (NN 1048575 0 s.2.1),[],max s.2.2.1 u,())/\0<=u/\u<=30:=by
 unfold B8 at*;split at h
 ·cases h
 rename_i hs;rw[AOK hs];simp only[ASw,AS2]at hs;simp only at h|-;split at h
 case isFalse=>cases h
 rename_i h1;rw[AOJ h1];simp only[AOw,As]at h1;obtain⟨k1,k2,k3⟩:=N2 h1.1;have jz:(CI s).1=_:=k3;rw[jz];refine⟨k1,⟨?_,?_,by simp,by simp,eV k1.tf,?_⟩,rfl,h1.2⟩
 ·have:=k2.nk;simp_all
 ·have:=k2.kept;simp_all
 ·have:=k1.sl
  grind
theorem vN{s:AO}{u:Int}(h:(Jk s u).2=true):dO s/\dO (Jk s u).1/\(Jk s u).1=(s.1.filter fun e=>decide (e.1>u),s.2.1,s.2.2.1,()):=by
 unfold Jk at*;split at h
 ·cases h
 rename_i hs;rw[AOK hs];simp only[ASw,AS2]at hs;rw[De]at hs;split at h
 case isFalse=>cases h
 rename_i h1;rw[AOJ h1];refine⟨hs,⟨AVG (AUc _ _) hs.nk,fun e he=>hs.kept e (AWB.1 he).1,hs.nl,hs.late,hs.tf.filter _,hs.sl⟩,rfl⟩
theorem AEq{c:CG}{ss:List AO}{lost:AAB}{n u:Int}(h:(bJ c ss lost n u).2=true):
  dO (bJ c ss lost n u).1/\(bJ c ss lost n u).1=(HF [] (others lost 0 ss),[],u,())/\holds c lost=false/\ ∀s∈others lost 0 ss,dO s:=by
 unfold bJ at*;simp only at h|-;split at h
 case isFalse=>cases h
 rename_i h1;rw[AOJ h1];simp only[AOw,APo,AVg,AVk]at h1;obtain⟨_,_,_,h2,_,h3,h4⟩:=h1;exact⟨De.1 h4,rfl,h2,fun s hs=>De.1 (h3 s hs)⟩
theorem fE{l:List CW}:∀{d i:Nat},i+d=l.length->(Yn l i d=0/\ ∀j,i<=j->j<l.length->(l.getD j GB).2.1=true)\/
  ∃k,i<=k/\k<l.length/\Yn l i d=(k:Int)+1/\(l.getD k GB).2.1=false/\ ∀j,i<=j->j<k->(l.getD j GB).2.1=true
 |0,i,h=> .inl ⟨rfl,fun j h1 h2=>by omega⟩
 |d+1,i,h=>by
  simp only[Yn];cases hb:(l.getD i ([],false,0,())).2.1 with
  |false=>grind
  |true=>
   simp only[AOx,AOk];rcases fE (l:=l) (d:=d) (i:=i+1) (by omega)with⟨h1,h2⟩|⟨k,h1,h2,h3,h4,h5⟩
   all_goals grind
theorem Pf{c:CG}{r:AN}(h:ROk c r)(hl:0<r.1.length):∃k,k<r.1.length/\BF r.1=(k:Int)+1/\(r.1.getD k GB).2.1=false/\ ∀j,j<k->(r.1.getD j GB).2.1=true:=by
 rcases fE (l:=r.1) (d:=r.1.length) (i:=0) (by omega)with⟨h1,h2⟩|⟨k,h1,h2,h3,h4,h5⟩
 ·have:=(h.down (r.1.length-1) (by omega) (h2 _ (by omega) (by omega))).1
  omega
 ·exact⟨k,h2,h3,h4,fun j hj=>h5 j (by omega) hj⟩
theorem ru{c:CG}{r:AN}{ns:AAB}(h:(JG c r ns).2.2=true):ROk c r/\ROk c (JG c r ns).1/\(JG c r ns).1=(r.1++[(ns,false,0,())],r.2.1,())/\(JG c r ns).2.1=(r.1.length:Int)+1/\holds c ns=true/\r.1.length<30:=by
 unfold JG at*;split at h
 ·cases h
 rename_i hs;rw[AOK hs];simp only[ASw,AS2]at hs;rw[Ke]at hs;split at h
 case isFalse=>cases h
 rename_i h1;rw[AOJ h1];simp only[AOw,APo]at h1;have hn:=hs.n;refine⟨hs,⟨hs.cfg,?_,?_,fun e he=> ?_,fun i hi hc=> ?_⟩,rfl,rfl,h1.1,by omega⟩
 ·grind
 ·rcases hs.trim with h2|⟨h2,h3⟩
  all_goals grind
 ·simp only[ARh,AU4]at he
  rcases he with he|rfl
  ·exact hs.Am e he
  simp_all
 ·simp only[ASB,ART,AS0]at hi
  have get:∀j,j<r.1.length->(r.1++[(ns,false,0,())]).getD j GB=r.1.getD j GB:=fun j hj=>by
   grind
  by_cases hl:i<r.1.length
  ·rw[get i hl]at hc
   obtain⟨h2,h3⟩:=hs.down i hl hc;grind
  simp_all
theorem XF{l:List CW}{i j:Nat}{last:Int}(hi:i<l.length):(F5 l i last).getD j GB=if i=j then((l.getD i GB).1,true,last,())else l.getD j GB:=by
 grind[F5]
theorem fZ{c:CG}{r:AN}{b last:Int}(h:(LU c r b last).2=true):ROk c r/\ROk c (LU c r b last).1/\
  ∃k,k<r.1.length/\BF r.1=(k:Int)+1/\k+1<r.1.length/\b=r.1.length/\(0<=last/\last<=60)/\(LU c r b last).1=(F5 r.1 k last,r.2.1,())/\(r.1.getD k GB).2.1=false/\ ∀j,j<k->(r.1.getD j GB).2.1=true:=by
 unfold LU at*;split at h
 ·cases h
 rename_i hs;rw[AOK hs];simp only[ASw,AS2]at hs;rw[Ke]at hs;split at h
 case isFalse=>cases h
 rename_i h1;rw[AOJ h1];simp only[AOw,APo,As]at h1;obtain⟨hb,h0,ew,hlast⟩:=h1;have hl:0<r.1.length:=by
  rcases AZp r.1.length with hz|hz
  ·exfalso
   apply h0;unfold BF;rw[hz];rfl
  omega
 obtain⟨k,k1,k2,k3,k4⟩:=Pf hs hl;have hk:(BF r.1-1).toNat=k:=by omega
 rw[hk];have hlen:(F5 r.1 k last).length=r.1.length:=by simp[F5]
 refine⟨hs,⟨hs.cfg,by rw[hlen];exact hs.n,?_,fun e he=> ?_,fun i hi hc=> ?_⟩,k,k1,k2,by omega,hb,hlast,rfl,k3,k4⟩
 ·simp only[hlen];exact hs.trim
 ·unfold F5 at he
  rcases AVQ he with he|rfl
  ·exact hs.Am e he
  ·exact⟨(hs.Am _ (Bm k1)).1,hlast,fun hf=>by cases hf⟩
 ·simp only[hlen]at hi|-
  rw[XF k1]at hc;by_cases hik:k=i
  ·subst hik
   refine⟨by omega,fun j hj=> ?_⟩;rw[XF k1,AOK (by omega)];simp_all
  ·rw[AOK hik]at hc
   obtain⟨h2,h3⟩:=hs.down i hi hc;grind[XF]
theorem qz{c:CG}{r:AN}{p:Int}(h:(Oh c r p).2=true):ROk c r/\ROk c (Oh c r p).1/\(Oh c r p).1=(r.1,max r.2.1 p,()):=by
 unfold Oh at*;split at h
 ·cases h
 rename_i hs;rw[AOK hs];simp only[ASw,AS2]at hs;rw[Ke]at hs;split at h
 case isFalse=>cases h
 rename_i h1;rw[AOJ h1];simp only[AOw,APo]at h1;refine⟨hs,⟨hs.cfg,hs.n,?_,hs.Am,hs.down⟩,rfl⟩;simp only;have hp:=(ef h1.1).1;by_cases hm:r.2.1<=p
 ·grind
 ·rw[show max r.2.1 p=r.2.1 by omega]
  exact hs.trim
theorem cy{c:CG}{w:AR}{d:ACH}(h:(CD c w d).2.2=true):cX c w/\cX c (CD c w d).1/\(CD c w d).1=(w.1,w.2.1++[(d,[],false,())],())/\(CD c w d).2.1=(w.2.1.length:Int)+1:=by
 unfold CD at*;split at h
 ·cases h
 rename_i hs;rw[AOK hs];simp only[ASw,AS2]at hs;rw[JC]at hs;split at h
 case isFalse=>cases h
 rename_i h1;rw[AOJ h1];exact⟨hs,JC.1 h1,rfl,rfl⟩
theorem cV{c:CG}{s:AO}{ep n:Int}(hn:0<=n/\n<c.1.length):∀{l:List BD} {o:Int},(∀x∈l,x.1.length<=40/\BH c x.2.1=true/\x.2.2.1=holds c x.2.1)->
  (∀x∈Bu c s ep n o l,x.1.length<=40/\BH c x.2.1=true/\x.2.2.1=holds c x.2.1)/\SZ (Bu c s ep n o l)<=SZ l/\(Bu c s ep n o l).length=l.length
 |[],o,h=>by simp[Bu]
 |x::l,o,h=>by
  obtain⟨h1,h2,h3⟩:=cV (s:=s) (ep:=ep) hn (l:=l) (o:=o+1) fun y hy=>h y (by simp[hy])
  have hx:=h x (by simp);simp only[Bu,ASY,ART,SZ];split
  ·rename_i hd
   simp only[AOw,AVg]at hd;refine⟨?_,?_,by omega⟩
   ·rintro y (rfl|hy)
    ·exact⟨hx.1,LF hx.2.1 hn,rfl⟩
    grind
   grind
  grind
theorem uM{c:CG}{n:Int}:∀{l:List BD},(∀x∈l,x.1.length<=40/\BH c x.2.1=true/\x.2.2.1=holds c x.2.1)->
  (∀x∈l.map (E5 n),x.1.length<=40/\BH c x.2.1=true/\x.2.2.1=holds c x.2.1)/\SZ (l.map (E5 n))=SZ l
 |[],h=>by simp
 |x::l,h=>by
  obtain⟨h1,h2⟩:=uM (n:=n) (l:=l) fun y hy=>h y (by simp[hy])
  have hx:=h x (by simp);simp only[AW2,ASY,SZ,h2,E5,AVW]
  rintro y (rfl|hy)
  ·refine⟨hx.1,?_,?_⟩
   ·simp only
    split
    ·simp_all
    ·exact TY _ hx.2.1
   ·simp only
    split
    ·simp_all
    ·rename_i hd
     simp only[ASw]at hd;rw[hd]
     symm
     rw[AWt];grind[qb,rl]
  grind
theorem dh{c:CG}{w:AR}{n:Int}(h:cX c w):cX c (CT c w n).1/\(CT c w n).1=(w.1,w.2.1.map (E5 n),()):=by
 unfold CT;rw[JC.2 h];obtain⟨h1,h2⟩:=uM (n:=n) h.words;exact⟨⟨h.cfg,h.ep,by simpa using h.n,h1,by simp only[AOx];exact h2▸h.opn⟩,rfl⟩
theorem Gw{l:List AJ}:0<=PL l/\PL l<=60:=by
 unfold PL;cases l.length==0 with
 |true=>simp
 |false=>
  simp only[AOk];rcases AOB (Bp (l.getD (l.length-1) D6).1)with h|h
  ·have:=(HX h).2.1;omega
  grind[DX]
theorem oM{c:CG}{m:Av}{n:Int}{l:List AJ}(h:(Pj c m n l).2=true):lx c m/\lx c (Pj c m n l).1/\m.2.2.2.2.1=false/\
  (Pj c m n l).1=(m.1,m.2.1,OH n m.2.2.1,EY m.2.2.2.1 (l.filter fun e=>Ar e.1==m.2.1),m.2.2.2.2.1,m.2.2.2.2.2.1,()):=by
 unfold Pj at*;split at h
 ·cases h
 rename_i hs;rw[AOK hs];simp only[ASw,AS2]at hs;rw[G8]at hs;simp only at h|-;split at h
 case isFalse=>cases h
 rename_i h1;rw[AOJ h1];simp only[AOw,AVg]at h1;exact⟨hs,G8.1 h1.2,h1.1,rfl⟩
theorem oe{c:CG}{m:Av}{s:AAB}(h:(MU c m s).2=true):lx c m/\lx c (MU c m s).1/\m.2.2.2.2.1=false/\Rc c s (m.2.2.1.filter s.contains)=true/\
  (MU c m s).1=(m.1,m.2.1,m.2.2.1,m.2.2.2.1,true,List.replicate (PL m.2.2.2.1).toNat [],()):=by
 unfold MU at*;split at h
 ·cases h
 rename_i hs;rw[AOK hs];simp only[ASw,AS2]at hs;rw[G8]at hs;split at h
 case isFalse=>cases h
 rename_i h1;rw[AOJ h1];simp only[AOw,AVg]at h1;refine⟨hs,⟨hs.cfg,hs.ep,hs.b,hs.zx,hs.tf,hs.seen,fun l hl=> ?_,?_⟩,h1.1,h1.2,rfl⟩
 ·simp only at hl
  rw[AV1 hl];exact Zs hs.cfg
 ·simp only[AVz,AVR]
  have:=(Gw (l:=m.2.2.2.1)).1;omega
theorem kE{c:CG}{m:Av}{s:AO}{n:Int}(hn:0<=n/\n<c.1.length):∀{l:List AAB} {o:Int},(∀x∈l,BH c x=true)->
  (∀x∈Fu m s n o l,BH c x=true)/\(Fu m s n o l).length=l.length
 |[],o,h=>by simp[Fu]
 |x::l,o,h=>by
  obtain⟨h1,h2⟩:=kE (m:=m) (s:=s) hn (l:=l) (o:=o+1) fun y hy=>h y (by simp[hy])
  have hx:=h x (by simp);simp only[Fu,ASY,ART,h2,AVW]
  rintro y (rfl|hy)
  all_goals grind[LF]
theorem AEb{c:CG}{s:AO}{l:List CW}{n:Int}{m:Av}(hn:0<=n/\n<c.1.length)(h:lx c m):lx c (Mt s l n m):=by
 unfold Mt;split
 ·obtain⟨h1,h2⟩:=kE (m:=m) (s:=s) hn (o:=1) h.wrote
  exact⟨h.cfg,h.ep,h.b,h.zx,h.tf,h.seen,h1,by simp only[h2];exact h.n⟩
 omega
theorem tH{c:CG}{m:Av}{n:Int}(h:lx c m):lx c (CO c m n).1/\(CO c m n).1=(m.1,m.2.1,m.2.2.1,m.2.2.2.1,m.2.2.2.2.1,m.2.2.2.2.2.1.map fun l=>less l [n],()):=by
 unfold CO;rw[G8.2 h];refine⟨⟨h.cfg,h.ep,h.b,h.zx,h.tf,h.seen,fun l hl=> ?_,?_⟩,rfl⟩
 ·simp only[AOx,AO5,ATF,AVh]at hl
  obtain⟨l',h1,rfl⟩:=hl;exact TY _ (h.wrote l' h1)
 ·simp only[AOx,AO5,ATF,AWA]
  exact h.n
theorem tQ{c:CG}{g:AN}{sure:Int}{r:Ag}{l:List BA}(h:(C2 c g sure r l).2=0):ALm (C2 c g sure r l).1:=by
 unfold C2 at*;split at h
 ·omega
 rename_i hs;rw[AOK hs];simp only[ASw,AS2,AOw,Ke,Uy]at hs;obtain⟨hg,hr,_⟩:=hs;have r1:=hr.ep;have r2:=hr.off;have r3:=hr.n;split at h
 ·omega
 rename_i h1;rw[AOK h1];simp only[AVX,APo,not_or]at h1;have hn:=hg.n;simp only at h|-;split at h
 ·rename_i h2
  rw[AOJ h2];have hp:Bp g.2.1=true:=by
   rcases hg.trim with ht|ht
   all_goals grind[HN]
  obtain⟨a1,a2,_⟩:=HX hp;exact⟨by grind,by grind,by grind⟩
 ·rename_i h2
  rw[AOK h2];split at h
  ·rename_i h3
   rw[AOJ h3];exact⟨by grind,by simp_all,by simp_all;omega⟩
  ·rename_i h3
   rw[AOK h3];split at h
   ·omega
   rename_i h4;rw[AOK h4];simp only[AVX,APo,not_or]at h4;split at h
   ·omega
   rename_i h5;rw[AOK h5];exact⟨by omega,by grind,by simp_all;omega⟩
theorem AD{α β:Type}(a:α)(f:α->Option β):(some a).bind f=f a:=rfl
theorem WY{l:AAB}{x:Int}(hl:l.length<=2^30):∀(n i:Nat) (b:AAB),i<=l.length->l.length-i<n->b.length<=2*i+1->
  H5 n l x true i b=some (((),()),(b++l.drop i,()))
 |0,i,b,_,h,_=>by omega
 |n+1,i,b,hi,h,hb=>by
  simp only[H5,QE,AB,AOx,AOk];by_cases hc:i<l.length
  ·have c1:(0:Int)<=(i:Int)/\(i:Int)<(l.length:Int):=by omega
   have c2:b.length+1<=C_:=by rw[Ap];omega
   rw[AOJ c1.2,AOJ c1,AOJ c2,AH (by omega) (by omega),show((i:Int)+1)=((i+1:Nat):Int)by omega,Al hc,drop_cons hc,WY hl n (i+1) _ (by omega) (by omega) (by grind)];simp
  grind
theorem bo{l:AAB}{x:Int}(hl:l.length<=2^30):∀(n i:Nat) (b:AAB),i<=l.length->l.length-i<n->b.length<=i->
  H5 n l x false i b=some (((),()),(b++jM x (l.drop i),()))
 |0,i,b,_,h,_=>by omega
 |n+1,i,b,hi,h,hb=>by
  simp only[H5,QE,AB,AVN,APm];have c2:b.length+1<=C_:=by rw[Ap];omega
  by_cases hc:i<l.length
  ·have c1:(0:Int)<=(i:Int)/\(i:Int)<(l.length:Int):=by omega
   have c3:(b++[x]).length+1<=C_:=by grind[Ap]
   rw[AOJ c1.2];simp only[AOJ c1,AOJ c2,AOJ c3];rw[AH (by omega) (by omega),show((i:Int)+1)=((i+1:Nat):Int)by omega,Al hc,drop_cons hc];simp only[jM];by_cases hx:l[i]>x
   ·rw[AOJ hx,AOJ (by omega),WY hl n (i+1) _ (by omega) (by omega) (by grind)]
    simp
   ·rw[AOK hx,AOK (by omega),bo hl n (i+1) _ (by omega) (by omega) (by simp_all)]
    simp
  ·rw[AOK (by omega),AOJ c2,APk (by omega)]
   rfl
theorem Lf{l:AAB}{x:Int}(hl:l.length<=2^30):Iv l x=some (((),()),(OH x l,())):=by
 unfold Iv Uj OH;rw[LV (by omega)];simp only[AD];rcases AOB (l.contains x)with h|h
 ·rw[h,AOJ rfl]
  grind[WY,AZ,Ac]
 ·rw[h,AOK (by simp)]
  grind[bo,AZ,Ac]
theorem aW{l m:AAB}(hl:l.length<=2^30)(hm:m.length<=2^30):∀(n i:Nat) (b:AAB),i<=l.length->l.length-i<n->b.length<=i->
  PV n l m i b=some (((),()),(b++less (l.drop i) m,()))
 |0,i,b,_,h,_=>by omega
 |n+1,i,b,hi,h,hb=>by
  simp only[PV,aG,AB];have c2:b.length+1<=C_:=by rw[Ap];omega
  by_cases hc:i<l.length
  ·have c1:(0:Int)<=(i:Int)/\(i:Int)<(l.length:Int):=by omega
   rw[AOJ c1.2];simp only[AOJ c1,AOJ c2];rw[AH (by omega) (by omega),show((i:Int)+1)=((i+1:Nat):Int)by omega,Al hc,drop_cons hc,LV (by omega)];simp only[AD,less,AVV];cases hx:m.contains l[i]with
   |true=>
    simp only[AOx,AOk,AO5,ATF];exact aW hl hm n (i+1) _ (by omega) (by omega) (by omega)
   |false=>
    simp only[AVN,APm,AVR];rw[aW hl hm n (i+1) _ (by omega) (by omega) (by simp_all)];simp[less]
  ·rw[AOK (by omega),APk (by omega)]
   simp[less]
theorem H_{l m:AAB}(hl:l.length<=2^30)(hm:m.length<=2^30):IQ l m=some (((),()),(less l m,())):=by
 grind[IQ,Z0,aW,AZ,Ac]
theorem GH{e o:Int}(he: -1000<=e/\e<=1000)(ho: -1000<=o/\o<=1000):Ci e o=some ((HN e o,()),()):=by
 grind[Ci,HN,AH]
theorem lp{e o:Int}:Ss e o=some (((HE e o,Bd e 1 30&&Bd o 1 60,()),()),()):=by
 unfold Ss HE;rw[Be,Be];simp only[AD];rcases AOB (Bd e 1 30)with he|he
 ·rcases AOB (Bd o 1 60)with ho|ho
  ·have h1:=As.1 he
   have h2:=As.1 ho;rw[he,ho,AH (x:=4294967296*e) (by omega) (by omega),AH (by omega) (by omega)];rfl
  simp_all
 simp_all
theorem JP{a b:Int}:Fe a b=some ((max a b,()),()):=by
 unfold Fe;grind
theorem bA{a b:Int}:Uk a b=some ((min a b,()),()):=by
 unfold Uk;grind
def jv(q:AO×Bool):AEV×(List AJ×List AJ×Unit):=(((((),(),q.1.2.2.1,()),q.2,()),()),(q.1.1,q.1.2.1,()))
theorem O8{s:AO}(h1:s.1.length<=2^30)(h2:s.2.1.length<=2^30):FH s=some ((((),(),s.2.2.1,()),()),(s.1,s.2.1,())):=by
 unfold FH;rw[AOJ (by rw[Ap];omega),AOJ (by rw[Ap];omega)]
theorem ow{s:AO}{e:AJ}(he:CB e.1):XU s e=some ((takes s e,()),()):=by
 unfold XU takes;rw[EW he];grind
theorem YL{a b:AJ}:Sc a b=some ((better a b,()),()):=by
 unfold Sc better;grind
theorem GL{s:AO}(h:H.Aj s<=2^30):s.1.length<=2^30/\s.2.1.length<=2^30:=by
 grind[H.AU,H.Ah,H.Aj]
theorem U1{s:AO}{e:AJ}(hw:H.Aj s<=2^30)(hs:kC s)(he:CB e.1):N5 s e=some (jv (Hd s e)):=by
 obtain⟨l1,l2⟩:=GL hw;unfold N5 Hd;rw[QD s,cu e,GA hw hs,O8 l1 l2,RV he,ow he];simp only[AD];rcases AOB (CN s)with h|h
 rotate_left
 ·rw[h];rfl
 rw[h];simp only[AOx,AOk,AO5,ATF];cases GG e with
 |false=>rfl
 |true=>
  cases takes s e with
  |false=>rfl
  |true=>
   simp only[AOx,AOk,APr];by_cases h20:s.2.1.length=20
   ·rw[show((s.2.1.length:Int)==20)=true by simp[h20],show decide (s.2.1.length≠20)=false by simp[h20]]
    rfl
   ·rw[show((s.2.1.length:Int)==20)=false by grind,show decide (s.2.1.length≠20)=true by simp[h20],AOk,AOJ (by rw[Ap];omega)]
    rfl
theorem Ur{l:List AJ}{e:AJ}(hl:l.length<=2^30):∀(n i:Nat) (b:List AJ),i<=l.length->l.length-i<n->b.length<=2*i+1->
  J6 n l true i e.1 e.2.1 e.2.2.1 e.2.2.2.1 b=some (((),()),(b++l.drop i,()))
 |0,i,b,_,h,_=>by omega
 |n+1,i,b,hi,h,hb=>by
  simp only[J6,Tk,AB,AOx,AOk];by_cases hc:i<l.length
  ·have c1:(0:Int)<=(i:Int)/\(i:Int)<(l.length:Int):=by omega
   have c2:b.length+1<=C_:=by rw[Ap];omega
   rw[AOJ c1.2,AOJ c1,AOJ c2,AH (by omega) (by omega),show((i:Int)+1)=((i+1:Nat):Int)by omega,Al hc,drop_cons hc,Ur hl n (i+1) _ (by omega) (by omega) (by grind),AQM];rfl
  grind
theorem Z3{l:List AJ}{e:AJ}(hl:l.length<=2^30):∀(n i:Nat) (b:List AJ),i<=l.length->l.length-i<n->b.length<=i->
  J6 n l false i e.1 e.2.1 e.2.2.1 e.2.2.2.1 b=some (((),()),(b++keep e (l.drop i),()))
 |0,i,b,_,h,_=>by omega
 |n+1,i,b,hi,h,hb=>by
  simp only[J6,Tk,AB,AVN,APm];have c2:b.length+1<=C_:=by rw[Ap];omega
  by_cases hc:i<l.length
  ·have c1:(0:Int)<=(i:Int)/\(i:Int)<(l.length:Int):=by omega
   have c3:(b++[(e.1,e.2.1,e.2.2.1,e.2.2.2.1,())]).length+1<=C_:=by grind[Ap]
   rw[AOJ c1.2];simp only[AOJ c1,AOJ c2,AOJ c3];rw[AH (by omega) (by omega),show((i:Int)+1)=((i+1:Nat):Int)by omega,Al hc,drop_cons hc];rw[cu (l[i]),cu e,YL];simp only[AD,keep];by_cases hx:l[i].1=e.1
   ·rw[show(l[i].1==e.1)=true by simp_all,AOJ hx,APm,show((better l[i] e).1,(better l[i] e).2.1,(better l[i] e).2.2.1,(better l[i] e).2.2.2.1,())=better l[i] e from rfl,Ur hl n (i+1) _ (by omega) (by omega) (by grind)]
    simp
   ·rw[show(l[i].1==e.1)=false by simp_all,AOK hx,AOk]
    by_cases hg:l[i].1>e.1
    ·rw[AOJ hg,AOJ hg,Ur hl n (i+1) _ (by omega) (by omega) (by grind)]
     simp
    ·rw[AOK hg,AOK hg,Z3 hl n (i+1) _ (by omega) (by omega) (by simp_all)]
     simp
  ·rw[AOK (by omega),AOJ c2,APk (by omega)]
   rfl
theorem YG{l:List AJ}{e:AJ}(hl:l.length<=2^30):Rz l e=some (((),()),(keep e l,())):=by
 grind[Rz,ZX,Z3,AZ,Ac]
theorem VA{l:List AJ}{p:Int}(hl:l.length<=2^30):Hm l p=some ((((OO p l).getD D6,(OO p l).isSome,()),()),()):=by
 have key:∀(n i:Nat),i<=l.length->l.length-i<n->Q4 n l p i 0 0 false []=some ((((OO p (l.drop i)).getD D6,(OO p (l.drop i)).isSome,()),()),()):=by
  intro n
  induction n with
  |zero=>omega
  |succ n ih=>
   intro i hi h;simp only[Q4,bj,AB];by_cases hc:i<l.length
   ·have c1:(0:Int)<=(i:Int)/\(i:Int)<(l.length:Int):=by omega
    rw[AOJ c1.2];simp only[AOJ c1];rw[AH (by omega) (by omega),show((i:Int)+1)=((i+1:Nat):Int)by omega,Al hc,drop_cons hc,ih (i+1) (by omega) (by omega)];simp only[OO,AZZ];cases l[i].1==p<;>rfl
   ·rw[AOK (by omega),APk (by omega)]
    rfl
 grind[Hm,bn,AZ,Ac]
theorem wF{k:Int}{i:Nat}(hk:0<=k/\k<2^63)(hi:i<=63):(eP .i64 (k.fdiv (2^(min i 64))) 1==1)=decide ((k/2^i)%2=1):=by
 obtain⟨m,rfl⟩:∃m:Nat,k=m:=⟨k.toNat,by omega⟩;rw[show min i 64=i by omega];have h1:(m:Int).fdiv (2^i)=((m/2^i:Nat):Int):=by
  grind
 have h2:(m:Int)/2^i=((m/2^i:Nat):Int):=by norm_cast
 have h3:m/2^i<2^63:=Nat.lt_of_le_of_lt (Nat.div_le_self _ _) (by omega);rw[h1,h2,show(1:Int)=((1:Nat):Int)from rfl,AFf h3 (by omega),Nat.and_one_is_mod];rfl
def xY(p:Nat->Bool):Nat->List AJ->List AJ
 |_,[]=>[]
 |i,e::l=>if p i then e::xY p (i+1) l else xY p (i+1) l
theorem uR{k:Int}(hk:0<=k/\k<2^63):∀{l:List AJ} {i:Nat},i+l.length<=60->xY (fun i=>eP .i64 (k.fdiv (2^(min i 64))) 1==1) i l=NN k i l
 |[],i,_=>rfl
 |e::l,i,h=>by
  simp only[ART]at h;have ih:=uR hk (l:=l) (i:=i+1) (by omega);have AC_:=wF hk (i:=i) (by omega);simp only[xY,NN];simp_all
theorem ZT{s:AO}{k:Int}(h1:s.1.length<=200)(h2:s.2.1.length<=20):∀(n i:Nat) (b:List AJ),i<=s.2.1.length->s.2.1.length-i<n->b.length<=200+i->
  Jv n k i s.1 s.2.1 s.2.2.1 0 [] [] s.2.2.1 b []=
   some (jv (if Bd k 0 1048575&&decide ((EY b (xY (fun i=>eP .i64 (k.fdiv (2^(min i 64))) 1==1) i (s.2.1.drop i))).length<=200)then((EY b (xY (fun i=>eP .i64 (k.fdiv (2^(min i 64))) 1==1) i (s.2.1.drop i)),[],s.2.2.1,()),true)else(s,false)))
 |0,i,b,_,h,_=>by omega
 |n+1,i,b,hi,h,hb=>by
  simp only[Jv,UH,AB];by_cases hc:i<s.2.1.length
  ·have c1:(0:Int)<=(i:Int)/\(i:Int)<(s.2.1.length:Int):=by omega
   have ih:=fun b hb=>ZT (k:=k) h1 h2 n (i+1) b (by omega) (by omega) hb
   rw[AOJ c1.2,AOK (by omega)];simp only[AOJ c1];rw[AH (by omega) (by omega),show((i:Int)+1)=((i+1:Nat):Int)by omega,Al hc,drop_cons hc,AO2];rw[cu (s.2.1[i]),YG (by omega)];simp only[AD,xY];have kl:=Yw (e:=s.2.1[i]) (l:=b);rcases AOB (eP .i64 (k.fdiv (2^(min i 64))) 1==1)with hb|hb
   ·simp only[hb,APm,AVR,EY]
    grind
   grind
  ·rw[AOK (by omega),APk (by omega),Be,QD s,O8 (by omega) (by omega)]
   simp only[AD,xY,EY];cases Bd k 0 1048575 with
   |false=>rfl
   |true=>
    simp only[AOx,AOk,APr];by_cases h200:b.length<=200
    ·rw[AOK (by omega),AVH h200];rfl
    ·rw[AOJ (by omega),AVY h200];rfl
theorem Ya{s:AO}{k:Int}(hw:Aj s<=2^30)(hs:kC s):Nd s k=some (jv (GN s k)):=by
 obtain⟨l1,l2⟩:=GL hw;unfold Nd UR GN;rw[QD s,GA hw hs];simp only[AD];rcases AOB (CN s)with h|h
 rotate_left
 ·rw[h];rfl
 have EP:=De.1 h;rw[h];simp only[AOx,AOk,AO5,ATF];rw[AOJ (by rw[Ap];omega)];have:=ZT (k:=k) EP.nk EP.nl AZ 0 s.1 (by omega) (Ac (by omega)) (by have:=EP.nk;omega);rw[show((0:Nat):Int)=0 from rfl,AUN]at this;rw[this];rcases AOB (Bd k 0 1048575)with hk|hk
 ·have hk':=As.1 hk
  have hn:=EP.nl;grind[uR]
 simp_all
theorem Oj{s:AO}(hw:Aj s<=2^30)(hs:kC s):Jz s=some (jv (CI s)):=by
 unfold Jz CI;rw[QD s,Ya hw hs];rfl
theorem Z7{s:AO}{u:Int}(hw:Aj s<=2^30)(hs:kC s):PT s u=some (jv (B8 s u)):=by
 obtain⟨l1,l2⟩:=GL hw;unfold PT B8;rw[QD s,GA hw hs,Oj hw hs,O8 l1 l2,Be];simp only[AD];cases CN s with
 |false=>rfl
 |true=>
  simp only[AOx,AOk,AO5,ATF,jv];cases(CI s).2 with
  |false=>rfl
  |true=>
   cases Bd u 0 30 with
   |false=>rfl
   |true=>
    simp only[AOx,AOk,APr,AVR];rw[JP];rfl
theorem bR{s:AO}{ep:Int}(hw:Aj s<=2^30)(hs:kC s):JW s ep=some (((),()),(HC s ep,())):=by
 obtain⟨l1,l2⟩:=GL hw;unfold JW W3 HC;rcases AOB (CN s)with h|h
 ·have key:∀(n i:Nat) (b:List AJ),i<=s.1.length->s.1.length-i<n->b.length<=i->Ji n ep i s.1 s.2.1 s.2.2.1 b=some (((),()),(b++(s.1.drop i).filter fun e=>Ar e.1==ep,())):=by
   intro n
   induction n with
   |zero=>omega
   |succ n ih=>
    intro i b hi hn hb;simp only[Ji,Qf,AB];have c2:b.length+1<=C_:=by rw[Ap];omega
    by_cases hc:i<s.1.length
    ·have c1:(0:Int)<=(i:Int)/\(i:Int)<(s.1.length:Int):=by omega
     rw[AOJ c1.2];simp only[AOJ c1,AOJ c2];rw[AH (by omega) (by omega),show((i:Int)+1)=((i+1:Nat):Int)by omega,Al hc,drop_cons hc,QD s,GA hw hs,EW (hs.1 _ (AO7 hc)),h];simp only[AD,APm,AVV];cases Ar s.1[i].1==ep with
     |true=>
      simp only[APm,AVR];rw[ih (i+1) _ (by omega) (by omega) (by simp_all),AQM];rfl
     |false=>
      grind
    grind
  have:=key AZ 0 [] (by omega) (Ac (by omega)) (by simp);simp_all
 ·obtain⟨m,hm⟩:∃m,AZ=m+1:=⟨AZ-1,by have:=gS;omega⟩
  rw[h,hm];simp only[Ji,Qf,AB];rw[QD s,GA hw hs,h];simp_all
theorem kI{s:AO}{u:Int}(hw:Aj s<=2^30)(hs:kC s)(hu:CB u):Tq s u=some (jv (Jk s u)):=by
 obtain⟨l1,l2⟩:=GL hw;unfold Tq Vf Jk;rw[QD s,GA hw hs,O8 l1 l2,Ix hu];simp only[AD];cases CN s with
 |false=>rfl
 |true=>
  cases Bp u with
  |false=>rfl
  |true=>
   simp only[AOx,AOk,AO5,ATF,AVR];have key:∀(n i:Nat) (b:List AJ),i<=s.1.length->s.1.length-i<n->b.length<=i->LN n u i s.1 s.2.1 s.2.2.1 0 [] [] s.2.2.1 b s.2.1=some (jv ((b++(s.1.drop i).filter fun e=>decide (e.1>u),s.2.1,s.2.2.1,()),true)):=by
    intro n
    induction n with
    |zero=>omega
    |succ n ih=>
     intro i b hi hn hb;simp only[LN,Vi];have c2:b.length+1<=C_:=by rw[Ap];omega
     by_cases hc:i<s.1.length
     ·have c1:(0:Int)<=(i:Int)/\(i:Int)<(s.1.length:Int):=by omega
      rw[AVH c1.2];simp only[AOJ c1,AOJ c2,APm];rw[AH (by omega) (by omega),show((i:Int)+1)=((i+1:Nat):Int)by omega,Al hc,drop_cons hc];simp only[AVV];cases decide (s.1[i].1>u)with
      |true=>
       simp only[APm,AVR];rw[ih (i+1) _ (by omega) (by omega) (by simp_all),AQM];rfl
      |false=>
       grind
     grind[decide_eq_false,List.drop_eq_nil_of_le,jv]
   have:=key AZ 0 [] (by omega) (Ac (by omega)) (by simp);simp_all
theorem Ny{α:Type}{l:List α}{i:Nat}{x d:α}(hi:i<l.length):(l.set i x).getD i d=x:=by
 simp_all
theorem QN{α:Type}{l:List α}{f:α->α}{i:Nat}(hi:i<=l.length):((l.map f).take i++l.drop i).length=l.length:=by
 simp_all
theorem Ns{α:Type}{l:List α}{f:α->α}{i:Nat}{d:α}(hi:i<l.length):((l.map f).take i++l.drop i).getD i d=l[i]:=by
 grind
theorem Q7{α:Type}{l:List α}{f:α->α}{i:Nat}{y:α}(hi:i<l.length)(hy:y=f l[i]):((l.map f).take i++l.drop i).set i y=(l.map f).take (i+1)++l.drop (i+1):=by
 have h:((l.map f).take i).length=i:=by grind
 subst hy;rw[AZw _ _ (by omega),h,Nat.sub_self,drop_cons hi,AY7,AVa (by simp_all),AQM,List.getElem_map];rfl
theorem lY{α:Type}{l:List α}{f:α->α}{i:Nat}(hi:i<l.length)(hf:f l[i]=l[i]):(l.map f).take i++l.drop i=(l.map f).take (i+1)++l.drop (i+1):=by
 grind[List.take_succ_eq_append_getElem,List.append_assoc,drop_cons]
theorem yt{n:Int}:∀{l:AAB},(jM n l).length=l.length+1
 |[]=>rfl
 |a::l=>by
  simp only[jM];split
  ·simp
  ·simp[yt (l:=l)]
theorem Tj{n:Int}{l:AAB}:(OH n l).length<=l.length+1:=by
 grind[OH,yt]
theorem D4{r:AN}{e:Int}(hl:AS Bk r.1<=2^30):CS r e=some (((),()),(BK r.1 e,())):=by
 have l1:=AU (f:=Bk) (l:=r.1);unfold CS BK;rw[Be];simp only[AD];rcases AOB (Bd e 1 (r.1.length:Int))with h|h
 ·have h':=As.1 h
  have hm:=AY (f:=Bk) (Bm (d:=GB) (l:=r.1) (i:=(e-1).toNat) (by omega));have pO:(r.1.getD (e-1).toNat GB).1.length<=AS Bk r.1:=hm;rw[h,AH (by omega) (by omega)];simp only[AOx,AOk,AVR];rw[AOJ (by omega),AOJ (by grind[Ap,GB])];rfl
 simp_all
theorem Te{r:AN}(hl:AS Bk r.1<=2^30):GU r=some ((((),r.2.1,()),()),(r.1,())):=by
 have l1:=AU (f:=Bk) (l:=r.1);have key:∀(n i:Nat) (b:List CW),i<=r.1.length->r.1.length-i<n->b.length<=i->Pd n i r.1 r.2.1 0 [] r.2.1 b=some ((((),r.2.1,()),()),(b++r.1.drop i,())):=by
  intro n
  induction n with
  |zero=>omega
  |succ n ih=>
   intro i b hi hn hb;simp only[Pd,Zv,AB];by_cases hc:i<r.1.length
   ·have c1:(0:Int)<=(i:Int)/\(i:Int)<(r.1.length:Int):=by omega
    have hm:=AY (f:=Bk) (AO7 hc)
    replace hm:r.1[i].1.length<=AS Bk r.1:=hm
    rw[AOJ c1.2,AOJ c1,AH (by omega) (by omega),show((i:Int)+1)=((i+1:Nat):Int)by omega,Al hc,AOJ (by rw[Ap];omega),AOJ (by rw[Ap];omega),drop_cons hc,ih (i+1) _ (by omega) (by omega) (by simp_all),AQM];rfl
   grind
 grind[GU,Zt,AZ,Ac]
def pkR(q:AN×Bool):AHk×(List CW×Unit):=(((((),q.1.2.1,()),q.2,()),()),(q.1.1,()))
section
variable{c:CG} {r:AN} (hc:c.1.length<=2^40) (hl:AS Bk r.1<=2^30) (ht:CB r.2.1)
include hc hl ht
theorem d_{ns:AAB}(hn:ns.length<=2^30):My c r ns=some (((((),(JG c r ns).1.2.1,()),(JG c r ns).2.1,(JG c r ns).2.2,()),()),((JG c r ns).1.1,())):=by
 have l1:=AU (f:=Bk) (l:=r.1);unfold My JG;rw[show(c.1,c.2.1,())=c from rfl,show(r.1,r.2.1,())=r from rfl,Qy hc hl ht,Te hl,EC hc (by omega)];simp only[AD];cases Pp c r with
 |false=>rfl
 |true=>
  cases holds c ns with
  |false=>rfl
  |true=>
   simp only[AOx,AOk,AO5,ATF,APr];by_cases h30:r.1.length=30
   ·simp_all
   ·rw[show((r.1.length:Int)==30)=false by grind,show decide (r.1.length≠30)=true by simp[h30],AOk,AOJ (by rw[Ap];omega),AOJ (by rw[Ap];omega)]
    simp
theorem bY{b last:Int}:Q6 c r b last=some (pkR (LU c r b last)):=by
 have l1:=AU (f:=Bk) (l:=r.1);unfold Q6 LU;rw[show(c.1,c.2.1,())=c from rfl,show(r.1,r.2.1,())=r from rfl,Qy hc hl ht,Te hl,Oc (by omega)];simp only[AD];rcases AOB (Pp c r)with hr|hr
 rotate_left
 ·rw[hr];rfl
 rw[hr];simp only[AOx,AOk,AO5,ATF];by_cases h1:b=r.1.length
 rotate_left
 ·rw[show(b !=(r.1.length:Int))=true by simp_all,show decide (b=(r.1.length:Int))=false by simp_all]
  rfl
 rw[show(b !=(r.1.length:Int))=false by simp_all,show decide (b=(r.1.length:Int))=true by simp_all];simp only[AOk,APr];by_cases h2:BF r.1=0
 ·rw[show(BF r.1==0)=true by simp_all,show decide (BF r.1≠0)=false by simp_all]
  rfl
 rw[show(BF r.1==0)=false by simp_all,show decide (BF r.1≠0)=true by simp_all];simp only[AOk,APr];by_cases h3:b=BF r.1
 ·rw[show(b==BF r.1)=true by simp_all,show decide (b≠BF r.1)=false by simp_all]
  rfl
 rw[show(b==BF r.1)=false by simp_all,show decide (b≠BF r.1)=true by simp_all,Be];simp only[AOk,APr,AD];cases Bd last 0 60 with
 |false=>rfl
 |true=>
  have EP:=Ke.1 hr;have ALe:0<r.1.length:=by
   rcases AZp r.1.length with hz|hz
   ·exact absurd (by unfold BF;rw[hz];rfl) h2
   omega
  obtain⟨k,k1,k2,k3,k4⟩:=Pf EP ALe;simp only[AOx,AOk,AVR];rw[k2,AH (by omega) (by omega),show((k:Int)+1-1)=(k:Int)by omega,AOJ (by omega),AOJ (by simp_all),AO2];unfold pkR F5;simp_all
theorem eK{p:Int}(hp:CB p):TQ c r p=some (pkR (Oh c r p)):=by
 unfold TQ Oh;rw[show(c.1,c.2.1,())=c from rfl,show(r.1,r.2.1,())=r from rfl,Qy hc hl ht,Te hl,Ix hp,EW hp];simp only[AD];cases Pp c r with
 |false=>rfl
 |true=>
  cases Bp p with
  |false=>rfl
  |true=>
   simp only[AOx,AOk,AO5,ATF,APr];by_cases h:Ar p<=r.1.length
   ·rw[show decide (Ar p>(r.1.length:Int))=false by simp_all,show decide (Ar p<=(r.1.length:Int))=true by simp_all,AOk,JP]
    rfl
   ·rw[show decide (Ar p>(r.1.length:Int))=true by simp_all,show decide (Ar p<=(r.1.length:Int))=false by simp_all]
    rfl
end
theorem Td{w:AR}(hl:AS Az w.2.1<=2^30):Eg w=some (((w.1,(),()),()),(w.2.1,())):=by
 have l1:=AU (f:=Az) (l:=w.2.1);have key:∀(n i:Nat) (b:List BD),i<=w.2.1.length->w.2.1.length-i<n->b.length<=i->KJ n i w.1 w.2.1 0 [] w.1 b=some (((w.1,(),()),()),(b++w.2.1.drop i,())):=by
  intro n
  induction n with
  |zero=>omega
  |succ n ih=>
   intro i b hi hn hb;simp only[KJ,TP,AB];by_cases hc:i<w.2.1.length
   ·have c1:(0:Int)<=(i:Int)/\(i:Int)<(w.2.1.length:Int):=by omega
    have hm:w.2.1[i].1.length+w.2.1[i].2.1.length<=AS Az w.2.1:=AY (f:=Az) (AO7 hc);rw[AOJ c1.2,AOJ c1,AH (by omega) (by omega),show((i:Int)+1)=((i+1:Nat):Int)by omega,Al hc,AOJ (by rw[Ap];omega),AOJ (by rw[Ap];omega),drop_cons hc,ih (i+1) _ (by omega) (by omega) (by simp_all),AQM];rfl
   grind
 grind[Eg,Sp,AZ,Ac]
theorem JX{α:Type}{f:α->Nat}{l m:List α}:AS f (l++m)=AS f l+AS f m:=by
 induction l with
 |nil=>simp[AS]
 |cons a l ih=>grind[AS]
theorem oV{n:Int}{x:BD}(h:x.2.2.1=true):E5 n x=x:=by
 obtain⟨a,b,d,e⟩:=x;simp only at h;subst h;rfl
def pkW(q:AR×Bool):AHj×(List BD×Unit):=((((q.1.1,(),()),q.2,()),()),(q.1.2.1,()))
section
variable{c:CG} {w:AR} (hc:c.1.length<=2^40) (hl:AS Az w.2.1<=2^20)
include hc hl
theorem ki{d:ACH}(hd:d.length<=2^20):G3 c w d=some (((((CD c w d).1.1,(),()),(CD c w d).2.1,(CD c w d).2.2,()),()),((CD c w d).1.2.1,())):=by
 have l1:=AU (f:=Az) (l:=w.2.1);unfold G3 CD;rw[show(c.1,c.2.1,())=c from rfl,show(w.1,w.2.1,())=w from rfl,Gg hc (by omega),Td (by omega)];simp only[AD];cases EX c w with
 |false=>rfl
 |true=>
  simp only[AOx,AOk,AO5,ATF];rw[AOJ (by rw[Ap];omega),Gg hc (by
   grind[AS,Az,JX,List.length_nil])]
  grind
theorem kR{o n:Int}:D3 c w o n=some (pkW (SK c w o n)):=by
 have l1:=AU (f:=Az) (l:=w.2.1);unfold D3 SK;rw[show(c.1,c.2.1,())=c from rfl,show(w.1,w.2.1,())=w from rfl,Gg hc (by omega),Td (by omega),Be,Be];simp only[AD];rcases AOB (EX c w)with hw|hw
 rotate_left
 ·rw[hw];rfl
 have zh:=D8 (JC.1 hw).cfg;rw[hw,AH (x:=(c.1.length:Int)-1) (by omega) (by omega)];simp only[AOx,AOk,AO5,ATF];rcases AOB (Bd o 1 (w.2.1.length:Int))with ho|ho
 rotate_left
 ·rw[ho];rfl
 have y9:=As.1 ho;rw[ho];cases Bd n 0 ((c.1.length:Int)-1)with
 |false=>rfl
 |true=>
  have hi:(o-1).toNat<w.2.1.length:=by omega
  have hm:(w.2.1.getD (o-1).toNat MB).1.length+(w.2.1.getD (o-1).toNat MB).2.1.length<=AS Az w.2.1:=AY (f:=Az) (Bm (d:=MB) hi);simp only[AOx,AOk,APr];rw[AH (by omega) (by omega),AOJ (by omega)]
  show cond (w.2.1.getD (o-1).toNat MB).2.2.1 _ _=_
  cases(w.2.1.getD (o-1).toNat MB).2.2.1 with
  |true=>rfl
  |false=>
   simp only[AOk,AVN,AVR];rw[AOJ (by omega),show(w.2.1.getD (o-1).toNat ([],[],false,())).2.1=(w.2.1.getD (o-1).toNat MB).2.1 from rfl,Lf (by omega)];simp only[AD];rw[AOJ (by omega)];have hg:∀x:BD,(w.2.1.set (o-1).toNat x).getD (o-1).toNat ([],[],false,())=x:=fun x=>Ny hi
   rw[AOJ (by grind),hg,EC hc (by
    grind[Tj,MB])]
   simp only[AD];rw[AOJ (by grind),AZu];rfl
theorem fV{n:Int}:Oo c w n=some (pkW (CT c w n)):=by
 have l1:=AU (f:=Az) (l:=w.2.1);unfold Oo Sh CT;rw[show(c.1,c.2.1,())=c from rfl,show(w.1,w.2.1,())=w from rfl,Gg hc (by omega),Td (by omega)];simp only[AD];cases EX c w with
 |false=>rfl
 |true=>
  simp only[AOx,AOk,AO5,ATF];have key:∀(k i:Nat),i<=w.2.1.length->w.2.1.length-i<k->IL k n i 0 [] w.1 ((w.2.1.map (E5 n)).take i++w.2.1.drop i)=some (pkW ((w.1,w.2.1.map (E5 n),()),true)):=by
   intro k
   induction k with
   |zero=>omega
   |succ k ih=>
    intro i hi hk;have hlen:((w.2.1.map (E5 n)).take i++w.2.1.drop i).length=w.2.1.length:=QN hi;simp only[IL,Se,AB,hlen];by_cases Du:i<w.2.1.length
    ·have c1:(0:Int)<=(i:Int)/\(i:Int)<(w.2.1.length:Int):=by omega
     have hm:w.2.1[i].1.length+w.2.1[i].2.1.length<=AS Az w.2.1:=AY (f:=Az) (AO7 Du);have hg:((w.2.1.map (E5 n)).take i++w.2.1.drop i).getD ((i:Int).toNat) ([],[],false,())=w.2.1[i]:=Ns Du;rw[AOJ c1.2];simp only[AOJ c1,hg];rw[AH (by omega) (by omega),show((i:Int)+1)=((i+1:Nat):Int)by omega];rcases AOB (w.2.1[i].2.2.1)with hd|hd
     ·rw[hd]
      simp only[AOx,AOk];grind[lY,oV]
     ·rw[hd]
      simp only[AVN,APm];rw[H_ (by omega) (by simp)];grind[AD,Int.toNat_natCast,Q7,E5]
    ·rw[AOK (by omega),APk (by omega)]
     have:i=w.2.1.length:=by omega
     subst this;rw[AQO,AVU (by simp)];rfl
  have:=key AZ 0 (by omega) (Ac (by omega));simp_all
end
abbrev PkM:Type:=AFN×(List Int×List AJ×List AAB×Unit)
def iB(q:Av×Bool):PkM:=((((q.1.1,q.1.2.1,(),(),q.1.2.2.2.2.1,(),()),q.2,()),()),(q.1.2.2.1,q.1.2.2.2.1,q.1.2.2.2.2.2.1,()))
section
variable{m:Av} (hm:CK m<=2^20)
include hm
theorem Hw:m.2.2.1.length<=2^20/\m.2.2.2.1.length<=2^20/\m.2.2.2.2.2.1.length<=2^20/\ ∀l∈m.2.2.2.2.2.1,l.length<=2^20:=by
 have l1:=AU (f:=Ah) (l:=m.2.2.2.1);have l2:=AU (f:=C8) (l:=m.2.2.2.2.2.1);have pO:m.2.2.1.length+(AS Ah m.2.2.2.1+(AS C8 m.2.2.2.2.2.1+0))<=2^20:=by
  grind[CK]
 refine⟨by omega,by omega,by omega,fun l hl=> ?_⟩;have:l.length<=AS C8 m.2.2.2.2.2.1:=AY (f:=C8) hl;omega
theorem MF:Ef m=some (((m.1,m.2.1,(),(),m.2.2.2.2.1,(),()),()),(m.2.2.1,m.2.2.2.1,m.2.2.2.2.2.1,())):=by
 obtain⟨h1,h2,h3,h4⟩:=Hw hm;have key:∀(n i:Nat) (b:List AAB),i<=m.2.2.2.2.2.1.length->m.2.2.2.2.2.1.length-i<n->b.length<=i->
   IH n i m.1 m.2.1 m.2.2.1 m.2.2.2.1 m.2.2.2.2.1 m.2.2.2.2.2.1 0 0 false [] [] [] m.1 m.2.1 m.2.2.2.2.1 m.2.2.1 m.2.2.2.1 b=some (((m.1,m.2.1,(),(),m.2.2.2.2.1,(),()),()),(m.2.2.1,m.2.2.2.1,b++m.2.2.2.2.2.1.drop i,())):=by
  intro n
  induction n with
  |zero=>omega
  |succ n ih=>
   intro i b hi hn hb;simp only[IH,S8,AB];by_cases hc:i<m.2.2.2.2.2.1.length
   ·have c1:(0:Int)<=(i:Int)/\(i:Int)<(m.2.2.2.2.2.1.length:Int):=by omega
    have hq:=h4 _ (AO7 hc);rw[AOJ c1.2,AOJ c1,AH (by omega) (by omega),show((i:Int)+1)=((i+1:Nat):Int)by omega,Al hc,AOJ (by rw[Ap];omega),AOJ (by rw[Ap];omega),drop_cons hc,ih (i+1) _ (by omega) (by omega) (by simp_all),AQM];rfl
   grind
 unfold Ef OY;rw[AOJ (by rw[Ap];omega),AOJ (by rw[Ap];omega)];grind[AZ,Ac]
end
theorem fR{l s:AAB}(hl:l.length<=2^20)(hs:s.length<=2^20):LI l s=some (((),()),(l.filter s.contains,())):=by
 unfold LI;rw[H_ (by omega) (by omega)];simp only[AD];have zG:(less l s).length<=l.length:=AUc _ _;rw[H_ (by omega) (by omega)];grind[AD,less,List.filter_congr]
theorem fD{c:CG}{s l:AAB}(hc:c.1.length<=2^40)(hl:l.length<=2^20)(hs:s.length<=2^20):K6 c s l=some ((Rc c s l,()),()):=by
 unfold K6 Rc;rw[show(c.1,c.2.1,())=c from rfl,EC (l:=s) hc (by omega),HQ (l:=l) hc (by omega),H_ (l:=l) (m:=s) (by omega) (by omega),H_ (l:=s) (m:=l) (by omega) (by omega)];simp only[AD];rcases AOB (holds c s)with h|h
 rotate_left
 ·simp_all
 rw[h];cases BH c l with
 |false=>rfl
 |true=>
  simp only[AOx,AOk,APr];have hn:BH c (less s l)=true:=TY _ (V1 h);by_cases ha:(less l s).length>0
  ·rw[show decide (((less l s).length:Int)>0)=true by simp_all]
   have:l.all s.contains=false:=by
    rw[AWt];grind[List.all_eq_true,less,List.filter_eq_nil_iff]
   grind
  ·rw[AVY (show¬((less l s).length:Int)>0 by omega)]
   have:l.all s.contains=true:=by
    grind[less,List.length_eq_zero_iff,List.filter_eq_nil_iff,List.all_eq_true]
   rw[this];simp only[AOk,APr];rw[fI hn];simp only[AD,holds,hn,APr];grind[cO,less,decide_eq_true,decide_eq_false]
section
variable{c:CG} {m:Av} (hc:c.1.length<=2^40) (hm:CK m<=2^20) (h:gu m.2.2.2.1)
include hc hm h
theorem dz{o n:Int}:Em c m o n=some (iB (TG c m o n)):=by
 obtain⟨h1,h2,h3,h4⟩:=Hw hm;unfold Em TG;rw[show(c.1,c.2.1,())=c from rfl,T5 m,J9 hc (by omega) h,MF hm,Be,Be];simp only[AD];rcases AOB (G9 c m)with hw|hw
 rotate_left
 ·rw[hw];rfl
 have zh:=D8 (G8.1 hw).cfg;rw[hw,AH (x:=(c.1.length:Int)-1) (by omega) (by omega)];simp only[AOx,AOk,AO5,ATF];rcases AOB (Bd o 1 (m.2.2.2.2.2.1.length:Int))with ho|ho
 rotate_left
 ·rw[ho];rfl
 have y9:=As.1 ho;rw[ho];cases Bd n 0 ((c.1.length:Int)-1)with
 |false=>rfl
 |true=>
  have hi:(o-1).toNat<m.2.2.2.2.2.1.length:=by omega
  have hq:=h4 _ (Bm (d:=([]:AAB)) hi);simp only[AOx,AOk,APr,AVR];rw[AH (by omega) (by omega),AOJ (by omega),Lf (by omega)];simp only[AD];rw[AOJ (by omega)];rfl
theorem jZ{n:Int}:RL c m n=some (iB (CO c m n)):=by
 obtain⟨h1,h2,h3,h4⟩:=Hw hm;unfold RL UD CO;rw[show(c.1,c.2.1,())=c from rfl,T5 m,J9 hc (by omega) h,MF hm];simp only[AD];cases G9 c m with
 |false=>rfl
 |true=>
  simp only[AOx,AOk,AO5,ATF];have key:∀(k i:Nat),i<=m.2.2.2.2.2.1.length->m.2.2.2.2.2.1.length-i<k->KH k n i 0 0 false [] [] [] m.1 m.2.1 m.2.2.2.2.1 m.2.2.1 m.2.2.2.1 ((m.2.2.2.2.2.1.map (fun l=>less l [n])).take i++m.2.2.2.2.2.1.drop i)=
    some (iB ((m.1,m.2.1,m.2.2.1,m.2.2.2.1,m.2.2.2.2.1,m.2.2.2.2.2.1.map (fun l=>less l [n]),()),true)):=by
   intro k
   induction k with
   |zero=>omega
   |succ k ih=>
    intro i hi hk;have hlen:=QN (f:=fun l=>less l [n]) hi;simp only[KH,UG,AB,hlen];by_cases Du:i<m.2.2.2.2.2.1.length
    ·have c1:(0:Int)<=(i:Int)/\(i:Int)<(m.2.2.2.2.2.1.length:Int):=by omega
     have hq:=h4 _ (AO7 Du);have hg:((m.2.2.2.2.2.1.map (fun l=>less l [n])).take i++m.2.2.2.2.2.1.drop i).getD ((i:Int).toNat) []=m.2.2.2.2.2.1[i]:=Ns Du;rw[AOJ c1.2];simp only[AOJ c1,hg];rw[AH (by omega) (by omega),show((i:Int)+1)=((i+1:Nat):Int)by omega,H_ (by omega) (by simp)];simp only[AD];rw[AO2,Q7 Du rfl];grind
    ·rw[AOK (by omega),APk (by omega)]
     have:i=m.2.2.2.2.2.1.length:=by omega
     subst this;rw[AQO,AVU (by simp)];rfl
  have:=key AZ 0 (by omega) (Ac (by omega));simp_all
theorem kW:TA c m=some ((QH c m,()),()):=by
 obtain⟨h1,h2,h3,h4⟩:=Hw hm;unfold TA WB QH;rw[show(c.1,c.2.1,())=c from rfl,T5 m,J9 hc (by omega) h];simp only[AD];cases G9 c m with
 |false=>rfl
 |true=>
  rcases AOB m.2.2.2.2.1 with hp|hp
  rotate_left
  ·simp_all
  have key:∀(k i:Nat),i<=m.2.2.2.2.2.1.length->m.2.2.2.2.2.1.length-i<k->K_ k i c.1 c.2.1 m.1 m.2.1 m.2.2.1 m.2.2.2.1 m.2.2.2.2.1 m.2.2.2.2.2.1=some (((m.2.2.2.2.2.1.drop i).all (holds c),()),()):=by
   intro k
   induction k with
   |zero=>omega
   |succ k ih=>
    intro i hi hk;simp only[K_,Vs,AB];by_cases Du:i<m.2.2.2.2.2.1.length
    ·have c1:(0:Int)<=(i:Int)/\(i:Int)<(m.2.2.2.2.2.1.length:Int):=by omega
     have hq:=h4 _ (AO7 Du);rw[AOJ c1.2,AOJ c1,AH (by omega) (by omega),show((i:Int)+1)=((i+1:Nat):Int)by omega,Al Du,drop_cons Du,show(c.1,c.2.1,())=c from rfl,EC hc (by omega),ih (i+1) (by omega) (by omega)];simp only[AD,AVl];cases holds c m.2.2.2.2.2.1[i]<;>rfl
    grind
  have:=key AZ 0 (by omega) (Ac (by omega));simp_all
omit hc h in
theorem Zx{o:Int}:E_ m o=some ((((Ec m o).getD D6,(Ec m o).isSome,()),()),()):=by
 obtain⟨h1,h2,h3,h4⟩:=Hw hm;unfold E_ Ec;rw[lp];simp only[AD];rw[VA (by omega)];simp only[AD];cases m.2.2.2.2.1 with
 |false=>rfl
 |true=>
  simp only[AOx,AOk,APr];rcases AOB (Bd m.2.1 1 30)with he|he
  rotate_left
  ·rw[he];rfl
  rcases AOB (Bd o 1 60)with ho|ho
  rotate_left
  ·rw[he,ho];rfl
  have hp:HE m.2.1 o=HN m.2.1 o:=by unfold HE;rw[he,ho];rfl
  rw[he,ho,hp];simp only[AVm,AOx,AOk,APr];by_cases hl:o<=m.2.2.2.2.2.1.length
  ·rw[show decide (o>(m.2.2.2.2.2.1.length:Int))=false by simpa using hl,show decide (o<=(m.2.2.2.2.2.1.length:Int))=true by simpa using hl]
   simp only[AOk,AVR];cases OO (HN m.2.1 o) m.2.2.2.1<;>rfl
  ·rw[show decide (o>(m.2.2.2.2.2.1.length:Int))=true by simp;omega,show decide (o<=(m.2.2.2.2.2.1.length:Int))=false by simp;omega]
   rfl
theorem cF{s:AAB}(hs:s.length<=2^20):JS c m s=some (iB (MU c m s)):=by
 obtain⟨h1,h2,h3,h4⟩:=Hw hm;unfold JS Ww MU;rw[show(c.1,c.2.1,())=c from rfl,T5 m,J9 hc (by omega) h,MF hm];simp only[AD];rcases AOB (G9 c m)with EP|EP
 rotate_left
 ·rw[EP];rfl
 have hmo:=G8.1 EP;rw[EP];rcases AOB m.2.2.2.2.1 with hp|hp
 ·rw[hp]
  simp only[AOx,AOk,APm,AVZ,AO5,ATF,iB,hp]
 have hn:=hmo.n;rw[hp]at hn;have hw0:m.2.2.2.2.2.1=[]:=AZn.1 (by simp_all);rw[hp];simp only[AOx,AVN,AOk,AO5,ATF,APr];rw[fR (by omega) hs];have zC:(m.2.2.1.filter s.contains).length<=m.2.2.1.length:=AUc _ _;simp only[AD];rw[fD hc (by omega) hs];simp only[AD];cases Rc c s (m.2.2.1.filter s.contains)with
 |false=>simp[iB,hp]
 |true=>
  simp only[AOx,AOk,AVR];have hlb:=Gw (l:=m.2.2.2.1);have key:∀(k i:Nat),(i:Int)<=PL m.2.2.2.1->(PL m.2.2.2.1).toNat-i<k->Ms k i m.1 m.2.1 m.2.2.1 m.2.2.2.1 false m.2.2.2.2.2.1 0 0 false [] [] [] m.1 m.2.1 true m.2.2.1 m.2.2.2.1 (List.replicate i [])=
    some (iB ((m.1,m.2.1,m.2.2.1,m.2.2.2.1,true,List.replicate (PL m.2.2.2.1).toNat [],()),true)):=by
   intro k
   induction k with
   |zero=>omega
   |succ k ih=>
    intro i hi hk;simp only[Ms,W0];rw[show SX (m.1,m.2.1,m.2.2.1,m.2.2.2.1,false,m.2.2.2.2.2.1,())=some ((PL m.2.2.2.1,()),())from eW (m:=(m.1,m.2.1,m.2.2.1,m.2.2.2.1,false,m.2.2.2.2.2.1,())) (by grind) h];simp only[AD,AB];by_cases Du:(i:Int)<PL m.2.2.2.1
    ·rw[AOJ Du,AOJ (by rw[Ap,AVz];omega),AH (by omega) (by omega),show((i:Int)+1)=((i+1:Nat):Int)by omega,<-List.replicate_succ']
     exact ih (i+1) (by omega) (by omega)
    ·rw[AOK Du]
     have:i=(PL m.2.2.2.1).toNat:=by omega
     rw[this];rfl
  have:=key AZ 0 (by omega) (Ac (by omega));simp_all
theorem cB{n:Int}{l:List AJ}(hl:l.length<=2^20)(VP:gu l)(hw:AS Ah l<=2^20):JY c m n l=some (iB (Pj c m n l)):=by
 obtain⟨h1,h2,h3,h4⟩:=Hw hm;unfold JY Wj Pj;rw[show(c.1,c.2.1,())=c from rfl,T5 m,J9 hc (by omega) h,MF hm];simp only[AD];rw[Lf (by omega)];simp only[AD];rcases AOB (G9 c m)with EP|EP
 rotate_left
 ·rw[EP];rfl
 rw[EP];simp only[AOx,AOk,AO5,ATF];have AW7:∀(e:AJ) (k:List AJ),AS Ah (keep e k)<=AS Ah k+(1+Ah e):=by
  intro e k
  induction k with
  |nil=>simp[keep,AS]
  |cons x k ih=>
   grind[keep,AS,better]
 have key:∀(k i:Nat) (b:List AJ),i<=l.length->l.length-i<k->b.length<=2^20+i->gu b->AS Ah b+AS Ah (l.drop i)<=2^21->
   MX k l i c.1 c.2.1 m.1 m.2.1 m.2.2.1 m.2.2.2.1 m.2.2.2.2.1 m.2.2.2.2.2.1 0 0 false [] [] [] m.1 m.2.1 m.2.2.2.2.1 (OH n m.2.2.1) b m.2.2.2.2.2.1=
   some (iB (if !m.2.2.2.2.1&&G9 c (m.1,m.2.1,OH n m.2.2.1,EY b ((l.drop i).filter fun e=>Ar e.1==m.2.1),m.2.2.2.2.1,m.2.2.2.2.2.1,())then
    ((m.1,m.2.1,OH n m.2.2.1,EY b ((l.drop i).filter fun e=>Ar e.1==m.2.1),m.2.2.2.2.1,m.2.2.2.2.2.1,()),true)else(m,false))):=by
  intro k
  induction k with
  |zero=>omega
  |succ k ih=>
   intro i b hi hk hb we rk;simp only[MX,Wh,AB];by_cases Du:i<l.length
   ·have c1:(0:Int)<=(i:Int)/\(i:Int)<(l.length:Int):=by omega
    rw[AOJ c1.2];simp only[AOJ c1];rw[AH (by omega) (by omega),show((i:Int)+1)=((i+1:Nat):Int)by omega,Al Du,drop_cons Du,cu (l[i]),EW (VP _ (AO7 Du)),YG (by omega)];rw[drop_cons Du]at rk;simp only[AS]at rk;simp only[AD,AVV];rcases AOB (Ar l[i].1==m.2.1)with he|he
    ·simp only[he,APm,AVR,EY]
     have:=Yw (e:=l[i]) (l:=b);have hwk:=AW7 l[i] b;exact ih (i+1) _ (by omega) (by omega) (by omega) (fun x hx=>by
      rcases ft hx with rfl|hx
      ·exact VP _ (AO7 Du)
      ·exact we x hx) (by omega)
    grind
   ·rw[AOK (by omega),APk (by omega),T5 m,show(c.1,c.2.1,())=c from rfl,MF hm]
    simp only[AZ4,EY];rcases AOB m.2.2.2.2.1 with hp|hp
    ·grind[iB]
    rw[APk (by omega)]at rk;simp only[AS]at rk;have zH:=Tj (n:=n) (l:=m.2.2.1);have hb2:=AU (f:=Ah) (l:=b);rw[J9 (m:=(m.1,m.2.1,OH n m.2.2.1,b,m.2.2.2.2.1,m.2.2.2.2.2.1,())) hc (by
     grind[CK]) we]
    simp only[AD];rw[hp];simp only[AOk,AVN,APr];grind[G9,OH,iB]
 have hsw:AS Ah m.2.2.2.1<=2^20:=by
  grind[CK]
 have:=key AZ 0 m.2.2.2.1 (by omega) (Ac (by omega)) (by omega) h (by grind);simp_all
end
theorem BB{α:Type}{b:Bool}{x y:α}:cond (!b) x y=cond b y x:=by simp_all
theorem C6{α:Type}{a b:Int}{x y:α}:cond (a !=b) x y=if a=b then y else x:=by
 simp_all
theorem Dh{α:Type}{a b:Int}{x y:α}:cond (a==b) x y=if a=b then x else y:=by
 simp_all
theorem mw{c:CG}{l:List BA}(hc:c.1.length<=2^40)(hl:l.length<=2^20):
  aL c l=some ((((),BH c (l.map fun a=>a.1),()),()),(l.map (fun a=>a.1),())):=by
 have key:∀(n i:Nat) (b:AAB),i<=l.length->l.length-i<n->b.length=i->
   Mc n l i c.1 c.2.1 b=some ((((),BH c (b++(l.drop i).map fun a=>a.1),()),()),(b++(l.drop i).map (fun a=>a.1),())):=by
  intro n
  induction n with
  |zero=>omega
  |succ n ih=>
   intro i b hi h hb;simp only[Mc,Wz,AB];by_cases eS:i<l.length
   ·have c1:(0:Int)<=(i:Int)/\(i:Int)<(l.length:Int):=by omega
    have c2:b.length+1<=C_:=by rw[Ap];omega
    rw[AOJ c1.2,AOJ c1,AOJ c2,AH (by omega) (by omega),show((i:Int)+1)=((i+1:Nat):Int)by omega,Al eS,ih (i+1) _ (by omega) (by omega) (by simp_all),drop_cons eS];grind
   ·rw[AOK (by omega),APk (by omega),AZm,AQO,show(c.1,c.2.1,())=c from rfl,HQ hc (by omega)]
    rfl
 have:=key AZ 0 [] (by omega) (Ac (by omega)) rfl;rw[show((0:Nat):Int)=0 from rfl,AUN,AVJ]at this;exact this
theorem WQ{r:Ag}(h:r.2.2.1.length<=2^30):CX r=some (((r.1,r.2.1,(),()),()),(r.2.2.1,())):=by
 unfold CX;rw[AOJ (by rw[Ap];omega)]
theorem dt{r:Ag}{e:BU}{x y:Int}(h:r.2.2.1.length<=2^30):JJ r e x y=some (((x,y,(),()),()),(r.2.2.1++[e],())):=by
 unfold JJ;rw[QD r,WQ h];simp only[AD];rw[AOJ (by rw[Ap];omega)]
theorem ph{s:AAB}{p:Int}{l:List BA}(hs:s.length<=2^20)(hl:l.length<=2^20)(VP:∀a∈l,CB a.2.2.1):
  Mx s p l=some ((Rj p (IA s p none l),()),()):=by
 have key:∀(n i:Nat) (b:Option AJ),i<=l.length->l.length-i<n->
   Nb n s p l b.isSome i 0 0 [] (b.getD D6).1 (b.getD D6).2.1 (b.getD D6).2.2.1 (b.getD D6).2.2.2.1=some ((Rj p (IA s p b (l.drop i)),()),()):=by
  intro n
  induction n with
  |zero=>omega
  |succ n ih=>
   intro i b hi h;simp only[Nb,ZA,AB,BB];by_cases eS:i<l.length
   ·have c1:(0:Int)<=(i:Int)/\(i:Int)<(l.length:Int):=by omega
    rw[AOJ c1.2,AOJ c1,AH (by omega) (by omega),show((i:Int)+1)=((i+1:Nat):Int)by omega,Al eS,drop_cons eS];have ih':=fun b=>ih (i+1) b (by omega) (by omega)
    simp only[ih'];rw[LV (by omega),show(l[i].2.2.1,l[i].2.2.2.1,l[i].2.2.2.2.1,l[i].2.2.2.2.2.1,())=Xe l[i]from rfl];rw[RV (e:=Xe l[i]) (VP _ (AO7 eS))];simp only[AD,IA];cases h1:l[i].2.1 with
    |false=>simp
    |true=>
     cases h2:s.contains l[i].1 with
     |false=>simp
     |true=>
      cases h3:GG (Xe l[i])with
      |false=>simp
      |true=>
       simp only[APm,APr];by_cases h4:l[i].2.2.1=p
       ·rw[C6,AOJ h4,AOJ (by show((Xe l[i]).1==p)=true;rw[AVi];exact h4)]
        cases b with
        |none=>
         simp only[AVb,AOk,YL,AD,Option.getD_none];have:=ih' (some (Xe l[i]));simp only[AVT,AVc]at this;have hb:better (Xe l[i]) (Xe l[i])=Xe l[i]:=by unfold better;simp_all
         simp_all
        |some x=>
         simp only[AVT,APm,AVc];rw[cu x];grind[YL,AD,better,Xe,Option.isSome_some]
       ·rw[C6,AOK h4,AOK (by show¬((Xe l[i]).1==p)=true;rw[AVi];exact h4)]
   ·rw[AOK (by omega),APk (by omega)]
    simp only[IA];cases b with
    |none=>rfl
    |some x=>
     simp only[AVT,APm,AVc,Rj];grind
 exact key AZ 0 none (by omega) (Ac (by omega))
theorem kj{x:Int}:0<=DX x/\DX x<=60:=by
 cases h:Bp x with
 |true=>have:=(HX h).2.1;omega
 |false=>unfold DX;simp_all
def z7(q:Ag×Int):Zq:=((((q.1.1,q.1.2.1,(),()),q.2,()),()),(q.1.2.2.1,()))
theorem iq{c:CG}{g:AN}{sure:Int}{r:Ag}{l:List BA}(hc:c.1.length<=2^20)(hg:AS Bk g.1<=2^20)(ht:CB g.2.1)(hl:l.length<=2^20)(VP:∀a∈l,CB a.2.2.1):
  RD c g sure r l=some (z7 (C2 c g sure r l)):=by
 unfold RD C2;rw[show(c.1,c.2.1,())=c from rfl,show(g.1,g.2.1,())=g from rfl,QD r,mw (by omega) hl,Qy (by omega) (by omega) ht,P9];simp only[AD,BB,AB];cases h1:Pp c g with
 |false=>rfl
 |true=>
 cases h2:bp r with
 |false=>rfl
 |true=>
 cases h3:BH c (l.map fun a=>a.1)with
 |false=>rfl
 |true=>
 have hr:=Uy.1 h2;have hre:=hr.ep;have hro:=hr.off;have hrn:=hr.n;have hR:=Ke.1 h1;have hRn:=hR.n;simp only[APm,APr,AOx,AO5,ATF];rw[WQ (by omega)];simp only[AD];by_cases h4:r.1>(g.1.length:Int)
 ·rw[AOJ h4,AVH h4];rfl
 rw[AOK h4,AVY h4];by_cases h5:r.2.2.1.length=120
 ·rw[show(((r.2.2.1.length:Nat):Int)==120)=true by simp_all,AVH h5];rfl
 rw[show(((r.2.2.1.length:Nat):Int)==120)=false by grind,AVY h5];simp only[AOk,AVP,AO5,ATF];rw[AH (x:=r.1-1) (by omega) (by omega),AOJ (by omega),GH (by omega) (by omega),EW ht,av ht];simp only[AD];have hto:=kj (x:=g.2.1);rw[AH (x:=DX g.2.1+1) (by omega) (by omega),AH (x:=r.1+1) (by omega) (by omega),AH (x:=r.2.1+1) (by omega) (by omega)];simp only[dt (r:=r) (by omega),AD];by_cases h6:g.2.1>=HN r.1 r.2.1
 ·rw[AOJ h6,AOJ h6];rfl
 rw[AOK h6,AOK h6]
 generalize AHA:g.1.getD (r.1-1).toNat GB=era
 have Ha:(r.1-1).toNat<g.1.length:=by omega
 have Vb:era.1.length<=2^20:=by
  have h7:=AY (f:=Bk) (Bm (d:=GB) Ha);rw[AHA]at h7;have:Bk era=era.1.length:=rfl;omega
 have tail:((LI (l.map fun a=>a.1) era.1).bind fun Lt=>
   (K6 c era.1 Lt.2.1).bind fun Wo=>
   cond (Wo.1.1)
    ((Mx era.1 (HN r.1 r.2.1) l).bind fun aq=>
    some ((((r.1,r.2.1+1,(),()),0,()),()),(r.2.2.1++[(aq.1.1.1,aq.1.1.2.1,aq.1.1.2.2.1,())],())))
    (some ((((r.1,r.2.1,(),()),3,()),()),(r.2.2.1,()))))=
   some (z7 (if !Rc c era.1 ((l.map fun a=>a.1).filter era.1.contains)then(r,3)else
    ((r.1,r.2.1+1,r.2.2.1++[Rj (HN r.1 r.2.1) (IA era.1 (HN r.1 r.2.1) none l)],()),0))):=by
  have hf:((l.map fun a=>a.1).filter era.1.contains).length<=2^20:=AVG (AUc _ _) (by simp_all);rw[fR (by simp_all) Vb,ph Vb hl VP];simp only[AD];rw[fD (by omega) hf Vb];simp only[AD,dt (r:=r) (by omega)];cases Rc c era.1 ((l.map fun a=>a.1).filter era.1.contains)<;>rfl
 have hd:g.1.getD (r.1-1).toNat ([],false,0,())=era:=AHA;rw[hd];simp only[tail];cases h7:era.2.1 with
 |true=>
  simp only[APm,AOk,APr,AOx,AVZ,AVP,APo];by_cases h8:r.2.1>era.2.2.1
  ·rw[AOJ h8,AOJ h8];rfl
  rw[AOK h8,AOK h8];by_cases h9:r.2.1>60
  ·rw[AOJ h9,AOJ h9];rfl
  grind
 |false=>
  simp only[APm,AOk,APr,AVN,AVZ,AO5,ATF,AVX,APo];by_cases h8:r.2.1>sure
  ·rw[AOJ h8,AOJ (.inl h8)];rfl
  rw[AOK h8];by_cases h9:r.2.1>60
  ·rw[AOJ h9,AOJ (.inr h9)];rfl
  grind
theorem qF{c:CG}{l:AAB}(hc:c.1.length<=2^20)(hl:l.length<=2^20):Z1 c l=some ((BH c l&& !holds c l,()),()):=by
 unfold Z1;rw[show(c.1,c.2.1,())=c from rfl,HQ (by omega) (by omega),EC (by omega) (by omega)];grind
theorem nM{ss:List AO}(hs:ss.length<=1024)(h:∀s∈ss,s.1.length<=1024):au ss=some (((),()),(HF [] ss,())):=by
 have key:∀n:Nat,
   (∀(i:Nat) (b:List AJ),i<=ss.length->(ss.length-i)*1026+1<=n->b.length<=i*1024->
    JZ n ss i b=some (((),()),(HF b (ss.drop i),())))/\
   (∀(i j:Nat) (b:List AJ),(hi:i<ss.length)->j<=ss[i].1.length->(ss.length-i-1)*1026+1+(ss[i].1.length-j)+1<=n->b.length<=i*1024+j->
    Jg n ss i j b=some (((),()),(HF (EY b (ss[i].1.drop j)) (ss.drop (i+1)),()))):=by
  intro n
  induction n with
  |zero=>simp_all
  |succ n ih=>
   refine⟨fun i b hi h' hb=> ?_,fun i j b hi hj h' hb=> ?_⟩
   ·simp only[JZ,Wr,AB]
    by_cases hc:i<ss.length
    ·rw[AOJ (by omega)]
     have hm:=h _ (AO7 hc);have e1:(ss.length-i)*1026=(ss.length-i-1)*1026+1026:=by
      omega
     have:=ih.2 i 0 b hc (by omega) (by omega) (by omega);rw[show((0:Nat):Int)=0 from rfl,AUN]at this;rw[this,drop_cons hc];rfl
    ·rw[AOK (by omega),APk (by omega)]
     rfl
   ·have hm:=h _ (AO7 hi)
    simp only[Jg,Wc,AB];have c1:(0:Int)<=(i:Int)/\(i:Int)<(ss.length:Int):=by omega
    rw[AOJ c1,Al hi];simp only[AOJ c1];have hbb:i*1024<=2^20:=by
     omega
    by_cases hc:j<ss[i].1.length
    ·have c2:(0:Int)<=(j:Int)/\(j:Int)<(ss[i].1.length:Int):=by omega
     rw[AOJ c2.2,AOJ c2,Al hc,cu (ss[i].1[j]),YG (by omega)];simp only[AD];rw[AH (by omega) (by omega),show((j:Int)+1)=((j+1:Nat):Int)by omega,drop_cons hc];have hk:=Yw (e:=ss[i].1[j]) (l:=b);exact ih.2 i (j+1) _ hi (by omega) (by omega) (by omega)
    ·rw[AOK (by omega),AH (by omega) (by omega),show((i:Int)+1)=((i+1:Nat):Int)by omega,APk (by omega)]
     exact ih.1 (i+1) b (by omega) (by grind) (by omega)
 have hf:(ss.length-0)*1026+1<=AZ:=by
  have:ss.length*1026<=1024*1026:=ASH _ hs;exact AW6 (Ac (by omega))
 exact(key AZ).1 0 [] (by omega) hf (by simp)
theorem zb(e:AJ):∀l:List AJ,AS Ah (keep e l)<=AS Ah l+(1+Ah e)
 |[]=>by simp[keep,AS]
 |x::l=>by
  have:=zb e l;grind[keep,better,AS]
theorem xG:∀{l k:List AJ},AS Ah (EY k l)<=AS Ah k+AS Ah l
 |[],k=>by simp[EY,AS]
 |e::l,k=>by
  have h1:=xG (l:=l) (k:=keep e k);grind[zb,EY,AS]
theorem AAo:∀{l:List AO} {k:List AJ},AS Ah (HF k l)<=AS Ah k+AS Aj l
 |[],k=>by simp[HF,AS]
 |s::l,k=>by
  have h1:=AAo (l:=l) (k:=EY k s.1);have h2:=xG (l:=s.1) (k:=k);have:Aj s=AS Ah s.1+AS Ah s.2.1:=rfl;grind[HF,AS]
theorem mu{y:AJ}:∀{l:List AO} {k:List AJ},y∈HF k l->y∈k\/ ∃s∈l,y∈s.1
 |[],k,h=> .inl h
 |s::l,k,h=>by
  rcases mu (l:=l) h with h|⟨t,ht,h⟩
  all_goals grind[fC]
def xe(b:Bool)(x:AO):AO×Bool:=if b then(x,true)else(EN,false)
def pkF(ss:List AO)(q:AO×Bool):PY:=(((((),(),q.1.2.2.1,()),q.2,()),()),(ss,q.1.1,q.1.2.1,()))
theorem vX{c:CG}{ss:List AO}{lost:AAB}{n upto:Int}(hc:c.1.length<=2^20)(hs:ss.length<=1024)(hn:∀s∈ss,s.1.length<=1024)(hw:AS Aj ss<=2^24)(VP:∀s∈ss,kC s)(hl:lost.length<=2^20):
  gD c lost n upto ss=some (pkF ss (bJ c ss lost n upto)):=by
 have hfs:bJ c ss lost n upto=xe (GI c&&(decide (ss.length=c.1.length)&&(BH c lost&&(!holds c lost&&(lost.contains n&&((others lost 0 ss).all CN&&CN (HF [] (others lost 0 ss),[],upto,()))))))) (HF [] (others lost 0 ss),[],upto,()):=rfl;rw[hfs];unfold gD dv;rw[show(c.1,c.2.1,())=c from rfl,Hq (by omega),qF hc hl,LV (by omega)];simp only[AD,BB,C6];have k11:∀(k i:Nat) (o:List AO),(∀s∈o,s∈ss)->o.length<=ss.length->AS Aj o<=2^24->i<=o.length->o.length-i<k->
   OA k upto i ss 0 [] [] 0 [] [] o=some (pkF ss (xe ((o.drop i).all CN&&CN (HF [] o,[],upto,())) (HF [] o,[],upto,()))):=by
  intro k
  induction k with
  |zero=>omega
  |succ k ih=>
   intro i o ho hol how hi h;simp only[OA,bS,AB,BB];by_cases Du:i<o.length
   ·have c1:(0:Int)<=(i:Int)/\(i:Int)<(o.length:Int):=by omega
    have hm:=ho _ (AO7 Du);have hws:=AY (f:=Aj) hm;rw[AOJ c1.2,AOJ c1,Al Du,QD (o[i]),GA (by omega) (VP _ hm),AH (by omega) (by omega),show((i:Int)+1)=((i+1:Nat):Int)by omega,ih (i+1) o ho hol how (by omega) (by omega),drop_cons Du];simp only[AD,AVl];rcases AOB (CN o[i])with hb|hb<;>rw[hb]
    all_goals rfl
   ·rw[AOK (by omega),APk (by omega),nM (by omega) (fun s hs=>hn s (ho s hs))]
    have hu:=AAo (l:=o) (k:=[]);simp only[AS]at hu;simp only[AD];rw[GA (s:=(HF [] o,[],upto,())) (by show AS Ah (HF [] o)+AS Ah []<=_;grind[AS]) ⟨fun e he=>by
     rcases mu he with he|⟨t,ht,he⟩
     ·simp_all
     ·exact(VP t (ho t ht)).1 e he,fun e he=>by simp_all⟩]
    simp only[AD,List.all_nil,APr];rcases AOB (CN (HF [] o,[],upto,()))with hb|hb<;>rw[hb]<;>rfl
 have k6:∀(k i:Nat) (o:List AO),(∀s∈o,s∈ss)->i<=ss.length->(ss.length-i)+ss.length+2<=k->o.length<=i->AS Aj o+AS Aj (ss.drop i)<=2^24->
   Ps k lost upto i ss 0 [] [] 0 [] [] o=some (pkF ss (xe ((o++others lost i (ss.drop i)).all CN&&CN (HF [] (o++others lost i (ss.drop i)),[],upto,())) (HF [] (o++others lost i (ss.drop i)),[],upto,()))):=by
  intro k
  induction k with
  |zero=>omega
  |succ k ih=>
   intro i o ho hi h hol how;simp only[Ps,dk,AB,BB];by_cases Du:i<ss.length
   ·have c1:(0:Int)<=(i:Int)/\(i:Int)<(ss.length:Int):=by omega
    have c2:o.length+1<=C_:=by rw[Ap];omega
    rw[drop_cons Du]at how;simp only[AS]at how;have hws:Aj ss[i]+(AS Ah []+0)=Aj ss[i]:=rfl;rw[AOJ c1.2,LV (by omega),AOJ c1,AOJ c2,Al Du,QD (ss[i]),AH (by omega) (by omega),show((i:Int)+1)=((i+1:Nat):Int)by omega];simp only[AD];rw[ih (i+1) o ho (by omega) (by omega) (by omega) (by omega)];rw[ih (i+1) (o++[ss[i]]) (fun s hs=>by
     grind) (by omega) (by omega) (by simp_all) (by grind[JX,AS])]
    rw[drop_cons Du];simp only[others];grind
   ·have:=k11 k 0 o ho (by omega) (by omega) (by omega) (by omega)
    rw[show((0:Nat):Int)=0 from rfl,AUN]at this;rw[AOK (by omega),this,APk (by omega)];simp only[others,AQO]
 have:=k6 AZ 0 [] (by simp) (by omega) (AW6 (Ac (by omega))) (by simp) (by grind[AS]);rw[show((0:Nat):Int)=0 from rfl,AUN,AVJ]at this;rw[this];rcases AOB (GI c)with h1|h1
 rotate_left
 ·rw[h1];rfl
 by_cases h2:ss.length=c.1.length
 rotate_left
 ·rw[AOK (by omega),h1,AVY h2];rfl
 rw[AOJ (by omega),h1,AVH h2];rcases AOB (BH c lost)with h3|h3
 rotate_left
 ·rw[h3];rfl
 rw[h3];rcases AOB (holds c lost)with h4|h4
 ·rw[h4];rfl
 rw[h4];rcases AOB (lost.contains n)with h5|h5
 rotate_left
 ·rw[h5];rfl
 simp_all
theorem qf{α:Type}{l:List α}{i j:Nat}{x d:α}(hi:i<l.length):(l.set i x).getD j d=if i=j then x else l.getD j d:=by
 grind
theorem Qt{w:AA}{n:Int}(h:Ay w n=0):0<=n/\n<w.BX.length/\n∉w.lost:=by
 unfold Ay at h;split at h
 ·omega
 rename_i h1;simp only[ASw,AS2,As]at h1;grind
theorem rQ{s x:Af}:∀{l:List Af},x∈af s l↔x=s\/x∈l
 |[]=>by simp[af]
 |y::l=>by
  simp only[af];split
  ·simp
  ·simp only[ASY,rQ (l:=l)]
   grind
theorem yk{s:Af}:∀{l:List Af},(af s l).length=l.length+1
 |[]=>rfl
 |y::l=>by
  simp only[af];split
  ·rfl
  ·simp only[ART,yk (l:=l)]
theorem yB{s:Af}:∀{l:List Af},WD (fun s:Af=>s.1) l->(∀x∈l,x.1≠s.1)->WD (fun s:Af=>s.1) (af s l)
 |[],_,_=>by simp[af,WD]
 |y::l,h,hs=>by
  have h':=h;simp only[WD,AVM]at h;simp only[af];split
  ·rename_i hy
   simp only[WD,AVM,ASY];grind
  ·rename_i hy
   simp only[WD,AVM];refine⟨fun a ha=> ?_,yB h.2 fun x hx=>hs x (by simp[hx])⟩;rcases rQ.1 ha with rfl|ha
   all_goals grind
section
variable{w:AA} (h:KU w)
include h
theorem KU.node{n:Int}(hn:Ay w n=0):(0<=n/\n<(Ae w).1.length)/\n.toNat<w.BX.length/\n∉w.lost:=by
 obtain⟨a,b,c⟩:=Qt hn;have:=h.sn;exact⟨⟨a,by show n<(w.1.length:Int);omega⟩,by omega,c⟩
theorem KU.sW{n:Int}(hn:Ay w n=0){s:AO}(hs:dO s):KU (w.CV (w.BX.set n.toNat s)):=by
 obtain⟨h1,h2,h3⟩:=h.node hn;refine⟨h.cfg,by(try simp only[H.AA.BX,H.AA.lost,H.AA.Am,H.AA.trim,H.AA.AQ,H.AA.An,H.AA.AX,H.AA.Ai,H.AA.GP,H.AA.CV,H.AA.Fb,H.AA.JB,H.AA.Bl,H.AA.Cy,H.AA.DN,H.AA.Ax,H.AA.Fj,CQ,Ae]at*);simpa using h.sn,h.lost,h.GP,fun i hi=> ?_,h.jx,h.tK,h.xO,h.AQ,h.gg,h.An,h.sg,h.AX,h.SF,h.Ai,h.an⟩
 (try simp only[H.AA.BX,H.AA.lost,H.AA.Am,H.AA.trim,H.AA.AQ,H.AA.An,H.AA.AX,H.AA.Ai,H.AA.GP,H.AA.CV,H.AA.Fb,H.AA.JB,H.AA.Bl,H.AA.Cy,H.AA.DN,H.AA.Ax,H.AA.Fj,CQ,Ae]at*);simp only[AVj]at hi
 simp only[qf h2];split
 ·grind
 ·exact h.BX i hi
theorem KU.store{n:Int}(hn:Ay w n=0):dO (storeAt w n):=(h.BX _ (h.node hn).2.1).1
theorem kJ{n:Int}{q:AO×Bool}(hn:Ay w n=0)(hs:q.2=true->dO q.1)(e:(putAt w n q).2=0):KU (putAt w n q).1:=by
 unfold putAt at*;split at e
 ·rename_i hq
  rw[AOJ hq];exact h.sW hn (hs hq)
 omega
theorem ANC{a:Int}(e:(M9 w a).2=0):KU (M9 w a).1:=by
 unfold M9 at*;split at e
 ·omega
 rename_i h4;rw[AOK h4];simp only at e|-;split at e
 ·omega
 rename_i hq;rw[AOK hq];simp only[ASw,AS2]at hq;obtain⟨_,r1,r2,r3,r4,r5⟩:=ru hq;rw[r2]at r1;rw[r2,r3];have hnw:=h.tK;have hl:((CQ w).1++[(BZ a,false,0,())]).length=w.Am.length+1:=by simp[CQ]
 refine⟨h.cfg,h.sn,h.lost,h.GP,h.BX,r1,?_,by(try simp only[H.AA.BX,H.AA.lost,H.AA.Am,H.AA.trim,H.AA.AQ,H.AA.An,H.AA.AX,H.AA.Ai,H.AA.GP,H.AA.CV,H.AA.Fb,H.AA.JB,H.AA.Bl,H.AA.Cy,H.AA.DN,H.AA.Ax,H.AA.Fj,CQ,Ae]at*);simp,fun x hx=> ?_,?_,fun m hm=>by grind,h.sg,h.AX,h.SF,fun s hs=> ?_,h.an⟩
 ·grind
 ·replace hx:x∈w.AQ++[((w.Am.length:Int)+1,[],())]:=hx
  simp only[ARh,AU4]at hx;have Ah1:w.Am.length<30:=r5;have mT:(((CQ w).1++[(BZ a,false,0,())]).length:Int)=(w.Am.length:Int)+1:=by omega
  show cX (Ae w) x/\x.1<=(((CQ w).1++[(BZ a,false,0,())]).length:Int)
  rw[mT];rcases hx with hx|rfl
  ·have:=h.AQ x hx
   grind
  ·exact⟨⟨h.cfg,by omega,by simp,by simp,by simp[SZ]⟩,by omega⟩
 ·show WD (fun x:AR=>x.1) (w.AQ++[((w.Am.length:Int)+1,[],())])
  simp only[WD,List.pairwise_append,AVM,List.Pairwise.nil,AU4,AVW];refine⟨h.gg,by simp,fun x hx y hy=> ?_⟩;subst hy;have:=(h.AQ x hx).2;omega
 ·have:=h.Ai s hs
  grind
end
section
variable{w:AA} (h:KU w)
include h
theorem ASf{a:Int}{d:ACH}(hd:d.length<=40)(e:(doAdd w a d).2=0):KU (doAdd w a d).1:=by
 unfold doAdd at*;split at e
 ·omega
 rename_i ha;rw[AOK ha];simp only[ASw,AS2,As]at ha;simp only at e|-;split at e
 ·omega
 rename_i hq;rw[AOK hq];simp only[AVX,not_or,ASw,AS2,AW8,List.any_eq_false,AVi]at hq;obtain⟨hq,h120,hno⟩:=hq;have hi:a.toNat<w.AQ.length:=by omega
 have hx:=h.AQ _ (Bm (d:=B3) hi);obtain⟨_,r1,r2,r3⟩:=cy hq;rw[r2]at r1;rw[r2,r3];rw[r3]at hno;have hnn:=r1.n;simp only[ASB,ART,AS0]at hnn;obtain⟨p1,p2,p3⟩:=Jn (e:=(w.AQ.getD a.toNat B3).1) (o:=((w.AQ.getD a.toNat B3).2.1.length:Int)+1) hx.1.ep (by omega);have wj:=h.SF;refine⟨h.cfg,h.sn,h.lost,h.GP,h.BX,h.jx,by(try simp only[H.AA.BX,H.AA.lost,H.AA.Am,H.AA.trim,H.AA.AQ,H.AA.An,H.AA.AX,H.AA.Ai,H.AA.GP,H.AA.CV,H.AA.Fb,H.AA.JB,H.AA.Bl,H.AA.Cy,H.AA.DN,H.AA.Ax,H.AA.Fj,CQ,Ae]at*);simpa using h.tK,h.xO,fun x hx' => ?_,?_,h.An,h.sg,h.AX,by grind[yk],fun s hs=> ?_,yB h.an fun x hx=>by grind⟩
 ·rcases AVQ hx' with hx'|rfl
  ·exact h.AQ x hx'
  ·exact⟨r1,hx.2⟩
 ·have:=h.gg
  show WD (fun x:AR=>x.1) (w.AQ.set a.toNat ((w.AQ.getD a.toNat B3).1,(w.AQ.getD a.toNat B3).2.1++[(d,[],false,())],()))
  simp only[WD,List.pairwise_iff_getElem,List.getElem_set,AVj]at this|-;grind
 ·rcases rQ.1 hs with rfl|hs
  ·simp_all
  ·exact h.Ai s hs
theorem AEH{a b n:Int}(e:(JL w a b n).2=0):KU (JL w a b n).1:=by
 unfold JL at*;split at e
 ·omega
 rename_i h1;rw[AOK h1];simp only at e|-;split at e
 ·omega
 rename_i h2;rw[AOK h2];split at e
 ·omega
 rename_i h3;rw[AOK h3];split at e
 ·omega
 rename_i h4;rw[AOK h4];grind[kJ,fN]
theorem nE{all:Bool}{s:AO}{n:Int}(hn:0<=n/\n<(Ae w).1.length):∀{ws:List AR} {ss:List Af},
  (EV all (Ae w) s w.Am n ws ss).1=ws.map (fun x=>if aa s w.Am n x then(x.1,Bu (Ae w) s x.1 n 1 x.2.1,())else x)/\
  (EV all (Ae w) s w.Am n ws ss).2.map (fun x=>(x.1,x.2.1))=ss.map (fun x=>(x.1,x.2.1))
 |[],ss=>⟨rfl,rfl⟩
 |x::ws,ss=>by
  simp only[EV,AW2];split
  ·rename_i ht
   obtain⟨h1,h2⟩:=nE hn (ws:=ws) (ss:=ss.map (QZ all x.1 x.2.1 (Bu (Ae w) s x.1 n 1 x.2.1)));rw[h1,h2];exact⟨rfl,by rw[AXP];rfl⟩
  ·obtain⟨h1,h2⟩:=nE hn (ws:=ws) (ss:=ss)
   rw[h1,h2];simp_all
theorem AIq{all:Bool}{n:Int}(e:(Mr all w n).2=0):KU (Mr all w n).1:=by
 unfold Mr at*;split at e
 ·omega
 rename_i h1;rw[AOK h1];simp only at e|-;split at e
 ·omega
 rename_i h2;rw[AOK h2];simp only[ne_eq,AZf]at h1;simp only[ASw,AS2]at h2;have hn:=(h.node h1).1;obtain⟨s1,s2,s3⟩:=N2 h2;have hw:=h.sW h1 s2;obtain⟨t1,t2⟩:=nE h (all:=all) (s:=(CI (storeAt w n)).1) hn (ws:=w.AQ) (ss:=w.Ai);have ms:∀x∈(EV all (Ae w) (CI (storeAt w n)).1 w.Am n w.AQ w.Ai).2,∃y∈w.Ai,x.1=y.1/\x.2.1=y.2.1:=fun x hx=>by
  have:(x.1,x.2.1)∈w.Ai.map (fun x=>(x.1,x.2.1)):=by grind
  simp_all
 have ml:(EV all (Ae w) (CI (storeAt w n)).1 w.Am n w.AQ w.Ai).2.length=w.Ai.length:=by
  have:=congrArg List.length t2;grind
 have ma:WD (fun s:Af=>s.1) (EV all (Ae w) (CI (storeAt w n)).1 w.Am n w.AQ w.Ai).2:=by
  have h1:(EV all (Ae w) (CI (storeAt w n)).1 w.Am n w.AQ w.Ai).2.map (fun x=>x.1)=w.Ai.map (fun x=>x.1):=by
   have:=congrArg (List.map Prod.fst) t2;rw[AXP,AXP]at this;exact this
  have h2:(w.Ai.map (fun x:Af=>x.1)).Pairwise (· < ·):=AZg.2 h.an;grind
 refine⟨h.cfg,hw.sn,h.lost,h.GP,hw.BX,h.jx,by(try simp only[H.AA.BX,H.AA.lost,H.AA.Am,H.AA.trim,H.AA.AQ,H.AA.An,H.AA.AX,H.AA.Ai,H.AA.GP,H.AA.CV,H.AA.Fb,H.AA.JB,H.AA.Bl,H.AA.Cy,H.AA.DN,H.AA.Ax,H.AA.Fj,CQ,Ae]at*);simp only[t1,AWA];exact h.tK,by(try simp only[H.AA.BX,H.AA.lost,H.AA.Am,H.AA.trim,H.AA.AQ,H.AA.An,H.AA.AX,H.AA.Ai,H.AA.GP,H.AA.CV,H.AA.Fb,H.AA.JB,H.AA.Bl,H.AA.Cy,H.AA.DN,H.AA.Ax,H.AA.Fj,CQ,Ae]at*);simpa using h.xO,fun x hx=> ?_,?_,fun m hm=> ?_,h.sg,h.AX,by(try simp only[H.AA.BX,H.AA.lost,H.AA.Am,H.AA.trim,H.AA.AQ,H.AA.An,H.AA.AX,H.AA.Ai,H.AA.GP,H.AA.CV,H.AA.Fb,H.AA.JB,H.AA.Bl,H.AA.Cy,H.AA.DN,H.AA.Ax,H.AA.Fj,CQ,Ae]at*);simp only[ml];exact h.SF,fun x hx=> ?_,ma⟩
 ·(try simp only[H.AA.BX,H.AA.lost,H.AA.Am,H.AA.trim,H.AA.AQ,H.AA.An,H.AA.AX,H.AA.Ai,H.AA.GP,H.AA.CV,H.AA.Fb,H.AA.JB,H.AA.Bl,H.AA.Cy,H.AA.DN,H.AA.Ax,H.AA.Fj,CQ,Ae]at*);simp only[t1]at hx
  obtain⟨y,hy,rfl⟩:=AVh.1 hx;have hy':=h.AQ y hy;split
  ·obtain⟨k1,k2,k3⟩:=cV (s:=(CI (storeAt w n)).1) (ep:=y.1) hn (o:=1) hy'.1.words
   exact⟨⟨h.cfg,hy'.1.ep,k3▸hy'.1.n,k1,AVG k2 hy'.1.opn⟩,hy'.2⟩
  ·exact hy'
 ·show WD (fun x:AR=>x.1) (EV all (Ae w) (CI (storeAt w n)).1 w.Am n w.AQ w.Ai).1
  rw[t1];simp only[WD,AZg];refine h.gg.imp fun{a b} s6=> ?_
  grind
 ·obtain⟨y,hy,rfl⟩:=AVh.1 hm
  have hy':=h.An y hy;refine⟨AEb hn hy'.1,?_⟩;grind[Mt]
 ·obtain⟨y,hy,e1,e2⟩:=ms x hx
  have:=h.Ai y hy;simp_all
theorem AEs{n k:Int}(e:(JM w n k).2=0):KU (JM w n k).1:=by
 unfold JM at*;split at e
 ·omega
 rename_i h1;rw[AOK h1];exact kJ h (by omega) (fun hq=>(N2 hq).2.1) e
theorem AGd{n:Int}(e:(JI w n).2=0):KU (JI w n).1:=by
 unfold JI at*;split at e
 ·omega
 rename_i h1;rw[AOK h1];exact kJ h (by omega) (fun hq=>(vN hq).2.1) e
theorem ANY{n:Int}(e:(NR w n).2=0):KU (NR w n).1:=by
 unfold NR at*;split at e
 ·omega
 rename_i h1;rw[AOK h1];simp only[ne_eq,AZf]at h1;obtain⟨hn,hn2,hn3⟩:=h.node h1;have fw:∀x∈w.AQ,(CT (Ae w) x n).1=(x.1,x.2.1.map (E5 n),()):=fun x hx=>(dh (h.AQ x hx).1).2
 refine⟨h.cfg,by(try simp only[H.AA.BX,H.AA.lost,H.AA.Am,H.AA.trim,H.AA.AQ,H.AA.An,H.AA.AX,H.AA.Ai,H.AA.GP,H.AA.CV,H.AA.Fb,H.AA.JB,H.AA.Bl,H.AA.Cy,H.AA.DN,H.AA.Ax,H.AA.Fj,CQ,Ae]at*);simpa using h.sn,LF h.lost hn,?_,fun i hi=> ?_,h.jx,by(try simp only[H.AA.BX,H.AA.lost,H.AA.Am,H.AA.trim,H.AA.AQ,H.AA.An,H.AA.AX,H.AA.Ai,H.AA.GP,H.AA.CV,H.AA.Fb,H.AA.JB,H.AA.Bl,H.AA.Cy,H.AA.DN,H.AA.Ax,H.AA.Fj,CQ,Ae]at*);simpa using h.tK,by(try simp only[H.AA.BX,H.AA.lost,H.AA.Am,H.AA.trim,H.AA.AQ,H.AA.An,H.AA.AX,H.AA.Ai,H.AA.GP,H.AA.CV,H.AA.Fb,H.AA.JB,H.AA.Bl,H.AA.Cy,H.AA.DN,H.AA.Ax,H.AA.Fj,CQ,Ae]at*);simpa using h.xO,fun x hx=> ?_,?_,fun m hm=> ?_,h.sg,h.AX,h.SF,h.Ai,h.an⟩
 ·grind[holds,Ae,OH]
 ·(try simp only[H.AA.BX,H.AA.lost,H.AA.Am,H.AA.trim,H.AA.AQ,H.AA.An,H.AA.AX,H.AA.Ai,H.AA.GP,H.AA.CV,H.AA.Fb,H.AA.JB,H.AA.Bl,H.AA.Cy,H.AA.DN,H.AA.Ax,H.AA.Fj,CQ,Ae]at*);simp only[AVj]at hi
  simp only[qf hn2];split
  ·exact⟨dO.nil,fun _=>rfl⟩
  ·rename_i ew
   refine⟨(h.BX i hi).1,fun hl=>(h.BX i hi).2 ?_⟩;grind[wz]
 ·obtain⟨y,hy,rfl⟩:=AVh.1 hx
  have hy':=h.AQ y hy;refine⟨(dh hy'.1).1,?_⟩;simp_all
 ·(try simp only[H.AA.BX,H.AA.lost,H.AA.Am,H.AA.trim,H.AA.AQ,H.AA.An,H.AA.AX,H.AA.Ai,H.AA.GP,H.AA.CV,H.AA.Fb,H.AA.JB,H.AA.Bl,H.AA.Cy,H.AA.DN,H.AA.Ax,H.AA.Fj,CQ,Ae]at*);simp only[WD,AZg]
  refine List.Pairwise.imp_of_mem (fun{a b} ha hb s6=> ?_) h.gg;simp_all
 ·obtain⟨y,hy,rfl⟩:=AVh.1 hm
  have hy':=h.An y hy;obtain⟨k1,k2⟩:=tH (n:=n) hy'.1;refine⟨k1,?_⟩;simp_all
theorem AJu{n:Int}(e:(NT w n).2=0):KU (NT w n).1:=by
 unfold NT at*;split at e
 ·omega
 rename_i h1;rw[AOK h1];simp only at e|-;split at e
 ·omega
 rename_i h2;rw[AOK h2];simp only[ASw,AS2]at h1 h2;obtain⟨s1,s2,s3,s4⟩:=AEq h2;rw[List.contains_eq_mem,APo]at h1;have hnn:=(FA.1 h.lost).2.1 n h1;have wj:=h.sn;have hn2:n.toNat<w.BX.length:=by
  have:n<(w.1.length:Int):=hnn.2;omega
 refine⟨h.cfg,by grind,TY _ h.lost,?_,fun i hi=> ?_,h.jx,h.tK,h.xO,h.AQ,h.gg,h.An,h.sg,h.AX,h.SF,h.Ai,h.an⟩
 ·refine .inr ?_
  rw[AWt];intro hh
  replace hh:holds (Ae w) (less w.lost [n])=true:=hh
  have:=qb (m:=w.lost) hh h.lost fun x hx=>(AWB.1 hx).1
  simp_all
 ·(try simp only[H.AA.BX,H.AA.lost,H.AA.Am,H.AA.trim,H.AA.AQ,H.AA.An,H.AA.AX,H.AA.Ai,H.AA.GP,H.AA.CV,H.AA.Fb,H.AA.JB,H.AA.Bl,H.AA.Cy,H.AA.DN,H.AA.Ax,H.AA.Fj,CQ,Ae]at*);simp only[AVj]at hi
  simp only[qf hn2];split
  ·grind[rl,List.mem_singleton]
  ·exact⟨(h.BX i hi).1,fun hl=>(h.BX i hi).2 (rl.1 hl).1⟩
theorem AMa(e:(Jr w).2=0):KU (Jr w).1:=by
 unfold Jr at*;split at e
 ·omega
 rename_i h1;rw[AOK h1];split at e
 ·omega
 rename_i h2;rw[AOK h2];simp only[AVX,APo,not_or]at h1;obtain⟨k,k1,k2,k3,k4⟩:=Pf h.jx (by show 0<w.Am.length;omega);have k1':k<w.Am.length:=k1;have cw:BF w.Am=(k:Int)+1:=k2;have hn:w.Am.length<=30:=h.jx.n;refine⟨h.cfg,h.sn,h.lost,h.GP,h.BX,h.jx,h.tK,by(try simp only[H.AA.BX,H.AA.lost,H.AA.Am,H.AA.trim,H.AA.AQ,H.AA.An,H.AA.AX,H.AA.Ai,H.AA.GP,H.AA.CV,H.AA.Fb,H.AA.JB,H.AA.Bl,H.AA.Cy,H.AA.DN,H.AA.Ax,H.AA.Fj,CQ,Ae]at*);simp,h.AQ,h.gg,fun m hm=> ?_,h.sg,h.AX,h.SF,h.Ai,h.an⟩
 replace hm:m∈[qB (BF w.Am) w.Am.length]:=hm
 simp only[AU4]at hm;subst hm;refine⟨⟨h.cfg,?_,?_,Zs h.cfg,List.Pairwise.nil,by simp[qB],by simp[qB],rfl⟩,rfl,rfl⟩
 ·show 1<=BF w.Am/\BF w.Am<=30
  omega
 ·show BF w.Am+1<=(w.Am.length:Int)/\(w.Am.length:Int)<=30
  omega
theorem AMk{n:Int}(e:(La w n).2=0):KU (La w n).1:=by
 unfold La at*;split at e
 ·omega
 rename_i m ms hm;simp only at e|-;split at e
 ·omega
 rename_i h1;rw[AOK h1];split at e
 ·omega
 rename_i h2;rw[AOK h2];split at e
 ·omega
 rename_i h3;rw[AOK h3];simp only[ne_eq,AZf]at h1;simp only[AVX,not_or,ASw,AS2]at h3;obtain⟨s1,s2,s3⟩:=ke h3.1;obtain⟨m1,m2,m3,m4⟩:=oM h3.2;have hw:=h.sW h1 s2;have hm1:=h.xO;rw[hm]at hm1;refine⟨h.cfg,hw.sn,h.lost,h.GP,hw.BX,h.jx,h.tK,by omega,h.AQ,h.gg,fun x hx=> ?_,h.sg,h.AX,h.SF,h.Ai,h.an⟩;rcases ASY.1 hx with rfl|hx
 ·have:=h.An m (by simp_all)
  refine⟨m2,?_⟩;simp_all
 simp_all
theorem AJS(e:(Jx w).2=0):KU (Jx w).1:=by
 unfold Jx at*;split at e
 ·omega
 rename_i m ms hm;simp only at e|-;split at e
 ·omega
 rename_i h3;rw[AOK h3];simp only[ASw,AS2]at h3;obtain⟨m1,m2,m3,m4,m5⟩:=oe h3;have hm1:=h.xO;rw[hm]at hm1;refine⟨h.cfg,h.sn,h.lost,h.GP,h.BX,h.jx,h.tK,by omega,h.AQ,h.gg,fun x hx=> ?_,h.sg,h.AX,h.SF,h.Ai,h.an⟩;rcases ASY.1 hx with rfl|hx
 ·have:=h.An m (by simp_all)
  refine⟨m2,?_⟩;simp_all
 simp_all
theorem ARI{b n:Int}(e:(Q2 w b n).2=0):KU (Q2 w b n).1:=by
 unfold Q2 at*;split at e
 ·omega
 rename_i m ms hm;split at e
 ·omega
 rename_i x hx;split at e
 ·omega
 rename_i h1;rw[AOK h1];split at e
 ·omega
 rename_i h2;rw[AOK h2];grind[kJ,fN]
theorem AG2(e:(Im w).2=0):KU (Im w).1:=by
 unfold Im at*;split at e
 ·omega
 rename_i m ms hm;split at e
 ·omega
 rename_i h1;rw[AOK h1];simp only at e|-;split at e
 ·omega
 rename_i h2;rw[AOK h2];simp only[ASw,AS2]at h2;obtain⟨r0,r1,k,k1,k2,k3,k4,k5,k6,k7,k8⟩:=fZ h2;rw[k6]at r1;rw[k6];have hl:(F5 (CQ w).1 k (m.2.2.2.2.2.1.length:Int)).length=w.Am.length:=by simp[F5,CQ]
 refine⟨h.cfg,h.sn,h.lost,h.GP,h.BX,r1,h.tK,by(try simp only[H.AA.BX,H.AA.lost,H.AA.Am,H.AA.trim,H.AA.AQ,H.AA.An,H.AA.AX,H.AA.Ai,H.AA.GP,H.AA.CV,H.AA.Fb,H.AA.JB,H.AA.Bl,H.AA.Cy,H.AA.DN,H.AA.Ax,H.AA.Fj,CQ,Ae]at*);simp,fun x hx=> ?_,h.gg,fun x hx=>by grind,h.sg,h.AX,h.SF,fun x hx=> ?_,h.an⟩
 ·(try simp only[H.AA.BX,H.AA.lost,H.AA.Am,H.AA.trim,H.AA.AQ,H.AA.An,H.AA.AX,H.AA.Ai,H.AA.GP,H.AA.CV,H.AA.Fb,H.AA.JB,H.AA.Bl,H.AA.Cy,H.AA.DN,H.AA.Ax,H.AA.Fj,CQ,Ae]at*);simp only[hl];exact h.AQ x hx
 ·(try simp only[H.AA.BX,H.AA.lost,H.AA.Am,H.AA.trim,H.AA.AQ,H.AA.An,H.AA.AX,H.AA.Ai,H.AA.GP,H.AA.CV,H.AA.Fb,H.AA.JB,H.AA.Bl,H.AA.Cy,H.AA.DN,H.AA.Ax,H.AA.Fj,CQ,Ae]at*);simp only[hl];exact h.Ai x hx
theorem AEr{a:Int}(e:(PB w a).2=0):KU (PB w a).1:=by
 unfold PB at*;simp only at e|-;split at e
 ·omega
 rename_i h2;rw[AOK h2];simp only[ASw,AS2]at h2;obtain⟨r0,r1,r2⟩:=qz h2;rw[r2]at r1;rw[r2];exact⟨h.cfg,h.sn,h.lost,h.GP,h.BX,r1,h.tK,h.xO,h.AQ,h.gg,h.An,h.sg,h.AX,h.SF,h.Ai,h.an⟩
theorem ABC{a k:Int}(e:(IY w a k).2=0):KU (IY w a k).1:=by
 unfold IY at*;split at e
 ·omega
 rename_i h1;rw[AOK h1];simp only at e|-;split at e
 ·omega
 rename_i h2;rw[AOK h2];simp only[ne_eq,AZf]at h2;refine⟨h.cfg,h.sn,h.lost,h.GP,h.BX,h.jx,h.tK,h.xO,h.AQ,h.gg,h.An,by(try simp only[H.AA.BX,H.AA.lost,H.AA.Am,H.AA.trim,H.AA.AQ,H.AA.An,H.AA.AX,H.AA.Ai,H.AA.GP,H.AA.CV,H.AA.Fb,H.AA.JB,H.AA.Bl,H.AA.Cy,H.AA.DN,H.AA.Ax,H.AA.Fj,CQ,Ae]at*);simpa using h.sg,fun r hr=> ?_,h.SF,h.Ai,h.an⟩;rcases AVQ hr with hr|rfl
 ·exact h.AX r hr
 ·exact tQ h2
theorem AIx{a:Int}(e:(OQ w a).2=0):KU (OQ w a).1:=by
 unfold OQ at*;split at e
 ·omega
 rename_i h1;rw[AOK h1];have hs:(w.AQ.eraseIdx a.toNat).Sublist w.AQ:=List.eraseIdx_sublist _ _;exact⟨h.cfg,h.sn,h.lost,h.GP,h.BX,h.jx,AVG hs.length_le h.tK,h.xO,fun x hx=>h.AQ x (hs.subset hx),h.gg.sublist hs,h.An,h.sg,h.AX,h.SF,h.Ai,h.an⟩
theorem AJd{all:Bool}{d:Ao}(hd:d.2.2.2.2.1.length<=40)(e:(K9 all w d).2=0):KU (K9 all w d).1:=by
 unfold K9 at*;by_cases hc:d.1=1
 ·rw[AOJ hc]at e|-;exact ANC h e
 rw[AOK hc]at e|-;clear hc;by_cases hc:d.1=2
 ·rw[AOJ hc]at e|-;exact ASf h hd e
 rw[AOK hc]at e|-;clear hc;by_cases hc:d.1=3
 ·rw[AOJ hc]at e|-;exact AEH h e
 rw[AOK hc]at e|-;clear hc;by_cases hc:d.1=4
 ·rw[AOJ hc]at e|-;exact AIq h e
 rw[AOK hc]at e|-;clear hc;by_cases hc:d.1=5
 ·rw[AOJ hc]at e|-;exact AEs h e
 rw[AOK hc]at e|-;clear hc;by_cases hc:d.1=6
 ·rw[AOJ hc]at e|-;exact ANY h e
 rw[AOK hc]at e|-;clear hc;by_cases hc:d.1=7
 ·rw[AOJ hc]at e|-;exact AJu h e
 rw[AOK hc]at e|-;clear hc;by_cases hc:d.1=8
 ·rw[AOJ hc]at e|-;exact AMa h e
 rw[AOK hc]at e|-;clear hc;by_cases hc:d.1=9
 ·rw[AOJ hc]at e|-;exact AMk h e
 rw[AOK hc]at e|-;clear hc;by_cases hc:d.1=10
 ·rw[AOJ hc]at e|-;exact AJS h e
 rw[AOK hc]at e|-;clear hc;by_cases hc:d.1=11
 ·rw[AOJ hc]at e|-;exact ARI h e
 rw[AOK hc]at e|-;clear hc;by_cases hc:d.1=12
 ·rw[AOJ hc]at e|-;exact AG2 h e
 rw[AOK hc]at e|-;clear hc;by_cases hc:d.1=13
 ·rw[AOJ hc]at e|-;exact AEr h e
 rw[AOK hc]at e|-;clear hc;by_cases hc:d.1=14
 ·rw[AOJ hc]at e|-;exact ABC h e
 rw[AOK hc]at e|-;clear hc;by_cases hc:d.1=15
 ·rw[AOJ hc]at e|-;exact AIx h e
 rw[AOK hc]at e|-;grind[AGd]
end
theorem iz{d:Ao}(h:OP d=true):d.2.2.2.2.1.length<=40:=by
 unfold OP at h;simp_all
theorem PR{all:Bool}{w:AA}{d:Ao}(e:(BJ all w d).2=0):Cq (BJ all w d).1=true:=by
 unfold BJ at*;split at e
 ·omega
 rename_i h1;rw[AOK h1];have hw:Cq w=true:=by
  simp_all
 have hd:OP d=true:=by
  simp_all
 grind[Co,AJd,iz]
theorem ABe{α:Type}{f:α->Nat}{B:Nat}:∀{l:List α},(∀x∈l,f x<=B)->AS f l<=l.length*(1+B)
 |[],_=>by simp[AS]
 |x::l,h=>by
  have h1:=h x (by simp);have h2:=ABe (l:=l) fun y hy=>h y (by simp[hy])
  grind[AS,List.length_cons,Nat.add_mul]
theorem ET{α:Type}{f:α->Nat}{B N:Nat}{l:List α}(hn:l.length<=N)(h:∀x∈l,f x<=B):AS f l<=N*(1+B):=
 AVG (ABe h) (ASH _ hn)
theorem wK{α:Type}{f:α->Int}{b:Int}:∀{l:List α} {a:Int},WD f l->(∀x∈l,a<=f x/\f x<b)->(l.length:Int)<=max (b-a) 0
 |[],a,_,_=>by grind
 |x::l,a,h,hb=>by
  simp only[WD,AVM]at h;have h1:=hb x (by simp);have h2:=wK (l:=l) (a:=f x+1) h.2 fun y hy=>⟨by grind,(hb y (by simp[hy])).2⟩
  grind
theorem Fl{c:CG}{l:AAB}(h:BH c l=true):l.length<=8:=by
 obtain⟨h1,h2,h3⟩:=FA.1 h;have:=(D8 h1).2.1;have:=wK (a:=0) (b:=c.1.length) h3 h2;omega
theorem HG{p:Int}(h:Bp p=true):CB p:=by
 obtain⟨h1,h2,h3⟩:=HX h;grind[HN,CB]
theorem dO.w{s:AO}(h:dO s):Aj s<=10000:=by
 have h1:=ET (f:=Ah) (B:=40) h.nk fun e he=>(Fp.1 (h.kept e he)).len
 have h2:=ET (f:=Ah) (B:=40) h.nl fun e he=>(Fp.1 (h.late e he)).len
 unfold Aj;omega
theorem dO.sin{s:AO}(h:dO s):kC s:=
 ⟨fun e he=>HG (Fp.1 (h.kept e he)).pl,fun e he=>HG (Fp.1 (h.late e he)).pl⟩
theorem lx.AX2{c:CG}{m:Av}(h:lx c m):m.2.2.2.1.length<=60:=by
 have:=wK (f:=fun e:AJ=>e.1) (a:=HN m.2.1 1) (b:=HN m.2.1 61) h.tf fun e he=>by
  have h1:=h.seen e he;have h2:=HX (Fp.1 h1.1).pl;grind[HN]
 grind[HN]
theorem lx.w{c:CG}{m:Av}(h:lx c m):CK m<=5000:=by
 have h1:=ET (f:=Ah) (B:=40) h.AX2 fun e he=>(Fp.1 (h.seen e he).1).len
 have h2:=Fl h.zx;have h3:m.2.2.2.2.2.1.length<=60:=by
  have:=h.n;have hb:=Gw (l:=m.2.2.2.1);omega
 have h4:=ET (f:=C8) (B:=8) h3 fun l hl=>Fl (h.wrote l hl)
 unfold CK;omega
theorem lx.zF{c:CG}{m:Av}(h:lx c m):gu m.2.2.2.1:=fun e he=>HG (Fp.1 (h.seen e he).1).pl
theorem ROk.w{c:CG}{r:AN}(h:ROk c r):AS Bk r.1<=270:=by
 have:=ET (f:=Bk) (B:=8) h.n fun e he=>Fl (V1 (h.Am e he).1)
 omega
theorem ROk.tin{c:CG}{r:AN}(h:ROk c r):CB r.2.1:=by
 rcases h.trim with h|h
 all_goals grind[CB,HG]
theorem cX.w{c:CG}{w:AR}(h:cX c w):Aq w<=3000:=by
 have:=ET (f:=Az) (B:=48) h.n fun x hx=>by
  have h1:=h.words x hx;grind[Fl,Az]
 unfold Aq;omega
def xB(w:AA):Prop:= ∀r∈w.AX,∀e∈r.2.2.1,e.2.2.1.length<=40
theorem KU.Vo{w:AA}(h:KU w){s:AO}(hs:s∈w.BX):dO s:=by
 obtain⟨i,hi,rfl⟩:=AVO hs;have:=(h.BX i hi).1;simp_all
theorem KU.win{w:AA}(h:KU w)(hr:xB w):dX w:=by
 have hc:=(D8 h.cfg).2.1;have eS:w.1.length<=8:=hc;have a1:=ET (f:=Aj) (B:=10000) (N:=8) (l:=w.BX) (by rw[h.sn];omega) fun s hs=>(h.Vo hs).w
 have a2:=Fl h.lost;have a3:=h.jx.w;have a4:=ET (f:=Aq) (B:=3000) h.tK fun x hx=>(h.AQ x hx).1.w
 have a5:=ET (f:=CK) (B:=5000) h.xO fun x hx=>(h.An x hx).1.w
 have a6:=ET (f:=Ak) (B:=5000) (N:=2) (l:=w.AX) (by rw[h.sg];omega) fun r hx=>by
  have:=ET (f:=CL) (B:=40) (h.AX r hx).n (hr r hx);unfold Ak;omega
 have a7:=ET (f:=D9) (B:=40) h.SF fun s hs=>(h.Ai s hs).2.2
 refine⟨?_,fun s hs=>(h.Vo hs).sin,h.jx.tin,fun m hm=>(h.An m hm).1.zF,fun s hs=>HG (h.Ai s hs).1⟩;have a3':AS Bk w.Am<=270:=a3;grind[Cn]
theorem uF:∀i,i<8->([0,1,2,3,4,5,6,7]:AAB).drop i=(i:Int)::([0,1,2,3,4,5,6,7]:AAB).drop (i+1):=by decide
theorem ZY{k:Int}:PZ k=some (((),()),(BZ k,())):=by
 unfold PZ Vx BZ;rcases AOB (Bd k 0 255)with hk|hk
 rotate_left
 ·rw[hk]
  obtain⟨m,hm⟩:∃m,AZ=m+1:=⟨AZ-1,by have:=Ac (n:=0) (by omega);omega⟩;rw[hm];simp only[Ic,PM,Be,AD,hk,AB];rfl
 rw[hk,AOJ rfl];have hk':=As.1 hk;have key:∀(n i:Nat) (b:AAB),i<=8->8-i<n->b.length<=i->
   Ic n k i b=some (((),()),(b++(([0,1,2,3,4,5,6,7]:AAB).drop i).filter (fun i=>(k/2^i.toNat)%2==1),())):=by
  intro n
  induction n with
  |zero=>omega
  |succ n ih=>
   intro i b hi h hb;simp only[Ic,PM,Be,AD,hk,APm,AB];by_cases Du:i<8
   ·have AC_:=wF (k:=k) (i:=i) (by omega) (by omega)
    rw[AOJ (show(i:Int)<8 by omega),AOK (by omega),AO2,AC_,uF i Du,AVV,AO2,AH (by omega) (by omega),show((i:Int)+1)=((i+1:Nat):Int)by omega,AB];have c2:b.length+1<=C_:=by rw[Ap];omega
    by_cases hb':(k/2^i)%2=1
    ·rw[AOJ hb',AOJ c2,AOJ (by simp_all),ih (i+1) _ (by omega) (by omega) (by simp_all),AQM]
     rfl
    grind
   ·have:i=8:=by omega
    simp_all
 have:=key AZ 0 [] (by omega) (Ac (by omega)) (by simp);simp_all
theorem sO{d:Ao}:Zu d=some ((OP d,()),()):=by
 obtain⟨k,a,b,n,t,⟨⟩⟩:=d;unfold Zu OP;rw[Be];simp only[AD];rcases AOB (Bd k 1 16)with hk|hk
 rotate_left
 ·simp_all
 have hk':=As.1 hk;rw[hk];have dl:decide ((t.length:Int)<=40)=decide (t.length<=40):=by
  grind
 have:k=1\/k=2\/k=3\/k=4\/k=5\/k=6\/k=7\/k=8\/k=9\/k=10\/k=11\/k=12\/k=13\/k=14\/k=15\/k=16:=by omega
 rcases this with h|h|h|h|h|h|h|h|h|h|h|h|h|h|h|h<;>subst h<;>simp only[APm,dl]<;>clear dl hk hk'<;>
  (unfold bB;simp[gP];cases a==0<;>cases b==0<;>cases n==0<;>cases t.isEmpty<;>rfl)
theorem jg{w:AR}(hl:w.2.1.length<=2^20):Wa w=some (((cG w.2.1:Int),()),()):=by
 have key:∀(n i:Nat),i<=w.2.1.length->w.2.1.length-i<n->
   J5 n i w.1 w.2.1=some ((((i+cG (w.2.1.drop i):Nat):Int),()),()):=by
  intro n
  induction n with
  |zero=>omega
  |succ n ih=>
   intro i hi h;simp only[J5,UE,AB];by_cases Du:i<w.2.1.length
   ·have c1:(0:Int)<=(i:Int)/\(i:Int)<(w.2.1.length:Int):=by omega
    rw[AOJ c1.2,AOJ c1,Al Du,AH (by omega) (by omega),show((i:Int)+1)=((i+1:Nat):Int)by omega,ih (i+1) (by omega) (by omega),drop_cons Du];simp only[cG];cases w.2.1[i].2.2.1 with
    |false=>simp
    |true=>grind
   ·rw[AOK (by omega),APk (by omega)]
    rfl
 have:=key AZ 0 (by omega) (Ac (by omega));rw[AVt,AUN]at this;exact this
theorem Iw{w:AA}{n:Int}(h1:w.BX.length<=2^20)(h2:w.lost.length<=2^20):H7 w n=some ((Ay w n,()),()):=by
 unfold H7 Ay
 (try simp only[H.AA.BX,H.AA.lost,H.AA.Am,H.AA.trim,H.AA.AQ,H.AA.An,H.AA.AX,H.AA.Ai,H.AA.GP,H.AA.CV,H.AA.Fb,H.AA.JB,H.AA.Bl,H.AA.Cy,H.AA.DN,H.AA.Ax,H.AA.Fj,CQ,Ae]at*)
 rw[AH (by omega) (by omega),Be,LV (by omega)];grind
theorem S4{w:AA}{n:Int}(h1:w.AQ.length<=2^20):Mu w n=some ((Bd n 0 ((w.AQ.length:Int)-1),()),()):=by
 grind[Mu,AH,Be]
theorem rC{w:AA}{e:Int}(hl:AS Aq w.AQ<=2^20):fk w e=some ((dF w e,()),()):=by
 have zG:=AU (f:=Aq) (l:=w.AQ);have key:∀(n i:Nat),i<=w.AQ.length->w.AQ.length-i<n->
   Pk n e i w.1 w.2.1 w.2.2.1 w.2.2.2.1 w.2.2.2.2.1 w.2.2.2.2.2.1 w.AQ w.2.2.2.2.2.2.2.1 w.2.2.2.2.2.2.2.2.1 w.2.2.2.2.2.2.2.2.2.1 w.2.2.2.2.2.2.2.2.2.2.1=
    some (((match(w.AQ.drop i).find? (fun x=>x.1==e)with|some x=>(cG x.2.1:Int)|none=>0),()),()):=by
  intro n
  induction n with
  |zero=>omega
  |succ n ih=>
   intro i hi h;simp only[Pk,Zl,AB];by_cases Du:i<w.AQ.length
   ·have c1:(0:Int)<=(i:Int)/\(i:Int)<(w.AQ.length:Int):=by omega
    rw[AOJ c1.2,AOJ c1,AOJ c1,Al Du,AH (by omega) (by omega),show((i:Int)+1)=((i+1:Nat):Int)by omega,ih (i+1) (by omega) (by omega),drop_cons Du,AZZ,show(w.AQ[i].1,w.AQ[i].2.1,())=w.AQ[i]from rfl];have hm:=AY (f:=Aq) (AO7 Du);have hw:Aq w.AQ[i]=AS Az w.AQ[i].2.1:=rfl;have hlw:=AU (f:=Az) (l:=w.AQ[i].2.1);rw[jg (by omega)];cases(w.AQ[i].1==e)<;>rfl
   grind
 have:=key AZ 0 (by omega) (Ac (by omega));rw[AUN]at this;exact this
theorem jf{w:AA}{r:Ag}{k:Int}(h1:AS Aj w.BX<=2^20)(h2:w.lost.length<=2^20)(hr1: -1000<=r.1/\r.1<=1000)(hr2: -1000<=r.2.1/\r.2.1<=1000):
  RQ w r k=some (((),()),(answers w (HN r.1 r.2.1) (BZ k),())):=by
 have hsl:=AU (f:=Aj) (l:=w.BX);have y8:(BZ k).length<=8:=by
  unfold BZ;split
  ·exact AVG (AUc _ _) (by simp)
  ·simp
 have key:∀(n i:Nat) (b:List BA),i<=(BZ k).length->(BZ k).length-i<n->b.length<=i->
   J4 n i w.1 w.2.1 w.2.2.1 w.2.2.2.1 w.2.2.2.2.1 w.2.2.2.2.2.1 w.2.2.2.2.2.2.1 w.2.2.2.2.2.2.2.1 w.2.2.2.2.2.2.2.2.1 w.2.2.2.2.2.2.2.2.2.1 w.2.2.2.2.2.2.2.2.2.2.1 r.1 r.2.1 r.2.2.1 b (BZ k)=
    some (((),()),(b++answers w (HN r.1 r.2.1) ((BZ k).drop i),())):=by
  intro n
  induction n with
  |zero=>omega
  |succ n ih=>
   intro i b hi h hb;simp only[J4,UP,AB];by_cases Du:i<(BZ k).length
   ·have c1:(0:Int)<=(i:Int)/\(i:Int)<((BZ k).length:Int):=by omega
    have c2:b.length+1<=C_:=by rw[Ap];omega
    rw[AOJ c1.2,AOJ c1,Al Du,Gk w,Iw (by omega) h2,AH (by omega) (by omega),show((i:Int)+1)=((i+1:Nat):Int)by omega,drop_cons Du];simp only[AD,C6,answers,AVV];by_cases hn:Ay w (BZ k)[i]=0
    ·obtain⟨n1,n2,n3⟩:=Qt hn
     have hs1:((BZ k)[i]).toNat<w.2.2.1.length:=by simp_all
     rw[AOJ hn,AOJ c1,AOJ ⟨n1,n2⟩,GH hr1 hr2];simp only[AD];have cU:w.2.2.1.getD ((BZ k)[i]).toNat ([],[],0,())=storeAt w (BZ k)[i]:=rfl;have hsm:Aj (storeAt w (BZ k)[i])<=2^20:=AVG (AY (f:=Aj) (Bm (d:=EN) hs1)) h1;rw[cU,VA (GL (by omega)).1];simp only[AD];rw[AOJ c1,AOJ c2,ih (i+1) _ (by omega) (by omega) (by simp_all),AOJ (by simp_all),AW2,AQM];have:((BZ k)[i],(OO (HN r.1 r.2.1) (storeAt w (BZ k)[i]).1).isSome,((OO (HN r.1 r.2.1) (storeAt w (BZ k)[i]).1).getD D6).1,((OO (HN r.1 r.2.1) (storeAt w (BZ k)[i]).1).getD D6).2.1,((OO (HN r.1 r.2.1) (storeAt w (BZ k)[i]).1).getD D6).2.2.1,((OO (HN r.1 r.2.1) (storeAt w (BZ k)[i]).1).getD D6).2.2.2.1,())=answer w (HN r.1 r.2.1) (BZ k)[i]:=by
      grind[answer,OO,HN,storeAt,BZ]
     rw[this];rfl
    ·rw[AOK hn,ih (i+1) _ (by omega) (by omega) (by omega),AOK (by simp_all)]
     rfl
   ·rw[AOK (by omega),APk (by omega)]
    simp[answers]
 have:=key AZ 0 [] (by omega) (Ac (by omega)) (by simp);grind[RQ,UJ,ZY]
section
variable{w:AA} (h:dX w)
include h
theorem AJB:∀(n i:Nat) (DY:List AO) (ES:List AR) (Ey:List Av) (Fq:List Ag),i<=w.2.2.2.2.2.2.2.2.1.length->w.2.2.2.2.2.2.2.2.1.length-i<n->Fq.length<=i->
  Ce n i w.1 w.2.1 w.2.2.1 w.2.2.2.1 w.2.2.2.2.1 w.2.2.2.2.2.1 w.2.2.2.2.2.2.1 w.2.2.2.2.2.2.2.1 w.2.2.2.2.2.2.2.2.1 w.2.2.2.2.2.2.2.2.2.1 w.2.2.2.2.2.2.2.2.2.2.1 0 0 false [] [] [] [] [] [] [] [] w.2.1 w.2.2.2.2.2.1 w.2.2.2.2.2.2.2.2.2.2.1 w.1 DY w.2.2.2.1 w.2.2.2.2.1 ES Ey Fq w.2.2.2.2.2.2.2.2.2.1=some ((((),w.2.1,(),(),(),w.2.2.2.2.2.1,(),(),(),(),w.2.2.2.2.2.2.2.2.2.2.1,()),()),(w.1,DY,w.2.2.2.1,w.2.2.2.2.1,ES,Ey,(Fq++w.2.2.2.2.2.2.2.2.1.drop i),w.2.2.2.2.2.2.2.2.2.1,())):=by
 have vq:=h.TN;have hl:=h.lens;intro n
 induction n with
 |zero=>omega
 |succ n ih=>
  intro i DY ES Ey Fq hi hn hb;simp only[Ce,Qe,AB];by_cases Du:i<w.2.2.2.2.2.2.2.2.1.length
  ·have c1:(0:Int)<=(i:Int)/\(i:Int)<(w.2.2.2.2.2.2.2.2.1.length:Int):=by omega
   have c2:Fq.length+1<=C_:=by rw[Ap];omega
   rw[AOJ c1.2,AOJ c1,Al Du,AH (by omega) (by omega),show((i:Int)+1)=((i+1:Nat):Int)by omega,drop_cons Du];have hm:=AY (f:=Ak) (AO7 Du);have hw:Ak w.2.2.2.2.2.2.2.2.1[i]=AS CL w.2.2.2.2.2.2.2.2.1[i].2.2.1:=rfl;have hlw:=AU (f:=CL) (l:=w.2.2.2.2.2.2.2.2.1[i].2.2.1);rw[QD (w.2.2.2.2.2.2.2.2.1[i]),WQ (by omega)];simp only[AD];rw[AOJ c2,ih (i+1) _ _ _ _ (by omega) (by omega) (by simp_all),AQM];rfl
  grind
theorem AIj:∀(n i:Nat) (DY:List AO) (ES:List AR) (Ey:List Av),i<=w.2.2.2.2.2.2.2.1.length->(w.2.2.2.2.2.2.2.1.length-i)+w.2.2.2.2.2.2.2.2.1.length+2<=n->Ey.length<=i->
  Cd n i w.1 w.2.1 w.2.2.1 w.2.2.2.1 w.2.2.2.2.1 w.2.2.2.2.2.1 w.2.2.2.2.2.2.1 w.2.2.2.2.2.2.2.1 w.2.2.2.2.2.2.2.2.1 w.2.2.2.2.2.2.2.2.2.1 w.2.2.2.2.2.2.2.2.2.2.1 0 0 false [] [] [] [] [] [] [] [] w.2.1 w.2.2.2.2.2.1 w.2.2.2.2.2.2.2.2.2.2.1 w.1 DY w.2.2.2.1 w.2.2.2.2.1 ES Ey [] w.2.2.2.2.2.2.2.2.2.1=some ((((),w.2.1,(),(),(),w.2.2.2.2.2.1,(),(),(),(),w.2.2.2.2.2.2.2.2.2.2.1,()),()),(w.1,DY,w.2.2.2.1,w.2.2.2.2.1,ES,(Ey++w.2.2.2.2.2.2.2.1.drop i),w.2.2.2.2.2.2.2.2.1,w.2.2.2.2.2.2.2.2.2.1,())):=by
 have vq:=h.TN;have hl:=h.lens;intro n
 induction n with
 |zero=>omega
 |succ n ih=>
  intro i DY ES Ey hi hn hb;simp only[Cd,Qg,AB];by_cases Du:i<w.2.2.2.2.2.2.2.1.length
  ·have c1:(0:Int)<=(i:Int)/\(i:Int)<(w.2.2.2.2.2.2.2.1.length:Int):=by omega
   have c2:Ey.length+1<=C_:=by rw[Ap];omega
   rw[AOJ c1.2,AOJ c1,Al Du,AH (by omega) (by omega),show((i:Int)+1)=((i+1:Nat):Int)by omega,drop_cons Du];have hm:=AY (f:=CK) (AO7 Du);rw[T5 (w.2.2.2.2.2.2.2.1[i]),MF (by omega)];simp only[AD];rw[AOJ c2,ih (i+1) _ _ _ (by omega) (by omega) (by simp_all),AQM];rfl
  ·have:=AJB h n 0 DY ES Ey [] (by omega) (by omega) (by simp)
   grind
theorem ATI:∀(n i:Nat) (DY:List AO) (ES:List AR),i<=w.2.2.2.2.2.2.1.length->(w.2.2.2.2.2.2.1.length-i)+w.2.2.2.2.2.2.2.1.length+w.2.2.2.2.2.2.2.2.1.length+3<=n->ES.length<=i->
  C3 n i w.1 w.2.1 w.2.2.1 w.2.2.2.1 w.2.2.2.2.1 w.2.2.2.2.2.1 w.2.2.2.2.2.2.1 w.2.2.2.2.2.2.2.1 w.2.2.2.2.2.2.2.2.1 w.2.2.2.2.2.2.2.2.2.1 w.2.2.2.2.2.2.2.2.2.2.1 0 0 false [] [] [] [] [] [] [] [] w.2.1 w.2.2.2.2.2.1 w.2.2.2.2.2.2.2.2.2.2.1 w.1 DY w.2.2.2.1 w.2.2.2.2.1 ES [] [] w.2.2.2.2.2.2.2.2.2.1=some ((((),w.2.1,(),(),(),w.2.2.2.2.2.1,(),(),(),(),w.2.2.2.2.2.2.2.2.2.2.1,()),()),(w.1,DY,w.2.2.2.1,w.2.2.2.2.1,(ES++w.2.2.2.2.2.2.1.drop i),w.2.2.2.2.2.2.2.1,w.2.2.2.2.2.2.2.2.1,w.2.2.2.2.2.2.2.2.2.1,())):=by
 have vq:=h.TN;have hl:=h.lens;intro n
 induction n with
 |zero=>omega
 |succ n ih=>
  intro i DY ES hi hn hb;simp only[C3,Rf,AB];by_cases Du:i<w.2.2.2.2.2.2.1.length
  ·have c1:(0:Int)<=(i:Int)/\(i:Int)<(w.2.2.2.2.2.2.1.length:Int):=by omega
   have c2:ES.length+1<=C_:=by rw[Ap];omega
   rw[AOJ c1.2,AOJ c1,Al Du,AH (by omega) (by omega),show((i:Int)+1)=((i+1:Nat):Int)by omega,drop_cons Du];have hm:=AY (f:=Aq) (AO7 Du);have hw:Aq w.2.2.2.2.2.2.1[i]=AS Az w.2.2.2.2.2.2.1[i].2.1:=rfl;rw[show(w.2.2.2.2.2.2.1[i].1,w.2.2.2.2.2.2.1[i].2.1,())=w.2.2.2.2.2.2.1[i]from rfl,Td (by omega)];simp only[AD];rw[AOJ c2,ih (i+1) _ _ (by omega) (by omega) (by simp_all),AQM];rfl
  ·have:=AIj h n 0 DY ES [] (by omega) (by omega) (by simp)
   grind
theorem AP7:∀(n i:Nat) (DY:List AO),i<=w.2.2.1.length->(w.2.2.1.length-i)+w.2.2.2.2.2.2.1.length+w.2.2.2.2.2.2.2.1.length+w.2.2.2.2.2.2.2.2.1.length+4<=n->DY.length<=i->
  Ch n i w.1 w.2.1 w.2.2.1 w.2.2.2.1 w.2.2.2.2.1 w.2.2.2.2.2.1 w.2.2.2.2.2.2.1 w.2.2.2.2.2.2.2.1 w.2.2.2.2.2.2.2.2.1 w.2.2.2.2.2.2.2.2.2.1 w.2.2.2.2.2.2.2.2.2.2.1 0 0 false [] [] [] [] [] [] [] [] w.2.1 w.2.2.2.2.2.1 w.2.2.2.2.2.2.2.2.2.2.1 w.1 DY w.2.2.2.1 w.2.2.2.2.1 [] [] [] w.2.2.2.2.2.2.2.2.2.1=some ((((),w.2.1,(),(),(),w.2.2.2.2.2.1,(),(),(),(),w.2.2.2.2.2.2.2.2.2.2.1,()),()),(w.1,(DY++w.2.2.1.drop i),w.2.2.2.1,w.2.2.2.2.1,w.2.2.2.2.2.2.1,w.2.2.2.2.2.2.2.1,w.2.2.2.2.2.2.2.2.1,w.2.2.2.2.2.2.2.2.2.1,())):=by
 have vq:=h.TN;have hl:=h.lens;intro n
 induction n with
 |zero=>omega
 |succ n ih=>
  intro i DY hi hn hb;simp only[Ch,Rh,AB];by_cases Du:i<w.2.2.1.length
  ·have c1:(0:Int)<=(i:Int)/\(i:Int)<(w.2.2.1.length:Int):=by omega
   have c2:DY.length+1<=C_:=by rw[Ap];omega
   rw[AOJ c1.2,AOJ c1,Al Du,AH (by omega) (by omega),show((i:Int)+1)=((i+1:Nat):Int)by omega,drop_cons Du];have hm:=AY (f:=Aj) (AO7 Du);have hw:=GL (s:=w.2.2.1[i]) (by omega);rw[QD (w.2.2.1[i]),O8 hw.1 hw.2];simp only[AD];rw[AOJ c2,ih (i+1) _ (by omega) (by omega) (by simp_all),AQM];rfl
  ·have:=ATI h n 0 DY [] (by omega) (by omega) (by simp)
   grind
theorem Q_:Fa w=some ((((),w.2.1,(),(),(),w.2.2.2.2.2.1,(),(),(),(),w.2.2.2.2.2.2.2.2.2.2.1,()),()),(w.1,w.2.2.1,w.2.2.2.1,w.2.2.2.2.1,w.2.2.2.2.2.2.1,w.2.2.2.2.2.2.2.1,w.2.2.2.2.2.2.2.2.1,w.2.2.2.2.2.2.2.2.2.1,())):=by
 have vq:=h.TN;have hl:=h.lens;unfold Fa Re;have:=AP7 h AZ 0 [] (by omega) (AW6 (Ac (by omega))) (by simp);rw[show((0:Nat):Int)=0 from rfl,AVJ,AUN]at this;rw[AOJ (by rw[Ap];omega),AOJ (by rw[Ap];omega),show(w.2.2.2.2.1,w.2.2.2.2.2.1,())=(CQ w)from rfl,Te (by show AS Bk w.2.2.2.2.1<=_;omega)];simp only[AD];rw[AOJ (by rw[Ap];omega)];exact this
end
def gT(q:AA×Int):eH:=(((((),q.1.2.1,(),(),(),q.1.2.2.2.2.2.1,(),(),(),(),q.1.2.2.2.2.2.2.2.2.2.2.1,()),q.2,()),()),(q.1.1,q.1.2.2.1,q.1.2.2.2.1,q.1.2.2.2.2.1,q.1.2.2.2.2.2.2.1,q.1.2.2.2.2.2.2.2.1,q.1.2.2.2.2.2.2.2.2.1,q.1.2.2.2.2.2.2.2.2.2.1,()))
def AVB(q:AA×Int):fL:=(((((),q.1.2.1,(),(),(),q.1.2.2.2.2.2.1,(),(),(),(),q.1.2.2.2.2.2.2.2.2.2.2.1,()),q.2,()),()),(q.1.1,q.1.2.2.1,q.1.2.2.2.1,(),(),(),q.1.2.2.2.2.2.2.2.2.1,q.1.2.2.2.2.2.2.2.2.2.1,q.1.2.2.2.2.1,q.1.2.2.2.2.2.2.1,q.1.2.2.2.2.2.2.2.1,()))
def AE7(q:AA×Int):Lj:=(((((),q.1.2.1,(),(),(),q.1.2.2.2.2.2.1,(),(),(),(),q.1.2.2.2.2.2.2.2.2.2.2.1,()),q.2,()),()),(q.1.1,q.1.2.2.1,q.1.2.2.2.1,q.1.2.2.2.2.1,q.1.2.2.2.2.2.2.1,q.1.2.2.2.2.2.2.2.1,q.1.2.2.2.2.2.2.2.2.1,(),q.1.2.2.2.2.2.2.2.2.2.1,()))
def vl(q:AA×Int):KF:=(((((),q.1.2.1,(),(),(),q.1.2.2.2.2.2.1,(),(),(),(),q.1.2.2.2.2.2.2.2.2.2.2.1,()),q.2,()),()),(q.1.1,q.1.2.2.1,(),q.1.2.2.2.2.1,q.1.2.2.2.2.2.2.1,q.1.2.2.2.2.2.2.2.1,q.1.2.2.2.2.2.2.2.2.1,q.1.2.2.2.2.2.2.2.2.2.1,q.1.2.2.2.1,()))
def AQT(q:AA×Int):e_:=(((((),q.1.2.1,(),(),(),q.1.2.2.2.2.2.1,(),(),(),(),q.1.2.2.2.2.2.2.2.2.2.2.1,()),q.2,()),()),(q.1.1,q.1.2.2.1,q.1.2.2.2.1,q.1.2.2.2.2.1,q.1.2.2.2.2.2.2.1,(),q.1.2.2.2.2.2.2.2.2.1,q.1.2.2.2.2.2.2.2.2.2.1,q.1.2.2.2.2.2.2.2.1,()))
def ANI(q:AA×Int):de:=(((((),q.1.2.1,(),(),(),q.1.2.2.2.2.2.1,(),(),(),(),q.1.2.2.2.2.2.2.2.2.2.2.1,()),q.2,()),()),(q.1.1,q.1.2.2.1,q.1.2.2.2.1,(),q.1.2.2.2.2.2.2.1,(),q.1.2.2.2.2.2.2.2.2.1,q.1.2.2.2.2.2.2.2.2.2.1,q.1.2.2.2.2.1,q.1.2.2.2.2.2.2.2.1,()))
def AFz(q:AA×Int):Pb:=(((((),q.1.2.1,(),(),(),q.1.2.2.2.2.2.1,(),(),(),(),q.1.2.2.2.2.2.2.2.2.2.2.1,()),q.2,()),()),(q.1.1,q.1.2.2.1,q.1.2.2.2.1,q.1.2.2.2.2.1,(),q.1.2.2.2.2.2.2.2.1,q.1.2.2.2.2.2.2.2.2.1,q.1.2.2.2.2.2.2.2.2.2.1,q.1.2.2.2.2.2.2.1,()))
def ATW(q:AA×Int):kf:=(((((),q.1.2.1,(),(),(),q.1.2.2.2.2.2.1,(),(),(),(),q.1.2.2.2.2.2.2.2.2.2.2.1,()),q.2,()),()),(q.1.1,q.1.2.2.1,(),(),(),(),q.1.2.2.2.2.2.2.2.2.1,(),q.1.2.2.2.1,q.1.2.2.2.2.1,q.1.2.2.2.2.2.2.1,q.1.2.2.2.2.2.2.2.1,q.1.2.2.2.2.2.2.2.2.2.1,()))
theorem GK{α:Type}{x y:α}:(if(!true)=true then x else y)=y:=rfl
theorem JA{α:Type}{x y:α}:(if(!false)=true then x else y)=x:=rfl
structure AeQ (w:AA):Prop where
 c:w.1.length<=8
 st:w.2.2.1.length=w.1.length
 lost:w.2.2.2.1.length<=8
 era:AS Bk w.2.2.2.2.1<=270
 cS:w.2.2.2.2.1.length<=30
 trim:CB w.2.2.2.2.2.1
 wr:w.2.2.2.2.2.2.1.length<=4
 md:w.2.2.2.2.2.2.2.1.length<=1
 rd:w.2.2.2.2.2.2.2.2.1.length=2
 se:w.2.2.2.2.2.2.2.2.2.1.length<=120
 ws:AS Aj w.2.2.1<=80008
 ww:AS Aq w.2.2.2.2.2.2.1<=12004
 ja:w.AQ.length<=4
 jw:w.BX.length=w.1.length
 KY:w.lost.length<=8
theorem KU.nums{w:AA}(h:KU w):AeQ w where
 c:=(D8 h.cfg).2.1
 st:=h.sn
 lost:=Fl h.lost
 era:=h.jx.w
 cS:=h.jx.n
 trim:=h.jx.tin
 wr:=h.tK
 md:=h.xO
 rd:=h.sg
 se:=h.SF
 ws:=by
  have:=ET (f:=Aj) (B:=10000) (N:=8) (l:=w.BX) (by rw[h.sn];exact(D8 h.cfg).2.1) fun s hs=>(h.Vo hs).w
  omega
 ww:=by
  have:=ET (f:=Aq) (B:=3000) h.tK fun x hx=>(h.AQ x hx).1.w
  omega
 ja:=h.tK
 jw:=h.sn
 KY:=Fl h.lost
section
variable{w:AA} (h:KU w)
include h
theorem KU.fo{a:Int}(ha:Bd a 0 ((w.AQ.length:Int)-1)=true):(0<=a/\a<(w.2.2.2.2.2.2.1.length:Int))/\cX (Ae w) (w.AQ.getD a.toNat B3)/\AS Az (w.AQ.getD a.toNat B3).2.1<=3000:=by
 have:=As.1 ha;have hi:a.toNat<w.AQ.length:=by omega
 have hx:=(h.AQ _ (Bm (d:=B3) hi)).1;refine⟨?_,hx,hx.w⟩
 (try simp only[H.AA.BX,H.AA.lost,H.AA.Am,H.AA.trim,H.AA.AQ,H.AA.An,H.AA.AX,H.AA.Ai,H.AA.GP,H.AA.CV,H.AA.Fb,H.AA.JB,H.AA.Bl,H.AA.Cy,H.AA.DN,H.AA.Ax,H.AA.Fj,CQ,Ae]at*)
 omega
theorem Er{e:Int}:(BK (CQ w).1 e).length<=8:=by
 unfold BK;split
 ·rename_i he
  have he':=As.1 he;exact Fl (V1 (h.jx.Am _ (Bm (d:=GB) (by omega))).1)
 ·simp
theorem pf{d:Ao}:Xh w.2.1 w.2.2.2.2.2.1 w.2.2.2.2.2.2.2.2.2.2.1 d w.1 w.2.2.1 w.2.2.2.1 w.2.2.2.2.1 w.2.2.2.2.2.2.1 w.2.2.2.2.2.2.2.1 w.2.2.2.2.2.2.2.2.1 w.2.2.2.2.2.2.2.2.2.1=some (AVB (M9 w d.2.1)):=by
 have k:=h.nums;have k1:=k.c;have k2:=k.wr;unfold Xh M9;rw[Dh];by_cases h4:w.2.2.2.2.2.2.1.length=4
 ·rw[AOJ (by omega),AOJ h4];rfl
 have hm:(BZ d.2.1).length<=8:=by
  unfold BZ;split
  ·exact AVG (AUc _ _) (by simp)
  ·simp
 rw[AOK (by omega),AOK h4,ZY];simp only[AD];rw[show(w.1,w.2.1,())=Ae w from rfl,show(w.2.2.2.2.1,w.2.2.2.2.2.1,())=CQ w from rfl,d_ (c:=Ae w) (r:=CQ w) (by show w.1.length<=_;omega) (by have:=k.era;show AS Bk w.2.2.2.2.1<=_;omega) k.trim (by omega)];simp only[AD,BB];rcases AOB (JG (Ae w) (CQ w) (BZ d.2.1)).2.2 with hq|hq
 ·rw[hq,AOJ (by rw[Ap];omega),GK];rfl
 ·rw[hq,JA];rfl
theorem nq{d:Ao}:U9 w.2.1 w.2.2.2.2.2.1 w.2.2.2.2.2.2.2.2.2.2.1 d w.1 w.2.2.1 w.2.2.2.1 w.2.2.2.2.1 w.2.2.2.2.2.2.1 w.2.2.2.2.2.2.2.1 w.2.2.2.2.2.2.2.2.1 w.2.2.2.2.2.2.2.2.2.1=some (gT (JL w d.2.1 d.2.2.1 d.2.2.2.1)):=by
 have k:=h.nums;have k1:=k.c;have k2:=k.wr;have k3:=k.lost;have k4:=k.st;have cw:=k.ja;have jz:=k.KY;have lu:=k.jw;have k5:=k.era;unfold U9 JL;rw[Gk w,S4 (by omega),Iw (by omega) (by omega)];simp only[AD,BB,C6];rcases AOB (Bd d.2.1 0 ((w.AQ.length:Int)-1))with h1|h1
 rotate_left
 ·rw[h1,JA];rfl
 obtain⟨x1,x2,x3⟩:=h.fo h1;rw[h1,APm,GK,AOJ x1,Be];simp only[AD]
 generalize hx:w.AQ.getD d.2.1.toNat B3=x at*
 rcases AOB (Bd d.2.2.1 1 (x.2.1.length:Int))with h2|h2
 rotate_left
 ·rw[h2,JA];rfl
 have h2':=As.1 h2;rw[h2,APm,GK];by_cases h3:Ay w d.2.2.2.1=0
 rotate_left
 ·rw[AOK h3,AOJ h3];rfl
 rw[AOJ h3,AOK (show¬(Ay w d.2.2.2.1≠0)from fun hh=>hh h3)];obtain⟨n1,n2,n3⟩:=Qt h3;have n2':d.2.2.2.1<(w.2.2.1.length:Int):=n2;have hxl:=x2.n;have hxe:=x2.ep;rw[show(w.2.2.2.2.1,w.2.2.2.2.2.1,())=CQ w from rfl,D4 (r:=CQ w) (by show AS Bk w.2.2.2.2.1<=_;omega)];have Vb:(BK w.Am x.1).length<=8:=Er h;have hr:0<=d.2.2.2.1/\d.2.2.2.1<(w.2.2.1.length:Int):=⟨n1,n2'⟩;rw[show(CQ w).1=w.Am from rfl];simp only[AD,AOJ hr];rw[LV (by omega),AH (by omega) (by omega),AOJ (by omega),GH (by omega) (by omega)];simp only[AD];have cU:w.2.2.1.getD d.2.2.2.1.toNat ([],[],0,())=storeAt w d.2.2.2.1:=rfl;have hso:=h.store h3;have zH:=Jn (e:=x.1) (o:=d.2.2.1) hxe (by omega);rw[cU,show((storeAt w d.2.2.2.1).1,(storeAt w d.2.2.2.1).2.1,(storeAt w d.2.2.2.1).2.2.1,())=storeAt w d.2.2.2.1 from rfl,U1 (by have:=hso.w;omega) hso.sin (HG zH.1)];simp only[AD,jv,putAt];rcases AOB ((BK w.Am x.1).contains d.2.2.2.1)with h5|h5
 rotate_left
 ·rw[h5,JA];rfl
 rw[h5,GK,APm];have hwd:(x.2.1.getD (d.2.2.1-1).toNat ([],[],false,()))=x.2.1.getD (d.2.2.1-1).toNat MB:=rfl;rw[hwd];rcases AOB (Hd (storeAt w d.2.2.2.1) (HN x.1 d.2.2.1,0,false,(x.2.1.getD (d.2.2.1-1).toNat MB).1,())).2 with h6|h6
 rotate_left
 ·rw[h6];rfl
 rw[h6,APm,AOJ rfl];rfl
end
theorem gL{α:Type}{f:α->Nat}{p:α->Bool}:∀{l:List α},AS f (l.filter p)<=AS f l
 |[]=>ATX _
 |x::l=>by
  have:=gL (f:=f) (p:=p) (l:=l);grind[AS]
theorem qg{s:AO}{u:Int}(hs:dO s):dO (B8 s u).1:=by
 rcases AOB (B8 s u).2 with hq|hq
 ·exact(ke hq).2.1
 ·have:(B8 s u).1=s:=by
   unfold B8 at*;rw[De.2 hs]at*;grind
  simp_all
section
variable{w:AA} (h:KU w)
include h
theorem KU.MS{n:Int}(hn:Ay w n=0):(0<=n/\n<(w.2.2.1.length:Int))/\Aj (storeAt w n)<=2^30/\kC (storeAt w n)/\dO (storeAt w n):=by
 obtain⟨n1,n2,n3⟩:=Qt hn;have:=(h.store hn).w;exact⟨⟨n1,n2⟩,by omega,(h.store hn).sin,h.store hn⟩
theorem mH{d:Ao}:VD w.2.1 w.2.2.2.2.2.1 w.2.2.2.2.2.2.2.2.2.2.1 d w.1 w.2.2.1 w.2.2.2.1 w.2.2.2.2.1 w.2.2.2.2.2.2.1 w.2.2.2.2.2.2.2.1 w.2.2.2.2.2.2.2.2.1 w.2.2.2.2.2.2.2.2.2.1=some (gT (if d.1=16 then JI w d.2.1 else JM w d.2.1 d.2.2.1)):=by
 have k:=h.nums;have k1:=k.c;have k2:=k.wr;have k3:=k.lost;have k4:=k.st;have cw:=k.ja;have jz:=k.KY;have lu:=k.jw;have k5:=k.era;unfold VD JI JM;rw[Gk w,Iw (by omega) (by omega)];simp only[AD,BB,C6,Dh];by_cases h3:Ay w d.2.1=0
 rotate_left
 ·rw[AOK h3]
  by_cases h16:d.1=16
  ·rw[AOJ h16,AOJ h3];rfl
  ·rw[AOK h16,AOJ h3];rfl
 obtain⟨hr,s1,s2,s3⟩:=h.MS h3;have cU:w.2.2.1.getD d.2.1.toNat ([],[],0,())=storeAt w d.2.1:=rfl;have hn3: ¬(Ay w d.2.1≠0):=fun hh=>hh h3
 rw[AOJ h3];simp only[AOJ hr,cU,AOK hn3];rw[show((storeAt w d.2.1).1,(storeAt w d.2.1).2.1,(storeAt w d.2.1).2.2.1,())=storeAt w d.2.1 from rfl,Ya s1 s2,kI s1 s2 k.trim];simp only[AD,jv,putAt];by_cases h16:d.1=16
 ·rw[AOJ h16,AOJ h16]
  rcases AOB (Jk (storeAt w d.2.1) w.2.2.2.2.2.1).2 with h6|h6
  ·rw[h6];rfl
  ·rw[h6];rfl
 ·rw[AOK h16,AOK h16]
  rcases AOB (GN (storeAt w d.2.1) d.2.2.1).2 with h6|h6
  ·rw[h6];rfl
  ·rw[h6];rfl
theorem pY{d:Ao}:XK w.2.1 w.2.2.2.2.2.1 w.2.2.2.2.2.2.2.2.2.2.1 d w.1 w.2.2.1 w.2.2.2.1 w.2.2.2.2.1 w.2.2.2.2.2.2.1 w.2.2.2.2.2.2.2.1 w.2.2.2.2.2.2.2.2.1 w.2.2.2.2.2.2.2.2.2.1=some (vl (NT w d.2.1)):=by
 have k:=h.nums;have k1:=k.c;have k2:=k.wr;have k3:=k.lost;have k4:=k.st;have cw:=k.ja;have jz:=k.KY;have lu:=k.jw;have k5:=k.era;have k6:=k.ws;have k6':AS Aj w.BX<=80008:=k.ws;have k7:=k.cS;unfold XK NT;rw[LV (by omega)];simp only[AD,BB];rcases AOB (w.2.2.2.1.contains d.2.1)with h1|h1
 rotate_left
 ·rw[h1];rfl
 rw[h1,GK,APm,AH (by omega) (by omega),JP];simp only[AD];rw[show(w.1,w.2.1,())=Ae w from rfl,vX (c:=Ae w) (by show w.1.length<=_;omega) (by omega) (fun s hs=>by have:=(h.Vo hs).nk;omega) (by omega) (fun s hs=>(h.Vo hs).sin) (by omega)];simp only[AD,pkF];rcases AOB (bJ (Ae w) w.2.2.1 w.2.2.2.1 d.2.1 (max ((w.2.2.2.2.1.length:Int)-1) 0)).2 with h2|h2
 rotate_left
 ·rw[h2];rfl
 have hm:d.2.1∈w.lost:=by
  simp_all
 have hn:=(FA.1 h.lost).2.1 d.2.1 hm;have hn':d.2.1<(w.1.length:Int):=hn.2;rw[h2,APm,GK,AOJ (show 0<=d.2.1/\d.2.1<(w.2.2.1.length:Int)from⟨hn.1,by omega⟩),H_ (by omega) (by simp)];rfl
theorem pc:XT w.2.1 w.2.2.2.2.2.1 w.2.2.2.2.2.2.2.2.2.2.1 w.1 w.2.2.1 w.2.2.2.1 w.2.2.2.2.1 w.2.2.2.2.2.2.1 w.2.2.2.2.2.2.2.1 w.2.2.2.2.2.2.2.2.1 w.2.2.2.2.2.2.2.2.2.1=some (AQT (Jr w)):=by
 have k:=h.nums;have k1:=k.c;have k2:=k.wr;have k3:=k.lost;have k4:=k.st;have cw:=k.ja;have jz:=k.KY;have lu:=k.jw;have k5:=k.era;have k7:=k.cS;unfold XT Jr;rw[show(w.2.2.2.2.1,w.2.2.2.2.2.1,())=CQ w from rfl,Oc (r:=CQ w) (by show w.2.2.2.2.1.length<=_;omega)];simp only[AD,Dh,AB];rw[show(CQ w).1=w.Am from rfl];by_cases h1:(w.2.2.2.2.1.length:Int)<2
 ·rw[AOJ h1,show(decide ((w.2.2.2.2.1.length:Int)<2)||decide (BF w.2.2.2.2.1=(w.2.2.2.2.1.length:Int)))=true by simp_all];rfl
 rw[AOK h1];by_cases h2:BF w.2.2.2.2.1=(w.2.2.2.2.1.length:Int)
 ·rw[AOJ h2,show(decide ((w.2.2.2.2.1.length:Int)<2)||decide (BF w.2.2.2.2.1=(w.2.2.2.2.1.length:Int)))=true by simp_all];rfl
 rw[AOK h2,show(decide ((w.2.2.2.2.1.length:Int)<2)||decide (BF w.2.2.2.2.1=(w.2.2.2.2.1.length:Int)))=false by simp_all];rw[AOK (show¬(false=true)by simp)];by_cases h3:w.2.2.2.2.2.2.2.1.length>0
 ·rw[AOJ (by omega),AOJ h3];rfl
 ·rw[AOK (by omega),AOK h3];rfl
theorem pn{d:Ao}:XE w.2.1 w.2.2.2.2.2.1 w.2.2.2.2.2.2.2.2.2.2.1 d w.1 w.2.2.1 w.2.2.2.1 w.2.2.2.2.1 w.2.2.2.2.2.2.1 w.2.2.2.2.2.2.2.1 w.2.2.2.2.2.2.2.2.1 w.2.2.2.2.2.2.2.2.2.1=some (gT (La w d.2.1)):=by
 have k:=h.nums;have k1:=k.c;have k2:=k.wr;have k3:=k.lost;have k4:=k.st;have cw:=k.ja;have jz:=k.KY;have lu:=k.jw;have k5:=k.era;unfold XE La;rcases hm:w.An with _|⟨m,ms⟩
 ·rw[Dh,AOJ (by simp_all)];rfl
 have pO:w.2.2.2.2.2.2.2.1=m::ms:=hm;have y8:w.2.2.2.2.2.2.2.1.length=ms.length+1:=by simp_all
 have g0:w.2.2.2.2.2.2.2.1.getD 0 (0,0,[],[],false,[],())=m:=by simp_all
 have hr0:(0:Int)<=(0:Int)/\(0:Int)<(w.2.2.2.2.2.2.2.1.length:Int):=by omega
 have bC:=(h.An m (by simp_all)).1;have hmw:=bC.w;have hme:=bC.ep;have hmb:=bC.b;simp only[Dh,BB,C6,AOJ hr0,g0];rw[AOK (by omega)];rw[Gk w,Iw (by omega) (by omega),show(w.2.2.2.2.1,w.2.2.2.2.2.1,())=CQ w from rfl,D4 (r:=CQ w) (by show AS Bk w.2.2.2.2.1<=_;omega)];have Vb:(BK w.Am m.2.1).length<=8:=Er h;rw[show(CQ w).1=w.Am from rfl];simp only[AD];rw[LV (by omega)];simp only[AD];by_cases h3:Ay w d.2.1=0
 rotate_left
 ·rw[AOK h3,AOJ h3];rfl
 obtain⟨hr,s1,s2,s3⟩:=h.MS h3;have cU:w.2.2.1.getD d.2.1.toNat ([],[],0,())=storeAt w d.2.1:=rfl;have hn3: ¬(Ay w d.2.1≠0):=fun hh=>hh h3
 rw[AOJ h3,AOK hn3];simp only[AOJ hr,cU];rcases AOB ((BK w.Am m.2.1).contains d.2.1)with h5|h5
 rotate_left
 ·rw[h5,JA];rfl
 rw[h5,GK,APm,AH (by omega) (by omega),show((storeAt w d.2.1).1,(storeAt w d.2.1).2.1,(storeAt w d.2.1).2.2.1,())=storeAt w d.2.1 from rfl,Z7 s1 s2];have hq:=qg (u:=m.1-1) s3;have hqw:=hq.w;simp only[AD,jv];rw[show((B8 (storeAt w d.2.1) (m.1-1)).1.1,(B8 (storeAt w d.2.1) (m.1-1)).1.2.1,(B8 (storeAt w d.2.1) (m.1-1)).1.2.2.1,())=(B8 (storeAt w d.2.1) (m.1-1)).1 from rfl,bR (by omega) hq.sin];simp only[AD];have hes:(HC (B8 (storeAt w d.2.1) (m.1-1)).1 m.2.1).length<=200/\gu (HC (B8 (storeAt w d.2.1) (m.1-1)).1 m.2.1)/\AS Ah (HC (B8 (storeAt w d.2.1) (m.1-1)).1 m.2.1)<=10000:=by
  unfold HC;rw[De.2 hq,AOJ rfl];refine⟨AVG (AUc _ _) hq.nk,fun e he=>hq.sin.1 e (AWB.1 he).1,AVG gL ?_⟩;have:Aj (B8 (storeAt w d.2.1) (m.1-1)).1=AS Ah (B8 (storeAt w d.2.1) (m.1-1)).1.1+AS Ah (B8 (storeAt w d.2.1) (m.1-1)).1.2.1:=rfl;omega
 rw[T5 m,show(w.1,w.2.1,())=Ae w from rfl,cB (c:=Ae w) (by show w.1.length<=_;omega) (by omega) bC.zF (by omega) hes.2.1 (by omega)];simp only[AD,iB];rcases AOB (B8 (storeAt w d.2.1) (m.1-1)).2 with h6|h6
 rotate_left
 ·rw[h6,AVN,AZx,AOJ rfl];rfl
 rw[h6,AOx,AVP];rcases AOB (Pj (Ae w) m d.2.1 (HC (B8 (storeAt w d.2.1) (m.1-1)).1 m.2.1)).2 with h7|h7
 rotate_left
 ·rw[h7,JA];rfl
 rw[h7,GK,APm,APm,pO];rfl
theorem pd:XM w.2.1 w.2.2.2.2.2.1 w.2.2.2.2.2.2.2.2.2.2.1 w.1 w.2.2.1 w.2.2.2.1 w.2.2.2.2.1 w.2.2.2.2.2.2.1 w.2.2.2.2.2.2.2.1 w.2.2.2.2.2.2.2.2.1 w.2.2.2.2.2.2.2.2.2.1=some (gT (Jx w)):=by
 have k:=h.nums;have k1:=k.c;have k2:=k.wr;have k3:=k.lost;have k4:=k.st;have cw:=k.ja;have jz:=k.KY;have lu:=k.jw;have k5:=k.era;unfold XM Jx;rcases hm:w.An with _|⟨m,ms⟩
 ·rw[Dh,AOJ (by simp_all)];rfl
 have pO:w.2.2.2.2.2.2.2.1=m::ms:=hm;have y8:w.2.2.2.2.2.2.2.1.length=ms.length+1:=by simp_all
 have g0:w.2.2.2.2.2.2.2.1.getD 0 (0,0,[],[],false,[],())=m:=by simp_all
 have hr0:(0:Int)<=(0:Int)/\(0:Int)<(w.2.2.2.2.2.2.2.1.length:Int):=by omega
 have bC:=(h.An m (by simp_all)).1;have hmw:=bC.w;have hme:=bC.ep;have hmb:=bC.b;simp only[Dh,BB,C6,AOJ hr0,g0];rw[AOK (by omega)];rw[show(w.2.2.2.2.1,w.2.2.2.2.2.1,())=CQ w from rfl,D4 (r:=CQ w) (by show AS Bk w.2.2.2.2.1<=_;omega)];have Vb:(BK w.Am m.2.1).length<=8:=Er h;rw[show(CQ w).1=w.Am from rfl];simp only[AD];rw[T5 m,show(w.1,w.2.1,())=Ae w from rfl,cF (c:=Ae w) (by show w.1.length<=_;omega) (by omega) bC.zF (by omega)];simp only[AD,iB];rcases AOB (MU (Ae w) m (BK w.Am m.2.1)).2 with h7|h7
 rotate_left
 ·rw[h7,JA];rfl
 rw[h7,GK,APm,pO];rfl
theorem sB{d:Ao}:Z8 w.2.1 w.2.2.2.2.2.1 w.2.2.2.2.2.2.2.2.2.2.1 d w.1 w.2.2.1 w.2.2.2.1 w.2.2.2.2.1 w.2.2.2.2.2.2.1 w.2.2.2.2.2.2.2.1 w.2.2.2.2.2.2.2.2.1 w.2.2.2.2.2.2.2.2.2.1=some (gT (Q2 w d.2.2.1 d.2.2.2.1)):=by
 have k:=h.nums;have k1:=k.c;have k2:=k.wr;have k3:=k.lost;have k4:=k.st;have cw:=k.ja;have jz:=k.KY;have lu:=k.jw;have k5:=k.era;unfold Z8 Q2;rcases hm:w.An with _|⟨m,ms⟩
 ·rw[Dh,AOJ (by simp_all)];rfl
 have pO:w.2.2.2.2.2.2.2.1=m::ms:=hm;have y8:w.2.2.2.2.2.2.2.1.length=ms.length+1:=by simp_all
 have g0:w.2.2.2.2.2.2.2.1.getD 0 (0,0,[],[],false,[],())=m:=by simp_all
 have hr0:(0:Int)<=(0:Int)/\(0:Int)<(w.2.2.2.2.2.2.2.1.length:Int):=by omega
 have bC:=(h.An m (by simp_all)).1;have hmw:=bC.w;have hme:=bC.ep;have hmb:=bC.b;simp only[Dh,BB,C6,AOJ hr0,g0];rw[AOK (by omega)];rw[T5 m,Zx (m:=m) (by omega),Gk w,Iw (by omega) (by omega),show(w.2.2.2.2.1,w.2.2.2.2.2.1,())=CQ w from rfl,D4 (r:=CQ w) (by show AS Bk w.2.2.2.2.1<=_;omega)];have Vb:(BK w.Am m.2.1).length<=8:=Er h;rw[show(CQ w).1=w.Am from rfl];simp only[AD];rw[LV (by omega)];simp only[AD];have VP:∀e,Ec m d.2.2.1=some e->CB e.1:=fun e he=>by
  unfold Ec at he;split at he
  ·rename_i hc
   simp only[AOw,As]at hc;grind[Jn,HG]
  simp_all
 cases he:Ec m d.2.2.1 with
 |none=>rfl
 |some e=>
 simp only[AVT,APm,AVc];by_cases h3:Ay w d.2.2.2.1=0
 rotate_left
 ·rw[AOK h3,AOJ h3];rfl
 obtain⟨hr,s1,s2,s3⟩:=h.MS h3;have cU:w.2.2.1.getD d.2.2.2.1.toNat ([],[],0,())=storeAt w d.2.2.2.1:=rfl;have hn3: ¬(Ay w d.2.2.2.1≠0):=fun hh=>hh h3
 rw[AOJ h3,AOK hn3];simp only[AOJ hr,cU];rcases AOB ((BK w.Am m.2.1).contains d.2.2.2.1)with h5|h5
 rotate_left
 ·rw[h5,JA];rfl
 rw[h5,GK,APm,show((storeAt w d.2.2.2.1).1,(storeAt w d.2.2.2.1).2.1,(storeAt w d.2.2.2.1).2.2.1,())=storeAt w d.2.2.2.1 from rfl,cu e,U1 s1 s2 (VP e he)];simp only[AD,jv,putAt];rcases AOB (Hd (storeAt w d.2.2.2.1) e).2 with h6|h6
 ·rw[h6];rfl
 ·rw[h6];rfl
theorem mz:VF w.2.1 w.2.2.2.2.2.1 w.2.2.2.2.2.2.2.2.2.2.1 w.1 w.2.2.1 w.2.2.2.1 w.2.2.2.2.1 w.2.2.2.2.2.2.1 w.2.2.2.2.2.2.2.1 w.2.2.2.2.2.2.2.2.1 w.2.2.2.2.2.2.2.2.2.1=some (ANI (Im w)):=by
 have k:=h.nums;have k1:=k.c;have k2:=k.wr;have k3:=k.lost;have k4:=k.st;have cw:=k.ja;have jz:=k.KY;have lu:=k.jw;have k5:=k.era;unfold VF Im;rcases hm:w.An with _|⟨m,ms⟩
 ·rw[Dh,AOJ (by simp_all)];rfl
 have pO:w.2.2.2.2.2.2.2.1=m::ms:=hm;have y8:w.2.2.2.2.2.2.2.1.length=ms.length+1:=by simp_all
 have g0:w.2.2.2.2.2.2.2.1.getD 0 (0,0,[],[],false,[],())=m:=by simp_all
 have hr0:(0:Int)<=(0:Int)/\(0:Int)<(w.2.2.2.2.2.2.2.1.length:Int):=by omega
 have bC:=(h.An m (by simp_all)).1;have hmw:=bC.w;have hme:=bC.ep;have hmb:=bC.b;simp only[Dh,BB,C6,AOJ hr0,g0];rw[AOK (by omega)];rw[T5 m,show(w.1,w.2.1,())=Ae w from rfl,kW (c:=Ae w) (by show w.1.length<=_;omega) (by omega) bC.zF];simp only[AD];rcases AOB (QH (Ae w) m)with h5|h5
 rotate_left
 ·rw[h5,JA];rfl
 rw[h5,GK,APm,show(w.2.2.2.2.1,w.2.2.2.2.2.1,())=CQ w from rfl,bY (c:=Ae w) (r:=CQ w) (by show w.1.length<=_;omega) (by show AS Bk w.2.2.2.2.1<=_;omega) k.trim];simp only[AD,pkR];rcases AOB (LU (Ae w) (CQ w) m.1 m.2.2.2.2.2.1.length).2 with h6|h6
 ·rw[h6];rfl
 ·rw[h6];rfl
theorem ov{d:Ao}:XO w.2.1 w.2.2.2.2.2.1 w.2.2.2.2.2.2.2.2.2.2.1 d w.1 w.2.2.1 w.2.2.2.1 w.2.2.2.2.1 w.2.2.2.2.2.2.1 w.2.2.2.2.2.2.2.1 w.2.2.2.2.2.2.2.2.1 w.2.2.2.2.2.2.2.2.2.1=some (gT (IY w d.2.1 d.2.2.1)):=by
 have k:=h.nums;have k1:=k.c;have k2:=k.wr;have k3:=k.lost;have k4:=k.st;have cw:=k.ja;have jz:=k.KY;have lu:=k.jw;have k5:=k.era;have k6:=k.ws;have k6':AS Aj w.BX<=80008:=k.ws;have k7:=k.ww;have k8:=k.rd;unfold XO IY;rw[Be];simp only[AD,BB,C6];rcases AOB (Bd d.2.1 0 1)with h1|h1
 rotate_left
 ·rw[h1];rfl
 have h1':=As.1 h1;have hr:0<=d.2.1/\d.2.1<(w.2.2.2.2.2.2.2.2.1.length:Int):=by omega
 have Ha:d.2.1.toNat<w.AX.length:=by
  simp_all
 have ZH:=h.AX _ (Bm (d:=ER) Ha);simp only[AOJ hr];rw[h1,GK,APm,Gk w]
 generalize hx:w.AX.getD d.2.1.toNat ER=r at*
 have hre:=ZH.ep;have hro:=ZH.off;rw[rC (by grind),QD r,jf (by omega) (by omega) (by omega) (by omega)];simp only[AD];have ha:∀a∈answers w (HN r.1 r.2.1) (BZ d.2.2.1),CB a.2.2.1:=fun a ha=>by
  unfold answers at ha;obtain⟨n,hn,rfl⟩:=AVh.1 ha;have hn':Ay w n=0:=by simp_all
  unfold answer;split
  ·rename_i e he
   have:=(h.store hn').kept e (AYG he);exact HG (Fp.1 this).pl
  ·exact⟨by simp_all,by simp_all⟩
 have hal:(answers w (HN r.1 r.2.1) (BZ d.2.2.1)).length<=8:=by
  unfold answers;rw[AWA];refine AVG (AUc _ _) ?_
  unfold BZ;split
  ·exact AVG (AUc _ _) (by simp)
  ·simp
 rw[show(w.1,w.2.1,())=Ae w from rfl,show(w.2.2.2.2.1,w.2.2.2.2.2.1,())=CQ w from rfl,iq (c:=Ae w) (g:=CQ w) (by show w.1.length<=_;omega) (by show AS Bk w.2.2.2.2.1<=_;omega) k.trim (by omega) ha];simp only[AD,z7];by_cases h2:(C2 (Ae w) (CQ w) (dF w r.1) r (answers w (HN r.1 r.2.1) (BZ d.2.2.1))).2=0
 ·rw[AOJ h2,AOK (fun hh=>hh h2)];rfl
 ·rw[AOK h2,AOJ h2];rfl
end
section
variable{w:AA} (h:KU w)
include h
theorem AT0{ws:List AR}{s:Af}:∀(n i:Nat) (t:Bool) (b:List Af),i<=w.2.2.2.2.2.2.2.2.2.1.length->w.2.2.2.2.2.2.2.2.2.1.length-i<n->b.length<=2*i+2->
  Kn n t i w.1 w.2.2.1 w.2.2.2.1 w.2.2.2.2.1 ws w.2.2.2.2.2.2.2.1 w.2.2.2.2.2.2.2.2.1 w.2.2.2.2.2.2.2.2.2.1 w.2.1 w.2.2.2.2.2.1 w.2.2.2.2.2.2.2.2.2.2.1 0 0 false [] [] [] [] [] [] [] [] s.1 s.2.1 s.2.2.1 b=some (AE7 (((w.Bl ws).Ax (b++(if t then w.2.2.2.2.2.2.2.2.2.1.drop i else af s (w.2.2.2.2.2.2.2.2.2.1.drop i)))),0)):=by
 have k6:=h.nums.se;intro n
 induction n with
 |zero=>omega
 |succ n ih=>
  intro i t b hi hn hb;simp only[Kn,Yv,AB,BB];have c2:b.length+1<=C_:=by rw[Ap];omega
  by_cases Du:i<w.2.2.2.2.2.2.2.2.2.1.length
  ·have c1:(0:Int)<=(i:Int)/\(i:Int)<(w.2.2.2.2.2.2.2.2.2.1.length:Int):=by omega
   have c3:(b++[(s.1,s.2.1,s.2.2.1,())]).length+1<=C_:=by grind[Ap]
   rw[AOJ c1.2];simp only[AOJ c1,AOJ c2,AOJ c3];rw[Al Du,AH (by omega) (by omega),show((i:Int)+1)=((i+1:Nat):Int)by omega,drop_cons Du,QD (w.2.2.2.2.2.2.2.2.2.1[i])];cases t with
   |true=>
    rw[APm,ih (i+1) true _ (by omega) (by omega) (by grind),AOJ rfl,AOJ rfl,AQM];rfl
   |false=>
    rw[AOk,AOK (show¬(false=true)by simp)];simp only[af];by_cases hg:w.2.2.2.2.2.2.2.2.2.1[i].1>s.1
    ·rw[AOJ hg,AOJ hg,ih (i+1) true _ (by omega) (by omega) (by grind),AOJ rfl,AQM,AQM]
     rfl
    ·rw[AOK hg,AOK hg,ih (i+1) false _ (by omega) (by omega) (by grind),AOK (show¬(false=true)by simp),AQM]
     rfl
  ·rw[AOK (by omega),APk (by omega)]
   cases t with
   |true=>rw[APm,AOJ rfl,AQO];rfl
   |false=>rw[AOk,AOJ c2];rfl
theorem AX8{ws:List AR}{s:Af}:∀(n i:Nat),i<=w.2.2.2.2.2.2.2.2.2.1.length->(w.2.2.2.2.2.2.2.2.2.1.length-i)+w.2.2.2.2.2.2.2.2.2.1.length+2<=n->
  MI n i w.1 w.2.2.1 w.2.2.2.1 w.2.2.2.2.1 ws w.2.2.2.2.2.2.2.1 w.2.2.2.2.2.2.2.2.1 w.2.2.2.2.2.2.2.2.2.1 w.2.1 w.2.2.2.2.2.1 w.2.2.2.2.2.2.2.2.2.2.1 0 0 false [] [] [] [] [] [] [] [] s.1 s.2.1 s.2.2.1=some (AE7 (if(w.2.2.2.2.2.2.2.2.2.1.drop i).any (fun x=>x.1==s.1)then(w.Bl ws,4)else(((w.Bl ws).Ax (af s w.2.2.2.2.2.2.2.2.2.1)),0))):=by
 have k6:=h.nums.se;intro n
 induction n with
 |zero=>omega
 |succ n ih=>
  intro i hi hn;simp only[MI,Zj,AB,Dh];by_cases Du:i<w.2.2.2.2.2.2.2.2.2.1.length
  ·have c1:(0:Int)<=(i:Int)/\(i:Int)<(w.2.2.2.2.2.2.2.2.2.1.length:Int):=by omega
   rw[AOJ c1.2,AOJ c1,Al Du,AH (by omega) (by omega),show((i:Int)+1)=((i+1:Nat):Int)by omega,drop_cons Du,ih (i+1) (by omega) (by omega),List.any_cons];by_cases he:w.2.2.2.2.2.2.2.2.2.1[i].1=s.1
   ·rw[AOJ he,show(w.2.2.2.2.2.2.2.2.2.1[i].1==s.1)=true by simp_all,AZx,AOJ rfl]
    rfl
   ·rw[AOK he,show(w.2.2.2.2.2.2.2.2.2.1[i].1==s.1)=false by simp_all,AVP]
  ·have:=AT0 h (ws:=ws) (s:=s) n 0 false [] (by omega) (by omega) (by simp)
   grind
theorem rU{d:Ao}(hd:d.2.2.2.2.1.length<=40):∃w',ZV w.2.1 w.2.2.2.2.2.1 w.2.2.2.2.2.2.2.2.2.2.1 d w.1 w.2.2.1 w.2.2.2.1 w.2.2.2.2.1 w.2.2.2.2.2.2.1 w.2.2.2.2.2.2.2.1 w.2.2.2.2.2.2.2.2.1 w.2.2.2.2.2.2.2.2.2.1=some (AE7 (w',(doAdd w d.2.1 d.2.2.2.2.1).2))/\((doAdd w d.2.1 d.2.2.2.2.1).2=0->w' =(doAdd w d.2.1 d.2.2.2.2.1).1):=by
 have k:=h.nums;have k1:=k.c;have k2:=k.wr;have k3:=k.lost;have k4:=k.st;have cw:=k.ja;have jz:=k.KY;have lu:=k.jw;have k5:=k.era;unfold ZV ZR doAdd;rw[Gk w,S4 (by omega)];simp only[AD,BB,Dh];rcases AOB (Bd d.2.1 0 ((w.AQ.length:Int)-1))with h1|h1
 rotate_left
 ·rw[h1];exact⟨w,rfl,fun _=>rfl⟩
 obtain⟨x1,x2,x3⟩:=h.fo h1;simp only[h1,APm,GK,AOJ x1]
 generalize hx:w.AQ.getD d.2.1.toNat B3=x at*
 rw[show(x.1,x.2.1,())=x from rfl,show(w.1,w.2.1,())=Ae w from rfl,ki (c:=Ae w) (w:=x) (by show w.1.length<=_;omega) (by omega) (by omega)];simp only[AD];rcases AOB (CD (Ae w) x d.2.2.2.2.1).2.2 with h2|h2
 rotate_left
 ·rw[h2];exact⟨w,rfl,fun _=>rfl⟩
 obtain⟨_,r1,r2,r3⟩:=cy h2;rw[r2]at r1;have hnn:=r1.n;simp only[ASB,ART,AS0]at hnn;have hxe:=x2.ep;rw[h2,APm,r3,r2];rw[GH (by omega) (by omega)];simp only[AD,AOx,AVP];by_cases h3:w.2.2.2.2.2.2.2.2.2.1.length=120
 ·rw[AOJ (by omega),show decide (w.Ai.length=120)=true from AVH h3,AZx,AOJ rfl];exact⟨w,rfl,fun hh=>by rfl⟩
 have:=AX8 h (ws:=w.AQ.set d.2.1.toNat (x.1,x.2.1++[(d.2.2.2.2.1,[],false,())],())) (s:=(HN x.1 ((x.2.1.length:Int)+1),d.2.2.2.2.1,false,())) AZ 0 (by omega) (AW6 (Ac (by have:=h.nums.se;omega)));grind
end
section
variable{w:AA} (h:KU w)
include h
theorem ARn{d:Ao}{a:Nat}(ha:d.2.1=(a:Int)):∀(n i:Nat) (b:List AR),i<=w.2.2.2.2.2.2.1.length->w.2.2.2.2.2.2.1.length-i<n->b.length<=i->
  Nc n i w.1 w.2.2.1 w.2.2.2.1 w.2.2.2.2.1 w.2.2.2.2.2.2.1 w.2.2.2.2.2.2.2.1 w.2.2.2.2.2.2.2.2.1 w.2.2.2.2.2.2.2.2.2.1 w.2.1 w.2.2.2.2.2.1 w.2.2.2.2.2.2.2.2.2.2.1 d.1 d.2.1 d.2.2.1 d.2.2.2.1 d.2.2.2.2.1 0 0 false [] [] [] [] [] [] [] [] b=some (AFz (w.Bl (b++(if i<=a then(w.2.2.2.2.2.2.1.drop i).eraseIdx (a-i)else w.2.2.2.2.2.2.1.drop i)),0)):=by
 have k6:=h.nums.wr;intro n
 induction n with
 |zero=>omega
 |succ n ih=>
  intro i b hi hn hb;simp only[Nc,YJ,AB,C6];by_cases Du:i<w.2.2.2.2.2.2.1.length
  ·have c1:(0:Int)<=(i:Int)/\(i:Int)<(w.2.2.2.2.2.2.1.length:Int):=by omega
   have c2:b.length+1<=C_:=by rw[Ap];omega
   rw[AOJ c1.2];simp only[AOJ c1,AOJ c2];rw[Al Du,AH (by omega) (by omega),show((i:Int)+1)=((i+1:Nat):Int)by omega,drop_cons Du,show(w.2.2.2.2.2.2.1[i].1,w.2.2.2.2.2.2.1[i].2.1,())=w.2.2.2.2.2.2.1[i]from rfl];by_cases he:(i:Int)=d.2.1
   ·rw[AOJ he,ih (i+1) b (by omega) (by omega) (by omega),AOK (by omega),AOJ (by omega),show a-i=0 by omega]
    rfl
   ·rw[AOK he,ih (i+1) _ (by omega) (by omega) (by simp_all),AQM]
    by_cases hl:i+1<=a
    ·rw[AOJ hl,AOJ (by omega),show a-i=(a-(i+1))+1 by omega,List.eraseIdx_cons_succ]
     rfl
    ·rw[AOK hl,AOK (by omega)]
     rfl
  ·rw[AOK (by omega),APk (by omega)]
   have:(if i<=a then([]:List AR).eraseIdx (a-i)else[])=[]:=by simp_all
   rw[this,AQO];rfl
theorem pV{d:Ao}:Xd w.2.1 w.2.2.2.2.2.1 w.2.2.2.2.2.2.2.2.2.2.1 d w.1 w.2.2.1 w.2.2.2.1 w.2.2.2.2.1 w.2.2.2.2.2.2.1 w.2.2.2.2.2.2.2.1 w.2.2.2.2.2.2.2.2.1 w.2.2.2.2.2.2.2.2.2.1=some (AFz (OQ w d.2.1)):=by
 have k:=h.nums;have k1:=k.c;have k2:=k.wr;have k3:=k.lost;have k4:=k.st;have cw:=k.ja;have jz:=k.KY;have lu:=k.jw;have k5:=k.era;unfold Xd ZB OQ;rw[Gk w,S4 (by omega)];simp only[AD,BB];rcases AOB (Bd d.2.1 0 ((w.AQ.length:Int)-1))with h1|h1
 rotate_left
 ·rw[h1];rfl
 have h1':=As.1 h1;have:=ARn h (d:=d) (a:=d.2.1.toNat) (by omega) AZ 0 [] (by omega) (Ac (by omega)) (by simp);simp_all
theorem AMt{d:Ao}{ss:List AO}{ls:AAB}{ws:List AR}(hls:ls.length<=2^20):∀(n i:Nat),i<=w.2.2.2.2.2.2.2.1.length->w.2.2.2.2.2.2.2.1.length-i<n->
  Jb n i w.1 ss w.2.2.2.1 w.2.2.2.2.1 ws ((w.2.2.2.2.2.2.2.1.map fun m=>(CO (Ae w) m d.2.1).1).take i++w.2.2.2.2.2.2.2.1.drop i) w.2.2.2.2.2.2.2.2.1 w.2.2.2.2.2.2.2.2.2.1 w.2.1 w.2.2.2.2.2.1 w.2.2.2.2.2.2.2.2.2.2.1 ls d.1 d.2.1 d.2.2.1 d.2.2.2.1 d.2.2.2.2.1 0 0 false [] [] [] [] [] [] [] []=some (vl (((((w.CV ss).Fb ls).Bl ws).Cy (w.2.2.2.2.2.2.2.1.map fun m=>(CO (Ae w) m d.2.1).1)).Fj (w.GP||holds (Ae w) ls),0)):=by
 have k:=h.nums;have k1:=k.c;have k6:=k.md;intro n
 induction n with
 |zero=>omega
 |succ n ih=>
  intro i hi hn;simp only[Jb,Wi,AB,BB];rw[QN hi];by_cases Du:i<w.2.2.2.2.2.2.2.1.length
  ·have c1:(0:Int)<=(i:Int)/\(i:Int)<(w.2.2.2.2.2.2.2.1.length:Int):=by omega
   have hm:=(h.An _ (AO7 Du)).1;have hmw:=hm.w;rw[AOJ c1.2];simp only[AOJ c1];rw[AO2,Ns Du,AH (by omega) (by omega),show((i:Int)+1)=((i+1:Nat):Int)by omega,T5 (w.2.2.2.2.2.2.2.1[i]),show(w.1,w.2.1,())=Ae w from rfl,jZ (c:=Ae w) (by show w.1.length<=_;omega) (by omega) hm.zF];simp only[AD,iB];rw[show((CO (Ae w) w.2.2.2.2.2.2.2.1[i] d.2.1).1.1,(CO (Ae w) w.2.2.2.2.2.2.2.1[i] d.2.1).1.2.1,(CO (Ae w) w.2.2.2.2.2.2.2.1[i] d.2.1).1.2.2.1,(CO (Ae w) w.2.2.2.2.2.2.2.1[i] d.2.1).1.2.2.2.1,(CO (Ae w) w.2.2.2.2.2.2.2.1[i] d.2.1).1.2.2.2.2.1,(CO (Ae w) w.2.2.2.2.2.2.2.1[i] d.2.1).1.2.2.2.2.2.1,())=(CO (Ae w) w.2.2.2.2.2.2.2.1[i] d.2.1).1 from rfl,Q7 Du rfl];grind
  ·have:i=w.2.2.2.2.2.2.2.1.length:=by omega
   rw[AOK (by omega),this,AWl,AQO,AVU (by simp),show(w.1,w.2.1,())=Ae w from rfl,EC (by show w.1.length<=_;omega) (by omega)];simp only[AD];cases ht:w.2.2.2.2.2.2.2.2.2.2.1 with
   |true=>
    have ht':w.GP=true:=ht;rw[ht'];rfl
   |false=>
    have ht':w.GP=false:=ht;rw[ht'];rfl
theorem ASZ{d:Ao}{ss:List AO}{ls:AAB}(hls:ls.length<=2^20):∀(n i:Nat),i<=w.2.2.2.2.2.2.1.length->(w.2.2.2.2.2.2.1.length-i)+w.2.2.2.2.2.2.2.1.length+2<=n->
  Kf n i w.1 ss w.2.2.2.1 w.2.2.2.2.1 ((w.2.2.2.2.2.2.1.map fun x=>(CT (Ae w) x d.2.1).1).take i++w.2.2.2.2.2.2.1.drop i) w.2.2.2.2.2.2.2.1 w.2.2.2.2.2.2.2.2.1 w.2.2.2.2.2.2.2.2.2.1 w.2.1 w.2.2.2.2.2.1 w.2.2.2.2.2.2.2.2.2.2.1 ls d.1 d.2.1 d.2.2.1 d.2.2.2.1 d.2.2.2.2.1 0 0 false [] [] [] [] [] [] [] []=some (vl (((((w.CV ss).Fb ls).Bl (w.2.2.2.2.2.2.1.map fun x=>(CT (Ae w) x d.2.1).1)).Cy (w.2.2.2.2.2.2.2.1.map fun m=>(CO (Ae w) m d.2.1).1)).Fj (w.GP||holds (Ae w) ls),0)):=by
 have k:=h.nums;have k1:=k.c;have k6:=k.wr;intro n
 induction n with
 |zero=>omega
 |succ n ih=>
  intro i hi hn;simp only[Kf,YS,AB,BB];rw[QN hi];by_cases Du:i<w.2.2.2.2.2.2.1.length
  ·have c1:(0:Int)<=(i:Int)/\(i:Int)<(w.2.2.2.2.2.2.1.length:Int):=by omega
   have hm:=(h.AQ _ (AO7 Du)).1;have hmw:=hm.w;rw[AOJ c1.2];simp only[AOJ c1];rw[AO2,Ns Du,AH (by omega) (by omega),show((i:Int)+1)=((i+1:Nat):Int)by omega,show(w.2.2.2.2.2.2.1[i].1,w.2.2.2.2.2.2.1[i].2.1,())=w.2.2.2.2.2.2.1[i]from rfl,show(w.1,w.2.1,())=Ae w from rfl,fV (c:=Ae w) (by show w.1.length<=_;omega) (by have:Aq w.2.2.2.2.2.2.1[i]=AS Az w.2.2.2.2.2.2.1[i].2.1:=rfl;omega)];simp only[AD,pkW];rw[show((CT (Ae w) w.2.2.2.2.2.2.1[i] d.2.1).1.1,(CT (Ae w) w.2.2.2.2.2.2.1[i] d.2.1).1.2.1,())=(CT (Ae w) w.2.2.2.2.2.2.1[i] d.2.1).1 from rfl,Q7 Du rfl];grind
  ·have:i=w.2.2.2.2.2.2.1.length:=by omega
   have k11:=AMt h (d:=d) (ss:=ss) (ws:=w.2.2.2.2.2.2.1.map fun x=>(CT (Ae w) x d.2.1).1) hls n 0 (by omega) (by omega);rw[show((0:Nat):Int)=0 from rfl,AUN,AZ_,AVJ]at k11;rw[AOK (by omega),this,AWl,AQO,AVU (by simp),k11]
theorem pQ{d:Ao}:XH w.2.1 w.2.2.2.2.2.1 w.2.2.2.2.2.2.2.2.2.2.1 d w.1 w.2.2.1 w.2.2.2.1 w.2.2.2.2.1 w.2.2.2.2.2.2.1 w.2.2.2.2.2.2.2.1 w.2.2.2.2.2.2.2.2.1 w.2.2.2.2.2.2.2.2.2.1=some (vl (NR w d.2.1)):=by
 have k:=h.nums;have k1:=k.c;have k2:=k.wr;have k3:=k.lost;have k4:=k.st;have cw:=k.ja;have jz:=k.KY;have lu:=k.jw;have k5:=k.era;have k6:=k.md;unfold XH YT NR;rw[Gk w,Iw (by omega) (by omega)];simp only[AD,C6];by_cases h3:Ay w d.2.1=0
 rotate_left
 ·rw[AOK h3,AOJ h3];rfl
 obtain⟨hr,s1,s2,s3⟩:=h.MS h3;rw[AOJ h3,AOK (show¬(Ay w d.2.1≠0)from fun hh=>hh h3),AOJ hr,Lf (by omega)];simp only[AD];have hp:=Tj (n:=d.2.1) (l:=w.2.2.2.1);have:=ASZ h (d:=d) (ss:=w.2.2.1.set d.2.1.toNat ([],[],0,())) (ls:=OH d.2.1 w.2.2.2.1) (by omega) AZ 0 (by omega) (AW6 (Ac (by omega)));simp_all
end
theorem eqE{x e:AJ}:(x.1==e.1&&(x.2.1==e.2.1&&(x.2.2.1==e.2.2.1&&(x.2.2.2.1==e.2.2.2.1&&true))))=decide (x=e):=by
 grind
theorem dx{m:Av}{o:Int}{l:List AAB}(hl:l.length=m.2.2.2.2.2.1.length):Ec (m.1,m.2.1,m.2.2.1,m.2.2.2.1,m.2.2.2.2.1,l,()) o=Ec m o:=by
 grind[Ec]
section
variable{w:AA} (h:KU w) {st:AO} (hs:dO st) {n:Int} (hn:0<=n/\n<(Ae w).1.length) {SS:List AO}
include h hs hn
theorem AIu{ws:List AR}{se:List Af}{ms:List Av}{j B:Nat}{m:Av}{R:Option B_}(hj:j<ms.length)(zA:ms.length<=2^20)(hlen:(ms.getD j Ei).2.2.2.2.2.1.length=m.2.2.2.2.2.1.length)(hm:lx (Ae w) m)
  (hc:(BK w.Am m.2.1).contains n=true)
  (cont:∀f,B<=f->Bq f n ((j+1:Nat):Int) w.1 SS w.2.2.2.1 w.2.2.2.2.1 ws (ms.set j (m.1,m.2.1,m.2.2.1,m.2.2.2.1,m.2.2.2.2.1,Fu m st n 1 m.2.2.2.2.2.1,())) w.2.2.2.2.2.2.2.2.1 se w.2.1 w.2.2.2.2.2.1 w.2.2.2.2.2.2.2.2.2.2.1 0 0 false [] [] [] [] [] [] [] [] st.1 st.2.1 st.2.2.1=R):
  ∀(rest dn:List AAB) (f:Nat),dn.length+rest.length=m.2.2.2.2.2.1.length->(∀l∈dn++rest,BH (Ae w) l=true)->rest.length+B+1<=f->
   dn++Fu m st n ((dn.length:Int)+1) rest=Fu m st n 1 m.2.2.2.2.2.1->
   Bi f n (j:Int) ((dn.length:Int)+1) w.1 SS w.2.2.2.1 w.2.2.2.2.1 ws ms w.2.2.2.2.2.2.2.2.1 se w.2.1 w.2.2.2.2.2.1 w.2.2.2.2.2.2.2.2.2.2.1 0 0 false [] [] [] [] [] [] [] [] st.1 st.2.1 st.2.2.1 m.1 m.2.1 m.2.2.1 m.2.2.2.1 m.2.2.2.2.1 (dn++rest)=R:=by
 have k:=h.nums;have k1:=k.c;have k5:=k.era;have c1:(0:Int)<=(j:Int)/\(j:Int)<(ms.length:Int):=by omega
 have Vb:(BK w.Am m.2.1).length<=8:=Er h;have y8:m.2.2.2.2.2.1.length<=60:=by
  have:=hm.n;have hb:=Gw (l:=m.2.2.2.1);omega
 intro rest
 induction rest with
 |nil=>
  intro dn f hl ho hf he;obtain⟨f,rfl⟩:∃f',f=f'+1:=⟨f-1,by omega⟩;simp only[AS0,AW4,AVt,Fu,AQO]at hl hf he;simp only[Bi,I8,AB,AQO];simp only[AOJ c1];rw[show ms.getD ((j:Int)).toNat (0,0,[],[],false,[],())=ms.getD j Ei from rfl,hlen,AOK (by omega),AH (by omega) (by omega),show((j:Int)+1)=((j+1:Nat):Int)by omega,he,AO2];simp_all
 |cons x rest ih=>
  intro dn f hl ho hf he;obtain⟨f,rfl⟩:∃f',f=f'+1:=⟨f-1,by omega⟩;simp only[ART]at hl hf;simp only[Bi,I8,AB];simp only[AOJ c1];have bC:lx (Ae w) (m.1,m.2.1,m.2.2.1,m.2.2.2.1,m.2.2.2.2.1,dn++x::rest,()):=⟨hm.cfg,hm.ep,hm.b,hm.zx,hm.tf,hm.seen,ho,by
   have:=hm.n;simp_all⟩
  have hmw:=bC.w;rw[show ms.getD ((j:Int)).toNat (0,0,[],[],false,[],())=ms.getD j Ei from rfl,hlen,AOJ (by omega),show(w.2.2.2.2.1,w.2.2.2.2.2.1,())=CQ w from rfl,D4 (r:=CQ w) (by show AS Bk w.2.2.2.2.1<=_;omega)];rw[show(CQ w).1=w.Am from rfl];simp only[AD];rw[LV (by omega),hc];simp only[AD,APm];have zQ:(dn++x::rest).length=m.2.2.2.2.2.1.length:=by simp_all
  rw[Zx (m:=(m.1,m.2.1,m.2.2.1,m.2.2.2.1,m.2.2.2.2.1,dn++x::rest,())) (by omega),dx zQ];simp only[AD];have Abv:m.2.2.2.2.1=true:=by
   have:=hm.n;grind
  have AX6:∃e,Ec m ((dn.length:Int)+1)=some e:=by
   unfold Ec;rw[Abv,AOJ (by
    simp only[APr,AOw,As,APo];have:=hm.ep;omega)]
   split<;>exact⟨_,rfl⟩
  obtain⟨e,hee⟩:=AX6;have sk:=hs.w;rw[hee];simp only[AVc];rw[VA (GL (by omega)).1];simp only[AD,eqE,AB];rw[AH (by omega) (by omega)];simp only[Fu]at he;have hmd:VO m st ((dn.length:Int)+1)=(OO e.1 st.1==some e):=by
   unfold VO;rw[hee]
  cases hg:OO e.1 st.1 with
  |none=>
   simp only[AVb,AOk];rw[hmd,hg]at he;have:=ih (dn++[x]) f (by grind) (by simp_all) (by omega) (by
    simp_all)
   simp_all
  |some y=>
   simp only[AVT,APm,AVc];by_cases hye:y=e
   ·rw[AOJ hye]
    rw[hmd,hg,hye]at he;rw[show(w.1,w.2.1,())=Ae w from rfl,dz (c:=Ae w) (m:=(m.1,m.2.1,m.2.2.1,m.2.2.2.1,m.2.2.2.2.1,dn++x::rest,())) (by show w.1.length<=_;omega) (by omega) bC.zF];have AFx:TG (Ae w) (m.1,m.2.1,m.2.2.1,m.2.2.2.1,m.2.2.2.2.1,dn++x::rest,()) ((dn.length:Int)+1) n=((m.1,m.2.1,m.2.2.1,m.2.2.2.1,m.2.2.2.2.1,dn++OH n x::rest,()),true):=by
     unfold TG;rw[G8.2 bC];have hq:(Bd ((dn.length:Int)+1) 1 ((dn++x::rest).length:Int)&&Bd n 0 (((Ae w).1.length:Int)-1))=true:=by
      rw[AOw,As,As];omega
     grind
    rw[AFx];simp only[AD,iB];have hx:=ho x (by simp);have:=ih (dn++[OH n x]) f (by grind) (by
     intro l mT;simp only[AQM,AV2,ARh,ASY]at mT;rcases mT with mT|rfl|mT
     all_goals grind[LF]) (by omega) (by
     simp_all)
    simp_all
   ·rw[AOK hye]
    have hf2:(some y==some e)=false:=by
     simp_all
    rw[hmd,hg,hf2]at he;have:=ih (dn++[x]) f (by grind) (by simp_all) (by omega) (by
     simp_all)
    simp_all
theorem AJN{ws:List AR}{se:List Af}:∀(k i:Nat),w.2.2.2.2.2.2.2.1.length-i=k->i<=w.2.2.2.2.2.2.2.1.length-> ∀f,k*100+1<=f->
  Bq f n (i:Int) w.1 SS w.2.2.2.1 w.2.2.2.2.1 ws ((w.2.2.2.2.2.2.2.1.map (Mt st w.Am n)).take i++w.2.2.2.2.2.2.2.1.drop i) w.2.2.2.2.2.2.2.2.1 se w.2.1 w.2.2.2.2.2.1 w.2.2.2.2.2.2.2.2.2.2.1 0 0 false [] [] [] [] [] [] [] [] st.1 st.2.1 st.2.2.1=(some ((((),w.2.1,(),(),(),w.2.2.2.2.2.1,(),(),(),(),w.2.2.2.2.2.2.2.2.2.2.1,()),()),(w.1,SS,w.2.2.2.1,w.2.2.2.2.1,ws,(w.2.2.2.2.2.2.2.1.map (Mt st w.Am n)),w.2.2.2.2.2.2.2.2.1,se,())):Option B_):=by
 have k:=h.nums;have k5:=k.era;have k6:=k.md;intro k
 induction k with
 |zero=>
  intro i hk hi f hf;obtain⟨f,rfl⟩:∃f',f=f'+1:=⟨f-1,by omega⟩;have:i=w.2.2.2.2.2.2.2.1.length:=by omega
  simp only[Bq,Lu,AB];grind
 |succ k ih=>
  intro i hk hi f hf;obtain⟨f,rfl⟩:∃f',f=f'+1:=⟨f-1,by omega⟩;have Du:i<w.2.2.2.2.2.2.2.1.length:=by omega
  have c1:(0:Int)<=(i:Int)/\(i:Int)<(w.2.2.2.2.2.2.2.1.length:Int):=by omega
  simp only[Bq,Lu,AB];rw[QN hi,AOJ c1.2,AOJ c1,AO2,Ns Du];have hm:=(h.An _ (AO7 Du)).1;have y8:w.2.2.2.2.2.2.2.1[i].2.2.2.2.2.1.length<=60:=by
   have:=hm.n;have hb:=Gw (l:=w.2.2.2.2.2.2.2.1[i].2.2.2.1);omega
  rcases AOB ((BK w.Am w.2.2.2.2.2.2.2.1[i].2.1).contains n)with hc|hc
  ·have hT:Mt st w.Am n w.2.2.2.2.2.2.2.1[i]=(w.2.2.2.2.2.2.2.1[i].1,w.2.2.2.2.2.2.2.1[i].2.1,w.2.2.2.2.2.2.2.1[i].2.2.1,w.2.2.2.2.2.2.2.1[i].2.2.2.1,w.2.2.2.2.2.2.2.1[i].2.2.2.2.1,Fu w.2.2.2.2.2.2.2.1[i] st n 1 w.2.2.2.2.2.2.2.1[i].2.2.2.2.2.1,()):=by
    unfold Mt;simp_all
   have:=AIu h hs hn (SS:=SS) (ws:=ws) (se:=se) (ms:=(w.2.2.2.2.2.2.2.1.map (Mt st w.Am n)).take i++w.2.2.2.2.2.2.2.1.drop i) (j:=i) (B:=k*100+1) (m:=w.2.2.2.2.2.2.2.1[i]) (R:=(some ((((),w.2.1,(),(),(),w.2.2.2.2.2.1,(),(),(),(),w.2.2.2.2.2.2.2.2.2.2.1,()),()),(w.1,SS,w.2.2.2.1,w.2.2.2.2.1,ws,(w.2.2.2.2.2.2.2.1.map (Mt st w.Am n)),w.2.2.2.2.2.2.2.2.1,se,())):Option B_)) (by simp_all) (by grind) (by simp_all) hm hc (fun f hf=>by
    grind[Q7]) w.2.2.2.2.2.2.2.1[i].2.2.2.2.2.1 [] f (by simp) (by simpa using hm.wrote) (by omega) (by simp)
   simp_all
  ·have hT:Mt st w.Am n w.2.2.2.2.2.2.2.1[i]=w.2.2.2.2.2.2.2.1[i]:=by
    unfold Mt;simp_all
   obtain⟨f,rfl⟩:∃f',f=f'+1:=⟨f-1,by omega⟩;simp only[Bi,I8,AB];have Vb:(BK w.Am w.2.2.2.2.2.2.2.1[i].2.1).length<=8:=Er h;rw[QN hi];simp only[AOJ c1];rw[AO2,Ns Du,show(w.2.2.2.2.1,w.2.2.2.2.2.1,())=CQ w from rfl,D4 (r:=CQ w) (by show AS Bk w.2.2.2.2.1<=_;omega)];rw[show(CQ w).1=w.Am from rfl];simp only[AD];rw[LV (by omega),hc,Q7 Du (show(w.2.2.2.2.2.2.2.1[i].1,w.2.2.2.2.2.2.2.1[i].2.1,w.2.2.2.2.2.2.2.1[i].2.2.1,w.2.2.2.2.2.2.2.1[i].2.2.2.1,w.2.2.2.2.2.2.2.1[i].2.2.2.2.1,w.2.2.2.2.2.2.2.1[i].2.2.2.2.2.1,())=Mt st w.Am n w.2.2.2.2.2.2.2.1[i]from hT.symm),AH (x:=(i:Int)+1) (by omega) (by omega),show((i:Int)+1)=((i+1:Nat):Int)by omega,ih (i+1) (by omega) (by omega) f (by omega)];simp_all
end
theorem mD{x y:BD}(hx:x.2.2.1=false):∀{dn rest:List BD},SZ (dn++y::rest)<=SZ (dn++x::rest)
 |[],rest=>by
  grind[SZ]
 |a::dn,rest=>by
  have:=mD (y:=y) hx (dn:=dn) (rest:=rest);grind[SZ]
section
variable{w:AA} (h:KU w) {st:AO} (hs:dO st) {n:Int} (hn:0<=n/\n<(Ae w).1.length) {SS:List AO}
include h hs hn
theorem ALi{ws:List AR}{se:List Af}{j B:Nat}{ep x y:Int}{z:Bool}{old new:List BD}{R:Option B_}(hj:j<2^20)(cU:se.length<=120)(hsp:∀s∈se,Bp s.1=true)(w6:new.length<=60)(hep:1<=ep/\ep<=30)
  (cont:∀f,B<=f->Bn f n ((j+1:Nat):Int) w.1 SS w.2.2.2.1 w.2.2.2.2.1 ws w.2.2.2.2.2.2.2.1 w.2.2.2.2.2.2.2.2.1 (se.map (QZ true ep old new)) w.2.1 w.2.2.2.2.2.1 w.2.2.2.2.2.2.2.2.2.2.1 0 0 false [] [] [] [] [] [] [] [] st.1 st.2.1 st.2.2.1=R):
  ∀(k i:Nat),se.length-i=k->i<=se.length-> ∀f,k+B+1<=f->
   BO f n (j:Int) (i:Int) x y z w.1 SS w.2.2.2.1 w.2.2.2.2.1 ws w.2.2.2.2.2.2.2.1 w.2.2.2.2.2.2.2.2.1 ((se.map (QZ true ep old new)).take i++se.drop i) w.2.1 w.2.2.2.2.2.1 w.2.2.2.2.2.2.2.2.2.2.1 0 0 false [] [] [] [] [] [] [] [] st.1 st.2.1 st.2.2.1 ep new=R:=by
 intro k
 induction k with
 |zero=>
  intro i hk hi f hf;obtain⟨f,rfl⟩:∃f',f=f'+1:=⟨f-1,by omega⟩;have:i=se.length:=by omega
  simp only[BO,L7,AB];rw[QN hi,AOK (by omega),this,AWl,AQO,AVU (by simp),AH (by omega) (by omega),show((j:Int)+1)=((j+1:Nat):Int)by omega];simp_all
 |succ k ih=>
  intro i hk hi f hf;obtain⟨f,rfl⟩:∃f',f=f'+1:=⟨f-1,by omega⟩;have Du:i<se.length:=by omega
  have c1:(0:Int)<=(i:Int)/\(i:Int)<(se.length:Int):=by omega
  have hp:=hsp _ (AO7 Du);have hpf:=HX hp;have ih':=ih (i+1) (by omega) (by omega) f (by omega);simp only[BO,L7,AB,Dh];rw[QN hi,AOJ c1.2];simp only[AOJ c1];rw[AO2,Ns Du,EW (HG hp),av (HG hp),AH (x:=(i:Int)+1) (by omega) (by omega),show((i:Int)+1)=((i+1:Nat):Int)by omega];simp only[AD];have skip:QZ true ep old new se[i]=se[i]->BO f n (j:Int) ((i+1:Nat):Int) x y z w.1 SS w.2.2.2.1 w.2.2.2.2.1 ws w.2.2.2.2.2.2.2.1 w.2.2.2.2.2.2.2.2.1 ((se.map (QZ true ep old new)).take i++se.drop i) w.2.1 w.2.2.2.2.2.1 w.2.2.2.2.2.2.2.2.2.2.1 0 0 false [] [] [] [] [] [] [] [] st.1 st.2.1 st.2.2.1 ep new=R:=fun hm=>by
   grind[lY]
  by_cases he:Ar se[i].1=ep
  rotate_left
  ·rw[AOK he]
   grind[QZ,Ar,beq_eq_false_iff_ne]
  rw[AOJ he];by_cases ho:DX se[i].1<=(new.length:Int)
  rotate_left
  ·rw[AOK ho]
   refine skip ?_
   unfold QZ ae;rw[show Bd (DX se[i].1) 1 (new.length:Int)=false by
    rw[AWt];grind[As]]
   simp
  rw[AOJ ho,AH (x:=DX se[i].1-1) (by omega) (by omega),AOJ (by omega)];have hd:ae new (DX se[i].1)=(new.getD (DX se[i].1-1).toNat MB).2.2.1:=by
   unfold ae;rw[As.2 ⟨hpf.2.1.1,ho⟩,APr]
  have yc:(new.getD (DX se[i].1-1).toNat ([],[],false,())).2.2.1=ae new (DX se[i].1):=hd.symm;rw[yc];cases hdd:ae new (DX se[i].1)with
  |false=>
   rw[AOk];grind[QZ]
  |true=>
   rw[APm,Q7 Du (show(se[i].1,se[i].2.1,true,())=QZ true ep old new se[i]by
    grind[QZ])]
   omega
theorem APl{ws:List AR}{se:List Af}{j B:Nat}{ep x y:Int}{z:Bool}{l0:List BD}{R:Option B_}(hj:j<ws.length)(zA:ws.length<=2^20)
  (cont:∀f,B<=f->BO f n (j:Int) 0 x y z w.1 SS w.2.2.2.1 w.2.2.2.2.1 (ws.set j (ep,Bu (Ae w) st ep n 1 l0,())) w.2.2.2.2.2.2.2.1 w.2.2.2.2.2.2.2.2.1 se w.2.1 w.2.2.2.2.2.1 w.2.2.2.2.2.2.2.2.2.2.1 0 0 false [] [] [] [] [] [] [] [] st.1 st.2.1 st.2.2.1 ep (Bu (Ae w) st ep n 1 l0)=R):
  ∀(rest dn:List BD) (f:Nat),cX (Ae w) (ep,dn++rest,())->rest.length+B+1<=f->
   dn++Bu (Ae w) st ep n ((dn.length:Int)+1) rest=Bu (Ae w) st ep n 1 l0->
   BM f n (j:Int) ((dn.length:Int)+1) x y z w.1 SS w.2.2.2.1 w.2.2.2.2.1 ws w.2.2.2.2.2.2.2.1 w.2.2.2.2.2.2.2.2.1 se w.2.1 w.2.2.2.2.2.1 w.2.2.2.2.2.2.2.2.2.2.1 0 0 false [] [] [] [] [] [] [] [] st.1 st.2.1 st.2.2.1 ep (dn++rest)=R:=by
 have k1:=h.nums.c;have sk:=hs.w;intro rest
 induction rest with
 |nil=>
  intro dn f hw hf he;obtain⟨f,rfl⟩:∃f',f=f'+1:=⟨f-1,by omega⟩;simp only[AS0,AVt,Bu,AQO]at hf he;simp only[BM,NO,AB,AQO];grind
 |cons a rest ih=>
  intro dn f hw hf he;obtain⟨f,rfl⟩:∃f',f=f'+1:=⟨f-1,by omega⟩;simp only[ART]at hf;have hwe:1<=ep/\ep<=30:=hw.ep;have hwn:(dn++a::rest).length<=60:=hw.n;have hww:=hw.w;have hwl:=hwn;simp only[ASB,ART]at hwl;simp only[BM,NO,AB,BB,C6];rw[AOJ (by grind),GH (by omega) (by omega)];simp only[AD];rw[VA (GL (by omega)).1];simp only[AD];rw[AH (x:=(dn.length:Int)+1+1) (by omega) (by omega),AH (x:=(dn.length:Int)+1-1) (by omega) (by omega),AOJ (show(0:Int)<=(dn.length:Int)+1-1/\(dn.length:Int)+1-1<((dn++a::rest).length:Int)by grind)];have e1:((dn.length:Int)+1-1).toNat=dn.length:=by omega
  have e2:(dn++a::rest).getD dn.length ([],[],false,())=a:=by simp[List.getD]
  rw[e1,e2];simp only[Bu]at he;have go:∀b:BD,cX (Ae w) (ep,dn++b::rest,())->(if(!a.2.2.1&&OD st (HN ep ((dn.length:Int)+1)))=true then Gj (Ae w) n a else a)=b->
    BM f n (j:Int) ((dn.length:Int)+1+1) x y z w.1 SS w.2.2.2.1 w.2.2.2.2.1 ws w.2.2.2.2.2.2.2.1 w.2.2.2.2.2.2.2.2.1 se w.2.1 w.2.2.2.2.2.1 w.2.2.2.2.2.2.2.2.2.2.1 0 0 false [] [] [] [] [] [] [] [] st.1 st.2.1 st.2.2.1 ep (dn++b::rest)=R:=fun b hb s6=>by
   rw[s6]at he;have:=ih (dn++[b]) f (by simp_all) (by omega) (by
    simp_all)
   simp_all
  cases hg:OO (HN ep ((dn.length:Int)+1)) st.1 with
  |none=>
   simp only[AVb,AOk];grind[OD]
  |some e=>
   simp only[AVT,APm,AVc];by_cases he0:e.2.1=0
   rotate_left
   ·rw[AOK he0]
    grind[OD]
   rw[AOJ he0];cases had:a.2.2.1 with
   |true=>
    grind
   |false=>
    rw[AOk];have ha:=hw.words a (by simp);have hb:cX (Ae w) (ep,dn++Gj (Ae w) n a::rest,()):=⟨hw.cfg,hw.ep,by simp_all,fun b hb=>by
     simp only[ARh,ASY]at hb;rcases hb with hb|rfl|hb
     ·exact hw.words b (by simp[hb])
     ·exact⟨ha.1,LF ha.2.1 hn,rfl⟩
     ·exact hw.words b (by simp[hb]),AVG (mD had) hw.opn⟩
    rw[show(w.1,w.2.1,())=Ae w from rfl,kR (c:=Ae w) (w:=(ep,dn++a::rest,())) (by show w.1.length<=_;omega) (by have:Aq (ep,dn++a::rest,())=AS Az (dn++a::rest):=rfl;grind)];have AFx:SK (Ae w) (ep,dn++a::rest,()) ((dn.length:Int)+1) n=((ep,dn++Gj (Ae w) n a::rest,()),true):=by
     unfold SK;rw[JC.2 hw];simp only[AOx,AO5,ATF];rw[e1,show(dn++a::rest).getD dn.length MB=a from e2,had];rw[AOJ (by
      rw[AOw,AOw,As,As];grind)]
     simp_all
    grind[AD,pkW,OD]
theorem AQB:∀(rest pre:List AR) (se:List Af) (f:Nat),(pre++rest).length<=4->(∀x∈rest,cX (Ae w) x)->se.length<=120->(∀s∈se,Bp s.1=true)->rest.length*300+w.2.2.2.2.2.2.2.1.length*100+2<=f->
  Bn f n (pre.length:Int) w.1 SS w.2.2.2.1 w.2.2.2.2.1 (pre++rest) w.2.2.2.2.2.2.2.1 w.2.2.2.2.2.2.2.2.1 se w.2.1 w.2.2.2.2.2.1 w.2.2.2.2.2.2.2.2.2.2.1 0 0 false [] [] [] [] [] [] [] [] st.1 st.2.1 st.2.2.1=(some ((((),w.2.1,(),(),(),w.2.2.2.2.2.1,(),(),(),(),w.2.2.2.2.2.2.2.2.2.2.1,()),()),(w.1,SS,w.2.2.2.1,w.2.2.2.2.1,(pre++(EV true (Ae w) st w.Am n rest se).1),(w.2.2.2.2.2.2.2.1.map (Mt st w.Am n)),w.2.2.2.2.2.2.2.2.1,(EV true (Ae w) st w.Am n rest se).2,())):Option B_):=by
 have k5:=h.nums.era;intro rest
 induction rest with
 |nil=>
  intro pre se f hl hw cU hsp hf;obtain⟨f,rfl⟩:∃f',f=f'+1:=⟨f-1,by omega⟩;simp only[Bn,M4,AB];have:=AJN h hs hn (SS:=SS) (ws:=pre) (se:=se) w.2.2.2.2.2.2.2.1.length 0 (by omega) (by omega) f (by omega);rw[show((0:Nat):Int)=0 from rfl,AUN,AZ_,AVJ]at this;rw[AQO,AOK (by omega),this];simp only[EV,AQO]
 |cons a rest ih=>
  intro pre se f hl hw cU hsp hf;simp only[ASB,ART]at hl hf;obtain⟨f,rfl⟩:∃f',f=f'+1:=⟨f-1,by omega⟩;simp only[Bn,M4,AB,BB];have zH:(pre++a::rest).length=pre.length+(rest.length+1):=by simp
  have c1:(0:Int)<=(pre.length:Int)/\(pre.length:Int)<((pre++a::rest).length:Int):=by omega
  have e2:(pre++a::rest).getD pre.length (0,[],())=a:=by simp[List.getD]
  have Vb:(BK w.Am a.1).length<=8:=Er h;rw[AOJ c1.2,AOJ c1,AO2,e2,show(w.2.2.2.2.1,w.2.2.2.2.2.1,())=CQ w from rfl,D4 (r:=CQ w) (by show AS Bk w.2.2.2.2.1<=_;omega)];rw[show(CQ w).1=w.Am from rfl];simp only[AD];rw[LV (by omega),AH (by omega) (by omega),show((pre.length:Int)+1)=((pre.length+1:Nat):Int)by omega];simp only[AD];have ha:=hw a (by simp);have hae:=ha.ep;have han:=ha.n;have next:∀(b:AR) (dH:List Af) (f:Nat),dH.length<=120->(∀s∈dH,Bp s.1=true)->rest.length*300+w.2.2.2.2.2.2.2.1.length*100+2<=f->
    Bn f n ((pre.length+1:Nat):Int) w.1 SS w.2.2.2.1 w.2.2.2.2.1 (pre++b::rest) w.2.2.2.2.2.2.2.1 w.2.2.2.2.2.2.2.2.1 dH w.2.1 w.2.2.2.2.2.1 w.2.2.2.2.2.2.2.2.2.2.1 0 0 false [] [] [] [] [] [] [] [] st.1 st.2.1 st.2.2.1=(some ((((),w.2.1,(),(),(),w.2.2.2.2.2.1,(),(),(),(),w.2.2.2.2.2.2.2.2.2.2.1,()),()),(w.1,SS,w.2.2.2.1,w.2.2.2.2.1,(pre++b::(EV true (Ae w) st w.Am n rest dH).1),(w.2.2.2.2.2.2.2.1.map (Mt st w.Am n)),w.2.2.2.2.2.2.2.2.1,(EV true (Ae w) st w.Am n rest dH).2,())):Option B_):=fun b dH f h1 h2 h3=>by
   have:=ih (pre++[b]) dH f (by simp only[ASB,ART,AS0];omega) (fun x hx=>hw x (by simp[hx])) h1 h2 h3;simp only[ASB,ART,AS0,AQM,AV2]at this;exact this
  simp only[EV];rcases AOB (aa st w.Am n a)with ht|ht
  rotate_left
  ·rw[ht]
   simp only[AO5,ATF];unfold aa at ht;rcases AOB ((BK w.Am a.1).contains n)with hc|hc
   ·rw[hc,APr,AW8]at ht
    rw[hc,APm,AOJ (by omega)];exact next a se f cU hsp (by omega)
   ·rw[hc,AOk]
    exact next a se f cU hsp (by omega)
  ·rw[ht]
   simp only[AVR];unfold aa at ht;rw[AOw,APo]at ht;rw[ht.1,APm,AOK (by omega)];have htl:=(cV (s:=st) (ep:=a.1) hn (o:=1) ha.words).2.2;have hsm:∀s∈se.map (QZ true a.1 a.2.1 (Bu (Ae w) st a.1 n 1 a.2.1)),Bp s.1=true:=fun s hs' =>by
    obtain⟨s',h1,rfl⟩:=AVh.1 hs';exact hsp s' h1
   have:=APl h hs hn (SS:=SS) (ws:=pre++a::rest) (se:=se) (j:=pre.length) (B:=rest.length*300+w.2.2.2.2.2.2.2.1.length*100+2+130) (ep:=a.1) (x:=st.2.2.1) (y:=a.1) (z:=decide (st.2.2.1>=a.1)) (l0:=a.2.1) (R:=(some ((((),w.2.1,(),(),(),w.2.2.2.2.2.1,(),(),(),(),w.2.2.2.2.2.2.2.2.2.2.1,()),()),(w.1,SS,w.2.2.2.1,w.2.2.2.2.1,(pre++(a.1,Bu (Ae w) st a.1 n 1 a.2.1,())::(EV true (Ae w) st w.Am n rest (se.map (QZ true a.1 a.2.1 (Bu (Ae w) st a.1 n 1 a.2.1)))).1),(w.2.2.2.2.2.2.2.1.map (Mt st w.Am n)),w.2.2.2.2.2.2.2.2.1,(EV true (Ae w) st w.Am n rest (se.map (QZ true a.1 a.2.1 (Bu (Ae w) st a.1 n 1 a.2.1)))).2,())):Option B_)) (by omega) (by omega) (fun f hf=>by
    have:=ALi h hs hn (SS:=SS) (ws:=(pre++a::rest).set pre.length (a.1,Bu (Ae w) st a.1 n 1 a.2.1,())) (se:=se) (j:=pre.length) (B:=rest.length*300+w.2.2.2.2.2.2.2.1.length*100+2) (ep:=a.1) (x:=st.2.2.1) (y:=a.1) (z:=decide (st.2.2.1>=a.1)) (old:=a.2.1) (new:=Bu (Ae w) st a.1 n 1 a.2.1) (R:=(some ((((),w.2.1,(),(),(),w.2.2.2.2.2.1,(),(),(),(),w.2.2.2.2.2.2.2.2.2.2.1,()),()),(w.1,SS,w.2.2.2.1,w.2.2.2.2.1,(pre++(a.1,Bu (Ae w) st a.1 n 1 a.2.1,())::(EV true (Ae w) st w.Am n rest (se.map (QZ true a.1 a.2.1 (Bu (Ae w) st a.1 n 1 a.2.1)))).1),(w.2.2.2.2.2.2.2.1.map (Mt st w.Am n)),w.2.2.2.2.2.2.2.2.1,(EV true (Ae w) st w.Am n rest (se.map (QZ true a.1 a.2.1 (Bu (Ae w) st a.1 n 1 a.2.1)))).2,())):Option B_)) (by omega) cU hsp (by omega) hae (fun f hf=>by
     rw[AZw _ _ (by omega),Nat.sub_self,AY7];exact next _ _ f (by simpa using cU) hsm hf) se.length 0 (by omega) (by omega) f (by omega)
    rw[show((0:Nat):Int)=0 from rfl,AUN,AZ_,AVJ]at this;exact this) a.2.1 [] f (by simpa using ha) (by omega) (by simp)
   simp only[AS0,AVJ]at this;exact this
end
section
variable{w:AA} (h:KU w)
include h
theorem pI{d:Ao}:Xf w.2.1 w.2.2.2.2.2.1 w.2.2.2.2.2.2.2.2.2.2.1 d w.1 w.2.2.1 w.2.2.2.1 w.2.2.2.2.1 w.2.2.2.2.2.2.1 w.2.2.2.2.2.2.2.1 w.2.2.2.2.2.2.2.2.1 w.2.2.2.2.2.2.2.2.2.1=some (gT (Mr true w d.2.1)):=by
 have k:=h.nums;have k1:=k.c;have k2:=k.wr;have k3:=k.lost;have k4:=k.st;have cw:=k.ja;have jz:=k.KY;have lu:=k.jw;have k6:=k.md;unfold Xf Mr;rw[Gk w,Iw (by omega) (by omega)];simp only[AD,C6,BB];by_cases h3:Ay w d.2.1=0
 rotate_left
 ·rw[AOK h3,AOJ h3];rfl
 obtain⟨hr,s1,s2,s3⟩:=h.MS h3;have cU:w.2.2.1.getD d.2.1.toNat ([],[],0,())=storeAt w d.2.1:=rfl;rw[AOJ h3,AOK (show¬(Ay w d.2.1≠0)from fun hh=>hh h3)];simp only[AOJ hr,cU];rw[show((storeAt w d.2.1).1,(storeAt w d.2.1).2.1,(storeAt w d.2.1).2.2.1,())=storeAt w d.2.1 from rfl,Oj s1 s2];simp only[AD,jv];rcases AOB (CI (storeAt w d.2.1)).2 with h6|h6
 rotate_left
 ·rw[h6];rfl
 have hq:=(N2 h6).2.1;have hnn:=(h.node h3).1;rw[h6,APm,GK];have Ha:d.2.1.toNat<w.2.2.1.length:=by omega
 unfold XS Ri;rw[AVj,AOJ hr,Ny Ha];have:=AQB h (st:=(CI (storeAt w d.2.1)).1) hq hnn (SS:=w.2.2.1.set d.2.1.toNat (CI (storeAt w d.2.1)).1) w.2.2.2.2.2.2.1 [] w.2.2.2.2.2.2.2.2.2.1 AZ (by simp_all) (fun x hx=>(h.AQ x hx).1) k.se (fun s hs=>(h.Ai s hs).1) (AW6 (Ac (by omega)));simp only[AS0,AVJ]at this;rw[show((0:Nat):Int)=0 from rfl]at this;rw[show((CI (storeAt w d.2.1)).1.1,(CI (storeAt w d.2.1)).1.2.1,(CI (storeAt w d.2.1)).1.2.2.1,())=(CI (storeAt w d.2.1)).1 from rfl,this];rfl
end
section
variable{w:AA} (h:KU w)
include h
theorem s5{d:Ao}(h64:CB d.2.1)(hd:d.2.2.2.2.1.length<=40)(hk:1<=d.1/\d.1<=16):∃w',cN w.2.1 w.2.2.2.2.2.1 w.2.2.2.2.2.2.2.2.2.2.1 d w.1 w.2.2.1 w.2.2.2.1 w.2.2.2.2.1 w.2.2.2.2.2.2.1 w.2.2.2.2.2.2.2.1 w.2.2.2.2.2.2.2.2.1 w.2.2.2.2.2.2.2.2.2.1=some (ATW (w',(K9 true w d).2))/\((K9 true w d).2=0->w' =(K9 true w d).1):=by
 have k:=h.nums;have k1:=k.c;have k5:=k.era;unfold cN K9;rw[zy d];simp only[Dh];by_cases c1:d.1=1
 ·simp only[AOJ c1]
  rw[pf h];exact⟨_,rfl,fun _=>rfl⟩
 by_cases c2:d.1=2
 ·simp only[AOK (show¬d.1=1 by omega),AOJ c2]
  obtain⟨w',e1,e2⟩:=rU h (d:=d) hd;rw[e1];exact⟨w',rfl,e2⟩
 by_cases c3:d.1=3
 ·simp only[AOK (show¬d.1=1 by omega),AOK (show¬d.1=2 by omega),AOJ c3]
  rw[nq h];exact⟨_,rfl,fun _=>rfl⟩
 by_cases c4:d.1=4
 ·simp only[AOK (show¬d.1=1 by omega),AOK (show¬d.1=2 by omega),AOK (show¬d.1=3 by omega),AOJ c4]
  rw[pI h];exact⟨_,rfl,fun _=>rfl⟩
 by_cases c6:d.1=6
 ·simp only[AOK (show¬d.1=1 by omega),AOK (show¬d.1=2 by omega),AOK (show¬d.1=3 by omega),AOK (show¬d.1=4 by omega),AOK (show¬d.1=5 by omega),AOJ c6]
  rw[pQ h];exact⟨_,rfl,fun _=>rfl⟩
 by_cases c7:d.1=7
 ·simp only[AOK (show¬d.1=1 by omega),AOK (show¬d.1=2 by omega),AOK (show¬d.1=3 by omega),AOK (show¬d.1=4 by omega),AOK (show¬d.1=5 by omega),AOK (show¬d.1=6 by omega),AOJ c7]
  rw[pY h];exact⟨_,rfl,fun _=>rfl⟩
 by_cases c8:d.1=8
 ·simp only[AOK (show¬d.1=1 by omega),AOK (show¬d.1=2 by omega),AOK (show¬d.1=3 by omega),AOK (show¬d.1=4 by omega),AOK (show¬d.1=5 by omega),AOK (show¬d.1=6 by omega),AOK (show¬d.1=7 by omega),AOJ c8]
  rw[pc h];exact⟨_,rfl,fun _=>rfl⟩
 by_cases c9:d.1=9
 ·simp only[AOK (show¬d.1=1 by omega),AOK (show¬d.1=2 by omega),AOK (show¬d.1=3 by omega),AOK (show¬d.1=4 by omega),AOK (show¬d.1=5 by omega),AOK (show¬d.1=6 by omega),AOK (show¬d.1=7 by omega),AOK (show¬d.1=8 by omega),AOJ c9]
  rw[pn h];exact⟨_,rfl,fun _=>rfl⟩
 by_cases c10:d.1=10
 ·simp only[AOK (show¬d.1=1 by omega),AOK (show¬d.1=2 by omega),AOK (show¬d.1=3 by omega),AOK (show¬d.1=4 by omega),AOK (show¬d.1=5 by omega),AOK (show¬d.1=6 by omega),AOK (show¬d.1=7 by omega),AOK (show¬d.1=8 by omega),AOK (show¬d.1=9 by omega),AOJ c10]
  rw[pd h];exact⟨_,rfl,fun _=>rfl⟩
 by_cases c11:d.1=11
 ·simp only[AOK (show¬d.1=1 by omega),AOK (show¬d.1=2 by omega),AOK (show¬d.1=3 by omega),AOK (show¬d.1=4 by omega),AOK (show¬d.1=5 by omega),AOK (show¬d.1=6 by omega),AOK (show¬d.1=7 by omega),AOK (show¬d.1=8 by omega),AOK (show¬d.1=9 by omega),AOK (show¬d.1=10 by omega),AOJ c11]
  rw[sB h];exact⟨_,rfl,fun _=>rfl⟩
 by_cases c12:d.1=12
 ·simp only[AOK (show¬d.1=1 by omega),AOK (show¬d.1=2 by omega),AOK (show¬d.1=3 by omega),AOK (show¬d.1=4 by omega),AOK (show¬d.1=5 by omega),AOK (show¬d.1=6 by omega),AOK (show¬d.1=7 by omega),AOK (show¬d.1=8 by omega),AOK (show¬d.1=9 by omega),AOK (show¬d.1=10 by omega),AOK (show¬d.1=11 by omega),AOJ c12]
  rw[mz h];exact⟨_,rfl,fun _=>rfl⟩
 by_cases c13:d.1=13
 ·simp only[AOK (show¬d.1=1 by omega),AOK (show¬d.1=2 by omega),AOK (show¬d.1=3 by omega),AOK (show¬d.1=4 by omega),AOK (show¬d.1=5 by omega),AOK (show¬d.1=6 by omega),AOK (show¬d.1=7 by omega),AOK (show¬d.1=8 by omega),AOK (show¬d.1=9 by omega),AOK (show¬d.1=10 by omega),AOK (show¬d.1=11 by omega),AOK (show¬d.1=12 by omega),AOJ c13]
  rw[show(w.1,w.2.1,())=Ae w from rfl,show(w.2.2.2.2.1,w.2.2.2.2.2.1,())=CQ w from rfl,eK (c:=Ae w) (r:=CQ w) (by show w.1.length<=_;omega) (by show AS Bk w.2.2.2.2.1<=_;omega) k.trim h64];simp only[AD,pkR,BB,PB];rcases AOB (Oh (Ae w) (CQ w) d.2.1).2 with hq|hq
  ·rw[hq];exact⟨_,rfl,fun _=>rfl⟩
  ·rw[hq];exact⟨w,rfl,fun _=>rfl⟩
 by_cases c14:d.1=14
 ·simp only[AOK (show¬d.1=1 by omega),AOK (show¬d.1=2 by omega),AOK (show¬d.1=3 by omega),AOK (show¬d.1=4 by omega),AOK (show¬d.1=5 by omega),AOK (show¬d.1=6 by omega),AOK (show¬d.1=7 by omega),AOK (show¬d.1=8 by omega),AOK (show¬d.1=9 by omega),AOK (show¬d.1=10 by omega),AOK (show¬d.1=11 by omega),AOK (show¬d.1=12 by omega),AOK (show¬d.1=13 by omega),AOJ c14]
  rw[ov h];exact⟨_,rfl,fun _=>rfl⟩
 by_cases c15:d.1=15
 ·simp only[AOK (show¬d.1=1 by omega),AOK (show¬d.1=2 by omega),AOK (show¬d.1=3 by omega),AOK (show¬d.1=4 by omega),AOK (show¬d.1=5 by omega),AOK (show¬d.1=6 by omega),AOK (show¬d.1=7 by omega),AOK (show¬d.1=8 by omega),AOK (show¬d.1=9 by omega),AOK (show¬d.1=10 by omega),AOK (show¬d.1=11 by omega),AOK (show¬d.1=12 by omega),AOK (show¬d.1=13 by omega),AOK (show¬d.1=14 by omega),AOJ c15]
  rw[pV h];exact⟨_,rfl,fun _=>rfl⟩
 simp only[AOK c1,AOK c2,AOK c3,AOK c4,AOK c6,AOK c7,AOK c8,AOK c9,AOK c10,AOK c11,AOK c12,AOK c13,AOK c14,AOK c15];rw[mH h];by_cases c5:d.1=5
 ·rw[AOJ c5,AOK (by omega)]
  exact⟨_,rfl,fun _=>rfl⟩
 ·rw[AOK c5,AOJ (by omega)]
  exact⟨_,rfl,fun _=>rfl⟩
end
theorem gV{w:AA}{n:Int}{q:AO×Bool}(e:(putAt w n q).2≠0):(putAt w n q).1=w:=by
 unfold putAt at*;grind
theorem w5{all:Bool}{w:AA}{d:Ao}(e:(K9 all w d).2≠0):(K9 all w d).1=w:=by
 unfold K9 at*;by_cases c:d.1=1
 ·rw[AOJ c]at e|-
  clear c
  revert e
  unfold M9;grind
 rw[AOK c]at e|-;clear c;by_cases c:d.1=2
 ·rw[AOJ c]at e|-
  clear c
  revert e
  unfold doAdd;grind
 rw[AOK c]at e|-;clear c;by_cases c:d.1=3
 ·rw[AOJ c]at e|-
  clear c
  revert e
  unfold JL
  try dsimp only
  repeat' split
  all_goals first|(intro e;exact absurd rfl e)|(intro e;rfl)|grind[gV]
 rw[AOK c]at e|-;clear c;by_cases c:d.1=4
 ·rw[AOJ c]at e|-
  clear c
  revert e
  unfold Mr;grind
 rw[AOK c]at e|-;clear c;by_cases c:d.1=5
 ·rw[AOJ c]at e|-
  clear c
  revert e
  unfold JM
  try dsimp only
  repeat' split
  all_goals first|(intro e;exact absurd rfl e)|(intro e;rfl)|grind[gV]
 rw[AOK c]at e|-;clear c;by_cases c:d.1=6
 ·rw[AOJ c]at e|-
  clear c
  revert e
  unfold NR;grind
 rw[AOK c]at e|-;clear c;by_cases c:d.1=7
 ·rw[AOJ c]at e|-
  clear c
  revert e
  unfold NT;grind
 rw[AOK c]at e|-;clear c;by_cases c:d.1=8
 ·rw[AOJ c]at e|-
  clear c
  revert e
  unfold Jr;grind
 rw[AOK c]at e|-;clear c;by_cases c:d.1=9
 ·rw[AOJ c]at e|-
  clear c
  revert e
  unfold La;grind
 rw[AOK c]at e|-;clear c;by_cases c:d.1=10
 ·rw[AOJ c]at e|-
  clear c
  revert e
  unfold Jx;grind
 rw[AOK c]at e|-;clear c;by_cases c:d.1=11
 ·rw[AOJ c]at e|-
  clear c
  revert e
  unfold Q2
  try dsimp only
  repeat' split
  all_goals first|(intro e;exact absurd rfl e)|(intro e;rfl)|grind[gV]
 rw[AOK c]at e|-;clear c;by_cases c:d.1=12
 ·rw[AOJ c]at e|-
  clear c
  revert e
  unfold Im;grind
 rw[AOK c]at e|-;clear c;by_cases c:d.1=13
 ·rw[AOJ c]at e|-
  clear c
  revert e
  unfold PB;grind
 rw[AOK c]at e|-;clear c;by_cases c:d.1=14
 ·rw[AOJ c]at e|-
  clear c
  revert e
  unfold IY;grind
 rw[AOK c]at e|-;clear c;by_cases c:d.1=15
 ·rw[AOJ c]at e|-
  clear c
  revert e
  unfold OQ;grind
 rw[AOK c]at e|-;clear c;unfold JI at*;split at e
 ·simp_all
 ·rename_i h1;rw[AOK h1];exact gV e
theorem RN{w:AA}{d:Ao}(h:dX w)(h64:CB d.2.1):NP w d=some (gT (BJ true w d)):=by
 unfold NP BJ;rw[Gk w,zy d,WO h,sO,Q_ h];simp only[AD,BB,C6];rcases AOB (Cq w)with hw|hw
 rotate_left
 ·rw[hw];rfl
 rcases AOB (OP d)with hd|hd
 rotate_left
 ·rw[hw,hd];rfl
 have hk:1<=d.1/\d.1<=16:=by
  unfold OP at hd;exact As.1 (AOw _ _▸hd).1
 rw[hw,hd,APm,APm];obtain⟨w',e1,e2⟩:=s5 (Co.1 hw) h64 (iz hd) hk;rw[e1];simp only[AD,AOx,AZ2,AO5,ATF];by_cases hc:(K9 true w d).2=0
 ·rw[e2 hc]
  rw[AOJ (show(ATW ((K9 true w d).1,(K9 true w d).2)).1.1.2.1=0 from hc)];rfl
 ·rw[AOK (show¬(ATW (w',(K9 true w d).2)).1.1.2.1=0 from hc)]
  have:=w5 hc;rw[show K9 true w d=(w,(K9 true w d).2)by grind];rfl
section
variable{b:AAB} (hb:Bytes b) (hl:b.length<=2^30)
include hb hl
omit hb hl in
theorem sY{l:List BD}{e:BD}:AS Az (l++[e])=AS Az l+(1+Az e):=by
 induction l with
 |nil=>simp[AS]
 |cons x l ih=>simp only[AWJ,AS,ih];omega
end
section
variable{b:AAB} (hb:Bytes b)
include hb
end
section
variable{code:AAB} (hc:code.length<=2^30)
include hc
theorem uj{i h:Int}{l:List ACH}(hi:Cl code i)(hl:l≠[])(hn:l.length<=2^30):∃v i' h',HR l code i h=some ((v,()),((code,i',h',()),()))/\v∈l/\Cl code i':=by
 unfold HR;have hp:=AZ3.2 hl;obtain⟨v,i1,h1,e,v0,v1,_,MJ⟩:=FL hc (h:=h) (n:=l.length) hi (by omega);rw[e];simp only[AOv];have:=v1 (by omega);rw[AOJ ⟨v0,this⟩];obtain⟨k,rfl⟩:∃k:Nat,v=(k:Int):=⟨v.toNat,by omega⟩;exact⟨_,i1,h1,rfl,by rw[Al (by omega)];exact AO7 _,MJ⟩
theorem r7{i h:Int}(hi:Cl code i):∃v i' h',FV code i h=some ((v,()),((code,i',h',()),()))/\v<2^63/\ -2^63<=v/\Cl code i':=by
 unfold FV Ci;obtain⟨v1,i1,h1,e1,a1,b1,_,MJ⟩:=FL hc (h:=h) (n:=3) hi (by omega);rw[e1];simp only[AOv];obtain⟨v2,i2,h2,e2,a2,b2,_,Ig⟩:=FL hc (h:=h1) (n:=6) MJ (by omega);rw[e2];simp only[AOv];obtain⟨v3,i3,h3,e3,a3,b3,_,Lq⟩:=FL hc (h:=h2) (n:=15) Ig (by omega);rw[e3];simp only[AOv];have:=b1 (by omega);have:=b2 (by omega);cases v3==0 with
 |true=>
  simp only[APm];obtain⟨p,i4,h4,e4,hp,wk⟩:=LS hc (h:=h3) (l:=[0,(-1),4294967296,4294967297,9223372036854775807,(-9223372036854775808)]) Lq (by simp) (by simp);rw[e4];simp at hp;exact⟨p,i4,h4,rfl,by omega,by omega,wk⟩
 |false=>
  simp only[AOk];cases v3==1 with
  |true=>
   simp only[APm];obtain⟨p,i4,h4,e4,hp,wk⟩:=LS hc (h:=h3) (l:=[0,30,31]) Lq (by simp) (by simp);rw[e4];simp only[AOv];obtain⟨q,i5,h5,e5,hq,hi5⟩:=LS hc (h:=h4) (l:=[0,60,61]) wk (by simp) (by simp);rw[e5];simp only[AOv];simp at hp hq;rw[AH (x:=4294967296*p) (by omega) (by omega),AH (by omega) (by omega)];exact⟨_,i5,h5,rfl,by omega,by omega,hi5⟩
  |false=>
   simp only[AOk];rw[AH (x:=1+v1) (by omega) (by omega),AH (x:=1+v2) (by omega) (by omega),AH (x:=4294967296*_) (by omega) (by omega),AH (by omega) (by omega)];exact⟨_,i3,h3,rfl,by omega,by omega,Lq⟩
end
section
variable{b:AAB} (hb:Bytes b) (hl:b.length<=2^30)
include hb hl
end
theorem xn{o:Int}{l:List BD}{x:Int}{y:List BD}{z:Int}(hl:AS Az l<=2^30):∀(n i:Nat) (acc:List BD),i<=l.length->l.length-i<n->acc.length=i->
  KJ n i o l x y z acc=some (((z,(),()),()),(acc++l.drop i,()))
 |0,i,_,_,h,_=>by omega
 |n+1,i,acc,hi,h,ha=>by
  have zG:=AU (f:=Az) (l:=l);simp only[KJ,TP,AB];by_cases hc:i<l.length
  ·have hm:=AY (f:=Az) (AO7 hc)
   rw[AOJ (by omega),AOJ (by omega),Al hc,drop_cons hc];simp only[Az]at hm;rw[AOJ (by rw[Ap];omega),AOJ (by rw[Ap];omega),AH (by omega) (by omega),show((i:Int)+1)=((i+1:Nat):Int)by omega];rw[xn hl n (i+1) _ (by omega) (by omega) (by simp[ha])];simp only[AQM,AWJ,AVJ]
  ·rw[AOK (by omega)]
   have:i=l.length:=by omega
   subst this;simp
theorem uS{w:AR}(hl:AS Az w.2.1<=2^30):Eg w=some (((w.1,(),()),()),(w.2.1,())):=by
 have zG:=AU (f:=Az) (l:=w.2.1);unfold Eg Sp;have:=xn (o:=w.1) (l:=w.2.1) (x:=0) (y:=[]) (z:=w.1) hl AZ 0 [] (by omega) (Ac (by omega)) rfl;simpa using this
theorem AEw{l:AAB}{x:Int}(hl:l.length<=2^30):∃r,DA l x=some ((r,()),()):=by
 have key:∀(n i:Nat),i<=l.length->l.length-i<n-> ∃r,Lk n l x i=some ((r,()),()):=by
  intro n
  induction n with
  |zero=>intro i _ h;omega
  |succ n ih=>
   intro i hi h;simp only[Lk,Ul,AB];by_cases hc:i<l.length
   ·rw[AOJ (by omega),AOJ (by omega),AH (by omega) (by omega),show((i:Int)+1)=((i+1:Nat):Int)by omega]
    cases(l.getD ((i:Int).toNat) 0==x)with
    |true=>exact⟨true,rfl⟩
    |false=>exact ih (i+1) (by omega) (by omega)
   ·rw[AOK (by omega)]
    exact⟨false,rfl⟩
 unfold DA Ug;have:=key AZ 0 (by omega) (Ac (by omega));simpa using this
theorem pw{l:AAB}{x:Int}(hl:l.length<=2^30):∀(n i:Nat) (t:Bool) (b:AAB),i<=l.length->l.length-i<n->b.length<=i+cond t 1 0-> ∃l',H5 n l x t i b=some (((),()),(l',()))/\l'.length<=l.length+1
 |0,i,_,_,_,h,_=>by omega
 |n+1,i,t,b,hi,h,hbl=>by
  simp only[H5,QE,AB];have hb2:b.length<=i+1:=by cases t<;>simp at hbl<;>omega
  by_cases hc:i<l.length
  ·have hc2:(0:Int)<=(i:Int)/\(i:Int)<(l.length:Int):=by omega
   have ZQ:b.length+1<=C_:=by rw[Ap];omega
   rw[AOJ hc2.2,AH (by omega) (by omega),show((i:Int)+1)=((i+1:Nat):Int)by omega];simp only[AOJ hc2,AOJ ZQ];cases t with
   |true=>
    simp only[AOx,AOk];exact pw hl n (i+1) true _ (by omega) (by omega) (by simp at hbl|-;omega)
   |false=>
    simp only[AVN,APm];simp at hbl;by_cases hg:l.getD ((i:Int).toNat) 0>x
    ·rw[AOJ hg,AOJ (by rw[Ap];simp;omega)]
     exact pw hl n (i+1) true _ (by omega) (by omega) (by simp;omega)
    ·rw[AOK hg]
     exact pw hl n (i+1) false _ (by omega) (by omega) (by simp;omega)
  ·rw[AOK (by omega),AOJ (by rw[Ap];omega)]
   cases t with
   |true=>exact⟨b,rfl,by omega⟩
   |false=>exact⟨_,rfl,by simp at hbl|-;omega⟩
theorem AGx{l:AAB}{x:Int}(hl:l.length<=2^30):∃l',Iv l x=some (((),()),(l',()))/\l'.length<=l.length+1:=by
 unfold Iv Uj;obtain⟨r,h⟩:=AEw (x:=x) hl;rw[h];exact pw hl AZ 0 r [] (by omega) (Ac (by omega)) (by cases r<;>simp)
def WI(l:List BD):Prop:=l.length<=61/\ ∀e∈l,e.1.length<=41/\e.2.1.length<=9
theorem WI.w{l:List BD}(h:WI l):AS Az l<=4000:=by
 have key:∀l:List BD,(∀e∈l,e.1.length<=41/\e.2.1.length<=9)->AS Az l<=60*l.length:=by
  intro l
  induction l with
  |nil=>intro _;simp[AS]
  |cons e l ih=>
   intro hh;have:=hh e (by simp);have:=ih (fun e he=>hh e (by simp[he]));simp only[AS,Az,ART]at this|-;omega
 have:=key l h.2;have:=h.1;omega
theorem WI.of{c:CG}{w:AR}(h:EX c w=true):WI w.2.1:=by
 obtain⟨h1,h2,h3,h4⟩:=bE h;exact⟨by omega,fun e he=>by have:=kt (h4 e he);omega⟩
theorem wR{c:CG}{w:AR}{s:ACH}(hc:c.1.length<=2^40)(hw:WI w.2.1)(hs:s.length<=41):
  ∃w':AR,∃off ok,G3 c w s=some ((((w'.1,(),()),off,ok,()),()),(w'.2.1,()))/\WI w'.2.1:=by
 unfold G3;have hww:=hw.w;rw[show(c.1,c.2.1,())=c from rfl,show(w.1,w.2.1,())=w from rfl,Gg hc (by omega),uS (by omega)];simp only[AOv];cases EX c w with
 |false=>exact⟨(0,[],()),0,false,rfl,by simp[WI]⟩
 |true=>
  have h1:=hw.1;simp only[AOx,AOk];rw[AOJ (by rw[Ap];omega)];have AFu:AS Az (w.2.1++[(s,[],false,())])<=2^30:=by
   rw[sY];simp only[Az,AS0];omega
  rw[Gg (w:=(w.1,w.2.1++[(s,[],false,())],())) hc AFu];simp only[AOv];rcases AOB (EX c (w.1,w.2.1++[(s,[],false,())],()))with hf|hf
  ·rw[hf]
   exact⟨(w.1,w.2.1++[(s,[],false,())],()),_,true,rfl,WI.of hf⟩
  ·rw[hf]
   exact⟨w,0,false,rfl,hw⟩
theorem vd{c:CG}{w:AR}{p q:Int}(hc:c.1.length<=2^40)(hw:WI w.2.1):
  ∃w':AR,∃ok,D3 c w p q=some ((((w'.1,(),()),ok,()),()),(w'.2.1,()))/\WI w'.2.1:=by
 unfold D3;have hww:=hw.w;rw[show(c.1,c.2.1,())=c from rfl,show(w.1,w.2.1,())=w from rfl,Gg hc (by omega),uS (by omega),Be,Be];simp only[AOv];rcases AOB (EX c w)with EP|EP
 rotate_left
 ·rw[EP]
  exact⟨(0,[],()),false,rfl,by simp[WI]⟩
 have h1:=hw.1;rw[EP];simp only[AOx,AOk];rcases AOB (Bd p 1 (w.2.1.length:Int))with hp|hp
 rotate_left
 ·rw[hp]
  exact⟨w,false,rfl,hw⟩
 rw[hp];simp only[AOx,AOk];cases Bd q 0 (AW ((c.1.length:Int)-1))with
 |false=>exact⟨w,false,rfl,hw⟩
 |true=>
  simp only[Bd,APo]at hp;rw[AH (x:=p-1) (by omega) (by omega)];obtain⟨k,hk⟩:∃k:Nat,p-1=(k:Int):=⟨(p-1).toNat,by omega⟩;rw[hk];have hkl:k<w.2.1.length:=by omega
  have hb:(0:Int)<=(k:Int)/\(k:Int)<(w.2.1.length:Int):=by omega
  simp only[AOx,AOk,AVj];rw[AOJ hb,AOJ hb,Al hkl];have he:=hw.2 _ (AO7 hkl);have he2:=kt ((bE EP).2.2.2 _ (AO7 hkl))
  generalize yz:w.2.1[k]=e at he he2
  cases e.2.2.1 with
  |true=>exact⟨w,false,rfl,hw⟩
  |false=>
   simp only[AOk];obtain⟨l',hl1,vq⟩:=AGx (l:=e.2.1) (x:=q) (by omega);rw[hl1];simp only[AOv];rw[AOJ hb,AOJ hb,AO2];have hg:(w.2.1.set k (e.1,l',false,())).getD k ([],[],false,())=(e.1,l',false,()):=by
    simp[List.getD,hkl]
   rw[hg];simp only;rw[EC hc (by omega)];simp only[AOv];rw[AOJ hb];refine⟨(w.1,(w.2.1.set k (e.1,l',false,())).set k (e.1,l',holds c l',()),()),true,rfl,by simp only[AVj];exact h1,?_⟩;intro y hy;simp only[AZu]at hy;rcases AVQ hy with hy|rfl
   ·exact hw.2 y hy
   ·exact⟨he.1,by simp only;omega⟩
section
variable{code:AAB} (hc:code.length<=2^30)
include hc
theorem Qo{c:CG}(Xq:c.1.length<=2^20){x:Int}{y:List BD}:∀(n k:Nat) (i h:Int) (w:AR),Cl code i->k<=14->14-k<n->WI w.2.1->
  ∃(w':AR) (i' h':Int),I6 n k code i h c.1 c.2.1 x y w.1 w.2.1=some (((w'.1,(),()),()),((code,i',h',()),w'.2.1,()))/\WI w'.2.1/\Cl code i'
 |0,_,_,_,_,_,_,h,_=>by omega
 |n+1,k,i,h,w,hi,hk,hn,hw=>by
  simp only[I6,S5,AB];obtain⟨v,i1,h1,e1,a1,b1,_,MJ⟩:=FL hc (h:=h) (n:=14) hi (by omega);rw[e1];simp only[AOv];have:=b1 (by omega);by_cases Ha:(k:Int)<v
  ·rw[AOJ Ha]
   obtain⟨s,i2,h2,e2,hs,Ig⟩:=uj hc (h:=h1) (l:=[[],[97],[98,99]]) MJ (by simp) (by simp);rw[e2];simp only[AOv];have hsl:s.length<=41:=by
    simp at hs;rcases hs with rfl|rfl|rfl<;>simp
   obtain⟨w1,off,ok,e3,hw1⟩:=wR (c:=c) (w:=w) (s:=s) (by omega) hw hsl;rw[show(c.1,c.2.1,())=c from rfl,show(w.1,w.2.1,())=w from rfl,e3];simp only[AOv];obtain⟨o,i3,h3,e4,Lq⟩:=nF hc (h:=h2) (n:=2) Ig (by omega);rw[e4];simp only[AOv];rw[AH (x:=(k:Int)+1) (by omega) (by omega),show((k:Int)+1)=((k+1:Nat):Int)by omega];cases o with
   |true=>
    simp only[APm];have h61:=hw.1;obtain⟨m,em,hm⟩:∃m:Int,Fe (w.2.1.length:Int) 1=some ((m,()),())/\m<=2^40:=by
     unfold Fe;rw[AB];split
     ·exact⟨_,rfl,by omega⟩
     ·exact⟨1,rfl,by omega⟩
    rw[em];simp only[AOv];obtain⟨v4,i4,h4,e5,a5,b5,_,wk⟩:=FL hc (h:=h3) (n:=m) Lq hm;rw[e5];simp only[AOv];obtain⟨v5,i5,h5,e6,a6,b6,_,hi5⟩:=FL hc (h:=h4) (n:=(c.1.length:Int)) wk (by omega);rw[e6];simp only[AOv];obtain⟨w2,ok2,e7,hw2⟩:=vd (c:=c) (w:=w) (p:=AW (1+v4)) (q:=v5) (by omega) hw;rw[e7];simp only[AOv];cases ok2 with
    |true=>exact Qo Xq n (k+1) i5 h5 w2 hi5 (by omega) (by omega) hw2
    |false=>exact Qo Xq n (k+1) i5 h5 w hi5 (by omega) (by omega) hw
   |false=>
    simp only[AOk];cases ok with
    |true=>exact Qo Xq n (k+1) i3 h3 w1 Lq (by omega) (by omega) hw1
    |false=>exact Qo Xq n (k+1) i3 h3 w Lq (by omega) (by omega) hw
  ·rw[AOK Ha]
   exact⟨w,i1,h1,rfl,hw,MJ⟩
theorem rO{c:CG}(Xq:c.1.length<=2^20){i h:Int}(hi:Cl code i):
  ∃(w':AR) (i' h':Int),P_ c code i h=some (((w'.1,(),()),()),((code,i',h',()),w'.2.1,()))/\WI w'.2.1/\Cl code i':=by
 unfold P_ Sn;obtain⟨v,i1,h1,e1,a1,b1,_,MJ⟩:=FL hc (h:=h) (n:=4) hi (by omega);rw[e1];exact Qo hc Xq AZ 0 i1 h1 (AW (1+v),[],()) MJ (by omega) (Ac (by omega)) (by simp[WI])
omit hc in
theorem yK{x:Int}{y:List BD}{z:Int}{i h:Int}(hi:Cl code i):∀(n:Nat) (l:List BD),61-l.length<n->WI l->
  ∃l',HY n code i h x y z l=some (((z,(),()),()),((code,i,h,()),l',()))/\WI l'
 |0,_,h,_=>by omega
 |n+1,l,hn,hw=>by
  simp only[HY,Rn,AB];have h1:=hw.1;by_cases h60:l.length<60
  ·rw[AOJ (by omega)]
   by_cases h0:0<l.length
   ·rw[AOJ (by omega),AOJ (by omega),AOJ (by rw[Ap];omega)]
    refine yK hi n _ (by simp;omega) ⟨by simp;omega,fun e he=> ?_⟩;rcases ARh.1 he with he|he
    ·exact hw.2 e he
    ·simp only[AU4]at he
     have hm:l.getD 0 ([],[],false,())∈l:=by
      have:=Al (l:=l) (i:=0) (d:=([],[],false,())) h0;simp only[Int.ofNat_zero,Int.toNat_zero]at this;rw[this];exact AO7 _
     rw[he];exact hw.2 _ hm
   ·rw[AOK (by omega)]
    exact⟨l,rfl,hw⟩
  ·rw[AOK (by omega)]
   exact⟨l,rfl,hw⟩
theorem ACU{c:CG}(Xq:c.1.length<=2^20){i h:Int}(hi:Cl code i):
  ∃(w':AR) (i' h':Int),Pe c code i h=some (((w'.1,(),()),()),((code,i',h',()),w'.2.1,()))/\AS Az w'.2.1<=4000/\Cl code i':=by
 unfold Pe Om;obtain⟨w,i1,h1,e1,hw,MJ⟩:=rO hc Xq (h:=h) hi;rw[show(c.1,c.2.1,())=c from rfl,e1];simp only[AOv];obtain⟨v,i2,h2,e2,a2,b2,_,Ig⟩:=FL hc (h:=h1) (n:=25) MJ (by omega);rw[e2];simp only[AOv];have h61:=hw.1;cases v==0 with
 |true=>
  simp only[APm];obtain⟨p,i3,h3,e3,hp,Lq⟩:=LS hc (h:=h2) (l:=[0,30,31]) Ig (by simp) (by simp);rw[e3];exact⟨(p,w.2.1,()),i3,h3,rfl,hw.w,Lq⟩
 |false=>
  simp only[AOk];cases v==1 with
  |true=>
   simp only[APm,AB];by_cases h0:0<w.2.1.length
   ·rw[AOJ (by omega),AOJ (by omega),AOJ (by omega)]
    refine⟨(w.1,w.2.1.set 0 ((w.2.1.getD 0 ([],[],false,())).1,(w.2.1.getD 0 ([],[],false,())).2.1,!(w.2.1.getD 0 ([],[],false,())).2.2.1,()),()),i2,h2,rfl,WI.w ⟨by simp;omega,fun e he=> ?_⟩,Ig⟩;rcases AVQ he with he|rfl
    ·exact hw.2 e he
    ·have hm:w.2.1.getD 0 ([],[],false,())∈w.2.1:=by
      have:=Al (l:=w.2.1) (i:=0) (d:=([],[],false,())) h0;simp only[Int.ofNat_zero,Int.toNat_zero]at this;rw[this];exact AO7 _
     have:=hw.2 _ hm;exact this
   ·rw[AOK (by omega)]
    exact⟨w,i2,h2,rfl,hw.w,Ig⟩
  |false=>
   simp only[AOk];cases v==2 with
   |true=>
    simp only[APm];obtain⟨p,i3,h3,e3,a3,b3,_,Lq⟩:=FL hc (h:=h2) (n:=2) Ig (by omega);rw[e3];simp only[AOv];have:=b3 (by omega);rw[AH (by omega) (by omega),AOJ (by rw[Ap];omega),AOJ (by rw[Ap];omega)];refine⟨(w.1,w.2.1++[(List.map (fun n:Int=>UInt8.ofNat n.toNat) (List.replicate (40+p).toNat 0),[],false,())],()),i3,h3,rfl,?_,Lq⟩;have hww:=hw.w;have key:=sY (l:=w.2.1) (e:=(List.map (fun n:Int=>UInt8.ofNat n.toNat) (List.replicate (40+p).toNat 0),[],false,()));have hws:AS Az w.2.1<=60*61:=by
     have Aci:∀l:List BD,(∀e∈l,e.1.length<=41/\e.2.1.length<=9)->AS Az l<=60*l.length:=by
      intro l
      induction l with
      |nil=>intro _;simp[AS]
      |cons e l ih=>
       intro hh;have:=hh e (by simp);have:=ih (fun e he=>hh e (by simp[he]));simp only[AS,Az,ART]at this|-;omega
     have:=Aci _ hw.2;omega
    simp only;rw[key];simp only[Az,AWA,AVz,AS0];omega
   |false=>
    simp only[AOk];cases v==3 with
    |true=>
     simp only[APm];obtain⟨l',e4,hw4⟩:=yK (x:=0) (y:=[]) (z:=w.1) (h:=h2) Ig AZ w.2.1 (Ac (by omega)) hw;rw[e4];exact⟨(w.1,l',()),i2,h2,rfl,hw4.w,Ig⟩
    |false=>exact⟨w,i2,h2,rfl,hw.w,Ig⟩
end
def OK(code:AAB){X Y:Type}(Q:X->Y->Prop)(o:Option (X×(AEC×Y))):Prop:=
 ∃x i h y,o=some (x,((code,i,h,()),y))/\Cl code i/\Q x y
section
variable{code:AAB} {X Y Z W:Type} {Q:X->Y->Prop} {R:Z->W->Prop}
theorem OK.bind{o:Option (X×(AEC×Y))}{f:X×(AEC×Y)->Option (Z×(AEC×W))}
  (ho:OK code Q o) (hf:∀x i h y,Cl code i->Q x y->OK code R (f (x,((code,i,h,()),y)))):OK code R (o.bind f):=by
 obtain⟨x,i,h,y,e,hi,hq⟩:=ho;simp_all
theorem OK.pure{A:Type}{o:Option A}{a:A}{f:A->Option (Z×(AEC×W))}(ho:o=some a)(hf:OK code R (f a)):OK code R (o.bind f):=by
 simp_all
theorem OK.some{x:X}{i h:Int}{y:Y}(hi:Cl code i)(hq:Q x y):OK code Q (some (x,((code,i,h,()),y))):=⟨x,i,h,y,rfl,hi,hq⟩
theorem OK.cond{b:Bool}{x y:Option (X×(AEC×Y))}(h1:b=true->OK code Q x)(h2:b=false->OK code Q y):OK code Q (cond b x y):=by
 grind
theorem OK.Qq{p:Prop}[Decidable p]{x y:Option (X×(AEC×Y))}(h1:p->OK code Q x)(h2: ¬p->OK code Q y):OK code Q (_root_.cond (decide p) x y):=by
 grind
theorem OK.GO{a b:Int}{x y:Option (X×(AEC×Y))}(h1:a=b->OK code Q x)(h2:a≠b->OK code Q y):OK code Q (_root_.cond (a==b) x y):=by
 grind
theorem OK.ite{p:Prop}[Decidable p]{x y:Option (X×(AEC×Y))}(hp:p)(h1:OK code Q x):OK code Q (if p then x else y):=by
 simp_all
end
section
variable{code:AAB} (hc:code.length<=2^30)
include hc
theorem CJ{i h n:Int}(hi:Cl code i)(hn:n<=2^40):OK code (fun(x:ABq) (y:Unit)=>0<=x.1/\(0<n->x.1<n)/\(n<=0->x.1=0)) (AK n code i h):=by
 obtain⟨v,i',h',e,v0,v1,v2,Du⟩:=FL hc (h:=h) hi hn;exact⟨(v,()),i',h',(),e,Du,v0,v1,v2⟩
theorem QM{i h n:Int}(hi:Cl code i)(hn:n<=2^40):OK code (fun(x:ABi) (y:Unit)=>True) (BL n code i h):=by
 obtain⟨v,i',h',e,Du⟩:=nF hc (h:=h) hi hn;exact⟨(v,()),i',h',(),e,Du,trivial⟩
theorem Rg{i h:Int}{l:AAB}(hi:Cl code i)(hl:l≠[])(hn:l.length<=2^30):OK code (fun(x:ABq) (y:Unit)=>x.1∈l) (CZ l code i h):=by
 obtain⟨v,i',h',e,hv,Du⟩:=LS hc (h:=h) hi hl hn;exact⟨(v,()),i',h',(),e,Du,hv⟩
theorem py{i h:Int}{l:List ACH}(hi:Cl code i)(hl:l≠[])(hn:l.length<=2^30):OK code (fun(x:AHs) (y:Unit)=>x.1∈l) (HR l code i h):=by
 obtain⟨v,i',h',e,hv,Du⟩:=uj hc (h:=h) hi hl hn;exact⟨(v,()),i',h',(),e,Du,hv⟩
theorem TS{c:CG}(Xq:c.1.length<=2^10){i h:Int}(hi:Cl code i):OK code (fun(x:ADI) (y:ADM)=>y.1.length<=2^12) (FZ c code i h):=by
 have key:∀(n k N:Nat) (i h:Int) (b:AAB),Cl code i->k<=N->N-k<n->N<=2^11->b.length<=k->
   OK code (fun(x:ADI) (y:ADM)=>y.1.length<=2^12) (I5 n N k code i h c.1 c.2.1 b):=by
  intro n
  induction n with
  |zero=>omega
  |succ n ih=>
   intro k N i h b hi hk hn hN hb;simp only[I5,Tv];refine OK.Qq (fun Ha=> ?_) (fun yz=> ?_)
   ·refine OK.pure JP ?_
    dsimp only;refine OK.bind (CJ hc hi (by omega)) fun x i' h' y Du hq=> ?_
    dsimp only;refine OK.pure (Lf (by omega)) ?_
    dsimp only;rw[AH (by omega) (by omega),show((k:Int)+1)=((k+1:Nat):Int)by omega];have:=Tj (n:=x.1) (l:=b);exact ih (k+1) N _ _ _ Du (by omega) (by omega) hN (by omega)
   ·refine OK.bind (QM hc hi (by omega)) fun x i' h' y Du hq=> ?_
    dsimp only;refine OK.cond (fun _=> ?_) (fun _=> ?_)
    ·refine OK.bind (Rg hc Du (by simp) (by simp)) fun x i' h' y Du hq=> ?_
     dsimp only;refine OK.ite (by rw[Ap];omega) ?_
     grind[OK.some]
    grind[OK.some]
 unfold FZ TC;rw[AH (by omega) (by omega)];refine OK.bind (CJ hc hi (by omega)) fun x i' h' y Du hq=> ?_
 dsimp only;obtain⟨N,hN⟩:∃N:Nat,x.1=N:=⟨x.1.toNat,by omega⟩;grind[AZ,Ac]
theorem dN{c:CG}(Xq:c.1.length<=2^10){i h:Int}(hi:Cl code i):OK code (fun(x:ADI) (y:ADM)=>y.1.length<=2^13) (G_ c code i h):=by
 have key:∀(n k:Nat) (i h:Int) (b:AAB),Cl code i->k<=c.1.length->c.1.length-k<n->b.length<=2^12+k->
   OK code (fun(x:ADI) (y:ADM)=>y.1.length<=2^13) (LL n k code i h c.1 c.2.1 b):=by
  intro n
  induction n with
  |zero=>omega
  |succ n ih=>
   intro k i h b hi hk hn hb;simp only[LL,Vy];refine OK.Qq (fun Ha=> ?_) (fun yz=>OK.some hi (by grind));refine OK.pure (EC (c:=(c.1,c.2.1,())) (by grind) (by omega)) ?_
   dsimp only;refine OK.cond (fun _=> ?_) (fun _=>OK.some hi (by grind));refine OK.pure (Lf (by omega)) ?_
   dsimp only;rw[AH (by omega) (by omega),show((k:Int)+1)=((k+1:Nat):Int)by omega];have:=Tj (n:=(k:Int)) (l:=b);exact ih (k+1) _ _ _ hi (by omega) (by omega) (by omega)
 unfold G_ Vm;grind[OK.bind,TS,AZ,Ac]
end
theorem ALb{x:Int}:CB (IntKind.wrap .i64 x):=by
 grind[CB,IntKind.wrap,IntKind.bits,IntKind.signed]
theorem ARS{a b:Int}:CB (bOr .i64 a b):=by
 unfold bOr;exact ALb
theorem ln{l:AAB}(hl:l.length<=2^20):∃r,J7 l=some ((r,()),())/\CB r:=by
 have key:∀(n k:Nat) (t:Int),(∀x∈l,0<=x)->CB t->k<=l.length->l.length-k<n-> ∃r,K0 n l t k=some ((r,()),())/\CB r:=by
  intro n
  induction n with
  |zero=>omega
  |succ n ih=>
   intro k t hp ht hk hn;simp only[K0,Ve,AB];by_cases Ha:k<l.length
   ·rw[AOJ (by omega),AOJ (by omega),Al Ha,AOK (by simp_all),AH (x:=(k:Int)+1) (by omega) (by omega),show((k:Int)+1)=((k+1:Nat):Int)by omega]
    grind[ARS]
   grind
 unfold J7 Vl;rw[iM (by omega)];simp only[AD,BB];rcases AOB (sS l 7)with ha|ha
 ·rw[ha]
  exact key AZ 0 0 (fun x hx=>((yx.1 ha).1 x hx).1) (by unfold CB;omega) (by omega) (Ac (by omega))
 ·rw[ha]
  exact⟨-1,rfl,by unfold CB;omega⟩
abbrev kO:Ao×Unit->Unit->Prop:=fun x _=>CB x.1.2.1/\CB x.1.2.2.1/\CB x.1.2.2.2.1/\x.1.2.2.2.2.1.length<=40
theorem AGM(x:Int):CB (AW x):=by
 grind[AW,IntKind.wrap,CB,IntKind.bits,IntKind.signed]
theorem Of{x:Int}(h: -1000<=x/\x<=1000):CB x:=by unfold CB;omega
section
variable{code:AAB} (hc:code.length<=2^30) {w:AA} (h:KU w)
include hc h
theorem KU.AAq{e:Int}(he:1<=e/\e<=w.Am.length):0<(BK w.Am e).length/\(BK w.Am e).length<=8/\ ∀x∈BK w.Am e,0<=x/\x<8:=by
 have hh:=(h.jx.Am _ (Bm (d:=GB) (show(e-1).toNat<(CQ w).1.length by show _<w.Am.length;omega))).1;have hn:=V1 hh;have Xq:=(D8 h.cfg).2.1;unfold BK;rw[As.2 he,AOJ rfl];refine⟨?_,Fl hn,fun x hx=> ?_⟩
 ·rcases AZp (w.Am.getD (e-1).toNat GB).1.length with h0|h0
  ·have zm:=AUM h0
   have hh':holds (Ae w) (w.Am.getD (e-1).toNat GB).1=true:=hh;grind[holds_nil]
  omega
 ·have:=(FA.1 hn).2.1 x hx
  omega
theorem vt(hw:0<w.AQ.length){i hh:Int}(hi:Cl code i):OK code kO (G2 w code i hh):=by
 have k:=h.nums;have k2:=k.wr;have k5:=k.era;have tL:0<w.2.2.2.2.2.2.1.length:=hw;have tail:∀(j:Int),0<=j->j<(w.2.2.2.2.2.2.1.length:Int)-> ∀i hh,Cl code i->OK code kO (
   (CS (w.2.2.2.2.1,w.2.2.2.2.2.1,()) ((w.2.2.2.2.2.2.1.getD (j.toNat) (0,[],())).1)).bind fun QR=>
   (AK (QR.2.1.length:Int) code i hh).bind fun Lt=>
   if(0:Int)<=Lt.1.1/\Lt.1.1<(QR.2.1.length:Int)then(
   cond ((((w.2.2.2.2.2.2.1.getD (j.toNat) (0,[],())).2.1).length:Int)==0)
    ((HR [[],[97],[98,99],[100]] Lt.2.1.1 Lt.2.1.2.1 Lt.2.1.2.2.1).bind fun aq=>
    some (((2,j,0,0,aq.1.1,()),()),((aq.2.1.1,aq.2.1.2.1,aq.2.1.2.2.1,()),())))
   ((BL 7 Lt.2.1.1 Lt.2.1.2.1 Lt.2.1.2.2.1).bind fun HS=>
   cond (HS.1.1)
    ((HR [[],[97],[98,99],[100]] HS.2.1.1 HS.2.1.2.1 HS.2.1.2.2.1).bind fun WG=>
    some (((2,j,0,0,WG.1.1,()),()),((WG.2.1.1,WG.2.1.2.1,WG.2.1.2.2.1,()),())))
   ((BL 3 HS.2.1.1 HS.2.1.2.1 HS.2.1.2.2.1).bind fun iF=>
   cond (iF.1.1)
    (some (((4,(QR.2.1.getD (Lt.1.1.toNat) 0),0,0,[],()),()),((iF.2.1.1,iF.2.1.2.1,iF.2.1.2.2.1,()),())))
   ((Uk (((w.2.2.2.2.2.2.1.getD (j.toNat) (0,[],())).2.1).length:Int) 3).bind fun QK=>
   (AK QK.1.1 iF.2.1.1 iF.2.1.2.1 iF.2.1.2.2.1).bind fun Pr=>
   some (((3,j,AW ((((w.2.2.2.2.2.2.1.getD (j.toNat) (0,[],())).2.1).length:Int)-Pr.1.1),(QR.2.1.getD (Lt.1.1.toNat) 0),[],()),()),((Pr.2.1.1,Pr.2.1.2.1,Pr.2.1.2.2.1,()),()))))))else none):=by
  intro j hj0 hj1 i hh hi;have hx:=h.AQ _ (Bm (d:=B3) (show j.toNat<w.AQ.length by simp_all));have he:=hx.1.ep;obtain⟨e1,e2,e3⟩:=h.AAq hc (e:=(w.AQ.getD j.toNat B3).1) ⟨he.1,hx.2⟩;refine OK.pure (D4 (r:=CQ w) (by show AS Bk w.2.2.2.2.1<=_;omega)) ?_
  dsimp only
  generalize wj:BK (CQ w).1 (w.2.2.2.2.2.2.1.getD j.toNat (0,[],())).1=ns
  have AT1:BK w.Am (w.AQ.getD j.toNat B3).1=ns:=wj;rw[AT1]at e1 e2 e3;refine OK.bind (CJ hc hi (by omega)) fun x i1 h1 y MJ hq=> ?_
  dsimp only at*;refine OK.ite (by omega) ?_
  have AFb:CB (ns.getD x.1.toNat 0):=Of (by grind[Bm]);have hjj:CB j:=Of (by omega);have z:CB 0:=Of (by omega)
  repeat' (first|refine OK.some (by assumption) ?_|refine OK.Qq (fun _=> ?_) (fun _=> ?_)|refine OK.GO (fun _=> ?_) (fun _=> ?_)|refine OK.cond (fun _=> ?_) (fun _=> ?_)|refine OK.ite (by omega) ?_|(refine OK.bind (QM (by assumption) (by assumption) (by omega)) fun x i h y hi hq=> ?_;dsimp only)|(refine OK.bind (CJ (by assumption) (by assumption) (by omega)) fun x i h y hi hq=> ?_;dsimp only at*)|(refine OK.bind (py (by assumption) (by assumption) (by simp) (by simp)) fun x i h y hi hq=> ?_;dsimp only)|(refine OK.pure bA ?_;dsimp only)|(refine OK.pure JP ?_;dsimp only))
  all_goals refine⟨?_,?_,?_,?_⟩
  all_goals first
   |assumption
   |exact AGM _
   |exact AZs _
   |grind
 unfold G2;dsimp only;have e1:AW ((w.2.2.2.2.2.2.1.length:Int)-1)=(w.2.2.2.2.2.2.1.length:Int)-1:=AH (by omega) (by omega);simp only[e1];refine OK.bind (CJ hc hi (by omega)) fun x i1 h1 y MJ hq=> ?_
 dsimp only at*;refine OK.bind (QM hc MJ (by omega)) fun x2 i2 h2 y2 Ig sy=> ?_
 dsimp only at*;refine OK.cond (fun _=> ?_) (fun _=> ?_)
 ·refine OK.ite (by omega) ?_
  exact tail _ (by omega) (by omega) _ _ Ig
 simp_all
end
section
variable{code:AAB} (hc:code.length<=2^30) {w:AA} (h:KU w)
include hc h
theorem yX{m:Av}(hm:lx (Ae w) m){t7:Int}(h7:CB t7):∀(n k:Nat) (t8 i hh:Int),CB t8->Cl code i->k<=m.2.2.2.2.2.1.length->m.2.2.2.2.2.1.length-k<n->
  OK code kO (GX n t7 t8 k code i hh w.1 w.2.1 w.2.2.1 w.2.2.2.1 w.2.2.2.2.1 w.2.2.2.2.2.1 w.2.2.2.2.2.2.1 w.2.2.2.2.2.2.2.1 w.2.2.2.2.2.2.2.2.1 w.2.2.2.2.2.2.2.2.2.1 w.2.2.2.2.2.2.2.2.2.2.1 0 0 0 0 [] m.1 m.2.1 m.2.2.1 m.2.2.2.1 m.2.2.2.2.1 m.2.2.2.2.2.1):=by
 have k1:=h.nums.c;have y8:m.2.2.2.2.2.1.length<=60:=by
  have:=hm.n;have hb:=Gw (l:=m.2.2.2.1);split at this<;>omega
 intro n
 induction n with
 |zero=>intro k t8 i hh _ _ _ h;omega
 |succ n ih=>
  intro k t8 i hh h8 hi hk hn;have hk8:CB ((k+1:Nat):Int):=Of (by omega);simp only[GX,SN];refine OK.Qq (fun Ha=> ?_) (fun yz=>OK.some hi ⟨Of (by show-1000<=(0:Int)/\(0:Int)<=1000;omega),h8,h7,AZs _⟩);have AbN:k<m.2.2.2.2.2.1.length:=by omega
  refine OK.ite (by omega) ?_
  rw[AH (x:=(k:Int)+1) (by omega) (by omega),show((k:Int)+1)=((k+1:Nat):Int)by omega];have w6:=Fl (hm.wrote _ (Bm (d:=[]) AbN));refine OK.pure (EC (c:=Ae w) (by show w.1.length<=_;omega) (by show(m.2.2.2.2.2.1.getD k []).length<=_;omega)) ?_
  dsimp only;refine OK.cond (fun _=> ?_) (fun _=>ih (k+1) _ _ _ h8 hi (by omega) (by omega));refine OK.bind (QM hc hi (by omega)) fun x2 i2 h2 y2 Ig sy=> ?_
  dsimp only;exact OK.cond (fun _=>ih (k+1) _ _ _ hk8 Ig (by omega) (by omega)) (fun _=>ih (k+1) _ _ _ h8 Ig (by omega) (by omega))
theorem xC{i hh:Int}(hi:Cl code i):OK code kO (Mj w code i hh):=by
 have k:=h.nums;have k5:=k.era;unfold Mj Tn;have z:CB 0:=Of (by omega);refine OK.GO (fun _=>OK.some hi ⟨z,z,z,AZs _⟩) (fun ew=> ?_);have hlen:0<w.An.length:=by show 0<w.2.2.2.2.2.2.2.1.length;omega
 refine OK.ite (by omega) ?_
 have hmm:=h.An _ (Bm (d:=Ei) hlen)
 generalize hg:w.2.2.2.2.2.2.2.1.getD 0 (0,0,[],[],false,[],())=m
 have yO:w.An.getD 0 Ei=m:=hg;rw[yO]at hmm;obtain⟨hm,hm2,hm3⟩:=hmm;have he:=hm.ep;have hb:=hm.b;obtain⟨e1,e2,e3⟩:=h.AAq hc (e:=m.2.1) ⟨he.1,by omega⟩;have y8:m.2.2.2.2.2.1.length<=60:=by
  have:=hm.n;have hb:=Gw (l:=m.2.2.2.1);split at this<;>omega
 refine OK.pure (D4 (r:=CQ w) (by show AS Bk w.2.2.2.2.1<=_;omega)) ?_
 dsimp only
 generalize wj:BK (CQ w).1 m.2.1=ns
 have AT1:BK w.Am m.2.1=ns:=wj;rw[AT1]at e1 e2 e3;refine OK.bind (CJ hc hi (by omega)) fun x i1 h1 y MJ hq=> ?_
 dsimp only at*;refine OK.ite (by omega) ?_
 have AFb:CB (ns.getD x.1.toNat 0):=Of (by have:=e3 _ (Bm (l:=ns) (i:=x.1.toNat) (d:=0) (by omega));omega);have fin:∀t8 i hh,CB t8->Cl code i->OK code kO (GX AZ (ns.getD x.1.toNat 0) t8 0 code i hh w.1 w.2.1 w.2.2.1 w.2.2.2.1 w.2.2.2.2.1 w.2.2.2.2.2.1 w.2.2.2.2.2.2.1 w.2.2.2.2.2.2.2.1 w.2.2.2.2.2.2.2.2.1 w.2.2.2.2.2.2.2.2.2.1 w.2.2.2.2.2.2.2.2.2.2.1 0 0 0 0 [] m.1 m.2.1 m.2.2.1 m.2.2.2.1 m.2.2.2.2.1 m.2.2.2.2.2.1):=fun t8 i hh h8 hi=>
  yX hc h hm AFb AZ 0 t8 i hh h8 hi (by omega) (Ac (by omega))
 repeat' (first|refine OK.some (by assumption) ?_|refine OK.Qq (fun _=> ?_) (fun _=> ?_)|refine OK.GO (fun _=> ?_) (fun _=> ?_)|refine OK.cond (fun _=> ?_) (fun _=> ?_)|refine OK.ite (by omega) ?_|(refine OK.bind (QM (by assumption) (by assumption) (by omega)) fun x i h y hi hq=> ?_;dsimp only)|(refine OK.bind (CJ (by assumption) (by assumption) (by omega)) fun x i h y hi hq=> ?_;dsimp only at*)|(refine OK.bind (py (by assumption) (by assumption) (by simp) (by simp)) fun x i h y hi hq=> ?_;dsimp only)|(refine OK.pure bA ?_;dsimp only)|(refine OK.pure JP ?_;dsimp only))
 all_goals first
  |exact fin _ _ _ (AGM _) (by assumption)
  |exact⟨z,z,z,AZs _⟩
  |exact⟨AFb,z,z,AZs _⟩
theorem yC{i hh:Int}(hi:Cl code i):OK code kO (QI w code i hh):=by
 have k:=h.nums;have k1:=k.c;have k2:=k.wr;have k3:=k.lost;have k4:=k.st;have k5:=k.era;have k6:=k.se;have k7:=k.cS;have zh:=(D8 h.cfg).1;have Afr:1<=w.1.length:=zh;have z:CB 0:=Of (by omega);have Va:∀i hh,Cl code i->OK code kO ((G_ (w.1,w.2.1,()) code i hh).bind fun u3=>
   (J7 u3.2.2.1).bind fun u4=>
   some (((1,u4.1.1,0,0,[],()),()),((u3.2.1.1,u3.2.1.2.1,u3.2.1.2.2.1,()),()))):=fun i hh hi=>by
  refine OK.bind (dN hc (c:=(w.1,w.2.1,())) (by show w.1.length<=_;omega) hi) fun x i1 h1 y MJ hq=> ?_
  dsimp only;obtain⟨r,hr,hr2⟩:=ln (l:=y.1) (by omega);refine OK.pure hr ?_
  exact OK.some MJ ⟨hr2,z,z,AZs _⟩
 have AWK:∀j:Nat,CB (w.2.2.2.2.2.2.2.2.2.1.getD j (0,[],false,())).1:=fun j=>by
  by_cases hj:j<w.2.2.2.2.2.2.2.2.2.1.length
  ·exact HG (h.Ai _ (Bm (d:=Nn) hj)).1
  ·rw[List.getD,AYF (by omega)];exact z
 have AY3:CB (w.2.2.2.1.getD 0 0):=by
  by_cases hj:0<w.2.2.2.1.length
  ·have:=(FA.1 h.lost).2.1 _ (Bm (d:=0) hj)
   have hc8:(Ae w).1.length<=8:=k1;have AfP:0<=w.2.2.2.1.getD 0 0/\w.2.2.2.1.getD 0 0<(Ae w).1.length:=this;exact Of (by omega)
  ·rw[List.getD,AYF (by omega)];exact z
 unfold QI;refine OK.GO (fun _=>Va _ _ hi) (fun ew=> ?_);have hw0:0<w.AQ.length:=by show 0<w.2.2.2.2.2.2.1.length;omega
 have hwr:∀i hh,Cl code i->OK code kO ((G2 w code i hh).bind fun oc=>
   some (((oc.1.1.1,oc.1.1.2.1,oc.1.1.2.2.1,oc.1.1.2.2.2.1,oc.1.1.2.2.2.2.1,()),()),((oc.2.1.1,oc.2.1.2.1,oc.2.1.2.2.1,()),()))):=fun i hh hi=>
  OK.bind (vt hc h hw0 hi) fun x i1 h1 y MJ hq=>OK.some MJ hq
 have hmd:∀i hh,Cl code i->OK code kO ((Mj w code i hh).bind fun oc=>
   some (((oc.1.1.1,oc.1.1.2.1,oc.1.1.2.2.1,oc.1.1.2.2.2.1,oc.1.1.2.2.2.2.1,()),()),((oc.2.1.1,oc.2.1.2.1,oc.2.1.2.2.1,()),()))):=fun i hh hi=>
  OK.bind (xC hc h hi) fun x i1 h1 y MJ hq=>OK.some MJ hq
 rw[Gk w];refine OK.bind (QM hc hi (by omega)) fun x2 i2 h2 y2 Ig sy=> ?_
 dsimp only;refine OK.cond (fun _=>Va _ _ Ig) (fun _=> ?_);refine OK.bind (CJ hc Ig (by omega)) fun x3 i3 h3 y3 Lq WE=> ?_
 dsimp only at*;have hx3:CB x3.1:=Of (by omega)
 repeat' first
  |exact hwr _ _ (by assumption)
  |exact hmd _ _ (by assumption)
  |(refine OK.pure (Oc (r:=CQ w) (by show w.2.2.2.2.1.length<=_;omega)) ?_;dsimp only)
  |(first|refine OK.some (by assumption) ?_|refine OK.Qq (fun _=> ?_) (fun _=> ?_)|refine OK.GO (fun _=> ?_) (fun _=> ?_)|refine OK.cond (fun _=> ?_) (fun _=> ?_)|refine OK.ite (by omega) ?_|(refine OK.bind (QM (by assumption) (by assumption) (by omega)) fun x i h y hi hq=> ?_;dsimp only)|(refine OK.bind (CJ (by assumption) (by assumption) (by omega)) fun x i h y hi hq=> ?_;dsimp only at*)|(refine OK.bind (py (by assumption) (by assumption) (by simp) (by simp)) fun x i h y hi hq=> ?_;dsimp only)|(refine OK.pure bA ?_;dsimp only)|(refine OK.pure JP ?_;dsimp only))
 all_goals refine⟨?_,?_,?_,AZs _⟩
 all_goals first
  |exact z
  |exact hx3
  |exact AWK _
  |exact AY3
  |(refine Of ?_;dsimp only;omega)
end
theorem gB{s:AAB}{p:Int}:∀{l:List BA} {b:Option AJ},(∀x,b=some x->GG x=true)-> ∀x,IA s p b l=some x->GG x=true
 |[],b,hb,x,h=>hb x h
 |a::l,b,hb,x,h=>by
  simp only[IA]at h;split at h
  ·rename_i hc
   simp only[AOw]at hc;refine gB (l:=l) ?_ x h
   intro z hz;split at hz
   ·rename_i z' hz'
    unfold better at hz;grind
   simp_all
  ·exact gB (l:=l) hb x h
theorem nX{c:CG}{g:AN}{sure:Int}{r:Ag}{l:List BA}(h:∀e∈r.2.2.1,e.2.2.1.length<=40)(h0:(C2 c g sure r l).2=0):∀e∈(C2 c g sure r l).1.2.2.1,e.2.2.1.length<=40:=by
 have app:∀(ev:BU),ev.2.2.1.length<=40-> ∀e∈r.2.2.1++[ev],e.2.2.1.length<=40:=fun ev hev e he=>by
  grind
 have hf:∀p,(Rj p (IA (g.1.getD (r.1-1).toNat GB).1 p none l)).2.2.1.length<=40:=fun p=>by
  cases hb:IA (g.1.getD (r.1-1).toNat GB).1 p none l with
  |none=>show 0<=40;omega
  |some x=>
   have:=(Fp.1 (gB (b:=none) (fun x hx=>by cases hx) x hb)).len;unfold Rj;dsimp only;split
   all_goals simp_all
 revert h0
 unfold C2;dsimp only;split
 ·omega
 split
 ·omega
 split
 ·grind
 split
 ·grind
 split
 ·omega
 split
 all_goals grind
theorem BS{w:AA}{n:Int}{q:AO×Bool}:(putAt w n q).1.AX=w.AX:=by
 grind[putAt]
theorem wB{w:AA}{a k:Int}(h:xB w):xB (IY w a k).1:=by
 unfold IY;split
 ·omega
 dsimp only;split
 ·omega
 rename_i h2;intro r hr;rcases AVQ hr with hr|rfl
 ·exact h r hr
 ·refine nX ?_ (by omega)
  by_cases hl:a.toNat<w.AX.length
  ·exact h _ (Bm hl)
  simp_all
theorem Dr{w w':AA}(h:xB w)(e:w'.AX=w.AX):xB w':=by
 unfold xB;rw[e];exact h
theorem AAL{all:Bool}{w:AA}{d:Ao}(h:xB w):xB (K9 all w d).1:=by
 unfold K9;by_cases c:d.1=1
 ·rw[AOJ c]
  grind[Dr,M9,BS]
 rw[AOK c];clear c;by_cases c:d.1=2
 ·rw[AOJ c]
  grind[Dr,doAdd,BS]
 rw[AOK c];clear c;by_cases c:d.1=3
 ·rw[AOJ c]
  grind[Dr,JL,BS]
 rw[AOK c];clear c;by_cases c:d.1=4
 ·rw[AOJ c]
  grind[Dr,Mr,BS]
 rw[AOK c];clear c;by_cases c:d.1=5
 ·rw[AOJ c]
  grind[Dr,JM,BS]
 rw[AOK c];clear c;by_cases c:d.1=6
 ·rw[AOJ c]
  grind[Dr,NR,BS]
 rw[AOK c];clear c;by_cases c:d.1=7
 ·rw[AOJ c]
  grind[Dr,NT,BS]
 rw[AOK c];clear c;by_cases c:d.1=8
 ·rw[AOJ c]
  grind[Dr,Jr,BS]
 rw[AOK c];clear c;by_cases c:d.1=9
 ·rw[AOJ c]
  grind[Dr,La,BS]
 rw[AOK c];clear c;by_cases c:d.1=10
 ·rw[AOJ c]
  grind[Dr,Jx,BS]
 rw[AOK c];clear c;by_cases c:d.1=11
 ·rw[AOJ c]
  grind[Dr,Q2,BS]
 rw[AOK c];clear c;by_cases c:d.1=12
 ·rw[AOJ c]
  grind[Dr,Im,BS]
 rw[AOK c];clear c;by_cases c:d.1=13
 ·rw[AOJ c]
  grind[Dr,PB,BS]
 rw[AOK c];clear c;by_cases c:d.1=14
 ·rw[AOJ c];exact wB h
 rw[AOK c];clear c;by_cases c:d.1=15
 ·rw[AOJ c]
  grind[Dr,OQ,BS]
 rw[AOK c];grind[Dr,JI,BS]
theorem tM{c:CG}{g:AN}{sure:Int}{r:Ag}{l:List BA}(h:∀e∈r.2.2.1,CB e.2.1)(h0:(C2 c g sure r l).2=0):∀e∈(C2 c g sure r l).1.2.2.1,CB e.2.1:=by
 have app:∀(ev:BU),CB ev.2.1-> ∀e∈r.2.2.1++[ev],CB e.2.1:=fun ev hev e he=>by
  grind
 have hf:∀p b,(Rj p b).2.1=p:=fun p b=>by
  cases b with
  |none=>rfl
  |some x=>grind[Rj]
 revert h0
 unfold C2;dsimp only;split
 ·omega
 rename_i EP;have AV3:Pp c g=true/\bp r=true:=by
  simp_all
 have hrg:=(Ke.1 AV3.1).tin;have ZH:=Uy.1 AV3.2;have hre:=ZH.ep;have hro:=ZH.off;split
 ·omega
 split
 ·grind
 split
 ·grind[Of]
 split
 ·omega
 split
 ·omega
 intro _;refine app _ ?_
 grind[CB,HN]
theorem ACl{w:AA}{a k:Int}(h:bq w):bq (IY w a k).1:=by
 unfold IY;split
 ·omega
 dsimp only;split
 ·omega
 rename_i h2;intro r hr;rcases AVQ hr with hr|rfl
 ·exact h r hr
 ·refine tM ?_ (by omega)
  by_cases hl:a.toNat<w.AX.length
  ·exact h _ (Bm hl)
  simp_all
theorem GM{w w':AA}(h:bq w)(e:w'.AX=w.AX):bq w':=by
 unfold bq;rw[show w'.2.2.2.2.2.2.2.2.1=w.2.2.2.2.2.2.2.2.1 from e];exact h
theorem AIJ{all:Bool}{w:AA}{d:Ao}(h:bq w):bq (K9 all w d).1:=by
 unfold K9;by_cases c:d.1=1
 ·rw[AOJ c]
  grind[GM,M9,BS]
 rw[AOK c];clear c;by_cases c:d.1=2
 ·rw[AOJ c]
  grind[GM,doAdd,BS]
 rw[AOK c];clear c;by_cases c:d.1=3
 ·rw[AOJ c]
  grind[GM,JL,BS]
 rw[AOK c];clear c;by_cases c:d.1=4
 ·rw[AOJ c]
  grind[GM,Mr,BS]
 rw[AOK c];clear c;by_cases c:d.1=5
 ·rw[AOJ c]
  grind[GM,JM,BS]
 rw[AOK c];clear c;by_cases c:d.1=6
 ·rw[AOJ c]
  grind[GM,NR,BS]
 rw[AOK c];clear c;by_cases c:d.1=7
 ·rw[AOJ c]
  grind[GM,NT,BS]
 rw[AOK c];clear c;by_cases c:d.1=8
 ·rw[AOJ c]
  grind[GM,Jr,BS]
 rw[AOK c];clear c;by_cases c:d.1=9
 ·rw[AOJ c]
  grind[GM,La,BS]
 rw[AOK c];clear c;by_cases c:d.1=10
 ·rw[AOJ c]
  grind[GM,Jx,BS]
 rw[AOK c];clear c;by_cases c:d.1=11
 ·rw[AOJ c]
  grind[GM,Q2,BS]
 rw[AOK c];clear c;by_cases c:d.1=12
 ·rw[AOJ c]
  grind[GM,Im,BS]
 rw[AOK c];clear c;by_cases c:d.1=13
 ·rw[AOJ c]
  grind[GM,PB,BS]
 rw[AOK c];clear c;by_cases c:d.1=14
 ·rw[AOJ c];exact ACl h
 rw[AOK c];clear c;by_cases c:d.1=15
 ·rw[AOJ c]
  grind[GM,OQ,BS]
 rw[AOK c];grind[GM,JI,BS]
theorem AAG{all:Bool}{w:AA}{d:Ao}(h:bq w)(e:(BJ all w d).2=0):bq (BJ all w d).1:=by
 unfold BJ at*;by_cases hc:(!Cq w|| !OP d)=true
 ·simp_all
 ·rw[AOK hc];exact AIJ h
theorem yj{c:CG}:bq (bQ c):=fun r hr=>by
 have:r=(1,1,[],()):=by
  have hr':r∈([(1,1,[],()),(1,1,[],())]:List Ag):=hr;simp_all
 simp_all
theorem tN{all:Bool}{w:AA}{d:Ao}(h:xB w)(e:(BJ all w d).2=0):xB (BJ all w d).1:=by
 unfold BJ at*;by_cases hc:(!Cq w|| !OP d)=true
 ·simp_all
 ·rw[AOK hc];exact AAL h
theorem xP{c:CG}(hc:GI c=true):KU (bQ c)/\xB (bQ c):=by
 refine⟨⟨hc,by simp[bQ,H.AA.BX],Zs hc,.inr holds_nil,fun i hi=> ?_,⟨hc,by show 0<=30;omega,.inl rfl,fun e he=>(by cases he),fun i hi=>by exact absurd hi (by show¬i<0;omega)⟩,by show 0<=4;omega,by show 0<=1;omega,fun x hx=>(by cases hx),List.Pairwise.nil,fun x hx=>(by cases hx),rfl,fun r hr=> ?_,by show 0<=120;omega,fun x hx=>(by cases hx),List.Pairwise.nil⟩,fun r hr=> ?_⟩
 ·have:(bQ c).BX.getD i EN=EN:=by
   show(List.replicate c.1.length EN).getD i EN=EN
   grind
  rw[this];exact⟨dO.nil,fun _=>rfl⟩
 ·have:r=(1,1,[],()):=by
   have hr':r∈([(1,1,[],()),(1,1,[],())]:List Ag):=hr;simp_all
  subst this;exact⟨by omega,by simp_all,by simp_all⟩
 ·have:r=(1,1,[],()):=by
   have hr':r∈([(1,1,[],()),(1,1,[],())]:List Ag):=hr;simp_all
  simp_all
theorem mg{c:CG}(hc:GI c=true):H3 c=some (((((),c.2.1,(),(),(),0,(),(),(),(),false,()),true,()),()),(c.1,List.replicate c.1.length EN,[],[],[],[],[(1,1,[],()),(1,1,[],())],[],())):=by
 have hl:=(D8 hc).2.1;unfold H3;rw[show(c.1,c.2.1,())=c from rfl,Hq (by omega),hc];simp only[AD,AOx,AOk];rw[AOJ (by rw[Ap];omega),AOJ ⟨by omega,by omega,by rw[Ap];omega⟩];rfl
def gj(x:(ALc×Unit))(y:Unit×Unit×Unit×Unit×Unit×Unit×Unit×Unit×(List Ao)×List Int×(List AO)×List Int×(List CW)×(List AR)×(List Av)×(List Ag)×(List Af)×Unit):AA:=
 (y.2.2.2.2.2.2.2.2.2.1,x.1.2.2.1.2.1,y.2.2.2.2.2.2.2.2.2.2.1,y.2.2.2.2.2.2.2.2.2.2.2.1,y.2.2.2.2.2.2.2.2.2.2.2.2.1,x.1.2.2.1.2.2.2.2.2.1,y.2.2.2.2.2.2.2.2.2.2.2.2.2.1,y.2.2.2.2.2.2.2.2.2.2.2.2.2.2.1,y.2.2.2.2.2.2.2.2.2.2.2.2.2.2.2.1,y.2.2.2.2.2.2.2.2.2.2.2.2.2.2.2.2.1,x.1.2.2.1.2.2.2.2.2.2.2.2.2.2.1,())
section
variable{code:AAB} (hc:code.length<=2^30)
include hc
theorem AUu{T:Int}(hT:T<=1000){z1 z2:Int}{z3:Bool}:∀(n k:Nat) (i hh:Int) (w:AA) (acc:List Ao),Cl code i->(k:Int)<=max T 0->(T-k).toNat<n->acc.length<=k->KU w->xB w->bq w->
  OK code (fun x y=>KU (gj x y)/\xB (gj x y)/\bq (gj x y)) (Dv n T k code i hh 0 0 false [] [] [] [] [] [] [] [] 0 0 false [] [] [] [] [] [] [] [] z1 z2 z3 w.2.1 w.2.2.2.2.2.1 w.2.2.2.2.2.2.2.2.2.2.1 w.1 w.2.2.1 w.2.2.2.1 w.2.2.2.2.1 w.2.2.2.2.2.2.1 w.2.2.2.2.2.2.2.1 w.2.2.2.2.2.2.2.2.1 w.2.2.2.2.2.2.2.2.2.1 acc):=by
 intro n
 induction n with
 |zero=>omega
 |succ n ih=>
  intro k i hh w acc hi hk hn hb hw hr hv;simp only[Dv,Q0];refine OK.Qq (fun Ha=> ?_) (fun yz=>OK.some hi ⟨hw,hr,hv⟩);rw[Gk w];refine OK.bind (yC hc hw hi) fun x i1 h1 y MJ hq=> ?_
  dsimp only;refine OK.ite (by rw[Ap];omega) ?_
  refine OK.pure (RN (d:=x.1) (hw.win hr) hq.1) ?_
  rw[AH (by omega) (by omega),show((k:Int)+1)=((k+1:Nat):Int)by omega];refine OK.GO (fun h0=> ?_) (fun h0=> ?_)
  ·have h0':(BJ true w x.1).2=0:=h0
   exact ih (k+1) i1 h1 (BJ true w x.1).1 (acc++[x.1]) MJ (by omega) (by omega) (by simp_all) (Co.1 (PR h0')) (tN hr h0') (AAG hv h0')
  ·exact ih (k+1) i1 h1 w (acc++[x.1]) MJ (by omega) (by omega) (by simp_all) hw hr hv
theorem AXY{T:Int}(hT:0<=T/\T<=500){dom:AAB}{b21:AAB}(hbl:b21.length<=100)(hd:ct dom 1):∀(n:Nat) (c i hh:Int),Cl code i->1<=c/\c<=3->c.toNat+1000<=n->
  OK code (fun x y=>KU (gj x y)/\xB (gj x y)/\bq (gj x y)) (FK n T code i hh 0 0 false [] [] [] [] [] [] [] [] 0 0 false [] [] [] [] [] [] [] [] c dom b21):=by
 intro n
 induction n with
 |zero=>omega
 |succ n ih=>
  intro c i hh hi vf hn;have hg:ct dom c:=⟨hd.1,hd.2.1,vf.1,vf.2,hd.2.2.2.2⟩;have zQ:=hd.2.1;simp only[FK,Sg];have fin:OK code (fun x y=>KU (gj x y)/\xB (gj x y)/\bq (gj x y)) ((H3 (dom,c,())).bind fun u6=>
    (AK (AW (T+1)) code i hh).bind fun u7=>
    Dv n u7.1.1 0 u7.2.1.1 u7.2.1.2.1 u7.2.1.2.2.1 0 0 false [] [] [] [] [] [] [] [] 0 0 false [] [] [] [] [] [] [] [] u6.1.1.1.2.1 u6.1.1.1.2.2.2.2.2.1 u6.1.1.1.2.2.2.2.2.2.2.2.2.2.1 u6.1.1.1.2.1 u6.1.1.1.2.2.2.2.2.1 u6.1.1.1.2.2.2.2.2.2.2.2.2.2.1 u6.2.1 u6.2.2.1 u6.2.2.2.1 u6.2.2.2.2.1 u6.2.2.2.2.2.1 u6.2.2.2.2.2.2.1 u6.2.2.2.2.2.2.2.1 u6.2.2.2.2.2.2.2.2.1 []):=by
   refine OK.pure (mg hg.ok) ?_
   rw[AH (by omega) (by omega)];refine OK.bind (CJ hc hi (by omega)) fun x i1 h1 y MJ hq=> ?_
   have hwn:=xP hg.ok;grind[AUu,bQ,yj]
  refine OK.Qq (fun Ha=> ?_) (fun yz=>fin);refine OK.pure (EC (by grind) (by omega)) ?_
  refine OK.cond (fun _=> ?_) (fun _=>fin);grind[AH]
theorem AYN{T:Int}(hT:0<=T/\T<=500){dom:AAB}{c:Int}(hd:ct dom c):∀(n k:Nat) (i hh:Int) (b:AAB),Cl code i->k<=dom.length->dom.length-k+1010<=n->b.length<=k->
  OK code (fun x y=>KU (gj x y)/\xB (gj x y)/\bq (gj x y)) (E9 n T k code i hh 0 0 false [] [] [] [] [] [] [] [] 0 0 false [] [] [] [] [] [] [] [] c dom b):=by
 have zQ:=hd.2.1;intro n
 induction n with
 |zero=>omega
 |succ n ih=>
  intro k i hh b hi hk hn hb;simp only[E9,R0];refine OK.Qq (fun Ha=> ?_) (fun yz=> ?_)
  ·refine OK.ite (by rw[Ap];omega) ?_
   rw[AH (by omega) (by omega),show((k:Int)+1)=((k+1:Nat):Int)by omega];exact ih (k+1) i hh _ hi (by omega) (by omega) (by simp_all)
  ·exact AXY hc hT (by omega) ⟨hd.1,hd.2.1,by omega,by omega,hd.2.2.2.2⟩ n c i hh hi ⟨hd.2.2.1,hd.2.2.2.1⟩ (by have:=hd.2.2.2.1;omega)
theorem zX{T:Int}(hT:0<=T/\T<=500){i hh:Int}(hi:Cl code i):OK code (fun x y=>KU (gj x y)/\xB (gj x y)/\bq (gj x y)) (LK T code i hh):=by
 unfold LK SJ;obtain⟨l,c,i1,h1,e,hg,MJ⟩:=fp hc (h:=hh) hi;rw[e];have hgl:=hg.2.1;grind[AYN,AZ,Nat.le_of_lt,Ac]
end
end Go.M
end
