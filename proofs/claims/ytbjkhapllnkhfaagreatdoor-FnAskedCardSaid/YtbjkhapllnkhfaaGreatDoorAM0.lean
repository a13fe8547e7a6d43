/- Plain facts on what the functions compute. -/
import Derived.Test.YtbjkhapllnkhfaaGreatDoorAG1
set_option linter.unusedVariables false
set_option linter.unusedSimpArgs false
set_option linter.unusedSectionVars false
section
namespace Go.M
theorem DE{A0 A1:Type}(w:A0×A1×Unit):(w.1,w.2.1,())=w:=rfl
theorem PG{A0 A1 A2:Type}(w:A0×A1×A2×Unit):(w.1,w.2.1,w.2.2.1,())=w:=rfl
theorem gm{A0 A1 A2 A3:Type}(w:A0×A1×A2×A3×Unit):(w.1,w.2.1,w.2.2.1,w.2.2.2.1,())=w:=rfl
theorem xw{A0 A1 A2 A3 A4:Type}(w:A0×A1×A2×A3×A4×Unit):(w.1,w.2.1,w.2.2.1,w.2.2.2.1,w.2.2.2.2.1,())=w:=rfl
theorem V1{A0 A1 A2 A3 A4 A5:Type}(w:A0×A1×A2×A3×A4×A5×Unit):(w.1,w.2.1,w.2.2.1,w.2.2.2.1,w.2.2.2.2.1,w.2.2.2.2.2.1,())=w:=rfl
theorem Fa{A0 A1 A2 A3 A4 A5 A6 A7 A8 A9 A10:Type}(w:A0×A1×A2×A3×A4×A5×A6×A7×A8×A9×A10×Unit):(w.1,w.2.1,w.2.2.1,w.2.2.2.1,w.2.2.2.2.1,w.2.2.2.2.2.1,w.2.2.2.2.2.2.1,w.2.2.2.2.2.2.2.1,w.2.2.2.2.2.2.2.2.1,w.2.2.2.2.2.2.2.2.2.1,w.2.2.2.2.2.2.2.2.2.2.1,())=w:=rfl
end Go.M
namespace Go.M
theorem AB{α:Type}(p:Prop)[Decidable p](a b:α):cond (decide p) a b=if p then a else b:=by
 simp_all
theorem ZR{x:Int}(h1: -9223372036854775808<=x)(h2:x<9223372036854775808):AQ x=x:=by
 grind[AQ,IntKind.wrap,IntKind.bits,IntKind.signed]
theorem AWc{x:Int}(h1:0<=x)(h2:x<256):w8 x=x:=by
 grind[w8,IntKind.wrap,IntKind.bits,IntKind.signed]
theorem As{i:Nat}(h:i<9223372036854775807):AQ ((i:Int)+1)=((i+1:Nat):Int):=by rw[ZR (by omega) (by omega)];omega
theorem Ab{x:Int}(h: -9223372036854775808<=x/\x<9223372036854775808):AQ x=x:=ZR h.1 h.2
theorem AMl{n:Nat}(h:n<9223372036854775808):AQ (n:Int)=n:=ZR (by omega) (by omega)
theorem AID(n:Nat):(BitVec.ofInt 64 (n:Int)).toNat=n%2^64:=by
 rfl
theorem xy{n:Nat}(h:n<2^63):IntKind.wrap .i64 (n:Int)=n:=AMl (by omega)
theorem AKW{a b:Nat}(ha:a<2^63)(hb:b<2^63):jq .i64 a b=((a &&& b:Nat):Int):=by
 grind[jq,BitVec.ofInt,IntKind.bits,BitVec.toNat_and,AID,Nat.mod_eq_of_lt,xy,Nat.lt_of_le_of_lt,Nat.and_le_left]
theorem AZ{n:Nat}(h:n<2^64):n<AU:=AQM h Xs
theorem Af{α:Type}{l:List α}{i:Nat}{d:α}(h:i<l.length):l.getD ((i:Int).toNat) d=l[i]:=by
 simp_all
theorem drop_cons{α:Type}{l:List α}{i:Nat}(h:i<l.length):l.drop i=l[i]::l.drop (i+1):=(List.getElem_cons_drop h).symm
theorem Ak:C7=68719476736:=rfl
end Go.M
end
section
set_option maxRecDepth 8000
namespace Go.M
def BJ(x a b:Int):Bool:=decide (a<=x/\x<=b)
theorem BU(x a b:Int):CR x a b=some ((BJ x a b,()),()):=by
 unfold CR BJ;grind
theorem BB(x a b:Int):BE x a b=some ((BJ x a b,()),()):=BU x a b
def Gh(x:ABt):Bool:=BJ (x.1.length:Int) 1 8&&(BJ x.2.1 1 4&&x.1.all fun d=>BJ d 0 7)
theorem jT{l:AAO}{c:Int}(hl:l.length<=2^40):∀(n i:Nat),i<=l.length->l.length-i<n->NF n i l c=some (((l.drop i).all fun d=>BJ d 0 7,()),())
 |0,i,_,h=>by omega
 |n+1,i,hi,h=>by
  simp only[NF,aD,AB];by_cases hc:i<l.length
  ·rw[ALi (by omega),ALi (by omega),Af hc,BU,Ab (by omega),drop_cons hc]
   simp only[AMA,ASy];cases hb:BJ l[i] 0 7 with
   |false=>simp
   |true=>
    simp only[AL9,ALm,ANC];rw[show(((i:Nat):Int)+1)=((i+1:Nat):Int)by omega,jT hl n (i+1) (by omega) (by omega)]
  grind
theorem II{x:ABt}(hl:x.1.length<=2^40):G8 x=some ((Gh x,()),()):=by
 unfold G8 Zo Gh;simp only[BU,AMA];cases BJ (x.1.length:Int) 1 8 with
 |false=>simp
 |true=>
  cases BJ x.2.1 1 4 with
  |false=>simp
  |true=>
   grind[jT,AU,AZ]
theorem jc{l:AAO}{c:Int}(hl:l.length<=2^40):∀(n i:Nat),i<=l.length->l.length-i<n->
  Mb n l l.length i l c=some ((((l.drop i).all fun d=>BJ d 0 7)&&(BJ (l.length:Int) 1 8&&BJ c 1 4),()),())
 |0,i,_,h=>by omega
 |n+1,i,hi,h=>by
  simp only[Mb,Zw,AB];by_cases hc:i<l.length
  ·rw[ALi (by omega),ALi (by omega),Af hc,BB,Ab (by omega),drop_cons hc]
   simp only[AMA,ASy];cases hb:BJ l[i] 0 7 with
   |false=>simp
   |true=>
    simp only[AL9,ALm,ANC];rw[show(((i:Nat):Int)+1)=((i+1:Nat):Int)by omega,jc hl n (i+1) (by omega) (by omega)]
  ·rw[ALj (by omega)]
   have:i=l.length:=by omega
   subst this;simp only[BB,AMA,ATN,List.all_nil,ANC];grind
theorem NB{x:ABt}(hl:x.1.length<=2^40):FT x=some ((Gh x,()),()):=by
 unfold FT Z5 Gh;have:=jc (l:=x.1) (c:=x.2.1) hl AU 0 (by omega) (AZ (by omega));grind
theorem Em{x:ABt}(h:Gh x=true):1<=x.1.length/\x.1.length<=8/\1<=x.2.1/\x.2.1<=4/\ ∀d∈x.1,0<=d/\d<=7:=by
 simp only[Gh,BJ,AL8,AM7,ASm]at h;grind
def Bytes(b:AAO):Prop:= ∀c∈b,0<=c/\c<256
theorem wf_i64{c:Int}(h:(Go.Lit.int .i64 c).wf=true): -9223372036854775808<=c/\c<9223372036854775808:=by
 simp only[Go.Lit.wf,AL8,AM7]at h;have h1:Go.IntKind.min .i64= -9223372036854775808:=rfl;simp_all;omega
abbrev Ev:Type:=Int×Int×List UInt8×Unit
abbrev Rdr:Type:=Int×Int×List Ev×Unit
def VW(x:Rdr):Bool:=BJ x.1 1 31&&(BJ x.2.1 1 61&&decide ((x.2.2.1.length:Int)<=120))
theorem RQ(x:Rdr):Ou x=some ((VW x,()),()):=by
 grind[Ou,VW,BU,BJ]
theorem gV(x:Rdr):XW x=some ((VW x,()),()):=RQ x
def Ce(code:AAO)(i:Int):Prop:=0<=i/\i<=code.length
theorem AFz(x:Int):∃v:Int,jq .i64 x 255=v/\0<=v/\v<256:=by
 refine⟨_,rfl,?_⟩;grind[jq,BitVec.ofInt,Go.IntKind.bits,BitVec.toNat_and,Nat.lt_of_le_of_lt,Nat.and_le_right,xy]
section
variable{code:AAO} (hc:code.length<=2^30)
include hc
theorem gX{i h:Int}(hi:Ce code i):∃v i' h',NP code i h=some ((v,()),((code,i',h',()),()))/\0<=v/\v<256/\Ce code i':=by
 unfold NP;simp only[AB];obtain⟨h0,h1⟩:=hi;split
 ·rename_i JN
  rw[ALi ⟨h0,JN⟩,Ab (x:=i+1) (by omega)];obtain⟨v,e,v0,v1⟩:=AFz (AQ (jq .i64 (ARv .i64 ((AQ (AQ (h*6364136223846793005)+1442695040888963407)).fdiv (2^33)) ((AQ (AQ (h*6364136223846793005)+1442695040888963407)).fdiv (2^45))) 255+AQ (code.getD i.toNat 0)));exact⟨v,i+1,_,by rw[e],v0,v1,by omega,by omega⟩
 ·obtain⟨v,e,v0,v1⟩:=AFz (ARv .i64 ((AQ (AQ (h*6364136223846793005)+1442695040888963407)).fdiv (2^33)) ((AQ (AQ (h*6364136223846793005)+1442695040888963407)).fdiv (2^45)))
  exact⟨v,i,_,by rw[e],v0,v1,h0,h1⟩
theorem FI{i h n:Int}(hi:Ce code i)(hn:n<=2^40):∃v i' h',AJ n code i h=some ((v,()),((code,i',h',()),()))/\0<=v/\(0<n->v<n)/\(n<=0->v=0)/\Ce code i':=by
 unfold AJ;simp only[AB];split
 ·grind
 ·split
  ·obtain⟨v,i1,h1,e,v0,v1,K8⟩:=gX hc (h:=h) hi
   rw[e];simp only[AMA];rw[ALj (by omega),Int.tmod_eq_emod_of_nonneg v0];exact⟨_,i1,h1,rfl,Int.emod_nonneg _ (by omega),fun _=>Int.emod_lt_of_pos _ (by omega),by omega,K8⟩
  ·obtain⟨v1,i1,h1,e1,a1,b1,K8⟩:=gX hc (h:=h) hi
   obtain⟨v2,i2,h2,e2,a2,b2,H6⟩:=gX hc (h:=h1) K8;obtain⟨v3,i3,h3,e3,a3,b3,LL⟩:=gX hc (h:=h2) H6;obtain⟨v4,i4,h4,e4,a4,b4,hi4⟩:=gX hc (h:=h3) LL;rw[e1];simp only[AMA];rw[e2];simp only[AMA];rw[e3];simp only[AMA];rw[e4];simp only[AMA];rw[Ab (x:=v1*16777216) (by omega),Ab (x:=v2*65536) (by omega),Ab (x:=v3*256) (by omega),Ab (x:=v1*16777216+v2*65536) (by omega),
    Ab (x:=v1*16777216+v2*65536+v3*256) (by omega),Ab (by omega),ALj (by omega),Int.tmod_eq_emod_of_nonneg (by omega)]
   exact⟨_,i4,h4,rfl,Int.emod_nonneg _ (by omega),fun _=>Int.emod_lt_of_pos _ (by omega),by omega,hi4⟩
theorem rj{i h n:Int}(hi:Ce code i)(hn:n<=2^40):∃v i' h',Av n code i h=some ((v,()),((code,i',h',()),()))/\Ce code i':=by
 unfold Av;obtain⟨v,i1,h1,e,_,_,_,K8⟩:=FI hc (h:=h) hi hn;rw[e];exact⟨_,i1,h1,rfl,K8⟩
theorem LR{i h:Int}{l:AAO}(hi:Ce code i)(hl:l≠[])(hn:l.length<=2^30):∃v i' h',Ch l code i h=some ((v,()),((code,i',h',()),()))/\v∈l/\Ce code i':=by
 unfold Ch;have hp:=AT9.2 hl;obtain⟨v,i1,h1,e,v0,v1,_,K8⟩:=FI hc (h:=h) (n:=l.length) hi (by omega);grind
omit hc in
theorem AGL{n:Nat}:∀(m i:Nat) (h:Int),i<=code.length->code.length-i<m-> ∃h',SH m code h i=some (((),()),((code,0,h',()),()))
 |0,_,_,_,h=>by omega
 |m+1,i,h,hi,hm=>by
  simp only[SH,fh,AB];by_cases JN:i<code.length
  ·rw[ALi (by omega)]
   split
   ·rw[ALi (by omega),As (i:=i) (by omega)]
    exact AGL (n:=n) m (i+1) _ (by omega) (by omega)
   ·exact⟨_,rfl⟩
  ·rw[ALj (by omega)]
   exact⟨_,rfl⟩
theorem AK_:∃h',iM code=some (((),()),((code,0,h',()),())):=by
 unfold iM gb;exact AGL (n:=0) AU 0 _ (by omega) (AZ (by omega))
theorem AZZ:Ce code 0:=⟨by omega,by omega⟩
def iO(l:AAO)(c:Int):Prop:=3<=l.length/\l.length<=7/\1<=c/\c<=3/\ ∀d∈l,0<=d/\d<=4
omit hc in
theorem iO.ok{l:AAO}{c:Int}(h:iO l c):Gh (l,c,())=true:=by
 obtain⟨h1,h2,h3,h4,h5⟩:=h;simp only[Gh,BJ,AL8,AM7,ASm];exact⟨by omega,by omega,fun d hd=>by have:=h5 d hd;omega⟩
theorem mO{N:Nat}(hN:3<=N/\N<=7){c:Int}(h1:1<=c/\c<=3){x1:Int}{x2:AAO}:∀(n k:Nat) (i h:Int) (acc:AAO),Ce code i->k<=N->N-k<n->acc.length=k->(∀d∈acc,0<=d/\d<=4)->
  ∃l c' i' h',JV n N k code i h x1 x2 c acc=some ((((),c',()),()),((code,i',h',()),l,()))/\iO l c'/\Ce code i'
 |0,_,_,_,_,_,_,h,_,_=>by omega
 |n+1,k,i,h,acc,hi,hk,hn,hacc,hd=>by
  simp only[JV,Ut,AB];by_cases JN:k<N
  ·rw[ALi (by omega)]
   obtain⟨v,i1,h1',e,v0,v1,_,K8⟩:=FI hc (h:=h) (n:=5) hi (by omega);rw[e];simp only[AMA];rw[ALi (by rw[Ak];omega),As (i:=k) (by omega)];have:=v1 (by omega);exact mO hN h1 n (k+1) i1 h1' _ K8 (by omega) (by omega) (by simp[hacc]) (fun d hdd=>by
    grind)
  ·rw[ALj (by omega)]
   obtain⟨v,i1,h1',e,K8⟩:=rj hc (h:=h) (n:=2) hi (by omega);rw[e];simp only[AMA];cases v
   ·exact⟨acc,c,i1,h1',rfl,⟨by omega,by omega,h1.1,h1.2,hd⟩,K8⟩
   ·exact⟨acc,2,i1,h1',rfl,⟨by omega,by omega,by omega,by omega,hd⟩,K8⟩
theorem kq{i h:Int}(hi:Ce code i):∃l c' i' h',Mj code i h=some ((((),c',()),()),((code,i',h',()),l,()))/\iO l c'/\Ce code i':=by
 unfold Mj UR;obtain⟨v,i1,h1,e1,a1,b1,_,K8⟩:=FI hc (h:=h) (n:=3) hi (by omega);rw[e1];simp only[AMA];obtain⟨w,i2,h2,e2,a2,b2,_,H6⟩:=FI hc (h:=h1) (n:=5) K8 (by omega);rw[e2];simp only[AMA];have:=b1 (by omega);have:=b2 (by omega);rw[Ab (by omega),Ab (by omega)];obtain⟨N,hN⟩:∃N:Nat,3+w=(N:Int):=⟨(3+w).toNat,by omega⟩;rw[hN];exact mO hc (by omega) (by omega) AU 0 i2 h2 [] H6 (by omega) (AZ (by omega)) rfl (by simp)
theorem AIM{i h:Int}(hi:Ce code i):∃l c' i' h',Tu code i h=some ((((),c',()),()),((code,i',h',()),l,()))/\l.length<=9/\Ce code i':=by
 unfold Tu;obtain⟨l,c,i1,h1,e1,hg,K8⟩:=kq hc (h:=h) hi;rw[e1];simp only[AMA];obtain⟨v,i2,h2,e2,a2,b2,_,H6⟩:=FI hc (h:=h1) (n:=20) K8 (by omega);rw[e2];simp only[AMA];obtain⟨g1,g2,g3,g4,g5⟩:=hg;cases v==0 with
 |true=>
  simp only[AMs];obtain⟨p,i3,h3,e3,hp,LL⟩:=LR hc (h:=h2) (l:=[0,4,5]) H6 (by simp) (by simp);grind
 |false=>
  simp only[ALm];cases v==1 with
  |true=>
   simp only[AMs];obtain⟨p,i3,h3,e3,hp,LL⟩:=LR hc (h:=h2) (l:=[-1,7,8]) H6 (by simp) (by simp);grind
  |false=>
   simp only[ALm];cases v==2 with
   |true=>
    simp only[AMs];obtain⟨p,i3,h3,e3,hp,LL⟩:=LR hc (h:=h2) (l:=[0,8,9]) H6 (by simp) (by simp);rw[e3];simp only[AMA];simp at hp;rw[ALi (by rw[Ak];omega)];grind
   |false=>grind
end
end Go.M
end
section
namespace Go.M.H
open Go.M
def Aa{α:Type}(f:α->Nat):List α->Nat
 |[]=>0
 |x::l=>1+f x+Aa f l
theorem AR{α:Type}{f:α->Nat}:∀{l:List α},l.length<=Aa f l
 |[]=>AOd _
 |x::l=>by
  have:=AR (f:=f) (l:=l);grind[Aa,List.length_cons]
theorem AY{α:Type}{f:α->Nat}{x:α}:∀{l:List α},x∈l->f x<=Aa f l
 |y::l,h=>by
  simp only[Aa];rcases AO3.1 h with rfl|h
  ·omega
  ·have:=AY (f:=f) h
   omega
abbrev AWF:Type:=List Int
abbrev Cw(x:AWF):Nat:=x.length
abbrev AH:Type:=Int×Int×Bool×List UInt8×Unit
abbrev AAg:Go.Fw.Ty:= .cons (.int .i64) (.cons (.int .i64) (.cons .bool (.cons .str (.unit))))
def Ag(x:AH):Nat:=x.2.2.2.1.length
abbrev AL:Type:=List AH×List AH×Int×Unit
abbrev ANN:Go.Fw.Ty:= .cons (.sl AAg) (.cons (.sl AAg) (.cons (.int .i64) (.unit)))
def Al(x:AL):Nat:=Aa Ag x.1+Aa Ag x.2.1
abbrev Cq:Type:=List Int×Bool×Int×Unit
abbrev ACD:Go.Fw.Ty:= .cons (.sl (.int .i64)) (.cons .bool (.cons (.int .i64) (.unit)))
def Bm(x:Cq):Nat:=x.1.length
abbrev AK:Type:=List Cq×Int×Unit
abbrev BF:Type:=List UInt8×List Int×Bool×Unit
abbrev xd:Go.Fw.Ty:= .cons .str (.cons (.sl (.int .i64)) (.cons .bool (.unit)))
def Aw(x:BF):Nat:=x.1.length+x.2.1.length
abbrev AM:Type:=Int×List BF×Unit
abbrev k_:Go.Fw.Ty:= .cons (.int .i64) (.cons (.sl xd) (.unit))
def An(x:AM):Nat:=Aa Aw x.2.1
abbrev BA:Type:=Int×Int×List Int×List AH×Bool×List AAO×Unit
abbrev ASi:Go.Fw.Ty:= .cons (.int .i64) (.cons (.int .i64) (.cons (.sl (.int .i64)) (.cons (.sl AAg) (.cons .bool (.cons (.sl (.sl (.int .i64))) (.unit))))))
def CK(x:BA):Nat:=x.2.2.1.length+Aa Ag x.2.2.2.1+Aa Cw x.2.2.2.2.2.1
abbrev Au:Type:=Int×Int×List UInt8×Unit
abbrev ANg:Go.Fw.Ty:= .cons (.int .i64) (.cons (.int .i64) (.cons .str (.unit)))
def Bp(x:Au):Nat:=x.2.2.1.length
abbrev Ac:Type:=Int×Int×List Au×Unit
abbrev AJt:Go.Fw.Ty:= .cons (.int .i64) (.cons (.int .i64) (.cons (.sl ANg) (.unit)))
def BG(x:Ac):Nat:=Aa Bp x.2.2.1
abbrev BL:Type:=Int×Bool×Int×Int×Bool×List UInt8×Unit
abbrev Aj:Type:=Int×List UInt8×Bool×Unit
abbrev AR3:Go.Fw.Ty:= .cons (.int .i64) (.cons .str (.cons .bool (.unit)))
def Dt(x:Aj):Nat:=x.2.1.length
abbrev AA:Type:=List Int×Int×List AL×List Int×List Cq×Int×List AM×List BA×List Ac×List Aj×Bool×Unit
abbrev aR:Go.Fw.Ty:= .cons (.sl (.int .i64)) (.cons (.int .i64) (.cons (.sl ANN) (.cons (.sl (.int .i64)) (.cons (.sl ACD) (.cons (.int .i64) (.cons (.sl k_) (.cons (.sl ASi) (.cons (.sl AJt) (.cons (.sl AR3) (.cons .bool (.unit)))))))))))
def Ck(x:AA):Nat:=x.1.length+Aa Al x.2.2.1+x.2.2.2.1.length+Aa Bm x.2.2.2.2.1+Aa An x.2.2.2.2.2.2.1+Aa CK x.2.2.2.2.2.2.2.1+Aa BG x.2.2.2.2.2.2.2.2.1+Aa Dt x.2.2.2.2.2.2.2.2.2.1
abbrev Am:Type:=Int×Int×Int×Int×List UInt8×Unit
end Go.M.H
end
section
set_option maxRecDepth 8000
namespace Go.M
open Go.M.H (AA ACD AH AK AL AM AR AY Aa Ac Ag Aj Al An Au Aw BA BF BG Bm Bp CK Ck Cq Cw Dt aR k_ xd)
def CX(p:Nat->Bool)(i:Nat):Nat->Bool
 |0=>true
 |d+1=>p i&&CX p (i+1) d
theorem GP{L:Nat->Int->Option (ABw×Unit)}{len:Nat}{p:Nat->Bool}{fin:Bool}(h1:∀n (i:Nat),i<len->L (n+1) i=cond (p i) (L n ((i+1:Nat):Int)) (some ((false,()),())))(h2:∀n,L (n+1) (len:Int)=some ((fin,()),())):
  ∀d n i,i+d=len->d<n->L n i=some ((CX p i d&&fin,()),())
 |0,n,i,hd,h=>by
  obtain⟨m,rfl⟩:∃m,n=m+1:=⟨n-1,by omega⟩;have:i=len:=by omega
  subst this;rw[h2];rfl
 |d+1,n,i,hd,h=>by
  obtain⟨m,rfl⟩:∃m,n=m+1:=⟨n-1,by omega⟩;rw[h1 m i (by omega)];simp only[CX];cases p i with
  |false=>rfl
  |true=>rw[AMs,GP h1 h2 d m (i+1) (by omega) (by omega)];rfl
theorem N5{p:Nat->Bool}:∀{d i:Nat},CX p i d=true-> ∀j,i<=j->j<i+d->p j=true
 |0,i,_,j,h1,h2=>by omega
 |d+1,i,h,j,h1,h2=>by
  simp only[CX,AL8]at h;by_cases hj:j=i
  ·simp_all
  ·exact N5 h.2 j (by omega) (by omega)
theorem fH{p q:Nat->Bool}:∀{d i:Nat},(∀j,i<=j->j<i+d->p j=q j)->CX p i d=CX q i d
 |0,_,_=>rfl
 |d+1,i,h=>by
  simp only[CX];rw[h i (by omega) (by omega),fH fun j h1 h2=>h j (by omega) (by omega)]
theorem we{p:Nat->Bool}:∀{d i:Nat},(∀j,i<=j->j<i+d->p j=true)->CX p i d=true
 |0,_,_=>rfl
 |d+1,i,h=>by
  simp only[CX,AL8];exact⟨h i (by omega) (by omega),we fun j h1 h2=>h j (by omega) (by omega)⟩
def VT(x:Int):Int:=x.tdiv 4294967296
def Az(x:Int):Bool:=BJ (VT x) 1 30&&BJ (x.tmod 4294967296) 1 60
def Ah(x:Int):Int:=if Az x then VT x else 0
theorem pY{x:Int}(h: -9223372036854775808<=x/\x<9223372036854775808):AQ (x.tdiv 4294967296)=VT x:=by
 grind[VT,ZR,Int.lt_or_le,Int.neg_tdiv,Int.tdiv_eq_ediv_of_nonneg]
theorem lF{x:Int}(h:Az x=true):0<x/\x<2^40:=by
 simp only[Az,BJ,AL8,AM7]at h;grind[VT,Int.lt_or_le,Int.neg_tdiv,Int.tdiv_eq_ediv_of_nonneg,Int.tmod_eq_emod_of_nonneg]
def Bi(x:Int):Prop:= -9223372036854775808<=x/\x<9223372036854775808
theorem FR{x:Int}(h:Bi x):Ft x=some ((Az x,()),()):=by
 unfold Ft;rw[pY h,AB];split
 ·grind[BU,Az,BJ,VT]
 ·rename_i h0
  rcases ALh (Az x)with hp|hp
  ·exact absurd (lF hp).1 (by omega)
  ·rw[hp]
theorem JM{x:Int}(h:Bi x):DO x=some ((Az x,()),()):=by
 unfold DO IP bj;rw[pY h];grind[BB,Az,BJ,VT]
theorem D5{x:Int}(h:Bi x):B3 x=some ((Ah x,()),()):=by
 unfold B3 Ah;rw[FR h,pY h];grind
theorem D6{x:Int}(h:Bi x):Es x=some ((Ah x,()),()):=by
 unfold Es Ah;rw[JM h,pY h];grind
theorem ea{x:Int}:(Az x=true->1<=Ah x/\Ah x<=30)/\(Az x=false->Ah x=0):=by
 constructor
 ·intro h
  rw[Ah,ALi h];simp only[Az,BJ,AL8,AM7]at h;omega
 grind[Ah]
def AAa(l:AAO)(hi:Int)(i:Nat):Bool:=BJ (l.getD i 0) 0 hi&&(i==0||decide (l.getD (i-1) 0<l.getD i 0))
def xS(l:AAO)(hi:Int):Bool:=CX (AAa l hi) 0 l.length
theorem mS{l:AAO}{hi:Int}(hl:l.length<=2^40):cE l 0 hi=some ((xS l hi,()),()):=by
 unfold cE fp xS;rw[<-AQp (CX _ _ _)];refine GP (L:=fun n i=>Oh n l 0 hi i) (len:=l.length) (p:=AAa l hi) (fin:=true) (fun n i Ds=> ?_) (fun n=> ?_) l.length AU 0 (by omega) (AZ (by omega))
 ·simp only[Oh,Wx,AB]
  rw[ALi (by omega),ALi (by omega),BU,Ab (x:=(i:Int)+1) (by omega)];simp only[AMA,AMn,AAa];cases BJ (l.getD i 0) 0 hi with
  |false=>rfl
  |true=>
   simp only[AL9,ALm,ANC];by_cases h0:i=0
   ·simp_all
   ·rw[ALi (by omega),Ab (by omega),ALi (by omega),ALi (by omega)]
    have h1:((i:Int)-1).toNat=i-1:=by omega
    have h2:(i==0)=false:=by simp_all
    rw[h1,h2,APU];grind
 ·simp only[Oh,Wx,AB]
  simp_all
theorem ug{l:AAO}{hi:Int}(hl:l.length<=2^40):ak l hi=some ((xS l hi,()),()):=by
 unfold ak bZ xS;rw[<-AQp (CX _ _ _)];refine GP (L:=fun n i=>K_ n l hi l l.length i) (len:=l.length) (p:=AAa l hi) (fin:=true) (fun n i Ds=> ?_) (fun n=> ?_) l.length AU 0 (by omega) (AZ (by omega))
 ·simp only[K_,S7,AB]
  rw[ALi (by omega),ALi (by omega),BB,Ab (x:=(i:Int)+1) (by omega)];simp only[AMA,AMn,AAa];cases BJ (l.getD i 0) 0 hi with
  |false=>rfl
  |true=>
   simp only[AL9,ALm,ANC];by_cases h0:i=0
   ·simp_all
   ·rw[ALi (by omega),Ab (by omega),ALi (by omega)]
    have h1:((i:Int)-1).toNat=i-1:=by omega
    have h2:(i==0)=false:=by simp_all
    rw[h1,h2,APU];grind
 ·simp only[K_,S7,AB]
  simp_all
theorem ACn{l:AAO}{hi:Int}(h:xS l hi=true):∀x∈l,0<=x/\x<=hi:=fun x hx=>by
 obtain⟨i,Ds,rfl⟩:=AQD hx;have:=N5 h i (by omega) (by omega);simp only[AAa,BJ,AL8,AM7]at this;simp_all
theorem AGt{l:AAO}{hi:Int}(h:xS l hi=true):∀i,i<l.length->(i:Int)<=l.getD i 0
 |0,hl=>by
  have:=N5 h 0 (by omega) (by omega);simp only[AAa,BJ,AL8,AM7]at this;omega
 |i+1,hl=>by
  have h1:=AGt h i (by omega);have:=N5 h (i+1) (by omega) (by omega);simp only[AAa,AL8,AR1,AM7]at this;grind
theorem AK6{l:AAO}{hi:Int}(h:xS l hi=true)(h0:0<=hi+1):(l.length:Int)<=hi+1:=by
 by_cases hl:l.length=0
 ·omega
 ·have h1:=AGt h (l.length-1) (by omega)
  have h2:=ACn h (l.getD (l.length-1) 0) (by
   grind)
  omega
def BI(c:ABt)(l:AAO):Bool:=Gh c&&xS l ((c.1.length:Int)-1)
theorem Hk{c:ABt}{l:AAO}(hc:c.1.length<=2^40)(hl:l.length<=2^40):HW c l=some ((BI c l,()),()):=by
 unfold HW BI;rw[DE c,II hc,Ab (by omega)];simp only[AMA];cases Gh c with
 |false=>rfl
 |true=>
  rw[AMs,mS hl];rfl
theorem EV{c:ABt}{l:AAO}(hc:c.1.length<=2^40)(hl:l.length<=2^40):EP c l=some ((BI c l,()),()):=by
 unfold EP BI;rw[DE c,NB hc,Ab (by omega)];simp only[AMA];cases Gh c with
 |false=>rfl
 |true=>
  rw[AMs,ug hl];rfl
theorem iF{c:ABt}{l:AAO}(h:BI c l=true):Gh c=true/\c.1.length<=8/\l.length<=8/\(∀x∈l,0<=x/\x<c.1.length)/\ ∀d∈c.1,0<=d/\d<=7:=by
 simp only[BI,AL8]at h;obtain⟨k1,k2,k3,k4,k5⟩:=Em h.1;have h1:=AK6 h.2 (by omega);exact⟨h.1,k2,by omega,fun x hx=>by have:=ACn h.2 x hx;omega,k5⟩
theorem AGH{l:AAO}{x:Int}(hl:l.length<=2^40):∀(n i:Nat),i<=l.length->l.length-i<n->(∀y∈l.take i,y≠x)->
  ∃r:Int,Gw n l x l.length i=some ((r,()),())/\decide (r>=0)=l.contains x
 |0,_,_,h,_=>by omega
 |n+1,i,hi,h,hx=>by
  simp only[Gw,Qc,AB];by_cases hc:i<l.length
  ·rw[ALi (by omega),ALi (by omega),Af hc,Ab (by omega)]
   by_cases he:x=l[i]
   ·simp_all
   ·obtain⟨r,e1,e2⟩:=AGH hl n (i+1) (by omega) (by omega) (fun y hy=>by
     rw[AR8 hc]at hy;rcases AOK.1 hy with hy|hy
     ·exact hx y hy
     grind)
    grind
  ·rw[ALj (by omega)]
   grind
theorem J2{l:AAO}{x:Int}(hl:l.length<=2^40):Bt l x=some ((l.contains x,()),()):=by
 unfold Bt Qd Qi;obtain⟨r,e1,e2⟩:=AGH (x:=x) hl AU 0 (by omega) (AZ (by omega)) (by simp);simp_all
def oL(c:AAO):List Int->List Int->List Int
 |[],acc=>acc
 |n::l,acc=>oL c l (if acc.contains (c.getD n.toNat 0)then acc else acc++[c.getD n.toNat 0])
def ic(c:AAO)(l:AAO):Nat:=(oL c l []).length
theorem fM{c:AAO}{q:Int}{l:AAO}(hl:l.length<=8)(hm:∀x∈l,0<=x/\x<c.length):∀(n i:Nat) (acc:AAO),i<=l.length->l.length-i<n->acc.length<=i->
  Qa n l l.length i c q acc=some ((((oL c (l.drop i) acc).length:Int),()),())
 |0,i,_,_,h,_=>by omega
 |n+1,i,acc,hi,h,ha=>by
  simp only[Qa,eI,AB];by_cases hc:i<l.length
  ·have hx:=hm _ (AM9 hc)
   rw[ALi (by omega),ALi (by omega),Af hc,drop_cons hc]
   generalize l[i]=x at hx
   rw[ALi (by omega),J2 (by omega),As (i:=i) (by omega)];simp only[AMA,oL];cases AVW:acc.contains (c.getD x.toNat 0)with
   |true=>
    simp only[AL9,ALm,AQm];exact fM hl hm n (i+1) acc (by omega) (by omega) (by omega)
   |false=>
    simp only[APP,AMs,AMx,API];rw[ALi (by omega),ALi (by rw[Ak];omega)];exact fM hl hm n (i+1) _ (by omega) (by omega) (by simp_all)
  ·rw[ALj (by omega)]
   grind[oL]
theorem vj{c:ABt}{l:AAO}(hc:c.1.length<=2^40)(hl:l.length<=2^40):dI c l=some ((if BI c l then(ic c.1 l:Int)else-1,()),()):=by
 unfold dI dG;rw[DE c,EV hc hl];simp only[AMA];cases h:BI c l with
 |false=>rfl
 |true=>
  obtain⟨k1,k2,k3,k4,k5⟩:=iF h;grind[fM,AU,AZ,ic]
theorem AE8{s:List Bool}{k j:Nat}{b:Bool}(h:k<s.length):(s.set k b).getD j false=if k=j then b else s.getD j false:=by
 grind
theorem ec{c:AAO}{q:Int}{l:AAO}(hl:l.length<=8)(hd:∀d∈c,0<=d/\d<=7)(hm:∀x∈l,0<=x/\x<c.length):∀(n i:Nat) (acc:AAO) (s:List Bool),i<=l.length->l.length-i<n->acc.length<=i->s.length=8->
  (∀j:Nat,j<8->s.getD j false=acc.contains (j:Int))->
  Qk n l acc.length i c q s=some ((((oL c (l.drop i) acc).length:Int),()),())
 |0,i,_,_,_,h,_,_,_=>by omega
 |n+1,i,acc,s,hi,h,ha,hs,hj=>by
  simp only[Qk,eS,AB];by_cases hc:i<l.length
  ·have hx:=hm _ (AM9 hc)
   rw[ALi (by omega),ALi (by omega),Af hc,drop_cons hc]
   generalize l[i]=x at hx
   rw[ALi (by omega)];have AbM:0<=c.getD x.toNat 0/\c.getD x.toNat 0<=7:=by
    simp_all
   simp only[oL]
   generalize c.getD x.toNat 0=d at AbM
   rw[ALi (by omega),As (i:=i) (by omega)];have hsd:s.getD d.toNat false=acc.contains d:=by
    grind
   rw[hsd];cases AVW:acc.contains d with
   |true=>
    simp only[AL9,ALm,AQm];exact ec hl hd hm n (i+1) acc s (by omega) (by omega) (by omega) hs hj
   |false=>
    simp only[APP,AMs,AMx,API];rw[ALi (by omega),Ab (by omega)];have:=ec (q:=q) hl hd hm n (i+1) (acc++[d]) (s.set d.toNat true) (by omega) (by omega) (by simp_all) (by simp_all) (fun j hj8=>by
     rw[AE8 (by omega),hj j hj8];grind)
    simp_all
  ·rw[ALj (by omega)]
   grind[oL]
theorem kM{c:ABt}{l:AAO}(h:BI c l=true):YS c l=some (((ic c.1 l:Int),()),()):=by
 obtain⟨k1,k2,k3,k4,k5⟩:=iF h;unfold YS dS;have:=ec (c:=c.1) (q:=c.2.1) k3 k5 k4 AU 0 [] (List.replicate 8 false) (by omega) (AZ (by omega)) (by simp) (by simp) (fun j hj=>by
  grind)
 grind[ic]
def holds(c:ABt)(l:AAO):Bool:=BI c l&&decide ((ic c.1 l:Int)>=c.2.1)
theorem ED{c:ABt}{l:AAO}(hc:c.1.length<=2^40)(hl:l.length<=2^40):FP c l=some ((holds c l,()),()):=by
 unfold FP holds;rw[DE c,Hk hc hl];simp only[AMA];cases h:BI c l with
 |false=>rfl
 |true=>
  rw[AMs,kM h];rfl
theorem G6{c:ABt}{l:AAO}(hc:c.1.length<=2^40)(hl:l.length<=2^40):HP c l=some ((holds c l,()),()):=by
 unfold HP holds;rw[DE c,EV hc hl,vj hc hl];simp only[AMA];cases h:BI c l<;>rfl
theorem YF{c:ABt}{l:AAO}(h:holds c l=true):BI c l=true:=by
 simp only[holds,AL8]at h;exact h.1
abbrev Ca:Type:=List Int×Int×Unit
def Hu:Cq:=([],false,0,())
def xJ(c:Ca)(e:Cq):Bool:=holds c e.1&&(BJ e.2.2.1 0 60&&(e.2.1||e.2.2.1==0))
theorem yd{c:Ca}{e:Cq}(hc:c.1.length<=2^40)(hl:e.1.length<=2^40):ik c e=some ((xJ c e,()),()):=by
 unfold ik xJ;rw[DE c,G6 hc hl];grind[BB,holds,BJ]
def AA9(c:Ca)(l:List Cq)(i:Nat):Bool:=
 xJ c (l.getD i Hu)&& !((l.getD i Hu).2.1&&(decide (i+1=l.length)||(decide (0<i)&& !(l.getD (i-1) Hu).2.1)))
def ny(r:AK):Bool:=r.2.1==0||(Az r.2.1&&decide (Ah r.2.1<=r.1.length))
def QT(c:Ca)(r:AK):Bool:=Gh c&&(decide (r.1.length<=30)&&(ny r&&CX (AA9 c r.1) 0 r.1.length))
theorem BN{α:Type}{l:List α}{i:Nat}{d:α}(h:i<l.length):l.getD i d∈l:=by
 simp_all
theorem t_{c:Ca}{l:List Cq}{tr:Int}(hc:c.1.length<=2^40)(hl:Aa Bm l<=2^30):L7 AU l.length 0 c.1 c.2.1 l tr=some ((CX (AA9 c l) 0 l.length,()),()):=by
 have hll:=AR (f:=Bm) (l:=l);rw[<-AQp (CX _ _ _)];refine GP (L:=fun n i=>L7 n l.length i c.1 c.2.1 l tr) (len:=l.length) (p:=AA9 c l) (fin:=true) (fun n i hi=> ?_) (fun n=> ?_) l.length AU 0 (by omega) (AZ (by omega))
 ·have hm:=AY (f:=Bm) (BN (d:=Hu) hi)
  simp only[Bm]at hm;simp only[L7,XM,AB];rw[ALi (by omega),ALi (by omega),DE c,AMn,show(([],false,0,()):Cq)=Hu from rfl,ED hc (by omega),BU,Ab (x:=(i:Int)+1) (by omega),
   Ab (x:=(l.length:Int)-1) (by omega),Ab (x:=(i:Int)-1) (by omega),show((i:Int)+1)=((i+1:Nat):Int)by omega]
  simp only[AMA,AA9,xJ];have e1:((i:Int)==(l.length:Int)-1)=decide (i+1=l.length):=by
   grind
  have e2:(((i:Int)-1).toNat)=i-1:=by omega
  grind
 ·simp only[L7,XM,AB]
  simp_all
theorem SM{c:Ca}{r:AK}(hc:c.1.length<=2^40)(hl:Aa Bm r.1<=2^30)(ht:Bi r.2.1):Nx c r=some ((QT c r,()),()):=by
 unfold Nx gC QT ny;rw[DE c,II hc,t_ hc hl,FR ht,D5 ht];grind
theorem Og{c:Ca}{r:AK}(hc:c.1.length<=2^40)(hl:Aa Bm r.1<=2^30)(ht:Bi r.2.1):L3 c r=some ((QT c r,()),()):=by
 have hll:=AR (f:=Bm) (l:=r.1);have AJ9:Lw AU r.1 r.1.length 0 c.1 c.2.1 r.1 r.2.1=some ((CX (AA9 c r.1) 0 r.1.length&&(Gh c&&(decide (r.1.length<=30)&&ny r)),()),()):=by
  refine GP (L:=fun n i=>Lw n r.1 r.1.length i c.1 c.2.1 r.1 r.2.1) (len:=r.1.length) (p:=AA9 c r.1) (fin:=Gh c&&(decide (r.1.length<=30)&&ny r)) (fun n i hi=> ?_) (fun n=> ?_) r.1.length AU 0 (by omega) (AZ (by omega))
  ·have hm:=AY (f:=Bm) (BN (d:=Hu) hi)
   simp only[Bm]at hm;simp only[Lw,Wn,AB];rw[ALi (by omega),ALi (by omega),DE c,AMn,show(([],false,0,()):Cq)=Hu from rfl];rw[show((r.1.getD i Hu).1,(r.1.getD i Hu).2.1,(r.1.getD i Hu).2.2.1,())=r.1.getD i Hu from rfl,yd hc (by omega),Ab (x:=(i:Int)+1) (by omega),
    Ab (x:=(r.1.length:Int)-1) (by omega),Ab (x:=(i:Int)-1) (by omega),show((i:Int)+1)=((i+1:Nat):Int)by omega]
   simp only[AMA,AA9];have e1:((i:Int)==(r.1.length:Int)-1)=decide (i+1=r.1.length):=by
    grind
   have e2:(((i:Int)-1).toNat)=i-1:=by omega
   grind
  ·simp only[Lw,Wn]
   rw[show decide ((r.1.length:Int)<(r.1.length:Int))=false by simp,DE c,NB hc,D6 ht];simp only[ALm,AMA,BB,ny];have e1:decide ((r.1.length:Int)<=30)=decide (r.1.length<=30):=by
    grind
   rw[e1];have e4:BJ (Ah r.2.1) 1 (r.1.length:Int)=(Az r.2.1&&decide (Ah r.2.1<=(r.1.length:Int))):=by
    have hr:=ea (x:=r.2.1);unfold BJ;grind
   grind
 grind[L3,fZ,QT,Gh,decide,ny,CX,AA9]
def AK8(b:Bool):Int:=if b then 1 else 0
theorem uw(b:Bool):gu b=some ((AK8 b,()),()):=by cases b<;>rfl
def NQ:BF:=([],[],false,())
def aO(c:Ca)(e:BF):Bool:=decide (e.1.length<=40)&&(BI c e.2.1&&(e.2.2.1==holds c e.2.1))
def Tz:List BF->Nat
 |[]=>0
 |e::l=>cond e.2.2.1 0 1+Tz l
def le6(n:Nat):Bool:=decide (n<=6)
theorem AGe(o:Nat):decide ((o:Int)<=6)=le6 o:=by
 grind[le6]
def EW(c:Ca)(w:AM):Bool:=Gh c&&(BJ w.1 1 30&&(decide (w.2.1.length<=60)&&(w.2.1.all (aO c)&&le6 (Tz w.2.1))))
theorem jf{c:Ca}{ep:Int}{l:List BF}(hc:c.1.length<=2^40)(hl:Aa Aw l<=2^30):∀(n i o:Nat),i<=l.length->l.length-i<n->o<=i->
  M9 n o i c.1 c.2.1 ep l=some (((l.drop i).all (aO c)&&le6 (o+Tz (l.drop i)),()),())
 |0,i,_,_,h,_=>by omega
 |n+1,i,o,hi,h,ho=>by
  have hll:=AR (f:=Aw) (l:=l);simp only[M9,Zn,AB];by_cases vK:i<l.length
  ·have hm:=AY (f:=Aw) (AM9 vK)
   rw[ALi (by omega),ALi (by omega),Af vK,drop_cons vK];have ih:=fun o=>jf (ep:=ep) hc hl n (i+1) o (by omega) (by omega)
   generalize l[i]=e at hm
   simp only[Aw]at hm;rw[DE c,Hk hc (by omega),ED hc (by omega),Ab (x:=(i:Int)+1) (by omega),Ab (x:=(o:Int)+1) (by omega),show((i:Int)+1)=((i+1:Nat):Int)by omega,show((o:Int)+1)=((o+1:Nat):Int)by omega];simp only[AMA,ASy,aO,Tz];by_cases h40:e.1.length<=40
   ·rw[ALj (by omega),AOW h40,ih o (by omega),ih (o+1) (by omega)]
    cases BI c e.2.1 with
    |false=>rfl
    |true=>
     cases hd:e.2.2.1 with
     |true=>
      grind
     |false=>
      grind
   grind
  ·rw[ALj (by omega)]
   grind[Tz,AGe]
theorem Gt{c:Ca}{w:AM}(hc:c.1.length<=2^40)(hl:Aa Aw w.2.1<=2^30):Jo c w=some ((EW c w,()),()):=by
 have hll:=AR (f:=Aw) (l:=w.2.1);unfold Jo Z8 EW;have h:=jf (ep:=w.1) hc hl AU 0 0 (by omega) (AZ (by omega)) (by omega);rw[show((0:Nat):Int)=0 from rfl]at h;rw[DE c,II hc,BU,h];grind
theorem jX{c:Ca}{ep:Int}{l:List BF}(hc:c.1.length<=2^40)(hl:Aa Aw l<=2^30):∀(n i o:Nat),i<=l.length->l.length-i<n->o<=i->
  NH n o l l.length i c.1 c.2.1 ep l=some (((l.drop i).all (aO c)&&(Gh c&&(BJ ep 1 30&&(decide (l.length<=60)&&le6 (o+Tz (l.drop i))))),()),())
 |0,i,_,_,h,_=>by omega
 |n+1,i,o,hi,h,ho=>by
  have hll:=AR (f:=Aw) (l:=l);simp only[NH,Z3];by_cases vK:i<l.length
  ·have hm:=AY (f:=Aw) (AM9 vK)
   rw[show decide ((i:Int)<(l.length:Int))=true by simp_all,AMs,ALi (by omega),Af vK,drop_cons vK];have ih:=fun o=>jX (ep:=ep) hc hl n (i+1) o (by omega) (by omega)
   generalize l[i]=e at hm
   simp only[Aw]at hm;rw[DE c,EV hc (by omega),G6 hc (by omega),uw,As (i:=i) (by omega)];simp only[AMA,ASy,aO,Tz,G1];have e40:decide ((e.1.length:Int)<=40)=decide (e.1.length<=40):=by
    grind
   rw[e40];cases hd:e.2.2.1 with
   |true=>
    rw[show AQ ((o:Int)+AK8 (!true))=(o:Int)by rw[AL9,show AK8 false=0 from rfl,Int.add_zero,Ab (by omega)],ih o (by omega)];grind
   |false=>
    rw[show AQ ((o:Int)+AK8 (!false))=((o+1:Nat):Int)by rw[APP,show AK8 true=1 from rfl,Ab (by omega)];omega,ih (o+1) (by omega)];grind
  ·have:i=l.length:=by omega
   subst this;rw[show decide (((l.length:Nat):Int)<(l.length:Int))=false by simp,DE c,NB hc];simp only[ALm,AMA,IP,BB,ATN,List.all_nil,Tz,ATL,ANC];grind[decide,AGe,Gh,BJ]
theorem J6{c:Ca}{w:AM}(hc:c.1.length<=2^40)(hl:Aa Aw w.2.1<=2^30):IM c w=some ((EW c w,()),()):=by
 have hll:=AR (f:=Aw) (l:=w.2.1);unfold IM Zx EW;have h:=jX (ep:=w.1) hc hl AU 0 0 (by omega) (AZ (by omega)) (by omega);grind
theorem fL{c:Ca}{w:AM}(h:EW c w=true):Gh c=true/\(1<=w.1/\w.1<=30)/\w.2.1.length<=60/\ ∀e∈w.2.1,aO c e=true:=by
 simp only[EW,BJ,AL8,AM7,ASm]at h;simp_all
theorem pB{c:Ca}{e:BF}(h:aO c e=true):e.1.length<=40/\e.2.1.length<=8/\(∀x∈e.2.1,0<=x/\x<8)/\e.2.2.1=holds c e.2.1:=by
 simp only[aO,AL8,AM7,ASQ]at h;obtain⟨k1,k2,k3,k4,k5⟩:=iF h.2.1;grind
theorem AF8(a b:Int):decide (a<=b)= !decide (b<a):=by
 grind
theorem AV0(n k:Nat):decide ((n:Int)<=(k:Int))=decide (n<=k):=by
 simp_all
theorem AF4(n k:Nat):decide ((n:Int)>(k:Int))= !decide (n<=k):=by
 grind
def Cc(x:Int):Int:=cond (Az x) (x.tmod 4294967296) 0
theorem XT{x:Int}(h:Bi x):Ek x=some ((Cc x,()),()):=by
 grind[Ek,Cc,FR,Az]
theorem SA{x:Int}(h:Bi x):TU x=some ((Cc x,()),()):=by
 grind[TU,Cc,JM,Az]
abbrev D_:AH:=(0,0,false,[],())
def Ga(e:AH):Bool:=Az e.1&&(BJ e.2.1 0 30&&((!decide (e.2.1>0)||decide (Ah e.1<e.2.1))&&(decide (e.2.2.2.1.length<=40)&&(!e.2.2.1||(decide (e.2.1>0)&&e.2.2.2.1==[])))))
theorem Si{e:AH}(h:Bi e.1):NZ e=some ((Ga e,()),()):=by
 unfold NZ Ga;grind[FR,BU,D5,AF8,Ah,decide,AF4,Az,BJ]
theorem AV9{x:Int}(h:BJ x 0 30=true):(x==0)= !decide (x>0):=by
 simp only[BJ,AM7]at h;grind
theorem Sq{e:AH}(h:Bi e.1):NW e=some ((Ga e,()),()):=by
 unfold NW Ga G1;rw[JM h,BB,D6 h];simp only[AMA];rw[show decide ((e.2.2.2.1.length:Int)<=40)=decide (e.2.2.2.1.length<=40)from AV0 _ 40,show decide (e.2.1>Ah e.1)=decide (Ah e.1<e.2.1)from rfl];rcases ALh (BJ e.2.1 0 30)with hi|hi
 all_goals grind[AV9,Az,decide,Ah]
def bU(l:List AH):Bool:=CX (fun i=>Ga (l.getD i D_)) 0 l.length
def o9(l:List AH):Bool:=CX (fun i=>i==0||decide ((l.getD (i-1) D_).1<(l.getD i D_).1)) 0 l.length
def mF(l:List AH):Prop:= ∀e∈l,Bi e.1
theorem mF.getD{l:List AH}(h:mF l){i:Nat}(hi:i<l.length):Bi (l.getD i D_).1:=h _ (BN hi)
theorem kJ{l:List AH}{k:Nat}(hl:l.length<=2^40)(h:mF l):YW l k=some ((decide (l.length<=k)&&bU l,()),()):=by
 unfold YW eF;have:=GP (L:=fun n i=>Mi n l i) (len:=l.length) (p:=fun i=>Ga (l.getD i D_)) (fin:=true) (fun n i hi=>by
  simp only[Mi,VL,AB];rw[ALi (by omega),ALi (by omega),As (i:=i) (by omega)];simp only[AMn];rw[show((l.getD i (0,0,false,[],())).1,(l.getD i (0,0,false,[],())).2.1,(l.getD i (0,0,false,[],())).2.2.1,(l.getD i (0,0,false,[],())).2.2.2.1,())=l.getD i D_ from rfl,Si (h.getD hi)];simp_all) (fun n=>by
  simp only[Mi,VL,AB];simp_all) l.length AU 0 (by omega) (AZ (by omega))
 rw[show((0:Nat):Int)=0 from rfl]at this;rw[this,AF4,AQp];cases decide (l.length<=k)<;>rfl
theorem mR{l:List AH}(hl:l.length<=2^40):bM l=some ((o9 l,()),()):=by
 unfold bM gN o9;have h1:∀n (i:Nat),0<i->i<l.length->HB (n+1) l i=cond (i==0||decide ((l.getD (i-1) D_).1<(l.getD i D_).1)) (HB n l ((i+1:Nat):Int)) (some ((false,()),())):=fun n i h0 hi=>by
  simp only[HB,Q4,AB];rw[ALi (by omega),Ab (x:=(i:Int)-1) (by omega),ALi (by omega),ALi (by omega),As (i:=i) (by omega)];have h1:((i:Int)-1).toNat=i-1:=by omega
  have h2:(i==0)=false:=by grind
  rw[h1,h2,AMn,APU];grind
 cases hlen:l.length with
 |zero=>
  obtain⟨m,hm⟩:∃m,AU=m+1:=⟨AU-1,by have:=Xs;omega⟩;rw[hm];simp only[HB,Q4,AB];rw[ALj (by omega)];rfl
 |succ k=>
  have:=GP (L:=fun n i=>if(0:Int)<i then HB n l i else cond (decide (0<n)) (HB (n-1) l 1) none) (len:=l.length) (p:=fun i=>i==0||decide ((l.getD (i-1) D_).1<(l.getD i D_).1)) (fin:=true) (fun n i hi=>by
   simp_all) (fun n=>by
   rw[ALi (by omega)];simp only[HB,Q4,AB];simp_all) l.length (AU+1) 0 (by omega) (by have:=Xs;omega)
  simp_all
theorem eL{l:List AH}(hl:l.length<=2^40)(h:mF l):P_ l=some ((bU l,()),()):=by
 unfold P_ YH;have:=GP (L:=fun n i=>JB n l l.length i) (len:=l.length) (p:=fun i=>Ga (l.getD i D_)) (fin:=true) (fun n i hi=>by
  simp only[JB,P8,AB];rw[ALi (by omega),ALi (by omega),As (i:=i) (by omega)];simp only[AMn];rw[show((l.getD i (0,0,false,[],())).1,(l.getD i (0,0,false,[],())).2.1,(l.getD i (0,0,false,[],())).2.2.1,(l.getD i (0,0,false,[],())).2.2.2.1,())=l.getD i D_ from rfl,Sq (h.getD hi)];simp_all) (fun n=>by
  simp only[JB,P8,AB];simp_all) l.length AU 0 (by omega) (AZ (by omega))
 rw[show((0:Nat):Int)=0 from rfl]at this;rw[this,AQp];rfl
theorem Yi{l:List AH}(hl:l.length<=2^40):Ll l=some ((o9 l,()),()):=by
 unfold Ll Tq;have:=GP (L:=fun n i=>Gr n l l l.length i) (len:=l.length) (p:=fun i=>i==0||decide ((l.getD (i-1) D_).1<(l.getD i D_).1)) (fin:=true) (fun n i hi=>by
  simp only[Gr,M3,AB];rw[ALi (by omega),ALi (by omega),As (i:=i) (by omega)];by_cases h0:i=0
  ·simp_all
  ·rw[ALi (by omega),Ab (by omega),ALi (by omega)]
   have h1:((i:Int)-1).toNat=i-1:=by omega
   have h2:(i==0)=false:=by simp_all
   rw[h1,h2,AMn,APU];grind) (fun n=>by
  simp only[Gr,M3,AB];simp_all) l.length AU 0 (by omega) (AZ (by omega))
 rw[show((0:Nat):Int)=0 from rfl]at this;rw[this,AQp];rfl
def CS(s:AL):Bool:=(decide (s.1.length<=200)&&bU s.1)&&((decide (s.2.1.length<=20)&&bU s.2.1)&&(o9 s.1&&BJ s.2.2.1 0 30))
def pr(s:AL):Prop:=mF s.1/\mF s.2.1
theorem Gf{s:AL}(hl:Al s<=2^30)(h:pr s):HR s=some ((CS s,()),()):=by
 have l1:=AR (f:=Ag) (l:=s.1);have l2:=AR (f:=Ag) (l:=s.2.1);unfold Al at hl;have e1:=kJ (l:=s.1) (k:=200) (by omega) h.1;have e2:=kJ (l:=s.2.1) (k:=20) (by omega) h.2;rw[show((200:Nat):Int)=200 from rfl]at e1;rw[show((20:Nat):Int)=20 from rfl]at e2;grind[HR,CS,mR,BU,decide,bU,o9]
theorem FW{s:AL}(hl:Al s<=2^30)(h:pr s):Fq s=some ((CS s,()),()):=by
 have l1:=AR (f:=Ag) (l:=s.1);have l2:=AR (f:=Ag) (l:=s.2.1);unfold Al at hl;unfold Fq CS;rw[eL (by omega) h.1,eL (by omega) h.2,Yi (by omega),BB,show decide ((s.1.length:Int)>200)= !decide (s.1.length<=200)from AF4 _ 200,show decide ((s.2.1.length:Int)>20)= !decide (s.2.1.length<=20)from AF4 _ 20];grind
theorem r_{L:Nat->Int->Option (ABw×Unit)}{len N:Nat}{p:Nat->Bool}{fin:Bool}(h1:∀n (i:Nat),i<len->L (n+1) i=cond (p i) (L n ((i+1:Nat):Int)) (some ((false,()),())))(h2:∀n,N<=n->L (n+1) (len:Int)=some ((fin,()),())):
  ∀d n i,i+d=len->d+N<n->L n i=some ((CX p i d&&fin,()),())
 |0,n,i,hd,h=>by
  obtain⟨m,rfl⟩:∃m,n=m+1:=⟨n-1,by omega⟩;have:i=len:=by omega
  subst this;rw[h2 m (by omega)];rfl
 |d+1,n,i,hd,h=>by
  obtain⟨m,rfl⟩:∃m,n=m+1:=⟨n-1,by omega⟩;rw[h1 m i (by omega)];simp only[CX];cases p i with
  |false=>rfl
  |true=>rw[AMs,r_ h1 h2 d m (i+1) (by omega) (by omega)];rfl
def QQ(l:List AH):Int:=cond (l.length==0) 0 (Cc (l.getD (l.length-1) D_).1)
theorem j_{m:BA}(hl:m.2.2.2.1.length<=2^40)(h:mF m.2.2.2.1):Tv m=some ((QQ m.2.2.2.1,()),()):=by
 unfold Tv QQ;by_cases h0:m.2.2.2.1.length=0
 ·simp[h0]
 ·have e1:((m.2.2.2.1.length:Int)==0)=false:=by simp_all
  have e2:(m.2.2.2.1.length==0)=false:=by simp_all
  rw[e1,e2];simp only[ALm];rw[Ab (by omega),ALi (by omega),show((m.2.2.2.1.length:Int)-1).toNat=m.2.2.2.1.length-1 by omega,XT (h.getD (by omega))];rfl
theorem jW{m:BA}(hl:m.2.2.2.1.length<=2^40)(h:mF m.2.2.2.1):U5 m=some ((QQ m.2.2.2.1,()),()):=by
 unfold U5 QQ;by_cases h0:m.2.2.2.1.length=0
 ·simp[h0]
 ·have e1:((m.2.2.2.1.length:Int)==0)=false:=by simp_all
  have e2:(m.2.2.2.1.length==0)=false:=by simp_all
  rw[e1,e2];simp only[ALm];rw[Ab (by omega),ALi (by omega),show((m.2.2.2.1.length:Int)-1).toNat=m.2.2.2.1.length-1 by omega,SA (h.getD (by omega))];rfl
def zV(l:List AH)(ep by_:Int)(i:Nat):Bool:=Ga (l.getD i D_)&&((Ah (l.getD i D_).1==ep)&&decide ((l.getD i D_).2.1<by_))
def zc(l:List AH)(ep by_:Int):Bool:=CX (zV l ep by_) 0 l.length
def vv(c:Ca)(l:List AAO):Bool:=CX (fun i=>BI c (l.getD i [])) 0 l.length
def HI(c:Ca)(m:BA):Bool:=Gh c&&(BJ m.2.1 1 30&&(BJ m.1 (m.2.1+1) 30&&(BI c m.2.2.1&&(o9 m.2.2.2.1&&(zc m.2.2.2.1 m.2.1 m.1&&(vv c m.2.2.2.2.2.1&&((m.2.2.2.2.2.1.length:Int)==cond m.2.2.2.2.1 (QQ m.2.2.2.1) 0)))))))
theorem Kn{c:Ca}{m:BA}(hc:c.1.length<=2^40)(hm:CK m<=2^30)(h:mF m.2.2.2.1):Jv c m=some ((HI c m,()),()):=by
 have l1:=AR (f:=Ag) (l:=m.2.2.2.1);have l2:=AR (f:=Cw) (l:=m.2.2.2.2.2.1);unfold CK at hm;have wr:∀n,m.2.2.2.2.2.1.length+1<=n->Ir n 0 c.1 c.2.1 m.1 m.2.1 m.2.2.1 m.2.2.2.1 m.2.2.2.2.1 m.2.2.2.2.2.1=some ((vv c m.2.2.2.2.2.1&&((m.2.2.2.2.2.1.length:Int)==cond m.2.2.2.2.1 (QQ m.2.2.2.1) 0),()),()):=fun n hn=>by
  refine GP (L:=fun n i=>Ir n i c.1 c.2.1 m.1 m.2.1 m.2.2.1 m.2.2.2.1 m.2.2.2.2.1 m.2.2.2.2.2.1) (len:=m.2.2.2.2.2.1.length) (p:=fun i=>BI c (m.2.2.2.2.2.1.getD i [])) (fin:=(m.2.2.2.2.2.1.length:Int)==cond m.2.2.2.2.1 (QQ m.2.2.2.1) 0) (fun n i hi=> ?_) (fun n=> ?_) m.2.2.2.2.2.1.length n 0 (by omega) (by omega)
  ·have hwi:(m.2.2.2.2.2.1.getD i []).length<=Aa Cw m.2.2.2.2.2.1:=AY (f:=Cw) (BN (d:=[]) hi)
   simp only[Ir,Vo,AB];rw[ALi (by omega),ALi (by omega),As (i:=i) (by omega),AMn,DE c,Hk hc (by omega)];simp_all
  ·simp only[Ir,Vo,AB]
   rw[ALj (by omega),V1 m,j_ (by omega) h];grind
 have se:=r_ (L:=fun n i=>KS n i c.1 c.2.1 m.1 m.2.1 m.2.2.1 m.2.2.2.1 m.2.2.2.2.1 m.2.2.2.2.2.1) (len:=m.2.2.2.1.length) (N:=m.2.2.2.2.2.1.length+1) (p:=zV m.2.2.2.1 m.2.1 m.1) (fin:=vv c m.2.2.2.2.2.1&&((m.2.2.2.2.2.1.length:Int)==cond m.2.2.2.2.1 (QQ m.2.2.2.1) 0)) (fun n i hi=>by
   simp only[KS,U0,AB,zV];have hb:(0:Int)<=(i:Int)/\(i:Int)<(m.2.2.2.1.length:Int):=by omega
   rw[ALi hb.2,As (i:=i) (by omega),AMn];simp only[ALi hb];rw[show((m.2.2.2.1.getD i (0,0,false,[],())).1,(m.2.2.2.1.getD i (0,0,false,[],())).2.1,(m.2.2.2.1.getD i (0,0,false,[],())).2.2.1,(m.2.2.2.1.getD i (0,0,false,[],())).2.2.2.1,())=m.2.2.2.1.getD i D_ from rfl,Si (h.getD hi),D5 (h.getD hi)];grind) (fun n hn=>by
   simp only[KS,U0,AB];simp_all) m.2.2.2.1.length AU 0 (by omega) (AZ (by omega))
 rw[show((0:Nat):Int)=0 from rfl]at se;unfold Jv dz HI;rw[DE c,II hc,BU,BU,Hk hc (by omega),mR (by omega),se];simp only[AMA];rcases ALh (BJ m.2.1 1 30)with hi|hi
 ·have H6:=hi
  simp only[BJ,AM7]at H6;rw[Ab (by omega),hi];cases Gh c<;>cases BJ m.1 (m.2.1+1) 30<;>cases BI c m.2.2.1<;>cases o9 m.2.2.2.1<;>rfl
 simp_all
theorem wc{m:BA}(hm:CK m<=2^30)(h:mF m.2.2.2.1):X6 m=some ((zc m.2.2.2.1 m.2.1 m.1&&o9 m.2.2.2.1,()),()):=by
 have l1:=AR (f:=Ag) (l:=m.2.2.2.1);unfold CK at hm;unfold X6 dW;exact GP (L:=fun n i=>Mv n m.2.2.2.1 m.2.2.2.1.length i m.1 m.2.1 m.2.2.1 m.2.2.2.1 m.2.2.2.2.1 m.2.2.2.2.2.1) (len:=m.2.2.2.1.length) (p:=zV m.2.2.2.1 m.2.1 m.1) (fin:=o9 m.2.2.2.1) (fun n i hi=>by
  simp only[Mv,Vk,AB,zV];rw[ALi (by omega),ALi (by omega),As (i:=i) (by omega),AMn];rw[show((m.2.2.2.1.getD i (0,0,false,[],())).1,(m.2.2.2.1.getD i (0,0,false,[],())).2.1,(m.2.2.2.1.getD i (0,0,false,[],())).2.2.1,(m.2.2.2.1.getD i (0,0,false,[],())).2.2.2.1,())=m.2.2.2.1.getD i D_ from rfl,Sq (h.getD hi),D6 (h.getD hi)];grind) (fun n=>by
  simp only[Mv,Vk,AB];rw[ALj (by omega),Yi (by omega)];rfl) m.2.2.2.1.length AU 0 (by omega) (AZ (by omega))
theorem Ix{c:Ca}{m:BA}(hc:c.1.length<=2^40)(hm:CK m<=2^30)(h:mF m.2.2.2.1):Im c m=some ((HI c m,()),()):=by
 have l1:=AR (f:=Ag) (l:=m.2.2.2.1);have l2:=AR (f:=Cw) (l:=m.2.2.2.2.2.1);have hm2:=hm;unfold CK at hm;have key:=GP (L:=fun n i=>M8 n m.2.2.2.2.2.1 m.2.2.2.2.2.1.length i c.1 c.2.1 m.1 m.2.1 m.2.2.1 m.2.2.2.1 m.2.2.2.2.1 m.2.2.2.2.2.1) (len:=m.2.2.2.2.2.1.length) (p:=fun i=>BI c (m.2.2.2.2.2.1.getD i []))
  (fin:=Gh c&&(BJ m.2.1 1 30&&(BJ m.1 (m.2.1+1) 30&&(BI c m.2.2.1&&((zc m.2.2.2.1 m.2.1 m.1&&o9 m.2.2.2.1)&&((m.2.2.2.2.2.1.length:Int)==cond m.2.2.2.2.1 (QQ m.2.2.2.1) 0)))))) (fun n i hi=>by
   have hwi:(m.2.2.2.2.2.1.getD i []).length<=Aa Cw m.2.2.2.2.2.1:=AY (f:=Cw) (BN (d:=[]) hi);simp only[M8,U3,AB];rw[ALi (by omega),ALi (by omega),As (i:=i) (by omega),AMn,DE c,EV hc (by omega)];simp_all) (fun n=>by
   simp only[M8,U3,AB];rw[ALj (by omega),V1 m,jW (by omega) h,DE c,NB hc,EV hc (by omega),wc hm2 h];simp only[AMA,IP,BB];rcases ALh (BJ m.2.1 1 30)with hi|hi
   ·have H6:=hi
    simp only[BJ,AM7]at H6;grind[ZR,Gh,BJ,BI,zc,o9]
   simp_all) m.2.2.2.2.2.1.length AU 0 (by omega) (AZ (by omega))
 unfold Im dx HI;rw[show((0:Nat):Int)=0 from rfl]at key;grind[vv,CX,BI,Gh,BJ,zc,o9]
theorem AKU{x:Int}{l:AAO}(hl:l.length<=2^40):∃r,Oj [x] l=some (((),()),(r,()))/\decide ((r.length:Int)>0)=l.contains x:=by
 obtain⟨m,hm⟩:∃m,AU=m+2:=⟨AU-2,by have:=Xs;omega⟩;unfold Oj DV;rw[ALi (by rw[Ak];simp)];simp only[AMA];unfold C3 EH D1 EO;rw[hm];simp only[CI,ES,UA,AOJ,APN,AB];rw[ALi (by omega),ALi (by omega)];simp only[Int.toNat_zero,List.getD_cons_zero];rw[J2 hl];simp only[AMA];cases l.contains x with
 |true=>
  simp only[AL9,ALm];rw[Ab (x:=0+1) (by omega),ALj (by omega)];simp_all
 |false=>
  simp only[APP,AMs,AMA];rw[Ab (x:=0+1) (by omega)];simp only[B9,EI,AB,AOJ,APN];simp_all
theorem gY{w:AA}{x:Int}(hl:w.2.2.2.1.length<=2^40):C4 w x=some ((w.2.2.2.1.contains x,()),()):=by
 unfold C4;obtain⟨r,h1,h2⟩:=AKU (x:=x) hl;simp_all
theorem Lo{l:AAO}{x:Int}(hl:l.length<=2^40):Cf l x=some ((l.contains x,()),()):=by
 have key:∀(n i:Nat),i<=l.length->l.length-i<n->Lu n l x i=some (((l.drop i).contains x,()),()):=by
  intro n
  induction n with
  |zero=>omega
  |succ n ih=>
   intro i hi h;simp only[Lu,XG,AB];by_cases hc:i<l.length
   ·rw[ALi (by omega),ALi (by omega),As (i:=i) (by omega),Af hc,drop_cons hc,ih (i+1) (by omega) (by omega)]
    simp only[List.contains_cons];by_cases he:l[i]=x
    all_goals grind
   grind
 grind[Cf,W5,AU,AZ]
def cA(l:List Cq):Nat->Nat->Int
 |_,0=>0
 |i,d+1=>cond (!(l.getD i ([],false,0,())).2.1) ((i:Int)+1) (cA l (i+1) d)
def BX(l:List Cq):Int:=cA l 0 l.length
theorem PY{r:AK}(hl:r.1.length<=2^40):KQ r=some ((BX r.1,()),()):=by
 have key:∀(d n i:Nat),i+d=r.1.length->d<n->I3 n i r.1 r.2.1=some ((cA r.1 i d,()),()):=by
  intro d
  induction d with
  |zero=>
   intro n i hi hn;obtain⟨m,rfl⟩:∃m,n=m+1:=⟨n-1,by omega⟩;simp only[I3,Qj,AB,cA];simp_all
  |succ d ih=>
   intro n i hi hn;obtain⟨m,rfl⟩:∃m,n=m+1:=⟨n-1,by omega⟩;simp only[I3,Qj,AB,cA];rw[ALi (by omega),ALi (by omega),As (i:=i) (by omega),ih m (i+1) (by omega) (by omega),AMn];grind
 grind[KQ,YX,BX,AU,AZ]
theorem Ux{r:AK}(hl:r.1.length<=2^40):Mk r=some ((BX r.1,()),()):=by
 have key:∀(d n i:Nat),i+d=r.1.length->d<n->I2 n r.1 r.1.length i=some ((cA r.1 i d,()),()):=by
  intro d
  induction d with
  |zero=>
   intro n i hi hn;obtain⟨m,rfl⟩:∃m,n=m+1:=⟨n-1,by omega⟩;simp only[I2,QK,AB,cA];simp_all
  |succ d ih=>
   intro n i hi hn;obtain⟨m,rfl⟩:∃m,n=m+1:=⟨n-1,by omega⟩;simp only[I2,QK,AB,cA];rw[ALi (by omega),ALi (by omega),As (i:=i) (by omega),ih m (i+1) (by omega) (by omega),AMn];grind
 grind[Mk,X9,BX,AU,AZ]
structure mq (w:AA):Prop where
 weight:Ck w<=2^20
 Bd:∀s∈w.2.2.1,pr s
 trim:Bi w.2.2.2.2.2.1
 Cg:∀m∈w.2.2.2.2.2.2.2.1,mF m.2.2.2.1
 AI_:∀s∈w.2.2.2.2.2.2.2.2.2.1,Bi s.1
abbrev EZ:AL:=([],[],0,())
abbrev CN:AM:=(0,[],())
abbrev Tr:BA:=(0,0,[],[],false,[],())
abbrev AX:Ac:=(0,0,[],())
abbrev Hs:Aj:=(0,[],false,())
def Ae(w:AA):Ca:=(w.1,w.2.1,())
def Cl(w:AA):AK:=(w.2.2.2.2.1,w.2.2.2.2.2.1,())
def qw(w:AA)(i:Nat):Bool:=CS (w.2.2.1.getD i EZ)&&(!w.2.2.2.1.contains (i:Int)||((w.2.2.1.getD i EZ).1.length==0&&((w.2.2.1.getD i EZ).2.1.length==0&&(w.2.2.1.getD i EZ).2.2.1==0)))
def lf(w:AA)(i:Nat):Bool:=EW (Ae w) (w.2.2.2.2.2.2.1.getD i CN)&&(decide ((w.2.2.2.2.2.2.1.getD i CN).1<=(w.2.2.2.2.1.length:Int))&&(i==0||decide ((w.2.2.2.2.2.2.1.getD (i-1) CN).1<(w.2.2.2.2.2.2.1.getD i CN).1)))
def zO(w:AA)(i:Nat):Bool:=HI (Ae w) (w.2.2.2.2.2.2.2.1.getD i Tr)&&(((w.2.2.2.2.2.2.2.1.getD i Tr).1==(w.2.2.2.2.1.length:Int))&&((w.2.2.2.2.2.2.2.1.getD i Tr).2.1==BX w.2.2.2.2.1))
def sw(w:AA)(i:Nat):Bool:=(Az (w.2.2.2.2.2.2.2.2.2.1.getD i Hs).1&&decide (Ah (w.2.2.2.2.2.2.2.2.2.1.getD i Hs).1<=(w.2.2.2.2.1.length:Int)))&&(decide ((w.2.2.2.2.2.2.2.2.2.1.getD i Hs).2.1.length<=40)&&(i==0||decide ((w.2.2.2.2.2.2.2.2.2.1.getD (i-1) Hs).1<(w.2.2.2.2.2.2.2.2.2.1.getD i Hs).1)))
def lS(w:AA):Bool:=CX (qw w) 0 w.2.2.1.length
def fg(w:AA):Bool:=CX (lf w) 0 w.2.2.2.2.2.2.1.length
def nQ(w:AA):Bool:=CX (zO w) 0 w.2.2.2.2.2.2.2.1.length
def tN(w:AA):Bool:=CX (sw w) 0 w.2.2.2.2.2.2.2.2.2.1.length
def cg(w:AA):Bool:=decide (w.2.2.2.2.2.2.2.2.1.length=2)&&(VW (w.2.2.2.2.2.2.2.2.1.getD 0 AX)&&VW (w.2.2.2.2.2.2.2.2.1.getD 1 AX))
def Cx(w:AA):Bool:=Gh (Ae w)&&(decide (w.2.2.1.length=w.1.length)&&(BI (Ae w) w.2.2.2.1&&((w.2.2.2.2.2.2.2.2.2.2.1|| !holds (Ae w) w.2.2.2.1)&&(lS w&&(QT (Ae w) (Cl w)&&(decide (w.2.2.2.2.2.2.1.length<=4)&&(decide (w.2.2.2.2.2.2.2.1.length<=1)&&(fg w&&(nQ w&&(cg w&&(decide (w.2.2.2.2.2.2.2.2.2.1.length<=120)&&tN w)))))))))))
section
variable{w:AA} (h:mq w)
include h
theorem mq.lens:w.1.length<=2^20/\Aa Al w.2.2.1<=2^20/\w.2.2.2.1.length<=2^20/\Aa Bm w.2.2.2.2.1<=2^20/\Aa An w.2.2.2.2.2.2.1<=2^20/\Aa CK w.2.2.2.2.2.2.2.1<=2^20/\Aa BG w.2.2.2.2.2.2.2.2.1<=2^20/\Aa Dt w.2.2.2.2.2.2.2.2.2.1<=2^20:=by
 have:=h.weight;grind[Ck]
theorem mq.MX:w.2.2.1.length<=2^20/\w.2.2.2.2.1.length<=2^20/\w.2.2.2.2.2.2.1.length<=2^20/\w.2.2.2.2.2.2.2.1.length<=2^20/\w.2.2.2.2.2.2.2.2.1.length<=2^20/\w.2.2.2.2.2.2.2.2.2.1.length<=2^20:=by
 have k:=h.lens;grind[AR,Al,Bm,An,CK,BG,Dt]
theorem mq.cfg:(Ae w).1.length<=2^40:=by
 have:=h.lens
 show w.1.length<=2^40
 omega
theorem ACl:MI w=some ((decide (w.2.2.1.length=w.1.length)&&(BI (Ae w) w.2.2.2.1&&(lS w&&(w.2.2.2.2.2.2.2.2.2.2.1|| !holds (Ae w) w.2.2.2.1))),()),()):=by
 have k1:=h.lens;have k2:=h.MX;have key:=GP (L:=fun n i=>Fg n w w.2.2.1 w.2.2.1.length i) (len:=w.2.2.1.length) (p:=qw w) (fin:=w.2.2.2.2.2.2.2.2.2.2.1|| !holds (Ae w) w.2.2.2.1) (fun n i hi=>by
  have hm:=BN (d:=EZ) hi;have hw:=AY (f:=Al) hm;simp only[Fg,K6,AB,qw];rw[ALi (by omega),ALi (by omega),As (i:=i) (by omega),AMn,gY (by omega)];rw[show((w.2.2.1.getD i ([],[],0,())).1,(w.2.2.1.getD i ([],[],0,())).2.1,(w.2.2.1.getD i ([],[],0,())).2.2.1,())=w.2.2.1.getD i EZ from rfl,FW (by omega) (h.Bd _ hm)];simp only[AMA]
  show cond (!CS (w.2.2.1.getD i EZ)) _ _=_
  rcases ALh (CS (w.2.2.1.getD i EZ))with hs|hs
  rotate_left
  ·simp_all
  rw[hs];have hs2:=hs;simp only[CS,BJ,AL8,AM7]at hs2
  generalize w.2.2.1.getD i EZ=s at hw hs2
  cases w.2.2.2.1.contains ((i:Nat):Int)with
  |false=>rfl
  |true=>
   simp only[AL9,ALm,AMs,ANC,APU];unfold Al at hw;have q1:=AR (f:=Ag) (l:=s.1);have q2:=AR (f:=Ag) (l:=s.2.1);rw[Ab (x:=(s.1.length:Int)+_) (by omega),Ab (by omega)];grind) (fun n=>by
  simp only[Fg,K6,AB];rw[ALj (by omega),show(w.1,w.2.1,())=Ae w from rfl,G6 h.cfg (by omega)];grind) w.2.2.1.length AU 0 (by omega) (AZ (by omega))
 rw[show((0:Nat):Int)=0 from rfl]at key;unfold MI RT lS;rw[show(w.1,w.2.1,())=Ae w from rfl,EV h.cfg (by omega),key];grind[decide_eq_true,BI,Ae,decide_eq_false]
end
theorem AG0{x lo hi:Int}(h:lo<=x):BJ x lo hi=decide (x<=hi):=by
 grind[BJ,decide_eq_true,decide_eq_false]
theorem AJe{x lo hi:Int}(h:x<lo):BJ x lo hi=false:=by
 grind[BJ,decide_eq_false]
section
variable{w:AA} (h:mq w)
include h
theorem ABE:LV w=some ((fg w&&decide (w.2.2.2.2.2.2.1.length<=4),()),()):=by
 have k1:=h.lens;have k2:=h.MX;have key:=GP (L:=fun n i=>Ez n w w.2.2.2.2.2.2.1 w.2.2.2.2.2.2.1.length i) (len:=w.2.2.2.2.2.2.1.length) (p:=lf w) (fin:=decide (w.2.2.2.2.2.2.1.length<=4)) (fun n i hi=>by
  have hm:=BN (d:=CN) hi;have hw:=AY (f:=An) hm;unfold An at hw;simp only[Ez,Ko,AB,lf,KM,BB];rw[ALi (by omega),ALi (by omega),As (i:=i) (by omega),AMn];have hw2:Aa Aw (w.2.2.2.2.2.2.1.getD i CN).2.1<=2^30:=by
   have:=k1.2.2.2.2.1;unfold An at this;omega
  rw[show((w.2.2.2.2.2.2.1.getD i (0,[],())).1,(w.2.2.2.2.2.2.1.getD i (0,[],())).2.1,())=w.2.2.2.2.2.2.1.getD i CN from rfl,show(w.1,w.2.1,())=Ae w from rfl,J6 h.cfg hw2];simp only[AMA];rcases ALh (EW (Ae w) (w.2.2.2.2.2.2.1.getD i CN))with hs|hs
  rotate_left
  ·simp_all
  have he:=(fL hs).2.1;rw[hs,show BJ (w.2.2.2.2.2.2.1.getD i (0,[],())).1 1 (w.2.2.2.2.1.length:Int)=decide ((w.2.2.2.2.2.2.1.getD i CN).1<=(w.2.2.2.2.1.length:Int))from AG0 he.1];simp only[AL9,ALm,ANC];cases decide ((w.2.2.2.2.2.2.1.getD i CN).1<=(w.2.2.2.2.1.length:Int))with
  |false=>rfl
  |true=>
   simp only[AL9,ALm,ANC];by_cases h0:i=0
   ·simp_all
   ·rw[ALi (by omega),Ab (by omega),ALi (by omega)]
    have h1:((i:Int)-1).toNat=i-1:=by omega
    have h2:(i==0)=false:=by simp_all
    rw[h1,h2,APU];grind) (fun n=>by
  simp only[Ez,Ko,AB];simp_all;omega) w.2.2.2.2.2.2.1.length AU 0 (by omega) (AZ (by omega))
 rw[show((0:Nat):Int)=0 from rfl]at key;grind[LV,Qs,fg]
theorem AET:Nn w=some ((nQ w&&decide (w.2.2.2.2.2.2.2.1.length<=1),()),()):=by
 have k1:=h.lens;have k2:=h.MX;have key:=GP (L:=fun n i=>GH n w w.2.2.2.2.2.2.2.1 w.2.2.2.2.2.2.2.1.length i) (len:=w.2.2.2.2.2.2.2.1.length) (p:=zO w) (fin:=decide (w.2.2.2.2.2.2.2.1.length<=1)) (fun n i hi=>by
  have hm:=BN (d:=Tr) hi;have hw:=AY (f:=CK) hm;simp only[GH,L2,AB,zO];rw[ALi (by omega),ALi (by omega),As (i:=i) (by omega),AMn];rw[show((w.2.2.2.2.2.2.2.1.getD i (0,0,[],[],false,[],())).1,(w.2.2.2.2.2.2.2.1.getD i (0,0,[],[],false,[],())).2.1,(w.2.2.2.2.2.2.2.1.getD i (0,0,[],[],false,[],())).2.2.1,(w.2.2.2.2.2.2.2.1.getD i (0,0,[],[],false,[],())).2.2.2.1,(w.2.2.2.2.2.2.2.1.getD i (0,0,[],[],false,[],())).2.2.2.2.1,(w.2.2.2.2.2.2.2.1.getD i (0,0,[],[],false,[],())).2.2.2.2.2.1,())=w.2.2.2.2.2.2.2.1.getD i Tr from rfl,show(w.1,w.2.1,())=Ae w from rfl,Ix h.cfg (by omega) (h.Cg _ hm)];rw[Ux (by grind)];grind) (fun n=>by
  simp only[GH,L2,AB];simp_all;omega) w.2.2.2.2.2.2.2.1.length AU 0 (by omega) (AZ (by omega))
 rw[show((0:Nat):Int)=0 from rfl]at key;grind[Nn,SC,nQ]
theorem ABp:La w=some ((cg w,()),()):=by
 have k2:=h.MX;have key:=GP (L:=fun n i=>Ey n w w.2.2.2.2.2.2.2.2.1 w.2.2.2.2.2.2.2.2.1.length i) (len:=w.2.2.2.2.2.2.2.2.1.length) (p:=fun i=>VW (w.2.2.2.2.2.2.2.2.1.getD i AX)) (fin:=((w.2.2.2.2.2.2.2.2.1.length:Int)==2)) (fun n i hi=>by
  simp only[Ey,Kl,AB];rw[ALi (by omega),ALi (by omega),As (i:=i) (by omega),AMn];rw[show((w.2.2.2.2.2.2.2.2.1.getD i (0,0,[],())).1,(w.2.2.2.2.2.2.2.2.1.getD i (0,0,[],())).2.1,(w.2.2.2.2.2.2.2.2.1.getD i (0,0,[],())).2.2.1,())=w.2.2.2.2.2.2.2.2.1.getD i AX from rfl,gV];simp_all) (fun n=>by
  simp only[Ey,Kl,AB];simp_all) w.2.2.2.2.2.2.2.2.1.length AU 0 (by omega) (AZ (by omega))
 rw[show((0:Nat):Int)=0 from rfl]at key;unfold La QJ cg;grind[CX,decide_eq_false]
theorem AIR:Pr w=some ((tN w&&decide (w.2.2.2.2.2.2.2.2.2.1.length<=120),()),()):=by
 have k2:=h.MX;have key:=GP (L:=fun n i=>Gv n w w.2.2.2.2.2.2.2.2.2.1 w.2.2.2.2.2.2.2.2.2.1.length i) (len:=w.2.2.2.2.2.2.2.2.2.1.length) (p:=sw w) (fin:=decide (w.2.2.2.2.2.2.2.2.2.1.length<=120)) (fun n i hi=>by
  have hm:=BN (d:=Hs) hi;have RW:Bi (w.2.2.2.2.2.2.2.2.2.1.getD i (0,[],false,())).1:=h.AI_ _ hm;simp only[Gv,NG,AB,sw,KM,BB,G1];rw[ALi (by omega),ALi (by omega),As (i:=i) (by omega),AMn,D6 RW];simp only[AMA];have e1:BJ (Ah (w.2.2.2.2.2.2.2.2.2.1.getD i (0,[],false,())).1) 1 (w.2.2.2.2.1.length:Int)=(Az (w.2.2.2.2.2.2.2.2.2.1.getD i Hs).1&&decide (Ah (w.2.2.2.2.2.2.2.2.2.1.getD i Hs).1<=(w.2.2.2.2.1.length:Int))):=by
   show BJ (Ah (w.2.2.2.2.2.2.2.2.2.1.getD i Hs).1) 1 (w.2.2.2.2.1.length:Int)=_
   have hr:=ea (x:=(w.2.2.2.2.2.2.2.2.2.1.getD i Hs).1);rcases ALh (Az (w.2.2.2.2.2.2.2.2.2.1.getD i Hs).1)with hp|hp
   ·rw[hp,AG0 (hr.1 hp).1,ANC]
   ·rw[hp,hr.2 hp,AJe (by omega),AR5]
  rw[e1,show decide ((((w.2.2.2.2.2.2.2.2.2.1.getD i (0,[],false,())).2.1.length:Nat):Int)<=40)=decide ((w.2.2.2.2.2.2.2.2.2.1.getD i Hs).2.1.length<=40)from AV0 _ 40];cases(Az (w.2.2.2.2.2.2.2.2.2.1.getD i Hs).1&&decide (Ah (w.2.2.2.2.2.2.2.2.2.1.getD i Hs).1<=(w.2.2.2.2.1.length:Int)))with
  |false=>rfl
  |true=>
   cases decide ((w.2.2.2.2.2.2.2.2.2.1.getD i Hs).2.1.length<=40)with
   |false=>rfl
   |true=>
    simp only[AL9,ALm,ANC];by_cases h0:i=0
    ·simp_all
    ·rw[ALi (by omega),Ab (by omega),ALi (by omega)]
     have h1:((i:Int)-1).toNat=i-1:=by omega
     have h2:(i==0)=false:=by simp_all
     rw[h1,h2,APU];grind) (fun n=>by
  simp only[Gv,NG,AB];simp_all;omega) w.2.2.2.2.2.2.2.2.2.1.length AU 0 (by omega) (AZ (by omega))
 rw[show((0:Nat):Int)=0 from rfl]at key;grind[Pr,Tf,tN]
theorem EY:D3 w=some ((Cx w,()),()):=by
 have k1:=h.lens;unfold D3 Cx;rw[Fa w,show(w.1,w.2.1,())=Ae w from rfl,show(w.2.2.2.2.1,w.2.2.2.2.2.1,())=Cl w from rfl];rw[NB h.cfg,ACl h,Og h.cfg (by show Aa Bm w.2.2.2.2.1<=_;omega) h.trim,ABE h,AET h,ABp h,AIR h];grind
end
section
variable{w:AA} (h:mq w)
include h
theorem AB2:Xh w=some ((Gh (Ae w)&&(decide (w.2.2.1.length=w.1.length)&&(BI (Ae w) w.2.2.2.1&&((w.2.2.2.2.2.2.2.2.2.2.1|| !holds (Ae w) w.2.2.2.1)&&lS w))),()),()):=by
 have k1:=h.lens;have k2:=h.MX;have key:=GP (L:=fun n i=>J3 n i w.1 w.2.1 w.2.2.1 w.2.2.2.1 w.2.2.2.2.1 w.2.2.2.2.2.1 w.2.2.2.2.2.2.1 w.2.2.2.2.2.2.2.1 w.2.2.2.2.2.2.2.2.1 w.2.2.2.2.2.2.2.2.2.1 w.2.2.2.2.2.2.2.2.2.2.1) (len:=w.2.2.1.length) (p:=qw w) (fin:=true) (fun n i hi=>by
  have hm:=BN (d:=EZ) hi;have hw:=AY (f:=Al) hm;simp only[J3,Rp,AB,qw];have hb:(0:Int)<=(i:Int)/\(i:Int)<(w.2.2.1.length:Int):=by omega
  rw[ALi hb.2,As (i:=i) (by omega),AMn,Lo (by omega)];simp only[ALi hb];rw[show((w.2.2.1.getD i ([],[],0,())).1,(w.2.2.1.getD i ([],[],0,())).2.1,(w.2.2.1.getD i ([],[],0,())).2.2.1,())=w.2.2.1.getD i EZ from rfl,Gf (by omega) (h.Bd _ hm)];simp only[AMA]
  show cond (!CS (w.2.2.1.getD i EZ)) _ _=_
  cases CS (w.2.2.1.getD i EZ)with
  |false=>rfl
  |true=>
   cases w.2.2.2.1.contains ((i:Nat):Int)with
   |false=>rfl
   |true=>
    simp only[iY,AL9,ALm,AMs,ANC,APU];have e1:∀n:Nat,((n:Int)==0)=(n==0):=fun n=>by
     grind
    grind) (fun n=>by
  simp only[J3,Rp,AB];simp_all) w.2.2.1.length AU 0 (by omega) (AZ (by omega))
 rw[show((0:Nat):Int)=0 from rfl]at key;unfold Xh Zl lS;rw[show(w.1,w.2.1,())=Ae w from rfl,II h.cfg,Hk h.cfg (by omega),ED h.cfg (by omega),key];simp only[AMA,AQp];grind[decide_eq_true,Gh,Ae,BI,holds,decide_eq_false]
theorem ABA:Vq w=some ((QT (Ae w) (Cl w)&&(decide (w.2.2.2.2.2.2.1.length<=4)&&(decide (w.2.2.2.2.2.2.2.1.length<=1)&&(fg w&&nQ w))),()),()):=by
 have k1:=h.lens;have k2:=h.MX;have me:∀n,w.2.2.2.2.2.2.2.1.length+1<=n->FN n (w.2.2.2.2.1.length:Int) 0 w.1 w.2.1 w.2.2.1 w.2.2.2.1 w.2.2.2.2.1 w.2.2.2.2.2.1 w.2.2.2.2.2.2.1 w.2.2.2.2.2.2.2.1 w.2.2.2.2.2.2.2.2.1 w.2.2.2.2.2.2.2.2.2.1 w.2.2.2.2.2.2.2.2.2.2.1=some ((nQ w,()),()):=fun n hn=>by
  have key:=GP (L:=fun n i=>FN n (w.2.2.2.2.1.length:Int) i w.1 w.2.1 w.2.2.1 w.2.2.2.1 w.2.2.2.2.1 w.2.2.2.2.2.1 w.2.2.2.2.2.2.1 w.2.2.2.2.2.2.2.1 w.2.2.2.2.2.2.2.2.1 w.2.2.2.2.2.2.2.2.2.1 w.2.2.2.2.2.2.2.2.2.2.1) (len:=w.2.2.2.2.2.2.2.1.length) (p:=zO w) (fin:=true) (fun n i hi=>by
   have hm:=BN (d:=Tr) hi;have hw:=AY (f:=CK) hm;simp only[FN,O0,AB,zO];rw[ALi (by omega),ALi (by omega),As (i:=i) (by omega),AMn];rw[show((w.2.2.2.2.2.2.2.1.getD i (0,0,[],[],false,[],())).1,(w.2.2.2.2.2.2.2.1.getD i (0,0,[],[],false,[],())).2.1,(w.2.2.2.2.2.2.2.1.getD i (0,0,[],[],false,[],())).2.2.1,(w.2.2.2.2.2.2.2.1.getD i (0,0,[],[],false,[],())).2.2.2.1,(w.2.2.2.2.2.2.2.1.getD i (0,0,[],[],false,[],())).2.2.2.2.1,(w.2.2.2.2.2.2.2.1.getD i (0,0,[],[],false,[],())).2.2.2.2.2.1,())=w.2.2.2.2.2.2.2.1.getD i Tr from rfl,show(w.1,w.2.1,())=Ae w from rfl,Kn h.cfg (by omega) (h.Cg _ hm)];rw[PY (by grind)];grind) (fun n=>by
   simp only[FN,O0,AB];simp_all) w.2.2.2.2.2.2.2.1.length n 0 (by omega) (by omega)
  rw[show((0:Nat):Int)=0 from rfl]at key;rw[key,AQp];rfl
 have key:=r_ (L:=fun n i=>HD n (w.2.2.2.2.1.length:Int) i w.1 w.2.1 w.2.2.1 w.2.2.2.1 w.2.2.2.2.1 w.2.2.2.2.2.1 w.2.2.2.2.2.2.1 w.2.2.2.2.2.2.2.1 w.2.2.2.2.2.2.2.2.1 w.2.2.2.2.2.2.2.2.2.1 w.2.2.2.2.2.2.2.2.2.2.1) (len:=w.2.2.2.2.2.2.1.length) (N:=w.2.2.2.2.2.2.2.1.length+1) (p:=lf w) (fin:=nQ w) (fun n i hi=>by
  have hm:=BN (d:=CN) hi;have hw:=AY (f:=An) hm;unfold An at hw;simp only[HD,QV,AB,lf];have hb:(0:Int)<=(i:Int)/\(i:Int)<(w.2.2.2.2.2.2.1.length:Int):=by omega
  rw[ALi hb.2,As (i:=i) (by omega),AMn];simp only[ALi hb];have hw2:Aa Aw (w.2.2.2.2.2.2.1.getD i CN).2.1<=2^30:=by
   have:=k1.2.2.2.2.1;unfold An at this;omega
  rw[show((w.2.2.2.2.2.2.1.getD i (0,[],())).1,(w.2.2.2.2.2.2.1.getD i (0,[],())).2.1,())=w.2.2.2.2.2.2.1.getD i CN from rfl,show(w.1,w.2.1,())=Ae w from rfl,Gt h.cfg hw2];simp only[AMA];cases EW (Ae w) (w.2.2.2.2.2.2.1.getD i CN)with
  |false=>rfl
  |true=>
   simp only[AL9,ALm,ANC];by_cases hle:(w.2.2.2.2.2.2.1.getD i (0,[],())).1<=(w.2.2.2.2.1.length:Int)
   ·rw[ALj (by omega),show decide ((w.2.2.2.2.2.2.1.getD i CN).1<=(w.2.2.2.2.1.length:Int))=true from AOW hle,ANC]
    by_cases h0:i=0
    ·simp_all
    ·rw[ALi (by omega),Ab (by omega),ALi (by omega)]
     have h1:((i:Int)-1).toNat=i-1:=by omega
     have h2:(i==0)=false:=by simp_all
     rw[h1,h2,APU];grind
   grind) (fun n hn=>by
  simp only[HD,QV,AB];simp_all) w.2.2.2.2.2.2.1.length AU 0 (by omega) (AZ (by omega))
 rw[show((0:Nat):Int)=0 from rfl]at key;unfold Vq YJ fg;rw[show(w.1,w.2.1,())=Ae w from rfl,show(w.2.2.2.2.1,w.2.2.2.2.2.1,())=Cl w from rfl,SM h.cfg (by show Aa Bm w.2.2.2.2.1<=_;omega) h.trim,key];grind
theorem AEl:aM w=some ((decide (w.2.2.2.2.2.2.2.2.2.1.length<=120)&&tN w,()),()):=by
 have k2:=h.MX;have key:=GP (L:=fun n i=>LJ n i w.1 w.2.1 w.2.2.1 w.2.2.2.1 w.2.2.2.2.1 w.2.2.2.2.2.1 w.2.2.2.2.2.2.1 w.2.2.2.2.2.2.2.1 w.2.2.2.2.2.2.2.2.1 w.2.2.2.2.2.2.2.2.2.1 w.2.2.2.2.2.2.2.2.2.2.1) (len:=w.2.2.2.2.2.2.2.2.2.1.length) (p:=sw w) (fin:=true) (fun n i hi=>by
  have hm:=BN (d:=Hs) hi;have RW:Bi (w.2.2.2.2.2.2.2.2.2.1.getD i (0,[],false,())).1:=h.AI_ _ hm;simp only[LJ,Ta,AB,sw];rw[ALi (by omega),ALi (by omega),As (i:=i) (by omega),AMn,FR RW,D5 RW];simp only[AMA]
  show cond (!Az (w.2.2.2.2.2.2.2.2.2.1.getD i Hs).1) _ _=_
  cases Az (w.2.2.2.2.2.2.2.2.2.1.getD i Hs).1 with
  |false=>rfl
  |true=>
   simp only[AL9,ALm,ANC];by_cases hle:Ah (w.2.2.2.2.2.2.2.2.2.1.getD i (0,[],false,())).1<=(w.2.2.2.2.1.length:Int)
   ·rw[ALj (by omega),show decide (Ah (w.2.2.2.2.2.2.2.2.2.1.getD i Hs).1<=(w.2.2.2.2.1.length:Int))=true from AOW hle,ANC]
    by_cases h40:(w.2.2.2.2.2.2.2.2.2.1.getD i (0,[],false,())).2.1.length<=40
    ·rw[ALj (by omega),show decide ((w.2.2.2.2.2.2.2.2.2.1.getD i Hs).2.1.length<=40)=true from AOW h40,ANC]
     by_cases h0:i=0
     ·simp_all
     ·rw[ALi (by omega),Ab (by omega),ALi (by omega)]
      have h1:((i:Int)-1).toNat=i-1:=by omega
      have h2:(i==0)=false:=by simp_all
      rw[h1,h2,APU];grind
    grind
   grind) (fun n=>by
  simp only[LJ,Ta,AB];simp_all) w.2.2.2.2.2.2.2.2.2.1.length AU 0 (by omega) (AZ (by omega))
 rw[show((0:Nat):Int)=0 from rfl]at key;unfold aM bd tN;grind
theorem FX:GZ w=some ((Cx w,()),()):=by
 unfold GZ Cx cg;rw[Fa w];rw[AB2 h,ABA h,AEl h,RQ,RQ];simp only[AMA];by_cases h2:w.2.2.2.2.2.2.2.2.1.length=2
 all_goals grind
end
theorem YZ{R:Type}{L:Nat->Int->Option R}{len:Nat}{p:Nat->Bool}{K:Nat->Option R}{no:Option R}(h1:∀n (i:Nat),i<len->L (n+1) i=cond (p i) (L n ((i+1:Nat):Int)) no)(h2:∀n,L (n+1) (len:Int)=K n):
  ∀d n i,i+d=len->d<n->L n i=cond (CX p i d) (K (n-d-1)) no
 |0,n,i,hd,h=>by
  obtain⟨m,rfl⟩:∃m,n=m+1:=⟨n-1,by omega⟩;have:i=len:=by omega
  subst this;rw[h2];rfl
 |d+1,n,i,hd,h=>by
  obtain⟨m,rfl⟩:∃m,n=m+1:=⟨n-1,by omega⟩;rw[h1 m i (by omega)];simp only[CX];cases p i with
  |false=>rfl
  |true=>
   rw[AMs,YZ h1 h2 d m (i+1) (by omega) (by omega),ANC];simp_all
theorem mq.of{w:AA}(hv:Go.Fw.Vd aR w)(hw:Ck w<=2^20):mq w where
 weight:=hw
 Bd:=fun s hs=>⟨fun e he=>wf_i64 (((hv.2.2.1.2 s hs).1).2 e he).1,fun e he=>wf_i64 (((hv.2.2.1.2 s hs).2.1).2 e he).1⟩
 trim:=wf_i64 hv.2.2.2.2.2.1
 Cg:=fun m hm e he=>wf_i64 (((hv.2.2.2.2.2.2.2.1.2 m hm).2.2.2.1).2 e he).1
 AI_:=fun s hs=>wf_i64 (hv.2.2.2.2.2.2.2.2.2.1.2 s hs).1
abbrev E7:Au:=(0,0,[],())
theorem FV{w:AA}(h:Cx w=true):w.2.2.2.2.2.2.2.2.1.length=2:=by
 simp only[Cx,cg,AL8,AM7]at h;omega
theorem mq.out{w:AA}(h:mq w){i:Nat}(hi:i<w.2.2.2.2.2.2.2.2.1.length):(w.2.2.2.2.2.2.2.2.1.getD i AX).2.2.1.length<=2^20:=by
 have k:=h.lens;have h1:=AY (f:=BG) (BN (d:=AX) hi);have h2:=AR (f:=Bp) (l:=(w.2.2.2.2.2.2.2.2.1.getD i AX).2.2.1);have h3:BG (w.2.2.2.2.2.2.2.2.1.getD i AX)=Aa Bp (w.2.2.2.2.2.2.2.2.1.getD i AX).2.2.1:=rfl;omega
def AAe(l:List Au):Bool:=CX (fun i=> !((l.getD i E7).1==3)) 0 l.length
def Kd(w:AA):Bool:=Cx w&&(w.2.2.2.2.2.2.2.2.2.2.1||(AAe (w.2.2.2.2.2.2.2.2.1.getD 0 AX).2.2.1&&AAe (w.2.2.2.2.2.2.2.2.1.getD 1 AX).2.2.1))
section
variable{w:AA} (h:mq w)
include h
theorem mu:Sh w=some ((Kd w,()),()):=by
 have k2:=h.MX;unfold Sh V4 Kd;rw[Fa w,EY h];simp only[AMA];rcases ALh (Cx w)with Du|Du
 rotate_left
 ·simp_all
 rw[Du];simp only[AL9,ALm,ANC];cases w.2.2.2.2.2.2.2.2.2.2.1 with
 |true=>rfl
 |false=>
  have h2:=FV Du;simp only[ALm,APU];have o:=fun i hi=>h.out (i:=i) hi
  generalize w.2.2.2.2.2.2.2.2.1=rs at h2 o
  have inner:∀(i:Nat),i<rs.length-> ∀n,2^20<n->Dk (n+1) rs rs.length i=cond (AAe (rs.getD i AX).2.2.1) (Dk (n-(rs.getD i AX).2.2.1.length-1) rs rs.length ((i+1:Nat):Int)) (some ((false,()),())):=fun i hi n hn=>by
   have ho:=o i hi;simp only[Dk,O4,AB];rw[ALi (by omega),ALi (by omega),AMn];have:=YZ (L:=fun n j=>Gp n rs rs.length i (rs.getD i AX).2.2.1 (rs.getD i AX).2.2.1.length j) (len:=(rs.getD i AX).2.2.1.length) (p:=fun j=> !(((rs.getD i AX).2.2.1.getD j E7).1==3)) (K:=fun n=>Dk n rs rs.length ((i+1:Nat):Int)) (no:=some ((false,()),())) (fun n j hj=>by
    simp only[Gp,PC,AB];rw[ALi (by omega),ALi (by omega),AMn,As (i:=j) (by omega)];simp_all) (fun n=>by
    simp only[Gp,PC,AB];rw[ALj (by omega),As (i:=i) (by omega)]) (rs.getD i AX).2.2.1.length n 0 (by omega) (by omega)
   exact this
  obtain⟨m,hm⟩:∃m,AU=m+2^40:=⟨AU-2^40,by have:=Xs;omega⟩;have o0:=o 0 (by omega);have o1:=o 1 (by omega);have e0:=inner 0 (by omega) (m+2^40-1) (by omega);have e1:=inner 1 (by omega) (m+2^40-1-(rs.getD 0 AX).2.2.1.length-1-1) (by omega);rw[show m+2^40-1+1=AU by omega,show((0:Nat):Int)=0 from rfl,show((0+1:Nat):Int)=((1:Nat):Int)from rfl]at e0;rw[show m+2^40-1-(rs.getD 0 AX).2.2.1.length-1-1+1=m+2^40-1-(rs.getD 0 AX).2.2.1.length-1 by omega]at e1;rw[e0,e1];obtain⟨q,hq⟩:∃q,m+2^40-1-(rs.getD 0 AX).2.2.1.length-1-1-(rs.getD 1 AX).2.2.1.length-1=q+1:=⟨_,(Nat.succ_pred_eq_of_pos (by omega)).symm⟩;rw[hq];have AMQ:Dk (q+1) rs rs.length ((1+1:Nat):Int)=some ((true,()),()):=by
   simp only[Dk,O4,AB];simp_all
  grind
theorem mj:Sr w=some ((Kd w,()),()):=by
 have k2:=h.MX;unfold Sr WT Kd;rw[Fa w,FX h];simp only[AMA];rcases ALh (Cx w)with Du|Du
 rotate_left
 ·simp_all
 rw[Du];simp only[AL9,ALm,ANC];have h2:=FV Du;have o:=fun i hi=>h.out (i:=i) hi
 generalize w.2.2.2.2.2.2.2.2.1=rs at h2 o
 generalize w.1=a0
 generalize w.2.1=a1
 generalize w.2.2.1=a2
 generalize w.2.2.2.1=a3
 generalize w.2.2.2.2.1=a4
 generalize w.2.2.2.2.2.1=a5
 generalize w.2.2.2.2.2.2.1=a6
 generalize w.2.2.2.2.2.2.2.1=a7
 generalize w.2.2.2.2.2.2.2.2.2.1=a9
 cases w.2.2.2.2.2.2.2.2.2.2.1 with
 |true=>
  obtain⟨m,hm⟩:∃m,AU=m+1:=⟨AU-1,by have:=Xs;omega⟩;rw[hm];rfl
 |false=>
  simp only[APU];have inner:∀(i:Nat),i<rs.length-> ∀n,2^20<n->EM (n+1) i a0 a1 a2 a3 a4 a5 a6 a7 rs a9 false=cond (AAe (rs.getD i AX).2.2.1) (EM (n-(rs.getD i AX).2.2.1.length-1) ((i+1:Nat):Int) a0 a1 a2 a3 a4 a5 a6 a7 rs a9 false) (some ((false,()),())):=fun i hi n hn=>by
   have ho:=o i hi;simp only[EM,WR,AB];rw[ALi (by omega)];have:=YZ (L:=fun n j=>Gm n i j false (!false) a0 a1 a2 a3 a4 a5 a6 a7 rs a9 false) (len:=(rs.getD i AX).2.2.1.length) (p:=fun j=> !(((rs.getD i AX).2.2.1.getD j E7).1==3)) (K:=fun n=>EM n ((i+1:Nat):Int) a0 a1 a2 a3 a4 a5 a6 a7 rs a9 false) (no:=some ((false,()),())) (fun n j hj=>by
    simp only[Gm,O1,AB];have hb:(0:Int)<=(i:Int)/\(i:Int)<(rs.length:Int):=by omega
    simp only[ALi hb,AMn];have hd:(rs.getD i (0,0,[],())).2.2.1.length=(rs.getD i AX).2.2.1.length:=rfl;rw[ALi (by omega),ALi (by omega),As (i:=j) (by omega)];simp_all) (fun n=>by
    simp only[Gm,O1,AB];have hb:(0:Int)<=(i:Int)/\(i:Int)<(rs.length:Int):=by omega
    simp only[ALi hb,AMn];have hd:(rs.getD i (0,0,[],())).2.2.1.length=(rs.getD i AX).2.2.1.length:=rfl;rw[ALj (by omega),As (i:=i) (by omega)]) (rs.getD i AX).2.2.1.length n 0 (by omega) (by omega)
   exact this
  obtain⟨m,hm⟩:∃m,AU=m+2^40:=⟨AU-2^40,by have:=Xs;omega⟩;have o0:=o 0 (by omega);have o1:=o 1 (by omega);have e0:=inner 0 (by omega) (m+2^40-1) (by omega);have e1:=inner 1 (by omega) (m+2^40-1-(rs.getD 0 AX).2.2.1.length-1-1) (by omega);rw[show m+2^40-1+1=AU by omega,show((0:Nat):Int)=0 from rfl,show((0+1:Nat):Int)=((1:Nat):Int)from rfl]at e0;rw[show m+2^40-1-(rs.getD 0 AX).2.2.1.length-1-1+1=m+2^40-1-(rs.getD 0 AX).2.2.1.length-1 by omega]at e1;rw[e0,e1];obtain⟨q,hq⟩:∃q,m+2^40-1-(rs.getD 0 AX).2.2.1.length-1-1-(rs.getD 1 AX).2.2.1.length-1=q+1:=⟨_,(Nat.succ_pred_eq_of_pos (by omega)).symm⟩;rw[hq];have AMQ:EM (q+1) ((1+1:Nat):Int) a0 a1 a2 a3 a4 a5 a6 a7 rs a9 false=some ((true,()),()):=by
   rfl
  grind
end
theorem Wt{R:Type}{L:Nat->Int->Option R}{len E:Nat}{q:Nat->Bool}{e:Nat->Nat}{fin no:Option R}(he:∀i,i<len->e i<=E)(h1:∀i,i<len-> ∀n,E<n->L (n+1) i=cond (q i) (L (n-e i-1) ((i+1:Nat):Int)) no)(h2:∀n,L (n+1) (len:Int)=fin):
  ∀d n i,i+d=len->d*(E+2)<n->L n i=cond (CX q i d) fin no
 |0,n,i,hd,h=>by
  obtain⟨m,rfl⟩:∃m,n=m+1:=⟨n-1,by omega⟩;have:i=len:=by omega
  subst this;rw[h2];rfl
 |d+1,n,i,hd,h=>by
  rw[Nat.succ_mul]at h;obtain⟨m,rfl⟩:∃m,n=m+1:=⟨n-1,by omega⟩;have hi:=he i (by omega);rw[h1 i (by omega) m (by omega)];simp only[CX];cases q i with
  |false=>rfl
  |true=>rw[AMs,Wt he h1 h2 d _ (i+1) (by omega) (by omega),ANC]
theorem gG{d E:Nat}(hd:d<=2^20)(hE:E<=2^20):d*(E+2)<AU:=by
 have h1:d*(E+2)<=2^20*(2^20+2):=AWt hd (by omega);exact AZ (by omega)
def yx:Option Int->List Au->Bool
 |_,[]=>true
 |last,e::l=>cond (BJ e.1 1 3) (cond (match last with|some a=>decide (a<e.2.1)|none=>true) (yx (some e.2.1) l) false) (yx last l)
theorem ACq{e:Au}:Xf e=some ((BJ e.1 1 3,()),()):=by
 grind[Xf,BJ,decide_eq_false]
theorem nh{l:List Au}{a b:Int}(hl:l.length<=2^40):∀(n i:Nat) (t:Int) (last:Option Int),i<=l.length->l.length-i<n->((t= -1/\last=none)\/ ∃j:Nat,t=(j:Int)/\j<l.length/\last=some (l.getD j (0,0,[],())).2.1)->
  MY n t i a b l=some ((yx last (l.drop i),()),())
 |0,i,_,_,_,h,_=>by omega
 |n+1,i,t,last,hi,h,ht=>by
  simp only[MY,Zj,AB,bf,BU,AMA];by_cases hc:i<l.length
  ·have hb:(0:Int)<=(i:Int)/\(i:Int)<(l.length:Int):=by omega
   rw[ALi hb.2,As (i:=i) (by omega)];simp only[ALi hb];rw[drop_cons hc];simp only[yx];have hg:l.getD ((i:Int).toNat) (0,0,[],())=l[i]:=Af hc;have hg2:l.getD i (0,0,[],())=l[i]:=by simp_all
   rw[hg];cases BJ l[i].1 1 3 with
   |false=>
    simp only[APP,AMs,ALm];exact nh hl n (i+1) t last (by omega) (by omega) ht
   |true=>
    simp only[AL9,AMs,ALm];have next:=nh (a:=a) (b:=b) hl n (i+1) (i:Int) (some l[i].2.1) (by omega) (by omega) (.inr ⟨i,rfl,hc,by rw[hg2]⟩);grind
  ·rw[ALj (by omega),ANG (by omega)]
   rfl
theorem sx{r:Ac}(hl:r.2.2.1.length<=2^40):R0 r=some ((yx none r.2.2.1,()),()):=by
 unfold R0 Z2;have:=nh (a:=r.1) (b:=r.2.1) hl AU 0 (-1) none (by omega) (AZ (by omega)) (.inl ⟨rfl,rfl⟩);simp_all
def KL(w:AA):Bool:=Cx w&&(yx none (w.2.2.2.2.2.2.2.2.1.getD 0 AX).2.2.1&&yx none (w.2.2.2.2.2.2.2.2.1.getD 1 AX).2.2.1)
section
variable{w:AA} (h:mq w)
include h
theorem oF:Sa w=some ((KL w,()),()):=by
 unfold Sa KL;rw[Fa w,FX h];simp only[AMA];rcases ALh (Cx w)with Du|Du
 rotate_left
 ·simp_all
 rw[Du];have h2:=FV Du;have o0:=h.out (i:=0) (by omega);have o1:=h.out (i:=1) (by omega);simp only[AMs,ANC];rw[ALi (by omega),ALi (by omega)];rw[show((w.2.2.2.2.2.2.2.2.1.getD 0 (0,0,[],())).1,(w.2.2.2.2.2.2.2.2.1.getD 0 (0,0,[],())).2.1,(w.2.2.2.2.2.2.2.2.1.getD 0 (0,0,[],())).2.2.1,())=w.2.2.2.2.2.2.2.2.1.getD 0 AX from rfl,show((w.2.2.2.2.2.2.2.2.1.getD 1 (0,0,[],())).1,(w.2.2.2.2.2.2.2.2.1.getD 1 (0,0,[],())).2.1,(w.2.2.2.2.2.2.2.2.1.getD 1 (0,0,[],())).2.2.1,())=w.2.2.2.2.2.2.2.2.1.getD 1 AX from rfl];rw[sx (by omega),sx (by omega)];grind
theorem n0:Sk w=some ((KL w,()),()):=by
 have k2:=h.MX;unfold Sk WB KL;have hW:=EY h;have o:=fun i hi=>h.out (i:=i) hi
 have inner:∀(i:Nat),i<w.2.2.2.2.2.2.2.2.1.length-> ∀(n j:Nat) (t:Int) (g:Bool) (last:Option Int),j<=(w.2.2.2.2.2.2.2.2.1.getD i AX).2.2.1.length->(w.2.2.2.2.2.2.2.2.1.getD i AX).2.2.1.length-j<n->((g=false/\last=none)\/(g=true/\last=some t))->
   IC n t g w.2.2.2.2.2.2.2.2.1 w.2.2.2.2.2.2.2.2.1.length i (w.2.2.2.2.2.2.2.2.1.getD i AX).2.2.1 (w.2.2.2.2.2.2.2.2.1.getD i AX).2.2.1.length j w.1 w.2.1 w.2.2.1 w.2.2.2.1 w.2.2.2.2.1 w.2.2.2.2.2.1 w.2.2.2.2.2.2.1 w.2.2.2.2.2.2.2.1 w.2.2.2.2.2.2.2.2.1 w.2.2.2.2.2.2.2.2.2.1 w.2.2.2.2.2.2.2.2.2.2.1=
    cond (yx last ((w.2.2.2.2.2.2.2.2.1.getD i AX).2.2.1.drop j)) (E4 (n-((w.2.2.2.2.2.2.2.2.1.getD i AX).2.2.1.length-j)-1) w.2.2.2.2.2.2.2.2.1 w.2.2.2.2.2.2.2.2.1.length ((i+1:Nat):Int) w.1 w.2.1 w.2.2.1 w.2.2.2.1 w.2.2.2.2.1 w.2.2.2.2.2.1 w.2.2.2.2.2.2.1 w.2.2.2.2.2.2.2.1 w.2.2.2.2.2.2.2.2.1 w.2.2.2.2.2.2.2.2.2.1 w.2.2.2.2.2.2.2.2.2.2.1) (some ((false,()),())):=by
  intro i hi;have ho:=o i hi
  generalize (w.2.2.2.2.2.2.2.2.1.getD i AX).2.2.1=l at ho
  intro n
  induction n with
  |zero=>omega
  |succ n ih=>
   intro j t g last hj hn ht;simp only[IC,V_,AB];by_cases hc:j<l.length
   ·rw[ALi (by omega),ALi (by omega),As (i:=j) (by omega),Af hc,drop_cons hc,PG (l[j]),ACq]
    simp only[AMA,yx];rw[show n+1-(l.length-j)-1=n-(l.length-(j+1))-1 by omega];cases BJ l[j].1 1 3 with
    |false=>
     simp only[APP,AMs,ALm];exact ih (j+1) t g last (by omega) (by omega) ht
    |true=>
     simp only[AL9,AMs,ALm];have next:=ih (j+1) l[j].2.1 true (some l[j].2.1) (by omega) (by omega) (.inr ⟨rfl,rfl⟩);grind
   ·rw[ALj (by omega),As (i:=i) (by omega),ANG (by omega),show n+1-(l.length-j)-1=n by omega]
    rfl
 have outer:=Wt (L:=fun n i=>E4 n w.2.2.2.2.2.2.2.2.1 w.2.2.2.2.2.2.2.2.1.length i w.1 w.2.1 w.2.2.1 w.2.2.2.1 w.2.2.2.2.1 w.2.2.2.2.2.1 w.2.2.2.2.2.2.1 w.2.2.2.2.2.2.2.1 w.2.2.2.2.2.2.2.2.1 w.2.2.2.2.2.2.2.2.2.1 w.2.2.2.2.2.2.2.2.2.2.1) (len:=w.2.2.2.2.2.2.2.2.1.length) (E:=2^20) (q:=fun i=>yx none (w.2.2.2.2.2.2.2.2.1.getD i AX).2.2.1) (e:=fun i=>(w.2.2.2.2.2.2.2.2.1.getD i AX).2.2.1.length) (fin:=some ((Cx w,()),())) (no:=some ((false,()),())) (fun i hi=>o i hi) (fun i hi n hn=>by
   have ho:=o i hi;simp only[E4,PB,AB];rw[ALi (by omega),ALi (by omega),AMn];have:=inner i hi n 0 0 false none (by omega) (by omega) (.inl ⟨rfl,rfl⟩);simp_all) (fun n=>by
   simp only[E4,PB,AB];simp_all) w.2.2.2.2.2.2.2.2.1.length AU 0 (by omega) (gG (by omega) (by omega))
 rw[show((0:Nat):Int)=0 from rfl]at outer;refine Eq.trans outer ?_
 rcases ALh (Cx w)with Du|Du
 ·rw[Du,FV Du]
  simp only[CX,ANC,AQp];grind
 simp_all
end
def fnd(p:Int):List Aj->List UInt8×Bool
 |[]=>([],false)
 |s::l=>cond (s.1==p) (s.2.1,true) (fnd p l)
section
variable{w:AA} (h:mq w)
include h
end
def anyS(p:Int)(d:ABG):List Aj->Bool
 |[]=>false
 |s::l=>(s.1==p&&s.2.1==d)||anyS p d l
theorem ADt{p:Int}{d:ABG}:∀{l:List Aj},(∀s∈l,s.1≠p)->anyS p d l=false
 |[],_=>rfl
 |s::l,h=>by
  have h1:(s.1==p)=false:=by simp_all
  simp only[anyS,h1,AR5,APU];exact ADt fun x hx=>h x (by simp[hx])
theorem ACX{p:Int}{d:ABG}:∀{l:List Aj},l.Pairwise (fun a b=>a.1<b.1)->anyS p d l=((fnd p l).2&&(fnd p l).1==d)
 |[],_=>rfl
 |s::l,h=>by
  obtain⟨h1,h2⟩:=AP5.1 h;simp only[anyS,fnd];by_cases hp:s.1=p
  ·grind[ADt]
  ·have e1:(s.1==p)=false:=by simp[hp]
   rw[e1,ACX h2];simp
theorem oT{w:AA}(h:Cx w=true):tN w=true:=by
 simp only[Cx,AL8,AM7]at h;simp_all
theorem AHI{w:AA}(h:tN w=true):w.2.2.2.2.2.2.2.2.2.1.Pairwise (fun a b=>a.1<b.1):=by
 have step:∀i,i+1<w.2.2.2.2.2.2.2.2.2.1.length->(w.2.2.2.2.2.2.2.2.2.1.getD i Hs).1<(w.2.2.2.2.2.2.2.2.2.1.getD (i+1) Hs).1:=fun i hi=>by
  have:=N5 h (i+1) (by omega) (by omega);simp only[sw,AL8,AR1,AM7,ASQ]at this;simp_all
 generalize w.2.2.2.2.2.2.2.2.2.1=l at step
 rw[AT1];intro i j hi hj hij;have key:∀d,i+d+1<l.length->(l.getD i Hs).1<(l.getD (i+d+1) Hs).1:=by
  intro d
  induction d with
  |zero=>grind
  |succ d ih=>
   grind
 have:=key (j-i-1) (by omega);grind
theorem AH_{w:AA}{p:Int}(hl:w.2.2.2.2.2.2.2.2.2.1.length<=2^40):dV w p=some ((((fnd p w.2.2.2.2.2.2.2.2.2.1).1,(fnd p w.2.2.2.2.2.2.2.2.2.1).2,()),()),()):=by
 unfold dV dm
 generalize w.2.2.2.2.2.2.2.2.2.1=l at hl
 have key:∀(n i:Nat),i<=l.length->l.length-i<n->QB n p l l.length i=some ((((fnd p (l.drop i)).1,(fnd p (l.drop i)).2,()),()),()):=by
  intro n
  induction n with
  |zero=>omega
  |succ n ih=>
   intro i hi h;simp only[QB,eC,AB];by_cases hc:i<l.length
   ·rw[ALi (by omega),ALi (by omega),As (i:=i) (by omega),Af hc,drop_cons hc,ih (i+1) (by omega) (by omega)]
    simp only[fnd];cases l[i].1==p<;>rfl
   ·rw[ALj (by omega),ANG (by omega)]
    rfl
 grind[AU,AZ]
theorem AEY{w:AA}{e:Au}(hl:w.2.2.2.2.2.2.2.2.2.1.length<=2^40):aI w e=some ((anyS e.2.1 e.2.2.1 w.2.2.2.2.2.2.2.2.2.1,()),()):=by
 unfold aI bu
 generalize w.2.2.2.2.2.2.2.2.2.1=l at hl
 have key:∀(n i:Nat),i<=l.length->l.length-i<n->OU n i w.1 w.2.1 w.2.2.1 w.2.2.2.1 w.2.2.2.2.1 w.2.2.2.2.2.1 w.2.2.2.2.2.2.1 w.2.2.2.2.2.2.2.1 w.2.2.2.2.2.2.2.2.1 l w.2.2.2.2.2.2.2.2.2.2.1 e.1 e.2.1 e.2.2.1=some ((anyS e.2.1 e.2.2.1 (l.drop i),()),()):=by
  intro n
  induction n with
  |zero=>omega
  |succ n ih=>
   intro i hi h;simp only[OU,cX,AB];by_cases hc:i<l.length
   ·have hb:(0:Int)<=(i:Int)/\(i:Int)<(l.length:Int):=by omega
    rw[ALi hb.2,As (i:=i) (by omega)];simp only[ALi hb];rw[Af hc,drop_cons hc,ih (i+1) (by omega) (by omega)];simp only[anyS];cases l[i].1==e.2.1<;>cases l[i].2.1==e.2.2.1<;>rfl
   ·rw[ALj (by omega),ANG (by omega)]
    rfl
 grind[AU,AZ]
def AB7(ss:List Aj)(e:Au):Bool:= !(e.1==1)||((fnd e.2.1 ss).2&&(fnd e.2.1 ss).1==e.2.2.1)
def AGi(ss:List Aj)(l:List Au):Bool:=CX (fun j=>AB7 ss (l.getD j E7)) 0 l.length
def Md(w:AA):Bool:=Cx w&&(AGi w.2.2.2.2.2.2.2.2.2.1 (w.2.2.2.2.2.2.2.2.1.getD 0 AX).2.2.1&&AGi w.2.2.2.2.2.2.2.2.2.1 (w.2.2.2.2.2.2.2.2.1.getD 1 AX).2.2.1)
section
variable{w:AA} (h:mq w)
include h
theorem pj:Uu w=some ((Md w,()),()):=by
 have k2:=h.MX;unfold Uu X0 Md;have hW:=EY h;have o:=fun i hi=>h.out (i:=i) hi
 have outer:=Wt (L:=fun n i=>GF n w.2.2.2.2.2.2.2.2.1 w.2.2.2.2.2.2.2.2.1.length i w.1 w.2.1 w.2.2.1 w.2.2.2.1 w.2.2.2.2.1 w.2.2.2.2.2.1 w.2.2.2.2.2.2.1 w.2.2.2.2.2.2.2.1 w.2.2.2.2.2.2.2.2.1 w.2.2.2.2.2.2.2.2.2.1 w.2.2.2.2.2.2.2.2.2.2.1) (len:=w.2.2.2.2.2.2.2.2.1.length) (E:=2^20) (q:=fun i=>AGi w.2.2.2.2.2.2.2.2.2.1 (w.2.2.2.2.2.2.2.2.1.getD i AX).2.2.1) (e:=fun i=>(w.2.2.2.2.2.2.2.2.1.getD i AX).2.2.1.length) (fin:=some ((Cx w,()),())) (no:=some ((false,()),())) (fun i hi=>o i hi) (fun i hi n hn=>by
   have ho:=o i hi;simp only[GF,P2,AB];rw[ALi (by omega),ALi (by omega),AMn];have:=YZ (L:=fun n j=>HE n w.2.2.2.2.2.2.2.2.1 w.2.2.2.2.2.2.2.2.1.length i (w.2.2.2.2.2.2.2.2.1.getD i AX).2.2.1 (w.2.2.2.2.2.2.2.2.1.getD i AX).2.2.1.length j w.1 w.2.1 w.2.2.1 w.2.2.2.1 w.2.2.2.2.1 w.2.2.2.2.2.1 w.2.2.2.2.2.2.1 w.2.2.2.2.2.2.2.1 w.2.2.2.2.2.2.2.2.1 w.2.2.2.2.2.2.2.2.2.1 w.2.2.2.2.2.2.2.2.2.2.1) (len:=(w.2.2.2.2.2.2.2.2.1.getD i AX).2.2.1.length) (p:=fun j=>AB7 w.2.2.2.2.2.2.2.2.2.1 ((w.2.2.2.2.2.2.2.2.1.getD i AX).2.2.1.getD j E7)) (K:=fun n=>GF n w.2.2.2.2.2.2.2.2.1 w.2.2.2.2.2.2.2.2.1.length ((i+1:Nat):Int) w.1 w.2.1 w.2.2.1 w.2.2.2.1 w.2.2.2.2.1 w.2.2.2.2.2.1 w.2.2.2.2.2.2.1 w.2.2.2.2.2.2.2.1 w.2.2.2.2.2.2.2.2.1 w.2.2.2.2.2.2.2.2.2.1 w.2.2.2.2.2.2.2.2.2.2.1) (no:=some ((false,()),())) (fun n j hj=>by
    simp only[HE,Qe,AB,AB7];rw[ALi (by omega),ALi (by omega),AMn,As (i:=j) (by omega),Fa w,AH_ (by omega)];grind) (fun n=>by
    simp only[HE,Qe,AB];rw[ALj (by omega),As (i:=i) (by omega)]) (w.2.2.2.2.2.2.2.2.1.getD i AX).2.2.1.length n 0 (by omega) (by omega)
   exact this) (fun n=>by
   simp only[GF,P2,AB];simp_all) w.2.2.2.2.2.2.2.2.1.length AU 0 (by omega) (gG (by omega) (by omega))
 rw[show((0:Nat):Int)=0 from rfl]at outer;refine Eq.trans outer ?_
 rcases ALh (Cx w)with Du|Du
 ·rw[Du,FV Du]
  simp only[CX,ANC,AQp];grind
 simp_all
theorem ot:Uz w=some ((Md w,()),()):=by
 have k2:=h.MX;unfold Uz YT Md;rw[Fa w,FX h];simp only[AMA];rcases ALh (Cx w)with Du|Du
 rotate_left
 ·simp_all
 rw[Du];simp only[AL9,ALm,ANC];have h2:=FV Du;have AFT:=AHI (oT Du);have o:=fun i hi=>h.out (i:=i) hi
 have outer:=Wt (L:=fun n i=>HX n i w.1 w.2.1 w.2.2.1 w.2.2.2.1 w.2.2.2.2.1 w.2.2.2.2.2.1 w.2.2.2.2.2.2.1 w.2.2.2.2.2.2.2.1 w.2.2.2.2.2.2.2.2.1 w.2.2.2.2.2.2.2.2.2.1 w.2.2.2.2.2.2.2.2.2.2.1) (len:=2) (E:=2^20) (q:=fun i=>AGi w.2.2.2.2.2.2.2.2.2.1 (w.2.2.2.2.2.2.2.2.1.getD i AX).2.2.1) (e:=fun i=>(w.2.2.2.2.2.2.2.2.1.getD i AX).2.2.1.length) (fin:=some ((true,()),())) (no:=some ((false,()),())) (fun i hi=>o i (by omega)) (fun i hi n hn=>by
   have ho:=o i (by omega);have hb:(0:Int)<=(i:Int)/\(i:Int)<(w.2.2.2.2.2.2.2.2.1.length:Int):=by omega
   have hd:(w.2.2.2.2.2.2.2.2.1.getD i (0,0,[],())).2.2.1.length=(w.2.2.2.2.2.2.2.2.1.getD i AX).2.2.1.length:=rfl;simp only[HX,YD,AB];rw[ALi (by omega)];have:=YZ (L:=fun n j=>HF n i j w.1 w.2.1 w.2.2.1 w.2.2.2.1 w.2.2.2.2.1 w.2.2.2.2.2.1 w.2.2.2.2.2.2.1 w.2.2.2.2.2.2.2.1 w.2.2.2.2.2.2.2.2.1 w.2.2.2.2.2.2.2.2.2.1 w.2.2.2.2.2.2.2.2.2.2.1) (len:=(w.2.2.2.2.2.2.2.2.1.getD i AX).2.2.1.length) (p:=fun j=>AB7 w.2.2.2.2.2.2.2.2.2.1 ((w.2.2.2.2.2.2.2.2.1.getD i AX).2.2.1.getD j E7)) (K:=fun n=>HX n ((i+1:Nat):Int) w.1 w.2.1 w.2.2.1 w.2.2.2.1 w.2.2.2.2.1 w.2.2.2.2.2.1 w.2.2.2.2.2.2.1 w.2.2.2.2.2.2.2.1 w.2.2.2.2.2.2.2.2.1 w.2.2.2.2.2.2.2.2.2.1 w.2.2.2.2.2.2.2.2.2.2.1) (no:=some ((false,()),())) (fun n j hj=>by
    simp only[HF,QS,AB,AB7];simp only[ALi hb,AMn];rw[ALi (by omega),ALi (by omega),As (i:=j) (by omega),Fa w,AEY (by omega)];simp only[AMA];rw[ACX AFT];grind) (fun n=>by
    simp only[HF,QS,AB];simp only[ALi hb,AMn];rw[ALj (by omega),As (i:=i) (by omega)]) (w.2.2.2.2.2.2.2.2.1.getD i AX).2.2.1.length n 0 (by omega) (by omega)
   exact this) (fun n=>by
   rfl) 2 AU 0 (by omega) (gG (by omega) (by omega))
 rw[show((0:Nat):Int)=0 from rfl]at outer;refine Eq.trans outer ?_
 simp only[CX,AQp];grind
end
def kd(p:Int):List Au->List UInt8×Bool
 |[]=>([],false)
 |e::l=>cond (e.1==1&&e.2.1==p) (e.2.2.1,true) (kd p l)
theorem ia{r:Ac}{p:Int}(hl:r.2.2.1.length<=2^40):W9 r p=some ((((kd p r.2.2.1).1,(kd p r.2.2.1).2,()),()),()):=by
 unfold W9 jQ
 generalize r.2.2.1=l at hl
 have key:∀(n i:Nat),i<=l.length->l.length-i<n->UM n p l l.length i=some ((((kd p (l.drop i)).1,(kd p (l.drop i)).2,()),()),()):=by
  intro n
  induction n with
  |zero=>omega
  |succ n ih=>
   intro i hi h;simp only[UM,ja,AB];by_cases hc:i<l.length
   ·rw[ALi (by omega),ALi (by omega),As (i:=i) (by omega),Af hc,drop_cons hc,ih (i+1) (by omega) (by omega)]
    simp only[kd];cases l[i].1==1<;>cases l[i].2.1==p<;>rfl
   ·rw[ALj (by omega),ANG (by omega)]
    rfl
 grind[AU,AZ]
theorem im{r:Ac}{p:Int}(hl:r.2.2.1.length<=2^40):NS r p=some ((((kd p r.2.2.1).1,(kd p r.2.2.1).2,()),()),()):=by
 unfold NS cl
 generalize r.2.2.1=l at hl
 have key:∀(n i:Nat),i<=l.length->l.length-i<n->OM n p i r.1 r.2.1 l=some ((((kd p (l.drop i)).1,(kd p (l.drop i)).2,()),()),()):=by
  intro n
  induction n with
  |zero=>omega
  |succ n ih=>
   intro i hi h;simp only[OM,bP,AB];by_cases hc:i<l.length
   ·have hb:(0:Int)<=(i:Int)/\(i:Int)<(l.length:Int):=by omega
    rw[ALi hb.2,As (i:=i) (by omega)];simp only[ALi hb];rw[Af hc,drop_cons hc,ih (i+1) (by omega) (by omega)];simp only[kd];cases l[i].1==1<;>cases l[i].2.1==p<;>rfl
   ·rw[ALj (by omega),ANG (by omega)]
    rfl
 grind[AU,AZ]
def ahead(p:Int)(r:Ac):Bool:=cond (decide (Ah p<r.1)) true (cond (Ah p==r.1) (decide (Cc p<r.2.1)) false)
theorem nM{p:Int}{r:Ac}(hp:Bi p):Jk p r=some ((ahead p r,()),()):=by
 grind[Jk,ahead,D6,SA,decide,Ah]
theorem ACy{r:Ac}(h:VW r=true):(1<=r.1/\r.1<=31)/\(1<=r.2.1/\r.2.1<=61):=by
 simp only[VW,BJ,AL8,AM7]at h;omega
theorem AD1{p:Int}(h:Az p=true):p=4294967296*Ah p+Cc p/\(1<=Ah p/\Ah p<=30)/\(1<=Cc p/\Cc p<=60):=by
 have hr:=ea.1 h;have ho:Cc p=p.tmod 4294967296:=by grind[Cc]
 have he:Ah p=VT p:=by unfold Ah;rw[ALi h]
 have h2:=h;simp only[Az,BJ,AL8,AM7]at h2;grind[VT,Int.mul_tdiv_add_tmod]
theorem qY{p:Int}{r:Ac}(hr:VW r=true)(hp:Az p=true):Ie r p=some ((ahead p r,()),()):=by
 obtain⟨h1,h2⟩:=ACy hr;grind[AD1,Ie,Bo,ahead,ZR,Ah,decide_eq_true,decide_eq_false,Cc]
def ACP(trim:Int)(r:Ac)(s:Aj):Bool:= !(s.2.2.1&&(decide (trim<s.1)&&ahead s.1 r))||(kd s.1 r.2.2.1).2
def AGp(trim:Int)(ss:List Aj)(r:Ac):Bool:=CX (fun j=>ACP trim r (ss.getD j Hs)) 0 ss.length
def Mg(w:AA):Bool:=Cx w&&(w.2.2.2.2.2.2.2.2.2.2.1||(AGp w.2.2.2.2.2.1 w.2.2.2.2.2.2.2.2.2.1 (w.2.2.2.2.2.2.2.2.1.getD 0 AX)&&AGp w.2.2.2.2.2.1 w.2.2.2.2.2.2.2.2.2.1 (w.2.2.2.2.2.2.2.2.1.getD 1 AX)))
theorem kV{w:AA}(h:Cx w=true){i:Nat}(hi:i<2):VW (w.2.2.2.2.2.2.2.2.1.getD i AX)=true:=by
 simp only[Cx,cg,AL8,AM7]at h;grind
theorem zB{w:AA}(h:Cx w=true){j:Nat}(hj:j<w.2.2.2.2.2.2.2.2.2.1.length):Az (w.2.2.2.2.2.2.2.2.2.1.getD j Hs).1=true:=by
 have:=N5 (oT h) j (by omega) (by omega);simp only[sw,AL8]at this;simp_all
section
variable{w:AA} (h:mq w)
include h
theorem qA:Vm w=some ((Mg w,()),()):=by
 have k2:=h.MX;unfold Vm Xv Mg;rw[Fa w,EY h];simp only[AMA];rcases ALh (Cx w)with Du|Du
 rotate_left
 ·simp_all
 rw[Du];simp only[AL9,ALm,ANC];have h2:=FV Du;have o:=fun i hi=>h.out (i:=i) hi
 have RW:=fun j hj=>h.AI_ _ (BN (d:=Hs) (i:=j) hj)
 have outer:=Wt (L:=fun n i=>GB n w.2.2.2.2.2.2.2.2.1 w.2.2.2.2.2.2.2.2.1.length i w.1 w.2.1 w.2.2.1 w.2.2.2.1 w.2.2.2.2.1 w.2.2.2.2.2.1 w.2.2.2.2.2.2.1 w.2.2.2.2.2.2.2.1 w.2.2.2.2.2.2.2.2.1 w.2.2.2.2.2.2.2.2.2.1 w.2.2.2.2.2.2.2.2.2.2.1) (len:=w.2.2.2.2.2.2.2.2.1.length) (E:=2^20) (q:=fun i=>AGp w.2.2.2.2.2.1 w.2.2.2.2.2.2.2.2.2.1 (w.2.2.2.2.2.2.2.2.1.getD i AX)) (e:=fun _=>w.2.2.2.2.2.2.2.2.2.1.length) (fin:=some ((true,()),())) (no:=some ((false,()),())) (fun i hi=>by omega) (fun i hi n hn=>by
   have ho:=o i hi;simp only[GB,P4,AB];rw[ALi (by omega),ALi (by omega),AMn];have:=YZ (L:=fun n j=>HQ n w.2.2.2.2.2.2.2.2.1 w.2.2.2.2.2.2.2.2.1.length i w.2.2.2.2.2.2.2.2.2.1 w.2.2.2.2.2.2.2.2.2.1.length j w.1 w.2.1 w.2.2.1 w.2.2.2.1 w.2.2.2.2.1 w.2.2.2.2.2.1 w.2.2.2.2.2.2.1 w.2.2.2.2.2.2.2.1 w.2.2.2.2.2.2.2.2.1 w.2.2.2.2.2.2.2.2.2.1 w.2.2.2.2.2.2.2.2.2.2.1 (w.2.2.2.2.2.2.2.2.1.getD i AX).1 (w.2.2.2.2.2.2.2.2.1.getD i AX).2.1 (w.2.2.2.2.2.2.2.2.1.getD i AX).2.2.1) (len:=w.2.2.2.2.2.2.2.2.2.1.length) (p:=fun j=>ACP w.2.2.2.2.2.1 (w.2.2.2.2.2.2.2.2.1.getD i AX) (w.2.2.2.2.2.2.2.2.2.1.getD j Hs)) (K:=fun n=>GB n w.2.2.2.2.2.2.2.2.1 w.2.2.2.2.2.2.2.2.1.length ((i+1:Nat):Int) w.1 w.2.1 w.2.2.1 w.2.2.2.1 w.2.2.2.2.1 w.2.2.2.2.2.1 w.2.2.2.2.2.2.1 w.2.2.2.2.2.2.2.1 w.2.2.2.2.2.2.2.2.1 w.2.2.2.2.2.2.2.2.2.1 w.2.2.2.2.2.2.2.2.2.2.1) (no:=some ((false,()),())) (fun n j hj=>by
    simp only[HQ,QZ,ACP];rw[show decide ((j:Int)<(w.2.2.2.2.2.2.2.2.2.1.length:Int))=true from AOW (by omega),AMs,ALi (by omega),AMn,As (i:=j) (by omega)];rw[show((w.2.2.2.2.2.2.2.2.1.getD i AX).1,(w.2.2.2.2.2.2.2.2.1.getD i AX).2.1,(w.2.2.2.2.2.2.2.2.1.getD i AX).2.2.1,())=w.2.2.2.2.2.2.2.2.1.getD i AX from rfl];have hs:=RW j hj
    show(W9 (w.2.2.2.2.2.2.2.2.1.getD i AX) (w.2.2.2.2.2.2.2.2.2.1.getD j Hs).1).bind _=_
    rw[ia (by omega),nM hs];grind) (fun n=>by
    simp only[HQ,QZ,AB];rw[ALj (by omega),As (i:=i) (by omega)]) w.2.2.2.2.2.2.2.2.2.1.length n 0 (by omega) (by omega)
   exact this) (fun n=>by
   simp only[GB,P4,AB];simp_all) w.2.2.2.2.2.2.2.2.1.length AU 0 (by omega) (gG (by omega) (by omega))
 rw[show((0:Nat):Int)=0 from rfl]at outer;revert outer;cases w.2.2.2.2.2.2.2.2.2.2.1 with
 |true=>simp_all
 |false=>
  intro outer;simp only[ALm,APU];refine Eq.trans outer ?_
  rw[h2];simp only[CX,AQp];grind
theorem o8:VY w=some ((Mg w,()),()):=by
 have k2:=h.MX;unfold VY X8 Mg;rw[Fa w,FX h];simp only[AMA];rcases ALh (Cx w)with Du|Du
 rotate_left
 ·simp_all
 rw[Du];simp only[AL9,ALm,ANC];have h2:=FV Du;have o:=fun i hi=>h.out (i:=i) hi
 have hpl:=fun j hj=>zB Du (j:=j) hj
 have dC:=fun i hi=>kV Du (i:=i) hi
 cases ht:w.2.2.2.2.2.2.2.2.2.2.1 with
 |true=>
  obtain⟨m,hm⟩:∃m,AU=m+1:=⟨AU-1,by have:=Xs;omega⟩;rw[hm];rfl
 |false=>
  have outer:=Wt (L:=fun n i=>Ha n i w.1 w.2.1 w.2.2.1 w.2.2.2.1 w.2.2.2.2.1 w.2.2.2.2.2.1 w.2.2.2.2.2.2.1 w.2.2.2.2.2.2.2.1 w.2.2.2.2.2.2.2.2.1 w.2.2.2.2.2.2.2.2.2.1 false) (len:=2) (E:=2^20) (q:=fun i=>AGp w.2.2.2.2.2.1 w.2.2.2.2.2.2.2.2.2.1 (w.2.2.2.2.2.2.2.2.1.getD i AX)) (e:=fun _=>w.2.2.2.2.2.2.2.2.2.1.length) (fin:=some ((true,()),())) (no:=some ((false,()),())) (fun i hi=>by omega) (fun i hi n hn=>by
   have ho:=o i (by omega);have hb:(0:Int)<=(i:Int)/\(i:Int)<(w.2.2.2.2.2.2.2.2.1.length:Int):=by omega
   simp only[Ha,Yl,APP,AMs];rw[show decide ((i:Int)<2)=true from AOW (by omega),AMs];have:=YZ (L:=fun n j=>HK n i j false true w.1 w.2.1 w.2.2.1 w.2.2.2.1 w.2.2.2.2.1 w.2.2.2.2.2.1 w.2.2.2.2.2.2.1 w.2.2.2.2.2.2.2.1 w.2.2.2.2.2.2.2.2.1 w.2.2.2.2.2.2.2.2.2.1 false) (len:=w.2.2.2.2.2.2.2.2.2.1.length) (p:=fun j=>ACP w.2.2.2.2.2.1 (w.2.2.2.2.2.2.2.2.1.getD i AX) (w.2.2.2.2.2.2.2.2.2.1.getD j Hs)) (K:=fun n=>Ha n ((i+1:Nat):Int) w.1 w.2.1 w.2.2.1 w.2.2.2.1 w.2.2.2.2.1 w.2.2.2.2.2.1 w.2.2.2.2.2.2.1 w.2.2.2.2.2.2.2.1 w.2.2.2.2.2.2.2.2.1 w.2.2.2.2.2.2.2.2.2.1 false) (no:=some ((false,()),())) (fun n j hj=>by
    simp only[HK,QF,ACP];rw[show decide ((j:Int)<(w.2.2.2.2.2.2.2.2.2.1.length:Int))=true from AOW (by omega),AMs,ALi (by omega)];simp only[ALi hb,AMn];rw[As (i:=j) (by omega)];have hs:=hpl j hj
    show(NS (w.2.2.2.2.2.2.2.2.1.getD i AX) (w.2.2.2.2.2.2.2.2.2.1.getD j Hs).1).bind (fun u4=>cond _ (cond _ ((Ie (w.2.2.2.2.2.2.2.2.1.getD i AX) (w.2.2.2.2.2.2.2.2.2.1.getD j Hs).1).bind _) _) _)=_
    rw[im (by omega),qY (dC i (by omega)) hs];grind) (fun n=>by
    simp only[HK,QF,AB];rw[ALj (by omega),As (i:=i) (by omega)]) w.2.2.2.2.2.2.2.2.2.1.length n 0 (by omega) (by omega)
   exact this) (fun n=>by
   rfl) 2 AU 0 (by omega) (gG (by omega) (by omega))
  rw[show((0:Nat):Int)=0 from rfl]at outer;refine Eq.trans outer ?_
  simp only[CX,AQp,APU];grind
end
theorem AAz{e:Au}:∀{l:List Au},e∈l->e.1=1->(kd e.2.1 l).2=true
 |x::l,h,h1=>by
  simp only[kd];rcases AO3.1 h with rfl|h
  ·simp_all
  ·have ih:=AAz h h1
   grind
def dy(trim:Int)(r0 r1:Ac)(e:Au):Bool:=e.1==1&&(Az e.2.1&&(decide (trim<e.2.1)&&(ahead e.2.1 r0&&ahead e.2.1 r1)))
def ACd(trim:Int)(r0 r1:Ac)(e:Au):Bool:= !dy trim r0 r1 e||(((kd e.2.1 r0.2.2.1).2==(kd e.2.1 r1.2.2.1).2)&&((kd e.2.1 r0.2.2.1).1==(kd e.2.1 r1.2.2.1).1))
def xh(trim:Int)(r0 r1:Ac)(l:List Au):Bool:=CX (fun j=>ACd trim r0 r1 (l.getD j E7)) 0 l.length
def NC(w:AA):Bool:=Cx w&&(w.2.2.2.2.2.2.2.2.2.2.1||(xh w.2.2.2.2.2.1 (w.2.2.2.2.2.2.2.2.1.getD 0 AX) (w.2.2.2.2.2.2.2.2.1.getD 1 AX) (w.2.2.2.2.2.2.2.2.1.getD 0 AX).2.2.1&&xh w.2.2.2.2.2.1 (w.2.2.2.2.2.2.2.2.1.getD 0 AX) (w.2.2.2.2.2.2.2.2.1.getD 1 AX) (w.2.2.2.2.2.2.2.2.1.getD 1 AX).2.2.1))
def bV(w:AA):Prop:= ∀r∈w.2.2.2.2.2.2.2.2.1,∀e∈r.2.2.1,Bi e.2.1
theorem bV.of{w:AA}(hv:Go.Fw.Vd aR w):bV w:=fun r hr e he=>wf_i64 (((hv.2.2.2.2.2.2.2.2.1.2 r hr).2.2.1).2 e he).2.1
section
variable{w:AA} (h:mq w) (hev:bV w)
include h hev
theorem pg:Ua w=some ((NC w,()),()):=by
 have k2:=h.MX;unfold Ua X5 NC;rw[Fa w,EY h];simp only[AMA];rcases ALh (Cx w)with Du|Du
 rotate_left
 ·simp_all
 rw[Du];simp only[AL9,ALm,ANC];have h2:=FV Du;have o:=fun i hi=>h.out (i:=i) hi
 have o0:=o 0 (by omega);have o1:=o 1 (by omega);have b0:(0:Int)<=(0:Int)/\(0:Int)<(w.2.2.2.2.2.2.2.2.1.length:Int):=by omega
 have b1:(0:Int)<=(1:Int)/\(1:Int)<(w.2.2.2.2.2.2.2.2.1.length:Int):=by omega
 have outer:=Wt (L:=fun n i=>GA n w.2.2.2.2.2.2.2.2.1 w.2.2.2.2.2.2.2.2.1.length i w.1 w.2.1 w.2.2.1 w.2.2.2.1 w.2.2.2.2.1 w.2.2.2.2.2.1 w.2.2.2.2.2.2.1 w.2.2.2.2.2.2.2.1 w.2.2.2.2.2.2.2.2.1 w.2.2.2.2.2.2.2.2.2.1 w.2.2.2.2.2.2.2.2.2.2.1) (len:=w.2.2.2.2.2.2.2.2.1.length) (E:=2^20) (q:=fun i=>xh w.2.2.2.2.2.1 (w.2.2.2.2.2.2.2.2.1.getD 0 AX) (w.2.2.2.2.2.2.2.2.1.getD 1 AX) (w.2.2.2.2.2.2.2.2.1.getD i AX).2.2.1) (e:=fun i=>(w.2.2.2.2.2.2.2.2.1.getD i AX).2.2.1.length) (fin:=some ((true,()),())) (no:=some ((false,()),())) (fun i hi=>o i hi) (fun i hi n hn=>by
   have ho:=o i hi;simp only[GA,QY,AB];rw[ALi (by omega),ALi (by omega),AMn];have:=YZ (L:=fun n j=>HZ n w.2.2.2.2.2.2.2.2.1 w.2.2.2.2.2.2.2.2.1.length i (w.2.2.2.2.2.2.2.2.1.getD i AX).2.2.1 (w.2.2.2.2.2.2.2.2.1.getD i AX).2.2.1.length j w.1 w.2.1 w.2.2.1 w.2.2.2.1 w.2.2.2.2.1 w.2.2.2.2.2.1 w.2.2.2.2.2.2.1 w.2.2.2.2.2.2.2.1 w.2.2.2.2.2.2.2.2.1 w.2.2.2.2.2.2.2.2.2.1 w.2.2.2.2.2.2.2.2.2.2.1) (len:=(w.2.2.2.2.2.2.2.2.1.getD i AX).2.2.1.length) (p:=fun j=>ACd w.2.2.2.2.2.1 (w.2.2.2.2.2.2.2.2.1.getD 0 AX) (w.2.2.2.2.2.2.2.2.1.getD 1 AX) ((w.2.2.2.2.2.2.2.2.1.getD i AX).2.2.1.getD j E7)) (K:=fun n=>GA n w.2.2.2.2.2.2.2.2.1 w.2.2.2.2.2.2.2.2.1.length ((i+1:Nat):Int) w.1 w.2.1 w.2.2.1 w.2.2.2.1 w.2.2.2.2.1 w.2.2.2.2.2.1 w.2.2.2.2.2.2.1 w.2.2.2.2.2.2.2.1 w.2.2.2.2.2.2.2.2.1 w.2.2.2.2.2.2.2.2.2.1 w.2.2.2.2.2.2.2.2.2.2.1) (no:=some ((false,()),())) (fun n j hj=>by
    simp only[HZ,QR,ACd,dy];rw[show decide ((j:Int)<((w.2.2.2.2.2.2.2.2.1.getD i AX).2.2.1.length:Int))=true from AOW (by omega),AMs,ALi (by omega),AMn,As (i:=j) (by omega)];simp only[ALi b0,ALi b1];have hs:Bi ((w.2.2.2.2.2.2.2.2.1.getD i AX).2.2.1.getD j (0,0,[],())).2.1:=hev _ (BN (d:=AX) hi) _ (BN (d:=E7) hj);rw[show((w.2.2.2.2.2.2.2.2.1.getD 0 (0,0,[],())).1,(w.2.2.2.2.2.2.2.2.1.getD 0 (0,0,[],())).2.1,(w.2.2.2.2.2.2.2.2.1.getD 0 (0,0,[],())).2.2.1,())=w.2.2.2.2.2.2.2.2.1.getD 0 AX from rfl,show((w.2.2.2.2.2.2.2.2.1.getD 1 (0,0,[],())).1,(w.2.2.2.2.2.2.2.2.1.getD 1 (0,0,[],())).2.1,(w.2.2.2.2.2.2.2.2.1.getD 1 (0,0,[],())).2.2.1,())=w.2.2.2.2.2.2.2.2.1.getD 1 AX from rfl];rw[JM hs,nM hs,nM hs,ia (by omega),ia (by omega)];grind) (fun n=>by
    simp only[HZ,QR,AB];rw[ALj (by omega),As (i:=i) (by omega)]) (w.2.2.2.2.2.2.2.2.1.getD i AX).2.2.1.length n 0 (by omega) (by omega)
   exact this) (fun n=>by
   simp only[GA,QY,AB];simp_all) w.2.2.2.2.2.2.2.2.1.length AU 0 (by omega) (gG (by omega) (by omega))
 rw[show((0:Nat):Int)=0 from rfl]at outer;revert outer;cases w.2.2.2.2.2.2.2.2.2.2.1 with
 |true=>simp_all
 |false=>
  intro outer;simp only[ALm,APU];refine Eq.trans outer ?_
  rw[h2];simp only[CX,AQp];grind
omit h hev in
theorem s7{a b:Ac}(ha:a.2.2.1.length<=2^20)(hb2:b.2.2.1.length<=2^20)(ra:VW a=true)(rb:VW b=true)(RW:∀e∈a.2.2.1,Bi e.2.1):
  SE w a b=some ((CX (fun j=> !dy w.2.2.2.2.2.1 a b (a.2.2.1.getD j E7)||((kd (a.2.2.1.getD j E7).2.1 b.2.2.1).2&&((kd (a.2.2.1.getD j E7).2.1 b.2.2.1).1==(kd (a.2.2.1.getD j E7).2.1 a.2.2.1).1))) 0 a.2.2.1.length,()),()):=by
 unfold SE aB;have key:=GP (L:=fun n j=>KE n j w.1 w.2.1 w.2.2.1 w.2.2.2.1 w.2.2.2.2.1 w.2.2.2.2.2.1 w.2.2.2.2.2.2.1 w.2.2.2.2.2.2.2.1 w.2.2.2.2.2.2.2.2.1 w.2.2.2.2.2.2.2.2.2.1 w.2.2.2.2.2.2.2.2.2.2.1 a.1 a.2.1 a.2.2.1 b.1 b.2.1 b.2.2.1) (len:=a.2.2.1.length) (p:=fun j=> !dy w.2.2.2.2.2.1 a b (a.2.2.1.getD j E7)||((kd (a.2.2.1.getD j E7).2.1 b.2.2.1).2&&((kd (a.2.2.1.getD j E7).2.1 b.2.2.1).1==(kd (a.2.2.1.getD j E7).2.1 a.2.2.1).1))) (fin:=true) (fun n j hj=>by
  simp only[KE,RY,dy];rw[show decide ((j:Int)<(a.2.2.1.length:Int))=true from AOW (by omega),AMs,ALi (by omega),AMn,As (i:=j) (by omega)];rw[PG a,PG b];have hs:Bi (a.2.2.1.getD j (0,0,[],())).2.1:=RW _ (BN (d:=E7) hj);rw[FR hs,im (by omega),im (by omega),AF8];simp only[AMA,bne]
  show cond (!((a.2.2.1.getD j E7).1==1)) _ (cond (!Az (a.2.2.1.getD j E7).2.1) _ (cond (!decide (w.2.2.2.2.2.1<(a.2.2.1.getD j E7).2.1)) _ ((Ie a (a.2.2.1.getD j E7).2.1).bind _)))=_
  generalize a.2.2.1.getD j E7=e
  cases e.1==1 with
  |false=>rfl
  |true=>
   rcases ALh (Az e.2.1)with hp|hp
   rotate_left
   ·rw[hp];rfl
   rw[hp,qY ra hp,qY rb hp];simp only[AMA];cases decide (w.2.2.2.2.2.1<e.2.1)<;>cases ahead e.2.1 a<;>cases ahead e.2.1 b<;>(try rfl)<;>cases(kd e.2.1 b.2.2.1).2<;>cases((kd e.2.1 b.2.2.1).1==(kd e.2.1 a.2.2.1).1)<;>rfl) (fun n=>by
  simp only[KE,RY,AB];rw[ALj (by omega)]) a.2.2.1.length AU 0 (by omega) (AZ (by omega))
 rw[show((0:Nat):Int)=0 from rfl]at key;rw[key,AQp]
theorem p_:VJ w=some ((NC w,()),()):=by
 unfold VJ NC;rw[Fa w,FX h];simp only[AMA];rcases ALh (Cx w)with Du|Du
 rotate_left
 ·simp_all
 rw[Du];simp only[AL9,ALm,ANC];have h2:=FV Du;have b0:(0:Int)<=(0:Int)/\(0:Int)<(w.2.2.2.2.2.2.2.2.1.length:Int):=by omega
 have b1:(0:Int)<=(1:Int)/\(1:Int)<(w.2.2.2.2.2.2.2.2.1.length:Int):=by omega
 simp only[ALi b0,ALi b1];rw[show((w.2.2.2.2.2.2.2.2.1.getD 0 (0,0,[],())).1,(w.2.2.2.2.2.2.2.2.1.getD 0 (0,0,[],())).2.1,(w.2.2.2.2.2.2.2.2.1.getD 0 (0,0,[],())).2.2.1,())=w.2.2.2.2.2.2.2.2.1.getD 0 AX from rfl,show((w.2.2.2.2.2.2.2.2.1.getD 1 (0,0,[],())).1,(w.2.2.2.2.2.2.2.2.1.getD 1 (0,0,[],())).2.1,(w.2.2.2.2.2.2.2.2.1.getD 1 (0,0,[],())).2.2.1,())=w.2.2.2.2.2.2.2.2.1.getD 1 AX from rfl];have o0:=h.out (i:=0) (by omega);have o1:=h.out (i:=1) (by omega);have r0:=kV Du (i:=0) (by omega);have r1:=kV Du (i:=1) (by omega);have i0:=hev _ (BN (d:=AX) (i:=0) (by omega:0<w.2.2.2.2.2.2.2.2.1.length));have i1:=hev _ (BN (d:=AX) (i:=1) (by omega:1<w.2.2.2.2.2.2.2.2.1.length));rw[s7 o0 o1 r0 r1 i0,s7 o1 o0 r1 r0 i1];simp only[AMA]
 generalize w.2.2.2.2.2.2.2.2.1.getD 0 AX=a at o0 r0 i0
 generalize w.2.2.2.2.2.2.2.2.1.getD 1 AX=b at o1 r1 i1
 have e1:CX (fun j=> !dy w.2.2.2.2.2.1 a b (a.2.2.1.getD j E7)||((kd (a.2.2.1.getD j E7).2.1 b.2.2.1).2&&((kd (a.2.2.1.getD j E7).2.1 b.2.2.1).1==(kd (a.2.2.1.getD j E7).2.1 a.2.2.1).1))) 0 a.2.2.1.length=xh w.2.2.2.2.2.1 a b a.2.2.1:=by
  unfold xh;refine fH fun j _ hj=> ?_
  have hm:=BN (d:=E7) (by omega:j<a.2.2.1.length)
  generalize a.2.2.1.getD j E7=e at hm
  unfold ACd;rcases ALh (dy w.2.2.2.2.2.1 a b e)with hb|hb
  ·have hk:e.1=1:=by
    simp only[dy,AL8,ASQ]at hb;omega
   grind[AAz,BEq.comm,kd]
  simp_all
 have e2:CX (fun j=> !dy w.2.2.2.2.2.1 b a (b.2.2.1.getD j E7)||((kd (b.2.2.1.getD j E7).2.1 a.2.2.1).2&&((kd (b.2.2.1.getD j E7).2.1 a.2.2.1).1==(kd (b.2.2.1.getD j E7).2.1 b.2.2.1).1))) 0 b.2.2.1.length=xh w.2.2.2.2.2.1 a b b.2.2.1:=by
  unfold xh;refine fH fun j _ hj=> ?_
  have hm:=BN (d:=E7) (by omega:j<b.2.2.1.length)
  generalize b.2.2.1.getD j E7=e at hm
  unfold ACd;have hc:dy w.2.2.2.2.2.1 b a e=dy w.2.2.2.2.2.1 a b e:=by
   grind[dy,Bool.and_comm,ahead]
  rw[hc];rcases ALh (dy w.2.2.2.2.2.1 a b e)with hb|hb
  ·have hk:e.1=1:=by
    simp only[dy,AL8,ASQ]at hb;omega
   grind[AAz,kd]
  simp_all
 grind
end
end Go.M
end
section
namespace Go.M
open Go.M.H (AH AL BA Aj AA Cq AK BF AM Ac Au BL Am)
def Hr(e o:Int):Int:=4294967296*e+o
def EU(e o:Int):Int:=if BJ e 1 30&&BJ o 1 60 then Hr e o else 0
def mz(x:Int):List Int->List Int
 |[]=>[x]
 |y::l=>if x<y then x::y::l else y::mz x l
def Ov(x:Int)(l:AAO):AAO:=if l.contains x then l else mz x l
def less(l m:AAO):AAO:=l.filter fun x=> !m.contains x
def TK(c:Ca)(s l:AAO):Bool:=holds c s&&(BI c l&&(l.all s.contains&& !holds c (less s l)))
def Bf(k:Int):AAO:=if BJ k 0 255 then([0,1,2,3,4,5,6,7]:AAO).filter fun i=>(k/2^i.toNat)%2==1 else[]
def better(a b:AH):AH:=if b.2.1>a.2.1 then b else a
def keep(e:AH):List AH->List AH
 |[]=>[e]
 |x::l=>if x.1=e.1 then better x e::l else if x.1>e.1 then e::x::l else x::keep e l
def Ea:List AH->List AH->List AH
 |k,[]=>k
 |k,e::l=>Ea (keep e k) l
def N3(k:Int):Nat->List AH->List AH
 |_,[]=>[]
 |i,e::l=>if(k/2^i)%2=1 then e::N3 k (i+1) l else N3 k (i+1) l
def Qm(p:Int)(l:List AH):Option AH:=l.find? fun e=>e.1==p
def takes(s:AL)(e:AH):Bool:=if e.2.1=0 then decide (Ah e.1>s.2.2.1)else decide (e.2.1>s.2.2.1)
def Ht(s:AL)(e:AH):AL×Bool:=
 if !CS s then(EZ,false)else if Ga e&&(takes s e&&decide (s.2.1.length≠20))then((s.1,s.2.1++[e],s.2.2.1,()),true)else(s,false)
def Gn(s:AL)(k:Int):AL×Bool:=
 if !CS s then(EZ,false)else
  let q:=Ea s.1 (N3 k 0 s.2.1)
  if BJ k 0 1048575&&decide (q.length<=200)then((q,[],s.2.2.1,()),true)else(s,false)
def CQ(s:AL):AL×Bool:=Gn s 1048575
def B6(s:AL)(upto:Int):AL×Bool:=
 if !CS s then(EZ,false)else
  let o:=CQ s
  if o.2&&BJ upto 0 30 then((o.1.1,o.1.2.1,max o.1.2.2.1 upto,()),true)else(s,false)
def cv(s:AL)(p:Int):Option AH:=if CS s then Qm p s.1 else none
def HL(s:AL)(ep:Int):List AH:=if CS s then s.1.filter fun e=>Ah e.1==ep else[]
def J5(s:AL)(upto:Int):AL×Bool:=
 if !CS s then(EZ,false)else if Az upto then((s.1.filter fun e=>decide (e.1>upto),s.2.1,s.2.2.1,()),true)else(s,false)
abbrev qW:AK:=([],0,())
def Br(l:List Cq)(e:Int):AAO:=if BJ e 1 l.length then(l.getD (e-1).toNat Hu).1 else[]
def JZ(c:Ca)(r:AK)(ns:AAO):AK×Int×Bool:=
 if !QT c r then(qW,0,false)else if holds c ns&&decide (r.1.length≠30)then((r.1++[(ns,false,0,())],r.2.1,()),(r.1.length:Int)+1,true)else(r,0,false)
def Qt(l:List Cq)(i:Nat)(last:Int):List Cq:=l.set i ((l.getD i Hu).1,true,last,())
def OH(c:Ca)(r:AK)(b last:Int):AK×Bool:=
 if !QT c r then(qW,false)else
  if decide (b=r.1.length)&&(decide (BX r.1≠0)&&(decide (b≠BX r.1)&&BJ last 0 60))then((Qt r.1 (BX r.1-1).toNat last,r.2.1,()),true)else(r,false)
def PZ(c:Ca)(r:AK)(p:Int):AK×Bool:=
 if !QT c r then(qW,false)else if Az p&&decide (Ah p<=r.1.length)then((r.1,max r.2.1 p,()),true)else(r,false)
def CJ(c:Ca)(w:AM)(d:ABG):AM×Int×Bool:=
 if !EW c w then(CN,0,false)else
  if EW c (w.1,w.2.1++[(d,[],false,())],())then((w.1,w.2.1++[(d,[],false,())],()),(w.2.1.length:Int)+1,true)else(w,0,false)
def G3(c:Ca)(n:Int)(x:BF):BF:=(x.1,Ov n x.2.1,holds c (Ov n x.2.1),())
def Tk(c:Ca)(w:AM)(o n:Int):AM×Bool:=
 if !EW c w then(CN,false)else
  if BJ o 1 w.2.1.length&&(BJ n 0 ((c.1.length:Int)-1)&& !(w.2.1.getD (o-1).toNat NQ).2.2.1)then((w.1,w.2.1.set (o-1).toNat (G3 c n (w.2.1.getD (o-1).toNat NQ)),()),true)else(w,false)
def FH(n:Int)(x:BF):BF:=(x.1,if x.2.2.1 then x.2.1 else less x.2.1 [n],x.2.2.1,())
def CZ(c:Ca)(w:AM)(n:Int):AM×Bool:=
 if !EW c w then(CN,false)else((w.1,w.2.1.map (FH n),()),true)
def gJ:List BF->Nat
 |[]=>0
 |x::l=>if x.2.2.1 then gJ l+1 else 0
def vJ(e b:Int):BA:=(b,e,[],[],false,[],())
def P6(c:Ca)(m:BA)(n:Int)(l:List AH):BA×Bool:=
 if !HI c m then(Tr,false)else
  let o:BA:=(m.1,m.2.1,Ov n m.2.2.1,Ea m.2.2.2.1 (l.filter fun e=>Ah e.1==m.2.1),m.2.2.2.2.1,m.2.2.2.2.2.1,())
  if !m.2.2.2.2.1&&HI c o then(o,true)else(m,false)
def Me(c:Ca)(m:BA)(s:AAO):BA×Bool:=
 if !HI c m then(Tr,false)else
  if !m.2.2.2.2.1&&TK c s (m.2.2.1.filter s.contains)then((m.1,m.2.1,m.2.2.1,m.2.2.2.1,true,List.replicate (QQ m.2.2.2.1).toNat [],()),true)else(m,false)
def Ec(m:BA)(o:Int):Option AH:=
 if m.2.2.2.2.1&&(BJ m.2.1 1 30&&(BJ o 1 60&&decide (o<=m.2.2.2.2.2.1.length)))then
  match Qm (Hr m.2.1 o) m.2.2.2.1 with
  |some x=>some (Hr m.2.1 o,m.1,x.2.2.1,x.2.2.2.1,())
  |none=>some (Hr m.2.1 o,m.1,true,[],())
 else none
def VB(c:Ca)(m:BA)(o n:Int):BA×Bool:=
 if !HI c m then(Tr,false)else
  if BJ o 1 m.2.2.2.2.2.1.length&&BJ n 0 ((c.1.length:Int)-1)then((m.1,m.2.1,m.2.2.1,m.2.2.2.1,m.2.2.2.2.1,m.2.2.2.2.2.1.set (o-1).toNat (Ov n (m.2.2.2.2.2.1.getD (o-1).toNat [])),()),true)else(m,false)
def CU(c:Ca)(m:BA)(n:Int):BA×Bool:=
 if !HI c m then(Tr,false)else((m.1,m.2.1,m.2.2.1,m.2.2.2.1,m.2.2.2.2.1,m.2.2.2.2.2.1.map fun l=>less l [n],()),true)
def Wm(c:Ca)(m:BA):Bool:=HI c m&&(m.2.2.2.2.1&&m.2.2.2.2.2.1.all (holds c))
def aq(a:BL):AH:=(a.2.2.1,a.2.2.2.1,a.2.2.2.2.1,a.2.2.2.2.2.1,())
def Jj(s:AAO)(p:Int):Option AH->List BL->Option AH
 |b,[]=>b
 |b,a::l=>if a.2.1&&(s.contains a.1&&(Ga (aq a)&&(aq a).1==p))then
   Jj s p (some (match b with|some x=>better x (aq a)|none=>aq a)) l
  else Jj s p b l
def Wo(p:Int):Option AH->Au
 |none=>(3,p,[],())
 |some x=>if x.2.2.1 then(2,p,[],())else(1,p,x.2.2.2.1,())
def Dq(c:Ca)(g:AK)(sure:Int)(r:Ac)(l:List BL):Ac×Int:=
 if !(QT c g&&(VW r&&BI c (l.map fun a=>a.1)))then(AX,1)else
 if decide (r.1>g.1.length)||decide (r.2.2.1.length=120)then(r,2)else
 let era:=g.1.getD (r.1-1).toNat Hu
 let p:=Hr r.1 r.2.1
 if g.2.1>=p then((Ah g.2.1,Cc g.2.1+1,r.2.2.1++[(5,g.2.1,[],())],()),0)else
 if era.2.1&&decide (r.2.1>era.2.2.1)then((r.1+1,1,r.2.2.1++[(4,r.1+1,[],())],()),0)else
 if(!era.2.1&&decide (r.2.1>sure))||decide (r.2.1>60)then(r,2)else
 if !TK c era.1 ((l.map fun a=>a.1).filter era.1.contains)then(r,3)else
 ((r.1,r.2.1+1,r.2.2.1++[Wo p (Jj era.1 p none l)],()),0)
def HJ:List AH->List AL->List AH
 |k,[]=>k
 |k,s::l=>HJ (Ea k s.1) l
def others(lost:AAO):Nat->List AL->List AL
 |_,[]=>[]
 |i,s::l=>if lost.contains (i:Int)then others lost (i+1) l else s::others lost (i+1) l
def fk(c:Ca)(ss:List AL)(lost:AAO)(n upto:Int):AL×Bool:=
 let s:AL:=(HJ [] (others lost 0 ss),[],upto,())
 if Gh c&&(decide (ss.length=c.1.length)&&(BI c lost&&(!holds c lost&&(lost.contains n&&((others lost 0 ss).all CS&&CS s)))))then(s,true)else(EZ,false)
end Go.M
namespace Go.M.H.AA
open Go.M.H (AH AL BA Aj AA Cq AK BF AM Ac Au)
@[reducible] def Bd (w:AA):List AL:=w.2.2.1
@[reducible] def lost (w:AA):AAO:=w.2.2.2.1
@[reducible] def BQ (w:AA):List Cq:=w.2.2.2.2.1
@[reducible] def trim (w:AA):Int:=w.2.2.2.2.2.1
@[reducible] def AO (w:AA):List AM:=w.2.2.2.2.2.2.1
@[reducible] def Cg (w:AA):List BA:=w.2.2.2.2.2.2.2.1
@[reducible] def Aq (w:AA):List Ac:=w.2.2.2.2.2.2.2.2.1
@[reducible] def Ar (w:AA):List Aj:=w.2.2.2.2.2.2.2.2.2.1
@[reducible] def JG (w:AA):Bool:=w.2.2.2.2.2.2.2.2.2.2.1
@[reducible] def Cb (w:AA) (x:List AL):AA:=(w.1,w.2.1,x,w.2.2.2)
@[reducible] def Fo (w:AA) (x:AAO):AA:=(w.1,w.2.1,w.2.2.1,x,w.2.2.2.2)
@[reducible] def Ji (w:AA) (x:AK):AA:=(w.1,w.2.1,w.2.2.1,w.2.2.2.1,x.1,x.2.1,w.2.2.2.2.2.2)
@[reducible] def Bk (w:AA) (x:List AM):AA:=(w.1,w.2.1,w.2.2.1,w.2.2.2.1,w.2.2.2.2.1,w.2.2.2.2.2.1,x,w.2.2.2.2.2.2.2)
@[reducible] def C5 (w:AA) (x:List BA):AA:=(w.1,w.2.1,w.2.2.1,w.2.2.2.1,w.2.2.2.2.1,w.2.2.2.2.2.1,w.2.2.2.2.2.2.1,x,w.2.2.2.2.2.2.2.2)
@[reducible] def DM (w:AA) (x:List Ac):AA:=(w.1,w.2.1,w.2.2.1,w.2.2.2.1,w.2.2.2.2.1,w.2.2.2.2.2.1,w.2.2.2.2.2.2.1,w.2.2.2.2.2.2.2.1,x,w.2.2.2.2.2.2.2.2.2)
@[reducible] def BH (w:AA) (x:List Aj):AA:=(w.1,w.2.1,w.2.2.1,w.2.2.2.1,w.2.2.2.2.1,w.2.2.2.2.2.1,w.2.2.2.2.2.2.1,w.2.2.2.2.2.2.2.1,w.2.2.2.2.2.2.2.2.1,x,w.2.2.2.2.2.2.2.2.2.2)
@[reducible] def F_ (w:AA) (x:Bool):AA:=(w.1,w.2.1,w.2.2.1,w.2.2.2.1,w.2.2.2.2.1,w.2.2.2.2.2.1,w.2.2.2.2.2.2.1,w.2.2.2.2.2.2.2.1,w.2.2.2.2.2.2.2.2.1,w.2.2.2.2.2.2.2.2.2.1,x,())
end Go.M.H.AA
namespace Go.M
open Go.M.H (AH AL BA Aj AA Cq AK BF AM Ac Au BL Am)
def AQ2:AA:=([],0,[],[],[],0,[],[],[],[],false,())
def gZ(c:Ca):AA:=(c.1,c.2.1,List.replicate c.1.length EZ,[],[],0,[],[],[(1,1,[],()),(1,1,[],())],[],false,())
def aJ(k:Int):Bool×Bool×Bool×Bool:=
 if k=8\/k=10\/k=12 then(false,false,false,false)
 else if k=2 then(true,false,false,true)
 else if k=3 then(true,true,true,false)
 else if k=5\/k=14 then(true,true,false,false)
 else if k=11 then(false,true,true,false)
 else(true,false,false,false)
def Gl(d:Am):Bool:=
 BJ d.1 1 16&&(((aJ d.1).1||d.2.1==0)&&(((aJ d.1).2.1||d.2.2.1==0)&&(((aJ d.1).2.2.1||d.2.2.2.1==0)&&(((aJ d.1).2.2.2||d.2.2.2.2.1==[])&&decide (d.2.2.2.2.1.length<=40)))))
abbrev ai:Type:=AA×Int
def Ay(w:AA)(n:Int):Int:=if !BJ n 0 ((w.Bd.length:Int)-1)then 2 else if w.lost.contains n then 3 else 0
def O6(w:AA)(a:Int):ai:=
 if w.AO.length=4 then(w,4)else
 let q:=JZ (Ae w) (Cl w) (Bf a)
 if !q.2.2 then(w,4)else(((w.Ji q.1).Bk (w.AO++[(q.2.1,[],())])).C5 [],0)
def ew(s:Aj):List Aj->List Aj
 |[]=>[s]
 |x::l=>if x.1>s.1 then s::x::l else x::ew s l
def doAdd(w:AA)(a:Int)(d:ABG):ai:=
 if !BJ a 0 ((w.AO.length:Int)-1)then(w,2)else
 let x:=w.AO.getD a.toNat CN
 let q:=CJ (Ae w) x d
 if !q.2.2||(decide (w.Ar.length=120)||w.Ar.any fun s=>s.1==Hr x.1 q.2.1)then(w,4)else
 ((w.Bk (w.AO.set a.toNat q.1)).BH (ew (Hr x.1 q.2.1,d,false,()) w.Ar),0)
def putAt(w:AA)(n:Int)(q:AL×Bool):ai:=if q.2 then(w.Cb (w.Bd.set n.toNat q.1),0)else(w,4)
def storeAt(w:AA)(n:Int):AL:=w.Bd.getD n.toNat EZ
def K3(w:AA)(a b n:Int):ai:=
 if !BJ a 0 ((w.AO.length:Int)-1)then(w,2)else
 let x:=w.AO.getD a.toNat CN
 if !BJ b 1 x.2.1.length then(w,2)else
 if Ay w n≠0 then(w,Ay w n)else
 if !(Br w.BQ x.1).contains n then(w,2)else
 putAt w n (Ht (storeAt w n) (Hr x.1 b,0,false,(x.2.1.getD (b-1).toNat NQ).1,()))
def PM(s:AL)(p:Int):Bool:=match Qm p s.1 with|some e=>e.2.1==0|none=>false
def B_(c:Ca)(s:AL)(ep n:Int):Int->List BF->List BF
 |_,[]=>[]
 |o,x::l=>(if !x.2.2.1&&PM s (Hr ep o)then G3 c n x else x)::B_ c s ep n (o+1) l
def kh(l:List BF)(o:Int):Bool:=BJ o 1 l.length&&(l.getD (o-1).toNat NQ).2.2.1
def SU(all:Bool)(ep:Int)(old new:List BF)(s:Aj):Aj:=
 (s.1,s.2.1,s.2.2.1||(Ah s.1==ep&&(kh new (Cc s.1)&&(all|| !kh old (Cc s.1)))),())
def lH(s:AL)(l:List Cq)(n:Int)(x:AM):Bool:=(Br l x.1).contains n&&decide (s.2.2.1<x.1)
def Fi(all:Bool)(c:Ca)(s:AL)(l:List Cq)(n:Int):List AM->List Aj->List AM×List Aj
 |[],ss=>([],ss)
 |x::ws,ss=>
  if lH s l n x then
   let new:=B_ c s x.1 n 1 x.2.1
   let q:=Fi all c s l n ws (ss.map (SU all x.1 x.2.1 new))
   ((x.1,new,())::q.1,q.2)
  else
   let q:=Fi all c s l n ws ss
   (x::q.1,q.2)
def Xd(m:BA)(s:AL)(o:Int):Bool:=match Ec m o with|some e=>Qm e.1 s.1==some e|none=>false
def GG(m:BA)(s:AL)(n:Int):Int->List AAO->List AAO
 |_,[]=>[]
 |o,x::l=>(if Xd m s o then Ov n x else x)::GG m s n (o+1) l
def NI(s:AL)(l:List Cq)(n:Int)(m:BA):BA:=
 if(Br l m.2.1).contains n then(m.1,m.2.1,m.2.2.1,m.2.2.2.1,m.2.2.2.2.1,GG m s n 1 m.2.2.2.2.2.1,())else m
def QA(all:Bool)(w:AA)(n:Int):ai:=
 if Ay w n≠0 then(w,Ay w n)else
 let q:=CQ (storeAt w n)
 if !q.2 then(w,4)else
 let t:=Fi all (Ae w) q.1 w.BQ n w.AO w.Ar
 ((((w.Cb (w.Bd.set n.toNat q.1)).Bk t.1).BH t.2).C5 (w.Cg.map (NI q.1 w.BQ n)),0)
def K0(w:AA)(n k:Int):ai:=if Ay w n≠0 then(w,Ay w n)else putAt w n (Gn (storeAt w n) k)
def PI(w:AA)(n:Int):ai:=
 if Ay w n≠0 then(w,Ay w n)else
 let ls:=Ov n w.lost
 (((((w.Cb (w.Bd.set n.toNat EZ)).Fo ls).Bk (w.AO.map fun x=>(CZ (Ae w) x n).1)).C5 (w.Cg.map fun m=>(CU (Ae w) m n).1)).F_ (w.JG||holds (Ae w) ls),0)
def PF(w:AA)(n:Int):ai:=
 if !w.lost.contains n then(w,2)else
 let q:=fk (Ae w) w.Bd w.lost n (max ((w.BQ.length:Int)-1) 0)
 if !q.2 then(w,4)else((w.Cb (w.Bd.set n.toNat q.1)).Fo (less w.lost [n]),0)
def O_(w:AA):ai:=
 if decide ((w.BQ.length:Int)<2)||decide (BX w.BQ=w.BQ.length)then(w,2)else
 if w.Cg.length>0 then(w,4)else(w.C5 [vJ (BX w.BQ) w.BQ.length],0)
def O8(w:AA)(n:Int):ai:=
 match w.Cg with
 |[]=>(w,2)
 |m::ms=>
  if Ay w n≠0 then(w,Ay w n)else
  if !(Br w.BQ m.2.1).contains n then(w,2)else
  let q:=B6 (storeAt w n) (m.1-1)
  let t:=P6 (Ae w) m n (HL q.1 m.2.1)
  if !q.2|| !t.2 then(w,4)else((w.Cb (w.Bd.set n.toNat q.1)).C5 (t.1::ms),0)
def Oy(w:AA):ai:=
 match w.Cg with
 |[]=>(w,2)
 |m::ms=>
  let t:=Me (Ae w) m (Br w.BQ m.2.1)
  if !t.2 then(w,4)else(w.C5 (t.1::ms),0)
def WV(w:AA)(b n:Int):ai:=
 match w.Cg with
 |[]=>(w,2)
 |m::ms=>
  match Ec m b with
  |none=>(w,2)
  |some e=>
   if Ay w n≠0 then(w,Ay w n)else
   if !(Br w.BQ m.2.1).contains n then(w,2)else putAt w n (Ht (storeAt w n) e)
def Kv(w:AA):ai:=
 match w.Cg with
 |[]=>(w,2)
 |m::ms=>
  if !Wm (Ae w) m then(w,5)else
  let q:=OH (Ae w) (Cl w) m.1 m.2.2.2.2.2.1.length
  if !q.2 then(w,4)else((w.Ji q.1).C5 [],0)
def Rf(w:AA)(a:Int):ai:=
 let q:=PZ (Ae w) (Cl w) a
 if !q.2 then(w,4)else(w.Ji q.1,0)
def answer(w:AA)(p n:Int):BL:=
 match Qm p (storeAt w n).1 with
 |some e=>(n,true,e.1,e.2.1,e.2.2.1,e.2.2.2.1,())
 |none=>(n,false,0,0,false,[],())
def answers(w:AA)(p:Int)(ns:AAO):List BL:=(ns.filter fun n=>Ay w n==0).map (answer w p)
def ku(w:AA)(e:Int):Int:=match w.AO.find? (fun x=>x.1==e)with|some x=>gJ x.2.1|none=>0
def MO(w:AA)(a k:Int):ai:=
 if !BJ a 0 1 then(w,2)else
 let r:=w.Aq.getD a.toNat AX
 let q:=Dq (Ae w) (Cl w) (ku w r.1) r (answers w (Hr r.1 r.2.1) (Bf k))
 if q.2≠0 then(w,5)else(w.DM (w.Aq.set a.toNat q.1),0)
def Qu(w:AA)(a:Int):ai:=
 if !BJ a 0 ((w.AO.length:Int)-1)then(w,2)else(w.Bk (w.AO.eraseIdx a.toNat),0)
def Kz(w:AA)(n:Int):ai:=if Ay w n≠0 then(w,Ay w n)else putAt w n (J5 (storeAt w n) w.trim)
def PJ(all:Bool)(w:AA)(d:Am):ai:=
 if d.1=1 then O6 w d.2.1 else
 if d.1=2 then doAdd w d.2.1 d.2.2.2.2.1 else
 if d.1=3 then K3 w d.2.1 d.2.2.1 d.2.2.2.1 else
 if d.1=4 then QA all w d.2.1 else
 if d.1=5 then K0 w d.2.1 d.2.2.1 else
 if d.1=6 then PI w d.2.1 else
 if d.1=7 then PF w d.2.1 else
 if d.1=8 then O_ w else
 if d.1=9 then O8 w d.2.1 else
 if d.1=10 then Oy w else
 if d.1=11 then WV w d.2.2.1 d.2.2.2.1 else
 if d.1=12 then Kv w else
 if d.1=13 then Rf w d.2.1 else
 if d.1=14 then MO w d.2.1 d.2.2.1 else
 if d.1=15 then Qu w d.2.1 else Kz w d.2.1
def DJ(all:Bool)(w:AA)(d:Am):ai:=if !Cx w|| !Gl d then(AQ2,1)else PJ all w d
end Go.M
end
section
set_option maxRecDepth 8000
namespace Go.M
open Go.M.H (AA ACD AH AK AL AM AR AY Aa Ac Ag Aj Al Am An Au Aw BA BF BG BL Bm Bp CK Ck Cq Cw Dt k_ xd)
theorem Tt{p:Nat->Bool}{n:Nat}:CX p 0 n=true↔ ∀i,i<n->p i=true:=
 ⟨fun h i hi=>N5 h i (by omega) (by omega),fun h=>we fun j _ hj=>h j (by omega)⟩
theorem wX{α:Type}{l:List α}{i:Nat}{d:α}(h:i<l.length):l.getD i d=l[i]:=by simp_all
theorem US{α:Type}{l:List α}{d:α}{P:α->Prop}:(∀i,i<l.length->P (l.getD i d))↔ ∀x∈l,P x:=by
 constructor
 ·intro h x hx
  obtain⟨i,hi,rfl⟩:=AQD hx;simp_all
 simp_all
abbrev Ze{α:Type}(f:α->Int)(l:List α):Prop:=l.Pairwise fun a b=>f a<f b
theorem lT{α:Type}{f:α->Int}{l:List α}{d:α}:(∀i,i<l.length->i=0\/f (l.getD (i-1) d)<f (l.getD i d))↔Ze f l:=by
 constructor
 ·intro h
  unfold Ze;rw[AT1];have key:∀(k i:Nat),i+k+1<l.length->f (l.getD i d)<f (l.getD (i+k+1) d):=by
   intro k
   induction k with
   |zero=>
    grind
   |succ k ih=>
    grind
  intro i j hi hj hij;have:=key (j-i-1) i (by omega);grind
 grind[List.pairwise_iff_getElem,wX]
theorem Ao{x a b:Int}:BJ x a b=true↔a<=x/\x<=b:=by simp[BJ]
theorem ADo{l:AAO}{hi:Int}:xS l hi=true↔(∀x∈l,0<=x/\x<=hi)/\Ze id l:=by
 unfold xS;rw[Tt,<-US (d:=(0:Int)) (P:=fun x=>0<=x/\x<=hi),<-lT (d:=(0:Int))];simp only[AAa,AL8,Ao,AR1,ASQ,AM7,id];grind
theorem FF{c:Ca}{l:AAO}:BI c l=true↔Gh c=true/\(∀x∈l,0<=x/\x<c.1.length)/\Ze id l:=by
 unfold BI;rw[AL8,ADo];grind
theorem ABF{l:List AH}:bU l=true↔ ∀e∈l,Ga e=true:=by
 unfold bU;rw[Tt];exact US (P:=fun e=>Ga e=true)
theorem ADz{l:List AH}:o9 l=true↔Ze (fun e:AH=>e.1) l:=by
 unfold o9;rw[Tt,<-lT (d:=D_)];simp_all
structure iK (s:AL):Prop where
 nk:s.1.length<=200
 kept:∀e∈s.1,Ga e=true
 nl:s.2.1.length<=20
 late:∀e∈s.2.1,Ga e=true
 asc:Ze (fun e:AH=>e.1) s.1
 sl:0<=s.2.2.1/\s.2.2.1<=30
theorem Da{s:AL}:CS s=true↔iK s:=by
 unfold CS;simp only[AL8,AM7,ABF,ADz,Ao];exact⟨fun⟨⟨a,b⟩,⟨c,d⟩,e,f⟩=>⟨a,b,c,d,e,f⟩,fun h=>⟨⟨h.nk,h.kept⟩,⟨h.nl,h.late⟩,h.asc,h.sl⟩⟩
structure EOk (e:AH):Prop where
 pl:Az e.1=true
 w0:0<=e.2.1/\e.2.1<=30
 w1:0<e.2.1->Ah e.1<e.2.1
 len:e.2.2.2.1.length<=40
 hole:e.2.2.1=true->0<e.2.1/\e.2.2.2.1=[]
theorem Gz{e:AH}:Ga e=true↔EOk e:=by
 unfold Ga;simp only[AL8,AR1,ASW,AM7,ATV,Ao,ASQ];constructor
 ·rintro⟨a,b,c,d,e⟩
  refine⟨a,b,fun h=>c.resolve_left fun hn=>hn h,d,fun h=>e.resolve_left fun hn=> ?_⟩;simp_all
 ·intro h
  refine⟨h.pl,h.w0,?_,h.len,?_⟩
  ·by_cases hw:0<e.2.1
   ·exact .inr (h.w1 hw)
   omega
  ·cases hh:e.2.2.1 with
   |false=>simp_all
   |true=>exact .inr (h.hole hh)
structure qK (c:Ca) (m:BA):Prop where
 cfg:Gh c=true
 ep:1<=m.2.1/\m.2.1<=30
 b:m.2.1+1<=m.1/\m.1<=30
 sld:BI c m.2.2.1=true
 asc:Ze (fun e:AH=>e.1) m.2.2.2.1
 seen:∀e∈m.2.2.2.1,Ga e=true/\Ah e.1=m.2.1/\e.2.1<m.1
 wrote:∀l∈m.2.2.2.2.2.1,BI c l=true
 n:(m.2.2.2.2.2.1.length:Int)=if m.2.2.2.2.1 then QQ m.2.2.2.1 else 0
theorem HU{c:Ca}{m:BA}:HI c m=true↔qK c m:=by
 unfold HI zc vv;simp only[AL8,Ao,ADz,Tt,zV,ASQ,AM7];rw[US (d:=D_) (P:=fun e=>Ga e=true/\Ah e.1=m.2.1/\e.2.1<m.1),US (d:=([]:AAO)) (P:=fun l=>BI c l=true)];have:(m.2.2.2.2.2.1.length:Int)=cond m.2.2.2.2.1 (QQ m.2.2.2.1) 0↔(m.2.2.2.2.2.1.length:Int)=if m.2.2.2.2.1 then QQ m.2.2.2.1 else 0:=by
  grind
 rw[this];exact⟨fun⟨a,b,c,d,e,f,g,h⟩=>⟨a,b,c,d,e,f,g,h⟩,fun h=>⟨h.cfg,h.ep,h.b,h.sld,h.asc,h.seen,h.wrote,h.n⟩⟩
structure ROk (c:Ca) (r:AK):Prop where
 cfg:Gh c=true
 n:r.1.length<=30
 trim:r.2.1=0\/(Az r.2.1=true/\Ah r.2.1<=r.1.length)
 BQ:∀e∈r.1,holds c e.1=true/\(0<=e.2.2.1/\e.2.2.1<=60)/\(e.2.1=false->e.2.2.1=0)
 down:∀i,i<r.1.length->(r.1.getD i Hu).2.1=true->i+1<r.1.length/\ ∀j,j<i->(r.1.getD j Hu).2.1=true
theorem LM{c:Ca}{r:AK}:QT c r=true↔ROk c r:=by
 unfold QT ny;simp only[AL8,AM7,AR1,ASQ,Tt,AA9,xJ,Ao,ASW,Bool.and_eq_false_iff,Bool.or_eq_false_iff,ATV,APF];constructor
 ·rintro⟨a,b,c1,d⟩
  refine⟨a,b,c1,(US (d:=Hu) (P:=fun e=>holds c e.1=true/\(0<=e.2.2.1/\e.2.2.1<=60)/\(e.2.1=false->e.2.2.1=0))).1 fun i hi=> ?_,fun i hi hc=> ?_⟩
  ·grind
  ·have step:∀k,k<r.1.length->(r.1.getD k Hu).2.1=true->k+1<r.1.length/\(0<k->(r.1.getD (k-1) Hu).2.1=true):=fun k hk hkc=>by
    rcases(d k hk).2 with h|⟨h1,h2⟩
    ·simp_all
    ·refine⟨by omega,fun h0=> ?_⟩
     simp_all
   refine⟨(step i hi hc).1,?_⟩;clear hi
   induction i with
   |zero=>omega
   |succ i ih=>
    intro j hj;have Ds:i+1<r.1.length:=by
     rcases Nat.lt_or_ge (i+1) r.1.length with h|h
     ·omega
     ·simp[List.getD,h]at hc
      cases hc
    grind
 ·intro h
  refine⟨h.cfg,h.n,h.trim,fun i hi=>⟨?_,?_⟩⟩
  ·obtain⟨h1,h2,h3⟩:=h.BQ _ (BN (d:=Hu) hi)
   grind
  ·cases hb:(r.1.getD i Hu).2.1 with
   |false=>simp_all
   |true=>
    obtain⟨h1,h2⟩:=h.down i hi hb;grind
structure iX (c:Ca) (w:AM):Prop where
 cfg:Gh c=true
 ep:1<=w.1/\w.1<=30
 n:w.2.1.length<=60
 words:∀x∈w.2.1,x.1.length<=40/\BI c x.2.1=true/\x.2.2.1=holds c x.2.1
 opn:Tz w.2.1<=6
theorem Jb{c:Ca}{w:AM}:EW c w=true↔iX c w:=by
 unfold EW le6 aO;simp only[AL8,AM7,Ao,ASm,ASQ];exact⟨fun⟨a,b,c,d,e⟩=>⟨a,b,c,d,e⟩,fun h=>⟨h.cfg,h.ep,h.n,h.words,h.opn⟩⟩
structure ANP (r:Ac):Prop where
 ep:1<=r.1/\r.1<=31
 off:1<=r.2.1/\r.2.1<=61
 n:r.2.2.1.length<=120
theorem ay{r:Ac}:VW r=true↔ANP r:=by
 unfold VW;simp only[AL8,AM7,Ao];exact⟨fun⟨a,b,c⟩=>⟨a,b,by omega⟩,fun h=>⟨h.ep,h.off,by have:=h.n;omega⟩⟩
structure RS (w:AA):Prop where
 cfg:Gh (Ae w)=true
 y7:w.Bd.length=w.1.length
 lost:BI (Ae w) w.lost=true
 JG:w.JG=true\/holds (Ae w) w.lost=false
 Bd:∀i,i<w.Bd.length->iK (w.Bd.getD i EZ)/\((i:Int)∈w.lost->w.Bd.getD i EZ=EZ)
 wW:ROk (Ae w) (Cl w)
 zy:w.AO.length<=4
 nmd:w.Cg.length<=1
 AO:∀x∈w.AO,iX (Ae w) x/\x.1<=w.BQ.length
 l8:Ze (fun x:AM=>x.1) w.AO
 Cg:∀m∈w.Cg,qK (Ae w) m/\m.1=w.BQ.length/\m.2.1=BX w.BQ
 tF:w.Aq.length=2
 Aq:∀r∈w.Aq,ANP r
 Vp:w.Ar.length<=120
 Ar:∀s∈w.Ar,Az s.1=true/\Ah s.1<=w.BQ.length/\s.2.1.length<=40
 iP:Ze (fun s:Aj=>s.1) w.Ar
theorem Gu{w:AA}:Cx w=true↔RS w:=by
 unfold Cx;simp only[AL8,AM7,lS,fg,nQ,tN,cg,Tt,qw,lf,zO,sw,AR1,ASW,ASQ,Da,LM,Jb,HU,ay];have hz:∀s:AL,(s.1.length=0/\s.2.1.length=0/\s.2.2.1=0)↔s=EZ:=fun s=>by
  grind
 simp only[hz];constructor
 ·rintro⟨h1,h2,h3,h4,h5,h6,h7,h8,h9,h10,⟨h11,h12,h13⟩,h14,h15⟩
  refine⟨h1,h2,h3,h4,fun i hi=>⟨(h5 i hi).1,fun hm=>(h5 i hi).2.resolve_left fun hc=> ?_⟩,h6,h7,h8,?_,?_,?_,h11,?_,h14,?_,?_⟩
  ·simp_all
  ·exact(US (d:=CN) (P:=fun x:AM=>iX (Ae w) x/\x.1<=w.BQ.length)).1 fun i hi=>⟨(h9 i hi).1,(h9 i hi).2.1⟩
  ·exact(lT (f:=fun x:AM=>x.1) (d:=CN)).1 fun i hi=>(h9 i hi).2.2
  ·exact(US (d:=Tr) (P:=fun m:BA=>qK (Ae w) m/\m.1=w.BQ.length/\m.2.1=BX w.BQ)).1 h10
  ·refine(US (d:=AX) (P:=ANP)).1 fun i hi=> ?_
   rw[h11]at hi;rcases(by omega:i=0\/i=1)with rfl|rfl
   all_goals omega
  ·exact(US (d:=Hs) (P:=fun s:Aj=>Az s.1=true/\Ah s.1<=w.BQ.length/\s.2.1.length<=40)).1 fun i hi=>⟨(h15 i hi).1.1,(h15 i hi).1.2,(h15 i hi).2.1⟩
  ·exact(lT (f:=fun s:Aj=>s.1) (d:=Hs)).1 fun i hi=>(h15 i hi).2.2
 ·intro h
  refine⟨h.cfg,h.y7,h.lost,h.JG,fun i hi=>⟨(h.Bd i hi).1,?_⟩,h.wW,h.zy,h.nmd,fun i hi=> ?_,fun i hi=>h.Cg _ (BN hi),⟨h.tF,h.Aq _ (BN (by rw[h.tF];omega)),h.Aq _ (BN (by rw[h.tF];omega))⟩,h.Vp,fun i hi=> ?_⟩
  ·by_cases hm:(i:Int)∈w.lost
   ·exact .inr ((h.Bd i hi).2 hm)
   simp_all
  ·have:=h.AO _ (BN (d:=CN) hi)
   exact⟨this.1,this.2,(lT (f:=fun x:AM=>x.1) (d:=CN)).2 h.l8 i hi⟩
  ·have:=h.Ar _ (BN (d:=Hs) hi)
   exact⟨⟨this.1,this.2.1⟩,this.2.2,(lT (f:=fun s:Aj=>s.1) (d:=Hs)).2 h.iP i hi⟩
theorem vk{x y:Int}:∀{l:AAO},y∈mz x l↔y=x\/y∈l
 |[]=>by simp[mz]
 |z::l=>by
  simp only[mz];split
  ·simp
  ·simp only[AO3,vk (l:=l)]
   grind
theorem AB0{x:Int}:∀{l:AAO},Ze id l->x∉l->Ze id (mz x l)
 |[],_,_=>by simp[mz,Ze]
 |z::l,h,hx=>by
  simp only[Ze,AP5,id]at h;simp only[AO3,AWw]at hx;simp only[mz];split
  ·rename_i hz
   simp only[Ze,AP5,AO3,id];grind
  ·rename_i hz
   simp only[Ze,AP5,id];refine⟨fun a ha=> ?_,AB0 h.2 hx.2⟩;rcases vk.1 ha with rfl|ha
   all_goals grind
theorem AC5{x y:Int}{l:AAO}:y∈Ov x l↔y=x\/y∈l:=by
 unfold Ov;split
 ·simp_all
 ·exact vk
theorem AJj{x:Int}{l:AAO}(h:Ze id l):Ze id (Ov x l):=by
 grind[Ov,AB0]
theorem Ls{c:Ca}{x:Int}{l:AAO}(h:BI c l=true)(hx:0<=x/\x<c.1.length):BI c (Ov x l)=true:=by
 rw[FF]at h|-;refine⟨h.1,fun y hy=> ?_,AJj h.2.2⟩;rcases AC5.1 hy with rfl|hy
 all_goals simp_all
theorem UX{c:Ca}{l:AAO}(p:Int->Bool)(h:BI c l=true):BI c (l.filter p)=true:=by
 grind[FF]
theorem wR{x:Int}{l m:AAO}:x∈less l m↔x∈l/\x∉m:=by simp[less]
theorem dh{c:Ca}(h:Gh c=true):BI c []=true:=FF.2 ⟨h,fun _ h=>by simp at h,List.Pairwise.nil⟩
theorem AI0{l m:AAO}(h:l.Nodup)(hs:∀x∈l,x∈m):l.length<=m.length:=by
 induction l generalizing m with
 |nil=>simp
 |cons a l ih=>
  rw[ATq]at h;have ha:=hs a (by simp);have:=ih (m:=m.erase a) h.2 fun x hx=>(List.mem_erase_of_ne (fun e:x=a=>h.1 (by simp_all))).2 (hs x (by simp[hx]))
  grind
theorem AB4{c:AAO}{d:Int}:∀{l acc:AAO},d∈oL c l acc↔d∈acc\/ ∃n∈l,c.getD n.toNat 0=d
 |[],acc=>by simp[oL]
 |n::l,acc=>by
  simp only[oL];rw[AB4 (l:=l)];grind
theorem wk{c:AAO}:∀{l acc:AAO},acc.Nodup->(oL c l acc).Nodup
 |[],acc,h=>h
 |n::l,acc,h=>by
  simp only[oL];refine wk ?_
  grind
theorem AD0{c l m:AAO}(h:∀x∈l,x∈m):ic c l<=ic c m:=by
 refine AI0 (wk List.nodup_nil) fun d hd=> ?_
 grind[AB4]
theorem xO{c:Ca}{l m:AAO}(hl:holds c l=true)(hm:BI c m=true)(h:∀x∈l,x∈m):holds c m=true:=by
 simp only[holds,AL8,AM7]at hl|-;have:=AD0 (c:=c.1) h;grind
theorem holds_nil{c:Ca}:holds c []=false:=by
 rw[ATQ];intro h;have hc:=(FF.1 (YF h)).1;have:=(Em hc).2.2.1;simp only[holds,AL8,AM7,ic,oL]at h;grind
theorem AIS{a b:AH}(h:a.1=b.1):(better a b).1=b.1:=by grind[better]
theorem lL{e y:AH}:∀{l:List AH},y∈keep e l->y=e\/y∈l
 |[],h=>by simpa[keep]using h
 |x::l,h=>by
  simp only[keep]at h;split at h
  ·rcases AO3.1 h with rfl|h
   all_goals grind[better]
  ·split at h
   ·simp_all
   ·rcases AO3.1 h with rfl|h
    ·simp
    ·rcases lL h with h|h<;>simp[h]
theorem AMj{e y:AH}{l:List AH}(h:y∈keep e l):y.1=e.1\/ ∃z∈l,z.1=y.1:=by
 rcases lL h with rfl|h
 all_goals grind
theorem b_{e:AH}:∀{l:List AH},(keep e l).length<=l.length+1/\l.length<=(keep e l).length
 |[]=>by simp[keep]
 |x::l=>by
  have:=b_ (e:=e) (l:=l);grind[keep,List.length_cons]
abbrev mH(l:List AH):Prop:=Ze (fun e:AH=>e.1) l
theorem kz{e:AH}:∀{l:List AH},mH l->mH (keep e l)
 |[],_=>by simp[keep,Ze]
 |x::l,h=>by
  have h':=h;simp only[Ze,AP5]at h;simp only[keep];split
  ·rename_i hx
   simp only[mH,Ze,AP5];grind[AIS]
  ·split
   ·rename_i hx
    simp only[mH,Ze,AP5,AO3];grind
   ·rename_i h1 h2
    simp only[mH,Ze,AP5];refine⟨fun a ha=> ?_,kz h.2⟩;grind[AMj]
theorem z8{p:Int}{l:List AH}{e:AH}(h:Qm p l=some e):e∈l/\e.1=p:=by
 grind[Qm,List.mem_of_find?_eq_some]
theorem sb{e:AH}:∀{l:List AH},mH l->e∈l->Qm e.1 l=some e
 |x::l,h,he=>by
  simp only[Ze,AP5]at h;unfold Qm;rw[AUZ];rcases AO3.1 he with rfl|he
  ·simp
  ·have:=h.1 e he
   have jt:(x.1==e.1)=false:=by grind
   rw[jt];exact sb h.2 he
theorem lP{y:AH}:∀{l k:List AH},y∈Ea k l->y∈k\/y∈l
 |[],k,h=> .inl h
 |e::l,k,h=>by
  rcases lP (l:=l) h with h|h
  ·rcases lL h with rfl|h
   all_goals simp_all
  simp_all
theorem kS:∀{l k:List AH},mH k->mH (Ea k l)
 |[],k,h=>h
 |e::l,k,h=>kS (l:=l) (kz h)
theorem lG{k:Int}{y:AH}:∀{l:List AH} {i:Nat},y∈N3 k i l->y∈l
 |[],_,h=>h
 |e::l,i,h=>by
  simp only[N3]at h;split at h
  ·rcases AO3.1 h with rfl|h
   ·simp
   ·simp[lG h]
  ·simp[lG h]
theorem J9{e o:Int}(he:1<=e/\e<=30)(ho:1<=o/\o<=60):Az (Hr e o)=true/\Ah (Hr e o)=e/\Cc (Hr e o)=o:=by
 have h1:VT (Hr e o)=e:=by
  grind[VT,Hr,Int.tdiv_eq_ediv_of_nonneg]
 have h2:(Hr e o).tmod 4294967296=o:=by
  grind[Hr,Int.tmod_eq_emod_of_nonneg]
 have h3:Az (Hr e o)=true:=by
  unfold Az;rw[h1,h2,AL8,Ao,Ao];omega
 exact⟨h3,by unfold Ah;simp_all,by unfold Cc;simp_all⟩
theorem Hn{p:Int}(h:Az p=true):(1<=Ah p/\Ah p<=30)/\(1<=Cc p/\Cc p<=60)/\Hr (Ah p) (Cc p)=p:=by
 have h0:=lF h;have h1:=h;unfold Az at h1;rw[AL8,Ao,Ao]at h1;have e1:Ah p=VT p:=by unfold Ah;rw[ALi h]
 grind[Cc,Hr,VT,Int.tdiv_eq_ediv_of_nonneg,Int.tmod_eq_emod_of_nonneg]
theorem iK.nil:iK EZ:=⟨by simp,by simp,by simp,by simp,List.Pairwise.nil,by simp⟩
theorem kv{s:AL}{e:AH}(h:(Ht s e).2=true):iK (Ht s e).1/\(Ht s e).1=(s.1,s.2.1++[e],s.2.2.1,())/\Ga e=true/\takes s e=true:=by
 unfold Ht at*;split at h
 ·cases h
 rename_i hs;rw[ALj hs];simp only[AO7,APF]at hs;rw[Da]at hs;split at h
 case isFalse=>cases h
 rename_i h1;rw[ALi h1];simp only[AL8,AM7]at h1;obtain⟨he,ht,hl⟩:=h1;refine⟨⟨hs.nk,hs.kept,?_,fun x hx=> ?_,hs.asc,hs.sl⟩,rfl,he,ht⟩
 ·have:=hs.nl
  grind
 ·simp only[AOK,AQC]at hx
  rcases hx with hx|rfl
  ·exact hs.late x hx
  omega
theorem Of{s:AL}{k:Int}(h:(Gn s k).2=true):iK s/\iK (Gn s k).1/\(Gn s k).1=(Ea s.1 (N3 k 0 s.2.1),[],s.2.2.1,()):=by
 unfold Gn at*;split at h
 ·cases h
 rename_i hs;rw[ALj hs];simp only[AO7,APF]at hs;rw[Da]at hs;simp only at h|-;split at h
 case isFalse=>cases h
 rename_i h1;rw[ALi h1];simp only[AL8,AM7]at h1;refine⟨hs,⟨h1.2,fun e he=> ?_,by simp,by simp,kS hs.asc,hs.sl⟩,rfl⟩;rcases lP he with he|he
 ·exact hs.kept e he
 ·exact hs.late e (lG he)
theorem qB{s:AL}{u:Int}(h:(B6 s u).2=true):iK s/\iK (B6 s u).1/\(B6 s u).1=(Ea s.1 (N3 1048575 0 s.2.1),[],max s.2.2.1 u,())/\0<=u/\u<=30:=by
 unfold B6 at*;split at h
 ·cases h
 rename_i hs;rw[ALj hs];simp only[AO7,APF]at hs;simp only at h|-;split at h
 case isFalse=>cases h
 rename_i h1;rw[ALi h1];simp only[AL8,Ao]at h1;obtain⟨k1,k2,k3⟩:=Of h1.1;have oH:(CQ s).1=_:=k3;rw[oH];refine⟨k1,⟨?_,?_,by simp,by simp,kS k1.asc,?_⟩,rfl,h1.2⟩
 ·have:=k2.nk;simp_all
 ·have:=k2.kept;simp_all
 ·have:=k1.sl
  grind
theorem ABP{s:AL}{u:Int}(h:(J5 s u).2=true):iK s/\iK (J5 s u).1/\(J5 s u).1=(s.1.filter fun e=>decide (e.1>u),s.2.1,s.2.2.1,()):=by
 unfold J5 at*;split at h
 ·cases h
 rename_i hs;rw[ALj hs];simp only[AO7,APF]at hs;rw[Da]at hs;split at h
 case isFalse=>cases h
 rename_i h1;rw[ALi h1];refine⟨hs,⟨APf (APg _ _) hs.nk,fun e he=>hs.kept e (ATe.1 he).1,hs.nl,hs.late,hs.asc.filter _,hs.sl⟩,rfl⟩
theorem AJY{c:Ca}{ss:List AL}{lost:AAO}{n u:Int}(h:(fk c ss lost n u).2=true):
  iK (fk c ss lost n u).1/\(fk c ss lost n u).1=(HJ [] (others lost 0 ss),[],u,())/\holds c lost=false/\ ∀s∈others lost 0 ss,iK s:=by
 unfold fk at*;simp only at h|-;split at h
 case isFalse=>cases h
 rename_i h1;rw[ALi h1];simp only[AL8,AM7,ASW,ASm]at h1;obtain⟨_,_,_,h2,_,h3,h4⟩:=h1;exact⟨Da.1 h4,rfl,h2,fun s hs=>Da.1 (h3 s hs)⟩
theorem kD{l:List Cq}:∀{d i:Nat},i+d=l.length->(cA l i d=0/\ ∀j,i<=j->j<l.length->(l.getD j Hu).2.1=true)\/
  ∃k,i<=k/\k<l.length/\cA l i d=(k:Int)+1/\(l.getD k Hu).2.1=false/\ ∀j,i<=j->j<k->(l.getD j Hu).2.1=true
 |0,i,h=> .inl ⟨rfl,fun j h1 h2=>by omega⟩
 |d+1,i,h=>by
  simp only[cA];cases hb:(l.getD i ([],false,0,())).2.1 with
  |false=>grind
  |true=>
   simp only[AL9,ALm];rcases kD (l:=l) (d:=d) (i:=i+1) (by omega)with⟨h1,h2⟩|⟨k,h1,h2,h3,h4,h5⟩
   all_goals grind
theorem UU{c:Ca}{r:AK}(h:ROk c r)(hl:0<r.1.length):∃k,k<r.1.length/\BX r.1=(k:Int)+1/\(r.1.getD k Hu).2.1=false/\ ∀j,j<k->(r.1.getD j Hu).2.1=true:=by
 rcases kD (l:=r.1) (d:=r.1.length) (i:=0) (by omega)with⟨h1,h2⟩|⟨k,h1,h2,h3,h4,h5⟩
 ·have:=(h.down (r.1.length-1) (by omega) (h2 _ (by omega) (by omega))).1
  omega
 ·exact⟨k,h2,h3,h4,fun j hj=>h5 j (by omega) hj⟩
theorem xP{c:Ca}{r:AK}{ns:AAO}(h:(JZ c r ns).2.2=true):ROk c r/\ROk c (JZ c r ns).1/\(JZ c r ns).1=(r.1++[(ns,false,0,())],r.2.1,())/\(JZ c r ns).2.1=(r.1.length:Int)+1/\holds c ns=true/\r.1.length<30:=by
 unfold JZ at*;split at h
 ·cases h
 rename_i hs;rw[ALj hs];simp only[AO7,APF]at hs;rw[LM]at hs;split at h
 case isFalse=>cases h
 rename_i h1;rw[ALi h1];simp only[AL8,AM7]at h1;have hn:=hs.n;refine⟨hs,⟨hs.cfg,?_,?_,fun e he=> ?_,fun i hi hc=> ?_⟩,rfl,rfl,h1.1,by omega⟩
 ·grind
 ·rcases hs.trim with h2|⟨h2,h3⟩
  all_goals grind
 ·simp only[AOK,AQC]at he
  rcases he with he|rfl
  ·exact hs.BQ e he
  simp_all
 ·simp only[AOu,AOJ,APN]at hi
  have get:∀j,j<r.1.length->(r.1++[(ns,false,0,())]).getD j Hu=r.1.getD j Hu:=fun j hj=>by
   grind
  by_cases hl:i<r.1.length
  ·rw[get i hl]at hc
   obtain⟨h2,h3⟩:=hs.down i hl hc;grind
  simp_all
theorem iJ{l:List Cq}{i j:Nat}{last:Int}(hi:i<l.length):(Qt l i last).getD j Hu=if i=j then((l.getD i Hu).1,true,last,())else l.getD j Hu:=by
 grind[Qt]
theorem sr{c:Ca}{r:AK}{b last:Int}(h:(OH c r b last).2=true):ROk c r/\ROk c (OH c r b last).1/\
  ∃k,k<r.1.length/\BX r.1=(k:Int)+1/\k+1<r.1.length/\b=r.1.length/\(0<=last/\last<=60)/\(OH c r b last).1=(Qt r.1 k last,r.2.1,())/\(r.1.getD k Hu).2.1=false/\ ∀j,j<k->(r.1.getD j Hu).2.1=true:=by
 unfold OH at*;split at h
 ·cases h
 rename_i hs;rw[ALj hs];simp only[AO7,APF]at hs;rw[LM]at hs;split at h
 case isFalse=>cases h
 rename_i h1;rw[ALi h1];simp only[AL8,AM7,Ao]at h1;obtain⟨hb,h0,jt,hlast⟩:=h1;have hl:0<r.1.length:=by
  rcases AUc r.1.length with hz|hz
  ·exfalso
   apply h0;unfold BX;rw[hz];rfl
  omega
 obtain⟨k,k1,k2,k3,k4⟩:=UU hs hl;have hk:(BX r.1-1).toNat=k:=by omega
 rw[hk];have hlen:(Qt r.1 k last).length=r.1.length:=by simp[Qt]
 refine⟨hs,⟨hs.cfg,by rw[hlen];exact hs.n,?_,fun e he=> ?_,fun i hi hc=> ?_⟩,k,k1,k2,by omega,hb,hlast,rfl,k3,k4⟩
 ·simp only[hlen];exact hs.trim
 ·unfold Qt at he
  rcases AQO he with he|rfl
  ·exact hs.BQ e he
  ·exact⟨(hs.BQ _ (BN k1)).1,hlast,fun hf=>by cases hf⟩
 ·simp only[hlen]at hi|-
  rw[iJ k1]at hc;by_cases hik:k=i
  ·subst hik
   refine⟨by omega,fun j hj=> ?_⟩;rw[iJ k1,ALj (by omega)];simp_all
  ·rw[ALj hik]at hc
   obtain⟨h2,h3⟩:=hs.down i hi hc;grind[iJ]
theorem yM{c:Ca}{r:AK}{p:Int}(h:(PZ c r p).2=true):ROk c r/\ROk c (PZ c r p).1/\(PZ c r p).1=(r.1,max r.2.1 p,()):=by
 unfold PZ at*;split at h
 ·cases h
 rename_i hs;rw[ALj hs];simp only[AO7,APF]at hs;rw[LM]at hs;split at h
 case isFalse=>cases h
 rename_i h1;rw[ALi h1];simp only[AL8,AM7]at h1;refine⟨hs,⟨hs.cfg,hs.n,?_,hs.BQ,hs.down⟩,rfl⟩;simp only;have hp:=(lF h1.1).1;by_cases hm:r.2.1<=p
 ·grind
 ·rw[show max r.2.1 p=r.2.1 by omega]
  exact hs.trim
theorem h_{c:Ca}{w:AM}{d:ABG}(h:(CJ c w d).2.2=true):iX c w/\iX c (CJ c w d).1/\(CJ c w d).1=(w.1,w.2.1++[(d,[],false,())],())/\(CJ c w d).2.1=(w.2.1.length:Int)+1:=by
 unfold CJ at*;split at h
 ·cases h
 rename_i hs;rw[ALj hs];simp only[AO7,APF]at hs;rw[Jb]at hs;split at h
 case isFalse=>cases h
 rename_i h1;rw[ALi h1];exact⟨hs,Jb.1 h1,rfl,rfl⟩
theorem iv{c:Ca}{s:AL}{ep n:Int}(hn:0<=n/\n<c.1.length):∀{l:List BF} {o:Int},(∀x∈l,x.1.length<=40/\BI c x.2.1=true/\x.2.2.1=holds c x.2.1)->
  (∀x∈B_ c s ep n o l,x.1.length<=40/\BI c x.2.1=true/\x.2.2.1=holds c x.2.1)/\Tz (B_ c s ep n o l)<=Tz l/\(B_ c s ep n o l).length=l.length
 |[],o,h=>by simp[B_]
 |x::l,o,h=>by
  obtain⟨h1,h2,h3⟩:=iv (s:=s) (ep:=ep) hn (l:=l) (o:=o+1) fun y hy=>h y (by simp[hy])
  have hx:=h x (by simp);simp only[B_,AO3,AOJ,Tz];split
  ·rename_i hd
   simp only[AL8,ASW]at hd;refine⟨?_,?_,by omega⟩
   ·rintro y (rfl|hy)
    ·exact⟨hx.1,Ls hx.2.1 hn,rfl⟩
    grind
   grind
  grind
theorem zW{c:Ca}{n:Int}:∀{l:List BF},(∀x∈l,x.1.length<=40/\BI c x.2.1=true/\x.2.2.1=holds c x.2.1)->
  (∀x∈l.map (FH n),x.1.length<=40/\BI c x.2.1=true/\x.2.2.1=holds c x.2.1)/\Tz (l.map (FH n))=Tz l
 |[],h=>by simp
 |x::l,h=>by
  obtain⟨h1,h2⟩:=zW (n:=n) (l:=l) fun y hy=>h y (by simp[hy])
  have hx:=h x (by simp);simp only[ATU,AO3,Tz,h2,FH,AQs]
  rintro y (rfl|hy)
  ·refine⟨hx.1,?_,?_⟩
   ·simp only
    split
    ·simp_all
    ·exact UX _ hx.2.1
   ·simp only
    split
    ·simp_all
    ·rename_i hd
     simp only[AO7]at hd;rw[hd]
     symm
     rw[ATQ];grind[xO,wR]
  grind
theorem iy{c:Ca}{w:AM}{n:Int}(h:iX c w):iX c (CZ c w n).1/\(CZ c w n).1=(w.1,w.2.1.map (FH n),()):=by
 unfold CZ;rw[Jb.2 h];obtain⟨h1,h2⟩:=zW (n:=n) h.words;exact⟨⟨h.cfg,h.ep,by simpa using h.n,h1,by simp only[AL9];exact h2▸h.opn⟩,rfl⟩
theorem IW{l:List AH}:0<=QQ l/\QQ l<=60:=by
 unfold QQ;cases l.length==0 with
 |true=>simp
 |false=>
  simp only[ALm];rcases ALh (Az (l.getD (l.length-1) D_).1)with h|h
  ·have:=(Hn h).2.1;omega
  grind[Cc]
theorem sd{c:Ca}{m:BA}{n:Int}{l:List AH}(h:(P6 c m n l).2=true):qK c m/\qK c (P6 c m n l).1/\m.2.2.2.2.1=false/\
  (P6 c m n l).1=(m.1,m.2.1,Ov n m.2.2.1,Ea m.2.2.2.1 (l.filter fun e=>Ah e.1==m.2.1),m.2.2.2.2.1,m.2.2.2.2.2.1,()):=by
 unfold P6 at*;split at h
 ·cases h
 rename_i hs;rw[ALj hs];simp only[AO7,APF]at hs;rw[HU]at hs;simp only at h|-;split at h
 case isFalse=>cases h
 rename_i h1;rw[ALi h1];simp only[AL8,ASW]at h1;exact⟨hs,HU.1 h1.2,h1.1,rfl⟩
theorem tf{c:Ca}{m:BA}{s:AAO}(h:(Me c m s).2=true):qK c m/\qK c (Me c m s).1/\m.2.2.2.2.1=false/\TK c s (m.2.2.1.filter s.contains)=true/\
  (Me c m s).1=(m.1,m.2.1,m.2.2.1,m.2.2.2.1,true,List.replicate (QQ m.2.2.2.1).toNat [],()):=by
 unfold Me at*;split at h
 ·cases h
 rename_i hs;rw[ALj hs];simp only[AO7,APF]at hs;rw[HU]at hs;split at h
 case isFalse=>cases h
 rename_i h1;rw[ALi h1];simp only[AL8,ASW]at h1;refine⟨hs,⟨hs.cfg,hs.ep,hs.b,hs.sld,hs.asc,hs.seen,fun l hl=> ?_,?_⟩,h1.1,h1.2,rfl⟩
 ·simp only at hl
  rw[ATG hl];exact dh hs.cfg
 ·simp only[ATB,AQm]
  have:=(IW (l:=m.2.2.2.1)).1;omega
theorem pC{c:Ca}{m:BA}{s:AL}{n:Int}(hn:0<=n/\n<c.1.length):∀{l:List AAO} {o:Int},(∀x∈l,BI c x=true)->
  (∀x∈GG m s n o l,BI c x=true)/\(GG m s n o l).length=l.length
 |[],o,h=>by simp[GG]
 |x::l,o,h=>by
  obtain⟨h1,h2⟩:=pC (m:=m) (s:=s) hn (l:=l) (o:=o+1) fun y hy=>h y (by simp[hy])
  have hx:=h x (by simp);simp only[GG,AO3,AOJ,h2,AQs]
  rintro y (rfl|hy)
  all_goals grind[Ls]
theorem AJn{c:Ca}{s:AL}{l:List Cq}{n:Int}{m:BA}(hn:0<=n/\n<c.1.length)(h:qK c m):qK c (NI s l n m):=by
 unfold NI;split
 ·obtain⟨h1,h2⟩:=pC (m:=m) (s:=s) hn (o:=1) h.wrote
  exact⟨h.cfg,h.ep,h.b,h.sld,h.asc,h.seen,h1,by simp only[h2];exact h.n⟩
 omega
theorem zJ{c:Ca}{m:BA}{n:Int}(h:qK c m):qK c (CU c m n).1/\(CU c m n).1=(m.1,m.2.1,m.2.2.1,m.2.2.2.1,m.2.2.2.2.1,m.2.2.2.2.2.1.map fun l=>less l [n],()):=by
 unfold CU;rw[HU.2 h];refine⟨⟨h.cfg,h.ep,h.b,h.sld,h.asc,h.seen,fun l hl=> ?_,?_⟩,rfl⟩
 ·simp only[AL9,AMx,API,ATM]at hl
  obtain⟨l',h1,rfl⟩:=hl;exact UX _ (h.wrote l' h1)
 ·simp only[AL9,AMx,API,ATS]
  exact h.n
theorem yZ{c:Ca}{g:AK}{sure:Int}{r:Ac}{l:List BL}(h:(Dq c g sure r l).2=0):ANP (Dq c g sure r l).1:=by
 unfold Dq at*;split at h
 ·omega
 rename_i hs;rw[ALj hs];simp only[AO7,APF,AL8,LM,ay]at hs;obtain⟨hg,hr,_⟩:=hs;have r1:=hr.ep;have r2:=hr.off;have r3:=hr.n;split at h
 ·omega
 rename_i h1;rw[ALj h1];simp only[AR1,AM7,AWw]at h1;have hn:=hg.n;simp only at h|-;split at h
 ·rename_i h2
  rw[ALi h2];have hp:Az g.2.1=true:=by
   rcases hg.trim with ht|ht
   all_goals grind[Hr]
  obtain⟨a1,a2,_⟩:=Hn hp;exact⟨by grind,by grind,by grind⟩
 ·rename_i h2
  rw[ALj h2];split at h
  ·rename_i h3
   rw[ALi h3];exact⟨by grind,by simp_all,by simp_all;omega⟩
  ·rename_i h3
   rw[ALj h3];split at h
   ·omega
   rename_i h4;rw[ALj h4];simp only[AR1,AM7,AWw]at h4;split at h
   ·omega
   rename_i h5;rw[ALj h5];exact⟨by omega,by grind,by simp_all;omega⟩
theorem AD{α β:Type}(a:α)(f:α->Option β):(some a).bind f=f a:=rfl
theorem ZE{l:AAO}{x:Int}(hl:l.length<=2^30):∀(n i:Nat) (b:AAO),i<=l.length->l.length-i<n->b.length<=2*i+1->
  IU n l x true i b=some (((),()),(b++l.drop i,()))
 |0,i,b,_,h,_=>by omega
 |n+1,i,b,hi,h,hb=>by
  simp only[IU,RI,AB,AL9,ALm];by_cases hc:i<l.length
  ·have c1:(0:Int)<=(i:Int)/\(i:Int)<(l.length:Int):=by omega
   have c2:b.length+1<=C7:=by rw[Ak];omega
   rw[ALi c1.2,ALi c1,ALi c2,As (i:=i) (by omega),Af hc,drop_cons hc,ZE hl n (i+1) _ (by omega) (by omega) (by grind)];simp
  grind
theorem fx{l:AAO}{x:Int}(hl:l.length<=2^30):∀(n i:Nat) (b:AAO),i<=l.length->l.length-i<n->b.length<=i->
  IU n l x false i b=some (((),()),(b++mz x (l.drop i),()))
 |0,i,b,_,h,_=>by omega
 |n+1,i,b,hi,h,hb=>by
  simp only[IU,RI,AB,APP,AMs];have c2:b.length+1<=C7:=by rw[Ak];omega
  by_cases hc:i<l.length
  ·have c1:(0:Int)<=(i:Int)/\(i:Int)<(l.length:Int):=by omega
   have c3:(b++[x]).length+1<=C7:=by grind[Ak]
   rw[ALi c1.2];simp only[ALi c1,ALi c2,ALi c3];rw[As (i:=i) (by omega),Af hc,drop_cons hc];simp only[mz];by_cases hx:l[i]>x
   ·rw[ALi hx,ALi (by omega),ZE hl n (i+1) _ (by omega) (by omega) (by grind)]
    simp
   ·rw[ALj hx,ALj (by omega),fx hl n (i+1) _ (by omega) (by omega) (by simp_all)]
    simp
  ·rw[ALj (by omega),ALi c2,ANG (by omega)]
   rfl
theorem L4{l:AAO}{x:Int}(hl:l.length<=2^30):JH l x=some (((),()),(Ov x l,())):=by
 unfold JH XA Ov;rw[Lo (by omega)];simp only[AD];rcases ALh (l.contains x)with h|h
 ·rw[h,ALi rfl]
  grind[ZE,AU,AZ]
 ·rw[h,ALj (by simp)]
  grind[fx,AU,AZ]
theorem fQ{l m:AAO}(hl:l.length<=2^30)(hm:m.length<=2^30):∀(n i:Nat) (b:AAO),i<=l.length->l.length-i<n->b.length<=i->
  Qh n l m i b=some (((),()),(b++less (l.drop i) m,()))
 |0,i,b,_,h,_=>by omega
 |n+1,i,b,hi,h,hb=>by
  simp only[Qh,dL,AB];have c2:b.length+1<=C7:=by rw[Ak];omega
  by_cases hc:i<l.length
  ·have c1:(0:Int)<=(i:Int)/\(i:Int)<(l.length:Int):=by omega
   rw[ALi c1.2];simp only[ALi c1,ALi c2];rw[As (i:=i) (by omega),Af hc,drop_cons hc,Lo (by omega)];simp only[AD,less,ARP];cases hx:m.contains l[i]with
   |true=>
    simp only[AL9,ALm,AMx,API];exact fQ hl hm n (i+1) _ (by omega) (by omega) (by omega)
   |false=>
    simp only[APP,AMs,AQm];rw[fQ hl hm n (i+1) _ (by omega) (by omega) (by simp_all)];simp[less]
  ·rw[ALj (by omega),ANG (by omega)]
   simp[less]
theorem Km{l m:AAO}(hl:l.length<=2^30)(hm:m.length<=2^30):Jy l m=some (((),()),(less l m,())):=by
 grind[Jy,dt,fQ,AU,AZ]
theorem Gc{e o:Int}(he: -1000<=e/\e<=1000)(ho: -1000<=o/\o<=1000):Bo e o=some ((Hr e o,()),()):=by
 grind[Bo,Hr,ZR]
theorem dk{e o:Int}:Qr e o=some (((EU e o,BJ e 1 30&&BJ o 1 60,()),()),()):=by
 unfold Qr EU;rw[BU,BU];simp only[AD];rcases ALh (BJ e 1 30)with he|he
 ·rcases ALh (BJ o 1 60)with ho|ho
  ·have h1:=Ao.1 he
   have h2:=Ao.1 ho;rw[he,ho,Ab (x:=4294967296*e) (by omega),Ab (by omega)];rfl
  simp_all
 simp_all
theorem J0{a b:Int}:En a b=some ((max a b,()),()):=by
 unfold En;grind
theorem SN{a b:Int}:N1 a b=some ((min a b,()),()):=by
 unfold N1;grind
def oG(q:AL×Bool):AFG×(List AH×List AH×Unit):=(((((),(),q.1.2.2.1,()),q.2,()),()),(q.1.1,q.1.2.1,()))
theorem QE{s:AL}(h1:s.1.length<=2^30)(h2:s.2.1.length<=2^30):Dh s=some ((((),(),s.2.2.1,()),()),(s.1,s.2.1,())):=by
 unfold Dh;rw[ALi (by rw[Ak];omega),ALi (by rw[Ak];omega)]
theorem um{s:AL}{e:AH}(he:Bi e.1):al s e=some ((takes s e,()),()):=by
 unfold al takes;rw[D5 he];grind
theorem bw{a b:AH}:T1 a b=some ((better a b,()),()):=by
 unfold T1 better;grind
theorem Gi{s:AL}(h:H.Al s<=2^30):s.1.length<=2^30/\s.2.1.length<=2^30:=by
 grind[H.AR,H.Ag,H.Al]
theorem Wi{s:AL}{e:AH}(hw:H.Al s<=2^30)(hs:pr s)(he:Bi e.1):Oi s e=some (oG (Ht s e)):=by
 obtain⟨l1,l2⟩:=Gi hw;unfold Oi Ht;rw[PG s,gm e,Gf hw hs,QE l1 l2,Si he,um he];simp only[AD];rcases ALh (CS s)with h|h
 rotate_left
 ·rw[h];rfl
 rw[h];simp only[AL9,ALm,AMx,API];cases Ga e with
 |false=>rfl
 |true=>
  cases takes s e with
  |false=>rfl
  |true=>
   simp only[AL9,ALm,ANC];by_cases h20:s.2.1.length=20
   ·rw[show((s.2.1.length:Int)==20)=true by simp[h20],show decide (s.2.1.length≠20)=false by simp[h20]]
    rfl
   ·rw[show((s.2.1.length:Int)==20)=false by grind,show decide (s.2.1.length≠20)=true by simp[h20],ALm,ALi (by rw[Ak];omega)]
    rfl
theorem W6{l:List AH}{e:AH}(hl:l.length<=2^30):∀(n i:Nat) (b:List AH),i<=l.length->l.length-i<n->b.length<=2*i+1->
  Ks n l true i e.1 e.2.1 e.2.2.1 e.2.2.2.1 b=some (((),()),(b++l.drop i,()))
 |0,i,b,_,h,_=>by omega
 |n+1,i,b,hi,h,hb=>by
  simp only[Ks,Vf,AB,AL9,ALm];by_cases hc:i<l.length
  ·have c1:(0:Int)<=(i:Int)/\(i:Int)<(l.length:Int):=by omega
   have c2:b.length+1<=C7:=by rw[Ak];omega
   rw[ALi c1.2,ALi c1,ALi c2,As (i:=i) (by omega),Af hc,drop_cons hc,W6 hl n (i+1) _ (by omega) (by omega) (by grind),ANZ];rfl
  grind
theorem dN{l:List AH}{e:AH}(hl:l.length<=2^30):∀(n i:Nat) (b:List AH),i<=l.length->l.length-i<n->b.length<=i->
  Ks n l false i e.1 e.2.1 e.2.2.1 e.2.2.2.1 b=some (((),()),(b++keep e (l.drop i),()))
 |0,i,b,_,h,_=>by omega
 |n+1,i,b,hi,h,hb=>by
  simp only[Ks,Vf,AB,APP,AMs];have c2:b.length+1<=C7:=by rw[Ak];omega
  by_cases hc:i<l.length
  ·have c1:(0:Int)<=(i:Int)/\(i:Int)<(l.length:Int):=by omega
   have c3:(b++[(e.1,e.2.1,e.2.2.1,e.2.2.2.1,())]).length+1<=C7:=by grind[Ak]
   rw[ALi c1.2];simp only[ALi c1,ALi c2,ALi c3];rw[As (i:=i) (by omega),Af hc,drop_cons hc];rw[gm (l[i]),gm e,bw];simp only[AD,keep];by_cases hx:l[i].1=e.1
   ·rw[show(l[i].1==e.1)=true by simp_all,ALi hx,AMs,show((better l[i] e).1,(better l[i] e).2.1,(better l[i] e).2.2.1,(better l[i] e).2.2.2.1,())=better l[i] e from rfl,W6 hl n (i+1) _ (by omega) (by omega) (by grind)]
    simp
   ·rw[show(l[i].1==e.1)=false by simp_all,ALj hx,ALm]
    by_cases hg:l[i].1>e.1
    ·rw[ALi hg,ALi hg,W6 hl n (i+1) _ (by omega) (by omega) (by grind)]
     simp
    ·rw[ALj hg,ALj hg,dN hl n (i+1) _ (by omega) (by omega) (by simp_all)]
     simp
  ·rw[ALj (by omega),ALi c2,ANG (by omega)]
   rfl
theorem bh{l:List AH}{e:AH}(hl:l.length<=2^30):T7 l e=some (((),()),(keep e l,())):=by
 grind[T7,dd,dN,AU,AZ]
theorem XY{l:List AH}{p:Int}(hl:l.length<=2^30):FM l p=some ((((Qm p l).getD D_,(Qm p l).isSome,()),()),()):=by
 have key:∀(n i:Nat),i<=l.length->l.length-i<n->Rv n l p i 0 0 false []=some ((((Qm p (l.drop i)).getD D_,(Qm p (l.drop i)).isSome,()),()),()):=by
  intro n
  induction n with
  |zero=>omega
  |succ n ih=>
   intro i hi h;simp only[Rv,fa,AB];by_cases hc:i<l.length
   ·have c1:(0:Int)<=(i:Int)/\(i:Int)<(l.length:Int):=by omega
    rw[ALi c1.2];simp only[ALi c1];rw[As (i:=i) (by omega),Af hc,drop_cons hc,ih (i+1) (by omega) (by omega)];simp only[Qm,AUZ];cases l[i].1==p<;>rfl
   ·rw[ALj (by omega),ANG (by omega)]
    rfl
 grind[FM,gD,AU,AZ]
theorem AA0{k:Int}{i:Nat}(hk:0<=k/\k<2^63)(hi:i<=63):(jq .i64 (k.fdiv (2^(min i 64))) 1==1)=decide ((k/2^i)%2=1):=by
 obtain⟨m,rfl⟩:∃m:Nat,k=m:=⟨k.toNat,by omega⟩;rw[show min i 64=i by omega];have h1:(m:Int).fdiv (2^i)=((m/2^i:Nat):Int):=by
  grind
 have h2:(m:Int)/2^i=((m/2^i:Nat):Int):=by norm_cast
 have h3:m/2^i<2^63:=Nat.lt_of_le_of_lt (Nat.div_le_self _ _) (by omega);rw[h1,h2,show(1:Int)=((1:Nat):Int)from rfl,AKW h3 (by omega),Nat.and_one_is_mod];rfl
def ACE(p:Nat->Bool):Nat->List AH->List AH
 |_,[]=>[]
 |i,e::l=>if p i then e::ACE p (i+1) l else ACE p (i+1) l
theorem zw{k:Int}(hk:0<=k/\k<2^63):∀{l:List AH} {i:Nat},i+l.length<=60->ACE (fun i=>jq .i64 (k.fdiv (2^(min i 64))) 1==1) i l=N3 k i l
 |[],i,_=>rfl
 |e::l,i,h=>by
  simp only[AOJ]at h;have ih:=zw hk (l:=l) (i:=i+1) (by omega);have AH9:=AA0 hk (i:=i) (by omega);simp only[ACE,N3];simp_all
theorem di{s:AL}{k:Int}(h1:s.1.length<=200)(h2:s.2.1.length<=20):∀(n i:Nat) (b:List AH),i<=s.2.1.length->s.2.1.length-i<n->b.length<=200+i->
  Kt n k i s.1 s.2.1 s.2.2.1 0 [] [] s.2.2.1 b []=
   some (oG (if BJ k 0 1048575&&decide ((Ea b (ACE (fun i=>jq .i64 (k.fdiv (2^(min i 64))) 1==1) i (s.2.1.drop i))).length<=200)then((Ea b (ACE (fun i=>jq .i64 (k.fdiv (2^(min i 64))) 1==1) i (s.2.1.drop i)),[],s.2.2.1,()),true)else(s,false)))
 |0,i,b,_,h,_=>by omega
 |n+1,i,b,hi,h,hb=>by
  simp only[Kt,V5,AB];by_cases hc:i<s.2.1.length
  ·have c1:(0:Int)<=(i:Int)/\(i:Int)<(s.2.1.length:Int):=by omega
   have ih:=fun b hb=>di (k:=k) h1 h2 n (i+1) b (by omega) (by omega) hb
   rw[ALi c1.2,ALj (by omega)];simp only[ALi c1];rw[As (i:=i) (by omega),Af hc,drop_cons hc,AMn];rw[gm (s.2.1[i]),bh (by omega)];simp only[AD,ACE];have kl:=b_ (e:=s.2.1[i]) (l:=b);rcases ALh (jq .i64 (k.fdiv (2^(min i 64))) 1==1)with hb|hb
   ·simp only[hb,AMs,AQm,Ea]
    grind
   grind
  ·rw[ALj (by omega),ANG (by omega),BU,PG s,QE (by omega) (by omega)]
   simp only[AD,ACE,Ea];cases BJ k 0 1048575 with
   |false=>rfl
   |true=>
    simp only[AL9,ALm,ANC];by_cases h200:b.length<=200
    ·rw[ALj (by omega),AOW h200];rfl
    ·rw[ALi (by omega),AQS h200];rfl
theorem cr{s:AL}{k:Int}(hw:Al s<=2^30)(hs:pr s):Oa s k=some (oG (Gn s k)):=by
 obtain⟨l1,l2⟩:=Gi hw;unfold Oa WH Gn;rw[PG s,Gf hw hs];simp only[AD];rcases ALh (CS s)with h|h
 rotate_left
 ·rw[h];rfl
 have Du:=Da.1 h;rw[h];simp only[AL9,ALm,AMx,API];rw[ALi (by rw[Ak];omega)];have:=di (k:=k) Du.nk Du.nl AU 0 s.1 (by omega) (AZ (by omega)) (by have:=Du.nk;omega);rw[show((0:Nat):Int)=0 from rfl,AQR]at this;rw[this];rcases ALh (BJ k 0 1048575)with hk|hk
 ·have hk':=Ao.1 hk
  have hn:=Du.nl;grind[zw]
 simp_all
theorem PR{s:AL}(hw:Al s<=2^30)(hs:pr s):Kj s=some (oG (CQ s)):=by
 unfold Kj CQ;rw[PG s,cr hw hs];rfl
theorem dZ{s:AL}{u:Int}(hw:Al s<=2^30)(hs:pr s):P0 s u=some (oG (B6 s u)):=by
 obtain⟨l1,l2⟩:=Gi hw;unfold P0 B6;rw[PG s,Gf hw hs,PR hw hs,QE l1 l2,BU];simp only[AD];cases CS s with
 |false=>rfl
 |true=>
  simp only[AL9,ALm,AMx,API,oG];cases(CQ s).2 with
  |false=>rfl
  |true=>
   cases BJ u 0 30 with
   |false=>rfl
   |true=>
    simp only[AL9,ALm,ANC,AQm];rw[J0];rfl
theorem gS{s:AL}{ep:Int}(hw:Al s<=2^30)(hs:pr s):G9 s ep=some (((),()),(HL s ep,())):=by
 obtain⟨l1,l2⟩:=Gi hw;unfold G9 Zf HL;rcases ALh (CS s)with h|h
 ·have key:∀(n i:Nat) (b:List AH),i<=s.1.length->s.1.length-i<n->b.length<=i->J8 n ep i s.1 s.2.1 s.2.2.1 b=some (((),()),(b++(s.1.drop i).filter fun e=>Ah e.1==ep,())):=by
   intro n
   induction n with
   |zero=>omega
   |succ n ih=>
    intro i b hi hn hb;simp only[J8,Rc,AB];have c2:b.length+1<=C7:=by rw[Ak];omega
    by_cases hc:i<s.1.length
    ·have c1:(0:Int)<=(i:Int)/\(i:Int)<(s.1.length:Int):=by omega
     rw[ALi c1.2];simp only[ALi c1,ALi c2];rw[As (i:=i) (by omega),Af hc,drop_cons hc,PG s,Gf hw hs,D5 (hs.1 _ (AM9 hc)),h];simp only[AD,AMs,ARP];cases Ah s.1[i].1==ep with
     |true=>
      simp only[AMs,AQm];rw[ih (i+1) _ (by omega) (by omega) (by simp_all),ANZ];rfl
     |false=>
      grind
    grind
  have:=key AU 0 [] (by omega) (AZ (by omega)) (by simp);simp_all
 ·obtain⟨m,hm⟩:∃m,AU=m+1:=⟨AU-1,by have:=Xs;omega⟩
  rw[h,hm];simp only[J8,Rc,AB];rw[PG s,Gf hw hs,h];simp_all
theorem qC{s:AL}{u:Int}(hw:Al s<=2^30)(hs:pr s)(hu:Bi u):Vj s u=some (oG (J5 s u)):=by
 obtain⟨l1,l2⟩:=Gi hw;unfold Vj YL J5;rw[PG s,Gf hw hs,QE l1 l2,FR hu];simp only[AD];cases CS s with
 |false=>rfl
 |true=>
  cases Az u with
  |false=>rfl
  |true=>
   simp only[AL9,ALm,AMx,API,AQm];have key:∀(n i:Nat) (b:List AH),i<=s.1.length->s.1.length-i<n->b.length<=i->Lm n u i s.1 s.2.1 s.2.2.1 0 [] [] s.2.2.1 b s.2.1=some (oG ((b++(s.1.drop i).filter fun e=>decide (e.1>u),s.2.1,s.2.2.1,()),true)):=by
    intro n
    induction n with
    |zero=>omega
    |succ n ih=>
     intro i b hi hn hb;simp only[Lm,YO];have c2:b.length+1<=C7:=by rw[Ak];omega
     by_cases hc:i<s.1.length
     ·have c1:(0:Int)<=(i:Int)/\(i:Int)<(s.1.length:Int):=by omega
      rw[AOW c1.2];simp only[ALi c1,ALi c2,AMs];rw[As (i:=i) (by omega),Af hc,drop_cons hc];simp only[ARP];cases decide (s.1[i].1>u)with
      |true=>
       simp only[AMs,AQm];rw[ih (i+1) _ (by omega) (by omega) (by simp_all),ANZ];rfl
      |false=>
       grind
     grind[decide_eq_false,List.drop_eq_nil_of_le,oG]
   have:=key AU 0 [] (by omega) (AZ (by omega)) (by simp);simp_all
theorem On{α:Type}{l:List α}{i:Nat}{x d:α}(hi:i<l.length):(l.set i x).getD i d=x:=by
 simp_all
theorem Q6{α:Type}{l:List α}{f:α->α}{i:Nat}(hi:i<=l.length):((l.map f).take i++l.drop i).length=l.length:=by
 simp_all
theorem OJ{α:Type}{l:List α}{f:α->α}{i:Nat}{d:α}(hi:i<l.length):((l.map f).take i++l.drop i).getD i d=l[i]:=by
 grind
theorem Sf{α:Type}{l:List α}{f:α->α}{i:Nat}{y:α}(hi:i<l.length)(hy:y=f l[i]):((l.map f).take i++l.drop i).set i y=(l.map f).take (i+1)++l.drop (i+1):=by
 have h:((l.map f).take i).length=i:=by grind
 subst hy;rw[AVr _ _ (by omega),h,Nat.sub_self,drop_cons hi,ATl,AR8 (by simp_all),ANZ,List.getElem_map];rfl
theorem pQ{α:Type}{l:List α}{f:α->α}{i:Nat}(hi:i<l.length)(hf:f l[i]=l[i]):(l.map f).take i++l.drop i=(l.map f).take (i+1)++l.drop (i+1):=by
 grind[List.take_succ_eq_append_getElem,List.append_assoc,drop_cons]
theorem ACU{n:Int}:∀{l:AAO},(mz n l).length=l.length+1
 |[]=>rfl
 |a::l=>by
  simp only[mz];split
  ·simp
  ·simp[ACU (l:=l)]
theorem UP{n:Int}{l:AAO}:(Ov n l).length<=l.length+1:=by
 grind[Ov,ACU]
theorem Fh{r:AK}{e:Int}(hl:Aa Bm r.1<=2^30):CA r e=some (((),()),(Br r.1 e,())):=by
 have l1:=AR (f:=Bm) (l:=r.1);unfold CA Br;rw[BU];simp only[AD];rcases ALh (BJ e 1 (r.1.length:Int))with h|h
 ·have h':=Ao.1 h
  have hm:=AY (f:=Bm) (BN (d:=Hu) (l:=r.1) (i:=(e-1).toNat) (by omega));have uE:(r.1.getD (e-1).toNat Hu).1.length<=Aa Bm r.1:=hm;rw[h,Ab (by omega)];simp only[AL9,ALm,AQm];rw[ALi (by omega),ALi (by grind[Ak,Hu])];rfl
 simp_all
theorem U_{r:AK}(hl:Aa Bm r.1<=2^30):EL r=some ((((),r.2.1,()),()),(r.1,())):=by
 have l1:=AR (f:=Bm) (l:=r.1);have key:∀(n i:Nat) (b:List Cq),i<=r.1.length->r.1.length-i<n->b.length<=i->P3 n i r.1 r.2.1 0 [] r.2.1 b=some ((((),r.2.1,()),()),(b++r.1.drop i,())):=by
  intro n
  induction n with
  |zero=>omega
  |succ n ih=>
   intro i b hi hn hb;simp only[P3,eD,AB];by_cases hc:i<r.1.length
   ·have c1:(0:Int)<=(i:Int)/\(i:Int)<(r.1.length:Int):=by omega
    have hm:=AY (f:=Bm) (AM9 hc)
    replace hm:r.1[i].1.length<=Aa Bm r.1:=hm
    rw[ALi c1.2,ALi c1,As (i:=i) (by omega),Af hc,ALi (by rw[Ak];omega),ALi (by rw[Ak];omega),drop_cons hc,ih (i+1) _ (by omega) (by omega) (by simp_all),ANZ];rfl
   grind
 grind[EL,eQ,AU,AZ]
def pkR(q:AK×Bool):AH2×(List Cq×Unit):=(((((),q.1.2.1,()),q.2,()),()),(q.1.1,()))
section
variable{c:Ca} {r:AK} (hc:c.1.length<=2^40) (hl:Aa Bm r.1<=2^30) (ht:Bi r.2.1)
include hc hl ht
theorem jE{ns:AAO}(hn:ns.length<=2^30):Nw c r ns=some (((((),(JZ c r ns).1.2.1,()),(JZ c r ns).2.1,(JZ c r ns).2.2,()),()),((JZ c r ns).1.1,())):=by
 have l1:=AR (f:=Bm) (l:=r.1);unfold Nw bE JZ;rw[DE c,DE r,SM hc hl ht,U_ hl,ED hc (by omega)];simp only[AD];cases QT c r with
 |false=>rfl
 |true=>
  cases holds c ns with
  |false=>rfl
  |true=>
   simp only[AL9,ALm,AMx,API,ANC];by_cases h30:r.1.length=30
   ·simp_all
   ·rw[show((r.1.length:Int)==30)=false by grind,show decide (r.1.length≠30)=true by simp[h30],ALm,ALi (by rw[Ak];omega),ALi (by rw[Ak];omega)]
    simp
theorem fc{b last:Int}:SV c r b last=some (pkR (OH c r b last)):=by
 have l1:=AR (f:=Bm) (l:=r.1);unfold SV OH;rw[DE c,DE r,SM hc hl ht,U_ hl,PY (by omega)];simp only[AD];rcases ALh (QT c r)with hr|hr
 rotate_left
 ·rw[hr];rfl
 rw[hr];simp only[AL9,ALm,AMx,API];by_cases h1:b=r.1.length
 rotate_left
 ·rw[show(b !=(r.1.length:Int))=true by simp_all,show decide (b=(r.1.length:Int))=false by simp_all]
  rfl
 rw[show(b !=(r.1.length:Int))=false by simp_all,show decide (b=(r.1.length:Int))=true by simp_all];simp only[ALm,ANC];by_cases h2:BX r.1=0
 ·rw[show(BX r.1==0)=true by simp_all,show decide (BX r.1≠0)=false by simp_all]
  rfl
 rw[show(BX r.1==0)=false by simp_all,show decide (BX r.1≠0)=true by simp_all];simp only[ALm,ANC];by_cases h3:b=BX r.1
 ·rw[show(b==BX r.1)=true by simp_all,show decide (b≠BX r.1)=false by simp_all]
  rfl
 rw[show(b==BX r.1)=false by simp_all,show decide (b≠BX r.1)=true by simp_all,BU];simp only[ALm,ANC,AD];cases BJ last 0 60 with
 |false=>rfl
 |true=>
  have Du:=LM.1 hr;have AMo:0<r.1.length:=by
   rcases AUc r.1.length with hz|hz
   ·exact absurd (by unfold BX;rw[hz];rfl) h2
   omega
  obtain⟨k,k1,k2,k3,k4⟩:=UU Du AMo;simp only[AL9,ALm,AQm];rw[k2,Ab (by omega),show((k:Int)+1-1)=(k:Int)by omega,ALi (by omega),ALi (by simp_all),AMn];unfold pkR Qt;simp_all
theorem jH{p:Int}(hp:Bi p):Ue c r p=some (pkR (PZ c r p)):=by
 unfold Ue PZ;rw[DE c,DE r,SM hc hl ht,U_ hl,FR hp,D5 hp];simp only[AD];cases QT c r with
 |false=>rfl
 |true=>
  cases Az p with
  |false=>rfl
  |true=>
   simp only[AL9,ALm,AMx,API,ANC];by_cases h:Ah p<=r.1.length
   ·rw[show decide (Ah p>(r.1.length:Int))=false by simp_all,show decide (Ah p<=(r.1.length:Int))=true by simp_all,ALm,J0]
    rfl
   ·rw[show decide (Ah p>(r.1.length:Int))=true by simp_all,show decide (Ah p<=(r.1.length:Int))=false by simp_all]
    rfl
end
theorem Vy{w:AM}(hl:Aa Aw w.2.1<=2^30):Dg w=some (((w.1,(),()),()),(w.2.1,())):=by
 have l1:=AR (f:=Aw) (l:=w.2.1);have key:∀(n i:Nat) (b:List BF),i<=w.2.1.length->w.2.1.length-i<n->b.length<=i->KP n i w.1 w.2.1 0 [] w.1 b=some (((w.1,(),()),()),(b++w.2.1.drop i,())):=by
  intro n
  induction n with
  |zero=>omega
  |succ n ih=>
   intro i b hi hn hb;simp only[KP,Vw,AB];by_cases hc:i<w.2.1.length
   ·have c1:(0:Int)<=(i:Int)/\(i:Int)<(w.2.1.length:Int):=by omega
    have hm:w.2.1[i].1.length+w.2.1[i].2.1.length<=Aa Aw w.2.1:=AY (f:=Aw) (AM9 hc);rw[ALi c1.2,ALi c1,As (i:=i) (by omega),Af hc,ALi (by rw[Ak];omega),ALi (by rw[Ak];omega),drop_cons hc,ih (i+1) _ (by omega) (by omega) (by simp_all),ANZ];rfl
   grind
 grind[Dg,U6,AU,AZ]
theorem Ju{α:Type}{f:α->Nat}{l m:List α}:Aa f (l++m)=Aa f l+Aa f m:=by
 induction l with
 |nil=>simp[Aa]
 |cons a l ih=>grind[Aa]
theorem sn{n:Int}{x:BF}(h:x.2.2.1=true):FH n x=x:=by
 obtain⟨a,b,d,e⟩:=x;simp only at h;subst h;rfl
def pkW(q:AM×Bool):AHz×(List BF×Unit):=((((q.1.1,(),()),q.2,()),()),(q.1.2.1,()))
section
variable{c:Ca} {w:AM} (hc:c.1.length<=2^40) (hl:Aa Aw w.2.1<=2^20)
include hc hl
theorem pO{d:ABG}(hd:d.length<=2^20):HM c w d=some (((((CJ c w d).1.1,(),()),(CJ c w d).2.1,(CJ c w d).2.2,()),()),((CJ c w d).1.2.1,())):=by
 have l1:=AR (f:=Aw) (l:=w.2.1);unfold HM Q9 CJ;rw[DE c,DE w,Gt hc (by omega),Vy (by omega)];simp only[AD];cases EW c w with
 |false=>rfl
 |true=>
  simp only[AL9,ALm,AMx,API];rw[ALi (by rw[Ak];omega),Gt hc (by
   grind[Aa,Aw,Ju,List.length_nil])]
  grind
theorem oY{o n:Int}:Cj c w o n=some (pkW (Tk c w o n)):=by
 have l1:=AR (f:=Aw) (l:=w.2.1);unfold Cj Tk;rw[DE c,DE w,Gt hc (by omega),Vy (by omega),BU,BU];simp only[AD];rcases ALh (EW c w)with hw|hw
 rotate_left
 ·rw[hw];rfl
 have AFe:=Em (Jb.1 hw).cfg;rw[hw,Ab (x:=(c.1.length:Int)-1) (by omega)];simp only[AL9,ALm,AMx,API];rcases ALh (BJ o 1 (w.2.1.length:Int))with ho|ho
 rotate_left
 ·rw[ho];rfl
 have ho':=Ao.1 ho;rw[ho];cases BJ n 0 ((c.1.length:Int)-1)with
 |false=>rfl
 |true=>
  have hi:(o-1).toNat<w.2.1.length:=by omega
  have hm:(w.2.1.getD (o-1).toNat NQ).1.length+(w.2.1.getD (o-1).toNat NQ).2.1.length<=Aa Aw w.2.1:=AY (f:=Aw) (BN (d:=NQ) hi);simp only[AL9,ALm,ANC];rw[Ab (by omega),ALi (by omega)]
  show cond (w.2.1.getD (o-1).toNat NQ).2.2.1 _ _=_
  cases(w.2.1.getD (o-1).toNat NQ).2.2.1 with
  |true=>rfl
  |false=>
   simp only[ALm,APP,AQm];rw[ALi (by omega),show(w.2.1.getD (o-1).toNat ([],[],false,())).2.1=(w.2.1.getD (o-1).toNat NQ).2.1 from rfl,L4 (by omega)];simp only[AD];rw[ALi (by omega)];have hg:∀x:BF,(w.2.1.set (o-1).toNat x).getD (o-1).toNat ([],[],false,())=x:=fun x=>On hi
   rw[ALi (by grind),hg,ED hc (by
    grind[UP,NQ])]
   simp only[AD];rw[ALi (by grind),AVP];rfl
theorem lK{n:Int}:Pe c w n=some (pkW (CZ c w n)):=by
 have l1:=AR (f:=Aw) (l:=w.2.1);unfold Pe Th CZ;rw[DE c,DE w,Gt hc (by omega),Vy (by omega)];simp only[AD];cases EW c w with
 |false=>rfl
 |true=>
  simp only[AL9,ALm,AMx,API];have key:∀(k i:Nat),i<=w.2.1.length->w.2.1.length-i<k->IY k n i 0 [] w.1 ((w.2.1.map (FH n)).take i++w.2.1.drop i)=some (pkW ((w.1,w.2.1.map (FH n),()),true)):=by
   intro k
   induction k with
   |zero=>omega
   |succ k ih=>
    intro i hi hk;have hlen:((w.2.1.map (FH n)).take i++w.2.1.drop i).length=w.2.1.length:=Q6 hi;simp only[IY,T2,AB,hlen];by_cases Ds:i<w.2.1.length
    ·have c1:(0:Int)<=(i:Int)/\(i:Int)<(w.2.1.length:Int):=by omega
     have hm:w.2.1[i].1.length+w.2.1[i].2.1.length<=Aa Aw w.2.1:=AY (f:=Aw) (AM9 Ds);have hg:((w.2.1.map (FH n)).take i++w.2.1.drop i).getD ((i:Int).toNat) ([],[],false,())=w.2.1[i]:=OJ Ds;rw[ALi c1.2];simp only[ALi c1,hg];rw[As (i:=i) (by omega)];rcases ALh (w.2.1[i].2.2.1)with hd|hd
     ·rw[hd]
      simp only[AL9,ALm];grind[pQ,sn]
     ·rw[hd]
      simp only[APP,AMs];rw[Km (by omega) (by simp)];grind[AD,Int.toNat_natCast,Sf,FH]
    ·rw[ALj (by omega),ANG (by omega)]
     have:i=w.2.1.length:=by omega
     subst this;rw[ANV,AQL (by simp)];rfl
  have:=key AU 0 (by omega) (AZ (by omega));simp_all
end
abbrev PkM:Type:=AGM×(List Int×List AH×List AAO×Unit)
def mQ(q:BA×Bool):PkM:=((((q.1.1,q.1.2.1,(),(),q.1.2.2.2.2.1,(),()),q.2,()),()),(q.1.2.2.1,q.1.2.2.2.1,q.1.2.2.2.2.2.1,()))
section
variable{m:BA} (hm:CK m<=2^20)
include hm
theorem H9:m.2.2.1.length<=2^20/\m.2.2.2.1.length<=2^20/\m.2.2.2.2.2.1.length<=2^20/\ ∀l∈m.2.2.2.2.2.1,l.length<=2^20:=by
 have l1:=AR (f:=Ag) (l:=m.2.2.2.1);have l2:=AR (f:=Cw) (l:=m.2.2.2.2.2.1);have uE:m.2.2.1.length+(Aa Ag m.2.2.2.1+(Aa Cw m.2.2.2.2.2.1+0))<=2^20:=by
  grind[CK]
 refine⟨by omega,by omega,by omega,fun l hl=> ?_⟩;have:l.length<=Aa Cw m.2.2.2.2.2.1:=AY (f:=Cw) hl;omega
theorem MJ:DP m=some (((m.1,m.2.1,(),(),m.2.2.2.2.1,(),()),()),(m.2.2.1,m.2.2.2.1,m.2.2.2.2.2.1,())):=by
 obtain⟨h1,h2,h3,h4⟩:=H9 hm;have key:∀(n i:Nat) (b:List AAO),i<=m.2.2.2.2.2.1.length->m.2.2.2.2.2.1.length-i<n->b.length<=i->
   Ig n i m.1 m.2.1 m.2.2.1 m.2.2.2.1 m.2.2.2.2.1 m.2.2.2.2.2.1 0 0 false [] [] [] m.1 m.2.1 m.2.2.2.2.1 m.2.2.1 m.2.2.2.1 b=some (((m.1,m.2.1,(),(),m.2.2.2.2.1,(),()),()),(m.2.2.1,m.2.2.2.1,b++m.2.2.2.2.2.1.drop i,())):=by
  intro n
  induction n with
  |zero=>omega
  |succ n ih=>
   intro i b hi hn hb;simp only[Ig,Vx,AB];by_cases hc:i<m.2.2.2.2.2.1.length
   ·have c1:(0:Int)<=(i:Int)/\(i:Int)<(m.2.2.2.2.2.1.length:Int):=by omega
    have hq:=h4 _ (AM9 hc);rw[ALi c1.2,ALi c1,As (i:=i) (by omega),Af hc,ALi (by rw[Ak];omega),ALi (by rw[Ak];omega),drop_cons hc,ih (i+1) _ (by omega) (by omega) (by simp_all),ANZ];rfl
   grind
 unfold DP Pd;rw[ALi (by rw[Ak];omega),ALi (by rw[Ak];omega)];grind[AU,AZ]
end
theorem kW{l s:AAO}(hl:l.length<=2^20)(hs:s.length<=2^20):LS l s=some (((),()),(l.filter s.contains,())):=by
 unfold LS;rw[Km (by omega) (by omega)];simp only[AD];have hll:(less l s).length<=l.length:=APg _ _;rw[Km (by omega) (by omega)];grind[AD,less,List.filter_congr]
theorem lM{c:Ca}{s l:AAO}(hc:c.1.length<=2^40)(hl:l.length<=2^20)(hs:s.length<=2^20):LO c s l=some ((TK c s l,()),()):=by
 unfold LO TK;rw[DE c,ED (l:=s) hc (by omega),Hk (l:=l) hc (by omega),Km (l:=l) (m:=s) (by omega) (by omega),Km (l:=s) (m:=l) (by omega) (by omega)];simp only[AD];rcases ALh (holds c s)with h|h
 rotate_left
 ·simp_all
 rw[h];cases BI c l with
 |false=>rfl
 |true=>
  simp only[AL9,ALm,ANC];have hn:BI c (less s l)=true:=UX _ (YF h);by_cases ha:(less l s).length>0
  ·rw[show decide (((less l s).length:Int)>0)=true by simp_all]
   have:l.all s.contains=false:=by
    rw[ATQ];grind[List.all_eq_true,less,List.filter_eq_nil_iff]
   grind
  ·rw[AQS (show¬((less l s).length:Int)>0 by omega)]
   have:l.all s.contains=true:=by
    grind[less,List.length_eq_zero_iff,List.filter_eq_nil_iff,List.all_eq_true]
   rw[this];simp only[ALm,ANC];rw[kM hn];simp only[AD,holds,hn,ANC];grind[ic,less,decide_eq_true,decide_eq_false]
section
variable{c:Ca} {m:BA} (hc:c.1.length<=2^40) (hm:CK m<=2^20) (h:mF m.2.2.2.1)
include hc hm h
theorem jD{o n:Int}:Cv c m o n=some (mQ (VB c m o n)):=by
 obtain⟨h1,h2,h3,h4⟩:=H9 hm;unfold Cv VB;rw[DE c,V1 m,Kn hc (by omega) h,MJ hm,BU,BU];simp only[AD];rcases ALh (HI c m)with hw|hw
 rotate_left
 ·rw[hw];rfl
 have AFe:=Em (HU.1 hw).cfg;rw[hw,Ab (x:=(c.1.length:Int)-1) (by omega)];simp only[AL9,ALm,AMx,API];rcases ALh (BJ o 1 (m.2.2.2.2.2.1.length:Int))with ho|ho
 rotate_left
 ·rw[ho];rfl
 have ho':=Ao.1 ho;rw[ho];cases BJ n 0 ((c.1.length:Int)-1)with
 |false=>rfl
 |true=>
  have hi:(o-1).toNat<m.2.2.2.2.2.1.length:=by omega
  have hq:=h4 _ (BN (d:=([]:AAO)) hi);simp only[AL9,ALm,ANC,AQm];rw[Ab (by omega),ALi (by omega),L4 (by omega)];simp only[AD];rw[ALi (by omega)];rfl
theorem nA{n:Int}:Su c m n=some (mQ (CU c m n)):=by
 obtain⟨h1,h2,h3,h4⟩:=H9 hm;unfold Su V8 CU;rw[DE c,V1 m,Kn hc (by omega) h,MJ hm];simp only[AD];cases HI c m with
 |false=>rfl
 |true=>
  simp only[AL9,ALm,AMx,API];have key:∀(k i:Nat),i<=m.2.2.2.2.2.1.length->m.2.2.2.2.2.1.length-i<k->Ki k n i 0 0 false [] [] [] m.1 m.2.1 m.2.2.2.2.1 m.2.2.1 m.2.2.2.1 ((m.2.2.2.2.2.1.map (fun l=>less l [n])).take i++m.2.2.2.2.2.1.drop i)=
    some (mQ ((m.1,m.2.1,m.2.2.1,m.2.2.2.1,m.2.2.2.2.1,m.2.2.2.2.2.1.map (fun l=>less l [n]),()),true)):=by
   intro k
   induction k with
   |zero=>omega
   |succ k ih=>
    intro i hi hk;have hlen:=Q6 (f:=fun l=>less l [n]) hi;simp only[Ki,WC,AB,hlen];by_cases Ds:i<m.2.2.2.2.2.1.length
    ·have c1:(0:Int)<=(i:Int)/\(i:Int)<(m.2.2.2.2.2.1.length:Int):=by omega
     have hq:=h4 _ (AM9 Ds);have hg:((m.2.2.2.2.2.1.map (fun l=>less l [n])).take i++m.2.2.2.2.2.1.drop i).getD ((i:Int).toNat) []=m.2.2.2.2.2.1[i]:=OJ Ds;rw[ALi c1.2];simp only[ALi c1,hg];rw[As (i:=i) (by omega),Km (by omega) (by simp)];simp only[AD];rw[AMn,Sf Ds rfl];grind
    ·rw[ALj (by omega),ANG (by omega)]
     have:i=m.2.2.2.2.2.1.length:=by omega
     subst this;rw[ANV,AQL (by simp)];rfl
  have:=key AU 0 (by omega) (AZ (by omega));simp_all
theorem pE:VE c m=some ((Wm c m,()),()):=by
 obtain⟨h1,h2,h3,h4⟩:=H9 hm;unfold VE YC Wm;rw[DE c,V1 m,Kn hc (by omega) h];simp only[AD];cases HI c m with
 |false=>rfl
 |true=>
  rcases ALh m.2.2.2.2.1 with hp|hp
  rotate_left
  ·simp_all
  have key:∀(k i:Nat),i<=m.2.2.2.2.2.1.length->m.2.2.2.2.2.1.length-i<k->LQ k i c.1 c.2.1 m.1 m.2.1 m.2.2.1 m.2.2.2.1 m.2.2.2.2.1 m.2.2.2.2.2.1=some (((m.2.2.2.2.2.1.drop i).all (holds c),()),()):=by
   intro k
   induction k with
   |zero=>omega
   |succ k ih=>
    intro i hi hk;simp only[LQ,Yg,AB];by_cases Ds:i<m.2.2.2.2.2.1.length
    ·have c1:(0:Int)<=(i:Int)/\(i:Int)<(m.2.2.2.2.2.1.length:Int):=by omega
     have hq:=h4 _ (AM9 Ds);rw[ALi c1.2,ALi c1,As (i:=i) (by omega),Af Ds,drop_cons Ds,DE c,ED hc (by omega),ih (i+1) (by omega) (by omega)];simp only[AD,ASy];cases holds c m.2.2.2.2.2.1[i]<;>rfl
    grind
  have:=key AU 0 (by omega) (AZ (by omega));simp_all
omit hc h in
theorem eH{o:Int}:DA m o=some ((((Ec m o).getD D_,(Ec m o).isSome,()),()),()):=by
 obtain⟨h1,h2,h3,h4⟩:=H9 hm;unfold DA Ec;rw[dk];simp only[AD];rw[XY (by omega)];simp only[AD];cases m.2.2.2.2.1 with
 |false=>rfl
 |true=>
  simp only[AL9,ALm,ANC];rcases ALh (BJ m.2.1 1 30)with he|he
  rotate_left
  ·rw[he];rfl
  rcases ALh (BJ o 1 60)with ho|ho
  rotate_left
  ·rw[he,ho];rfl
  have hp:EU m.2.1 o=Hr m.2.1 o:=by unfold EU;rw[he,ho];rfl
  rw[he,ho,hp];simp only[AQp,AL9,ALm,ANC];by_cases hl:o<=m.2.2.2.2.2.1.length
  ·rw[show decide (o>(m.2.2.2.2.2.1.length:Int))=false by simpa using hl,show decide (o<=(m.2.2.2.2.2.1.length:Int))=true by simpa using hl]
   simp only[ALm,AQm];cases Qm (Hr m.2.1 o) m.2.2.2.1<;>rfl
  ·rw[show decide (o>(m.2.2.2.2.2.1.length:Int))=true by simp;omega,show decide (o<=(m.2.2.2.2.2.1.length:Int))=false by simp;omega]
   rfl
theorem gE{s:AAO}(hs:s.length<=2^20):G7 c m s=some (mQ (Me c m s)):=by
 obtain⟨h1,h2,h3,h4⟩:=H9 hm;unfold G7 Zh Me;rw[DE c,V1 m,Kn hc (by omega) h,MJ hm];simp only[AD];rcases ALh (HI c m)with Du|Du
 rotate_left
 ·rw[Du];rfl
 have hmo:=HU.1 Du;rw[Du];rcases ALh m.2.2.2.2.1 with hp|hp
 ·rw[hp]
  simp only[AL9,ALm,AMs,AR5,AMx,API,mQ,hp]
 have hn:=hmo.n;rw[hp]at hn;have hw0:m.2.2.2.2.2.1=[]:=AUM.1 (by simp_all);rw[hp];simp only[AL9,APP,ALm,AMx,API,ANC];rw[kW (by omega) hs];have hfl:(m.2.2.1.filter s.contains).length<=m.2.2.1.length:=APg _ _;simp only[AD];rw[lM hc (by omega) hs];simp only[AD];cases TK c s (m.2.2.1.filter s.contains)with
 |false=>simp[mQ,hp]
 |true=>
  simp only[AL9,ALm,AQm];have hlb:=IW (l:=m.2.2.2.1);have key:∀(k i:Nat),(i:Int)<=QQ m.2.2.2.1->(QQ m.2.2.2.1).toNat-i<k->ND k i m.1 m.2.1 m.2.2.1 m.2.2.2.1 false m.2.2.2.2.2.1 0 0 false [] [] [] m.1 m.2.1 true m.2.2.1 m.2.2.2.1 (List.replicate i [])=
    some (mQ ((m.1,m.2.1,m.2.2.1,m.2.2.2.1,true,List.replicate (QQ m.2.2.2.1).toNat [],()),true)):=by
   intro k
   induction k with
   |zero=>omega
   |succ k ih=>
    intro i hi hk;simp only[ND,Zr];rw[show Tv (m.1,m.2.1,m.2.2.1,m.2.2.2.1,false,m.2.2.2.2.2.1,())=some ((QQ m.2.2.2.1,()),())from j_ (m:=(m.1,m.2.1,m.2.2.1,m.2.2.2.1,false,m.2.2.2.2.2.1,())) (by grind) h];simp only[AD,AB];by_cases Ds:(i:Int)<QQ m.2.2.2.1
    ·rw[ALi Ds,ALi (by rw[Ak,ATB];omega),As (i:=i) (by omega),<-List.replicate_succ']
     exact ih (i+1) (by omega) (by omega)
    ·rw[ALj Ds]
     have:i=(QQ m.2.2.2.1).toNat:=by omega
     rw[this];rfl
  have:=key AU 0 (by omega) (AZ (by omega));simp_all
theorem fi{n:Int}{l:List AH}(hl:l.length<=2^20)(RW:mF l)(hw:Aa Ag l<=2^20):HA c m n l=some (mQ (P6 c m n l)):=by
 obtain⟨h1,h2,h3,h4⟩:=H9 hm;unfold HA Z_ P6;rw[DE c,V1 m,Kn hc (by omega) h,MJ hm];simp only[AD];rw[L4 (by omega)];simp only[AD];rcases ALh (HI c m)with Du|Du
 rotate_left
 ·rw[Du];rfl
 rw[Du];simp only[AL9,ALm,AMx,API];have AWT:∀(e:AH) (k:List AH),Aa Ag (keep e k)<=Aa Ag k+(1+Ag e):=by
  intro e k
  induction k with
  |nil=>simp[keep,Aa]
  |cons x k ih=>
   grind[keep,Aa,better]
 have key:∀(k i:Nat) (b:List AH),i<=l.length->l.length-i<k->b.length<=2^20+i->mF b->Aa Ag b+Aa Ag (l.drop i)<=2^21->
   Mu k l i c.1 c.2.1 m.1 m.2.1 m.2.2.1 m.2.2.2.1 m.2.2.2.2.1 m.2.2.2.2.2.1 0 0 false [] [] [] m.1 m.2.1 m.2.2.2.2.1 (Ov n m.2.2.1) b m.2.2.2.2.2.1=
   some (mQ (if !m.2.2.2.2.1&&HI c (m.1,m.2.1,Ov n m.2.2.1,Ea b ((l.drop i).filter fun e=>Ah e.1==m.2.1),m.2.2.2.2.1,m.2.2.2.2.2.1,())then
    ((m.1,m.2.1,Ov n m.2.2.1,Ea b ((l.drop i).filter fun e=>Ah e.1==m.2.1),m.2.2.2.2.1,m.2.2.2.2.2.1,()),true)else(m,false))):=by
  intro k
  induction k with
  |zero=>omega
  |succ k ih=>
   intro i b hi hk hb hbi wE;simp only[Mu,Zk,AB];by_cases Ds:i<l.length
   ·have c1:(0:Int)<=(i:Int)/\(i:Int)<(l.length:Int):=by omega
    rw[ALi c1.2];simp only[ALi c1];rw[As (i:=i) (by omega),Af Ds,drop_cons Ds,gm (l[i]),D5 (RW _ (AM9 Ds)),bh (by omega)];rw[drop_cons Ds]at wE;simp only[Aa]at wE;simp only[AD,ARP];rcases ALh (Ah l[i].1==m.2.1)with he|he
    ·simp only[he,AMs,AQm,Ea]
     have:=b_ (e:=l[i]) (l:=b);have hwk:=AWT l[i] b;exact ih (i+1) _ (by omega) (by omega) (by omega) (fun x hx=>by
      rcases lL hx with rfl|hx
      ·exact RW _ (AM9 Ds)
      ·exact hbi x hx) (by omega)
    grind
   ·rw[ALj (by omega),ANG (by omega),V1 m,DE c,MJ hm]
    simp only[AWW,Ea];rcases ALh m.2.2.2.2.1 with hp|hp
    ·grind[mQ]
    rw[ANG (by omega)]at wE;simp only[Aa]at wE;have hpl:=UP (n:=n) (l:=m.2.2.1);have hb2:=AR (f:=Ag) (l:=b);rw[Kn (m:=(m.1,m.2.1,Ov n m.2.2.1,b,m.2.2.2.2.1,m.2.2.2.2.2.1,())) hc (by
     grind[CK]) hbi]
    simp only[AD];rw[hp];simp only[ALm,APP,ANC];grind[HI,Ov,mQ]
 have hsw:Aa Ag m.2.2.2.1<=2^20:=by
  grind[CK]
 have:=key AU 0 m.2.2.2.1 (by omega) (AZ (by omega)) (by omega) h (by grind);simp_all
end
theorem Ap{α:Type}{b:Bool}{x y:α}:cond (!b) x y=cond b y x:=by simp_all
theorem C9{α:Type}{a b:Int}{x y:α}:cond (a !=b) x y=if a=b then y else x:=by
 simp_all
theorem De{α:Type}{a b:Int}{x y:α}:cond (a==b) x y=if a=b then x else y:=by
 simp_all
theorem qZ{c:Ca}{l:List BL}(hc:c.1.length<=2^40)(hl:l.length<=2^20):
  eX c l=some ((((),BI c (l.map fun a=>a.1),()),()),(l.map (fun a=>a.1),())):=by
 have key:∀(n i:Nat) (b:AAO),i<=l.length->l.length-i<n->b.length=i->
   Mp n l i c.1 c.2.1 b=some ((((),BI c (b++(l.drop i).map fun a=>a.1),()),()),(b++(l.drop i).map (fun a=>a.1),())):=by
  intro n
  induction n with
  |zero=>omega
  |succ n ih=>
   intro i b hi h hb;simp only[Mp,Z9,AB];by_cases jy:i<l.length
   ·have c1:(0:Int)<=(i:Int)/\(i:Int)<(l.length:Int):=by omega
    have c2:b.length+1<=C7:=by rw[Ak];omega
    rw[ALi c1.2,ALi c1,ALi c2,As (i:=i) (by omega),Af jy,ih (i+1) _ (by omega) (by omega) (by simp_all),drop_cons jy];grind
   ·rw[ALj (by omega),ANG (by omega),AUB,ANV,DE c,Hk hc (by omega)]
    rfl
 have:=key AU 0 [] (by omega) (AZ (by omega)) rfl;rw[show((0:Nat):Int)=0 from rfl,AQR,AQH]at this;exact this
theorem ZL{r:Ac}(h:r.2.2.1.length<=2^30):Bz r=some (((r.1,r.2.1,(),()),()),(r.2.2.1,())):=by
 unfold Bz;rw[ALi (by rw[Ak];omega)]
theorem ix{r:Ac}{e:Au}{x y:Int}(h:r.2.2.1.length<=2^30):Jc r e x y=some (((x,y,(),()),()),(r.2.2.1++[e],())):=by
 unfold Jc;rw[PG r,ZL h];simp only[AD];rw[ALi (by rw[Ak];omega)]
theorem uu{s:AAO}{p:Int}{l:List BL}(hs:s.length<=2^20)(hl:l.length<=2^20)(RW:∀a∈l,Bi a.2.2.1):
  OA s p l=some ((Wo p (Jj s p none l),()),()):=by
 have key:∀(n i:Nat) (b:Option AH),i<=l.length->l.length-i<n->
   ON n s p l b.isSome i 0 0 [] (b.getD D_).1 (b.getD D_).2.1 (b.getD D_).2.2.1 (b.getD D_).2.2.2.1=some ((Wo p (Jj s p b (l.drop i)),()),()):=by
  intro n
  induction n with
  |zero=>omega
  |succ n ih=>
   intro i b hi h;simp only[ON,cT,AB,Ap];by_cases jy:i<l.length
   ·have c1:(0:Int)<=(i:Int)/\(i:Int)<(l.length:Int):=by omega
    rw[ALi c1.2,ALi c1,As (i:=i) (by omega),Af jy,drop_cons jy];have ih':=fun b=>ih (i+1) b (by omega) (by omega)
    simp only[ih'];rw[Lo (by omega),show(l[i].2.2.1,l[i].2.2.2.1,l[i].2.2.2.2.1,l[i].2.2.2.2.2.1,())=aq l[i]from rfl];rw[Si (e:=aq l[i]) (RW _ (AM9 jy))];simp only[AD,Jj];cases h1:l[i].2.1 with
    |false=>simp
    |true=>
     cases h2:s.contains l[i].1 with
     |false=>simp
     |true=>
      cases h3:Ga (aq l[i])with
      |false=>simp
      |true=>
       simp only[AMs,ANC];by_cases h4:l[i].2.2.1=p
       ·rw[C9,ALi h4,ALi (by show((aq l[i]).1==p)=true;rw[ASQ];exact h4)]
        cases b with
        |none=>
         simp only[ASE,ALm,bw,AD,Option.getD_none];have:=ih' (some (aq l[i]));simp only[AQv,ARc]at this;have hb:better (aq l[i]) (aq l[i])=aq l[i]:=by unfold better;simp_all
         simp_all
        |some x=>
         simp only[AQv,AMs,ARc];rw[gm x];grind[bw,AD,better,aq,Option.isSome_some]
       ·rw[C9,ALj h4,ALj (by show¬((aq l[i]).1==p)=true;rw[ASQ];exact h4)]
   ·rw[ALj (by omega),ANG (by omega)]
    simp only[Jj];cases b with
    |none=>rfl
    |some x=>
     simp only[AQv,AMs,ARc,Wo];grind
 exact key AU 0 none (by omega) (AZ (by omega))
theorem qE{x:Int}:0<=Cc x/\Cc x<=60:=by
 cases h:Az x with
 |true=>have:=(Hn h).2.1;omega
 |false=>unfold Cc;simp_all
def AEU(q:Ac×Int):dF:=((((q.1.1,q.1.2.1,(),()),q.2,()),()),(q.1.2.2.1,()))
theorem nI{c:Ca}{g:AK}{sure:Int}{r:Ac}{l:List BL}(hc:c.1.length<=2^20)(hg:Aa Bm g.1<=2^20)(ht:Bi g.2.1)(hl:l.length<=2^20)(RW:∀a∈l,Bi a.2.2.1):
  Sj c g sure r l=some (AEU (Dq c g sure r l)):=by
 unfold Sj Dq;rw[DE c,DE g,PG r,qZ (by omega) hl,SM (by omega) (by omega) ht,RQ];simp only[AD,Ap,AB];cases h1:QT c g with
 |false=>rfl
 |true=>
 cases h2:VW r with
 |false=>rfl
 |true=>
 cases h3:BI c (l.map fun a=>a.1)with
 |false=>rfl
 |true=>
 have hr:=ay.1 h2;have hre:=hr.ep;have hro:=hr.off;have hrn:=hr.n;have hR:=LM.1 h1;have hRn:=hR.n;simp only[AMs,ANC,AL9,AMx,API];rw[ZL (by omega)];simp only[AD];by_cases h4:r.1>(g.1.length:Int)
 ·rw[ALi h4,AOW h4];rfl
 rw[ALj h4,AQS h4];by_cases h5:r.2.2.1.length=120
 ·rw[show(((r.2.2.1.length:Nat):Int)==120)=true by simp_all,AOW h5];rfl
 rw[show(((r.2.2.1.length:Nat):Int)==120)=false by grind,AQS h5];simp only[ALm,APU,AMx,API];rw[Ab (x:=r.1-1) (by omega),ALi (by omega),Gc (by omega) (by omega),D5 ht,XT ht];simp only[AD];have hto:=qE (x:=g.2.1);rw[Ab (x:=Cc g.2.1+1) (by omega),Ab (x:=r.1+1) (by omega),Ab (x:=r.2.1+1) (by omega)];simp only[ix (r:=r) (by omega),AD];by_cases h6:g.2.1>=Hr r.1 r.2.1
 ·rw[ALi h6,ALi h6];rfl
 rw[ALj h6,ALj h6]
 generalize AJm:g.1.getD (r.1-1).toNat Hu=era
 have JN:(r.1-1).toNat<g.1.length:=by omega
 have Xj:era.1.length<=2^20:=by
  have h7:=AY (f:=Bm) (BN (d:=Hu) JN);rw[AJm]at h7;have:Bm era=era.1.length:=rfl;omega
 have tail:((LS (l.map fun a=>a.1) era.1).bind fun Ru=>
   (LO c era.1 Ru.2.1).bind fun et=>
   cond (et.1.1)
    ((OA era.1 (Hr r.1 r.2.1) l).bind fun dD=>
    some ((((r.1,r.2.1+1,(),()),0,()),()),(r.2.2.1++[(dD.1.1.1,dD.1.1.2.1,dD.1.1.2.2.1,())],())))
    (some ((((r.1,r.2.1,(),()),3,()),()),(r.2.2.1,()))))=
   some (AEU (if !TK c era.1 ((l.map fun a=>a.1).filter era.1.contains)then(r,3)else
    ((r.1,r.2.1+1,r.2.2.1++[Wo (Hr r.1 r.2.1) (Jj era.1 (Hr r.1 r.2.1) none l)],()),0))):=by
  have hf:((l.map fun a=>a.1).filter era.1.contains).length<=2^20:=APf (APg _ _) (by simp_all);rw[kW (by simp_all) Xj,uu Xj hl RW];simp only[AD];rw[lM (by omega) hf Xj];simp only[AD,ix (r:=r) (by omega)];cases TK c era.1 ((l.map fun a=>a.1).filter era.1.contains)<;>rfl
 have hd:g.1.getD (r.1-1).toNat ([],false,0,())=era:=AJm;rw[hd];simp only[tail];cases h7:era.2.1 with
 |true=>
  simp only[AMs,ALm,ANC,AL9,AR5,APU,AM7];by_cases h8:r.2.1>era.2.2.1
  ·rw[ALi h8,ALi h8];rfl
  rw[ALj h8,ALj h8];by_cases h9:r.2.1>60
  ·rw[ALi h9,ALi h9];rfl
  grind
 |false=>
  simp only[AMs,ALm,ANC,APP,AR5,AMx,API,AR1,AM7];by_cases h8:r.2.1>sure
  ·rw[ALi h8,ALi (.inl h8)];rfl
  rw[ALj h8];by_cases h9:r.2.1>60
  ·rw[ALi h9,ALi (.inr h9)];rfl
  grind
theorem ve{c:Ca}{l:AAO}(hc:c.1.length<=2^20)(hl:l.length<=2^20):eE c l=some ((BI c l&& !holds c l,()),()):=by
 unfold eE;rw[DE c,Hk (by omega) (by omega),ED (by omega) (by omega)];grind
theorem qd{ss:List AL}(hs:ss.length<=1024)(h:∀s∈ss,s.1.length<=1024):fK ss=some (((),()),(HJ [] ss,())):=by
 have key:∀n:Nat,
   (∀(i:Nat) (b:List AH),i<=ss.length->(ss.length-i)*1026+1<=n->b.length<=i*1024->
    KH n ss i b=some (((),()),(HJ b (ss.drop i),())))/\
   (∀(i j:Nat) (b:List AH),(hi:i<ss.length)->j<=ss[i].1.length->(ss.length-i-1)*1026+1+(ss[i].1.length-j)+1<=n->b.length<=i*1024+j->
    KD n ss i j b=some (((),()),(HJ (Ea b (ss[i].1.drop j)) (ss.drop (i+1)),()))):=by
  intro n
  induction n with
  |zero=>simp_all
  |succ n ih=>
   refine⟨fun i b hi h' hb=> ?_,fun i j b hi hj h' hb=> ?_⟩
   ·simp only[KH,aC,AB]
    by_cases hc:i<ss.length
    ·rw[ALi (by omega)]
     have hm:=h _ (AM9 hc);have e1:(ss.length-i)*1026=(ss.length-i-1)*1026+1026:=by
      omega
     have:=ih.2 i 0 b hc (by omega) (by omega) (by omega);rw[show((0:Nat):Int)=0 from rfl,AQR]at this;rw[this,drop_cons hc];rfl
    ·rw[ALj (by omega),ANG (by omega)]
     rfl
   ·have hm:=h _ (AM9 hi)
    simp only[KD,Zy,AB];have c1:(0:Int)<=(i:Int)/\(i:Int)<(ss.length:Int):=by omega
    rw[ALi c1,Af hi];simp only[ALi c1];have hbb:i*1024<=2^20:=by
     omega
    by_cases hc:j<ss[i].1.length
    ·have c2:(0:Int)<=(j:Int)/\(j:Int)<(ss[i].1.length:Int):=by omega
     rw[ALi c2.2,ALi c2,Af hc,gm (ss[i].1[j]),bh (by omega)];simp only[AD];rw[As (i:=j) (by omega),drop_cons hc];have hk:=b_ (e:=ss[i].1[j]) (l:=b);exact ih.2 i (j+1) _ hi (by omega) (by omega) (by omega)
    ·rw[ALj (by omega),As (i:=i) (by omega),ANG (by omega)]
     exact ih.1 (i+1) b (by omega) (by grind) (by omega)
 have hf:(ss.length-0)*1026+1<=AU:=by
  have:ss.length*1026<=1024*1026:=AOV _ hs;exact ATW (AZ (by omega))
 exact(key AU).1 0 [] (by omega) hf (by simp)
theorem AFc(e:AH):∀l:List AH,Aa Ag (keep e l)<=Aa Ag l+(1+Ag e)
 |[]=>by simp[keep,Aa]
 |x::l=>by
  have:=AFc e l;grind[keep,better,Aa]
theorem ADg:∀{l k:List AH},Aa Ag (Ea k l)<=Aa Ag k+Aa Ag l
 |[],k=>by simp[Ea,Aa]
 |e::l,k=>by
  have h1:=ADg (l:=l) (k:=keep e k);grind[AFc,Ea,Aa]
theorem AEL:∀{l:List AL} {k:List AH},Aa Ag (HJ k l)<=Aa Ag k+Aa Al l
 |[],k=>by simp[HJ,Aa]
 |s::l,k=>by
  have h1:=AEL (l:=l) (k:=Ea k s.1);have h2:=ADg (l:=s.1) (k:=k);have:Al s=Aa Ag s.1+Aa Ag s.2.1:=rfl;grind[HJ,Aa]
theorem rv{y:AH}:∀{l:List AL} {k:List AH},y∈HJ k l->y∈k\/ ∃s∈l,y∈s.1
 |[],k,h=> .inl h
 |s::l,k,h=>by
  rcases rv (l:=l) h with h|⟨t,ht,h⟩
  all_goals grind[lP]
def ADV(b:Bool)(x:AL):AL×Bool:=if b then(x,true)else(EZ,false)
def pkF(ss:List AL)(q:AL×Bool):Tp:=(((((),(),q.1.2.2.1,()),q.2,()),()),(ss,q.1.1,q.1.2.1,()))
theorem ABj{c:Ca}{ss:List AL}{lost:AAO}{n upto:Int}(hc:c.1.length<=2^20)(hs:ss.length<=1024)(hn:∀s∈ss,s.1.length<=1024)(hw:Aa Al ss<=2^24)(RW:∀s∈ss,pr s)(hl:lost.length<=2^20):
  lr c lost n upto ss=some (pkF ss (fk c ss lost n upto)):=by
 have hfs:fk c ss lost n upto=ADV (Gh c&&(decide (ss.length=c.1.length)&&(BI c lost&&(!holds c lost&&(lost.contains n&&((others lost 0 ss).all CS&&CS (HJ [] (others lost 0 ss),[],upto,()))))))) (HJ [] (others lost 0 ss),[],upto,()):=rfl;rw[hfs];unfold lr jK;rw[DE c,II (by omega),ve hc hl,Lo (by omega)];simp only[AD,Ap,C9];have k11:∀(k i:Nat) (o:List AL),(∀s∈o,s∈ss)->o.length<=ss.length->Aa Al o<=2^24->i<=o.length->o.length-i<k->
   Ol k upto i ss 0 [] [] 0 [] [] o=some (pkF ss (ADV ((o.drop i).all CS&&CS (HJ [] o,[],upto,())) (HJ [] o,[],upto,()))):=by
  intro k
  induction k with
  |zero=>omega
  |succ k ih=>
   intro i o ho hol how hi h;simp only[Ol,ga,AB,Ap];by_cases Ds:i<o.length
   ·have c1:(0:Int)<=(i:Int)/\(i:Int)<(o.length:Int):=by omega
    have hm:=ho _ (AM9 Ds);have hws:=AY (f:=Al) hm;rw[ALi c1.2,ALi c1,Af Ds,PG (o[i]),Gf (by omega) (RW _ hm),As (i:=i) (by omega),ih (i+1) o ho hol how (by omega) (by omega),drop_cons Ds];simp only[AD,ASy];rcases ALh (CS o[i])with hb|hb<;>rw[hb]
    all_goals rfl
   ·rw[ALj (by omega),ANG (by omega),qd (by omega) (fun s hs=>hn s (ho s hs))]
    have hu:=AEL (l:=o) (k:=[]);simp only[Aa]at hu;simp only[AD];rw[Gf (s:=(HJ [] o,[],upto,())) (by show Aa Ag (HJ [] o)+Aa Ag []<=_;grind[Aa]) ⟨fun e he=>by
     rcases rv he with he|⟨t,ht,he⟩
     ·simp_all
     ·exact(RW t (ho t ht)).1 e he,fun e he=>by simp_all⟩]
    simp only[AD,List.all_nil,ANC];rcases ALh (CS (HJ [] o,[],upto,()))with hb|hb<;>rw[hb]<;>rfl
 have k6:∀(k i:Nat) (o:List AL),(∀s∈o,s∈ss)->i<=ss.length->(ss.length-i)+ss.length+2<=k->o.length<=i->Aa Al o+Aa Al (ss.drop i)<=2^24->
   Qw k lost upto i ss 0 [] [] 0 [] [] o=some (pkF ss (ADV ((o++others lost i (ss.drop i)).all CS&&CS (HJ [] (o++others lost i (ss.drop i)),[],upto,())) (HJ [] (o++others lost i (ss.drop i)),[],upto,()))):=by
  intro k
  induction k with
  |zero=>omega
  |succ k ih=>
   intro i o ho hi h hol how;simp only[Qw,jL,AB,Ap];by_cases Ds:i<ss.length
   ·have c1:(0:Int)<=(i:Int)/\(i:Int)<(ss.length:Int):=by omega
    have c2:o.length+1<=C7:=by rw[Ak];omega
    rw[drop_cons Ds]at how;simp only[Aa]at how;have hws:Al ss[i]+(Aa Ag []+0)=Al ss[i]:=rfl;rw[ALi c1.2,Lo (by omega),ALi c1,ALi c2,Af Ds,PG (ss[i]),As (i:=i) (by omega)];simp only[AD];rw[ih (i+1) o ho (by omega) (by omega) (by omega) (by omega)];rw[ih (i+1) (o++[ss[i]]) (fun s hs=>by
     grind) (by omega) (by omega) (by simp_all) (by grind[Ju,Aa])]
    rw[drop_cons Ds];simp only[others];grind
   ·have:=k11 k 0 o ho (by omega) (by omega) (by omega) (by omega)
    rw[show((0:Nat):Int)=0 from rfl,AQR]at this;rw[ALj (by omega),this,ANG (by omega)];simp only[others,ANV]
 have:=k6 AU 0 [] (by simp) (by omega) (ATW (AZ (by omega))) (by simp) (by grind[Aa]);rw[show((0:Nat):Int)=0 from rfl,AQR,AQH]at this;rw[this];rcases ALh (Gh c)with h1|h1
 rotate_left
 ·rw[h1];rfl
 by_cases h2:ss.length=c.1.length
 rotate_left
 ·rw[ALj (by omega),h1,AQS h2];rfl
 rw[ALi (by omega),h1,AOW h2];rcases ALh (BI c lost)with h3|h3
 rotate_left
 ·rw[h3];rfl
 rw[h3];rcases ALh (holds c lost)with h4|h4
 ·rw[h4];rfl
 rw[h4];rcases ALh (lost.contains n)with h5|h5
 rotate_left
 ·rw[h5];rfl
 simp_all
theorem vW{α:Type}{l:List α}{i j:Nat}{x d:α}(hi:i<l.length):(l.set i x).getD j d=if i=j then x else l.getD j d:=by
 grind
theorem SO{w:AA}{n:Int}(h:Ay w n=0):0<=n/\n<w.Bd.length/\n∉w.lost:=by
 unfold Ay at h;split at h
 ·omega
 rename_i h1;simp only[AO7,APF,Ao]at h1;grind
theorem w9{s x:Aj}:∀{l:List Aj},x∈ew s l↔x=s\/x∈l
 |[]=>by simp[ew]
 |y::l=>by
  simp only[ew];split
  ·simp
  ·simp only[AO3,w9 (l:=l)]
   grind
theorem AC9{s:Aj}:∀{l:List Aj},(ew s l).length=l.length+1
 |[]=>rfl
 |y::l=>by
  simp only[ew];split
  ·rfl
  ·simp only[AOJ,AC9 (l:=l)]
theorem ACV{s:Aj}:∀{l:List Aj},Ze (fun s:Aj=>s.1) l->(∀x∈l,x.1≠s.1)->Ze (fun s:Aj=>s.1) (ew s l)
 |[],_,_=>by simp[ew,Ze]
 |y::l,h,hs=>by
  have h':=h;simp only[Ze,AP5]at h;simp only[ew];split
  ·rename_i hy
   simp only[Ze,AP5,AO3];grind
  ·rename_i hy
   simp only[Ze,AP5];refine⟨fun a ha=> ?_,ACV h.2 fun x hx=>hs x (by simp[hx])⟩;rcases w9.1 ha with rfl|ha
   all_goals grind
section
variable{w:AA} (h:RS w)
include h
theorem RS.node{n:Int}(hn:Ay w n=0):(0<=n/\n<(Ae w).1.length)/\n.toNat<w.Bd.length/\n∉w.lost:=by
 obtain⟨a,b,c⟩:=SO hn;have:=h.y7;exact⟨⟨a,by show n<(w.1.length:Int);omega⟩,by omega,c⟩
theorem RS.xm{n:Int}(hn:Ay w n=0){s:AL}(hs:iK s):RS (w.Cb (w.Bd.set n.toNat s)):=by
 obtain⟨h1,h2,h3⟩:=h.node hn;refine⟨h.cfg,by(try simp only[H.AA.Bd,H.AA.lost,H.AA.BQ,H.AA.trim,H.AA.AO,H.AA.Cg,H.AA.Aq,H.AA.Ar,H.AA.JG,H.AA.Cb,H.AA.Fo,H.AA.Ji,H.AA.Bk,H.AA.C5,H.AA.DM,H.AA.BH,H.AA.F_,Cl,Ae]at*);simpa using h.y7,h.lost,h.JG,fun i hi=> ?_,h.wW,h.zy,h.nmd,h.AO,h.l8,h.Cg,h.tF,h.Aq,h.Vp,h.Ar,h.iP⟩
 (try simp only[H.AA.Bd,H.AA.lost,H.AA.BQ,H.AA.trim,H.AA.AO,H.AA.Cg,H.AA.Aq,H.AA.Ar,H.AA.JG,H.AA.Cb,H.AA.Fo,H.AA.Ji,H.AA.Bk,H.AA.C5,H.AA.DM,H.AA.BH,H.AA.F_,Cl,Ae]at*);simp only[ASf]at hi
 simp only[vW h2];split
 ·grind
 ·exact h.Bd i hi
theorem RS.store{n:Int}(hn:Ay w n=0):iK (storeAt w n):=(h.Bd _ (h.node hn).2.1).1
theorem pK{n:Int}{q:AL×Bool}(hn:Ay w n=0)(hs:q.2=true->iK q.1)(e:(putAt w n q).2=0):RS (putAt w n q).1:=by
 unfold putAt at*;split at e
 ·rename_i hq
  rw[ALi hq];exact h.xm hn (hs hq)
 omega
theorem AMB{a:Int}(e:(O6 w a).2=0):RS (O6 w a).1:=by
 unfold O6 at*;split at e
 ·omega
 rename_i h4;rw[ALj h4];simp only at e|-;split at e
 ·omega
 rename_i hq;rw[ALj hq];simp only[AO7,APF]at hq;obtain⟨_,r1,r2,r3,r4,r5⟩:=xP hq;rw[r2]at r1;rw[r2,r3];have hnw:=h.zy;have hl:((Cl w).1++[(Bf a,false,0,())]).length=w.BQ.length+1:=by simp[Cl]
 refine⟨h.cfg,h.y7,h.lost,h.JG,h.Bd,r1,?_,by(try simp only[H.AA.Bd,H.AA.lost,H.AA.BQ,H.AA.trim,H.AA.AO,H.AA.Cg,H.AA.Aq,H.AA.Ar,H.AA.JG,H.AA.Cb,H.AA.Fo,H.AA.Ji,H.AA.Bk,H.AA.C5,H.AA.DM,H.AA.BH,H.AA.F_,Cl,Ae]at*);simp,fun x hx=> ?_,?_,fun m hm=>by grind,h.tF,h.Aq,h.Vp,fun s hs=> ?_,h.iP⟩
 ·grind
 ·replace hx:x∈w.AO++[((w.BQ.length:Int)+1,[],())]:=hx
  simp only[AOK,AQC]at hx;have Ae5:w.BQ.length<30:=r5;have qc:(((Cl w).1++[(Bf a,false,0,())]).length:Int)=(w.BQ.length:Int)+1:=by omega
  show iX (Ae w) x/\x.1<=(((Cl w).1++[(Bf a,false,0,())]).length:Int)
  rw[qc];rcases hx with hx|rfl
  ·have:=h.AO x hx
   grind
  ·exact⟨⟨h.cfg,by omega,by simp,by simp,by simp[Tz]⟩,by omega⟩
 ·show Ze (fun x:AM=>x.1) (w.AO++[((w.BQ.length:Int)+1,[],())])
  simp only[Ze,List.pairwise_append,AP5,List.Pairwise.nil,AQC,AQs];refine⟨h.l8,by simp,fun x hx y hy=> ?_⟩;subst hy;have:=(h.AO x hx).2;omega
 ·have:=h.Ar s hs
  grind
end
section
variable{w:AA} (h:RS w)
include h
theorem AQg{a:Int}{d:ABG}(hd:d.length<=40)(e:(doAdd w a d).2=0):RS (doAdd w a d).1:=by
 unfold doAdd at*;split at e
 ·omega
 rename_i ha;rw[ALj ha];simp only[AO7,APF,Ao]at ha;simp only at e|-;split at e
 ·omega
 rename_i hq;rw[ALj hq];simp only[AR1,AWw,AO7,APF,ATV,List.any_eq_false,ASQ]at hq;obtain⟨hq,h120,hno⟩:=hq;have hi:a.toNat<w.AO.length:=by omega
 have hx:=h.AO _ (BN (d:=CN) hi);obtain⟨_,r1,r2,r3⟩:=h_ hq;rw[r2]at r1;rw[r2,r3];rw[r3]at hno;have hnn:=r1.n;simp only[AOu,AOJ,APN]at hnn;obtain⟨p1,p2,p3⟩:=J9 (e:=(w.AO.getD a.toNat CN).1) (o:=((w.AO.getD a.toNat CN).2.1.length:Int)+1) hx.1.ep (by omega);have hns:=h.Vp;refine⟨h.cfg,h.y7,h.lost,h.JG,h.Bd,h.wW,by(try simp only[H.AA.Bd,H.AA.lost,H.AA.BQ,H.AA.trim,H.AA.AO,H.AA.Cg,H.AA.Aq,H.AA.Ar,H.AA.JG,H.AA.Cb,H.AA.Fo,H.AA.Ji,H.AA.Bk,H.AA.C5,H.AA.DM,H.AA.BH,H.AA.F_,Cl,Ae]at*);simpa using h.zy,h.nmd,fun x hx' => ?_,?_,h.Cg,h.tF,h.Aq,by grind[AC9],fun s hs=> ?_,ACV h.iP fun x hx=>by grind⟩
 ·rcases AQO hx' with hx'|rfl
  ·exact h.AO x hx'
  ·exact⟨r1,hx.2⟩
 ·have:=h.l8
  show Ze (fun x:AM=>x.1) (w.AO.set a.toNat ((w.AO.getD a.toNat CN).1,(w.AO.getD a.toNat CN).2.1++[(d,[],false,())],()))
  simp only[Ze,AT1,List.getElem_set,ASf]at this|-;grind
 ·rcases w9.1 hs with rfl|hs
  ·simp_all
  ·exact h.Ar s hs
theorem ALI{a b n:Int}(e:(K3 w a b n).2=0):RS (K3 w a b n).1:=by
 unfold K3 at*;split at e
 ·omega
 rename_i h1;rw[ALj h1];simp only at e|-;split at e
 ·omega
 rename_i h2;rw[ALj h2];split at e
 ·omega
 rename_i h3;rw[ALj h3];split at e
 ·omega
 rename_i h4;rw[ALj h4];grind[pK,kv]
theorem sD{all:Bool}{s:AL}{n:Int}(hn:0<=n/\n<(Ae w).1.length):∀{ws:List AM} {ss:List Aj},
  (Fi all (Ae w) s w.BQ n ws ss).1=ws.map (fun x=>if lH s w.BQ n x then(x.1,B_ (Ae w) s x.1 n 1 x.2.1,())else x)/\
  (Fi all (Ae w) s w.BQ n ws ss).2.map (fun x=>(x.1,x.2.1))=ss.map (fun x=>(x.1,x.2.1))
 |[],ss=>⟨rfl,rfl⟩
 |x::ws,ss=>by
  simp only[Fi,ATU];split
  ·rename_i ht
   obtain⟨h1,h2⟩:=sD hn (ws:=ws) (ss:=ss.map (SU all x.1 x.2.1 (B_ (Ae w) s x.1 n 1 x.2.1)));rw[h1,h2];exact⟨rfl,by rw[ATa];rfl⟩
  ·obtain⟨h1,h2⟩:=sD hn (ws:=ws) (ss:=ss)
   rw[h1,h2];simp_all
theorem ANX{all:Bool}{n:Int}(e:(QA all w n).2=0):RS (QA all w n).1:=by
 unfold QA at*;split at e
 ·omega
 rename_i h1;rw[ALj h1];simp only at e|-;split at e
 ·omega
 rename_i h2;rw[ALj h2];simp only[ne_eq,AU9]at h1;simp only[AO7,APF]at h2;have hn:=(h.node h1).1;obtain⟨s1,s2,s3⟩:=Of h2;have hw:=h.xm h1 s2;obtain⟨t1,t2⟩:=sD h (all:=all) (s:=(CQ (storeAt w n)).1) hn (ws:=w.AO) (ss:=w.Ar);have ms:∀x∈(Fi all (Ae w) (CQ (storeAt w n)).1 w.BQ n w.AO w.Ar).2,∃y∈w.Ar,x.1=y.1/\x.2.1=y.2.1:=fun x hx=>by
  have:(x.1,x.2.1)∈w.Ar.map (fun x=>(x.1,x.2.1)):=by grind
  simp_all
 have ml:(Fi all (Ae w) (CQ (storeAt w n)).1 w.BQ n w.AO w.Ar).2.length=w.Ar.length:=by
  have:=congrArg List.length t2;grind
 have ma:Ze (fun s:Aj=>s.1) (Fi all (Ae w) (CQ (storeAt w n)).1 w.BQ n w.AO w.Ar).2:=by
  have h1:(Fi all (Ae w) (CQ (storeAt w n)).1 w.BQ n w.AO w.Ar).2.map (fun x=>x.1)=w.Ar.map (fun x=>x.1):=by
   have:=congrArg (List.map Prod.fst) t2;rw[ATa,ATa]at this;exact this
  have h2:(w.Ar.map (fun x:Aj=>x.1)).Pairwise (· < ·):=ATs.2 h.iP;grind
 refine⟨h.cfg,hw.y7,h.lost,h.JG,hw.Bd,h.wW,by(try simp only[H.AA.Bd,H.AA.lost,H.AA.BQ,H.AA.trim,H.AA.AO,H.AA.Cg,H.AA.Aq,H.AA.Ar,H.AA.JG,H.AA.Cb,H.AA.Fo,H.AA.Ji,H.AA.Bk,H.AA.C5,H.AA.DM,H.AA.BH,H.AA.F_,Cl,Ae]at*);simp only[t1,ATS];exact h.zy,by(try simp only[H.AA.Bd,H.AA.lost,H.AA.BQ,H.AA.trim,H.AA.AO,H.AA.Cg,H.AA.Aq,H.AA.Ar,H.AA.JG,H.AA.Cb,H.AA.Fo,H.AA.Ji,H.AA.Bk,H.AA.C5,H.AA.DM,H.AA.BH,H.AA.F_,Cl,Ae]at*);simpa using h.nmd,fun x hx=> ?_,?_,fun m hm=> ?_,h.tF,h.Aq,by(try simp only[H.AA.Bd,H.AA.lost,H.AA.BQ,H.AA.trim,H.AA.AO,H.AA.Cg,H.AA.Aq,H.AA.Ar,H.AA.JG,H.AA.Cb,H.AA.Fo,H.AA.Ji,H.AA.Bk,H.AA.C5,H.AA.DM,H.AA.BH,H.AA.F_,Cl,Ae]at*);simp only[ml];exact h.Vp,fun x hx=> ?_,ma⟩
 ·(try simp only[H.AA.Bd,H.AA.lost,H.AA.BQ,H.AA.trim,H.AA.AO,H.AA.Cg,H.AA.Aq,H.AA.Ar,H.AA.JG,H.AA.Cb,H.AA.Fo,H.AA.Ji,H.AA.Bk,H.AA.C5,H.AA.DM,H.AA.BH,H.AA.F_,Cl,Ae]at*);simp only[t1]at hx
  obtain⟨y,hy,rfl⟩:=ATM.1 hx;have hy':=h.AO y hy;split
  ·obtain⟨k1,k2,k3⟩:=iv (s:=(CQ (storeAt w n)).1) (ep:=y.1) hn (o:=1) hy'.1.words
   exact⟨⟨h.cfg,hy'.1.ep,k3▸hy'.1.n,k1,APf k2 hy'.1.opn⟩,hy'.2⟩
  ·exact hy'
 ·show Ze (fun x:AM=>x.1) (Fi all (Ae w) (CQ (storeAt w n)).1 w.BQ n w.AO w.Ar).1
  rw[t1];simp only[Ze,ATs];refine h.l8.imp fun{a b} yi=> ?_
  grind
 ·obtain⟨y,hy,rfl⟩:=ATM.1 hm
  have hy':=h.Cg y hy;refine⟨AJn hn hy'.1,?_⟩;grind[NI]
 ·obtain⟨y,hy,e1,e2⟩:=ms x hx
  have:=h.Ar y hy;simp_all
theorem AKC{n k:Int}(e:(K0 w n k).2=0):RS (K0 w n k).1:=by
 unfold K0 at*;split at e
 ·omega
 rename_i h1;rw[ALj h1];exact pK h (by omega) (fun hq=>(Of hq).2.1) e
theorem ALL{n:Int}(e:(Kz w n).2=0):RS (Kz w n).1:=by
 unfold Kz at*;split at e
 ·omega
 rename_i h1;rw[ALj h1];exact pK h (by omega) (fun hq=>(ABP hq).2.1) e
theorem ANv{n:Int}(e:(PI w n).2=0):RS (PI w n).1:=by
 unfold PI at*;split at e
 ·omega
 rename_i h1;rw[ALj h1];simp only[ne_eq,AU9]at h1;obtain⟨hn,hn2,hn3⟩:=h.node h1;have fw:∀x∈w.AO,(CZ (Ae w) x n).1=(x.1,x.2.1.map (FH n),()):=fun x hx=>(iy (h.AO x hx).1).2
 refine⟨h.cfg,by(try simp only[H.AA.Bd,H.AA.lost,H.AA.BQ,H.AA.trim,H.AA.AO,H.AA.Cg,H.AA.Aq,H.AA.Ar,H.AA.JG,H.AA.Cb,H.AA.Fo,H.AA.Ji,H.AA.Bk,H.AA.C5,H.AA.DM,H.AA.BH,H.AA.F_,Cl,Ae]at*);simpa using h.y7,Ls h.lost hn,?_,fun i hi=> ?_,h.wW,by(try simp only[H.AA.Bd,H.AA.lost,H.AA.BQ,H.AA.trim,H.AA.AO,H.AA.Cg,H.AA.Aq,H.AA.Ar,H.AA.JG,H.AA.Cb,H.AA.Fo,H.AA.Ji,H.AA.Bk,H.AA.C5,H.AA.DM,H.AA.BH,H.AA.F_,Cl,Ae]at*);simpa using h.zy,by(try simp only[H.AA.Bd,H.AA.lost,H.AA.BQ,H.AA.trim,H.AA.AO,H.AA.Cg,H.AA.Aq,H.AA.Ar,H.AA.JG,H.AA.Cb,H.AA.Fo,H.AA.Ji,H.AA.Bk,H.AA.C5,H.AA.DM,H.AA.BH,H.AA.F_,Cl,Ae]at*);simpa using h.nmd,fun x hx=> ?_,?_,fun m hm=> ?_,h.tF,h.Aq,h.Vp,h.Ar,h.iP⟩
 ·grind[holds,Ae,Ov]
 ·(try simp only[H.AA.Bd,H.AA.lost,H.AA.BQ,H.AA.trim,H.AA.AO,H.AA.Cg,H.AA.Aq,H.AA.Ar,H.AA.JG,H.AA.Cb,H.AA.Fo,H.AA.Ji,H.AA.Bk,H.AA.C5,H.AA.DM,H.AA.BH,H.AA.F_,Cl,Ae]at*);simp only[ASf]at hi
  simp only[vW hn2];split
  ·exact⟨iK.nil,fun _=>rfl⟩
  ·rename_i jt
   refine⟨(h.Bd i hi).1,fun hl=>(h.Bd i hi).2 ?_⟩;grind[AC5]
 ·obtain⟨y,hy,rfl⟩:=ATM.1 hx
  have hy':=h.AO y hy;refine⟨(iy hy'.1).1,?_⟩;simp_all
 ·(try simp only[H.AA.Bd,H.AA.lost,H.AA.BQ,H.AA.trim,H.AA.AO,H.AA.Cg,H.AA.Aq,H.AA.Ar,H.AA.JG,H.AA.Cb,H.AA.Fo,H.AA.Ji,H.AA.Bk,H.AA.C5,H.AA.DM,H.AA.BH,H.AA.F_,Cl,Ae]at*);simp only[Ze,ATs]
  refine List.Pairwise.imp_of_mem (fun{a b} ha hb yi=> ?_) h.l8;simp_all
 ·obtain⟨y,hy,rfl⟩:=ATM.1 hm
  have hy':=h.Cg y hy;obtain⟨k1,k2⟩:=zJ (n:=n) hy'.1;refine⟨k1,?_⟩;simp_all
theorem AM4{n:Int}(e:(PF w n).2=0):RS (PF w n).1:=by
 unfold PF at*;split at e
 ·omega
 rename_i h1;rw[ALj h1];simp only at e|-;split at e
 ·omega
 rename_i h2;rw[ALj h2];simp only[AO7,APF]at h1 h2;obtain⟨s1,s2,s3,s4⟩:=AJY h2;rw[List.contains_eq_mem,AM7]at h1;have hnn:=(FF.1 h.lost).2.1 n h1;have hns:=h.y7;have hn2:n.toNat<w.Bd.length:=by
  have:n<(w.1.length:Int):=hnn.2;omega
 refine⟨h.cfg,by grind,UX _ h.lost,?_,fun i hi=> ?_,h.wW,h.zy,h.nmd,h.AO,h.l8,h.Cg,h.tF,h.Aq,h.Vp,h.Ar,h.iP⟩
 ·refine .inr ?_
  rw[ATQ];intro hh
  replace hh:holds (Ae w) (less w.lost [n])=true:=hh
  have:=xO (m:=w.lost) hh h.lost fun x hx=>(ATe.1 hx).1
  simp_all
 ·(try simp only[H.AA.Bd,H.AA.lost,H.AA.BQ,H.AA.trim,H.AA.AO,H.AA.Cg,H.AA.Aq,H.AA.Ar,H.AA.JG,H.AA.Cb,H.AA.Fo,H.AA.Ji,H.AA.Bk,H.AA.C5,H.AA.DM,H.AA.BH,H.AA.F_,Cl,Ae]at*);simp only[ASf]at hi
  simp only[vW hn2];split
  ·grind[wR,List.mem_singleton]
  ·exact⟨(h.Bd i hi).1,fun hl=>(h.Bd i hi).2 (wR.1 hl).1⟩
theorem ANQ(e:(O_ w).2=0):RS (O_ w).1:=by
 unfold O_ at*;split at e
 ·omega
 rename_i h1;rw[ALj h1];split at e
 ·omega
 rename_i h2;rw[ALj h2];simp only[AR1,AM7,AWw]at h1;obtain⟨k,k1,k2,k3,k4⟩:=UU h.wW (by show 0<w.BQ.length;omega);have k1':k<w.BQ.length:=k1;have gg:BX w.BQ=(k:Int)+1:=k2;have hn:w.BQ.length<=30:=h.wW.n;refine⟨h.cfg,h.y7,h.lost,h.JG,h.Bd,h.wW,h.zy,by(try simp only[H.AA.Bd,H.AA.lost,H.AA.BQ,H.AA.trim,H.AA.AO,H.AA.Cg,H.AA.Aq,H.AA.Ar,H.AA.JG,H.AA.Cb,H.AA.Fo,H.AA.Ji,H.AA.Bk,H.AA.C5,H.AA.DM,H.AA.BH,H.AA.F_,Cl,Ae]at*);simp,h.AO,h.l8,fun m hm=> ?_,h.tF,h.Aq,h.Vp,h.Ar,h.iP⟩
 replace hm:m∈[vJ (BX w.BQ) w.BQ.length]:=hm
 simp only[AQC]at hm;subst hm;refine⟨⟨h.cfg,?_,?_,dh h.cfg,List.Pairwise.nil,by simp[vJ],by simp[vJ],rfl⟩,rfl,rfl⟩
 ·show 1<=BX w.BQ/\BX w.BQ<=30
  omega
 ·show BX w.BQ+1<=(w.BQ.length:Int)/\(w.BQ.length:Int)<=30
  omega
theorem AMf{n:Int}(e:(O8 w n).2=0):RS (O8 w n).1:=by
 unfold O8 at*;split at e
 ·omega
 rename_i m ms hm;simp only at e|-;split at e
 ·omega
 rename_i h1;rw[ALj h1];split at e
 ·omega
 rename_i h2;rw[ALj h2];split at e
 ·omega
 rename_i h3;rw[ALj h3];simp only[ne_eq,AU9]at h1;simp only[AR1,AWw,AO7,APF]at h3;obtain⟨s1,s2,s3⟩:=qB h3.1;obtain⟨m1,m2,m3,m4⟩:=sd h3.2;have hw:=h.xm h1 s2;have hm1:=h.nmd;rw[hm]at hm1;refine⟨h.cfg,hw.y7,h.lost,h.JG,hw.Bd,h.wW,h.zy,by omega,h.AO,h.l8,fun x hx=> ?_,h.tF,h.Aq,h.Vp,h.Ar,h.iP⟩;rcases AO3.1 hx with rfl|hx
 ·have:=h.Cg m (by simp_all)
  refine⟨m2,?_⟩;simp_all
 simp_all
theorem ANm(e:(Oy w).2=0):RS (Oy w).1:=by
 unfold Oy at*;split at e
 ·omega
 rename_i m ms hm;simp only at e|-;split at e
 ·omega
 rename_i h3;rw[ALj h3];simp only[AO7,APF]at h3;obtain⟨m1,m2,m3,m4,m5⟩:=tf h3;have hm1:=h.nmd;rw[hm]at hm1;refine⟨h.cfg,h.y7,h.lost,h.JG,h.Bd,h.wW,h.zy,by omega,h.AO,h.l8,fun x hx=> ?_,h.tF,h.Aq,h.Vp,h.Ar,h.iP⟩;rcases AO3.1 hx with rfl|hx
 ·have:=h.Cg m (by simp_all)
  refine⟨m2,?_⟩;simp_all
 simp_all
theorem AQ3{b n:Int}(e:(WV w b n).2=0):RS (WV w b n).1:=by
 unfold WV at*;split at e
 ·omega
 rename_i m ms hm;split at e
 ·omega
 rename_i x hx;split at e
 ·omega
 rename_i h1;rw[ALj h1];split at e
 ·omega
 rename_i h2;rw[ALj h2];grind[pK,kv]
theorem AK1(e:(Kv w).2=0):RS (Kv w).1:=by
 unfold Kv at*;split at e
 ·omega
 rename_i m ms hm;split at e
 ·omega
 rename_i h1;rw[ALj h1];simp only at e|-;split at e
 ·omega
 rename_i h2;rw[ALj h2];simp only[AO7,APF]at h2;obtain⟨r0,r1,k,k1,k2,k3,k4,k5,k6,k7,k8⟩:=sr h2;rw[k6]at r1;rw[k6];have hl:(Qt (Cl w).1 k (m.2.2.2.2.2.1.length:Int)).length=w.BQ.length:=by simp[Qt,Cl]
 refine⟨h.cfg,h.y7,h.lost,h.JG,h.Bd,r1,h.zy,by(try simp only[H.AA.Bd,H.AA.lost,H.AA.BQ,H.AA.trim,H.AA.AO,H.AA.Cg,H.AA.Aq,H.AA.Ar,H.AA.JG,H.AA.Cb,H.AA.Fo,H.AA.Ji,H.AA.Bk,H.AA.C5,H.AA.DM,H.AA.BH,H.AA.F_,Cl,Ae]at*);simp,fun x hx=> ?_,h.l8,fun x hx=>by grind,h.tF,h.Aq,h.Vp,fun x hx=> ?_,h.iP⟩
 ·(try simp only[H.AA.Bd,H.AA.lost,H.AA.BQ,H.AA.trim,H.AA.AO,H.AA.Cg,H.AA.Aq,H.AA.Ar,H.AA.JG,H.AA.Cb,H.AA.Fo,H.AA.Ji,H.AA.Bk,H.AA.C5,H.AA.DM,H.AA.BH,H.AA.F_,Cl,Ae]at*);simp only[hl];exact h.AO x hx
 ·(try simp only[H.AA.Bd,H.AA.lost,H.AA.BQ,H.AA.trim,H.AA.AO,H.AA.Cg,H.AA.Aq,H.AA.Ar,H.AA.JG,H.AA.Cb,H.AA.Fo,H.AA.Ji,H.AA.Bk,H.AA.C5,H.AA.DM,H.AA.BH,H.AA.F_,Cl,Ae]at*);simp only[hl];exact h.Ar x hx
theorem AKh{a:Int}(e:(Rf w a).2=0):RS (Rf w a).1:=by
 unfold Rf at*;simp only at e|-;split at e
 ·omega
 rename_i h2;rw[ALj h2];simp only[AO7,APF]at h2;obtain⟨r0,r1,r2⟩:=yM h2;rw[r2]at r1;rw[r2];exact⟨h.cfg,h.y7,h.lost,h.JG,h.Bd,r1,h.zy,h.nmd,h.AO,h.l8,h.Cg,h.tF,h.Aq,h.Vp,h.Ar,h.iP⟩
theorem ANe{a k:Int}(e:(MO w a k).2=0):RS (MO w a k).1:=by
 unfold MO at*;split at e
 ·omega
 rename_i h1;rw[ALj h1];simp only at e|-;split at e
 ·omega
 rename_i h2;rw[ALj h2];simp only[ne_eq,AU9]at h2;refine⟨h.cfg,h.y7,h.lost,h.JG,h.Bd,h.wW,h.zy,h.nmd,h.AO,h.l8,h.Cg,by(try simp only[H.AA.Bd,H.AA.lost,H.AA.BQ,H.AA.trim,H.AA.AO,H.AA.Cg,H.AA.Aq,H.AA.Ar,H.AA.JG,H.AA.Cb,H.AA.Fo,H.AA.Ji,H.AA.Bk,H.AA.C5,H.AA.DM,H.AA.BH,H.AA.F_,Cl,Ae]at*);simpa using h.tF,fun r hr=> ?_,h.Vp,h.Ar,h.iP⟩;rcases AQO hr with hr|rfl
 ·exact h.Aq r hr
 ·exact yZ h2
theorem AMU{a:Int}(e:(Qu w a).2=0):RS (Qu w a).1:=by
 unfold Qu at*;split at e
 ·omega
 rename_i h1;rw[ALj h1];have hs:(w.AO.eraseIdx a.toNat).Sublist w.AO:=List.eraseIdx_sublist _ _;exact⟨h.cfg,h.y7,h.lost,h.JG,h.Bd,h.wW,APf hs.length_le h.zy,h.nmd,fun x hx=>h.AO x (hs.subset hx),h.l8.sublist hs,h.Cg,h.tF,h.Aq,h.Vp,h.Ar,h.iP⟩
theorem ANH{all:Bool}{d:Am}(hd:d.2.2.2.2.1.length<=40)(e:(PJ all w d).2=0):RS (PJ all w d).1:=by
 unfold PJ at*;by_cases hc:d.1=1
 ·rw[ALi hc]at e|-;exact AMB h e
 rw[ALj hc]at e|-;clear hc;by_cases hc:d.1=2
 ·rw[ALi hc]at e|-;exact AQg h hd e
 rw[ALj hc]at e|-;clear hc;by_cases hc:d.1=3
 ·rw[ALi hc]at e|-;exact ALI h e
 rw[ALj hc]at e|-;clear hc;by_cases hc:d.1=4
 ·rw[ALi hc]at e|-;exact ANX h e
 rw[ALj hc]at e|-;clear hc;by_cases hc:d.1=5
 ·rw[ALi hc]at e|-;exact AKC h e
 rw[ALj hc]at e|-;clear hc;by_cases hc:d.1=6
 ·rw[ALi hc]at e|-;exact ANv h e
 rw[ALj hc]at e|-;clear hc;by_cases hc:d.1=7
 ·rw[ALi hc]at e|-;exact AM4 h e
 rw[ALj hc]at e|-;clear hc;by_cases hc:d.1=8
 ·rw[ALi hc]at e|-;exact ANQ h e
 rw[ALj hc]at e|-;clear hc;by_cases hc:d.1=9
 ·rw[ALi hc]at e|-;exact AMf h e
 rw[ALj hc]at e|-;clear hc;by_cases hc:d.1=10
 ·rw[ALi hc]at e|-;exact ANm h e
 rw[ALj hc]at e|-;clear hc;by_cases hc:d.1=11
 ·rw[ALi hc]at e|-;exact AQ3 h e
 rw[ALj hc]at e|-;clear hc;by_cases hc:d.1=12
 ·rw[ALi hc]at e|-;exact AK1 h e
 rw[ALj hc]at e|-;clear hc;by_cases hc:d.1=13
 ·rw[ALi hc]at e|-;exact AKh h e
 rw[ALj hc]at e|-;clear hc;by_cases hc:d.1=14
 ·rw[ALi hc]at e|-;exact ANe h e
 rw[ALj hc]at e|-;clear hc;by_cases hc:d.1=15
 ·rw[ALi hc]at e|-;exact AMU h e
 rw[ALj hc]at e|-;grind[ALL]
end
theorem nV{d:Am}(h:Gl d=true):d.2.2.2.2.1.length<=40:=by
 unfold Gl at h;simp_all
theorem AFD{all:Bool}{w:AA}{d:Am}(e:(DJ all w d).2=0):Cx (DJ all w d).1=true:=by
 unfold DJ at*;split at e
 ·omega
 rename_i h1;rw[ALj h1];have hw:Cx w=true:=by
  simp_all
 have hd:Gl d=true:=by
  simp_all
 grind[Gu,ANH,nV]
theorem AGW{α:Type}{f:α->Nat}{B:Nat}:∀{l:List α},(∀x∈l,f x<=B)->Aa f l<=l.length*(1+B)
 |[],_=>by simp[Aa]
 |x::l,h=>by
  have h1:=h x (by simp);have h2:=AGW (l:=l) fun y hy=>h y (by simp[hy])
  grind[Aa,List.length_cons,Nat.add_mul]
theorem GM{α:Type}{f:α->Nat}{B N:Nat}{l:List α}(hn:l.length<=N)(h:∀x∈l,f x<=B):Aa f l<=N*(1+B):=
 APf (AGW h) (AOV _ hn)
theorem ABJ{α:Type}{f:α->Int}{b:Int}:∀{l:List α} {a:Int},Ze f l->(∀x∈l,a<=f x/\f x<b)->(l.length:Int)<=max (b-a) 0
 |[],a,_,_=>by grind
 |x::l,a,h,hb=>by
  simp only[Ze,AP5]at h;have h1:=hb x (by simp);have h2:=ABJ (l:=l) (a:=f x+1) h.2 fun y hy=>⟨by grind,(hb y (by simp[hy])).2⟩
  grind
theorem Il{c:Ca}{l:AAO}(h:BI c l=true):l.length<=8:=by
 obtain⟨h1,h2,h3⟩:=FF.1 h;have:=(Em h1).2.1;have:=ABJ (a:=0) (b:=c.1.length) h3 h2;omega
theorem Hy{p:Int}(h:Az p=true):Bi p:=by
 obtain⟨h1,h2,h3⟩:=Hn h;grind[Hr,Bi]
theorem iK.w{s:AL}(h:iK s):Al s<=10000:=by
 have h1:=GM (f:=Ag) (B:=40) h.nk fun e he=>(Gz.1 (h.kept e he)).len
 have h2:=GM (f:=Ag) (B:=40) h.nl fun e he=>(Gz.1 (h.late e he)).len
 unfold Al;omega
theorem iK.sin{s:AL}(h:iK s):pr s:=
 ⟨fun e he=>Hy (Gz.1 (h.kept e he)).pl,fun e he=>Hy (Gz.1 (h.late e he)).pl⟩
theorem qK.AWo{c:Ca}{m:BA}(h:qK c m):m.2.2.2.1.length<=60:=by
 have:=ABJ (f:=fun e:AH=>e.1) (a:=Hr m.2.1 1) (b:=Hr m.2.1 61) h.asc fun e he=>by
  have h1:=h.seen e he;have h2:=Hn (Gz.1 h1.1).pl;grind[Hr]
 grind[Hr]
theorem qK.w{c:Ca}{m:BA}(h:qK c m):CK m<=5000:=by
 have h1:=GM (f:=Ag) (B:=40) h.AWo fun e he=>(Gz.1 (h.seen e he).1).len
 have h2:=Il h.sld;have h3:m.2.2.2.2.2.1.length<=60:=by
  have:=h.n;have hb:=IW (l:=m.2.2.2.1);omega
 have h4:=GM (f:=Cw) (B:=8) h3 fun l hl=>Il (h.wrote l hl)
 unfold CK;omega
theorem qK.ein{c:Ca}{m:BA}(h:qK c m):mF m.2.2.2.1:=fun e he=>Hy (Gz.1 (h.seen e he).1).pl
theorem ROk.w{c:Ca}{r:AK}(h:ROk c r):Aa Bm r.1<=270:=by
 have:=GM (f:=Bm) (B:=8) h.n fun e he=>Il (YF (h.BQ e he).1)
 omega
theorem ROk.tin{c:Ca}{r:AK}(h:ROk c r):Bi r.2.1:=by
 rcases h.trim with h|h
 all_goals grind[Bi,Hy]
theorem iX.w{c:Ca}{w:AM}(h:iX c w):An w<=3000:=by
 have:=GM (f:=Aw) (B:=48) h.n fun x hx=>by
  have h1:=h.words x hx;grind[Il,Aw]
 unfold An;omega
def RdS(w:AA):Prop:= ∀r∈w.Aq,∀e∈r.2.2.1,e.2.2.1.length<=40
theorem RS.f_{w:AA}(h:RS w){s:AL}(hs:s∈w.Bd):iK s:=by
 obtain⟨i,hi,rfl⟩:=AQD hs;have:=(h.Bd i hi).1;simp_all
theorem RS.win{w:AA}(h:RS w)(hr:RdS w):mq w:=by
 have hc:=(Em h.cfg).2.1;have jy:w.1.length<=8:=hc;have a1:=GM (f:=Al) (B:=10000) (N:=8) (l:=w.Bd) (by rw[h.y7];omega) fun s hs=>(h.f_ hs).w
 have a2:=Il h.lost;have a3:=h.wW.w;have a4:=GM (f:=An) (B:=3000) h.zy fun x hx=>(h.AO x hx).1.w
 have a5:=GM (f:=CK) (B:=5000) h.nmd fun x hx=>(h.Cg x hx).1.w
 have a6:=GM (f:=BG) (B:=5000) (N:=2) (l:=w.Aq) (by rw[h.tF];omega) fun r hx=>by
  have:=GM (f:=Bp) (B:=40) (h.Aq r hx).n (hr r hx);unfold BG;omega
 have a7:=GM (f:=Dt) (B:=40) h.Vp fun s hs=>(h.Ar s hs).2.2
 refine⟨?_,fun s hs=>(h.f_ hs).sin,h.wW.tin,fun m hm=>(h.Cg m hm).1.ein,fun s hs=>Hy (h.Ar s hs).1⟩;have a3':Aa Bm w.BQ<=270:=a3;grind[Ck]
theorem zx:∀i,i<8->([0,1,2,3,4,5,6,7]:AAO).drop i=(i:Int)::([0,1,2,3,4,5,6,7]:AAO).drop (i+1):=by decide
theorem dQ{k:Int}:QH k=some (((),()),(Bf k,())):=by
 unfold QH Yh Bf;rcases ALh (BJ k 0 255)with hk|hk
 rotate_left
 ·rw[hk]
  obtain⟨m,hm⟩:∃m,AU=m+1:=⟨AU-1,by have:=AZ (n:=0) (by omega);omega⟩;rw[hm];simp only[I6,Ql,BU,AD,hk,AB];rfl
 rw[hk,ALi rfl];have hk':=Ao.1 hk;have key:∀(n i:Nat) (b:AAO),i<=8->8-i<n->b.length<=i->
   I6 n k i b=some (((),()),(b++(([0,1,2,3,4,5,6,7]:AAO).drop i).filter (fun i=>(k/2^i.toNat)%2==1),())):=by
  intro n
  induction n with
  |zero=>omega
  |succ n ih=>
   intro i b hi h hb;simp only[I6,Ql,BU,AD,hk,AMs,AB];by_cases Ds:i<8
   ·have AH9:=AA0 (k:=k) (i:=i) (by omega) (by omega)
    rw[ALi (show(i:Int)<8 by omega),ALj (by omega),AMn,AH9,zx i Ds,ARP,AMn,As (i:=i) (by omega),AB];have c2:b.length+1<=C7:=by rw[Ak];omega
    by_cases hb':(k/2^i)%2=1
    ·rw[ALi hb',ALi c2,ALi (by simp_all),ih (i+1) _ (by omega) (by omega) (by simp_all),ANZ]
     rfl
    grind
   ·have:i=8:=by omega
    simp_all
 have:=key AU 0 [] (by omega) (AZ (by omega)) (by simp);simp_all
theorem ke{d:Am}:YP d=some ((Gl d,()),()):=by
 obtain⟨k,a,b,n,t,⟨⟩⟩:=d;unfold YP Gl;rw[BU];simp only[AD];rcases ALh (BJ k 1 16)with hk|hk
 rotate_left
 ·simp_all
 have hk':=Ao.1 hk;rw[hk];have dl:decide ((t.length:Int)<=40)=decide (t.length<=40):=by
  grind
 have:k=1\/k=2\/k=3\/k=4\/k=5\/k=6\/k=7\/k=8\/k=9\/k=10\/k=11\/k=12\/k=13\/k=14\/k=15\/k=16:=by omega
 rcases this with h|h|h|h|h|h|h|h|h|h|h|h|h|h|h|h<;>subst h<;>simp only[AMs,dl]<;>clear dl hk hk'<;>
  (unfold fW;simp[aJ];cases a==0<;>cases b==0<;>cases n==0<;>cases t.isEmpty<;>rfl)
theorem np{w:AM}(hl:w.2.1.length<=2^20):ZP w=some (((gJ w.2.1:Int),()),()):=by
 have key:∀(n i:Nat),i<=w.2.1.length->w.2.1.length-i<n->
   KX n i w.1 w.2.1=some ((((i+gJ (w.2.1.drop i):Nat):Int),()),()):=by
  intro n
  induction n with
  |zero=>omega
  |succ n ih=>
   intro i hi h;simp only[KX,V7,AB];by_cases Ds:i<w.2.1.length
   ·have c1:(0:Int)<=(i:Int)/\(i:Int)<(w.2.1.length:Int):=by omega
    rw[ALi c1.2,ALi c1,Af Ds,As (i:=i) (by omega),ih (i+1) (by omega) (by omega),drop_cons Ds];simp only[gJ];cases w.2.1[i].2.2.1 with
    |false=>simp
    |true=>grind
   ·rw[ALj (by omega),ANG (by omega)]
    rfl
 have:=key AU 0 (by omega) (AZ (by omega));rw[AS9,AQR]at this;exact this
theorem JF{w:AA}{n:Int}(h1:w.Bd.length<=2^20)(h2:w.lost.length<=2^20):IQ w n=some ((Ay w n,()),()):=by
 unfold IQ Ay
 (try simp only[H.AA.Bd,H.AA.lost,H.AA.BQ,H.AA.trim,H.AA.AO,H.AA.Cg,H.AA.Aq,H.AA.Ar,H.AA.JG,H.AA.Cb,H.AA.Fo,H.AA.Ji,H.AA.Bk,H.AA.C5,H.AA.DM,H.AA.BH,H.AA.F_,Cl,Ae]at*)
 rw[Ab (by omega),BU,Lo (by omega)];grind
theorem Us{w:AA}{n:Int}(h1:w.AO.length<=2^20):Ms w n=some ((BJ n 0 ((w.AO.length:Int)-1),()),()):=by
 grind[Ms,ZR,BU]
theorem vu{w:AA}{e:Int}(hl:Aa An w.AO<=2^20):ko w e=some ((ku w e,()),()):=by
 have hll:=AR (f:=An) (l:=w.AO);have key:∀(n i:Nat),i<=w.AO.length->w.AO.length-i<n->
   P9 n e i w.1 w.2.1 w.2.2.1 w.2.2.2.1 w.2.2.2.2.1 w.2.2.2.2.2.1 w.AO w.2.2.2.2.2.2.2.1 w.2.2.2.2.2.2.2.2.1 w.2.2.2.2.2.2.2.2.2.1 w.2.2.2.2.2.2.2.2.2.2.1=
    some (((match(w.AO.drop i).find? (fun x=>x.1==e)with|some x=>(gJ x.2.1:Int)|none=>0),()),()):=by
  intro n
  induction n with
  |zero=>omega
  |succ n ih=>
   intro i hi h;simp only[P9,eJ,AB];by_cases Ds:i<w.AO.length
   ·have c1:(0:Int)<=(i:Int)/\(i:Int)<(w.AO.length:Int):=by omega
    rw[ALi c1.2,ALi c1,ALi c1,Af Ds,As (i:=i) (by omega),ih (i+1) (by omega) (by omega),drop_cons Ds,AUZ,DE (w.AO[i])];have hm:=AY (f:=An) (AM9 Ds);have hw:An w.AO[i]=Aa Aw w.AO[i].2.1:=rfl;have hlw:=AR (f:=Aw) (l:=w.AO[i].2.1);rw[np (by omega)];cases(w.AO[i].1==e)<;>rfl
   grind
 have:=key AU 0 (by omega) (AZ (by omega));rw[AQR]at this;exact this
theorem oE{w:AA}{r:Ac}{k:Int}(h1:Aa Al w.Bd<=2^20)(h2:w.lost.length<=2^20)(hr1: -1000<=r.1/\r.1<=1000)(hr2: -1000<=r.2.1/\r.2.1<=1000):
  Sv w r k=some (((),()),(answers w (Hr r.1 r.2.1) (Bf k),())):=by
 have hsl:=AR (f:=Al) (l:=w.Bd);have zU:(Bf k).length<=8:=by
  unfold Bf;split
  ·exact APf (APg _ _) (by simp)
  ·simp
 have key:∀(n i:Nat) (b:List BL),i<=(Bf k).length->(Bf k).length-i<n->b.length<=i->
   KZ n i w.1 w.2.1 w.2.2.1 w.2.2.2.1 w.2.2.2.2.1 w.2.2.2.2.2.1 w.2.2.2.2.2.2.1 w.2.2.2.2.2.2.2.1 w.2.2.2.2.2.2.2.2.1 w.2.2.2.2.2.2.2.2.2.1 w.2.2.2.2.2.2.2.2.2.2.1 r.1 r.2.1 r.2.2.1 b (Bf k)=
    some (((),()),(b++answers w (Hr r.1 r.2.1) ((Bf k).drop i),())):=by
  intro n
  induction n with
  |zero=>omega
  |succ n ih=>
   intro i b hi h hb;simp only[KZ,WW,AB];by_cases Ds:i<(Bf k).length
   ·have c1:(0:Int)<=(i:Int)/\(i:Int)<((Bf k).length:Int):=by omega
    have c2:b.length+1<=C7:=by rw[Ak];omega
    rw[ALi c1.2,ALi c1,Af Ds,Fa w,JF (by omega) h2,As (i:=i) (by omega),drop_cons Ds];simp only[AD,C9,answers,ARP];by_cases hn:Ay w (Bf k)[i]=0
    ·obtain⟨n1,n2,n3⟩:=SO hn
     have hs1:((Bf k)[i]).toNat<w.2.2.1.length:=by simp_all
     rw[ALi hn,ALi c1,ALi ⟨n1,n2⟩,Gc hr1 hr2];simp only[AD];have fU:w.2.2.1.getD ((Bf k)[i]).toNat ([],[],0,())=storeAt w (Bf k)[i]:=rfl;have hsm:Al (storeAt w (Bf k)[i])<=2^20:=APf (AY (f:=Al) (BN (d:=EZ) hs1)) h1;rw[fU,XY (Gi (by omega)).1];simp only[AD];rw[ALi c1,ALi c2,ih (i+1) _ (by omega) (by omega) (by simp_all),ALi (by simp_all),ATU,ANZ];have:((Bf k)[i],(Qm (Hr r.1 r.2.1) (storeAt w (Bf k)[i]).1).isSome,((Qm (Hr r.1 r.2.1) (storeAt w (Bf k)[i]).1).getD D_).1,((Qm (Hr r.1 r.2.1) (storeAt w (Bf k)[i]).1).getD D_).2.1,((Qm (Hr r.1 r.2.1) (storeAt w (Bf k)[i]).1).getD D_).2.2.1,((Qm (Hr r.1 r.2.1) (storeAt w (Bf k)[i]).1).getD D_).2.2.2.1,())=answer w (Hr r.1 r.2.1) (Bf k)[i]:=by
      grind[answer,Qm,Hr,storeAt,Bf]
     rw[this];rfl
    ·rw[ALj hn,ih (i+1) _ (by omega) (by omega) (by omega),ALj (by simp_all)]
     rfl
   ·rw[ALj (by omega),ANG (by omega)]
    simp[answers]
 have:=key AU 0 [] (by omega) (AZ (by omega)) (by simp);grind[Sv,WE,dQ]
section
variable{w:AA} (h:mq w)
include h
theorem AM1:∀(n i:Nat) (Hi:List AL) (Iy:List AM) (KK:List BA) (L8:List Ac),i<=w.2.2.2.2.2.2.2.2.1.length->w.2.2.2.2.2.2.2.2.1.length-i<n->L8.length<=i->
  B7 n i w.1 w.2.1 w.2.2.1 w.2.2.2.1 w.2.2.2.2.1 w.2.2.2.2.2.1 w.2.2.2.2.2.2.1 w.2.2.2.2.2.2.2.1 w.2.2.2.2.2.2.2.2.1 w.2.2.2.2.2.2.2.2.2.1 w.2.2.2.2.2.2.2.2.2.2.1 0 0 false [] [] [] [] [] [] [] [] w.2.1 w.2.2.2.2.2.1 w.2.2.2.2.2.2.2.2.2.2.1 w.1 Hi w.2.2.2.1 w.2.2.2.2.1 Iy KK L8 w.2.2.2.2.2.2.2.2.2.1=some ((((),w.2.1,(),(),(),w.2.2.2.2.2.1,(),(),(),(),w.2.2.2.2.2.2.2.2.2.2.1,()),()),(w.1,Hi,w.2.2.2.1,w.2.2.2.2.1,Iy,KK,(L8++w.2.2.2.2.2.2.2.2.1.drop i),w.2.2.2.2.2.2.2.2.2.1,())):=by
 have lx:=h.MX;have hl:=h.lens;intro n
 induction n with
 |zero=>omega
 |succ n ih=>
  intro i Hi Iy KK L8 hi hn hb;simp only[B7,Rb,XN,AB];by_cases Ds:i<w.2.2.2.2.2.2.2.2.1.length
  ·have c1:(0:Int)<=(i:Int)/\(i:Int)<(w.2.2.2.2.2.2.2.2.1.length:Int):=by omega
   have c2:L8.length+1<=C7:=by rw[Ak];omega
   rw[ALi c1.2,ALi c1,Af Ds,As (i:=i) (by omega),drop_cons Ds];have hm:=AY (f:=BG) (AM9 Ds);have hw:BG w.2.2.2.2.2.2.2.2.1[i]=Aa Bp w.2.2.2.2.2.2.2.2.1[i].2.2.1:=rfl;have hlw:=AR (f:=Bp) (l:=w.2.2.2.2.2.2.2.2.1[i].2.2.1);rw[PG (w.2.2.2.2.2.2.2.2.1[i]),ZL (by omega)];simp only[AD];rw[ALi c2,ih (i+1) _ _ _ _ (by omega) (by omega) (by simp_all),ANZ];rfl
  grind
theorem ALz:∀(n i:Nat) (Hi:List AL) (Iy:List AM) (KK:List BA),i<=w.2.2.2.2.2.2.2.1.length->(w.2.2.2.2.2.2.2.1.length-i)+w.2.2.2.2.2.2.2.2.1.length+2<=n->KK.length<=i->
  B8 n i w.1 w.2.1 w.2.2.1 w.2.2.2.1 w.2.2.2.2.1 w.2.2.2.2.2.1 w.2.2.2.2.2.2.1 w.2.2.2.2.2.2.2.1 w.2.2.2.2.2.2.2.2.1 w.2.2.2.2.2.2.2.2.2.1 w.2.2.2.2.2.2.2.2.2.2.1 0 0 false [] [] [] [] [] [] [] [] w.2.1 w.2.2.2.2.2.1 w.2.2.2.2.2.2.2.2.2.2.1 w.1 Hi w.2.2.2.1 w.2.2.2.2.1 Iy KK [] w.2.2.2.2.2.2.2.2.2.1=some ((((),w.2.1,(),(),(),w.2.2.2.2.2.1,(),(),(),(),w.2.2.2.2.2.2.2.2.2.2.1,()),()),(w.1,Hi,w.2.2.2.1,w.2.2.2.2.1,Iy,(KK++w.2.2.2.2.2.2.2.1.drop i),w.2.2.2.2.2.2.2.2.1,w.2.2.2.2.2.2.2.2.2.1,())):=by
 have lx:=h.MX;have hl:=h.lens;intro n
 induction n with
 |zero=>omega
 |succ n ih=>
  intro i Hi Iy KK hi hn hb;simp only[B8,RV,XJ,AB];by_cases Ds:i<w.2.2.2.2.2.2.2.1.length
  ·have c1:(0:Int)<=(i:Int)/\(i:Int)<(w.2.2.2.2.2.2.2.1.length:Int):=by omega
   have c2:KK.length+1<=C7:=by rw[Ak];omega
   rw[ALi c1.2,ALi c1,Af Ds,As (i:=i) (by omega),drop_cons Ds];have hm:=AY (f:=CK) (AM9 Ds);rw[V1 (w.2.2.2.2.2.2.2.1[i]),MJ (by omega)];simp only[AD];rw[ALi c2,ih (i+1) _ _ _ (by omega) (by omega) (by simp_all),ANZ];rfl
  ·have:=AM1 h n 0 Hi Iy KK [] (by omega) (by omega) (by simp)
   grind
theorem AQE:∀(n i:Nat) (Hi:List AL) (Iy:List AM),i<=w.2.2.2.2.2.2.1.length->(w.2.2.2.2.2.2.1.length-i)+w.2.2.2.2.2.2.2.1.length+w.2.2.2.2.2.2.2.2.1.length+3<=n->Iy.length<=i->
  CW n i w.1 w.2.1 w.2.2.1 w.2.2.2.1 w.2.2.2.2.1 w.2.2.2.2.2.1 w.2.2.2.2.2.2.1 w.2.2.2.2.2.2.2.1 w.2.2.2.2.2.2.2.2.1 w.2.2.2.2.2.2.2.2.2.1 w.2.2.2.2.2.2.2.2.2.2.1 0 0 false [] [] [] [] [] [] [] [] w.2.1 w.2.2.2.2.2.1 w.2.2.2.2.2.2.2.2.2.2.1 w.1 Hi w.2.2.2.1 w.2.2.2.2.1 Iy [] [] w.2.2.2.2.2.2.2.2.2.1=some ((((),w.2.1,(),(),(),w.2.2.2.2.2.1,(),(),(),(),w.2.2.2.2.2.2.2.2.2.2.1,()),()),(w.1,Hi,w.2.2.2.1,w.2.2.2.2.1,(Iy++w.2.2.2.2.2.2.1.drop i),w.2.2.2.2.2.2.2.1,w.2.2.2.2.2.2.2.2.1,w.2.2.2.2.2.2.2.2.2.1,())):=by
 have lx:=h.MX;have hl:=h.lens;intro n
 induction n with
 |zero=>omega
 |succ n ih=>
  intro i Hi Iy hi hn hb;simp only[CW,TV,ZJ,AB];by_cases Ds:i<w.2.2.2.2.2.2.1.length
  ·have c1:(0:Int)<=(i:Int)/\(i:Int)<(w.2.2.2.2.2.2.1.length:Int):=by omega
   have c2:Iy.length+1<=C7:=by rw[Ak];omega
   rw[ALi c1.2,ALi c1,Af Ds,As (i:=i) (by omega),drop_cons Ds];have hm:=AY (f:=An) (AM9 Ds);have hw:An w.2.2.2.2.2.2.1[i]=Aa Aw w.2.2.2.2.2.2.1[i].2.1:=rfl;rw[DE (w.2.2.2.2.2.2.1[i]),Vy (by omega)];simp only[AD];rw[ALi c2,ih (i+1) _ _ (by omega) (by omega) (by simp_all),ANZ];rfl
  ·have:=ALz h n 0 Hi Iy [] (by omega) (by omega) (by simp)
   grind
theorem ATH:∀(n i:Nat) (Hi:List AL),i<=w.2.2.1.length->(w.2.2.1.length-i)+w.2.2.2.2.2.2.1.length+w.2.2.2.2.2.2.2.1.length+w.2.2.2.2.2.2.2.2.1.length+4<=n->Hi.length<=i->
  CV n i w.1 w.2.1 w.2.2.1 w.2.2.2.1 w.2.2.2.2.1 w.2.2.2.2.2.1 w.2.2.2.2.2.2.1 w.2.2.2.2.2.2.2.1 w.2.2.2.2.2.2.2.2.1 w.2.2.2.2.2.2.2.2.2.1 w.2.2.2.2.2.2.2.2.2.2.1 0 0 false [] [] [] [] [] [] [] [] w.2.1 w.2.2.2.2.2.1 w.2.2.2.2.2.2.2.2.2.2.1 w.1 Hi w.2.2.2.1 w.2.2.2.2.1 [] [] [] w.2.2.2.2.2.2.2.2.2.1=some ((((),w.2.1,(),(),(),w.2.2.2.2.2.1,(),(),(),(),w.2.2.2.2.2.2.2.2.2.2.1,()),()),(w.1,(Hi++w.2.2.1.drop i),w.2.2.2.1,w.2.2.2.2.1,w.2.2.2.2.2.2.1,w.2.2.2.2.2.2.2.1,w.2.2.2.2.2.2.2.2.1,w.2.2.2.2.2.2.2.2.2.1,())):=by
 have lx:=h.MX;have hl:=h.lens;intro n
 induction n with
 |zero=>omega
 |succ n ih=>
  intro i Hi hi hn hb;simp only[CV,S6,Yy,AB];by_cases Ds:i<w.2.2.1.length
  ·have c1:(0:Int)<=(i:Int)/\(i:Int)<(w.2.2.1.length:Int):=by omega
   have c2:Hi.length+1<=C7:=by rw[Ak];omega
   rw[ALi c1.2,ALi c1,Af Ds,As (i:=i) (by omega),drop_cons Ds];have hm:=AY (f:=Al) (AM9 Ds);have hw:=Gi (s:=w.2.2.1[i]) (by omega);rw[PG (w.2.2.1[i]),QE hw.1 hw.2];simp only[AD];rw[ALi c2,ih (i+1) _ (by omega) (by omega) (by simp_all),ANZ];rfl
  ·have:=AQE h n 0 Hi [] (by omega) (by omega) (by simp)
   grind
theorem ZW:NU w=some ((((),w.2.1,(),(),(),w.2.2.2.2.2.1,(),(),(),(),w.2.2.2.2.2.2.2.2.2.2.1,()),()),(w.1,w.2.2.1,w.2.2.2.1,w.2.2.2.2.1,w.2.2.2.2.2.2.1,w.2.2.2.2.2.2.2.1,w.2.2.2.2.2.2.2.2.1,w.2.2.2.2.2.2.2.2.2.1,())):=by
 have lx:=h.MX;have hl:=h.lens;unfold NU TY ZV;have:=ATH h AU 0 [] (by omega) (ATW (AZ (by omega))) (by simp);rw[show((0:Nat):Int)=0 from rfl,AQH,AQR]at this;rw[ALi (by rw[Ak];omega),ALi (by rw[Ak];omega),show(w.2.2.2.2.1,w.2.2.2.2.2.1,())=(Cl w)from rfl,U_ (by show Aa Bm w.2.2.2.2.1<=_;omega)];simp only[AD];rw[ALi (by rw[Ak];omega)];exact this
end
def pkD(q:AA×Int):jB:=(((((),q.1.2.1,(),(),(),q.1.2.2.2.2.2.1,(),(),(),(),q.1.2.2.2.2.2.2.2.2.2.2.1,()),q.2,()),()),(q.1.1,q.1.2.2.1,q.1.2.2.2.1,q.1.2.2.2.2.1,q.1.2.2.2.2.2.2.1,q.1.2.2.2.2.2.2.2.1,q.1.2.2.2.2.2.2.2.2.1,q.1.2.2.2.2.2.2.2.2.2.1,()))
def AQ6(q:AA×Int):kG:=(((((),q.1.2.1,(),(),(),q.1.2.2.2.2.2.1,(),(),(),(),q.1.2.2.2.2.2.2.2.2.2.2.1,()),q.2,()),()),(q.1.1,q.1.2.2.1,q.1.2.2.2.1,(),(),(),q.1.2.2.2.2.2.2.2.2.1,q.1.2.2.2.2.2.2.2.2.2.1,q.1.2.2.2.2.1,q.1.2.2.2.2.2.2.1,q.1.2.2.2.2.2.2.2.1,()))
def AKS(q:AA×Int):Oo:=(((((),q.1.2.1,(),(),(),q.1.2.2.2.2.2.1,(),(),(),(),q.1.2.2.2.2.2.2.2.2.2.2.1,()),q.2,()),()),(q.1.1,q.1.2.2.1,q.1.2.2.2.1,q.1.2.2.2.2.1,q.1.2.2.2.2.2.2.1,q.1.2.2.2.2.2.2.2.1,q.1.2.2.2.2.2.2.2.2.1,(),q.1.2.2.2.2.2.2.2.2.2.1,()))
def AAq(q:AA×Int):Mo:=(((((),q.1.2.1,(),(),(),q.1.2.2.2.2.2.1,(),(),(),(),q.1.2.2.2.2.2.2.2.2.2.2.1,()),q.2,()),()),(q.1.1,q.1.2.2.1,(),q.1.2.2.2.2.1,q.1.2.2.2.2.2.2.1,q.1.2.2.2.2.2.2.2.1,q.1.2.2.2.2.2.2.2.2.1,q.1.2.2.2.2.2.2.2.2.2.1,q.1.2.2.2.1,()))
def AQe(q:AA×Int):lO:=(((((),q.1.2.1,(),(),(),q.1.2.2.2.2.2.1,(),(),(),(),q.1.2.2.2.2.2.2.2.2.2.2.1,()),q.2,()),()),(q.1.1,q.1.2.2.1,q.1.2.2.2.1,q.1.2.2.2.2.1,q.1.2.2.2.2.2.2.1,(),q.1.2.2.2.2.2.2.2.2.1,q.1.2.2.2.2.2.2.2.2.2.1,q.1.2.2.2.2.2.2.2.1,()))
def ALp(q:AA×Int):jC:=(((((),q.1.2.1,(),(),(),q.1.2.2.2.2.2.1,(),(),(),(),q.1.2.2.2.2.2.2.2.2.2.2.1,()),q.2,()),()),(q.1.1,q.1.2.2.1,q.1.2.2.2.1,(),q.1.2.2.2.2.2.2.1,(),q.1.2.2.2.2.2.2.2.2.1,q.1.2.2.2.2.2.2.2.2.2.1,q.1.2.2.2.2.1,q.1.2.2.2.2.2.2.2.1,()))
def AJ3(q:AA×Int):Uo:=(((((),q.1.2.1,(),(),(),q.1.2.2.2.2.2.1,(),(),(),(),q.1.2.2.2.2.2.2.2.2.2.2.1,()),q.2,()),()),(q.1.1,q.1.2.2.1,q.1.2.2.2.1,q.1.2.2.2.2.1,(),q.1.2.2.2.2.2.2.2.1,q.1.2.2.2.2.2.2.2.2.1,q.1.2.2.2.2.2.2.2.2.2.1,q.1.2.2.2.2.2.2.1,()))
def AQ0(q:AA×Int):qF:=(((((),q.1.2.1,(),(),(),q.1.2.2.2.2.2.1,(),(),(),(),q.1.2.2.2.2.2.2.2.2.2.2.1,()),q.2,()),()),(q.1.1,q.1.2.2.1,(),(),(),(),q.1.2.2.2.2.2.2.2.2.1,(),q.1.2.2.2.1,q.1.2.2.2.2.1,q.1.2.2.2.2.2.2.1,q.1.2.2.2.2.2.2.2.1,q.1.2.2.2.2.2.2.2.2.2.1,()))
theorem Gk{α:Type}{x y:α}:(if(!true)=true then x else y)=y:=rfl
theorem Jm{α:Type}{x y:α}:(if(!false)=true then x else y)=x:=rfl
structure AYv (w:AA):Prop where
 c:w.1.length<=8
 st:w.2.2.1.length=w.1.length
 lost:w.2.2.2.1.length<=8
 era:Aa Bm w.2.2.2.2.1<=270
 AFo:w.2.2.2.2.1.length<=30
 trim:Bi w.2.2.2.2.2.1
 wr:w.2.2.2.2.2.2.1.length<=4
 md:w.2.2.2.2.2.2.2.1.length<=1
 rd:w.2.2.2.2.2.2.2.2.1.length=2
 se:w.2.2.2.2.2.2.2.2.2.1.length<=120
 ws:Aa Al w.2.2.1<=80008
 ww:Aa An w.2.2.2.2.2.2.1<=12004
 wr':w.AO.length<=4
 st':w.Bd.length=w.1.length
 jh:w.lost.length<=8
theorem RS.nums{w:AA}(h:RS w):AYv w where
 c:=(Em h.cfg).2.1
 st:=h.y7
 lost:=Il h.lost
 era:=h.wW.w
 AFo:=h.wW.n
 trim:=h.wW.tin
 wr:=h.zy
 md:=h.nmd
 rd:=h.tF
 se:=h.Vp
 ws:=by
  have:=GM (f:=Al) (B:=10000) (N:=8) (l:=w.Bd) (by rw[h.y7];exact(Em h.cfg).2.1) fun s hs=>(h.f_ hs).w
  omega
 ww:=by
  have:=GM (f:=An) (B:=3000) h.zy fun x hx=>(h.AO x hx).1.w
  omega
 wr':=h.zy
 st':=h.y7
 jh:=Il h.lost
section
variable{w:AA} (h:RS w)
include h
theorem RS.kP{a:Int}(ha:BJ a 0 ((w.AO.length:Int)-1)=true):(0<=a/\a<(w.2.2.2.2.2.2.1.length:Int))/\iX (Ae w) (w.AO.getD a.toNat CN)/\Aa Aw (w.AO.getD a.toNat CN).2.1<=3000:=by
 have:=Ao.1 ha;have hi:a.toNat<w.AO.length:=by omega
 have hx:=(h.AO _ (BN (d:=CN) hi)).1;refine⟨?_,hx,hx.w⟩
 (try simp only[H.AA.Bd,H.AA.lost,H.AA.BQ,H.AA.trim,H.AA.AO,H.AA.Cg,H.AA.Aq,H.AA.Ar,H.AA.JG,H.AA.Cb,H.AA.Fo,H.AA.Ji,H.AA.Bk,H.AA.C5,H.AA.DM,H.AA.BH,H.AA.F_,Cl,Ae]at*)
 omega
theorem HN{e:Int}:(Br (Cl w).1 e).length<=8:=by
 unfold Br;split
 ·rename_i he
  have he':=Ao.1 he;exact Il (YF (h.wW.BQ _ (BN (d:=Hu) (by omega))).1)
 ·simp
theorem ue{d:Am}:aa w.2.1 w.2.2.2.2.2.1 w.2.2.2.2.2.2.2.2.2.2.1 d w.1 w.2.2.1 w.2.2.2.1 w.2.2.2.2.1 w.2.2.2.2.2.2.1 w.2.2.2.2.2.2.2.1 w.2.2.2.2.2.2.2.2.1 w.2.2.2.2.2.2.2.2.2.1=some (AQ6 (O6 w d.2.1)):=by
 have k:=h.nums;have k1:=k.c;have k2:=k.wr;unfold aa O6;rw[De];by_cases h4:w.2.2.2.2.2.2.1.length=4
 ·rw[ALi (by omega),ALi h4];rfl
 have hm:(Bf d.2.1).length<=8:=by
  unfold Bf;split
  ·exact APf (APg _ _) (by simp)
  ·simp
 rw[ALj (by omega),ALj h4,dQ];simp only[AD];rw[show(w.1,w.2.1,())=Ae w from rfl,show(w.2.2.2.2.1,w.2.2.2.2.2.1,())=Cl w from rfl,jE (c:=Ae w) (r:=Cl w) (by show w.1.length<=_;omega) (by have:=k.era;show Aa Bm w.2.2.2.2.1<=_;omega) k.trim (by omega)];simp only[AD,Ap];rcases ALh (JZ (Ae w) (Cl w) (Bf d.2.1)).2.2 with hq|hq
 ·rw[hq,ALi (by rw[Ak];omega),Gk];rfl
 ·rw[hq,Jm];rfl
theorem r8{d:Am}:Xb w.2.1 w.2.2.2.2.2.1 w.2.2.2.2.2.2.2.2.2.2.1 d w.1 w.2.2.1 w.2.2.2.1 w.2.2.2.2.1 w.2.2.2.2.2.2.1 w.2.2.2.2.2.2.2.1 w.2.2.2.2.2.2.2.2.1 w.2.2.2.2.2.2.2.2.2.1=some (pkD (K3 w d.2.1 d.2.2.1 d.2.2.2.1)):=by
 obtain⟨k1,k4,k3,k5,_,_,k2,_,_,_,_,_,gg,qM,oH⟩:=h.nums;unfold Xb K3;rw[Fa w,Us (by omega),JF (by omega) (by omega)];simp only[AD,Ap,C9];rcases ALh (BJ d.2.1 0 ((w.AO.length:Int)-1))with h1|h1
 rotate_left
 ·rw[h1,Jm];rfl
 obtain⟨x1,x2,x3⟩:=h.kP h1;rw[h1,AMs,Gk,ALi x1,BU];simp only[AD]
 generalize hx:w.AO.getD d.2.1.toNat CN=x at*
 rcases ALh (BJ d.2.2.1 1 (x.2.1.length:Int))with h2|h2
 rotate_left
 ·rw[h2,Jm];rfl
 have h2':=Ao.1 h2;rw[h2,AMs,Gk];by_cases h3:Ay w d.2.2.2.1=0
 rotate_left
 ·rw[ALj h3,ALi h3];rfl
 rw[ALi h3,ALj (show¬(Ay w d.2.2.2.1≠0)from fun hh=>hh h3)];obtain⟨n1,n2,n3⟩:=SO h3;have n2':d.2.2.2.1<(w.2.2.1.length:Int):=n2;have hxl:=x2.n;have hxe:=x2.ep;rw[show(w.2.2.2.2.1,w.2.2.2.2.2.1,())=Cl w from rfl,Fh (r:=Cl w) (by show Aa Bm w.2.2.2.2.1<=_;omega)];have Xj:(Br w.BQ x.1).length<=8:=HN h;have hr:0<=d.2.2.2.1/\d.2.2.2.1<(w.2.2.1.length:Int):=⟨n1,n2'⟩;rw[show(Cl w).1=w.BQ from rfl];simp only[AD,ALi hr];rw[Lo (by omega),Ab (by omega),ALi (by omega),Gc (by omega) (by omega)];simp only[AD];have fU:w.2.2.1.getD d.2.2.2.1.toNat ([],[],0,())=storeAt w d.2.2.2.1:=rfl;have hso:=h.store h3;have hpl:=J9 (e:=x.1) (o:=d.2.2.1) hxe (by omega);rw[fU,show((storeAt w d.2.2.2.1).1,(storeAt w d.2.2.2.1).2.1,(storeAt w d.2.2.2.1).2.2.1,())=storeAt w d.2.2.2.1 from rfl,Wi (by have:=hso.w;omega) hso.sin (Hy hpl.1)];simp only[AD,oG,putAt];rcases ALh ((Br w.BQ x.1).contains d.2.2.2.1)with h5|h5
 rotate_left
 ·rw[h5,Jm];rfl
 rw[h5,Gk,AMs];have hwd:(x.2.1.getD (d.2.2.1-1).toNat ([],[],false,()))=x.2.1.getD (d.2.2.1-1).toNat NQ:=rfl;rw[hwd];rcases ALh (Ht (storeAt w d.2.2.2.1) (Hr x.1 d.2.2.1,0,false,(x.2.1.getD (d.2.2.1-1).toNat NQ).1,())).2 with h6|h6
 rotate_left
 ·rw[h6];rfl
 rw[h6,AMs,ALi rfl];rfl
end
theorem ln{α:Type}{f:α->Nat}{p:α->Bool}:∀{l:List α},Aa f (l.filter p)<=Aa f l
 |[]=>AOd _
 |x::l=>by
  have:=ln (f:=f) (p:=p) (l:=l);grind[Aa]
theorem w_{s:AL}{u:Int}(hs:iK s):iK (B6 s u).1:=by
 rcases ALh (B6 s u).2 with hq|hq
 ·exact(qB hq).2.1
 ·have:(B6 s u).1=s:=by
   unfold B6 at*;rw[Da.2 hs]at*;grind
  simp_all
section
variable{w:AA} (h:RS w)
include h
theorem RS.Mz{n:Int}(hn:Ay w n=0):(0<=n/\n<(w.2.2.1.length:Int))/\Al (storeAt w n)<=2^30/\pr (storeAt w n)/\iK (storeAt w n):=by
 obtain⟨n1,n2,n3⟩:=SO hn;have:=(h.store hn).w;exact⟨⟨n1,n2⟩,by omega,(h.store hn).sin,h.store hn⟩
theorem re{d:Am}:XX w.2.1 w.2.2.2.2.2.1 w.2.2.2.2.2.2.2.2.2.2.1 d w.1 w.2.2.1 w.2.2.2.1 w.2.2.2.2.1 w.2.2.2.2.2.2.1 w.2.2.2.2.2.2.2.1 w.2.2.2.2.2.2.2.2.1 w.2.2.2.2.2.2.2.2.2.1=some (pkD (if d.1=16 then Kz w d.2.1 else K0 w d.2.1 d.2.2.1)):=by
 have k:=h.nums;have k1:=k.c;have k2:=k.wr;have k3:=k.lost;have k4:=k.st;have gg:=k.wr';have oH:=k.jh;have qM:=k.st';have k5:=k.era;unfold XX Kz K0;rw[Fa w,JF (by omega) (by omega)];simp only[AD,Ap,C9,De];by_cases h3:Ay w d.2.1=0
 rotate_left
 ·rw[ALj h3]
  by_cases h16:d.1=16
  ·rw[ALi h16,ALi h3];rfl
  ·rw[ALj h16,ALi h3];rfl
 obtain⟨hr,s1,s2,s3⟩:=h.Mz h3;have fU:w.2.2.1.getD d.2.1.toNat ([],[],0,())=storeAt w d.2.1:=rfl;have hn3: ¬(Ay w d.2.1≠0):=fun hh=>hh h3
 rw[ALi h3];simp only[ALi hr,fU,ALj hn3];rw[show((storeAt w d.2.1).1,(storeAt w d.2.1).2.1,(storeAt w d.2.1).2.2.1,())=storeAt w d.2.1 from rfl,cr s1 s2,qC s1 s2 k.trim];simp only[AD,oG,putAt];by_cases h16:d.1=16
 ·rw[ALi h16,ALi h16]
  rcases ALh (J5 (storeAt w d.2.1) w.2.2.2.2.2.1).2 with h6|h6
  ·rw[h6];rfl
  ·rw[h6];rfl
 ·rw[ALj h16,ALj h16]
  rcases ALh (Gn (storeAt w d.2.1) d.2.2.1).2 with h6|h6
  ·rw[h6];rfl
  ·rw[h6];rfl
theorem uN{d:Am}:an w.2.1 w.2.2.2.2.2.1 w.2.2.2.2.2.2.2.2.2.2.1 d w.1 w.2.2.1 w.2.2.2.1 w.2.2.2.2.1 w.2.2.2.2.2.2.1 w.2.2.2.2.2.2.2.1 w.2.2.2.2.2.2.2.2.1 w.2.2.2.2.2.2.2.2.2.1=some (AAq (PF w d.2.1)):=by
 have k:=h.nums;have k1:=k.c;have k2:=k.wr;have k3:=k.lost;have k4:=k.st;have gg:=k.wr';have oH:=k.jh;have qM:=k.st';have k5:=k.era;have k6:=k.ws;have k6':Aa Al w.Bd<=80008:=k.ws;have k7:=k.AFo;unfold an PF;rw[Lo (by omega)];simp only[AD,Ap];rcases ALh (w.2.2.2.1.contains d.2.1)with h1|h1
 rotate_left
 ·rw[h1];rfl
 rw[h1,Gk,AMs,Ab (by omega),J0];simp only[AD];rw[show(w.1,w.2.1,())=Ae w from rfl,ABj (c:=Ae w) (by show w.1.length<=_;omega) (by omega) (fun s hs=>by have:=(h.f_ hs).nk;omega) (by omega) (fun s hs=>(h.f_ hs).sin) (by omega)];simp only[AD,pkF];rcases ALh (fk (Ae w) w.2.2.1 w.2.2.2.1 d.2.1 (max ((w.2.2.2.2.1.length:Int)-1) 0)).2 with h2|h2
 rotate_left
 ·rw[h2];rfl
 have hm:d.2.1∈w.lost:=by
  simp_all
 have hn:=(FF.1 h.lost).2.1 d.2.1 hm;have hn':d.2.1<(w.1.length:Int):=hn.2;rw[h2,AMs,Gk,ALi (show 0<=d.2.1/\d.2.1<(w.2.2.1.length:Int)from⟨hn.1,by omega⟩),Km (by omega) (by simp)];rfl
theorem ux:aX w.2.1 w.2.2.2.2.2.1 w.2.2.2.2.2.2.2.2.2.2.1 w.1 w.2.2.1 w.2.2.2.1 w.2.2.2.2.1 w.2.2.2.2.2.2.1 w.2.2.2.2.2.2.2.1 w.2.2.2.2.2.2.2.2.1 w.2.2.2.2.2.2.2.2.2.1=some (AQe (O_ w)):=by
 obtain⟨k1,k4,k3,k5,k7,_,k2,_,_,_,_,_,gg,qM,oH⟩:=h.nums;unfold aX O_;rw[show(w.2.2.2.2.1,w.2.2.2.2.2.1,())=Cl w from rfl,PY (r:=Cl w) (by show w.2.2.2.2.1.length<=_;omega)];simp only[AD,De,AB];rw[show(Cl w).1=w.BQ from rfl];by_cases h1:(w.2.2.2.2.1.length:Int)<2
 ·rw[ALi h1,show(decide ((w.2.2.2.2.1.length:Int)<2)||decide (BX w.2.2.2.2.1=(w.2.2.2.2.1.length:Int)))=true by simp_all];rfl
 rw[ALj h1];by_cases h2:BX w.2.2.2.2.1=(w.2.2.2.2.1.length:Int)
 ·rw[ALi h2,show(decide ((w.2.2.2.2.1.length:Int)<2)||decide (BX w.2.2.2.2.1=(w.2.2.2.2.1.length:Int)))=true by simp_all];rfl
 rw[ALj h2,show(decide ((w.2.2.2.2.1.length:Int)<2)||decide (BX w.2.2.2.2.1=(w.2.2.2.2.1.length:Int)))=false by simp_all];rw[ALj (show¬(false=true)by simp)];by_cases h3:w.2.2.2.2.2.2.2.1.length>0
 ·rw[ALi (by omega),ALi h3];rfl
 ·rw[ALj (by omega),ALj h3];rfl
theorem uQ{d:Am}:aY w.2.1 w.2.2.2.2.2.1 w.2.2.2.2.2.2.2.2.2.2.1 d w.1 w.2.2.1 w.2.2.2.1 w.2.2.2.2.1 w.2.2.2.2.2.2.1 w.2.2.2.2.2.2.2.1 w.2.2.2.2.2.2.2.2.1 w.2.2.2.2.2.2.2.2.2.1=some (pkD (O8 w d.2.1)):=by
 obtain⟨k1,k4,k3,k5,_,_,k2,_,_,_,_,_,gg,qM,oH⟩:=h.nums;unfold aY O8;rcases hm:w.Cg with _|⟨m,ms⟩
 ·rw[De,ALi (by simp_all)];rfl
 have uE:w.2.2.2.2.2.2.2.1=m::ms:=hm;have zU:w.2.2.2.2.2.2.2.1.length=ms.length+1:=by simp_all
 have g0:w.2.2.2.2.2.2.2.1.getD 0 (0,0,[],[],false,[],())=m:=by simp_all
 have hr0:(0:Int)<=(0:Int)/\(0:Int)<(w.2.2.2.2.2.2.2.1.length:Int):=by omega
 have ef:=(h.Cg m (by simp_all)).1;have hmw:=ef.w;have hme:=ef.ep;have hmb:=ef.b;simp only[De,Ap,C9,ALi hr0,g0];rw[ALj (by omega)];rw[Fa w,JF (by omega) (by omega),show(w.2.2.2.2.1,w.2.2.2.2.2.1,())=Cl w from rfl,Fh (r:=Cl w) (by show Aa Bm w.2.2.2.2.1<=_;omega)];have Xj:(Br w.BQ m.2.1).length<=8:=HN h;rw[show(Cl w).1=w.BQ from rfl];simp only[AD];rw[Lo (by omega)];simp only[AD];by_cases h3:Ay w d.2.1=0
 rotate_left
 ·rw[ALj h3,ALi h3];rfl
 obtain⟨hr,s1,s2,s3⟩:=h.Mz h3;have fU:w.2.2.1.getD d.2.1.toNat ([],[],0,())=storeAt w d.2.1:=rfl;have hn3: ¬(Ay w d.2.1≠0):=fun hh=>hh h3
 rw[ALi h3,ALj hn3];simp only[ALi hr,fU];rcases ALh ((Br w.BQ m.2.1).contains d.2.1)with h5|h5
 rotate_left
 ·rw[h5,Jm];rfl
 rw[h5,Gk,AMs,Ab (by omega),show((storeAt w d.2.1).1,(storeAt w d.2.1).2.1,(storeAt w d.2.1).2.2.1,())=storeAt w d.2.1 from rfl,dZ s1 s2];have hq:=w_ (u:=m.1-1) s3;have hqw:=hq.w;simp only[AD,oG];rw[show((B6 (storeAt w d.2.1) (m.1-1)).1.1,(B6 (storeAt w d.2.1) (m.1-1)).1.2.1,(B6 (storeAt w d.2.1) (m.1-1)).1.2.2.1,())=(B6 (storeAt w d.2.1) (m.1-1)).1 from rfl,gS (by omega) hq.sin];simp only[AD];have hes:(HL (B6 (storeAt w d.2.1) (m.1-1)).1 m.2.1).length<=200/\mF (HL (B6 (storeAt w d.2.1) (m.1-1)).1 m.2.1)/\Aa Ag (HL (B6 (storeAt w d.2.1) (m.1-1)).1 m.2.1)<=10000:=by
  unfold HL;rw[Da.2 hq,ALi rfl];refine⟨APf (APg _ _) hq.nk,fun e he=>hq.sin.1 e (ATe.1 he).1,APf ln ?_⟩;have:Al (B6 (storeAt w d.2.1) (m.1-1)).1=Aa Ag (B6 (storeAt w d.2.1) (m.1-1)).1.1+Aa Ag (B6 (storeAt w d.2.1) (m.1-1)).1.2.1:=rfl;omega
 rw[V1 m,show(w.1,w.2.1,())=Ae w from rfl,fi (c:=Ae w) (by show w.1.length<=_;omega) (by omega) ef.ein (by omega) hes.2.1 (by omega)];simp only[AD,mQ];rcases ALh (B6 (storeAt w d.2.1) (m.1-1)).2 with h6|h6
 rotate_left
 ·rw[h6,APP,AVs,ALi rfl];rfl
 rw[h6,AL9,APU];rcases ALh (P6 (Ae w) m d.2.1 (HL (B6 (storeAt w d.2.1) (m.1-1)).1 m.2.1)).2 with h7|h7
 rotate_left
 ·rw[h7,Jm];rfl
 rw[h7,Gk,AMs,AMs,uE];rfl
theorem tq:aQ w.2.1 w.2.2.2.2.2.1 w.2.2.2.2.2.2.2.2.2.2.1 w.1 w.2.2.1 w.2.2.2.1 w.2.2.2.2.1 w.2.2.2.2.2.2.1 w.2.2.2.2.2.2.2.1 w.2.2.2.2.2.2.2.2.1 w.2.2.2.2.2.2.2.2.2.1=some (pkD (Oy w)):=by
 obtain⟨k1,k4,k3,k5,_,_,k2,_,_,_,_,_,gg,qM,oH⟩:=h.nums;unfold aQ Oy;rcases hm:w.Cg with _|⟨m,ms⟩
 ·rw[De,ALi (by simp_all)];rfl
 have uE:w.2.2.2.2.2.2.2.1=m::ms:=hm;have zU:w.2.2.2.2.2.2.2.1.length=ms.length+1:=by simp_all
 have g0:w.2.2.2.2.2.2.2.1.getD 0 (0,0,[],[],false,[],())=m:=by simp_all
 have hr0:(0:Int)<=(0:Int)/\(0:Int)<(w.2.2.2.2.2.2.2.1.length:Int):=by omega
 have ef:=(h.Cg m (by simp_all)).1;have hmw:=ef.w;have hme:=ef.ep;have hmb:=ef.b;simp only[De,Ap,C9,ALi hr0,g0];rw[ALj (by omega)];rw[show(w.2.2.2.2.1,w.2.2.2.2.2.1,())=Cl w from rfl,Fh (r:=Cl w) (by show Aa Bm w.2.2.2.2.1<=_;omega)];have Xj:(Br w.BQ m.2.1).length<=8:=HN h;rw[show(Cl w).1=w.BQ from rfl];simp only[AD];rw[V1 m,show(w.1,w.2.1,())=Ae w from rfl,gE (c:=Ae w) (by show w.1.length<=_;omega) (by omega) ef.ein (by omega)];simp only[AD,mQ];rcases ALh (Me (Ae w) m (Br w.BQ m.2.1)).2 with h7|h7
 rotate_left
 ·rw[h7,Jm];rfl
 rw[h7,Gk,AMs,uE];rfl
theorem xG{d:Am}:eR w.2.1 w.2.2.2.2.2.1 w.2.2.2.2.2.2.2.2.2.2.1 d w.1 w.2.2.1 w.2.2.2.1 w.2.2.2.2.1 w.2.2.2.2.2.2.1 w.2.2.2.2.2.2.2.1 w.2.2.2.2.2.2.2.2.1 w.2.2.2.2.2.2.2.2.2.1=some (pkD (WV w d.2.2.1 d.2.2.2.1)):=by
 obtain⟨k1,k4,k3,k5,_,_,k2,_,_,_,_,_,gg,qM,oH⟩:=h.nums;unfold eR WV;rcases hm:w.Cg with _|⟨m,ms⟩
 ·rw[De,ALi (by simp_all)];rfl
 have uE:w.2.2.2.2.2.2.2.1=m::ms:=hm;have zU:w.2.2.2.2.2.2.2.1.length=ms.length+1:=by simp_all
 have g0:w.2.2.2.2.2.2.2.1.getD 0 (0,0,[],[],false,[],())=m:=by simp_all
 have hr0:(0:Int)<=(0:Int)/\(0:Int)<(w.2.2.2.2.2.2.2.1.length:Int):=by omega
 have ef:=(h.Cg m (by simp_all)).1;have hmw:=ef.w;have hme:=ef.ep;have hmb:=ef.b;simp only[De,Ap,C9,ALi hr0,g0];rw[ALj (by omega)];rw[V1 m,eH (m:=m) (by omega),Fa w,JF (by omega) (by omega),show(w.2.2.2.2.1,w.2.2.2.2.2.1,())=Cl w from rfl,Fh (r:=Cl w) (by show Aa Bm w.2.2.2.2.1<=_;omega)];have Xj:(Br w.BQ m.2.1).length<=8:=HN h;rw[show(Cl w).1=w.BQ from rfl];simp only[AD];rw[Lo (by omega)];simp only[AD];have RW:∀e,Ec m d.2.2.1=some e->Bi e.1:=fun e he=>by
  unfold Ec at he;split at he
  ·rename_i hc
   simp only[AL8,Ao]at hc;grind[J9,Hy]
  simp_all
 cases he:Ec m d.2.2.1 with
 |none=>rfl
 |some e=>
 simp only[AQv,AMs,ARc];by_cases h3:Ay w d.2.2.2.1=0
 rotate_left
 ·rw[ALj h3,ALi h3];rfl
 obtain⟨hr,s1,s2,s3⟩:=h.Mz h3;have fU:w.2.2.1.getD d.2.2.2.1.toNat ([],[],0,())=storeAt w d.2.2.2.1:=rfl;have hn3: ¬(Ay w d.2.2.2.1≠0):=fun hh=>hh h3
 rw[ALi h3,ALj hn3];simp only[ALi hr,fU];rcases ALh ((Br w.BQ m.2.1).contains d.2.2.2.1)with h5|h5
 rotate_left
 ·rw[h5,Jm];rfl
 rw[h5,Gk,AMs,show((storeAt w d.2.2.2.1).1,(storeAt w d.2.2.2.1).2.1,(storeAt w d.2.2.2.1).2.2.1,())=storeAt w d.2.2.2.1 from rfl,gm e,Wi s1 s2 (RW e he)];simp only[AD,oG,putAt];rcases ALh (Ht (storeAt w d.2.2.2.1) e).2 with h6|h6
 ·rw[h6];rfl
 ·rw[h6];rfl
theorem qx:Xc w.2.1 w.2.2.2.2.2.1 w.2.2.2.2.2.2.2.2.2.2.1 w.1 w.2.2.1 w.2.2.2.1 w.2.2.2.2.1 w.2.2.2.2.2.2.1 w.2.2.2.2.2.2.2.1 w.2.2.2.2.2.2.2.2.1 w.2.2.2.2.2.2.2.2.2.1=some (ALp (Kv w)):=by
 have k:=h.nums;have k1:=k.c;have k2:=k.wr;have k3:=k.lost;have k4:=k.st;have gg:=k.wr';have oH:=k.jh;have qM:=k.st';have k5:=k.era;unfold Xc Kv;rcases hm:w.Cg with _|⟨m,ms⟩
 ·rw[De,ALi (by simp_all)];rfl
 have uE:w.2.2.2.2.2.2.2.1=m::ms:=hm;have zU:w.2.2.2.2.2.2.2.1.length=ms.length+1:=by simp_all
 have g0:w.2.2.2.2.2.2.2.1.getD 0 (0,0,[],[],false,[],())=m:=by simp_all
 have hr0:(0:Int)<=(0:Int)/\(0:Int)<(w.2.2.2.2.2.2.2.1.length:Int):=by omega
 have ef:=(h.Cg m (by simp_all)).1;have hmw:=ef.w;have hme:=ef.ep;have hmb:=ef.b;simp only[De,Ap,C9,ALi hr0,g0];rw[ALj (by omega)];rw[V1 m,show(w.1,w.2.1,())=Ae w from rfl,pE (c:=Ae w) (by show w.1.length<=_;omega) (by omega) ef.ein];simp only[AD];rcases ALh (Wm (Ae w) m)with h5|h5
 rotate_left
 ·rw[h5,Jm];rfl
 rw[h5,Gk,AMs,show(w.2.2.2.2.1,w.2.2.2.2.2.1,())=Cl w from rfl,fc (c:=Ae w) (r:=Cl w) (by show w.1.length<=_;omega) (by show Aa Bm w.2.2.2.2.1<=_;omega) k.trim];simp only[AD,pkR];rcases ALh (OH (Ae w) (Cl w) m.1 m.2.2.2.2.2.1.length).2 with h6|h6
 ·rw[h6];rfl
 ·rw[h6];rfl
theorem uB{d:Am}:aW w.2.1 w.2.2.2.2.2.1 w.2.2.2.2.2.2.2.2.2.2.1 d w.1 w.2.2.1 w.2.2.2.1 w.2.2.2.2.1 w.2.2.2.2.2.2.1 w.2.2.2.2.2.2.2.1 w.2.2.2.2.2.2.2.2.1 w.2.2.2.2.2.2.2.2.2.1=some (pkD (MO w d.2.1 d.2.2.1)):=by
 have k:=h.nums;have k1:=k.c;have k2:=k.wr;have k3:=k.lost;have k4:=k.st;have gg:=k.wr';have oH:=k.jh;have qM:=k.st';have k5:=k.era;have k6:=k.ws;have k6':Aa Al w.Bd<=80008:=k.ws;have k7:=k.ww;have k8:=k.rd;unfold aW MO;rw[BU];simp only[AD,Ap,C9];rcases ALh (BJ d.2.1 0 1)with h1|h1
 rotate_left
 ·rw[h1];rfl
 have h1':=Ao.1 h1;have hr:0<=d.2.1/\d.2.1<(w.2.2.2.2.2.2.2.2.1.length:Int):=by omega
 have JN:d.2.1.toNat<w.Aq.length:=by
  simp_all
 have dC:=h.Aq _ (BN (d:=AX) JN);simp only[ALi hr];rw[h1,Gk,AMs,Fa w]
 generalize hx:w.Aq.getD d.2.1.toNat AX=r at*
 have hre:=dC.ep;have hro:=dC.off;rw[vu (by grind),PG r,oE (by omega) (by omega) (by omega) (by omega)];simp only[AD];have ha:∀a∈answers w (Hr r.1 r.2.1) (Bf d.2.2.1),Bi a.2.2.1:=fun a ha=>by
  unfold answers at ha;obtain⟨n,hn,rfl⟩:=ATM.1 ha;have hn':Ay w n=0:=by simp_all
  unfold answer;split
  ·rename_i e he
   have:=(h.store hn').kept e (ATv he);exact Hy (Gz.1 this).pl
  ·exact⟨by simp_all,by simp_all⟩
 have hal:(answers w (Hr r.1 r.2.1) (Bf d.2.2.1)).length<=8:=by
  unfold answers;rw[ATS];refine APf (APg _ _) ?_
  unfold Bf;split
  ·exact APf (APg _ _) (by simp)
  ·simp
 rw[show(w.1,w.2.1,())=Ae w from rfl,show(w.2.2.2.2.1,w.2.2.2.2.2.1,())=Cl w from rfl,nI (c:=Ae w) (g:=Cl w) (by show w.1.length<=_;omega) (by show Aa Bm w.2.2.2.2.1<=_;omega) k.trim (by omega) ha];simp only[AD,AEU];by_cases h2:(Dq (Ae w) (Cl w) (ku w r.1) r (answers w (Hr r.1 r.2.1) (Bf d.2.2.1))).2=0
 ·rw[ALi h2,ALj (fun hh=>hh h2)];rfl
 ·rw[ALj h2,ALi h2];rfl
end
section
variable{w:AA} (h:RS w)
include h
theorem ARS{ws:List AM}{s:Aj}:∀(n i:Nat) (t:Bool) (b:List Aj),i<=w.2.2.2.2.2.2.2.2.2.1.length->w.2.2.2.2.2.2.2.2.2.1.length-i<n->b.length<=2*i+2->
  LD n t i w.1 w.2.2.1 w.2.2.2.1 w.2.2.2.2.1 ws w.2.2.2.2.2.2.2.1 w.2.2.2.2.2.2.2.2.1 w.2.2.2.2.2.2.2.2.2.1 w.2.1 w.2.2.2.2.2.1 w.2.2.2.2.2.2.2.2.2.2.1 0 0 false [] [] [] [] [] [] [] [] s.1 s.2.1 s.2.2.1 b=some (AKS (((w.Bk ws).BH (b++(if t then w.2.2.2.2.2.2.2.2.2.1.drop i else ew s (w.2.2.2.2.2.2.2.2.2.1.drop i)))),0)):=by
 have k6:=h.nums.se;intro n
 induction n with
 |zero=>omega
 |succ n ih=>
  intro i t b hi hn hb;simp only[LD,bg,AB,Ap];have c2:b.length+1<=C7:=by rw[Ak];omega
  by_cases Ds:i<w.2.2.2.2.2.2.2.2.2.1.length
  ·have c1:(0:Int)<=(i:Int)/\(i:Int)<(w.2.2.2.2.2.2.2.2.2.1.length:Int):=by omega
   have c3:(b++[(s.1,s.2.1,s.2.2.1,())]).length+1<=C7:=by grind[Ak]
   rw[ALi c1.2];simp only[ALi c1,ALi c2,ALi c3];rw[Af Ds,As (i:=i) (by omega),drop_cons Ds,PG (w.2.2.2.2.2.2.2.2.2.1[i])];cases t with
   |true=>
    rw[AMs,ih (i+1) true _ (by omega) (by omega) (by grind),ALi rfl,ALi rfl,ANZ];rfl
   |false=>
    rw[ALm,ALj (show¬(false=true)by simp)];simp only[ew];by_cases hg:w.2.2.2.2.2.2.2.2.2.1[i].1>s.1
    ·rw[ALi hg,ALi hg,ih (i+1) true _ (by omega) (by omega) (by grind),ALi rfl,ANZ,ANZ]
     rfl
    ·rw[ALj hg,ALj hg,ih (i+1) false _ (by omega) (by omega) (by grind),ALj (show¬(false=true)by simp),ANZ]
     rfl
  ·rw[ALj (by omega),ANG (by omega)]
   cases t with
   |true=>rw[AMs,ALi rfl,ANV];rfl
   |false=>rw[ALm,ALi c2];rfl
theorem AVv{ws:List AM}{s:Aj}:∀(n i:Nat),i<=w.2.2.2.2.2.2.2.2.2.1.length->(w.2.2.2.2.2.2.2.2.2.1.length-i)+w.2.2.2.2.2.2.2.2.2.1.length+2<=n->
  Mm n i w.1 w.2.2.1 w.2.2.2.1 w.2.2.2.2.1 ws w.2.2.2.2.2.2.2.1 w.2.2.2.2.2.2.2.2.1 w.2.2.2.2.2.2.2.2.2.1 w.2.1 w.2.2.2.2.2.1 w.2.2.2.2.2.2.2.2.2.2.1 0 0 false [] [] [] [] [] [] [] [] s.1 s.2.1 s.2.2.1=some (AKS (if(w.2.2.2.2.2.2.2.2.2.1.drop i).any (fun x=>x.1==s.1)then(w.Bk ws,4)else(((w.Bk ws).BH (ew s w.2.2.2.2.2.2.2.2.2.1)),0))):=by
 have k6:=h.nums.se;intro n
 induction n with
 |zero=>omega
 |succ n ih=>
  intro i hi hn;simp only[Mm,eK,AB,De];by_cases Ds:i<w.2.2.2.2.2.2.2.2.2.1.length
  ·have c1:(0:Int)<=(i:Int)/\(i:Int)<(w.2.2.2.2.2.2.2.2.2.1.length:Int):=by omega
   rw[ALi c1.2,ALi c1,Af Ds,As (i:=i) (by omega),drop_cons Ds,ih (i+1) (by omega) (by omega),List.any_cons];by_cases he:w.2.2.2.2.2.2.2.2.2.1[i].1=s.1
   ·rw[ALi he,show(w.2.2.2.2.2.2.2.2.2.1[i].1==s.1)=true by simp_all,AVs,ALi rfl]
    rfl
   ·rw[ALj he,show(w.2.2.2.2.2.2.2.2.2.1[i].1==s.1)=false by simp_all,APU]
  ·have:=ARS h (ws:=ws) (s:=s) n 0 false [] (by omega) (by omega) (by simp)
   grind
theorem wC{d:Am}(hd:d.2.2.2.2.1.length<=40):∃w',dH w.2.1 w.2.2.2.2.2.1 w.2.2.2.2.2.2.2.2.2.2.1 d w.1 w.2.2.1 w.2.2.2.1 w.2.2.2.2.1 w.2.2.2.2.2.2.1 w.2.2.2.2.2.2.2.1 w.2.2.2.2.2.2.2.2.1 w.2.2.2.2.2.2.2.2.2.1=some (AKS (w',(doAdd w d.2.1 d.2.2.2.2.1).2))/\((doAdd w d.2.1 d.2.2.2.2.1).2=0->w' =(doAdd w d.2.1 d.2.2.2.2.1).1):=by
 obtain⟨k1,k4,k3,k5,_,_,k2,_,_,_,_,_,gg,qM,oH⟩:=h.nums;unfold dH eO doAdd;rw[Fa w,Us (by omega)];simp only[AD,Ap,De];rcases ALh (BJ d.2.1 0 ((w.AO.length:Int)-1))with h1|h1
 rotate_left
 ·rw[h1];exact⟨w,rfl,fun _=>rfl⟩
 obtain⟨x1,x2,x3⟩:=h.kP h1;simp only[h1,AMs,Gk,ALi x1]
 generalize hx:w.AO.getD d.2.1.toNat CN=x at*
 rw[DE x,show(w.1,w.2.1,())=Ae w from rfl,pO (c:=Ae w) (w:=x) (by show w.1.length<=_;omega) (by omega) (by omega)];simp only[AD];rcases ALh (CJ (Ae w) x d.2.2.2.2.1).2.2 with h2|h2
 rotate_left
 ·rw[h2];exact⟨w,rfl,fun _=>rfl⟩
 obtain⟨_,r1,r2,r3⟩:=h_ h2;rw[r2]at r1;have hnn:=r1.n;simp only[AOu,AOJ,APN]at hnn;have hxe:=x2.ep;rw[h2,AMs,r3,r2];rw[Gc (by omega) (by omega)];simp only[AD,AL9,APU];by_cases h3:w.2.2.2.2.2.2.2.2.2.1.length=120
 ·rw[ALi (by omega),show decide (w.Ar.length=120)=true from AOW h3,AVs,ALi rfl];exact⟨w,rfl,fun hh=>by rfl⟩
 have:=AVv h (ws:=w.AO.set d.2.1.toNat (x.1,x.2.1++[(d.2.2.2.2.1,[],false,())],())) (s:=(Hr x.1 ((x.2.1.length:Int)+1),d.2.2.2.2.1,false,())) AU 0 (by omega) (ATW (AZ (by have:=h.nums.se;omega)));grind
end
section
variable{w:AA} (h:RS w)
include h
theorem AP7{d:Am}{a:Nat}(ha:d.2.1=(a:Int)):∀(n i:Nat) (b:List AM),i<=w.2.2.2.2.2.2.1.length->w.2.2.2.2.2.2.1.length-i<n->b.length<=i->
  OQ n i w.1 w.2.2.1 w.2.2.2.1 w.2.2.2.2.1 w.2.2.2.2.2.2.1 w.2.2.2.2.2.2.2.1 w.2.2.2.2.2.2.2.2.1 w.2.2.2.2.2.2.2.2.2.1 w.2.1 w.2.2.2.2.2.1 w.2.2.2.2.2.2.2.2.2.2.1 d.1 d.2.1 d.2.2.1 d.2.2.2.1 d.2.2.2.2.1 0 0 false [] [] [] [] [] [] [] [] b=some (AJ3 (w.Bk (b++(if i<=a then(w.2.2.2.2.2.2.1.drop i).eraseIdx (a-i)else w.2.2.2.2.2.2.1.drop i)),0)):=by
 have k6:=h.nums.wr;intro n
 induction n with
 |zero=>omega
 |succ n ih=>
  intro i b hi hn hb;simp only[OQ,bR,AB,C9];by_cases Ds:i<w.2.2.2.2.2.2.1.length
  ·have c1:(0:Int)<=(i:Int)/\(i:Int)<(w.2.2.2.2.2.2.1.length:Int):=by omega
   have c2:b.length+1<=C7:=by rw[Ak];omega
   rw[ALi c1.2];simp only[ALi c1,ALi c2];rw[Af Ds,As (i:=i) (by omega),drop_cons Ds,DE (w.2.2.2.2.2.2.1[i])];by_cases he:(i:Int)=d.2.1
   ·rw[ALi he,ih (i+1) b (by omega) (by omega) (by omega),ALj (by omega),ALi (by omega),show a-i=0 by omega]
    rfl
   ·rw[ALj he,ih (i+1) _ (by omega) (by omega) (by simp_all),ANZ]
    by_cases hl:i+1<=a
    ·rw[ALi hl,ALi (by omega),show a-i=(a-(i+1))+1 by omega,List.eraseIdx_cons_succ]
     rfl
    ·rw[ALj hl,ALj (by omega)]
     rfl
  ·rw[ALj (by omega),ANG (by omega)]
   have:(if i<=a then([]:List AM).eraseIdx (a-i)else[])=[]:=by simp_all
   rw[this,ANV];rfl
theorem vB{d:Am}:au w.2.1 w.2.2.2.2.2.1 w.2.2.2.2.2.2.2.2.2.2.1 d w.1 w.2.2.1 w.2.2.2.1 w.2.2.2.2.1 w.2.2.2.2.2.2.1 w.2.2.2.2.2.2.2.1 w.2.2.2.2.2.2.2.2.1 w.2.2.2.2.2.2.2.2.2.1=some (AJ3 (Qu w d.2.1)):=by
 obtain⟨k1,k4,k3,k5,_,_,k2,_,_,_,_,_,gg,qM,oH⟩:=h.nums;unfold au cM Qu;rw[Fa w,Us (by omega)];simp only[AD,Ap];rcases ALh (BJ d.2.1 0 ((w.AO.length:Int)-1))with h1|h1
 rotate_left
 ·rw[h1];rfl
 have h1':=Ao.1 h1;have:=AP7 h (d:=d) (a:=d.2.1.toNat) (by omega) AU 0 [] (by omega) (AZ (by omega)) (by simp);simp_all
theorem AL2{d:Am}{ss:List AL}{ls:AAO}{ws:List AM}(hls:ls.length<=2^20):∀(n i:Nat),i<=w.2.2.2.2.2.2.2.1.length->w.2.2.2.2.2.2.2.1.length-i<n->
  J_ n i w.1 ss w.2.2.2.1 w.2.2.2.2.1 ws ((w.2.2.2.2.2.2.2.1.map fun m=>(CU (Ae w) m d.2.1).1).take i++w.2.2.2.2.2.2.2.1.drop i) w.2.2.2.2.2.2.2.2.1 w.2.2.2.2.2.2.2.2.2.1 w.2.1 w.2.2.2.2.2.1 w.2.2.2.2.2.2.2.2.2.2.1 ls d.1 d.2.1 d.2.2.1 d.2.2.2.1 d.2.2.2.2.1 0 0 false [] [] [] [] [] [] [] []=some (AAq (((((w.Cb ss).Fo ls).Bk ws).C5 (w.2.2.2.2.2.2.2.1.map fun m=>(CU (Ae w) m d.2.1).1)).F_ (w.JG||holds (Ae w) ls),0)):=by
 have k:=h.nums;have k1:=k.c;have k6:=k.md;intro n
 induction n with
 |zero=>omega
 |succ n ih=>
  intro i hi hn;simp only[J_,Zm,AB,Ap];rw[Q6 hi];by_cases Ds:i<w.2.2.2.2.2.2.2.1.length
  ·have c1:(0:Int)<=(i:Int)/\(i:Int)<(w.2.2.2.2.2.2.2.1.length:Int):=by omega
   have hm:=(h.Cg _ (AM9 Ds)).1;have hmw:=hm.w;rw[ALi c1.2];simp only[ALi c1];rw[AMn,OJ Ds,As (i:=i) (by omega),V1 (w.2.2.2.2.2.2.2.1[i]),show(w.1,w.2.1,())=Ae w from rfl,nA (c:=Ae w) (by show w.1.length<=_;omega) (by omega) hm.ein];simp only[AD,mQ];rw[show((CU (Ae w) w.2.2.2.2.2.2.2.1[i] d.2.1).1.1,(CU (Ae w) w.2.2.2.2.2.2.2.1[i] d.2.1).1.2.1,(CU (Ae w) w.2.2.2.2.2.2.2.1[i] d.2.1).1.2.2.1,(CU (Ae w) w.2.2.2.2.2.2.2.1[i] d.2.1).1.2.2.2.1,(CU (Ae w) w.2.2.2.2.2.2.2.1[i] d.2.1).1.2.2.2.2.1,(CU (Ae w) w.2.2.2.2.2.2.2.1[i] d.2.1).1.2.2.2.2.2.1,())=(CU (Ae w) w.2.2.2.2.2.2.2.1[i] d.2.1).1 from rfl,Sf Ds rfl];grind
  ·have:i=w.2.2.2.2.2.2.2.1.length:=by omega
   rw[ALj (by omega),this,ATN,ANV,AQL (by simp),show(w.1,w.2.1,())=Ae w from rfl,ED (by show w.1.length<=_;omega) (by omega)];simp only[AD];cases ht:w.2.2.2.2.2.2.2.2.2.2.1 with
   |true=>
    have ht':w.JG=true:=ht;rw[ht'];rfl
   |false=>
    have ht':w.JG=false:=ht;rw[ht'];rfl
theorem AP9{d:Am}{ss:List AL}{ls:AAO}(hls:ls.length<=2^20):∀(n i:Nat),i<=w.2.2.2.2.2.2.1.length->(w.2.2.2.2.2.2.1.length-i)+w.2.2.2.2.2.2.2.1.length+2<=n->
  LK n i w.1 ss w.2.2.2.1 w.2.2.2.2.1 ((w.2.2.2.2.2.2.1.map fun x=>(CZ (Ae w) x d.2.1).1).take i++w.2.2.2.2.2.2.1.drop i) w.2.2.2.2.2.2.2.1 w.2.2.2.2.2.2.2.2.1 w.2.2.2.2.2.2.2.2.2.1 w.2.1 w.2.2.2.2.2.1 w.2.2.2.2.2.2.2.2.2.2.1 ls d.1 d.2.1 d.2.2.1 d.2.2.2.1 d.2.2.2.2.1 0 0 false [] [] [] [] [] [] [] []=some (AAq (((((w.Cb ss).Fo ls).Bk (w.2.2.2.2.2.2.1.map fun x=>(CZ (Ae w) x d.2.1).1)).C5 (w.2.2.2.2.2.2.2.1.map fun m=>(CU (Ae w) m d.2.1).1)).F_ (w.JG||holds (Ae w) ls),0)):=by
 have k:=h.nums;have k1:=k.c;have k6:=k.wr;intro n
 induction n with
 |zero=>omega
 |succ n ih=>
  intro i hi hn;simp only[LK,ct,AB,Ap];rw[Q6 hi];by_cases Ds:i<w.2.2.2.2.2.2.1.length
  ·have c1:(0:Int)<=(i:Int)/\(i:Int)<(w.2.2.2.2.2.2.1.length:Int):=by omega
   have hm:=(h.AO _ (AM9 Ds)).1;have hmw:=hm.w;rw[ALi c1.2];simp only[ALi c1];rw[AMn,OJ Ds,As (i:=i) (by omega),DE (w.2.2.2.2.2.2.1[i]),show(w.1,w.2.1,())=Ae w from rfl,lK (c:=Ae w) (by show w.1.length<=_;omega) (by have:An w.2.2.2.2.2.2.1[i]=Aa Aw w.2.2.2.2.2.2.1[i].2.1:=rfl;omega)];simp only[AD,pkW];rw[show((CZ (Ae w) w.2.2.2.2.2.2.1[i] d.2.1).1.1,(CZ (Ae w) w.2.2.2.2.2.2.1[i] d.2.1).1.2.1,())=(CZ (Ae w) w.2.2.2.2.2.2.1[i] d.2.1).1 from rfl,Sf Ds rfl];grind
  ·have:i=w.2.2.2.2.2.2.1.length:=by omega
   have k11:=AL2 h (d:=d) (ss:=ss) (ws:=w.2.2.2.2.2.2.1.map fun x=>(CZ (Ae w) x d.2.1).1) hls n 0 (by omega) (by omega);rw[show((0:Nat):Int)=0 from rfl,AQR,AWu,AQH]at k11;rw[ALj (by omega),this,ATN,ANV,AQL (by simp),k11]
theorem uY{d:Am}:aE w.2.1 w.2.2.2.2.2.1 w.2.2.2.2.2.2.2.2.2.2.1 d w.1 w.2.2.1 w.2.2.2.1 w.2.2.2.2.1 w.2.2.2.2.2.2.1 w.2.2.2.2.2.2.2.1 w.2.2.2.2.2.2.2.2.1 w.2.2.2.2.2.2.2.2.2.1=some (AAq (PI w d.2.1)):=by
 obtain⟨k1,k4,k3,k5,_,_,k2,k6,_,_,_,_,gg,qM,oH⟩:=h.nums;unfold aE cu PI;rw[Fa w,JF (by omega) (by omega)];simp only[AD,C9];by_cases h3:Ay w d.2.1=0
 rotate_left
 ·rw[ALj h3,ALi h3];rfl
 obtain⟨hr,s1,s2,s3⟩:=h.Mz h3;rw[ALi h3,ALj (show¬(Ay w d.2.1≠0)from fun hh=>hh h3),ALi hr,L4 (by omega)];simp only[AD];have hp:=UP (n:=d.2.1) (l:=w.2.2.2.1);have:=AP9 h (d:=d) (ss:=w.2.2.1.set d.2.1.toNat ([],[],0,())) (ls:=Ov d.2.1 w.2.2.2.1) (by omega) AU 0 (by omega) (ATW (AZ (by omega)));simp_all
end
theorem eqE{x e:AH}:(x.1==e.1&&(x.2.1==e.2.1&&(x.2.2.1==e.2.2.1&&(x.2.2.2.1==e.2.2.2.1&&true))))=decide (x=e):=by
 grind
theorem i7{m:BA}{o:Int}{l:List AAO}(hl:l.length=m.2.2.2.2.2.1.length):Ec (m.1,m.2.1,m.2.2.1,m.2.2.2.1,m.2.2.2.2.1,l,()) o=Ec m o:=by
 grind[Ec]
section
variable{w:AA} (h:RS w) {st:AL} (hs:iK st) {n:Int} (hn:0<=n/\n<(Ae w).1.length) {SS:List AL}
include h hs hn
theorem ANf{ws:List AM}{se:List Aj}{ms:List BA}{j B:Nat}{m:BA}{R:Option CP}(hj:j<ms.length)(hjl:ms.length<=2^20)(hlen:(ms.getD j Tr).2.2.2.2.2.1.length=m.2.2.2.2.2.1.length)(hm:qK (Ae w) m)
  (hc:(Br w.BQ m.2.1).contains n=true)
  (cont:∀f,B<=f->BZ f n ((j+1:Nat):Int) w.1 SS w.2.2.2.1 w.2.2.2.2.1 ws (ms.set j (m.1,m.2.1,m.2.2.1,m.2.2.2.1,m.2.2.2.2.1,GG m st n 1 m.2.2.2.2.2.1,())) w.2.2.2.2.2.2.2.2.1 se w.2.1 w.2.2.2.2.2.1 w.2.2.2.2.2.2.2.2.2.2.1 0 0 false [] [] [] [] [] [] [] [] st.1 st.2.1 st.2.2.1=R):
  ∀(rest dn:List AAO) (f:Nat),dn.length+rest.length=m.2.2.2.2.2.1.length->(∀l∈dn++rest,BI (Ae w) l=true)->rest.length+B+1<=f->
   dn++GG m st n ((dn.length:Int)+1) rest=GG m st n 1 m.2.2.2.2.2.1->
   BV f n (j:Int) ((dn.length:Int)+1) w.1 SS w.2.2.2.1 w.2.2.2.2.1 ws ms w.2.2.2.2.2.2.2.2.1 se w.2.1 w.2.2.2.2.2.1 w.2.2.2.2.2.2.2.2.2.2.1 0 0 false [] [] [] [] [] [] [] [] st.1 st.2.1 st.2.2.1 m.1 m.2.1 m.2.2.1 m.2.2.2.1 m.2.2.2.2.1 (dn++rest)=R:=by
 have k:=h.nums;have k1:=k.c;have k5:=k.era;have c1:(0:Int)<=(j:Int)/\(j:Int)<(ms.length:Int):=by omega
 have Xj:(Br w.BQ m.2.1).length<=8:=HN h;have zU:m.2.2.2.2.2.1.length<=60:=by
  have:=hm.n;have hb:=IW (l:=m.2.2.2.1);omega
 intro rest
 induction rest with
 |nil=>
  intro dn f hl ho hf he;obtain⟨f,rfl⟩:∃f',f=f'+1:=⟨f-1,by omega⟩;simp only[APN,ATL,AS9,GG,ANV]at hl hf he;simp only[BV,JX,MW,AB,ANV];simp only[ALi c1];rw[show ms.getD ((j:Int)).toNat (0,0,[],[],false,[],())=ms.getD j Tr from rfl,hlen,ALj (by omega),As (i:=j) (by omega),he,AMn];simp_all
 |cons x rest ih=>
  intro dn f hl ho hf he;obtain⟨f,rfl⟩:∃f',f=f'+1:=⟨f-1,by omega⟩;simp only[AOJ]at hl hf;simp only[BV,JX,MW,AB];simp only[ALi c1];have ef:qK (Ae w) (m.1,m.2.1,m.2.2.1,m.2.2.2.1,m.2.2.2.2.1,dn++x::rest,()):=⟨hm.cfg,hm.ep,hm.b,hm.sld,hm.asc,hm.seen,ho,by
   have:=hm.n;simp_all⟩
  have hmw:=ef.w;rw[show ms.getD ((j:Int)).toNat (0,0,[],[],false,[],())=ms.getD j Tr from rfl,hlen,ALi (by omega),show(w.2.2.2.2.1,w.2.2.2.2.2.1,())=Cl w from rfl,Fh (r:=Cl w) (by show Aa Bm w.2.2.2.2.1<=_;omega)];rw[show(Cl w).1=w.BQ from rfl];simp only[AD];rw[Lo (by omega),hc];simp only[AD,AMs];have hdl:(dn++x::rest).length=m.2.2.2.2.2.1.length:=by simp_all
  rw[eH (m:=(m.1,m.2.1,m.2.2.1,m.2.2.2.1,m.2.2.2.2.1,dn++x::rest,())) (by omega),i7 hdl];simp only[AD];have Aak:m.2.2.2.2.1=true:=by
   have:=hm.n;grind
  have AT4:∃e,Ec m ((dn.length:Int)+1)=some e:=by
   unfold Ec;rw[Aak,ALi (by
    simp only[ANC,AL8,Ao,AM7];have:=hm.ep;omega)]
   split<;>exact⟨_,rfl⟩
  obtain⟨e,hee⟩:=AT4;have yS:=hs.w;rw[hee];simp only[ARc];rw[XY (Gi (by omega)).1];simp only[AD,eqE,AB];rw[Ab (by omega)];simp only[GG]at he;have hmd:Xd m st ((dn.length:Int)+1)=(Qm e.1 st.1==some e):=by
   unfold Xd;rw[hee]
  cases hg:Qm e.1 st.1 with
  |none=>
   simp only[ASE,ALm];rw[hmd,hg]at he;have:=ih (dn++[x]) f (by grind) (by simp_all) (by omega) (by
    simp_all)
   simp_all
  |some y=>
   simp only[AQv,AMs,ARc];by_cases hye:y=e
   ·rw[ALi hye]
    rw[hmd,hg,hye]at he;rw[show(w.1,w.2.1,())=Ae w from rfl,jD (c:=Ae w) (m:=(m.1,m.2.1,m.2.2.1,m.2.2.2.1,m.2.2.2.2.1,dn++x::rest,())) (by show w.1.length<=_;omega) (by omega) ef.ein];have AJ5:VB (Ae w) (m.1,m.2.1,m.2.2.1,m.2.2.2.1,m.2.2.2.2.1,dn++x::rest,()) ((dn.length:Int)+1) n=((m.1,m.2.1,m.2.2.1,m.2.2.2.1,m.2.2.2.2.1,dn++Ov n x::rest,()),true):=by
     unfold VB;rw[HU.2 ef];have hq:(BJ ((dn.length:Int)+1) 1 ((dn++x::rest).length:Int)&&BJ n 0 (((Ae w).1.length:Int)-1))=true:=by
      rw[AL8,Ao,Ao];omega
     grind
    rw[AJ5];simp only[AD,mQ];have hx:=ho x (by simp);have:=ih (dn++[Ov n x]) f (by grind) (by
     intro l qc;simp only[ANZ,ATI,AOK,AO3]at qc;rcases qc with qc|rfl|qc
     all_goals grind[Ls]) (by omega) (by
     simp_all)
    simp_all
   ·rw[ALj hye]
    have hf2:(some y==some e)=false:=by
     simp_all
    rw[hmd,hg,hf2]at he;have:=ih (dn++[x]) f (by grind) (by simp_all) (by omega) (by
     simp_all)
    simp_all
theorem ANA{ws:List AM}{se:List Aj}:∀(k i:Nat),w.2.2.2.2.2.2.2.1.length-i=k->i<=w.2.2.2.2.2.2.2.1.length-> ∀f,k*100+1<=f->
  BZ f n (i:Int) w.1 SS w.2.2.2.1 w.2.2.2.2.1 ws ((w.2.2.2.2.2.2.2.1.map (NI st w.BQ n)).take i++w.2.2.2.2.2.2.2.1.drop i) w.2.2.2.2.2.2.2.2.1 se w.2.1 w.2.2.2.2.2.1 w.2.2.2.2.2.2.2.2.2.2.1 0 0 false [] [] [] [] [] [] [] [] st.1 st.2.1 st.2.2.1=(some ((((),w.2.1,(),(),(),w.2.2.2.2.2.1,(),(),(),(),w.2.2.2.2.2.2.2.2.2.2.1,()),()),(w.1,SS,w.2.2.2.1,w.2.2.2.2.1,ws,(w.2.2.2.2.2.2.2.1.map (NI st w.BQ n)),w.2.2.2.2.2.2.2.2.1,se,())):Option CP):=by
 have k:=h.nums;have k5:=k.era;have k6:=k.md;intro k
 induction k with
 |zero=>
  intro i hk hi f hf;obtain⟨f,rfl⟩:∃f',f=f'+1:=⟨f-1,by omega⟩;have:i=w.2.2.2.2.2.2.2.1.length:=by omega
  simp only[BZ,MB,RG,AB];grind
 |succ k ih=>
  intro i hk hi f hf;obtain⟨f,rfl⟩:∃f',f=f'+1:=⟨f-1,by omega⟩;have Ds:i<w.2.2.2.2.2.2.2.1.length:=by omega
  have c1:(0:Int)<=(i:Int)/\(i:Int)<(w.2.2.2.2.2.2.2.1.length:Int):=by omega
  simp only[BZ,MB,RG,AB];rw[Q6 hi,ALi c1.2,ALi c1,AMn,OJ Ds];have hm:=(h.Cg _ (AM9 Ds)).1;have zU:w.2.2.2.2.2.2.2.1[i].2.2.2.2.2.1.length<=60:=by
   have:=hm.n;have hb:=IW (l:=w.2.2.2.2.2.2.2.1[i].2.2.2.1);omega
  rcases ALh ((Br w.BQ w.2.2.2.2.2.2.2.1[i].2.1).contains n)with hc|hc
  ·have hT:NI st w.BQ n w.2.2.2.2.2.2.2.1[i]=(w.2.2.2.2.2.2.2.1[i].1,w.2.2.2.2.2.2.2.1[i].2.1,w.2.2.2.2.2.2.2.1[i].2.2.1,w.2.2.2.2.2.2.2.1[i].2.2.2.1,w.2.2.2.2.2.2.2.1[i].2.2.2.2.1,GG w.2.2.2.2.2.2.2.1[i] st n 1 w.2.2.2.2.2.2.2.1[i].2.2.2.2.2.1,()):=by
    unfold NI;simp_all
   have:=ANf h hs hn (SS:=SS) (ws:=ws) (se:=se) (ms:=(w.2.2.2.2.2.2.2.1.map (NI st w.BQ n)).take i++w.2.2.2.2.2.2.2.1.drop i) (j:=i) (B:=k*100+1) (m:=w.2.2.2.2.2.2.2.1[i]) (R:=(some ((((),w.2.1,(),(),(),w.2.2.2.2.2.1,(),(),(),(),w.2.2.2.2.2.2.2.2.2.2.1,()),()),(w.1,SS,w.2.2.2.1,w.2.2.2.2.1,ws,(w.2.2.2.2.2.2.2.1.map (NI st w.BQ n)),w.2.2.2.2.2.2.2.2.1,se,())):Option CP)) (by simp_all) (by grind) (by simp_all) hm hc (fun f hf=>by
    grind[Sf]) w.2.2.2.2.2.2.2.1[i].2.2.2.2.2.1 [] f (by simp) (by simpa using hm.wrote) (by omega) (by simp)
   simp_all
  ·have hT:NI st w.BQ n w.2.2.2.2.2.2.2.1[i]=w.2.2.2.2.2.2.2.1[i]:=by
    unfold NI;simp_all
   obtain⟨f,rfl⟩:∃f',f=f'+1:=⟨f-1,by omega⟩;simp only[BV,JX,MW,AB];have Xj:(Br w.BQ w.2.2.2.2.2.2.2.1[i].2.1).length<=8:=HN h;rw[Q6 hi];simp only[ALi c1];rw[AMn,OJ Ds,show(w.2.2.2.2.1,w.2.2.2.2.2.1,())=Cl w from rfl,Fh (r:=Cl w) (by show Aa Bm w.2.2.2.2.1<=_;omega)];rw[show(Cl w).1=w.BQ from rfl];simp only[AD];rw[Lo (by omega),hc,Sf Ds (show(w.2.2.2.2.2.2.2.1[i].1,w.2.2.2.2.2.2.2.1[i].2.1,w.2.2.2.2.2.2.2.1[i].2.2.1,w.2.2.2.2.2.2.2.1[i].2.2.2.1,w.2.2.2.2.2.2.2.1[i].2.2.2.2.1,w.2.2.2.2.2.2.2.1[i].2.2.2.2.2.1,())=NI st w.BQ n w.2.2.2.2.2.2.2.1[i]from hT.symm),As (i:=i) (by omega),ih (i+1) (by omega) (by omega) f (by omega)];simp_all
end
theorem rJ{x y:BF}(hx:x.2.2.1=false):∀{dn rest:List BF},Tz (dn++y::rest)<=Tz (dn++x::rest)
 |[],rest=>by
  grind[Tz]
 |a::dn,rest=>by
  have:=rJ (y:=y) hx (dn:=dn) (rest:=rest);grind[Tz]
section
variable{w:AA} (h:RS w) {st:AL} (hs:iK st) {n:Int} (hn:0<=n/\n<(Ae w).1.length) {SS:List AL}
include h hs hn
theorem AMY{ws:List AM}{se:List Aj}{j B:Nat}{ep x y:Int}{z:Bool}{old new:List BF}{R:Option CP}(hj:j<2^20)(fU:se.length<=120)(hsp:∀s∈se,Az s.1=true)(hnl:new.length<=60)(hep:1<=ep/\ep<=30)
  (cont:∀f,B<=f->Bb f n ((j+1:Nat):Int) w.1 SS w.2.2.2.1 w.2.2.2.2.1 ws w.2.2.2.2.2.2.2.1 w.2.2.2.2.2.2.2.2.1 (se.map (SU true ep old new)) w.2.1 w.2.2.2.2.2.1 w.2.2.2.2.2.2.2.2.2.2.1 0 0 false [] [] [] [] [] [] [] [] st.1 st.2.1 st.2.2.1=R):
  ∀(k i:Nat),se.length-i=k->i<=se.length-> ∀f,k+B+1<=f->
   BO f n (j:Int) (i:Int) x y z w.1 SS w.2.2.2.1 w.2.2.2.2.1 ws w.2.2.2.2.2.2.2.1 w.2.2.2.2.2.2.2.2.1 ((se.map (SU true ep old new)).take i++se.drop i) w.2.1 w.2.2.2.2.2.1 w.2.2.2.2.2.2.2.2.2.2.1 0 0 false [] [] [] [] [] [] [] [] st.1 st.2.1 st.2.2.1 ep new=R:=by
 intro k
 induction k with
 |zero=>
  intro i hk hi f hf;obtain⟨f,rfl⟩:∃f',f=f'+1:=⟨f-1,by omega⟩;have:i=se.length:=by omega
  simp only[BO,MG,RO,AB];rw[Q6 hi,ALj (by omega),this,ATN,ANV,AQL (by simp),As (i:=j) (by omega)];simp_all
 |succ k ih=>
  intro i hk hi f hf;obtain⟨f,rfl⟩:∃f',f=f'+1:=⟨f-1,by omega⟩;have Ds:i<se.length:=by omega
  have c1:(0:Int)<=(i:Int)/\(i:Int)<(se.length:Int):=by omega
  have hp:=hsp _ (AM9 Ds);have hpf:=Hn hp;have ih':=ih (i+1) (by omega) (by omega) f (by omega);simp only[BO,MG,RO,AB,De];rw[Q6 hi,ALi c1.2];simp only[ALi c1];rw[AMn,OJ Ds,D5 (Hy hp),XT (Hy hp),As (i:=i) (by omega)];simp only[AD];have skip:SU true ep old new se[i]=se[i]->BO f n (j:Int) ((i+1:Nat):Int) x y z w.1 SS w.2.2.2.1 w.2.2.2.2.1 ws w.2.2.2.2.2.2.2.1 w.2.2.2.2.2.2.2.2.1 ((se.map (SU true ep old new)).take i++se.drop i) w.2.1 w.2.2.2.2.2.1 w.2.2.2.2.2.2.2.2.2.2.1 0 0 false [] [] [] [] [] [] [] [] st.1 st.2.1 st.2.2.1 ep new=R:=fun hm=>by
   grind[pQ]
  by_cases he:Ah se[i].1=ep
  rotate_left
  ·rw[ALj he]
   grind[SU,Ah,beq_eq_false_iff_ne]
  rw[ALi he];by_cases ho:Cc se[i].1<=(new.length:Int)
  rotate_left
  ·rw[ALj ho]
   refine skip ?_
   unfold SU kh;rw[show BJ (Cc se[i].1) 1 (new.length:Int)=false by
    rw[ATQ];grind[Ao]]
   simp
  rw[ALi ho,Ab (x:=Cc se[i].1-1) (by omega),ALi (by omega)];have hd:kh new (Cc se[i].1)=(new.getD (Cc se[i].1-1).toNat NQ).2.2.1:=by
   unfold kh;rw[Ao.2 ⟨hpf.2.1.1,ho⟩,ANC]
  have hd':(new.getD (Cc se[i].1-1).toNat ([],[],false,())).2.2.1=kh new (Cc se[i].1):=hd.symm;rw[hd'];cases hdd:kh new (Cc se[i].1)with
  |false=>
   rw[ALm];grind[SU]
  |true=>
   rw[AMs,Sf Ds (show(se[i].1,se[i].2.1,true,())=SU true ep old new se[i]by
    grind[SU])]
   omega
theorem ARF{ws:List AM}{se:List Aj}{j B:Nat}{ep x y:Int}{z:Bool}{l0:List BF}{R:Option CP}(hj:j<ws.length)(hjl:ws.length<=2^20)
  (cont:∀f,B<=f->BO f n (j:Int) 0 x y z w.1 SS w.2.2.2.1 w.2.2.2.2.1 (ws.set j (ep,B_ (Ae w) st ep n 1 l0,())) w.2.2.2.2.2.2.2.1 w.2.2.2.2.2.2.2.2.1 se w.2.1 w.2.2.2.2.2.1 w.2.2.2.2.2.2.2.2.2.2.1 0 0 false [] [] [] [] [] [] [] [] st.1 st.2.1 st.2.2.1 ep (B_ (Ae w) st ep n 1 l0)=R):
  ∀(rest dn:List BF) (f:Nat),iX (Ae w) (ep,dn++rest,())->rest.length+B+1<=f->
   dn++B_ (Ae w) st ep n ((dn.length:Int)+1) rest=B_ (Ae w) st ep n 1 l0->
   Bh f n (j:Int) ((dn.length:Int)+1) x y z w.1 SS w.2.2.2.1 w.2.2.2.2.1 ws w.2.2.2.2.2.2.2.1 w.2.2.2.2.2.2.2.2.1 se w.2.1 w.2.2.2.2.2.1 w.2.2.2.2.2.2.2.2.2.2.1 0 0 false [] [] [] [] [] [] [] [] st.1 st.2.1 st.2.2.1 ep (dn++rest)=R:=by
 have k1:=h.nums.c;have yS:=hs.w;intro rest
 induction rest with
 |nil=>
  intro dn f hw hf he;obtain⟨f,rfl⟩:∃f',f=f'+1:=⟨f-1,by omega⟩;simp only[APN,AS9,B_,ANV]at hf he;simp only[Bh,OB,Sm,AB,ANV];grind
 |cons a rest ih=>
  intro dn f hw hf he;obtain⟨f,rfl⟩:∃f',f=f'+1:=⟨f-1,by omega⟩;simp only[AOJ]at hf;have hwe:1<=ep/\ep<=30:=hw.ep;have hwn:(dn++a::rest).length<=60:=hw.n;have hww:=hw.w;have hwl:=hwn;simp only[AOu,AOJ]at hwl;simp only[Bh,OB,Sm,AB,Ap,C9];rw[ALi (by grind),Gc (by omega) (by omega)];simp only[AD];rw[XY (Gi (by omega)).1];simp only[AD];rw[Ab (x:=(dn.length:Int)+1+1) (by omega),Ab (x:=(dn.length:Int)+1-1) (by omega),ALi (show(0:Int)<=(dn.length:Int)+1-1/\(dn.length:Int)+1-1<((dn++a::rest).length:Int)by grind)];have e1:((dn.length:Int)+1-1).toNat=dn.length:=by omega
  have e2:(dn++a::rest).getD dn.length ([],[],false,())=a:=by simp[List.getD]
  rw[e1,e2];simp only[B_]at he;have go:∀b:BF,iX (Ae w) (ep,dn++b::rest,())->(if(!a.2.2.1&&PM st (Hr ep ((dn.length:Int)+1)))=true then G3 (Ae w) n a else a)=b->
    Bh f n (j:Int) ((dn.length:Int)+1+1) x y z w.1 SS w.2.2.2.1 w.2.2.2.2.1 ws w.2.2.2.2.2.2.2.1 w.2.2.2.2.2.2.2.2.1 se w.2.1 w.2.2.2.2.2.1 w.2.2.2.2.2.2.2.2.2.2.1 0 0 false [] [] [] [] [] [] [] [] st.1 st.2.1 st.2.2.1 ep (dn++b::rest)=R:=fun b hb yi=>by
   rw[yi]at he;have:=ih (dn++[b]) f (by simp_all) (by omega) (by
    simp_all)
   simp_all
  cases hg:Qm (Hr ep ((dn.length:Int)+1)) st.1 with
  |none=>
   simp only[ASE,ALm];grind[PM]
  |some e=>
   simp only[AQv,AMs,ARc];by_cases he0:e.2.1=0
   rotate_left
   ·rw[ALj he0]
    grind[PM]
   rw[ALi he0];cases had:a.2.2.1 with
   |true=>
    grind
   |false=>
    rw[ALm];have ha:=hw.words a (by simp);have hb:iX (Ae w) (ep,dn++G3 (Ae w) n a::rest,()):=⟨hw.cfg,hw.ep,by simp_all,fun b hb=>by
     simp only[AOK,AO3]at hb;rcases hb with hb|rfl|hb
     ·exact hw.words b (by simp[hb])
     ·exact⟨ha.1,Ls ha.2.1 hn,rfl⟩
     ·exact hw.words b (by simp[hb]),APf (rJ had) hw.opn⟩
    rw[show(w.1,w.2.1,())=Ae w from rfl,oY (c:=Ae w) (w:=(ep,dn++a::rest,())) (by show w.1.length<=_;omega) (by have:An (ep,dn++a::rest,())=Aa Aw (dn++a::rest):=rfl;grind)];have AJ5:Tk (Ae w) (ep,dn++a::rest,()) ((dn.length:Int)+1) n=((ep,dn++G3 (Ae w) n a::rest,()),true):=by
     unfold Tk;rw[Jb.2 hw];simp only[AL9,AMx,API];rw[e1,show(dn++a::rest).getD dn.length NQ=a from e2,had];rw[ALi (by
      rw[AL8,AL8,Ao,Ao];grind)]
     simp_all
    grind[AD,pkW,PM]
theorem ASa:∀(rest pre:List AM) (se:List Aj) (f:Nat),(pre++rest).length<=4->(∀x∈rest,iX (Ae w) x)->se.length<=120->(∀s∈se,Az s.1=true)->rest.length*300+w.2.2.2.2.2.2.2.1.length*100+2<=f->
  Bb f n (pre.length:Int) w.1 SS w.2.2.2.1 w.2.2.2.2.1 (pre++rest) w.2.2.2.2.2.2.2.1 w.2.2.2.2.2.2.2.2.1 se w.2.1 w.2.2.2.2.2.1 w.2.2.2.2.2.2.2.2.2.2.1 0 0 false [] [] [] [] [] [] [] [] st.1 st.2.1 st.2.2.1=(some ((((),w.2.1,(),(),(),w.2.2.2.2.2.1,(),(),(),(),w.2.2.2.2.2.2.2.2.2.2.1,()),()),(w.1,SS,w.2.2.2.1,w.2.2.2.2.1,(pre++(Fi true (Ae w) st w.BQ n rest se).1),(w.2.2.2.2.2.2.2.1.map (NI st w.BQ n)),w.2.2.2.2.2.2.2.2.1,(Fi true (Ae w) st w.BQ n rest se).2,())):Option CP):=by
 have k5:=h.nums.era;intro rest
 induction rest with
 |nil=>
  intro pre se f hl hw fU hsp hf;obtain⟨f,rfl⟩:∃f',f=f'+1:=⟨f-1,by omega⟩;simp only[Bb,Na,Sn,AB];have:=ANA h hs hn (SS:=SS) (ws:=pre) (se:=se) w.2.2.2.2.2.2.2.1.length 0 (by omega) (by omega) f (by omega);rw[show((0:Nat):Int)=0 from rfl,AQR,AWu,AQH]at this;rw[ANV,ALj (by omega),this];simp only[Fi,ANV]
 |cons a rest ih=>
  intro pre se f hl hw fU hsp hf;simp only[AOu,AOJ]at hl hf;obtain⟨f,rfl⟩:∃f',f=f'+1:=⟨f-1,by omega⟩;simp only[Bb,Na,Sn,AB,Ap];have hpl:(pre++a::rest).length=pre.length+(rest.length+1):=by simp
  have c1:(0:Int)<=(pre.length:Int)/\(pre.length:Int)<((pre++a::rest).length:Int):=by omega
  have e2:(pre++a::rest).getD pre.length (0,[],())=a:=by simp[List.getD]
  have Xj:(Br w.BQ a.1).length<=8:=HN h;rw[ALi c1.2,ALi c1,AMn,e2,show(w.2.2.2.2.1,w.2.2.2.2.2.1,())=Cl w from rfl,Fh (r:=Cl w) (by show Aa Bm w.2.2.2.2.1<=_;omega)];rw[show(Cl w).1=w.BQ from rfl];simp only[AD];rw[Lo (by omega),Ab (by omega),show((pre.length:Int)+1)=((pre.length+1:Nat):Int)by omega];simp only[AD];have ha:=hw a (by simp);have hae:=ha.ep;have han:=ha.n;have next:∀(b:AM) (jx:List Aj) (f:Nat),jx.length<=120->(∀s∈jx,Az s.1=true)->rest.length*300+w.2.2.2.2.2.2.2.1.length*100+2<=f->
    Bb f n ((pre.length+1:Nat):Int) w.1 SS w.2.2.2.1 w.2.2.2.2.1 (pre++b::rest) w.2.2.2.2.2.2.2.1 w.2.2.2.2.2.2.2.2.1 jx w.2.1 w.2.2.2.2.2.1 w.2.2.2.2.2.2.2.2.2.2.1 0 0 false [] [] [] [] [] [] [] [] st.1 st.2.1 st.2.2.1=(some ((((),w.2.1,(),(),(),w.2.2.2.2.2.1,(),(),(),(),w.2.2.2.2.2.2.2.2.2.2.1,()),()),(w.1,SS,w.2.2.2.1,w.2.2.2.2.1,(pre++b::(Fi true (Ae w) st w.BQ n rest jx).1),(w.2.2.2.2.2.2.2.1.map (NI st w.BQ n)),w.2.2.2.2.2.2.2.2.1,(Fi true (Ae w) st w.BQ n rest jx).2,())):Option CP):=fun b jx f h1 h2 h3=>by
   have:=ih (pre++[b]) jx f (by simp only[AOu,AOJ,APN];omega) (fun x hx=>hw x (by simp[hx])) h1 h2 h3;simp only[AOu,AOJ,APN,ANZ,ATI]at this;exact this
  simp only[Fi];rcases ALh (lH st w.BQ n a)with ht|ht
  rotate_left
  ·rw[ht]
   simp only[AMx,API];unfold lH at ht;rcases ALh ((Br w.BQ a.1).contains n)with hc|hc
   ·rw[hc,ANC,ATV]at ht
    rw[hc,AMs,ALi (by omega)];exact next a se f fU hsp (by omega)
   ·rw[hc,ALm]
    exact next a se f fU hsp (by omega)
  ·rw[ht]
   simp only[AQm];unfold lH at ht;rw[AL8,AM7]at ht;rw[ht.1,AMs,ALj (by omega)];have htl:=(iv (s:=st) (ep:=a.1) hn (o:=1) ha.words).2.2;have hsm:∀s∈se.map (SU true a.1 a.2.1 (B_ (Ae w) st a.1 n 1 a.2.1)),Az s.1=true:=fun s hs' =>by
    obtain⟨s',h1,rfl⟩:=ATM.1 hs';exact hsp s' h1
   have:=ARF h hs hn (SS:=SS) (ws:=pre++a::rest) (se:=se) (j:=pre.length) (B:=rest.length*300+w.2.2.2.2.2.2.2.1.length*100+2+130) (ep:=a.1) (x:=st.2.2.1) (y:=a.1) (z:=decide (st.2.2.1>=a.1)) (l0:=a.2.1) (R:=(some ((((),w.2.1,(),(),(),w.2.2.2.2.2.1,(),(),(),(),w.2.2.2.2.2.2.2.2.2.2.1,()),()),(w.1,SS,w.2.2.2.1,w.2.2.2.2.1,(pre++(a.1,B_ (Ae w) st a.1 n 1 a.2.1,())::(Fi true (Ae w) st w.BQ n rest (se.map (SU true a.1 a.2.1 (B_ (Ae w) st a.1 n 1 a.2.1)))).1),(w.2.2.2.2.2.2.2.1.map (NI st w.BQ n)),w.2.2.2.2.2.2.2.2.1,(Fi true (Ae w) st w.BQ n rest (se.map (SU true a.1 a.2.1 (B_ (Ae w) st a.1 n 1 a.2.1)))).2,())):Option CP)) (by omega) (by omega) (fun f hf=>by
    have:=AMY h hs hn (SS:=SS) (ws:=(pre++a::rest).set pre.length (a.1,B_ (Ae w) st a.1 n 1 a.2.1,())) (se:=se) (j:=pre.length) (B:=rest.length*300+w.2.2.2.2.2.2.2.1.length*100+2) (ep:=a.1) (x:=st.2.2.1) (y:=a.1) (z:=decide (st.2.2.1>=a.1)) (old:=a.2.1) (new:=B_ (Ae w) st a.1 n 1 a.2.1) (R:=(some ((((),w.2.1,(),(),(),w.2.2.2.2.2.1,(),(),(),(),w.2.2.2.2.2.2.2.2.2.2.1,()),()),(w.1,SS,w.2.2.2.1,w.2.2.2.2.1,(pre++(a.1,B_ (Ae w) st a.1 n 1 a.2.1,())::(Fi true (Ae w) st w.BQ n rest (se.map (SU true a.1 a.2.1 (B_ (Ae w) st a.1 n 1 a.2.1)))).1),(w.2.2.2.2.2.2.2.1.map (NI st w.BQ n)),w.2.2.2.2.2.2.2.2.1,(Fi true (Ae w) st w.BQ n rest (se.map (SU true a.1 a.2.1 (B_ (Ae w) st a.1 n 1 a.2.1)))).2,())):Option CP)) (by omega) fU hsp (by omega) hae (fun f hf=>by
     rw[AVr _ _ (by omega),Nat.sub_self,ATl];exact next _ _ f (by simpa using fU) hsm hf) se.length 0 (by omega) (by omega) f (by omega)
    rw[show((0:Nat):Int)=0 from rfl,AQR,AWu,AQH]at this;exact this) a.2.1 [] f (by simpa using ha) (by omega) (by simp)
   simp only[APN,AQH]at this;exact this
end
section
variable{w:AA} (h:RS w)
include h
theorem uS{d:Am}:aT w.2.1 w.2.2.2.2.2.1 w.2.2.2.2.2.2.2.2.2.2.1 d w.1 w.2.2.1 w.2.2.2.1 w.2.2.2.2.1 w.2.2.2.2.2.2.1 w.2.2.2.2.2.2.2.1 w.2.2.2.2.2.2.2.2.1 w.2.2.2.2.2.2.2.2.2.1=some (pkD (QA true w d.2.1)):=by
 have k:=h.nums;have k1:=k.c;have k2:=k.wr;have k3:=k.lost;have k4:=k.st;have gg:=k.wr';have oH:=k.jh;have qM:=k.st';have k6:=k.md;unfold aT QA;rw[Fa w,JF (by omega) (by omega)];simp only[AD,C9,Ap];by_cases h3:Ay w d.2.1=0
 rotate_left
 ·rw[ALj h3,ALi h3];rfl
 obtain⟨hr,s1,s2,s3⟩:=h.Mz h3;have fU:w.2.2.1.getD d.2.1.toNat ([],[],0,())=storeAt w d.2.1:=rfl;rw[ALi h3,ALj (show¬(Ay w d.2.1≠0)from fun hh=>hh h3)];simp only[ALi hr,fU];rw[show((storeAt w d.2.1).1,(storeAt w d.2.1).2.1,(storeAt w d.2.1).2.2.1,())=storeAt w d.2.1 from rfl,PR s1 s2];simp only[AD,oG];rcases ALh (CQ (storeAt w d.2.1)).2 with h6|h6
 rotate_left
 ·rw[h6];rfl
 have hq:=(Of h6).2.1;have hnn:=(h.node h3).1;rw[h6,AMs,Gk];have JN:d.2.1.toNat<w.2.2.1.length:=by omega
 unfold af S_ Za;rw[ASf,ALi hr,On JN];have:=ASa h (st:=(CQ (storeAt w d.2.1)).1) hq hnn (SS:=w.2.2.1.set d.2.1.toNat (CQ (storeAt w d.2.1)).1) w.2.2.2.2.2.2.1 [] w.2.2.2.2.2.2.2.2.2.1 AU (by simp_all) (fun x hx=>(h.AO x hx).1) k.se (fun s hs=>(h.Ar s hs).1) (ATW (AZ (by omega)));simp only[APN,AQH]at this;rw[show((0:Nat):Int)=0 from rfl]at this;rw[show((CQ (storeAt w d.2.1)).1.1,(CQ (storeAt w d.2.1)).1.2.1,(CQ (storeAt w d.2.1)).1.2.2.1,())=(CQ (storeAt w d.2.1)).1 from rfl,this];rfl
end
section
variable{w:AA} (h:RS w)
include h
theorem yp{d:Am}(h64:Bi d.2.1)(hd:d.2.2.2.2.1.length<=40)(hk:1<=d.1/\d.1<=16):∃w',iD w.2.1 w.2.2.2.2.2.1 w.2.2.2.2.2.2.2.2.2.2.1 d w.1 w.2.2.1 w.2.2.2.1 w.2.2.2.2.1 w.2.2.2.2.2.2.1 w.2.2.2.2.2.2.2.1 w.2.2.2.2.2.2.2.2.1 w.2.2.2.2.2.2.2.2.2.1=some (AQ0 (w',(PJ true w d).2))/\((PJ true w d).2=0->w' =(PJ true w d).1):=by
 have k:=h.nums;have k1:=k.c;have k5:=k.era;unfold iD PJ;rw[xw d];simp only[De];by_cases c1:d.1=1
 ·simp only[ALi c1]
  rw[ue h];exact⟨_,rfl,fun _=>rfl⟩
 by_cases c2:d.1=2
 ·simp only[ALj (show¬d.1=1 by omega),ALi c2]
  obtain⟨w',e1,e2⟩:=wC h (d:=d) hd;rw[e1];exact⟨w',rfl,e2⟩
 by_cases c3:d.1=3
 ·simp only[ALj (show¬d.1=1 by omega),ALj (show¬d.1=2 by omega),ALi c3]
  rw[r8 h];exact⟨_,rfl,fun _=>rfl⟩
 by_cases c4:d.1=4
 ·simp only[ALj (show¬d.1=1 by omega),ALj (show¬d.1=2 by omega),ALj (show¬d.1=3 by omega),ALi c4]
  rw[uS h];exact⟨_,rfl,fun _=>rfl⟩
 by_cases c6:d.1=6
 ·simp only[ALj (show¬d.1=1 by omega),ALj (show¬d.1=2 by omega),ALj (show¬d.1=3 by omega),ALj (show¬d.1=4 by omega),ALj (show¬d.1=5 by omega),ALi c6]
  rw[uY h];exact⟨_,rfl,fun _=>rfl⟩
 by_cases c7:d.1=7
 ·simp only[ALj (show¬d.1=1 by omega),ALj (show¬d.1=2 by omega),ALj (show¬d.1=3 by omega),ALj (show¬d.1=4 by omega),ALj (show¬d.1=5 by omega),ALj (show¬d.1=6 by omega),ALi c7]
  rw[uN h];exact⟨_,rfl,fun _=>rfl⟩
 by_cases c8:d.1=8
 ·simp only[ALj (show¬d.1=1 by omega),ALj (show¬d.1=2 by omega),ALj (show¬d.1=3 by omega),ALj (show¬d.1=4 by omega),ALj (show¬d.1=5 by omega),ALj (show¬d.1=6 by omega),ALj (show¬d.1=7 by omega),ALi c8]
  rw[ux h];exact⟨_,rfl,fun _=>rfl⟩
 by_cases c9:d.1=9
 ·simp only[ALj (show¬d.1=1 by omega),ALj (show¬d.1=2 by omega),ALj (show¬d.1=3 by omega),ALj (show¬d.1=4 by omega),ALj (show¬d.1=5 by omega),ALj (show¬d.1=6 by omega),ALj (show¬d.1=7 by omega),ALj (show¬d.1=8 by omega),ALi c9]
  rw[uQ h];exact⟨_,rfl,fun _=>rfl⟩
 by_cases c10:d.1=10
 ·simp only[ALj (show¬d.1=1 by omega),ALj (show¬d.1=2 by omega),ALj (show¬d.1=3 by omega),ALj (show¬d.1=4 by omega),ALj (show¬d.1=5 by omega),ALj (show¬d.1=6 by omega),ALj (show¬d.1=7 by omega),ALj (show¬d.1=8 by omega),ALj (show¬d.1=9 by omega),ALi c10]
  rw[tq h];exact⟨_,rfl,fun _=>rfl⟩
 by_cases c11:d.1=11
 ·simp only[ALj (show¬d.1=1 by omega),ALj (show¬d.1=2 by omega),ALj (show¬d.1=3 by omega),ALj (show¬d.1=4 by omega),ALj (show¬d.1=5 by omega),ALj (show¬d.1=6 by omega),ALj (show¬d.1=7 by omega),ALj (show¬d.1=8 by omega),ALj (show¬d.1=9 by omega),ALj (show¬d.1=10 by omega),ALi c11]
  rw[xG h];exact⟨_,rfl,fun _=>rfl⟩
 by_cases c12:d.1=12
 ·simp only[ALj (show¬d.1=1 by omega),ALj (show¬d.1=2 by omega),ALj (show¬d.1=3 by omega),ALj (show¬d.1=4 by omega),ALj (show¬d.1=5 by omega),ALj (show¬d.1=6 by omega),ALj (show¬d.1=7 by omega),ALj (show¬d.1=8 by omega),ALj (show¬d.1=9 by omega),ALj (show¬d.1=10 by omega),ALj (show¬d.1=11 by omega),ALi c12]
  rw[qx h];exact⟨_,rfl,fun _=>rfl⟩
 by_cases c13:d.1=13
 ·simp only[ALj (show¬d.1=1 by omega),ALj (show¬d.1=2 by omega),ALj (show¬d.1=3 by omega),ALj (show¬d.1=4 by omega),ALj (show¬d.1=5 by omega),ALj (show¬d.1=6 by omega),ALj (show¬d.1=7 by omega),ALj (show¬d.1=8 by omega),ALj (show¬d.1=9 by omega),ALj (show¬d.1=10 by omega),ALj (show¬d.1=11 by omega),ALj (show¬d.1=12 by omega),ALi c13]
  rw[show(w.1,w.2.1,())=Ae w from rfl,show(w.2.2.2.2.1,w.2.2.2.2.2.1,())=Cl w from rfl,jH (c:=Ae w) (r:=Cl w) (by show w.1.length<=_;omega) (by show Aa Bm w.2.2.2.2.1<=_;omega) k.trim h64];simp only[AD,pkR,Ap,Rf];rcases ALh (PZ (Ae w) (Cl w) d.2.1).2 with hq|hq
  ·rw[hq];exact⟨_,rfl,fun _=>rfl⟩
  ·rw[hq];exact⟨w,rfl,fun _=>rfl⟩
 by_cases c14:d.1=14
 ·simp only[ALj (show¬d.1=1 by omega),ALj (show¬d.1=2 by omega),ALj (show¬d.1=3 by omega),ALj (show¬d.1=4 by omega),ALj (show¬d.1=5 by omega),ALj (show¬d.1=6 by omega),ALj (show¬d.1=7 by omega),ALj (show¬d.1=8 by omega),ALj (show¬d.1=9 by omega),ALj (show¬d.1=10 by omega),ALj (show¬d.1=11 by omega),ALj (show¬d.1=12 by omega),ALj (show¬d.1=13 by omega),ALi c14]
  rw[uB h];exact⟨_,rfl,fun _=>rfl⟩
 by_cases c15:d.1=15
 ·simp only[ALj (show¬d.1=1 by omega),ALj (show¬d.1=2 by omega),ALj (show¬d.1=3 by omega),ALj (show¬d.1=4 by omega),ALj (show¬d.1=5 by omega),ALj (show¬d.1=6 by omega),ALj (show¬d.1=7 by omega),ALj (show¬d.1=8 by omega),ALj (show¬d.1=9 by omega),ALj (show¬d.1=10 by omega),ALj (show¬d.1=11 by omega),ALj (show¬d.1=12 by omega),ALj (show¬d.1=13 by omega),ALj (show¬d.1=14 by omega),ALi c15]
  rw[vB h];exact⟨_,rfl,fun _=>rfl⟩
 simp only[ALj c1,ALj c2,ALj c3,ALj c4,ALj c6,ALj c7,ALj c8,ALj c9,ALj c10,ALj c11,ALj c12,ALj c13,ALj c14,ALj c15];rw[re h];by_cases c5:d.1=5
 ·rw[ALi c5,ALj (by omega)]
  exact⟨_,rfl,fun _=>rfl⟩
 ·rw[ALj c5,ALi (by omega)]
  exact⟨_,rfl,fun _=>rfl⟩
end
theorem lj{w:AA}{n:Int}{q:AL×Bool}(e:(putAt w n q).2≠0):(putAt w n q).1=w:=by
 unfold putAt at*;grind
theorem xN{all:Bool}{w:AA}{d:Am}(e:(PJ all w d).2≠0):(PJ all w d).1=w:=by
 unfold PJ at*;by_cases c:d.1=1
 ·rw[ALi c]at e|-
  clear c
  revert e
  unfold O6;grind
 rw[ALj c]at e|-;clear c;by_cases c:d.1=2
 ·rw[ALi c]at e|-
  clear c
  revert e
  unfold doAdd;grind
 rw[ALj c]at e|-;clear c;by_cases c:d.1=3
 ·rw[ALi c]at e|-
  clear c
  revert e
  unfold K3
  try dsimp only
  repeat' split
  all_goals first|(intro e;exact absurd rfl e)|(intro e;rfl)|grind[lj]
 rw[ALj c]at e|-;clear c;by_cases c:d.1=4
 ·rw[ALi c]at e|-
  clear c
  revert e
  unfold QA;grind
 rw[ALj c]at e|-;clear c;by_cases c:d.1=5
 ·rw[ALi c]at e|-
  clear c
  revert e
  unfold K0
  try dsimp only
  repeat' split
  all_goals first|(intro e;exact absurd rfl e)|(intro e;rfl)|grind[lj]
 rw[ALj c]at e|-;clear c;by_cases c:d.1=6
 ·rw[ALi c]at e|-
  clear c
  revert e
  unfold PI;grind
 rw[ALj c]at e|-;clear c;by_cases c:d.1=7
 ·rw[ALi c]at e|-
  clear c
  revert e
  unfold PF;grind
 rw[ALj c]at e|-;clear c;by_cases c:d.1=8
 ·rw[ALi c]at e|-
  clear c
  revert e
  unfold O_;grind
 rw[ALj c]at e|-;clear c;by_cases c:d.1=9
 ·rw[ALi c]at e|-
  clear c
  revert e
  unfold O8;grind
 rw[ALj c]at e|-;clear c;by_cases c:d.1=10
 ·rw[ALi c]at e|-
  clear c
  revert e
  unfold Oy;grind
 rw[ALj c]at e|-;clear c;by_cases c:d.1=11
 ·rw[ALi c]at e|-
  clear c
  revert e
  unfold WV
  try dsimp only
  repeat' split
  all_goals first|(intro e;exact absurd rfl e)|(intro e;rfl)|grind[lj]
 rw[ALj c]at e|-;clear c;by_cases c:d.1=12
 ·rw[ALi c]at e|-
  clear c
  revert e
  unfold Kv;grind
 rw[ALj c]at e|-;clear c;by_cases c:d.1=13
 ·rw[ALi c]at e|-
  clear c
  revert e
  unfold Rf;grind
 rw[ALj c]at e|-;clear c;by_cases c:d.1=14
 ·rw[ALi c]at e|-
  clear c
  revert e
  unfold MO;grind
 rw[ALj c]at e|-;clear c;by_cases c:d.1=15
 ·rw[ALi c]at e|-
  clear c
  revert e
  unfold Qu;grind
 rw[ALj c]at e|-;clear c;unfold Kz at*;split at e
 ·simp_all
 ·rename_i h1;rw[ALj h1];exact lj e
theorem jd{w:AA}{d:Am}(h:mq w)(h64:Bi d.2.1):Q1 w d=some (pkD (DJ true w d)):=by
 unfold Q1 DJ;rw[Fa w,xw d,FX h,ke,ZW h];simp only[AD,Ap,C9];rcases ALh (Cx w)with hw|hw
 rotate_left
 ·rw[hw];rfl
 rcases ALh (Gl d)with hd|hd
 rotate_left
 ·rw[hw,hd];rfl
 have hk:1<=d.1/\d.1<=16:=by
  unfold Gl at hd;exact Ao.1 (AL8 _ _▸hd).1
 rw[hw,hd,AMs,AMs];obtain⟨w',e1,e2⟩:=yp (Gu.1 hw) h64 (nV hd) hk;rw[e1];simp only[AD,AL9,Bool.or_false,AMx,API];by_cases hc:(PJ true w d).2=0
 ·rw[e2 hc]
  rw[ALi (show(AQ0 ((PJ true w d).1,(PJ true w d).2)).1.1.2.1=0 from hc)];rfl
 ·rw[ALj (show¬(AQ0 (w',(PJ true w d).2)).1.1.2.1=0 from hc)]
  have:=xN hc;rw[show PJ true w d=(w,(PJ true w d).2)by grind];rfl
section
variable{b:AAO} (hb:Bytes b) (hl:b.length<=2^30)
include hb hl
omit hb hl in
theorem w7{l:List BF}{e:BF}:Aa Aw (l++[e])=Aa Aw l+(1+Aw e):=by
 induction l with
 |nil=>simp[Aa]
 |cons x l ih=>simp only[ASn,Aa,ih];omega
end
section
variable{b:AAO} (hb:Bytes b)
include hb
end
section
variable{code:AAO} (hc:code.length<=2^30)
include hc
theorem ld{i h:Int}{l:List ABG}(hi:Ce code i)(hl:l≠[])(hn:l.length<=2^30):∃v i' h',Ei l code i h=some ((v,()),((code,i',h',()),()))/\v∈l/\Ce code i':=by
 unfold Ei;have hp:=AT9.2 hl;obtain⟨v,i1,h1,e,v0,v1,_,K8⟩:=FI hc (h:=h) (n:=l.length) hi (by omega);rw[e];simp only[AMA];have:=v1 (by omega);rw[ALi ⟨v0,this⟩];obtain⟨k,rfl⟩:∃k:Nat,v=(k:Int):=⟨v.toNat,by omega⟩;exact⟨_,i1,h1,rfl,by rw[Af (by omega)];exact AM9 _,K8⟩
theorem wS{i h:Int}(hi:Ce code i):∃v i' h',Fe code i h=some ((v,()),((code,i',h',()),()))/\v<2^63/\ -2^63<=v/\Ce code i':=by
 unfold Fe Bo;obtain⟨v1,i1,h1,e1,a1,b1,_,K8⟩:=FI hc (h:=h) (n:=3) hi (by omega);rw[e1];simp only[AMA];obtain⟨v2,i2,h2,e2,a2,b2,_,H6⟩:=FI hc (h:=h1) (n:=6) K8 (by omega);rw[e2];simp only[AMA];obtain⟨v3,i3,h3,e3,a3,b3,_,LL⟩:=FI hc (h:=h2) (n:=15) H6 (by omega);rw[e3];simp only[AMA];have:=b1 (by omega);have:=b2 (by omega);cases v3==0 with
 |true=>
  simp only[AMs];obtain⟨p,i4,h4,e4,hp,hi4⟩:=LR hc (h:=h3) (l:=[0,(-1),4294967296,4294967297,9223372036854775807,(-9223372036854775808)]) LL (by simp) (by simp);rw[e4];simp at hp;exact⟨p,i4,h4,rfl,by omega,by omega,hi4⟩
 |false=>
  simp only[ALm];cases v3==1 with
  |true=>
   simp only[AMs];obtain⟨p,i4,h4,e4,hp,hi4⟩:=LR hc (h:=h3) (l:=[0,30,31]) LL (by simp) (by simp);rw[e4];simp only[AMA];obtain⟨q,i5,h5,e5,hq,hi5⟩:=LR hc (h:=h4) (l:=[0,60,61]) hi4 (by simp) (by simp);rw[e5];simp only[AMA];simp at hp hq;rw[Ab (x:=4294967296*p) (by omega),Ab (by omega)];exact⟨_,i5,h5,rfl,by omega,by omega,hi5⟩
  |false=>
   simp only[ALm];rw[Ab (x:=1+v1) (by omega),Ab (x:=1+v2) (by omega),Ab (x:=4294967296*_) (by omega),Ab (by omega)];exact⟨_,i3,h3,rfl,by omega,by omega,LL⟩
end
section
variable{b:AAO} (hb:Bytes b) (hl:b.length<=2^30)
include hb hl
end
theorem ACx{o:Int}{l:List BF}{x:Int}{y:List BF}{z:Int}(hl:Aa Aw l<=2^30):∀(n i:Nat) (acc:List BF),i<=l.length->l.length-i<n->acc.length=i->
  KP n i o l x y z acc=some (((z,(),()),()),(acc++l.drop i,()))
 |0,i,_,_,h,_=>by omega
 |n+1,i,acc,hi,h,ha=>by
  have hll:=AR (f:=Aw) (l:=l);simp only[KP,Vw,AB];by_cases hc:i<l.length
  ·have hm:=AY (f:=Aw) (AM9 hc)
   rw[ALi (by omega),ALi (by omega),Af hc,drop_cons hc];simp only[Aw]at hm;rw[ALi (by rw[Ak];omega),ALi (by rw[Ak];omega),As (i:=i) (by omega)];rw[ACx hl n (i+1) _ (by omega) (by omega) (by simp[ha])];simp only[ANZ,ASn,AQH]
  ·rw[ALj (by omega)]
   have:i=l.length:=by omega
   subst this;simp
theorem AAB{w:AM}(hl:Aa Aw w.2.1<=2^30):Dg w=some (((w.1,(),()),()),(w.2.1,())):=by
 have hll:=AR (f:=Aw) (l:=w.2.1);unfold Dg U6;have:=ACx (o:=w.1) (l:=w.2.1) (x:=0) (y:=[]) (z:=w.1) hl AU 0 [] (by omega) (AZ (by omega)) rfl;simpa using this
theorem AKR{l:AAO}{x:Int}(hl:l.length<=2^30):∃r,Cf l x=some ((r,()),()):=by
 have key:∀(n i:Nat),i<=l.length->l.length-i<n-> ∃r,Lu n l x i=some ((r,()),()):=by
  intro n
  induction n with
  |zero=>intro i _ h;omega
  |succ n ih=>
   intro i hi h;simp only[Lu,XG,AB];by_cases hc:i<l.length
   ·rw[ALi (by omega),ALi (by omega),As (i:=i) (by omega)]
    cases(l.getD ((i:Int).toNat) 0==x)with
    |true=>exact⟨true,rfl⟩
    |false=>exact ih (i+1) (by omega) (by omega)
   ·rw[ALj (by omega)]
    exact⟨false,rfl⟩
 unfold Cf W5;have:=key AU 0 (by omega) (AZ (by omega));simpa using this
theorem vT{l:AAO}{x:Int}(hl:l.length<=2^30):∀(n i:Nat) (t:Bool) (b:AAO),i<=l.length->l.length-i<n->b.length<=i+cond t 1 0-> ∃l',IU n l x t i b=some (((),()),(l',()))/\l'.length<=l.length+1
 |0,i,_,_,_,h,_=>by omega
 |n+1,i,t,b,hi,h,hbl=>by
  simp only[IU,RI,AB];have hb2:b.length<=i+1:=by cases t<;>simp at hbl<;>omega
  by_cases hc:i<l.length
  ·have hc2:(0:Int)<=(i:Int)/\(i:Int)<(l.length:Int):=by omega
   have aN:b.length+1<=C7:=by rw[Ak];omega
   rw[ALi hc2.2,As (i:=i) (by omega)];simp only[ALi hc2,ALi aN];cases t with
   |true=>
    simp only[AL9,ALm];exact vT hl n (i+1) true _ (by omega) (by omega) (by simp at hbl|-;omega)
   |false=>
    simp only[APP,AMs];simp at hbl;by_cases hg:l.getD ((i:Int).toNat) 0>x
    ·rw[ALi hg,ALi (by rw[Ak];simp;omega)]
     exact vT hl n (i+1) true _ (by omega) (by omega) (by simp;omega)
    ·rw[ALj hg]
     exact vT hl n (i+1) false _ (by omega) (by omega) (by simp;omega)
  ·rw[ALj (by omega),ALi (by rw[Ak];omega)]
   cases t with
   |true=>exact⟨b,rfl,by omega⟩
   |false=>exact⟨_,rfl,by simp at hbl|-;omega⟩
theorem AK2{l:AAO}{x:Int}(hl:l.length<=2^30):∃l',JH l x=some (((),()),(l',()))/\l'.length<=l.length+1:=by
 unfold JH XA;obtain⟨r,h⟩:=AKR (x:=x) hl;rw[h];exact vT hl AU 0 r [] (by omega) (AZ (by omega)) (by cases r<;>simp)
def WI(l:List BF):Prop:=l.length<=61/\ ∀e∈l,e.1.length<=41/\e.2.1.length<=9
theorem WI.w{l:List BF}(h:WI l):Aa Aw l<=4000:=by
 have key:∀l:List BF,(∀e∈l,e.1.length<=41/\e.2.1.length<=9)->Aa Aw l<=60*l.length:=by
  intro l
  induction l with
  |nil=>intro _;simp[Aa]
  |cons e l ih=>
   intro hh;have:=hh e (by simp);have:=ih (fun e he=>hh e (by simp[he]));simp only[Aa,Aw,AOJ]at this|-;omega
 have:=key l h.2;have:=h.1;omega
theorem WI.of{c:Ca}{w:AM}(h:EW c w=true):WI w.2.1:=by
 obtain⟨h1,h2,h3,h4⟩:=fL h;exact⟨by omega,fun e he=>by have:=pB (h4 e he);omega⟩
theorem ABL{c:Ca}{w:AM}{s:ABG}(hc:c.1.length<=2^40)(hw:WI w.2.1)(hs:s.length<=41):
  ∃w':AM,∃off ok,HM c w s=some ((((w'.1,(),()),off,ok,()),()),(w'.2.1,()))/\WI w'.2.1:=by
 unfold HM Q9;have hww:=hw.w;rw[DE c,DE w,Gt hc (by omega),AAB (by omega)];simp only[AMA];cases EW c w with
 |false=>exact⟨(0,[],()),0,false,rfl,by simp[WI]⟩
 |true=>
  have h1:=hw.1;simp only[AL9,ALm];rw[ALi (by rw[Ak];omega)];have AKE:Aa Aw (w.2.1++[(s,[],false,())])<=2^30:=by
   rw[w7];simp only[Aw,APN];omega
  rw[Gt (w:=(w.1,w.2.1++[(s,[],false,())],())) hc AKE];simp only[AMA];rcases ALh (EW c (w.1,w.2.1++[(s,[],false,())],()))with hf|hf
  ·rw[hf]
   exact⟨(w.1,w.2.1++[(s,[],false,())],()),_,true,rfl,WI.of hf⟩
  ·rw[hf]
   exact⟨w,0,false,rfl,hw⟩
theorem ABa{c:Ca}{w:AM}{p q:Int}(hc:c.1.length<=2^40)(hw:WI w.2.1):
  ∃w':AM,∃ok,Cj c w p q=some ((((w'.1,(),()),ok,()),()),(w'.2.1,()))/\WI w'.2.1:=by
 unfold Cj;have hww:=hw.w;rw[DE c,DE w,Gt hc (by omega),AAB (by omega),BU,BU];simp only[AMA];rcases ALh (EW c w)with Du|Du
 rotate_left
 ·rw[Du]
  exact⟨(0,[],()),false,rfl,by simp[WI]⟩
 have h1:=hw.1;rw[Du];simp only[AL9,ALm];rcases ALh (BJ p 1 (w.2.1.length:Int))with hp|hp
 rotate_left
 ·rw[hp]
  exact⟨w,false,rfl,hw⟩
 rw[hp];simp only[AL9,ALm];cases BJ q 0 (AQ ((c.1.length:Int)-1))with
 |false=>exact⟨w,false,rfl,hw⟩
 |true=>
  simp only[BJ,AM7]at hp;rw[Ab (x:=p-1) (by omega)];obtain⟨k,hk⟩:∃k:Nat,p-1=(k:Int):=⟨(p-1).toNat,by omega⟩;rw[hk];have hkl:k<w.2.1.length:=by omega
  have hb:(0:Int)<=(k:Int)/\(k:Int)<(w.2.1.length:Int):=by omega
  simp only[AL9,ALm,ASf];rw[ALi hb,ALi hb,Af hkl];have he:=hw.2 _ (AM9 hkl);have he2:=pB ((fL Du).2.2.2 _ (AM9 hkl))
  generalize hge:w.2.1[k]=e at he he2
  cases e.2.2.1 with
  |true=>exact⟨w,false,rfl,hw⟩
  |false=>
   simp only[ALm];obtain⟨l',hl1,lx⟩:=AK2 (l:=e.2.1) (x:=q) (by omega);rw[hl1];simp only[AMA];rw[ALi hb,ALi hb,AMn];have hg:(w.2.1.set k (e.1,l',false,())).getD k ([],[],false,())=(e.1,l',false,()):=by
    simp[List.getD,hkl]
   rw[hg];simp only;rw[ED hc (by omega)];simp only[AMA];rw[ALi hb];refine⟨(w.1,(w.2.1.set k (e.1,l',false,())).set k (e.1,l',holds c l',()),()),true,rfl,by simp only[ASf];exact h1,?_⟩;intro y hy;simp only[AVP]at hy;rcases AQO hy with hy|rfl
   ·exact hw.2 y hy
   ·exact⟨he.1,by simp only;omega⟩
section
variable{code:AAO} (hc:code.length<=2^30)
include hc
theorem Rx{c:Ca}(dA:c.1.length<=2^20){x:Int}{y:List BF}:∀(n k:Nat) (i h:Int) (w:AM),Ce code i->k<=14->14-k<n->WI w.2.1->
  ∃(w':AM) (i' h':Int),JT n k code i h c.1 c.2.1 x y w.1 w.2.1=some (((w'.1,(),()),()),((code,i',h',()),w'.2.1,()))/\WI w'.2.1/\Ce code i'
 |0,_,_,_,_,_,_,h,_=>by omega
 |n+1,k,i,h,w,hi,hk,hn,hw=>by
  simp only[JT,VQ,AB];obtain⟨v,i1,h1,e1,a1,b1,_,K8⟩:=FI hc (h:=h) (n:=14) hi (by omega);rw[e1];simp only[AMA];have:=b1 (by omega);by_cases JN:(k:Int)<v
  ·rw[ALi JN]
   obtain⟨s,i2,h2,e2,hs,H6⟩:=ld hc (h:=h1) (l:=[[],[97],[98,99]]) K8 (by simp) (by simp);rw[e2];simp only[AMA];have hsl:s.length<=41:=by
    simp at hs;rcases hs with rfl|rfl|rfl<;>simp
   obtain⟨w1,off,ok,e3,hw1⟩:=ABL (c:=c) (w:=w) (s:=s) (by omega) hw hsl;rw[DE c,DE w,e3];simp only[AMA];obtain⟨o,i3,h3,e4,LL⟩:=rj hc (h:=h2) (n:=2) H6 (by omega);rw[e4];simp only[AMA];rw[As (i:=k) (by omega)];cases o with
   |true=>
    simp only[AMs];have h61:=hw.1;obtain⟨m,em,hm⟩:∃m:Int,En (w.2.1.length:Int) 1=some ((m,()),())/\m<=2^40:=by
     unfold En;rw[AB];split
     ·exact⟨_,rfl,by omega⟩
     ·exact⟨1,rfl,by omega⟩
    rw[em];simp only[AMA];obtain⟨v4,i4,h4,e5,a5,b5,_,hi4⟩:=FI hc (h:=h3) (n:=m) LL hm;rw[e5];simp only[AMA];obtain⟨v5,i5,h5,e6,a6,b6,_,hi5⟩:=FI hc (h:=h4) (n:=(c.1.length:Int)) hi4 (by omega);rw[e6];simp only[AMA];obtain⟨w2,ok2,e7,hw2⟩:=ABa (c:=c) (w:=w) (p:=AQ (1+v4)) (q:=v5) (by omega) hw;rw[e7];simp only[AMA];cases ok2 with
    |true=>exact Rx dA n (k+1) i5 h5 w2 hi5 (by omega) (by omega) hw2
    |false=>exact Rx dA n (k+1) i5 h5 w hi5 (by omega) (by omega) hw
   |false=>
    simp only[ALm];cases ok with
    |true=>exact Rx dA n (k+1) i3 h3 w1 LL (by omega) (by omega) hw1
    |false=>exact Rx dA n (k+1) i3 h3 w LL (by omega) (by omega) hw
  ·rw[ALj JN]
   exact⟨w,i1,h1,rfl,hw,K8⟩
theorem xM{c:Ca}(dA:c.1.length<=2^20){i h:Int}(hi:Ce code i):
  ∃(w':AM) (i' h':Int),RD c code i h=some (((w'.1,(),()),()),((code,i',h',()),w'.2.1,()))/\WI w'.2.1/\Ce code i':=by
 unfold RD Ur;obtain⟨v,i1,h1,e1,a1,b1,_,K8⟩:=FI hc (h:=h) (n:=4) hi (by omega);rw[e1];exact Rx hc dA AU 0 i1 h1 (AQ (1+v),[],()) K8 (by omega) (AZ (by omega)) (by simp[WI])
omit hc in
theorem ACm{x:Int}{y:List BF}{z:Int}{i h:Int}(hi:Ce code i):∀(n:Nat) (l:List BF),61-l.length<n->WI l->
  ∃l',Hm n code i h x y z l=some (((z,(),()),()),((code,i,h,()),l',()))/\WI l'
 |0,_,h,_=>by omega
 |n+1,l,hn,hw=>by
  simp only[Hm,Tc,AB];have h1:=hw.1;by_cases h60:l.length<60
  ·rw[ALi (by omega)]
   by_cases h0:0<l.length
   ·rw[ALi (by omega),ALi (by omega),ALi (by rw[Ak];omega)]
    refine ACm hi n _ (by simp;omega) ⟨by simp;omega,fun e he=> ?_⟩;rcases AOK.1 he with he|he
    ·exact hw.2 e he
    ·simp only[AQC]at he
     have hm:l.getD 0 ([],[],false,())∈l:=by
      have:=Af (l:=l) (i:=0) (d:=([],[],false,())) h0;simp only[Int.ofNat_zero,Int.toNat_zero]at this;rw[this];exact AM9 _
     rw[he];exact hw.2 _ hm
   ·rw[ALj (by omega)]
    exact⟨l,rfl,hw⟩
  ·rw[ALj (by omega)]
   exact⟨l,rfl,hw⟩
theorem AIX{c:Ca}(dA:c.1.length<=2^20){i h:Int}(hi:Ce code i):
  ∃(w':AM) (i' h':Int),Qo c code i h=some (((w'.1,(),()),()),((code,i',h',()),w'.2.1,()))/\Aa Aw w'.2.1<=4000/\Ce code i':=by
 unfold Qo Pb;obtain⟨w,i1,h1,e1,hw,K8⟩:=xM hc dA (h:=h) hi;rw[DE c,e1];simp only[AMA];obtain⟨v,i2,h2,e2,a2,b2,_,H6⟩:=FI hc (h:=h1) (n:=25) K8 (by omega);rw[e2];simp only[AMA];have h61:=hw.1;cases v==0 with
 |true=>
  simp only[AMs];obtain⟨p,i3,h3,e3,hp,LL⟩:=LR hc (h:=h2) (l:=[0,30,31]) H6 (by simp) (by simp);rw[e3];exact⟨(p,w.2.1,()),i3,h3,rfl,hw.w,LL⟩
 |false=>
  simp only[ALm];cases v==1 with
  |true=>
   simp only[AMs,AB];by_cases h0:0<w.2.1.length
   ·rw[ALi (by omega),ALi (by omega),ALi (by omega)]
    refine⟨(w.1,w.2.1.set 0 ((w.2.1.getD 0 ([],[],false,())).1,(w.2.1.getD 0 ([],[],false,())).2.1,!(w.2.1.getD 0 ([],[],false,())).2.2.1,()),()),i2,h2,rfl,WI.w ⟨by simp;omega,fun e he=> ?_⟩,H6⟩;rcases AQO he with he|rfl
    ·exact hw.2 e he
    ·have hm:w.2.1.getD 0 ([],[],false,())∈w.2.1:=by
      have:=Af (l:=w.2.1) (i:=0) (d:=([],[],false,())) h0;simp only[Int.ofNat_zero,Int.toNat_zero]at this;rw[this];exact AM9 _
     have:=hw.2 _ hm;exact this
   ·rw[ALj (by omega)]
    exact⟨w,i2,h2,rfl,hw.w,H6⟩
  |false=>
   simp only[ALm];cases v==2 with
   |true=>
    simp only[AMs];obtain⟨p,i3,h3,e3,a3,b3,_,LL⟩:=FI hc (h:=h2) (n:=2) H6 (by omega);rw[e3];simp only[AMA];have:=b3 (by omega);rw[Ab (by omega),ALi (by rw[Ak];omega),ALi (by rw[Ak];omega)];refine⟨(w.1,w.2.1++[(List.map (fun n:Int=>UInt8.ofNat n.toNat) (List.replicate (40+p).toNat 0),[],false,())],()),i3,h3,rfl,?_,LL⟩;have hww:=hw.w;have key:=w7 (l:=w.2.1) (e:=(List.map (fun n:Int=>UInt8.ofNat n.toNat) (List.replicate (40+p).toNat 0),[],false,()));have hws:Aa Aw w.2.1<=60*61:=by
     have AcT:∀l:List BF,(∀e∈l,e.1.length<=41/\e.2.1.length<=9)->Aa Aw l<=60*l.length:=by
      intro l
      induction l with
      |nil=>intro _;simp[Aa]
      |cons e l ih=>
       intro hh;have:=hh e (by simp);have:=ih (fun e he=>hh e (by simp[he]));simp only[Aa,Aw,AOJ]at this|-;omega
     have:=AcT _ hw.2;omega
    simp only;rw[key];simp only[Aw,ATS,ATB,APN];omega
   |false=>
    simp only[ALm];cases v==3 with
    |true=>
     simp only[AMs];obtain⟨l',e4,hw4⟩:=ACm (x:=0) (y:=[]) (z:=w.1) (h:=h2) H6 AU w.2.1 (AZ (by omega)) hw;rw[e4];exact⟨(w.1,l',()),i2,h2,rfl,hw4.w,H6⟩
    |false=>exact⟨w,i2,h2,rfl,hw.w,H6⟩
end
def OK(code:AAO){X Y:Type}(Q:X->Y->Prop)(o:Option (X×(AD6×Y))):Prop:=
 ∃x i h y,o=some (x,((code,i,h,()),y))/\Ce code i/\Q x y
section
variable{code:AAO} {X Y Z W:Type} {Q:X->Y->Prop} {R:Z->W->Prop}
theorem OK.bind{o:Option (X×(AD6×Y))}{f:X×(AD6×Y)->Option (Z×(AD6×W))}
  (ho:OK code Q o) (hf:∀x i h y,Ce code i->Q x y->OK code R (f (x,((code,i,h,()),y)))):OK code R (o.bind f):=by
 obtain⟨x,i,h,y,e,hi,hq⟩:=ho;simp_all
theorem OK.pure{A:Type}{o:Option A}{a:A}{f:A->Option (Z×(AD6×W))}(ho:o=some a)(hf:OK code R (f a)):OK code R (o.bind f):=by
 simp_all
theorem OK.some{x:X}{i h:Int}{y:Y}(hi:Ce code i)(hq:Q x y):OK code Q (some (x,((code,i,h,()),y))):=⟨x,i,h,y,rfl,hi,hq⟩
theorem OK.cond{b:Bool}{x y:Option (X×(AD6×Y))}(h1:b=true->OK code Q x)(h2:b=false->OK code Q y):OK code Q (cond b x y):=by
 grind
theorem OK.SI{p:Prop}[Decidable p]{x y:Option (X×(AD6×Y))}(h1:p->OK code Q x)(h2: ¬p->OK code Q y):OK code Q (_root_.cond (decide p) x y):=by
 grind
theorem OK.GQ{a b:Int}{x y:Option (X×(AD6×Y))}(h1:a=b->OK code Q x)(h2:a≠b->OK code Q y):OK code Q (_root_.cond (a==b) x y):=by
 grind
theorem OK.ite{p:Prop}[Decidable p]{x y:Option (X×(AD6×Y))}(hp:p)(h1:OK code Q x):OK code Q (if p then x else y):=by
 simp_all
end
section
variable{code:AAO} (hc:code.length<=2^30)
include hc
theorem CB{i h n:Int}(hi:Ce code i)(hn:n<=2^40):OK code (fun(x:ACJ) (y:Unit)=>0<=x.1/\(0<n->x.1<n)/\(n<=0->x.1=0)) (AJ n code i h):=by
 obtain⟨v,i',h',e,v0,v1,v2,Ds⟩:=FI hc (h:=h) hi hn;exact⟨(v,()),i',h',(),e,Ds,v0,v1,v2⟩
theorem PV{i h n:Int}(hi:Ce code i)(hn:n<=2^40):OK code (fun(x:ABw) (y:Unit)=>True) (Av n code i h):=by
 obtain⟨v,i',h',e,Ds⟩:=rj hc (h:=h) hi hn;exact⟨(v,()),i',h',(),e,Ds,trivial⟩
theorem S9{i h:Int}{l:AAO}(hi:Ce code i)(hl:l≠[])(hn:l.length<=2^30):OK code (fun(x:ACJ) (y:Unit)=>x.1∈l) (Ch l code i h):=by
 obtain⟨v,i',h',e,hv,Ds⟩:=LR hc (h:=h) hi hl hn;exact⟨(v,()),i',h',(),e,Ds,hv⟩
theorem vO{i h:Int}{l:List ABG}(hi:Ce code i)(hl:l≠[])(hn:l.length<=2^30):OK code (fun(x:AD5) (y:Unit)=>x.1∈l) (Ei l code i h):=by
 obtain⟨v,i',h',e,hv,Ds⟩:=ld hc (h:=h) hi hl hn;exact⟨(v,()),i',h',(),e,Ds,hv⟩
theorem U7{c:Ca}(dA:c.1.length<=2^10){i h:Int}(hi:Ce code i):OK code (fun(x:ADC) (y:ADn)=>y.1.length<=2^12) (Ff c code i h):=by
 have key:∀(n k N:Nat) (i h:Int) (b:AAO),Ce code i->k<=N->N-k<n->N<=2^11->b.length<=k->
   OK code (fun(x:ADC) (y:ADn)=>y.1.length<=2^12) (JY n N k code i h c.1 c.2.1 b):=by
  intro n
  induction n with
  |zero=>omega
  |succ n ih=>
   intro k N i h b hi hk hn hN hb;simp only[JY,Uy];refine OK.SI (fun JN=> ?_) (fun hge=> ?_)
   ·refine OK.pure J0 ?_
    dsimp only;refine OK.bind (CB hc hi (by omega)) fun x i' h' y Ds hq=> ?_
    dsimp only;refine OK.pure (L4 (by omega)) ?_
    dsimp only;rw[As (i:=k) (by omega)];have:=UP (n:=x.1) (l:=b);exact ih (k+1) N _ _ _ Ds (by omega) (by omega) hN (by omega)
   ·refine OK.bind (PV hc hi (by omega)) fun x i' h' y Ds hq=> ?_
    dsimp only;refine OK.cond (fun _=> ?_) (fun _=> ?_)
    ·refine OK.bind (S9 hc Ds (by simp) (by simp)) fun x i' h' y Ds hq=> ?_
     dsimp only;refine OK.ite (by rw[Ak];omega) ?_
     grind[OK.some]
    grind[OK.some]
 unfold Ff Vn;rw[Ab (by omega)];refine OK.bind (CB hc hi (by omega)) fun x i' h' y Ds hq=> ?_
 dsimp only;obtain⟨N,hN⟩:∃N:Nat,x.1=N:=⟨x.1.toNat,by omega⟩;grind[AU,AZ]
theorem mo{c:Ca}(dA:c.1.length<=2^10){i h:Int}(hi:Ce code i):OK code (fun(x:ADC) (y:ADn)=>y.1.length<=2^13) (Io c code i h):=by
 have key:∀(n k:Nat) (i h:Int) (b:AAO),Ce code i->k<=c.1.length->c.1.length-k<n->b.length<=2^12+k->
   OK code (fun(x:ADC) (y:ADn)=>y.1.length<=2^13) (LP n k code i h c.1 c.2.1 b):=by
  intro n
  induction n with
  |zero=>omega
  |succ n ih=>
   intro k i h b hi hk hn hb;simp only[LP,Xx];refine OK.SI (fun JN=> ?_) (fun hge=>OK.some hi (by grind));refine OK.pure (ED (c:=(c.1,c.2.1,())) (by grind) (by omega)) ?_
   dsimp only;refine OK.cond (fun _=> ?_) (fun _=>OK.some hi (by grind));refine OK.pure (L4 (by omega)) ?_
   dsimp only;rw[As (i:=k) (by omega)];have:=UP (n:=(k:Int)) (l:=b);exact ih (k+1) _ _ _ hi (by omega) (by omega) (by omega)
 unfold Io YR;grind[OK.bind,U7,AU,AZ]
end
theorem AMH{x:Int}:Bi (IntKind.wrap .i64 x):=by
 grind[Bi,IntKind.wrap,IntKind.bits,IntKind.signed]
theorem ARO{a b:Int}:Bi (bOr .i64 a b):=by
 unfold bOr;exact AMH
theorem AA6{l:AAO}(hl:l.length<=2^20):∃r,ML l=some ((r,()),())/\Bi r:=by
 have key:∀(n k:Nat) (t:Int),(∀x∈l,0<=x)->Bi t->k<=l.length->l.length-k<n-> ∃r,Lj n l t k=some ((r,()),())/\Bi r:=by
  intro n
  induction n with
  |zero=>omega
  |succ n ih=>
   intro k t hp ht hk hn;simp only[Lj,Xy,AB];by_cases JN:k<l.length
   ·rw[ALi (by omega),ALi (by omega),Af JN,ALj (by simp_all),As (i:=k) (by omega)]
    grind[ARO]
   grind
 unfold ML Yf;rw[mS (by omega)];simp only[AD,Ap];rcases ALh (xS l 7)with ha|ha
 ·rw[ha]
  exact key AU 0 0 (fun x hx=>((ADo.1 ha).1 x hx).1) (by unfold Bi;omega) (by omega) (AZ (by omega))
 ·rw[ha]
  exact⟨-1,rfl,by unfold Bi;omega⟩
end Go.M
end
