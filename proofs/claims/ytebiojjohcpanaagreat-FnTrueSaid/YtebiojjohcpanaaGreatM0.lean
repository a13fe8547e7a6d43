/- Plain facts on what the functions compute. -/
import Derived.Test.YtebiojjohcpanaaGreatG0
set_option linter.unusedVariables false
set_option linter.unusedSimpArgs false
set_option linter.unusedSectionVars false
section
namespace Go.M
theorem Pq{A0 A1 A2:Type}(w:A0×A1×A2×Unit):(w.1,w.2.1,w.2.2.1,())=w:=rfl
theorem de{A0 A1 A2 A3:Type}(w:A0×A1×A2×A3×Unit):(w.1,w.2.1,w.2.2.1,w.2.2.2.1,())=w:=rfl
theorem AGP{A0 A1 A2 A3 A4:Type}(w:A0×A1×A2×A3×A4×Unit):(w.1,w.2.1,w.2.2.1,w.2.2.2.1,w.2.2.2.2.1,())=w:=rfl
theorem VO{A0 A1 A2 A3 A4 A5:Type}(w:A0×A1×A2×A3×A4×A5×Unit):(w.1,w.2.1,w.2.2.1,w.2.2.2.1,w.2.2.2.2.1,w.2.2.2.2.2.1,())=w:=rfl
theorem HJ{A0 A1 A2 A3 A4 A5 A6 A7 A8 A9 A10:Type}(w:A0×A1×A2×A3×A4×A5×A6×A7×A8×A9×A10×Unit):(w.1,w.2.1,w.2.2.1,w.2.2.2.1,w.2.2.2.2.1,w.2.2.2.2.2.1,w.2.2.2.2.2.2.1,w.2.2.2.2.2.2.2.1,w.2.2.2.2.2.2.2.2.1,w.2.2.2.2.2.2.2.2.2.1,w.2.2.2.2.2.2.2.2.2.2.1,())=w:=rfl
end Go.M
namespace Go.M
theorem AB{α:Type}(p:Prop)[Decidable p](a b:α):cond (decide p) a b=if p then a else b:=by
 simp_all
theorem AL{x:Int}(h1: -9223372036854775808<=x)(h2:x<9223372036854775808):Aa x=x:=by
 grind[Aa,IntKind.wrap,IntKind.bits,IntKind.signed]
theorem AM3{n:Nat}(h:n<9223372036854775808):Aa (n:Int)=n:=AL (by omega) (by omega)
theorem ACf(n:Nat):(BitVec.ofInt 64 (n:Int)).toNat=n%2^64:=by
 rfl
theorem qA{n:Nat}(h:n<2^63):IntKind.wrap .i64 (n:Int)=n:=AM3 (by omega)
theorem AGM{a b:Nat}(ha:a<2^63)(hb:b<2^63):dY .i64 a b=((a &&& b:Nat):Int):=by
 grind[dY,BitVec.ofInt,IntKind.bits,BitVec.toNat_and,ACf,Nat.mod_eq_of_lt,qA,Nat.lt_of_le_of_lt,Nat.and_le_left]
theorem Ah{n:Nat}(h:n<2^64):n<Ae:=AT4 h bo
theorem Aj{α:Type}{l:List α}{i:Nat}{d:α}(h:i<l.length):l.getD ((i:Int).toNat) d=l[i]:=by
 simp_all
theorem drop_cons{α:Type}{l:List α}{i:Nat}(h:i<l.length):l.drop i=l[i]::l.drop (i+1):=(List.getElem_cons_drop h).symm
theorem Bf:D8=68719476736:=rfl
end Go.M
end
section
set_option maxRecDepth 8000
namespace Go.M
def BS(x a b:Int):Bool:=decide (a<=x/\x<=b)
theorem Bl(x a b:Int):CN x a b=some ((BS x a b,()),()):=by
 unfold CN BS;grind
theorem Aw(x a b:Int):BC x a b=some ((BS x a b,()),()):=Bl x a b
def FJ(x:ABU):Bool:=BS (x.1.length:Int) 1 8&&(BS x.2.1 1 4&&x.1.all fun d=>BS d 0 7)
theorem dF{l:AAC}{c:Int}(hl:l.length<=2^40):∀(n i:Nat),i<=l.length->l.length-i<n->Ll n i l c=some (((l.drop i).all fun d=>BS d 0 7,()),())
 |0,i,_,h=>by omega
 |n+1,i,hi,h=>by
  simp only[Ll,WE,AB];by_cases hc:i<l.length
  ·rw[AKJ (by omega),AKJ (by omega),Aj hc,Bl,AL (by omega) (by omega),drop_cons hc]
   simp only[ANe,AUc];cases hb:BS l[i] 0 7 with
   |false=>simp
   |true=>
    simp only[AMy,ANE,ANP];rw[show(((i:Nat):Int)+1)=((i+1:Nat):Int)by omega,dF hl n (i+1) (by omega) (by omega)]
  grind
theorem Hb{x:ABU}(hl:x.1.length<=2^40):Gg x=some ((FJ x,()),()):=by
 unfold Gg WB FJ;simp only[Bl,ANe];cases BS (x.1.length:Int) 1 8 with
 |false=>simp
 |true=>
  cases BS x.2.1 1 4 with
  |false=>simp
  |true=>
   grind[dF,Ae,Ah]
theorem dK{l:AAC}{c:Int}(hl:l.length<=2^40):∀(n i:Nat),i<=l.length->l.length-i<n->
  Ld n l l.length i l c=some ((((l.drop i).all fun d=>BS d 0 7)&&(BS (l.length:Int) 1 8&&BS c 1 4),()),())
 |0,i,_,h=>by omega
 |n+1,i,hi,h=>by
  simp only[Ld,WS,AB];by_cases hc:i<l.length
  ·rw[AKJ (by omega),AKJ (by omega),Aj hc,Aw,AL (by omega) (by omega),drop_cons hc]
   simp only[ANe,AUc];cases hb:BS l[i] 0 7 with
   |false=>simp
   |true=>
    simp only[AMy,ANE,ANP];rw[show(((i:Nat):Int)+1)=((i+1:Nat):Int)by omega,dK hl n (i+1) (by omega) (by omega)]
  ·rw[AKT (by omega)]
   have:i=l.length:=by omega
   subst this;simp only[Aw,ANe,AUj,List.all_nil,ANP];grind
theorem Lq{x:ABU}(hl:x.1.length<=2^40):FI x=some ((FJ x,()),()):=by
 unfold FI V8 FJ;have:=dK (l:=x.1) (c:=x.2.1) hl Ae 0 (by omega) (Ah (by omega));grind
theorem Gu{x:ABU}(h:FJ x=true):1<=x.1.length/\x.1.length<=8/\1<=x.2.1/\x.2.1<=4/\ ∀d∈x.1,0<=d/\d<=7:=by
 simp only[FJ,BS,ALz,ANK,AUY]at h;grind
def Bytes(b:AAC):Prop:= ∀c∈b,0<=c/\c<256
theorem wf_i64{c:Int}(h:(Go.Lit.int .i64 c).wf=true): -9223372036854775808<=c/\c<9223372036854775808:=by
 simp only[Go.Lit.wf,ALz,ANK]at h;have h1:Go.IntKind.min .i64= -9223372036854775808:=rfl;simp_all;omega
abbrev Ev:Type:=Int×Int×List UInt8×Unit
abbrev Rdr:Type:=Int×Int×List Ev×Unit
def Xk(x:Rdr):Bool:=BS x.1 1 31&&(BS x.2.1 1 61&&decide ((x.2.2.1.length:Int)<=120))
theorem PW(x:Rdr):NT x=some ((Xk x,()),()):=by
 grind[NT,Xk,Bl,BS]
theorem bK(x:Rdr):UJ x=some ((Xk x,()),()):=PW x
def HH(code:AAC)(i:Int):Prop:=0<=i/\i<=code.length
theorem ACP(x:Int):∃v:Int,dY .i64 x 255=v/\0<=v/\v<256:=by
 refine⟨_,rfl,?_⟩;grind[dY,BitVec.ofInt,Go.IntKind.bits,BitVec.toNat_and,Nat.lt_of_le_of_lt,Nat.and_le_right,qA]
section
variable{code:AAC} (hc:code.length<=2^30)
include hc
theorem bH{i h:Int}(hi:HH code i):∃v i' h',MK code i h=some ((v,()),((code,i',h',()),()))/\0<=v/\v<256/\HH code i':=by
 unfold MK;simp only[AB];obtain⟨h0,h1⟩:=hi;split
 ·rename_i K9
  rw[AKJ ⟨h0,K9⟩,AL (x:=i+1) (by omega) (by omega)];obtain⟨v,e,v0,v1⟩:=ACP (Aa (dY .i64 (ATx .i64 ((Aa (Aa (h*6364136223846793005)+1442695040888963407)).fdiv (2^33)) ((Aa (Aa (h*6364136223846793005)+1442695040888963407)).fdiv (2^45))) 255+Aa (code.getD i.toNat 0)));exact⟨v,i+1,_,by rw[e],v0,v1,by omega,by omega⟩
 ·obtain⟨v,e,v0,v1⟩:=ACP (ATx .i64 ((Aa (Aa (h*6364136223846793005)+1442695040888963407)).fdiv (2^33)) ((Aa (Aa (h*6364136223846793005)+1442695040888963407)).fdiv (2^45)))
  exact⟨v,i,_,by rw[e],v0,v1,h0,h1⟩
theorem Qx{i h n:Int}(hi:HH code i)(hn:n<=2^40):∃v i' h',An n code i h=some ((v,()),((code,i',h',()),()))/\0<=v/\(0<n->v<n)/\(n<=0->v=0)/\HH code i':=by
 unfold An;simp only[AB];split
 ·grind
 ·split
  ·obtain⟨v,i1,h1,e,v0,v1,gE⟩:=bH hc (h:=h) hi
   rw[e];simp only[ANe];rw[AKT (by omega),Int.tmod_eq_emod_of_nonneg v0];exact⟨_,i1,h1,rfl,Int.emod_nonneg _ (by omega),fun _=>Int.emod_lt_of_pos _ (by omega),by omega,gE⟩
  ·obtain⟨v1,i1,h1,e1,a1,b1,gE⟩:=bH hc (h:=h) hi
   obtain⟨v2,i2,h2,e2,a2,b2,hi2⟩:=bH hc (h:=h1) gE;obtain⟨v3,i3,h3,e3,a3,b3,hi3⟩:=bH hc (h:=h2) hi2;obtain⟨v4,i4,h4,e4,a4,b4,hi4⟩:=bH hc (h:=h3) hi3;rw[e1];simp only[ANe];rw[e2];simp only[ANe];rw[e3];simp only[ANe];rw[e4];simp only[ANe];rw[AL (x:=v1*16777216) (by omega) (by omega),AL (x:=v2*65536) (by omega) (by omega),AL (x:=v3*256) (by omega) (by omega),AL (x:=v1*16777216+v2*65536) (by omega) (by omega),
    AL (x:=v1*16777216+v2*65536+v3*256) (by omega) (by omega),AL (by omega) (by omega),AKT (by omega),Int.tmod_eq_emod_of_nonneg (by omega)]
   exact⟨_,i4,h4,rfl,Int.emod_nonneg _ (by omega),fun _=>Int.emod_lt_of_pos _ (by omega),by omega,hi4⟩
theorem tN{i h n:Int}(hi:HH code i)(hn:n<=2^40):∃v i' h',CB n code i h=some ((v,()),((code,i',h',()),()))/\HH code i':=by
 unfold CB;obtain⟨v,i1,h1,e,_,_,_,gE⟩:=Qx hc (h:=h) hi hn;rw[e];exact⟨_,i1,h1,rfl,gE⟩
theorem wh{i h:Int}{l:AAC}(hi:HH code i)(hl:l≠[])(hn:l.length<=2^30):∃v i' h',Og l code i h=some ((v,()),((code,i',h',()),()))/\v∈l/\HH code i':=by
 unfold Og;have hp:=AYe.2 hl;obtain⟨v,i1,h1,e,v0,v1,_,gE⟩:=Qx hc (h:=h) (n:=l.length) hi (by omega);grind
omit hc in
theorem ABo{n:Nat}:∀(m i:Nat) (h:Int),i<=code.length->code.length-i<m-> ∃h',QI m code h i=some (((),()),((code,0,h',()),()))
 |0,_,_,_,h=>by omega
 |m+1,i,h,hi,hm=>by
  simp only[QI,aw,AB];by_cases K9:i<code.length
  ·rw[AKJ (by omega)]
   split
   ·rw[AKJ (by omega),AL (x:=(i:Int)+1) (by omega) (by omega),show((i:Int)+1)=((i+1:Nat):Int)by omega]
    exact ABo (n:=n) m (i+1) _ (by omega) (by omega)
   ·exact⟨_,rfl⟩
  ·rw[AKT (by omega)]
   exact⟨_,rfl⟩
theorem AFP:∃h',cT code=some (((),()),((code,0,h',()),())):=by
 unfold cT bP;exact ABo (n:=0) Ae 0 _ (by omega) (Ah (by omega))
def ck(l:AAC)(c:Int):Prop:=3<=l.length/\l.length<=7/\1<=c/\c<=3/\ ∀d∈l,0<=d/\d<=4
omit hc in
theorem ck.ok{l:AAC}{c:Int}(h:ck l c):FJ (l,c,())=true:=by
 obtain⟨h1,h2,h3,h4,h5⟩:=h;simp only[FJ,BS,ALz,ANK,AUY];exact⟨by omega,by omega,fun d hd=>by have:=h5 d hd;omega⟩
theorem gN{N:Nat}(hN:3<=N/\N<=7){c:Int}(h1:1<=c/\c<=3){x1:Int}{x2:AAC}:∀(n k:Nat) (i h:Int) (acc:AAC),HH code i->k<=N->N-k<n->acc.length=k->(∀d∈acc,0<=d/\d<=4)->
  ∃l c' i' h',Ik n N k code i h x1 x2 c acc=some ((((),c',()),()),((code,i',h',()),l,()))/\ck l c'/\HH code i'
 |0,_,_,_,_,_,_,h,_,_=>by omega
 |n+1,k,i,h,acc,hi,hk,hn,hacc,hd=>by
  simp only[Ik,Su,AB];by_cases K9:k<N
  ·rw[AKJ (by omega)]
   obtain⟨v,i1,h1',e,v0,v1,_,gE⟩:=Qx hc (h:=h) (n:=5) hi (by omega);rw[e];simp only[ANe];rw[AKJ (by rw[Bf];omega),AL (by omega) (by omega),show((k:Int)+1)=((k+1:Nat):Int)by omega];have:=v1 (by omega);exact gN hN h1 n (k+1) i1 h1' _ gE (by omega) (by omega) (by simp[hacc]) (fun d hdd=>by
    grind)
  ·rw[AKT (by omega)]
   obtain⟨v,i1,h1',e,gE⟩:=tN hc (h:=h) (n:=2) hi (by omega);rw[e];simp only[ANe];cases v
   ·exact⟨acc,c,i1,h1',rfl,⟨by omega,by omega,h1.1,h1.2,hd⟩,gE⟩
   ·exact⟨acc,2,i1,h1',rfl,⟨by omega,by omega,by omega,by omega,hd⟩,gE⟩
theorem qa{i h:Int}(hi:HH code i):∃l c' i' h',PJ code i h=some ((((),c',()),()),((code,i',h',()),l,()))/\ck l c'/\HH code i':=by
 unfold PJ Sg;obtain⟨v,i1,h1,e1,a1,b1,_,gE⟩:=Qx hc (h:=h) (n:=3) hi (by omega);rw[e1];simp only[ANe];obtain⟨w,i2,h2,e2,a2,b2,_,hi2⟩:=Qx hc (h:=h1) (n:=5) gE (by omega);rw[e2];simp only[ANe];have:=b1 (by omega);have:=b2 (by omega);rw[AL (by omega) (by omega),AL (by omega) (by omega)];obtain⟨N,hN⟩:∃N:Nat,3+w=(N:Int):=⟨(3+w).toNat,by omega⟩;rw[hN];exact gN hc (by omega) (by omega) Ae 0 i2 h2 [] hi2 (by omega) (Ah (by omega)) rfl (by simp)
end
end Go.M
end
section
namespace Go.M.H
open Go.M
def Ag{α:Type}(f:α->Nat):List α->Nat
 |[]=>0
 |x::l=>1+f x+Ag f l
theorem AY{α:Type}{f:α->Nat}:∀{l:List α},l.length<=Ag f l
 |[]=>AP7 _
 |x::l=>by
  have:=AY (f:=f) (l:=l);grind[Ag,List.length_cons]
theorem Ab{α:Type}{f:α->Nat}{x:α}:∀{l:List α},x∈l->f x<=Ag f l
 |y::l,h=>by
  simp only[Ag];rcases AOD.1 h with rfl|h
  ·omega
  ·have:=Ab (f:=f) h
   omega
abbrev AWU:Type:=List Int
abbrev DK(x:AWU):Nat:=x.length
abbrev AJ:Type:=Int×Int×Bool×List UInt8×Unit
abbrev vi:Go.Fw.Ty:= .cons (.int .i64) (.cons (.int .i64) (.cons .bool (.cons .str (.unit))))
def Ar(x:AJ):Nat:=x.2.2.2.1.length
abbrev AO:Type:=List AJ×List AJ×Int×Unit
abbrev AK_:Go.Fw.Ty:= .cons (.sl vi) (.cons (.sl vi) (.cons (.int .i64) (.unit)))
def Al(x:AO):Nat:=Ag Ar x.1+Ag Ar x.2.1
abbrev CX:Type:=List Int×Bool×Int×Unit
abbrev AEc:Go.Fw.Ty:= .cons (.sl (.int .i64)) (.cons .bool (.cons (.int .i64) (.unit)))
def CG(x:CX):Nat:=x.1.length
abbrev AQ:Type:=List CX×Int×Unit
abbrev BI:Type:=List UInt8×List Int×Bool×Unit
abbrev AAY:Go.Fw.Ty:= .cons .str (.cons (.sl (.int .i64)) (.cons .bool (.unit)))
def BX(x:BI):Nat:=x.1.length+x.2.1.length
abbrev AM:Type:=Int×List BI×Unit
abbrev q6:Go.Fw.Ty:= .cons (.int .i64) (.cons (.sl AAY) (.unit))
def Au(x:AM):Nat:=Ag BX x.2.1
abbrev Av:Type:=Int×Int×List Int×List AJ×Bool×List AAC×Unit
abbrev AQF:Go.Fw.Ty:= .cons (.int .i64) (.cons (.int .i64) (.cons (.sl (.int .i64)) (.cons (.sl vi) (.cons .bool (.cons (.sl (.sl (.int .i64))) (.unit))))))
def CO(x:Av):Nat:=x.2.2.1.length+Ag Ar x.2.2.2.1+Ag DK x.2.2.2.2.2.1
abbrev As:Type:=Int×Int×List UInt8×Unit
abbrev AJK:Go.Fw.Ty:= .cons (.int .i64) (.cons (.int .i64) (.cons .str (.unit)))
def CQ(x:As):Nat:=x.2.2.1.length
abbrev AZ:Type:=Int×Int×List As×Unit
abbrev AFC:Go.Fw.Ty:= .cons (.int .i64) (.cons (.int .i64) (.cons (.sl AJK) (.unit)))
def A_(x:AZ):Nat:=Ag CQ x.2.2.1
abbrev Az:Type:=Int×Bool×Int×Int×Bool×List UInt8×Unit
abbrev Ac:Type:=Int×List UInt8×Bool×Unit
abbrev ARs:Go.Fw.Ty:= .cons (.int .i64) (.cons .str (.cons .bool (.unit)))
def EL(x:Ac):Nat:=x.2.1.length
abbrev AA:Type:=List Int×Int×List AO×List Int×List CX×Int×List AM×List Av×List AZ×List Ac×Bool×Unit
abbrev Uf:Go.Fw.Ty:= .cons (.sl (.int .i64)) (.cons (.int .i64) (.cons (.sl AK_) (.cons (.sl (.int .i64)) (.cons (.sl AEc) (.cons (.int .i64) (.cons (.sl q6) (.cons (.sl AQF) (.cons (.sl AFC) (.cons (.sl ARs) (.cons .bool (.unit)))))))))))
def C0(x:AA):Nat:=x.1.length+Ag Al x.2.2.1+x.2.2.2.1.length+Ag CG x.2.2.2.2.1+Ag Au x.2.2.2.2.2.2.1+Ag CO x.2.2.2.2.2.2.2.1+Ag A_ x.2.2.2.2.2.2.2.2.1+Ag EL x.2.2.2.2.2.2.2.2.2.1
abbrev BR:Type:=Int×Int×Int×Int×List UInt8×Unit
end Go.M.H
end
section
set_option maxRecDepth 8000
namespace Go.M
open Go.M.H (AA AAY AEc AJ AM AO AQ AY AZ A_ Ab Ac Ag Al Ar As Au Av BI BX C0 CG CO CQ CX DK EL Uf q6)
def C4(p:Nat->Bool)(i:Nat):Nat->Bool
 |0=>true
 |d+1=>p i&&C4 p (i+1) d
theorem GO{L:Nat->Int->Option (ABq×Unit)}{len:Nat}{p:Nat->Bool}{fin:Bool}(h1:∀n (i:Nat),i<len->L (n+1) i=cond (p i) (L n ((i+1:Nat):Int)) (some ((false,()),())))(h2:∀n,L (n+1) (len:Int)=some ((fin,()),())):
  ∀d n i,i+d=len->d<n->L n i=some ((C4 p i d&&fin,()),())
 |0,n,i,hd,h=>by
  obtain⟨m,rfl⟩:∃m,n=m+1:=⟨n-1,by omega⟩;have:i=len:=by omega
  subst this;rw[h2];rfl
 |d+1,n,i,hd,h=>by
  obtain⟨m,rfl⟩:∃m,n=m+1:=⟨n-1,by omega⟩;rw[h1 m i (by omega)];simp only[C4];cases p i with
  |false=>rfl
  |true=>rw[ANa,GO h1 h2 d m (i+1) (by omega) (by omega)];rfl
theorem Ry{p:Nat->Bool}:∀{d i:Nat},C4 p i d=true-> ∀j,i<=j->j<i+d->p j=true
 |0,i,_,j,h1,h2=>by omega
 |d+1,i,h,j,h1,h2=>by
  simp only[C4,ALz]at h;by_cases hj:j=i
  ·simp_all
  ·exact Ry h.2 j (by omega) (by omega)
theorem pd{p:Nat->Bool}:∀{d i:Nat},(∀j,i<=j->j<i+d->p j=true)->C4 p i d=true
 |0,_,_=>rfl
 |d+1,i,h=>by
  simp only[C4,ALz];exact⟨h i (by omega) (by omega),pd fun j h1 h2=>h j (by omega) (by omega)⟩
def XH(x:Int):Int:=x.tdiv 4294967296
def BZ(x:Int):Bool:=BS (XH x) 1 30&&BS (x.tmod 4294967296) 1 60
def AN(x:Int):Int:=if BZ x then XH x else 0
theorem jM{x:Int}(h: -9223372036854775808<=x/\x<9223372036854775808):Aa (x.tdiv 4294967296)=XH x:=by
 grind[XH,AL,Int.lt_or_le,Int.neg_tdiv,Int.tdiv_eq_ediv_of_nonneg]
theorem fF{x:Int}(h:BZ x=true):0<x/\x<2^40:=by
 simp only[BZ,BS,ALz,ANK]at h;grind[XH,Int.lt_or_le,Int.neg_tdiv,Int.tdiv_eq_ediv_of_nonneg,Int.tmod_eq_emod_of_nonneg]
def DR(x:Int):Prop:= -9223372036854775808<=x/\x<9223372036854775808
theorem IZ{x:Int}(h:DR x):Hs x=some ((BZ x,()),()):=by
 unfold Hs;rw[jM h,AB];split
 ·grind[Bl,BZ,BS,XH]
 ·rename_i h0
  rcases AJ5 (BZ x)with hp|hp
  ·exact absurd (fF hp).1 (by omega)
  ·rw[hp]
theorem NH{x:Int}(h:DR x):Dw x=some ((BZ x,()),()):=by
 unfold Dw Hq XG;rw[jM h];grind[Aw,BZ,BS,XH]
theorem FG{x:Int}(h:DR x):DD x=some ((AN x,()),()):=by
 unfold DD AN;rw[IZ h,jM h];grind
theorem EU{x:Int}(h:DR x):FR x=some ((AN x,()),()):=by
 unfold FR AN;rw[NH h,jM h];grind
theorem ga{x:Int}:(BZ x=true->1<=AN x/\AN x<=30)/\(BZ x=false->AN x=0):=by
 constructor
 ·intro h
  rw[AN,AKJ h];simp only[BZ,BS,ALz,ANK]at h;omega
 grind[AN]
def vV(l:AAC)(hi:Int)(i:Nat):Bool:=BS (l.getD i 0) 0 hi&&(i==0||decide (l.getD (i-1) 0<l.getD i 0))
def pn(l:AAC)(hi:Int):Bool:=C4 (vV l hi) 0 l.length
theorem gW{l:AAC}{hi:Int}(hl:l.length<=2^40):XE l 0 hi=some ((pn l hi,()),()):=by
 unfold XE bU pn;rw[<-AUO (C4 _ _ _)];refine GO (L:=fun n i=>NL n l 0 hi i) (len:=l.length) (p:=vV l hi) (fin:=true) (fun n i Dr=> ?_) (fun n=> ?_) l.length Ae 0 (by omega) (Ah (by omega))
 ·simp only[NL,Tu,AB]
  rw[AKJ (by omega),AKJ (by omega),Bl,AL (x:=(i:Int)+1) (by omega) (by omega)];simp only[ANe,ANJ,vV];cases BS (l.getD i 0) 0 hi with
  |false=>rfl
  |true=>
   simp only[AMy,ANE,ANP];by_cases h0:i=0
   ·simp_all
   ·rw[AKJ (by omega),AL (by omega) (by omega),AKJ (by omega),AKJ (by omega)]
    have h1:((i:Int)-1).toNat=i-1:=by omega
    have h2:(i==0)=false:=by simp_all
    rw[h1,h2,ARx];grind
 ·simp only[NL,Tu,AB]
  simp_all
theorem oB{l:AAC}{hi:Int}(hl:l.length<=2^40):WU l hi=some ((pn l hi,()),()):=by
 unfold WU XY pn;rw[<-AUO (C4 _ _ _)];refine GO (L:=fun n i=>KP n l hi l l.length i) (len:=l.length) (p:=vV l hi) (fin:=true) (fun n i Dr=> ?_) (fun n=> ?_) l.length Ae 0 (by omega) (Ah (by omega))
 ·simp only[KP,Qo,AB]
  rw[AKJ (by omega),AKJ (by omega),Aw,AL (x:=(i:Int)+1) (by omega) (by omega)];simp only[ANe,ANJ,vV];cases BS (l.getD i 0) 0 hi with
  |false=>rfl
  |true=>
   simp only[AMy,ANE,ANP];by_cases h0:i=0
   ·simp_all
   ·rw[AKJ (by omega),AL (by omega) (by omega),AKJ (by omega)]
    have h1:((i:Int)-1).toNat=i-1:=by omega
    have h2:(i==0)=false:=by simp_all
    rw[h1,h2,ARx];grind
 ·simp only[KP,Qo,AB]
  simp_all
theorem yO{l:AAC}{hi:Int}(h:pn l hi=true):∀x∈l,0<=x/\x<=hi:=fun x hx=>by
 obtain⟨i,Dr,rfl⟩:=AQo hx;have:=Ry h i (by omega) (by omega);simp only[vV,BS,ALz,ANK]at this;simp_all
theorem ABA{l:AAC}{hi:Int}(h:pn l hi=true):∀i,i<l.length->(i:Int)<=l.getD i 0
 |0,hl=>by
  have:=Ry h 0 (by omega) (by omega);simp only[vV,BS,ALz,ANK]at this;omega
 |i+1,hl=>by
  have h1:=ABA h i (by omega);have:=Ry h (i+1) (by omega) (by omega);simp only[vV,ALz,ATB,ANK]at this;grind
theorem AGT{l:AAC}{hi:Int}(h:pn l hi=true)(h0:0<=hi+1):(l.length:Int)<=hi+1:=by
 by_cases hl:l.length=0
 ·omega
 ·have h1:=ABA h (l.length-1) (by omega)
  have h2:=yO h (l.getD (l.length-1) 0) (by
   grind)
  omega
def Ay(c:ABU)(l:AAC):Bool:=FJ c&&pn l ((c.1.length:Int)-1)
theorem HM{c:ABU}{l:AAC}(hc:c.1.length<=2^40)(hl:l.length<=2^40):G7 c l=some ((Ay c l,()),()):=by
 unfold G7 Ay;rw[show(c.1,c.2.1,())=c from rfl,Hb hc,AL (by omega) (by omega)];simp only[ANe];cases FJ c with
 |false=>rfl
 |true=>
  rw[ANa,gW hl];rfl
theorem ET{c:ABU}{l:AAC}(hc:c.1.length<=2^40)(hl:l.length<=2^40):EH c l=some ((Ay c l,()),()):=by
 unfold EH Ay;rw[show(c.1,c.2.1,())=c from rfl,Lq hc,AL (by omega) (by omega)];simp only[ANe];cases FJ c with
 |false=>rfl
 |true=>
  rw[ANa,oB hl];rfl
theorem j9{c:ABU}{l:AAC}(h:Ay c l=true):FJ c=true/\c.1.length<=8/\l.length<=8/\(∀x∈l,0<=x/\x<c.1.length)/\ ∀d∈c.1,0<=d/\d<=7:=by
 simp only[Ay,ALz]at h;obtain⟨k1,k2,k3,k4,k5⟩:=Gu h.1;have h1:=AGT h.2 (by omega);exact⟨h.1,k2,by omega,fun x hx=>by have:=yO h.2 x hx;omega,k5⟩
theorem AB4{l:AAC}{x:Int}(hl:l.length<=2^40):∀(n i:Nat),i<=l.length->l.length-i<n->(∀y∈l.take i,y≠x)->
  ∃r:Int,GY n l x l.length i=some ((r,()),())/\decide (r>=0)=l.contains x
 |0,_,_,h,_=>by omega
 |n+1,i,hi,h,hx=>by
  simp only[GY,OU,AB];by_cases hc:i<l.length
  ·rw[AKJ (by omega),AKJ (by omega),Aj hc,AL (by omega) (by omega)]
   by_cases he:x=l[i]
   ·simp_all
   ·obtain⟨r,e1,e2⟩:=AB4 hl n (i+1) (by omega) (by omega) (fun y hy=>by
     rw[AUN hc]at hy;rcases AOO.1 hy with hy|hy
     ·exact hx y hy
     grind)
    grind
  ·rw[AKT (by omega)]
   grind
theorem I2{l:AAC}{x:Int}(hl:l.length<=2^40):Bz l x=some ((l.contains x,()),()):=by
 unfold Bz Ot Om;obtain⟨r,e1,e2⟩:=AB4 (x:=x) hl Ae 0 (by omega) (Ah (by omega)) (by simp);simp_all
def jh(c:AAC):List Int->List Int->List Int
 |[],acc=>acc
 |n::l,acc=>jh c l (if acc.contains (c.getD n.toNat 0)then acc else acc++[c.getD n.toNat 0])
def cf(c:AAC)(l:AAC):Nat:=(jh c l []).length
theorem aP{c:AAC}{q:Int}{l:AAC}(hl:l.length<=8)(hm:∀x∈l,0<=x/\x<c.length):∀(n i:Nat) (acc:AAC),i<=l.length->l.length-i<n->acc.length<=i->
  O_ n l l.length i c q acc=some ((((jh c (l.drop i) acc).length:Int),()),())
 |0,i,_,_,h,_=>by omega
 |n+1,i,acc,hi,h,ha=>by
  simp only[O_,Yp,AB];by_cases hc:i<l.length
  ·have hx:=hm _ (ANM hc)
   rw[AKJ (by omega),AKJ (by omega),Aj hc,drop_cons hc]
   generalize l[i]=x at hx
   rw[AKJ (by omega),I2 (by omega),AL (by omega) (by omega),show((i:Int)+1)=((i+1:Nat):Int)by omega];simp only[ANe,jh];cases AVt:acc.contains (c.getD x.toNat 0)with
   |true=>
    simp only[AMy,ANE,ATt];exact aP hl hm n (i+1) acc (by omega) (by omega) (by omega)
   |false=>
    simp only[ASm,ANa,AL4,AOK];rw[AKJ (by omega),AKJ (by rw[Bf];omega)];exact aP hl hm n (i+1) _ (by omega) (by omega) (by simp_all)
  ·rw[AKT (by omega)]
   grind[jh]
theorem qz{c:ABU}{l:AAC}(hc:c.1.length<=2^40)(hl:l.length<=2^40):Yz c l=some ((if Ay c l then(cf c.1 l:Int)else-1,()),()):=by
 unfold Yz ZD;rw[show(c.1,c.2.1,())=c from rfl,ET hc hl];simp only[ANe];cases h:Ay c l with
 |false=>rfl
 |true=>
  obtain⟨k1,k2,k3,k4,k5⟩:=j9 h;grind[aP,Ae,Ah,cf]
theorem z_{s:List Bool}{k j:Nat}{b:Bool}(h:k<s.length):(s.set k b).getD j false=if k=j then b else s.getD j false:=by
 grind
theorem Z1{c:AAC}{q:Int}{l:AAC}(hl:l.length<=8)(hd:∀d∈c,0<=d/\d<=7)(hm:∀x∈l,0<=x/\x<c.length):∀(n i:Nat) (acc:AAC) (s:List Bool),i<=l.length->l.length-i<n->acc.length<=i->s.length=8->
  (∀j:Nat,j<8->s.getD j false=acc.contains (j:Int))->
  Oj n l acc.length i c q s=some ((((jh c (l.drop i) acc).length:Int),()),())
 |0,i,_,_,_,h,_,_,_=>by omega
 |n+1,i,acc,s,hi,h,ha,hs,hj=>by
  simp only[Oj,Yv,AB];by_cases hc:i<l.length
  ·have hx:=hm _ (ANM hc)
   rw[AKJ (by omega),AKJ (by omega),Aj hc,drop_cons hc]
   generalize l[i]=x at hx
   rw[AKJ (by omega)];have AZO:0<=c.getD x.toNat 0/\c.getD x.toNat 0<=7:=by
    simp_all
   simp only[jh]
   generalize c.getD x.toNat 0=d at AZO
   rw[AKJ (by omega),AL (x:=(i:Int)+1) (by omega) (by omega),show((i:Int)+1)=((i+1:Nat):Int)by omega];have hsd:s.getD d.toNat false=acc.contains d:=by
    grind
   rw[hsd];cases AVt:acc.contains d with
   |true=>
    simp only[AMy,ANE,ATt];exact Z1 hl hd hm n (i+1) acc s (by omega) (by omega) (by omega) hs hj
   |false=>
    simp only[ASm,ANa,AL4,AOK];rw[AKJ (by omega),AL (by omega) (by omega)];have:=Z1 (q:=q) hl hd hm n (i+1) (acc++[d]) (s.set d.toNat true) (by omega) (by omega) (by simp_all) (by simp_all) (fun j hj8=>by
     rw[z_ (by omega),hj j hj8];grind)
    simp_all
  ·rw[AKT (by omega)]
   grind[jh]
theorem eR{c:ABU}{l:AAC}(h:Ay c l=true):VI c l=some (((cf c.1 l:Int),()),()):=by
 obtain⟨k1,k2,k3,k4,k5⟩:=j9 h;unfold VI ZJ;have:=Z1 (c:=c.1) (q:=c.2.1) k3 k5 k4 Ae 0 [] (List.replicate 8 false) (by omega) (Ah (by omega)) (by simp) (by simp) (fun j hj=>by
  grind)
 grind[cf]
def holds(c:ABU)(l:AAC):Bool:=Ay c l&&decide ((cf c.1 l:Int)>=c.2.1)
theorem FF{c:ABU}{l:AAC}(hc:c.1.length<=2^40)(hl:l.length<=2^40):Fa c l=some ((holds c l,()),()):=by
 unfold Fa holds;rw[show(c.1,c.2.1,())=c from rfl,HM hc hl];simp only[ANe];cases h:Ay c l with
 |false=>rfl
 |true=>
  rw[ANa,eR h];rfl
theorem Gj{c:ABU}{l:AAC}(hc:c.1.length<=2^40)(hl:l.length<=2^40):G3 c l=some ((holds c l,()),()):=by
 unfold G3 holds;rw[show(c.1,c.2.1,())=c from rfl,ET hc hl,qz hc hl];simp only[ANe];cases h:Ay c l<;>rfl
theorem PD{c:ABU}{l:AAC}(h:holds c l=true):Ay c l=true:=by
 simp only[holds,ALz]at h;exact h.1
abbrev CP:Type:=List Int×Int×Unit
def Gd:CX:=([],false,0,())
def pM(c:CP)(e:CX):Bool:=holds c e.1&&(BS e.2.2.1 0 60&&(e.2.1||e.2.2.1==0))
theorem so{c:CP}{e:CX}(hc:c.1.length<=2^40)(hl:e.1.length<=2^40):bl c e=some ((pM c e,()),()):=by
 unfold bl pM;rw[show(c.1,c.2.1,())=c from rfl,Gj hc hl];grind[Aw,holds,BS]
def vY(c:CP)(l:List CX)(i:Nat):Bool:=
 pM c (l.getD i Gd)&& !((l.getD i Gd).2.1&&(decide (i+1=l.length)||(decide (0<i)&& !(l.getD (i-1) Gd).2.1)))
def hU(r:AQ):Bool:=r.2.1==0||(BZ r.2.1&&decide (AN r.2.1<=r.1.length))
def NC(c:CP)(r:AQ):Bool:=FJ c&&(decide (r.1.length<=30)&&(hU r&&C4 (vY c r.1) 0 r.1.length))
theorem BM{α:Type}{l:List α}{i:Nat}{d:α}(h:i<l.length):l.getD i d∈l:=by
 simp_all
theorem oc{c:CP}{l:List CX}{tr:Int}(hc:c.1.length<=2^40)(hl:Ag CG l<=2^30):Kx Ae l.length 0 c.1 c.2.1 l tr=some ((C4 (vY c l) 0 l.length,()),()):=by
 have hll:=AY (f:=CG) (l:=l);rw[<-AUO (C4 _ _ _)];refine GO (L:=fun n i=>Kx n l.length i c.1 c.2.1 l tr) (len:=l.length) (p:=vY c l) (fin:=true) (fun n i hi=> ?_) (fun n=> ?_) l.length Ae 0 (by omega) (Ah (by omega))
 ·have hm:=Ab (f:=CG) (BM (d:=Gd) hi)
  simp only[CG]at hm;simp only[Kx,Tq,AB];rw[AKJ (by omega),AKJ (by omega),show(c.1,c.2.1,())=c from rfl,ANJ,show(([],false,0,()):CX)=Gd from rfl,FF hc (by omega),Bl,AL (x:=(i:Int)+1) (by omega) (by omega),
   AL (x:=(l.length:Int)-1) (by omega) (by omega),AL (x:=(i:Int)-1) (by omega) (by omega),show((i:Int)+1)=((i+1:Nat):Int)by omega]
  simp only[ANe,vY,pM];have e1:((i:Int)==(l.length:Int)-1)=decide (i+1=l.length):=by
   grind
  have e2:(((i:Int)-1).toNat)=i-1:=by omega
  grind
 ·simp only[Kx,Tq,AB]
  simp_all
theorem QK{c:CP}{r:AQ}(hc:c.1.length<=2^40)(hl:Ag CG r.1<=2^30)(ht:DR r.2.1):Mn c r=some ((NC c r,()),()):=by
 unfold Mn bI NC hU;rw[show(c.1,c.2.1,())=c from rfl,Hb hc,oc hc hl,IZ ht,FG ht];grind
theorem NP{c:CP}{r:AQ}(hc:c.1.length<=2^40)(hl:Ag CG r.1<=2^30)(ht:DR r.2.1):K6 c r=some ((NC c r,()),()):=by
 have hll:=AY (f:=CG) (l:=r.1);have AFW:Ky Ae r.1 r.1.length 0 c.1 c.2.1 r.1 r.2.1=some ((C4 (vY c r.1) 0 r.1.length&&(FJ c&&(decide (r.1.length<=30)&&hU r)),()),()):=by
  refine GO (L:=fun n i=>Ky n r.1 r.1.length i c.1 c.2.1 r.1 r.2.1) (len:=r.1.length) (p:=vY c r.1) (fin:=FJ c&&(decide (r.1.length<=30)&&hU r)) (fun n i hi=> ?_) (fun n=> ?_) r.1.length Ae 0 (by omega) (Ah (by omega))
  ·have hm:=Ab (f:=CG) (BM (d:=Gd) hi)
   simp only[CG]at hm;simp only[Ky,Tr,AB];rw[AKJ (by omega),AKJ (by omega),show(c.1,c.2.1,())=c from rfl,ANJ,show(([],false,0,()):CX)=Gd from rfl];rw[show((r.1.getD i Gd).1,(r.1.getD i Gd).2.1,(r.1.getD i Gd).2.2.1,())=r.1.getD i Gd from rfl,so hc (by omega),AL (x:=(i:Int)+1) (by omega) (by omega),
    AL (x:=(r.1.length:Int)-1) (by omega) (by omega),AL (x:=(i:Int)-1) (by omega) (by omega),show((i:Int)+1)=((i+1:Nat):Int)by omega]
   simp only[ANe,vY];have e1:((i:Int)==(r.1.length:Int)-1)=decide (i+1=r.1.length):=by
    grind
   have e2:(((i:Int)-1).toNat)=i-1:=by omega
   grind
  ·simp only[Ky,Tr]
   rw[show decide ((r.1.length:Int)<(r.1.length:Int))=false by simp,show(c.1,c.2.1,())=c from rfl,Lq hc,EU ht];simp only[ANE,ANe,Aw,hU];have e1:decide ((r.1.length:Int)<=30)=decide (r.1.length<=30):=by
    grind
   rw[e1];have e4:BS (AN r.2.1) 1 (r.1.length:Int)=(BZ r.2.1&&decide (AN r.2.1<=(r.1.length:Int))):=by
    have hr:=ga (x:=r.2.1);unfold BS;grind
   grind
 grind[K6,ag,NC,FJ,decide,hU,C4,vY]
def AFJ(b:Bool):Int:=if b then 1 else 0
theorem oM(b:Bool):cg b=some ((AFJ b,()),()):=by cases b<;>rfl
def LP:BI:=([],[],false,())
def br(c:CP)(e:BI):Bool:=decide (e.1.length<=40)&&(Ay c e.2.1&&(e.2.2.1==holds c e.2.1))
def RX:List BI->Nat
 |[]=>0
 |e::l=>cond e.2.2.1 0 1+RX l
def le6(n:Nat):Bool:=decide (n<=6)
theorem ABW(o:Nat):decide ((o:Int)<=6)=le6 o:=by
 grind[le6]
def F7(c:CP)(w:AM):Bool:=FJ c&&(BS w.1 1 30&&(decide (w.2.1.length<=60)&&(w.2.1.all (br c)&&le6 (RX w.2.1))))
theorem cw{c:CP}{ep:Int}{l:List BI}(hc:c.1.length<=2^40)(hl:Ag BX l<=2^30):∀(n i o:Nat),i<=l.length->l.length-i<n->o<=i->
  Lu n o i c.1 c.2.1 ep l=some (((l.drop i).all (br c)&&le6 (o+RX (l.drop i)),()),())
 |0,i,_,_,h,_=>by omega
 |n+1,i,o,hi,h,ho=>by
  have hll:=AY (f:=BX) (l:=l);simp only[Lu,Vw,AB];by_cases sZ:i<l.length
  ·have hm:=Ab (f:=BX) (ANM sZ)
   rw[AKJ (by omega),AKJ (by omega),Aj sZ,drop_cons sZ];have ih:=fun o=>cw (ep:=ep) hc hl n (i+1) o (by omega) (by omega)
   generalize l[i]=e at hm
   simp only[BX]at hm;rw[show(c.1,c.2.1,())=c from rfl,HM hc (by omega),FF hc (by omega),AL (x:=(i:Int)+1) (by omega) (by omega),AL (x:=(o:Int)+1) (by omega) (by omega),show((i:Int)+1)=((i+1:Nat):Int)by omega,show((o:Int)+1)=((o+1:Nat):Int)by omega];simp only[ANe,AUc,br,RX];by_cases h40:e.1.length<=40
   ·rw[AKT (by omega),ARS h40,ih o (by omega),ih (o+1) (by omega)]
    cases Ay c e.2.1 with
    |false=>rfl
    |true=>
     cases hd:e.2.2.1 with
     |true=>
      grind
     |false=>
      grind
   grind
  ·rw[AKT (by omega)]
   grind[RX,ABW]
theorem L6{c:CP}{w:AM}(hc:c.1.length<=2^40)(hl:Ag BX w.2.1<=2^30):Hr c w=some ((F7 c w,()),()):=by
 have hll:=AY (f:=BX) (l:=w.2.1);unfold Hr WL F7;have h:=cw (ep:=w.1) hc hl Ae 0 0 (by omega) (Ah (by omega)) (by omega);rw[show((0:Nat):Int)=0 from rfl]at h;rw[show(c.1,c.2.1,())=c from rfl,Hb hc,Bl,h];grind
theorem dD{c:CP}{ep:Int}{l:List BI}(hc:c.1.length<=2^40)(hl:Ag BX l<=2^30):∀(n i o:Nat),i<=l.length->l.length-i<n->o<=i->
  MC n o l l.length i c.1 c.2.1 ep l=some (((l.drop i).all (br c)&&(FJ c&&(BS ep 1 30&&(decide (l.length<=60)&&le6 (o+RX (l.drop i))))),()),())
 |0,i,_,_,h,_=>by omega
 |n+1,i,o,hi,h,ho=>by
  have hll:=AY (f:=BX) (l:=l);simp only[MC,WH];by_cases sZ:i<l.length
  ·have hm:=Ab (f:=BX) (ANM sZ)
   rw[show decide ((i:Int)<(l.length:Int))=true by simp_all,ANa,AKJ (by omega),Aj sZ,drop_cons sZ];have ih:=fun o=>dD (ep:=ep) hc hl n (i+1) o (by omega) (by omega)
   generalize l[i]=e at hm
   simp only[BX]at hm;rw[show(c.1,c.2.1,())=c from rfl,ET hc (by omega),Gj hc (by omega),oM,AL (x:=(i:Int)+1) (by omega) (by omega),show((i:Int)+1)=((i+1:Nat):Int)by omega];simp only[ANe,AUc,br,RX,GV];have e40:decide ((e.1.length:Int)<=40)=decide (e.1.length<=40):=by
    grind
   rw[e40];cases hd:e.2.2.1 with
   |true=>
    rw[show Aa ((o:Int)+AFJ (!true))=(o:Int)by rw[AMy,show AFJ false=0 from rfl,Int.add_zero,AL (by omega) (by omega)],ih o (by omega)];grind
   |false=>
    rw[show Aa ((o:Int)+AFJ (!false))=((o+1:Nat):Int)by rw[ASm,show AFJ true=1 from rfl,AL (by omega) (by omega)];omega,ih (o+1) (by omega)];grind
  ·have:i=l.length:=by omega
   subst this;rw[show decide (((l.length:Nat):Int)<(l.length:Int))=false by simp,show(c.1,c.2.1,())=c from rfl,Lq hc];simp only[ANE,ANe,Hq,Aw,AUj,List.all_nil,RX,AUr,ANP];grind[decide,ABW,FJ,BS]
theorem JJ{c:CP}{w:AM}(hc:c.1.length<=2^40)(hl:Ag BX w.2.1<=2^30):Gn c w=some ((F7 c w,()),()):=by
 have hll:=AY (f:=BX) (l:=w.2.1);unfold Gn V4 F7;have h:=dD (ep:=w.1) hc hl Ae 0 0 (by omega) (Ah (by omega)) (by omega);grind
theorem sC{c:CP}{w:AM}(h:F7 c w=true):FJ c=true/\(1<=w.1/\w.1<=30)/\w.2.1.length<=60/\ ∀e∈w.2.1,br c e=true:=by
 simp only[F7,BS,ALz,ANK,AUY]at h;simp_all
theorem AMP(a b:Int):decide (a<=b)= !decide (b<a):=by
 grind
theorem AXs(n k:Nat):decide ((n:Int)<=(k:Int))=decide (n<=k):=by
 simp_all
theorem ABB(n k:Nat):decide ((n:Int)>(k:Int))= !decide (n<=k):=by
 grind
def BD(x:Int):Int:=cond (BZ x) (x.tmod 4294967296) 0
theorem aO{x:Int}(h:DR x):He x=some ((BD x,()),()):=by
 grind[He,BD,IZ,BZ]
theorem UW{x:Int}(h:DR x):Tx x=some ((BD x,()),()):=by
 grind[Tx,BD,NH,BZ]
abbrev Dz:AJ:=(0,0,false,[],())
def Ei(e:AJ):Bool:=BZ e.1&&(BS e.2.1 0 30&&((!decide (e.2.1>0)||decide (AN e.1<e.2.1))&&(decide (e.2.2.2.1.length<=40)&&(!e.2.2.1||(decide (e.2.1>0)&&e.2.2.2.1==[])))))
theorem Qg{e:AJ}(h:DR e.1):Mg e=some ((Ei e,()),()):=by
 unfold Mg Ei;grind[IZ,Bl,FG,AMP,AN,decide,ABB,BZ,BS]
theorem AWX{x:Int}(h:BS x 0 30=true):(x==0)= !decide (x>0):=by
 simp only[BS,ANK]at h;grind
theorem QZ{e:AJ}(h:DR e.1):Mj e=some ((Ei e,()),()):=by
 unfold Mj Ei GV;rw[NH h,Aw,EU h];simp only[ANe];rw[show decide ((e.2.2.2.1.length:Int)<=40)=decide (e.2.2.2.1.length<=40)from AXs _ 40,show decide (e.2.1>AN e.1)=decide (AN e.1<e.2.1)from rfl];rcases AJ5 (BS e.2.1 0 30)with hi|hi
 all_goals grind[AWX,BZ,decide,AN]
def YJ(l:List AJ):Bool:=C4 (fun i=>Ei (l.getD i Dz)) 0 l.length
def kD(l:List AJ):Bool:=C4 (fun i=>i==0||decide ((l.getD (i-1) Dz).1<(l.getD i Dz).1)) 0 l.length
def s6(l:List AJ):Prop:= ∀e∈l,DR e.1
theorem s6.getD{l:List AJ}(h:s6 l){i:Nat}(hi:i<l.length):DR (l.getD i Dz).1:=h _ (BM hi)
theorem fH{l:List AJ}{k:Nat}(hl:l.length<=2^40)(h:s6 l):VG l k=some ((decide (l.length<=k)&&YJ l,()),()):=by
 unfold VG Zb;have:=GO (L:=fun n i=>L4 n l i) (len:=l.length) (p:=fun i=>Ei (l.getD i Dz)) (fin:=true) (fun n i hi=>by
  simp only[L4,S4,AB];rw[AKJ (by omega),AKJ (by omega),AL (by omega) (by omega),show((i:Int)+1)=((i+1:Nat):Int)by omega];simp only[ANJ];rw[show((l.getD i (0,0,false,[],())).1,(l.getD i (0,0,false,[],())).2.1,(l.getD i (0,0,false,[],())).2.2.1,(l.getD i (0,0,false,[],())).2.2.2.1,())=l.getD i Dz from rfl,Qg (h.getD hi)];simp_all) (fun n=>by
  simp only[L4,S4,AB];simp_all) l.length Ae 0 (by omega) (Ah (by omega))
 rw[show((0:Nat):Int)=0 from rfl]at this;rw[this,ABB,AUO];cases decide (l.length<=k)<;>rfl
theorem gQ{l:List AJ}(hl:l.length<=2^40):Xp l=some ((kD l,()),()):=by
 unfold Xp bW kD;have h1:∀n (i:Nat),0<i->i<l.length->Gh (n+1) l i=cond (i==0||decide ((l.getD (i-1) Dz).1<(l.getD i Dz).1)) (Gh n l ((i+1:Nat):Int)) (some ((false,()),())):=fun n i h0 hi=>by
  simp only[Gh,Pk,AB];rw[AKJ (by omega),AL (x:=(i:Int)-1) (by omega) (by omega),AKJ (by omega),AKJ (by omega),AL (by omega) (by omega),show((i:Int)+1)=((i+1:Nat):Int)by omega];have h1:((i:Int)-1).toNat=i-1:=by omega
  have h2:(i==0)=false:=by grind
  rw[h1,h2,ANJ,ARx];grind
 cases hlen:l.length with
 |zero=>
  obtain⟨m,hm⟩:∃m,Ae=m+1:=⟨Ae-1,by have:=bo;omega⟩;rw[hm];simp only[Gh,Pk,AB];rw[AKT (by omega)];rfl
 |succ k=>
  have:=GO (L:=fun n i=>if(0:Int)<i then Gh n l i else cond (decide (0<n)) (Gh (n-1) l 1) none) (len:=l.length) (p:=fun i=>i==0||decide ((l.getD (i-1) Dz).1<(l.getD i Dz).1)) (fin:=true) (fun n i hi=>by
   simp_all) (fun n=>by
   rw[AKJ (by omega)];simp only[Gh,Pk,AB];simp_all) l.length (Ae+1) 0 (by omega) (by have:=bo;omega)
  simp_all
theorem Yj{l:List AJ}(hl:l.length<=2^40)(h:s6 l):OZ l=some ((YJ l,()),()):=by
 unfold OZ VV;have:=GO (L:=fun n i=>II n l l.length i) (len:=l.length) (p:=fun i=>Ei (l.getD i Dz)) (fin:=true) (fun n i hi=>by
  simp only[II,OM,AB];rw[AKJ (by omega),AKJ (by omega),AL (by omega) (by omega),show((i:Int)+1)=((i+1:Nat):Int)by omega];simp only[ANJ];rw[show((l.getD i (0,0,false,[],())).1,(l.getD i (0,0,false,[],())).2.1,(l.getD i (0,0,false,[],())).2.2.1,(l.getD i (0,0,false,[],())).2.2.2.1,())=l.getD i Dz from rfl,QZ (h.getD hi)];simp_all) (fun n=>by
  simp only[II,OM,AB];simp_all) l.length Ae 0 (by omega) (Ah (by omega))
 rw[show((0:Nat):Int)=0 from rfl]at this;rw[this,AUO];rfl
theorem Uq{l:List AJ}(hl:l.length<=2^40):Kr l=some ((kD l,()),()):=by
 unfold Kr Rg;have:=GO (L:=fun n i=>GM n l l l.length i) (len:=l.length) (p:=fun i=>i==0||decide ((l.getD (i-1) Dz).1<(l.getD i Dz).1)) (fin:=true) (fun n i hi=>by
  simp only[GM,Lv,AB];rw[AKJ (by omega),AKJ (by omega),AL (x:=(i:Int)+1) (by omega) (by omega),show((i:Int)+1)=((i+1:Nat):Int)by omega];by_cases h0:i=0
  ·simp_all
  ·rw[AKJ (by omega),AL (by omega) (by omega),AKJ (by omega)]
   have h1:((i:Int)-1).toNat=i-1:=by omega
   have h2:(i==0)=false:=by simp_all
   rw[h1,h2,ANJ,ARx];grind) (fun n=>by
  simp only[GM,Lv,AB];simp_all) l.length Ae 0 (by omega) (Ah (by omega))
 rw[show((0:Nat):Int)=0 from rfl]at this;rw[this,AUO];rfl
def CI(s:AO):Bool:=(decide (s.1.length<=200)&&YJ s.1)&&((decide (s.2.1.length<=20)&&YJ s.2.1)&&(kD s.1&&BS s.2.2.1 0 30))
def r7(s:AO):Prop:=s6 s.1/\s6 s.2.1
theorem F_{s:AO}(hl:Al s<=2^30)(h:r7 s):Gy s=some ((CI s,()),()):=by
 have l1:=AY (f:=Ar) (l:=s.1);have l2:=AY (f:=Ar) (l:=s.2.1);unfold Al at hl;have e1:=fH (l:=s.1) (k:=200) (by omega) h.1;have e2:=fH (l:=s.2.1) (k:=20) (by omega) h.2;rw[show((200:Nat):Int)=200 from rfl]at e1;rw[show((20:Nat):Int)=20 from rfl]at e2;grind[Gy,CI,gQ,Bl,decide,YJ,kD]
theorem FH{s:AO}(hl:Al s<=2^30)(h:r7 s):FT s=some ((CI s,()),()):=by
 have l1:=AY (f:=Ar) (l:=s.1);have l2:=AY (f:=Ar) (l:=s.2.1);unfold Al at hl;unfold FT CI;rw[Yj (by omega) h.1,Yj (by omega) h.2,Uq (by omega),Aw,show decide ((s.1.length:Int)>200)= !decide (s.1.length<=200)from ABB _ 200,show decide ((s.2.1.length:Int)>20)= !decide (s.2.1.length<=20)from ABB _ 20];grind
theorem mK{L:Nat->Int->Option (ABq×Unit)}{len N:Nat}{p:Nat->Bool}{fin:Bool}(h1:∀n (i:Nat),i<len->L (n+1) i=cond (p i) (L n ((i+1:Nat):Int)) (some ((false,()),())))(h2:∀n,N<=n->L (n+1) (len:Int)=some ((fin,()),())):
  ∀d n i,i+d=len->d+N<n->L n i=some ((C4 p i d&&fin,()),())
 |0,n,i,hd,h=>by
  obtain⟨m,rfl⟩:∃m,n=m+1:=⟨n-1,by omega⟩;have:i=len:=by omega
  subst this;rw[h2 m (by omega)];rfl
 |d+1,n,i,hd,h=>by
  obtain⟨m,rfl⟩:∃m,n=m+1:=⟨n-1,by omega⟩;rw[h1 m i (by omega)];simp only[C4];cases p i with
  |false=>rfl
  |true=>rw[ANa,mK h1 h2 d m (i+1) (by omega) (by omega)];rfl
def LZ(l:List AJ):Int:=cond (l.length==0) 0 (BD (l.getD (l.length-1) Dz).1)
theorem dj{m:Av}(hl:m.2.2.2.1.length<=2^40)(h:s6 m.2.2.2.1):RO m=some ((LZ m.2.2.2.1,()),()):=by
 unfold RO LZ;by_cases h0:m.2.2.2.1.length=0
 ·simp[h0]
 ·have e1:((m.2.2.2.1.length:Int)==0)=false:=by simp_all
  have e2:(m.2.2.2.1.length==0)=false:=by simp_all
  rw[e1,e2];simp only[ANE];rw[AL (by omega) (by omega),AKJ (by omega),show((m.2.2.2.1.length:Int)-1).toNat=m.2.2.2.1.length-1 by omega,aO (h.getD (by omega))];rfl
theorem dW{m:Av}(hl:m.2.2.2.1.length<=2^40)(h:s6 m.2.2.2.1):S7 m=some ((LZ m.2.2.2.1,()),()):=by
 unfold S7 LZ;by_cases h0:m.2.2.2.1.length=0
 ·simp[h0]
 ·have e1:((m.2.2.2.1.length:Int)==0)=false:=by simp_all
  have e2:(m.2.2.2.1.length==0)=false:=by simp_all
  rw[e1,e2];simp only[ANE];rw[AL (by omega) (by omega),AKJ (by omega),show((m.2.2.2.1.length:Int)-1).toNat=m.2.2.2.1.length-1 by omega,UW (h.getD (by omega))];rfl
def uf(l:List AJ)(ep by_:Int)(i:Nat):Bool:=Ei (l.getD i Dz)&&((AN (l.getD i Dz).1==ep)&&decide ((l.getD i Dz).2.1<by_))
def ug(l:List AJ)(ep by_:Int):Bool:=C4 (uf l ep by_) 0 l.length
def q8(c:CP)(l:List AAC):Bool:=C4 (fun i=>Ay c (l.getD i [])) 0 l.length
def HN(c:CP)(m:Av):Bool:=FJ c&&(BS m.2.1 1 30&&(BS m.1 (m.2.1+1) 30&&(Ay c m.2.2.1&&(kD m.2.2.2.1&&(ug m.2.2.2.1 m.2.1 m.1&&(q8 c m.2.2.2.2.2.1&&((m.2.2.2.2.2.1.length:Int)==cond m.2.2.2.2.1 (LZ m.2.2.2.1) 0)))))))
theorem Jm{c:CP}{m:Av}(hc:c.1.length<=2^40)(hm:CO m<=2^30)(h:s6 m.2.2.2.1):I6 c m=some ((HN c m,()),()):=by
 have l1:=AY (f:=Ar) (l:=m.2.2.2.1);have l2:=AY (f:=DK) (l:=m.2.2.2.2.2.1);unfold CO at hm;have wr:∀n,m.2.2.2.2.2.1.length+1<=n->H8 n 0 c.1 c.2.1 m.1 m.2.1 m.2.2.1 m.2.2.2.1 m.2.2.2.2.1 m.2.2.2.2.2.1=some ((q8 c m.2.2.2.2.2.1&&((m.2.2.2.2.2.1.length:Int)==cond m.2.2.2.2.1 (LZ m.2.2.2.1) 0),()),()):=fun n hn=>by
  refine GO (L:=fun n i=>H8 n i c.1 c.2.1 m.1 m.2.1 m.2.2.1 m.2.2.2.1 m.2.2.2.2.1 m.2.2.2.2.2.1) (len:=m.2.2.2.2.2.1.length) (p:=fun i=>Ay c (m.2.2.2.2.2.1.getD i [])) (fin:=(m.2.2.2.2.2.1.length:Int)==cond m.2.2.2.2.1 (LZ m.2.2.2.1) 0) (fun n i hi=> ?_) (fun n=> ?_) m.2.2.2.2.2.1.length n 0 (by omega) (by omega)
  ·have hwi:(m.2.2.2.2.2.1.getD i []).length<=Ag DK m.2.2.2.2.2.1:=Ab (f:=DK) (BM (d:=[]) hi)
   simp only[H8,SL,AB];rw[AKJ (by omega),AKJ (by omega),AL (by omega) (by omega),show((i:Int)+1)=((i+1:Nat):Int)by omega,ANJ,show(c.1,c.2.1,())=c from rfl,HM hc (by omega)];simp_all
  ·simp only[H8,SL,AB]
   rw[AKT (by omega),VO m,dj (by omega) h];grind
 have se:=mK (L:=fun n i=>Jl n i c.1 c.2.1 m.1 m.2.1 m.2.2.1 m.2.2.2.1 m.2.2.2.2.1 m.2.2.2.2.2.1) (len:=m.2.2.2.1.length) (N:=m.2.2.2.2.2.1.length+1) (p:=uf m.2.2.2.1 m.2.1 m.1) (fin:=q8 c m.2.2.2.2.2.1&&((m.2.2.2.2.2.1.length:Int)==cond m.2.2.2.2.1 (LZ m.2.2.2.1) 0)) (fun n i hi=>by
   simp only[Jl,Sb,AB,uf];have hb:(0:Int)<=(i:Int)/\(i:Int)<(m.2.2.2.1.length:Int):=by omega
   rw[AKJ hb.2,AL (by omega) (by omega),show((i:Int)+1)=((i+1:Nat):Int)by omega,ANJ];simp only[AKJ hb];rw[show((m.2.2.2.1.getD i (0,0,false,[],())).1,(m.2.2.2.1.getD i (0,0,false,[],())).2.1,(m.2.2.2.1.getD i (0,0,false,[],())).2.2.1,(m.2.2.2.1.getD i (0,0,false,[],())).2.2.2.1,())=m.2.2.2.1.getD i Dz from rfl,Qg (h.getD hi),FG (h.getD hi)];grind) (fun n hn=>by
   simp only[Jl,Sb,AB];simp_all) m.2.2.2.1.length Ae 0 (by omega) (Ah (by omega))
 rw[show((0:Nat):Int)=0 from rfl]at se;unfold I6 Yh HN;rw[show(c.1,c.2.1,())=c from rfl,Hb hc,Bl,Bl,HM hc (by omega),gQ (by omega),se];simp only[ANe];rcases AJ5 (BS m.2.1 1 30)with hi|hi
 ·have hi2:=hi
  simp only[BS,ANK]at hi2;rw[AL (by omega) (by omega),hi];cases FJ c<;>cases BS m.1 (m.2.1+1) 30<;>cases Ay c m.2.2.1<;>cases kD m.2.2.2.1<;>rfl
 simp_all
theorem py{m:Av}(hm:CO m<=2^30)(h:s6 m.2.2.2.1):VC m=some ((ug m.2.2.2.1 m.2.1 m.1&&kD m.2.2.2.1,()),()):=by
 have l1:=AY (f:=Ar) (l:=m.2.2.2.1);unfold CO at hm;unfold VC ZT;exact GO (L:=fun n i=>MD n m.2.2.2.1 m.2.2.2.1.length i m.1 m.2.1 m.2.2.1 m.2.2.2.1 m.2.2.2.2.1 m.2.2.2.2.2.1) (len:=m.2.2.2.1.length) (p:=uf m.2.2.2.1 m.2.1 m.1) (fin:=kD m.2.2.2.1) (fun n i hi=>by
  simp only[MD,Sr,AB,uf];rw[AKJ (by omega),AKJ (by omega),AL (by omega) (by omega),show((i:Int)+1)=((i+1:Nat):Int)by omega,ANJ];rw[show((m.2.2.2.1.getD i (0,0,false,[],())).1,(m.2.2.2.1.getD i (0,0,false,[],())).2.1,(m.2.2.2.1.getD i (0,0,false,[],())).2.2.1,(m.2.2.2.1.getD i (0,0,false,[],())).2.2.2.1,())=m.2.2.2.1.getD i Dz from rfl,QZ (h.getD hi),EU (h.getD hi)];grind) (fun n=>by
  simp only[MD,Sr,AB];rw[AKT (by omega),Uq (by omega)];rfl) m.2.2.2.1.length Ae 0 (by omega) (Ah (by omega))
theorem H0{c:CP}{m:Av}(hc:c.1.length<=2^40)(hm:CO m<=2^30)(h:s6 m.2.2.2.1):Hw c m=some ((HN c m,()),()):=by
 have l1:=AY (f:=Ar) (l:=m.2.2.2.1);have l2:=AY (f:=DK) (l:=m.2.2.2.2.2.1);have hm2:=hm;unfold CO at hm;have key:=GO (L:=fun n i=>Lk n m.2.2.2.2.2.1 m.2.2.2.2.2.1.length i c.1 c.2.1 m.1 m.2.1 m.2.2.1 m.2.2.2.1 m.2.2.2.2.1 m.2.2.2.2.2.1) (len:=m.2.2.2.2.2.1.length) (p:=fun i=>Ay c (m.2.2.2.2.2.1.getD i []))
  (fin:=FJ c&&(BS m.2.1 1 30&&(BS m.1 (m.2.1+1) 30&&(Ay c m.2.2.1&&((ug m.2.2.2.1 m.2.1 m.1&&kD m.2.2.2.1)&&((m.2.2.2.2.2.1.length:Int)==cond m.2.2.2.2.1 (LZ m.2.2.2.1) 0)))))) (fun n i hi=>by
   have hwi:(m.2.2.2.2.2.1.getD i []).length<=Ag DK m.2.2.2.2.2.1:=Ab (f:=DK) (BM (d:=[]) hi);simp only[Lk,Rr,AB];rw[AKJ (by omega),AKJ (by omega),AL (x:=(i:Int)+1) (by omega) (by omega),show((i:Int)+1)=((i+1:Nat):Int)by omega,ANJ,show(c.1,c.2.1,())=c from rfl,ET hc (by omega)];simp_all) (fun n=>by
   simp only[Lk,Rr,AB];rw[AKT (by omega),VO m,dW (by omega) h,show(c.1,c.2.1,())=c from rfl,Lq hc,ET hc (by omega),py hm2 h];simp only[ANe,Hq,Aw];rcases AJ5 (BS m.2.1 1 30)with hi|hi
   ·have hi2:=hi
    simp only[BS,ANK]at hi2;grind[AL,FJ,BS,Ay,ug,kD]
   simp_all) m.2.2.2.2.2.1.length Ae 0 (by omega) (Ah (by omega))
 unfold Hw ZK HN;rw[show((0:Nat):Int)=0 from rfl]at key;grind[q8,C4,Ay,FJ,BS,ug,kD]
theorem AGa{x:Int}{l:AAC}(hl:l.length<=2^40):∃r,NO [x] l=some (((),()),(r,()))/\decide ((r.length:Int)>0)=l.contains x:=by
 obtain⟨m,hm⟩:∃m,Ae=m+2:=⟨Ae-2,by have:=bo;omega⟩;unfold NO DT;rw[AKJ (by rw[Bf];simp)];simp only[ANe];unfold Cy EC Du EJ;rw[hm];simp only[CD,EG,Ra,AN9,AQL,AB];rw[AKJ (by omega),AKJ (by omega)];simp only[Int.toNat_zero,List.getD_cons_zero];rw[I2 hl];simp only[ANe];cases l.contains x with
 |true=>
  simp only[AMy,ANE];rw[AL (x:=0+1) (by omega) (by omega),AKT (by omega)];simp_all
 |false=>
  simp only[ASm,ANa,ANe];rw[AL (x:=0+1) (by omega) (by omega)];simp only[B6,EA,AB,AN9,AQL];simp_all
theorem bA{w:AA}{x:Int}(hl:w.2.2.2.1.length<=2^40):DI w x=some ((w.2.2.2.1.contains x,()),()):=by
 unfold DI;obtain⟨r,h1,h2⟩:=AGa (x:=x) hl;simp_all
theorem Kl{l:AAC}{x:Int}(hl:l.length<=2^40):DV l x=some ((l.contains x,()),()):=by
 have key:∀(n i:Nat),i<=l.length->l.length-i<n->QN n l x i=some (((l.drop i).contains x,()),()):=by
  intro n
  induction n with
  |zero=>omega
  |succ n ih=>
   intro i hi h;simp only[QN,bQ,AB];by_cases hc:i<l.length
   ·rw[AKJ (by omega),AKJ (by omega),AL (by omega) (by omega),show((i:Int)+1)=((i+1:Nat):Int)by omega,Aj hc,drop_cons hc,ih (i+1) (by omega) (by omega)]
    simp only[List.contains_cons];by_cases he:l[i]=x
    all_goals grind
   grind
 grind[DV,an,Ae,Ah]
def X9(l:List CX):Nat->Nat->Int
 |_,0=>0
 |i,d+1=>cond (!(l.getD i ([],false,0,())).2.1) ((i:Int)+1) (X9 l (i+1) d)
def BF(l:List CX):Int:=X9 l 0 l.length
theorem Nw{r:AQ}(hl:r.1.length<=2^40):Jc r=some ((BF r.1,()),()):=by
 have key:∀(d n i:Nat),i+d=r.1.length->d<n->IP n i r.1 r.2.1=some ((X9 r.1 i d,()),()):=by
  intro d
  induction d with
  |zero=>
   intro n i hi hn;obtain⟨m,rfl⟩:∃m,n=m+1:=⟨n-1,by omega⟩;simp only[IP,PB,AB,X9];simp_all
  |succ d ih=>
   intro n i hi hn;obtain⟨m,rfl⟩:∃m,n=m+1:=⟨n-1,by omega⟩;simp only[IP,PB,AB,X9];rw[AKJ (by omega),AKJ (by omega),AL (by omega) (by omega),show((i:Int)+1)=((i+1:Nat):Int)by omega,ih m (i+1) (by omega) (by omega),ANJ];grind
 grind[Jc,U4,BF,Ae,Ah]
theorem SX{r:AQ}(hl:r.1.length<=2^40):MF r=some ((BF r.1,()),()):=by
 have key:∀(d n i:Nat),i+d=r.1.length->d<n->IL n r.1 r.1.length i=some ((X9 r.1 i d,()),()):=by
  intro d
  induction d with
  |zero=>
   intro n i hi hn;obtain⟨m,rfl⟩:∃m,n=m+1:=⟨n-1,by omega⟩;simp only[IL,Oi,AB,X9];simp_all
  |succ d ih=>
   intro n i hi hn;obtain⟨m,rfl⟩:∃m,n=m+1:=⟨n-1,by omega⟩;simp only[IL,Oi,AB,X9];rw[AKJ (by omega),AKJ (by omega),AL (by omega) (by omega),show((i:Int)+1)=((i+1:Nat):Int)by omega,ih m (i+1) (by omega) (by omega),ANJ];grind
 grind[MF,VM,BF,Ae,Ah]
structure gG (w:AA):Prop where
 weight:C0 w<=2^20
 Ao:∀s∈w.2.2.1,r7 s
 trim:DR w.2.2.2.2.2.1
 Bg:∀m∈w.2.2.2.2.2.2.2.1,s6 m.2.2.2.1
 HD:∀s∈w.2.2.2.2.2.2.2.2.2.1,DR s.1
abbrev Cz:AO:=([],[],0,())
abbrev B7:AM:=(0,[],())
abbrev Rb:Av:=(0,0,[],[],false,[],())
abbrev AW:AZ:=(0,0,[],())
abbrev JZ:Ac:=(0,[],false,())
def AU(w:AA):CP:=(w.1,w.2.1,())
def CA(w:AA):AQ:=(w.2.2.2.2.1,w.2.2.2.2.2.1,())
def mW(w:AA)(i:Nat):Bool:=CI (w.2.2.1.getD i Cz)&&(!w.2.2.2.1.contains (i:Int)||((w.2.2.1.getD i Cz).1.length==0&&((w.2.2.1.getD i Cz).2.1.length==0&&(w.2.2.1.getD i Cz).2.2.1==0)))
def fV(w:AA)(i:Nat):Bool:=F7 (AU w) (w.2.2.2.2.2.2.1.getD i B7)&&(decide ((w.2.2.2.2.2.2.1.getD i B7).1<=(w.2.2.2.2.1.length:Int))&&(i==0||decide ((w.2.2.2.2.2.2.1.getD (i-1) B7).1<(w.2.2.2.2.2.2.1.getD i B7).1)))
def uq(w:AA)(i:Nat):Bool:=HN (AU w) (w.2.2.2.2.2.2.2.1.getD i Rb)&&(((w.2.2.2.2.2.2.2.1.getD i Rb).1==(w.2.2.2.2.1.length:Int))&&((w.2.2.2.2.2.2.2.1.getD i Rb).2.1==BF w.2.2.2.2.1))
def uI(w:AA)(i:Nat):Bool:=(BZ (w.2.2.2.2.2.2.2.2.2.1.getD i JZ).1&&decide (AN (w.2.2.2.2.2.2.2.2.2.1.getD i JZ).1<=(w.2.2.2.2.1.length:Int)))&&(decide ((w.2.2.2.2.2.2.2.2.2.1.getD i JZ).2.1.length<=40)&&(i==0||decide ((w.2.2.2.2.2.2.2.2.2.1.getD (i-1) JZ).1<(w.2.2.2.2.2.2.2.2.2.1.getD i JZ).1)))
def fY(w:AA):Bool:=C4 (mW w) 0 w.2.2.1.length
def bF(w:AA):Bool:=C4 (fV w) 0 w.2.2.2.2.2.2.1.length
def gk(w:AA):Bool:=C4 (uq w) 0 w.2.2.2.2.2.2.2.1.length
def ui(w:AA):Bool:=C4 (uI w) 0 w.2.2.2.2.2.2.2.2.2.1.length
def bB(w:AA):Bool:=decide (w.2.2.2.2.2.2.2.2.1.length=2)&&(Xk (w.2.2.2.2.2.2.2.2.1.getD 0 AW)&&Xk (w.2.2.2.2.2.2.2.2.1.getD 1 AW))
def Dv(w:AA):Bool:=FJ (AU w)&&(decide (w.2.2.1.length=w.1.length)&&(Ay (AU w) w.2.2.2.1&&((w.2.2.2.2.2.2.2.2.2.2.1|| !holds (AU w) w.2.2.2.1)&&(fY w&&(NC (AU w) (CA w)&&(decide (w.2.2.2.2.2.2.1.length<=4)&&(decide (w.2.2.2.2.2.2.2.1.length<=1)&&(bF w&&(gk w&&(bB w&&(decide (w.2.2.2.2.2.2.2.2.2.1.length<=120)&&ui w)))))))))))
section
variable{w:AA} (h:gG w)
include h
theorem gG.lens:w.1.length<=2^20/\Ag Al w.2.2.1<=2^20/\w.2.2.2.1.length<=2^20/\Ag CG w.2.2.2.2.1<=2^20/\Ag Au w.2.2.2.2.2.2.1<=2^20/\Ag CO w.2.2.2.2.2.2.2.1<=2^20/\Ag A_ w.2.2.2.2.2.2.2.2.1<=2^20/\Ag EL w.2.2.2.2.2.2.2.2.2.1<=2^20:=by
 have:=h.weight;grind[C0]
theorem gG.N4:w.2.2.1.length<=2^20/\w.2.2.2.2.1.length<=2^20/\w.2.2.2.2.2.2.1.length<=2^20/\w.2.2.2.2.2.2.2.1.length<=2^20/\w.2.2.2.2.2.2.2.2.1.length<=2^20/\w.2.2.2.2.2.2.2.2.2.1.length<=2^20:=by
 have k:=h.lens;grind[AY,Al,CG,Au,CO,A_,EL]
theorem gG.cfg:(AU w).1.length<=2^40:=by
 have:=h.lens
 show w.1.length<=2^40
 omega
theorem yI:LH w=some ((decide (w.2.2.1.length=w.1.length)&&(Ay (AU w) w.2.2.2.1&&(fY w&&(w.2.2.2.2.2.2.2.2.2.2.1|| !holds (AU w) w.2.2.2.1))),()),()):=by
 have k1:=h.lens;have k2:=h.N4;have key:=GO (L:=fun n i=>FN n w w.2.2.1 w.2.2.1.length i) (len:=w.2.2.1.length) (p:=mW w) (fin:=w.2.2.2.2.2.2.2.2.2.2.1|| !holds (AU w) w.2.2.2.1) (fun n i hi=>by
  have hm:=BM (d:=Cz) hi;have hw:=Ab (f:=Al) hm;simp only[FN,KA,AB,mW];rw[AKJ (by omega),AKJ (by omega),AL (x:=(i:Int)+1) (by omega) (by omega),show((i:Int)+1)=((i+1:Nat):Int)by omega,ANJ,bA (by omega)];rw[show((w.2.2.1.getD i ([],[],0,())).1,(w.2.2.1.getD i ([],[],0,())).2.1,(w.2.2.1.getD i ([],[],0,())).2.2.1,())=w.2.2.1.getD i Cz from rfl,FH (by omega) (h.Ao _ hm)];simp only[ANe]
  show cond (!CI (w.2.2.1.getD i Cz)) _ _=_
  rcases AJ5 (CI (w.2.2.1.getD i Cz))with hs|hs
  rotate_left
  ·simp_all
  rw[hs];have hs2:=hs;simp only[CI,BS,ALz,ANK]at hs2
  generalize w.2.2.1.getD i Cz=s at hw hs2
  cases w.2.2.2.1.contains ((i:Nat):Int)with
  |false=>rfl
  |true=>
   simp only[AMy,ANE,ANa,ANP,ARx];unfold Al at hw;have q1:=AY (f:=Ar) (l:=s.1);have q2:=AY (f:=Ar) (l:=s.2.1);rw[AL (x:=(s.1.length:Int)+_) (by omega) (by omega),AL (by omega) (by omega)];grind) (fun n=>by
  simp only[FN,KA,AB];rw[AKT (by omega),show(w.1,w.2.1,())=AU w from rfl,Gj h.cfg (by omega)];grind) w.2.2.1.length Ae 0 (by omega) (Ah (by omega))
 rw[show((0:Nat):Int)=0 from rfl]at key;unfold LH Pw fY;rw[show(w.1,w.2.1,())=AU w from rfl,ET h.cfg (by omega),key];grind[decide_eq_true,Ay,AU,decide_eq_false]
end
theorem AB1{x lo hi:Int}(h:lo<=x):BS x lo hi=decide (x<=hi):=by
 grind[BS,decide_eq_true,decide_eq_false]
theorem AEp{x lo hi:Int}(h:x<lo):BS x lo hi=false:=by
 grind[BS,decide_eq_false]
section
variable{w:AA} (h:gG w)
include h
theorem u_:Kc w=some ((bF w&&decide (w.2.2.2.2.2.2.1.length<=4),()),()):=by
 have k1:=h.lens;have k2:=h.N4;have key:=GO (L:=fun n i=>Es n w w.2.2.2.2.2.2.1 w.2.2.2.2.2.2.1.length i) (len:=w.2.2.2.2.2.2.1.length) (p:=fV w) (fin:=decide (w.2.2.2.2.2.2.1.length<=4)) (fun n i hi=>by
  have hm:=BM (d:=B7) hi;have hw:=Ab (f:=Au) hm;unfold Au at hw;simp only[Es,JX,AB,fV,Jq,Aw];rw[AKJ (by omega),AKJ (by omega),AL (x:=(i:Int)+1) (by omega) (by omega),show((i:Int)+1)=((i+1:Nat):Int)by omega,ANJ];have hw2:Ag BX (w.2.2.2.2.2.2.1.getD i B7).2.1<=2^30:=by
   have:=k1.2.2.2.2.1;unfold Au at this;omega
  rw[show((w.2.2.2.2.2.2.1.getD i (0,[],())).1,(w.2.2.2.2.2.2.1.getD i (0,[],())).2.1,())=w.2.2.2.2.2.2.1.getD i B7 from rfl,show(w.1,w.2.1,())=AU w from rfl,JJ h.cfg hw2];simp only[ANe];rcases AJ5 (F7 (AU w) (w.2.2.2.2.2.2.1.getD i B7))with hs|hs
  rotate_left
  ·simp_all
  have he:=(sC hs).2.1;rw[hs,show BS (w.2.2.2.2.2.2.1.getD i (0,[],())).1 1 (w.2.2.2.2.1.length:Int)=decide ((w.2.2.2.2.2.2.1.getD i B7).1<=(w.2.2.2.2.1.length:Int))from AB1 he.1];simp only[AMy,ANE,ANP];cases decide ((w.2.2.2.2.2.2.1.getD i B7).1<=(w.2.2.2.2.1.length:Int))with
  |false=>rfl
  |true=>
   simp only[AMy,ANE,ANP];by_cases h0:i=0
   ·simp_all
   ·rw[AKJ (by omega),AL (by omega) (by omega),AKJ (by omega)]
    have h1:((i:Int)-1).toNat=i-1:=by omega
    have h2:(i==0)=false:=by simp_all
    rw[h1,h2,ARx];grind) (fun n=>by
  simp only[Es,JX,AB];simp_all;omega) w.2.2.2.2.2.2.1.length Ae 0 (by omega) (Ah (by omega))
 rw[show((0:Nat):Int)=0 from rfl]at key;grind[Kc,O1,bF]
theorem AA3:Mi w=some ((gk w&&decide (w.2.2.2.2.2.2.2.1.length<=1),()),()):=by
 have k1:=h.lens;have k2:=h.N4;have key:=GO (L:=fun n i=>Fq n w w.2.2.2.2.2.2.2.1 w.2.2.2.2.2.2.2.1.length i) (len:=w.2.2.2.2.2.2.2.1.length) (p:=uq w) (fin:=decide (w.2.2.2.2.2.2.2.1.length<=1)) (fun n i hi=>by
  have hm:=BM (d:=Rb) hi;have hw:=Ab (f:=CO) hm;simp only[Fq,Kz,AB,uq];rw[AKJ (by omega),AKJ (by omega),AL (x:=(i:Int)+1) (by omega) (by omega),show((i:Int)+1)=((i+1:Nat):Int)by omega,ANJ];rw[show((w.2.2.2.2.2.2.2.1.getD i (0,0,[],[],false,[],())).1,(w.2.2.2.2.2.2.2.1.getD i (0,0,[],[],false,[],())).2.1,(w.2.2.2.2.2.2.2.1.getD i (0,0,[],[],false,[],())).2.2.1,(w.2.2.2.2.2.2.2.1.getD i (0,0,[],[],false,[],())).2.2.2.1,(w.2.2.2.2.2.2.2.1.getD i (0,0,[],[],false,[],())).2.2.2.2.1,(w.2.2.2.2.2.2.2.1.getD i (0,0,[],[],false,[],())).2.2.2.2.2.1,())=w.2.2.2.2.2.2.2.1.getD i Rb from rfl,show(w.1,w.2.1,())=AU w from rfl,H0 h.cfg (by omega) (h.Bg _ hm)];rw[SX (by grind)];grind) (fun n=>by
  simp only[Fq,Kz,AB];simp_all;omega) w.2.2.2.2.2.2.2.1.length Ae 0 (by omega) (Ah (by omega))
 rw[show((0:Nat):Int)=0 from rfl]at key;grind[Mi,P_,gk]
theorem vj:Km w=some ((bB w,()),()):=by
 have k2:=h.N4;have key:=GO (L:=fun n i=>Er n w w.2.2.2.2.2.2.2.2.1 w.2.2.2.2.2.2.2.2.1.length i) (len:=w.2.2.2.2.2.2.2.2.1.length) (p:=fun i=>Xk (w.2.2.2.2.2.2.2.2.1.getD i AW)) (fin:=((w.2.2.2.2.2.2.2.2.1.length:Int)==2)) (fun n i hi=>by
  simp only[Er,Jk,AB];rw[AKJ (by omega),AKJ (by omega),AL (x:=(i:Int)+1) (by omega) (by omega),show((i:Int)+1)=((i+1:Nat):Int)by omega,ANJ];rw[show((w.2.2.2.2.2.2.2.2.1.getD i (0,0,[],())).1,(w.2.2.2.2.2.2.2.2.1.getD i (0,0,[],())).2.1,(w.2.2.2.2.2.2.2.2.1.getD i (0,0,[],())).2.2.1,())=w.2.2.2.2.2.2.2.2.1.getD i AW from rfl,bK];simp_all) (fun n=>by
  simp only[Er,Jk,AB];simp_all) w.2.2.2.2.2.2.2.2.1.length Ae 0 (by omega) (Ah (by omega))
 rw[show((0:Nat):Int)=0 from rfl]at key;unfold Km OS bB;grind[C4,decide_eq_false]
theorem ADM:N3 w=some ((ui w&&decide (w.2.2.2.2.2.2.2.2.2.1.length<=120),()),()):=by
 have k2:=h.N4;have key:=GO (L:=fun n i=>GL n w w.2.2.2.2.2.2.2.2.2.1 w.2.2.2.2.2.2.2.2.2.1.length i) (len:=w.2.2.2.2.2.2.2.2.2.1.length) (p:=uI w) (fin:=decide (w.2.2.2.2.2.2.2.2.2.1.length<=120)) (fun n i hi=>by
  have hm:=BM (d:=JZ) hi;have P7:DR (w.2.2.2.2.2.2.2.2.2.1.getD i (0,[],false,())).1:=h.HD _ hm;simp only[GL,MG,AB,uI,Jq,Aw,GV];rw[AKJ (by omega),AKJ (by omega),AL (x:=(i:Int)+1) (by omega) (by omega),show((i:Int)+1)=((i+1:Nat):Int)by omega,ANJ,EU P7];simp only[ANe];have e1:BS (AN (w.2.2.2.2.2.2.2.2.2.1.getD i (0,[],false,())).1) 1 (w.2.2.2.2.1.length:Int)=(BZ (w.2.2.2.2.2.2.2.2.2.1.getD i JZ).1&&decide (AN (w.2.2.2.2.2.2.2.2.2.1.getD i JZ).1<=(w.2.2.2.2.1.length:Int))):=by
   show BS (AN (w.2.2.2.2.2.2.2.2.2.1.getD i JZ).1) 1 (w.2.2.2.2.1.length:Int)=_
   have hr:=ga (x:=(w.2.2.2.2.2.2.2.2.2.1.getD i JZ).1);rcases AJ5 (BZ (w.2.2.2.2.2.2.2.2.2.1.getD i JZ).1)with hp|hp
   ·rw[hp,AB1 (hr.1 hp).1,ANP]
   ·rw[hp,hr.2 hp,AEp (by omega),AUG]
  rw[e1,show decide ((((w.2.2.2.2.2.2.2.2.2.1.getD i (0,[],false,())).2.1.length:Nat):Int)<=40)=decide ((w.2.2.2.2.2.2.2.2.2.1.getD i JZ).2.1.length<=40)from AXs _ 40];cases(BZ (w.2.2.2.2.2.2.2.2.2.1.getD i JZ).1&&decide (AN (w.2.2.2.2.2.2.2.2.2.1.getD i JZ).1<=(w.2.2.2.2.1.length:Int)))with
  |false=>rfl
  |true=>
   cases decide ((w.2.2.2.2.2.2.2.2.2.1.getD i JZ).2.1.length<=40)with
   |false=>rfl
   |true=>
    simp only[AMy,ANE,ANP];by_cases h0:i=0
    ·simp_all
    ·rw[AKJ (by omega),AL (by omega) (by omega),AKJ (by omega)]
     have h1:((i:Int)-1).toNat=i-1:=by omega
     have h2:(i==0)=false:=by simp_all
     rw[h1,h2,ARx];grind) (fun n=>by
  simp only[GL,MG,AB];simp_all;omega) w.2.2.2.2.2.2.2.2.2.1.length Ae 0 (by omega) (Ah (by omega))
 rw[show((0:Nat):Int)=0 from rfl]at key;grind[N3,RU,ui]
theorem FE:Ca w=some ((Dv w,()),()):=by
 have k1:=h.lens;unfold Ca Dv;rw[HJ w,show(w.1,w.2.1,())=AU w from rfl,show(w.2.2.2.2.1,w.2.2.2.2.2.1,())=CA w from rfl];rw[Lq h.cfg,yI h,NP h.cfg (by show Ag CG w.2.2.2.2.1<=_;omega) h.trim,u_ h,AA3 h,vj h,ADM h];grind
end
section
variable{w:AA} (h:gG w)
include h
theorem yd:Uj w=some ((FJ (AU w)&&(decide (w.2.2.1.length=w.1.length)&&(Ay (AU w) w.2.2.2.1&&((w.2.2.2.2.2.2.2.2.2.2.1|| !holds (AU w) w.2.2.2.1)&&fY w))),()),()):=by
 have k1:=h.lens;have k2:=h.N4;have key:=GO (L:=fun n i=>JV n i w.1 w.2.1 w.2.2.1 w.2.2.2.1 w.2.2.2.2.1 w.2.2.2.2.2.1 w.2.2.2.2.2.2.1 w.2.2.2.2.2.2.2.1 w.2.2.2.2.2.2.2.2.1 w.2.2.2.2.2.2.2.2.2.1 w.2.2.2.2.2.2.2.2.2.2.1) (len:=w.2.2.1.length) (p:=mW w) (fin:=true) (fun n i hi=>by
  have hm:=BM (d:=Cz) hi;have hw:=Ab (f:=Al) hm;simp only[JV,Px,AB,mW];have hb:(0:Int)<=(i:Int)/\(i:Int)<(w.2.2.1.length:Int):=by omega
  rw[AKJ hb.2,AL (x:=(i:Int)+1) (by omega) (by omega),show((i:Int)+1)=((i+1:Nat):Int)by omega,ANJ,Kl (by omega)];simp only[AKJ hb];rw[show((w.2.2.1.getD i ([],[],0,())).1,(w.2.2.1.getD i ([],[],0,())).2.1,(w.2.2.1.getD i ([],[],0,())).2.2.1,())=w.2.2.1.getD i Cz from rfl,F_ (by omega) (h.Ao _ hm)];simp only[ANe]
  show cond (!CI (w.2.2.1.getD i Cz)) _ _=_
  cases CI (w.2.2.1.getD i Cz)with
  |false=>rfl
  |true=>
   cases w.2.2.2.1.contains ((i:Nat):Int)with
   |false=>rfl
   |true=>
    simp only[bq,AMy,ANE,ANa,ANP,ARx];have e1:∀n:Nat,((n:Int)==0)=(n==0):=fun n=>by
     grind
    grind) (fun n=>by
  simp only[JV,Px,AB];simp_all) w.2.2.1.length Ae 0 (by omega) (Ah (by omega))
 rw[show((0:Nat):Int)=0 from rfl]at key;unfold Uj V3 fY;rw[show(w.1,w.2.1,())=AU w from rfl,Hb h.cfg,HM h.cfg (by omega),FF h.cfg (by omega),key];simp only[ANe,AUO];grind[decide_eq_true,FJ,AU,Ay,holds,decide_eq_false]
theorem vp:SD w=some ((NC (AU w) (CA w)&&(decide (w.2.2.2.2.2.2.1.length<=4)&&(decide (w.2.2.2.2.2.2.2.1.length<=1)&&(bF w&&gk w))),()),()):=by
 have k1:=h.lens;have k2:=h.N4;have me:∀n,w.2.2.2.2.2.2.2.1.length+1<=n->Ez n (w.2.2.2.2.1.length:Int) 0 w.1 w.2.1 w.2.2.1 w.2.2.2.1 w.2.2.2.2.1 w.2.2.2.2.2.1 w.2.2.2.2.2.2.1 w.2.2.2.2.2.2.2.1 w.2.2.2.2.2.2.2.2.1 w.2.2.2.2.2.2.2.2.2.1 w.2.2.2.2.2.2.2.2.2.2.1=some ((gk w,()),()):=fun n hn=>by
  have key:=GO (L:=fun n i=>Ez n (w.2.2.2.2.1.length:Int) i w.1 w.2.1 w.2.2.1 w.2.2.2.1 w.2.2.2.2.1 w.2.2.2.2.2.1 w.2.2.2.2.2.2.1 w.2.2.2.2.2.2.2.1 w.2.2.2.2.2.2.2.2.1 w.2.2.2.2.2.2.2.2.2.1 w.2.2.2.2.2.2.2.2.2.2.1) (len:=w.2.2.2.2.2.2.2.1.length) (p:=uq w) (fin:=true) (fun n i hi=>by
   have hm:=BM (d:=Rb) hi;have hw:=Ab (f:=CO) hm;simp only[Ez,NZ,AB,uq];rw[AKJ (by omega),AKJ (by omega),AL (x:=(i:Int)+1) (by omega) (by omega),show((i:Int)+1)=((i+1:Nat):Int)by omega,ANJ];rw[show((w.2.2.2.2.2.2.2.1.getD i (0,0,[],[],false,[],())).1,(w.2.2.2.2.2.2.2.1.getD i (0,0,[],[],false,[],())).2.1,(w.2.2.2.2.2.2.2.1.getD i (0,0,[],[],false,[],())).2.2.1,(w.2.2.2.2.2.2.2.1.getD i (0,0,[],[],false,[],())).2.2.2.1,(w.2.2.2.2.2.2.2.1.getD i (0,0,[],[],false,[],())).2.2.2.2.1,(w.2.2.2.2.2.2.2.1.getD i (0,0,[],[],false,[],())).2.2.2.2.2.1,())=w.2.2.2.2.2.2.2.1.getD i Rb from rfl,show(w.1,w.2.1,())=AU w from rfl,Jm h.cfg (by omega) (h.Bg _ hm)];rw[Nw (by grind)];grind) (fun n=>by
   simp only[Ez,NZ,AB];simp_all) w.2.2.2.2.2.2.2.1.length n 0 (by omega) (by omega)
  rw[show((0:Nat):Int)=0 from rfl]at key;rw[key,AUO];rfl
 have key:=mK (L:=fun n i=>G2 n (w.2.2.2.2.1.length:Int) i w.1 w.2.1 w.2.2.1 w.2.2.2.1 w.2.2.2.2.1 w.2.2.2.2.2.1 w.2.2.2.2.2.2.1 w.2.2.2.2.2.2.2.1 w.2.2.2.2.2.2.2.2.1 w.2.2.2.2.2.2.2.2.2.1 w.2.2.2.2.2.2.2.2.2.2.1) (len:=w.2.2.2.2.2.2.1.length) (N:=w.2.2.2.2.2.2.2.1.length+1) (p:=fV w) (fin:=gk w) (fun n i hi=>by
  have hm:=BM (d:=B7) hi;have hw:=Ab (f:=Au) hm;unfold Au at hw;simp only[G2,Od,AB,fV];have hb:(0:Int)<=(i:Int)/\(i:Int)<(w.2.2.2.2.2.2.1.length:Int):=by omega
  rw[AKJ hb.2,AL (x:=(i:Int)+1) (by omega) (by omega),show((i:Int)+1)=((i+1:Nat):Int)by omega,ANJ];simp only[AKJ hb];have hw2:Ag BX (w.2.2.2.2.2.2.1.getD i B7).2.1<=2^30:=by
   have:=k1.2.2.2.2.1;unfold Au at this;omega
  rw[show((w.2.2.2.2.2.2.1.getD i (0,[],())).1,(w.2.2.2.2.2.2.1.getD i (0,[],())).2.1,())=w.2.2.2.2.2.2.1.getD i B7 from rfl,show(w.1,w.2.1,())=AU w from rfl,L6 h.cfg hw2];simp only[ANe];cases F7 (AU w) (w.2.2.2.2.2.2.1.getD i B7)with
  |false=>rfl
  |true=>
   simp only[AMy,ANE,ANP];by_cases hle:(w.2.2.2.2.2.2.1.getD i (0,[],())).1<=(w.2.2.2.2.1.length:Int)
   ·rw[AKT (by omega),show decide ((w.2.2.2.2.2.2.1.getD i B7).1<=(w.2.2.2.2.1.length:Int))=true from ARS hle,ANP]
    by_cases h0:i=0
    ·simp_all
    ·rw[AKJ (by omega),AL (by omega) (by omega),AKJ (by omega)]
     have h1:((i:Int)-1).toNat=i-1:=by omega
     have h2:(i==0)=false:=by simp_all
     rw[h1,h2,ARx];grind
   grind) (fun n hn=>by
  simp only[G2,Od,AB];simp_all) w.2.2.2.2.2.2.1.length Ae 0 (by omega) (Ah (by omega))
 rw[show((0:Nat):Int)=0 from rfl]at key;unfold SD U9 bF;rw[show(w.1,w.2.1,())=AU w from rfl,show(w.2.2.2.2.1,w.2.2.2.2.2.1,())=CA w from rfl,QK h.cfg (by show Ag CG w.2.2.2.2.1<=_;omega) h.trim,key];grind
theorem AAe:W6 w=some ((decide (w.2.2.2.2.2.2.2.2.2.1.length<=120)&&ui w,()),()):=by
 have k2:=h.N4;have key:=GO (L:=fun n i=>KQ n i w.1 w.2.1 w.2.2.1 w.2.2.2.1 w.2.2.2.2.1 w.2.2.2.2.2.1 w.2.2.2.2.2.2.1 w.2.2.2.2.2.2.2.1 w.2.2.2.2.2.2.2.2.1 w.2.2.2.2.2.2.2.2.2.1 w.2.2.2.2.2.2.2.2.2.2.1) (len:=w.2.2.2.2.2.2.2.2.2.1.length) (p:=uI w) (fin:=true) (fun n i hi=>by
  have hm:=BM (d:=JZ) hi;have P7:DR (w.2.2.2.2.2.2.2.2.2.1.getD i (0,[],false,())).1:=h.HD _ hm;simp only[KQ,Q3,AB,uI];rw[AKJ (by omega),AKJ (by omega),AL (x:=(i:Int)+1) (by omega) (by omega),show((i:Int)+1)=((i+1:Nat):Int)by omega,ANJ,IZ P7,FG P7];simp only[ANe]
  show cond (!BZ (w.2.2.2.2.2.2.2.2.2.1.getD i JZ).1) _ _=_
  cases BZ (w.2.2.2.2.2.2.2.2.2.1.getD i JZ).1 with
  |false=>rfl
  |true=>
   simp only[AMy,ANE,ANP];by_cases hle:AN (w.2.2.2.2.2.2.2.2.2.1.getD i (0,[],false,())).1<=(w.2.2.2.2.1.length:Int)
   ·rw[AKT (by omega),show decide (AN (w.2.2.2.2.2.2.2.2.2.1.getD i JZ).1<=(w.2.2.2.2.1.length:Int))=true from ARS hle,ANP]
    by_cases h40:(w.2.2.2.2.2.2.2.2.2.1.getD i (0,[],false,())).2.1.length<=40
    ·rw[AKT (by omega),show decide ((w.2.2.2.2.2.2.2.2.2.1.getD i JZ).2.1.length<=40)=true from ARS h40,ANP]
     by_cases h0:i=0
     ·simp_all
     ·rw[AKJ (by omega),AL (by omega) (by omega),AKJ (by omega)]
      have h1:((i:Int)-1).toNat=i-1:=by omega
      have h2:(i==0)=false:=by simp_all
      rw[h1,h2,ARx];grind
    grind
   grind) (fun n=>by
  simp only[KQ,Q3,AB];simp_all) w.2.2.2.2.2.2.2.2.2.1.length Ae 0 (by omega) (Ah (by omega))
 rw[show((0:Nat):Int)=0 from rfl]at key;unfold W6 XK ui;grind
theorem ng:Wl w=some ((Dv w,()),()):=by
 unfold Wl Dv bB;rw[HJ w];rw[yd h,vp h,AAe h,PW,PW];simp only[ANe];by_cases h2:w.2.2.2.2.2.2.2.2.1.length=2
 all_goals grind
end
theorem dx{R:Type}{L:Nat->Int->Option R}{len:Nat}{p:Nat->Bool}{K:Nat->Option R}{no:Option R}(h1:∀n (i:Nat),i<len->L (n+1) i=cond (p i) (L n ((i+1:Nat):Int)) no)(h2:∀n,L (n+1) (len:Int)=K n):
  ∀d n i,i+d=len->d<n->L n i=cond (C4 p i d) (K (n-d-1)) no
 |0,n,i,hd,h=>by
  obtain⟨m,rfl⟩:∃m,n=m+1:=⟨n-1,by omega⟩;have:i=len:=by omega
  subst this;rw[h2];rfl
 |d+1,n,i,hd,h=>by
  obtain⟨m,rfl⟩:∃m,n=m+1:=⟨n-1,by omega⟩;rw[h1 m i (by omega)];simp only[C4];cases p i with
  |false=>rfl
  |true=>
   rw[ANa,dx h1 h2 d m (i+1) (by omega) (by omega),ANP];simp_all
theorem gG.of{w:AA}(hv:Go.Fw.Vd Uf w)(hw:C0 w<=2^20):gG w where
 weight:=hw
 Ao:=fun s hs=>⟨fun e he=>wf_i64 (((hv.2.2.1.2 s hs).1).2 e he).1,fun e he=>wf_i64 (((hv.2.2.1.2 s hs).2.1).2 e he).1⟩
 trim:=wf_i64 hv.2.2.2.2.2.1
 Bg:=fun m hm e he=>wf_i64 (((hv.2.2.2.2.2.2.2.1.2 m hm).2.2.2.1).2 e he).1
 HD:=fun s hs=>wf_i64 (hv.2.2.2.2.2.2.2.2.2.1.2 s hs).1
abbrev Vc:As:=(0,0,[],())
theorem KO{w:AA}(h:Dv w=true):w.2.2.2.2.2.2.2.2.1.length=2:=by
 simp only[Dv,bB,ALz,ANK]at h;omega
theorem gG.out{w:AA}(h:gG w){i:Nat}(hi:i<w.2.2.2.2.2.2.2.2.1.length):(w.2.2.2.2.2.2.2.2.1.getD i AW).2.2.1.length<=2^20:=by
 have k:=h.lens;have h1:=Ab (f:=A_) (BM (d:=AW) hi);have h2:=AY (f:=CQ) (l:=(w.2.2.2.2.2.2.2.2.1.getD i AW).2.2.1);have h3:A_ (w.2.2.2.2.2.2.2.2.1.getD i AW)=Ag CQ (w.2.2.2.2.2.2.2.2.1.getD i AW).2.2.1:=rfl;omega
def km(l:List As):Bool:=C4 (fun i=> !((l.getD i Vc).1==3)) 0 l.length
def Xm(w:AA):Bool:=Dv w&&(w.2.2.2.2.2.2.2.2.2.2.1||(km (w.2.2.2.2.2.2.2.2.1.getD 0 AW).2.2.1&&km (w.2.2.2.2.2.2.2.2.1.getD 1 AW).2.2.1))
section
variable{w:AA} (h:gG w)
include h
theorem h_:Qi w=some ((Xm w,()),()):=by
 have k2:=h.N4;unfold Qi TS Xm;rw[HJ w,FE h];simp only[ANe];rcases AJ5 (Dv w)with Bt|Bt
 rotate_left
 ·simp_all
 rw[Bt];simp only[AMy,ANE,ANP];cases w.2.2.2.2.2.2.2.2.2.2.1 with
 |true=>rfl
 |false=>
  have h2:=KO Bt;simp only[ANE,ARx];have o:=fun i hi=>h.out (i:=i) hi
  generalize w.2.2.2.2.2.2.2.2.1=rs at h2 o
  have inner:∀(i:Nat),i<rs.length-> ∀n,2^20<n->Dl (n+1) rs rs.length i=cond (km (rs.getD i AW).2.2.1) (Dl (n-(rs.getD i AW).2.2.1.length-1) rs rs.length ((i+1:Nat):Int)) (some ((false,()),())):=fun i hi n hn=>by
   have ho:=o i hi;simp only[Dl,Na,AB];rw[AKJ (by omega),AKJ (by omega),ANJ];have:=dx (L:=fun n j=>GH n rs rs.length i (rs.getD i AW).2.2.1 (rs.getD i AW).2.2.1.length j) (len:=(rs.getD i AW).2.2.1.length) (p:=fun j=> !(((rs.getD i AW).2.2.1.getD j Vc).1==3)) (K:=fun n=>Dl n rs rs.length ((i+1:Nat):Int)) (no:=some ((false,()),())) (fun n j hj=>by
    simp only[GH,NY,AB];rw[AKJ (by omega),AKJ (by omega),ANJ,AL (by omega) (by omega),show((j:Int)+1)=((j+1:Nat):Int)by omega];simp_all) (fun n=>by
    simp only[GH,NY,AB];rw[AKT (by omega),AL (by omega) (by omega),show((i:Int)+1)=((i+1:Nat):Int)by omega]) (rs.getD i AW).2.2.1.length n 0 (by omega) (by omega)
   exact this
  obtain⟨m,hm⟩:∃m,Ae=m+2^40:=⟨Ae-2^40,by have:=bo;omega⟩;have o0:=o 0 (by omega);have o1:=o 1 (by omega);have e0:=inner 0 (by omega) (m+2^40-1) (by omega);have e1:=inner 1 (by omega) (m+2^40-1-(rs.getD 0 AW).2.2.1.length-1-1) (by omega);rw[show m+2^40-1+1=Ae by omega,show((0:Nat):Int)=0 from rfl,show((0+1:Nat):Int)=((1:Nat):Int)from rfl]at e0;rw[show m+2^40-1-(rs.getD 0 AW).2.2.1.length-1-1+1=m+2^40-1-(rs.getD 0 AW).2.2.1.length-1 by omega]at e1;rw[e0,e1];obtain⟨q,hq⟩:∃q,m+2^40-1-(rs.getD 0 AW).2.2.1.length-1-1-(rs.getD 1 AW).2.2.1.length-1=q+1:=⟨_,(Nat.succ_pred_eq_of_pos (by omega)).symm⟩;rw[hq];have Aft:Dl (q+1) rs rs.length ((1+1:Nat):Int)=some ((true,()),()):=by
   simp only[Dl,Na,AB];simp_all
  grind
end
theorem bG{R:Type}{L:Nat->Int->Option R}{len E:Nat}{q:Nat->Bool}{e:Nat->Nat}{fin no:Option R}(he:∀i,i<len->e i<=E)(h1:∀i,i<len-> ∀n,E<n->L (n+1) i=cond (q i) (L (n-e i-1) ((i+1:Nat):Int)) no)(h2:∀n,L (n+1) (len:Int)=fin):
  ∀d n i,i+d=len->d*(E+2)<n->L n i=cond (C4 q i d) fin no
 |0,n,i,hd,h=>by
  obtain⟨m,rfl⟩:∃m,n=m+1:=⟨n-1,by omega⟩;have:i=len:=by omega
  subst this;rw[h2];rfl
 |d+1,n,i,hd,h=>by
  rw[Nat.succ_mul]at h;obtain⟨m,rfl⟩:∃m,n=m+1:=⟨n-1,by omega⟩;have hi:=he i (by omega);rw[h1 i (by omega) m (by omega)];simp only[C4];cases q i with
  |false=>rfl
  |true=>rw[ANa,bG he h1 h2 d _ (i+1) (by omega) (by omega),ANP]
theorem kV{d E:Nat}(hd:d<=2^20)(hE:E<=2^20):d*(E+2)<Ae:=by
 have h1:d*(E+2)<=2^20*(2^20+2):=AYn hd (by omega);exact Ah (by omega)
def og:Option Int->List As->Bool
 |_,[]=>true
 |last,e::l=>cond (BS e.1 1 3) (cond (match last with|some a=>decide (a<e.2.1)|none=>true) (og (some e.2.1) l) false) (og last l)
theorem yb{e:As}:Ul e=some ((BS e.1 1 3,()),()):=by
 grind[Ul,BS,decide_eq_false]
def XD(w:AA):Bool:=Dv w&&(og none (w.2.2.2.2.2.2.2.2.1.getD 0 AW).2.2.1&&og none (w.2.2.2.2.2.2.2.2.1.getD 1 AW).2.2.1)
section
variable{w:AA} (h:gG w)
include h
theorem Xe:F9 w=some ((XD w,()),()):=by
 have k2:=h.N4;unfold F9 TM XD;have hW:=FE h;have o:=fun i hi=>h.out (i:=i) hi
 have inner:∀(i:Nat),i<w.2.2.2.2.2.2.2.2.1.length-> ∀(n j:Nat) (t:Int) (g:Bool) (last:Option Int),j<=(w.2.2.2.2.2.2.2.2.1.getD i AW).2.2.1.length->(w.2.2.2.2.2.2.2.2.1.getD i AW).2.2.1.length-j<n->((g=false/\last=none)\/(g=true/\last=some t))->
   Hg n t g w.2.2.2.2.2.2.2.2.1 w.2.2.2.2.2.2.2.2.1.length i (w.2.2.2.2.2.2.2.2.1.getD i AW).2.2.1 (w.2.2.2.2.2.2.2.2.1.getD i AW).2.2.1.length j w.1 w.2.1 w.2.2.1 w.2.2.2.1 w.2.2.2.2.1 w.2.2.2.2.2.1 w.2.2.2.2.2.2.1 w.2.2.2.2.2.2.2.1 w.2.2.2.2.2.2.2.2.1 w.2.2.2.2.2.2.2.2.2.1 w.2.2.2.2.2.2.2.2.2.2.1=
    cond (og last ((w.2.2.2.2.2.2.2.2.1.getD i AW).2.2.1.drop j)) (E7 (n-((w.2.2.2.2.2.2.2.2.1.getD i AW).2.2.1.length-j)-1) w.2.2.2.2.2.2.2.2.1 w.2.2.2.2.2.2.2.2.1.length ((i+1:Nat):Int) w.1 w.2.1 w.2.2.1 w.2.2.2.1 w.2.2.2.2.1 w.2.2.2.2.2.1 w.2.2.2.2.2.2.1 w.2.2.2.2.2.2.2.1 w.2.2.2.2.2.2.2.2.1 w.2.2.2.2.2.2.2.2.2.1 w.2.2.2.2.2.2.2.2.2.2.1) (some ((false,()),())):=by
  intro i hi;have ho:=o i hi
  generalize (w.2.2.2.2.2.2.2.2.1.getD i AW).2.2.1=l at ho
  intro n
  induction n with
  |zero=>omega
  |succ n ih=>
   intro j t g last hj hn ht;simp only[Hg,Tc,AB];by_cases hc:j<l.length
   ·rw[AKJ (by omega),AKJ (by omega),AL (x:=(j:Int)+1) (by omega) (by omega),show((j:Int)+1)=((j+1:Nat):Int)by omega,Aj hc,drop_cons hc,Pq (l[j]),yb]
    simp only[ANe,og];rw[show n+1-(l.length-j)-1=n-(l.length-(j+1))-1 by omega];cases BS l[j].1 1 3 with
    |false=>
     simp only[ASm,ANa,ANE];exact ih (j+1) t g last (by omega) (by omega) ht
    |true=>
     simp only[AMy,ANa,ANE];have next:=ih (j+1) l[j].2.1 true (some l[j].2.1) (by omega) (by omega) (.inr ⟨rfl,rfl⟩);grind
   ·rw[AKT (by omega),AL (by omega) (by omega),show((i:Int)+1)=((i+1:Nat):Int)by omega,ANY (by omega),show n+1-(l.length-j)-1=n by omega]
    rfl
 have outer:=bG (L:=fun n i=>E7 n w.2.2.2.2.2.2.2.2.1 w.2.2.2.2.2.2.2.2.1.length i w.1 w.2.1 w.2.2.1 w.2.2.2.1 w.2.2.2.2.1 w.2.2.2.2.2.1 w.2.2.2.2.2.2.1 w.2.2.2.2.2.2.2.1 w.2.2.2.2.2.2.2.2.1 w.2.2.2.2.2.2.2.2.2.1 w.2.2.2.2.2.2.2.2.2.2.1) (len:=w.2.2.2.2.2.2.2.2.1.length) (E:=2^20) (q:=fun i=>og none (w.2.2.2.2.2.2.2.2.1.getD i AW).2.2.1) (e:=fun i=>(w.2.2.2.2.2.2.2.2.1.getD i AW).2.2.1.length) (fin:=some ((Dv w,()),())) (no:=some ((false,()),())) (fun i hi=>o i hi) (fun i hi n hn=>by
   have ho:=o i hi;simp only[E7,Nl,AB];rw[AKJ (by omega),AKJ (by omega),ANJ];have:=inner i hi n 0 0 false none (by omega) (by omega) (.inl ⟨rfl,rfl⟩);simp_all) (fun n=>by
   simp only[E7,Nl,AB];simp_all) w.2.2.2.2.2.2.2.2.1.length Ae 0 (by omega) (kV (by omega) (by omega))
 rw[show((0:Nat):Int)=0 from rfl]at outer;refine Eq.trans outer ?_
 rcases AJ5 (Dv w)with Bt|Bt
 ·rw[Bt,KO Bt]
  simp only[C4,ANP,AUO];grind
 simp_all
end
def zM(p:Int):List Ac->List UInt8×Bool
 |[]=>([],false)
 |s::l=>cond (s.1==p) (s.2.1,true) (zM p l)
section
variable{w:AA} (h:gG w)
include h
end
theorem ADF{w:AA}{p:Int}(hl:w.2.2.2.2.2.2.2.2.2.1.length<=2^40):ZB w p=some ((((zM p w.2.2.2.2.2.2.2.2.2.1).1,(zM p w.2.2.2.2.2.2.2.2.2.1).2,()),()),()):=by
 unfold ZB ZS
 generalize w.2.2.2.2.2.2.2.2.2.1=l at hl
 have key:∀(n i:Nat),i<=l.length->l.length-i<n->Ov n p l l.length i=some ((((zM p (l.drop i)).1,(zM p (l.drop i)).2,()),()),()):=by
  intro n
  induction n with
  |zero=>omega
  |succ n ih=>
   intro i hi h;simp only[Ov,ZX,AB];by_cases hc:i<l.length
   ·rw[AKJ (by omega),AKJ (by omega),AL (by omega) (by omega),show((i:Int)+1)=((i+1:Nat):Int)by omega,Aj hc,drop_cons hc,ih (i+1) (by omega) (by omega)]
    simp only[zM];cases l[i].1==p<;>rfl
   ·rw[AKT (by omega),ANY (by omega)]
    rfl
 grind[Ae,Ah]
def ABa(ss:List Ac)(e:As):Bool:= !(e.1==1)||((zM e.2.1 ss).2&&(zM e.2.1 ss).1==e.2.2.1)
def tO(ss:List Ac)(l:List As):Bool:=C4 (fun j=>ABa ss (l.getD j Vc)) 0 l.length
def aY(w:AA):Bool:=Dv w&&(tO w.2.2.2.2.2.2.2.2.2.1 (w.2.2.2.2.2.2.2.2.1.getD 0 AW).2.2.1&&tO w.2.2.2.2.2.2.2.2.2.1 (w.2.2.2.2.2.2.2.2.1.getD 1 AW).2.2.1)
section
variable{w:AA} (h:gG w)
include h
theorem Yi:Gz w=some ((aY w,()),()):=by
 have k2:=h.N4;unfold Gz VT aY;have hW:=FE h;have o:=fun i hi=>h.out (i:=i) hi
 have outer:=bG (L:=fun n i=>Fe n w.2.2.2.2.2.2.2.2.1 w.2.2.2.2.2.2.2.2.1.length i w.1 w.2.1 w.2.2.1 w.2.2.2.1 w.2.2.2.2.1 w.2.2.2.2.2.1 w.2.2.2.2.2.2.1 w.2.2.2.2.2.2.2.1 w.2.2.2.2.2.2.2.2.1 w.2.2.2.2.2.2.2.2.2.1 w.2.2.2.2.2.2.2.2.2.2.1) (len:=w.2.2.2.2.2.2.2.2.1.length) (E:=2^20) (q:=fun i=>tO w.2.2.2.2.2.2.2.2.2.1 (w.2.2.2.2.2.2.2.2.1.getD i AW).2.2.1) (e:=fun i=>(w.2.2.2.2.2.2.2.2.1.getD i AW).2.2.1.length) (fin:=some ((Dv w,()),())) (no:=some ((false,()),())) (fun i hi=>o i hi) (fun i hi n hn=>by
   have ho:=o i hi;simp only[Fe,OL,AB];rw[AKJ (by omega),AKJ (by omega),ANJ];have:=dx (L:=fun n j=>Gt n w.2.2.2.2.2.2.2.2.1 w.2.2.2.2.2.2.2.2.1.length i (w.2.2.2.2.2.2.2.2.1.getD i AW).2.2.1 (w.2.2.2.2.2.2.2.2.1.getD i AW).2.2.1.length j w.1 w.2.1 w.2.2.1 w.2.2.2.1 w.2.2.2.2.1 w.2.2.2.2.2.1 w.2.2.2.2.2.2.1 w.2.2.2.2.2.2.2.1 w.2.2.2.2.2.2.2.2.1 w.2.2.2.2.2.2.2.2.2.1 w.2.2.2.2.2.2.2.2.2.2.1) (len:=(w.2.2.2.2.2.2.2.2.1.getD i AW).2.2.1.length) (p:=fun j=>ABa w.2.2.2.2.2.2.2.2.2.1 ((w.2.2.2.2.2.2.2.2.1.getD i AW).2.2.1.getD j Vc)) (K:=fun n=>Fe n w.2.2.2.2.2.2.2.2.1 w.2.2.2.2.2.2.2.2.1.length ((i+1:Nat):Int) w.1 w.2.1 w.2.2.1 w.2.2.2.1 w.2.2.2.2.1 w.2.2.2.2.2.1 w.2.2.2.2.2.2.1 w.2.2.2.2.2.2.2.1 w.2.2.2.2.2.2.2.2.1 w.2.2.2.2.2.2.2.2.2.1 w.2.2.2.2.2.2.2.2.2.2.1) (no:=some ((false,()),())) (fun n j hj=>by
    simp only[Gt,Oa,AB,ABa];rw[AKJ (by omega),AKJ (by omega),ANJ,AL (by omega) (by omega),show((j:Int)+1)=((j+1:Nat):Int)by omega,HJ w,ADF (by omega)];grind) (fun n=>by
    simp only[Gt,Oa,AB];rw[AKT (by omega),AL (by omega) (by omega),show((i:Int)+1)=((i+1:Nat):Int)by omega]) (w.2.2.2.2.2.2.2.2.1.getD i AW).2.2.1.length n 0 (by omega) (by omega)
   exact this) (fun n=>by
   simp only[Fe,OL,AB];simp_all) w.2.2.2.2.2.2.2.2.1.length Ae 0 (by omega) (kV (by omega) (by omega))
 rw[show((0:Nat):Int)=0 from rfl]at outer;refine Eq.trans outer ?_
 rcases AJ5 (Dv w)with Bt|Bt
 ·rw[Bt,KO Bt]
  simp only[C4,ANP,AUO];grind
 simp_all
end
def tld(p:Int):List As->List UInt8×Bool
 |[]=>([],false)
 |e::l=>cond (e.1==1&&e.2.1==p) (e.2.2.1,true) (tld p l)
theorem cL{r:AZ}{p:Int}(hl:r.2.2.1.length<=2^40):T5 r p=some ((((tld p r.2.2.1).1,(tld p r.2.2.1).2,()),()),()):=by
 unfold T5 dO
 generalize r.2.2.1=l at hl
 have key:∀(n i:Nat),i<=l.length->l.length-i<n->Sq n p l l.length i=some ((((tld p (l.drop i)).1,(tld p (l.drop i)).2,()),()),()):=by
  intro n
  induction n with
  |zero=>omega
  |succ n ih=>
   intro i hi h;simp only[Sq,dR,AB];by_cases hc:i<l.length
   ·rw[AKJ (by omega),AKJ (by omega),AL (by omega) (by omega),show((i:Int)+1)=((i+1:Nat):Int)by omega,Aj hc,drop_cons hc,ih (i+1) (by omega) (by omega)]
    simp only[tld];cases l[i].1==1<;>cases l[i].2.1==p<;>rfl
   ·rw[AKT (by omega),ANY (by omega)]
    rfl
 grind[Ae,Ah]
def ahead(p:Int)(r:AZ):Bool:=cond (decide (AN p<r.1)) true (cond (AN p==r.1) (decide (BD p<r.2.1)) false)
theorem iy{p:Int}{r:AZ}(hp:DR p):Iy p r=some ((ahead p r,()),()):=by
 grind[Iy,ahead,EU,UW,decide,AN]
def ABY(trim:Int)(r:AZ)(s:Ac):Bool:= !(s.2.2.1&&(decide (trim<s.1)&&ahead s.1 r))||(tld s.1 r.2.2.1).2
def uN(trim:Int)(ss:List Ac)(r:AZ):Bool:=C4 (fun j=>ABY trim r (ss.getD j JZ)) 0 ss.length
def aV(w:AA):Bool:=Dv w&&(w.2.2.2.2.2.2.2.2.2.2.1||(uN w.2.2.2.2.2.1 w.2.2.2.2.2.2.2.2.2.1 (w.2.2.2.2.2.2.2.2.1.getD 0 AW)&&uN w.2.2.2.2.2.1 w.2.2.2.2.2.2.2.2.2.1 (w.2.2.2.2.2.2.2.2.1.getD 1 AW)))
section
variable{w:AA} (h:gG w)
include h
theorem j4:Sc w=some ((aV w,()),()):=by
 have k2:=h.N4;unfold Sc U5 aV;rw[HJ w,FE h];simp only[ANe];rcases AJ5 (Dv w)with Bt|Bt
 rotate_left
 ·simp_all
 rw[Bt];simp only[AMy,ANE,ANP];have h2:=KO Bt;have o:=fun i hi=>h.out (i:=i) hi
 have P7:=fun j hj=>h.HD _ (BM (d:=JZ) (i:=j) hj)
 have outer:=bG (L:=fun n i=>Fo n w.2.2.2.2.2.2.2.2.1 w.2.2.2.2.2.2.2.2.1.length i w.1 w.2.1 w.2.2.1 w.2.2.2.1 w.2.2.2.2.1 w.2.2.2.2.2.1 w.2.2.2.2.2.2.1 w.2.2.2.2.2.2.2.1 w.2.2.2.2.2.2.2.2.1 w.2.2.2.2.2.2.2.2.2.1 w.2.2.2.2.2.2.2.2.2.2.1) (len:=w.2.2.2.2.2.2.2.2.1.length) (E:=2^20) (q:=fun i=>uN w.2.2.2.2.2.1 w.2.2.2.2.2.2.2.2.2.1 (w.2.2.2.2.2.2.2.2.1.getD i AW)) (e:=fun _=>w.2.2.2.2.2.2.2.2.2.1.length) (fin:=some ((true,()),())) (no:=some ((false,()),())) (fun i hi=>by omega) (fun i hi n hn=>by
   have ho:=o i hi;simp only[Fo,OQ,AB];rw[AKJ (by omega),AKJ (by omega),ANJ];have:=dx (L:=fun n j=>G_ n w.2.2.2.2.2.2.2.2.1 w.2.2.2.2.2.2.2.2.1.length i w.2.2.2.2.2.2.2.2.2.1 w.2.2.2.2.2.2.2.2.2.1.length j w.1 w.2.1 w.2.2.1 w.2.2.2.1 w.2.2.2.2.1 w.2.2.2.2.2.1 w.2.2.2.2.2.2.1 w.2.2.2.2.2.2.2.1 w.2.2.2.2.2.2.2.2.1 w.2.2.2.2.2.2.2.2.2.1 w.2.2.2.2.2.2.2.2.2.2.1 (w.2.2.2.2.2.2.2.2.1.getD i AW).1 (w.2.2.2.2.2.2.2.2.1.getD i AW).2.1 (w.2.2.2.2.2.2.2.2.1.getD i AW).2.2.1) (len:=w.2.2.2.2.2.2.2.2.2.1.length) (p:=fun j=>ABY w.2.2.2.2.2.1 (w.2.2.2.2.2.2.2.2.1.getD i AW) (w.2.2.2.2.2.2.2.2.2.1.getD j JZ)) (K:=fun n=>Fo n w.2.2.2.2.2.2.2.2.1 w.2.2.2.2.2.2.2.2.1.length ((i+1:Nat):Int) w.1 w.2.1 w.2.2.1 w.2.2.2.1 w.2.2.2.2.1 w.2.2.2.2.2.1 w.2.2.2.2.2.2.1 w.2.2.2.2.2.2.2.1 w.2.2.2.2.2.2.2.2.1 w.2.2.2.2.2.2.2.2.2.1 w.2.2.2.2.2.2.2.2.2.2.1) (no:=some ((false,()),())) (fun n j hj=>by
    simp only[G_,O3,ABY];rw[show decide ((j:Int)<(w.2.2.2.2.2.2.2.2.2.1.length:Int))=true from ARS (by omega),ANa,AKJ (by omega),ANJ,AL (by omega) (by omega),show((j:Int)+1)=((j+1:Nat):Int)by omega];rw[show((w.2.2.2.2.2.2.2.2.1.getD i AW).1,(w.2.2.2.2.2.2.2.2.1.getD i AW).2.1,(w.2.2.2.2.2.2.2.2.1.getD i AW).2.2.1,())=w.2.2.2.2.2.2.2.2.1.getD i AW from rfl];have hs:=P7 j hj
    show(T5 (w.2.2.2.2.2.2.2.2.1.getD i AW) (w.2.2.2.2.2.2.2.2.2.1.getD j JZ).1).bind _=_
    rw[cL (by omega),iy hs];grind) (fun n=>by
    simp only[G_,O3,AB];rw[AKT (by omega),AL (by omega) (by omega),show((i:Int)+1)=((i+1:Nat):Int)by omega]) w.2.2.2.2.2.2.2.2.2.1.length n 0 (by omega) (by omega)
   exact this) (fun n=>by
   simp only[Fo,OQ,AB];simp_all) w.2.2.2.2.2.2.2.2.1.length Ae 0 (by omega) (kV (by omega) (by omega))
 rw[show((0:Nat):Int)=0 from rfl]at outer;revert outer;cases w.2.2.2.2.2.2.2.2.2.2.1 with
 |true=>simp_all
 |false=>
  intro outer;simp only[ANE,ARx];refine Eq.trans outer ?_
  rw[h2];simp only[C4,AUO];grind
end
def ABm(trim:Int)(r0 r1:AZ)(e:As):Bool:=e.1==1&&(BZ e.2.1&&(decide (trim<e.2.1)&&(ahead e.2.1 r0&&ahead e.2.1 r1)))
def ABp(trim:Int)(r0 r1:AZ)(e:As):Bool:= !ABm trim r0 r1 e||(((tld e.2.1 r0.2.2.1).2==(tld e.2.1 r1.2.2.1).2)&&((tld e.2.1 r0.2.2.1).1==(tld e.2.1 r1.2.2.1).1))
def tL(trim:Int)(r0 r1:AZ)(l:List As):Bool:=C4 (fun j=>ABp trim r0 r1 (l.getD j Vc)) 0 l.length
def bR(w:AA):Bool:=Dv w&&(w.2.2.2.2.2.2.2.2.2.2.1||(tL w.2.2.2.2.2.1 (w.2.2.2.2.2.2.2.2.1.getD 0 AW) (w.2.2.2.2.2.2.2.2.1.getD 1 AW) (w.2.2.2.2.2.2.2.2.1.getD 0 AW).2.2.1&&tL w.2.2.2.2.2.1 (w.2.2.2.2.2.2.2.2.1.getD 0 AW) (w.2.2.2.2.2.2.2.2.1.getD 1 AW) (w.2.2.2.2.2.2.2.2.1.getD 1 AW).2.2.1))
def dy(w:AA):Prop:= ∀r∈w.2.2.2.2.2.2.2.2.1,∀e∈r.2.2.1,DR e.2.1
theorem dy.of{w:AA}(hv:Go.Fw.Vd Uf w):dy w:=fun r hr e he=>wf_i64 (((hv.2.2.2.2.2.2.2.2.1.2 r hr).2.2.1).2 e he).2.1
section
variable{w:AA} (h:gG w) (zC:dy w)
include h zC
theorem je:S1 w=some ((bR w,()),()):=by
 have k2:=h.N4;unfold S1 U_ bR;rw[HJ w,FE h];simp only[ANe];rcases AJ5 (Dv w)with Bt|Bt
 rotate_left
 ·simp_all
 rw[Bt];simp only[AMy,ANE,ANP];have h2:=KO Bt;have o:=fun i hi=>h.out (i:=i) hi
 have o0:=o 0 (by omega);have o1:=o 1 (by omega);have b0:(0:Int)<=(0:Int)/\(0:Int)<(w.2.2.2.2.2.2.2.2.1.length:Int):=by omega
 have b1:(0:Int)<=(1:Int)/\(1:Int)<(w.2.2.2.2.2.2.2.2.1.length:Int):=by omega
 have outer:=bG (L:=fun n i=>Ff n w.2.2.2.2.2.2.2.2.1 w.2.2.2.2.2.2.2.2.1.length i w.1 w.2.1 w.2.2.1 w.2.2.2.1 w.2.2.2.2.1 w.2.2.2.2.2.1 w.2.2.2.2.2.2.1 w.2.2.2.2.2.2.2.1 w.2.2.2.2.2.2.2.2.1 w.2.2.2.2.2.2.2.2.2.1 w.2.2.2.2.2.2.2.2.2.2.1) (len:=w.2.2.2.2.2.2.2.2.1.length) (E:=2^20) (q:=fun i=>tL w.2.2.2.2.2.1 (w.2.2.2.2.2.2.2.2.1.getD 0 AW) (w.2.2.2.2.2.2.2.2.1.getD 1 AW) (w.2.2.2.2.2.2.2.2.1.getD i AW).2.2.1) (e:=fun i=>(w.2.2.2.2.2.2.2.2.1.getD i AW).2.2.1.length) (fin:=some ((true,()),())) (no:=some ((false,()),())) (fun i hi=>o i hi) (fun i hi n hn=>by
   have ho:=o i hi;simp only[Ff,Oy,AB];rw[AKJ (by omega),AKJ (by omega),ANJ];have:=dx (L:=fun n j=>Gx n w.2.2.2.2.2.2.2.2.1 w.2.2.2.2.2.2.2.2.1.length i (w.2.2.2.2.2.2.2.2.1.getD i AW).2.2.1 (w.2.2.2.2.2.2.2.2.1.getD i AW).2.2.1.length j w.1 w.2.1 w.2.2.1 w.2.2.2.1 w.2.2.2.2.1 w.2.2.2.2.2.1 w.2.2.2.2.2.2.1 w.2.2.2.2.2.2.2.1 w.2.2.2.2.2.2.2.2.1 w.2.2.2.2.2.2.2.2.2.1 w.2.2.2.2.2.2.2.2.2.2.1) (len:=(w.2.2.2.2.2.2.2.2.1.getD i AW).2.2.1.length) (p:=fun j=>ABp w.2.2.2.2.2.1 (w.2.2.2.2.2.2.2.2.1.getD 0 AW) (w.2.2.2.2.2.2.2.2.1.getD 1 AW) ((w.2.2.2.2.2.2.2.2.1.getD i AW).2.2.1.getD j Vc)) (K:=fun n=>Ff n w.2.2.2.2.2.2.2.2.1 w.2.2.2.2.2.2.2.2.1.length ((i+1:Nat):Int) w.1 w.2.1 w.2.2.1 w.2.2.2.1 w.2.2.2.2.1 w.2.2.2.2.2.1 w.2.2.2.2.2.2.1 w.2.2.2.2.2.2.2.1 w.2.2.2.2.2.2.2.2.1 w.2.2.2.2.2.2.2.2.2.1 w.2.2.2.2.2.2.2.2.2.2.1) (no:=some ((false,()),())) (fun n j hj=>by
    simp only[Gx,On,ABp,ABm];rw[show decide ((j:Int)<((w.2.2.2.2.2.2.2.2.1.getD i AW).2.2.1.length:Int))=true from ARS (by omega),ANa,AKJ (by omega),ANJ,AL (by omega) (by omega),show((j:Int)+1)=((j+1:Nat):Int)by omega];simp only[AKJ b0,AKJ b1];have hs:DR ((w.2.2.2.2.2.2.2.2.1.getD i AW).2.2.1.getD j (0,0,[],())).2.1:=zC _ (BM (d:=AW) hi) _ (BM (d:=Vc) hj);rw[show((w.2.2.2.2.2.2.2.2.1.getD 0 (0,0,[],())).1,(w.2.2.2.2.2.2.2.2.1.getD 0 (0,0,[],())).2.1,(w.2.2.2.2.2.2.2.2.1.getD 0 (0,0,[],())).2.2.1,())=w.2.2.2.2.2.2.2.2.1.getD 0 AW from rfl,show((w.2.2.2.2.2.2.2.2.1.getD 1 (0,0,[],())).1,(w.2.2.2.2.2.2.2.2.1.getD 1 (0,0,[],())).2.1,(w.2.2.2.2.2.2.2.2.1.getD 1 (0,0,[],())).2.2.1,())=w.2.2.2.2.2.2.2.2.1.getD 1 AW from rfl];rw[NH hs,iy hs,iy hs,cL (by omega),cL (by omega)];grind) (fun n=>by
    simp only[Gx,On,AB];rw[AKT (by omega),AL (by omega) (by omega),show((i:Int)+1)=((i+1:Nat):Int)by omega]) (w.2.2.2.2.2.2.2.2.1.getD i AW).2.2.1.length n 0 (by omega) (by omega)
   exact this) (fun n=>by
   simp only[Ff,Oy,AB];simp_all) w.2.2.2.2.2.2.2.2.1.length Ae 0 (by omega) (kV (by omega) (by omega))
 rw[show((0:Nat):Int)=0 from rfl]at outer;revert outer;cases w.2.2.2.2.2.2.2.2.2.2.1 with
 |true=>simp_all
 |false=>
  intro outer;simp only[ANE,ARx];refine Eq.trans outer ?_
  rw[h2];simp only[C4,AUO];grind
end
def Zr:List As->List Ac
 |[]=>[]
 |e::l=>cond (e.1==1) ((e.2.1,e.2.2.1,true,())::Zr l) (Zr l)
def O6(w:AA)(p:Int):List Ac:=cond (Dv w&&BS p 0 1) (Zr (w.2.2.2.2.2.2.2.2.1.getD p.toNat AW).2.2.1) []
section
variable{w:AA} (h:gG w)
include h
theorem qd{p:Int}:MI w p=some (((),()),(O6 w p,())):=by
 unfold MI Yy O6;rw[HJ w,FE h,Aw];simp only[ANe];rcases AJ5 (Dv w)with Bt|Bt
 rotate_left
 ·simp_all
 have h2:=KO Bt;rw[Bt,AL (by omega) (by omega),show((w.2.2.2.2.2.2.2.2.1.length:Int)-1)=1 by omega];simp only[AMy,ANE,ANP];rcases AJ5 (BS p 0 1)with hp|hp
 rotate_left
 ·simp_all
 rw[hp];simp only[BS,ANK]at hp;simp only[AMy,ANE,ANa];rw[AKJ (by omega)];have ho:=h.out (i:=p.toNat) (by omega)
 show LS Ae (w.2.2.2.2.2.2.2.2.1.getD p.toNat AW).2.2.1 ((w.2.2.2.2.2.2.2.2.1.getD p.toNat AW).2.2.1.length:Int) 0 []=_
 generalize (w.2.2.2.2.2.2.2.2.1.getD p.toNat AW).2.2.1=l at ho
 have key:∀(n i:Nat) (acc:List Ac),i<=l.length->l.length-i<n->acc.length<=i->LS n l l.length i acc=some (((),()),(acc++Zr (l.drop i),())):=by
  intro n
  induction n with
  |zero=>omega
  |succ n ih=>
   intro i acc hi hn ha;simp only[LS,Zg,AB];by_cases hc:i<l.length
   ·rw[AKJ (by omega),AKJ (by omega),AKJ (by rw[Bf];omega),AL (by omega) (by omega),show((i:Int)+1)=((i+1:Nat):Int)by omega,Aj hc,drop_cons hc,ih (i+1) acc (by omega) (by omega) (by omega),ih (i+1) (acc++[(l[i].2.1,l[i].2.2.1,true,())]) (by omega) (by omega) (by simp_all)]
    grind[Zr]
   ·rw[AKT (by omega),ANY (by omega)]
    simp[Zr]
 grind[Ae,Ah]
end
end Go.M
end
section
namespace Go.M
open Go.M.H (AJ AO Av Ac AA CX AQ BI AM AZ As Az BR)
def EN(e o:Int):Int:=4294967296*e+o
def Gw(e o:Int):Int:=if BS e 1 30&&BS o 1 60 then EN e o else 0
def iK(x:Int):List Int->List Int
 |[]=>[x]
 |y::l=>if x<y then x::y::l else y::iK x l
def Jx(x:Int)(l:AAC):AAC:=if l.contains x then l else iK x l
def less(l m:AAC):AAC:=l.filter fun x=> !m.contains x
def Jo(c:CP)(s l:AAC):Bool:=holds c s&&(Ay c l&&(l.all s.contains&& !holds c (less s l)))
def Ap(k:Int):AAC:=if BS k 0 255 then([0,1,2,3,4,5,6,7]:AAC).filter fun i=>(k/2^i.toNat)%2==1 else[]
def better(a b:AJ):AJ:=if b.2.1>a.2.1 then b else a
def keep(e:AJ):List AJ->List AJ
 |[]=>[e]
 |x::l=>if x.1=e.1 then better x e::l else if x.1>e.1 then e::x::l else x::keep e l
def Dn:List AJ->List AJ->List AJ
 |k,[]=>k
 |k,e::l=>Dn (keep e k) l
def Mp(k:Int):Nat->List AJ->List AJ
 |_,[]=>[]
 |i,e::l=>if(k/2^i)%2=1 then e::Mp k (i+1) l else Mp k (i+1) l
def Ew(p:Int)(l:List AJ):Option AJ:=l.find? fun e=>e.1==p
def takes(s:AO)(e:AJ):Bool:=if e.2.1=0 then decide (AN e.1>s.2.2.1)else decide (e.2.1>s.2.2.1)
def GP(s:AO)(e:AJ):AO×Bool:=
 if !CI s then(Cz,false)else if Ei e&&(takes s e&&decide (s.2.1.length≠20))then((s.1,s.2.1++[e],s.2.2.1,()),true)else(s,false)
def EK(s:AO)(k:Int):AO×Bool:=
 if !CI s then(Cz,false)else
  let q:=Dn s.1 (Mp k 0 s.2.1)
  if BS k 0 1048575&&decide (q.length<=200)then((q,[],s.2.2.1,()),true)else(s,false)
def Co(s:AO):AO×Bool:=EK s 1048575
def Bp(s:AO)(upto:Int):AO×Bool:=
 if !CI s then(Cz,false)else
  let o:=Co s
  if o.2&&BS upto 0 30 then((o.1.1,o.1.2.1,max o.1.2.2.1 upto,()),true)else(s,false)
def X0(s:AO)(p:Int):Option AJ:=if CI s then Ew p s.1 else none
def GK(s:AO)(ep:Int):List AJ:=if CI s then s.1.filter fun e=>AN e.1==ep else[]
def GN(s:AO)(upto:Int):AO×Bool:=
 if !CI s then(Cz,false)else if BZ upto then((s.1.filter fun e=>decide (e.1>upto),s.2.1,s.2.2.1,()),true)else(s,false)
abbrev lD:AQ:=([],0,())
def Aq(l:List CX)(e:Int):AAC:=if BS e 1 l.length then(l.getD (e-1).toNat Gd).1 else[]
def I0(c:CP)(r:AQ)(ns:AAC):AQ×Int×Bool:=
 if !NC c r then(lD,0,false)else if holds c ns&&decide (r.1.length≠30)then((r.1++[(ns,false,0,())],r.2.1,()),(r.1.length:Int)+1,true)else(r,0,false)
def G8(l:List CX)(i:Nat)(last:Int):List CX:=l.set i ((l.getD i Gd).1,true,last,())
def M1(c:CP)(r:AQ)(b last:Int):AQ×Bool:=
 if !NC c r then(lD,false)else
  if decide (b=r.1.length)&&(decide (BF r.1≠0)&&(decide (b≠BF r.1)&&BS last 0 60))then((G8 r.1 (BF r.1-1).toNat last,r.2.1,()),true)else(r,false)
def MN(c:CP)(r:AQ)(p:Int):AQ×Bool:=
 if !NC c r then(lD,false)else if BZ p&&decide (AN p<=r.1.length)then((r.1,max r.2.1 p,()),true)else(r,false)
def CL(c:CP)(w:AM)(d:ACB):AM×Int×Bool:=
 if !F7 c w then(B7,0,false)else
  if F7 c (w.1,w.2.1++[(d,[],false,())],())then((w.1,w.2.1++[(d,[],false,())],()),(w.2.1.length:Int)+1,true)else(w,0,false)
def El(c:CP)(n:Int)(x:BI):BI:=(x.1,Jx n x.2.1,holds c (Jx n x.2.1),())
def Rj(c:CP)(w:AM)(o n:Int):AM×Bool:=
 if !F7 c w then(B7,false)else
  if BS o 1 w.2.1.length&&(BS n 0 ((c.1.length:Int)-1)&& !(w.2.1.getD (o-1).toNat LP).2.2.1)then((w.1,w.2.1.set (o-1).toNat (El c n (w.2.1.getD (o-1).toNat LP)),()),true)else(w,false)
def DA(n:Int)(x:BI):BI:=(x.1,if x.2.2.1 then x.2.1 else less x.2.1 [n],x.2.2.1,())
def CJ(c:CP)(w:AM)(n:Int):AM×Bool:=
 if !F7 c w then(B7,false)else((w.1,w.2.1.map (DA n),()),true)
def V_:List BI->Nat
 |[]=>0
 |x::l=>if x.2.2.1 then V_ l+1 else 0
def Wq(e b:Int):Av:=(b,e,[],[],false,[],())
def LV(c:CP)(m:Av)(n:Int)(l:List AJ):Av×Bool:=
 if !HN c m then(Rb,false)else
  let o:Av:=(m.1,m.2.1,Jx n m.2.2.1,Dn m.2.2.2.1 (l.filter fun e=>AN e.1==m.2.1),m.2.2.2.2.1,m.2.2.2.2.2.1,())
  if !m.2.2.2.2.1&&HN c o then(o,true)else(m,false)
def Ig(c:CP)(m:Av)(s:AAC):Av×Bool:=
 if !HN c m then(Rb,false)else
  if !m.2.2.2.2.1&&Jo c s (m.2.2.1.filter s.contains)then((m.1,m.2.1,m.2.2.1,m.2.2.2.1,true,List.replicate (LZ m.2.2.2.1).toNat [],()),true)else(m,false)
def Dp(m:Av)(o:Int):Option AJ:=
 if m.2.2.2.2.1&&(BS m.2.1 1 30&&(BS o 1 60&&decide (o<=m.2.2.2.2.2.1.length)))then
  match Ew (EN m.2.1 o) m.2.2.2.1 with
  |some x=>some (EN m.2.1 o,m.1,x.2.2.1,x.2.2.2.1,())
  |none=>some (EN m.2.1 o,m.1,true,[],())
 else none
def Yt(c:CP)(m:Av)(o n:Int):Av×Bool:=
 if !HN c m then(Rb,false)else
  if BS o 1 m.2.2.2.2.2.1.length&&BS n 0 ((c.1.length:Int)-1)then((m.1,m.2.1,m.2.2.1,m.2.2.2.1,m.2.2.2.2.1,m.2.2.2.2.2.1.set (o-1).toNat (Jx n (m.2.2.2.2.2.1.getD (o-1).toNat [])),()),true)else(m,false)
def CF(c:CP)(m:Av)(n:Int):Av×Bool:=
 if !HN c m then(Rb,false)else((m.1,m.2.1,m.2.2.1,m.2.2.2.1,m.2.2.2.2.1,m.2.2.2.2.2.1.map fun l=>less l [n],()),true)
def Ph(c:CP)(m:Av):Bool:=HN c m&&(m.2.2.2.2.1&&m.2.2.2.2.2.1.all (holds c))
def Vg(a:Az):AJ:=(a.2.2.1,a.2.2.2.1,a.2.2.2.2.1,a.2.2.2.2.2.1,())
def Fu(s:AAC)(p:Int):Option AJ->List Az->Option AJ
 |b,[]=>b
 |b,a::l=>if a.2.1&&(s.contains a.1&&(Ei (Vg a)&&(Vg a).1==p))then
   Fu s p (some (match b with|some x=>better x (Vg a)|none=>Vg a)) l
  else Fu s p b l
def Hm(p:Int):Option AJ->As
 |none=>(3,p,[],())
 |some x=>if x.2.2.1 then(2,p,[],())else(1,p,x.2.2.2.1,())
def B9(c:CP)(g:AQ)(sure:Int)(r:AZ)(l:List Az):AZ×Int:=
 if !(NC c g&&(Xk r&&Ay c (l.map fun a=>a.1)))then(AW,1)else
 if decide (r.1>g.1.length)||decide (r.2.2.1.length=120)then(r,2)else
 let era:=g.1.getD (r.1-1).toNat Gd
 let p:=EN r.1 r.2.1
 if g.2.1>=p then((AN g.2.1,BD g.2.1+1,r.2.2.1++[(5,g.2.1,[],())],()),0)else
 if era.2.1&&decide (r.2.1>era.2.2.1)then((r.1+1,1,r.2.2.1++[(4,r.1+1,[],())],()),0)else
 if(!era.2.1&&decide (r.2.1>sure))||decide (r.2.1>60)then(r,2)else
 if !Jo c era.1 ((l.map fun a=>a.1).filter era.1.contains)then(r,3)else
 ((r.1,r.2.1+1,r.2.2.1++[Hm p (Fu era.1 p none l)],()),0)
def F8:List AJ->List AO->List AJ
 |k,[]=>k
 |k,s::l=>F8 (Dn k s.1) l
def others(lost:AAC):Nat->List AO->List AO
 |_,[]=>[]
 |i,s::l=>if lost.contains (i:Int)then others lost (i+1) l else s::others lost (i+1) l
def Xh(c:CP)(ss:List AO)(lost:AAC)(n upto:Int):AO×Bool:=
 let s:AO:=(F8 [] (others lost 0 ss),[],upto,())
 if FJ c&&(decide (ss.length=c.1.length)&&(Ay c lost&&(!holds c lost&&(lost.contains n&&((others lost 0 ss).all CI&&CI s)))))then(s,true)else(Cz,false)
end Go.M
namespace Go.M.H.AA
open Go.M.H (AJ AO Av Ac AA CX AQ BI AM AZ As)
@[reducible] def Ao (w:AA):List AO:=w.2.2.1
@[reducible] def lost (w:AA):AAC:=w.2.2.2.1
@[reducible] def Af (w:AA):List CX:=w.2.2.2.2.1
@[reducible] def trim (w:AA):Int:=w.2.2.2.2.2.1
@[reducible] def AH (w:AA):List AM:=w.2.2.2.2.2.2.1
@[reducible] def Bg (w:AA):List Av:=w.2.2.2.2.2.2.2.1
@[reducible] def AX (w:AA):List AZ:=w.2.2.2.2.2.2.2.2.1
@[reducible] def BE (w:AA):List Ac:=w.2.2.2.2.2.2.2.2.2.1
@[reducible] def ER (w:AA):Bool:=w.2.2.2.2.2.2.2.2.2.2.1
@[reducible] def BJ (w:AA) (x:List AO):AA:=(w.1,w.2.1,x,w.2.2.2)
@[reducible] def Em (w:AA) (x:AAC):AA:=(w.1,w.2.1,w.2.2.1,x,w.2.2.2.2)
@[reducible] def Hc (w:AA) (x:AQ):AA:=(w.1,w.2.1,w.2.2.1,w.2.2.2.1,x.1,x.2.1,w.2.2.2.2.2.2)
@[reducible] def BG (w:AA) (x:List AM):AA:=(w.1,w.2.1,w.2.2.1,w.2.2.2.1,w.2.2.2.2.1,w.2.2.2.2.2.1,x,w.2.2.2.2.2.2.2)
@[reducible] def Br (w:AA) (x:List Av):AA:=(w.1,w.2.1,w.2.2.1,w.2.2.2.1,w.2.2.2.2.1,w.2.2.2.2.2.1,w.2.2.2.2.2.2.1,x,w.2.2.2.2.2.2.2.2)
@[reducible] def DC (w:AA) (x:List AZ):AA:=(w.1,w.2.1,w.2.2.1,w.2.2.2.1,w.2.2.2.2.1,w.2.2.2.2.2.1,w.2.2.2.2.2.2.1,w.2.2.2.2.2.2.2.1,x,w.2.2.2.2.2.2.2.2.2)
@[reducible] def DF (w:AA) (x:List Ac):AA:=(w.1,w.2.1,w.2.2.1,w.2.2.2.1,w.2.2.2.2.1,w.2.2.2.2.2.1,w.2.2.2.2.2.2.1,w.2.2.2.2.2.2.2.1,w.2.2.2.2.2.2.2.2.1,x,w.2.2.2.2.2.2.2.2.2.2)
@[reducible] def FU (w:AA) (x:Bool):AA:=(w.1,w.2.1,w.2.2.1,w.2.2.2.1,w.2.2.2.2.1,w.2.2.2.2.2.1,w.2.2.2.2.2.2.1,w.2.2.2.2.2.2.2.1,w.2.2.2.2.2.2.2.2.1,w.2.2.2.2.2.2.2.2.2.1,x,())
end Go.M.H.AA
namespace Go.M
open Go.M.H (AJ AO Av Ac AA CX AQ BI AM AZ As Az BR)
def ATZ:AA:=([],0,[],[],[],0,[],[],[],[],false,())
def Eo(c:CP):AA:=(c.1,c.2.1,List.replicate c.1.length Cz,[],[],0,[],[],[(1,1,[],()),(1,1,[],())],[],false,())
def fS(k:Int):Bool×Bool×Bool×Bool:=
 if k=8\/k=10\/k=12 then(false,false,false,false)
 else if k=2 then(true,false,false,true)
 else if k=3 then(true,true,true,false)
 else if k=5\/k=14 then(true,true,false,false)
 else if k=11 then(false,true,true,false)
 else(true,false,false,false)
def P8(d:BR):Bool:=
 BS d.1 1 16&&(((fS d.1).1||d.2.1==0)&&(((fS d.1).2.1||d.2.2.1==0)&&(((fS d.1).2.2.1||d.2.2.2.1==0)&&(((fS d.1).2.2.2||d.2.2.2.2.1==[])&&decide (d.2.2.2.2.1.length<=40)))))
abbrev bJ:Type:=AA×Int
def Ak(w:AA)(n:Int):Int:=if !BS n 0 ((w.Ao.length:Int)-1)then 2 else if w.lost.contains n then 3 else 0
def MU(w:AA)(a:Int):bJ:=
 if w.AH.length=4 then(w,4)else
 let q:=I0 (AU w) (CA w) (Ap a)
 if !q.2.2 then(w,4)else(((w.Hc q.1).BG (w.AH++[(q.2.1,[],())])).Br [],0)
def Yb(s:Ac):List Ac->List Ac
 |[]=>[s]
 |x::l=>if x.1>s.1 then s::x::l else x::Yb s l
def doAdd(w:AA)(a:Int)(d:ACB):bJ:=
 if !BS a 0 ((w.AH.length:Int)-1)then(w,2)else
 let x:=w.AH.getD a.toNat B7
 let q:=CL (AU w) x d
 if !q.2.2||(decide (w.BE.length=120)||w.BE.any fun s=>s.1==EN x.1 q.2.1)then(w,4)else
 ((w.BG (w.AH.set a.toNat q.1)).DF (Yb (EN x.1 q.2.1,d,false,()) w.BE),0)
def putAt(w:AA)(n:Int)(q:AO×Bool):bJ:=if q.2 then(w.BJ (w.Ao.set n.toNat q.1),0)else(w,4)
def storeAt(w:AA)(n:Int):AO:=w.Ao.getD n.toNat Cz
def Iv(w:AA)(a b n:Int):bJ:=
 if !BS a 0 ((w.AH.length:Int)-1)then(w,2)else
 let x:=w.AH.getD a.toNat B7
 if !BS b 1 x.2.1.length then(w,2)else
 if Ak w n≠0 then(w,Ak w n)else
 if !(Aq w.Af x.1).contains n then(w,2)else
 putAt w n (GP (storeAt w n) (EN x.1 b,0,false,(x.2.1.getD (b-1).toNat LP).1,()))
def Jy(s:AO)(p:Int):Bool:=match Ew p s.1 with|some e=>e.2.1==0|none=>false
def BL(c:CP)(s:AO)(ep n:Int):Int->List BI->List BI
 |_,[]=>[]
 |o,x::l=>(if !x.2.2.1&&Jy s (EN ep o)then El c n x else x)::BL c s ep n (o+1) l
def Qz(l:List BI)(o:Int):Bool:=BS o 1 l.length&&(l.getD (o-1).toNat LP).2.2.1
def PE(all:Bool)(ep:Int)(old new:List BI)(s:Ac):Ac:=
 (s.1,s.2.1,s.2.2.1||(AN s.1==ep&&(Qz new (BD s.1)&&(all|| !Qz old (BD s.1)))),())
def L9(s:AO)(l:List CX)(n:Int)(x:AM):Bool:=(Aq l x.1).contains n&&decide (s.2.2.1<x.1)
def FW(all:Bool)(c:CP)(s:AO)(l:List CX)(n:Int):List AM->List Ac->List AM×List Ac
 |[],ss=>([],ss)
 |x::ws,ss=>
  if L9 s l n x then
   let new:=BL c s x.1 n 1 x.2.1
   let q:=FW all c s l n ws (ss.map (PE all x.1 x.2.1 new))
   ((x.1,new,())::q.1,q.2)
  else
   let q:=FW all c s l n ws ss
   (x::q.1,q.2)
def N_(m:Av)(s:AO)(o:Int):Bool:=match Dp m o with|some e=>Ew e.1 s.1==some e|none=>false
def EF(m:Av)(s:AO)(n:Int):Int->List AAC->List AAC
 |_,[]=>[]
 |o,x::l=>(if N_ m s o then Jx n x else x)::EF m s n (o+1) l
def HQ(s:AO)(l:List CX)(n:Int)(m:Av):Av:=
 if(Aq l m.2.1).contains n then(m.1,m.2.1,m.2.2.1,m.2.2.2.1,m.2.2.2.2.1,EF m s n 1 m.2.2.2.2.2.1,())else m
def KC(all:Bool)(w:AA)(n:Int):bJ:=
 if Ak w n≠0 then(w,Ak w n)else
 let q:=Co (storeAt w n)
 if !q.2 then(w,4)else
 let t:=FW all (AU w) q.1 w.Af n w.AH w.BE
 ((((w.BJ (w.Ao.set n.toNat q.1)).BG t.1).DF t.2).Br (w.Bg.map (HQ q.1 w.Af n)),0)
def Is(w:AA)(n k:Int):bJ:=if Ak w n≠0 then(w,Ak w n)else putAt w n (EK (storeAt w n) k)
def Mt(w:AA)(n:Int):bJ:=
 if Ak w n≠0 then(w,Ak w n)else
 let ls:=Jx n w.lost
 (((((w.BJ (w.Ao.set n.toNat Cz)).Em ls).BG (w.AH.map fun x=>(CJ (AU w) x n).1)).Br (w.Bg.map fun m=>(CF (AU w) m n).1)).FU (w.ER||holds (AU w) ls),0)
def Mr(w:AA)(n:Int):bJ:=
 if !w.lost.contains n then(w,2)else
 let q:=Xh (AU w) w.Ao w.lost n (max ((w.Af.length:Int)-1) 0)
 if !q.2 then(w,4)else((w.BJ (w.Ao.set n.toNat q.1)).Em (less w.lost [n]),0)
def Mc(w:AA):bJ:=
 if decide ((w.Af.length:Int)<2)||decide (BF w.Af=w.Af.length)then(w,2)else
 if w.Bg.length>0 then(w,4)else(w.Br [Wq (BF w.Af) w.Af.length],0)
def Mh(w:AA)(n:Int):bJ:=
 match w.Bg with
 |[]=>(w,2)
 |m::ms=>
  if Ak w n≠0 then(w,Ak w n)else
  if !(Aq w.Af m.2.1).contains n then(w,2)else
  let q:=Bp (storeAt w n) (m.1-1)
  let t:=LV (AU w) m n (GK q.1 m.2.1)
  if !q.2|| !t.2 then(w,4)else((w.BJ (w.Ao.set n.toNat q.1)).Br (t.1::ms),0)
def Mx(w:AA):bJ:=
 match w.Bg with
 |[]=>(w,2)
 |m::ms=>
  let t:=Ig (AU w) m (Aq w.Af m.2.1)
  if !t.2 then(w,4)else(w.Br (t.1::ms),0)
def S5(w:AA)(b n:Int):bJ:=
 match w.Bg with
 |[]=>(w,2)
 |m::ms=>
  match Dp m b with
  |none=>(w,2)
  |some e=>
   if Ak w n≠0 then(w,Ak w n)else
   if !(Aq w.Af m.2.1).contains n then(w,2)else putAt w n (GP (storeAt w n) e)
def Iw(w:AA):bJ:=
 match w.Bg with
 |[]=>(w,2)
 |m::ms=>
  if !Ph (AU w) m then(w,5)else
  let q:=M1 (AU w) (CA w) m.1 m.2.2.2.2.2.1.length
  if !q.2 then(w,4)else((w.Hc q.1).Br [],0)
def O4(w:AA)(a:Int):bJ:=
 let q:=MN (AU w) (CA w) a
 if !q.2 then(w,4)else(w.Hc q.1,0)
def answer(w:AA)(p n:Int):Az:=
 match Ew p (storeAt w n).1 with
 |some e=>(n,true,e.1,e.2.1,e.2.2.1,e.2.2.2.1,())
 |none=>(n,false,0,0,false,[],())
def answers(w:AA)(p:Int)(ns:AAC):List Az:=(ns.filter fun n=>Ak w n==0).map (answer w p)
def Vb(w:AA)(e:Int):Int:=match w.AH.find? (fun x=>x.1==e)with|some x=>V_ x.2.1|none=>0
def Ir(w:AA)(a k:Int):bJ:=
 if !BS a 0 1 then(w,2)else
 let r:=w.AX.getD a.toNat AW
 let q:=B9 (AU w) (CA w) (Vb w r.1) r (answers w (EN r.1 r.2.1) (Ap k))
 if q.2≠0 then(w,5)else(w.DC (w.AX.set a.toNat q.1),0)
def Nb(w:AA)(a:Int):bJ:=
 if !BS a 0 ((w.AH.length:Int)-1)then(w,2)else(w.BG (w.AH.eraseIdx a.toNat),0)
def It(w:AA)(n:Int):bJ:=if Ak w n≠0 then(w,Ak w n)else putAt w n (GN (storeAt w n) w.trim)
def LQ(all:Bool)(w:AA)(d:BR):bJ:=
 if d.1=1 then MU w d.2.1 else
 if d.1=2 then doAdd w d.2.1 d.2.2.2.2.1 else
 if d.1=3 then Iv w d.2.1 d.2.2.1 d.2.2.2.1 else
 if d.1=4 then KC all w d.2.1 else
 if d.1=5 then Is w d.2.1 d.2.2.1 else
 if d.1=6 then Mt w d.2.1 else
 if d.1=7 then Mr w d.2.1 else
 if d.1=8 then Mc w else
 if d.1=9 then Mh w d.2.1 else
 if d.1=10 then Mx w else
 if d.1=11 then S5 w d.2.2.1 d.2.2.2.1 else
 if d.1=12 then Iw w else
 if d.1=13 then O4 w d.2.1 else
 if d.1=14 then Ir w d.2.1 d.2.2.1 else
 if d.1=15 then Nb w d.2.1 else It w d.2.1
def C5(all:Bool)(w:AA)(d:BR):bJ:=if !Dv w|| !P8 d then(ATZ,1)else LQ all w d
end Go.M
end
section
set_option maxRecDepth 8000
namespace Go.M
open Go.M.H (AA AJ AM AO AQ AY AZ A_ Ab Ac Ag Al Ar As Au Av Az BI BR BX C0 CG CO CQ CX DK EL)
theorem I3{p:Nat->Bool}{n:Nat}:C4 p 0 n=true↔ ∀i,i<n->p i=true:=
 ⟨fun h i hi=>Ry h i (by omega) (by omega),fun h=>pd fun j _ hj=>h j (by omega)⟩
theorem KZ{α:Type}{l:List α}{i:Nat}{d:α}(h:i<l.length):l.getD i d=l[i]:=by simp_all
theorem SB{α:Type}{l:List α}{d:α}{P:α->Prop}:(∀i,i<l.length->P (l.getD i d))↔ ∀x∈l,P x:=by
 constructor
 ·intro h x hx
  obtain⟨i,hi,rfl⟩:=AQo hx;simp_all
 simp_all
abbrev T4{α:Type}(f:α->Int)(l:List α):Prop:=l.Pairwise fun a b=>f a<f b
theorem fl{α:Type}{f:α->Int}{l:List α}{d:α}:(∀i,i<l.length->i=0\/f (l.getD (i-1) d)<f (l.getD i d))↔T4 f l:=by
 constructor
 ·intro h
  unfold T4;rw[AUl];have key:∀(k i:Nat),i+k+1<l.length->f (l.getD i d)<f (l.getD (i+k+1) d):=by
   intro k
   induction k with
   |zero=>
    grind
   |succ k ih=>
    grind
  intro i j hi hj hij;have:=key (j-i-1) i (by omega);grind
 grind[List.pairwise_iff_getElem,KZ]
theorem Ai{x a b:Int}:BS x a b=true↔a<=x/\x<=b:=by simp[BS]
theorem yc{l:AAC}{hi:Int}:pn l hi=true↔(∀x∈l,0<=x/\x<=hi)/\T4 id l:=by
 unfold pn;rw[I3,<-SB (d:=(0:Int)) (P:=fun x=>0<=x/\x<=hi),<-fl (d:=(0:Int))];simp only[vV,ALz,Ai,ATB,AUM,ANK,id];grind
theorem Ef{c:CP}{l:AAC}:Ay c l=true↔FJ c=true/\(∀x∈l,0<=x/\x<c.1.length)/\T4 id l:=by
 unfold Ay;rw[ALz,yc];grind
theorem we{l:List AJ}:YJ l=true↔ ∀e∈l,Ei e=true:=by
 unfold YJ;rw[I3];exact SB (P:=fun e=>Ei e=true)
theorem yl{l:List AJ}:kD l=true↔T4 (fun e:AJ=>e.1) l:=by
 unfold kD;rw[I3,<-fl (d:=Dz)];simp_all
structure gd (s:AO):Prop where
 nk:s.1.length<=200
 kept:∀e∈s.1,Ei e=true
 nl:s.2.1.length<=20
 late:∀e∈s.2.1,Ei e=true
 ft:T4 (fun e:AJ=>e.1) s.1
 sl:0<=s.2.2.1/\s.2.2.1<=30
theorem Dd{s:AO}:CI s=true↔gd s:=by
 unfold CI;simp only[ALz,ANK,we,yl,Ai];exact⟨fun⟨⟨a,b⟩,⟨c,d⟩,e,f⟩=>⟨a,b,c,d,e,f⟩,fun h=>⟨⟨h.nk,h.kept⟩,⟨h.nl,h.late⟩,h.ft,h.sl⟩⟩
structure EOk (e:AJ):Prop where
 pl:BZ e.1=true
 w0:0<=e.2.1/\e.2.1<=30
 w1:0<e.2.1->AN e.1<e.2.1
 len:e.2.2.2.1.length<=40
 hole:e.2.2.1=true->0<e.2.1/\e.2.2.2.1=[]
theorem Fh{e:AJ}:Ei e=true↔EOk e:=by
 unfold Ei;simp only[ALz,ATB,ATc,ANK,AUi,Ai,AUM];constructor
 ·rintro⟨a,b,c,d,e⟩
  refine⟨a,b,fun h=>c.resolve_left fun hn=>hn h,d,fun h=>e.resolve_left fun hn=> ?_⟩;simp_all
 ·intro h
  refine⟨h.pl,h.w0,?_,h.len,?_⟩
  ·by_cases hw:0<e.2.1
   ·exact .inr (h.w1 hw)
   omega
  ·cases hh:e.2.2.1 with
   |false=>simp_all
   |true=>exact .inr (h.hole hh)
structure qS (c:CP) (m:Av):Prop where
 cfg:FJ c=true
 ep:1<=m.2.1/\m.2.1<=30
 b:m.2.1+1<=m.1/\m.1<=30
 gY:Ay c m.2.2.1=true
 ft:T4 (fun e:AJ=>e.1) m.2.2.2.1
 seen:∀e∈m.2.2.2.1,Ei e=true/\AN e.1=m.2.1/\e.2.1<m.1
 wrote:∀l∈m.2.2.2.2.2.1,Ay c l=true
 n:(m.2.2.2.2.2.1.length:Int)=if m.2.2.2.2.1 then LZ m.2.2.2.1 else 0
theorem Hi{c:CP}{m:Av}:HN c m=true↔qS c m:=by
 unfold HN ug q8;simp only[ALz,Ai,yl,I3,uf,AUM,ANK];rw[SB (d:=Dz) (P:=fun e=>Ei e=true/\AN e.1=m.2.1/\e.2.1<m.1),SB (d:=([]:AAC)) (P:=fun l=>Ay c l=true)];have:(m.2.2.2.2.2.1.length:Int)=cond m.2.2.2.2.1 (LZ m.2.2.2.1) 0↔(m.2.2.2.2.2.1.length:Int)=if m.2.2.2.2.1 then LZ m.2.2.2.1 else 0:=by
  grind
 rw[this];exact⟨fun⟨a,b,c,d,e,f,g,h⟩=>⟨a,b,c,d,e,f,g,h⟩,fun h=>⟨h.cfg,h.ep,h.b,h.gY,h.ft,h.seen,h.wrote,h.n⟩⟩
structure ROk (c:CP) (r:AQ):Prop where
 cfg:FJ c=true
 n:r.1.length<=30
 trim:r.2.1=0\/(BZ r.2.1=true/\AN r.2.1<=r.1.length)
 Af:∀e∈r.1,holds c e.1=true/\(0<=e.2.2.1/\e.2.2.1<=60)/\(e.2.1=false->e.2.2.1=0)
 down:∀i,i<r.1.length->(r.1.getD i Gd).2.1=true->i+1<r.1.length/\ ∀j,j<i->(r.1.getD j Gd).2.1=true
theorem JF{c:CP}{r:AQ}:NC c r=true↔ROk c r:=by
 unfold NC hU;simp only[ALz,ANK,ATB,AUM,I3,vY,pM,Ai,ATc,Bool.and_eq_false_iff,Bool.or_eq_false_iff,AUi,AOe];constructor
 ·rintro⟨a,b,c1,d⟩
  refine⟨a,b,c1,(SB (d:=Gd) (P:=fun e=>holds c e.1=true/\(0<=e.2.2.1/\e.2.2.1<=60)/\(e.2.1=false->e.2.2.1=0))).1 fun i hi=> ?_,fun i hi hc=> ?_⟩
  ·grind
  ·have step:∀k,k<r.1.length->(r.1.getD k Gd).2.1=true->k+1<r.1.length/\(0<k->(r.1.getD (k-1) Gd).2.1=true):=fun k hk hkc=>by
    rcases(d k hk).2 with h|⟨h1,h2⟩
    ·simp_all
    ·refine⟨by omega,fun h0=> ?_⟩
     simp_all
   refine⟨(step i hi hc).1,?_⟩;clear hi
   induction i with
   |zero=>omega
   |succ i ih=>
    intro j hj;have Dr:i+1<r.1.length:=by
     rcases Nat.lt_or_ge (i+1) r.1.length with h|h
     ·omega
     ·simp[List.getD,h]at hc
      cases hc
    grind
 ·intro h
  refine⟨h.cfg,h.n,h.trim,fun i hi=>⟨?_,?_⟩⟩
  ·obtain⟨h1,h2,h3⟩:=h.Af _ (BM (d:=Gd) hi)
   grind
  ·cases hb:(r.1.getD i Gd).2.1 with
   |false=>simp_all
   |true=>
    obtain⟨h1,h2⟩:=h.down i hi hb;grind
structure cF (c:CP) (w:AM):Prop where
 cfg:FJ c=true
 ep:1<=w.1/\w.1<=30
 n:w.2.1.length<=60
 words:∀x∈w.2.1,x.1.length<=40/\Ay c x.2.1=true/\x.2.2.1=holds c x.2.1
 opn:RX w.2.1<=6
theorem Il{c:CP}{w:AM}:F7 c w=true↔cF c w:=by
 unfold F7 le6 br;simp only[ALz,ANK,Ai,AUY,AUM];exact⟨fun⟨a,b,c,d,e⟩=>⟨a,b,c,d,e⟩,fun h=>⟨h.cfg,h.ep,h.n,h.words,h.opn⟩⟩
structure AGv (r:AZ):Prop where
 ep:1<=r.1/\r.1<=31
 off:1<=r.2.1/\r.2.1<=61
 n:r.2.2.1.length<=120
theorem RQ{r:AZ}:Xk r=true↔AGv r:=by
 unfold Xk;simp only[ALz,ANK,Ai];exact⟨fun⟨a,b,c⟩=>⟨a,b,by omega⟩,fun h=>⟨h.ep,h.off,by have:=h.n;omega⟩⟩
structure OG (w:AA):Prop where
 cfg:FJ (AU w)=true
 pj:w.Ao.length=w.1.length
 lost:Ay (AU w) w.lost=true
 ER:w.ER=true\/holds (AU w) w.lost=false
 Ao:∀i,i<w.Ao.length->gd (w.Ao.getD i Cz)/\((i:Int)∈w.lost->w.Ao.getD i Cz=Cz)
 mf:ROk (AU w) (CA w)
 sS:w.AH.length<=4
 zF:w.Bg.length<=1
 AH:∀x∈w.AH,cF (AU w) x/\x.1<=w.Af.length
 Yd:T4 (fun x:AM=>x.1) w.AH
 Bg:∀m∈w.Bg,qS (AU w) m/\m.1=w.Af.length/\m.2.1=BF w.Af
 o8:w.AX.length=2
 AX:∀r∈w.AX,AGv r
 QD:w.BE.length<=120
 BE:∀s∈w.BE,BZ s.1=true/\AN s.1<=w.Af.length/\s.2.1.length<=40
 Vu:T4 (fun s:Ac=>s.1) w.BE
theorem Ee{w:AA}:Dv w=true↔OG w:=by
 unfold Dv;simp only[ALz,ANK,fY,bF,gk,ui,bB,I3,mW,fV,uq,uI,ATB,ATc,AUM,Dd,JF,Il,Hi,RQ];have hz:∀s:AO,(s.1.length=0/\s.2.1.length=0/\s.2.2.1=0)↔s=Cz:=fun s=>by
  grind
 simp only[hz];constructor
 ·rintro⟨h1,h2,h3,h4,h5,h6,h7,h8,h9,h10,⟨h11,h12,h13⟩,h14,h15⟩
  refine⟨h1,h2,h3,h4,fun i hi=>⟨(h5 i hi).1,fun hm=>(h5 i hi).2.resolve_left fun hc=> ?_⟩,h6,h7,h8,?_,?_,?_,h11,?_,h14,?_,?_⟩
  ·simp_all
  ·exact(SB (d:=B7) (P:=fun x:AM=>cF (AU w) x/\x.1<=w.Af.length)).1 fun i hi=>⟨(h9 i hi).1,(h9 i hi).2.1⟩
  ·exact(fl (f:=fun x:AM=>x.1) (d:=B7)).1 fun i hi=>(h9 i hi).2.2
  ·exact(SB (d:=Rb) (P:=fun m:Av=>qS (AU w) m/\m.1=w.Af.length/\m.2.1=BF w.Af)).1 h10
  ·refine(SB (d:=AW) (P:=AGv)).1 fun i hi=> ?_
   rw[h11]at hi;rcases(by omega:i=0\/i=1)with rfl|rfl
   all_goals omega
  ·exact(SB (d:=JZ) (P:=fun s:Ac=>BZ s.1=true/\AN s.1<=w.Af.length/\s.2.1.length<=40)).1 fun i hi=>⟨(h15 i hi).1.1,(h15 i hi).1.2,(h15 i hi).2.1⟩
  ·exact(fl (f:=fun s:Ac=>s.1) (d:=JZ)).1 fun i hi=>(h15 i hi).2.2
 ·intro h
  refine⟨h.cfg,h.pj,h.lost,h.ER,fun i hi=>⟨(h.Ao i hi).1,?_⟩,h.mf,h.sS,h.zF,fun i hi=> ?_,fun i hi=>h.Bg _ (BM hi),⟨h.o8,h.AX _ (BM (by rw[h.o8];omega)),h.AX _ (BM (by rw[h.o8];omega))⟩,h.QD,fun i hi=> ?_⟩
  ·by_cases hm:(i:Int)∈w.lost
   ·exact .inr ((h.Ao i hi).2 hm)
   simp_all
  ·have:=h.AH _ (BM (d:=B7) hi)
   exact⟨this.1,this.2,(fl (f:=fun x:AM=>x.1) (d:=B7)).2 h.Yd i hi⟩
  ·have:=h.BE _ (BM (d:=JZ) hi)
   exact⟨⟨this.1,this.2.1⟩,this.2.2,(fl (f:=fun s:Ac=>s.1) (d:=JZ)).2 h.Vu i hi⟩
theorem rG{x y:Int}:∀{l:AAC},y∈iK x l↔y=x\/y∈l
 |[]=>by simp[iK]
 |z::l=>by
  simp only[iK];split
  ·simp
  ·simp only[AOD,rG (l:=l)]
   grind
theorem xw{x:Int}:∀{l:AAC},T4 id l->x∉l->T4 id (iK x l)
 |[],_,_=>by simp[iK,T4]
 |z::l,h,hx=>by
  simp only[T4,APg,id]at h;simp only[AOD,AYp]at hx;simp only[iK];split
  ·rename_i hz
   simp only[T4,APg,AOD,id];grind
  ·rename_i hz
   simp only[T4,APg,id];refine⟨fun a ha=> ?_,xw h.2 hx.2⟩;rcases rG.1 ha with rfl|ha
   all_goals grind
theorem O9{x y:Int}{l:AAC}:y∈Jx x l↔y=x\/y∈l:=by
 unfold Jx;split
 ·simp_all
 ·exact rG
theorem AEd{x:Int}{l:AAC}(h:T4 id l):T4 id (Jx x l):=by
 grind[Jx,xw]
theorem I1{c:CP}{x:Int}{l:AAC}(h:Ay c l=true)(hx:0<=x/\x<c.1.length):Ay c (Jx x l)=true:=by
 rw[Ef]at h|-;refine⟨h.1,fun y hy=> ?_,AEd h.2.2⟩;rcases O9.1 hy with rfl|hy
 all_goals simp_all
theorem Lx{c:CP}{l:AAC}(p:Int->Bool)(h:Ay c l=true):Ay c (l.filter p)=true:=by
 grind[Ef]
theorem SY{x:Int}{l m:AAC}:x∈less l m↔x∈l/\x∉m:=by simp[less]
theorem ei{c:CP}(h:FJ c=true):Ay c []=true:=Ef.2 ⟨h,fun _ h=>by simp at h,List.Pairwise.nil⟩
theorem AEu{l m:AAC}(h:l.Nodup)(hs:∀x∈l,x∈m):l.length<=m.length:=by
 induction l generalizing m with
 |nil=>simp
 |cons a l ih=>
  rw[AW_]at h;have ha:=hs a (by simp);have:=ih (m:=m.erase a) h.2 fun x hx=>(List.mem_erase_of_ne (fun e:x=a=>h.1 (by simp_all))).2 (hs x (by simp[hx]))
  grind
theorem yh{c:AAC}{d:Int}:∀{l acc:AAC},d∈jh c l acc↔d∈acc\/ ∃n∈l,c.getD n.toNat 0=d
 |[],acc=>by simp[jh]
 |n::l,acc=>by
  simp only[jh];rw[yh (l:=l)];grind
theorem pt{c:AAC}:∀{l acc:AAC},acc.Nodup->(jh c l acc).Nodup
 |[],acc,h=>h
 |n::l,acc,h=>by
  simp only[jh];refine pt ?_
  grind
theorem y9{c l m:AAC}(h:∀x∈l,x∈m):cf c l<=cf c m:=by
 refine AEu (pt List.nodup_nil) fun d hd=> ?_
 grind[yh]
theorem ie{c:CP}{l m:AAC}(hl:holds c l=true)(hm:Ay c m=true)(h:∀x∈l,x∈m):holds c m=true:=by
 simp only[holds,ALz,ANK]at hl|-;have:=y9 (c:=c.1) h;grind
def Ge(c:CP)(S:Int->Prop):Prop:= ∃l,holds c l=true/\ ∀n∈l,S n
theorem Ge.mono{c:CP}(S T:Int->Prop)(h:∀n,S n->T n)(hS:Ge c S):Ge c T:=
 let⟨l,h1,h2⟩:=hS;⟨l,h1,fun n hn=>h n (h2 n hn)⟩
theorem Ge.list{c:CP}{l:AAC}(h:Ay c l=true):Ge c (fun n=>n∈l)↔holds c l=true:=
 ⟨fun⟨_,h1,h2⟩=>ie h1 h h2,fun h1=>⟨l,h1,fun _ hn=>hn⟩⟩
theorem holds_nil{c:CP}:holds c []=false:=by
 rw[AUZ];intro h;have hc:=(Ef.1 (PD h)).1;have:=(Gu hc).2.2.1;simp only[holds,ALz,ANK,cf,jh]at h;grind
theorem Ge.empty{c:CP}: ¬Ge c (fun _=>False):=fun⟨l,h1,h2⟩=>by
 cases l with
 |nil=>grind[holds_nil]
 |cons a l=>exact h2 a (by simp)
theorem td{a b:AJ}(h:a.1=b.1):(better a b).1=b.1:=by grind[better]
theorem dq{e y:AJ}:∀{l:List AJ},y∈keep e l->y=e\/y∈l
 |[],h=>by simpa[keep]using h
 |x::l,h=>by
  simp only[keep]at h;split at h
  ·rcases AOD.1 h with rfl|h
   all_goals grind[better]
  ·split at h
   ·simp_all
   ·rcases AOD.1 h with rfl|h
    ·simp
    ·rcases dq h with h|h<;>simp[h]
theorem AKw{e y:AJ}{l:List AJ}(h:y∈keep e l):y.1=e.1\/ ∃z∈l,z.1=y.1:=by
 rcases dq h with rfl|h
 all_goals grind
theorem XL{e:AJ}:∀{l:List AJ},(keep e l).length<=l.length+1/\l.length<=(keep e l).length
 |[]=>by simp[keep]
 |x::l=>by
  have:=XL (e:=e) (l:=l);grind[keep,List.length_cons]
abbrev X3(l:List AJ):Prop:=T4 (fun e:AJ=>e.1) l
theorem Uw{e:AJ}:∀{l:List AJ},X3 l->X3 (keep e l)
 |[],_=>by simp[keep,T4]
 |x::l,h=>by
  have h':=h;simp only[T4,APg]at h;simp only[keep];split
  ·rename_i hx
   simp only[X3,T4,APg];grind[td]
  ·split
   ·rename_i hx
    simp only[X3,T4,APg,AOD];grind
   ·rename_i h1 h2
    simp only[X3,T4,APg];refine⟨fun a ha=> ?_,Uw h.2⟩;grind[AKw]
theorem HC{p:Int}{l:List AJ}{e:AJ}(h:Ew p l=some e):e∈l/\e.1=p:=by
 grind[Ew,List.mem_of_find?_eq_some]
theorem ACR{p:Int}{l:List AJ}(h:Ew p l=none):∀e∈l,e.1≠p:=by
 grind[Ew]
theorem MJ{e:AJ}:∀{l:List AJ},X3 l->e∈l->Ew e.1 l=some e
 |x::l,h,he=>by
  simp only[T4,APg]at h;unfold Ew;rw[AU_];rcases AOD.1 he with rfl|he
  ·simp
  ·have:=h.1 e he
   have bg:(x.1==e.1)=false:=by grind
   rw[bg];exact MJ h.2 he
theorem lr{e:AJ}{p:Int}:∀{l:List AJ},X3 l->Ew p (keep e l)=if p=e.1 then some (match Ew p l with|some x=>better x e|none=>e)else Ew p l
 |[],_=>by
  simp only[keep,Ew,AU_,List.find?_nil];grind
 |x::l,h=>by
  have h':=h;simp only[T4,APg]at h;have tail:∀q,q<=x.1->q≠x.1->Ew q l=none:=fun q hq bg=>by
   grind[Ew,HC]
  have cons:∀(z:AJ) (m:List AJ),Ew p (z::m)=if z.1=p then some z else Ew p m:=fun z m=>by
   unfold Ew;grind
  simp only[keep];split
  ·rename_i hx
   rw[cons,cons,td hx];grind
  ·split
   ·grind
   ·rename_i h1 h2
    rw[cons,cons,lr h.2];grind
theorem Rl{y:AJ}:∀{l k:List AJ},y∈Dn k l->y∈k\/y∈l
 |[],k,h=> .inl h
 |e::l,k,h=>by
  rcases Rl (l:=l) h with h|h
  ·rcases dq h with rfl|h
   all_goals simp_all
  simp_all
theorem RL:∀{l k:List AJ},X3 k->X3 (Dn k l)
 |[],k,h=>h
 |e::l,k,h=>RL (l:=l) (Uw h)
theorem AIS{e:AJ}{l:List AJ}{p:Int}{x:AJ}(h:X3 l)(hx:Ew p l=some x):∃y,Ew p (keep e l)=some y/\(y=x\/x.2.1<y.2.1):=by
 rw[lr h];split
 ·rw[hx]
  refine⟨better x e,rfl,?_⟩;unfold better;grind
 simp_all
theorem XQ{p:Int}:∀{l k:List AJ} {x:AJ},X3 k->Ew p k=some x-> ∃y,Ew p (Dn k l)=some y/\(y=x\/x.2.1<y.2.1)
 |[],k,x,_,hx=>⟨x,hx,.inl rfl⟩
 |e::l,k,x,h,hx=>by
  obtain⟨y,h1,h2⟩:=AIS (e:=e) h hx;obtain⟨z,h3,h4⟩:=XQ (l:=l) (Uw h) h1;refine⟨z,h3,?_⟩;grind
theorem iP{e:AJ}:∀{l k:List AJ},X3 k->e∈l-> ∃y,Ew e.1 (Dn k l)=some y/\e.2.1<=y.2.1
 |a::l,k,h,he=>by
  rcases AOD.1 he with rfl|he
  ·have h1:∃y,Ew e.1 (keep e k)=some y/\e.2.1<=y.2.1:=by
    rw[lr h,AKJ rfl];refine⟨_,rfl,?_⟩;split
    ·grind[better]
    omega
   obtain⟨y,h1,h2⟩:=h1;obtain⟨z,h3,h4⟩:=XQ (l:=l) (Uw h) h1;exact⟨z,h3,by grind⟩
  ·exact iP (l:=l) (Uw h) he
theorem RS{k:Int}{y:AJ}:∀{l:List AJ} {i:Nat},y∈Mp k i l->y∈l
 |[],_,h=>h
 |e::l,i,h=>by
  simp only[Mp]at h;split at h
  ·rcases AOD.1 h with rfl|h
   ·simp
   ·simp[RS h]
  ·simp[RS h]
theorem JH{e o:Int}(he:1<=e/\e<=30)(ho:1<=o/\o<=60):BZ (EN e o)=true/\AN (EN e o)=e/\BD (EN e o)=o:=by
 have h1:XH (EN e o)=e:=by
  grind[XH,EN,Int.tdiv_eq_ediv_of_nonneg]
 have h2:(EN e o).tmod 4294967296=o:=by
  grind[EN,Int.tmod_eq_emod_of_nonneg]
 have h3:BZ (EN e o)=true:=by
  unfold BZ;rw[h1,h2,ALz,Ai,Ai];omega
 exact⟨h3,by unfold AN;simp_all,by unfold BD;simp_all⟩
theorem CM{p:Int}(h:BZ p=true):(1<=AN p/\AN p<=30)/\(1<=BD p/\BD p<=60)/\EN (AN p) (BD p)=p:=by
 have h0:=fF h;have h1:=h;unfold BZ at h1;rw[ALz,Ai,Ai]at h1;have e1:AN p=XH p:=by unfold AN;rw[AKJ h]
 grind[BD,EN,XH,Int.tdiv_eq_ediv_of_nonneg,Int.tmod_eq_emod_of_nonneg]
theorem uh{p q:Int}(hp:BZ p=true)(hq:BZ q=true):p<=q↔AN p<AN q\/(AN p=AN q/\BD p<=BD q):=by
 obtain⟨a1,a2,a3⟩:=CM hp;obtain⟨b1,b2,b3⟩:=CM hq;grind[EN]
theorem ud{p q:Int}(hp:BZ p=true)(hq:BZ q=true)(h1:AN p=AN q)(h2:BD p=BD q):p=q:=by
 rw[<-(CM hp).2.2,<-(CM hq).2.2,h1,h2]
theorem gd.nil:gd Cz:=⟨by simp,by simp,by simp,by simp,List.Pairwise.nil,by simp⟩
theorem ew{s:AO}{e:AJ}(h:(GP s e).2=true):gd (GP s e).1/\(GP s e).1=(s.1,s.2.1++[e],s.2.2.1,())/\Ei e=true/\takes s e=true:=by
 unfold GP at*;split at h
 ·cases h
 rename_i hs;rw[AKT hs];simp only[AOP,AOe]at hs;rw[Dd]at hs;split at h
 case isFalse=>cases h
 rename_i h1;rw[AKJ h1];simp only[ALz,ANK]at h1;obtain⟨he,ht,hl⟩:=h1;refine⟨⟨hs.nk,hs.kept,?_,fun x hx=> ?_,hs.ft,hs.sl⟩,rfl,he,ht⟩
 ·have:=hs.nl
  grind
 ·simp only[AOO,AUa]at hx
  rcases hx with hx|rfl
  ·exact hs.late x hx
  omega
theorem K8{s:AO}{k:Int}(h:(EK s k).2=true):gd s/\gd (EK s k).1/\(EK s k).1=(Dn s.1 (Mp k 0 s.2.1),[],s.2.2.1,()):=by
 unfold EK at*;split at h
 ·cases h
 rename_i hs;rw[AKT hs];simp only[AOP,AOe]at hs;rw[Dd]at hs;simp only at h|-;split at h
 case isFalse=>cases h
 rename_i h1;rw[AKJ h1];simp only[ALz,ANK]at h1;refine⟨hs,⟨h1.2,fun e he=> ?_,by simp,by simp,RL hs.ft,hs.sl⟩,rfl⟩;rcases Rl he with he|he
 ·exact hs.kept e he
 ·exact hs.late e (RS he)
theorem bu{s:AO}{u:Int}(h:(Bp s u).2=true):gd s/\gd (Bp s u).1/\(Bp s u).1=(Dn s.1 (Mp 1048575 0 s.2.1),[],max s.2.2.1 u,())/\0<=u/\u<=30:=by
 unfold Bp at*;split at h
 ·cases h
 rename_i hs;rw[AKT hs];simp only[AOP,AOe]at hs;simp only at h|-;split at h
 case isFalse=>cases h
 rename_i h1;rw[AKJ h1];simp only[ALz,Ai]at h1;obtain⟨k1,k2,k3⟩:=K8 h1.1;have jF:(Co s).1=_:=k3;rw[jF];refine⟨k1,⟨?_,?_,by simp,by simp,RL k1.ft,?_⟩,rfl,h1.2⟩
 ·have:=k2.nk;simp_all
 ·have:=k2.kept;simp_all
 ·have:=k1.sl
  grind
theorem kF{s:AO}{u:Int}(h:(GN s u).2=true):gd s/\gd (GN s u).1/\(GN s u).1=(s.1.filter fun e=>decide (e.1>u),s.2.1,s.2.2.1,()):=by
 unfold GN at*;split at h
 ·cases h
 rename_i hs;rw[AKT hs];simp only[AOP,AOe]at hs;rw[Dd]at hs;split at h
 case isFalse=>cases h
 rename_i h1;rw[AKJ h1];refine⟨hs,⟨ARi (ASs _ _) hs.nk,fun e he=>hs.kept e (AUJ.1 he).1,hs.nl,hs.late,hs.ft.filter _,hs.sl⟩,rfl⟩
theorem yk{c:CP}{ss:List AO}{lost:AAC}{n u:Int}(h:(Xh c ss lost n u).2=true):
  gd (Xh c ss lost n u).1/\(Xh c ss lost n u).1=(F8 [] (others lost 0 ss),[],u,())/\holds c lost=false/\ ∀s∈others lost 0 ss,gd s:=by
 unfold Xh at*;simp only at h|-;split at h
 case isFalse=>cases h
 rename_i h1;rw[AKJ h1];simp only[ALz,ANK,ATc,AUY]at h1;obtain⟨_,_,_,h2,_,h3,h4⟩:=h1;exact⟨Dd.1 h4,rfl,h2,fun s hs=>Dd.1 (h3 s hs)⟩
theorem fC{l:List CX}:∀{d i:Nat},i+d=l.length->(X9 l i d=0/\ ∀j,i<=j->j<l.length->(l.getD j Gd).2.1=true)\/
  ∃k,i<=k/\k<l.length/\X9 l i d=(k:Int)+1/\(l.getD k Gd).2.1=false/\ ∀j,i<=j->j<k->(l.getD j Gd).2.1=true
 |0,i,h=> .inl ⟨rfl,fun j h1 h2=>by omega⟩
 |d+1,i,h=>by
  simp only[X9];cases hb:(l.getD i ([],false,0,())).2.1 with
  |false=>grind
  |true=>
   simp only[AMy,ANE];rcases fC (l:=l) (d:=d) (i:=i+1) (by omega)with⟨h1,h2⟩|⟨k,h1,h2,h3,h4,h5⟩
   all_goals grind
theorem Ol{c:CP}{r:AQ}(h:ROk c r)(hl:0<r.1.length):∃k,k<r.1.length/\BF r.1=(k:Int)+1/\(r.1.getD k Gd).2.1=false/\ ∀j,j<k->(r.1.getD j Gd).2.1=true:=by
 rcases fC (l:=r.1) (d:=r.1.length) (i:=0) (by omega)with⟨h1,h2⟩|⟨k,h1,h2,h3,h4,h5⟩
 ·have:=(h.down (r.1.length-1) (by omega) (h2 _ (by omega) (by omega))).1
  omega
 ·exact⟨k,h2,h3,h4,fun j hj=>h5 j (by omega) hj⟩
theorem qV{c:CP}{r:AQ}{ns:AAC}(h:(I0 c r ns).2.2=true):ROk c r/\ROk c (I0 c r ns).1/\(I0 c r ns).1=(r.1++[(ns,false,0,())],r.2.1,())/\(I0 c r ns).2.1=(r.1.length:Int)+1/\holds c ns=true/\r.1.length<30:=by
 unfold I0 at*;split at h
 ·cases h
 rename_i hs;rw[AKT hs];simp only[AOP,AOe]at hs;rw[JF]at hs;split at h
 case isFalse=>cases h
 rename_i h1;rw[AKJ h1];simp only[ALz,ANK]at h1;have hn:=hs.n;refine⟨hs,⟨hs.cfg,?_,?_,fun e he=> ?_,fun i hi hc=> ?_⟩,rfl,rfl,h1.1,by omega⟩
 ·grind
 ·rcases hs.trim with h2|⟨h2,h3⟩
  all_goals grind
 ·simp only[AOO,AUa]at he
  rcases he with he|rfl
  ·exact hs.Af e he
  simp_all
 ·simp only[API,AN9,AQL]at hi
  have get:∀j,j<r.1.length->(r.1++[(ns,false,0,())]).getD j Gd=r.1.getD j Gd:=fun j hj=>by
   grind
  by_cases hl:i<r.1.length
  ·rw[get i hl]at hc
   obtain⟨h2,h3⟩:=hs.down i hl hc;grind
  simp_all
theorem WW{l:List CX}{i j:Nat}{last:Int}(hi:i<l.length):(G8 l i last).getD j Gd=if i=j then((l.getD i Gd).1,true,last,())else l.getD j Gd:=by
 grind[G8]
theorem nH{c:CP}{r:AQ}{b last:Int}(h:(M1 c r b last).2=true):ROk c r/\ROk c (M1 c r b last).1/\
  ∃k,k<r.1.length/\BF r.1=(k:Int)+1/\k+1<r.1.length/\b=r.1.length/\(0<=last/\last<=60)/\(M1 c r b last).1=(G8 r.1 k last,r.2.1,())/\(r.1.getD k Gd).2.1=false/\ ∀j,j<k->(r.1.getD j Gd).2.1=true:=by
 unfold M1 at*;split at h
 ·cases h
 rename_i hs;rw[AKT hs];simp only[AOP,AOe]at hs;rw[JF]at hs;split at h
 case isFalse=>cases h
 rename_i h1;rw[AKJ h1];simp only[ALz,ANK,Ai]at h1;obtain⟨hb,h0,bg,hlast⟩:=h1;have hl:0<r.1.length:=by
  rcases AYV r.1.length with hz|hz
  ·exfalso
   apply h0;unfold BF;rw[hz];rfl
  omega
 obtain⟨k,k1,k2,k3,k4⟩:=Ol hs hl;have hk:(BF r.1-1).toNat=k:=by omega
 rw[hk];have hlen:(G8 r.1 k last).length=r.1.length:=by simp[G8]
 refine⟨hs,⟨hs.cfg,by rw[hlen];exact hs.n,?_,fun e he=> ?_,fun i hi hc=> ?_⟩,k,k1,k2,by omega,hb,hlast,rfl,k3,k4⟩
 ·simp only[hlen];exact hs.trim
 ·unfold G8 at he
  rcases AUU he with he|rfl
  ·exact hs.Af e he
  ·exact⟨(hs.Af _ (BM k1)).1,hlast,fun hf=>by cases hf⟩
 ·simp only[hlen]at hi|-
  rw[WW k1]at hc;by_cases hik:k=i
  ·subst hik
   refine⟨by omega,fun j hj=> ?_⟩;rw[WW k1,AKT (by omega)];simp_all
  ·rw[AKT hik]at hc
   obtain⟨h2,h3⟩:=hs.down i hi hc;grind[WW]
theorem pP{c:CP}{r:AQ}{p:Int}(h:(MN c r p).2=true):ROk c r/\ROk c (MN c r p).1/\(MN c r p).1=(r.1,max r.2.1 p,()):=by
 unfold MN at*;split at h
 ·cases h
 rename_i hs;rw[AKT hs];simp only[AOP,AOe]at hs;rw[JF]at hs;split at h
 case isFalse=>cases h
 rename_i h1;rw[AKJ h1];simp only[ALz,ANK]at h1;refine⟨hs,⟨hs.cfg,hs.n,?_,hs.Af,hs.down⟩,rfl⟩;simp only;have hp:=(fF h1.1).1;by_cases hm:r.2.1<=p
 ·grind
 ·rw[show max r.2.1 p=r.2.1 by omega]
  exact hs.trim
theorem Wi{c:CP}{w:AM}{d:ACB}(h:(CL c w d).2.2=true):cF c w/\cF c (CL c w d).1/\(CL c w d).1=(w.1,w.2.1++[(d,[],false,())],())/\(CL c w d).2.1=(w.2.1.length:Int)+1:=by
 unfold CL at*;split at h
 ·cases h
 rename_i hs;rw[AKT hs];simp only[AOP,AOe]at hs;rw[Il]at hs;split at h
 case isFalse=>cases h
 rename_i h1;rw[AKJ h1];exact⟨hs,Il.1 h1,rfl,rfl⟩
theorem cG{c:CP}{s:AO}{ep n:Int}(hn:0<=n/\n<c.1.length):∀{l:List BI} {o:Int},(∀x∈l,x.1.length<=40/\Ay c x.2.1=true/\x.2.2.1=holds c x.2.1)->
  (∀x∈BL c s ep n o l,x.1.length<=40/\Ay c x.2.1=true/\x.2.2.1=holds c x.2.1)/\RX (BL c s ep n o l)<=RX l/\(BL c s ep n o l).length=l.length
 |[],o,h=>by simp[BL]
 |x::l,o,h=>by
  obtain⟨h1,h2,h3⟩:=cG (s:=s) (ep:=ep) hn (l:=l) (o:=o+1) fun y hy=>h y (by simp[hy])
  have hx:=h x (by simp);simp only[BL,AOD,AN9,RX];split
  ·rename_i hd
   simp only[ALz,ATc]at hd;refine⟨?_,?_,by omega⟩
   ·rintro y (rfl|hy)
    ·exact⟨hx.1,I1 hx.2.1 hn,rfl⟩
    grind
   grind
  grind
theorem uW{c:CP}{n:Int}:∀{l:List BI},(∀x∈l,x.1.length<=40/\Ay c x.2.1=true/\x.2.2.1=holds c x.2.1)->
  (∀x∈l.map (DA n),x.1.length<=40/\Ay c x.2.1=true/\x.2.2.1=holds c x.2.1)/\RX (l.map (DA n))=RX l
 |[],h=>by simp
 |x::l,h=>by
  obtain⟨h1,h2⟩:=uW (n:=n) (l:=l) fun y hy=>h y (by simp[hy])
  have hx:=h x (by simp);simp only[AVq,AOD,RX,h2,DA,AUK]
  rintro y (rfl|hy)
  ·refine⟨hx.1,?_,?_⟩
   ·simp only
    split
    ·simp_all
    ·exact Lx _ hx.2.1
   ·simp only
    split
    ·simp_all
    ·rename_i hd
     simp only[AOP]at hd;rw[hd]
     symm
     rw[AUZ];grind[ie,SY]
  grind
theorem Vm{c:CP}{w:AM}{n:Int}(h:cF c w):cF c (CJ c w n).1/\(CJ c w n).1=(w.1,w.2.1.map (DA n),()):=by
 unfold CJ;rw[Il.2 h];obtain⟨h1,h2⟩:=uW (n:=n) h.words;exact⟨⟨h.cfg,h.ep,by simpa using h.n,h1,by simp only[AMy];exact h2▸h.opn⟩,rfl⟩
theorem G1{l:List AJ}:0<=LZ l/\LZ l<=60:=by
 unfold LZ;cases l.length==0 with
 |true=>simp
 |false=>
  simp only[ANE];rcases AJ5 (BZ (l.getD (l.length-1) Dz).1)with h|h
  ·have:=(CM h).2.1;omega
  grind[BD]
theorem mm{c:CP}{m:Av}{n:Int}{l:List AJ}(h:(LV c m n l).2=true):qS c m/\qS c (LV c m n l).1/\m.2.2.2.2.1=false/\
  (LV c m n l).1=(m.1,m.2.1,Jx n m.2.2.1,Dn m.2.2.2.1 (l.filter fun e=>AN e.1==m.2.1),m.2.2.2.2.1,m.2.2.2.2.2.1,()):=by
 unfold LV at*;split at h
 ·cases h
 rename_i hs;rw[AKT hs];simp only[AOP,AOe]at hs;rw[Hi]at hs;simp only at h|-;split at h
 case isFalse=>cases h
 rename_i h1;rw[AKJ h1];simp only[ALz,ATc]at h1;exact⟨hs,Hi.1 h1.2,h1.1,rfl⟩
theorem nN{c:CP}{m:Av}{s:AAC}(h:(Ig c m s).2=true):qS c m/\qS c (Ig c m s).1/\m.2.2.2.2.1=false/\Jo c s (m.2.2.1.filter s.contains)=true/\
  (Ig c m s).1=(m.1,m.2.1,m.2.2.1,m.2.2.2.1,true,List.replicate (LZ m.2.2.2.1).toNat [],()):=by
 unfold Ig at*;split at h
 ·cases h
 rename_i hs;rw[AKT hs];simp only[AOP,AOe]at hs;rw[Hi]at hs;split at h
 case isFalse=>cases h
 rename_i h1;rw[AKJ h1];simp only[ALz,ATc]at h1;refine⟨hs,⟨hs.cfg,hs.ep,hs.b,hs.gY,hs.ft,hs.seen,fun l hl=> ?_,?_⟩,h1.1,h1.2,rfl⟩
 ·simp only at hl
  rw[AUf hl];exact ei hs.cfg
 ·simp only[AW8,ATt]
  have:=(G1 (l:=m.2.2.2.1)).1;omega
theorem bp{c:CP}{m:Av}{s:AO}{n:Int}(hn:0<=n/\n<c.1.length):∀{l:List AAC} {o:Int},(∀x∈l,Ay c x=true)->
  (∀x∈EF m s n o l,Ay c x=true)/\(EF m s n o l).length=l.length
 |[],o,h=>by simp[EF]
 |x::l,o,h=>by
  obtain⟨h1,h2⟩:=bp (m:=m) (s:=s) hn (l:=l) (o:=o+1) fun y hy=>h y (by simp[hy])
  have hx:=h x (by simp);simp only[EF,AOD,AN9,h2,AUK]
  rintro y (rfl|hy)
  all_goals grind[I1]
theorem AEr{c:CP}{s:AO}{l:List CX}{n:Int}{m:Av}(hn:0<=n/\n<c.1.length)(h:qS c m):qS c (HQ s l n m):=by
 unfold HQ;split
 ·obtain⟨h1,h2⟩:=bp (m:=m) (s:=s) hn (o:=1) h.wrote
  exact⟨h.cfg,h.ep,h.b,h.gY,h.ft,h.seen,h1,by simp only[h2];exact h.n⟩
 omega
theorem gT{c:CP}{m:Av}{n:Int}(h:qS c m):qS c (CF c m n).1/\(CF c m n).1=(m.1,m.2.1,m.2.2.1,m.2.2.2.1,m.2.2.2.2.1,m.2.2.2.2.2.1.map fun l=>less l [n],()):=by
 unfold CF;rw[Hi.2 h];refine⟨⟨h.cfg,h.ep,h.b,h.gY,h.ft,h.seen,fun l hl=> ?_,?_⟩,rfl⟩
 ·simp only[AMy,AL4,AOK,AUV]at hl
  obtain⟨l',h1,rfl⟩:=hl;exact Lx _ (h.wrote l' h1)
 ·simp only[AMy,AL4,AOK,AYS]
  exact h.n
theorem sH{c:CP}{g:AQ}{sure:Int}{r:AZ}{l:List Az}(h:(B9 c g sure r l).2=0):AGv (B9 c g sure r l).1:=by
 unfold B9 at*;split at h
 ·omega
 rename_i hs;rw[AKT hs];simp only[AOP,AOe,ALz,JF,RQ]at hs;obtain⟨hg,hr,_⟩:=hs;have r1:=hr.ep;have r2:=hr.off;have r3:=hr.n;split at h
 ·omega
 rename_i h1;rw[AKT h1];simp only[ATB,ANK,AYp]at h1;have hn:=hg.n;simp only at h|-;split at h
 ·rename_i h2
  rw[AKJ h2];have hp:BZ g.2.1=true:=by
   rcases hg.trim with ht|ht
   all_goals grind[EN]
  obtain⟨a1,a2,_⟩:=CM hp;exact⟨by grind,by grind,by grind⟩
 ·rename_i h2
  rw[AKT h2];split at h
  ·rename_i h3
   rw[AKJ h3];exact⟨by grind,by simp_all,by simp_all;omega⟩
  ·rename_i h3
   rw[AKT h3];split at h
   ·omega
   rename_i h4;rw[AKT h4];simp only[ATB,ANK,AYp]at h4;split at h
   ·omega
   rename_i h5;rw[AKT h5];exact⟨by omega,by grind,by simp_all;omega⟩
theorem AD{α β:Type}(a:α)(f:α->Option β):(some a).bind f=f a:=rfl
theorem Vr{l:AAC}{x:Int}(hl:l.length<=2^30):∀(n i:Nat) (b:AAC),i<=l.length->l.length-i<n->b.length<=2*i+1->
  Kw n l x true i b=some (((),()),(b++l.drop i,()))
 |0,i,b,_,h,_=>by omega
 |n+1,i,b,hi,h,hb=>by
  simp only[Kw,UE,AB,AMy,ANE];by_cases hc:i<l.length
  ·have c1:(0:Int)<=(i:Int)/\(i:Int)<(l.length:Int):=by omega
   have c2:b.length+1<=D8:=by rw[Bf];omega
   rw[AKJ c1.2,AKJ c1,AKJ c2,AL (by omega) (by omega),show((i:Int)+1)=((i+1:Nat):Int)by omega,Aj hc,drop_cons hc,Vr hl n (i+1) _ (by omega) (by omega) (by grind)];simp
  grind
theorem ae{l:AAC}{x:Int}(hl:l.length<=2^30):∀(n i:Nat) (b:AAC),i<=l.length->l.length-i<n->b.length<=i->
  Kw n l x false i b=some (((),()),(b++iK x (l.drop i),()))
 |0,i,b,_,h,_=>by omega
 |n+1,i,b,hi,h,hb=>by
  simp only[Kw,UE,AB,ASm,ANa];have c2:b.length+1<=D8:=by rw[Bf];omega
  by_cases hc:i<l.length
  ·have c1:(0:Int)<=(i:Int)/\(i:Int)<(l.length:Int):=by omega
   have c3:(b++[x]).length+1<=D8:=by grind[Bf]
   rw[AKJ c1.2];simp only[AKJ c1,AKJ c2,AKJ c3];rw[AL (by omega) (by omega),show((i:Int)+1)=((i+1:Nat):Int)by omega,Aj hc,drop_cons hc];simp only[iK];by_cases hx:l[i]>x
   ·rw[AKJ hx,AKJ (by omega),Vr hl n (i+1) _ (by omega) (by omega) (by grind)]
    simp
   ·rw[AKT hx,AKT (by omega),ae hl n (i+1) _ (by omega) (by omega) (by simp_all)]
    simp
  ·rw[AKT (by omega),AKJ c2,ANY (by omega)]
   rfl
theorem NU{l:AAC}{x:Int}(hl:l.length<=2^30):Ma l x=some (((),()),(Jx x l,())):=by
 unfold Ma aq Jx;rw[Kl (by omega)];simp only[AD];rcases AJ5 (l.contains x)with h|h
 ·rw[h,AKJ rfl]
  grind[Vr,Ae,Ah]
 ·rw[h,AKT (by simp)]
  grind[ae,Ae,Ah]
theorem Z6{l m:AAC}(hl:l.length<=2^30)(hm:m.length<=2^30):∀(n i:Nat) (b:AAC),i<=l.length->l.length-i<n->b.length<=i->
  OV n l m i b=some (((),()),(b++less (l.drop i) m,()))
 |0,i,b,_,h,_=>by omega
 |n+1,i,b,hi,h,hb=>by
  simp only[OV,ZM,AB];have c2:b.length+1<=D8:=by rw[Bf];omega
  by_cases hc:i<l.length
  ·have c1:(0:Int)<=(i:Int)/\(i:Int)<(l.length:Int):=by omega
   rw[AKJ c1.2];simp only[AKJ c1,AKJ c2];rw[AL (by omega) (by omega),show((i:Int)+1)=((i+1:Nat):Int)by omega,Aj hc,drop_cons hc,Kl (by omega)];simp only[AD,less,AUH];cases hx:m.contains l[i]with
   |true=>
    simp only[AMy,ANE,AL4,AOK];exact Z6 hl hm n (i+1) _ (by omega) (by omega) (by omega)
   |false=>
    simp only[ASm,ANa,ATt];rw[Z6 hl hm n (i+1) _ (by omega) (by omega) (by simp_all)];simp[less]
  ·rw[AKT (by omega),ANY (by omega)]
   simp[less]
theorem JY{l m:AAC}(hl:l.length<=2^30)(hm:m.length<=2^30):I_ l m=some (((),()),(less l m,())):=by
 grind[I_,ZE,Z6,Ae,Ah]
theorem M3{e o:Int}(he: -1000<=e/\e<=1000)(ho: -1000<=o/\o<=1000):Ej e o=some ((EN e o,()),()):=by
 grind[Ej,EN,AL]
theorem j6{e o:Int}:Si e o=some (((Gw e o,BS e 1 30&&BS o 1 60,()),()),()):=by
 unfold Si Gw;rw[Bl,Bl];simp only[AD];rcases AJ5 (BS e 1 30)with he|he
 ·rcases AJ5 (BS o 1 60)with ho|ho
  ·have h1:=Ai.1 he
   have h2:=Ai.1 ho;rw[he,ho,AL (x:=4294967296*e) (by omega) (by omega),AL (by omega) (by omega)];rfl
  simp_all
 simp_all
theorem K7{a b:Int}:MS a b=some ((max a b,()),()):=by
 unfold MS;grind
theorem aI{a b:Int}:Tz a b=some ((min a b,()),()):=by
 unfold Tz;grind
def nK(q:AO×Bool):AEJ×(List AJ×List AJ×Unit):=(((((),(),q.1.2.2.1,()),q.2,()),()),(q.1.1,q.1.2.1,()))
theorem OX{s:AO}(h1:s.1.length<=2^30)(h2:s.2.1.length<=2^30):FA s=some ((((),(),s.2.2.1,()),()),(s.1,s.2.1,())):=by
 unfold FA;rw[AKJ (by rw[Bf];omega),AKJ (by rw[Bf];omega)]
theorem nq{s:AO}{e:AJ}(he:DR e.1):W4 s e=some ((takes s e,()),()):=by
 unfold W4 takes;rw[FG he];grind
theorem Xs{a b:AJ}:RI a b=some ((better a b,()),()):=by
 unfold RI better;grind
theorem GF{s:AO}(h:H.Al s<=2^30):s.1.length<=2^30/\s.2.1.length<=2^30:=by
 grind[H.AY,H.Ar,H.Al]
theorem bN{s:AO}{e:AJ}(hw:H.Al s<=2^30)(hs:r7 s)(he:DR e.1):QH s e=some (nK (GP s e)):=by
 obtain⟨l1,l2⟩:=GF hw;unfold QH GP;rw[Pq s,de e,F_ hw hs,OX l1 l2,Qg he,nq he];simp only[AD];rcases AJ5 (CI s)with h|h
 rotate_left
 ·rw[h];rfl
 rw[h];simp only[AMy,ANE,AL4,AOK];cases Ei e with
 |false=>rfl
 |true=>
  cases takes s e with
  |false=>rfl
  |true=>
   simp only[AMy,ANE,ANP];by_cases h20:s.2.1.length=20
   ·rw[show((s.2.1.length:Int)==20)=true by simp[h20],show decide (s.2.1.length≠20)=false by simp[h20]]
    rfl
   ·rw[show((s.2.1.length:Int)==20)=false by grind,show decide (s.2.1.length≠20)=true by simp[h20],ANE,AKJ (by rw[Bf];omega)]
    rfl
theorem UD{l:List AJ}{e:AJ}(hl:l.length<=2^30):∀(n i:Nat) (b:List AJ),i<=l.length->l.length-i<n->b.length<=2*i+1->
  Jf n l true i e.1 e.2.1 e.2.2.1 e.2.2.2.1 b=some (((),()),(b++l.drop i,()))
 |0,i,b,_,h,_=>by omega
 |n+1,i,b,hi,h,hb=>by
  simp only[Jf,SR,AB,AMy,ANE];by_cases hc:i<l.length
  ·have c1:(0:Int)<=(i:Int)/\(i:Int)<(l.length:Int):=by omega
   have c2:b.length+1<=D8:=by rw[Bf];omega
   rw[AKJ c1.2,AKJ c1,AKJ c2,AL (by omega) (by omega),show((i:Int)+1)=((i+1:Nat):Int)by omega,Aj hc,drop_cons hc,UD hl n (i+1) _ (by omega) (by omega) (by grind),ANs];rfl
  grind
theorem Yn{l:List AJ}{e:AJ}(hl:l.length<=2^30):∀(n i:Nat) (b:List AJ),i<=l.length->l.length-i<n->b.length<=i->
  Jf n l false i e.1 e.2.1 e.2.2.1 e.2.2.2.1 b=some (((),()),(b++keep e (l.drop i),()))
 |0,i,b,_,h,_=>by omega
 |n+1,i,b,hi,h,hb=>by
  simp only[Jf,SR,AB,ASm,ANa];have c2:b.length+1<=D8:=by rw[Bf];omega
  by_cases hc:i<l.length
  ·have c1:(0:Int)<=(i:Int)/\(i:Int)<(l.length:Int):=by omega
   have c3:(b++[(e.1,e.2.1,e.2.2.1,e.2.2.2.1,())]).length+1<=D8:=by grind[Bf]
   rw[AKJ c1.2];simp only[AKJ c1,AKJ c2,AKJ c3];rw[AL (by omega) (by omega),show((i:Int)+1)=((i+1:Nat):Int)by omega,Aj hc,drop_cons hc];rw[de (l[i]),de e,Xs];simp only[AD,keep];by_cases hx:l[i].1=e.1
   ·rw[show(l[i].1==e.1)=true by simp_all,AKJ hx,ANa,show((better l[i] e).1,(better l[i] e).2.1,(better l[i] e).2.2.1,(better l[i] e).2.2.2.1,())=better l[i] e from rfl,UD hl n (i+1) _ (by omega) (by omega) (by grind)]
    simp
   ·rw[show(l[i].1==e.1)=false by simp_all,AKT hx,ANE]
    by_cases hg:l[i].1>e.1
    ·rw[AKJ hg,AKJ hg,UD hl n (i+1) _ (by omega) (by omega) (by grind)]
     simp
    ·rw[AKT hg,AKT hg,Yn hl n (i+1) _ (by omega) (by omega) (by simp_all)]
     simp
  ·rw[AKT (by omega),AKJ c2,ANY (by omega)]
   rfl
theorem Xi{l:List AJ}{e:AJ}(hl:l.length<=2^30):RY l e=some (((),()),(keep e l,())):=by
 grind[RY,Yx,Yn,Ae,Ah]
theorem UU{l:List AJ}{p:Int}(hl:l.length<=2^30):Hd l p=some ((((Ew p l).getD Dz,(Ew p l).isSome,()),()),()):=by
 have key:∀(n i:Nat),i<=l.length->l.length-i<n->QP n l p i 0 0 false []=some ((((Ew p (l.drop i)).getD Dz,(Ew p (l.drop i)).isSome,()),()),()):=by
  intro n
  induction n with
  |zero=>omega
  |succ n ih=>
   intro i hi h;simp only[QP,bL,AB];by_cases hc:i<l.length
   ·have c1:(0:Int)<=(i:Int)/\(i:Int)<(l.length:Int):=by omega
    rw[AKJ c1.2];simp only[AKJ c1];rw[AL (by omega) (by omega),show((i:Int)+1)=((i+1:Nat):Int)by omega,Aj hc,drop_cons hc,ih (i+1) (by omega) (by omega)];simp only[Ew,AU_];cases l[i].1==p<;>rfl
   ·rw[AKT (by omega),ANY (by omega)]
    rfl
 grind[Hd,aa,Ae,Ah]
theorem uy{k:Int}{i:Nat}(hk:0<=k/\k<2^63)(hi:i<=63):(dY .i64 (k.fdiv (2^(min i 64))) 1==1)=decide ((k/2^i)%2=1):=by
 obtain⟨m,rfl⟩:∃m:Nat,k=m:=⟨k.toNat,by omega⟩;rw[show min i 64=i by omega];have h1:(m:Int).fdiv (2^i)=((m/2^i:Nat):Int):=by
  grind
 have h2:(m:Int)/2^i=((m/2^i:Nat):Int):=by norm_cast
 have h3:m/2^i<2^63:=Nat.lt_of_le_of_lt (Nat.div_le_self _ _) (by omega);rw[h1,h2,show(1:Int)=((1:Nat):Int)from rfl,AGM h3 (by omega),Nat.and_one_is_mod];rfl
def w7(p:Nat->Bool):Nat->List AJ->List AJ
 |_,[]=>[]
 |i,e::l=>if p i then e::w7 p (i+1) l else w7 p (i+1) l
theorem uS{k:Int}(hk:0<=k/\k<2^63):∀{l:List AJ} {i:Nat},i+l.length<=60->w7 (fun i=>dY .i64 (k.fdiv (2^(min i 64))) 1==1) i l=Mp k i l
 |[],i,_=>rfl
 |e::l,i,h=>by
  simp only[AN9]at h;have ih:=uS hk (l:=l) (i:=i+1) (by omega);have AD8:=uy hk (i:=i) (by omega);simp only[w7,Mp];simp_all
theorem Zj{s:AO}{k:Int}(h1:s.1.length<=200)(h2:s.2.1.length<=20):∀(n i:Nat) (b:List AJ),i<=s.2.1.length->s.2.1.length-i<n->b.length<=200+i->
  Jd n k i s.1 s.2.1 s.2.2.1 0 [] [] s.2.2.1 b []=
   some (nK (if BS k 0 1048575&&decide ((Dn b (w7 (fun i=>dY .i64 (k.fdiv (2^(min i 64))) 1==1) i (s.2.1.drop i))).length<=200)then((Dn b (w7 (fun i=>dY .i64 (k.fdiv (2^(min i 64))) 1==1) i (s.2.1.drop i)),[],s.2.2.1,()),true)else(s,false)))
 |0,i,b,_,h,_=>by omega
 |n+1,i,b,hi,h,hb=>by
  simp only[Jd,TO,AB];by_cases hc:i<s.2.1.length
  ·have c1:(0:Int)<=(i:Int)/\(i:Int)<(s.2.1.length:Int):=by omega
   have ih:=fun b hb=>Zj (k:=k) h1 h2 n (i+1) b (by omega) (by omega) hb
   rw[AKJ c1.2,AKT (by omega)];simp only[AKJ c1];rw[AL (by omega) (by omega),show((i:Int)+1)=((i+1:Nat):Int)by omega,Aj hc,drop_cons hc,ANJ];rw[de (s.2.1[i]),Xi (by omega)];simp only[AD,w7];have kl:=XL (e:=s.2.1[i]) (l:=b);rcases AJ5 (dY .i64 (k.fdiv (2^(min i 64))) 1==1)with hb|hb
   ·simp only[hb,ANa,ATt,Dn]
    grind
   grind
  ·rw[AKT (by omega),ANY (by omega),Bl,Pq s,OX (by omega) (by omega)]
   simp only[AD,w7,Dn];cases BS k 0 1048575 with
   |false=>rfl
   |true=>
    simp only[AMy,ANE,ANP];by_cases h200:b.length<=200
    ·rw[AKT (by omega),ARS h200];rfl
    ·rw[AKJ (by omega),AUQ h200];rfl
theorem YD{s:AO}{k:Int}(hw:Al s<=2^30)(hs:r7 s):NI s k=some (nK (EK s k)):=by
 obtain⟨l1,l2⟩:=GF hw;unfold NI TJ EK;rw[Pq s,F_ hw hs];simp only[AD];rcases AJ5 (CI s)with h|h
 rotate_left
 ·rw[h];rfl
 have Bt:=Dd.1 h;rw[h];simp only[AMy,ANE,AL4,AOK];rw[AKJ (by rw[Bf];omega)];have:=Zj (k:=k) Bt.nk Bt.nl Ae 0 s.1 (by omega) (Ah (by omega)) (by have:=Bt.nk;omega);rw[show((0:Nat):Int)=0 from rfl,AUE]at this;rw[this];rcases AJ5 (BS k 0 1048575)with hk|hk
 ·have hk':=Ai.1 hk
  have hn:=Bt.nl;grind[uS]
 simp_all
theorem Zp{s:AO}(hw:Al s<=2^30)(hs:r7 s):O2 s=some (nK (Co s)):=by
 unfold O2 Co;rw[Pq s,YD hw hs];rfl
theorem jG{s:AO}{u:Int}(hw:Al s<=2^30)(hs:r7 s):Rt s u=some (nK (Bp s u)):=by
 obtain⟨l1,l2⟩:=GF hw;unfold Rt Bp;rw[Pq s,F_ hw hs,Zp hw hs,OX l1 l2,Bl];simp only[AD];cases CI s with
 |false=>rfl
 |true=>
  simp only[AMy,ANE,AL4,AOK,nK];cases(Co s).2 with
  |false=>rfl
  |true=>
   cases BS u 0 30 with
   |false=>rfl
   |true=>
    simp only[AMy,ANE,ANP,ATt];rw[K7];rfl
theorem l5{s:AO}{ep:Int}(hw:Al s<=2^30)(hs:r7 s):Um s ep=some (((),()),(GK s ep,())):=by
 obtain⟨l1,l2⟩:=GF hw;unfold Um WT GK;rcases AJ5 (CI s)with h|h
 ·have key:∀(n i:Nat) (b:List AJ),i<=s.1.length->s.1.length-i<n->b.length<=i->JG n ep i s.1 s.2.1 s.2.2.1 b=some (((),()),(b++(s.1.drop i).filter fun e=>AN e.1==ep,())):=by
   intro n
   induction n with
   |zero=>omega
   |succ n ih=>
    intro i b hi hn hb;simp only[JG,P9,AB];have c2:b.length+1<=D8:=by rw[Bf];omega
    by_cases hc:i<s.1.length
    ·have c1:(0:Int)<=(i:Int)/\(i:Int)<(s.1.length:Int):=by omega
     rw[AKJ c1.2];simp only[AKJ c1,AKJ c2];rw[AL (by omega) (by omega),show((i:Int)+1)=((i+1:Nat):Int)by omega,Aj hc,drop_cons hc,Pq s,F_ hw hs,FG (hs.1 _ (ANM hc)),h];simp only[AD,ANa,AUH];cases AN s.1[i].1==ep with
     |true=>
      simp only[ANa,ATt];rw[ih (i+1) _ (by omega) (by omega) (by simp_all),ANs];rfl
     |false=>
      grind
    grind
  have:=key Ae 0 [] (by omega) (Ah (by omega)) (by simp);simp_all
 ·obtain⟨m,hm⟩:∃m,Ae=m+1:=⟨Ae-1,by have:=bo;omega⟩
  rw[h,hm];simp only[JG,P9,AB];rw[Pq s,F_ hw hs,h];simp_all
theorem jH{s:AO}{u:Int}(hw:Al s<=2^30)(hs:r7 s)(hu:DR u):SV s u=some (nK (GN s u)):=by
 obtain⟨l1,l2⟩:=GF hw;unfold SV Un GN;rw[Pq s,F_ hw hs,OX l1 l2,IZ hu];simp only[AD];cases CI s with
 |false=>rfl
 |true=>
  cases BZ u with
  |false=>rfl
  |true=>
   simp only[AMy,ANE,AL4,AOK,ATt];have key:∀(n i:Nat) (b:List AJ),i<=s.1.length->s.1.length-i<n->b.length<=i->Kb n u i s.1 s.2.1 s.2.2.1 0 [] [] s.2.2.1 b s.2.1=some (nK ((b++(s.1.drop i).filter fun e=>decide (e.1>u),s.2.1,s.2.2.1,()),true)):=by
    intro n
    induction n with
    |zero=>omega
    |succ n ih=>
     intro i b hi hn hb;simp only[Kb,Ut];have c2:b.length+1<=D8:=by rw[Bf];omega
     by_cases hc:i<s.1.length
     ·have c1:(0:Int)<=(i:Int)/\(i:Int)<(s.1.length:Int):=by omega
      rw[ARS c1.2];simp only[AKJ c1,AKJ c2,ANa];rw[AL (by omega) (by omega),show((i:Int)+1)=((i+1:Nat):Int)by omega,Aj hc,drop_cons hc];simp only[AUH];cases decide (s.1[i].1>u)with
      |true=>
       simp only[ANa,ATt];rw[ih (i+1) _ (by omega) (by omega) (by simp_all),ANs];rfl
      |false=>
       grind
     grind[decide_eq_false,List.drop_eq_nil_of_le,nK]
   have:=key Ae 0 [] (by omega) (Ah (by omega)) (by simp);simp_all
theorem NM{α:Type}{l:List α}{i:Nat}{x d:α}(hi:i<l.length):(l.set i x).getD i d=x:=by
 simp_all
theorem Pm{α:Type}{l:List α}{f:α->α}{i:Nat}(hi:i<=l.length):((l.map f).take i++l.drop i).length=l.length:=by
 simp_all
theorem NB{α:Type}{l:List α}{f:α->α}{i:Nat}{d:α}(hi:i<l.length):((l.map f).take i++l.drop i).getD i d=l[i]:=by
 grind
theorem QV{α:Type}{l:List α}{f:α->α}{i:Nat}{y:α}(hi:i<l.length)(hy:y=f l[i]):((l.map f).take i++l.drop i).set i y=(l.map f).take (i+1)++l.drop (i+1):=by
 have h:((l.map f).take i).length=i:=by grind
 subst hy;rw[AYa _ _ (by omega),h,AYk,drop_cons hi,AX2,AUN (by simp_all),ANs,List.getElem_map];rfl
theorem jQ{α:Type}{l:List α}{f:α->α}{i:Nat}(hi:i<l.length)(hf:f l[i]=l[i]):(l.map f).take i++l.drop i=(l.map f).take (i+1)++l.drop (i+1):=by
 grind[List.take_succ_eq_append_getElem,List.append_assoc,drop_cons]
theorem xu{n:Int}:∀{l:AAC},(iK n l).length=l.length+1
 |[]=>rfl
 |a::l=>by
  simp only[iK];split
  ·simp
  ·simp[xu (l:=l)]
theorem VK{n:Int}{l:AAC}:(Jx n l).length<=l.length+1:=by
 grind[Jx,xu]
theorem FQ{r:AQ}{e:Int}(hl:Ag CG r.1<=2^30):Cn r e=some (((),()),(Aq r.1 e,())):=by
 have l1:=AY (f:=CG) (l:=r.1);unfold Cn Aq;rw[Bl];simp only[AD];rcases AJ5 (BS e 1 (r.1.length:Int))with h|h
 ·have h':=Ai.1 h
  have hm:=Ab (f:=CG) (BM (d:=Gd) (l:=r.1) (i:=(e-1).toNat) (by omega));have rv:(r.1.getD (e-1).toNat Gd).1.length<=Ag CG r.1:=hm;rw[h,AL (by omega) (by omega)];simp only[AMy,ANE,ATt];rw[AKJ (by omega),AKJ (by grind[Bf,Gd])];rfl
 simp_all
theorem Sw{r:AQ}(hl:Ag CG r.1<=2^30):GR r=some ((((),r.2.1,()),()),(r.1,())):=by
 have l1:=AY (f:=CG) (l:=r.1);have key:∀(n i:Nat) (b:List CX),i<=r.1.length->r.1.length-i<n->b.length<=i->OW n i r.1 r.2.1 0 [] r.2.1 b=some ((((),r.2.1,()),()),(b++r.1.drop i,())):=by
  intro n
  induction n with
  |zero=>omega
  |succ n ih=>
   intro i b hi hn hb;simp only[OW,ZY,AB];by_cases hc:i<r.1.length
   ·have c1:(0:Int)<=(i:Int)/\(i:Int)<(r.1.length:Int):=by omega
    have hm:=Ab (f:=CG) (ANM hc)
    replace hm:r.1[i].1.length<=Ag CG r.1:=hm
    rw[AKJ c1.2,AKJ c1,AL (by omega) (by omega),show((i:Int)+1)=((i+1:Nat):Int)by omega,Aj hc,AKJ (by rw[Bf];omega),AKJ (by rw[Bf];omega),drop_cons hc,ih (i+1) _ (by omega) (by omega) (by simp_all),ANs];rfl
   grind
 grind[GR,Yu,Ae,Ah]
def pkR(q:AQ×Bool):AFs×(List CX×Unit):=(((((),q.1.2.1,()),q.2,()),()),(q.1.1,()))
section
variable{c:CP} {r:AQ} (hc:c.1.length<=2^40) (hl:Ag CG r.1<=2^30) (ht:DR r.2.1)
include hc hl ht
theorem nz{ns:AAC}(hn:ns.length<=2^30):PY c r ns=some (((((),(I0 c r ns).1.2.1,()),(I0 c r ns).2.1,(I0 c r ns).2.2,()),()),((I0 c r ns).1.1,())):=by
 have l1:=AY (f:=CG) (l:=r.1);unfold PY I0;rw[show(c.1,c.2.1,())=c from rfl,show(r.1,r.2.1,())=r from rfl,QK hc hl ht,Sw hl,FF hc (by omega)];simp only[AD];cases NC c r with
 |false=>rfl
 |true=>
  cases holds c ns with
  |false=>rfl
  |true=>
   simp only[AMy,ANE,AL4,AOK,ANP];by_cases h30:r.1.length=30
   ·simp_all
   ·rw[show((r.1.length:Int)==30)=false by grind,show decide (r.1.length≠30)=true by simp[h30],ANE,AKJ (by rw[Bf];omega),AKJ (by rw[Bf];omega)]
    simp
theorem lu{b last:Int}:UM c r b last=some (pkR (M1 c r b last)):=by
 have l1:=AY (f:=CG) (l:=r.1);unfold UM M1;rw[show(c.1,c.2.1,())=c from rfl,show(r.1,r.2.1,())=r from rfl,QK hc hl ht,Sw hl,Nw (by omega)];simp only[AD];rcases AJ5 (NC c r)with hr|hr
 rotate_left
 ·rw[hr];rfl
 rw[hr];simp only[AMy,ANE,AL4,AOK];by_cases h1:b=r.1.length
 rotate_left
 ·rw[show(b !=(r.1.length:Int))=true by simp_all,show decide (b=(r.1.length:Int))=false by simp_all]
  rfl
 rw[show(b !=(r.1.length:Int))=false by simp_all,show decide (b=(r.1.length:Int))=true by simp_all];simp only[ANE,ANP];by_cases h2:BF r.1=0
 ·rw[show(BF r.1==0)=true by simp_all,show decide (BF r.1≠0)=false by simp_all]
  rfl
 rw[show(BF r.1==0)=false by simp_all,show decide (BF r.1≠0)=true by simp_all];simp only[ANE,ANP];by_cases h3:b=BF r.1
 ·rw[show(b==BF r.1)=true by simp_all,show decide (b≠BF r.1)=false by simp_all]
  rfl
 rw[show(b==BF r.1)=false by simp_all,show decide (b≠BF r.1)=true by simp_all,Bl];simp only[ANE,ANP,AD];cases BS last 0 60 with
 |false=>rfl
 |true=>
  have Bt:=JF.1 hr;have AMK:0<r.1.length:=by
   rcases AYV r.1.length with hz|hz
   ·exact absurd (by unfold BF;rw[hz];rfl) h2
   omega
  obtain⟨k,k1,k2,k3,k4⟩:=Ol Bt AMK;simp only[AMy,ANE,ATt];rw[k2,AL (by omega) (by omega),show((k:Int)+1-1)=(k:Int)by omega,AKJ (by omega),AKJ (by simp_all),ANJ];unfold pkR G8;simp_all
theorem nc{p:Int}(hp:DR p):Wo c r p=some (pkR (MN c r p)):=by
 unfold Wo MN;rw[show(c.1,c.2.1,())=c from rfl,show(r.1,r.2.1,())=r from rfl,QK hc hl ht,Sw hl,IZ hp,FG hp];simp only[AD];cases NC c r with
 |false=>rfl
 |true=>
  cases BZ p with
  |false=>rfl
  |true=>
   simp only[AMy,ANE,AL4,AOK,ANP];by_cases h:AN p<=r.1.length
   ·rw[show decide (AN p>(r.1.length:Int))=false by simp_all,show decide (AN p<=(r.1.length:Int))=true by simp_all,ANE,K7]
    rfl
   ·rw[show decide (AN p>(r.1.length:Int))=true by simp_all,show decide (AN p<=(r.1.length:Int))=false by simp_all]
    rfl
end
theorem SH{w:AM}(hl:Ag BX w.2.1<=2^30):Fj w=some (((w.1,(),()),()),(w.2.1,())):=by
 have l1:=AY (f:=BX) (l:=w.2.1);have key:∀(n i:Nat) (b:List BI),i<=w.2.1.length->w.2.1.length-i<n->b.length<=i->Ob n i w.1 w.2.1 0 [] w.1 b=some (((w.1,(),()),()),(b++w.2.1.drop i,())):=by
  intro n
  induction n with
  |zero=>omega
  |succ n ih=>
   intro i b hi hn hb;simp only[Ob,Ys,AB];by_cases hc:i<w.2.1.length
   ·have c1:(0:Int)<=(i:Int)/\(i:Int)<(w.2.1.length:Int):=by omega
    have hm:w.2.1[i].1.length+w.2.1[i].2.1.length<=Ag BX w.2.1:=Ab (f:=BX) (ANM hc);rw[AKJ c1.2,AKJ c1,AL (by omega) (by omega),show((i:Int)+1)=((i+1:Nat):Int)by omega,Aj hc,AKJ (by rw[Bf];omega),AKJ (by rw[Bf];omega),drop_cons hc,ih (i+1) _ (by omega) (by omega) (by simp_all),ANs];rfl
   grind
 grind[Fj,Yw,Ae,Ah]
theorem Zt{α:Type}{f:α->Nat}{l m:List α}:Ag f (l++m)=Ag f l+Ag f m:=by
 induction l with
 |nil=>simp[Ag]
 |cons a l ih=>grind[Ag]
theorem mo{n:Int}{x:BI}(h:x.2.2.1=true):DA n x=x:=by
 obtain⟨a,b,d,e⟩:=x;simp only at h;subst h;rfl
def pkW(q:AM×Bool):AFk×(List BI×Unit):=((((q.1.1,(),()),q.2,()),()),(q.1.2.1,()))
section
variable{c:CP} {w:AM} (hc:c.1.length<=2^40) (hl:Ag BX w.2.1<=2^20)
include hc hl
theorem ju{d:ACB}(hd:d.length<=2^20):L1 c w d=some (((((CL c w d).1.1,(),()),(CL c w d).2.1,(CL c w d).2.2,()),()),((CL c w d).1.2.1,())):=by
 have l1:=AY (f:=BX) (l:=w.2.1);unfold L1 CL;rw[show(c.1,c.2.1,())=c from rfl,show(w.1,w.2.1,())=w from rfl,L6 hc (by omega),SH (by omega)];simp only[AD];cases F7 c w with
 |false=>rfl
 |true=>
  simp only[AMy,ANE,AL4,AOK];rw[AKJ (by rw[Bf];omega),L6 hc (by
   grind[Ag,BX,Zt,List.length_nil])]
  grind
theorem kY{o n:Int}:Fy c w o n=some (pkW (Rj c w o n)):=by
 have l1:=AY (f:=BX) (l:=w.2.1);unfold Fy Rj;rw[show(c.1,c.2.1,())=c from rfl,show(w.1,w.2.1,())=w from rfl,L6 hc (by omega),SH (by omega),Bl,Bl];simp only[AD];rcases AJ5 (F7 c w)with hw|hw
 rotate_left
 ·rw[hw];rfl
 have AAx:=Gu (Il.1 hw).cfg;rw[hw,AL (x:=(c.1.length:Int)-1) (by omega) (by omega)];simp only[AMy,ANE,AL4,AOK];rcases AJ5 (BS o 1 (w.2.1.length:Int))with ho|ho
 rotate_left
 ·rw[ho];rfl
 have xY:=Ai.1 ho;rw[ho];cases BS n 0 ((c.1.length:Int)-1)with
 |false=>rfl
 |true=>
  have hi:(o-1).toNat<w.2.1.length:=by omega
  have hm:(w.2.1.getD (o-1).toNat LP).1.length+(w.2.1.getD (o-1).toNat LP).2.1.length<=Ag BX w.2.1:=Ab (f:=BX) (BM (d:=LP) hi);simp only[AMy,ANE,ANP];rw[AL (by omega) (by omega),AKJ (by omega)]
  show cond (w.2.1.getD (o-1).toNat LP).2.2.1 _ _=_
  cases(w.2.1.getD (o-1).toNat LP).2.2.1 with
  |true=>rfl
  |false=>
   simp only[ANE,ASm,ATt];rw[AKJ (by omega),show(w.2.1.getD (o-1).toNat ([],[],false,())).2.1=(w.2.1.getD (o-1).toNat LP).2.1 from rfl,NU (by omega)];simp only[AD];rw[AKJ (by omega)];have hg:∀x:BI,(w.2.1.set (o-1).toNat x).getD (o-1).toNat ([],[],false,())=x:=fun x=>NM hi
   rw[AKJ (by grind),hg,FF hc (by
    grind[VK,LP])]
   simp only[AD];rw[AKJ (by grind),AYj];rfl
theorem eY{n:Int}:Nr c w n=some (pkW (CJ c w n)):=by
 have l1:=AY (f:=BX) (l:=w.2.1);unfold Nr RG CJ;rw[show(c.1,c.2.1,())=c from rfl,show(w.1,w.2.1,())=w from rfl,L6 hc (by omega),SH (by omega)];simp only[AD];cases F7 c w with
 |false=>rfl
 |true=>
  simp only[AMy,ANE,AL4,AOK];have key:∀(k i:Nat),i<=w.2.1.length->w.2.1.length-i<k->H_ k n i 0 [] w.1 ((w.2.1.map (DA n)).take i++w.2.1.drop i)=some (pkW ((w.1,w.2.1.map (DA n),()),true)):=by
   intro k
   induction k with
   |zero=>omega
   |succ k ih=>
    intro i hi hk;have hlen:((w.2.1.map (DA n)).take i++w.2.1.drop i).length=w.2.1.length:=Pm hi;simp only[H_,Rh,AB,hlen];by_cases Dr:i<w.2.1.length
    ·have c1:(0:Int)<=(i:Int)/\(i:Int)<(w.2.1.length:Int):=by omega
     have hm:w.2.1[i].1.length+w.2.1[i].2.1.length<=Ag BX w.2.1:=Ab (f:=BX) (ANM Dr);have hg:((w.2.1.map (DA n)).take i++w.2.1.drop i).getD ((i:Int).toNat) ([],[],false,())=w.2.1[i]:=NB Dr;rw[AKJ c1.2];simp only[AKJ c1,hg];rw[AL (by omega) (by omega),show((i:Int)+1)=((i+1:Nat):Int)by omega];rcases AJ5 (w.2.1[i].2.2.1)with hd|hd
     ·rw[hd]
      simp only[AMy,ANE];grind[jQ,mo]
     ·rw[hd]
      simp only[ASm,ANa];rw[JY (by omega) (by simp)];grind[AD,Int.toNat_natCast,QV,DA]
    ·rw[AKT (by omega),ANY (by omega)]
     have:i=w.2.1.length:=by omega
     subst this;rw[ANm,AUL (by simp)];rfl
  have:=key Ae 0 (by omega) (Ah (by omega));simp_all
end
abbrev PkM:Type:=AER×(List Int×List AJ×List AAC×Unit)
def jt(q:Av×Bool):PkM:=((((q.1.1,q.1.2.1,(),(),q.1.2.2.2.2.1,(),()),q.2,()),()),(q.1.2.2.1,q.1.2.2.2.1,q.1.2.2.2.2.2.1,()))
section
variable{m:Av} (hm:CO m<=2^20)
include hm
theorem JU:m.2.2.1.length<=2^20/\m.2.2.2.1.length<=2^20/\m.2.2.2.2.2.1.length<=2^20/\ ∀l∈m.2.2.2.2.2.1,l.length<=2^20:=by
 have l1:=AY (f:=Ar) (l:=m.2.2.2.1);have l2:=AY (f:=DK) (l:=m.2.2.2.2.2.1);have rv:m.2.2.1.length+(Ag Ar m.2.2.2.1+(Ag DK m.2.2.2.2.2.1+0))<=2^20:=by
  grind[CO]
 refine⟨by omega,by omega,by omega,fun l hl=> ?_⟩;have:l.length<=Ag DK m.2.2.2.2.2.1:=Ab (f:=DK) hl;omega
theorem Ls:Ec m=some (((m.1,m.2.1,(),(),m.2.2.2.2.1,(),()),()),(m.2.2.1,m.2.2.2.1,m.2.2.2.2.2.1,())):=by
 obtain⟨h1,h2,h3,h4⟩:=JU hm;have key:∀(n i:Nat) (b:List AAC),i<=m.2.2.2.2.2.1.length->m.2.2.2.2.2.1.length-i<n->b.length<=i->
   H7 n i m.1 m.2.1 m.2.2.1 m.2.2.2.1 m.2.2.2.2.1 m.2.2.2.2.2.1 0 0 false [] [] [] m.1 m.2.1 m.2.2.2.2.1 m.2.2.1 m.2.2.2.1 b=some (((m.1,m.2.1,(),(),m.2.2.2.2.1,(),()),()),(m.2.2.1,m.2.2.2.1,b++m.2.2.2.2.2.1.drop i,())):=by
  intro n
  induction n with
  |zero=>omega
  |succ n ih=>
   intro i b hi hn hb;simp only[H7,Sa,AB];by_cases hc:i<m.2.2.2.2.2.1.length
   ·have c1:(0:Int)<=(i:Int)/\(i:Int)<(m.2.2.2.2.2.1.length:Int):=by omega
    have hq:=h4 _ (ANM hc);rw[AKJ c1.2,AKJ c1,AL (by omega) (by omega),show((i:Int)+1)=((i+1:Nat):Int)by omega,Aj hc,AKJ (by rw[Bf];omega),AKJ (by rw[Bf];omega),drop_cons hc,ih (i+1) _ (by omega) (by omega) (by simp_all),ANs];rfl
   grind
 unfold Ec Nv;rw[AKJ (by rw[Bf];omega),AKJ (by rw[Bf];omega)];grind[Ae,Ah]
end
theorem eX{l s:AAC}(hl:l.length<=2^20)(hs:s.length<=2^20):Kh l s=some (((),()),(l.filter s.contains,())):=by
 unfold Kh;rw[JY (by omega) (by omega)];simp only[AD];have hll:(less l s).length<=l.length:=ASs _ _;rw[JY (by omega) (by omega)];grind[AD,less,List.filter_congr]
theorem eV{c:CP}{s l:AAC}(hc:c.1.length<=2^40)(hl:l.length<=2^20)(hs:s.length<=2^20):Kj c s l=some ((Jo c s l,()),()):=by
 unfold Kj Jo;rw[show(c.1,c.2.1,())=c from rfl,FF (l:=s) hc (by omega),HM (l:=l) hc (by omega),JY (l:=l) (m:=s) (by omega) (by omega),JY (l:=s) (m:=l) (by omega) (by omega)];simp only[AD];rcases AJ5 (holds c s)with h|h
 rotate_left
 ·simp_all
 rw[h];cases Ay c l with
 |false=>rfl
 |true=>
  simp only[AMy,ANE,ANP];have hn:Ay c (less s l)=true:=Lx _ (PD h);by_cases ha:(less l s).length>0
  ·rw[show decide (((less l s).length:Int)>0)=true by simp_all]
   have:l.all s.contains=false:=by
    rw[AUZ];grind[List.all_eq_true,less,List.filter_eq_nil_iff]
   grind
  ·rw[AUQ (show¬((less l s).length:Int)>0 by omega)]
   have:l.all s.contains=true:=by
    grind[less,List.length_eq_zero_iff,List.filter_eq_nil_iff,List.all_eq_true]
   rw[this];simp only[ANE,ANP];rw[eR hn];simp only[AD,holds,hn,ANP];grind[cf,less,decide_eq_true,decide_eq_false]
section
variable{c:CP} {m:Av} (hc:c.1.length<=2^40) (hm:CO m<=2^20) (h:s6 m.2.2.2.1)
include hc hm h
theorem oH{o n:Int}:Ho c m o n=some (jt (Yt c m o n)):=by
 obtain⟨h1,h2,h3,h4⟩:=JU hm;unfold Ho Yt;rw[show(c.1,c.2.1,())=c from rfl,VO m,Jm hc (by omega) h,Ls hm,Bl,Bl];simp only[AD];rcases AJ5 (HN c m)with hw|hw
 rotate_left
 ·rw[hw];rfl
 have AAx:=Gu (Hi.1 hw).cfg;rw[hw,AL (x:=(c.1.length:Int)-1) (by omega) (by omega)];simp only[AMy,ANE,AL4,AOK];rcases AJ5 (BS o 1 (m.2.2.2.2.2.1.length:Int))with ho|ho
 rotate_left
 ·rw[ho];rfl
 have xY:=Ai.1 ho;rw[ho];cases BS n 0 ((c.1.length:Int)-1)with
 |false=>rfl
 |true=>
  have hi:(o-1).toNat<m.2.2.2.2.2.1.length:=by omega
  have hq:=h4 _ (BM (d:=([]:AAC)) hi);simp only[AMy,ANE,ANP,ATt];rw[AL (by omega) (by omega),AKJ (by omega),NU (by omega)];simp only[AD];rw[AKJ (by omega)];rfl
theorem iB{n:Int}:QT c m n=some (jt (CF c m n)):=by
 obtain⟨h1,h2,h3,h4⟩:=JU hm;unfold QT TV CF;rw[show(c.1,c.2.1,())=c from rfl,VO m,Jm hc (by omega) h,Ls hm];simp only[AD];cases HN c m with
 |false=>rfl
 |true=>
  simp only[AMy,ANE,AL4,AOK];have key:∀(k i:Nat),i<=m.2.2.2.2.2.1.length->m.2.2.2.2.2.1.length-i<k->Jp k n i 0 0 false [] [] [] m.1 m.2.1 m.2.2.2.2.1 m.2.2.1 m.2.2.2.1 ((m.2.2.2.2.2.1.map (fun l=>less l [n])).take i++m.2.2.2.2.2.1.drop i)=
    some (jt ((m.1,m.2.1,m.2.2.1,m.2.2.2.1,m.2.2.2.2.1,m.2.2.2.2.2.1.map (fun l=>less l [n]),()),true)):=by
   intro k
   induction k with
   |zero=>omega
   |succ k ih=>
    intro i hi hk;have hlen:=Pm (f:=fun l=>less l [n]) hi;simp only[Jp,Ti,AB,hlen];by_cases Dr:i<m.2.2.2.2.2.1.length
    ·have c1:(0:Int)<=(i:Int)/\(i:Int)<(m.2.2.2.2.2.1.length:Int):=by omega
     have hq:=h4 _ (ANM Dr);have hg:((m.2.2.2.2.2.1.map (fun l=>less l [n])).take i++m.2.2.2.2.2.1.drop i).getD ((i:Int).toNat) []=m.2.2.2.2.2.1[i]:=NB Dr;rw[AKJ c1.2];simp only[AKJ c1,hg];rw[AL (by omega) (by omega),show((i:Int)+1)=((i+1:Nat):Int)by omega,JY (by omega) (by simp)];simp only[AD];rw[ANJ,QV Dr rfl];grind
    ·rw[AKT (by omega),ANY (by omega)]
     have:i=m.2.2.2.2.2.1.length:=by omega
     subst this;rw[ANm,AUL (by simp)];rfl
  have:=key Ae 0 (by omega) (Ah (by omega));simp_all
theorem jm:Rz c m=some ((Ph c m,()),()):=by
 obtain⟨h1,h2,h3,h4⟩:=JU hm;unfold Rz VP Ph;rw[show(c.1,c.2.1,())=c from rfl,VO m,Jm hc (by omega) h];simp only[AD];cases HN c m with
 |false=>rfl
 |true=>
  rcases AJ5 m.2.2.2.2.1 with hp|hp
  rotate_left
  ·simp_all
  have key:∀(k i:Nat),i<=m.2.2.2.2.2.1.length->m.2.2.2.2.2.1.length-i<k->Kn k i c.1 c.2.1 m.1 m.2.1 m.2.2.1 m.2.2.2.1 m.2.2.2.2.1 m.2.2.2.2.2.1=some (((m.2.2.2.2.2.1.drop i).all (holds c),()),()):=by
   intro k
   induction k with
   |zero=>omega
   |succ k ih=>
    intro i hi hk;simp only[Kn,Uz,AB];by_cases Dr:i<m.2.2.2.2.2.1.length
    ·have c1:(0:Int)<=(i:Int)/\(i:Int)<(m.2.2.2.2.2.1.length:Int):=by omega
     have hq:=h4 _ (ANM Dr);rw[AKJ c1.2,AKJ c1,AL (by omega) (by omega),show((i:Int)+1)=((i+1:Nat):Int)by omega,Aj Dr,drop_cons Dr,show(c.1,c.2.1,())=c from rfl,FF hc (by omega),ih (i+1) (by omega) (by omega)];simp only[AD,AUc];cases holds c m.2.2.2.2.2.1[i]<;>rfl
    grind
  have:=key Ae 0 (by omega) (Ah (by omega));simp_all
omit hc h in
theorem Zc{o:Int}:E9 m o=some ((((Dp m o).getD Dz,(Dp m o).isSome,()),()),()):=by
 obtain⟨h1,h2,h3,h4⟩:=JU hm;unfold E9 Dp;rw[j6];simp only[AD];rw[UU (by omega)];simp only[AD];cases m.2.2.2.2.1 with
 |false=>rfl
 |true=>
  simp only[AMy,ANE,ANP];rcases AJ5 (BS m.2.1 1 30)with he|he
  rotate_left
  ·rw[he];rfl
  rcases AJ5 (BS o 1 60)with ho|ho
  rotate_left
  ·rw[he,ho];rfl
  have hp:Gw m.2.1 o=EN m.2.1 o:=by unfold Gw;rw[he,ho];rfl
  rw[he,ho,hp];simp only[AUO,AMy,ANE,ANP];by_cases hl:o<=m.2.2.2.2.2.1.length
  ·rw[show decide (o>(m.2.2.2.2.2.1.length:Int))=false by simpa using hl,show decide (o<=(m.2.2.2.2.2.1.length:Int))=true by simpa using hl]
   simp only[ANE,ATt];cases Ew (EN m.2.1 o) m.2.2.2.1<;>rfl
  ·rw[show decide (o>(m.2.2.2.2.2.1.length:Int))=true by simp;omega,show decide (o<=(m.2.2.2.2.2.1.length:Int))=false by simp;omega]
   rfl
theorem lH{s:AAC}(hs:s.length<=2^20):UL c m s=some (jt (Ig c m s)):=by
 obtain⟨h1,h2,h3,h4⟩:=JU hm;unfold UL V5 Ig;rw[show(c.1,c.2.1,())=c from rfl,VO m,Jm hc (by omega) h,Ls hm];simp only[AD];rcases AJ5 (HN c m)with Bt|Bt
 rotate_left
 ·rw[Bt];rfl
 have hmo:=Hi.1 Bt;rw[Bt];rcases AJ5 m.2.2.2.2.1 with hp|hp
 ·rw[hp]
  simp only[AMy,ANE,ANa,AUG,AL4,AOK,jt,hp]
 have hn:=hmo.n;rw[hp]at hn;have hw0:m.2.2.2.2.2.1=[]:=AYT.1 (by simp_all);rw[hp];simp only[AMy,ASm,ANE,AL4,AOK,ANP];rw[eX (by omega) hs];have zL:(m.2.2.1.filter s.contains).length<=m.2.2.1.length:=ASs _ _;simp only[AD];rw[eV hc (by omega) hs];simp only[AD];cases Jo c s (m.2.2.1.filter s.contains)with
 |false=>simp[jt,hp]
 |true=>
  simp only[AMy,ANE,ATt];have hlb:=G1 (l:=m.2.2.2.1);have key:∀(k i:Nat),(i:Int)<=LZ m.2.2.2.1->(LZ m.2.2.2.1).toNat-i<k->La k i m.1 m.2.1 m.2.2.1 m.2.2.2.1 false m.2.2.2.2.2.1 0 0 false [] [] [] m.1 m.2.1 true m.2.2.1 m.2.2.2.1 (List.replicate i [])=
    some (jt ((m.1,m.2.1,m.2.2.1,m.2.2.2.1,true,List.replicate (LZ m.2.2.2.1).toNat [],()),true)):=by
   intro k
   induction k with
   |zero=>omega
   |succ k ih=>
    intro i hi hk;simp only[La,WO];rw[show RO (m.1,m.2.1,m.2.2.1,m.2.2.2.1,false,m.2.2.2.2.2.1,())=some ((LZ m.2.2.2.1,()),())from dj (m:=(m.1,m.2.1,m.2.2.1,m.2.2.2.1,false,m.2.2.2.2.2.1,())) (by grind) h];simp only[AD,AB];by_cases Dr:(i:Int)<LZ m.2.2.2.1
    ·rw[AKJ Dr,AKJ (by rw[Bf,AW8];omega),AL (by omega) (by omega),show((i:Int)+1)=((i+1:Nat):Int)by omega,<-List.replicate_succ']
     exact ih (i+1) (by omega) (by omega)
    ·rw[AKT Dr]
     have:i=(LZ m.2.2.2.1).toNat:=by omega
     rw[this];rfl
  have:=key Ae 0 (by omega) (Ah (by omega));simp_all
theorem lV{n:Int}{l:List AJ}(hl:l.length<=2^20)(P7:s6 l)(hw:Ag Ar l<=2^20):UK c m n l=some (jt (LV c m n l)):=by
 obtain⟨h1,h2,h3,h4⟩:=JU hm;unfold UK V1 LV;rw[show(c.1,c.2.1,())=c from rfl,VO m,Jm hc (by omega) h,Ls hm];simp only[AD];rw[NU (by omega)];simp only[AD];rcases AJ5 (HN c m)with Bt|Bt
 rotate_left
 ·rw[Bt];rfl
 rw[Bt];simp only[AMy,ANE,AL4,AOK];have AW5:∀(e:AJ) (k:List AJ),Ag Ar (keep e k)<=Ag Ar k+(1+Ar e):=by
  intro e k
  induction k with
  |nil=>simp[keep,Ag]
  |cons x k ih=>
   grind[keep,Ag,better]
 have key:∀(k i:Nat) (b:List AJ),i<=l.length->l.length-i<k->b.length<=2^20+i->s6 b->Ag Ar b+Ag Ar (l.drop i)<=2^21->
   Lj k l i c.1 c.2.1 m.1 m.2.1 m.2.2.1 m.2.2.2.1 m.2.2.2.2.1 m.2.2.2.2.2.1 0 0 false [] [] [] m.1 m.2.1 m.2.2.2.2.1 (Jx n m.2.2.1) b m.2.2.2.2.2.1=
   some (jt (if !m.2.2.2.2.1&&HN c (m.1,m.2.1,Jx n m.2.2.1,Dn b ((l.drop i).filter fun e=>AN e.1==m.2.1),m.2.2.2.2.1,m.2.2.2.2.2.1,())then
    ((m.1,m.2.1,Jx n m.2.2.1,Dn b ((l.drop i).filter fun e=>AN e.1==m.2.1),m.2.2.2.2.1,m.2.2.2.2.2.1,()),true)else(m,false))):=by
  intro k
  induction k with
  |zero=>omega
  |succ k ih=>
   intro i b hi hk hb hbi hbw;simp only[Lj,WG,AB];by_cases Dr:i<l.length
   ·have c1:(0:Int)<=(i:Int)/\(i:Int)<(l.length:Int):=by omega
    rw[AKJ c1.2];simp only[AKJ c1];rw[AL (by omega) (by omega),show((i:Int)+1)=((i+1:Nat):Int)by omega,Aj Dr,drop_cons Dr,de (l[i]),FG (P7 _ (ANM Dr)),Xi (by omega)];rw[drop_cons Dr]at hbw;simp only[Ag]at hbw;simp only[AD,AUH];rcases AJ5 (AN l[i].1==m.2.1)with he|he
    ·simp only[he,ANa,ATt,Dn]
     have:=XL (e:=l[i]) (l:=b);have hwk:=AW5 l[i] b;exact ih (i+1) _ (by omega) (by omega) (by omega) (fun x hx=>by
      rcases dq hx with rfl|hx
      ·exact P7 _ (ANM Dr)
      ·exact hbi x hx) (by omega)
    grind
   ·rw[AKT (by omega),ANY (by omega),VO m,show(c.1,c.2.1,())=c from rfl,Ls hm]
    simp only[AYg,Dn];rcases AJ5 m.2.2.2.2.1 with hp|hp
    ·grind[jt]
    rw[ANY (by omega)]at hbw;simp only[Ag]at hbw;have mY:=VK (n:=n) (l:=m.2.2.1);have hb2:=AY (f:=Ar) (l:=b);rw[Jm (m:=(m.1,m.2.1,Jx n m.2.2.1,b,m.2.2.2.2.1,m.2.2.2.2.2.1,())) hc (by
     grind[CO]) hbi]
    simp only[AD];rw[hp];simp only[ANE,ASm,ANP];grind[HN,Jx,jt]
 have hsw:Ag Ar m.2.2.2.1<=2^20:=by
  grind[CO]
 have:=key Ae 0 m.2.2.2.1 (by omega) (Ah (by omega)) (by omega) h (by grind);simp_all
end
theorem BA{α:Type}{b:Bool}{x y:α}:cond (!b) x y=cond b y x:=by simp_all
theorem C7{α:Type}{a b:Int}{x y:α}:cond (a !=b) x y=if a=b then y else x:=by
 simp_all
theorem DW{α:Type}{a b:Int}{x y:α}:cond (a==b) x y=if a=b then x else y:=by
 simp_all
theorem kg{c:CP}{l:List Az}(hc:c.1.length<=2^40)(hl:l.length<=2^20):
  aG c l=some ((((),Ay c (l.map fun a=>a.1),()),()),(l.map (fun a=>a.1),())):=by
 have key:∀(n i:Nat) (b:AAC),i<=l.length->l.length-i<n->b.length=i->
   LW n l i c.1 c.2.1 b=some ((((),Ay c (b++(l.drop i).map fun a=>a.1),()),()),(b++(l.drop i).map (fun a=>a.1),())):=by
  intro n
  induction n with
  |zero=>omega
  |succ n ih=>
   intro i b hi h hb;simp only[LW,WJ,AB];by_cases aQ:i<l.length
   ·have c1:(0:Int)<=(i:Int)/\(i:Int)<(l.length:Int):=by omega
    have c2:b.length+1<=D8:=by rw[Bf];omega
    rw[AKJ c1.2,AKJ c1,AKJ c2,AL (by omega) (by omega),show((i:Int)+1)=((i+1:Nat):Int)by omega,Aj aQ,ih (i+1) _ (by omega) (by omega) (by simp_all),drop_cons aQ];grind
   ·rw[AKT (by omega),ANY (by omega),AXx,ANm,show(c.1,c.2.1,())=c from rfl,HM hc (by omega)]
    rfl
 have:=key Ae 0 [] (by omega) (Ah (by omega)) rfl;rw[show((0:Nat):Int)=0 from rfl,AUE,ATu]at this;exact this
theorem Vq{r:AZ}(h:r.2.2.1.length<=2^30):CY r=some (((r.1,r.2.1,(),()),()),(r.2.2.1,())):=by
 unfold CY;rw[AKJ (by rw[Bf];omega)]
theorem dI{r:AZ}{e:As}{x y:Int}(h:r.2.2.1.length<=2^30):Io r e x y=some (((x,y,(),()),()),(r.2.2.1++[e],())):=by
 unfold Io;rw[Pq r,Vq h];simp only[AD];rw[AKJ (by rw[Bf];omega)]
theorem oE{s:AAC}{p:Int}{l:List Az}(hs:s.length<=2^20)(hl:l.length<=2^20)(P7:∀a∈l,DR a.2.2.1):
  Mq s p l=some ((Hm p (Fu s p none l),()),()):=by
 have key:∀(n i:Nat) (b:Option AJ),i<=l.length->l.length-i<n->
   ND n s p l b.isSome i 0 0 [] (b.getD Dz).1 (b.getD Dz).2.1 (b.getD Dz).2.2.1 (b.getD Dz).2.2.2.1=some ((Hm p (Fu s p b (l.drop i)),()),()):=by
  intro n
  induction n with
  |zero=>omega
  |succ n ih=>
   intro i b hi h;simp only[ND,X2,AB,BA];by_cases aQ:i<l.length
   ·have c1:(0:Int)<=(i:Int)/\(i:Int)<(l.length:Int):=by omega
    rw[AKJ c1.2,AKJ c1,AL (by omega) (by omega),show((i:Int)+1)=((i+1:Nat):Int)by omega,Aj aQ,drop_cons aQ];have ih':=fun b=>ih (i+1) b (by omega) (by omega)
    simp only[ih'];rw[Kl (by omega),show(l[i].2.2.1,l[i].2.2.2.1,l[i].2.2.2.2.1,l[i].2.2.2.2.2.1,())=Vg l[i]from rfl];rw[Qg (e:=Vg l[i]) (P7 _ (ANM aQ))];simp only[AD,Fu];cases h1:l[i].2.1 with
    |false=>simp
    |true=>
     cases h2:s.contains l[i].1 with
     |false=>simp
     |true=>
      cases h3:Ei (Vg l[i])with
      |false=>simp
      |true=>
       simp only[ANa,ANP];by_cases h4:l[i].2.2.1=p
       ·rw[C7,AKJ h4,AKJ (by show((Vg l[i]).1==p)=true;rw[AUM];exact h4)]
        cases b with
        |none=>
         simp only[AUR,ANE,Xs,AD,Option.getD_none];have:=ih' (some (Vg l[i]));simp only[AUS,AUP]at this;have hb:better (Vg l[i]) (Vg l[i])=Vg l[i]:=by unfold better;simp_all
         simp_all
        |some x=>
         simp only[AUS,ANa,AUP];rw[de x];grind[Xs,AD,better,Vg,Option.isSome_some]
       ·rw[C7,AKT h4,AKT (by show¬((Vg l[i]).1==p)=true;rw[AUM];exact h4)]
   ·rw[AKT (by omega),ANY (by omega)]
    simp only[Fu];cases b with
    |none=>rfl
    |some x=>
     simp only[AUS,ANa,AUP,Hm];grind
 exact key Ae 0 none (by omega) (Ah (by omega))
theorem kC{x:Int}:0<=BD x/\BD x<=60:=by
 cases h:BZ x with
 |true=>have:=(CM h).2.1;omega
 |false=>unfold BD;simp_all
def zT(q:AZ×Int):Zn:=((((q.1.1,q.1.2.1,(),()),q.2,()),()),(q.1.2.2.1,()))
theorem i6{c:CP}{g:AQ}{sure:Int}{r:AZ}{l:List Az}(hc:c.1.length<=2^20)(hg:Ag CG g.1<=2^20)(ht:DR g.2.1)(hl:l.length<=2^20)(P7:∀a∈l,DR a.2.2.1):
  QQ c g sure r l=some (zT (B9 c g sure r l)):=by
 unfold QQ B9;rw[show(c.1,c.2.1,())=c from rfl,show(g.1,g.2.1,())=g from rfl,Pq r,kg (by omega) hl,QK (by omega) (by omega) ht,PW];simp only[AD,BA,AB];cases h1:NC c g with
 |false=>rfl
 |true=>
 cases h2:Xk r with
 |false=>rfl
 |true=>
 cases h3:Ay c (l.map fun a=>a.1)with
 |false=>rfl
 |true=>
 have hr:=RQ.1 h2;have wt:=hr.ep;have hro:=hr.off;have hrn:=hr.n;have hR:=JF.1 h1;have hRn:=hR.n;simp only[ANa,ANP,AMy,AL4,AOK];rw[Vq (by omega)];simp only[AD];by_cases h4:r.1>(g.1.length:Int)
 ·rw[AKJ h4,ARS h4];rfl
 rw[AKT h4,AUQ h4];by_cases h5:r.2.2.1.length=120
 ·rw[show(((r.2.2.1.length:Nat):Int)==120)=true by simp_all,ARS h5];rfl
 rw[show(((r.2.2.1.length:Nat):Int)==120)=false by grind,AUQ h5];simp only[ANE,ARx,AL4,AOK];rw[AL (x:=r.1-1) (by omega) (by omega),AKJ (by omega),M3 (by omega) (by omega),FG ht,aO ht];simp only[AD];have hto:=kC (x:=g.2.1);rw[AL (x:=BD g.2.1+1) (by omega) (by omega),AL (x:=r.1+1) (by omega) (by omega),AL (x:=r.2.1+1) (by omega) (by omega)];simp only[dI (r:=r) (by omega),AD];by_cases h6:g.2.1>=EN r.1 r.2.1
 ·rw[AKJ h6,AKJ h6];rfl
 rw[AKT h6,AKT h6]
 generalize ADX:g.1.getD (r.1-1).toNat Gd=era
 have K9:(r.1-1).toNat<g.1.length:=by omega
 have Ur:era.1.length<=2^20:=by
  have h7:=Ab (f:=CG) (BM (d:=Gd) K9);rw[ADX]at h7;have:CG era=era.1.length:=rfl;omega
 have tail:((Kh (l.map fun a=>a.1) era.1).bind fun TA=>
   (Kj c era.1 TA.2.1).bind fun nT=>
   cond (nT.1.1)
    ((Mq era.1 (EN r.1 r.2.1) l).bind fun aM=>
    some ((((r.1,r.2.1+1,(),()),0,()),()),(r.2.2.1++[(aM.1.1.1,aM.1.1.2.1,aM.1.1.2.2.1,())],())))
    (some ((((r.1,r.2.1,(),()),3,()),()),(r.2.2.1,()))))=
   some (zT (if !Jo c era.1 ((l.map fun a=>a.1).filter era.1.contains)then(r,3)else
    ((r.1,r.2.1+1,r.2.2.1++[Hm (EN r.1 r.2.1) (Fu era.1 (EN r.1 r.2.1) none l)],()),0))):=by
  have hf:((l.map fun a=>a.1).filter era.1.contains).length<=2^20:=ARi (ASs _ _) (by simp_all);rw[eX (by simp_all) Ur,oE Ur hl P7];simp only[AD];rw[eV (by omega) hf Ur];simp only[AD,dI (r:=r) (by omega)];cases Jo c era.1 ((l.map fun a=>a.1).filter era.1.contains)<;>rfl
 have hd:g.1.getD (r.1-1).toNat ([],false,0,())=era:=ADX;rw[hd];simp only[tail];cases h7:era.2.1 with
 |true=>
  simp only[ANa,ANE,ANP,AMy,AUG,ARx,ANK];by_cases h8:r.2.1>era.2.2.1
  ·rw[AKJ h8,AKJ h8];rfl
  rw[AKT h8,AKT h8];by_cases h9:r.2.1>60
  ·rw[AKJ h9,AKJ h9];rfl
  grind
 |false=>
  simp only[ANa,ANE,ANP,ASm,AUG,AL4,AOK,ATB,ANK];by_cases h8:r.2.1>sure
  ·rw[AKJ h8,AKJ (.inl h8)];rfl
  rw[AKT h8];by_cases h9:r.2.1>60
  ·rw[AKJ h9,AKJ (.inr h9)];rfl
  grind
theorem rh{c:CP}{l:AAC}(hc:c.1.length<=2^20)(hl:l.length<=2^20):Za c l=some ((Ay c l&& !holds c l,()),()):=by
 unfold Za;rw[show(c.1,c.2.1,())=c from rfl,HM (by omega) (by omega),FF (by omega) (by omega)];grind
theorem l8{ss:List AO}(hs:ss.length<=1024)(h:∀s∈ss,s.1.length<=1024):Zx ss=some (((),()),(F8 [] ss,())):=by
 have key:∀n:Nat,
   (∀(i:Nat) (b:List AJ),i<=ss.length->(ss.length-i)*1026+1<=n->b.length<=i*1024->
    JT n ss i b=some (((),()),(F8 b (ss.drop i),())))/\
   (∀(i j:Nat) (b:List AJ),(hi:i<ss.length)->j<=ss[i].1.length->(ss.length-i-1)*1026+1+(ss[i].1.length-j)+1<=n->b.length<=i*1024+j->
    JI n ss i j b=some (((),()),(F8 (Dn b (ss[i].1.drop j)) (ss.drop (i+1)),()))):=by
  intro n
  induction n with
  |zero=>simp_all
  |succ n ih=>
   refine⟨fun i b hi h' hb=> ?_,fun i j b hi hj h' hb=> ?_⟩
   ·simp only[JT,Vy,AB]
    by_cases hc:i<ss.length
    ·rw[AKJ (by omega)]
     have hm:=h _ (ANM hc);have e1:(ss.length-i)*1026=(ss.length-i-1)*1026+1026:=by
      omega
     have:=ih.2 i 0 b hc (by omega) (by omega) (by omega);rw[show((0:Nat):Int)=0 from rfl,AUE]at this;rw[this,drop_cons hc];rfl
    ·rw[AKT (by omega),ANY (by omega)]
     rfl
   ·have hm:=h _ (ANM hi)
    simp only[JI,WK,AB];have c1:(0:Int)<=(i:Int)/\(i:Int)<(ss.length:Int):=by omega
    rw[AKJ c1,Aj hi];simp only[AKJ c1];have hbb:i*1024<=2^20:=by
     omega
    by_cases hc:j<ss[i].1.length
    ·have c2:(0:Int)<=(j:Int)/\(j:Int)<(ss[i].1.length:Int):=by omega
     rw[AKJ c2.2,AKJ c2,Aj hc,de (ss[i].1[j]),Xi (by omega)];simp only[AD];rw[AL (by omega) (by omega),show((j:Int)+1)=((j+1:Nat):Int)by omega,drop_cons hc];have hk:=XL (e:=ss[i].1[j]) (l:=b);exact ih.2 i (j+1) _ hi (by omega) (by omega) (by omega)
    ·rw[AKT (by omega),AL (by omega) (by omega),show((i:Int)+1)=((i+1:Nat):Int)by omega,ANY (by omega)]
     exact ih.1 (i+1) b (by omega) (by grind) (by omega)
 have hf:(ss.length-0)*1026+1<=Ae:=by
  have:ss.length*1026<=1024*1026:=AOL _ hs;exact AVJ (Ah (by omega))
 exact(key Ae).1 0 [] (by omega) hf (by simp)
theorem zm(e:AJ):∀l:List AJ,Ag Ar (keep e l)<=Ag Ar l+(1+Ar e)
 |[]=>by simp[keep,Ag]
 |x::l=>by
  have:=zm e l;grind[keep,better,Ag]
theorem yD:∀{l k:List AJ},Ag Ar (Dn k l)<=Ag Ar k+Ag Ar l
 |[],k=>by simp[Dn,Ag]
 |e::l,k=>by
  have h1:=yD (l:=l) (k:=keep e k);grind[zm,Dn,Ag]
theorem z6:∀{l:List AO} {k:List AJ},Ag Ar (F8 k l)<=Ag Ar k+Ag Al l
 |[],k=>by simp[F8,Ag]
 |s::l,k=>by
  have h1:=z6 (l:=l) (k:=Dn k s.1);have h2:=yD (l:=s.1) (k:=k);have:Al s=Ag Ar s.1+Ag Ar s.2.1:=rfl;grind[F8,Ag]
theorem lf{y:AJ}:∀{l:List AO} {k:List AJ},y∈F8 k l->y∈k\/ ∃s∈l,y∈s.1
 |[],k,h=> .inl h
 |s::l,k,h=>by
  rcases lf (l:=l) h with h|⟨t,ht,h⟩
  all_goals grind[Rl]
def xT(b:Bool)(x:AO):AO×Bool:=if b then(x,true)else(Cz,false)
def pkF(ss:List AO)(q:AO×Bool):Of:=(((((),(),q.1.2.2.1,()),q.2,()),()),(ss,q.1.1,q.1.2.1,()))
theorem wC{c:CP}{ss:List AO}{lost:AAC}{n upto:Int}(hc:c.1.length<=2^20)(hs:ss.length<=1024)(hn:∀s∈ss,s.1.length<=1024)(hw:Ag Al ss<=2^24)(P7:∀s∈ss,r7 s)(hl:lost.length<=2^20):
  fh c lost n upto ss=some (pkF ss (Xh c ss lost n upto)):=by
 have hfs:Xh c ss lost n upto=xT (FJ c&&(decide (ss.length=c.1.length)&&(Ay c lost&&(!holds c lost&&(lost.contains n&&((others lost 0 ss).all CI&&CI (F8 [] (others lost 0 ss),[],upto,()))))))) (F8 [] (others lost 0 ss),[],upto,()):=rfl;rw[hfs];unfold fh dV;rw[show(c.1,c.2.1,())=c from rfl,Hb (by omega),rh hc hl,Kl (by omega)];simp only[AD,BA,C7];have k11:∀(k i:Nat) (o:List AO),(∀s∈o,s∈ss)->o.length<=ss.length->Ag Al o<=2^24->i<=o.length->o.length-i<k->
   NR k upto i ss 0 [] [] 0 [] [] o=some (pkF ss (xT ((o.drop i).all CI&&CI (F8 [] o,[],upto,())) (F8 [] o,[],upto,()))):=by
  intro k
  induction k with
  |zero=>omega
  |succ k ih=>
   intro i o ho hol how hi h;simp only[NR,av,AB,BA];by_cases Dr:i<o.length
   ·have c1:(0:Int)<=(i:Int)/\(i:Int)<(o.length:Int):=by omega
    have hm:=ho _ (ANM Dr);have hws:=Ab (f:=Al) hm;rw[AKJ c1.2,AKJ c1,Aj Dr,Pq (o[i]),F_ (by omega) (P7 _ hm),AL (by omega) (by omega),show((i:Int)+1)=((i+1:Nat):Int)by omega,ih (i+1) o ho hol how (by omega) (by omega),drop_cons Dr];simp only[AD,AUc];rcases AJ5 (CI o[i])with hb|hb<;>rw[hb]
    all_goals rfl
   ·rw[AKT (by omega),ANY (by omega),l8 (by omega) (fun s hs=>hn s (ho s hs))]
    have hu:=z6 (l:=o) (k:=[]);simp only[Ag]at hu;simp only[AD];rw[F_ (s:=(F8 [] o,[],upto,())) (by show Ag Ar (F8 [] o)+Ag Ar []<=_;grind[Ag]) ⟨fun e he=>by
     rcases lf he with he|⟨t,ht,he⟩
     ·simp_all
     ·exact(P7 t (ho t ht)).1 e he,fun e he=>by simp_all⟩]
    simp only[AD,List.all_nil,ANP];rcases AJ5 (CI (F8 [] o,[],upto,()))with hb|hb<;>rw[hb]<;>rfl
 have k6:∀(k i:Nat) (o:List AO),(∀s∈o,s∈ss)->i<=ss.length->(ss.length-i)+ss.length+2<=k->o.length<=i->Ag Al o+Ag Al (ss.drop i)<=2^24->
   Pn k lost upto i ss 0 [] [] 0 [] [] o=some (pkF ss (xT ((o++others lost i (ss.drop i)).all CI&&CI (F8 [] (o++others lost i (ss.drop i)),[],upto,())) (F8 [] (o++others lost i (ss.drop i)),[],upto,()))):=by
  intro k
  induction k with
  |zero=>omega
  |succ k ih=>
   intro i o ho hi h hol how;simp only[Pn,ct,AB,BA];by_cases Dr:i<ss.length
   ·have c1:(0:Int)<=(i:Int)/\(i:Int)<(ss.length:Int):=by omega
    have c2:o.length+1<=D8:=by rw[Bf];omega
    rw[drop_cons Dr]at how;simp only[Ag]at how;have hws:Al ss[i]+(Ag Ar []+0)=Al ss[i]:=rfl;rw[AKJ c1.2,Kl (by omega),AKJ c1,AKJ c2,Aj Dr,Pq (ss[i]),AL (by omega) (by omega),show((i:Int)+1)=((i+1:Nat):Int)by omega];simp only[AD];rw[ih (i+1) o ho (by omega) (by omega) (by omega) (by omega)];rw[ih (i+1) (o++[ss[i]]) (fun s hs=>by
     grind) (by omega) (by omega) (by simp_all) (by grind[Zt,Ag])]
    rw[drop_cons Dr];simp only[others];grind
   ·have:=k11 k 0 o ho (by omega) (by omega) (by omega) (by omega)
    rw[show((0:Nat):Int)=0 from rfl,AUE]at this;rw[AKT (by omega),this,ANY (by omega)];simp only[others,ANm]
 have:=k6 Ae 0 [] (by simp) (by omega) (AVJ (Ah (by omega))) (by simp) (by grind[Ag]);rw[show((0:Nat):Int)=0 from rfl,AUE,ATu]at this;rw[this];rcases AJ5 (FJ c)with h1|h1
 rotate_left
 ·rw[h1];rfl
 by_cases h2:ss.length=c.1.length
 rotate_left
 ·rw[AKT (by omega),h1,AUQ h2];rfl
 rw[AKJ (by omega),h1,ARS h2];rcases AJ5 (Ay c lost)with h3|h3
 rotate_left
 ·rw[h3];rfl
 rw[h3];rcases AJ5 (holds c lost)with h4|h4
 ·rw[h4];rfl
 rw[h4];rcases AJ5 (lost.contains n)with h5|h5
 rotate_left
 ·rw[h5];rfl
 simp_all
theorem pv{α:Type}{l:List α}{i j:Nat}{x d:α}(hi:i<l.length):(l.set i x).getD j d=if i=j then x else l.getD j d:=by
 grind
theorem Eb{w:AA}{n:Int}(h:Ak w n=0):0<=n/\n<w.Ao.length/\n∉w.lost:=by
 unfold Ak at h;split at h
 ·omega
 rename_i h1;simp only[AOP,AOe,Ai]at h1;grind
theorem pq{s x:Ac}:∀{l:List Ac},x∈Yb s l↔x=s\/x∈l
 |[]=>by simp[Yb]
 |y::l=>by
  simp only[Yb];split
  ·simp
  ·simp only[AOD,pq (l:=l)]
   grind
theorem xR{s:Ac}:∀{l:List Ac},(Yb s l).length=l.length+1
 |[]=>rfl
 |y::l=>by
  simp only[Yb];split
  ·rfl
  ·simp only[AN9,xR (l:=l)]
theorem yA{s:Ac}:∀{l:List Ac},T4 (fun s:Ac=>s.1) l->(∀x∈l,x.1≠s.1)->T4 (fun s:Ac=>s.1) (Yb s l)
 |[],_,_=>by simp[Yb,T4]
 |y::l,h,hs=>by
  have h':=h;simp only[T4,APg]at h;simp only[Yb];split
  ·rename_i hy
   simp only[T4,APg,AOD];grind
  ·rename_i hy
   simp only[T4,APg];refine⟨fun a ha=> ?_,yA h.2 fun x hx=>hs x (by simp[hx])⟩;rcases pq.1 ha with rfl|ha
   all_goals grind
section
variable{w:AA} (h:OG w)
include h
theorem OG.node{n:Int}(hn:Ak w n=0):(0<=n/\n<(AU w).1.length)/\n.toNat<w.Ao.length/\n∉w.lost:=by
 obtain⟨a,b,c⟩:=Eb hn;have:=h.pj;exact⟨⟨a,by show n<(w.1.length:Int);omega⟩,by omega,c⟩
theorem OG.qI{n:Int}(hn:Ak w n=0){s:AO}(hs:gd s):OG (w.BJ (w.Ao.set n.toNat s)):=by
 obtain⟨h1,h2,h3⟩:=h.node hn;refine⟨h.cfg,by(try simp only[H.AA.Ao,H.AA.lost,H.AA.Af,H.AA.trim,H.AA.AH,H.AA.Bg,H.AA.AX,H.AA.BE,H.AA.ER,H.AA.BJ,H.AA.Em,H.AA.Hc,H.AA.BG,H.AA.Br,H.AA.DC,H.AA.DF,H.AA.FU,CA,AU]at*);simpa using h.pj,h.lost,h.ER,fun i hi=> ?_,h.mf,h.sS,h.zF,h.AH,h.Yd,h.Bg,h.o8,h.AX,h.QD,h.BE,h.Vu⟩
 (try simp only[H.AA.Ao,H.AA.lost,H.AA.Af,H.AA.trim,H.AA.AH,H.AA.Bg,H.AA.AX,H.AA.BE,H.AA.ER,H.AA.BJ,H.AA.Em,H.AA.Hc,H.AA.BG,H.AA.Br,H.AA.DC,H.AA.DF,H.AA.FU,CA,AU]at*);simp only[AUz]at hi
 simp only[pv h2];split
 ·grind
 ·exact h.Ao i hi
theorem OG.store{n:Int}(hn:Ak w n=0):gd (storeAt w n):=(h.Ao _ (h.node hn).2.1).1
theorem jd{n:Int}{q:AO×Bool}(hn:Ak w n=0)(hs:q.2=true->gd q.1)(e:(putAt w n q).2=0):OG (putAt w n q).1:=by
 unfold putAt at*;split at e
 ·rename_i hq
  rw[AKJ hq];exact h.qI hn (hs hq)
 omega
theorem ACI{a:Int}(e:(MU w a).2=0):OG (MU w a).1:=by
 unfold MU at*;split at e
 ·omega
 rename_i h4;rw[AKT h4];simp only at e|-;split at e
 ·omega
 rename_i hq;rw[AKT hq];simp only[AOP,AOe]at hq;obtain⟨_,r1,r2,r3,r4,r5⟩:=qV hq;rw[r2]at r1;rw[r2,r3];have hnw:=h.sS;have hl:((CA w).1++[(Ap a,false,0,())]).length=w.Af.length+1:=by simp[CA]
 refine⟨h.cfg,h.pj,h.lost,h.ER,h.Ao,r1,?_,by(try simp only[H.AA.Ao,H.AA.lost,H.AA.Af,H.AA.trim,H.AA.AH,H.AA.Bg,H.AA.AX,H.AA.BE,H.AA.ER,H.AA.BJ,H.AA.Em,H.AA.Hc,H.AA.BG,H.AA.Br,H.AA.DC,H.AA.DF,H.AA.FU,CA,AU]at*);simp,fun x hx=> ?_,?_,fun m hm=>by grind,h.o8,h.AX,h.QD,fun s hs=> ?_,h.Vu⟩
 ·grind
 ·replace hx:x∈w.AH++[((w.Af.length:Int)+1,[],())]:=hx
  simp only[AOO,AUa]at hx;have AfX:w.Af.length<30:=r5;have jJ:(((CA w).1++[(Ap a,false,0,())]).length:Int)=(w.Af.length:Int)+1:=by omega
  show cF (AU w) x/\x.1<=(((CA w).1++[(Ap a,false,0,())]).length:Int)
  rw[jJ];rcases hx with hx|rfl
  ·have:=h.AH x hx
   grind
  ·exact⟨⟨h.cfg,by omega,by simp,by simp,by simp[RX]⟩,by omega⟩
 ·show T4 (fun x:AM=>x.1) (w.AH++[((w.Af.length:Int)+1,[],())])
  simp only[T4,List.pairwise_append,APg,List.Pairwise.nil,AUa,AUK];refine⟨h.Yd,by simp,fun x hx y hy=> ?_⟩;subst hy;have:=(h.AH x hx).2;omega
 ·have:=h.BE s hs
  grind
end
section
variable{w:AA} (h:OG w)
include h
theorem AGu{a:Int}{d:ACB}(hd:d.length<=40)(e:(doAdd w a d).2=0):OG (doAdd w a d).1:=by
 unfold doAdd at*;split at e
 ·omega
 rename_i ha;rw[AKT ha];simp only[AOP,AOe,Ai]at ha;simp only at e|-;split at e
 ·omega
 rename_i hq;rw[AKT hq];simp only[ATB,AYp,AOP,AOe,AUi,List.any_eq_false,AUM]at hq;obtain⟨hq,h120,hno⟩:=hq;have hi:a.toNat<w.AH.length:=by omega
 have hx:=h.AH _ (BM (d:=B7) hi);obtain⟨_,r1,r2,r3⟩:=Wi hq;rw[r2]at r1;rw[r2,r3];rw[r3]at hno;have hnn:=r1.n;simp only[API,AN9,AQL]at hnn;obtain⟨p1,p2,p3⟩:=JH (e:=(w.AH.getD a.toNat B7).1) (o:=((w.AH.getD a.toNat B7).2.1.length:Int)+1) hx.1.ep (by omega);have hns:=h.QD;refine⟨h.cfg,h.pj,h.lost,h.ER,h.Ao,h.mf,by(try simp only[H.AA.Ao,H.AA.lost,H.AA.Af,H.AA.trim,H.AA.AH,H.AA.Bg,H.AA.AX,H.AA.BE,H.AA.ER,H.AA.BJ,H.AA.Em,H.AA.Hc,H.AA.BG,H.AA.Br,H.AA.DC,H.AA.DF,H.AA.FU,CA,AU]at*);simpa using h.sS,h.zF,fun x hx' => ?_,?_,h.Bg,h.o8,h.AX,by grind[xR],fun s hs=> ?_,yA h.Vu fun x hx=>by grind⟩
 ·rcases AUU hx' with hx'|rfl
  ·exact h.AH x hx'
  ·exact⟨r1,hx.2⟩
 ·have:=h.Yd
  show T4 (fun x:AM=>x.1) (w.AH.set a.toNat ((w.AH.getD a.toNat B7).1,(w.AH.getD a.toNat B7).2.1++[(d,[],false,())],()))
  simp only[T4,AUl,List.getElem_set,AUz]at this|-;grind
 ·rcases pq.1 hs with rfl|hs
  ·simp_all
  ·exact h.BE s hs
theorem yE{a b n:Int}(e:(Iv w a b n).2=0):OG (Iv w a b n).1:=by
 unfold Iv at*;split at e
 ·omega
 rename_i h1;rw[AKT h1];simp only at e|-;split at e
 ·omega
 rename_i h2;rw[AKT h2];split at e
 ·omega
 rename_i h3;rw[AKT h3];split at e
 ·omega
 rename_i h4;rw[AKT h4];grind[jd,ew]
theorem fU{all:Bool}{s:AO}{n:Int}(hn:0<=n/\n<(AU w).1.length):∀{ws:List AM} {ss:List Ac},
  (FW all (AU w) s w.Af n ws ss).1=ws.map (fun x=>if L9 s w.Af n x then(x.1,BL (AU w) s x.1 n 1 x.2.1,())else x)/\
  (FW all (AU w) s w.Af n ws ss).2.map (fun x=>(x.1,x.2.1))=ss.map (fun x=>(x.1,x.2.1))
 |[],ss=>⟨rfl,rfl⟩
 |x::ws,ss=>by
  simp only[FW,AVq];split
  ·rename_i ht
   obtain⟨h1,h2⟩:=fU hn (ws:=ws) (ss:=ss.map (PE all x.1 x.2.1 (BL (AU w) s x.1 n 1 x.2.1)));rw[h1,h2];exact⟨rfl,by rw[AVF];rfl⟩
  ·obtain⟨h1,h2⟩:=fU hn (ws:=ws) (ss:=ss)
   rw[h1,h2];simp_all
theorem AA7{all:Bool}{n:Int}(e:(KC all w n).2=0):OG (KC all w n).1:=by
 unfold KC at*;split at e
 ·omega
 rename_i h1;rw[AKT h1];simp only at e|-;split at e
 ·omega
 rename_i h2;rw[AKT h2];simp only[ne_eq,AXI]at h1;simp only[AOP,AOe]at h2;have hn:=(h.node h1).1;obtain⟨s1,s2,s3⟩:=K8 h2;have hw:=h.qI h1 s2;obtain⟨t1,t2⟩:=fU h (all:=all) (s:=(Co (storeAt w n)).1) hn (ws:=w.AH) (ss:=w.BE);have ms:∀x∈(FW all (AU w) (Co (storeAt w n)).1 w.Af n w.AH w.BE).2,∃y∈w.BE,x.1=y.1/\x.2.1=y.2.1:=fun x hx=>by
  have:(x.1,x.2.1)∈w.BE.map (fun x=>(x.1,x.2.1)):=by grind
  simp_all
 have ml:(FW all (AU w) (Co (storeAt w n)).1 w.Af n w.AH w.BE).2.length=w.BE.length:=by
  have:=congrArg List.length t2;grind
 have ma:T4 (fun s:Ac=>s.1) (FW all (AU w) (Co (storeAt w n)).1 w.Af n w.AH w.BE).2:=by
  have h1:(FW all (AU w) (Co (storeAt w n)).1 w.Af n w.AH w.BE).2.map (fun x=>x.1)=w.BE.map (fun x=>x.1):=by
   have:=congrArg (List.map Prod.fst) t2;rw[AVF,AVF]at this;exact this
  have h2:(w.BE.map (fun x:Ac=>x.1)).Pairwise (· < ·):=AXQ.2 h.Vu;grind
 refine⟨h.cfg,hw.pj,h.lost,h.ER,hw.Ao,h.mf,by(try simp only[H.AA.Ao,H.AA.lost,H.AA.Af,H.AA.trim,H.AA.AH,H.AA.Bg,H.AA.AX,H.AA.BE,H.AA.ER,H.AA.BJ,H.AA.Em,H.AA.Hc,H.AA.BG,H.AA.Br,H.AA.DC,H.AA.DF,H.AA.FU,CA,AU]at*);simp only[t1,AYS];exact h.sS,by(try simp only[H.AA.Ao,H.AA.lost,H.AA.Af,H.AA.trim,H.AA.AH,H.AA.Bg,H.AA.AX,H.AA.BE,H.AA.ER,H.AA.BJ,H.AA.Em,H.AA.Hc,H.AA.BG,H.AA.Br,H.AA.DC,H.AA.DF,H.AA.FU,CA,AU]at*);simpa using h.zF,fun x hx=> ?_,?_,fun m hm=> ?_,h.o8,h.AX,by(try simp only[H.AA.Ao,H.AA.lost,H.AA.Af,H.AA.trim,H.AA.AH,H.AA.Bg,H.AA.AX,H.AA.BE,H.AA.ER,H.AA.BJ,H.AA.Em,H.AA.Hc,H.AA.BG,H.AA.Br,H.AA.DC,H.AA.DF,H.AA.FU,CA,AU]at*);simp only[ml];exact h.QD,fun x hx=> ?_,ma⟩
 ·(try simp only[H.AA.Ao,H.AA.lost,H.AA.Af,H.AA.trim,H.AA.AH,H.AA.Bg,H.AA.AX,H.AA.BE,H.AA.ER,H.AA.BJ,H.AA.Em,H.AA.Hc,H.AA.BG,H.AA.Br,H.AA.DC,H.AA.DF,H.AA.FU,CA,AU]at*);simp only[t1]at hx
  obtain⟨y,hy,rfl⟩:=AUV.1 hx;have zN:=h.AH y hy;split
  ·obtain⟨k1,k2,k3⟩:=cG (s:=(Co (storeAt w n)).1) (ep:=y.1) hn (o:=1) zN.1.words
   exact⟨⟨h.cfg,zN.1.ep,k3▸zN.1.n,k1,ARi k2 zN.1.opn⟩,zN.2⟩
  ·exact zN
 ·show T4 (fun x:AM=>x.1) (FW all (AU w) (Co (storeAt w n)).1 w.Af n w.AH w.BE).1
  rw[t1];simp only[T4,AXQ];refine h.Yd.imp fun{a b} sF=> ?_
  grind
 ·obtain⟨y,hy,rfl⟩:=AUV.1 hm
  have zN:=h.Bg y hy;refine⟨AEr hn zN.1,?_⟩;grind[HQ]
 ·obtain⟨y,hy,e1,e2⟩:=ms x hx
  have:=h.BE y hy;simp_all
theorem yJ{n k:Int}(e:(Is w n k).2=0):OG (Is w n k).1:=by
 unfold Is at*;split at e
 ·omega
 rename_i h1;rw[AKT h1];exact jd h (by omega) (fun hq=>(K8 hq).2.1) e
theorem w6{n:Int}(e:(It w n).2=0):OG (It w n).1:=by
 unfold It at*;split at e
 ·omega
 rename_i h1;rw[AKT h1];exact jd h (by omega) (fun hq=>(kF hq).2.1) e
theorem ABf{n:Int}(e:(Mt w n).2=0):OG (Mt w n).1:=by
 unfold Mt at*;split at e
 ·omega
 rename_i h1;rw[AKT h1];simp only[ne_eq,AXI]at h1;obtain⟨hn,hn2,hn3⟩:=h.node h1;have fw:∀x∈w.AH,(CJ (AU w) x n).1=(x.1,x.2.1.map (DA n),()):=fun x hx=>(Vm (h.AH x hx).1).2
 refine⟨h.cfg,by(try simp only[H.AA.Ao,H.AA.lost,H.AA.Af,H.AA.trim,H.AA.AH,H.AA.Bg,H.AA.AX,H.AA.BE,H.AA.ER,H.AA.BJ,H.AA.Em,H.AA.Hc,H.AA.BG,H.AA.Br,H.AA.DC,H.AA.DF,H.AA.FU,CA,AU]at*);simpa using h.pj,I1 h.lost hn,?_,fun i hi=> ?_,h.mf,by(try simp only[H.AA.Ao,H.AA.lost,H.AA.Af,H.AA.trim,H.AA.AH,H.AA.Bg,H.AA.AX,H.AA.BE,H.AA.ER,H.AA.BJ,H.AA.Em,H.AA.Hc,H.AA.BG,H.AA.Br,H.AA.DC,H.AA.DF,H.AA.FU,CA,AU]at*);simpa using h.sS,by(try simp only[H.AA.Ao,H.AA.lost,H.AA.Af,H.AA.trim,H.AA.AH,H.AA.Bg,H.AA.AX,H.AA.BE,H.AA.ER,H.AA.BJ,H.AA.Em,H.AA.Hc,H.AA.BG,H.AA.Br,H.AA.DC,H.AA.DF,H.AA.FU,CA,AU]at*);simpa using h.zF,fun x hx=> ?_,?_,fun m hm=> ?_,h.o8,h.AX,h.QD,h.BE,h.Vu⟩
 ·grind[holds,AU,Jx]
 ·(try simp only[H.AA.Ao,H.AA.lost,H.AA.Af,H.AA.trim,H.AA.AH,H.AA.Bg,H.AA.AX,H.AA.BE,H.AA.ER,H.AA.BJ,H.AA.Em,H.AA.Hc,H.AA.BG,H.AA.Br,H.AA.DC,H.AA.DF,H.AA.FU,CA,AU]at*);simp only[AUz]at hi
  simp only[pv hn2];split
  ·exact⟨gd.nil,fun _=>rfl⟩
  ·rename_i bg
   refine⟨(h.Ao i hi).1,fun hl=>(h.Ao i hi).2 ?_⟩;grind[O9]
 ·obtain⟨y,hy,rfl⟩:=AUV.1 hx
  have zN:=h.AH y hy;refine⟨(Vm zN.1).1,?_⟩;simp_all
 ·(try simp only[H.AA.Ao,H.AA.lost,H.AA.Af,H.AA.trim,H.AA.AH,H.AA.Bg,H.AA.AX,H.AA.BE,H.AA.ER,H.AA.BJ,H.AA.Em,H.AA.Hc,H.AA.BG,H.AA.Br,H.AA.DC,H.AA.DF,H.AA.FU,CA,AU]at*);simp only[T4,AXQ]
  refine List.Pairwise.imp_of_mem (fun{a b} ha hb sF=> ?_) h.Yd;simp_all
 ·obtain⟨y,hy,rfl⟩:=AUV.1 hm
  have zN:=h.Bg y hy;obtain⟨k1,k2⟩:=gT (n:=n) zN.1;refine⟨k1,?_⟩;simp_all
theorem ABI{n:Int}(e:(Mr w n).2=0):OG (Mr w n).1:=by
 unfold Mr at*;split at e
 ·omega
 rename_i h1;rw[AKT h1];simp only at e|-;split at e
 ·omega
 rename_i h2;rw[AKT h2];simp only[AOP,AOe]at h1 h2;obtain⟨s1,s2,s3,s4⟩:=yk h2;rw[List.contains_eq_mem,ANK]at h1;have hnn:=(Ef.1 h.lost).2.1 n h1;have hns:=h.pj;have hn2:n.toNat<w.Ao.length:=by
  have:n<(w.1.length:Int):=hnn.2;omega
 refine⟨h.cfg,by grind,Lx _ h.lost,?_,fun i hi=> ?_,h.mf,h.sS,h.zF,h.AH,h.Yd,h.Bg,h.o8,h.AX,h.QD,h.BE,h.Vu⟩
 ·refine .inr ?_
  rw[AUZ];intro hh
  replace hh:holds (AU w) (less w.lost [n])=true:=hh
  have:=ie (m:=w.lost) hh h.lost fun x hx=>(AUJ.1 hx).1
  simp_all
 ·(try simp only[H.AA.Ao,H.AA.lost,H.AA.Af,H.AA.trim,H.AA.AH,H.AA.Bg,H.AA.AX,H.AA.BE,H.AA.ER,H.AA.BJ,H.AA.Em,H.AA.Hc,H.AA.BG,H.AA.Br,H.AA.DC,H.AA.DF,H.AA.FU,CA,AU]at*);simp only[AUz]at hi
  simp only[pv hn2];split
  ·grind[SY,List.mem_singleton]
  ·exact⟨(h.Ao i hi).1,fun hl=>(h.Ao i hi).2 (SY.1 hl).1⟩
theorem ABL(e:(Mc w).2=0):OG (Mc w).1:=by
 unfold Mc at*;split at e
 ·omega
 rename_i h1;rw[AKT h1];split at e
 ·omega
 rename_i h2;rw[AKT h2];simp only[ATB,ANK,AYp]at h1;obtain⟨k,k1,k2,k3,k4⟩:=Ol h.mf (by show 0<w.Af.length;omega);have k1':k<w.Af.length:=k1;have ax:BF w.Af=(k:Int)+1:=k2;have hn:w.Af.length<=30:=h.mf.n;refine⟨h.cfg,h.pj,h.lost,h.ER,h.Ao,h.mf,h.sS,by(try simp only[H.AA.Ao,H.AA.lost,H.AA.Af,H.AA.trim,H.AA.AH,H.AA.Bg,H.AA.AX,H.AA.BE,H.AA.ER,H.AA.BJ,H.AA.Em,H.AA.Hc,H.AA.BG,H.AA.Br,H.AA.DC,H.AA.DF,H.AA.FU,CA,AU]at*);simp,h.AH,h.Yd,fun m hm=> ?_,h.o8,h.AX,h.QD,h.BE,h.Vu⟩
 replace hm:m∈[Wq (BF w.Af) w.Af.length]:=hm
 simp only[AUa]at hm;subst hm;refine⟨⟨h.cfg,?_,?_,ei h.cfg,List.Pairwise.nil,by simp[Wq],by simp[Wq],rfl⟩,rfl,rfl⟩
 ·show 1<=BF w.Af/\BF w.Af<=30
  omega
 ·show BF w.Af+1<=(w.Af.length:Int)/\(w.Af.length:Int)<=30
  omega
theorem ABH{n:Int}(e:(Mh w n).2=0):OG (Mh w n).1:=by
 unfold Mh at*;split at e
 ·omega
 rename_i m ms hm;simp only at e|-;split at e
 ·omega
 rename_i h1;rw[AKT h1];split at e
 ·omega
 rename_i h2;rw[AKT h2];split at e
 ·omega
 rename_i h3;rw[AKT h3];simp only[ne_eq,AXI]at h1;simp only[ATB,AYp,AOP,AOe]at h3;obtain⟨s1,s2,s3⟩:=bu h3.1;obtain⟨m1,m2,m3,m4⟩:=mm h3.2;have hw:=h.qI h1 s2;have hm1:=h.zF;rw[hm]at hm1;refine⟨h.cfg,hw.pj,h.lost,h.ER,hw.Ao,h.mf,h.sS,by omega,h.AH,h.Yd,fun x hx=> ?_,h.o8,h.AX,h.QD,h.BE,h.Vu⟩;rcases AOD.1 hx with rfl|hx
 ·have:=h.Bg m (by simp_all)
  refine⟨m2,?_⟩;simp_all
 simp_all
theorem AB8(e:(Mx w).2=0):OG (Mx w).1:=by
 unfold Mx at*;split at e
 ·omega
 rename_i m ms hm;simp only at e|-;split at e
 ·omega
 rename_i h3;rw[AKT h3];simp only[AOP,AOe]at h3;obtain⟨m1,m2,m3,m4,m5⟩:=nN h3;have hm1:=h.zF;rw[hm]at hm1;refine⟨h.cfg,h.pj,h.lost,h.ER,h.Ao,h.mf,h.sS,by omega,h.AH,h.Yd,fun x hx=> ?_,h.o8,h.AX,h.QD,h.BE,h.Vu⟩;rcases AOD.1 hx with rfl|hx
 ·have:=h.Bg m (by simp_all)
  refine⟨m2,?_⟩;simp_all
 simp_all
theorem AFd{b n:Int}(e:(S5 w b n).2=0):OG (S5 w b n).1:=by
 unfold S5 at*;split at e
 ·omega
 rename_i m ms hm;split at e
 ·omega
 rename_i x hx;split at e
 ·omega
 rename_i h1;rw[AKT h1];split at e
 ·omega
 rename_i h2;rw[AKT h2];grind[jd,ew]
theorem xk(e:(Iw w).2=0):OG (Iw w).1:=by
 unfold Iw at*;split at e
 ·omega
 rename_i m ms hm;split at e
 ·omega
 rename_i h1;rw[AKT h1];simp only at e|-;split at e
 ·omega
 rename_i h2;rw[AKT h2];simp only[AOP,AOe]at h2;obtain⟨r0,r1,k,k1,k2,k3,k4,k5,k6,k7,k8⟩:=nH h2;rw[k6]at r1;rw[k6];have hl:(G8 (CA w).1 k (m.2.2.2.2.2.1.length:Int)).length=w.Af.length:=by simp[G8,CA]
 refine⟨h.cfg,h.pj,h.lost,h.ER,h.Ao,r1,h.sS,by(try simp only[H.AA.Ao,H.AA.lost,H.AA.Af,H.AA.trim,H.AA.AH,H.AA.Bg,H.AA.AX,H.AA.BE,H.AA.ER,H.AA.BJ,H.AA.Em,H.AA.Hc,H.AA.BG,H.AA.Br,H.AA.DC,H.AA.DF,H.AA.FU,CA,AU]at*);simp,fun x hx=> ?_,h.Yd,fun x hx=>by grind,h.o8,h.AX,h.QD,fun x hx=> ?_,h.Vu⟩
 ·(try simp only[H.AA.Ao,H.AA.lost,H.AA.Af,H.AA.trim,H.AA.AH,H.AA.Bg,H.AA.AX,H.AA.BE,H.AA.ER,H.AA.BJ,H.AA.Em,H.AA.Hc,H.AA.BG,H.AA.Br,H.AA.DC,H.AA.DF,H.AA.FU,CA,AU]at*);simp only[hl];exact h.AH x hx
 ·(try simp only[H.AA.Ao,H.AA.lost,H.AA.Af,H.AA.trim,H.AA.AH,H.AA.Bg,H.AA.AX,H.AA.BE,H.AA.ER,H.AA.BJ,H.AA.Em,H.AA.Hc,H.AA.BG,H.AA.Br,H.AA.DC,H.AA.DF,H.AA.FU,CA,AU]at*);simp only[hl];exact h.BE x hx
theorem xL{a:Int}(e:(O4 w a).2=0):OG (O4 w a).1:=by
 unfold O4 at*;simp only at e|-;split at e
 ·omega
 rename_i h2;rw[AKT h2];simp only[AOP,AOe]at h2;obtain⟨r0,r1,r2⟩:=pP h2;rw[r2]at r1;rw[r2];exact⟨h.cfg,h.pj,h.lost,h.ER,h.Ao,r1,h.sS,h.zF,h.AH,h.Yd,h.Bg,h.o8,h.AX,h.QD,h.BE,h.Vu⟩
theorem vX{a k:Int}(e:(Ir w a k).2=0):OG (Ir w a k).1:=by
 unfold Ir at*;split at e
 ·omega
 rename_i h1;rw[AKT h1];simp only at e|-;split at e
 ·omega
 rename_i h2;rw[AKT h2];simp only[ne_eq,AXI]at h2;refine⟨h.cfg,h.pj,h.lost,h.ER,h.Ao,h.mf,h.sS,h.zF,h.AH,h.Yd,h.Bg,by(try simp only[H.AA.Ao,H.AA.lost,H.AA.Af,H.AA.trim,H.AA.AH,H.AA.Bg,H.AA.AX,H.AA.BE,H.AA.ER,H.AA.BJ,H.AA.Em,H.AA.Hc,H.AA.BG,H.AA.Br,H.AA.DC,H.AA.DF,H.AA.FU,CA,AU]at*);simpa using h.o8,fun r hr=> ?_,h.QD,h.BE,h.Vu⟩;rcases AUU hr with hr|rfl
 ·exact h.AX r hr
 ·exact sH h2
theorem ABv{a:Int}(e:(Nb w a).2=0):OG (Nb w a).1:=by
 unfold Nb at*;split at e
 ·omega
 rename_i h1;rw[AKT h1];have hs:(w.AH.eraseIdx a.toNat).Sublist w.AH:=List.eraseIdx_sublist _ _;exact⟨h.cfg,h.pj,h.lost,h.ER,h.Ao,h.mf,ARi hs.length_le h.sS,h.zF,fun x hx=>h.AH x (hs.subset hx),h.Yd.sublist hs,h.Bg,h.o8,h.AX,h.QD,h.BE,h.Vu⟩
theorem AMd{all:Bool}{d:BR}(hd:d.2.2.2.2.1.length<=40)(e:(LQ all w d).2=0):OG (LQ all w d).1:=by
 unfold LQ at*;by_cases hc:d.1=1
 ·rw[AKJ hc]at e|-;exact ACI h e
 rw[AKT hc]at e|-;clear hc;by_cases hc:d.1=2
 ·rw[AKJ hc]at e|-;exact AGu h hd e
 rw[AKT hc]at e|-;clear hc;by_cases hc:d.1=3
 ·rw[AKJ hc]at e|-;exact yE h e
 rw[AKT hc]at e|-;clear hc;by_cases hc:d.1=4
 ·rw[AKJ hc]at e|-;exact AA7 h e
 rw[AKT hc]at e|-;clear hc;by_cases hc:d.1=5
 ·rw[AKJ hc]at e|-;exact yJ h e
 rw[AKT hc]at e|-;clear hc;by_cases hc:d.1=6
 ·rw[AKJ hc]at e|-;exact ABf h e
 rw[AKT hc]at e|-;clear hc;by_cases hc:d.1=7
 ·rw[AKJ hc]at e|-;exact ABI h e
 rw[AKT hc]at e|-;clear hc;by_cases hc:d.1=8
 ·rw[AKJ hc]at e|-;exact ABL h e
 rw[AKT hc]at e|-;clear hc;by_cases hc:d.1=9
 ·rw[AKJ hc]at e|-;exact ABH h e
 rw[AKT hc]at e|-;clear hc;by_cases hc:d.1=10
 ·rw[AKJ hc]at e|-;exact AB8 h e
 rw[AKT hc]at e|-;clear hc;by_cases hc:d.1=11
 ·rw[AKJ hc]at e|-;exact AFd h e
 rw[AKT hc]at e|-;clear hc;by_cases hc:d.1=12
 ·rw[AKJ hc]at e|-;exact xk h e
 rw[AKT hc]at e|-;clear hc;by_cases hc:d.1=13
 ·rw[AKJ hc]at e|-;exact xL h e
 rw[AKT hc]at e|-;clear hc;by_cases hc:d.1=14
 ·rw[AKJ hc]at e|-;exact vX h e
 rw[AKT hc]at e|-;clear hc;by_cases hc:d.1=15
 ·rw[AKJ hc]at e|-;exact ABv h e
 rw[AKT hc]at e|-;grind[w6]
end
theorem bh{d:BR}(h:P8 d=true):d.2.2.2.2.1.length<=40:=by
 unfold P8 at h;simp_all
theorem gr{all:Bool}{w:AA}{d:BR}(e:(C5 all w d).2=0):Dv (C5 all w d).1=true:=by
 unfold C5 at*;split at e
 ·omega
 rename_i h1;rw[AKT h1];have hw:Dv w=true:=by
  simp_all
 have hd:P8 d=true:=by
  simp_all
 grind[Ee,AMd,bh]
theorem ACD{α:Type}{f:α->Nat}{B:Nat}:∀{l:List α},(∀x∈l,f x<=B)->Ag f l<=l.length*(1+B)
 |[],_=>by simp[Ag]
 |x::l,h=>by
  have h1:=h x (by simp);have h2:=ACD (l:=l) fun y hy=>h y (by simp[hy])
  grind[Ag,List.length_cons,Nat.add_mul]
theorem GX{α:Type}{f:α->Nat}{B N:Nat}{l:List α}(hn:l.length<=N)(h:∀x∈l,f x<=B):Ag f l<=N*(1+B):=
 ARi (ACD h) (AOL _ hn)
theorem vk{α:Type}{f:α->Int}{b:Int}:∀{l:List α} {a:Int},T4 f l->(∀x∈l,a<=f x/\f x<b)->(l.length:Int)<=max (b-a) 0
 |[],a,_,_=>by grind
 |x::l,a,h,hb=>by
  simp only[T4,APg]at h;have h1:=hb x (by simp);have h2:=vk (l:=l) (a:=f x+1) h.2 fun y hy=>⟨by grind,(hb y (by simp[hy])).2⟩
  grind
theorem Hv{c:CP}{l:AAC}(h:Ay c l=true):l.length<=8:=by
 obtain⟨h1,h2,h3⟩:=Ef.1 h;have:=(Gu h1).2.1;have:=vk (a:=0) (b:=c.1.length) h3 h2;omega
theorem Jv{p:Int}(h:BZ p=true):DR p:=by
 obtain⟨h1,h2,h3⟩:=CM h;grind[EN,DR]
theorem gd.w{s:AO}(h:gd s):Al s<=10000:=by
 have h1:=GX (f:=Ar) (B:=40) h.nk fun e he=>(Fh.1 (h.kept e he)).len
 have h2:=GX (f:=Ar) (B:=40) h.nl fun e he=>(Fh.1 (h.late e he)).len
 unfold Al;omega
theorem gd.sin{s:AO}(h:gd s):r7 s:=
 ⟨fun e he=>Jv (Fh.1 (h.kept e he)).pl,fun e he=>Jv (Fh.1 (h.late e he)).pl⟩
theorem qS.AXY{c:CP}{m:Av}(h:qS c m):m.2.2.2.1.length<=60:=by
 have:=vk (f:=fun e:AJ=>e.1) (a:=EN m.2.1 1) (b:=EN m.2.1 61) h.ft fun e he=>by
  have h1:=h.seen e he;have h2:=CM (Fh.1 h1.1).pl;grind[EN]
 grind[EN]
theorem qS.w{c:CP}{m:Av}(h:qS c m):CO m<=5000:=by
 have h1:=GX (f:=Ar) (B:=40) h.AXY fun e he=>(Fh.1 (h.seen e he).1).len
 have h2:=Hv h.gY;have h3:m.2.2.2.2.2.1.length<=60:=by
  have:=h.n;have hb:=G1 (l:=m.2.2.2.1);omega
 have h4:=GX (f:=DK) (B:=8) h3 fun l hl=>Hv (h.wrote l hl)
 unfold CO;omega
theorem qS.ein{c:CP}{m:Av}(h:qS c m):s6 m.2.2.2.1:=fun e he=>Jv (Fh.1 (h.seen e he).1).pl
theorem ROk.w{c:CP}{r:AQ}(h:ROk c r):Ag CG r.1<=270:=by
 have:=GX (f:=CG) (B:=8) h.n fun e he=>Hv (PD (h.Af e he).1)
 omega
theorem ROk.tin{c:CP}{r:AQ}(h:ROk c r):DR r.2.1:=by
 rcases h.trim with h|h
 all_goals grind[DR,Jv]
theorem cF.w{c:CP}{w:AM}(h:cF c w):Au w<=3000:=by
 have:=GX (f:=BX) (B:=48) h.n fun x hx=>by
  have h1:=h.words x hx;grind[Hv,BX]
 unfold Au;omega
def RdS(w:AA):Prop:= ∀r∈w.AX,∀e∈r.2.2.1,e.2.2.1.length<=40
theorem OG.VZ{w:AA}(h:OG w){s:AO}(hs:s∈w.Ao):gd s:=by
 obtain⟨i,hi,rfl⟩:=AQo hs;have:=(h.Ao i hi).1;simp_all
theorem OG.win{w:AA}(h:OG w)(hr:RdS w):gG w:=by
 have hc:=(Gu h.cfg).2.1;have aQ:w.1.length<=8:=hc;have a1:=GX (f:=Al) (B:=10000) (N:=8) (l:=w.Ao) (by rw[h.pj];omega) fun s hs=>(h.VZ hs).w
 have a2:=Hv h.lost;have a3:=h.mf.w;have a4:=GX (f:=Au) (B:=3000) h.sS fun x hx=>(h.AH x hx).1.w
 have a5:=GX (f:=CO) (B:=5000) h.zF fun x hx=>(h.Bg x hx).1.w
 have a6:=GX (f:=A_) (B:=5000) (N:=2) (l:=w.AX) (by rw[h.o8];omega) fun r hx=>by
  have:=GX (f:=CQ) (B:=40) (h.AX r hx).n (hr r hx);unfold A_;omega
 have a7:=GX (f:=EL) (B:=40) h.QD fun s hs=>(h.BE s hs).2.2
 refine⟨?_,fun s hs=>(h.VZ hs).sin,h.mf.tin,fun m hm=>(h.Bg m hm).1.ein,fun s hs=>Jv (h.BE s hs).1⟩;have a3':Ag CG w.Af<=270:=a3;grind[C0]
theorem tY:∀i,i<8->([0,1,2,3,4,5,6,7]:AAC).drop i=(i:Int)::([0,1,2,3,4,5,6,7]:AAC).drop (i+1):=by decide
theorem Zm{k:Int}:OI k=some (((),()),(Ap k,())):=by
 unfold OI VE Ap;rcases AJ5 (BS k 0 255)with hk|hk
 rotate_left
 ·rw[hk]
  obtain⟨m,hm⟩:∃m,Ae=m+1:=⟨Ae-1,by have:=Ah (n:=0) (by omega);omega⟩;rw[hm];simp only[IQ,OY,Bl,AD,hk,AB];rfl
 rw[hk,AKJ rfl];have hk':=Ai.1 hk;have key:∀(n i:Nat) (b:AAC),i<=8->8-i<n->b.length<=i->
   IQ n k i b=some (((),()),(b++(([0,1,2,3,4,5,6,7]:AAC).drop i).filter (fun i=>(k/2^i.toNat)%2==1),())):=by
  intro n
  induction n with
  |zero=>omega
  |succ n ih=>
   intro i b hi h hb;simp only[IQ,OY,Bl,AD,hk,ANa,AB];by_cases Dr:i<8
   ·have AD8:=uy (k:=k) (i:=i) (by omega) (by omega)
    rw[AKJ (show(i:Int)<8 by omega),AKT (by omega),ANJ,AD8,tY i Dr,AUH,ANJ,AL (by omega) (by omega),show((i:Int)+1)=((i+1:Nat):Int)by omega,AB];have c2:b.length+1<=D8:=by rw[Bf];omega
    by_cases hb':(k/2^i)%2=1
    ·rw[AKJ hb',AKJ c2,AKJ (by simp_all),ih (i+1) _ (by omega) (by omega) (by simp_all),ANs]
     rfl
    grind
   ·have:i=8:=by omega
    simp_all
 have:=key Ae 0 [] (by omega) (Ah (by omega)) (by simp);simp_all
theorem ry{d:BR}:Yo d=some ((P8 d,()),()):=by
 obtain⟨k,a,b,n,t,⟨⟩⟩:=d;unfold Yo P8;rw[Bl];simp only[AD];rcases AJ5 (BS k 1 16)with hk|hk
 rotate_left
 ·simp_all
 have hk':=Ai.1 hk;rw[hk];have dl:decide ((t.length:Int)<=40)=decide (t.length<=40):=by
  grind
 have:k=1\/k=2\/k=3\/k=4\/k=5\/k=6\/k=7\/k=8\/k=9\/k=10\/k=11\/k=12\/k=13\/k=14\/k=15\/k=16:=by omega
 rcases this with h|h|h|h|h|h|h|h|h|h|h|h|h|h|h|h<;>subst h<;>simp only[ANa,dl]<;>clear dl hk hk'<;>
  (unfold Z3;simp[fS];cases a==0<;>cases b==0<;>cases n==0<;>cases t.isEmpty<;>rfl)
theorem iI{w:AM}(hl:w.2.1.length<=2^20):Vt w=some (((V_ w.2.1:Int),()),()):=by
 have key:∀(n i:Nat),i<=w.2.1.length->w.2.1.length-i<n->
   Jz n i w.1 w.2.1=some ((((i+V_ (w.2.1.drop i):Nat):Int),()),()):=by
  intro n
  induction n with
  |zero=>omega
  |succ n ih=>
   intro i hi h;simp only[Jz,Ta,AB];by_cases Dr:i<w.2.1.length
   ·have c1:(0:Int)<=(i:Int)/\(i:Int)<(w.2.1.length:Int):=by omega
    rw[AKJ c1.2,AKJ c1,Aj Dr,AL (by omega) (by omega),show((i:Int)+1)=((i+1:Nat):Int)by omega,ih (i+1) (by omega) (by omega),drop_cons Dr];simp only[V_];cases w.2.1[i].2.2.1 with
    |false=>simp
    |true=>grind
   ·rw[AKT (by omega),ANY (by omega)]
    rfl
 have:=key Ae 0 (by omega) (Ah (by omega));rw[AUX,AUE]at this;exact this
theorem Ia{w:AA}{n:Int}(h1:w.Ao.length<=2^20)(h2:w.lost.length<=2^20):Hn w n=some ((Ak w n,()),()):=by
 unfold Hn Ak
 (try simp only[H.AA.Ao,H.AA.lost,H.AA.Af,H.AA.trim,H.AA.AH,H.AA.Bg,H.AA.AX,H.AA.BE,H.AA.ER,H.AA.BJ,H.AA.Em,H.AA.Hc,H.AA.BG,H.AA.Br,H.AA.DC,H.AA.DF,H.AA.FU,CA,AU]at*)
 rw[AL (by omega) (by omega),Bl,Kl (by omega)];grind
theorem S3{w:AA}{n:Int}(h1:w.AH.length<=2^20):MB w n=some ((BS n 0 ((w.AH.length:Int)-1),()),()):=by
 grind[MB,AL,Bl]
theorem rD{w:AA}{e:Int}(hl:Ag Au w.AH<=2^20):eS w e=some ((Vb w e,()),()):=by
 have hll:=AY (f:=Au) (l:=w.AH);have key:∀(n i:Nat),i<=w.AH.length->w.AH.length-i<n->
   Oe n e i w.1 w.2.1 w.2.2.1 w.2.2.2.1 w.2.2.2.2.1 w.2.2.2.2.2.1 w.AH w.2.2.2.2.2.2.2.1 w.2.2.2.2.2.2.2.2.1 w.2.2.2.2.2.2.2.2.2.1 w.2.2.2.2.2.2.2.2.2.2.1=
    some (((match(w.AH.drop i).find? (fun x=>x.1==e)with|some x=>(V_ x.2.1:Int)|none=>0),()),()):=by
  intro n
  induction n with
  |zero=>omega
  |succ n ih=>
   intro i hi h;simp only[Oe,ZO,AB];by_cases Dr:i<w.AH.length
   ·have c1:(0:Int)<=(i:Int)/\(i:Int)<(w.AH.length:Int):=by omega
    rw[AKJ c1.2,AKJ c1,AKJ c1,Aj Dr,AL (by omega) (by omega),show((i:Int)+1)=((i+1:Nat):Int)by omega,ih (i+1) (by omega) (by omega),drop_cons Dr,AU_,show(w.AH[i].1,w.AH[i].2.1,())=w.AH[i]from rfl];have hm:=Ab (f:=Au) (ANM Dr);have hw:Au w.AH[i]=Ag BX w.AH[i].2.1:=rfl;have hlw:=AY (f:=BX) (l:=w.AH[i].2.1);rw[iI (by omega)];cases(w.AH[i].1==e)<;>rfl
   grind
 have:=key Ae 0 (by omega) (Ah (by omega));rw[AUE]at this;exact this
theorem iE{w:AA}{r:AZ}{k:Int}(h1:Ag Al w.Ao<=2^20)(h2:w.lost.length<=2^20)(hr1: -1000<=r.1/\r.1<=1000)(hr2: -1000<=r.2.1/\r.2.1<=1000):
  Qm w r k=some (((),()),(answers w (EN r.1 r.2.1) (Ap k),())):=by
 have hsl:=AY (f:=Al) (l:=w.Ao);have wq:(Ap k).length<=8:=by
  unfold Ap;split
  ·exact ARi (ASs _ _) (by simp)
  ·simp
 have key:∀(n i:Nat) (b:List Az),i<=(Ap k).length->(Ap k).length-i<n->b.length<=i->
   Ja n i w.1 w.2.1 w.2.2.1 w.2.2.2.1 w.2.2.2.2.1 w.2.2.2.2.2.1 w.2.2.2.2.2.2.1 w.2.2.2.2.2.2.2.1 w.2.2.2.2.2.2.2.2.1 w.2.2.2.2.2.2.2.2.2.1 w.2.2.2.2.2.2.2.2.2.2.1 r.1 r.2.1 r.2.2.1 b (Ap k)=
    some (((),()),(b++answers w (EN r.1 r.2.1) ((Ap k).drop i),())):=by
  intro n
  induction n with
  |zero=>omega
  |succ n ih=>
   intro i b hi h hb;simp only[Ja,Tj,AB];by_cases Dr:i<(Ap k).length
   ·have c1:(0:Int)<=(i:Int)/\(i:Int)<((Ap k).length:Int):=by omega
    have c2:b.length+1<=D8:=by rw[Bf];omega
    rw[AKJ c1.2,AKJ c1,Aj Dr,HJ w,Ia (by omega) h2,AL (by omega) (by omega),show((i:Int)+1)=((i+1:Nat):Int)by omega,drop_cons Dr];simp only[AD,C7,answers,AUH];by_cases hn:Ak w (Ap k)[i]=0
    ·obtain⟨n1,n2,n3⟩:=Eb hn
     have hs1:((Ap k)[i]).toNat<w.2.2.1.length:=by simp_all
     rw[AKJ hn,AKJ c1,AKJ ⟨n1,n2⟩,M3 hr1 hr2];simp only[AD];have aS:w.2.2.1.getD ((Ap k)[i]).toNat ([],[],0,())=storeAt w (Ap k)[i]:=rfl;have hsm:Al (storeAt w (Ap k)[i])<=2^20:=ARi (Ab (f:=Al) (BM (d:=Cz) hs1)) h1;rw[aS,UU (GF (by omega)).1];simp only[AD];rw[AKJ c1,AKJ c2,ih (i+1) _ (by omega) (by omega) (by simp_all),AKJ (by simp_all),AVq,ANs];have:((Ap k)[i],(Ew (EN r.1 r.2.1) (storeAt w (Ap k)[i]).1).isSome,((Ew (EN r.1 r.2.1) (storeAt w (Ap k)[i]).1).getD Dz).1,((Ew (EN r.1 r.2.1) (storeAt w (Ap k)[i]).1).getD Dz).2.1,((Ew (EN r.1 r.2.1) (storeAt w (Ap k)[i]).1).getD Dz).2.2.1,((Ew (EN r.1 r.2.1) (storeAt w (Ap k)[i]).1).getD Dz).2.2.2.1,())=answer w (EN r.1 r.2.1) (Ap k)[i]:=by
      grind[answer,Ew,EN,storeAt,Ap]
     rw[this];rfl
    ·rw[AKT hn,ih (i+1) _ (by omega) (by omega) (by omega),AKT (by simp_all)]
     rfl
   ·rw[AKT (by omega),ANY (by omega)]
    simp[answers]
 have:=key Ae 0 [] (by omega) (Ah (by omega)) (by simp);grind[Qm,TL,Zm]
section
variable{w:AA} (h:gG w)
include h
theorem AMV:∀(n i:Nat) (D6:List AO) (EW:List AM) (Eu:List Av) (Fi:List AZ),i<=w.2.2.2.2.2.2.2.2.1.length->w.2.2.2.2.2.2.2.2.1.length-i<n->Fi.length<=i->
  Ci n i w.1 w.2.1 w.2.2.1 w.2.2.2.1 w.2.2.2.2.1 w.2.2.2.2.2.1 w.2.2.2.2.2.2.1 w.2.2.2.2.2.2.2.1 w.2.2.2.2.2.2.2.2.1 w.2.2.2.2.2.2.2.2.2.1 w.2.2.2.2.2.2.2.2.2.2.1 0 0 false [] [] [] [] [] [] [] [] w.2.1 w.2.2.2.2.2.1 w.2.2.2.2.2.2.2.2.2.2.1 w.1 D6 w.2.2.2.1 w.2.2.2.2.1 EW Eu Fi w.2.2.2.2.2.2.2.2.2.1=some ((((),w.2.1,(),(),(),w.2.2.2.2.2.1,(),(),(),(),w.2.2.2.2.2.2.2.2.2.2.1,()),()),(w.1,D6,w.2.2.2.1,w.2.2.2.2.1,EW,Eu,(Fi++w.2.2.2.2.2.2.2.2.1.drop i),w.2.2.2.2.2.2.2.2.2.1,())):=by
 have zJ:=h.N4;have hl:=h.lens;intro n
 induction n with
 |zero=>omega
 |succ n ih=>
  intro i D6 EW Eu Fi hi hn hb;simp only[Ci,Py,AB];by_cases Dr:i<w.2.2.2.2.2.2.2.2.1.length
  ·have c1:(0:Int)<=(i:Int)/\(i:Int)<(w.2.2.2.2.2.2.2.2.1.length:Int):=by omega
   have c2:Fi.length+1<=D8:=by rw[Bf];omega
   rw[AKJ c1.2,AKJ c1,Aj Dr,AL (by omega) (by omega),show((i:Int)+1)=((i+1:Nat):Int)by omega,drop_cons Dr];have hm:=Ab (f:=A_) (ANM Dr);have hw:A_ w.2.2.2.2.2.2.2.2.1[i]=Ag CQ w.2.2.2.2.2.2.2.2.1[i].2.2.1:=rfl;have hlw:=AY (f:=CQ) (l:=w.2.2.2.2.2.2.2.2.1[i].2.2.1);rw[Pq (w.2.2.2.2.2.2.2.2.1[i]),Vq (by omega)];simp only[AD];rw[AKJ c2,ih (i+1) _ _ _ _ (by omega) (by omega) (by simp_all),ANs];rfl
  grind
theorem AJ8:∀(n i:Nat) (D6:List AO) (EW:List AM) (Eu:List Av),i<=w.2.2.2.2.2.2.2.1.length->(w.2.2.2.2.2.2.2.1.length-i)+w.2.2.2.2.2.2.2.2.1.length+2<=n->Eu.length<=i->
  Cg n i w.1 w.2.1 w.2.2.1 w.2.2.2.1 w.2.2.2.2.1 w.2.2.2.2.2.1 w.2.2.2.2.2.2.1 w.2.2.2.2.2.2.2.1 w.2.2.2.2.2.2.2.2.1 w.2.2.2.2.2.2.2.2.2.1 w.2.2.2.2.2.2.2.2.2.2.1 0 0 false [] [] [] [] [] [] [] [] w.2.1 w.2.2.2.2.2.1 w.2.2.2.2.2.2.2.2.2.2.1 w.1 D6 w.2.2.2.1 w.2.2.2.2.1 EW Eu [] w.2.2.2.2.2.2.2.2.2.1=some ((((),w.2.1,(),(),(),w.2.2.2.2.2.1,(),(),(),(),w.2.2.2.2.2.2.2.2.2.2.1,()),()),(w.1,D6,w.2.2.2.1,w.2.2.2.2.1,EW,(Eu++w.2.2.2.2.2.2.2.1.drop i),w.2.2.2.2.2.2.2.2.1,w.2.2.2.2.2.2.2.2.2.1,())):=by
 have zJ:=h.N4;have hl:=h.lens;intro n
 induction n with
 |zero=>omega
 |succ n ih=>
  intro i D6 EW Eu hi hn hb;simp only[Cg,Pz,AB];by_cases Dr:i<w.2.2.2.2.2.2.2.1.length
  ·have c1:(0:Int)<=(i:Int)/\(i:Int)<(w.2.2.2.2.2.2.2.1.length:Int):=by omega
   have c2:Eu.length+1<=D8:=by rw[Bf];omega
   rw[AKJ c1.2,AKJ c1,Aj Dr,AL (by omega) (by omega),show((i:Int)+1)=((i+1:Nat):Int)by omega,drop_cons Dr];have hm:=Ab (f:=CO) (ANM Dr);rw[VO (w.2.2.2.2.2.2.2.1[i]),Ls (by omega)];simp only[AD];rw[AKJ c2,ih (i+1) _ _ _ (by omega) (by omega) (by simp_all),ANs];rfl
  ·have:=AMV h n 0 D6 EW Eu [] (by omega) (by omega) (by simp)
   grind
theorem AQa:∀(n i:Nat) (D6:List AO) (EW:List AM),i<=w.2.2.2.2.2.2.1.length->(w.2.2.2.2.2.2.1.length-i)+w.2.2.2.2.2.2.2.1.length+w.2.2.2.2.2.2.2.2.1.length+3<=n->EW.length<=i->
  C1 n i w.1 w.2.1 w.2.2.1 w.2.2.2.1 w.2.2.2.2.1 w.2.2.2.2.2.1 w.2.2.2.2.2.2.1 w.2.2.2.2.2.2.2.1 w.2.2.2.2.2.2.2.2.1 w.2.2.2.2.2.2.2.2.2.1 w.2.2.2.2.2.2.2.2.2.2.1 0 0 false [] [] [] [] [] [] [] [] w.2.1 w.2.2.2.2.2.1 w.2.2.2.2.2.2.2.2.2.2.1 w.1 D6 w.2.2.2.1 w.2.2.2.2.1 EW [] [] w.2.2.2.2.2.2.2.2.2.1=some ((((),w.2.1,(),(),(),w.2.2.2.2.2.1,(),(),(),(),w.2.2.2.2.2.2.2.2.2.2.1,()),()),(w.1,D6,w.2.2.2.1,w.2.2.2.2.1,(EW++w.2.2.2.2.2.2.1.drop i),w.2.2.2.2.2.2.2.1,w.2.2.2.2.2.2.2.2.1,w.2.2.2.2.2.2.2.2.2.1,())):=by
 have zJ:=h.N4;have hl:=h.lens;intro n
 induction n with
 |zero=>omega
 |succ n ih=>
  intro i D6 EW hi hn hb;simp only[C1,Q4,AB];by_cases Dr:i<w.2.2.2.2.2.2.1.length
  ·have c1:(0:Int)<=(i:Int)/\(i:Int)<(w.2.2.2.2.2.2.1.length:Int):=by omega
   have c2:EW.length+1<=D8:=by rw[Bf];omega
   rw[AKJ c1.2,AKJ c1,Aj Dr,AL (by omega) (by omega),show((i:Int)+1)=((i+1:Nat):Int)by omega,drop_cons Dr];have hm:=Ab (f:=Au) (ANM Dr);have hw:Au w.2.2.2.2.2.2.1[i]=Ag BX w.2.2.2.2.2.2.1[i].2.1:=rfl;rw[show(w.2.2.2.2.2.2.1[i].1,w.2.2.2.2.2.2.1[i].2.1,())=w.2.2.2.2.2.2.1[i]from rfl,SH (by omega)];simp only[AD];rw[AKJ c2,ih (i+1) _ _ (by omega) (by omega) (by simp_all),ANs];rfl
  ·have:=AJ8 h n 0 D6 EW [] (by omega) (by omega) (by simp)
   grind
theorem AS3:∀(n i:Nat) (D6:List AO),i<=w.2.2.1.length->(w.2.2.1.length-i)+w.2.2.2.2.2.2.1.length+w.2.2.2.2.2.2.2.1.length+w.2.2.2.2.2.2.2.2.1.length+4<=n->D6.length<=i->
  Cl n i w.1 w.2.1 w.2.2.1 w.2.2.2.1 w.2.2.2.2.1 w.2.2.2.2.2.1 w.2.2.2.2.2.2.1 w.2.2.2.2.2.2.2.1 w.2.2.2.2.2.2.2.2.1 w.2.2.2.2.2.2.2.2.2.1 w.2.2.2.2.2.2.2.2.2.2.1 0 0 false [] [] [] [] [] [] [] [] w.2.1 w.2.2.2.2.2.1 w.2.2.2.2.2.2.2.2.2.2.1 w.1 D6 w.2.2.2.1 w.2.2.2.2.1 [] [] [] w.2.2.2.2.2.2.2.2.2.1=some ((((),w.2.1,(),(),(),w.2.2.2.2.2.1,(),(),(),(),w.2.2.2.2.2.2.2.2.2.2.1,()),()),(w.1,(D6++w.2.2.1.drop i),w.2.2.2.1,w.2.2.2.2.1,w.2.2.2.2.2.2.1,w.2.2.2.2.2.2.2.1,w.2.2.2.2.2.2.2.2.1,w.2.2.2.2.2.2.2.2.2.1,())):=by
 have zJ:=h.N4;have hl:=h.lens;intro n
 induction n with
 |zero=>omega
 |succ n ih=>
  intro i D6 hi hn hb;simp only[Cl,Q6,AB];by_cases Dr:i<w.2.2.1.length
  ·have c1:(0:Int)<=(i:Int)/\(i:Int)<(w.2.2.1.length:Int):=by omega
   have c2:D6.length+1<=D8:=by rw[Bf];omega
   rw[AKJ c1.2,AKJ c1,Aj Dr,AL (by omega) (by omega),show((i:Int)+1)=((i+1:Nat):Int)by omega,drop_cons Dr];have hm:=Ab (f:=Al) (ANM Dr);have hw:=GF (s:=w.2.2.1[i]) (by omega);rw[Pq (w.2.2.1[i]),OX hw.1 hw.2];simp only[AD];rw[AKJ c2,ih (i+1) _ (by omega) (by omega) (by simp_all),ANs];rfl
  ·have:=AQa h n 0 D6 [] (by omega) (by omega) (by simp)
   grind
theorem oD:PX w=some ((((),w.2.1,(),(),(),w.2.2.2.2.2.1,(),(),(),(),w.2.2.2.2.2.2.2.2.2.2.1,()),()),(w.1,w.2.2.1,w.2.2.2.1,w.2.2.2.2.1,w.2.2.2.2.2.2.1,w.2.2.2.2.2.2.2.1,w.2.2.2.2.2.2.2.2.1,w.2.2.2.2.2.2.2.2.2.1,())):=by
 have zJ:=h.N4;have hl:=h.lens;unfold PX Qq;have:=AS3 h Ae 0 [] (by omega) (AVJ (Ah (by omega))) (by simp);rw[show((0:Nat):Int)=0 from rfl,ATu,AUE]at this;rw[AKJ (by rw[Bf];omega),AKJ (by rw[Bf];omega),show(w.2.2.2.2.1,w.2.2.2.2.2.1,())=(CA w)from rfl,Sw (by show Ag CG w.2.2.2.2.1<=_;omega)];simp only[AD];rw[AKJ (by rw[Bf];omega)];exact this
end
def pkD(q:AA×Int):dC:=(((((),q.1.2.1,(),(),(),q.1.2.2.2.2.2.1,(),(),(),(),q.1.2.2.2.2.2.2.2.2.2.2.1,()),q.2,()),()),(q.1.1,q.1.2.2.1,q.1.2.2.2.1,q.1.2.2.2.2.1,q.1.2.2.2.2.2.2.1,q.1.2.2.2.2.2.2.2.1,q.1.2.2.2.2.2.2.2.2.1,q.1.2.2.2.2.2.2.2.2.2.1,()))
def AOX(q:AA×Int):dv:=(((((),q.1.2.1,(),(),(),q.1.2.2.2.2.2.1,(),(),(),(),q.1.2.2.2.2.2.2.2.2.2.2.1,()),q.2,()),()),(q.1.1,q.1.2.2.1,q.1.2.2.2.1,(),(),(),q.1.2.2.2.2.2.2.2.2.1,q.1.2.2.2.2.2.2.2.2.2.1,q.1.2.2.2.2.1,q.1.2.2.2.2.2.2.1,q.1.2.2.2.2.2.2.2.1,()))
def AFj(q:AA×Int):K0:=(((((),q.1.2.1,(),(),(),q.1.2.2.2.2.2.1,(),(),(),(),q.1.2.2.2.2.2.2.2.2.2.2.1,()),q.2,()),()),(q.1.1,q.1.2.2.1,q.1.2.2.2.1,q.1.2.2.2.2.1,q.1.2.2.2.2.2.2.1,q.1.2.2.2.2.2.2.2.1,q.1.2.2.2.2.2.2.2.2.1,(),q.1.2.2.2.2.2.2.2.2.2.1,()))
def vQ(q:AA×Int):Jj:=(((((),q.1.2.1,(),(),(),q.1.2.2.2.2.2.1,(),(),(),(),q.1.2.2.2.2.2.2.2.2.2.2.1,()),q.2,()),()),(q.1.1,q.1.2.2.1,(),q.1.2.2.2.2.1,q.1.2.2.2.2.2.2.1,q.1.2.2.2.2.2.2.2.1,q.1.2.2.2.2.2.2.2.2.1,q.1.2.2.2.2.2.2.2.2.2.1,q.1.2.2.2.1,()))
def ARw(q:AA×Int):fL:=(((((),q.1.2.1,(),(),(),q.1.2.2.2.2.2.1,(),(),(),(),q.1.2.2.2.2.2.2.2.2.2.2.1,()),q.2,()),()),(q.1.1,q.1.2.2.1,q.1.2.2.2.1,q.1.2.2.2.2.1,q.1.2.2.2.2.2.2.1,(),q.1.2.2.2.2.2.2.2.2.1,q.1.2.2.2.2.2.2.2.2.2.1,q.1.2.2.2.2.2.2.2.1,()))
def AJb(q:AA×Int):dE:=(((((),q.1.2.1,(),(),(),q.1.2.2.2.2.2.1,(),(),(),(),q.1.2.2.2.2.2.2.2.2.2.2.1,()),q.2,()),()),(q.1.1,q.1.2.2.1,q.1.2.2.2.1,(),q.1.2.2.2.2.2.2.1,(),q.1.2.2.2.2.2.2.2.2.1,q.1.2.2.2.2.2.2.2.2.2.1,q.1.2.2.2.2.1,q.1.2.2.2.2.2.2.2.1,()))
def AGS(q:AA×Int):Oo:=(((((),q.1.2.1,(),(),(),q.1.2.2.2.2.2.1,(),(),(),(),q.1.2.2.2.2.2.2.2.2.2.2.1,()),q.2,()),()),(q.1.1,q.1.2.2.1,q.1.2.2.2.1,q.1.2.2.2.2.1,(),q.1.2.2.2.2.2.2.2.1,q.1.2.2.2.2.2.2.2.2.1,q.1.2.2.2.2.2.2.2.2.2.1,q.1.2.2.2.2.2.2.1,()))
def AQh(q:AA×Int):jr:=(((((),q.1.2.1,(),(),(),q.1.2.2.2.2.2.1,(),(),(),(),q.1.2.2.2.2.2.2.2.2.2.2.1,()),q.2,()),()),(q.1.1,q.1.2.2.1,(),(),(),(),q.1.2.2.2.2.2.2.2.2.1,(),q.1.2.2.2.1,q.1.2.2.2.2.1,q.1.2.2.2.2.2.2.1,q.1.2.2.2.2.2.2.2.1,q.1.2.2.2.2.2.2.2.2.2.1,()))
theorem GI{α:Type}{x y:α}:(if(!true)=true then x else y)=y:=rfl
theorem Ip{α:Type}{x y:α}:(if(!false)=true then x else y)=x:=rfl
structure Aas (w:AA):Prop where
 c:w.1.length<=8
 st:w.2.2.1.length=w.1.length
 lost:w.2.2.2.1.length<=8
 era:Ag CG w.2.2.2.2.1<=270
 cJ:w.2.2.2.2.1.length<=30
 trim:DR w.2.2.2.2.2.1
 wr:w.2.2.2.2.2.2.1.length<=4
 md:w.2.2.2.2.2.2.2.1.length<=1
 rd:w.2.2.2.2.2.2.2.2.1.length=2
 se:w.2.2.2.2.2.2.2.2.2.1.length<=120
 ws:Ag Al w.2.2.1<=80008
 ww:Ag Au w.2.2.2.2.2.2.1<=12004
 a_:w.AH.length<=4
 jE:w.Ao.length=w.1.length
 J8:w.lost.length<=8
theorem OG.nums{w:AA}(h:OG w):Aas w where
 c:=(Gu h.cfg).2.1
 st:=h.pj
 lost:=Hv h.lost
 era:=h.mf.w
 cJ:=h.mf.n
 trim:=h.mf.tin
 wr:=h.sS
 md:=h.zF
 rd:=h.o8
 se:=h.QD
 ws:=by
  have:=GX (f:=Al) (B:=10000) (N:=8) (l:=w.Ao) (by rw[h.pj];exact(Gu h.cfg).2.1) fun s hs=>(h.VZ hs).w
  omega
 ww:=by
  have:=GX (f:=Au) (B:=3000) h.sS fun x hx=>(h.AH x hx).1.w
  omega
 a_:=h.sS
 jE:=h.pj
 J8:=Hv h.lost
section
variable{w:AA} (h:OG w)
include h
theorem OG.eO{a:Int}(ha:BS a 0 ((w.AH.length:Int)-1)=true):(0<=a/\a<(w.2.2.2.2.2.2.1.length:Int))/\cF (AU w) (w.AH.getD a.toNat B7)/\Ag BX (w.AH.getD a.toNat B7).2.1<=3000:=by
 have:=Ai.1 ha;have hi:a.toNat<w.AH.length:=by omega
 have hx:=(h.AH _ (BM (d:=B7) hi)).1;refine⟨?_,hx,hx.w⟩
 (try simp only[H.AA.Ao,H.AA.lost,H.AA.Af,H.AA.trim,H.AA.AH,H.AA.Bg,H.AA.AX,H.AA.BE,H.AA.ER,H.AA.BJ,H.AA.Em,H.AA.Hc,H.AA.BG,H.AA.Br,H.AA.DC,H.AA.DF,H.AA.FU,CA,AU]at*)
 omega
theorem Gr{e:Int}:(Aq (CA w).1 e).length<=8:=by
 unfold Aq;split
 ·rename_i he
  have he':=Ai.1 he;exact Hv (PD (h.mf.Af _ (BM (d:=Gd) (by omega))).1)
 ·simp
theorem n0{d:BR}:We w.2.1 w.2.2.2.2.2.1 w.2.2.2.2.2.2.2.2.2.2.1 d w.1 w.2.2.1 w.2.2.2.1 w.2.2.2.2.1 w.2.2.2.2.2.2.1 w.2.2.2.2.2.2.2.1 w.2.2.2.2.2.2.2.2.1 w.2.2.2.2.2.2.2.2.2.1=some (AOX (MU w d.2.1)):=by
 have k:=h.nums;have k1:=k.c;have k2:=k.wr;unfold We MU;rw[DW];by_cases h4:w.2.2.2.2.2.2.1.length=4
 ·rw[AKJ (by omega),AKJ h4];rfl
 have hm:(Ap d.2.1).length<=8:=by
  unfold Ap;split
  ·exact ARi (ASs _ _) (by simp)
  ·simp
 rw[AKT (by omega),AKT h4,Zm];simp only[AD];rw[show(w.1,w.2.1,())=AU w from rfl,show(w.2.2.2.2.1,w.2.2.2.2.2.1,())=CA w from rfl,nz (c:=AU w) (r:=CA w) (by show w.1.length<=_;omega) (by have:=k.era;show Ag CG w.2.2.2.2.1<=_;omega) k.trim (by omega)];simp only[AD,BA];rcases AJ5 (I0 (AU w) (CA w) (Ap d.2.1)).2.2 with hq|hq
 ·rw[hq,AKJ (by rw[Bf];omega),GI];rfl
 ·rw[hq,Ip];rfl
theorem l3{d:BR}:Ue w.2.1 w.2.2.2.2.2.1 w.2.2.2.2.2.2.2.2.2.2.1 d w.1 w.2.2.1 w.2.2.2.1 w.2.2.2.2.1 w.2.2.2.2.2.2.1 w.2.2.2.2.2.2.2.1 w.2.2.2.2.2.2.2.2.1 w.2.2.2.2.2.2.2.2.2.1=some (pkD (Iv w d.2.1 d.2.2.1 d.2.2.2.1)):=by
 have k:=h.nums;have k1:=k.c;have k2:=k.wr;have k3:=k.lost;have k4:=k.st;have ax:=k.a_;have jF:=k.J8;have kf:=k.jE;have k5:=k.era;unfold Ue Iv;rw[HJ w,S3 (by omega),Ia (by omega) (by omega)];simp only[AD,BA,C7];rcases AJ5 (BS d.2.1 0 ((w.AH.length:Int)-1))with h1|h1
 rotate_left
 ·rw[h1,Ip];rfl
 obtain⟨x1,x2,x3⟩:=h.eO h1;rw[h1,ANa,GI,AKJ x1,Bl];simp only[AD]
 generalize hx:w.AH.getD d.2.1.toNat B7=x at*
 rcases AJ5 (BS d.2.2.1 1 (x.2.1.length:Int))with h2|h2
 rotate_left
 ·rw[h2,Ip];rfl
 have h2':=Ai.1 h2;rw[h2,ANa,GI];by_cases h3:Ak w d.2.2.2.1=0
 rotate_left
 ·rw[AKT h3,AKJ h3];rfl
 rw[AKJ h3,AKT (show¬(Ak w d.2.2.2.1≠0)from fun hh=>hh h3)];obtain⟨n1,n2,n3⟩:=Eb h3;have n2':d.2.2.2.1<(w.2.2.1.length:Int):=n2;have hxl:=x2.n;have hxe:=x2.ep;rw[show(w.2.2.2.2.1,w.2.2.2.2.2.1,())=CA w from rfl,FQ (r:=CA w) (by show Ag CG w.2.2.2.2.1<=_;omega)];have Ur:(Aq w.Af x.1).length<=8:=Gr h;have hr:0<=d.2.2.2.1/\d.2.2.2.1<(w.2.2.1.length:Int):=⟨n1,n2'⟩;rw[show(CA w).1=w.Af from rfl];simp only[AD,AKJ hr];rw[Kl (by omega),AL (by omega) (by omega),AKJ (by omega),M3 (by omega) (by omega)];simp only[AD];have aS:w.2.2.1.getD d.2.2.2.1.toNat ([],[],0,())=storeAt w d.2.2.2.1:=rfl;have hso:=h.store h3;have mY:=JH (e:=x.1) (o:=d.2.2.1) hxe (by omega);rw[aS,show((storeAt w d.2.2.2.1).1,(storeAt w d.2.2.2.1).2.1,(storeAt w d.2.2.2.1).2.2.1,())=storeAt w d.2.2.2.1 from rfl,bN (by have:=hso.w;omega) hso.sin (Jv mY.1)];simp only[AD,nK,putAt];rcases AJ5 ((Aq w.Af x.1).contains d.2.2.2.1)with h5|h5
 rotate_left
 ·rw[h5,Ip];rfl
 rw[h5,GI,ANa];have hwd:(x.2.1.getD (d.2.2.1-1).toNat ([],[],false,()))=x.2.1.getD (d.2.2.1-1).toNat LP:=rfl;rw[hwd];rcases AJ5 (GP (storeAt w d.2.2.2.1) (EN x.1 d.2.2.1,0,false,(x.2.1.getD (d.2.2.1-1).toNat LP).1,())).2 with h6|h6
 rotate_left
 ·rw[h6];rfl
 rw[h6,ANa,AKJ rfl];rfl
end
theorem lA{α:Type}{f:α->Nat}{p:α->Bool}:∀{l:List α},Ag f (l.filter p)<=Ag f l
 |[]=>AP7 _
 |x::l=>by
  have:=lA (f:=f) (p:=p) (l:=l);grind[Ag]
theorem xP{s:AO}{u:Int}(hs:gd s):gd (Bp s u).1:=by
 rcases AJ5 (Bp s u).2 with hq|hq
 ·exact(bu hq).2.1
 ·have:(Bp s u).1=s:=by
   unfold Bp at*;rw[Dd.2 hs]at*;grind
  simp_all
section
variable{w:AA} (h:OG w)
include h
theorem OG.L7{n:Int}(hn:Ak w n=0):(0<=n/\n<(w.2.2.1.length:Int))/\Al (storeAt w n)<=2^30/\r7 (storeAt w n)/\gd (storeAt w n):=by
 obtain⟨n1,n2,n3⟩:=Eb hn;have:=(h.store hn).w;exact⟨⟨n1,n2⟩,by omega,(h.store hn).sin,h.store hn⟩
theorem lS{d:BR}:UT w.2.1 w.2.2.2.2.2.1 w.2.2.2.2.2.2.2.2.2.2.1 d w.1 w.2.2.1 w.2.2.2.1 w.2.2.2.2.1 w.2.2.2.2.2.2.1 w.2.2.2.2.2.2.2.1 w.2.2.2.2.2.2.2.2.1 w.2.2.2.2.2.2.2.2.2.1=some (pkD (if d.1=16 then It w d.2.1 else Is w d.2.1 d.2.2.1)):=by
 have k:=h.nums;have k1:=k.c;have k2:=k.wr;have k3:=k.lost;have k4:=k.st;have ax:=k.a_;have jF:=k.J8;have kf:=k.jE;have k5:=k.era;unfold UT It Is;rw[HJ w,Ia (by omega) (by omega)];simp only[AD,BA,C7,DW];by_cases h3:Ak w d.2.1=0
 rotate_left
 ·rw[AKT h3]
  by_cases h16:d.1=16
  ·rw[AKJ h16,AKJ h3];rfl
  ·rw[AKT h16,AKJ h3];rfl
 obtain⟨hr,s1,s2,s3⟩:=h.L7 h3;have aS:w.2.2.1.getD d.2.1.toNat ([],[],0,())=storeAt w d.2.1:=rfl;have hn3: ¬(Ak w d.2.1≠0):=fun hh=>hh h3
 rw[AKJ h3];simp only[AKJ hr,aS,AKT hn3];rw[show((storeAt w d.2.1).1,(storeAt w d.2.1).2.1,(storeAt w d.2.1).2.2.1,())=storeAt w d.2.1 from rfl,YD s1 s2,jH s1 s2 k.trim];simp only[AD,nK,putAt];by_cases h16:d.1=16
 ·rw[AKJ h16,AKJ h16]
  rcases AJ5 (GN (storeAt w d.2.1) w.2.2.2.2.2.1).2 with h6|h6
  ·rw[h6];rfl
  ·rw[h6];rfl
 ·rw[AKT h16,AKT h16]
  rcases AJ5 (EK (storeAt w d.2.1) d.2.2.1).2 with h6|h6
  ·rw[h6];rfl
  ·rw[h6];rfl
theorem om{d:BR}:Wj w.2.1 w.2.2.2.2.2.1 w.2.2.2.2.2.2.2.2.2.2.1 d w.1 w.2.2.1 w.2.2.2.1 w.2.2.2.2.1 w.2.2.2.2.2.2.1 w.2.2.2.2.2.2.2.1 w.2.2.2.2.2.2.2.2.1 w.2.2.2.2.2.2.2.2.2.1=some (vQ (Mr w d.2.1)):=by
 have k:=h.nums;have k1:=k.c;have k2:=k.wr;have k3:=k.lost;have k4:=k.st;have ax:=k.a_;have jF:=k.J8;have kf:=k.jE;have k5:=k.era;have k6:=k.ws;have k6':Ag Al w.Ao<=80008:=k.ws;have k7:=k.cJ;unfold Wj Mr;rw[Kl (by omega)];simp only[AD,BA];rcases AJ5 (w.2.2.2.1.contains d.2.1)with h1|h1
 rotate_left
 ·rw[h1];rfl
 rw[h1,GI,ANa,AL (by omega) (by omega),K7];simp only[AD];rw[show(w.1,w.2.1,())=AU w from rfl,wC (c:=AU w) (by show w.1.length<=_;omega) (by omega) (fun s hs=>by have:=(h.VZ hs).nk;omega) (by omega) (fun s hs=>(h.VZ hs).sin) (by omega)];simp only[AD,pkF];rcases AJ5 (Xh (AU w) w.2.2.1 w.2.2.2.1 d.2.1 (max ((w.2.2.2.2.1.length:Int)-1) 0)).2 with h2|h2
 rotate_left
 ·rw[h2];rfl
 have hm:d.2.1∈w.lost:=by
  simp_all
 have hn:=(Ef.1 h.lost).2.1 d.2.1 hm;have hn':d.2.1<(w.1.length:Int):=hn.2;rw[h2,ANa,GI,AKJ (show 0<=d.2.1/\d.2.1<(w.2.2.1.length:Int)from⟨hn.1,by omega⟩),JY (by omega) (by simp)];rfl
theorem nt:Wu w.2.1 w.2.2.2.2.2.1 w.2.2.2.2.2.2.2.2.2.2.1 w.1 w.2.2.1 w.2.2.2.1 w.2.2.2.2.1 w.2.2.2.2.2.2.1 w.2.2.2.2.2.2.2.1 w.2.2.2.2.2.2.2.2.1 w.2.2.2.2.2.2.2.2.2.1=some (ARw (Mc w)):=by
 have k:=h.nums;have k1:=k.c;have k2:=k.wr;have k3:=k.lost;have k4:=k.st;have ax:=k.a_;have jF:=k.J8;have kf:=k.jE;have k5:=k.era;have k7:=k.cJ;unfold Wu Mc;rw[show(w.2.2.2.2.1,w.2.2.2.2.2.1,())=CA w from rfl,Nw (r:=CA w) (by show w.2.2.2.2.1.length<=_;omega)];simp only[AD,DW,AB];rw[show(CA w).1=w.Af from rfl];by_cases h1:(w.2.2.2.2.1.length:Int)<2
 ·rw[AKJ h1,show(decide ((w.2.2.2.2.1.length:Int)<2)||decide (BF w.2.2.2.2.1=(w.2.2.2.2.1.length:Int)))=true by simp_all];rfl
 rw[AKT h1];by_cases h2:BF w.2.2.2.2.1=(w.2.2.2.2.1.length:Int)
 ·rw[AKJ h2,show(decide ((w.2.2.2.2.1.length:Int)<2)||decide (BF w.2.2.2.2.1=(w.2.2.2.2.1.length:Int)))=true by simp_all];rfl
 rw[AKT h2,show(decide ((w.2.2.2.2.1.length:Int)<2)||decide (BF w.2.2.2.2.1=(w.2.2.2.2.1.length:Int)))=false by simp_all];rw[AKT (show¬(false=true)by simp)];by_cases h3:w.2.2.2.2.2.2.2.1.length>0
 ·rw[AKJ (by omega),AKJ h3];rfl
 ·rw[AKT (by omega),AKT h3];rfl
theorem oF{d:BR}:Wb w.2.1 w.2.2.2.2.2.1 w.2.2.2.2.2.2.2.2.2.2.1 d w.1 w.2.2.1 w.2.2.2.1 w.2.2.2.2.1 w.2.2.2.2.2.2.1 w.2.2.2.2.2.2.2.1 w.2.2.2.2.2.2.2.2.1 w.2.2.2.2.2.2.2.2.2.1=some (pkD (Mh w d.2.1)):=by
 have k:=h.nums;have k1:=k.c;have k2:=k.wr;have k3:=k.lost;have k4:=k.st;have ax:=k.a_;have jF:=k.J8;have kf:=k.jE;have k5:=k.era;unfold Wb Mh;rcases hm:w.Bg with _|⟨m,ms⟩
 ·rw[DW,AKJ (by simp_all)];rfl
 have rv:w.2.2.2.2.2.2.2.1=m::ms:=hm;have wq:w.2.2.2.2.2.2.2.1.length=ms.length+1:=by simp_all
 have g0:w.2.2.2.2.2.2.2.1.getD 0 (0,0,[],[],false,[],())=m:=by simp_all
 have hr0:(0:Int)<=(0:Int)/\(0:Int)<(w.2.2.2.2.2.2.2.1.length:Int):=by omega
 have aC:=(h.Bg m (by simp_all)).1;have hmw:=aC.w;have pJ:=aC.ep;have hmb:=aC.b;simp only[DW,BA,C7,AKJ hr0,g0];rw[AKT (by omega)];rw[HJ w,Ia (by omega) (by omega),show(w.2.2.2.2.1,w.2.2.2.2.2.1,())=CA w from rfl,FQ (r:=CA w) (by show Ag CG w.2.2.2.2.1<=_;omega)];have Ur:(Aq w.Af m.2.1).length<=8:=Gr h;rw[show(CA w).1=w.Af from rfl];simp only[AD];rw[Kl (by omega)];simp only[AD];by_cases h3:Ak w d.2.1=0
 rotate_left
 ·rw[AKT h3,AKJ h3];rfl
 obtain⟨hr,s1,s2,s3⟩:=h.L7 h3;have aS:w.2.2.1.getD d.2.1.toNat ([],[],0,())=storeAt w d.2.1:=rfl;have hn3: ¬(Ak w d.2.1≠0):=fun hh=>hh h3
 rw[AKJ h3,AKT hn3];simp only[AKJ hr,aS];rcases AJ5 ((Aq w.Af m.2.1).contains d.2.1)with h5|h5
 rotate_left
 ·rw[h5,Ip];rfl
 rw[h5,GI,ANa,AL (by omega) (by omega),show((storeAt w d.2.1).1,(storeAt w d.2.1).2.1,(storeAt w d.2.1).2.2.1,())=storeAt w d.2.1 from rfl,jG s1 s2];have hq:=xP (u:=m.1-1) s3;have hqw:=hq.w;simp only[AD,nK];rw[show((Bp (storeAt w d.2.1) (m.1-1)).1.1,(Bp (storeAt w d.2.1) (m.1-1)).1.2.1,(Bp (storeAt w d.2.1) (m.1-1)).1.2.2.1,())=(Bp (storeAt w d.2.1) (m.1-1)).1 from rfl,l5 (by omega) hq.sin];simp only[AD];have hes:(GK (Bp (storeAt w d.2.1) (m.1-1)).1 m.2.1).length<=200/\s6 (GK (Bp (storeAt w d.2.1) (m.1-1)).1 m.2.1)/\Ag Ar (GK (Bp (storeAt w d.2.1) (m.1-1)).1 m.2.1)<=10000:=by
  unfold GK;rw[Dd.2 hq,AKJ rfl];refine⟨ARi (ASs _ _) hq.nk,fun e he=>hq.sin.1 e (AUJ.1 he).1,ARi lA ?_⟩;have:Al (Bp (storeAt w d.2.1) (m.1-1)).1=Ag Ar (Bp (storeAt w d.2.1) (m.1-1)).1.1+Ag Ar (Bp (storeAt w d.2.1) (m.1-1)).1.2.1:=rfl;omega
 rw[VO m,show(w.1,w.2.1,())=AU w from rfl,lV (c:=AU w) (by show w.1.length<=_;omega) (by omega) aC.ein (by omega) hes.2.1 (by omega)];simp only[AD,jt];rcases AJ5 (Bp (storeAt w d.2.1) (m.1-1)).2 with h6|h6
 rotate_left
 ·rw[h6,ASm,AYb,AKJ rfl];rfl
 rw[h6,AMy,ARx];rcases AJ5 (LV (AU w) m d.2.1 (GK (Bp (storeAt w d.2.1) (m.1-1)).1 m.2.1)).2 with h7|h7
 rotate_left
 ·rw[h7,Ip];rfl
 rw[h7,GI,ANa,ANa,rv];rfl
theorem oU:Wm w.2.1 w.2.2.2.2.2.1 w.2.2.2.2.2.2.2.2.2.2.1 w.1 w.2.2.1 w.2.2.2.1 w.2.2.2.2.1 w.2.2.2.2.2.2.1 w.2.2.2.2.2.2.2.1 w.2.2.2.2.2.2.2.2.1 w.2.2.2.2.2.2.2.2.2.1=some (pkD (Mx w)):=by
 have k:=h.nums;have k1:=k.c;have k2:=k.wr;have k3:=k.lost;have k4:=k.st;have ax:=k.a_;have jF:=k.J8;have kf:=k.jE;have k5:=k.era;unfold Wm Mx;rcases hm:w.Bg with _|⟨m,ms⟩
 ·rw[DW,AKJ (by simp_all)];rfl
 have rv:w.2.2.2.2.2.2.2.1=m::ms:=hm;have wq:w.2.2.2.2.2.2.2.1.length=ms.length+1:=by simp_all
 have g0:w.2.2.2.2.2.2.2.1.getD 0 (0,0,[],[],false,[],())=m:=by simp_all
 have hr0:(0:Int)<=(0:Int)/\(0:Int)<(w.2.2.2.2.2.2.2.1.length:Int):=by omega
 have aC:=(h.Bg m (by simp_all)).1;have hmw:=aC.w;have pJ:=aC.ep;have hmb:=aC.b;simp only[DW,BA,C7,AKJ hr0,g0];rw[AKT (by omega)];rw[show(w.2.2.2.2.1,w.2.2.2.2.2.1,())=CA w from rfl,FQ (r:=CA w) (by show Ag CG w.2.2.2.2.1<=_;omega)];have Ur:(Aq w.Af m.2.1).length<=8:=Gr h;rw[show(CA w).1=w.Af from rfl];simp only[AD];rw[VO m,show(w.1,w.2.1,())=AU w from rfl,lH (c:=AU w) (by show w.1.length<=_;omega) (by omega) aC.ein (by omega)];simp only[AD,jt];rcases AJ5 (Ig (AU w) m (Aq w.Af m.2.1)).2 with h7|h7
 rotate_left
 ·rw[h7,Ip];rfl
 rw[h7,GI,ANa,rv];rfl
theorem pN{d:BR}:Yr w.2.1 w.2.2.2.2.2.1 w.2.2.2.2.2.2.2.2.2.2.1 d w.1 w.2.2.1 w.2.2.2.1 w.2.2.2.2.1 w.2.2.2.2.2.2.1 w.2.2.2.2.2.2.2.1 w.2.2.2.2.2.2.2.2.1 w.2.2.2.2.2.2.2.2.2.1=some (pkD (S5 w d.2.2.1 d.2.2.2.1)):=by
 have k:=h.nums;have k1:=k.c;have k2:=k.wr;have k3:=k.lost;have k4:=k.st;have ax:=k.a_;have jF:=k.J8;have kf:=k.jE;have k5:=k.era;unfold Yr S5;rcases hm:w.Bg with _|⟨m,ms⟩
 ·rw[DW,AKJ (by simp_all)];rfl
 have rv:w.2.2.2.2.2.2.2.1=m::ms:=hm;have wq:w.2.2.2.2.2.2.2.1.length=ms.length+1:=by simp_all
 have g0:w.2.2.2.2.2.2.2.1.getD 0 (0,0,[],[],false,[],())=m:=by simp_all
 have hr0:(0:Int)<=(0:Int)/\(0:Int)<(w.2.2.2.2.2.2.2.1.length:Int):=by omega
 have aC:=(h.Bg m (by simp_all)).1;have hmw:=aC.w;have pJ:=aC.ep;have hmb:=aC.b;simp only[DW,BA,C7,AKJ hr0,g0];rw[AKT (by omega)];rw[VO m,Zc (m:=m) (by omega),HJ w,Ia (by omega) (by omega),show(w.2.2.2.2.1,w.2.2.2.2.2.1,())=CA w from rfl,FQ (r:=CA w) (by show Ag CG w.2.2.2.2.1<=_;omega)];have Ur:(Aq w.Af m.2.1).length<=8:=Gr h;rw[show(CA w).1=w.Af from rfl];simp only[AD];rw[Kl (by omega)];simp only[AD];have P7:∀e,Dp m d.2.2.1=some e->DR e.1:=fun e he=>by
  unfold Dp at he;split at he
  ·rename_i hc
   simp only[ALz,Ai]at hc;grind[JH,Jv]
  simp_all
 cases he:Dp m d.2.2.1 with
 |none=>rfl
 |some e=>
 simp only[AUS,ANa,AUP];by_cases h3:Ak w d.2.2.2.1=0
 rotate_left
 ·rw[AKT h3,AKJ h3];rfl
 obtain⟨hr,s1,s2,s3⟩:=h.L7 h3;have aS:w.2.2.1.getD d.2.2.2.1.toNat ([],[],0,())=storeAt w d.2.2.2.1:=rfl;have hn3: ¬(Ak w d.2.2.2.1≠0):=fun hh=>hh h3
 rw[AKJ h3,AKT hn3];simp only[AKJ hr,aS];rcases AJ5 ((Aq w.Af m.2.1).contains d.2.2.2.1)with h5|h5
 rotate_left
 ·rw[h5,Ip];rfl
 rw[h5,GI,ANa,show((storeAt w d.2.2.2.1).1,(storeAt w d.2.2.2.1).2.1,(storeAt w d.2.2.2.1).2.2.1,())=storeAt w d.2.2.2.1 from rfl,de e,bN s1 s2 (P7 e he)];simp only[AD,nK,putAt];rcases AJ5 (GP (storeAt w d.2.2.2.1) e).2 with h6|h6
 ·rw[h6];rfl
 ·rw[h6];rfl
theorem mN:US w.2.1 w.2.2.2.2.2.1 w.2.2.2.2.2.2.2.2.2.2.1 w.1 w.2.2.1 w.2.2.2.1 w.2.2.2.2.1 w.2.2.2.2.2.2.1 w.2.2.2.2.2.2.2.1 w.2.2.2.2.2.2.2.2.1 w.2.2.2.2.2.2.2.2.2.1=some (AJb (Iw w)):=by
 have k:=h.nums;have k1:=k.c;have k2:=k.wr;have k3:=k.lost;have k4:=k.st;have ax:=k.a_;have jF:=k.J8;have kf:=k.jE;have k5:=k.era;unfold US Iw;rcases hm:w.Bg with _|⟨m,ms⟩
 ·rw[DW,AKJ (by simp_all)];rfl
 have rv:w.2.2.2.2.2.2.2.1=m::ms:=hm;have wq:w.2.2.2.2.2.2.2.1.length=ms.length+1:=by simp_all
 have g0:w.2.2.2.2.2.2.2.1.getD 0 (0,0,[],[],false,[],())=m:=by simp_all
 have hr0:(0:Int)<=(0:Int)/\(0:Int)<(w.2.2.2.2.2.2.2.1.length:Int):=by omega
 have aC:=(h.Bg m (by simp_all)).1;have hmw:=aC.w;have pJ:=aC.ep;have hmb:=aC.b;simp only[DW,BA,C7,AKJ hr0,g0];rw[AKT (by omega)];rw[VO m,show(w.1,w.2.1,())=AU w from rfl,jm (c:=AU w) (by show w.1.length<=_;omega) (by omega) aC.ein];simp only[AD];rcases AJ5 (Ph (AU w) m)with h5|h5
 rotate_left
 ·rw[h5,Ip];rfl
 rw[h5,GI,ANa,show(w.2.2.2.2.1,w.2.2.2.2.2.1,())=CA w from rfl,lu (c:=AU w) (r:=CA w) (by show w.1.length<=_;omega) (by show Ag CG w.2.2.2.2.1<=_;omega) k.trim];simp only[AD,pkR];rcases AJ5 (M1 (AU w) (CA w) m.1 m.2.2.2.2.2.1.length).2 with h6|h6
 ·rw[h6];rfl
 ·rw[h6];rfl
theorem nX{d:BR}:W3 w.2.1 w.2.2.2.2.2.1 w.2.2.2.2.2.2.2.2.2.2.1 d w.1 w.2.2.1 w.2.2.2.1 w.2.2.2.2.1 w.2.2.2.2.2.2.1 w.2.2.2.2.2.2.2.1 w.2.2.2.2.2.2.2.2.1 w.2.2.2.2.2.2.2.2.2.1=some (pkD (Ir w d.2.1 d.2.2.1)):=by
 have k:=h.nums;have k1:=k.c;have k2:=k.wr;have k3:=k.lost;have k4:=k.st;have ax:=k.a_;have jF:=k.J8;have kf:=k.jE;have k5:=k.era;have k6:=k.ws;have k6':Ag Al w.Ao<=80008:=k.ws;have k7:=k.ww;have k8:=k.rd;unfold W3 Ir;rw[Bl];simp only[AD,BA,C7];rcases AJ5 (BS d.2.1 0 1)with h1|h1
 rotate_left
 ·rw[h1];rfl
 have h1':=Ai.1 h1;have hr:0<=d.2.1/\d.2.1<(w.2.2.2.2.2.2.2.2.1.length:Int):=by omega
 have K9:d.2.1.toNat<w.AX.length:=by
  simp_all
 have Ya:=h.AX _ (BM (d:=AW) K9);simp only[AKJ hr];rw[h1,GI,ANa,HJ w]
 generalize hx:w.AX.getD d.2.1.toNat AW=r at*
 have wt:=Ya.ep;have hro:=Ya.off;rw[rD (by grind),Pq r,iE (by omega) (by omega) (by omega) (by omega)];simp only[AD];have ha:∀a∈answers w (EN r.1 r.2.1) (Ap d.2.2.1),DR a.2.2.1:=fun a ha=>by
  unfold answers at ha;obtain⟨n,hn,rfl⟩:=AUV.1 ha;have hn':Ak w n=0:=by simp_all
  unfold answer;split
  ·rename_i e he
   have:=(h.store hn').kept e (AUb he);exact Jv (Fh.1 this).pl
  ·exact⟨by simp_all,by simp_all⟩
 have hal:(answers w (EN r.1 r.2.1) (Ap d.2.2.1)).length<=8:=by
  unfold answers;rw[AYS];refine ARi (ASs _ _) ?_
  unfold Ap;split
  ·exact ARi (ASs _ _) (by simp)
  ·simp
 rw[show(w.1,w.2.1,())=AU w from rfl,show(w.2.2.2.2.1,w.2.2.2.2.2.1,())=CA w from rfl,i6 (c:=AU w) (g:=CA w) (by show w.1.length<=_;omega) (by show Ag CG w.2.2.2.2.1<=_;omega) k.trim (by omega) ha];simp only[AD,zT];by_cases h2:(B9 (AU w) (CA w) (Vb w r.1) r (answers w (EN r.1 r.2.1) (Ap d.2.2.1))).2=0
 ·rw[AKJ h2,AKT (fun hh=>hh h2)];rfl
 ·rw[AKT h2,AKJ h2];rfl
end
section
variable{w:AA} (h:OG w)
include h
theorem AQj{ws:List AM}{s:Ac}:∀(n i:Nat) (t:Bool) (b:List Ac),i<=w.2.2.2.2.2.2.2.2.2.1.length->w.2.2.2.2.2.2.2.2.2.1.length-i<n->b.length<=2*i+2->
  KT n t i w.1 w.2.2.1 w.2.2.2.1 w.2.2.2.2.1 ws w.2.2.2.2.2.2.2.1 w.2.2.2.2.2.2.2.2.1 w.2.2.2.2.2.2.2.2.2.1 w.2.1 w.2.2.2.2.2.1 w.2.2.2.2.2.2.2.2.2.2.1 0 0 false [] [] [] [] [] [] [] [] s.1 s.2.1 s.2.2.1 b=some (AFj (((w.BG ws).DF (b++(if t then w.2.2.2.2.2.2.2.2.2.1.drop i else Yb s (w.2.2.2.2.2.2.2.2.2.1.drop i)))),0)):=by
 have k6:=h.nums.se;intro n
 induction n with
 |zero=>omega
 |succ n ih=>
  intro i t b hi hn hb;simp only[KT,YQ,AB,BA];have c2:b.length+1<=D8:=by rw[Bf];omega
  by_cases Dr:i<w.2.2.2.2.2.2.2.2.2.1.length
  ·have c1:(0:Int)<=(i:Int)/\(i:Int)<(w.2.2.2.2.2.2.2.2.2.1.length:Int):=by omega
   have c3:(b++[(s.1,s.2.1,s.2.2.1,())]).length+1<=D8:=by grind[Bf]
   rw[AKJ c1.2];simp only[AKJ c1,AKJ c2,AKJ c3];rw[Aj Dr,AL (by omega) (by omega),show((i:Int)+1)=((i+1:Nat):Int)by omega,drop_cons Dr,Pq (w.2.2.2.2.2.2.2.2.2.1[i])];cases t with
   |true=>
    rw[ANa,ih (i+1) true _ (by omega) (by omega) (by grind),AKJ rfl,AKJ rfl,ANs];rfl
   |false=>
    rw[ANE,AKT (show¬(false=true)by simp)];simp only[Yb];by_cases hg:w.2.2.2.2.2.2.2.2.2.1[i].1>s.1
    ·rw[AKJ hg,AKJ hg,ih (i+1) true _ (by omega) (by omega) (by grind),AKJ rfl,ANs,ANs]
     rfl
    ·rw[AKT hg,AKT hg,ih (i+1) false _ (by omega) (by omega) (by grind),AKT (show¬(false=true)by simp),ANs]
     rfl
  ·rw[AKT (by omega),ANY (by omega)]
   cases t with
   |true=>rw[ANa,AKJ rfl,ANm];rfl
   |false=>rw[ANE,AKJ c2];rfl
theorem AV1{ws:List AM}{s:Ac}:∀(n i:Nat),i<=w.2.2.2.2.2.2.2.2.2.1.length->(w.2.2.2.2.2.2.2.2.2.1.length-i)+w.2.2.2.2.2.2.2.2.2.1.length+2<=n->
  Lt n i w.1 w.2.2.1 w.2.2.2.1 w.2.2.2.2.1 ws w.2.2.2.2.2.2.2.1 w.2.2.2.2.2.2.2.2.1 w.2.2.2.2.2.2.2.2.2.1 w.2.1 w.2.2.2.2.2.1 w.2.2.2.2.2.2.2.2.2.2.1 0 0 false [] [] [] [] [] [] [] [] s.1 s.2.1 s.2.2.1=some (AFj (if(w.2.2.2.2.2.2.2.2.2.1.drop i).any (fun x=>x.1==s.1)then(w.BG ws,4)else(((w.BG ws).DF (Yb s w.2.2.2.2.2.2.2.2.2.1)),0))):=by
 have k6:=h.nums.se;intro n
 induction n with
 |zero=>omega
 |succ n ih=>
  intro i hi hn;simp only[Lt,Zo,AB,DW];by_cases Dr:i<w.2.2.2.2.2.2.2.2.2.1.length
  ·have c1:(0:Int)<=(i:Int)/\(i:Int)<(w.2.2.2.2.2.2.2.2.2.1.length:Int):=by omega
   rw[AKJ c1.2,AKJ c1,Aj Dr,AL (by omega) (by omega),show((i:Int)+1)=((i+1:Nat):Int)by omega,drop_cons Dr,ih (i+1) (by omega) (by omega),List.any_cons];by_cases he:w.2.2.2.2.2.2.2.2.2.1[i].1=s.1
   ·rw[AKJ he,show(w.2.2.2.2.2.2.2.2.2.1[i].1==s.1)=true by simp_all,AYb,AKJ rfl]
    rfl
   ·rw[AKT he,show(w.2.2.2.2.2.2.2.2.2.1[i].1==s.1)=false by simp_all,ARx]
  ·have:=AQj h (ws:=ws) (s:=s) n 0 false [] (by omega) (by omega) (by simp)
   grind
theorem qn{d:BR}(hd:d.2.2.2.2.1.length<=40):∃w',Yg w.2.1 w.2.2.2.2.2.1 w.2.2.2.2.2.2.2.2.2.2.1 d w.1 w.2.2.1 w.2.2.2.1 w.2.2.2.2.1 w.2.2.2.2.2.2.1 w.2.2.2.2.2.2.2.1 w.2.2.2.2.2.2.2.2.1 w.2.2.2.2.2.2.2.2.2.1=some (AFj (w',(doAdd w d.2.1 d.2.2.2.2.1).2))/\((doAdd w d.2.1 d.2.2.2.2.1).2=0->w' =(doAdd w d.2.1 d.2.2.2.2.1).1):=by
 have k:=h.nums;have k1:=k.c;have k2:=k.wr;have k3:=k.lost;have k4:=k.st;have ax:=k.a_;have jF:=k.J8;have kf:=k.jE;have k5:=k.era;unfold Yg ZG doAdd;rw[HJ w,S3 (by omega)];simp only[AD,BA,DW];rcases AJ5 (BS d.2.1 0 ((w.AH.length:Int)-1))with h1|h1
 rotate_left
 ·rw[h1];exact⟨w,rfl,fun _=>rfl⟩
 obtain⟨x1,x2,x3⟩:=h.eO h1;simp only[h1,ANa,GI,AKJ x1]
 generalize hx:w.AH.getD d.2.1.toNat B7=x at*
 rw[show(x.1,x.2.1,())=x from rfl,show(w.1,w.2.1,())=AU w from rfl,ju (c:=AU w) (w:=x) (by show w.1.length<=_;omega) (by omega) (by omega)];simp only[AD];rcases AJ5 (CL (AU w) x d.2.2.2.2.1).2.2 with h2|h2
 rotate_left
 ·rw[h2];exact⟨w,rfl,fun _=>rfl⟩
 obtain⟨_,r1,r2,r3⟩:=Wi h2;rw[r2]at r1;have hnn:=r1.n;simp only[API,AN9,AQL]at hnn;have hxe:=x2.ep;rw[h2,ANa,r3,r2];rw[M3 (by omega) (by omega)];simp only[AD,AMy,ARx];by_cases h3:w.2.2.2.2.2.2.2.2.2.1.length=120
 ·rw[AKJ (by omega),show decide (w.BE.length=120)=true from ARS h3,AYb,AKJ rfl];exact⟨w,rfl,fun hh=>by rfl⟩
 have:=AV1 h (ws:=w.AH.set d.2.1.toNat (x.1,x.2.1++[(d.2.2.2.2.1,[],false,())],())) (s:=(EN x.1 ((x.2.1.length:Int)+1),d.2.2.2.2.1,false,())) Ae 0 (by omega) (AVJ (Ah (by have:=h.nums.se;omega)));grind
end
section
variable{w:AA} (h:OG w)
include h
theorem ARe{d:BR}{a:Nat}(ha:d.2.1=(a:Int)):∀(n i:Nat) (b:List AM),i<=w.2.2.2.2.2.2.1.length->w.2.2.2.2.2.2.1.length-i<n->b.length<=i->
  My n i w.1 w.2.2.1 w.2.2.2.1 w.2.2.2.2.1 w.2.2.2.2.2.2.1 w.2.2.2.2.2.2.2.1 w.2.2.2.2.2.2.2.2.1 w.2.2.2.2.2.2.2.2.2.1 w.2.1 w.2.2.2.2.2.1 w.2.2.2.2.2.2.2.2.2.2.1 d.1 d.2.1 d.2.2.1 d.2.2.2.1 d.2.2.2.2.1 0 0 false [] [] [] [] [] [] [] [] b=some (AGS (w.BG (b++(if i<=a then(w.2.2.2.2.2.2.1.drop i).eraseIdx (a-i)else w.2.2.2.2.2.2.1.drop i)),0)):=by
 have k6:=h.nums.wr;intro n
 induction n with
 |zero=>omega
 |succ n ih=>
  intro i b hi hn hb;simp only[My,XW,AB,C7];by_cases Dr:i<w.2.2.2.2.2.2.1.length
  ·have c1:(0:Int)<=(i:Int)/\(i:Int)<(w.2.2.2.2.2.2.1.length:Int):=by omega
   have c2:b.length+1<=D8:=by rw[Bf];omega
   rw[AKJ c1.2];simp only[AKJ c1,AKJ c2];rw[Aj Dr,AL (by omega) (by omega),show((i:Int)+1)=((i+1:Nat):Int)by omega,drop_cons Dr,show(w.2.2.2.2.2.2.1[i].1,w.2.2.2.2.2.2.1[i].2.1,())=w.2.2.2.2.2.2.1[i]from rfl];by_cases he:(i:Int)=d.2.1
   ·rw[AKJ he,ih (i+1) b (by omega) (by omega) (by omega),AKT (by omega),AKJ (by omega),show a-i=0 by omega]
    rfl
   ·rw[AKT he,ih (i+1) _ (by omega) (by omega) (by simp_all),ANs]
    by_cases hl:i+1<=a
    ·rw[AKJ hl,AKJ (by omega),show a-i=(a-(i+1))+1 by omega,List.eraseIdx_cons_succ]
     rfl
    ·rw[AKT hl,AKT (by omega)]
     rfl
  ·rw[AKT (by omega),ANY (by omega)]
   have:(if i<=a then([]:List AM).eraseIdx (a-i)else[])=[]:=by simp_all
   rw[this,ANm];rfl
theorem oV{d:BR}:Wp w.2.1 w.2.2.2.2.2.1 w.2.2.2.2.2.2.2.2.2.2.1 d w.1 w.2.2.1 w.2.2.2.1 w.2.2.2.2.1 w.2.2.2.2.2.2.1 w.2.2.2.2.2.2.2.1 w.2.2.2.2.2.2.2.2.1 w.2.2.2.2.2.2.2.2.2.1=some (AGS (Nb w d.2.1)):=by
 have k:=h.nums;have k1:=k.c;have k2:=k.wr;have k3:=k.lost;have k4:=k.st;have ax:=k.a_;have jF:=k.J8;have kf:=k.jE;have k5:=k.era;unfold Wp Xb Nb;rw[HJ w,S3 (by omega)];simp only[AD,BA];rcases AJ5 (BS d.2.1 0 ((w.AH.length:Int)-1))with h1|h1
 rotate_left
 ·rw[h1];rfl
 have h1':=Ai.1 h1;have:=ARe h (d:=d) (a:=d.2.1.toNat) (by omega) Ae 0 [] (by omega) (Ah (by omega)) (by simp);simp_all
theorem AIA{d:BR}{ss:List AO}{ls:AAC}{ws:List AM}(hls:ls.length<=2^20):∀(n i:Nat),i<=w.2.2.2.2.2.2.2.1.length->w.2.2.2.2.2.2.2.1.length-i<n->
  JR n i w.1 ss w.2.2.2.1 w.2.2.2.2.1 ws ((w.2.2.2.2.2.2.2.1.map fun m=>(CF (AU w) m d.2.1).1).take i++w.2.2.2.2.2.2.2.1.drop i) w.2.2.2.2.2.2.2.2.1 w.2.2.2.2.2.2.2.2.2.1 w.2.1 w.2.2.2.2.2.1 w.2.2.2.2.2.2.2.2.2.2.1 ls d.1 d.2.1 d.2.2.1 d.2.2.2.1 d.2.2.2.2.1 0 0 false [] [] [] [] [] [] [] []=some (vQ (((((w.BJ ss).Em ls).BG ws).Br (w.2.2.2.2.2.2.2.1.map fun m=>(CF (AU w) m d.2.1).1)).FU (w.ER||holds (AU w) ls),0)):=by
 have k:=h.nums;have k1:=k.c;have k6:=k.md;intro n
 induction n with
 |zero=>omega
 |succ n ih=>
  intro i hi hn;simp only[JR,WD,AB,BA];rw[Pm hi];by_cases Dr:i<w.2.2.2.2.2.2.2.1.length
  ·have c1:(0:Int)<=(i:Int)/\(i:Int)<(w.2.2.2.2.2.2.2.1.length:Int):=by omega
   have hm:=(h.Bg _ (ANM Dr)).1;have hmw:=hm.w;rw[AKJ c1.2];simp only[AKJ c1];rw[ANJ,NB Dr,AL (by omega) (by omega),show((i:Int)+1)=((i+1:Nat):Int)by omega,VO (w.2.2.2.2.2.2.2.1[i]),show(w.1,w.2.1,())=AU w from rfl,iB (c:=AU w) (by show w.1.length<=_;omega) (by omega) hm.ein];simp only[AD,jt];rw[show((CF (AU w) w.2.2.2.2.2.2.2.1[i] d.2.1).1.1,(CF (AU w) w.2.2.2.2.2.2.2.1[i] d.2.1).1.2.1,(CF (AU w) w.2.2.2.2.2.2.2.1[i] d.2.1).1.2.2.1,(CF (AU w) w.2.2.2.2.2.2.2.1[i] d.2.1).1.2.2.2.1,(CF (AU w) w.2.2.2.2.2.2.2.1[i] d.2.1).1.2.2.2.2.1,(CF (AU w) w.2.2.2.2.2.2.2.1[i] d.2.1).1.2.2.2.2.2.1,())=(CF (AU w) w.2.2.2.2.2.2.2.1[i] d.2.1).1 from rfl,QV Dr rfl];grind
  ·have:i=w.2.2.2.2.2.2.2.1.length:=by omega
   rw[AKT (by omega),this,AUj,ANm,AUL (by simp),show(w.1,w.2.1,())=AU w from rfl,FF (by show w.1.length<=_;omega) (by omega)];simp only[AD];cases ht:w.2.2.2.2.2.2.2.2.2.2.1 with
   |true=>
    have ht':w.ER=true:=ht;rw[ht'];rfl
   |false=>
    have ht':w.ER=false:=ht;rw[ht'];rfl
theorem ASc{d:BR}{ss:List AO}{ls:AAC}(hls:ls.length<=2^20):∀(n i:Nat),i<=w.2.2.2.2.2.2.1.length->(w.2.2.2.2.2.2.1.length-i)+w.2.2.2.2.2.2.2.1.length+2<=n->
  KU n i w.1 ss w.2.2.2.1 w.2.2.2.2.1 ((w.2.2.2.2.2.2.1.map fun x=>(CJ (AU w) x d.2.1).1).take i++w.2.2.2.2.2.2.1.drop i) w.2.2.2.2.2.2.2.1 w.2.2.2.2.2.2.2.2.1 w.2.2.2.2.2.2.2.2.2.1 w.2.1 w.2.2.2.2.2.1 w.2.2.2.2.2.2.2.2.2.2.1 ls d.1 d.2.1 d.2.2.1 d.2.2.2.1 d.2.2.2.2.1 0 0 false [] [] [] [] [] [] [] []=some (vQ (((((w.BJ ss).Em ls).BG (w.2.2.2.2.2.2.1.map fun x=>(CJ (AU w) x d.2.1).1)).Br (w.2.2.2.2.2.2.2.1.map fun m=>(CF (AU w) m d.2.1).1)).FU (w.ER||holds (AU w) ls),0)):=by
 have k:=h.nums;have k1:=k.c;have k6:=k.wr;intro n
 induction n with
 |zero=>omega
 |succ n ih=>
  intro i hi hn;simp only[KU,XT,AB,BA];rw[Pm hi];by_cases Dr:i<w.2.2.2.2.2.2.1.length
  ·have c1:(0:Int)<=(i:Int)/\(i:Int)<(w.2.2.2.2.2.2.1.length:Int):=by omega
   have hm:=(h.AH _ (ANM Dr)).1;have hmw:=hm.w;rw[AKJ c1.2];simp only[AKJ c1];rw[ANJ,NB Dr,AL (by omega) (by omega),show((i:Int)+1)=((i+1:Nat):Int)by omega,show(w.2.2.2.2.2.2.1[i].1,w.2.2.2.2.2.2.1[i].2.1,())=w.2.2.2.2.2.2.1[i]from rfl,show(w.1,w.2.1,())=AU w from rfl,eY (c:=AU w) (by show w.1.length<=_;omega) (by have:Au w.2.2.2.2.2.2.1[i]=Ag BX w.2.2.2.2.2.2.1[i].2.1:=rfl;omega)];simp only[AD,pkW];rw[show((CJ (AU w) w.2.2.2.2.2.2.1[i] d.2.1).1.1,(CJ (AU w) w.2.2.2.2.2.2.1[i] d.2.1).1.2.1,())=(CJ (AU w) w.2.2.2.2.2.2.1[i] d.2.1).1 from rfl,QV Dr rfl];grind
  ·have:i=w.2.2.2.2.2.2.1.length:=by omega
   have k11:=AIA h (d:=d) (ss:=ss) (ws:=w.2.2.2.2.2.2.1.map fun x=>(CJ (AU w) x d.2.1).1) hls n 0 (by omega) (by omega);rw[show((0:Nat):Int)=0 from rfl,AUE,AYo,ATu]at k11;rw[AKT (by omega),this,AUj,ANm,AUL (by simp),k11]
theorem oO{d:BR}:WX w.2.1 w.2.2.2.2.2.1 w.2.2.2.2.2.2.2.2.2.2.1 d w.1 w.2.2.1 w.2.2.2.1 w.2.2.2.2.1 w.2.2.2.2.2.2.1 w.2.2.2.2.2.2.2.1 w.2.2.2.2.2.2.2.2.1 w.2.2.2.2.2.2.2.2.2.1=some (vQ (Mt w d.2.1)):=by
 have k:=h.nums;have k1:=k.c;have k2:=k.wr;have k3:=k.lost;have k4:=k.st;have ax:=k.a_;have jF:=k.J8;have kf:=k.jE;have k5:=k.era;have k6:=k.md;unfold WX YK Mt;rw[HJ w,Ia (by omega) (by omega)];simp only[AD,C7];by_cases h3:Ak w d.2.1=0
 rotate_left
 ·rw[AKT h3,AKJ h3];rfl
 obtain⟨hr,s1,s2,s3⟩:=h.L7 h3;rw[AKJ h3,AKT (show¬(Ak w d.2.1≠0)from fun hh=>hh h3),AKJ hr,NU (by omega)];simp only[AD];have hp:=VK (n:=d.2.1) (l:=w.2.2.2.1);have:=ASc h (d:=d) (ss:=w.2.2.1.set d.2.1.toNat ([],[],0,())) (ls:=Jx d.2.1 w.2.2.2.1) (by omega) Ae 0 (by omega) (AVJ (Ah (by omega)));simp_all
end
theorem eqE{x e:AJ}:(x.1==e.1&&(x.2.1==e.2.1&&(x.2.2.1==e.2.2.1&&(x.2.2.2.1==e.2.2.2.1&&true))))=decide (x=e):=by
 grind
theorem dG{m:Av}{o:Int}{l:List AAC}(hl:l.length=m.2.2.2.2.2.1.length):Dp (m.1,m.2.1,m.2.2.1,m.2.2.2.1,m.2.2.2.2.1,l,()) o=Dp m o:=by
 grind[Dp]
section
variable{w:AA} (h:OG w) {st:AO} (hs:gd st) {n:Int} (hn:0<=n/\n<(AU w).1.length) {SS:List AO}
include h hs hn
theorem AMU{ws:List AM}{se:List Ac}{ms:List Av}{j B:Nat}{m:Av}{R:Option B8}(hj:j<ms.length)(rz:ms.length<=2^20)(hlen:(ms.getD j Rb).2.2.2.2.2.1.length=m.2.2.2.2.2.1.length)(hm:qS (AU w) m)
  (hc:(Aq w.Af m.2.1).contains n=true)
  (cont:∀f,B<=f->Bq f n ((j+1:Nat):Int) w.1 SS w.2.2.2.1 w.2.2.2.2.1 ws (ms.set j (m.1,m.2.1,m.2.2.1,m.2.2.2.1,m.2.2.2.2.1,EF m st n 1 m.2.2.2.2.2.1,())) w.2.2.2.2.2.2.2.2.1 se w.2.1 w.2.2.2.2.2.1 w.2.2.2.2.2.2.2.2.2.2.1 0 0 false [] [] [] [] [] [] [] [] st.1 st.2.1 st.2.2.1=R):
  ∀(rest dn:List AAC) (f:Nat),dn.length+rest.length=m.2.2.2.2.2.1.length->(∀l∈dn++rest,Ay (AU w) l=true)->rest.length+B+1<=f->
   dn++EF m st n ((dn.length:Int)+1) rest=EF m st n 1 m.2.2.2.2.2.1->
   Bj f n (j:Int) ((dn.length:Int)+1) w.1 SS w.2.2.2.1 w.2.2.2.2.1 ws ms w.2.2.2.2.2.2.2.2.1 se w.2.1 w.2.2.2.2.2.1 w.2.2.2.2.2.2.2.2.2.2.1 0 0 false [] [] [] [] [] [] [] [] st.1 st.2.1 st.2.2.1 m.1 m.2.1 m.2.2.1 m.2.2.2.1 m.2.2.2.2.1 (dn++rest)=R:=by
 have k:=h.nums;have k1:=k.c;have k5:=k.era;have c1:(0:Int)<=(j:Int)/\(j:Int)<(ms.length:Int):=by omega
 have Ur:(Aq w.Af m.2.1).length<=8:=Gr h;have wq:m.2.2.2.2.2.1.length<=60:=by
  have:=hm.n;have hb:=G1 (l:=m.2.2.2.1);omega
 intro rest
 induction rest with
 |nil=>
  intro dn f hl ho hf he;obtain⟨f,rfl⟩:∃f',f=f'+1:=⟨f-1,by omega⟩;simp only[AQL,AUr,AUX,EF,ANm]at hl hf he;simp only[Bj,Ic,AB,ANm];simp only[AKJ c1];rw[show ms.getD ((j:Int)).toNat (0,0,[],[],false,[],())=ms.getD j Rb from rfl,hlen,AKT (by omega),AL (by omega) (by omega),show((j:Int)+1)=((j+1:Nat):Int)by omega,he,ANJ];simp_all
 |cons x rest ih=>
  intro dn f hl ho hf he;obtain⟨f,rfl⟩:∃f',f=f'+1:=⟨f-1,by omega⟩;simp only[AN9]at hl hf;simp only[Bj,Ic,AB];simp only[AKJ c1];have aC:qS (AU w) (m.1,m.2.1,m.2.2.1,m.2.2.2.1,m.2.2.2.2.1,dn++x::rest,()):=⟨hm.cfg,hm.ep,hm.b,hm.gY,hm.ft,hm.seen,ho,by
   have:=hm.n;simp_all⟩
  have hmw:=aC.w;rw[show ms.getD ((j:Int)).toNat (0,0,[],[],false,[],())=ms.getD j Rb from rfl,hlen,AKJ (by omega),show(w.2.2.2.2.1,w.2.2.2.2.2.1,())=CA w from rfl,FQ (r:=CA w) (by show Ag CG w.2.2.2.2.1<=_;omega)];rw[show(CA w).1=w.Af from rfl];simp only[AD];rw[Kl (by omega),hc];simp only[AD,ANa];have hdl:(dn++x::rest).length=m.2.2.2.2.2.1.length:=by simp_all
  rw[Zc (m:=(m.1,m.2.1,m.2.2.1,m.2.2.2.1,m.2.2.2.2.1,dn++x::rest,())) (by omega),dG hdl];simp only[AD];have AZr:m.2.2.2.2.1=true:=by
   have:=hm.n;grind
  have AXF:∃e,Dp m ((dn.length:Int)+1)=some e:=by
   unfold Dp;rw[AZr,AKJ (by
    simp only[ANP,ALz,Ai,ANK];have:=hm.ep;omega)]
   split<;>exact⟨_,rfl⟩
  obtain⟨e,hee⟩:=AXF;have gO:=hs.w;rw[hee];simp only[AUP];rw[UU (GF (by omega)).1];simp only[AD,eqE,AB];rw[AL (by omega) (by omega)];simp only[EF]at he;have TH:N_ m st ((dn.length:Int)+1)=(Ew e.1 st.1==some e):=by
   unfold N_;rw[hee]
  cases hg:Ew e.1 st.1 with
  |none=>
   simp only[AUR,ANE];rw[TH,hg]at he;have:=ih (dn++[x]) f (by grind) (by simp_all) (by omega) (by
    simp_all)
   simp_all
  |some y=>
   simp only[AUS,ANa,AUP];by_cases hye:y=e
   ·rw[AKJ hye]
    rw[TH,hg,hye]at he;rw[show(w.1,w.2.1,())=AU w from rfl,oH (c:=AU w) (m:=(m.1,m.2.1,m.2.2.1,m.2.2.2.1,m.2.2.2.2.1,dn++x::rest,())) (by show w.1.length<=_;omega) (by omega) aC.ein];have AGX:Yt (AU w) (m.1,m.2.1,m.2.2.1,m.2.2.2.1,m.2.2.2.2.1,dn++x::rest,()) ((dn.length:Int)+1) n=((m.1,m.2.1,m.2.2.1,m.2.2.2.1,m.2.2.2.2.1,dn++Jx n x::rest,()),true):=by
     unfold Yt;rw[Hi.2 aC];have hq:(BS ((dn.length:Int)+1) 1 ((dn++x::rest).length:Int)&&BS n 0 (((AU w).1.length:Int)-1))=true:=by
      rw[ALz,Ai,Ai];omega
     grind
    rw[AGX];simp only[AD,jt];have hx:=ho x (by simp);have:=ih (dn++[Jx n x]) f (by grind) (by
     intro l jJ;simp only[ANs,AUg,AOO,AOD]at jJ;rcases jJ with jJ|rfl|jJ
     all_goals grind[I1]) (by omega) (by
     simp_all)
    simp_all
   ·rw[AKT hye]
    have hf2:(some y==some e)=false:=by
     simp_all
    rw[TH,hg,hf2]at he;have:=ih (dn++[x]) f (by grind) (by simp_all) (by omega) (by
     simp_all)
    simp_all
theorem AMb{ws:List AM}{se:List Ac}:∀(k i:Nat),w.2.2.2.2.2.2.2.1.length-i=k->i<=w.2.2.2.2.2.2.2.1.length-> ∀f,k*100+1<=f->
  Bq f n (i:Int) w.1 SS w.2.2.2.1 w.2.2.2.2.1 ws ((w.2.2.2.2.2.2.2.1.map (HQ st w.Af n)).take i++w.2.2.2.2.2.2.2.1.drop i) w.2.2.2.2.2.2.2.2.1 se w.2.1 w.2.2.2.2.2.1 w.2.2.2.2.2.2.2.2.2.2.1 0 0 false [] [] [] [] [] [] [] [] st.1 st.2.1 st.2.2.1=(some ((((),w.2.1,(),(),(),w.2.2.2.2.2.1,(),(),(),(),w.2.2.2.2.2.2.2.2.2.2.1,()),()),(w.1,SS,w.2.2.2.1,w.2.2.2.2.1,ws,(w.2.2.2.2.2.2.2.1.map (HQ st w.Af n)),w.2.2.2.2.2.2.2.2.1,se,())):Option B8):=by
 have k:=h.nums;have k5:=k.era;have k6:=k.md;intro k
 induction k with
 |zero=>
  intro i hk hi f hf;obtain⟨f,rfl⟩:∃f',f=f'+1:=⟨f-1,by omega⟩;have:i=w.2.2.2.2.2.2.2.1.length:=by omega
  simp only[Bq,LK,AB];grind
 |succ k ih=>
  intro i hk hi f hf;obtain⟨f,rfl⟩:∃f',f=f'+1:=⟨f-1,by omega⟩;have Dr:i<w.2.2.2.2.2.2.2.1.length:=by omega
  have c1:(0:Int)<=(i:Int)/\(i:Int)<(w.2.2.2.2.2.2.2.1.length:Int):=by omega
  simp only[Bq,LK,AB];rw[Pm hi,AKJ c1.2,AKJ c1,ANJ,NB Dr];have hm:=(h.Bg _ (ANM Dr)).1;have wq:w.2.2.2.2.2.2.2.1[i].2.2.2.2.2.1.length<=60:=by
   have:=hm.n;have hb:=G1 (l:=w.2.2.2.2.2.2.2.1[i].2.2.2.1);omega
  rcases AJ5 ((Aq w.Af w.2.2.2.2.2.2.2.1[i].2.1).contains n)with hc|hc
  ·have hT:HQ st w.Af n w.2.2.2.2.2.2.2.1[i]=(w.2.2.2.2.2.2.2.1[i].1,w.2.2.2.2.2.2.2.1[i].2.1,w.2.2.2.2.2.2.2.1[i].2.2.1,w.2.2.2.2.2.2.2.1[i].2.2.2.1,w.2.2.2.2.2.2.2.1[i].2.2.2.2.1,EF w.2.2.2.2.2.2.2.1[i] st n 1 w.2.2.2.2.2.2.2.1[i].2.2.2.2.2.1,()):=by
    unfold HQ;simp_all
   have:=AMU h hs hn (SS:=SS) (ws:=ws) (se:=se) (ms:=(w.2.2.2.2.2.2.2.1.map (HQ st w.Af n)).take i++w.2.2.2.2.2.2.2.1.drop i) (j:=i) (B:=k*100+1) (m:=w.2.2.2.2.2.2.2.1[i]) (R:=(some ((((),w.2.1,(),(),(),w.2.2.2.2.2.1,(),(),(),(),w.2.2.2.2.2.2.2.2.2.2.1,()),()),(w.1,SS,w.2.2.2.1,w.2.2.2.2.1,ws,(w.2.2.2.2.2.2.2.1.map (HQ st w.Af n)),w.2.2.2.2.2.2.2.2.1,se,())):Option B8)) (by simp_all) (by grind) (by simp_all) hm hc (fun f hf=>by
    grind[QV]) w.2.2.2.2.2.2.2.1[i].2.2.2.2.2.1 [] f (by simp) (by simpa using hm.wrote) (by omega) (by simp)
   simp_all
  ·have hT:HQ st w.Af n w.2.2.2.2.2.2.2.1[i]=w.2.2.2.2.2.2.2.1[i]:=by
    unfold HQ;simp_all
   obtain⟨f,rfl⟩:∃f',f=f'+1:=⟨f-1,by omega⟩;simp only[Bj,Ic,AB];have Ur:(Aq w.Af w.2.2.2.2.2.2.2.1[i].2.1).length<=8:=Gr h;rw[Pm hi];simp only[AKJ c1];rw[ANJ,NB Dr,show(w.2.2.2.2.1,w.2.2.2.2.2.1,())=CA w from rfl,FQ (r:=CA w) (by show Ag CG w.2.2.2.2.1<=_;omega)];rw[show(CA w).1=w.Af from rfl];simp only[AD];rw[Kl (by omega),hc,QV Dr (show(w.2.2.2.2.2.2.2.1[i].1,w.2.2.2.2.2.2.2.1[i].2.1,w.2.2.2.2.2.2.2.1[i].2.2.1,w.2.2.2.2.2.2.2.1[i].2.2.2.1,w.2.2.2.2.2.2.2.1[i].2.2.2.2.1,w.2.2.2.2.2.2.2.1[i].2.2.2.2.2.1,())=HQ st w.Af n w.2.2.2.2.2.2.2.1[i]from hT.symm),AL (x:=(i:Int)+1) (by omega) (by omega),show((i:Int)+1)=((i+1:Nat):Int)by omega,ih (i+1) (by omega) (by omega) f (by omega)];simp_all
end
theorem kj{x y:BI}(hx:x.2.2.1=false):∀{dn rest:List BI},RX (dn++y::rest)<=RX (dn++x::rest)
 |[],rest=>by
  grind[RX]
 |a::dn,rest=>by
  have:=kj (y:=y) hx (dn:=dn) (rest:=rest);grind[RX]
section
variable{w:AA} (h:OG w) {st:AO} (hs:gd st) {n:Int} (hn:0<=n/\n<(AU w).1.length) {SS:List AO}
include h hs hn
theorem AKZ{ws:List AM}{se:List Ac}{j B:Nat}{ep x y:Int}{z:Bool}{old new:List BI}{R:Option B8}(hj:j<2^20)(aS:se.length<=120)(hsp:∀s∈se,BZ s.1=true)(y6:new.length<=60)(hep:1<=ep/\ep<=30)
  (cont:∀f,B<=f->Bm f n ((j+1:Nat):Int) w.1 SS w.2.2.2.1 w.2.2.2.2.1 ws w.2.2.2.2.2.2.2.1 w.2.2.2.2.2.2.2.2.1 (se.map (PE true ep old new)) w.2.1 w.2.2.2.2.2.1 w.2.2.2.2.2.2.2.2.2.2.1 0 0 false [] [] [] [] [] [] [] [] st.1 st.2.1 st.2.2.1=R):
  ∀(k i:Nat),se.length-i=k->i<=se.length-> ∀f,k+B+1<=f->
   BO f n (j:Int) (i:Int) x y z w.1 SS w.2.2.2.1 w.2.2.2.2.1 ws w.2.2.2.2.2.2.2.1 w.2.2.2.2.2.2.2.2.1 ((se.map (PE true ep old new)).take i++se.drop i) w.2.1 w.2.2.2.2.2.1 w.2.2.2.2.2.2.2.2.2.2.1 0 0 false [] [] [] [] [] [] [] [] st.1 st.2.1 st.2.2.1 ep new=R:=by
 intro k
 induction k with
 |zero=>
  intro i hk hi f hf;obtain⟨f,rfl⟩:∃f',f=f'+1:=⟨f-1,by omega⟩;have:i=se.length:=by omega
  simp only[BO,LB,AB];rw[Pm hi,AKT (by omega),this,AUj,ANm,AUL (by simp),AL (by omega) (by omega),show((j:Int)+1)=((j+1:Nat):Int)by omega];simp_all
 |succ k ih=>
  intro i hk hi f hf;obtain⟨f,rfl⟩:∃f',f=f'+1:=⟨f-1,by omega⟩;have Dr:i<se.length:=by omega
  have c1:(0:Int)<=(i:Int)/\(i:Int)<(se.length:Int):=by omega
  have hp:=hsp _ (ANM Dr);have hpf:=CM hp;have ih':=ih (i+1) (by omega) (by omega) f (by omega);simp only[BO,LB,AB,DW];rw[Pm hi,AKJ c1.2];simp only[AKJ c1];rw[ANJ,NB Dr,FG (Jv hp),aO (Jv hp),AL (x:=(i:Int)+1) (by omega) (by omega),show((i:Int)+1)=((i+1:Nat):Int)by omega];simp only[AD];have skip:PE true ep old new se[i]=se[i]->BO f n (j:Int) ((i+1:Nat):Int) x y z w.1 SS w.2.2.2.1 w.2.2.2.2.1 ws w.2.2.2.2.2.2.2.1 w.2.2.2.2.2.2.2.2.1 ((se.map (PE true ep old new)).take i++se.drop i) w.2.1 w.2.2.2.2.2.1 w.2.2.2.2.2.2.2.2.2.2.1 0 0 false [] [] [] [] [] [] [] [] st.1 st.2.1 st.2.2.1 ep new=R:=fun hm=>by
   grind[jQ]
  by_cases he:AN se[i].1=ep
  rotate_left
  ·rw[AKT he]
   grind[PE,AN,beq_eq_false_iff_ne]
  rw[AKJ he];by_cases ho:BD se[i].1<=(new.length:Int)
  rotate_left
  ·rw[AKT ho]
   refine skip ?_
   unfold PE Qz;rw[show BS (BD se[i].1) 1 (new.length:Int)=false by
    rw[AUZ];grind[Ai]]
   simp
  rw[AKJ ho,AL (x:=BD se[i].1-1) (by omega) (by omega),AKJ (by omega)];have hd:Qz new (BD se[i].1)=(new.getD (BD se[i].1-1).toNat LP).2.2.1:=by
   unfold Qz;rw[Ai.2 ⟨hpf.2.1.1,ho⟩,ANP]
  have y8:(new.getD (BD se[i].1-1).toNat ([],[],false,())).2.2.1=Qz new (BD se[i].1):=hd.symm;rw[y8];cases hdd:Qz new (BD se[i].1)with
  |false=>
   rw[ANE];grind[PE]
  |true=>
   rw[ANa,QV Dr (show(se[i].1,se[i].2.1,true,())=PE true ep old new se[i]by
    grind[PE])]
   omega
theorem ATJ{ws:List AM}{se:List Ac}{j B:Nat}{ep x y:Int}{z:Bool}{l0:List BI}{R:Option B8}(hj:j<ws.length)(rz:ws.length<=2^20)
  (cont:∀f,B<=f->BO f n (j:Int) 0 x y z w.1 SS w.2.2.2.1 w.2.2.2.2.1 (ws.set j (ep,BL (AU w) st ep n 1 l0,())) w.2.2.2.2.2.2.2.1 w.2.2.2.2.2.2.2.2.1 se w.2.1 w.2.2.2.2.2.1 w.2.2.2.2.2.2.2.2.2.2.1 0 0 false [] [] [] [] [] [] [] [] st.1 st.2.1 st.2.2.1 ep (BL (AU w) st ep n 1 l0)=R):
  ∀(rest dn:List BI) (f:Nat),cF (AU w) (ep,dn++rest,())->rest.length+B+1<=f->
   dn++BL (AU w) st ep n ((dn.length:Int)+1) rest=BL (AU w) st ep n 1 l0->
   BN f n (j:Int) ((dn.length:Int)+1) x y z w.1 SS w.2.2.2.1 w.2.2.2.2.1 ws w.2.2.2.2.2.2.2.1 w.2.2.2.2.2.2.2.2.1 se w.2.1 w.2.2.2.2.2.1 w.2.2.2.2.2.2.2.2.2.2.1 0 0 false [] [] [] [] [] [] [] [] st.1 st.2.1 st.2.2.1 ep (dn++rest)=R:=by
 have k1:=h.nums.c;have gO:=hs.w;intro rest
 induction rest with
 |nil=>
  intro dn f hw hf he;obtain⟨f,rfl⟩:∃f',f=f'+1:=⟨f-1,by omega⟩;simp only[AQL,AUX,BL,ANm]at hf he;simp only[BN,MM,AB,ANm];grind
 |cons a rest ih=>
  intro dn f hw hf he;obtain⟨f,rfl⟩:∃f',f=f'+1:=⟨f-1,by omega⟩;simp only[AN9]at hf;have hwe:1<=ep/\ep<=30:=hw.ep;have hwn:(dn++a::rest).length<=60:=hw.n;have hww:=hw.w;have hwl:=hwn;simp only[API,AN9]at hwl;simp only[BN,MM,AB,BA,C7];rw[AKJ (by grind),M3 (by omega) (by omega)];simp only[AD];rw[UU (GF (by omega)).1];simp only[AD];rw[AL (x:=(dn.length:Int)+1+1) (by omega) (by omega),AL (x:=(dn.length:Int)+1-1) (by omega) (by omega),AKJ (show(0:Int)<=(dn.length:Int)+1-1/\(dn.length:Int)+1-1<((dn++a::rest).length:Int)by grind)];have e1:((dn.length:Int)+1-1).toNat=dn.length:=by omega
  have e2:(dn++a::rest).getD dn.length ([],[],false,())=a:=by simp[List.getD]
  rw[e1,e2];simp only[BL]at he;have go:∀b:BI,cF (AU w) (ep,dn++b::rest,())->(if(!a.2.2.1&&Jy st (EN ep ((dn.length:Int)+1)))=true then El (AU w) n a else a)=b->
    BN f n (j:Int) ((dn.length:Int)+1+1) x y z w.1 SS w.2.2.2.1 w.2.2.2.2.1 ws w.2.2.2.2.2.2.2.1 w.2.2.2.2.2.2.2.2.1 se w.2.1 w.2.2.2.2.2.1 w.2.2.2.2.2.2.2.2.2.2.1 0 0 false [] [] [] [] [] [] [] [] st.1 st.2.1 st.2.2.1 ep (dn++b::rest)=R:=fun b hb sF=>by
   rw[sF]at he;have:=ih (dn++[b]) f (by simp_all) (by omega) (by
    simp_all)
   simp_all
  cases hg:Ew (EN ep ((dn.length:Int)+1)) st.1 with
  |none=>
   simp only[AUR,ANE];grind[Jy]
  |some e=>
   simp only[AUS,ANa,AUP];by_cases he0:e.2.1=0
   rotate_left
   ·rw[AKT he0]
    grind[Jy]
   rw[AKJ he0];cases had:a.2.2.1 with
   |true=>
    grind
   |false=>
    rw[ANE];have ha:=hw.words a (by simp);have hb:cF (AU w) (ep,dn++El (AU w) n a::rest,()):=⟨hw.cfg,hw.ep,by simp_all,fun b hb=>by
     simp only[AOO,AOD]at hb;rcases hb with hb|rfl|hb
     ·exact hw.words b (by simp[hb])
     ·exact⟨ha.1,I1 ha.2.1 hn,rfl⟩
     ·exact hw.words b (by simp[hb]),ARi (kj had) hw.opn⟩
    rw[show(w.1,w.2.1,())=AU w from rfl,kY (c:=AU w) (w:=(ep,dn++a::rest,())) (by show w.1.length<=_;omega) (by have:Au (ep,dn++a::rest,())=Ag BX (dn++a::rest):=rfl;grind)];have AGX:Rj (AU w) (ep,dn++a::rest,()) ((dn.length:Int)+1) n=((ep,dn++El (AU w) n a::rest,()),true):=by
     unfold Rj;rw[Il.2 hw];simp only[AMy,AL4,AOK];rw[e1,show(dn++a::rest).getD dn.length LP=a from e2,had];rw[AKJ (by
      rw[ALz,ALz,Ai,Ai];grind)]
     simp_all
    grind[AD,pkW,Jy]
theorem APM:∀(rest pre:List AM) (se:List Ac) (f:Nat),(pre++rest).length<=4->(∀x∈rest,cF (AU w) x)->se.length<=120->(∀s∈se,BZ s.1=true)->rest.length*300+w.2.2.2.2.2.2.2.1.length*100+2<=f->
  Bm f n (pre.length:Int) w.1 SS w.2.2.2.1 w.2.2.2.2.1 (pre++rest) w.2.2.2.2.2.2.2.1 w.2.2.2.2.2.2.2.2.1 se w.2.1 w.2.2.2.2.2.1 w.2.2.2.2.2.2.2.2.2.2.1 0 0 false [] [] [] [] [] [] [] [] st.1 st.2.1 st.2.2.1=(some ((((),w.2.1,(),(),(),w.2.2.2.2.2.1,(),(),(),(),w.2.2.2.2.2.2.2.2.2.2.1,()),()),(w.1,SS,w.2.2.2.1,w.2.2.2.2.1,(pre++(FW true (AU w) st w.Af n rest se).1),(w.2.2.2.2.2.2.2.1.map (HQ st w.Af n)),w.2.2.2.2.2.2.2.2.1,(FW true (AU w) st w.Af n rest se).2,())):Option B8):=by
 have k5:=h.nums.era;intro rest
 induction rest with
 |nil=>
  intro pre se f hl hw aS hsp hf;obtain⟨f,rfl⟩:∃f',f=f'+1:=⟨f-1,by omega⟩;simp only[Bm,Mk,AB];have:=AMb h hs hn (SS:=SS) (ws:=pre) (se:=se) w.2.2.2.2.2.2.2.1.length 0 (by omega) (by omega) f (by omega);rw[show((0:Nat):Int)=0 from rfl,AUE,AYo,ATu]at this;rw[ANm,AKT (by omega),this];simp only[FW,ANm]
 |cons a rest ih=>
  intro pre se f hl hw aS hsp hf;simp only[API,AN9]at hl hf;obtain⟨f,rfl⟩:∃f',f=f'+1:=⟨f-1,by omega⟩;simp only[Bm,Mk,AB,BA];have mY:(pre++a::rest).length=pre.length+(rest.length+1):=by simp
  have c1:(0:Int)<=(pre.length:Int)/\(pre.length:Int)<((pre++a::rest).length:Int):=by omega
  have e2:(pre++a::rest).getD pre.length (0,[],())=a:=by simp[List.getD]
  have Ur:(Aq w.Af a.1).length<=8:=Gr h;rw[AKJ c1.2,AKJ c1,ANJ,e2,show(w.2.2.2.2.1,w.2.2.2.2.2.1,())=CA w from rfl,FQ (r:=CA w) (by show Ag CG w.2.2.2.2.1<=_;omega)];rw[show(CA w).1=w.Af from rfl];simp only[AD];rw[Kl (by omega),AL (by omega) (by omega),show((pre.length:Int)+1)=((pre.length+1:Nat):Int)by omega];simp only[AD];have ha:=hw a (by simp);have hae:=ha.ep;have han:=ha.n;have next:∀(b:AM) (pA:List Ac) (f:Nat),pA.length<=120->(∀s∈pA,BZ s.1=true)->rest.length*300+w.2.2.2.2.2.2.2.1.length*100+2<=f->
    Bm f n ((pre.length+1:Nat):Int) w.1 SS w.2.2.2.1 w.2.2.2.2.1 (pre++b::rest) w.2.2.2.2.2.2.2.1 w.2.2.2.2.2.2.2.2.1 pA w.2.1 w.2.2.2.2.2.1 w.2.2.2.2.2.2.2.2.2.2.1 0 0 false [] [] [] [] [] [] [] [] st.1 st.2.1 st.2.2.1=(some ((((),w.2.1,(),(),(),w.2.2.2.2.2.1,(),(),(),(),w.2.2.2.2.2.2.2.2.2.2.1,()),()),(w.1,SS,w.2.2.2.1,w.2.2.2.2.1,(pre++b::(FW true (AU w) st w.Af n rest pA).1),(w.2.2.2.2.2.2.2.1.map (HQ st w.Af n)),w.2.2.2.2.2.2.2.2.1,(FW true (AU w) st w.Af n rest pA).2,())):Option B8):=fun b pA f h1 h2 h3=>by
   have:=ih (pre++[b]) pA f (by simp only[API,AN9,AQL];omega) (fun x hx=>hw x (by simp[hx])) h1 h2 h3;simp only[API,AN9,AQL,ANs,AUg]at this;exact this
  simp only[FW];rcases AJ5 (L9 st w.Af n a)with ht|ht
  rotate_left
  ·rw[ht]
   simp only[AL4,AOK];unfold L9 at ht;rcases AJ5 ((Aq w.Af a.1).contains n)with hc|hc
   ·rw[hc,ANP,AUi]at ht
    rw[hc,ANa,AKJ (by omega)];exact next a se f aS hsp (by omega)
   ·rw[hc,ANE]
    exact next a se f aS hsp (by omega)
  ·rw[ht]
   simp only[ATt];unfold L9 at ht;rw[ALz,ANK]at ht;rw[ht.1,ANa,AKT (by omega)];have htl:=(cG (s:=st) (ep:=a.1) hn (o:=1) ha.words).2.2;have hsm:∀s∈se.map (PE true a.1 a.2.1 (BL (AU w) st a.1 n 1 a.2.1)),BZ s.1=true:=fun s xh=>by
    obtain⟨s',h1,rfl⟩:=AUV.1 xh;exact hsp s' h1
   have:=ATJ h hs hn (SS:=SS) (ws:=pre++a::rest) (se:=se) (j:=pre.length) (B:=rest.length*300+w.2.2.2.2.2.2.2.1.length*100+2+130) (ep:=a.1) (x:=st.2.2.1) (y:=a.1) (z:=decide (st.2.2.1>=a.1)) (l0:=a.2.1) (R:=(some ((((),w.2.1,(),(),(),w.2.2.2.2.2.1,(),(),(),(),w.2.2.2.2.2.2.2.2.2.2.1,()),()),(w.1,SS,w.2.2.2.1,w.2.2.2.2.1,(pre++(a.1,BL (AU w) st a.1 n 1 a.2.1,())::(FW true (AU w) st w.Af n rest (se.map (PE true a.1 a.2.1 (BL (AU w) st a.1 n 1 a.2.1)))).1),(w.2.2.2.2.2.2.2.1.map (HQ st w.Af n)),w.2.2.2.2.2.2.2.2.1,(FW true (AU w) st w.Af n rest (se.map (PE true a.1 a.2.1 (BL (AU w) st a.1 n 1 a.2.1)))).2,())):Option B8)) (by omega) (by omega) (fun f hf=>by
    have:=AKZ h hs hn (SS:=SS) (ws:=(pre++a::rest).set pre.length (a.1,BL (AU w) st a.1 n 1 a.2.1,())) (se:=se) (j:=pre.length) (B:=rest.length*300+w.2.2.2.2.2.2.2.1.length*100+2) (ep:=a.1) (x:=st.2.2.1) (y:=a.1) (z:=decide (st.2.2.1>=a.1)) (old:=a.2.1) (new:=BL (AU w) st a.1 n 1 a.2.1) (R:=(some ((((),w.2.1,(),(),(),w.2.2.2.2.2.1,(),(),(),(),w.2.2.2.2.2.2.2.2.2.2.1,()),()),(w.1,SS,w.2.2.2.1,w.2.2.2.2.1,(pre++(a.1,BL (AU w) st a.1 n 1 a.2.1,())::(FW true (AU w) st w.Af n rest (se.map (PE true a.1 a.2.1 (BL (AU w) st a.1 n 1 a.2.1)))).1),(w.2.2.2.2.2.2.2.1.map (HQ st w.Af n)),w.2.2.2.2.2.2.2.2.1,(FW true (AU w) st w.Af n rest (se.map (PE true a.1 a.2.1 (BL (AU w) st a.1 n 1 a.2.1)))).2,())):Option B8)) (by omega) aS hsp (by omega) hae (fun f hf=>by
     rw[AYa _ _ (by omega),AYk,AX2];exact next _ _ f (by simpa using aS) hsm hf) se.length 0 (by omega) (by omega) f (by omega)
    rw[show((0:Nat):Int)=0 from rfl,AUE,AYo,ATu]at this;exact this) a.2.1 [] f (by simpa using ha) (by omega) (by simp)
   simp only[AQL,ATu]at this;exact this
end
section
variable{w:AA} (h:OG w)
include h
theorem oh{d:BR}:Wt w.2.1 w.2.2.2.2.2.1 w.2.2.2.2.2.2.2.2.2.2.1 d w.1 w.2.2.1 w.2.2.2.1 w.2.2.2.2.1 w.2.2.2.2.2.2.1 w.2.2.2.2.2.2.2.1 w.2.2.2.2.2.2.2.2.1 w.2.2.2.2.2.2.2.2.2.1=some (pkD (KC true w d.2.1)):=by
 have k:=h.nums;have k1:=k.c;have k2:=k.wr;have k3:=k.lost;have k4:=k.st;have ax:=k.a_;have jF:=k.J8;have kf:=k.jE;have k6:=k.md;unfold Wt KC;rw[HJ w,Ia (by omega) (by omega)];simp only[AD,C7,BA];by_cases h3:Ak w d.2.1=0
 rotate_left
 ·rw[AKT h3,AKJ h3];rfl
 obtain⟨hr,s1,s2,s3⟩:=h.L7 h3;have aS:w.2.2.1.getD d.2.1.toNat ([],[],0,())=storeAt w d.2.1:=rfl;rw[AKJ h3,AKT (show¬(Ak w d.2.1≠0)from fun hh=>hh h3)];simp only[AKJ hr,aS];rw[show((storeAt w d.2.1).1,(storeAt w d.2.1).2.1,(storeAt w d.2.1).2.2.1,())=storeAt w d.2.1 from rfl,Zp s1 s2];simp only[AD,nK];rcases AJ5 (Co (storeAt w d.2.1)).2 with h6|h6
 rotate_left
 ·rw[h6];rfl
 have hq:=(K8 h6).2.1;have hnn:=(h.node h3).1;rw[h6,ANa,GI];have K9:d.2.1.toNat<w.2.2.1.length:=by omega
 unfold WZ Q9;rw[AUz,AKJ hr,NM K9];have:=APM h (st:=(Co (storeAt w d.2.1)).1) hq hnn (SS:=w.2.2.1.set d.2.1.toNat (Co (storeAt w d.2.1)).1) w.2.2.2.2.2.2.1 [] w.2.2.2.2.2.2.2.2.2.1 Ae (by simp_all) (fun x hx=>(h.AH x hx).1) k.se (fun s hs=>(h.BE s hs).1) (AVJ (Ah (by omega)));simp only[AQL,ATu]at this;rw[show((0:Nat):Int)=0 from rfl]at this;rw[show((Co (storeAt w d.2.1)).1.1,(Co (storeAt w d.2.1)).1.2.1,(Co (storeAt w d.2.1)).1.2.2.1,())=(Co (storeAt w d.2.1)).1 from rfl,this];rfl
end
section
variable{w:AA} (h:OG w)
include h
theorem tD{d:BR}(h64:DR d.2.1)(hd:d.2.2.2.2.1.length<=40)(hk:1<=d.1/\d.1<=16):∃w',bw w.2.1 w.2.2.2.2.2.1 w.2.2.2.2.2.2.2.2.2.2.1 d w.1 w.2.2.1 w.2.2.2.1 w.2.2.2.2.1 w.2.2.2.2.2.2.1 w.2.2.2.2.2.2.2.1 w.2.2.2.2.2.2.2.2.1 w.2.2.2.2.2.2.2.2.2.1=some (AQh (w',(LQ true w d).2))/\((LQ true w d).2=0->w' =(LQ true w d).1):=by
 have k:=h.nums;have k1:=k.c;have k5:=k.era;unfold bw LQ;rw[AGP d];simp only[DW];by_cases c1:d.1=1
 ·simp only[AKJ c1]
  rw[n0 h];exact⟨_,rfl,fun _=>rfl⟩
 by_cases c2:d.1=2
 ·simp only[AKT (show¬d.1=1 by omega),AKJ c2]
  obtain⟨w',e1,e2⟩:=qn h (d:=d) hd;rw[e1];exact⟨w',rfl,e2⟩
 by_cases c3:d.1=3
 ·simp only[AKT (show¬d.1=1 by omega),AKT (show¬d.1=2 by omega),AKJ c3]
  rw[l3 h];exact⟨_,rfl,fun _=>rfl⟩
 by_cases c4:d.1=4
 ·simp only[AKT (show¬d.1=1 by omega),AKT (show¬d.1=2 by omega),AKT (show¬d.1=3 by omega),AKJ c4]
  rw[oh h];exact⟨_,rfl,fun _=>rfl⟩
 by_cases c6:d.1=6
 ·simp only[AKT (show¬d.1=1 by omega),AKT (show¬d.1=2 by omega),AKT (show¬d.1=3 by omega),AKT (show¬d.1=4 by omega),AKT (show¬d.1=5 by omega),AKJ c6]
  rw[oO h];exact⟨_,rfl,fun _=>rfl⟩
 by_cases c7:d.1=7
 ·simp only[AKT (show¬d.1=1 by omega),AKT (show¬d.1=2 by omega),AKT (show¬d.1=3 by omega),AKT (show¬d.1=4 by omega),AKT (show¬d.1=5 by omega),AKT (show¬d.1=6 by omega),AKJ c7]
  rw[om h];exact⟨_,rfl,fun _=>rfl⟩
 by_cases c8:d.1=8
 ·simp only[AKT (show¬d.1=1 by omega),AKT (show¬d.1=2 by omega),AKT (show¬d.1=3 by omega),AKT (show¬d.1=4 by omega),AKT (show¬d.1=5 by omega),AKT (show¬d.1=6 by omega),AKT (show¬d.1=7 by omega),AKJ c8]
  rw[nt h];exact⟨_,rfl,fun _=>rfl⟩
 by_cases c9:d.1=9
 ·simp only[AKT (show¬d.1=1 by omega),AKT (show¬d.1=2 by omega),AKT (show¬d.1=3 by omega),AKT (show¬d.1=4 by omega),AKT (show¬d.1=5 by omega),AKT (show¬d.1=6 by omega),AKT (show¬d.1=7 by omega),AKT (show¬d.1=8 by omega),AKJ c9]
  rw[oF h];exact⟨_,rfl,fun _=>rfl⟩
 by_cases c10:d.1=10
 ·simp only[AKT (show¬d.1=1 by omega),AKT (show¬d.1=2 by omega),AKT (show¬d.1=3 by omega),AKT (show¬d.1=4 by omega),AKT (show¬d.1=5 by omega),AKT (show¬d.1=6 by omega),AKT (show¬d.1=7 by omega),AKT (show¬d.1=8 by omega),AKT (show¬d.1=9 by omega),AKJ c10]
  rw[oU h];exact⟨_,rfl,fun _=>rfl⟩
 by_cases c11:d.1=11
 ·simp only[AKT (show¬d.1=1 by omega),AKT (show¬d.1=2 by omega),AKT (show¬d.1=3 by omega),AKT (show¬d.1=4 by omega),AKT (show¬d.1=5 by omega),AKT (show¬d.1=6 by omega),AKT (show¬d.1=7 by omega),AKT (show¬d.1=8 by omega),AKT (show¬d.1=9 by omega),AKT (show¬d.1=10 by omega),AKJ c11]
  rw[pN h];exact⟨_,rfl,fun _=>rfl⟩
 by_cases c12:d.1=12
 ·simp only[AKT (show¬d.1=1 by omega),AKT (show¬d.1=2 by omega),AKT (show¬d.1=3 by omega),AKT (show¬d.1=4 by omega),AKT (show¬d.1=5 by omega),AKT (show¬d.1=6 by omega),AKT (show¬d.1=7 by omega),AKT (show¬d.1=8 by omega),AKT (show¬d.1=9 by omega),AKT (show¬d.1=10 by omega),AKT (show¬d.1=11 by omega),AKJ c12]
  rw[mN h];exact⟨_,rfl,fun _=>rfl⟩
 by_cases c13:d.1=13
 ·simp only[AKT (show¬d.1=1 by omega),AKT (show¬d.1=2 by omega),AKT (show¬d.1=3 by omega),AKT (show¬d.1=4 by omega),AKT (show¬d.1=5 by omega),AKT (show¬d.1=6 by omega),AKT (show¬d.1=7 by omega),AKT (show¬d.1=8 by omega),AKT (show¬d.1=9 by omega),AKT (show¬d.1=10 by omega),AKT (show¬d.1=11 by omega),AKT (show¬d.1=12 by omega),AKJ c13]
  rw[show(w.1,w.2.1,())=AU w from rfl,show(w.2.2.2.2.1,w.2.2.2.2.2.1,())=CA w from rfl,nc (c:=AU w) (r:=CA w) (by show w.1.length<=_;omega) (by show Ag CG w.2.2.2.2.1<=_;omega) k.trim h64];simp only[AD,pkR,BA,O4];rcases AJ5 (MN (AU w) (CA w) d.2.1).2 with hq|hq
  ·rw[hq];exact⟨_,rfl,fun _=>rfl⟩
  ·rw[hq];exact⟨w,rfl,fun _=>rfl⟩
 by_cases c14:d.1=14
 ·simp only[AKT (show¬d.1=1 by omega),AKT (show¬d.1=2 by omega),AKT (show¬d.1=3 by omega),AKT (show¬d.1=4 by omega),AKT (show¬d.1=5 by omega),AKT (show¬d.1=6 by omega),AKT (show¬d.1=7 by omega),AKT (show¬d.1=8 by omega),AKT (show¬d.1=9 by omega),AKT (show¬d.1=10 by omega),AKT (show¬d.1=11 by omega),AKT (show¬d.1=12 by omega),AKT (show¬d.1=13 by omega),AKJ c14]
  rw[nX h];exact⟨_,rfl,fun _=>rfl⟩
 by_cases c15:d.1=15
 ·simp only[AKT (show¬d.1=1 by omega),AKT (show¬d.1=2 by omega),AKT (show¬d.1=3 by omega),AKT (show¬d.1=4 by omega),AKT (show¬d.1=5 by omega),AKT (show¬d.1=6 by omega),AKT (show¬d.1=7 by omega),AKT (show¬d.1=8 by omega),AKT (show¬d.1=9 by omega),AKT (show¬d.1=10 by omega),AKT (show¬d.1=11 by omega),AKT (show¬d.1=12 by omega),AKT (show¬d.1=13 by omega),AKT (show¬d.1=14 by omega),AKJ c15]
  rw[oV h];exact⟨_,rfl,fun _=>rfl⟩
 simp only[AKT c1,AKT c2,AKT c3,AKT c4,AKT c6,AKT c7,AKT c8,AKT c9,AKT c10,AKT c11,AKT c12,AKT c13,AKT c14,AKT c15];rw[lS h];by_cases c5:d.1=5
 ·rw[AKJ c5,AKT (by omega)]
  exact⟨_,rfl,fun _=>rfl⟩
 ·rw[AKT c5,AKJ (by omega)]
  exact⟨_,rfl,fun _=>rfl⟩
end
theorem fT{w:AA}{n:Int}{q:AO×Bool}(e:(putAt w n q).2≠0):(putAt w n q).1=w:=by
 unfold putAt at*;grind
theorem xD{all:Bool}{w:AA}{d:BR}(e:(LQ all w d).2≠0):(LQ all w d).1=w:=by
 unfold LQ at*;by_cases c:d.1=1
 ·rw[AKJ c]at e|-
  clear c
  revert e
  unfold MU;grind
 rw[AKT c]at e|-;clear c;by_cases c:d.1=2
 ·rw[AKJ c]at e|-
  clear c
  revert e
  unfold doAdd;grind
 rw[AKT c]at e|-;clear c;by_cases c:d.1=3
 ·rw[AKJ c]at e|-
  clear c
  revert e
  unfold Iv
  try dsimp only
  repeat' split
  all_goals first|(intro e;exact absurd rfl e)|(intro e;rfl)|grind[fT]
 rw[AKT c]at e|-;clear c;by_cases c:d.1=4
 ·rw[AKJ c]at e|-
  clear c
  revert e
  unfold KC;grind
 rw[AKT c]at e|-;clear c;by_cases c:d.1=5
 ·rw[AKJ c]at e|-
  clear c
  revert e
  unfold Is
  try dsimp only
  repeat' split
  all_goals first|(intro e;exact absurd rfl e)|(intro e;rfl)|grind[fT]
 rw[AKT c]at e|-;clear c;by_cases c:d.1=6
 ·rw[AKJ c]at e|-
  clear c
  revert e
  unfold Mt;grind
 rw[AKT c]at e|-;clear c;by_cases c:d.1=7
 ·rw[AKJ c]at e|-
  clear c
  revert e
  unfold Mr;grind
 rw[AKT c]at e|-;clear c;by_cases c:d.1=8
 ·rw[AKJ c]at e|-
  clear c
  revert e
  unfold Mc;grind
 rw[AKT c]at e|-;clear c;by_cases c:d.1=9
 ·rw[AKJ c]at e|-
  clear c
  revert e
  unfold Mh;grind
 rw[AKT c]at e|-;clear c;by_cases c:d.1=10
 ·rw[AKJ c]at e|-
  clear c
  revert e
  unfold Mx;grind
 rw[AKT c]at e|-;clear c;by_cases c:d.1=11
 ·rw[AKJ c]at e|-
  clear c
  revert e
  unfold S5
  try dsimp only
  repeat' split
  all_goals first|(intro e;exact absurd rfl e)|(intro e;rfl)|grind[fT]
 rw[AKT c]at e|-;clear c;by_cases c:d.1=12
 ·rw[AKJ c]at e|-
  clear c
  revert e
  unfold Iw;grind
 rw[AKT c]at e|-;clear c;by_cases c:d.1=13
 ·rw[AKJ c]at e|-
  clear c
  revert e
  unfold O4;grind
 rw[AKT c]at e|-;clear c;by_cases c:d.1=14
 ·rw[AKJ c]at e|-
  clear c
  revert e
  unfold Ir;grind
 rw[AKT c]at e|-;clear c;by_cases c:d.1=15
 ·rw[AKJ c]at e|-
  clear c
  revert e
  unfold Nb;grind
 rw[AKT c]at e|-;clear c;unfold It at*;split at e
 ·simp_all
 ·rename_i h1;rw[AKT h1];exact fT e
theorem nf{w:AA}{d:BR}(h:gG w)(h64:DR d.2.1):Wr w d=some (pkD (C5 true w d)):=by
 unfold Wr C5;rw[HJ w,AGP d,ng h,ry,oD h];simp only[AD,BA,C7];rcases AJ5 (Dv w)with hw|hw
 rotate_left
 ·rw[hw];rfl
 rcases AJ5 (P8 d)with hd|hd
 rotate_left
 ·rw[hw,hd];rfl
 have hk:1<=d.1/\d.1<=16:=by
  unfold P8 at hd;exact Ai.1 (ALz _ _▸hd).1
 rw[hw,hd,ANa,ANa];obtain⟨w',e1,e2⟩:=tD (Ee.1 hw) h64 (bh hd) hk;rw[e1];simp only[AD,AMy,AYd,AL4,AOK];by_cases hc:(LQ true w d).2=0
 ·rw[e2 hc]
  rw[AKJ (show(AQh ((LQ true w d).1,(LQ true w d).2)).1.1.2.1=0 from hc)];rfl
 ·rw[AKT (show¬(AQh (w',(LQ true w d).2)).1.1.2.1=0 from hc)]
  have:=xD hc;rw[show LQ true w d=(w,(LQ true w d).2)by grind];rfl
section
variable{b:AAC} (hb:Bytes b)
include hb
end
section
variable{code:AAC} (hc:code.length<=2^30)
include hc
theorem ADh{i h:Int}{l:List ACB}(hi:HH code i)(hl:l≠[])(hn:l.length<=2^30):∃v i' h',JD l code i h=some ((v,()),((code,i',h',()),()))/\v∈l/\HH code i':=by
 unfold JD;have hp:=AYe.2 hl;obtain⟨v,i1,h1,e,v0,v1,_,gE⟩:=Qx hc (h:=h) (n:=l.length) hi (by omega);rw[e];simp only[ANe];have:=v1 (by omega);rw[AKJ ⟨v0,this⟩];obtain⟨k,rfl⟩:∃k:Nat,v=(k:Int):=⟨v.toNat,by omega⟩;exact⟨_,i1,h1,rfl,by rw[Aj (by omega)];exact ANM _,gE⟩
end
def OK(code:AAC){X Y:Type}(Q:X->Y->Prop)(o:Option (X×(AEL×Y))):Prop:=
 ∃x i h y,o=some (x,((code,i,h,()),y))/\HH code i/\Q x y
section
variable{code:AAC} {X Y Z W:Type} {Q:X->Y->Prop} {R:Z->W->Prop}
theorem OK.bind{o:Option (X×(AEL×Y))}{f:X×(AEL×Y)->Option (Z×(AEL×W))}
  (ho:OK code Q o) (hf:∀x i h y,HH code i->Q x y->OK code R (f (x,((code,i,h,()),y)))):OK code R (o.bind f):=by
 obtain⟨x,i,h,y,e,hi,hq⟩:=ho;simp_all
theorem OK.pure{A:Type}{o:Option A}{a:A}{f:A->Option (Z×(AEL×W))}(ho:o=some a)(hf:OK code R (f a)):OK code R (o.bind f):=by
 simp_all
theorem OK.some{x:X}{i h:Int}{y:Y}(hi:HH code i)(hq:Q x y):OK code Q (some (x,((code,i,h,()),y))):=⟨x,i,h,y,rfl,hi,hq⟩
theorem OK.cond{b:Bool}{x y:Option (X×(AEL×Y))}(h1:b=true->OK code Q x)(h2:b=false->OK code Q y):OK code Q (cond b x y):=by
 grind
theorem OK.jS{p:Prop}[Decidable p]{x y:Option (X×(AEL×Y))}(h1:p->OK code Q x)(h2: ¬p->OK code Q y):OK code Q (_root_.cond (decide p) x y):=by
 grind
theorem OK.uH{a b:Int}{x y:Option (X×(AEL×Y))}(h1:a=b->OK code Q x)(h2:a≠b->OK code Q y):OK code Q (_root_.cond (a==b) x y):=by
 grind
theorem OK.ite{p:Prop}[Decidable p]{x y:Option (X×(AEL×Y))}(hp:p)(h1:OK code Q x):OK code Q (if p then x else y):=by
 simp_all
end
section
variable{code:AAC} (hc:code.length<=2^30)
include hc
theorem QB{i h n:Int}(hi:HH code i)(hn:n<=2^40):OK code (fun(x:ABu) (y:Unit)=>0<=x.1/\(0<n->x.1<n)/\(n<=0->x.1=0)) (An n code i h):=by
 obtain⟨v,i',h',e,v0,v1,v2,Dr⟩:=Qx hc (h:=h) hi hn;exact⟨(v,()),i',h',(),e,Dr,v0,v1,v2⟩
theorem cH{i h n:Int}(hi:HH code i)(hn:n<=2^40):OK code (fun(x:ABq) (y:Unit)=>True) (CB n code i h):=by
 obtain⟨v,i',h',e,Dr⟩:=tN hc (h:=h) hi hn;exact⟨(v,()),i',h',(),e,Dr,trivial⟩
theorem zf{i h:Int}{l:AAC}(hi:HH code i)(hl:l≠[])(hn:l.length<=2^30):OK code (fun(x:ABu) (y:Unit)=>x.1∈l) (Og l code i h):=by
 obtain⟨v,i',h',e,hv,Dr⟩:=wh hc (h:=h) hi hl hn;exact⟨(v,()),i',h',(),e,Dr,hv⟩
theorem vR{i h:Int}{l:List ACB}(hi:HH code i)(hl:l≠[])(hn:l.length<=2^30):OK code (fun(x:AGi) (y:Unit)=>x.1∈l) (JD l code i h):=by
 obtain⟨v,i',h',e,hv,Dr⟩:=ADh hc (h:=h) hi hl hn;exact⟨(v,()),i',h',(),e,Dr,hv⟩
theorem vq{c:CP}(fD:c.1.length<=2^10){i h:Int}(hi:HH code i):OK code (fun(x:ACu) (y:AC2)=>y.1.length<=2^12) (Pj c code i h):=by
 have key:∀(n k N:Nat) (i h:Int) (b:AAC),HH code i->k<=N->N-k<n->N<=2^11->b.length<=k->
   OK code (fun(x:ACu) (y:AC2)=>y.1.length<=2^12) (Ih n N k code i h c.1 c.2.1 b):=by
  intro n
  induction n with
  |zero=>omega
  |succ n ih=>
   intro k N i h b hi hk hn hN hb;simp only[Ih,Sl];refine OK.jS (fun K9=> ?_) (fun hge=> ?_)
   ·refine OK.pure K7 ?_
    dsimp only;refine OK.bind (QB hc hi (by omega)) fun x i' h' y Dr hq=> ?_
    dsimp only;refine OK.pure (NU (by omega)) ?_
    dsimp only;rw[AL (by omega) (by omega),show((k:Int)+1)=((k+1:Nat):Int)by omega];have:=VK (n:=x.1) (l:=b);exact ih (k+1) N _ _ _ Dr (by omega) (by omega) hN (by omega)
   ·refine OK.bind (cH hc hi (by omega)) fun x i' h' y Dr hq=> ?_
    dsimp only;refine OK.cond (fun _=> ?_) (fun _=> ?_)
    ·refine OK.bind (zf hc Dr (by simp) (by simp)) fun x i' h' y Dr hq=> ?_
     dsimp only;refine OK.ite (by rw[Bf];omega) ?_
     grind[OK.some]
    grind[OK.some]
 unfold Pj Sx;rw[AL (by omega) (by omega)];refine OK.bind (QB hc hi (by omega)) fun x i' h' y Dr hq=> ?_
 dsimp only;obtain⟨N,hN⟩:∃N:Nat,x.1=N:=⟨x.1.toNat,by omega⟩;grind[Ae,Ah]
theorem AAN{c:CP}(fD:c.1.length<=2^10){i h:Int}(hi:HH code i):OK code (fun(x:ACu) (y:AC2)=>y.1.length<=2^13) (LR c code i h):=by
 have key:∀(n k:Nat) (i h:Int) (b:AAC),HH code i->k<=c.1.length->c.1.length-k<n->b.length<=2^12+k->
   OK code (fun(x:ACu) (y:AC2)=>y.1.length<=2^13) (Ka n k code i h c.1 c.2.1 b):=by
  intro n
  induction n with
  |zero=>omega
  |succ n ih=>
   intro k i h b hi hk hn hb;simp only[Ka,VS];refine OK.jS (fun K9=> ?_) (fun hge=>OK.some hi (by grind));refine OK.pure (FF (c:=(c.1,c.2.1,())) (by grind) (by omega)) ?_
   dsimp only;refine OK.cond (fun _=> ?_) (fun _=>OK.some hi (by grind));refine OK.pure (NU (by omega)) ?_
   dsimp only;rw[AL (by omega) (by omega),show((k:Int)+1)=((k+1:Nat):Int)by omega];have:=VK (n:=(k:Int)) (l:=b);exact ih (k+1) _ _ _ hi (by omega) (by omega) (by omega)
 unfold LR U2;grind[OK.bind,vq,Ae,Ah]
end
theorem AL2{x:Int}:DR (IntKind.wrap .i64 x):=by
 grind[DR,IntKind.wrap,IntKind.bits,IntKind.signed]
theorem ATm{a b:Int}:DR (bOr .i64 a b):=by
 unfold bOr;exact AL2
theorem vU{l:AAC}(hl:l.length<=2^20):∃r,Lo l=some ((r,()),())/\DR r:=by
 have key:∀(n k:Nat) (t:Int),(∀x∈l,0<=x)->DR t->k<=l.length->l.length-k<n-> ∃r,KY n l t k=some ((r,()),())/\DR r:=by
  intro n
  induction n with
  |zero=>omega
  |succ n ih=>
   intro k t hp ht hk hn;simp only[KY,VL,AB];by_cases K9:k<l.length
   ·rw[AKJ (by omega),AKJ (by omega),Aj K9,AKT (by simp_all),AL (x:=(k:Int)+1) (by omega) (by omega),show((k:Int)+1)=((k+1:Nat):Int)by omega]
    grind[ATm]
   grind
 unfold Lo Uu;rw[gW (by omega)];simp only[AD,BA];rcases AJ5 (pn l 7)with ha|ha
 ·rw[ha]
  exact key Ae 0 0 (fun x hx=>((yc.1 ha).1 x hx).1) (by unfold DR;omega) (by omega) (Ah (by omega))
 ·rw[ha]
  exact⟨-1,rfl,by unfold DR;omega⟩
abbrev jk:BR×Unit->Unit->Prop:=fun x _=>DR x.1.2.1/\DR x.1.2.2.1/\DR x.1.2.2.2.1/\x.1.2.2.2.2.1.length<=40
theorem AFU(x:Int):DR (Aa x):=by
 grind[Aa,IntKind.wrap,DR,IntKind.bits,IntKind.signed]
theorem Qh{x:Int}(h: -1000<=x/\x<=1000):DR x:=by unfold DR;omega
section
variable{code:AAC} (hc:code.length<=2^30) {w:AA} (h:OG w)
include hc h
theorem OG.AFB{e:Int}(he:1<=e/\e<=w.Af.length):0<(Aq w.Af e).length/\(Aq w.Af e).length<=8/\ ∀x∈Aq w.Af e,0<=x/\x<8:=by
 have hh:=(h.mf.Af _ (BM (d:=Gd) (show(e-1).toNat<(CA w).1.length by show _<w.Af.length;omega))).1;have hn:=PD hh;have fD:=(Gu h.cfg).2.1;unfold Aq;rw[Ai.2 he,AKJ rfl];refine⟨?_,Hv hn,fun x hx=> ?_⟩
 ·rcases AYV (w.Af.getD (e-1).toNat Gd).1.length with h0|h0
  ·have vx:=AP0 h0
   have hh':holds (AU w) (w.Af.getD (e-1).toNat Gd).1=true:=hh;grind[holds_nil]
  omega
 ·have:=(Ef.1 hn).2.1 x hx
  omega
theorem v8(hw:0<w.AH.length){i hh:Int}(hi:HH code i):OK code jk (G5 w code i hh):=by
 have k:=h.nums;have k2:=k.wr;have k5:=k.era;have sb:0<w.2.2.2.2.2.2.1.length:=hw;have tail:∀(j:Int),0<=j->j<(w.2.2.2.2.2.2.1.length:Int)-> ∀i hh,HH code i->OK code jk (
   (Cn (w.2.2.2.2.1,w.2.2.2.2.2.1,()) ((w.2.2.2.2.2.2.1.getD (j.toNat) (0,[],())).1)).bind fun ue=>
   (An (ue.2.1.length:Int) code i hh).bind fun TA=>
   if(0:Int)<=TA.1.1/\TA.1.1<(ue.2.1.length:Int)then(
   cond ((((w.2.2.2.2.2.2.1.getD (j.toNat) (0,[],())).2.1).length:Int)==0)
    ((JD [[],[97],[98,99],[100]] TA.2.1.1 TA.2.1.2.1 TA.2.1.2.2.1).bind fun aM=>
    some (((2,j,0,0,aM.1.1,()),()),((aM.2.1.1,aM.2.1.2.1,aM.2.1.2.2.1,()),())))
   ((CB 7 TA.2.1.1 TA.2.1.2.1 TA.2.1.2.2.1).bind fun YV=>
   cond (YV.1.1)
    ((JD [[],[97],[98,99],[100]] YV.2.1.1 YV.2.1.2.1 YV.2.1.2.2.1).bind fun gU=>
    some (((2,j,0,0,gU.1.1,()),()),((gU.2.1.1,gU.2.1.2.1,gU.2.1.2.2.1,()),())))
   ((CB 3 YV.2.1.1 YV.2.1.2.1 YV.2.1.2.2.1).bind fun ot=>
   cond (ot.1.1)
    (some (((4,(ue.2.1.getD (TA.1.1.toNat) 0),0,0,[],()),()),((ot.2.1.1,ot.2.1.2.1,ot.2.1.2.2.1,()),())))
   ((Tz (((w.2.2.2.2.2.2.1.getD (j.toNat) (0,[],())).2.1).length:Int) 3).bind fun wy=>
   (An wy.1.1 ot.2.1.1 ot.2.1.2.1 ot.2.1.2.2.1).bind fun YY=>
   some (((3,j,Aa ((((w.2.2.2.2.2.2.1.getD (j.toNat) (0,[],())).2.1).length:Int)-YY.1.1),(ue.2.1.getD (TA.1.1.toNat) 0),[],()),()),((YY.2.1.1,YY.2.1.2.1,YY.2.1.2.2.1,()),()))))))else none):=by
  intro j hj0 hj1 i hh hi;have hx:=h.AH _ (BM (d:=B7) (show j.toNat<w.AH.length by simp_all));have he:=hx.1.ep;obtain⟨e1,e2,e3⟩:=h.AFB hc (e:=(w.AH.getD j.toNat B7).1) ⟨he.1,hx.2⟩;refine OK.pure (FQ (r:=CA w) (by show Ag CG w.2.2.2.2.1<=_;omega)) ?_
  dsimp only
  generalize hns:Aq (CA w).1 (w.2.2.2.2.2.2.1.getD j.toNat (0,[],())).1=ns
  have ASB:Aq w.Af (w.AH.getD j.toNat B7).1=ns:=hns;rw[ASB]at e1 e2 e3;refine OK.bind (QB hc hi (by omega)) fun x i1 h1 y gE hq=> ?_
  dsimp only at*;refine OK.ite (by omega) ?_
  have ji:DR (ns.getD x.1.toNat 0):=Qh (by grind[BM]);have hjj:DR j:=Qh (by omega);have z:DR 0:=Qh (by omega)
  repeat' (first|refine OK.some (by assumption) ?_|refine OK.jS (fun _=> ?_) (fun _=> ?_)|refine OK.uH (fun _=> ?_) (fun _=> ?_)|refine OK.cond (fun _=> ?_) (fun _=> ?_)|refine OK.ite (by omega) ?_|(refine OK.bind (cH (by assumption) (by assumption) (by omega)) fun x i h y hi hq=> ?_;dsimp only)|(refine OK.bind (QB (by assumption) (by assumption) (by omega)) fun x i h y hi hq=> ?_;dsimp only at*)|(refine OK.bind (vR (by assumption) (by assumption) (by simp) (by simp)) fun x i h y hi hq=> ?_;dsimp only)|(refine OK.pure aI ?_;dsimp only)|(refine OK.pure K7 ?_;dsimp only))
  all_goals refine⟨?_,?_,?_,?_⟩
  all_goals first
   |assumption
   |exact AFU _
   |exact AYY _
   |grind
 unfold G5;dsimp only;have e1:Aa ((w.2.2.2.2.2.2.1.length:Int)-1)=(w.2.2.2.2.2.2.1.length:Int)-1:=AL (by omega) (by omega);simp only[e1];refine OK.bind (QB hc hi (by omega)) fun x i1 h1 y gE hq=> ?_
 dsimp only at*;refine OK.bind (cH hc gE (by omega)) fun x2 i2 h2 y2 hi2 hq2=> ?_
 dsimp only at*;refine OK.cond (fun _=> ?_) (fun _=> ?_)
 ·refine OK.ite (by omega) ?_
  exact tail _ (by omega) (by omega) _ _ hi2
 simp_all
end
section
variable{code:AAC} (hc:code.length<=2^30) {w:AA} (h:OG w)
include hc h
theorem yQ{m:Av}(hm:qS (AU w) m){t7:Int}(h7:DR t7):∀(n k:Nat) (t8 i hh:Int),DR t8->HH code i->k<=m.2.2.2.2.2.1.length->m.2.2.2.2.2.1.length-k<n->
  OK code jk (GS n t7 t8 k code i hh w.1 w.2.1 w.2.2.1 w.2.2.2.1 w.2.2.2.2.1 w.2.2.2.2.2.1 w.2.2.2.2.2.2.1 w.2.2.2.2.2.2.2.1 w.2.2.2.2.2.2.2.2.1 w.2.2.2.2.2.2.2.2.2.1 w.2.2.2.2.2.2.2.2.2.2.1 0 0 0 0 [] m.1 m.2.1 m.2.2.1 m.2.2.2.1 m.2.2.2.2.1 m.2.2.2.2.2.1):=by
 have k1:=h.nums.c;have wq:m.2.2.2.2.2.1.length<=60:=by
  have:=hm.n;have hb:=G1 (l:=m.2.2.2.1);split at this<;>omega
 intro n
 induction n with
 |zero=>intro k t8 i hh _ _ _ h;omega
 |succ n ih=>
  intro k t8 i hh h8 hi hk hn;have hk8:DR ((k+1:Nat):Int):=Qh (by omega);simp only[GS,RP];refine OK.jS (fun K9=> ?_) (fun hge=>OK.some hi ⟨Qh (by show-1000<=(0:Int)/\(0:Int)<=1000;omega),h8,h7,AYY _⟩);have AZG:k<m.2.2.2.2.2.1.length:=by omega
  refine OK.ite (by omega) ?_
  rw[AL (x:=(k:Int)+1) (by omega) (by omega),show((k:Int)+1)=((k+1:Nat):Int)by omega];have y6:=Hv (hm.wrote _ (BM (d:=[]) AZG));refine OK.pure (FF (c:=AU w) (by show w.1.length<=_;omega) (by show(m.2.2.2.2.2.1.getD k []).length<=_;omega)) ?_
  dsimp only;refine OK.cond (fun _=> ?_) (fun _=>ih (k+1) _ _ _ h8 hi (by omega) (by omega));refine OK.bind (cH hc hi (by omega)) fun x2 i2 h2 y2 hi2 hq2=> ?_
  dsimp only;exact OK.cond (fun _=>ih (k+1) _ _ _ hk8 hi2 (by omega) (by omega)) (fun _=>ih (k+1) _ _ _ h8 hi2 (by omega) (by omega))
theorem xO{i hh:Int}(hi:HH code i):OK code jk (Lh w code i hh):=by
 have k:=h.nums;have k5:=k.era;unfold Lh SJ;have z:DR 0:=Qh (by omega);refine OK.uH (fun _=>OK.some hi ⟨z,z,z,AYY _⟩) (fun bg=> ?_);have hlen:0<w.Bg.length:=by show 0<w.2.2.2.2.2.2.2.1.length;omega
 refine OK.ite (by omega) ?_
 have hmm:=h.Bg _ (BM (d:=Rb) hlen)
 generalize hg:w.2.2.2.2.2.2.2.1.getD 0 (0,0,[],[],false,[],())=m
 have yX:w.Bg.getD 0 Rb=m:=hg;rw[yX]at hmm;obtain⟨hm,hm2,hm3⟩:=hmm;have he:=hm.ep;have hb:=hm.b;obtain⟨e1,e2,e3⟩:=h.AFB hc (e:=m.2.1) ⟨he.1,by omega⟩;have wq:m.2.2.2.2.2.1.length<=60:=by
  have:=hm.n;have hb:=G1 (l:=m.2.2.2.1);split at this<;>omega
 refine OK.pure (FQ (r:=CA w) (by show Ag CG w.2.2.2.2.1<=_;omega)) ?_
 dsimp only
 generalize hns:Aq (CA w).1 m.2.1=ns
 have ASB:Aq w.Af m.2.1=ns:=hns;rw[ASB]at e1 e2 e3;refine OK.bind (QB hc hi (by omega)) fun x i1 h1 y gE hq=> ?_
 dsimp only at*;refine OK.ite (by omega) ?_
 have ji:DR (ns.getD x.1.toNat 0):=Qh (by have:=e3 _ (BM (l:=ns) (i:=x.1.toNat) (d:=0) (by omega));omega);have fin:∀t8 i hh,DR t8->HH code i->OK code jk (GS Ae (ns.getD x.1.toNat 0) t8 0 code i hh w.1 w.2.1 w.2.2.1 w.2.2.2.1 w.2.2.2.2.1 w.2.2.2.2.2.1 w.2.2.2.2.2.2.1 w.2.2.2.2.2.2.2.1 w.2.2.2.2.2.2.2.2.1 w.2.2.2.2.2.2.2.2.2.1 w.2.2.2.2.2.2.2.2.2.2.1 0 0 0 0 [] m.1 m.2.1 m.2.2.1 m.2.2.2.1 m.2.2.2.2.1 m.2.2.2.2.2.1):=fun t8 i hh h8 hi=>
  yQ hc h hm ji Ae 0 t8 i hh h8 hi (by omega) (Ah (by omega))
 repeat' (first|refine OK.some (by assumption) ?_|refine OK.jS (fun _=> ?_) (fun _=> ?_)|refine OK.uH (fun _=> ?_) (fun _=> ?_)|refine OK.cond (fun _=> ?_) (fun _=> ?_)|refine OK.ite (by omega) ?_|(refine OK.bind (cH (by assumption) (by assumption) (by omega)) fun x i h y hi hq=> ?_;dsimp only)|(refine OK.bind (QB (by assumption) (by assumption) (by omega)) fun x i h y hi hq=> ?_;dsimp only at*)|(refine OK.bind (vR (by assumption) (by assumption) (by simp) (by simp)) fun x i h y hi hq=> ?_;dsimp only)|(refine OK.pure aI ?_;dsimp only)|(refine OK.pure K7 ?_;dsimp only))
 all_goals first
  |exact fin _ _ _ (AFU _) (by assumption)
  |exact⟨z,z,z,AYY _⟩
  |exact⟨ji,z,z,AYY _⟩
theorem yz{i hh:Int}(hi:HH code i):OK code jk (Pb w code i hh):=by
 have k:=h.nums;have k1:=k.c;have k2:=k.wr;have k3:=k.lost;have k4:=k.st;have k5:=k.era;have k6:=k.se;have k7:=k.cJ;have AAx:=(Gu h.cfg).1;have AeG:1<=w.1.length:=AAx;have z:DR 0:=Qh (by omega);have X6:∀i hh,HH code i->OK code jk ((LR (w.1,w.2.1,()) code i hh).bind fun u3=>
   (Lo u3.2.2.1).bind fun u4=>
   some (((1,u4.1.1,0,0,[],()),()),((u3.2.1.1,u3.2.1.2.1,u3.2.1.2.2.1,()),()))):=fun i hh hi=>by
  refine OK.bind (AAN hc (c:=(w.1,w.2.1,())) (by show w.1.length<=_;omega) hi) fun x i1 h1 y gE hq=> ?_
  dsimp only;obtain⟨r,hr,hr2⟩:=vU (l:=y.1) (by omega);refine OK.pure hr ?_
  exact OK.some gE ⟨hr2,z,z,AYY _⟩
 have AEz:∀j:Nat,DR (w.2.2.2.2.2.2.2.2.2.1.getD j (0,[],false,())).1:=fun j=>by
  by_cases hj:j<w.2.2.2.2.2.2.2.2.2.1.length
  ·exact Jv (h.BE _ (BM (d:=JZ) hj)).1
  ·rw[List.getD,AUT (by omega)];exact z
 have AB2:DR (w.2.2.2.1.getD 0 0):=by
  by_cases hj:0<w.2.2.2.1.length
  ·have:=(Ef.1 h.lost).2.1 _ (BM (d:=0) hj)
   have hc8:(AU w).1.length<=8:=k1;have AeP:0<=w.2.2.2.1.getD 0 0/\w.2.2.2.1.getD 0 0<(AU w).1.length:=this;exact Qh (by omega)
  ·rw[List.getD,AUT (by omega)];exact z
 unfold Pb;refine OK.uH (fun _=>X6 _ _ hi) (fun bg=> ?_);have hw0:0<w.AH.length:=by show 0<w.2.2.2.2.2.2.1.length;omega
 have hwr:∀i hh,HH code i->OK code jk ((G5 w code i hh).bind fun mh=>
   some (((mh.1.1.1,mh.1.1.2.1,mh.1.1.2.2.1,mh.1.1.2.2.2.1,mh.1.1.2.2.2.2.1,()),()),((mh.2.1.1,mh.2.1.2.1,mh.2.1.2.2.1,()),()))):=fun i hh hi=>
  OK.bind (v8 hc h hw0 hi) fun x i1 h1 y gE hq=>OK.some gE hq
 have TH:∀i hh,HH code i->OK code jk ((Lh w code i hh).bind fun mh=>
   some (((mh.1.1.1,mh.1.1.2.1,mh.1.1.2.2.1,mh.1.1.2.2.2.1,mh.1.1.2.2.2.2.1,()),()),((mh.2.1.1,mh.2.1.2.1,mh.2.1.2.2.1,()),()))):=fun i hh hi=>
  OK.bind (xO hc h hi) fun x i1 h1 y gE hq=>OK.some gE hq
 rw[HJ w];refine OK.bind (cH hc hi (by omega)) fun x2 i2 h2 y2 hi2 hq2=> ?_
 dsimp only;refine OK.cond (fun _=>X6 _ _ hi2) (fun _=> ?_);refine OK.bind (QB hc hi2 (by omega)) fun x3 i3 h3 y3 hi3 hq3=> ?_
 dsimp only at*;have hx3:DR x3.1:=Qh (by omega)
 repeat' first
  |exact hwr _ _ (by assumption)
  |exact TH _ _ (by assumption)
  |(refine OK.pure (Nw (r:=CA w) (by show w.2.2.2.2.1.length<=_;omega)) ?_;dsimp only)
  |(first|refine OK.some (by assumption) ?_|refine OK.jS (fun _=> ?_) (fun _=> ?_)|refine OK.uH (fun _=> ?_) (fun _=> ?_)|refine OK.cond (fun _=> ?_) (fun _=> ?_)|refine OK.ite (by omega) ?_|(refine OK.bind (cH (by assumption) (by assumption) (by omega)) fun x i h y hi hq=> ?_;dsimp only)|(refine OK.bind (QB (by assumption) (by assumption) (by omega)) fun x i h y hi hq=> ?_;dsimp only at*)|(refine OK.bind (vR (by assumption) (by assumption) (by simp) (by simp)) fun x i h y hi hq=> ?_;dsimp only)|(refine OK.pure aI ?_;dsimp only)|(refine OK.pure K7 ?_;dsimp only))
 all_goals refine⟨?_,?_,?_,AYY _⟩
 all_goals first
  |exact z
  |exact hx3
  |exact AEz _
  |exact AB2
  |(refine Qh ?_;dsimp only;omega)
end
theorem fQ{s:AAC}{p:Int}:∀{l:List Az} {b:Option AJ},(∀x,b=some x->Ei x=true)-> ∀x,Fu s p b l=some x->Ei x=true
 |[],b,hb,x,h=>hb x h
 |a::l,b,hb,x,h=>by
  simp only[Fu]at h;split at h
  ·rename_i hc
   simp only[ALz]at hc;refine fQ (l:=l) ?_ x h
   intro z hz;split at hz
   ·rename_i z' hz'
    unfold better at hz;grind
   simp_all
  ·exact fQ (l:=l) hb x h
theorem mV{c:CP}{g:AQ}{sure:Int}{r:AZ}{l:List Az}(h:∀e∈r.2.2.1,e.2.2.1.length<=40)(h0:(B9 c g sure r l).2=0):∀e∈(B9 c g sure r l).1.2.2.1,e.2.2.1.length<=40:=by
 have app:∀(ev:As),ev.2.2.1.length<=40-> ∀e∈r.2.2.1++[ev],e.2.2.1.length<=40:=fun ev zC e he=>by
  grind
 have hf:∀p,(Hm p (Fu (g.1.getD (r.1-1).toNat Gd).1 p none l)).2.2.1.length<=40:=fun p=>by
  cases hb:Fu (g.1.getD (r.1-1).toNat Gd).1 p none l with
  |none=>show 0<=40;omega
  |some x=>
   have:=(Fh.1 (fQ (b:=none) (fun x hx=>by cases hx) x hb)).len;unfold Hm;dsimp only;split
   all_goals simp_all
 revert h0
 unfold B9;dsimp only;split
 ·omega
 split
 ·omega
 split
 ·grind
 split
 ·grind
 split
 ·omega
 split
 all_goals grind
theorem BU{w:AA}{n:Int}{q:AO×Bool}:(putAt w n q).1.AX=w.AX:=by
 grind[putAt]
theorem vZ{w:AA}{a k:Int}(h:RdS w):RdS (Ir w a k).1:=by
 unfold Ir;split
 ·omega
 dsimp only;split
 ·omega
 rename_i h2;intro r hr;rcases AUU hr with hr|rfl
 ·exact h r hr
 ·refine mV ?_ (by omega)
  by_cases hl:a.toNat<w.AX.length
  ·exact h _ (BM hl)
  simp_all
theorem Dk{w w':AA}(h:RdS w)(e:w'.AX=w.AX):RdS w':=by
 unfold RdS;rw[e];exact h
theorem AAH{all:Bool}{w:AA}{d:BR}(h:RdS w):RdS (LQ all w d).1:=by
 unfold LQ;by_cases c:d.1=1
 ·rw[AKJ c]
  grind[Dk,MU,BU]
 rw[AKT c];clear c;by_cases c:d.1=2
 ·rw[AKJ c]
  grind[Dk,doAdd,BU]
 rw[AKT c];clear c;by_cases c:d.1=3
 ·rw[AKJ c]
  grind[Dk,Iv,BU]
 rw[AKT c];clear c;by_cases c:d.1=4
 ·rw[AKJ c]
  grind[Dk,KC,BU]
 rw[AKT c];clear c;by_cases c:d.1=5
 ·rw[AKJ c]
  grind[Dk,Is,BU]
 rw[AKT c];clear c;by_cases c:d.1=6
 ·rw[AKJ c]
  grind[Dk,Mt,BU]
 rw[AKT c];clear c;by_cases c:d.1=7
 ·rw[AKJ c]
  grind[Dk,Mr,BU]
 rw[AKT c];clear c;by_cases c:d.1=8
 ·rw[AKJ c]
  grind[Dk,Mc,BU]
 rw[AKT c];clear c;by_cases c:d.1=9
 ·rw[AKJ c]
  grind[Dk,Mh,BU]
 rw[AKT c];clear c;by_cases c:d.1=10
 ·rw[AKJ c]
  grind[Dk,Mx,BU]
 rw[AKT c];clear c;by_cases c:d.1=11
 ·rw[AKJ c]
  grind[Dk,S5,BU]
 rw[AKT c];clear c;by_cases c:d.1=12
 ·rw[AKJ c]
  grind[Dk,Iw,BU]
 rw[AKT c];clear c;by_cases c:d.1=13
 ·rw[AKJ c]
  grind[Dk,O4,BU]
 rw[AKT c];clear c;by_cases c:d.1=14
 ·rw[AKJ c];exact vZ h
 rw[AKT c];clear c;by_cases c:d.1=15
 ·rw[AKJ c]
  grind[Dk,Nb,BU]
 rw[AKT c];grind[Dk,It,BU]
theorem sv{c:CP}{g:AQ}{sure:Int}{r:AZ}{l:List Az}(h:∀e∈r.2.2.1,DR e.2.1)(h0:(B9 c g sure r l).2=0):∀e∈(B9 c g sure r l).1.2.2.1,DR e.2.1:=by
 have app:∀(ev:As),DR ev.2.1-> ∀e∈r.2.2.1++[ev],DR e.2.1:=fun ev zC e he=>by
  grind
 have hf:∀p b,(Hm p b).2.1=p:=fun p b=>by
  cases b with
  |none=>rfl
  |some x=>grind[Hm]
 revert h0
 unfold B9;dsimp only;split
 ·omega
 rename_i Bt;have AYO:NC c g=true/\Xk r=true:=by
  simp_all
 have hrg:=(JF.1 AYO.1).tin;have Ya:=RQ.1 AYO.2;have wt:=Ya.ep;have hro:=Ya.off;split
 ·omega
 split
 ·grind
 split
 ·grind[Qh]
 split
 ·omega
 split
 ·omega
 intro _;refine app _ ?_
 grind[DR,EN]
theorem AEC{w:AA}{a k:Int}(h:dy w):dy (Ir w a k).1:=by
 unfold Ir;split
 ·omega
 dsimp only;split
 ·omega
 rename_i h2;intro r hr;rcases AUU hr with hr|rfl
 ·exact h r hr
 ·refine sv ?_ (by omega)
  by_cases hl:a.toNat<w.AX.length
  ·exact h _ (BM hl)
  simp_all
theorem GJ{w w':AA}(h:dy w)(e:w'.AX=w.AX):dy w':=by
 unfold dy;rw[show w'.2.2.2.2.2.2.2.2.1=w.2.2.2.2.2.2.2.2.1 from e];exact h
theorem AIP{all:Bool}{w:AA}{d:BR}(h:dy w):dy (LQ all w d).1:=by
 unfold LQ;by_cases c:d.1=1
 ·rw[AKJ c]
  grind[GJ,MU,BU]
 rw[AKT c];clear c;by_cases c:d.1=2
 ·rw[AKJ c]
  grind[GJ,doAdd,BU]
 rw[AKT c];clear c;by_cases c:d.1=3
 ·rw[AKJ c]
  grind[GJ,Iv,BU]
 rw[AKT c];clear c;by_cases c:d.1=4
 ·rw[AKJ c]
  grind[GJ,KC,BU]
 rw[AKT c];clear c;by_cases c:d.1=5
 ·rw[AKJ c]
  grind[GJ,Is,BU]
 rw[AKT c];clear c;by_cases c:d.1=6
 ·rw[AKJ c]
  grind[GJ,Mt,BU]
 rw[AKT c];clear c;by_cases c:d.1=7
 ·rw[AKJ c]
  grind[GJ,Mr,BU]
 rw[AKT c];clear c;by_cases c:d.1=8
 ·rw[AKJ c]
  grind[GJ,Mc,BU]
 rw[AKT c];clear c;by_cases c:d.1=9
 ·rw[AKJ c]
  grind[GJ,Mh,BU]
 rw[AKT c];clear c;by_cases c:d.1=10
 ·rw[AKJ c]
  grind[GJ,Mx,BU]
 rw[AKT c];clear c;by_cases c:d.1=11
 ·rw[AKJ c]
  grind[GJ,S5,BU]
 rw[AKT c];clear c;by_cases c:d.1=12
 ·rw[AKJ c]
  grind[GJ,Iw,BU]
 rw[AKT c];clear c;by_cases c:d.1=13
 ·rw[AKJ c]
  grind[GJ,O4,BU]
 rw[AKT c];clear c;by_cases c:d.1=14
 ·rw[AKJ c];exact AEC h
 rw[AKT c];clear c;by_cases c:d.1=15
 ·rw[AKJ c]
  grind[GJ,Nb,BU]
 rw[AKT c];grind[GJ,It,BU]
theorem AAj{all:Bool}{w:AA}{d:BR}(h:dy w)(e:(C5 all w d).2=0):dy (C5 all w d).1:=by
 unfold C5 at*;by_cases hc:(!Dv w|| !P8 d)=true
 ·simp_all
 ·rw[AKT hc];exact AIP h
theorem yf{c:CP}:dy (Eo c):=fun r hr=>by
 have:r=(1,1,[],()):=by
  have hr':r∈([(1,1,[],()),(1,1,[],())]:List AZ):=hr;simp_all
 simp_all
theorem sU{all:Bool}{w:AA}{d:BR}(h:RdS w)(e:(C5 all w d).2=0):RdS (C5 all w d).1:=by
 unfold C5 at*;by_cases hc:(!Dv w|| !P8 d)=true
 ·simp_all
 ·rw[AKT hc];exact AAH h
theorem dt{c:CP}(hc:FJ c=true):OG (Eo c)/\RdS (Eo c):=by
 refine⟨⟨hc,by simp[Eo,H.AA.Ao],ei hc,.inr holds_nil,fun i hi=> ?_,⟨hc,by show 0<=30;omega,.inl rfl,fun e he=>(by cases he),fun i hi=>by exact absurd hi (by show¬i<0;omega)⟩,by show 0<=4;omega,by show 0<=1;omega,fun x hx=>(by cases hx),List.Pairwise.nil,fun x hx=>(by cases hx),rfl,fun r hr=> ?_,by show 0<=120;omega,fun x hx=>(by cases hx),List.Pairwise.nil⟩,fun r hr=> ?_⟩
 ·have:(Eo c).Ao.getD i Cz=Cz:=by
   show(List.replicate c.1.length Cz).getD i Cz=Cz
   grind
  rw[this];exact⟨gd.nil,fun _=>rfl⟩
 ·have:r=(1,1,[],()):=by
   have hr':r∈([(1,1,[],()),(1,1,[],())]:List AZ):=hr;simp_all
  subst this;exact⟨by omega,by simp_all,by simp_all⟩
 ·have:r=(1,1,[],()):=by
   have hr':r∈([(1,1,[],()),(1,1,[],())]:List AZ):=hr;simp_all
  simp_all
theorem lg{c:CP}(hc:FJ c=true):Hp c=some (((((),c.2.1,(),(),(),0,(),(),(),(),false,()),true,()),()),(c.1,List.replicate c.1.length Cz,[],[],[],[],[(1,1,[],()),(1,1,[],())],[],())):=by
 have hl:=(Gu hc).2.1;unfold Hp;rw[show(c.1,c.2.1,())=c from rfl,Hb (by omega),hc];simp only[AD,AMy,ANE];rw[AKJ (by rw[Bf];omega),AKJ ⟨by omega,by omega,by rw[Bf];omega⟩];rfl
section
variable{code:AAC} (hc:code.length<=2^30)
include hc
end
theorem yv{w:AA}(h:gG w)(zC:dy w):JE w=some ((XD w&&(aY w&&(aV w&&(Xm w&&bR w))),()),()):=by
 unfold JE;rw[HJ w,Xe h,Yi h,j4 h,h_ h,je h zC];grind
end Go.M
end
