/- Plain facts on what the functions compute. -/
import Derived.Test.YtgaopeilfepjmaaGreatG0
set_option linter.unusedVariables false
set_option linter.unusedSimpArgs false
set_option linter.unusedSectionVars false
section
namespace Go.M
theorem AB{α:Type}(p:Prop)[Decidable p](a b:α):cond (decide p) a b=if p then a else b:=by
 simp_all
theorem AR{x:Int}(h1: -9223372036854775808≤x)(h2:x<9223372036854775808):A6 x=x:=by
 grind[A6,IntKind.wrap,IntKind.bits,IntKind.signed]
theorem sM{n:Nat}(h:n<9223372036854775808):A6 (n:Int)=n:=AR (by omega) (by omega)
theorem nQ(n:Nat):(BitVec.ofInt 64 (n:Int)).toNat=n%2^64:=by
 rfl
theorem aU{n:Nat}(h:n<2^63):IntKind.wrap .i64 (n:Int)=n:=sM (by omega)
theorem p7{a b:Nat}(ha:a<2^63)(hb:b<2^63):ZY .i64 a b=((a &&& b:Nat):Int):=by
 grind[ZY,BitVec.ofInt,IntKind.bits,BitVec.toNat_and,nQ,Nat.mod_eq_of_lt,aU,Nat.lt_of_le_of_lt,Nat.and_le_left]
theorem Aw{n:Nat}(h:n<2^64):n<Aq:=AHG h fG
theorem BJ{α:Type}{l:List α}{i:Nat}{d:α}(h:i<l.length):l.getD ((i:Int).toNat) d=l[i]:=by
 simp_all
theorem drop_cons{α:Type}{l:List α}{i:Nat}(h:i<l.length):l.drop i=l[i]::l.drop (i+1):=(List.getElem_cons_drop h).symm
theorem DF:IQ=68719476736:=rfl
end Go.M
end
section
namespace Go.M
def BC(x a b:Int):Bool:=decide (a≤x∧x≤b)
theorem MR(x a b:Int):KD x a b=some ((BC x a b,()),()):=by
 unfold KD BC;grind
theorem Ac(x a b:Int):Aj x a b=some ((BC x a b,()),()):=MR x a b
def C4(x:AA8):Bool:=BC (x.1.length:Int) 1 8&&(BC x.2.1 1 4&&x.1.all fun d=>BC d 0 7)
theorem S2{l:AAG}{c:Int}(hl:l.length≤2^40):∀(n i:Nat),i≤l.length→l.length-i<n→IM n i l c=some (((l.drop i).all fun d=>BC d 0 7,()),())
 |0,i,_,h=>by omega
 |n+1,i,hi,h=>by
  simp only[IM,OS,AB];by_cases hc:i<l.length
  ·rw[AEv (by omega),AEv (by omega),BJ hc,MR,AR (by omega) (by omega),drop_cons hc]
   simp only[AE9,AHw];cases hb:BC l[i] 0 7 with
   |false=>simp
   |true=>
    simp only[AE7,AFM,AGJ];rw[show(((i:Nat):Int)+1)=((i+1:Nat):Int)by omega,S2 hl n (i+1) (by omega) (by omega)]
  grind
theorem M4{x:AA8}(hl:x.1.length≤2^40):I5 x=some ((C4 x,()),()):=by
 unfold I5 OO C4;simp only[MR,AE9];cases BC (x.1.length:Int) 1 8 with
 |false=>simp
 |true=>
  cases BC x.2.1 1 4 with
  |false=>simp
  |true=>
   grind[S2,Aq,Aw]
theorem S6{l:AAG}{c:Int}(hl:l.length≤2^40):∀(n i:Nat),i≤l.length→l.length-i<n→
  H0 n l l.length i l c=some ((((l.drop i).all fun d=>BC d 0 7)&&(BC (l.length:Int) 1 8&&BC c 1 4),()),())
 |0,i,_,h=>by omega
 |n+1,i,hi,h=>by
  simp only[H0,OX,AB];by_cases hc:i<l.length
  ·rw[AEv (by omega),AEv (by omega),BJ hc,Ac,AR (by omega) (by omega),drop_cons hc]
   simp only[AE9,AHw];cases hb:BC l[i] 0 7 with
   |false=>simp
   |true=>
    simp only[AE7,AFM,AGJ];rw[show(((i:Nat):Int)+1)=((i+1:Nat):Int)by omega,S6 hl n (i+1) (by omega) (by omega)]
  ·rw[AE4 (by omega)]
   have:i=l.length:=by omega
   subst this;simp only[Ac,AE9,AIJ,List.all_nil,AGJ];grind
theorem IA{x:AA8}(hl:x.1.length≤2^40):De x=some ((C4 x,()),()):=by
 unfold De OP C4;have:=S6 (l:=x.1) (c:=x.2.1) hl Aq 0 (by omega) (Aw (by omega));grind
theorem EG{x:AA8}(h:C4 x=true):1≤x.1.length∧x.1.length≤8∧1≤x.2.1∧x.2.1≤4∧ ∀d∈x.1,0≤d∧d≤7:=by
 simp only[C4,BC,AE1,AFS,AHR]at h;grind
end Go.M
end
section
namespace Go.M
def Bytes(b:AAG):Prop:= ∀c∈b,0≤c∧c<256
end Go.M
end
section
namespace Go.M
theorem wf_u8{c:Int}(h:(Go.Lit.int .u8 c).wf=true):0≤c∧c<256:=by
 simp only[Go.Lit.wf,AE1,AFS]at h;have h1:Go.IntKind.min .u8=0:=rfl;have h2:Go.IntKind.max .u8=255:=rfl;omega
theorem wf_i64{c:Int}(h:(Go.Lit.int .i64 c).wf=true): -9223372036854775808≤c∧c<9223372036854775808:=by
 simp only[Go.Lit.wf,AE1,AFS]at h;have h1:Go.IntKind.min .i64= -9223372036854775808:=rfl;simp_all;omega
end Go.M
end
section
namespace Go.M
abbrev Ev:Type:=Int×Int×List UInt8×Unit
abbrev Rdr:Type:=Int×Int×List Ev×Unit
def QP(x:Rdr):Bool:=BC x.1 1 31&&(BC x.2.1 1 61&&decide ((x.2.2.1.length:Int)≤120))
theorem XX(x:Rdr):U_ x=some ((QP x,()),()):=by
 grind[U_,QP,MR,BC]
theorem Rp(x:Rdr):NW x=some ((QP x,()),()):=XX x
end Go.M
end
section
namespace Go.M
def Me(code:AAG)(i:Int):Prop:=0≤i∧i≤code.length
theorem l6(x:Int):∃v:Int,ZY .i64 x 255=v∧0≤v∧v<256:=by
 refine⟨_,rfl,?_⟩;grind[ZY,BitVec.ofInt,Go.IntKind.bits,BitVec.toNat_and,Nat.lt_of_le_of_lt,Nat.and_le_right,aU]
section
variable{code:AAG} (hc:code.length≤2^30)
include hc
theorem Rv{i h:Int}(hi:Me code i):∃v i' h',IW code i h=some ((v,()),((code,i',h',()),()))∧0≤v∧v<256∧Me code i':=by
 unfold IW;simp only[AB];obtain⟨h0,h1⟩:=hi;split
 ·rename_i IV
  rw[AEv ⟨h0,IV⟩,AR (x:=i+1) (by omega) (by omega)];obtain⟨v,e,v0,v1⟩:=l6 (A6 (ZY .i64 (wX .i64 ((A6 (A6 (h*6364136223846793005)+1442695040888963407)).fdiv (2^33)) ((A6 (A6 (h*6364136223846793005)+1442695040888963407)).fdiv (2^45))) 255+A6 (code.getD i.toNat 0)));exact⟨v,i+1,_,by rw[e],v0,v1,by omega,by omega⟩
 ·obtain⟨v,e,v0,v1⟩:=l6 (wX .i64 ((A6 (A6 (h*6364136223846793005)+1442695040888963407)).fdiv (2^33)) ((A6 (A6 (h*6364136223846793005)+1442695040888963407)).fdiv (2^45)))
  exact⟨v,i,_,by rw[e],v0,v1,h0,h1⟩
theorem NA{i h n:Int}(hi:Me code i)(hn:n≤2^40):∃v i' h',Fo n code i h=some ((v,()),((code,i',h',()),()))∧0≤v∧(0<n→v<n)∧(n≤0→v=0)∧Me code i':=by
 unfold Fo;simp only[AB];split
 ·grind
 ·split
  ·obtain⟨v,i1,h1,e,v0,v1,hi1⟩:=Rv hc (h:=h) hi
   rw[e];simp only[AE9];rw[AE4 (by omega),AH5 v0];exact⟨_,i1,h1,rfl,Int.emod_nonneg _ (by omega),fun _=>Int.emod_lt_of_pos _ (by omega),by omega,hi1⟩
  ·obtain⟨v1,i1,h1,e1,a1,b1,hi1⟩:=Rv hc (h:=h) hi
   obtain⟨v2,i2,h2,e2,a2,b2,uV⟩:=Rv hc (h:=h1) hi1;obtain⟨v3,i3,h3,e3,a3,b3,hi3⟩:=Rv hc (h:=h2) uV;obtain⟨v4,i4,h4,e4,a4,b4,hi4⟩:=Rv hc (h:=h3) hi3;rw[e1];simp only[AE9];rw[e2];simp only[AE9];rw[e3];simp only[AE9];rw[e4];simp only[AE9];rw[AR (x:=v1*16777216) (by omega) (by omega),AR (x:=v2*65536) (by omega) (by omega),AR (x:=v3*256) (by omega) (by omega),AR (x:=v1*16777216+v2*65536) (by omega) (by omega),
    AR (x:=v1*16777216+v2*65536+v3*256) (by omega) (by omega),AR (by omega) (by omega),AE4 (by omega),AH5 (by omega)]
   exact⟨_,i4,h4,rfl,Int.emod_nonneg _ (by omega),fun _=>Int.emod_lt_of_pos _ (by omega),by omega,hi4⟩
theorem mm{i h n:Int}(hi:Me code i)(hn:n≤2^40):∃v i' h',QQ n code i h=some ((v,()),((code,i',h',()),()))∧Me code i':=by
 unfold QQ;obtain⟨v,i1,h1,e,_,_,_,hi1⟩:=NA hc (h:=h) hi hn;rw[e];exact⟨_,i1,h1,rfl,hi1⟩
theorem SN{i h:Int}{l:AAG}(hi:Me code i)(hl:l≠[])(hn:l.length≤2^30):∃v i' h',H5 l code i h=some ((v,()),((code,i',h',()),()))∧v∈l∧Me code i':=by
 unfold H5;have hp:=List.length_pos_iff.2 hl;obtain⟨v,i1,h1,e,v0,v1,_,hi1⟩:=NA hc (h:=h) (n:=l.length) hi (by omega);grind
omit hc in
theorem lh{n:Nat}:∀(m i:Nat) (h:Int),i≤code.length→code.length-i<m→ ∃h',Kk m code h i=some (((),()),((code,0,h',()),()))
 |0,_,_,_,h=>by omega
 |m+1,i,h,hi,hm=>by
  simp only[Kk,Rr,AB];by_cases IV:i<code.length
  ·rw[AEv (by omega)]
   split
   ·rw[AEv (by omega),AR (x:=(i:Int)+1) (by omega) (by omega),show((i:Int)+1)=((i+1:Nat):Int)by omega]
    exact lh (n:=n) m (i+1) _ (by omega) (by omega)
   ·exact⟨_,rfl⟩
  ·rw[AE4 (by omega)]
   exact⟨_,rfl⟩
theorem rM:∃h',Sc code=some (((),()),((code,0,h',()),())):=by
 unfold Sc RR;exact lh (n:=0) Aq 0 _ (by omega) (Aw (by omega))
def Zm(l:AAG)(c:Int):Prop:=3≤l.length∧l.length≤7∧1≤c∧c≤3∧ ∀d∈l,0≤d∧d≤4
omit hc in
theorem Zm.ok{l:AAG}{c:Int}(h:Zm l c):C4 (l,c,())=true:=by
 obtain⟨h1,h2,h3,h4,h5⟩:=h;simp only[C4,BC,AE1,AFS,AHR];exact⟨by omega,by omega,fun d hd=>by have:=h5 d hd;omega⟩
theorem VK{N:Nat}(hN:3≤N∧N≤7){c:Int}(h1:1≤c∧c≤3){x1:Int}{x2:AAG}:∀(n k:Nat) (i h:Int) (acc:AAG),Me code i→k≤N→N-k<n→acc.length=k→(∀d∈acc,0≤d∧d≤4)→
  ∃l c' i' h',Fe n N k code i h x1 x2 c acc=some ((((),c',()),()),((code,i',h',()),l,()))∧Zm l c'∧Me code i'
 |0,_,_,_,_,_,_,h,_,_=>by omega
 |n+1,k,i,h,acc,hi,hk,hn,hacc,hd=>by
  simp only[Fe,MX,AB];by_cases IV:k<N
  ·rw[AEv (by omega)]
   obtain⟨v,i1,rR,e,v0,v1,_,hi1⟩:=NA hc (h:=h) (n:=5) hi (by omega);rw[e];simp only[AE9];rw[AEv (by rw[DF];omega),AR (by omega) (by omega),show((k:Int)+1)=((k+1:Nat):Int)by omega];have:=v1 (by omega);exact VK hN h1 n (k+1) i1 rR _ hi1 (by omega) (by omega) (by simp[hacc]) (fun d hdd=>by
    grind)
  ·rw[AE4 (by omega)]
   obtain⟨v,i1,rR,e,hi1⟩:=mm hc (h:=h) (n:=2) hi (by omega);rw[e];simp only[AE9];cases v
   ·exact⟨acc,c,i1,rR,rfl,⟨by omega,by omega,h1.1,h1.2,hd⟩,hi1⟩
   ·exact⟨acc,2,i1,rR,rfl,⟨by omega,by omega,by omega,by omega,hd⟩,hi1⟩
theorem aL{i h:Int}(hi:Me code i):∃l c' i' h',J_ code i h=some ((((),c',()),()),((code,i',h',()),l,()))∧Zm l c'∧Me code i':=by
 unfold J_ MB;obtain⟨v,i1,h1,e1,a1,b1,_,hi1⟩:=NA hc (h:=h) (n:=3) hi (by omega);rw[e1];simp only[AE9];obtain⟨w,i2,h2,e2,a2,b2,_,uV⟩:=NA hc (h:=h1) (n:=5) hi1 (by omega);rw[e2];simp only[AE9];have:=b1 (by omega);have:=b2 (by omega);rw[AR (by omega) (by omega),AR (by omega) (by omega)];obtain⟨N,hN⟩:∃N:Nat,3+w=(N:Int):=⟨(3+w).toNat,by omega⟩;rw[hN];exact VK hc (by omega) (by omega) Aq 0 i2 h2 [] uV (by omega) (Aw (by omega)) rfl (by simp)
theorem nE{i h:Int}(hi:Me code i):∃l c' i' h',Ng code i h=some ((((),c',()),()),((code,i',h',()),l,()))∧l.length≤9∧Me code i':=by
 unfold Ng;obtain⟨l,c,i1,h1,e1,hg,hi1⟩:=aL hc (h:=h) hi;rw[e1];simp only[AE9];obtain⟨v,i2,h2,e2,a2,b2,_,uV⟩:=NA hc (h:=h1) (n:=20) hi1 (by omega);rw[e2];simp only[AE9];obtain⟨g1,g2,g3,g4,g5⟩:=hg;cases v==0 with
 |true=>
  simp only[AGV];obtain⟨p,i3,h3,e3,hp,hi3⟩:=SN hc (h:=h2) (l:=[0,4,5]) uV (by simp) (by simp);grind
 |false=>
  simp only[AFM];cases v==1 with
  |true=>
   simp only[AGV];obtain⟨p,i3,h3,e3,hp,hi3⟩:=SN hc (h:=h2) (l:=[-1,7,8]) uV (by simp) (by simp);grind
  |false=>
   simp only[AFM];cases v==2 with
   |true=>
    simp only[AGV];obtain⟨p,i3,h3,e3,hp,hi3⟩:=SN hc (h:=h2) (l:=[0,8,9]) uV (by simp) (by simp);rw[e3];simp only[AE9];simp at hp;rw[AEv (by rw[DF];omega)];grind
   |false=>grind
end
end Go.M
end
section
namespace Go.M.H
open Go.M
def AX{α:Type}(f:α→Nat):List α→Nat
 |[]=>0
 |x::l=>1+f x+AX f l
theorem AU{α:Type}{f:α→Nat}:∀{l:List α},l.length≤AX f l
 |[]=>AGh _
 |x::l=>by
  have:=AU (f:=f) (l:=l);grind[AX,List.length_cons]
theorem AW{α:Type}{f:α→Nat}{x:α}:∀{l:List α},x∈l→f x≤AX f l
 |y::l,h=>by
  simp only[AX];rcases AGD.1 h with rfl|h
  ·omega
  ·have:=AW (f:=f) h
   omega
abbrev ACd:Type:=List Int
abbrev Cb(x:ACd):Nat:=x.length
abbrev AD:Type:=Int×Int×Bool×List UInt8×Unit
abbrev fB:Go.Fw.Ty:= .cons (.int .i64) (.cons (.int .i64) (.cons .bool (.cons .str (.unit))))
def Ap(x:AD):Nat:=x.2.2.2.1.length
abbrev AG:Type:=List AD×List AD×Int×Unit
abbrev tW:Go.Fw.Ty:= .cons (.sl fB) (.cons (.sl fB) (.cons (.int .i64) (.unit)))
def Am(x:AG):Nat:=AX Ap x.1+AX Ap x.2.1
abbrev Bc:Type:=List Int×Bool×Int×Unit
abbrev od:Go.Fw.Ty:= .cons (.sl (.int .i64)) (.cons .bool (.cons (.int .i64) (.unit)))
def CP(x:Bc):Nat:=x.1.length
abbrev AH:Type:=List Bc×Int×Unit
abbrev AY:Type:=List UInt8×List Int×Bool×Unit
abbrev ks:Go.Fw.Ty:= .cons .str (.cons (.sl (.int .i64)) (.cons .bool (.unit)))
def BV(x:AY):Nat:=x.1.length+x.2.1.length
abbrev AL:Type:=Int×List AY×Unit
abbrev aR:Go.Fw.Ty:= .cons (.int .i64) (.cons (.sl ks) (.unit))
def Ao(x:AL):Nat:=AX BV x.2.1
abbrev Ab:Type:=Int×Int×List Int×List AD×Bool×List AAG×Unit
abbrev wg:Go.Fw.Ty:= .cons (.int .i64) (.cons (.int .i64) (.cons (.sl (.int .i64)) (.cons (.sl fB) (.cons .bool (.cons (.sl (.sl (.int .i64))) (.unit))))))
def Bt(x:Ab):Nat:=x.2.2.1.length+AX Ap x.2.2.2.1+AX Cb x.2.2.2.2.2.1
abbrev Ar:Type:=Int×Int×List UInt8×Unit
abbrev tu:Go.Fw.Ty:= .cons (.int .i64) (.cons (.int .i64) (.cons .str (.unit)))
def Bu(x:Ar):Nat:=x.2.2.1.length
abbrev AN:Type:=Int×Int×List Ar×Unit
abbrev qN:Go.Fw.Ty:= .cons (.int .i64) (.cons (.int .i64) (.cons (.sl tu) (.unit)))
def AZ(x:AN):Nat:=AX Bu x.2.2.1
abbrev Aa:Type:=Int×Bool×Int×Int×Bool×List UInt8×Unit
abbrev AM:Type:=Int×List UInt8×Bool×Unit
abbrev yc:Go.Fw.Ty:= .cons (.int .i64) (.cons .str (.cons .bool (.unit)))
def DJ(x:AM):Nat:=x.2.1.length
abbrev AA:Type:=List Int×Int×List AG×List Int×List Bc×Int×List AL×List Ab×List AN×List AM×Bool×Unit
abbrev Ug:Go.Fw.Ty:= .cons (.sl (.int .i64)) (.cons (.int .i64) (.cons (.sl tW) (.cons (.sl (.int .i64)) (.cons (.sl od) (.cons (.int .i64) (.cons (.sl aR) (.cons (.sl wg) (.cons (.sl qN) (.cons (.sl yc) (.cons .bool (.unit)))))))))))
def B_(x:AA):Nat:=x.1.length+AX Am x.2.2.1+x.2.2.2.1.length+AX CP x.2.2.2.2.1+AX Ao x.2.2.2.2.2.2.1+AX Bt x.2.2.2.2.2.2.2.1+AX AZ x.2.2.2.2.2.2.2.2.1+AX DJ x.2.2.2.2.2.2.2.2.2.1
abbrev An:Type:=Int×Int×Int×Int×List UInt8×Unit
end Go.M.H
end
section
namespace Go.M
def EO(p:Nat→Bool)(i:Nat):Nat→Bool
 |0=>true
 |d+1=>p i&&EO p (i+1) d
theorem H3{L:Nat→Int→Option (ABS×Unit)}{len:Nat}{p:Nat→Bool}{fin:Bool}(h1:∀n (i:Nat),i<len→L (n+1) i=cond (p i) (L n ((i+1:Nat):Int)) (some ((false,()),())))(h2:∀n,L (n+1) (len:Int)=some ((fin,()),())):
  ∀d n i,i+d=len→d<n→L n i=some ((EO p i d&&fin,()),())
 |0,n,i,hd,h=>by
  obtain⟨m,rfl⟩:∃m,n=m+1:=⟨n-1,by omega⟩;have:i=len:=by omega
  subst this;rw[h2];rfl
 |d+1,n,i,hd,h=>by
  obtain⟨m,rfl⟩:∃m,n=m+1:=⟨n-1,by omega⟩;rw[h1 m i (by omega)];simp only[EO];cases p i with
  |false=>rfl
  |true=>rw[AGV,H3 h1 h2 d m (i+1) (by omega) (by omega)];rfl
theorem Ll{p:Nat→Bool}:∀{d i:Nat},EO p i d=true→ ∀j,i≤j→j<i+d→p j=true
 |0,i,_,j,h1,h2=>by omega
 |d+1,i,h,j,h1,h2=>by
  simp only[EO,AE1]at h;by_cases hj:j=i
  ·simp_all
  ·exact Ll h.2 j (by omega) (by omega)
theorem bw{p:Nat→Bool}:∀{d i:Nat},(∀j,i≤j→j<i+d→p j=true)→EO p i d=true
 |0,_,_=>rfl
 |d+1,i,h=>by
  simp only[EO,AE1];exact⟨h i (by omega) (by omega),bw fun j h1 h2=>h j (by omega) (by omega)⟩
def Q5(x:Int):Int:=x.tdiv 4294967296
def Bd(x:Int):Bool:=BC (Q5 x) 1 30&&BC (x.tmod 4294967296) 1 60
def Ah(x:Int):Int:=if Bd x then Q5 x else 0
theorem i_{x:Int}(h: -9223372036854775808≤x∧x<9223372036854775808):A6 (x.tdiv 4294967296)=Q5 x:=by
 grind[Q5,AR,Int.lt_or_le,Int.neg_tdiv,Int.tdiv_eq_ediv_of_nonneg]
theorem YT{x:Int}(h:Bd x=true):0<x∧x<2^40:=by
 simp only[Bd,BC,AE1,AFS]at h;grind[Q5,Int.lt_or_le,Int.neg_tdiv,Int.tdiv_eq_ediv_of_nonneg,Int.tmod_eq_emod_of_nonneg]
def Cp(x:Int):Prop:= -9223372036854775808≤x∧x<9223372036854775808
theorem Kx{x:Int}(h:Cp x):Cy x=some ((Bd x,()),()):=by
 unfold Cy E5 Pd;rw[i_ h];grind[Ac,Bd,BC,Q5]
theorem Dc{x:Int}(h:Cp x):Dj x=some ((Ah x,()),()):=by
 unfold Dj Ah;rw[Kx h,i_ h];grind
theorem U9{x:Int}:(Bd x=true→1≤Ah x∧Ah x≤30)∧(Bd x=false→Ah x=0):=by
 constructor
 ·intro h
  rw[Ah,AEv h];simp only[Bd,BC,AE1,AFS]at h;omega
 grind[Ah]
def f_(l:AAG)(hi:Int)(i:Nat):Bool:=BC (l.getD i 0) 0 hi&&(i==0||decide (l.getD (i-1) 0<l.getD i 0))
def cr(l:AAG)(hi:Int):Bool:=EO (f_ l hi) 0 l.length
theorem cP{l:AAG}{hi:Int}(hl:l.length≤2^40):SV l 0 hi=some ((cr l hi,()),()):=by
 unfold SV RO cr;rw[←AIE (EO _ _ _)];refine H3 (L:=fun n i=>I9 n l 0 hi i) (len:=l.length) (p:=f_ l hi) (fin:=true) (fun n i JU=> ?_) (fun n=> ?_) l.length Aq 0 (by omega) (Aw (by omega))
 ·simp only[I9,NL,AB]
  rw[AEv (by omega),AEv (by omega),MR,AR (x:=(i:Int)+1) (by omega) (by omega)];simp only[AE9,AFL,f_];cases BC (l.getD i 0) 0 hi with
  |false=>rfl
  |true=>
   simp only[AE7,AFM,AGJ];by_cases h0:i=0
   ·simp_all
   ·rw[AEv (by omega),AR (by omega) (by omega),AEv (by omega),AEv (by omega)]
    have h1:((i:Int)-1).toNat=i-1:=by omega
    have h2:(i==0)=false:=by simp_all
    rw[h1,h2,AHd];grind
 ·simp only[I9,NL,AB]
  simp_all
theorem S8{l:AAG}{hi:Int}(hl:l.length≤2^40):L9 l hi=some ((cr l hi,()),()):=by
 unfold L9 P1 cr;rw[←AIE (EO _ _ _)];refine H3 (L:=fun n i=>G1 n l hi l l.length i) (len:=l.length) (p:=f_ l hi) (fin:=true) (fun n i JU=> ?_) (fun n=> ?_) l.length Aq 0 (by omega) (Aw (by omega))
 ·simp only[G1,K8,AB]
  rw[AEv (by omega),AEv (by omega),Ac,AR (x:=(i:Int)+1) (by omega) (by omega)];simp only[AE9,AFL,f_];cases BC (l.getD i 0) 0 hi with
  |false=>rfl
  |true=>
   simp only[AE7,AFM,AGJ];by_cases h0:i=0
   ·simp_all
   ·rw[AEv (by omega),AR (by omega) (by omega),AEv (by omega)]
    have h1:((i:Int)-1).toNat=i-1:=by omega
    have h2:(i==0)=false:=by simp_all
    rw[h1,h2,AHd];grind
 ·simp only[G1,K8,AB]
  simp_all
theorem gx{l:AAG}{hi:Int}(h:cr l hi=true):∀x∈l,0≤x∧x≤hi:=fun x hx=>by
 obtain⟨i,JU,rfl⟩:=AHD hx;have:=Ll h i (by omega) (by omega);simp only[f_,BC,AE1,AFS]at this;simp_all
theorem lS{l:AAG}{hi:Int}(h:cr l hi=true):∀i,i<l.length→(i:Int)≤l.getD i 0
 |0,hl=>by
  have:=Ll h 0 (by omega) (by omega);simp only[f_,BC,AE1,AFS]at this;omega
 |i+1,hl=>by
  have h1:=lS h i (by omega);have:=Ll h (i+1) (by omega) (by omega);simp only[f_,AE1,AHN,AFS]at this;grind
theorem rJ{l:AAG}{hi:Int}(h:cr l hi=true)(h0:0≤hi+1):(l.length:Int)≤hi+1:=by
 by_cases hl:l.length=0
 ·omega
 ·have h1:=lS h (l.length-1) (by omega)
  have h2:=gx h (l.getD (l.length-1) 0) (by
   grind)
  omega
def BA(c:AA8)(l:AAG):Bool:=C4 c&&cr l ((c.1.length:Int)-1)
theorem ZA{c:AA8}{l:AAG}(hc:c.1.length≤2^40)(hl:l.length≤2^40):Of c l=some ((BA c l,()),()):=by
 unfold Of BA;rw[show(c.1,c.2.1,())=c from rfl,M4 hc,AR (by omega) (by omega)];simp only[AE9];cases C4 c with
 |false=>rfl
 |true=>
  rw[AGV,cP hl];rfl
theorem C5{c:AA8}{l:AAG}(hc:c.1.length≤2^40)(hl:l.length≤2^40):C1 c l=some ((BA c l,()),()):=by
 unfold C1 BA;rw[show(c.1,c.2.1,())=c from rfl,IA hc,AR (by omega) (by omega)];simp only[AE9];cases C4 c with
 |false=>rfl
 |true=>
  rw[AGV,S8 hl];rfl
theorem WS{c:AA8}{l:AAG}(h:BA c l=true):C4 c=true∧c.1.length≤8∧l.length≤8∧(∀x∈l,0≤x∧x<c.1.length)∧ ∀d∈c.1,0≤d∧d≤7:=by
 simp only[BA,AE1]at h;obtain⟨k1,k2,k3,k4,k5⟩:=EG h.1;have h1:=rJ h.2 (by omega);exact⟨h.1,k2,by omega,fun x hx=>by have:=gx h.2 x hx;omega,k5⟩
theorem lg{l:AAG}{x:Int}(hl:l.length≤2^40):∀(n i:Nat),i≤l.length→l.length-i<n→(∀y∈l.take i,y≠x)→
  ∃r:Int,EH n l x l.length i=some ((r,()),())∧decide (r≥0)=l.contains x
 |0,_,_,h,_=>by omega
 |n+1,i,hi,h,hx=>by
  simp only[EH,Ju,AB];by_cases hc:i<l.length
  ·rw[AEv (by omega),AEv (by omega),BJ hc,AR (by omega) (by omega)]
   by_cases he:x=l[i]
   ·simp_all
   ·obtain⟨r,e1,e2⟩:=lg hl n (i+1) (by omega) (by omega) (fun y hy=>by
     rw[AHO hc]at hy;rcases AGf.1 hy with hy|hy
     ·exact hx y hy
     grind)
    grind
  ·rw[AE4 (by omega)]
   grind
theorem Fz{l:AAG}{x:Int}(hl:l.length≤2^40):BH l x=some ((l.contains x,()),()):=by
 unfold BH Jn J6;obtain⟨r,e1,e2⟩:=lg (x:=x) hl Aq 0 (by omega) (Aw (by omega)) (by simp);simp_all
def Wo(c:AAG):List Int→List Int→List Int
 |[],acc=>acc
 |n::l,acc=>Wo c l (if acc.contains (c.getD n.toNat 0)then acc else acc++[c.getD n.toNat 0])
def Tj(c:AAG)(l:AAG):Nat:=(Wo c l []).length
theorem RG{c:AAG}{q:Int}{l:AAG}(hl:l.length≤8)(hm:∀x∈l,0≤x∧x<c.length):∀(n i:Nat) (acc:AAG),i≤l.length→l.length-i<n→acc.length≤i→
  Js n l l.length i c q acc=some ((((Wo c (l.drop i) acc).length:Int),()),())
 |0,i,_,_,h,_=>by omega
 |n+1,i,acc,hi,h,ha=>by
  simp only[Js,QH,AB];by_cases hc:i<l.length
  ·have hx:=hm _ (AFj hc)
   rw[AEv (by omega),AEv (by omega),BJ hc,drop_cons hc]
   generalize l[i]=x at hx
   rw[AEv (by omega),Fz (by omega),AR (by omega) (by omega),show((i:Int)+1)=((i+1:Nat):Int)by omega];simp only[AE9,Wo];cases pY:acc.contains (c.getD x.toNat 0)with
   |true=>
    simp only[AE7,AFM,AHL];exact RG hl hm n (i+1) acc (by omega) (by omega) (by omega)
   |false=>
    simp only[AHQ,AGV,AE6,AGn];rw[AEv (by omega),AEv (by rw[DF];omega)];exact RG hl hm n (i+1) _ (by omega) (by omega) (by simp_all)
  ·rw[AE4 (by omega)]
   grind[Wo]
theorem bf{c:AA8}{l:AAG}(hc:c.1.length≤2^40)(hl:l.length≤2^40):Qb c l=some ((if BA c l then(Tj c.1 l:Int)else-1,()),()):=by
 unfold Qb QI;rw[show(c.1,c.2.1,())=c from rfl,C5 hc hl];simp only[AE9];cases h:BA c l with
 |false=>rfl
 |true=>
  obtain⟨k1,k2,k3,k4,k5⟩:=WS h;grind[RG,Aq,Aw,Tj]
theorem kf{s:List Bool}{k j:Nat}{b:Bool}(h:k<s.length):(s.set k b).getD j false=if k=j then b else s.getD j false:=by
 grind
theorem RH{c:AAG}{q:Int}{l:AAG}(hl:l.length≤8)(hd:∀d∈c,0≤d∧d≤7)(hm:∀x∈l,0≤x∧x<c.length):∀(n i:Nat) (acc:AAG) (s:List Bool),i≤l.length→l.length-i<n→acc.length≤i→s.length=8→
  (∀j:Nat,j<8→s.getD j false=acc.contains (j:Int))→
  Jq n l acc.length i c q s=some ((((Wo c (l.drop i) acc).length:Int),()),())
 |0,i,_,_,_,h,_,_,_=>by omega
 |n+1,i,acc,s,hi,h,ha,hs,hj=>by
  simp only[Jq,QJ,AB];by_cases hc:i<l.length
  ·have hx:=hm _ (AFj hc)
   rw[AEv (by omega),AEv (by omega),BJ hc,drop_cons hc]
   generalize l[i]=x at hx
   rw[AEv (by omega)];have AFY:0≤c.getD x.toNat 0∧c.getD x.toNat 0≤7:=by
    simp_all
   simp only[Wo]
   generalize c.getD x.toNat 0=d at AFY
   rw[AEv (by omega),AR (x:=(i:Int)+1) (by omega) (by omega),show((i:Int)+1)=((i+1:Nat):Int)by omega];have hsd:s.getD d.toNat false=acc.contains d:=by
    grind
   rw[hsd];cases pY:acc.contains d with
   |true=>
    simp only[AE7,AFM,AHL];exact RH hl hd hm n (i+1) acc s (by omega) (by omega) (by omega) hs hj
   |false=>
    simp only[AHQ,AGV,AE6,AGn];rw[AEv (by omega),AR (by omega) (by omega)];have:=RH (q:=q) hl hd hm n (i+1) (acc++[d]) (s.set d.toNat true) (by omega) (by omega) (by simp_all) (by simp_all) (fun j hj8=>by
     rw[kf (by omega),hj j hj8];grind)
    simp_all
  ·rw[AE4 (by omega)]
   grind[Wo]
theorem Zu{c:AA8}{l:AAG}(h:BA c l=true):Qv c l=some (((Tj c.1 l:Int),()),()):=by
 obtain⟨k1,k2,k3,k4,k5⟩:=WS h;unfold Qv Qk;have:=RH (c:=c.1) (q:=c.2.1) k3 k5 k4 Aq 0 [] (List.replicate 8 false) (by omega) (Aw (by omega)) (by simp) (by simp) (fun j hj=>by
  grind)
 grind[Tj]
def holds(c:AA8)(l:AAG):Bool:=BA c l&&decide ((Tj c.1 l:Int)≥c.2.1)
theorem VD{c:AA8}{l:AAG}(hc:c.1.length≤2^40)(hl:l.length≤2^40):PZ c l=some ((holds c l,()),()):=by
 unfold PZ holds;rw[show(c.1,c.2.1,())=c from rfl,ZA hc hl];simp only[AE9];cases h:BA c l with
 |false=>rfl
 |true=>
  rw[AGV,Zu h];rfl
theorem Df{c:AA8}{l:AAG}(hc:c.1.length≤2^40)(hl:l.length≤2^40):DT c l=some ((holds c l,()),()):=by
 unfold DT holds;rw[show(c.1,c.2.1,())=c from rfl,C5 hc hl,bf hc hl];simp only[AE9];cases h:BA c l<;>rfl
theorem Qa{c:AA8}{l:AAG}(h:holds c l=true):BA c l=true:=by
 simp only[holds,AE1]at h;exact h.1
end Go.M
end
section
namespace Go.M
open Go.M.H (Bc AH AY AL AX AU AW CP BV Ao od ks aR)
abbrev BN:Type:=List Int×Int×Unit
def FZ:Bc:=([],false,0,())
def eg(c:BN)(e:Bc):Bool:=holds c e.1&&(BC e.2.2.1 0 60&&(e.2.1||e.2.2.1==0))
theorem cT{c:BN}{e:Bc}(hc:c.1.length≤2^40)(hl:e.1.length≤2^40):Sn c e=some ((eg c e,()),()):=by
 unfold Sn eg;rw[show(c.1,c.2.1,())=c from rfl,Df hc hl];grind[Ac,holds,BC]
def nh(c:BN)(l:List Bc)(i:Nat):Bool:=
 eg c (l.getD i FZ)&& !((l.getD i FZ).2.1&&(decide (i+1=l.length)||(decide (0<i)&& !(l.getD (i-1) FZ).2.1)))
def YF(r:AH):Bool:=r.2.1==0||(Bd r.2.1&&decide (Ah r.2.1≤r.1.length))
def Mw(c:BN)(r:AH):Bool:=C4 c&&(decide (r.1.length≤30)&&(YF r&&EO (nh c r.1) 0 r.1.length))
theorem CE{α:Type}{l:List α}{i:Nat}{d:α}(h:i<l.length):l.getD i d∈l:=by
 simp_all
theorem I6{c:BN}{r:AH}(hc:c.1.length≤2^40)(hl:AX CP r.1≤2^30)(ht:Cp r.2.1):HR c r=some ((Mw c r,()),()):=by
 have sS:=AU (f:=CP) (l:=r.1);have oD:HQ Aq r.1 r.1.length 0 c.1 c.2.1 r.1 r.2.1=some ((EO (nh c r.1) 0 r.1.length&&(C4 c&&(decide (r.1.length≤30)&&YF r)),()),()):=by
  refine H3 (L:=fun n i=>HQ n r.1 r.1.length i c.1 c.2.1 r.1 r.2.1) (len:=r.1.length) (p:=nh c r.1) (fin:=C4 c&&(decide (r.1.length≤30)&&YF r)) (fun n i hi=> ?_) (fun n=> ?_) r.1.length Aq 0 (by omega) (Aw (by omega))
  ·have hm:=AW (f:=CP) (CE (d:=FZ) hi)
   simp only[CP]at hm;simp only[HQ,NI,AB];rw[AEv (by omega),AEv (by omega),show(c.1,c.2.1,())=c from rfl,AFL,show(([],false,0,()):Bc)=FZ from rfl];rw[show((r.1.getD i FZ).1,(r.1.getD i FZ).2.1,(r.1.getD i FZ).2.2.1,())=r.1.getD i FZ from rfl,cT hc (by omega),AR (x:=(i:Int)+1) (by omega) (by omega),
    AR (x:=(r.1.length:Int)-1) (by omega) (by omega),AR (x:=(i:Int)-1) (by omega) (by omega),show((i:Int)+1)=((i+1:Nat):Int)by omega]
   simp only[AE9,nh];have e1:((i:Int)==(r.1.length:Int)-1)=decide (i+1=r.1.length):=by
    grind
   have e2:(((i:Int)-1).toNat)=i-1:=by omega
   grind
  ·simp only[HQ,NI]
   rw[show decide ((r.1.length:Int)<(r.1.length:Int))=false by simp,show(c.1,c.2.1,())=c from rfl,IA hc,Dc ht];simp only[AFM,AE9,Ac,YF];have e1:decide ((r.1.length:Int)≤30)=decide (r.1.length≤30):=by
    grind
   rw[e1];have e4:BC (Ah r.2.1) 1 (r.1.length:Int)=(Bd r.2.1&&decide (Ah r.2.1≤(r.1.length:Int))):=by
    have hr:=U9 (x:=r.2.1);unfold BC;grind
   grind
 grind[HR,Rc,Mw,C4,decide,YF,EO,nh]
def qG(b:Bool):Int:=if b then 1 else 0
theorem ZJ(b:Bool):R_ b=some ((qG b,()),()):=by cases b<;>rfl
end Go.M
end
section
namespace Go.M
open Go.M.H (Bc AH AY AL AX AU AW CP BV Ao od ks aR)
def Mt:AY:=([],[],false,())
def XN(c:BN)(e:AY):Bool:=decide (e.1.length≤40)&&(BA c e.2.1&&(e.2.2.1==holds c e.2.1))
def MS:List AY→Nat
 |[]=>0
 |e::l=>cond e.2.2.1 0 1+MS l
def le6(n:Nat):Bool:=decide (n≤6)
theorem uQ(o:Nat):decide ((o:Int)≤6)=le6 o:=by
 grind[le6]
def GW(c:BN)(w:AL):Bool:=C4 c&&(BC w.1 1 30&&(decide (w.2.1.length≤60)&&(w.2.1.all (XN c)&&le6 (MS w.2.1))))
theorem TG{c:BN}{ep:Int}{l:List AY}(hc:c.1.length≤2^40)(hl:AX BV l≤2^30):∀(n i o:Nat),i≤l.length→l.length-i<n→o≤i→
  H4 n o l l.length i c.1 c.2.1 ep l=some (((l.drop i).all (XN c)&&(C4 c&&(BC ep 1 30&&(decide (l.length≤60)&&le6 (o+MS (l.drop i))))),()),())
 |0,i,_,_,h,_=>by omega
 |n+1,i,o,hi,h,ho=>by
  have sS:=AU (f:=BV) (l:=l);simp only[H4,Oc];by_cases hcc:i<l.length
  ·have hm:=AW (f:=BV) (AFj hcc)
   rw[show decide ((i:Int)<(l.length:Int))=true by simp_all,AGV,AEv (by omega),BJ hcc,drop_cons hcc];have ih:=fun o=>TG (ep:=ep) hc hl n (i+1) o (by omega) (by omega)
   generalize l[i]=e at hm
   simp only[BV]at hm;rw[show(c.1,c.2.1,())=c from rfl,C5 hc (by omega),Df hc (by omega),ZJ,AR (x:=(i:Int)+1) (by omega) (by omega),show((i:Int)+1)=((i+1:Nat):Int)by omega];simp only[AE9,AHw,XN,MS,EL];have e40:decide ((e.1.length:Int)≤40)=decide (e.1.length≤40):=by
    grind
   rw[e40];cases hd:e.2.2.1 with
   |true=>
    rw[show A6 ((o:Int)+qG (!true))=(o:Int)by rw[AE7,show qG false=0 from rfl,Int.add_zero,AR (by omega) (by omega)],ih o (by omega)];grind
   |false=>
    rw[show A6 ((o:Int)+qG (!false))=((o+1:Nat):Int)by rw[AHQ,show qG true=1 from rfl,AR (by omega) (by omega)];omega,ih (o+1) (by omega)];grind
  ·have:i=l.length:=by omega
   subst this;rw[show decide (((l.length:Nat):Int)<(l.length:Int))=false by simp,show(c.1,c.2.1,())=c from rfl,IA hc];simp only[AFM,AE9,E5,Ac,AIJ,List.all_nil,MS,AHz,AGJ];grind[decide,uQ,C4,BC]
theorem GB{c:BN}{w:AL}(hc:c.1.length≤2^40)(hl:AX BV w.2.1≤2^30):EU c w=some ((GW c w,()),()):=by
 have sS:=AU (f:=BV) (l:=w.2.1);unfold EU OW GW;have h:=TG (ep:=w.1) hc hl Aq 0 0 (by omega) (Aw (by omega)) (by omega);grind
theorem dE{c:BN}{w:AL}(h:GW c w=true):C4 c=true∧(1≤w.1∧w.1≤30)∧w.2.1.length≤60∧ ∀e∈w.2.1,XN c e=true:=by
 simp only[GW,BC,AE1,AFS,AHR]at h;simp_all
end Go.M
end
section
namespace Go.M
open Go.M.H (AD AG Ab AM AA Bc AH AY AL AN Ar AX AU AW Ap Am Bt DJ B_ CP BV Ao AZ Bu)
theorem AC0(n k:Nat):decide ((n:Int)≤(k:Int))=decide (n≤k):=by
 simp_all
theorem vM(n k:Nat):decide ((n:Int)>(k:Int))= !decide (n≤k):=by
 grind
def CM(x:Int):Int:=cond (Bd x) (x.tmod 4294967296) 0
theorem Nb{x:Int}(h:Cp x):LF x=some ((CM x,()),()):=by
 grind[LF,CM,Kx,Bd]
abbrev GG:AD:=(0,0,false,[],())
def C8(e:AD):Bool:=Bd e.1&&(BC e.2.1 0 30&&((!decide (e.2.1>0)||decide (Ah e.1<e.2.1))&&(decide (e.2.2.2.1.length≤40)&&(!e.2.2.1||(decide (e.2.1>0)&&e.2.2.2.1==[])))))
theorem zn{x:Int}(h:BC x 0 30=true):(x==0)= !decide (x>0):=by
 simp only[BC,AFS]at h;grind
theorem K0{e:AD}(h:Cp e.1):Ie e=some ((C8 e,()),()):=by
 unfold Ie C8 EL;rw[Kx h,Ac,Dc h];simp only[AE9];rw[show decide ((e.2.2.2.1.length:Int)≤40)=decide (e.2.2.2.1.length≤40)from AC0 _ 40,show decide (e.2.1>Ah e.1)=decide (Ah e.1<e.2.1)from rfl];rcases AEw (BC e.2.1 0 30)with hi|hi
 all_goals grind[zn,Bd,decide,Ah]
def Tk(l:List AD):Bool:=EO (fun i=>C8 (l.getD i GG)) 0 l.length
def cU(l:List AD):Bool:=EO (fun i=>i==0||decide ((l.getD (i-1) GG).1<(l.getD i GG).1)) 0 l.length
def jX(l:List AD):Prop:= ∀e∈l,Cp e.1
theorem jX.getD{l:List AD}(h:jX l){i:Nat}(hi:i<l.length):Cp (l.getD i GG).1:=h _ (CE hi)
theorem Qe{l:List AD}(hl:l.length≤2^40)(h:jX l):J3 l=some ((Tk l,()),()):=by
 unfold J3 N8;have:=H3 (L:=fun n i=>FN n l l.length i) (len:=l.length) (p:=fun i=>C8 (l.getD i GG)) (fin:=true) (fun n i hi=>by
  simp only[FN,Jy,AB];rw[AEv (by omega),AEv (by omega),AR (by omega) (by omega),show((i:Int)+1)=((i+1:Nat):Int)by omega];simp only[AFL];rw[show((l.getD i (0,0,false,[],())).1,(l.getD i (0,0,false,[],())).2.1,(l.getD i (0,0,false,[],())).2.2.1,(l.getD i (0,0,false,[],())).2.2.2.1,())=l.getD i GG from rfl,K0 (h.getD hi)];simp_all) (fun n=>by
  simp only[FN,Jy,AB];simp_all) l.length Aq 0 (by omega) (Aw (by omega))
 rw[show((0:Nat):Int)=0 from rfl]at this;rw[this,AIE];rfl
theorem Nl{l:List AD}(hl:l.length≤2^40):G4 l=some ((cU l,()),()):=by
 unfold G4 LV;have:=H3 (L:=fun n i=>EI n l l l.length i) (len:=l.length) (p:=fun i=>i==0||decide ((l.getD (i-1) GG).1<(l.getD i GG).1)) (fin:=true) (fun n i hi=>by
  simp only[EI,IG,AB];rw[AEv (by omega),AEv (by omega),AR (x:=(i:Int)+1) (by omega) (by omega),show((i:Int)+1)=((i+1:Nat):Int)by omega];by_cases h0:i=0
  ·simp_all
  ·rw[AEv (by omega),AR (by omega) (by omega),AEv (by omega)]
   have h1:((i:Int)-1).toNat=i-1:=by omega
   have h2:(i==0)=false:=by simp_all
   rw[h1,h2,AFL,AHd];grind) (fun n=>by
  simp only[EI,IG,AB];simp_all) l.length Aq 0 (by omega) (Aw (by omega))
 rw[show((0:Nat):Int)=0 from rfl]at this;rw[this,AIE];rfl
def CO(s:AG):Bool:=(decide (s.1.length≤200)&&Tk s.1)&&((decide (s.2.1.length≤20)&&Tk s.2.1)&&(cU s.1&&BC s.2.2.1 0 30))
def ln(s:AG):Prop:=jX s.1∧jX s.2.1
theorem Dd{s:AG}(hl:Am s≤2^30)(h:ln s):Dn s=some ((CO s,()),()):=by
 have l1:=AU (f:=Ap) (l:=s.1);have l2:=AU (f:=Ap) (l:=s.2.1);unfold Am at hl;unfold Dn CO;rw[Qe (by omega) h.1,Qe (by omega) h.2,Nl (by omega),Ac,show decide ((s.1.length:Int)>200)= !decide (s.1.length≤200)from vM _ 200,show decide ((s.2.1.length:Int)>20)= !decide (s.2.1.length≤20)from vM _ 20];grind
end Go.M
end
section
namespace Go.M
open Go.M.H (AD AG Ab AM AA Bc AH AY AL AN Ar AX AU AW Ap Am Bt DJ B_ CP BV Ao AZ Bu Cb)
def Ru(l:List AD):Int:=cond (l.length==0) 0 (CM (l.getD (l.length-1) GG).1)
theorem Sz{m:Ab}(hl:m.2.2.2.1.length≤2^40)(h:jX m.2.2.2.1):ML m=some ((Ru m.2.2.2.1,()),()):=by
 unfold ML Ru;by_cases h0:m.2.2.2.1.length=0
 ·simp[h0]
 ·have e1:((m.2.2.2.1.length:Int)==0)=false:=by simp_all
  have e2:(m.2.2.2.1.length==0)=false:=by simp_all
  rw[e1,e2];simp only[AFM];rw[AR (by omega) (by omega),AEv (by omega),show((m.2.2.2.1.length:Int)-1).toNat=m.2.2.2.1.length-1 by omega,Nb (h.getD (by omega))];rfl
def ll(l:List AD)(ep by_:Int)(i:Nat):Bool:=C8 (l.getD i GG)&&((Ah (l.getD i GG).1==ep)&&decide ((l.getD i GG).2.1<by_))
def eY(l:List AD)(ep by_:Int):Bool:=EO (ll l ep by_) 0 l.length
def kD(c:BN)(l:List AAG):Bool:=EO (fun i=>BA c (l.getD i [])) 0 l.length
def GX(c:BN)(m:Ab):Bool:=C4 c&&(BC m.2.1 1 30&&(BC m.1 (m.2.1+1) 30&&(BA c m.2.2.1&&(cU m.2.2.2.1&&(eY m.2.2.2.1 m.2.1 m.1&&(kD c m.2.2.2.2.2.1&&((m.2.2.2.2.2.1.length:Int)==cond m.2.2.2.2.1 (Ru m.2.2.2.1) 0)))))))
theorem az{m:Ab}(hm:Bt m≤2^30)(h:jX m.2.2.2.1):N1 m=some ((eY m.2.2.2.1 m.2.1 m.1&&cU m.2.2.2.1,()),()):=by
 have l1:=AU (f:=Ap) (l:=m.2.2.2.1);unfold Bt at hm;unfold N1 QK;exact H3 (L:=fun n i=>IJ n m.2.2.2.1 m.2.2.2.1.length i m.1 m.2.1 m.2.2.1 m.2.2.2.1 m.2.2.2.2.1 m.2.2.2.2.2.1) (len:=m.2.2.2.1.length) (p:=ll m.2.2.2.1 m.2.1 m.1) (fin:=cU m.2.2.2.1) (fun n i hi=>by
  simp only[IJ,L8,AB,ll];rw[AEv (by omega),AEv (by omega),AR (by omega) (by omega),show((i:Int)+1)=((i+1:Nat):Int)by omega,AFL];rw[show((m.2.2.2.1.getD i (0,0,false,[],())).1,(m.2.2.2.1.getD i (0,0,false,[],())).2.1,(m.2.2.2.1.getD i (0,0,false,[],())).2.2.1,(m.2.2.2.1.getD i (0,0,false,[],())).2.2.2.1,())=m.2.2.2.1.getD i GG from rfl,K0 (h.getD hi),Dc (h.getD hi)];grind) (fun n=>by
  simp only[IJ,L8,AB];rw[AE4 (by omega),Nl (by omega)];rfl) m.2.2.2.1.length Aq 0 (by omega) (Aw (by omega))
theorem FA{c:BN}{m:Ab}(hc:c.1.length≤2^40)(hm:Bt m≤2^30)(h:jX m.2.2.2.1):FB c m=some ((GX c m,()),()):=by
 have l1:=AU (f:=Ap) (l:=m.2.2.2.1);have l2:=AU (f:=Cb) (l:=m.2.2.2.2.2.1);have hm2:=hm;unfold Bt at hm;have key:=H3 (L:=fun n i=>Hk n m.2.2.2.2.2.1 m.2.2.2.2.2.1.length i c.1 c.2.1 m.1 m.2.1 m.2.2.1 m.2.2.2.1 m.2.2.2.2.1 m.2.2.2.2.2.1) (len:=m.2.2.2.2.2.1.length) (p:=fun i=>BA c (m.2.2.2.2.2.1.getD i []))
  (fin:=C4 c&&(BC m.2.1 1 30&&(BC m.1 (m.2.1+1) 30&&(BA c m.2.2.1&&((eY m.2.2.2.1 m.2.1 m.1&&cU m.2.2.2.1)&&((m.2.2.2.2.2.1.length:Int)==cond m.2.2.2.2.1 (Ru m.2.2.2.1) 0)))))) (fun n i hi=>by
   have hwi:(m.2.2.2.2.2.1.getD i []).length≤AX Cb m.2.2.2.2.2.1:=AW (f:=Cb) (CE (d:=[]) hi);simp only[Hk,L0,AB];rw[AEv (by omega),AEv (by omega),AR (x:=(i:Int)+1) (by omega) (by omega),show((i:Int)+1)=((i+1:Nat):Int)by omega,AFL,show(c.1,c.2.1,())=c from rfl,C5 hc (by omega)];simp_all) (fun n=>by
   simp only[Hk,L0,AB];rw[AE4 (by omega),show(m.1,m.2.1,m.2.2.1,m.2.2.2.1,m.2.2.2.2.1,m.2.2.2.2.2.1,())=m from rfl,Sz (by omega) h,show(c.1,c.2.1,())=c from rfl,IA hc,C5 hc (by omega),az hm2 h];simp only[AE9,E5,Ac];rcases AEw (BC m.2.1 1 30)with hi|hi
   ·have uV:=hi
    simp only[BC,AFS]at uV;grind[AR,C4,BC,BA,eY,cU]
   simp_all) m.2.2.2.2.2.1.length Aq 0 (by omega) (Aw (by omega))
 unfold FB Qp GX;rw[show((0:Nat):Int)=0 from rfl]at key;grind[kD,EO,BA,C4,BC,eY,cU]
end Go.M
end
section
namespace Go.M
open Go.M.H (AD AG Ab AM AA Bc AH AY AL AN Ar AX AU AW Ap Am Bt DJ B_ CP BV Ao AZ Bu Cb)
theorem oc{x:Int}{l:AAG}(hl:l.length≤2^40):∃r,I7 [x] l=some (((),()),(r,()))∧decide ((r.length:Int)>0)=l.contains x:=by
 obtain⟨m,hm⟩:∃m,Aq=m+2:=⟨Aq-2,by have:=fG;omega⟩;unfold I7 CL;rw[AEv (by rw[DF];simp)];simp only[AE9];unfold Bq Cs Ch C0;rw[hm];simp only[BT,Cz,LZ,AFq,AG6,AB];rw[AEv (by omega),AEv (by omega)];simp only[Int.toNat_zero,List.getD_cons_zero];rw[Fz hl];simp only[AE9];cases l.contains x with
 |true=>
  simp only[AE7,AFM];rw[AR (x:=0+1) (by omega) (by omega),AE4 (by omega)];simp_all
 |false=>
  simp only[AHQ,AGV,AE9];rw[AR (x:=0+1) (by omega) (by omega)];simp only[BO,Cq,AB,AFq,AG6];simp_all
theorem RM{w:AA}{x:Int}(hl:w.2.2.2.1.length≤2^40):CA w x=some ((w.2.2.2.1.contains x,()),()):=by
 unfold CA;obtain⟨r,h1,h2⟩:=oc (x:=x) hl;simp_all
def UL(l:List Bc):Nat→Nat→Int
 |_,0=>0
 |i,d+1=>cond (!(l.getD i ([],false,0,())).2.1) ((i:Int)+1) (UL l (i+1) d)
def Bj(l:List Bc):Int:=UL l 0 l.length
theorem Lo{r:AH}(hl:r.1.length≤2^40):IL r=some ((Bj r.1,()),()):=by
 have key:∀(d n i:Nat),i+d=r.1.length→d<n→FU n r.1 r.1.length i=some ((UL r.1 i d,()),()):=by
  intro d
  induction d with
  |zero=>
   intro n i hi hn;obtain⟨m,rfl⟩:∃m,n=m+1:=⟨n-1,by omega⟩;simp only[FU,Jw,AB,UL];simp_all
  |succ d ih=>
   intro n i hi hn;obtain⟨m,rfl⟩:∃m,n=m+1:=⟨n-1,by omega⟩;simp only[FU,Jw,AB,UL];rw[AEv (by omega),AEv (by omega),AR (by omega) (by omega),show((i:Int)+1)=((i+1:Nat):Int)by omega,ih m (i+1) (by omega) (by omega),AFL];grind
 grind[IL,Nn,Bj,Aq,Aw]
structure UK (w:AA):Prop where
 weight:B_ w≤2^20
 Al:∀s∈w.2.2.1,ln s
 trim:Cp w.2.2.2.2.2.1
 A8:∀m∈w.2.2.2.2.2.2.2.1,jX m.2.2.2.1
 TN:∀s∈w.2.2.2.2.2.2.2.2.2.1,Cp s.1
abbrev AO:AG:=([],[],0,())
abbrev Af:AL:=(0,[],())
abbrev Gh:Ab:=(0,0,[],[],false,[],())
abbrev CC:AN:=(0,0,[],())
abbrev MW:AM:=(0,[],false,())
def Ag(w:AA):BN:=(w.1,w.2.1,())
def C2(w:AA):AH:=(w.2.2.2.2.1,w.2.2.2.2.2.1,())
def gC(w:AA)(i:Nat):Bool:=CO (w.2.2.1.getD i AO)&&(!w.2.2.2.1.contains (i:Int)||((w.2.2.1.getD i AO).1.length==0&&((w.2.2.1.getD i AO).2.1.length==0&&(w.2.2.1.getD i AO).2.2.1==0)))
def Za(w:AA)(i:Nat):Bool:=GW (Ag w) (w.2.2.2.2.2.2.1.getD i Af)&&(decide ((w.2.2.2.2.2.2.1.getD i Af).1≤(w.2.2.2.2.1.length:Int))&&(i==0||decide ((w.2.2.2.2.2.2.1.getD (i-1) Af).1<(w.2.2.2.2.2.2.1.getD i Af).1)))
def lR(w:AA)(i:Nat):Bool:=GX (Ag w) (w.2.2.2.2.2.2.2.1.getD i Gh)&&(((w.2.2.2.2.2.2.2.1.getD i Gh).1==(w.2.2.2.2.1.length:Int))&&((w.2.2.2.2.2.2.2.1.getD i Gh).2.1==Bj w.2.2.2.2.1))
def lT(w:AA)(i:Nat):Bool:=(Bd (w.2.2.2.2.2.2.2.2.2.1.getD i MW).1&&decide (Ah (w.2.2.2.2.2.2.2.2.2.1.getD i MW).1≤(w.2.2.2.2.1.length:Int)))&&(decide ((w.2.2.2.2.2.2.2.2.2.1.getD i MW).2.1.length≤40)&&(i==0||decide ((w.2.2.2.2.2.2.2.2.2.1.getD (i-1) MW).1<(w.2.2.2.2.2.2.2.2.2.1.getD i MW).1)))
def Zq(w:AA):Bool:=EO (gC w) 0 w.2.2.1.length
def WY(w:AA):Bool:=EO (Za w) 0 w.2.2.2.2.2.2.1.length
def fT(w:AA):Bool:=EO (lR w) 0 w.2.2.2.2.2.2.2.1.length
def lO(w:AA):Bool:=EO (lT w) 0 w.2.2.2.2.2.2.2.2.2.1.length
def T7(w:AA):Bool:=decide (w.2.2.2.2.2.2.2.2.1.length=2)&&(QP (w.2.2.2.2.2.2.2.2.1.getD 0 CC)&&QP (w.2.2.2.2.2.2.2.2.1.getD 1 CC))
def B4(w:AA):Bool:=C4 (Ag w)&&(decide (w.2.2.1.length=w.1.length)&&(BA (Ag w) w.2.2.2.1&&((w.2.2.2.2.2.2.2.2.2.2.1|| !holds (Ag w) w.2.2.2.1)&&(Zq w&&(Mw (Ag w) (C2 w)&&(decide (w.2.2.2.2.2.2.1.length≤4)&&(decide (w.2.2.2.2.2.2.2.1.length≤1)&&(WY w&&(fT w&&(T7 w&&(decide (w.2.2.2.2.2.2.2.2.2.1.length≤120)&&lO w)))))))))))
section
variable{w:AA} (h:UK w)
include h
theorem UK.lens:w.1.length≤2^20∧AX Am w.2.2.1≤2^20∧w.2.2.2.1.length≤2^20∧AX CP w.2.2.2.2.1≤2^20∧AX Ao w.2.2.2.2.2.2.1≤2^20∧AX Bt w.2.2.2.2.2.2.2.1≤2^20∧AX AZ w.2.2.2.2.2.2.2.2.1≤2^20∧AX DJ w.2.2.2.2.2.2.2.2.2.1≤2^20:=by
 have:=h.weight;grind[B_]
theorem UK.Qt:w.2.2.1.length≤2^20∧w.2.2.2.2.1.length≤2^20∧w.2.2.2.2.2.2.1.length≤2^20∧w.2.2.2.2.2.2.2.1.length≤2^20∧w.2.2.2.2.2.2.2.2.1.length≤2^20∧w.2.2.2.2.2.2.2.2.2.1.length≤2^20:=by
 have k:=h.lens;grind[AU,Am,CP,Ao,Bt,AZ,DJ]
theorem UK.cfg:(Ag w).1.length≤2^40:=by
 have:=h.lens
 show w.1.length≤2^40
 omega
theorem gd:Hd w=some ((decide (w.2.2.1.length=w.1.length)&&(BA (Ag w) w.2.2.2.1&&(Zq w&&(w.2.2.2.2.2.2.2.2.2.2.1|| !holds (Ag w) w.2.2.2.1))),()),()):=by
 have k1:=h.lens;have k2:=h.Qt;have key:=H3 (L:=fun n i=>Dt n w w.2.2.1 w.2.2.1.length i) (len:=w.2.2.1.length) (p:=gC w) (fin:=w.2.2.2.2.2.2.2.2.2.2.1|| !holds (Ag w) w.2.2.2.1) (fun n i hi=>by
  have hm:=CE (d:=AO) hi;have hw:=AW (f:=Am) hm;simp only[Dt,Gk,AB,gC];rw[AEv (by omega),AEv (by omega),AR (x:=(i:Int)+1) (by omega) (by omega),show((i:Int)+1)=((i+1:Nat):Int)by omega,AFL,RM (by omega)];rw[show((w.2.2.1.getD i ([],[],0,())).1,(w.2.2.1.getD i ([],[],0,())).2.1,(w.2.2.1.getD i ([],[],0,())).2.2.1,())=w.2.2.1.getD i AO from rfl,Dd (by omega) (h.Al _ hm)];simp only[AE9]
  show cond (!CO (w.2.2.1.getD i AO)) _ _=_
  rcases AEw (CO (w.2.2.1.getD i AO))with hs|hs
  rotate_left
  ·simp_all
  rw[hs];have wO:=hs;simp only[CO,BC,AE1,AFS]at wO
  generalize w.2.2.1.getD i AO=s at hw wO
  cases w.2.2.2.1.contains ((i:Nat):Int)with
  |false=>rfl
  |true=>
   simp only[AE7,AFM,AGV,AGJ,AHd];unfold Am at hw;have q1:=AU (f:=Ap) (l:=s.1);have q2:=AU (f:=Ap) (l:=s.2.1);rw[AR (x:=(s.1.length:Int)+_) (by omega) (by omega),AR (by omega) (by omega)];grind) (fun n=>by
  simp only[Dt,Gk,AB];rw[AE4 (by omega),show(w.1,w.2.1,())=Ag w from rfl,Df h.cfg (by omega)];grind) w.2.2.1.length Aq 0 (by omega) (Aw (by omega))
 rw[show((0:Nat):Int)=0 from rfl]at key;unfold Hd KV Zq;rw[show(w.1,w.2.1,())=Ag w from rfl,C5 h.cfg (by omega),key];grind[decide_eq_true,BA,Ag,decide_eq_false]
end
end Go.M
end
section
namespace Go.M
open Go.M.H (AD AG Ab AM AA Bc AH AY AL AN Ar AX AU AW Ap Am Bt DJ B_ CP BV Ao AZ Bu Cb)
theorem lY{x lo hi:Int}(h:lo≤x):BC x lo hi=decide (x≤hi):=by
 grind[BC,decide_eq_true,decide_eq_false]
theorem oR{x lo hi:Int}(h:x<lo):BC x lo hi=false:=by
 grind[BC,decide_eq_false]
section
variable{w:AA} (h:UK w)
include h
theorem fa:HE w=some ((WY w&&decide (w.2.2.2.2.2.2.1.length≤4),()),()):=by
 have k1:=h.lens;have k2:=h.Qt;have key:=H3 (L:=fun n i=>DP n w w.2.2.2.2.2.2.1 w.2.2.2.2.2.2.1.length i) (len:=w.2.2.2.2.2.2.1.length) (p:=Za w) (fin:=decide (w.2.2.2.2.2.2.1.length≤4)) (fun n i hi=>by
  have hm:=CE (d:=Af) hi;have hw:=AW (f:=Ao) hm;unfold Ao at hw;simp only[DP,GO,AB,Za,GI,Ac];rw[AEv (by omega),AEv (by omega),AR (x:=(i:Int)+1) (by omega) (by omega),show((i:Int)+1)=((i+1:Nat):Int)by omega,AFL];have hw2:AX BV (w.2.2.2.2.2.2.1.getD i Af).2.1≤2^30:=by
   have:=k1.2.2.2.2.1;unfold Ao at this;omega
  rw[show((w.2.2.2.2.2.2.1.getD i (0,[],())).1,(w.2.2.2.2.2.2.1.getD i (0,[],())).2.1,())=w.2.2.2.2.2.2.1.getD i Af from rfl,show(w.1,w.2.1,())=Ag w from rfl,GB h.cfg hw2];simp only[AE9];rcases AEw (GW (Ag w) (w.2.2.2.2.2.2.1.getD i Af))with hs|hs
  rotate_left
  ·simp_all
  have he:=(dE hs).2.1;rw[hs,show BC (w.2.2.2.2.2.2.1.getD i (0,[],())).1 1 (w.2.2.2.2.1.length:Int)=decide ((w.2.2.2.2.2.2.1.getD i Af).1≤(w.2.2.2.2.1.length:Int))from lY he.1];simp only[AE7,AFM,AGJ];cases decide ((w.2.2.2.2.2.2.1.getD i Af).1≤(w.2.2.2.2.1.length:Int))with
  |false=>rfl
  |true=>
   simp only[AE7,AFM,AGJ];by_cases h0:i=0
   ·simp_all
   ·rw[AEv (by omega),AR (by omega) (by omega),AEv (by omega)]
    have h1:((i:Int)-1).toNat=i-1:=by omega
    have h2:(i==0)=false:=by simp_all
    rw[h1,h2,AHd];grind) (fun n=>by
  simp only[DP,GO,AB];simp_all;omega) w.2.2.2.2.2.2.1.length Aq 0 (by omega) (Aw (by omega))
 rw[show((0:Nat):Int)=0 from rfl]at key;grind[HE,Jp,WY]
theorem kM:IX w=some ((fT w&&decide (w.2.2.2.2.2.2.2.1.length≤1),()),()):=by
 have k1:=h.lens;have k2:=h.Qt;have key:=H3 (L:=fun n i=>D4 n w w.2.2.2.2.2.2.2.1 w.2.2.2.2.2.2.2.1.length i) (len:=w.2.2.2.2.2.2.2.1.length) (p:=lR w) (fin:=decide (w.2.2.2.2.2.2.2.1.length≤1)) (fun n i hi=>by
  have hm:=CE (d:=Gh) hi;have hw:=AW (f:=Bt) hm;simp only[D4,HO,AB,lR];rw[AEv (by omega),AEv (by omega),AR (x:=(i:Int)+1) (by omega) (by omega),show((i:Int)+1)=((i+1:Nat):Int)by omega,AFL];rw[show((w.2.2.2.2.2.2.2.1.getD i (0,0,[],[],false,[],())).1,(w.2.2.2.2.2.2.2.1.getD i (0,0,[],[],false,[],())).2.1,(w.2.2.2.2.2.2.2.1.getD i (0,0,[],[],false,[],())).2.2.1,(w.2.2.2.2.2.2.2.1.getD i (0,0,[],[],false,[],())).2.2.2.1,(w.2.2.2.2.2.2.2.1.getD i (0,0,[],[],false,[],())).2.2.2.2.1,(w.2.2.2.2.2.2.2.1.getD i (0,0,[],[],false,[],())).2.2.2.2.2.1,())=w.2.2.2.2.2.2.2.1.getD i Gh from rfl,show(w.1,w.2.1,())=Ag w from rfl,FA h.cfg (by omega) (h.A8 _ hm)];rw[Lo (by grind)];grind) (fun n=>by
  simp only[D4,HO,AB];simp_all;omega) w.2.2.2.2.2.2.2.1.length Aq 0 (by omega) (Aw (by omega))
 rw[show((0:Nat):Int)=0 from rfl]at key;grind[IX,Kc,fT]
theorem eu:HJ w=some ((T7 w,()),()):=by
 have k2:=h.Qt;have key:=H3 (L:=fun n i=>DN n w w.2.2.2.2.2.2.2.2.1 w.2.2.2.2.2.2.2.2.1.length i) (len:=w.2.2.2.2.2.2.2.2.1.length) (p:=fun i=>QP (w.2.2.2.2.2.2.2.2.1.getD i CC)) (fin:=((w.2.2.2.2.2.2.2.2.1.length:Int)==2)) (fun n i hi=>by
  simp only[DN,GV,AB];rw[AEv (by omega),AEv (by omega),AR (x:=(i:Int)+1) (by omega) (by omega),show((i:Int)+1)=((i+1:Nat):Int)by omega,AFL];rw[show((w.2.2.2.2.2.2.2.2.1.getD i (0,0,[],())).1,(w.2.2.2.2.2.2.2.2.1.getD i (0,0,[],())).2.1,(w.2.2.2.2.2.2.2.2.1.getD i (0,0,[],())).2.2.1,())=w.2.2.2.2.2.2.2.2.1.getD i CC from rfl,Rp];simp_all) (fun n=>by
  simp only[DN,GV,AB];simp_all) w.2.2.2.2.2.2.2.2.1.length Aq 0 (by omega) (Aw (by omega))
 rw[show((0:Nat):Int)=0 from rfl]at key;unfold HJ Jt T7;grind[EO,decide_eq_false]
theorem mc:JZ w=some ((lO w&&decide (w.2.2.2.2.2.2.2.2.2.1.length≤120),()),()):=by
 have k2:=h.Qt;have key:=H3 (L:=fun n i=>EK n w w.2.2.2.2.2.2.2.2.2.1 w.2.2.2.2.2.2.2.2.2.1.length i) (len:=w.2.2.2.2.2.2.2.2.2.1.length) (p:=lT w) (fin:=decide (w.2.2.2.2.2.2.2.2.2.1.length≤120)) (fun n i hi=>by
  have hm:=CE (d:=MW) hi;have Sg:Cp (w.2.2.2.2.2.2.2.2.2.1.getD i (0,[],false,())).1:=h.TN _ hm;simp only[EK,Hn,AB,lT,GI,Ac,EL];rw[AEv (by omega),AEv (by omega),AR (x:=(i:Int)+1) (by omega) (by omega),show((i:Int)+1)=((i+1:Nat):Int)by omega,AFL,Dc Sg];simp only[AE9];have e1:BC (Ah (w.2.2.2.2.2.2.2.2.2.1.getD i (0,[],false,())).1) 1 (w.2.2.2.2.1.length:Int)=(Bd (w.2.2.2.2.2.2.2.2.2.1.getD i MW).1&&decide (Ah (w.2.2.2.2.2.2.2.2.2.1.getD i MW).1≤(w.2.2.2.2.1.length:Int))):=by
   show BC (Ah (w.2.2.2.2.2.2.2.2.2.1.getD i MW).1) 1 (w.2.2.2.2.1.length:Int)=_
   have hr:=U9 (x:=(w.2.2.2.2.2.2.2.2.2.1.getD i MW).1);rcases AEw (Bd (w.2.2.2.2.2.2.2.2.2.1.getD i MW).1)with hp|hp
   ·rw[hp,lY (hr.1 hp).1,AGJ]
   ·rw[hp,hr.2 hp,oR (by omega),AHW]
  rw[e1,show decide ((((w.2.2.2.2.2.2.2.2.2.1.getD i (0,[],false,())).2.1.length:Nat):Int)≤40)=decide ((w.2.2.2.2.2.2.2.2.2.1.getD i MW).2.1.length≤40)from AC0 _ 40];cases(Bd (w.2.2.2.2.2.2.2.2.2.1.getD i MW).1&&decide (Ah (w.2.2.2.2.2.2.2.2.2.1.getD i MW).1≤(w.2.2.2.2.1.length:Int)))with
  |false=>rfl
  |true=>
   cases decide ((w.2.2.2.2.2.2.2.2.2.1.getD i MW).2.1.length≤40)with
   |false=>rfl
   |true=>
    simp only[AE7,AFM,AGJ];by_cases h0:i=0
    ·simp_all
    ·rw[AEv (by omega),AR (by omega) (by omega),AEv (by omega)]
     have h1:((i:Int)-1).toNat=i-1:=by omega
     have h2:(i==0)=false:=by simp_all
     rw[h1,h2,AHd];grind) (fun n=>by
  simp only[EK,Hn,AB];simp_all;omega) w.2.2.2.2.2.2.2.2.2.1.length Aq 0 (by omega) (Aw (by omega))
 rw[show((0:Nat):Int)=0 from rfl]at key;grind[JZ,LQ,lO]
theorem Db:D9 w=some ((B4 w,()),()):=by
 have k1:=h.lens;unfold D9 B4;rw[show(w.1,w.2.1,w.2.2.1,w.2.2.2.1,w.2.2.2.2.1,w.2.2.2.2.2.1,w.2.2.2.2.2.2.1,w.2.2.2.2.2.2.2.1,w.2.2.2.2.2.2.2.2.1,w.2.2.2.2.2.2.2.2.2.1,w.2.2.2.2.2.2.2.2.2.2.1,())=w from rfl,show(w.1,w.2.1,())=Ag w from rfl,show(w.2.2.2.2.1,w.2.2.2.2.2.1,())=C2 w from rfl];rw[IA h.cfg,gd h,I6 h.cfg (by show AX CP w.2.2.2.2.1≤_;omega) h.trim,fa h,kM h,eu h,mc h];grind
end
end Go.M
end
section
namespace Go.M
open Go.M.H (AD AG Ab AM AA Bc AH AY AL AN Ar AX AU AW Ap Am Bt DJ B_ CP BV Ao AZ Bu Cb Ug)
theorem UK.of{w:AA}(hv:Go.Fw.Vd Ug w)(hw:B_ w≤2^20):UK w where
 weight:=hw
 Al:=fun s hs=>⟨fun e he=>wf_i64 (((hv.2.2.1.2 s hs).1).2 e he).1,fun e he=>wf_i64 (((hv.2.2.1.2 s hs).2.1).2 e he).1⟩
 trim:=wf_i64 hv.2.2.2.2.2.1
 A8:=fun m hm e he=>wf_i64 (((hv.2.2.2.2.2.2.2.1.2 m hm).2.2.2.1).2 e he).1
 TN:=fun s hs=>wf_i64 (hv.2.2.2.2.2.2.2.2.2.1.2 s hs).1
theorem ZC{w:AA}(h:B4 w=true):w.2.2.2.2.2.2.2.2.1.length=2:=by
 simp only[B4,T7,AE1,AFS]at h;omega
theorem UK.out{w:AA}(h:UK w){i:Nat}(hi:i<w.2.2.2.2.2.2.2.2.1.length):(w.2.2.2.2.2.2.2.2.1.getD i CC).2.2.1.length≤2^20:=by
 have k:=h.lens;have h1:=AW (f:=AZ) (CE (d:=CC) hi);have h2:=AU (f:=Bu) (l:=(w.2.2.2.2.2.2.2.2.1.getD i CC).2.2.1);have h3:AZ (w.2.2.2.2.2.2.2.2.1.getD i CC)=AX Bu (w.2.2.2.2.2.2.2.2.1.getD i CC).2.2.1:=rfl;omega
section
variable{w:AA} (h:UK w)
include h
end
end Go.M
end
section
namespace Go.M
open Go.M.H (AD AG Ab AM AA Bc AH AY AL AN Ar AX AU AW Ap Am Bt DJ B_ CP BV Ao AZ Bu Cb Ug)
def lH(trim:Int)(s:AM):Bool:=s.2.2.1&&decide (trim<s.1)
def UB(w:AA):List AM:=cond (B4 w) (w.2.2.2.2.2.2.2.2.2.1.filter (lH w.2.2.2.2.2.1)) []
def mZ(p:Int):List AM→List UInt8×Bool
 |[]=>([],false)
 |s::l=>cond (s.1==p) (s.2.1,true) (mZ p l)
section
variable{w:AA} (h:UK w)
include h
theorem Sj{x0:AAG}{x1:Int}{x2:List AG}{x3:AAG}{x4:List Bc}{x6:List AL}{x7:List Ab}{x8:List AN}{x9:List AM}{x10:Bool}:∀(n i:Nat) (acc:List AM),i≤w.2.2.2.2.2.2.2.2.2.1.length→w.2.2.2.2.2.2.2.2.2.1.length-i<n→acc.length≤i→
  Kj n w.2.2.2.2.2.2.2.2.2.1 w.2.2.2.2.2.2.2.2.2.1.length i x0 x1 x2 x3 x4 w.2.2.2.2.2.1 x6 x7 x8 x9 x10 acc=some (((),()),(acc++(w.2.2.2.2.2.2.2.2.2.1.drop i).filter (lH w.2.2.2.2.2.1),()))
 |0,i,_,_,hn,_=>by omega
 |n+1,i,acc,hi,hn,ha=>by
  have k2:=h.Qt;simp only[Kj,RV,AB];by_cases hc:i<w.2.2.2.2.2.2.2.2.2.1.length
  ·have QD:acc.length+1≤IQ:=by rw[DF];omega
   rw[AEv (by omega),AEv (by omega),AR (by omega) (by omega),show((i:Int)+1)=((i+1:Nat):Int)by omega];simp only[AEv QD];rw[BJ hc,drop_cons hc,AHr];have n1:=Sj (x0:=x0) (x1:=x1) (x2:=x2) (x3:=x3) (x4:=x4) (x6:=x6) (x7:=x7) (x8:=x8) (x9:=x9) (x10:=x10) n (i+1) acc (by omega) (by omega) (by omega);have n2:=Sj (x0:=x0) (x1:=x1) (x2:=x2) (x3:=x3) (x4:=x4) (x6:=x6) (x7:=x7) (x8:=x8) (x9:=x9) (x10:=x10) n (i+1) (acc++[w.2.2.2.2.2.2.2.2.2.1[i]]) (by omega) (by omega) (by simp_all);rw[n1,show(w.2.2.2.2.2.2.2.2.2.1[i].1,w.2.2.2.2.2.2.2.2.2.1[i].2.1,w.2.2.2.2.2.2.2.2.2.1[i].2.2.1,())=w.2.2.2.2.2.2.2.2.2.1[i]from rfl,n2];unfold lH;grind
  grind
theorem VL:Ps w=some (((),()),(UB w,())):=by
 have k2:=h.Qt;unfold Ps Rm UB;rw[show(w.1,w.2.1,w.2.2.1,w.2.2.2.1,w.2.2.2.2.1,w.2.2.2.2.2.1,w.2.2.2.2.2.2.1,w.2.2.2.2.2.2.2.1,w.2.2.2.2.2.2.2.2.1,w.2.2.2.2.2.2.2.2.2.1,w.2.2.2.2.2.2.2.2.2.2.1,())=w from rfl,Db h];simp only[AE9];cases B4 w with
 |false=>rfl
 |true=>
  grind[Sj,Aq,Aw]
theorem nj:(UB w).length≤2^20:=by
 have k2:=h.Qt;unfold UB;grind
end
theorem XD{p:Int}{l:List AM}(hl:l.length≤2^40):∀(n i:Nat),i≤l.length→l.length-i<n→Kn n p l.length i l=some ((((mZ p (l.drop i)).1,(mZ p (l.drop i)).2,()),()),())
 |0,i,_,h=>by omega
 |n+1,i,hi,h=>by
  simp only[Kn,Rh,AB];by_cases hc:i<l.length
  ·rw[AEv (by omega),AEv (by omega),AR (by omega) (by omega),show((i:Int)+1)=((i+1:Nat):Int)by omega,BJ hc,drop_cons hc,XD hl n (i+1) (by omega) (by omega)]
   grind[mZ]
  ·rw[AE4 (by omega),AF0 (by omega)]
   rfl
end Go.M
end
section
namespace Go.M
open Go.M.H (AD AG Ab AM AA Bc AH AY AL AN Ar AX AU AW Ap Am Bt DJ B_ CP BV Ao AZ Bu Cb Ug)
def yG(w:AA):Prop:= ∀r∈w.2.2.2.2.2.2.2.2.1,∀e∈r.2.2.1,Cp e.2.1
theorem yG.of{w:AA}(hv:Go.Fw.Vd Ug w):yG w:=fun r hr e he=>wf_i64 (((hv.2.2.2.2.2.2.2.2.1.2 r hr).2.2.1).2 e he).2.1
section
variable{w:AA} (h:UK w) (yH:yG w)
include h yH
end
end Go.M
end
section
namespace Go.M
open Go.M.H (AD AG Ab AM AA Bc AH AY AL AN Ar AX AU AW Ap Am Bt DJ B_ CP BV Ao AZ Bu Cb Ug)
def VC:List Ar→List AM
 |[]=>[]
 |e::l=>cond (e.1==1) ((e.2.1,e.2.2.1,true,())::VC l) (VC l)
def Va(w:AA)(p:Int):List AM:=cond (B4 w&&BC p 0 1) (VC (w.2.2.2.2.2.2.2.2.1.getD p.toNat CC).2.2.1) []
section
variable{w:AA} (h:UK w)
include h
theorem aa{p:Int}:Qu w p=some (((),()),(Va w p,())):=by
 unfold Qu QX Va;rw[show(w.1,w.2.1,w.2.2.1,w.2.2.2.1,w.2.2.2.2.1,w.2.2.2.2.2.1,w.2.2.2.2.2.2.1,w.2.2.2.2.2.2.2.1,w.2.2.2.2.2.2.2.2.1,w.2.2.2.2.2.2.2.2.2.1,w.2.2.2.2.2.2.2.2.2.2.1,())=w from rfl,Db h,Ac];simp only[AE9];rcases AEw (B4 w)with Dg|Dg
 rotate_left
 ·simp_all
 have h2:=ZC Dg;rw[Dg,AR (by omega) (by omega),show((w.2.2.2.2.2.2.2.2.1.length:Int)-1)=1 by omega];simp only[AE7,AFM,AGJ];rcases AEw (BC p 0 1)with hp|hp
 rotate_left
 ·simp_all
 rw[hp];simp only[BC,AFS]at hp;simp only[AE7,AFM,AGV];rw[AEv (by omega)];have ho:=h.out (i:=p.toNat) (by omega)
 show Hq Aq (w.2.2.2.2.2.2.2.2.1.getD p.toNat CC).2.2.1 ((w.2.2.2.2.2.2.2.2.1.getD p.toNat CC).2.2.1.length:Int) 0 []=_
 generalize (w.2.2.2.2.2.2.2.2.1.getD p.toNat CC).2.2.1=l at ho
 have key:∀(n i:Nat) (acc:List AM),i≤l.length→l.length-i<n→acc.length≤i→Hq n l l.length i acc=some (((),()),(acc++VC (l.drop i),())):=by
  intro n
  induction n with
  |zero=>omega
  |succ n ih=>
   intro i acc hi hn ha;simp only[Hq,QE,AB];by_cases hc:i<l.length
   ·rw[AEv (by omega),AEv (by omega),AEv (by rw[DF];omega),AR (by omega) (by omega),show((i:Int)+1)=((i+1:Nat):Int)by omega,BJ hc,drop_cons hc,ih (i+1) acc (by omega) (by omega) (by omega),ih (i+1) (acc++[(l[i].2.1,l[i].2.2.1,true,())]) (by omega) (by omega) (by simp_all)]
    grind[VC]
   ·rw[AE4 (by omega),AF0 (by omega)]
    simp[VC]
 grind[Aq,Aw]
end
end Go.M
end
section
namespace Go.M
open Go.M.H (AD AG Ab AM AA Bc AH AY AL AN Ar Aa An)
def D3(e o:Int):Int:=4294967296*e+o
def E4(e o:Int):Int:=if BC e 1 30&&BC o 1 60 then D3 e o else 0
def Vu(x:Int):List Int→List Int
 |[]=>[x]
 |y::l=>if x<y then x::y::l else y::Vu x l
def Fc(x:Int)(l:AAG):AAG:=if l.contains x then l else Vu x l
def less(l m:AAG):AAG:=l.filter fun x=> !m.contains x
def OM(c:BN)(s l:AAG):Bool:=holds c s&&(BA c l&&(l.all s.contains&& !holds c (less s l)))
def DQ(k:Int):AAG:=if BC k 0 255 then([0,1,2,3,4,5,6,7]:AAG).filter fun i=>(k/2^i.toNat)%2==1 else[]
def better(a b:AD):AD:=if b.2.1>a.2.1 then b else a
def keep(e:AD):List AD→List AD
 |[]=>[e]
 |x::l=>if x.1=e.1 then better x e::l else if x.1>e.1 then e::x::l else x::keep e l
def Dr:List AD→List AD→List AD
 |k,[]=>k
 |k,e::l=>Dr (keep e k) l
def HX(k:Int):Nat→List AD→List AD
 |_,[]=>[]
 |i,e::l=>if(k/2^i)%2=1 then e::HX k (i+1) l else HX k (i+1) l
def HK(p:Int)(l:List AD):Option AD:=l.find? fun e=>e.1==p
def takes(s:AG)(e:AD):Bool:=if e.2.1=0 then decide (Ah e.1>s.2.2.1)else decide (e.2.1>s.2.2.1)
def G8(s:AG)(e:AD):AG×Bool:=
 if !CO s then(AO,false)else if C8 e&&(takes s e&&decide (s.2.1.length≠20))then((s.1,s.2.1++[e],s.2.2.1,()),true)else(s,false)
def ED(s:AG)(k:Int):AG×Bool:=
 if !CO s then(AO,false)else
  let q:=Dr s.1 (HX k 0 s.2.1)
  if BC k 0 1048575&&decide (q.length≤200)then((q,[],s.2.2.1,()),true)else(s,false)
def CS(s:AG):AG×Bool:=ED s 1048575
def CT(s:AG)(upto:Int):AG×Bool:=
 if !CO s then(AO,false)else
  let o:=CS s
  if o.2&&BC upto 0 30 then((o.1.1,o.1.2.1,max o.1.2.2.1 upto,()),true)else(s,false)
def PX(s:AG)(p:Int):Option AD:=if CO s then HK p s.1 else none
def Ko(s:AG)(ep:Int):List AD:=if CO s then s.1.filter fun e=>Ah e.1==ep else[]
def I3(s:AG)(upto:Int):AG×Bool:=
 if !CO s then(AO,false)else if Bd upto then((s.1.filter fun e=>decide (e.1>upto),s.2.1,s.2.2.1,()),true)else(s,false)
abbrev YA:AH:=([],0,())
def BB(l:List Bc)(e:Int):AAG:=if BC e 1 l.length then(l.getD (e-1).toNat FZ).1 else[]
def JX(c:BN)(r:AH)(ns:AAG):AH×Int×Bool:=
 if !Mw c r then(YA,0,false)else if holds c ns&&decide (r.1.length≠30)then((r.1++[(ns,false,0,())],r.2.1,()),(r.1.length:Int)+1,true)else(r,0,false)
def Km(l:List Bc)(i:Nat)(last:Int):List Bc:=l.set i ((l.getD i FZ).1,true,last,())
def Kf(c:BN)(r:AH)(b last:Int):AH×Bool:=
 if !Mw c r then(YA,false)else
  if decide (b=r.1.length)&&(decide (Bj r.1≠0)&&(decide (b≠Bj r.1)&&BC last 0 60))then((Km r.1 (Bj r.1-1).toNat last,r.2.1,()),true)else(r,false)
def NU(c:BN)(r:AH)(p:Int):AH×Bool:=
 if !Mw c r then(YA,false)else if Bd p&&decide (Ah p≤r.1.length)then((r.1,max r.2.1 p,()),true)else(r,false)
def Bk(c:BN)(w:AL)(d:List UInt8):AL×Int×Bool:=
 if !GW c w then(Af,0,false)else
  if GW c (w.1,w.2.1++[(d,[],false,())],())then((w.1,w.2.1++[(d,[],false,())],()),(w.2.1.length:Int)+1,true)else(w,0,false)
def D7(c:BN)(n:Int)(x:AY):AY:=(x.1,Fc n x.2.1,holds c (Fc n x.2.1),())
def UX(c:BN)(w:AL)(o n:Int):AL×Bool:=
 if !GW c w then(Af,false)else
  if BC o 1 w.2.1.length&&(BC n 0 ((c.1.length:Int)-1)&& !(w.2.1.getD (o-1).toNat Mt).2.2.1)then((w.1,w.2.1.set (o-1).toNat (D7 c n (w.2.1.getD (o-1).toNat Mt)),()),true)else(w,false)
def Fa(n:Int)(x:AY):AY:=(x.1,if x.2.2.1 then x.2.1 else less x.2.1 [n],x.2.2.1,())
def Cw(c:BN)(w:AL)(n:Int):AL×Bool:=
 if !GW c w then(Af,false)else((w.1,w.2.1.map (Fa n),()),true)
def WX:List AY→Nat
 |[]=>0
 |x::l=>if x.2.2.1 then WX l+1 else 0
def Zn(e b:Int):Ab:=(b,e,[],[],false,[],())
def Kq(c:BN)(m:Ab)(n:Int)(l:List AD):Ab×Bool:=
 if !GX c m then(Gh,false)else
  let o:Ab:=(m.1,m.2.1,Fc n m.2.2.1,Dr m.2.2.2.1 (l.filter fun e=>Ah e.1==m.2.1),m.2.2.2.2.1,m.2.2.2.2.2.1,())
  if !m.2.2.2.2.1&&GX c o then(o,true)else(m,false)
def Iv(c:BN)(m:Ab)(s:AAG):Ab×Bool:=
 if !GX c m then(Gh,false)else
  if !m.2.2.2.2.1&&OM c s (m.2.2.1.filter s.contains)then((m.1,m.2.1,m.2.2.1,m.2.2.2.1,true,List.replicate (Ru m.2.2.2.1).toNat [],()),true)else(m,false)
def FV(m:Ab)(o:Int):Option AD:=
 if m.2.2.2.2.1&&(BC m.2.1 1 30&&(BC o 1 60&&decide (o≤m.2.2.2.2.2.1.length)))then
  match HK (D3 m.2.1 o) m.2.2.2.1 with
  |some x=>some (D3 m.2.1 o,m.1,x.2.2.1,x.2.2.2.1,())
  |none=>some (D3 m.2.1 o,m.1,true,[],())
 else none
def Zb(c:BN)(m:Ab)(o n:Int):Ab×Bool:=
 if !GX c m then(Gh,false)else
  if BC o 1 m.2.2.2.2.2.1.length&&BC n 0 ((c.1.length:Int)-1)then((m.1,m.2.1,m.2.2.1,m.2.2.2.1,m.2.2.2.2.1,m.2.2.2.2.2.1.set (o-1).toNat (Fc n (m.2.2.2.2.2.1.getD (o-1).toNat [])),()),true)else(m,false)
def DE(c:BN)(m:Ab)(n:Int):Ab×Bool:=
 if !GX c m then(Gh,false)else((m.1,m.2.1,m.2.2.1,m.2.2.2.1,m.2.2.2.2.1,m.2.2.2.2.2.1.map fun l=>less l [n],()),true)
def O8(c:BN)(m:Ab):Bool:=GX c m&&(m.2.2.2.2.1&&m.2.2.2.2.2.1.all (holds c))
def UC(a:Aa):AD:=(a.2.2.1,a.2.2.2.1,a.2.2.2.2.1,a.2.2.2.2.2.1,())
def Fq(s:AAG)(p:Int):Option AD→List Aa→Option AD
 |b,[]=>b
 |b,a::l=>if a.2.1&&(s.contains a.1&&(C8 (UC a)&&(UC a).1==p))then
   Fq s p (some (match b with|some x=>better x (UC a)|none=>UC a)) l
  else Fq s p b l
def UE(p:Int):Option AD→Ar
 |none=>(3,p,[],())
 |some x=>if x.2.2.1 then(2,p,[],())else(1,p,x.2.2.2.1,())
def CR(c:BN)(g:AH)(sure:Int)(r:AN)(l:List Aa):AN×Int:=
 if !(Mw c g&&(QP r&&BA c (l.map fun a=>a.1)))then(CC,1)else
 if decide (r.1>g.1.length)||decide (r.2.2.1.length=120)then(r,2)else
 let era:=g.1.getD (r.1-1).toNat FZ
 let p:=D3 r.1 r.2.1
 if g.2.1≥p then((Ah g.2.1,CM g.2.1+1,r.2.2.1++[(5,g.2.1,[],())],()),0)else
 if era.2.1&&decide (r.2.1>era.2.2.1)then((r.1+1,1,r.2.2.1++[(4,r.1+1,[],())],()),0)else
 if(!era.2.1&&decide (r.2.1>sure))||decide (r.2.1>60)then(r,2)else
 if !OM c era.1 ((l.map fun a=>a.1).filter era.1.contains)then(r,3)else
 ((r.1,r.2.1+1,r.2.2.1++[UE p (Fq era.1 p none l)],()),0)
def Jo:List AD→List AG→List AD
 |k,[]=>k
 |k,s::l=>Jo (Dr k s.1) l
def others(lost:AAG):Nat→List AG→List AG
 |_,[]=>[]
 |i,s::l=>if lost.contains (i:Int)then others lost (i+1) l else s::others lost (i+1) l
def U3(c:BN)(ss:List AG)(lost:AAG)(n upto:Int):AG×Bool:=
 let s:AG:=(Jo [] (others lost 0 ss),[],upto,())
 if C4 c&&(decide (ss.length=c.1.length)&&(BA c lost&&(!holds c lost&&(lost.contains n&&((others lost 0 ss).all CO&&CO s)))))then(s,true)else(AO,false)
end Go.M
namespace Go.M.H.AA
open Go.M.H (AD AG Ab AM AA Bc AH AY AL AN Ar)
@[reducible] def Al (w:AA):List AG:=w.2.2.1
@[reducible] def lost (w:AA):AAG:=w.2.2.2.1
@[reducible] def Ay (w:AA):List Bc:=w.2.2.2.2.1
@[reducible] def trim (w:AA):Int:=w.2.2.2.2.2.1
@[reducible] def AE (w:AA):List AL:=w.2.2.2.2.2.2.1
@[reducible] def A8 (w:AA):List Ab:=w.2.2.2.2.2.2.2.1
@[reducible] def AQ (w:AA):List AN:=w.2.2.2.2.2.2.2.2.1
@[reducible] def A3 (w:AA):List AM:=w.2.2.2.2.2.2.2.2.2.1
@[reducible] def Ei (w:AA):Bool:=w.2.2.2.2.2.2.2.2.2.2.1
@[reducible] def BU (w:AA) (x:List AG):AA:=(w.1,w.2.1,x,w.2.2.2)
@[reducible] def EP (w:AA) (x:AAG):AA:=(w.1,w.2.1,w.2.2.1,x,w.2.2.2.2)
@[reducible] def GJ (w:AA) (x:AH):AA:=(w.1,w.2.1,w.2.2.1,w.2.2.2.1,x.1,x.2.1,w.2.2.2.2.2.2)
@[reducible] def BZ (w:AA) (x:List AL):AA:=(w.1,w.2.1,w.2.2.1,w.2.2.2.1,w.2.2.2.2.1,w.2.2.2.2.2.1,x,w.2.2.2.2.2.2.2)
@[reducible] def CH (w:AA) (x:List Ab):AA:=(w.1,w.2.1,w.2.2.1,w.2.2.2.1,w.2.2.2.2.1,w.2.2.2.2.2.1,w.2.2.2.2.2.2.1,x,w.2.2.2.2.2.2.2.2)
@[reducible] def CQ (w:AA) (x:List AN):AA:=(w.1,w.2.1,w.2.2.1,w.2.2.2.1,w.2.2.2.2.1,w.2.2.2.2.2.1,w.2.2.2.2.2.2.1,w.2.2.2.2.2.2.2.1,x,w.2.2.2.2.2.2.2.2.2)
@[reducible] def Cl (w:AA) (x:List AM):AA:=(w.1,w.2.1,w.2.2.1,w.2.2.2.1,w.2.2.2.2.1,w.2.2.2.2.2.1,w.2.2.2.2.2.2.1,w.2.2.2.2.2.2.2.1,w.2.2.2.2.2.2.2.2.1,x,w.2.2.2.2.2.2.2.2.2.2)
@[reducible] def Eb (w:AA) (x:Bool):AA:=(w.1,w.2.1,w.2.2.1,w.2.2.2.1,w.2.2.2.2.1,w.2.2.2.2.2.1,w.2.2.2.2.2.2.1,w.2.2.2.2.2.2.2.1,w.2.2.2.2.2.2.2.2.1,w.2.2.2.2.2.2.2.2.2.1,x,())
end Go.M.H.AA
namespace Go.M
open Go.M.H (AD AG Ab AM AA Bc AH AY AL AN Ar Aa An)
def Ia:AA:=([],0,[],[],[],0,[],[],[],[],false,())
def Iq(c:BN):AA:=(c.1,c.2.1,List.replicate c.1.length AO,[],[],0,[],[],[(1,1,[],()),(1,1,[],())],[],false,())
def WT(k:Int):Bool×Bool×Bool×Bool:=
 if k=8∨k=10∨k=12 then(false,false,false,false)
 else if k=2 then(true,false,false,true)
 else if k=3 then(true,true,true,false)
 else if k=5∨k=14 then(true,true,false,false)
 else if k=11 then(false,true,true,false)
 else(true,false,false,false)
def J2(d:An):Bool:=
 BC d.1 1 16&&(((WT d.1).1||d.2.1==0)&&(((WT d.1).2.1||d.2.2.1==0)&&(((WT d.1).2.2.1||d.2.2.2.1==0)&&(((WT d.1).2.2.2||d.2.2.2.2.1==[])&&decide (d.2.2.2.2.1.length≤40)))))
abbrev Ra:Type:=AA×Int
def As(w:AA)(n:Int):Int:=if !BC n 0 ((w.Al.length:Int)-1)then 2 else if w.lost.contains n then 3 else 0
def PW(w:AA)(a:Int):Ra:=
 if w.AE.length=4 then(w,4)else
 let q:=JX (Ag w) (C2 w) (DQ a)
 if !q.2.2 then(w,4)else(((w.GJ q.1).BZ (w.AE++[(q.2.1,[],())])).CH [],0)
def Rj(s:AM):List AM→List AM
 |[]=>[s]
 |x::l=>if x.1>s.1 then s::x::l else x::Rj s l
def doAdd(w:AA)(a:Int)(d:List UInt8):Ra:=
 if !BC a 0 ((w.AE.length:Int)-1)then(w,2)else
 let x:=w.AE.getD a.toNat Af
 let q:=Bk (Ag w) x d
 if !q.2.2||(decide (w.A3.length=120)||w.A3.any fun s=>s.1==D3 x.1 q.2.1)then(w,4)else
 ((w.BZ (w.AE.set a.toNat q.1)).Cl (Rj (D3 x.1 q.2.1,d,false,()) w.A3),0)
def putAt(w:AA)(n:Int)(q:AG×Bool):Ra:=if q.2 then(w.BU (w.Al.set n.toNat q.1),0)else(w,4)
def storeAt(w:AA)(n:Int):AG:=w.Al.getD n.toNat AO
def HH(w:AA)(a b n:Int):Ra:=
 if !BC a 0 ((w.AE.length:Int)-1)then(w,2)else
 let x:=w.AE.getD a.toNat Af
 if !BC b 1 x.2.1.length then(w,2)else
 if As w n≠0 then(w,As w n)else
 if !(BB w.Ay x.1).contains n then(w,2)else
 putAt w n (G8 (storeAt w n) (D3 x.1 b,0,false,(x.2.1.getD (b-1).toNat Mt).1,()))
def Gj(s:AG)(p:Int):Bool:=match HK p s.1 with|some e=>e.2.1==0|none=>false
def BD(c:BN)(s:AG)(ep n:Int):Int→List AY→List AY
 |_,[]=>[]
 |o,x::l=>(if !x.2.2.1&&Gj s (D3 ep o)then D7 c n x else x)::BD c s ep n (o+1) l
def IF(l:List AY)(o:Int):Bool:=BC o 1 l.length&&(l.getD (o-1).toNat Mt).2.2.1
def TV(all:Bool)(ep:Int)(np new:List AY)(s:AM):AM:=
 (s.1,s.2.1,s.2.2.1||(Ah s.1==ep&&(IF new (CM s.1)&&(all|| !IF np (CM s.1)))),())
def Fi(s:AG)(l:List Bc)(n:Int)(x:AL):Bool:=(BB l x.1).contains n&&decide (s.2.2.1<x.1)
def E_(all:Bool)(c:BN)(s:AG)(l:List Bc)(n:Int):List AL→List AM→List AL×List AM
 |[],ss=>([],ss)
 |x::ws,ss=>
  if Fi s l n x then
   let new:=BD c s x.1 n 1 x.2.1
   let q:=E_ all c s l n ws (ss.map (TV all x.1 x.2.1 new))
   ((x.1,new,())::q.1,q.2)
  else
   let q:=E_ all c s l n ws ss
   (x::q.1,q.2)
def QS(m:Ab)(s:AG)(o:Int):Bool:=match FV m o with|some e=>HK e.1 s.1==some e|none=>false
def FI(m:Ab)(s:AG)(n:Int):Int→List AAG→List AAG
 |_,[]=>[]
 |o,x::l=>(if QS m s o then Fc n x else x)::FI m s n (o+1) l
def Nk(s:AG)(l:List Bc)(n:Int)(m:Ab):Ab:=
 if(BB l m.2.1).contains n then(m.1,m.2.1,m.2.2.1,m.2.2.2.1,m.2.2.2.2.1,FI m s n 1 m.2.2.2.2.2.1,())else m
def KW(all:Bool)(w:AA)(n:Int):Ra:=
 if As w n≠0 then(w,As w n)else
 let q:=CS (storeAt w n)
 if !q.2 then(w,4)else
 let t:=E_ all (Ag w) q.1 w.Ay n w.AE w.A3
 ((((w.BU (w.Al.set n.toNat q.1)).BZ t.1).Cl t.2).CH (w.A8.map (Nk q.1 w.Ay n)),0)
def Oh(w:AA)(n k:Int):Ra:=if As w n≠0 then(w,As w n)else putAt w n (ED (storeAt w n) k)
def SD(w:AA)(n:Int):Ra:=
 if As w n≠0 then(w,As w n)else
 let ls:=Fc n w.lost
 (((((w.BU (w.Al.set n.toNat AO)).EP ls).BZ (w.AE.map fun x=>(Cw (Ag w) x n).1)).CH (w.A8.map fun m=>(DE (Ag w) m n).1)).Eb (w.Ei||holds (Ag w) ls),0)
def Sa(w:AA)(n:Int):Ra:=
 if !w.lost.contains n then(w,2)else
 let q:=U3 (Ag w) w.Al w.lost n (max ((w.Ay.length:Int)-1) 0)
 if !q.2 then(w,4)else((w.BU (w.Al.set n.toNat q.1)).EP (less w.lost [n]),0)
def Pc(w:AA):Ra:=
 if decide ((w.Ay.length:Int)<2)||decide (Bj w.Ay=w.Ay.length)then(w,2)else
 if w.A8.length>0 then(w,4)else(w.CH [Zn (Bj w.Ay) w.Ay.length],0)
def Pf(w:AA)(n:Int):Ra:=
 match w.A8 with
 |[]=>(w,2)
 |m::ms=>
  if As w n≠0 then(w,As w n)else
  if !(BB w.Ay m.2.1).contains n then(w,2)else
  let q:=CT (storeAt w n) (m.1-1)
  let t:=Kq (Ag w) m n (Ko q.1 m.2.1)
  if !q.2|| !t.2 then(w,4)else((w.BU (w.Al.set n.toNat q.1)).CH (t.1::ms),0)
def NF(w:AA):Ra:=
 match w.A8 with
 |[]=>(w,2)
 |m::ms=>
  let t:=Iv (Ag w) m (BB w.Ay m.2.1)
  if !t.2 then(w,4)else(w.CH (t.1::ms),0)
def Ts(w:AA)(b n:Int):Ra:=
 match w.A8 with
 |[]=>(w,2)
 |m::ms=>
  match FV m b with
  |none=>(w,2)
  |some e=>
   if As w n≠0 then(w,As w n)else
   if !(BB w.Ay m.2.1).contains n then(w,2)else putAt w n (G8 (storeAt w n) e)
def MC(w:AA):Ra:=
 match w.A8 with
 |[]=>(w,2)
 |m::ms=>
  if !O8 (Ag w) m then(w,5)else
  let q:=Kf (Ag w) (C2 w) m.1 m.2.2.2.2.2.1.length
  if !q.2 then(w,4)else((w.GJ q.1).CH [],0)
def UF(w:AA)(a:Int):Ra:=
 let q:=NU (Ag w) (C2 w) a
 if !q.2 then(w,4)else(w.GJ q.1,0)
def answer(w:AA)(p n:Int):Aa:=
 match HK p (storeAt w n).1 with
 |some e=>(n,true,e.1,e.2.1,e.2.2.1,e.2.2.2.1,())
 |none=>(n,false,0,0,false,[],())
def answers(w:AA)(p:Int)(ns:AAG):List Aa:=(ns.filter fun n=>As w n==0).map (answer w p)
def Q6(w:AA)(e:Int):Int:=match w.AE.find? (fun x=>x.1==e)with|some x=>WX x.2.1|none=>0
def Dm(w:AA)(a k:Int):Ra:=
 if !BC a 0 1 then(w,2)else
 let r:=w.AQ.getD a.toNat CC
 let q:=CR (Ag w) (C2 w) (Q6 w r.1) r (answers w (D3 r.1 r.2.1) (DQ k))
 if q.2≠0 then(w,5)else(w.CQ (w.AQ.set a.toNat q.1),0)
def Tr(w:AA)(a:Int):Ra:=
 if !BC a 0 ((w.AE.length:Int)-1)then(w,2)else(w.BZ (w.AE.eraseIdx a.toNat),0)
def Ot(w:AA)(n:Int):Ra:=if As w n≠0 then(w,As w n)else putAt w n (I3 (storeAt w n) w.trim)
def IU(all:Bool)(w:AA)(d:An):Ra:=
 if d.1=1 then PW w d.2.1 else
 if d.1=2 then doAdd w d.2.1 d.2.2.2.2.1 else
 if d.1=3 then HH w d.2.1 d.2.2.1 d.2.2.2.1 else
 if d.1=4 then KW all w d.2.1 else
 if d.1=5 then Oh w d.2.1 d.2.2.1 else
 if d.1=6 then SD w d.2.1 else
 if d.1=7 then Sa w d.2.1 else
 if d.1=8 then Pc w else
 if d.1=9 then Pf w d.2.1 else
 if d.1=10 then NF w else
 if d.1=11 then Ts w d.2.2.1 d.2.2.2.1 else
 if d.1=12 then MC w else
 if d.1=13 then UF w d.2.1 else
 if d.1=14 then Dm w d.2.1 d.2.2.1 else
 if d.1=15 then Tr w d.2.1 else Ot w d.2.1
def BS(all:Bool)(w:AA)(d:An):Ra:=if !B4 w|| !J2 d then(Ia,1)else IU all w d
end Go.M
end
section
namespace Go.M
open Go.M.H (AD AG Ab AM AA Bc AH AY AL AN Ar Aa An)
theorem LR{p:Nat→Bool}{n:Nat}:EO p 0 n=true↔ ∀i,i<n→p i=true:=
 ⟨fun h i hi=>Ll h i (by omega) (by omega),fun h=>bw fun j _ hj=>h j (by omega)⟩
theorem Hy{α:Type}{l:List α}{i:Nat}{d:α}(h:i<l.length):l.getD i d=l[i]:=by simp_all
theorem Lu{α:Type}{l:List α}{d:α}{P:α→Prop}:(∀i,i<l.length→P (l.getD i d))↔ ∀x∈l,P x:=by
 constructor
 ·intro h x hx
  obtain⟨i,hi,rfl⟩:=AHD hx;simp_all
 simp_all
abbrev Kg{α:Type}(f:α→Int)(l:List α):Prop:=l.Pairwise fun a b=>f a<f b
theorem Uc{α:Type}{f:α→Int}{l:List α}{d:α}:(∀i,i<l.length→i=0∨f (l.getD (i-1) d)<f (l.getD i d))↔Kg f l:=by
 constructor
 ·intro h
  unfold Kg;rw[List.pairwise_iff_getElem];have key:∀(k i:Nat),i+k+1<l.length→f (l.getD i d)<f (l.getD (i+k+1) d):=by
   intro k
   induction k with
   |zero=>
    grind
   |succ k ih=>
    grind
  intro i j hi hj rq;have:=key (j-i-1) i (by omega);grind
 grind[List.pairwise_iff_getElem,Hy]
theorem Ak{x a b:Int}:BC x a b=true↔a≤x∧x≤b:=by simp[BC]
theorem iX{l:AAG}{hi:Int}:cr l hi=true↔(∀x∈l,0≤x∧x≤hi)∧Kg id l:=by
 unfold cr;rw[LR,←Lu (d:=(0:Int)) (P:=fun x=>0≤x∧x≤hi),←Uc (d:=(0:Int))];simp only[f_,AE1,Ak,AHN,AHo,AFS,id];grind
theorem Ct{c:BN}{l:AAG}:BA c l=true↔C4 c=true∧(∀x∈l,0≤x∧x<c.1.length)∧Kg id l:=by
 unfold BA;rw[AE1,iX];grind
theorem ft{l:List AD}:Tk l=true↔ ∀e∈l,C8 e=true:=by
 unfold Tk;rw[LR];exact Lu (P:=fun e=>C8 e=true)
theorem iT{l:List AD}:cU l=true↔Kg (fun e:AD=>e.1) l:=by
 unfold cU;rw[LR,←Uc (d:=GG)];simp_all
structure Uv (s:AG):Prop where
 nk:s.1.length≤200
 kept:∀e∈s.1,C8 e=true
 nl:s.2.1.length≤20
 late:∀e∈s.2.1,C8 e=true
 cJ:Kg (fun e:AD=>e.1) s.1
 sl:0≤s.2.2.1∧s.2.2.1≤30
theorem B5{s:AG}:CO s=true↔Uv s:=by
 unfold CO;simp only[AE1,AFS,ft,iT,Ak];exact⟨fun⟨⟨a,b⟩,⟨c,d⟩,e,f⟩=>⟨a,b,c,d,e,f⟩,fun h=>⟨⟨h.nk,h.kept⟩,⟨h.nl,h.late⟩,h.cJ,h.sl⟩⟩
structure EOk (e:AD):Prop where
 pl:Bd e.1=true
 w0:0≤e.2.1∧e.2.1≤30
 w1:0<e.2.1→Ah e.1<e.2.1
 len:e.2.2.2.1.length≤40
 hole:e.2.2.1=true→0<e.2.1∧e.2.2.2.1=[]
theorem E7{e:AD}:C8 e=true↔EOk e:=by
 unfold C8;simp only[AE1,AHN,AHc,AFS,AHx,Ak,AHo];constructor
 ·rintro⟨a,b,c,d,e⟩
  refine⟨a,b,fun h=>c.resolve_left fun hn=>hn h,d,fun h=>e.resolve_left fun hn=> ?_⟩;simp_all
 ·intro h
  refine⟨h.pl,h.w0,?_,h.len,?_⟩
  ·by_cases hw:0<e.2.1
   ·exact .inr (h.w1 hw)
   omega
  ·cases hh:e.2.2.1 with
   |false=>simp_all
   |true=>exact .inr (h.hole hh)
structure gM (c:BN) (m:Ab):Prop where
 cfg:C4 c=true
 ep:1≤m.2.1∧m.2.1≤30
 b:m.2.1+1≤m.1∧m.1≤30
 nu:BA c m.2.2.1=true
 cJ:Kg (fun e:AD=>e.1) m.2.2.2.1
 seen:∀e∈m.2.2.2.1,C8 e=true∧Ah e.1=m.2.1∧e.2.1<m.1
 wrote:∀l∈m.2.2.2.2.2.1,BA c l=true
 n:(m.2.2.2.2.2.1.length:Int)=if m.2.2.2.2.1 then Ru m.2.2.2.1 else 0
theorem Ea{c:BN}{m:Ab}:GX c m=true↔gM c m:=by
 unfold GX eY kD;simp only[AE1,Ak,iT,LR,ll,AHo,AFS];rw[Lu (d:=GG) (P:=fun e=>C8 e=true∧Ah e.1=m.2.1∧e.2.1<m.1),Lu (d:=([]:AAG)) (P:=fun l=>BA c l=true)];have:(m.2.2.2.2.2.1.length:Int)=cond m.2.2.2.2.1 (Ru m.2.2.2.1) 0↔(m.2.2.2.2.2.1.length:Int)=if m.2.2.2.2.1 then Ru m.2.2.2.1 else 0:=by
  grind
 rw[this];exact⟨fun⟨a,b,c,d,e,f,g,h⟩=>⟨a,b,c,d,e,f,g,h⟩,fun h=>⟨h.cfg,h.ep,h.b,h.nu,h.cJ,h.seen,h.wrote,h.n⟩⟩
structure nV (c:BN) (r:AH):Prop where
 cfg:C4 c=true
 n:r.1.length≤30
 trim:r.2.1=0∨(Bd r.2.1=true∧Ah r.2.1≤r.1.length)
 Ay:∀e∈r.1,holds c e.1=true∧(0≤e.2.2.1∧e.2.2.1≤60)∧(e.2.1=false→e.2.2.1=0)
 down:∀i,i<r.1.length→(r.1.getD i FZ).2.1=true→i+1<r.1.length∧ ∀j,j<i→(r.1.getD j FZ).2.1=true
theorem FX{c:BN}{r:AH}:Mw c r=true↔nV c r:=by
 unfold Mw YF;simp only[AE1,AFS,AHN,AHo,LR,nh,eg,Ak,AHc,AIu,Bool.or_eq_false_iff,AHx,AGb];constructor
 ·rintro⟨a,b,c1,d⟩
  refine⟨a,b,c1,(Lu (d:=FZ) (P:=fun e=>holds c e.1=true∧(0≤e.2.2.1∧e.2.2.1≤60)∧(e.2.1=false→e.2.2.1=0))).1 fun i hi=> ?_,fun i hi hc=> ?_⟩
  ·grind
  ·have step:∀k,k<r.1.length→(r.1.getD k FZ).2.1=true→k+1<r.1.length∧(0<k→(r.1.getD (k-1) FZ).2.1=true):=fun k hk hkc=>by
    rcases(d k hk).2 with h|⟨h1,h2⟩
    ·simp_all
    ·refine⟨by omega,fun h0=> ?_⟩
     simp_all
   refine⟨(step i hi hc).1,?_⟩;clear hi
   induction i with
   |zero=>omega
   |succ i ih=>
    intro j hj;have JU:i+1<r.1.length:=by
     rcases Nat.lt_or_ge (i+1) r.1.length with h|h
     ·omega
     ·simp[List.getD,h]at hc
      cases hc
    grind
 ·intro h
  refine⟨h.cfg,h.n,h.trim,fun i hi=>⟨?_,?_⟩⟩
  ·obtain⟨h1,h2,h3⟩:=h.Ay _ (CE (d:=FZ) hi)
   grind
  ·cases hb:(r.1.getD i FZ).2.1 with
   |false=>simp_all
   |true=>
    obtain⟨h1,h2⟩:=h.down i hi hb;grind
structure TU (c:BN) (w:AL):Prop where
 cfg:C4 c=true
 ep:1≤w.1∧w.1≤30
 n:w.2.1.length≤60
 words:∀x∈w.2.1,x.1.length≤40∧BA c x.2.1=true∧x.2.2.1=holds c x.2.1
 opn:MS w.2.1≤6
theorem Fj{c:BN}{w:AL}:GW c w=true↔TU c w:=by
 unfold GW le6 XN;simp only[AE1,AFS,Ak,AHR,AHo];exact⟨fun⟨a,b,c,d,e⟩=>⟨a,b,c,d,e⟩,fun h=>⟨h.cfg,h.ep,h.n,h.words,h.opn⟩⟩
structure sb (r:AN):Prop where
 ep:1≤r.1∧r.1≤31
 off:1≤r.2.1∧r.2.1≤61
 n:r.2.2.1.length≤120
theorem La{r:AN}:QP r=true↔sb r:=by
 unfold QP;simp only[AE1,AFS,Ak];exact⟨fun⟨a,b,c⟩=>⟨a,b,by omega⟩,fun h=>⟨h.ep,h.off,by have:=h.n;omega⟩⟩
structure EF (w:AA):Prop where
 cfg:C4 (Ag w)=true
 dG:w.Al.length=w.1.length
 lost:BA (Ag w) w.lost=true
 Ei:w.Ei=true∨holds (Ag w) w.lost=false
 Al:∀i,i<w.Al.length→Uv (w.Al.getD i AO)∧((i:Int)∈w.lost→w.Al.getD i AO=AO)
 WW:nV (Ag w) (C2 w)
 dM:w.AE.length≤4
 jY:w.A8.length≤1
 AE:∀x∈w.AE,TU (Ag w) x∧x.1≤w.Ay.length
 TL:Kg (fun x:AL=>x.1) w.AE
 A8:∀m∈w.A8,gM (Ag w) m∧m.1=w.Ay.length∧m.2.1=Bj w.Ay
 dD:w.AQ.length=2
 AQ:∀r∈w.AQ,sb r
 MN:w.A3.length≤120
 A3:∀s∈w.A3,Bd s.1=true∧Ah s.1≤w.Ay.length∧s.2.1.length≤40
 Ou:Kg (fun s:AM=>s.1) w.A3
theorem B8{w:AA}:B4 w=true↔EF w:=by
 unfold B4;simp only[AE1,AFS,Zq,WY,fT,lO,T7,LR,gC,Za,lR,lT,AHN,AHc,AHo,B5,FX,Fj,Ea,La];have hz:∀s:AG,(s.1.length=0∧s.2.1.length=0∧s.2.2.1=0)↔s=AO:=fun s=>by
  grind
 simp only[hz];constructor
 ·rintro⟨h1,h2,h3,h4,h5,h6,h7,h8,h9,h10,⟨h11,h12,h13⟩,h14,h15⟩
  refine⟨h1,h2,h3,h4,fun i hi=>⟨(h5 i hi).1,fun hm=>(h5 i hi).2.resolve_left fun hc=> ?_⟩,h6,h7,h8,?_,?_,?_,h11,?_,h14,?_,?_⟩
  ·simp_all
  ·exact(Lu (d:=Af) (P:=fun x:AL=>TU (Ag w) x∧x.1≤w.Ay.length)).1 fun i hi=>⟨(h9 i hi).1,(h9 i hi).2.1⟩
  ·exact(Uc (f:=fun x:AL=>x.1) (d:=Af)).1 fun i hi=>(h9 i hi).2.2
  ·exact(Lu (d:=Gh) (P:=fun m:Ab=>gM (Ag w) m∧m.1=w.Ay.length∧m.2.1=Bj w.Ay)).1 h10
  ·refine(Lu (d:=CC) (P:=sb)).1 fun i hi=> ?_
   rw[h11]at hi;rcases(by omega:i=0∨i=1)with rfl|rfl
   all_goals omega
  ·exact(Lu (d:=MW) (P:=fun s:AM=>Bd s.1=true∧Ah s.1≤w.Ay.length∧s.2.1.length≤40)).1 fun i hi=>⟨(h15 i hi).1.1,(h15 i hi).1.2,(h15 i hi).2.1⟩
  ·exact(Uc (f:=fun s:AM=>s.1) (d:=MW)).1 fun i hi=>(h15 i hi).2.2
 ·intro h
  refine⟨h.cfg,h.dG,h.lost,h.Ei,fun i hi=>⟨(h.Al i hi).1,?_⟩,h.WW,h.dM,h.jY,fun i hi=> ?_,fun i hi=>h.A8 _ (CE hi),⟨h.dD,h.AQ _ (CE (by rw[h.dD];omega)),h.AQ _ (CE (by rw[h.dD];omega))⟩,h.MN,fun i hi=> ?_⟩
  ·by_cases hm:(i:Int)∈w.lost
   ·exact .inr ((h.Al i hi).2 hm)
   simp_all
  ·have:=h.AE _ (CE (d:=Af) hi)
   exact⟨this.1,this.2,(Uc (f:=fun x:AL=>x.1) (d:=Af)).2 h.TL i hi⟩
  ·have:=h.A3 _ (CE (d:=MW) hi)
   exact⟨⟨this.1,this.2.1⟩,this.2.2,(Uc (f:=fun s:AM=>s.1) (d:=MW)).2 h.Ou i hi⟩
end Go.M
end
section
namespace Go.M
open Go.M.H (AD AG Ab AM AA Bc AH AY AL AN Ar Aa An)
theorem b_{x y:Int}:∀{l:AAG},y∈Vu x l↔y=x∨y∈l
 |[]=>by simp[Vu]
 |z::l=>by
  simp only[Vu];split
  ·simp
  ·simp only[AGD,b_ (l:=l)]
   grind
theorem ig{x:Int}:∀{l:AAG},Kg id l→x∉l→Kg id (Vu x l)
 |[],_,_=>by simp[Vu,Kg]
 |z::l,h,hx=>by
  simp only[Kg,AGx,id]at h;simp only[AGD,not_or]at hx;simp only[Vu];split
  ·rename_i hz
   simp only[Kg,AGx,AGD,id];grind
  ·rename_i hz
   simp only[Kg,AGx,id];refine⟨fun a ha=> ?_,ig h.2 hx.2⟩;rcases b_.1 ha with rfl|ha
   all_goals grind
theorem aN{x y:Int}{l:AAG}:y∈Fc x l↔y=x∨y∈l:=by
 unfold Fc;split
 ·simp_all
 ·exact b_
theorem qF{x:Int}{l:AAG}(h:Kg id l):Kg id (Fc x l):=by
 grind[Fc,ig]
theorem MZ{c:BN}{x:Int}{l:AAG}(h:BA c l=true)(hx:0≤x∧x<c.1.length):BA c (Fc x l)=true:=by
 rw[Ct]at h⊢;refine⟨h.1,fun y hy=> ?_,qF h.2.2⟩;rcases aN.1 hy with rfl|hy
 all_goals simp_all
theorem Pj{c:BN}{l:AAG}(p:Int→Bool)(h:BA c l=true):BA c (l.filter p)=true:=by
 grind[Ct]
theorem bD{x:Int}{l m:AAG}:x∈less l m↔x∈l∧x∉m:=by simp[less]
theorem Tp{c:BN}(h:C4 c=true):BA c []=true:=Ct.2 ⟨h,fun _ h=>by simp at h,List.Pairwise.nil⟩
theorem oy{l m:AAG}(h:l.Nodup)(hs:∀x∈l,x∈m):l.length≤m.length:=by
 induction l generalizing m with
 |nil=>simp
 |cons a l ih=>
  rw[AIS]at h;have ha:=hs a (by simp);have:=ih (m:=m.erase a) h.2 fun x hx=>(List.mem_erase_of_ne (fun e:x=a=>h.1 (by simp_all))).2 (hs x (by simp[hx]))
  grind
theorem gr{c:AAG}{d:Int}:∀{l acc:AAG},d∈Wo c l acc↔d∈acc∨ ∃n∈l,c.getD n.toNat 0=d
 |[],acc=>by simp[Wo]
 |n::l,acc=>by
  simp only[Wo];rw[gr (l:=l)];grind
theorem Zw{c:AAG}:∀{l acc:AAG},acc.Nodup→(Wo c l acc).Nodup
 |[],acc,h=>h
 |n::l,acc,h=>by
  simp only[Wo];refine Zw ?_
  grind
theorem iC{c l m:AAG}(h:∀x∈l,x∈m):Tj c l≤Tj c m:=by
 refine oy (Zw List.nodup_nil) fun d hd=> ?_
 grind[gr]
theorem au{c:BN}{l m:AAG}(hl:holds c l=true)(hm:BA c m=true)(h:∀x∈l,x∈m):holds c m=true:=by
 simp only[holds,AE1,AFS]at hl⊢;have:=iC (c:=c.1) h;grind
def p8(c:BN)(S:Int→Prop):Prop:= ∃l,holds c l=true∧ ∀n∈l,S n
theorem holds_nil{c:BN}:holds c []=false:=by
 rw[AHX];intro h;have hc:=(Ct.1 (Qa h)).1;have:=(EG hc).2.2.1;simp only[holds,AE1,AFS,Tj,Wo]at h;grind
theorem dH{a b:AD}(h:a.1=b.1):(better a b).1=b.1:=by grind[better]
theorem XL{e y:AD}:∀{l:List AD},y∈keep e l→y=e∨y∈l
 |[],h=>by simpa[keep]using h
 |x::l,h=>by
  simp only[keep]at h;split at h
  ·rcases AGD.1 h with rfl|h
   all_goals grind[better]
  ·split at h
   ·simp_all
   ·rcases AGD.1 h with rfl|h
    ·simp
    ·rcases XL h with h|h<;>simp[h]
theorem uF{e y:AD}{l:List AD}(h:y∈keep e l):y.1=e.1∨ ∃z∈l,z.1=y.1:=by
 rcases XL h with rfl|h
 all_goals grind
theorem WU{e:AD}:∀{l:List AD},(keep e l).length≤l.length+1∧l.length≤(keep e l).length
 |[]=>by simp[keep]
 |x::l=>by
  have:=WU (e:=e) (l:=l);grind[keep,List.length_cons]
abbrev SW(l:List AD):Prop:=Kg (fun e:AD=>e.1) l
theorem Rq{e:AD}:∀{l:List AD},SW l→SW (keep e l)
 |[],_=>by simp[keep,Kg]
 |x::l,h=>by
  have h':=h;simp only[Kg,AGx]at h;simp only[keep];split
  ·rename_i hx
   simp only[SW,Kg,AGx];grind[dH]
  ·split
   ·rename_i hx
    simp only[SW,Kg,AGx,AGD];grind
   ·rename_i h1 h2
    simp only[SW,Kg,AGx];refine⟨fun a ha=> ?_,Rq h.2⟩;grind[uF]
theorem YM{p:Int}{l:List AD}{e:AD}(h:HK p l=some e):e∈l∧e.1=p:=by
 grind[HK,List.mem_of_find?_eq_some]
theorem Yo{e:AD}:∀{l:List AD},SW l→e∈l→HK e.1 l=some e
 |x::l,h,he=>by
  simp only[Kg,AGx]at h;unfold HK;rw[AIU];rcases AGD.1 he with rfl|he
  ·simp
  ·have:=h.1 e he
   have UZ:(x.1==e.1)=false:=by grind
   rw[UZ];exact Yo h.2 he
theorem dk{e:AD}{p:Int}:∀{l:List AD},SW l→HK p (keep e l)=if p=e.1 then some (match HK p l with|some x=>better x e|none=>e)else HK p l
 |[],_=>by
  simp only[keep,HK,AIU,List.find?_nil];grind
 |x::l,h=>by
  have h':=h;simp only[Kg,AGx]at h;have tail:∀q,q≤x.1→q≠x.1→HK q l=none:=fun q hq UZ=>by
   grind[HK,YM]
  have cons:∀(z:AD) (m:List AD),HK p (z::m)=if z.1=p then some z else HK p m:=fun z m=>by
   unfold HK;grind
  simp only[keep];split
  ·rename_i hx
   rw[cons,cons,dH hx];grind
  ·split
   ·grind
   ·rename_i h1 h2
    rw[cons,cons,dk h.2];grind
theorem T1{y:AD}:∀{l k:List AD},y∈Dr k l→y∈k∨y∈l
 |[],k,h=> .inl h
 |e::l,k,h=>by
  rcases T1 (l:=l) h with h|h
  ·rcases XL h with rfl|h
   all_goals simp_all
  simp_all
theorem Tz:∀{l k:List AD},SW k→SW (Dr k l)
 |[],k,h=>h
 |e::l,k,h=>Tz (l:=l) (Rq h)
theorem uH{e:AD}{l:List AD}{p:Int}{x:AD}(h:SW l)(hx:HK p l=some x):∃y,HK p (keep e l)=some y∧(y=x∨x.2.1<y.2.1):=by
 rw[dk h];split
 ·rw[hx]
  refine⟨better x e,rfl,?_⟩;unfold better;grind
 simp_all
theorem bT{p:Int}:∀{l k:List AD} {x:AD},SW k→HK p k=some x→ ∃y,HK p (Dr k l)=some y∧(y=x∨x.2.1<y.2.1)
 |[],k,x,_,hx=>⟨x,hx,.inl rfl⟩
 |e::l,k,x,h,hx=>by
  obtain⟨y,h1,h2⟩:=uH (e:=e) h hx;obtain⟨z,h3,h4⟩:=bT (l:=l) (Rq h) h1;refine⟨z,h3,?_⟩;grind
theorem UI{k:Int}{y:AD}:∀{l:List AD} {i:Nat},y∈HX k i l→y∈l
 |[],_,h=>h
 |e::l,i,h=>by
  simp only[HX]at h;split at h
  ·rcases AGD.1 h with rfl|h
   ·simp
   ·simp[UI h]
  ·simp[UI h]
end Go.M
end
section
namespace Go.M
open Go.M.H (AD AG Ab AM AA Bc AH AY AL AN Ar Aa An)
theorem KI{e o:Int}(he:1≤e∧e≤30)(ho:1≤o∧o≤60):Bd (D3 e o)=true∧Ah (D3 e o)=e∧CM (D3 e o)=o:=by
 have h1:Q5 (D3 e o)=e:=by
  grind[Q5,D3,Int.tdiv_eq_ediv_of_nonneg]
 have h2:(D3 e o).tmod 4294967296=o:=by
  grind[D3,Int.tmod_eq_emod_of_nonneg]
 have h3:Bd (D3 e o)=true:=by
  unfold Bd;rw[h1,h2,AE1,Ak,Ak];omega
 exact⟨h3,by unfold Ah;simp_all,by unfold CM;simp_all⟩
theorem D2{p:Int}(h:Bd p=true):(1≤Ah p∧Ah p≤30)∧(1≤CM p∧CM p≤60)∧D3 (Ah p) (CM p)=p:=by
 have h0:=YT h;have h1:=h;unfold Bd at h1;rw[AE1,Ak,Ak]at h1;have e1:Ah p=Q5 p:=by unfold Ah;rw[AEv h]
 grind[CM,D3,Q5,Int.tdiv_eq_ediv_of_nonneg,Int.tmod_eq_emod_of_nonneg]
theorem Uv.nil:Uv AO:=⟨by simp,by simp,by simp,by simp,List.Pairwise.nil,by simp⟩
theorem Tc{s:AG}{e:AD}(h:(G8 s e).2=true):Uv (G8 s e).1∧(G8 s e).1=(s.1,s.2.1++[e],s.2.2.1,())∧C8 e=true∧takes s e=true:=by
 unfold G8 at*;split at h
 ·cases h
 rename_i hs;rw[AE4 hs];simp only[AGX,AGb]at hs;rw[B5]at hs;split at h
 case isFalse=>cases h
 rename_i h1;rw[AEv h1];simp only[AE1,AFS]at h1;obtain⟨he,ht,hl⟩:=h1;refine⟨⟨hs.nk,hs.kept,?_,fun x hx=> ?_,hs.cJ,hs.sl⟩,rfl,he,ht⟩
 ·have:=hs.nl
  grind
 ·simp only[AGf,AIM]at hx
  rcases hx with hx|rfl
  ·exact hs.late x hx
  omega
theorem Kb{s:AG}{k:Int}(h:(ED s k).2=true):Uv s∧Uv (ED s k).1∧(ED s k).1=(Dr s.1 (HX k 0 s.2.1),[],s.2.2.1,()):=by
 unfold ED at*;split at h
 ·cases h
 rename_i hs;rw[AE4 hs];simp only[AGX,AGb]at hs;rw[B5]at hs;simp only at h⊢;split at h
 case isFalse=>cases h
 rename_i h1;rw[AEv h1];simp only[AE1,AFS]at h1;refine⟨hs,⟨h1.2,fun e he=> ?_,by simp,by simp,Tz hs.cJ,hs.sl⟩,rfl⟩;rcases T1 he with he|he
 ·exact hs.kept e he
 ·exact hs.late e (UI he)
theorem WD{s:AG}{u:Int}(h:(CT s u).2=true):Uv s∧Uv (CT s u).1∧(CT s u).1=(Dr s.1 (HX 1048575 0 s.2.1),[],max s.2.2.1 u,())∧0≤u∧u≤30:=by
 unfold CT at*;split at h
 ·cases h
 rename_i hs;rw[AE4 hs];simp only[AGX,AGb]at hs;simp only at h⊢;split at h
 case isFalse=>cases h
 rename_i h1;rw[AEv h1];simp only[AE1,Ak]at h1;obtain⟨k1,k2,k3⟩:=Kb h1.1;have jD:(CS s).1=_:=k3;rw[jD];refine⟨k1,⟨?_,?_,by simp,by simp,Tz k1.cJ,?_⟩,rfl,h1.2⟩
 ·have:=k2.nk;simp_all
 ·have:=k2.kept;simp_all
 ·have:=k1.sl
  grind
theorem fH{s:AG}{u:Int}(h:(I3 s u).2=true):Uv s∧Uv (I3 s u).1∧(I3 s u).1=(s.1.filter fun e=>decide (e.1>u),s.2.1,s.2.2.1,()):=by
 unfold I3 at*;split at h
 ·cases h
 rename_i hs;rw[AE4 hs];simp only[AGX,AGb]at hs;rw[B5]at hs;split at h
 case isFalse=>cases h
 rename_i h1;rw[AEv h1];refine⟨hs,⟨AHK (AHl _ _) hs.nk,fun e he=>hs.kept e (AIV.1 he).1,hs.nl,hs.late,hs.cJ.filter _,hs.sl⟩,rfl⟩
theorem pO{c:BN}{ss:List AG}{lost:AAG}{n u:Int}(h:(U3 c ss lost n u).2=true):
  Uv (U3 c ss lost n u).1∧(U3 c ss lost n u).1=(Jo [] (others lost 0 ss),[],u,())∧holds c lost=false∧ ∀s∈others lost 0 ss,Uv s:=by
 unfold U3 at*;simp only at h⊢;split at h
 case isFalse=>cases h
 rename_i h1;rw[AEv h1];simp only[AE1,AFS,AHc,AHR]at h1;obtain⟨_,_,_,h2,_,h3,h4⟩:=h1;exact⟨B5.1 h4,rfl,h2,fun s hs=>B5.1 (h3 s hs)⟩
theorem T6{l:List Bc}:∀{d i:Nat},i+d=l.length→(UL l i d=0∧ ∀j,i≤j→j<l.length→(l.getD j FZ).2.1=true)∨
  ∃k,i≤k∧k<l.length∧UL l i d=(k:Int)+1∧(l.getD k FZ).2.1=false∧ ∀j,i≤j→j<k→(l.getD j FZ).2.1=true
 |0,i,h=> .inl ⟨rfl,fun j h1 h2=>by omega⟩
 |d+1,i,h=>by
  simp only[UL];cases hb:(l.getD i ([],false,0,())).2.1 with
  |false=>grind
  |true=>
   simp only[AE7,AFM];rcases T6 (l:=l) (d:=d) (i:=i+1) (by omega)with⟨h1,h2⟩|⟨k,h1,h2,h3,h4,h5⟩
   all_goals grind
theorem Po{c:BN}{r:AH}(h:nV c r)(hl:0<r.1.length):∃k,k<r.1.length∧Bj r.1=(k:Int)+1∧(r.1.getD k FZ).2.1=false∧ ∀j,j<k→(r.1.getD j FZ).2.1=true:=by
 rcases T6 (l:=r.1) (d:=r.1.length) (i:=0) (by omega)with⟨h1,h2⟩|⟨k,h1,h2,h3,h4,h5⟩
 ·have:=(h.down (r.1.length-1) (by omega) (h2 _ (by omega) (by omega))).1
  omega
 ·exact⟨k,h2,h3,h4,fun j hj=>h5 j (by omega) hj⟩
theorem jO{c:BN}{r:AH}{ns:AAG}(h:(JX c r ns).2.2=true):nV c r∧nV c (JX c r ns).1∧(JX c r ns).1=(r.1++[(ns,false,0,())],r.2.1,())∧(JX c r ns).2.1=(r.1.length:Int)+1∧holds c ns=true∧r.1.length<30:=by
 unfold JX at*;split at h
 ·cases h
 rename_i hs;rw[AE4 hs];simp only[AGX,AGb]at hs;rw[FX]at hs;split at h
 case isFalse=>cases h
 rename_i h1;rw[AEv h1];simp only[AE1,AFS]at h1;have hn:=hs.n;refine⟨hs,⟨hs.cfg,?_,?_,fun e he=> ?_,fun i hi hc=> ?_⟩,rfl,rfl,h1.1,by omega⟩
 ·grind
 ·rcases hs.trim with h2|⟨h2,h3⟩
  all_goals grind
 ·simp only[AGf,AIM]at he
  rcases he with he|rfl
  ·exact hs.Ay e he
  simp_all
 ·simp only[AGP,AFq,AG6]at hi
  have get:∀j,j<r.1.length→(r.1++[(ns,false,0,())]).getD j FZ=r.1.getD j FZ:=fun j hj=>by
   grind
  by_cases hl:i<r.1.length
  ·rw[get i hl]at hc
   obtain⟨h2,h3⟩:=hs.down i hl hc;grind
  simp_all
theorem SC{l:List Bc}{i j:Nat}{last:Int}(hi:i<l.length):(Km l i last).getD j FZ=if i=j then((l.getD i FZ).1,true,last,())else l.getD j FZ:=by
 grind[Km]
theorem jC{c:BN}{r:AH}{b last:Int}(h:(Kf c r b last).2=true):nV c r∧nV c (Kf c r b last).1∧
  ∃k,k<r.1.length∧Bj r.1=(k:Int)+1∧k+1<r.1.length∧b=r.1.length∧(0≤last∧last≤60)∧(Kf c r b last).1=(Km r.1 k last,r.2.1,())∧(r.1.getD k FZ).2.1=false∧ ∀j,j<k→(r.1.getD j FZ).2.1=true:=by
 unfold Kf at*;split at h
 ·cases h
 rename_i hs;rw[AE4 hs];simp only[AGX,AGb]at hs;rw[FX]at hs;split at h
 case isFalse=>cases h
 rename_i h1;rw[AEv h1];simp only[AE1,AFS,Ak]at h1;obtain⟨hb,h0,UZ,hlast⟩:=h1;have hl:0<r.1.length:=by
  rcases Nat.eq_zero_or_pos r.1.length with hz|hz
  ·exfalso
   apply h0;unfold Bj;rw[hz];rfl
  omega
 obtain⟨k,k1,k2,k3,k4⟩:=Po hs hl;have hk:(Bj r.1-1).toNat=k:=by omega
 rw[hk];have hlen:(Km r.1 k last).length=r.1.length:=by simp[Km]
 refine⟨hs,⟨hs.cfg,by rw[hlen];exact hs.n,?_,fun e he=> ?_,fun i hi hc=> ?_⟩,k,k1,k2,by omega,hb,hlast,rfl,k3,k4⟩
 ·simp only[hlen];exact hs.trim
 ·unfold Km at he
  rcases AIf he with he|rfl
  ·exact hs.Ay e he
  ·exact⟨(hs.Ay _ (CE k1)).1,hlast,fun hf=>by cases hf⟩
 ·simp only[hlen]at hi⊢
  rw[SC k1]at hc;by_cases zP:k=i
  ·subst zP
   refine⟨by omega,fun j hj=> ?_⟩;rw[SC k1,AE4 (by omega)];simp_all
  ·rw[AE4 zP]at hc
   obtain⟨h2,h3⟩:=hs.down i hi hc;grind[SC]
theorem kv{c:BN}{r:AH}{p:Int}(h:(NU c r p).2=true):nV c r∧nV c (NU c r p).1∧(NU c r p).1=(r.1,max r.2.1 p,()):=by
 unfold NU at*;split at h
 ·cases h
 rename_i hs;rw[AE4 hs];simp only[AGX,AGb]at hs;rw[FX]at hs;split at h
 case isFalse=>cases h
 rename_i h1;rw[AEv h1];simp only[AE1,AFS]at h1;refine⟨hs,⟨hs.cfg,hs.n,?_,hs.Ay,hs.down⟩,rfl⟩;simp only;have hp:=(YT h1.1).1;by_cases hm:r.2.1≤p
 ·grind
 ·rw[show max r.2.1 p=r.2.1 by omega]
  exact hs.trim
theorem SZ{c:BN}{w:AL}{d:List UInt8}(h:(Bk c w d).2.2=true):TU c w∧TU c (Bk c w d).1∧(Bk c w d).1=(w.1,w.2.1++[(d,[],false,())],())∧(Bk c w d).2.1=(w.2.1.length:Int)+1:=by
 unfold Bk at*;split at h
 ·cases h
 rename_i hs;rw[AE4 hs];simp only[AGX,AGb]at hs;rw[Fj]at hs;split at h
 case isFalse=>cases h
 rename_i h1;rw[AEv h1];exact⟨hs,Fj.1 h1,rfl,rfl⟩
theorem SO{c:BN}{s:AG}{ep n:Int}(hn:0≤n∧n<c.1.length):∀{l:List AY} {o:Int},(∀x∈l,x.1.length≤40∧BA c x.2.1=true∧x.2.2.1=holds c x.2.1)→
  (∀x∈BD c s ep n o l,x.1.length≤40∧BA c x.2.1=true∧x.2.2.1=holds c x.2.1)∧MS (BD c s ep n o l)≤MS l∧(BD c s ep n o l).length=l.length
 |[],o,h=>by simp[BD]
 |x::l,o,h=>by
  obtain⟨h1,h2,h3⟩:=SO (s:=s) (ep:=ep) hn (l:=l) (o:=o+1) fun y hy=>h y (by simp[hy])
  have hx:=h x (by simp);simp only[BD,AGD,AFq,MS];split
  ·rename_i hd
   simp only[AE1,AHc]at hd;refine⟨?_,?_,by omega⟩
   ·rintro y (rfl|hy)
    ·exact⟨hx.1,MZ hx.2.1 hn,rfl⟩
    grind
   grind
  grind
theorem dK{c:BN}{n:Int}:∀{l:List AY},(∀x∈l,x.1.length≤40∧BA c x.2.1=true∧x.2.2.1=holds c x.2.1)→
  (∀x∈l.map (Fa n),x.1.length≤40∧BA c x.2.1=true∧x.2.2.1=holds c x.2.1)∧MS (l.map (Fa n))=MS l
 |[],h=>by simp
 |x::l,h=>by
  obtain⟨h1,h2⟩:=dK (n:=n) (l:=l) fun y hy=>h y (by simp[hy])
  have hx:=h x (by simp);simp only[AHb,AGD,MS,h2,Fa,AHM]
  rintro y (rfl|hy)
  ·refine⟨hx.1,?_,?_⟩
   ·simp only
    split
    ·simp_all
    ·exact Pj _ hx.2.1
   ·simp only
    split
    ·simp_all
    ·rename_i hd
     simp only[AGX]at hd;rw[hd]
     symm
     rw[AHX];grind[au,bD]
  grind
theorem Sv{c:BN}{w:AL}{n:Int}(h:TU c w):TU c (Cw c w n).1∧(Cw c w n).1=(w.1,w.2.1.map (Fa n),()):=by
 unfold Cw;rw[Fj.2 h];obtain⟨h1,h2⟩:=dK (n:=n) h.words;exact⟨⟨h.cfg,h.ep,by simpa using h.n,h1,by simp only[AE7];exact h2▸h.opn⟩,rfl⟩
theorem J7{l:List AD}:0≤Ru l∧Ru l≤60:=by
 unfold Ru;cases l.length==0 with
 |true=>simp
 |false=>
  simp only[AFM];rcases AEw (Bd (l.getD (l.length-1) GG).1)with h|h
  ·have:=(D2 h).2.1;omega
  grind[CM]
theorem iG{c:BN}{m:Ab}{n:Int}{l:List AD}(h:(Kq c m n l).2=true):gM c m∧gM c (Kq c m n l).1∧m.2.2.2.2.1=false∧
  (Kq c m n l).1=(m.1,m.2.1,Fc n m.2.2.1,Dr m.2.2.2.1 (l.filter fun e=>Ah e.1==m.2.1),m.2.2.2.2.1,m.2.2.2.2.2.1,()):=by
 unfold Kq at*;split at h
 ·cases h
 rename_i hs;rw[AE4 hs];simp only[AGX,AGb]at hs;rw[Ea]at hs;simp only at h⊢;split at h
 case isFalse=>cases h
 rename_i h1;rw[AEv h1];simp only[AE1,AHc]at h1;exact⟨hs,Ea.1 h1.2,h1.1,rfl⟩
theorem gj{c:BN}{m:Ab}{s:AAG}(h:(Iv c m s).2=true):gM c m∧gM c (Iv c m s).1∧m.2.2.2.2.1=false∧OM c s (m.2.2.1.filter s.contains)=true∧
  (Iv c m s).1=(m.1,m.2.1,m.2.2.1,m.2.2.2.1,true,List.replicate (Ru m.2.2.2.1).toNat [],()):=by
 unfold Iv at*;split at h
 ·cases h
 rename_i hs;rw[AE4 hs];simp only[AGX,AGb]at hs;rw[Ea]at hs;split at h
 case isFalse=>cases h
 rename_i h1;rw[AEv h1];simp only[AE1,AHc]at h1;refine⟨hs,⟨hs.cfg,hs.ep,hs.b,hs.nu,hs.cJ,hs.seen,fun l hl=> ?_,?_⟩,h1.1,h1.2,rfl⟩
 ·simp only at hl
  rw[AHP hl];exact Tp hs.cfg
 ·simp only[AHF,AHL]
  have:=(J7 (l:=m.2.2.2.1)).1;omega
theorem WH{c:BN}{m:Ab}{s:AG}{n:Int}(hn:0≤n∧n<c.1.length):∀{l:List AAG} {o:Int},(∀x∈l,BA c x=true)→
  (∀x∈FI m s n o l,BA c x=true)∧(FI m s n o l).length=l.length
 |[],o,h=>by simp[FI]
 |x::l,o,h=>by
  obtain⟨h1,h2⟩:=WH (m:=m) (s:=s) hn (l:=l) (o:=o+1) fun y hy=>h y (by simp[hy])
  have hx:=h x (by simp);simp only[FI,AGD,AFq,h2,AHM]
  rintro y (rfl|hy)
  all_goals grind[MZ]
theorem pw{c:BN}{s:AG}{l:List Bc}{n:Int}{m:Ab}(hn:0≤n∧n<c.1.length)(h:gM c m):gM c (Nk s l n m):=by
 unfold Nk;split
 ·obtain⟨h1,h2⟩:=WH (m:=m) (s:=s) hn (o:=1) h.wrote
  exact⟨h.cfg,h.ep,h.b,h.nu,h.cJ,h.seen,h1,by simp only[h2];exact h.n⟩
 omega
theorem cV{c:BN}{m:Ab}{n:Int}(h:gM c m):gM c (DE c m n).1∧(DE c m n).1=(m.1,m.2.1,m.2.2.1,m.2.2.2.1,m.2.2.2.2.1,m.2.2.2.2.2.1.map fun l=>less l [n],()):=by
 unfold DE;rw[Ea.2 h];refine⟨⟨h.cfg,h.ep,h.b,h.nu,h.cJ,h.seen,fun l hl=> ?_,?_⟩,rfl⟩
 ·simp only[AE7,AE6,AGn,AHv]at hl
  obtain⟨l',h1,rfl⟩:=hl;exact Pj _ (h.wrote l' h1)
 ·simp only[AE7,AE6,AGn,AIR]
  exact h.n
theorem cm{c:BN}{g:AH}{sure:Int}{r:AN}{l:List Aa}(h:(CR c g sure r l).2=0):sb (CR c g sure r l).1:=by
 unfold CR at*;split at h
 ·omega
 rename_i hs;rw[AE4 hs];simp only[AGX,AGb,AE1,FX,La]at hs;obtain⟨hg,hr,_⟩:=hs;have r1:=hr.ep;have r2:=hr.off;have r3:=hr.n;split at h
 ·omega
 rename_i h1;rw[AE4 h1];simp only[AHN,AFS,not_or]at h1;have hn:=hg.n;simp only at h⊢;split at h
 ·rename_i h2
  rw[AEv h2];have hp:Bd g.2.1=true:=by
   rcases hg.trim with ht|ht
   all_goals grind[D3]
  obtain⟨a1,a2,_⟩:=D2 hp;exact⟨by grind,by grind,by grind⟩
 ·rename_i h2
  rw[AE4 h2];split at h
  ·rename_i h3
   rw[AEv h3];exact⟨by grind,by simp_all,by simp_all;omega⟩
  ·rename_i h3
   rw[AE4 h3];split at h
   ·omega
   rename_i h4;rw[AE4 h4];simp only[AHN,AFS,not_or]at h4;split at h
   ·omega
   rename_i h5;rw[AE4 h5];exact⟨by omega,by grind,by simp_all;omega⟩
end Go.M
end
section
namespace Go.M
open Go.M.H (AD AG Ab AM AA Bc AH AY AL AN Ar Aa An)
theorem AF{α β:Type}(a:α)(f:α→Option β):(some a).bind f=f a:=rfl
def n_(q:AG×Bool):ADS×(List AD×List AD×Unit):=(((((),(),q.1.2.2.1,()),q.2,()),()),(q.1.1,q.1.2.1,()))
theorem M5{s:AG}(h:H.Am s≤2^30):s.1.length≤2^30∧s.2.1.length≤2^30:=by
 grind[H.AU,H.Ap,H.Am]
end Go.M
end
section
namespace Go.M
open Go.M.H (AD AG Ab AM AA Bc AH AY AL AN Ar Aa An Am AX AU Ap)
theorem qA{k:Int}{i:Nat}(hk:0≤k∧k<2^63)(hi:i≤63):(ZY .i64 (k.fdiv (2^(min i 64))) 1==1)=decide ((k/2^i)%2=1):=by
 obtain⟨m,rfl⟩:∃m:Nat,k=m:=⟨k.toNat,by omega⟩;rw[show min i 64=i by omega];have h1:(m:Int).fdiv (2^i)=((m/2^i:Nat):Int):=by
  grind
 have h2:(m:Int)/2^i=((m/2^i:Nat):Int):=by norm_cast
 have h3:m/2^i<2^63:=Nat.lt_of_le_of_lt (Nat.div_le_self _ _) (by omega);rw[h1,h2,show(1:Int)=((1:Nat):Int)from rfl,p7 h3 (by omega),Nat.and_one_is_mod];rfl
end Go.M
end
section
namespace Go.M
open Go.M.H (AD AG Ab AM AA Bc AH AY AL AN Ar Aa An Am AX AU AW Ap CP BV Ao)
theorem NN{α:Type}{l:List α}{i:Nat}{x d:α}(hi:i<l.length):(l.set i x).getD i d=x:=by
 simp_all
theorem WM{α:Type}{l:List α}{f:α→α}{i:Nat}(hi:i≤l.length):((l.map f).take i++l.drop i).length=l.length:=by
 simp_all
theorem UO{α:Type}{l:List α}{f:α→α}{i:Nat}{d:α}(hi:i<l.length):((l.map f).take i++l.drop i).getD i d=l[i]:=by
 grind
theorem XJ{α:Type}{l:List α}{f:α→α}{i:Nat}{y:α}(hi:i<l.length)(hy:y=f l[i]):((l.map f).take i++l.drop i).set i y=(l.map f).take (i+1)++l.drop (i+1):=by
 have h:((l.map f).take i).length=i:=by grind
 subst hy;rw[List.set_append_right _ _ (by omega),h,AIQ,drop_cons hi,List.set_cons_zero,AHO (by simp_all),AGl,List.getElem_map];rfl
theorem iH{α:Type}{l:List α}{f:α→α}{i:Nat}(hi:i<l.length)(hf:f l[i]=l[i]):(l.map f).take i++l.drop i=(l.map f).take (i+1)++l.drop (i+1):=by
 grind[List.take_succ_eq_append_getElem,List.append_assoc,drop_cons]
theorem iO{n:Int}:∀{l:AAG},(Vu n l).length=l.length+1
 |[]=>rfl
 |a::l=>by
  simp only[Vu];split
  ·simp
  ·simp[iO (l:=l)]
theorem bB{n:Int}{l:AAG}:(Fc n l).length≤l.length+1:=by
 grind[Fc,iO]
def pkR(q:AH×Bool):ADu×(List Bc×Unit):=(((((),q.1.2.1,()),q.2,()),()),(q.1.1,()))
section
variable{c:BN} {r:AH} (hc:c.1.length≤2^40) (hl:AX CP r.1≤2^30) (ht:Cp r.2.1)
include hc hl ht
end
theorem Yq{α:Type}{f:α→Nat}{l m:List α}:AX f (l++m)=AX f l+AX f m:=by
 induction l with
 |nil=>simp[AX]
 |cons a l ih=>grind[AX]
theorem iY{n:Int}{x:AY}(h:x.2.2.1=true):Fa n x=x:=by
 obtain⟨a,b,d,e⟩:=x;simp only at h;subst h;rfl
def pkW(q:AL×Bool):ADt×(List AY×Unit):=((((q.1.1,(),()),q.2,()),()),(q.1.2.1,()))
section
variable{c:BN} {w:AL} (hc:c.1.length≤2^40) (hl:AX BV w.2.1≤2^20)
include hc hl
end
end Go.M
end
section
namespace Go.M
open Go.M.H (AD AG Ab AM AA Bc AH AY AL AN Ar Aa An Am AX AU AW Ap CP BV Ao Bt Cb)
abbrev PkM:Type:=ADc×(List Int×List AD×List AAG×Unit)
def lp(q:Ab×Bool):PkM:=((((q.1.1,q.1.2.1,(),(),q.1.2.2.2.2.1,(),()),q.2,()),()),(q.1.2.2.1,q.1.2.2.2.1,q.1.2.2.2.2.2.1,()))
section
variable{m:Ab} (hm:Bt m≤2^20)
include hm
theorem PA:m.2.2.1.length≤2^20∧m.2.2.2.1.length≤2^20∧m.2.2.2.2.2.1.length≤2^20∧ ∀l∈m.2.2.2.2.2.1,l.length≤2^20:=by
 have l1:=AU (f:=Ap) (l:=m.2.2.2.1);have l2:=AU (f:=Cb) (l:=m.2.2.2.2.2.1);have vS:m.2.2.1.length+(AX Ap m.2.2.2.1+(AX Cb m.2.2.2.2.2.1+0))≤2^20:=by
  grind[Bt]
 refine⟨by omega,by omega,by omega,fun l hl=> ?_⟩;have:l.length≤AX Cb m.2.2.2.2.2.1:=AW (f:=Cb) hl;omega
end
section
variable{c:BN} {m:Ab} (hc:c.1.length≤2^40) (hm:Bt m≤2^20) (h:jX m.2.2.2.1)
include hc hm h
end
end Go.M
end
section
namespace Go.M
open Go.M.H (AD AG Ab AM AA Bc AH AY AL AN Ar Aa An Am Bt AX AU AW Ap CP)
theorem Bp{α:Type}{b:Bool}{x y:α}:cond (!b) x y=cond b y x:=by simp_all
theorem FF{α:Type}{a b:Int}{x y:α}:cond (a !=b) x y=if a=b then y else x:=by
 simp_all
theorem G2{α:Type}{a b:Int}{x y:α}:cond (a==b) x y=if a=b then x else y:=by
 simp_all
theorem ed{x:Int}:0≤CM x∧CM x≤60:=by
 cases h:Bd x with
 |true=>have:=(D2 h).2.1;omega
 |false=>unfold CM;simp_all
def vG(q:AN×Int):W6:=((((q.1.1,q.1.2.1,(),()),q.2,()),()),(q.1.2.2.1,()))
end Go.M
end
section
set_option maxRecDepth 8000
namespace Go.M
open Go.M.H (AD AG Ab AM AA Bc AH AY AL AN Ar Aa An Am Bt AX AU AW Ap CP BV Ao)
theorem ki(e:AD):∀l:List AD,AX Ap (keep e l)≤AX Ap l+(1+Ap e)
 |[]=>by simp[keep,AX]
 |x::l=>by
  have:=ki e l;grind[keep,better,AX]
theorem jE:∀{l k:List AD},AX Ap (Dr k l)≤AX Ap k+AX Ap l
 |[],k=>by simp[Dr,AX]
 |e::l,k=>by
  have h1:=jE (l:=l) (k:=keep e k);grind[ki,Dr,AX]
theorem pg:∀{l:List AG} {k:List AD},AX Ap (Jo k l)≤AX Ap k+AX Am l
 |[],k=>by simp[Jo,AX]
 |s::l,k=>by
  have h1:=pg (l:=l) (k:=Dr k s.1);have h2:=jE (l:=s.1) (k:=k);have:Am s=AX Ap s.1+AX Ap s.2.1:=rfl;grind[Jo,AX]
theorem eH{y:AD}:∀{l:List AG} {k:List AD},y∈Jo k l→y∈k∨ ∃s∈l,y∈s.1
 |[],k,h=> .inl h
 |s::l,k,h=>by
  rcases eH (l:=l) h with h|⟨t,ht,h⟩
  all_goals grind[T1]
def vf(b:Bool)(x:AG):AG×Bool:=if b then(x,true)else(AO,false)
def pkF(ss:List AG)(q:AG×Bool):ib:=(((((),(),q.1.2.2.1,()),q.2,()),()),(ss,q.1.1,q.1.2.1,()))
end Go.M
end
section
namespace Go.M
open Go.M.H (AD AG Ab AM AA Bc AH AY AL AN Ar Aa An)
theorem UP{α:Type}{l:List α}{i j:Nat}{x d:α}(hi:i<l.length):(l.set i x).getD j d=if i=j then x else l.getD j d:=by
 grind
theorem Kd{w:AA}{n:Int}(h:As w n=0):0≤n∧n<w.Al.length∧n∉w.lost:=by
 unfold As at h;split at h
 ·omega
 rename_i h1;simp only[AGX,AGb,Ak]at h1;grind
theorem ah{s x:AM}:∀{l:List AM},x∈Rj s l↔x=s∨x∈l
 |[]=>by simp[Rj]
 |y::l=>by
  simp only[Rj];split
  ·simp
  ·simp only[AGD,ah (l:=l)]
   grind
theorem bS{s:AM}:∀{l:List AM},(Rj s l).length=l.length+1
 |[]=>rfl
 |y::l=>by
  simp only[Rj];split
  ·rfl
  ·simp only[AFq,bS (l:=l)]
theorem gy{s:AM}:∀{l:List AM},Kg (fun s:AM=>s.1) l→(∀x∈l,x.1≠s.1)→Kg (fun s:AM=>s.1) (Rj s l)
 |[],_,_=>by simp[Rj,Kg]
 |y::l,h,hs=>by
  have h':=h;simp only[Kg,AGx]at h;simp only[Rj];split
  ·rename_i hy
   simp only[Kg,AGx,AGD];grind
  ·rename_i hy
   simp only[Kg,AGx];refine⟨fun a ha=> ?_,gy h.2 fun x hx=>hs x (by simp[hx])⟩;rcases ah.1 ha with rfl|ha
   all_goals grind
section
variable{w:AA} (h:EF w)
include h
theorem EF.node{n:Int}(hn:As w n=0):(0≤n∧n<(Ag w).1.length)∧n.toNat<w.Al.length∧n∉w.lost:=by
 obtain⟨a,b,c⟩:=Kd hn;have:=h.dG;exact⟨⟨a,by show n<(w.1.length:Int);omega⟩,by omega,c⟩
theorem EF.an{n:Int}(hn:As w n=0){s:AG}(hs:Uv s):EF (w.BU (w.Al.set n.toNat s)):=by
 obtain⟨h1,h2,h3⟩:=h.node hn;refine⟨h.cfg,by(try simp only[H.AA.Al,H.AA.lost,H.AA.Ay,H.AA.trim,H.AA.AE,H.AA.A8,H.AA.AQ,H.AA.A3,H.AA.Ei,H.AA.BU,H.AA.EP,H.AA.GJ,H.AA.BZ,H.AA.CH,H.AA.CQ,H.AA.Cl,H.AA.Eb,C2,Ag]at*);simpa using h.dG,h.lost,h.Ei,fun i hi=> ?_,h.WW,h.dM,h.jY,h.AE,h.TL,h.A8,h.dD,h.AQ,h.MN,h.A3,h.Ou⟩
 (try simp only[H.AA.Al,H.AA.lost,H.AA.Ay,H.AA.trim,H.AA.AE,H.AA.A8,H.AA.AQ,H.AA.A3,H.AA.Ei,H.AA.BU,H.AA.EP,H.AA.GJ,H.AA.BZ,H.AA.CH,H.AA.CQ,H.AA.Cl,H.AA.Eb,C2,Ag]at*);simp only[AH1]at hi
 simp only[UP h2];split
 ·grind
 ·exact h.Al i hi
theorem EF.store{n:Int}(hn:As w n=0):Uv (storeAt w n):=(h.Al _ (h.node hn).2.1).1
theorem Wv{n:Int}{q:AG×Bool}(hn:As w n=0)(hs:q.2=true→Uv q.1)(e:(putAt w n q).2=0):EF (putAt w n q).1:=by
 unfold putAt at*;split at e
 ·rename_i hq
  rw[AEv hq];exact h.an hn (hs hq)
 omega
theorem sF{a:Int}(e:(PW w a).2=0):EF (PW w a).1:=by
 unfold PW at*;split at e
 ·omega
 rename_i h4;rw[AE4 h4];simp only at e⊢;split at e
 ·omega
 rename_i hq;rw[AE4 hq];simp only[AGX,AGb]at hq;obtain⟨_,r1,r2,r3,r4,r5⟩:=jO hq;rw[r2]at r1;rw[r2,r3];have zF:=h.dM;have hl:((C2 w).1++[(DQ a,false,0,())]).length=w.Ay.length+1:=by simp[C2]
 refine⟨h.cfg,h.dG,h.lost,h.Ei,h.Al,r1,?_,by(try simp only[H.AA.Al,H.AA.lost,H.AA.Ay,H.AA.trim,H.AA.AE,H.AA.A8,H.AA.AQ,H.AA.A3,H.AA.Ei,H.AA.BU,H.AA.EP,H.AA.GJ,H.AA.BZ,H.AA.CH,H.AA.CQ,H.AA.Cl,H.AA.Eb,C2,Ag]at*);simp,fun x hx=> ?_,?_,fun m hm=>by grind,h.dD,h.AQ,h.MN,fun s hs=> ?_,h.Ou⟩
 ·grind
 ·replace hx:x∈w.AE++[((w.Ay.length:Int)+1,[],())]:=hx
  simp only[AGf,AIM]at hx;have AJb:w.Ay.length<30:=r5;have ct:(((C2 w).1++[(DQ a,false,0,())]).length:Int)=(w.Ay.length:Int)+1:=by omega
  show TU (Ag w) x∧x.1≤(((C2 w).1++[(DQ a,false,0,())]).length:Int)
  rw[ct];rcases hx with hx|rfl
  ·have:=h.AE x hx
   grind
  ·exact⟨⟨h.cfg,by omega,by simp,by simp,by simp[MS]⟩,by omega⟩
 ·show Kg (fun x:AL=>x.1) (w.AE++[((w.Ay.length:Int)+1,[],())])
  simp only[Kg,List.pairwise_append,AGx,List.Pairwise.nil,AIM,AHM];refine⟨h.TL,by simp,fun x hx y hy=> ?_⟩;subst hy;have:=(h.AE x hx).2;omega
 ·have:=h.A3 s hs
  grind
end
section
variable{w:AA} (h:EF w)
include h
theorem kl{a:Int}{d:List UInt8}(hd:d.length≤40)(e:(doAdd w a d).2=0):EF (doAdd w a d).1:=by
 unfold doAdd at*;split at e
 ·omega
 rename_i ha;rw[AE4 ha];simp only[AGX,AGb,Ak]at ha;simp only at e⊢;split at e
 ·omega
 rename_i hq;rw[AE4 hq];simp only[AHN,not_or,AGX,AGb,AHx,AIY,AHo]at hq;obtain⟨hq,h120,q8⟩:=hq;have hi:a.toNat<w.AE.length:=by omega
 have hx:=h.AE _ (CE (d:=Af) hi);obtain⟨_,r1,r2,r3⟩:=SZ hq;rw[r2]at r1;rw[r2,r3];rw[r3]at q8;have rm:=r1.n;simp only[AGP,AFq,AG6]at rm;obtain⟨p1,p2,p3⟩:=KI (e:=(w.AE.getD a.toNat Af).1) (o:=((w.AE.getD a.toNat Af).2.1.length:Int)+1) hx.1.ep (by omega);have jL:=h.MN;refine⟨h.cfg,h.dG,h.lost,h.Ei,h.Al,h.WW,by(try simp only[H.AA.Al,H.AA.lost,H.AA.Ay,H.AA.trim,H.AA.AE,H.AA.A8,H.AA.AQ,H.AA.A3,H.AA.Ei,H.AA.BU,H.AA.EP,H.AA.GJ,H.AA.BZ,H.AA.CH,H.AA.CQ,H.AA.Cl,H.AA.Eb,C2,Ag]at*);simpa using h.dM,h.jY,fun x l_=> ?_,?_,h.A8,h.dD,h.AQ,by grind[bS],fun s hs=> ?_,gy h.Ou fun x hx=>by grind⟩
 ·rcases AIf l_ with l_|rfl
  ·exact h.AE x l_
  ·exact⟨r1,hx.2⟩
 ·have:=h.TL
  show Kg (fun x:AL=>x.1) (w.AE.set a.toNat ((w.AE.getD a.toNat Af).1,(w.AE.getD a.toNat Af).2.1++[(d,[],false,())],()))
  simp only[Kg,List.pairwise_iff_getElem,List.getElem_set,AH1]at this⊢;grind
 ·rcases ah.1 hs with rfl|hs
  ·simp_all
  ·exact h.A3 s hs
theorem iR{a b n:Int}(e:(HH w a b n).2=0):EF (HH w a b n).1:=by
 unfold HH at*;split at e
 ·omega
 rename_i h1;rw[AE4 h1];simp only at e⊢;split at e
 ·omega
 rename_i h2;rw[AE4 h2];split at e
 ·omega
 rename_i h3;rw[AE4 h3];split at e
 ·omega
 rename_i h4;rw[AE4 h4];grind[Wv,Tc]
theorem Um{all:Bool}{s:AG}{n:Int}(hn:0≤n∧n<(Ag w).1.length):∀{ws:List AL} {ss:List AM},
  (E_ all (Ag w) s w.Ay n ws ss).1=ws.map (fun x=>if Fi s w.Ay n x then(x.1,BD (Ag w) s x.1 n 1 x.2.1,())else x)∧
  (E_ all (Ag w) s w.Ay n ws ss).2.map (fun x=>(x.1,x.2.1))=ss.map (fun x=>(x.1,x.2.1))
 |[],ss=>⟨rfl,rfl⟩
 |x::ws,ss=>by
  simp only[E_,AHb];split
  ·rename_i ht
   obtain⟨h1,h2⟩:=Um hn (ws:=ws) (ss:=ss.map (TV all x.1 x.2.1 (BD (Ag w) s x.1 n 1 x.2.1)));rw[h1,h2];exact⟨rfl,by rw[AHq];rfl⟩
  ·obtain⟨h1,h2⟩:=Um hn (ws:=ws) (ss:=ss)
   rw[h1,h2];simp_all
theorem lQ{all:Bool}{n:Int}(e:(KW all w n).2=0):EF (KW all w n).1:=by
 unfold KW at*;split at e
 ·omega
 rename_i h1;rw[AE4 h1];simp only at e⊢;split at e
 ·omega
 rename_i h2;rw[AE4 h2];simp only[ne_eq,AIa]at h1;simp only[AGX,AGb]at h2;have hn:=(h.node h1).1;obtain⟨s1,s2,s3⟩:=Kb h2;have hw:=h.an h1 s2;obtain⟨t1,t2⟩:=Um h (all:=all) (s:=(CS (storeAt w n)).1) hn (ws:=w.AE) (ss:=w.A3);have ms:∀x∈(E_ all (Ag w) (CS (storeAt w n)).1 w.Ay n w.AE w.A3).2,∃y∈w.A3,x.1=y.1∧x.2.1=y.2.1:=fun x hx=>by
  have:(x.1,x.2.1)∈w.A3.map (fun x=>(x.1,x.2.1)):=by grind
  simp_all
 have ml:(E_ all (Ag w) (CS (storeAt w n)).1 w.Ay n w.AE w.A3).2.length=w.A3.length:=by
  have:=congrArg List.length t2;grind
 have ma:Kg (fun s:AM=>s.1) (E_ all (Ag w) (CS (storeAt w n)).1 w.Ay n w.AE w.A3).2:=by
  have h1:(E_ all (Ag w) (CS (storeAt w n)).1 w.Ay n w.AE w.A3).2.map (fun x=>x.1)=w.A3.map (fun x=>x.1):=by
   have:=congrArg (List.map Prod.fst) t2;rw[AHq,AHq]at this;exact this
  have h2:(w.A3.map (fun x:AM=>x.1)).Pairwise (· < ·):=AIb.2 h.Ou;grind
 refine⟨h.cfg,hw.dG,h.lost,h.Ei,hw.Al,h.WW,by(try simp only[H.AA.Al,H.AA.lost,H.AA.Ay,H.AA.trim,H.AA.AE,H.AA.A8,H.AA.AQ,H.AA.A3,H.AA.Ei,H.AA.BU,H.AA.EP,H.AA.GJ,H.AA.BZ,H.AA.CH,H.AA.CQ,H.AA.Cl,H.AA.Eb,C2,Ag]at*);simp only[t1,AIR];exact h.dM,by(try simp only[H.AA.Al,H.AA.lost,H.AA.Ay,H.AA.trim,H.AA.AE,H.AA.A8,H.AA.AQ,H.AA.A3,H.AA.Ei,H.AA.BU,H.AA.EP,H.AA.GJ,H.AA.BZ,H.AA.CH,H.AA.CQ,H.AA.Cl,H.AA.Eb,C2,Ag]at*);simpa using h.jY,fun x hx=> ?_,?_,fun m hm=> ?_,h.dD,h.AQ,by(try simp only[H.AA.Al,H.AA.lost,H.AA.Ay,H.AA.trim,H.AA.AE,H.AA.A8,H.AA.AQ,H.AA.A3,H.AA.Ei,H.AA.BU,H.AA.EP,H.AA.GJ,H.AA.BZ,H.AA.CH,H.AA.CQ,H.AA.Cl,H.AA.Eb,C2,Ag]at*);simp only[ml];exact h.MN,fun x hx=> ?_,ma⟩
 ·(try simp only[H.AA.Al,H.AA.lost,H.AA.Ay,H.AA.trim,H.AA.AE,H.AA.A8,H.AA.AQ,H.AA.A3,H.AA.Ei,H.AA.BU,H.AA.EP,H.AA.GJ,H.AA.BZ,H.AA.CH,H.AA.CQ,H.AA.Cl,H.AA.Eb,C2,Ag]at*);simp only[t1]at hx
  obtain⟨y,hy,rfl⟩:=AHv.1 hx;have lu:=h.AE y hy;split
  ·obtain⟨k1,k2,k3⟩:=SO (s:=(CS (storeAt w n)).1) (ep:=y.1) hn (o:=1) lu.1.words
   exact⟨⟨h.cfg,lu.1.ep,k3▸lu.1.n,k1,AHK k2 lu.1.opn⟩,lu.2⟩
  ·exact lu
 ·show Kg (fun x:AL=>x.1) (E_ all (Ag w) (CS (storeAt w n)).1 w.Ay n w.AE w.A3).1
  rw[t1];simp only[Kg,AIb];refine h.TL.imp fun{a b} fL=> ?_
  grind
 ·obtain⟨y,hy,rfl⟩:=AHv.1 hm
  have lu:=h.A8 y hy;refine⟨pw hn lu.1,?_⟩;grind[Nk]
 ·obtain⟨y,hy,e1,e2⟩:=ms x hx
  have:=h.A3 y hy;simp_all
theorem qa{n k:Int}(e:(Oh w n k).2=0):EF (Oh w n k).1:=by
 unfold Oh at*;split at e
 ·omega
 rename_i h1;rw[AE4 h1];exact Wv h (by omega) (fun hq=>(Kb hq).2.1) e
theorem oG{n:Int}(e:(Ot w n).2=0):EF (Ot w n).1:=by
 unfold Ot at*;split at e
 ·omega
 rename_i h1;rw[AE4 h1];exact Wv h (by omega) (fun hq=>(fH hq).2.1) e
theorem uB{n:Int}(e:(SD w n).2=0):EF (SD w n).1:=by
 unfold SD at*;split at e
 ·omega
 rename_i h1;rw[AE4 h1];simp only[ne_eq,AIa]at h1;obtain⟨hn,hn2,hn3⟩:=h.node h1;have fw:∀x∈w.AE,(Cw (Ag w) x n).1=(x.1,x.2.1.map (Fa n),()):=fun x hx=>(Sv (h.AE x hx).1).2
 refine⟨h.cfg,by(try simp only[H.AA.Al,H.AA.lost,H.AA.Ay,H.AA.trim,H.AA.AE,H.AA.A8,H.AA.AQ,H.AA.A3,H.AA.Ei,H.AA.BU,H.AA.EP,H.AA.GJ,H.AA.BZ,H.AA.CH,H.AA.CQ,H.AA.Cl,H.AA.Eb,C2,Ag]at*);simpa using h.dG,MZ h.lost hn,?_,fun i hi=> ?_,h.WW,by(try simp only[H.AA.Al,H.AA.lost,H.AA.Ay,H.AA.trim,H.AA.AE,H.AA.A8,H.AA.AQ,H.AA.A3,H.AA.Ei,H.AA.BU,H.AA.EP,H.AA.GJ,H.AA.BZ,H.AA.CH,H.AA.CQ,H.AA.Cl,H.AA.Eb,C2,Ag]at*);simpa using h.dM,by(try simp only[H.AA.Al,H.AA.lost,H.AA.Ay,H.AA.trim,H.AA.AE,H.AA.A8,H.AA.AQ,H.AA.A3,H.AA.Ei,H.AA.BU,H.AA.EP,H.AA.GJ,H.AA.BZ,H.AA.CH,H.AA.CQ,H.AA.Cl,H.AA.Eb,C2,Ag]at*);simpa using h.jY,fun x hx=> ?_,?_,fun m hm=> ?_,h.dD,h.AQ,h.MN,h.A3,h.Ou⟩
 ·grind[holds,Ag,Fc]
 ·(try simp only[H.AA.Al,H.AA.lost,H.AA.Ay,H.AA.trim,H.AA.AE,H.AA.A8,H.AA.AQ,H.AA.A3,H.AA.Ei,H.AA.BU,H.AA.EP,H.AA.GJ,H.AA.BZ,H.AA.CH,H.AA.CQ,H.AA.Cl,H.AA.Eb,C2,Ag]at*);simp only[AH1]at hi
  simp only[UP hn2];split
  ·exact⟨Uv.nil,fun _=>rfl⟩
  ·rename_i UZ
   refine⟨(h.Al i hi).1,fun hl=>(h.Al i hi).2 ?_⟩;grind[aN]
 ·obtain⟨y,hy,rfl⟩:=AHv.1 hx
  have lu:=h.AE y hy;refine⟨(Sv lu.1).1,?_⟩;simp_all
 ·(try simp only[H.AA.Al,H.AA.lost,H.AA.Ay,H.AA.trim,H.AA.AE,H.AA.A8,H.AA.AQ,H.AA.A3,H.AA.Ei,H.AA.BU,H.AA.EP,H.AA.GJ,H.AA.BZ,H.AA.CH,H.AA.CQ,H.AA.Cl,H.AA.Eb,C2,Ag]at*);simp only[Kg,AIb]
  refine List.Pairwise.imp_of_mem (fun{a b} ha hb fL=> ?_) h.TL;simp_all
 ·obtain⟨y,hy,rfl⟩:=AHv.1 hm
  have lu:=h.A8 y hy;obtain⟨k1,k2⟩:=cV (n:=n) lu.1;refine⟨k1,?_⟩;simp_all
theorem sf{n:Int}(e:(Sa w n).2=0):EF (Sa w n).1:=by
 unfold Sa at*;split at e
 ·omega
 rename_i h1;rw[AE4 h1];simp only at e⊢;split at e
 ·omega
 rename_i h2;rw[AE4 h2];simp only[AGX,AGb]at h1 h2;obtain⟨s1,s2,s3,s4⟩:=pO h2;rw[List.contains_eq_mem,AFS]at h1;have rm:=(Ct.1 h.lost).2.1 n h1;have jL:=h.dG;have hn2:n.toNat<w.Al.length:=by
  have:n<(w.1.length:Int):=rm.2;omega
 refine⟨h.cfg,by grind,Pj _ h.lost,?_,fun i hi=> ?_,h.WW,h.dM,h.jY,h.AE,h.TL,h.A8,h.dD,h.AQ,h.MN,h.A3,h.Ou⟩
 ·refine .inr ?_
  rw[AHX];intro hh
  replace hh:holds (Ag w) (less w.lost [n])=true:=hh
  have:=au (m:=w.lost) hh h.lost fun x hx=>(AIV.1 hx).1
  simp_all
 ·(try simp only[H.AA.Al,H.AA.lost,H.AA.Ay,H.AA.trim,H.AA.AE,H.AA.A8,H.AA.AQ,H.AA.A3,H.AA.Ei,H.AA.BU,H.AA.EP,H.AA.GJ,H.AA.BZ,H.AA.CH,H.AA.CQ,H.AA.Cl,H.AA.Eb,C2,Ag]at*);simp only[AH1]at hi
  simp only[UP hn2];split
  ·grind[bD,List.mem_singleton]
  ·exact⟨(h.Al i hi).1,fun hl=>(h.Al i hi).2 (bD.1 hl).1⟩
theorem r7(e:(Pc w).2=0):EF (Pc w).1:=by
 unfold Pc at*;split at e
 ·omega
 rename_i h1;rw[AE4 h1];split at e
 ·omega
 rename_i h2;rw[AE4 h2];simp only[AHN,AFS,not_or]at h1;obtain⟨k,k1,k2,k3,k4⟩:=Po h.WW (by show 0<w.Ay.length;omega);have k1':k<w.Ay.length:=k1;have Yv:Bj w.Ay=(k:Int)+1:=k2;have hn:w.Ay.length≤30:=h.WW.n;refine⟨h.cfg,h.dG,h.lost,h.Ei,h.Al,h.WW,h.dM,by(try simp only[H.AA.Al,H.AA.lost,H.AA.Ay,H.AA.trim,H.AA.AE,H.AA.A8,H.AA.AQ,H.AA.A3,H.AA.Ei,H.AA.BU,H.AA.EP,H.AA.GJ,H.AA.BZ,H.AA.CH,H.AA.CQ,H.AA.Cl,H.AA.Eb,C2,Ag]at*);simp,h.AE,h.TL,fun m hm=> ?_,h.dD,h.AQ,h.MN,h.A3,h.Ou⟩
 replace hm:m∈[Zn (Bj w.Ay) w.Ay.length]:=hm
 simp only[AIM]at hm;subst hm;refine⟨⟨h.cfg,?_,?_,Tp h.cfg,List.Pairwise.nil,by simp[Zn],by simp[Zn],rfl⟩,rfl,rfl⟩
 ·show 1≤Bj w.Ay∧Bj w.Ay≤30
  omega
 ·show Bj w.Ay+1≤(w.Ay.length:Int)∧(w.Ay.length:Int)≤30
  omega
theorem uD{n:Int}(e:(Pf w n).2=0):EF (Pf w n).1:=by
 unfold Pf at*;split at e
 ·omega
 rename_i m ms hm;simp only at e⊢;split at e
 ·omega
 rename_i h1;rw[AE4 h1];split at e
 ·omega
 rename_i h2;rw[AE4 h2];split at e
 ·omega
 rename_i h3;rw[AE4 h3];simp only[ne_eq,AIa]at h1;simp only[AHN,not_or,AGX,AGb]at h3;obtain⟨s1,s2,s3⟩:=WD h3.1;obtain⟨m1,m2,m3,m4⟩:=iG h3.2;have hw:=h.an h1 s2;have ru:=h.jY;rw[hm]at ru;refine⟨h.cfg,hw.dG,h.lost,h.Ei,hw.Al,h.WW,h.dM,by omega,h.AE,h.TL,fun x hx=> ?_,h.dD,h.AQ,h.MN,h.A3,h.Ou⟩;rcases AGD.1 hx with rfl|hx
 ·have:=h.A8 m (by simp_all)
  refine⟨m2,?_⟩;simp_all
 simp_all
theorem ua(e:(NF w).2=0):EF (NF w).1:=by
 unfold NF at*;split at e
 ·omega
 rename_i m ms hm;simp only at e⊢;split at e
 ·omega
 rename_i h3;rw[AE4 h3];simp only[AGX,AGb]at h3;obtain⟨m1,m2,m3,m4,m5⟩:=gj h3;have ru:=h.jY;rw[hm]at ru;refine⟨h.cfg,h.dG,h.lost,h.Ei,h.Al,h.WW,h.dM,by omega,h.AE,h.TL,fun x hx=> ?_,h.dD,h.AQ,h.MN,h.A3,h.Ou⟩;rcases AGD.1 hx with rfl|hx
 ·have:=h.A8 m (by simp_all)
  refine⟨m2,?_⟩;simp_all
 simp_all
theorem xJ{b n:Int}(e:(Ts w b n).2=0):EF (Ts w b n).1:=by
 unfold Ts at*;split at e
 ·omega
 rename_i m ms hm;split at e
 ·omega
 rename_i x hx;split at e
 ·omega
 rename_i h1;rw[AE4 h1];split at e
 ·omega
 rename_i h2;rw[AE4 h2];grind[Wv,Tc]
theorem oS(e:(MC w).2=0):EF (MC w).1:=by
 unfold MC at*;split at e
 ·omega
 rename_i m ms hm;split at e
 ·omega
 rename_i h1;rw[AE4 h1];simp only at e⊢;split at e
 ·omega
 rename_i h2;rw[AE4 h2];simp only[AGX,AGb]at h2;obtain⟨r0,r1,k,k1,k2,k3,k4,k5,k6,k7,k8⟩:=jC h2;rw[k6]at r1;rw[k6];have hl:(Km (C2 w).1 k (m.2.2.2.2.2.1.length:Int)).length=w.Ay.length:=by simp[Km,C2]
 refine⟨h.cfg,h.dG,h.lost,h.Ei,h.Al,r1,h.dM,by(try simp only[H.AA.Al,H.AA.lost,H.AA.Ay,H.AA.trim,H.AA.AE,H.AA.A8,H.AA.AQ,H.AA.A3,H.AA.Ei,H.AA.BU,H.AA.EP,H.AA.GJ,H.AA.BZ,H.AA.CH,H.AA.CQ,H.AA.Cl,H.AA.Eb,C2,Ag]at*);simp,fun x hx=> ?_,h.TL,fun x hx=>by grind,h.dD,h.AQ,h.MN,fun x hx=> ?_,h.Ou⟩
 ·(try simp only[H.AA.Al,H.AA.lost,H.AA.Ay,H.AA.trim,H.AA.AE,H.AA.A8,H.AA.AQ,H.AA.A3,H.AA.Ei,H.AA.BU,H.AA.EP,H.AA.GJ,H.AA.BZ,H.AA.CH,H.AA.CQ,H.AA.Cl,H.AA.Eb,C2,Ag]at*);simp only[hl];exact h.AE x hx
 ·(try simp only[H.AA.Al,H.AA.lost,H.AA.Ay,H.AA.trim,H.AA.AE,H.AA.A8,H.AA.AQ,H.AA.A3,H.AA.Ei,H.AA.BU,H.AA.EP,H.AA.GJ,H.AA.BZ,H.AA.CH,H.AA.CQ,H.AA.Cl,H.AA.Eb,C2,Ag]at*);simp only[hl];exact h.A3 x hx
theorem oL{a:Int}(e:(UF w a).2=0):EF (UF w a).1:=by
 unfold UF at*;simp only at e⊢;split at e
 ·omega
 rename_i h2;rw[AE4 h2];simp only[AGX,AGb]at h2;obtain⟨r0,r1,r2⟩:=kv h2;rw[r2]at r1;rw[r2];exact⟨h.cfg,h.dG,h.lost,h.Ei,h.Al,r1,h.dM,h.jY,h.AE,h.TL,h.A8,h.dD,h.AQ,h.MN,h.A3,h.Ou⟩
theorem lf{a k:Int}(e:(Dm w a k).2=0):EF (Dm w a k).1:=by
 unfold Dm at*;split at e
 ·omega
 rename_i h1;rw[AE4 h1];simp only at e⊢;split at e
 ·omega
 rename_i h2;rw[AE4 h2];simp only[ne_eq,AIa]at h2;refine⟨h.cfg,h.dG,h.lost,h.Ei,h.Al,h.WW,h.dM,h.jY,h.AE,h.TL,h.A8,by(try simp only[H.AA.Al,H.AA.lost,H.AA.Ay,H.AA.trim,H.AA.AE,H.AA.A8,H.AA.AQ,H.AA.A3,H.AA.Ei,H.AA.BU,H.AA.EP,H.AA.GJ,H.AA.BZ,H.AA.CH,H.AA.CQ,H.AA.Cl,H.AA.Eb,C2,Ag]at*);simpa using h.dD,fun r hr=> ?_,h.MN,h.A3,h.Ou⟩;rcases AIf hr with hr|rfl
 ·exact h.AQ r hr
 ·exact cm h2
theorem ud{a:Int}(e:(Tr w a).2=0):EF (Tr w a).1:=by
 unfold Tr at*;split at e
 ·omega
 rename_i h1;rw[AE4 h1];have hs:(w.AE.eraseIdx a.toNat).Sublist w.AE:=List.eraseIdx_sublist _ _;exact⟨h.cfg,h.dG,h.lost,h.Ei,h.Al,h.WW,AHK hs.length_le h.dM,h.jY,fun x hx=>h.AE x (hs.subset hx),h.TL.sublist hs,h.A8,h.dD,h.AQ,h.MN,h.A3,h.Ou⟩
theorem vI{all:Bool}{d:An}(hd:d.2.2.2.2.1.length≤40)(e:(IU all w d).2=0):EF (IU all w d).1:=by
 unfold IU at*;by_cases hc:d.1=1
 ·rw[AEv hc]at e⊢;exact sF h e
 rw[AE4 hc]at e⊢;clear hc;by_cases hc:d.1=2
 ·rw[AEv hc]at e⊢;exact kl h hd e
 rw[AE4 hc]at e⊢;clear hc;by_cases hc:d.1=3
 ·rw[AEv hc]at e⊢;exact iR h e
 rw[AE4 hc]at e⊢;clear hc;by_cases hc:d.1=4
 ·rw[AEv hc]at e⊢;exact lQ h e
 rw[AE4 hc]at e⊢;clear hc;by_cases hc:d.1=5
 ·rw[AEv hc]at e⊢;exact qa h e
 rw[AE4 hc]at e⊢;clear hc;by_cases hc:d.1=6
 ·rw[AEv hc]at e⊢;exact uB h e
 rw[AE4 hc]at e⊢;clear hc;by_cases hc:d.1=7
 ·rw[AEv hc]at e⊢;exact sf h e
 rw[AE4 hc]at e⊢;clear hc;by_cases hc:d.1=8
 ·rw[AEv hc]at e⊢;exact r7 h e
 rw[AE4 hc]at e⊢;clear hc;by_cases hc:d.1=9
 ·rw[AEv hc]at e⊢;exact uD h e
 rw[AE4 hc]at e⊢;clear hc;by_cases hc:d.1=10
 ·rw[AEv hc]at e⊢;exact ua h e
 rw[AE4 hc]at e⊢;clear hc;by_cases hc:d.1=11
 ·rw[AEv hc]at e⊢;exact xJ h e
 rw[AE4 hc]at e⊢;clear hc;by_cases hc:d.1=12
 ·rw[AEv hc]at e⊢;exact oS h e
 rw[AE4 hc]at e⊢;clear hc;by_cases hc:d.1=13
 ·rw[AEv hc]at e⊢;exact oL h e
 rw[AE4 hc]at e⊢;clear hc;by_cases hc:d.1=14
 ·rw[AEv hc]at e⊢;exact lf h e
 rw[AE4 hc]at e⊢;clear hc;by_cases hc:d.1=15
 ·rw[AEv hc]at e⊢;exact ud h e
 rw[AE4 hc]at e⊢;grind[oG]
end
theorem cB{d:An}(h:J2 d=true):d.2.2.2.2.1.length≤40:=by
 unfold J2 at h;simp_all
theorem VM{all:Bool}{w:AA}{d:An}(e:(BS all w d).2=0):B4 (BS all w d).1=true:=by
 unfold BS at*;split at e
 ·omega
 rename_i h1;rw[AE4 h1];have hw:B4 w=true:=by
  simp_all
 have hd:J2 d=true:=by
  simp_all
 grind[B8,vI,cB]
end Go.M
end
section
namespace Go.M
open Go.M.H (AD AG Ab AM AA Bc AH AY AL AN Ar Aa An Am Bt AX AU AW Ap CP BV Ao AZ DJ Bu B_ Cb)
theorem ly{α:Type}{f:α→Nat}{B:Nat}:∀{l:List α},(∀x∈l,f x≤B)→AX f l≤l.length*(1+B)
 |[],_=>by simp[AX]
 |x::l,h=>by
  have h1:=h x (by simp);have h2:=ly (l:=l) fun y hy=>h y (by simp[hy])
  grind[AX,List.length_cons,Nat.add_mul]
theorem Is{α:Type}{f:α→Nat}{B N:Nat}{l:List α}(hn:l.length≤N)(h:∀x∈l,f x≤B):AX f l≤N*(1+B):=
 AHK (ly h) (AGS _ hn)
theorem gN{α:Type}{f:α→Int}{b:Int}:∀{l:List α} {a:Int},Kg f l→(∀x∈l,a≤f x∧f x<b)→(l.length:Int)≤max (b-a) 0
 |[],a,_,_=>by grind
 |x::l,a,h,hb=>by
  simp only[Kg,AGx]at h;have h1:=hb x (by simp);have h2:=gN (l:=l) (a:=f x+1) h.2 fun y hy=>⟨by grind,(hb y (by simp[hy])).2⟩
  grind
theorem F6{c:BN}{l:AAG}(h:BA c l=true):l.length≤8:=by
 obtain⟨h1,h2,h3⟩:=Ct.1 h;have:=(EG h1).2.1;have:=gN (a:=0) (b:=c.1.length) h3 h2;omega
theorem Nq{p:Int}(h:Bd p=true):Cp p:=by
 obtain⟨h1,h2,h3⟩:=D2 h;grind[D3,Cp]
theorem Uv.w{s:AG}(h:Uv s):Am s≤10000:=by
 have h1:=Is (f:=Ap) (B:=40) h.nk fun e he=>(E7.1 (h.kept e he)).len
 have h2:=Is (f:=Ap) (B:=40) h.nl fun e he=>(E7.1 (h.late e he)).len
 unfold Am;omega
theorem Uv.sin{s:AG}(h:Uv s):ln s:=
 ⟨fun e he=>Nq (E7.1 (h.kept e he)).pl,fun e he=>Nq (E7.1 (h.late e he)).pl⟩
theorem gM.ABe{c:BN}{m:Ab}(h:gM c m):m.2.2.2.1.length≤60:=by
 have:=gN (f:=fun e:AD=>e.1) (a:=D3 m.2.1 1) (b:=D3 m.2.1 61) h.cJ fun e he=>by
  have h1:=h.seen e he;have h2:=D2 (E7.1 h1.1).pl;grind[D3]
 grind[D3]
theorem gM.w{c:BN}{m:Ab}(h:gM c m):Bt m≤5000:=by
 have h1:=Is (f:=Ap) (B:=40) h.ABe fun e he=>(E7.1 (h.seen e he).1).len
 have h2:=F6 h.nu;have h3:m.2.2.2.2.2.1.length≤60:=by
  have:=h.n;have hb:=J7 (l:=m.2.2.2.1);omega
 have h4:=Is (f:=Cb) (B:=8) h3 fun l hl=>F6 (h.wrote l hl)
 unfold Bt;omega
theorem gM.zJ{c:BN}{m:Ab}(h:gM c m):jX m.2.2.2.1:=fun e he=>Nq (E7.1 (h.seen e he).1).pl
theorem nV.w{c:BN}{r:AH}(h:nV c r):AX CP r.1≤270:=by
 have:=Is (f:=CP) (B:=8) h.n fun e he=>F6 (Qa (h.Ay e he).1)
 omega
theorem nV.tin{c:BN}{r:AH}(h:nV c r):Cp r.2.1:=by
 rcases h.trim with h|h
 all_goals grind[Cp,Nq]
theorem TU.w{c:BN}{w:AL}(h:TU c w):Ao w≤3000:=by
 have:=Is (f:=BV) (B:=48) h.n fun x hx=>by
  have h1:=h.words x hx;grind[F6,BV]
 unfold Ao;omega
def RdS(w:AA):Prop:= ∀r∈w.AQ,∀e∈r.2.2.1,e.2.2.1.length≤40
theorem EF.Wz{w:AA}(h:EF w){s:AG}(hs:s∈w.Al):Uv s:=by
 obtain⟨i,hi,rfl⟩:=AHD hs;have:=(h.Al i hi).1;simp_all
end Go.M
end
section
set_option maxRecDepth 8000
namespace Go.M
open Go.M.H (AD AG Ab AM AA Bc AH AY AL AN Ar Aa An Am Bt AX AU AW Ap CP BV Ao AZ DJ Bu B_ Cb)
theorem me:∀i,i<8→([0,1,2,3,4,5,6,7]:AAG).drop i=(i:Int)::([0,1,2,3,4,5,6,7]:AAG).drop (i+1):=by decide
end Go.M
end
section
set_option maxRecDepth 8000
namespace Go.M
open Go.M.H (AD AG Ab AM AA Bc AH AY AL AN Ar Aa An Am Bt AX AU AW Ap CP BV Ao AZ DJ Bu B_ Cb)
def Uz(q:AA×Int):ZW:=(((((),q.1.2.1,(),(),(),q.1.2.2.2.2.2.1,(),(),(),(),q.1.2.2.2.2.2.2.2.2.2.2.1,()),q.2,()),()),(q.1.1,q.1.2.2.1,q.1.2.2.2.1,q.1.2.2.2.2.1,q.1.2.2.2.2.2.2.1,q.1.2.2.2.2.2.2.2.1,q.1.2.2.2.2.2.2.2.2.1,q.1.2.2.2.2.2.2.2.2.2.1,()))
theorem Jd{α:Type}{x y:α}:(if(!true)=true then x else y)=y:=rfl
theorem LK{α:Type}{x y:α}:(if(!false)=true then x else y)=x:=rfl
structure AGG (w:AA):Prop where
 c:w.1.length≤8
 st:w.2.2.1.length=w.1.length
 lost:w.2.2.2.1.length≤8
 era:AX CP w.2.2.2.2.1≤270
 Uw:w.2.2.2.2.1.length≤30
 trim:Cp w.2.2.2.2.2.1
 wr:w.2.2.2.2.2.2.1.length≤4
 md:w.2.2.2.2.2.2.2.1.length≤1
 rd:w.2.2.2.2.2.2.2.2.1.length=2
 se:w.2.2.2.2.2.2.2.2.2.1.length≤120
 ws:AX Am w.2.2.1≤80008
 ww:AX Ao w.2.2.2.2.2.2.1≤12004
 gV:w.AE.length≤4
 gv:w.Al.length=w.1.length
 N5:w.lost.length≤8
theorem EF.nums{w:AA}(h:EF w):AGG w where
 c:=(EG h.cfg).2.1
 st:=h.dG
 lost:=F6 h.lost
 era:=h.WW.w
 Uw:=h.WW.n
 trim:=h.WW.tin
 wr:=h.dM
 md:=h.jY
 rd:=h.dD
 se:=h.MN
 ws:=by
  have:=Is (f:=Am) (B:=10000) (N:=8) (l:=w.Al) (by rw[h.dG];exact(EG h.cfg).2.1) fun s hs=>(h.Wz hs).w
  omega
 ww:=by
  have:=Is (f:=Ao) (B:=3000) h.dM fun x hx=>(h.AE x hx).1.w
  omega
 gV:=h.dM
 gv:=h.dG
 N5:=F6 h.lost
section
variable{w:AA} (h:EF w)
include h
theorem EF.bI{a:Int}(ha:BC a 0 ((w.AE.length:Int)-1)=true):(0≤a∧a<(w.2.2.2.2.2.2.1.length:Int))∧TU (Ag w) (w.AE.getD a.toNat Af)∧AX BV (w.AE.getD a.toNat Af).2.1≤3000:=by
 have:=Ak.1 ha;have hi:a.toNat<w.AE.length:=by omega
 have hx:=(h.AE _ (CE (d:=Af) hi)).1;refine⟨?_,hx,hx.w⟩
 (try simp only[H.AA.Al,H.AA.lost,H.AA.Ay,H.AA.trim,H.AA.AE,H.AA.A8,H.AA.AQ,H.AA.A3,H.AA.Ei,H.AA.BU,H.AA.EP,H.AA.GJ,H.AA.BZ,H.AA.CH,H.AA.CQ,H.AA.Cl,H.AA.Eb,C2,Ag]at*)
 omega
theorem Ik{e:Int}:(BB (C2 w).1 e).length≤8:=by
 unfold BB;split
 ·rename_i he
  have he':=Ak.1 he;exact F6 (Qa (h.WW.Ay _ (CE (d:=FZ) (by omega))).1)
 ·simp
end
end Go.M
end
section
set_option maxRecDepth 8000
namespace Go.M
open Go.M.H (AD AG Ab AM AA Bc AH AY AL AN Ar Aa An Am Bt AX AU AW Ap CP BV Ao AZ DJ Bu B_ Cb)
theorem dO{α:Type}{f:α→Nat}{p:α→Bool}:∀{l:List α},AX f (l.filter p)≤AX f l
 |[]=>AGh _
 |x::l=>by
  have:=dO (f:=f) (p:=p) (l:=l);grind[AX]
theorem pL{s:AG}{u:Int}(hs:Uv s):Uv (CT s u).1:=by
 rcases AEw (CT s u).2 with hq|hq
 ·exact(WD hq).2.1
 ·have:(CT s u).1=s:=by
   unfold CT at*;rw[B5.2 hs]at*;grind
  simp_all
section
variable{w:AA} (h:EF w)
include h
theorem EF.LJ{n:Int}(hn:As w n=0):(0≤n∧n<(w.2.2.1.length:Int))∧Am (storeAt w n)≤2^30∧ln (storeAt w n)∧Uv (storeAt w n):=by
 obtain⟨n1,n2,n3⟩:=Kd hn;have:=(h.store hn).w;exact⟨⟨n1,n2⟩,by omega,(h.store hn).sin,h.store hn⟩
end
end Go.M
end
section
set_option maxRecDepth 8000
namespace Go.M
open Go.M.H (AD AG Ab AM AA Bc AH AY AL AN Ar Aa An Am Bt AX AU AW Ap CP BV Ao AZ DJ Bu B_ Cb)
theorem eqE{x e:AD}:(x.1==e.1&&(x.2.1==e.2.1&&(x.2.2.1==e.2.2.1&&(x.2.2.2.1==e.2.2.2.1&&true))))=decide (x=e):=by
 grind
theorem ZX{m:Ab}{o:Int}{l:List AAG}(hl:l.length=m.2.2.2.2.2.1.length):FV (m.1,m.2.1,m.2.2.1,m.2.2.2.1,m.2.2.2.2.1,l,()) o=FV m o:=by
 grind[FV]
section
variable{w:AA} (h:EF w) {st:AG} (hs:Uv st) {n:Int} (hn:0≤n∧n<(Ag w).1.length) {SS:List AG}
include h hs hn
end
end Go.M
end
section
set_option maxRecDepth 8000
namespace Go.M
open Go.M.H (AD AG Ab AM AA Bc AH AY AL AN Ar Aa An Am Bt AX AU AW Ap CP BV Ao AZ DJ Bu B_ Cb)
theorem eS{x y:AY}(hx:x.2.2.1=false):∀{dn rest:List AY},MS (dn++y::rest)≤MS (dn++x::rest)
 |[],rest=>by
  grind[MS]
 |a::dn,rest=>by
  have:=eS (y:=y) hx (dn:=dn) (rest:=rest);grind[MS]
section
variable{w:AA} (h:EF w) {st:AG} (hs:Uv st) {n:Int} (hn:0≤n∧n<(Ag w).1.length) {SS:List AG}
include h hs hn
end
section
variable{w:AA} (h:EF w)
include h
end
end Go.M
end
section
set_option maxRecDepth 8000
namespace Go.M
open Go.M.H (AD AG Ab AM AA Bc AH AY AL AN Ar Aa An Am Bt AX AU AW Ap CP BV Ao AZ DJ Bu B_ Cb)
section
variable{w:AA} (h:EF w)
include h
end
theorem Un{w:AA}{n:Int}{q:AG×Bool}(e:(putAt w n q).2≠0):(putAt w n q).1=w:=by
 unfold putAt at*;grind
theorem iq{all:Bool}{w:AA}{d:An}(e:(IU all w d).2≠0):(IU all w d).1=w:=by
 unfold IU at*;by_cases c:d.1=1
 ·rw[AEv c]at e⊢
  clear c
  revert e
  unfold PW;grind
 rw[AE4 c]at e⊢;clear c;by_cases c:d.1=2
 ·rw[AEv c]at e⊢
  clear c
  revert e
  unfold doAdd;grind
 rw[AE4 c]at e⊢;clear c;by_cases c:d.1=3
 ·rw[AEv c]at e⊢
  clear c
  revert e
  unfold HH
  try dsimp only
  repeat' split
  all_goals first|(intro e;exact absurd rfl e)|(intro e;rfl)|grind[Un]
 rw[AE4 c]at e⊢;clear c;by_cases c:d.1=4
 ·rw[AEv c]at e⊢
  clear c
  revert e
  unfold KW;grind
 rw[AE4 c]at e⊢;clear c;by_cases c:d.1=5
 ·rw[AEv c]at e⊢
  clear c
  revert e
  unfold Oh
  try dsimp only
  repeat' split
  all_goals first|(intro e;exact absurd rfl e)|(intro e;rfl)|grind[Un]
 rw[AE4 c]at e⊢;clear c;by_cases c:d.1=6
 ·rw[AEv c]at e⊢
  clear c
  revert e
  unfold SD;grind
 rw[AE4 c]at e⊢;clear c;by_cases c:d.1=7
 ·rw[AEv c]at e⊢
  clear c
  revert e
  unfold Sa;grind
 rw[AE4 c]at e⊢;clear c;by_cases c:d.1=8
 ·rw[AEv c]at e⊢
  clear c
  revert e
  unfold Pc;grind
 rw[AE4 c]at e⊢;clear c;by_cases c:d.1=9
 ·rw[AEv c]at e⊢
  clear c
  revert e
  unfold Pf;grind
 rw[AE4 c]at e⊢;clear c;by_cases c:d.1=10
 ·rw[AEv c]at e⊢
  clear c
  revert e
  unfold NF;grind
 rw[AE4 c]at e⊢;clear c;by_cases c:d.1=11
 ·rw[AEv c]at e⊢
  clear c
  revert e
  unfold Ts
  try dsimp only
  repeat' split
  all_goals first|(intro e;exact absurd rfl e)|(intro e;rfl)|grind[Un]
 rw[AE4 c]at e⊢;clear c;by_cases c:d.1=12
 ·rw[AEv c]at e⊢
  clear c
  revert e
  unfold MC;grind
 rw[AE4 c]at e⊢;clear c;by_cases c:d.1=13
 ·rw[AEv c]at e⊢
  clear c
  revert e
  unfold UF;grind
 rw[AE4 c]at e⊢;clear c;by_cases c:d.1=14
 ·rw[AEv c]at e⊢
  clear c
  revert e
  unfold Dm;grind
 rw[AE4 c]at e⊢;clear c;by_cases c:d.1=15
 ·rw[AEv c]at e⊢
  clear c
  revert e
  unfold Tr;grind
 rw[AE4 c]at e⊢;clear c;unfold Ot at*;split at e
 ·simp_all
 ·rename_i h1;rw[AE4 h1];exact Un e
end Go.M
end
section
set_option maxRecDepth 8000
namespace Go.M
open Go.M.H (AD AG Ab AM AA Bc AH AY AL AN Ar Aa An Am Bt AX AU AW Ap CP BV Ao AZ DJ Bu B_ Cb)
def OK(code:AAG){X Y:Type}(Q:X→Y→Prop)(o:Option (X×(ADX×Y))):Prop:=
 ∃x i h y,o=some (x,((code,i,h,()),y))∧Me code i∧Q x y
section
variable{code:AAG} {X Y Z W:Type} {Q:X→Y→Prop} {R:Z→W→Prop}
theorem OK.bind{o:Option (X×(ADX×Y))}{f:X×(ADX×Y)→Option (Z×(ADX×W))}
  (ho:OK code Q o) (hf:∀x i h y,Me code i→Q x y→OK code R (f (x,((code,i,h,()),y)))):OK code R (o.bind f):=by
 obtain⟨x,i,h,y,e,hi,hq⟩:=ho;simp_all
theorem OK.some{x:X}{i h:Int}{y:Y}(hi:Me code i)(hq:Q x y):OK code Q (some (x,((code,i,h,()),y))):=⟨x,i,h,y,rfl,hi,hq⟩
theorem OK.cond{b:Bool}{x y:Option (X×(ADX×Y))}(h1:b=true→OK code Q x)(h2:b=false→OK code Q y):OK code Q (cond b x y):=by
 grind
end
section
variable{code:AAG} (hc:code.length≤2^30)
include hc
end
end Go.M
end
section
set_option maxRecDepth 8000
namespace Go.M
open Go.M.H (AD AG Ab AM AA Bc AH AY AL AN Ar Aa An Am Bt AX AU AW Ap CP BV Ao AZ DJ Bu B_ Cb)
section
variable{code:AAG} (hc:code.length≤2^30) {w:AA} (h:EF w)
include hc h
theorem EF.xQ{e:Int}(he:1≤e∧e≤w.Ay.length):0<(BB w.Ay e).length∧(BB w.Ay e).length≤8∧ ∀x∈BB w.Ay e,0≤x∧x<8:=by
 have hh:=(h.WW.Ay _ (CE (d:=FZ) (show(e-1).toNat<(C2 w).1.length by show _<w.Ay.length;omega))).1;have hn:=Qa hh;have cO:=(EG h.cfg).2.1;unfold BB;rw[Ak.2 he,AEv rfl];refine⟨?_,F6 hn,fun x hx=> ?_⟩
 ·rcases Nat.eq_zero_or_pos (w.Ay.getD (e-1).toNat FZ).1.length with h0|h0
  ·have kg:=AGw h0
   have hh':holds (Ag w) (w.Ay.getD (e-1).toNat FZ).1=true:=hh;grind[holds_nil]
  omega
 ·have:=(Ct.1 hn).2.1 x hx
  omega
end
end Go.M
end
section
set_option maxRecDepth 8000
namespace Go.M
open Go.M.H (AD AG Ab AM AA Bc AH AY AL AN Ar Aa An Am Bt AX AU AW Ap CP BV Ao AZ DJ Bu B_ Cb)
theorem Xj{s:AAG}{p:Int}:∀{l:List Aa} {b:Option AD},(∀x,b=some x→C8 x=true)→ ∀x,Fq s p b l=some x→C8 x=true
 |[],b,hb,x,h=>hb x h
 |a::l,b,hb,x,h=>by
  simp only[Fq]at h;split at h
  ·rename_i hc
   simp only[AE1]at hc;refine Xj (l:=l) ?_ x h
   intro z hz;split at hz
   ·rename_i z' hz'
    unfold better at hz;grind
   simp_all
  ·exact Xj (l:=l) hb x h
theorem YY{c:BN}(hc:C4 c=true):EF (Iq c)∧RdS (Iq c):=by
 refine⟨⟨hc,by simp[Iq,H.AA.Al],Tp hc,.inr holds_nil,fun i hi=> ?_,⟨hc,by show 0≤30;omega,.inl rfl,fun e he=>(by cases he),fun i hi=>by exact absurd hi (by show¬i<0;omega)⟩,by show 0≤4;omega,by show 0≤1;omega,fun x hx=>(by cases hx),List.Pairwise.nil,fun x hx=>(by cases hx),rfl,fun r hr=> ?_,by show 0≤120;omega,fun x hx=>(by cases hx),List.Pairwise.nil⟩,fun r hr=> ?_⟩
 ·have:(Iq c).Al.getD i AO=AO:=by
   show(List.replicate c.1.length AO).getD i AO=AO
   grind
  rw[this];exact⟨Uv.nil,fun _=>rfl⟩
 ·have:r=(1,1,[],()):=by
   have hr':r∈([(1,1,[],()),(1,1,[],())]:List AN):=hr;simp_all
  subst this;exact⟨by omega,by simp_all,by simp_all⟩
 ·have:r=(1,1,[],()):=by
   have hr':r∈([(1,1,[],()),(1,1,[],())]:List AN):=hr;simp_all
  simp_all
section
variable{code:AAG} (hc:code.length≤2^30)
include hc
end
end Go.M
end
section
set_option maxRecDepth 8000
namespace Go.M
open Go.M.H (AD AG Ab AM AA Bc AH AY AL AN Ar Aa An Am Bt AX AU AW Ap CP BV Ao AZ DJ Bu B_ Cb)
section
variable{code:AAG} (hc:code.length≤2^30)
include hc
theorem kL{i hh:Int}(hi:Me code i):OK code (fun(x:ADT) (y:AAG×Unit)=>y.1.length≤9) (Ng code i hh):=by
 obtain⟨l,c',i1,h1,e,hl,hi1⟩:=nE hc (h:=hh) hi;exact⟨_,i1,h1,(l,()),e,hi1,hl⟩
end
end Go.M
end
section
set_option maxRecDepth 8000
namespace Go.M
open Go.M.H (AD AG Ab AM AA Bc AH AY AL AN Ar Aa An Am Bt AX AU AW Ap CP BV Ao AZ DJ Bu B_ Cb)
theorem cY{w:AA}(h:UK w)(p:Int):Sr w p=some ((((mZ p (UB w)).1,(mZ p (UB w)).2,()),()),()):=by
 unfold Sr RU;rw[show(w.1,w.2.1,w.2.2.1,w.2.2.2.1,w.2.2.2.2.1,w.2.2.2.2.2.1,w.2.2.2.2.2.2.1,w.2.2.2.2.2.2.2.1,w.2.2.2.2.2.2.2.2.1,w.2.2.2.2.2.2.2.2.2.1,w.2.2.2.2.2.2.2.2.2.2.1,())=w from rfl,VL h];grind[nj,XD,UB,Aq,Aw]
end Go.M
end
section
set_option maxRecDepth 8000
namespace Go.M
open Go.M.H (AD AG Ab AM AA Bc AH AY AL AN Ar Aa An Am Bt AX AU AW Ap CP BV Ao AZ DJ Bu B_ Cb)
theorem Ck{l:AAG}(h:l.length≤2^30):CL l=some (((),()),(l,())):=by
 unfold CL;rw[AEv (by rw[DF];omega)]
theorem OT{l:List AD}(h:l.length≤2^30):F8 l=some (((),()),(l,())):=by
 unfold F8;rw[AEv (by rw[DF];omega)]
theorem Pg{r:AN}(h:r.2.2.1.length≤2^30):Iz r=some (((r.1,r.2.1,(),()),()),(r.2.2.1,())):=by
 unfold Iz;rw[AEv (by rw[DF];omega)]
theorem Pz{c:BN}(h:c.1.length≤2^30):Fb c=some ((((),c.2.1,()),()),(c.1,())):=by
 grind[Fb,Ck]
theorem FO{s:AG}(h1:s.1.length≤2^30)(h2:s.2.1.length≤2^30):CG s=some ((((),(),s.2.2.1,()),()),(s.1,s.2.1,())):=by
 grind[CG,OT]
theorem FD{r:AH}(h:AX CP r.1≤2^30):DL r=some ((((),r.2.1,()),()),(r.1,())):=by
 have hl:=AU (f:=CP) (l:=r.1);have key:∀(n i:Nat) (acc:List Bc),i≤r.1.length→r.1.length-i<n→acc.length≤i→E9 n r.1 r.1.length i 0 [] r.2.1 acc=some ((((),r.2.1,()),()),(acc++r.1.drop i,())):=by
  intro n
  induction n with
  |zero=>omega
  |succ n ih=>
   intro i acc hi hn ha;simp only[E9,LU,AB];by_cases hc:i<r.1.length
   ·have hm:=AW (f:=CP) (AFj hc)
    have hw:CP r.1[i]=r.1[i].1.length:=rfl;rw[AEv (by omega),AEv (by omega),BJ hc,Ck (by omega),AR (by omega) (by omega),show((i:Int)+1)=((i+1:Nat):Int)by omega];simp only[AF];rw[AEv (by rw[DF];omega),ih (i+1) _ (by omega) (by omega) (by simp_all),drop_cons hc,AGl];rfl
   grind
 grind[DL,LY,Aq,Aw]
theorem GM{x:AL}(h:Ao x≤2^30):D_ x=some (((x.1,(),()),()),(x.2.1,())):=by
 have h':AX BV x.2.1≤2^30:=h;have hl:=AU (f:=BV) (l:=x.2.1);have key:∀(n i:Nat) (acc:List AY),i≤x.2.1.length→x.2.1.length-i<n→acc.length≤i→GY n x.2.1 x.2.1.length i 0 [] x.1 acc=some (((x.1,(),()),()),(acc++x.2.1.drop i,())):=by
  intro n
  induction n with
  |zero=>omega
  |succ n ih=>
   intro i acc hi hn ha;simp only[GY,Mc,AB];by_cases hc:i<x.2.1.length
   ·have hm:=AW (f:=BV) (AFj hc)
    have hw:BV x.2.1[i]=x.2.1[i].1.length+x.2.1[i].2.1.length:=rfl;rw[AEv (by omega),AEv (by omega),BJ hc,Ck (by omega),AR (by omega) (by omega),show((i:Int)+1)=((i+1:Nat):Int)by omega];simp only[AF];rw[AEv (by rw[DF];omega),ih (i+1) _ (by omega) (by omega) (by simp_all),drop_cons hc,AGl];rfl
   grind
 grind[D_,Mg,Aq,Aw]
theorem En{m:Ab}(h:Bt m≤2^30):ET m=some (((m.1,m.2.1,(),(),m.2.2.2.2.1,(),()),()),(m.2.2.1,m.2.2.2.1,m.2.2.2.2.2.1,())):=by
 have h':m.2.2.1.length+AX Ap m.2.2.2.1+AX Cb m.2.2.2.2.2.1≤2^30:=h;have hl:=AU (f:=Cb) (l:=m.2.2.2.2.2.1);have qe:=AU (f:=Ap) (l:=m.2.2.2.1);have key:∀(n i:Nat) (acc:List AAG),i≤m.2.2.2.2.2.1.length→m.2.2.2.2.2.1.length-i<n→acc.length≤i→IB n m.2.2.2.2.2.1 m.2.2.2.2.2.1.length i 0 0 false [] [] [] m.1 m.2.1 m.2.2.2.2.1 m.2.2.1 m.2.2.2.1 acc=some (((m.1,m.2.1,(),(),m.2.2.2.2.1,(),()),()),(m.2.2.1,m.2.2.2.1,acc++m.2.2.2.2.2.1.drop i,())):=by
  intro n
  induction n with
  |zero=>omega
  |succ n ih=>
   intro i acc hi hn ha;simp only[IB,OV,AB];by_cases hc:i<m.2.2.2.2.2.1.length
   ·have hm:=AW (f:=Cb) (AFj hc)
    have hw:Cb m.2.2.2.2.2.1[i]=m.2.2.2.2.2.1[i].length:=rfl;rw[AEv (by omega),AEv (by omega),BJ hc,Ck (by omega),AR (by omega) (by omega),show((i:Int)+1)=((i+1:Nat):Int)by omega];simp only[AF];rw[AEv (by rw[DF];omega),ih (i+1) _ (by omega) (by omega) (by simp_all),drop_cons hc,AGl];rfl
   grind
 grind[ET,OU,Ck,OT,AF,Aq,Aw]
section
variable{w:AA} (h:UK w)
include h
theorem oN:∀(n i:Nat) (QB:List AG) (R0:List AL) (Tx:List Ab) (X1:List AN),i≤w.2.2.2.2.2.2.2.2.1.length→w.2.2.2.2.2.2.2.2.1.length-i+1≤n→X1.length≤i→
  DW n w.2.2.2.2.2.2.2.2.1 w.2.2.2.2.2.2.2.2.1.length i w.1 w.2.1 w.2.2.1 w.2.2.2.1 w.2.2.2.2.1 w.2.2.2.2.2.1 w.2.2.2.2.2.2.1 w.2.2.2.2.2.2.2.1 w.2.2.2.2.2.2.2.2.1 w.2.2.2.2.2.2.2.2.2.1 w.2.2.2.2.2.2.2.2.2.2.1 0 0 false [] [] [] [] [] [] [] [] w.2.1 w.2.2.2.2.2.1 w.2.2.2.2.2.2.2.2.2.2.1 w.1 QB w.2.2.2.1 w.2.2.2.2.1 R0 Tx X1 []=some ((((),w.2.1,(),(),(),w.2.2.2.2.2.1,(),(),(),(),w.2.2.2.2.2.2.2.2.2.2.1,()),()),(w.1,QB,w.2.2.2.1,w.2.2.2.2.1,R0,Tx,(X1++w.2.2.2.2.2.2.2.2.1.drop i),w.2.2.2.2.2.2.2.2.2.1,())):=by
 have qe:=h.Qt;have hl:=h.lens;intro n
 induction n with
 |zero=>omega
 |succ n ih=>
  intro i QB R0 Tx X1 hi hn hb;simp only[DW,Mp,AB];by_cases JU:i<w.2.2.2.2.2.2.2.2.1.length
  ·have hm:=AW (f:=AZ) (AFj JU)
   have hw:AZ w.2.2.2.2.2.2.2.2.1[i]=AX Bu w.2.2.2.2.2.2.2.2.1[i].2.2.1:=rfl;have hlw:=AU (f:=Bu) (l:=w.2.2.2.2.2.2.2.2.1[i].2.2.1);rw[AEv (by omega),AEv (by omega),BJ JU,AR (by omega) (by omega),show((i:Int)+1)=((i+1:Nat):Int)by omega,drop_cons JU];rw[show(w.2.2.2.2.2.2.2.2.1[i].1,w.2.2.2.2.2.2.2.2.1[i].2.1,w.2.2.2.2.2.2.2.2.1[i].2.2.1,())=w.2.2.2.2.2.2.2.2.1[i]from rfl,Pg (by omega)];simp only[AF];rw[AEv (by rw[DF];omega),ih (i+1) _ _ _ _ (by omega) (by omega) (by simp_all),AGl];rfl
  ·rw[AE4 (by omega),AEv (by rw[DF];omega),AF0 (by omega),AF5]
theorem pR:∀(n i:Nat) (QB:List AG) (R0:List AL) (Tx:List Ab),i≤w.2.2.2.2.2.2.2.1.length→(w.2.2.2.2.2.2.2.1.length-i)+w.2.2.2.2.2.2.2.2.1.length+2≤n→Tx.length≤i→
  DR n w.2.2.2.2.2.2.2.1 w.2.2.2.2.2.2.2.1.length i w.1 w.2.1 w.2.2.1 w.2.2.2.1 w.2.2.2.2.1 w.2.2.2.2.2.1 w.2.2.2.2.2.2.1 w.2.2.2.2.2.2.2.1 w.2.2.2.2.2.2.2.2.1 w.2.2.2.2.2.2.2.2.2.1 w.2.2.2.2.2.2.2.2.2.2.1 0 0 false [] [] [] [] [] [] [] [] w.2.1 w.2.2.2.2.2.1 w.2.2.2.2.2.2.2.2.2.2.1 w.1 QB w.2.2.2.1 w.2.2.2.2.1 R0 Tx [] []=some ((((),w.2.1,(),(),(),w.2.2.2.2.2.1,(),(),(),(),w.2.2.2.2.2.2.2.2.2.2.1,()),()),(w.1,QB,w.2.2.2.1,w.2.2.2.2.1,R0,(Tx++w.2.2.2.2.2.2.2.1.drop i),w.2.2.2.2.2.2.2.2.1,w.2.2.2.2.2.2.2.2.2.1,())):=by
 have qe:=h.Qt;have hl:=h.lens;intro n
 induction n with
 |zero=>omega
 |succ n ih=>
  intro i QB R0 Tx hi hn hb;simp only[DR,Mn,AB];by_cases JU:i<w.2.2.2.2.2.2.2.1.length
  ·have hm:=AW (f:=Bt) (AFj JU)
   rw[AEv (by omega),AEv (by omega),BJ JU,AR (by omega) (by omega),show((i:Int)+1)=((i+1:Nat):Int)by omega,drop_cons JU];rw[show(w.2.2.2.2.2.2.2.1[i].1,w.2.2.2.2.2.2.2.1[i].2.1,w.2.2.2.2.2.2.2.1[i].2.2.1,w.2.2.2.2.2.2.2.1[i].2.2.2.1,w.2.2.2.2.2.2.2.1[i].2.2.2.2.1,w.2.2.2.2.2.2.2.1[i].2.2.2.2.2.1,())=w.2.2.2.2.2.2.2.1[i]from rfl,En (by omega)];simp only[AF];rw[AEv (by rw[DF];omega),ih (i+1) _ _ _ (by omega) (by omega) (by simp_all),AGl];rfl
  ·have:=oN h n 0 QB R0 Tx [] (by omega) (by omega) (by simp)
   grind
theorem te:∀(n i:Nat) (QB:List AG) (R0:List AL),i≤w.2.2.2.2.2.2.1.length→(w.2.2.2.2.2.2.1.length-i)+w.2.2.2.2.2.2.2.1.length+w.2.2.2.2.2.2.2.2.1.length+3≤n→R0.length≤i→
  D1 n w.2.2.2.2.2.2.1 w.2.2.2.2.2.2.1.length i w.1 w.2.1 w.2.2.1 w.2.2.2.1 w.2.2.2.2.1 w.2.2.2.2.2.1 w.2.2.2.2.2.2.1 w.2.2.2.2.2.2.2.1 w.2.2.2.2.2.2.2.2.1 w.2.2.2.2.2.2.2.2.2.1 w.2.2.2.2.2.2.2.2.2.2.1 0 0 false [] [] [] [] [] [] [] [] w.2.1 w.2.2.2.2.2.1 w.2.2.2.2.2.2.2.2.2.2.1 w.1 QB w.2.2.2.1 w.2.2.2.2.1 R0 [] [] []=some ((((),w.2.1,(),(),(),w.2.2.2.2.2.1,(),(),(),(),w.2.2.2.2.2.2.2.2.2.2.1,()),()),(w.1,QB,w.2.2.2.1,w.2.2.2.2.1,(R0++w.2.2.2.2.2.2.1.drop i),w.2.2.2.2.2.2.2.1,w.2.2.2.2.2.2.2.2.1,w.2.2.2.2.2.2.2.2.2.1,())):=by
 have qe:=h.Qt;have hl:=h.lens;intro n
 induction n with
 |zero=>omega
 |succ n ih=>
  intro i QB R0 hi hn hb;simp only[D1,Nh,AB];by_cases JU:i<w.2.2.2.2.2.2.1.length
  ·have hm:=AW (f:=Ao) (AFj JU)
   rw[AEv (by omega),AEv (by omega),BJ JU,AR (by omega) (by omega),show((i:Int)+1)=((i+1:Nat):Int)by omega,drop_cons JU];rw[show(w.2.2.2.2.2.2.1[i].1,w.2.2.2.2.2.2.1[i].2.1,())=w.2.2.2.2.2.2.1[i]from rfl,GM (by omega)];simp only[AF];rw[AEv (by rw[DF];omega),ih (i+1) _ _ (by omega) (by omega) (by simp_all),AGl];rfl
  ·have:=pR h n 0 QB R0 [] (by omega) (by omega) (by simp)
   grind
theorem si:∀(n i:Nat) (QB:List AG),i≤w.2.2.1.length→(w.2.2.1.length-i)+w.2.2.2.2.2.2.1.length+w.2.2.2.2.2.2.2.1.length+w.2.2.2.2.2.2.2.2.1.length+4≤n→QB.length≤i→
  Dz n w.2.2.1 w.2.2.1.length i w.1 w.2.1 w.2.2.1 w.2.2.2.1 w.2.2.2.2.1 w.2.2.2.2.2.1 w.2.2.2.2.2.2.1 w.2.2.2.2.2.2.2.1 w.2.2.2.2.2.2.2.2.1 w.2.2.2.2.2.2.2.2.2.1 w.2.2.2.2.2.2.2.2.2.2.1 0 0 false [] [] [] [] [] [] [] [] w.2.1 w.2.2.2.2.2.1 w.2.2.2.2.2.2.2.2.2.2.1 w.1 QB w.2.2.2.1 w.2.2.2.2.1 [] [] [] []=some ((((),w.2.1,(),(),(),w.2.2.2.2.2.1,(),(),(),(),w.2.2.2.2.2.2.2.2.2.2.1,()),()),(w.1,(QB++w.2.2.1.drop i),w.2.2.2.1,w.2.2.2.2.1,w.2.2.2.2.2.2.1,w.2.2.2.2.2.2.2.1,w.2.2.2.2.2.2.2.2.1,w.2.2.2.2.2.2.2.2.2.1,())):=by
 have qe:=h.Qt;have hl:=h.lens;intro n
 induction n with
 |zero=>omega
 |succ n ih=>
  intro i QB hi hn hb;simp only[Dz,N6,AB];by_cases JU:i<w.2.2.1.length
  ·have hm:=AW (f:=Am) (AFj JU)
   have hw:=M5 (s:=w.2.2.1[i]) (by omega);rw[AEv (by omega),AEv (by omega),BJ JU,AR (by omega) (by omega),show((i:Int)+1)=((i+1:Nat):Int)by omega,drop_cons JU];rw[show(w.2.2.1[i].1,w.2.2.1[i].2.1,w.2.2.1[i].2.2.1,())=w.2.2.1[i]from rfl,FO hw.1 hw.2];simp only[AF];rw[AEv (by rw[DF];omega),ih (i+1) _ (by omega) (by omega) (by simp_all),AGl];rfl
  ·have:=te h n 0 QB [] (by omega) (by omega) (by simp)
   grind
theorem FW:C6 w=some ((((),w.2.1,(),(),(),w.2.2.2.2.2.1,(),(),(),(),w.2.2.2.2.2.2.2.2.2.2.1,()),()),(w.1,w.2.2.1,w.2.2.2.1,w.2.2.2.2.1,w.2.2.2.2.2.2.1,w.2.2.2.2.2.2.2.1,w.2.2.2.2.2.2.2.2.1,w.2.2.2.2.2.2.2.2.2.1,())):=by
 have qe:=h.Qt;have hl:=h.lens;unfold C6 Np;have:=si h Aq 0 [] (by omega) (Nat.le_of_lt (Aw (by omega))) (by simp);rw[show((0:Nat):Int)=0 from rfl,AHS,AHa]at this;rw[show(w.1,w.2.1,())=Ag w from rfl,Pz (by show w.1.length≤_;omega),Ck (by omega),show(w.2.2.2.2.1,w.2.2.2.2.2.1,())=(C2 w)from rfl,FD (by show AX CP w.2.2.2.2.1≤_;omega)];simp only[AF];exact this
end
end Go.M
end
section
set_option maxRecDepth 8000
namespace Go.M
open Go.M.H (AD AG Ab AM AA Bc AH AY AL AN Ar Aa An Am Bt AX AU AW Ap CP BV Ao AZ DJ Bu B_ Cb)
theorem fM{a b:Nat}(h:a+b<2^40):A6 ((IntKind.wrap .u64 (A6 ((a:Int)+(b:Int)))).fdiv (2^1))=(((a+b)/2:Nat):Int):=by
 grind[AR,IntKind.wrap,IntKind.bits,IntKind.signed,Int.fdiv_eq_ediv_of_nonneg]
structure XC {α:Type} (f:α→Int) (p:Int) (l:List α) (q:Nat):Prop where
 le:q≤l.length
 lt:∀(i:Nat) (h:i<l.length),i<q→f l[i]<p
 ge:∀(i:Nat) (h:i<l.length),q≤i→p≤f l[i]
theorem SX{α:Type}{f:α→Int}{l:List α}(h:Kg f l){i j:Nat}(hi:i<l.length)(hj:j<l.length)(rq:i≤j):f l[i]≤f l[j]:=by
 grind[Int.le_of_lt,List.pairwise_iff_getElem]
theorem Tu{l:List AD}(ha:SW l)(hl:l.length≤2^30)(p:Int):∃q,XC (fun e:AD=>e.1) p l q∧
  MK l p=some ((((q:Int),(match l[q]? with|some e=>e.1==p|none=>false),()),()),()):=by
 have key:∀(n a b:Nat),a≤b→b≤l.length→b-a<n→(∀(i:Nat) (h:i<l.length),i<a→l[i].1<p)→(∀(i:Nat) (h:i<l.length),b≤i→p≤l[i].1)→
   ∃q,XC (fun e:AD=>e.1) p l q∧Ai n l p l.length a b=some ((((q:Int),(match l[q]? with|some e=>e.1==p|none=>false),()),()),()):=by
  intro n
  induction n with
  |zero=>omega
  |succ n ih=>
   intro a b fL hb hn h1 h2;simp only[Ai,Bw,AB,Lr];by_cases IV:a<b
   ·have hm:(a+b)/2<l.length:=by omega
    rw[AEv (by omega),fM (by omega),AEv (by omega),BJ hm];by_cases hc:l[(a+b)/2].1<p
    ·rw[AEv hc]
     simp only[AF];rw[AEv (by omega),AR (by omega) (by omega),show((((a+b)/2:Nat):Int)+1)=(((a+b)/2+1:Nat):Int)by omega];refine ih _ b (by omega) hb (by omega) (fun i h hi=> ?_) h2;exact Int.lt_of_le_of_lt (SX (f:=fun e:AD=>e.1) ha h hm (by omega)) hc
    ·rw[AE4 hc]
     have y8:∀(i:Nat) (h:i<l.length),(a+b)/2≤i→p≤l[i].1:=fun i h hi=>Int.le_trans (by omega) (SX (f:=fun e:AD=>e.1) ha hm h hi)
     by_cases hd:l[(a+b)/2].1>p
     ·rw[AEv hd]
      simp only[AF];rw[AE4 (by omega)];exact ih a _ (by omega) (by omega) (by omega) h1 y8
     ·rw[AE4 hd]
      simp only[AF];rw[AE4 (by omega)];exact ih a _ (by omega) (by omega) (by omega) h1 y8
   ·have qp:a=b:=by omega
    subst qp;refine⟨a,⟨hb,h1,h2⟩,?_⟩;rw[AE4 (by omega)];by_cases nZ:a<l.length
    ·have:=h2 a nZ (AGh _)
     rw[AEv (by omega),AEv (by omega),BJ nZ,AEX nZ,AE4 (by omega)];by_cases hd:l[a].1>p
     ·simp_all;omega
     grind
    grind
 obtain⟨q,hq,e⟩:=key Aq 0 l.length (by omega) (by omega) (Aw (by omega)) (fun i h hi=>by omega) (fun i h hi=>by omega);refine⟨q,hq,?_⟩;unfold MK Ba Bz;simp_all
theorem XC.get_eq{p:Int}{l:List AD}{q:Nat}(h:XC (fun e:AD=>e.1) p l q)(ha:SW l):HK p l=match l[q]? with|some e=>if e.1=p then some e else none|none=>none:=by
 by_cases hq:q<l.length
 ·rw[AEX hq]
  dsimp only;by_cases he:l[q].1=p
  ·rw[AEv he,←he]
   exact Yo ha (AFj hq)
  ·rw[AE4 he]
   cases hg:HK p l with
   |none=>rfl
   |some x=>
    obtain⟨hm,hx⟩:=YM hg;obtain⟨i,hi,rfl⟩:=AHD hm;exfalso;have h2:=h.ge q hq (AGh _);rcases Nat.lt_or_ge i q with lk|lk
    ·have:=h.lt i hi lk
     omega
    ·have:=SX (f:=fun e:AD=>e.1) ha hq hi lk
     omega
 ·rw[AIX (by omega)]
  dsimp only;cases hg:HK p l with
  |none=>rfl
  |some x=>
   obtain⟨hm,hx⟩:=YM hg;obtain⟨i,hi,rfl⟩:=AHD hm;have:=h.lt i hi (by omega);omega
theorem Mz{s:AG}(h0:Am s≤2^30)(h1:ln s)(p:Int):EV s p=some (((match PX s p with|some e=>(e,true,())|none=>((0,0,false,[],()),false,())),()),()):=by
 unfold EV PX;rw[show(s.1,s.2.1,s.2.2.1,())=s from rfl,Dd h0 h1];simp only[AF];rcases AEw (CO s)with Dg|Dg
 rotate_left
 ·simp_all
 have hs:=B5.1 Dg;have hn:=hs.nk;obtain⟨q,hq,e⟩:=Tu hs.cJ (by omega) p;rw[Dg,e,AEv rfl,hq.get_eq hs.cJ];grind
theorem EX{e o:Int}:CV e o=some (((E4 e o,BC e 1 30&&BC o 1 60,()),()),()):=by
 unfold CV E5 Pd E4;rw[Ac,Ac];simp only[AF];rcases AEw (BC e 1 30)with he|he
 rotate_left
 ·simp_all
 rcases AEw (BC o 1 60)with ho|ho
 rotate_left
 ·simp_all
 rw[he,ho];have h1:=Ak.1 he;have h2:=Ak.1 ho;simp only[AE7,AFM,AIF,AHL];rw[AR (x:=4294967296*e) (by omega) (by omega),AR (by omega) (by omega)];rfl
theorem Qo{k:Int}:FC k=some (((),()),(DQ k,())):=by
 unfold FC Nd DQ;rw[Ac];simp only[AF];rcases AEw (BC k 0 255)with hk|hk
 rotate_left
 ·simp_all
 rw[hk,AEv rfl];have hk':=Ak.1 hk;have key:∀(n i:Nat) (b:AAG),i≤8→8-i<n→b.length≤i→
   G5 n k i b=some (((),()),(b++(([0,1,2,3,4,5,6,7]:AAG).drop i).filter (fun i=>(k/2^i.toNat)%2==1),())):=by
  intro n
  induction n with
  |zero=>omega
  |succ n ih=>
   intro i b hi h hb;simp only[G5,Nu,AB];by_cases JU:i<8
   ·have w5:=qA (k:=k) (i:=i) (by omega) (by omega)
    rw[AEv (show(i:Int)<8 by omega),AE4 (by omega),AFL,me i JU,AHr,AFL,AR (by omega) (by omega),show((i:Int)+1)=((i+1:Nat):Int)by omega];rw[w5];simp only[AB];have c2:b.length+1≤IQ:=by rw[DF];omega
    by_cases nz:(k/2^i)%2=1
    ·rw[AEv nz,AEv c2,AEv (by simp_all),ih (i+1) _ (by omega) (by omega) (by simp_all),AGl]
     rfl
    grind
   ·have:i=8:=by omega
    simp_all
 have:=key Aq 0 [] (by omega) (Aw (by omega)) (by simp);simp_all
theorem Hi{r:AH}(h:AX CP r.1≤2^30){e:Int}(he:Cp e):Ex r e=some (((),()),(BB r.1 e,())):=by
 unfold Ex BB;have hl:=AU (f:=CP) (l:=r.1);rw[Ac];simp only[AF];rcases AEw (BC e 1 r.1.length)with hk|hk
 rotate_left
 ·simp_all
 rw[hk,AEv rfl];have hk':=Ak.1 hk;have hm:=AW (f:=CP) (CE (d:=FZ) (i:=(e-1).toNat) (by omega:(e-1).toNat<r.1.length));have hw:CP (r.1.getD (e-1).toNat FZ)=(r.1.getD (e-1).toNat FZ).1.length:=rfl;rw[AR (by omega) (by omega)];simp only[AE7,AFM];rw[AEv (by omega),show(r.1.getD (e-1).toNat ([],false,0,()))=r.1.getD (e-1).toNat FZ from rfl,Ck (by omega)];rfl
theorem Hs{w:AA}(h1:w.Al.length≤2^30)(h2:w.lost.length≤2^30){n:Int}:DC w n=some ((As w n,()),()):=by
 unfold DC As;have rR:w.2.2.1.length≤2^30:=h1;rw[AR (by omega) (by omega),Ac,RM (by grind)];grind
theorem KF{b:Bool}:Gt b=some ((if b then 0 else 4,()),()):=by cases b<;>rfl
theorem VT{x:AL}(h:x.2.1.length≤2^30):Ku x=some (((WX x.2.1:Int),()),()):=by
 have key:∀(n i:Nat),i≤x.2.1.length→x.2.1.length-i<n→i+WX (x.2.1.drop i)=WX x.2.1→GN n x.2.1 x.2.1.length i x.1 x.2.1=some (((WX x.2.1:Int),()),()):=by
  intro n
  induction n with
  |zero=>omega
  |succ n ih=>
   intro i hi hn hs;simp only[GN,Mk,AB];by_cases hc:i<x.2.1.length
   ·rw[drop_cons hc]at hs
    simp only[WX]at hs;rw[AEv (by omega),AEv (by omega),BJ hc,AR (by omega) (by omega),show((i:Int)+1)=((i+1:Nat):Int)by omega];cases hd:x.2.1[i].2.2.1 with
    |true=>
     grind
    |false=>
     simp_all
   ·rw[AF0 (by omega)]at hs
    simp only[WX]at hs;grind
 grind[Ku,Mq,Aq,Aw]
theorem ae{w:AA}(h:UK w)(e:Int):LW w e=some ((Q6 w e,()),()):=by
 have qe:=h.Qt;have hl:=h.lens;have key:∀(n i:Nat),i≤w.AE.length→w.AE.length-i<n→Jg n e w.AE w.AE.length i=some (((match(w.AE.drop i).find? (fun x=>x.1==e)with|some x=>(WX x.2.1:Int)|none=>0),()),()):=by
  intro n
  induction n with
  |zero=>omega
  |succ n ih=>
   intro i hi hn;simp only[Jg,QY,AB];by_cases hc:i<w.AE.length
   ·have XM:i<w.2.2.2.2.2.2.1.length:=hc
    have hm:Ao w.AE[i]≤AX Ao w.2.2.2.2.2.2.1:=AW (f:=Ao) (AFj hc);have hw:Ao w.AE[i]=AX BV w.AE[i].2.1:=rfl;have hlw:=AU (f:=BV) (l:=w.AE[i].2.1);rw[AEv (by omega),AEv (by omega),BJ hc,AR (by omega) (by omega),show((i:Int)+1)=((i+1:Nat):Int)by omega,drop_cons hc,AIU,show(w.AE[i].1,w.AE[i].2.1,())=w.AE[i]from rfl,VT (by omega),ih (i+1) (by omega) (by omega)];cases w.AE[i].1==e<;>rfl
   grind
 grind[LW,QU,Q6,Aq,Aw]
end Go.M
end
section
set_option maxRecDepth 8000
namespace Go.M
open Go.M.H (AD AG Ab AM AA Bc AH AY AL AN Ar Aa An Am Bt AX AU AW Ap CP BV Ao AZ DJ Bu B_ Cb)
theorem gn{x:Int}{t:ACQ}(h:t.1.length≤2^30):LZ x t=some ((!t.1.contains x,()),()):=by
 grind[LZ,Fz]
theorem YV{x:Int}{t:ABV}:Ib x t=some ((x==t.1,()),()):=rfl
theorem ZH{t:ACQ×Unit}(h:t.1.1.length≤2^30){l:AAG}(hl:l.length≤2^30):Bq t l=some (((),()),((),l.filter (fun x=> !(!t.1.1.contains x)),())):=by
 have key:∀(n i j:Nat) (b:AAG),i≤j→j≤b.length→b.length≤2^30→b.length-j<n→BO n t i j b=some (((),()),((),b.take i++(b.drop j).filter (fun x=> !(!t.1.1.contains x)),())):=by
  intro n
  induction n with
  |zero=>omega
  |succ n ih=>
   intro i j b rq hj hb hn;simp only[BO,Cq,AB];by_cases hc:j<b.length
   ·rw[AEv (by omega),AEv (by omega),BJ hc,gn h]
    simp only[AF];rw[AR (x:=(j:Int)+1) (by omega) (by omega),AR (x:=(i:Int)+1) (by omega) (by omega),show((j:Int)+1)=((j+1:Nat):Int)by omega,show((i:Int)+1)=((i+1:Nat):Int)by omega,drop_cons hc,AHr];have n1:=ih (i+1) (j+1) (b.set i b[j]) (by omega) (by grind) (by simp_all) (by grind);have n2:=ih i (j+1) b (by omega) (by omega) hb (by omega);rw[show(t.1,())=t from rfl,n2];rw[AI0 (by omega),AHO (by grind),AI1 (AGh _),AIv,AGl,AH8]at n1;rw[AEv (by omega),AFL,n1]
    generalize hx:b[j]=x
    cases(!t.1.1.contains x)<;>rfl
   ·rw[AE4 (by omega),AF0 (i:=j) (by omega),AFL,AFL]
    simp_all;omega
 have mZ:∀(n i:Nat),i≤l.length→l.length-i<n→ ∃r:Int,BT n l t l.length i=some ((r,()),())∧((r= -1∧(l.drop i).filter (fun x=> !(!t.1.1.contains x))=l.drop i)∨ ∃q:Nat,r=q∧i≤q∧q<l.length∧((l.take q).drop i).filter (fun x=> !(!t.1.1.contains x))=(l.take q).drop i∧ ∀(h:q<l.length) x,x=l[q]→(!t.1.1.contains x)=true):=by
  intro n
  induction n with
  |zero=>omega
  |succ n ih=>
   intro i hi hn;simp only[BT,Cz,AB];by_cases hc:i<l.length
   ·rw[AEv (by omega),AEv (by omega),BJ hc,gn h]
    simp only[AF];rw[AR (x:=(i:Int)+1) (by omega) (by omega),show((i:Int)+1)=((i+1:Nat):Int)by omega,show(t.1,())=t from rfl];obtain⟨r,e,hr⟩:=ih (i+1) (by omega) (by omega);rw[e]
    generalize hx:l[i]=x
    cases hp:(!t.1.1.contains x)with
    |true=>
     grind
    |false=>
     refine⟨r,rfl,?_⟩;rcases hr with⟨h1,h2⟩|⟨q,h1,h2,h3,h4,h5⟩
     ·grind[drop_cons]
     ·refine .inr ⟨q,h1,by omega,h3,?_,h5⟩
      grind[drop_cons]
   grind
 obtain⟨r,e,hr⟩:=mZ Aq 0 (by omega) (Aw (by omega));rw[show((0:Nat):Int)=0 from rfl]at e;unfold Bq Cs Ch C0;rw[show(t.1,())=t from rfl,e];simp only[AF];rcases hr with⟨h1,h2⟩|⟨q,h1,h2,h3,h4,h5⟩
 ·grind
 ·rw[h1,AGk.2 (by omega),AFM,AR (by omega) (by omega),show((q:Int)+1)=((q+1:Nat):Int)by omega,key Aq q (q+1) l (by omega) (by omega) hl (Aw (by omega))]
  rw[AHa]at h4;have hd:=h5 h3 _ rfl;grind[List.take_append_drop,drop_cons]
theorem SY{t:ACY}{l:AAG}(hl:l.length≤2^30):Br t l=some (((),()),((),l.filter (fun x=> !(x==t.1.1)),())):=by
 have key:∀(n i j:Nat) (b:AAG),i≤j→j≤b.length→b.length≤2^30→b.length-j<n→BL n t i j b=some (((),()),((),b.take i++(b.drop j).filter (fun x=> !(x==t.1.1)),())):=by
  intro n
  induction n with
  |zero=>omega
  |succ n ih=>
   intro i j b rq hj hb hn;simp only[BL,DV,AB];by_cases hc:j<b.length
   ·rw[AEv (by omega),AEv (by omega),BJ hc,YV]
    simp only[AF];rw[AR (x:=(j:Int)+1) (by omega) (by omega),AR (x:=(i:Int)+1) (by omega) (by omega),show((j:Int)+1)=((j+1:Nat):Int)by omega,show((i:Int)+1)=((i+1:Nat):Int)by omega,drop_cons hc,AHr];have n1:=ih (i+1) (j+1) (b.set i b[j]) (by omega) (by grind) (by simp_all) (by grind);have n2:=ih i (j+1) b (by omega) (by omega) hb (by omega);rw[show(t.1,())=t from rfl,n2];rw[AI0 (by omega),AHO (by grind),AI1 (AGh _),AIv,AGl,AH8]at n1;rw[AEv (by omega),AFL,n1]
    generalize hx:b[j]=x
    cases(x==t.1.1)<;>rfl
   ·rw[AE4 (by omega),AF0 (i:=j) (by omega),AFL,AFL]
    simp_all;omega
 have mZ:∀(n i:Nat),i≤l.length→l.length-i<n→ ∃r:Int,BQ n l t l.length i=some ((r,()),())∧((r= -1∧(l.drop i).filter (fun x=> !(x==t.1.1))=l.drop i)∨ ∃q:Nat,r=q∧i≤q∧q<l.length∧((l.take q).drop i).filter (fun x=> !(x==t.1.1))=(l.take q).drop i∧ ∀(h:q<l.length) x,x=l[q]→(x==t.1.1)=true):=by
  intro n
  induction n with
  |zero=>omega
  |succ n ih=>
   intro i hi hn;simp only[BQ,Di,AB];by_cases hc:i<l.length
   ·rw[AEv (by omega),AEv (by omega),BJ hc,YV]
    simp only[AF];rw[AR (x:=(i:Int)+1) (by omega) (by omega),show((i:Int)+1)=((i+1:Nat):Int)by omega,show(t.1,())=t from rfl];obtain⟨r,e,hr⟩:=ih (i+1) (by omega) (by omega);rw[e]
    generalize hx:l[i]=x
    cases hp:(x==t.1.1)with
    |true=>
     grind
    |false=>
     refine⟨r,rfl,?_⟩;rcases hr with⟨h1,h2⟩|⟨q,h1,h2,h3,h4,h5⟩
     ·grind[drop_cons]
     ·refine .inr ⟨q,h1,by omega,h3,?_,h5⟩
      grind[drop_cons]
   grind
 obtain⟨r,e,hr⟩:=mZ Aq 0 (by omega) (Aw (by omega));rw[show((0:Nat):Int)=0 from rfl]at e;unfold Br DU Cr Dh;rw[show(t.1,())=t from rfl,e];simp only[AF];rcases hr with⟨h1,h2⟩|⟨q,h1,h2,h3,h4,h5⟩
 ·grind
 ·rw[h1,AGk.2 (by omega),AFM,AR (by omega) (by omega),show((q:Int)+1)=((q+1:Nat):Int)by omega,key Aq q (q+1) l (by omega) (by omega) hl (Aw (by omega))]
  rw[AHa]at h4;have hd:=h5 h3 _ rfl;grind[List.take_append_drop,drop_cons]
theorem SM{a b:AAG}(ha:a.length≤2^30)(hb:b.length≤2^30):I7 a b=some (((),()),(a.filter b.contains,())):=by
 unfold I7;rw[Ck ha];simp only[AF];rw[ZH hb ha];grind
theorem Hf{a:AAG}{x:Int}(ha:a.length≤2^30):EM a x=some (((),()),(less a [x],())):=by
 unfold EM less;rw[Ck ha];simp only[AF];rw[SY ha];grind
theorem bK{d:An}:QG d=some ((J2 d,()),()):=by
 obtain⟨k,a,b,n,t,⟨⟩⟩:=d;obtain⟨m,hm⟩:∃m,Aq=m+4:=⟨Aq-4,by have:=fG;omega⟩;have fin:∀(a' b' n':Int) (t':List UInt8),(((Aj k 1 16).bind fun u4=>cond (u4.1.1) (cond ((((0:Int)==0)&&((a' ==0)&&((b' ==0)&&((n' ==0)&&((t' ==[])&&true))))) ) ((EL t).bind fun u6=>some ((u6.1.1,()),())) (some ((false,()),()))) (some ((false,()),()))):Option Ka)=some ((BC k 1 16&&((a' ==0)&&((b' ==0)&&((n' ==0)&&((t' ==[])&&decide (t.length≤40))))),()),()):=by
  intro a' b' n' t';rw[Ac];simp only[AF,EL,AHe,AGJ,AIE];have e:decide ((t.length:Int)≤40)=decide (t.length≤40):=by grind
  grind
 unfold QG QT Si J2 WT;rw[hm];have h1:((1:Nat):Int)=1:=rfl;have w1:A6 (1:Int)=1:=AR (by omega) (by omega);have w2:A6 (2:Int)=2:=AR (by omega) (by omega);have w3:A6 (3:Int)=3:=AR (by omega) (by omega);have lim:(3:Nat)≤IQ:=by rw[DF];omega
 have l0:(0:Nat)≤IQ:=by omega
 have l1:(1:Nat)≤IQ:=by omega
 have l2:(2:Nat)≤IQ:=by omega
 dsimp only;by_cases k8:k=8
 ·subst k8
  simpa[Cm,Ca]using fin a b n t
 by_cases k10:k=10
 ·subst k10
  simpa[Cm,Ca]using fin a b n t
 by_cases k12:k=12
 ·subst k12
  simpa[Cm,Ca]using fin a b n t
 by_cases k2:k=2
 ·subst k2
  simpa[Cm,Ca,l2,w1,w2]using fin 0 b n []
 by_cases k3:k=3
 ·subst k3
  simpa[Cm,Ca,lim,w1,w2,w3]using fin 0 0 0 t
 by_cases k5:k=5
 ·subst k5
  simpa[Cm,Ca,l2,w1,w2]using fin 0 0 n t
 by_cases k14:k=14
 ·subst k14
  simpa[Cm,Ca,l2,w1,w2]using fin 0 0 n t
 by_cases k11:k=11
 ·subst k11
  simpa[Cm,Ca,l2,w1,w2]using fin a 0 0 t
 by_cases k13:k=13
 ·subst k13
  simpa[Cm,Ca,l1,w1]using fin 0 b n t
 have e8:(k==8)=false:=AGk.2 k8;have e10:(k==10)=false:=AGk.2 k10;have e12:(k==12)=false:=AGk.2 k12;have e2:(k==2)=false:=AGk.2 k2;have e3:(k==3)=false:=AGk.2 k3;have e5:(k==5)=false:=AGk.2 k5;have e14:(k==14)=false:=AGk.2 k14;have e11:(k==11)=false:=AGk.2 k11;have e13:(k==13)=false:=AGk.2 k13;simpa[k8,k10,k12,k2,k3,k5,k14,k11,k13,e8,e10,e12,e2,e3,e5,e14,e11,e13,Cm,Ca,l1,w1]using fin 0 b n t
end Go.M
end
section
set_option maxRecDepth 8000
namespace Go.M
open Go.M.H (AD AG Ab AM AA Bc AH AY AL AN Ar Aa An Am Bt AX AU AW Ap CP BV Ao AZ DJ Bu B_ Cb)
theorem ZT{l:List Aa}(hl:l.length≤2^20):KL l=some (((),()),(l.map (fun a=>a.1),())):=by
 have key:∀(n i:Nat) (b:AAG),i≤l.length→l.length-i<n→b.length=i→Ir n l l.length i b=some (((),()),(b++(l.drop i).map (fun a=>a.1),())):=by
  intro n
  induction n with
  |zero=>omega
  |succ n ih=>
   intro i b hi h hb;simp only[Ir,PY,AB];by_cases XM:i<l.length
   ·have c1:(0:Int)≤(i:Int)∧(i:Int)<(l.length:Int):=by omega
    have c2:b.length+1≤IQ:=by rw[DF];omega
    rw[AEv c1.2,AEv c1,AEv c2,AR (by omega) (by omega),show((i:Int)+1)=((i+1:Nat):Int)by omega,BJ XM,ih (i+1) _ (by omega) (by omega) (by simp_all),drop_cons XM];grind
   grind
 unfold KL Pb;have:=key Aq 0 [] (by omega) (Aw (by omega)) rfl;simp_all
theorem fQ{c:BN}{s l:AAG}(hc:c.1.length≤2^40)(hl:l.length≤2^20)(hs:s.length≤2^20):Uf c s l=some (((),()),(if BA c s&&BA c l then less s l else[],())):=by
 have key:∀(n i:Nat) (b:AAG),i≤s.length→s.length-i<n→b.length≤i→MA n l s s.length i b=some (((),()),(b++less (s.drop i) l,())):=by
  intro n
  induction n with
  |zero=>omega
  |succ n ih=>
   intro i b hi h hb;simp only[MA,TE,AB,Bp];by_cases XM:i<s.length
   ·have c1:(0:Int)≤(i:Int)∧(i:Int)<(s.length:Int):=by omega
    have c2:b.length+1≤IQ:=by rw[DF];omega
    rw[AEv c1.2,AEv c1,BJ XM,Fz (by omega),AR (by omega) (by omega),show((i:Int)+1)=((i+1:Nat):Int)by omega,drop_cons XM];simp only[AF,AEv c2];rw[ih (i+1) b (by omega) (by omega) (by omega),ih (i+1) (b++[s[i]]) (by omega) (by omega) (by simp_all)];grind[less]
   ·rw[AE4 (by omega),AF0 (by omega)]
    simp[less]
 unfold Uf S9;rw[show(c.1,c.2.1,())=c from rfl,C5 hc (by omega),C5 hc (by omega)];simp only[AF];cases BA c s with
 |false=>rfl
 |true=>
  cases BA c l with
  |false=>rfl
  |true=>
   have:=key Aq 0 [] (by omega) (Aw (by omega)) (by simp);simp_all
theorem filter_all{l:AAG}{p:Int→Bool}:((((l.filter p).length:Nat):Int) !=(l.length:Int))= !l.all p:=by
 rw[AI2];simp only[bne_iff_ne,ne_eq,AHc,AHX];grind[List.filter_eq_self,List.all_eq_true,List.length_filter_eq_length_iff]
theorem Ta{c:BN}{s l:AAG}(hc:c.1.length≤2^40)(hl:l.length≤2^20)(hs:s.length≤2^20):Eg c s l=some ((OM c s l,()),()):=by
 unfold Eg OM;rw[show(c.1,c.2.1,())=c from rfl,C5 hc (by omega),Df hc (by omega),SM (by omega) (by omega),fQ hc hl hs];simp only[AF,Bp,filter_all];have hh:holds c s=true→BA c s=true:=fun h=>by
  unfold holds at h;simp_all
 cases h1:BA c l with
 |false=>simp
 |true=>
  cases h2:holds c s with
  |false=>rfl
  |true=>
   cases h3:l.all s.contains with
   |false=>rfl
   |true=>
    have h4:(less s l).length≤2^20:=AHK (AHl _ _) hs;rw[hh h2];simp only[AGV,AIF,AHL,AE7,AFM,AGJ];grind[Df]
theorem Px{a b:AD}:LP a b=some ((better a b,()),()):=by
 unfold LP better;grind
theorem aQ{s:AAG}{p:Int}{l:List Aa}(hs:s.length≤2^20)(hl:l.length≤2^20)(Sg:∀a∈l,Cp a.2.2.1):
  QZ l s p=some (((((Fq s p none l).getD GG),(Fq s p none l).isSome,()),()),()):=by
 have key:∀(n i:Nat) (b:Option AD),i≤l.length→l.length-i<n→
   Jm n s p b.isSome l l.length i 0 0 false [] (b.getD GG).1 (b.getD GG).2.1 (b.getD GG).2.2.1 (b.getD GG).2.2.2.1=some (((((Fq s p b (l.drop i)).getD GG),(Fq s p b (l.drop i)).isSome,()),()),()):=by
  intro n
  induction n with
  |zero=>omega
  |succ n ih=>
   intro i b hi h;simp only[Jm,QF,AB,Bp];by_cases XM:i<l.length
   ·have c1:(0:Int)≤(i:Int)∧(i:Int)<(l.length:Int):=by omega
    rw[AEv c1.2,AEv c1,AR (by omega) (by omega),show((i:Int)+1)=((i+1:Nat):Int)by omega,BJ XM,drop_cons XM];have ih':=fun b=>ih (i+1) b (by omega) (by omega)
    simp only[ih'];rw[Fz (by omega),show(l[i].2.2.1,l[i].2.2.2.1,l[i].2.2.2.2.1,l[i].2.2.2.2.2.1,())=UC l[i]from rfl];rw[K0 (e:=UC l[i]) (Sg _ (AFj XM))];simp only[AF,Fq];cases h1:l[i].2.1 with
    |false=>simp
    |true=>
     cases h2:s.contains l[i].1 with
     |false=>simp
     |true=>
      cases h3:C8 (UC l[i])with
      |false=>simp
      |true=>
       simp only[AGV,AGJ];by_cases h4:l[i].2.2.1=p
       ·rw[FF,AEv h4,AEv (by show((UC l[i]).1==p)=true;rw[AHo];exact h4)]
        cases b with
        |none=>
         simp only[AHm,AFM,Px,AF,Option.getD_none];have:=ih' (some (UC l[i]));simp only[AIO,AIi]at this;have hb:better (UC l[i]) (UC l[i])=UC l[i]:=by unfold better;simp_all
         simp_all
        |some x=>
         simp only[AIO,AGV,AIi];rw[show(x.1,x.2.1,x.2.2.1,x.2.2.2.1,())=x from rfl];grind[Px,AF,better,UC,Option.isSome_some]
       ·rw[FF,AE4 h4,AE4 (by show¬((UC l[i]).1==p)=true;rw[AHo];exact h4)]
   ·rw[AE4 (by omega),AF0 (by omega)]
    rfl
 unfold QZ Qi;exact key Aq 0 none (by omega) (Aw (by omega))
theorem Ss{s t:AAG}{p:Int}:∀{l:List Aa} {b:Option AD},(∀a∈l,s.contains a.1=t.contains a.1)→Fq s p b l=Fq t p b l
 |[],b,_=>rfl
 |a::l,b,h=>by
  simp only[Fq];rw[h a (by simp),Ss (fun x hx=>h x (by simp[hx])),Ss (fun x hx=>h x (by simp[hx]))]
theorem Od{e:Ar}{a b:Int}{l:List Ar}(h:l.length≤2^30):Ds e a b l=some (((),()),((a,b,(),()),(),l++[e],())):=by
 unfold Ds;rw[AEv (by rw[DF];omega)]
theorem T8{s:AAG}{l:List Aa}{a b:Int}{o:List Ar}(ha:1≤a∧a≤30)(hb:1≤b∧b≤60)(ho:o.length≤2^20)(hs:s.length≤2^20)(hl:l.length≤2^20)(Sg:∀a∈l,Cp a.2.2.1):
  CB l s a b o=some (((),()),((a,b+1,(),()),(),o++[UE (D3 a b) (Fq s (D3 a b) none l)],())):=by
 unfold CB;rw[EX];have hp:E4 a b=D3 a b:=by
  unfold E4;rw[AEv (by rw[AE1,Ak,Ak];omega)]
 simp only[AF];rw[hp,aQ hs hl Sg];simp only[AF,Od (AHK ho (by omega))];rw[AR (by omega) (by omega)];cases Fq s (D3 a b) none l with
 |none=>rfl
 |some x=>
  simp only[AIO,AE7,AFM,AIi,UE];grind
theorem k9{x e o:Int}(hx:x=0∨Bd x=true)(he:1≤e∧e≤31)(ho:1≤o∧o≤61):
  decide (x≥D3 e o)=(decide (x>0)&& !(decide (Ah x<e)||((Ah x==e)&&decide (CM x<o)))):=by
 rcases hx with rfl|hx
 ·grind[decide_eq_false,D3]
 ·have h:=D2 hx
  rw[AI2];simp only[AE1,AHc,Bool.or_eq_false_iff,AFS,AHx,AIu,AGk];grind[D3]
theorem ZZ{x:Int}{r:AN}(hx:Cp x):O5 x r=some ((decide (Ah x<r.1)||((Ah x==r.1)&&decide (CM x<r.2.1)),()),()):=by
 grind[O5,Dc,Nb,AF,decide,Ah]
end Go.M
end
section
set_option maxRecDepth 8000
namespace Go.M
open Go.M.H (AD AG Ab AM AA Bc AH AY AL AN Ar Aa An Am Bt AX AU AW Ap CP BV Ao AZ DJ Bu B_ Cb)
theorem Vb{c:BN}{g:AH}{sure:Int}{r:AN}{l:List Aa}(hc:c.1.length≤2^20)(hg:AX CP g.1≤2^20)(ht:Cp g.2.1)(hl:l.length≤2^20)(Sg:∀a∈l,Cp a.2.2.1):
  Gz c g sure r l=some (vG (CR c g sure r l)):=by
 unfold Gz CR;rw[show(c.1,c.2.1,())=c from rfl,show(g.1,g.2.1,())=g from rfl,show(r.1,r.2.1,r.2.2.1,())=r from rfl,ZT hl,I6 (by omega) (by omega) ht,Rp];simp only[AF,Bp,AB];rw[C5 (by omega) (by grind)];simp only[AF];cases h1:Mw c g with
 |false=>rfl
 |true=>
 cases h2:QP r with
 |false=>rfl
 |true=>
 cases h3:BA c (l.map fun a=>a.1)with
 |false=>rfl
 |true=>
 have hr:=La.1 h2;have hre:=hr.ep;have hro:=hr.off;have hrn:=hr.n;have hR:=FX.1 h1;have hRn:=hR.n;simp only[AGV,AGJ,AE7,AE6,AGn];rw[Pg (by omega)];simp only[AF];by_cases h4:r.1>(g.1.length:Int)
 ·rw[AEv h4,AHJ h4];rfl
 rw[AE4 h4,AHI h4];by_cases h5:r.2.2.1.length=120
 ·rw[show(((r.2.2.1.length:Nat):Int)==120)=true by simp_all,AHJ h5];rfl
 rw[show(((r.2.2.1.length:Nat):Int)==120)=false by grind,AHI h5];simp only[AFM,AHd,AE6,AGn];rw[AR (x:=r.1-1) (by omega) (by omega),ZZ ht,Dc ht,Nb ht];simp only[AF];have hto:=ed (x:=g.2.1);rw[AR (x:=CM g.2.1+1) (by omega) (by omega),AR (x:=r.1+1) (by omega) (by omega)];simp only[Od (l:=r.2.2.1) (by omega),AF];have hta:=k9 (x:=g.2.1) (e:=r.1) (o:=r.2.1) (hR.trim.imp id fun h=>h.1) hre hro
 generalize sE:g.1.getD (r.1-1).toNat FZ=era
 have IV:(r.1-1).toNat<g.1.length:=by omega
 have RJ:era.1.length≤2^20:=by
  have h7:=AW (f:=CP) (CE (d:=FZ) IV);rw[sE]at h7;have:CP era=era.1.length:=rfl;omega
 have hd:g.1.getD (r.1-1).toNat ([],false,0,())=era:=sE;rw[hd];have hf:((l.map fun a=>a.1).filter era.1.contains).length≤2^20:=AHK (AHl _ _) (by simp_all);rw[SM (by grind) (by omega)];simp only[AF];rw[Ta (by omega) hf RJ];simp only[AF];have AEq:(0:Int)≤r.1-1∧r.1-1<(g.1.length:Int):=by omega
 simp only[AEv AEq]
 generalize hT:(cond (era.2.1) _ _:Option HB)=T
 have jK:T=some (vG (if era.2.1&&decide (r.2.1>era.2.2.1)then((r.1+1,1,r.2.2.1++[(4,r.1+1,[],())],()),0)else
   if(!era.2.1&&decide (r.2.1>sure))||decide (r.2.1>60)then(r,2)else
   if !OM c era.1 ((l.map fun a=>a.1).filter era.1.contains)then(r,3)else
   ((r.1,r.2.1+1,r.2.2.1++[UE (D3 r.1 r.2.1) (Fq era.1 (D3 r.1 r.2.1) none l)],()),0))):=by
  rw[←hT];clear hT;have tail:r.2.1≤60→(cond (OM c era.1 ((l.map fun a=>a.1).filter era.1.contains))
    ((CB l ((l.map fun a=>a.1).filter era.1.contains) r.1 r.2.1 r.2.2.1).bind fun V7=>some ((((V7.2.1.1,V7.2.1.2.1,(),()),0,()),()),(V7.2.2.2.1,())))
    (some ((((r.1,r.2.1,(),()),3,()),()),(r.2.2.1,()))):Option HB)=some (vG (if !OM c era.1 ((l.map fun a=>a.1).filter era.1.contains)then(r,3)else
    ((r.1,r.2.1+1,r.2.2.1++[UE (D3 r.1 r.2.1) (Fq era.1 (D3 r.1 r.2.1) none l)],()),0))):=by
   intro h60;rw[T8 (by omega) (by omega) (by omega) hf hl Sg];rw[Ss (s:=(l.map fun a=>a.1).filter era.1.contains) (t:=era.1) (fun a ha=>by
    rw[AI2,AH6,AIV];exact⟨fun h=>by simp_all,fun h=>⟨List.mem_map_of_mem ha,by omega⟩⟩)]
   cases OM c era.1 ((l.map fun a=>a.1).filter era.1.contains)<;>rfl
  cases h7:era.2.1 with
  |true=>
   simp only[AGV,AFM,AGJ,AE7,AHW,AHd,AFS];by_cases h8:r.2.1>era.2.2.1
   ·rw[AEv h8,AEv h8];rfl
   rw[AE4 h8,AE4 h8];by_cases h9:r.2.1>60
   ·rw[AEv h9,AEv h9];rfl
   grind
  |false=>
   simp only[AGV,AFM,AGJ,AHQ,AHW,AE6,AGn,AHN,AFS];by_cases h8:r.2.1>sure
   ·rw[AEv h8,AEv (.inl h8)];rfl
   rw[AE4 h8];by_cases h9:r.2.1>60
   ·rw[AEv h9,AEv (.inr h9)];rfl
   grind
 rw[jK];clear hT jK
 generalize (decide (Ah g.2.1<r.1)||((Ah g.2.1==r.1)&&decide (CM g.2.1<r.2.1)))=B at hta⊢
 by_cases h6:g.2.1≥D3 r.1 r.2.1
 ·rw[AHJ h6]at hta
  rw[AEv h6];by_cases h0:g.2.1>0
  ·rw[AEv h0]
   cases B with
   |true=>grind
   |false=>rfl
  simp_all
 ·rw[AE4 h6]
  simp_all
end Go.M
end
section
set_option maxRecDepth 8000
namespace Go.M
open Go.M.H (AD AG Ab AM AA Bc AH AY AL AN Ar Aa An Am Bt AX AU AW Ap CP BV Ao AZ DJ Bu B_ Cb)
theorem mb{w:AA}{p n:Int}:(answer w p n).1=n:=by
 grind[answer]
theorem aO{w:AA}{p:Int}{ns:AAG}:(answers w p ns).map (fun a=>a.1)=ns.filter fun n=>As w n==0:=by
 unfold answers;rw[AHq]
 conv=>rhs;rw[←AIj (ns.filter fun n=>As w n==0)]
 grind[List.map_congr_left,mb]
theorem X_{c:BN}{g:AH}{s:Int}{r:AN}{w:AA}{ns:AAG}:
  CR c g s r (answers w (E4 r.1 r.2.1) ns)=CR c g s r (answers w (D3 r.1 r.2.1) ns):=by
 unfold CR;rw[aO,aO];cases h1:Mw c g with
 |false=>rfl
 |true=>
 cases h2:QP r with
 |false=>rfl
 |true=>
 have hr:=La.1 h2;have hre:=hr.ep;have hro:=hr.off;have hRn:=(FX.1 h1).n;by_cases h3:r.1≤30∧r.2.1≤60
 ·have:E4 r.1 r.2.1=D3 r.1 r.2.1:=by
   unfold E4;rw[AEv (by rw[AE1,Ak,Ak];omega)]
  rw[this]
 ·by_cases h4:r.1>(g.1.length:Int)
  ·simp_all
  ·have h5:r.2.1>60:=by omega
   simp_all
def Xb(q:AA×Int):HG:=((q.2,()),(((),q.1.2.1,(),(),(),q.1.2.2.2.2.2.1,(),(),(),(),q.1.2.2.2.2.2.2.2.2.2.2.1,()),q.1.1,q.1.2.2.1,q.1.2.2.2.1,q.1.2.2.2.2.1,q.1.2.2.2.2.2.2.1,q.1.2.2.2.2.2.2.2.1,q.1.2.2.2.2.2.2.2.2.1,q.1.2.2.2.2.2.2.2.2.2.1,()))
theorem r6{k n:Int}(h:n∈DQ k):0≤n∧n≤7:=by
 unfold DQ at h;simp_all;omega
theorem ie{k:Int}:(DQ k).length≤8:=by
 unfold DQ;split
 ·exact AHK (AHl _ _) (by simp)
 ·simp
section
variable{w:AA} (h:EF w) (Ht:UK w)
include h Ht
omit Ht in
theorem ka{p:Int}{ns:AAG}:∀a∈answers w p ns,Cp a.2.2.1:=fun a ha=>by
 unfold answers at ha;obtain⟨n,hn,rfl⟩:=AHv.1 ha;have hn':As w n=0:=by have:=(AIV.1 hn).2;rwa [AHo]at this
 unfold answer;split
 ·rename_i e he
  have:=(h.store hn').kept e (AIe he);exact Nq (E7.1 this).pl
 ·exact⟨by show-9223372036854775808≤(0:Int);omega,by show(0:Int)<9223372036854775808;omega⟩
theorem Vc{a k:Int}:I1 a k w.2.1 w.2.2.2.2.2.1 w.2.2.2.2.2.2.2.2.2.2.1 w.1 w.2.2.1 w.2.2.2.1 w.2.2.2.2.1 w.2.2.2.2.2.2.1 w.2.2.2.2.2.2.2.1 w.2.2.2.2.2.2.2.2.1 w.2.2.2.2.2.2.2.2.2.1=some (Xb (Dm w a k)):=by
 have kn:=h.nums;have k1:=kn.c;have k3:=kn.lost;have k4:=kn.st;have jD:=kn.N5;have jT:=kn.gv;have k5:=kn.era;have k6:=kn.ws;have k6':AX Am w.Al≤80008:=kn.ws;have k8:=kn.rd;unfold I1 JD Dm;rw[AR (by omega) (by omega),show((w.2.2.2.2.2.2.2.2.1.length:Int)-1)=1 by omega,Ac];simp only[AF,Bp];rcases AEw (BC a 0 1)with h1|h1
 rotate_left
 ·rw[h1];rfl
 have rR:=Ak.1 h1;have hb:0≤a∧a<(w.2.2.2.2.2.2.2.2.1.length:Int):=by omega
 have IV:a.toNat<w.AQ.length:=by
  simp_all
 have P_:=h.AQ _ (CE (d:=CC) IV);rw[h1,Jd,AGV,AEv hb,Qo];simp only[show w.2.2.2.2.2.2.2.2.1.getD a.toNat (0,0,[],())=w.AQ.getD a.toNat CC from rfl]
 generalize hx:w.AQ.getD a.toNat CC=r at P_⊢
 have hre:=P_.ep;have hro:=P_.off;rw[EX];simp only[AF];have wT:=ie (k:=k);have hmi:=fun n=>r6 (k:=k) (n:=n)
 rw[←X_]
 generalize hp:E4 r.1 r.2.1=p
 have Sg:=fun ns=>ka h (p:=p) (ns:=ns)
 generalize DQ k=ms at wT hmi
 have key:∀(n i:Nat) (b:List Aa),i≤ms.length→ms.length-i<n→b.length≤i→b=answers w p (ms.take i)→
   CF n a p ms.length i w.2.1 w.2.2.2.2.2.1 w.2.2.2.2.2.2.2.2.2.2.1 w.1 w.2.2.1 w.2.2.2.1 w.2.2.2.2.1 w.2.2.2.2.2.2.1 w.2.2.2.2.2.2.2.1 w.2.2.2.2.2.2.2.2.1 w.2.2.2.2.2.2.2.2.2.1 r.1 r.2.1 r.2.2.1 b ms=
    some (Xb (if(CR (Ag w) (C2 w) (Q6 w r.1) r (answers w p ms)).2≠0 then(w,5)else(w.CQ (w.AQ.set a.toNat (CR (Ag w) (C2 w) (Q6 w r.1) r (answers w p ms)).1),0))):=by
  intro n
  induction n with
  |zero=>omega
  |succ n ih=>
   intro i b hi hn nz he;simp only[CF,JN,AB,Bp];by_cases JU:i<ms.length
   ·have c1:(0:Int)≤(i:Int)∧(i:Int)<(ms.length:Int):=by omega
    have c2:b.length+1≤IQ:=by rw[DF];omega
    have ht:ms.take (i+1)=ms.take i++[ms[i]]:=AHO JU;rw[AEv c1.2,AEv c1,BJ JU,AR (by omega) (by omega),show((i:Int)+1)=((i+1:Nat):Int)by omega,show(w.1,w.2.1,w.2.2.1,w.2.2.2.1,w.2.2.2.2.1,w.2.2.2.2.2.1,w.2.2.2.2.2.2.1,w.2.2.2.2.2.2.2.1,w.2.2.2.2.2.2.2.2.1,w.2.2.2.2.2.2.2.2.2.1,w.2.2.2.2.2.2.2.2.2.2.1,())=w from rfl,RM (by omega)];simp only[AF];have hm:=hmi _ (AFj JU);by_cases rl:As w ms[i]=0
    ·obtain⟨n1,n2,n3⟩:=Kd rl
     have n2':ms[i]<(w.2.2.1.length:Int):=n2;have n3':w.2.2.2.1.contains ms[i]=false:=by
      simp_all
     have mV:(ms[i]).toNat<w.2.2.1.length:=by omega
     have cG:w.2.2.1.getD (ms[i]).toNat ([],[],0,())=storeAt w ms[i]:=rfl;have hsm:Am (storeAt w ms[i])≤2^30:=AHK (AW (f:=Am) (CE (d:=AO) mV)) (by omega);have AG7:CO (storeAt w ms[i])=true:=B5.2 (h.store rl);rw[AEv n2',n3',AFM,AEv ⟨n1,n2'⟩,cG,show((storeAt w ms[i]).1,(storeAt w ms[i]).2.1,(storeAt w ms[i]).2.2.1,())=storeAt w ms[i]from rfl,Mz hsm (h.store rl).sin];simp only[AF];rw[AEv c2];refine ih (i+1) _ (by omega) (by omega) (by simp_all) ?_
     rw[ht,he];unfold answers;rw[List.filter_append,List.map_append];congr 1;rw[AHr,AEv (by simp_all),List.filter_nil,AHb,AIA];congr 1;unfold answer PX;rw[AEv AG7];cases HK p (storeAt w ms[i]).1<;>rfl
    ·have n1:=ih (i+1) b (by omega) (by omega) (by omega) (by
      rw[ht,he];unfold answers;rw[List.filter_append,List.map_append,AHr,AE4 (by simp_all),List.filter_nil,AIA,AF5])
     by_cases hl:ms[i]<(w.2.2.1.length:Int)
     ·rw[AEv hl]
      have pY:w.2.2.2.1.contains ms[i]=true:=by
       cases hc:w.2.2.2.1.contains ms[i]with
       |true=>rfl
       |false=>
        exfalso
        apply rl;unfold As;have e1:BC ms[i] 0 ((w.Al.length:Int)-1)=true:=Ak.2 (by omega);simp_all
      simp_all
     grind
   ·have e0:ms.take i=ms:=AH3 (by omega)
    rw[e0]at he;subst he;have lK:(answers w p ms).length≤8:=by omega
    rw[AE4 (by omega),show(w.1,w.2.1,w.2.2.1,w.2.2.2.1,w.2.2.2.2.1,w.2.2.2.2.2.1,w.2.2.2.2.2.2.1,w.2.2.2.2.2.2.2.1,w.2.2.2.2.2.2.2.2.1,w.2.2.2.2.2.2.2.2.2.1,w.2.2.2.2.2.2.2.2.2.2.1,())=w from rfl,ae Ht,show(r.1,r.2.1,r.2.2.1,())=r from rfl,show(w.1,w.2.1,())=Ag w from rfl,show(w.2.2.2.2.1,w.2.2.2.2.2.1,())=C2 w from rfl];simp only[AF];rw[Vb (c:=Ag w) (g:=C2 w) (by show w.1.length≤_;omega) (by show AX CP w.2.2.2.2.1≤_;omega) kn.trim (by omega) (Sg ms)];simp only[AF,vG,FF];by_cases h2:(CR (Ag w) (C2 w) (Q6 w r.1) r (answers w p ms)).2=0
    ·rw[AEv h2,AEv hb,AE4 (fun hh=>hh h2)];rfl
    ·rw[AE4 h2,AEv h2];rfl
 grind[Aq,Aw,answers]
end
end Go.M
end
section
set_option maxRecDepth 8000
namespace Go.M
open Go.M.H (AD AG Ab AM AA Bc AH AY AL AN Ar Aa An Am Bt AX AU AW Ap CP BV Ao AZ DJ Bu B_ Cb)
theorem ra{n:Nat}:AX Am (List.replicate n AO)=n:=by
 induction n with
 |zero=>rfl
 |succ n ih=>
  rw[AIB];simp only[AX,ih];have:Am AO=0:=rfl;omega
theorem Wn{c:BN}(hl:c.1.length≤2^10):UK (Iq c):=by
 refine⟨?_,fun s hs=> ?_,⟨by show-9223372036854775808≤(0:Int);omega,by show(0:Int)<9223372036854775808;omega⟩,fun m hm=>(by cases hm),fun s hs=>(by cases hs)⟩
 ·grind[B_,Iq,ra,AX,CP,Ao,Bt,AZ,DJ,List.length_nil]
 ·have:s=AO:=AHP (n:=c.1.length) hs
  subst this;exact Uv.nil.sin
theorem X2{c:BN}:B4 (Iq c)=C4 c:=by
 cases hc:C4 c with
 |true=>exact B8.2 (YY hc).1
 |false=>
  rw[AHX];intro h;have:=(B8.1 h).cfg;have e:Ag (Iq c)=c:=rfl;simp_all
theorem YI{c:BN}(hl:c.1.length≤2^10):Ez c=some (if C4 c then(((((),c.2.1,(),(),(),0,(),(),(),(),false,()),true,()),()),(c.1,List.replicate c.1.length AO,[],[],[],[],[(1,1,[],()),(1,1,[],())],[],()))else(((((),0,(),(),(),0,(),(),(),(),false,()),false,()),()),([],[],[],[],[],[],[],[],()))):=by
 unfold Ez Hu;rw[show(c.1,c.2.1,())=c from rfl,Pz (by omega)];simp only[AF];rw[AEv ⟨by omega,by omega,by rw[DF];omega⟩,AFL];have h:=Db (Wn hl);rw[X2]at h;have e:(c.1,c.2.1,List.replicate c.1.length ([],[],0,()),[],[],0,[],[],[(1,1,[],()),(1,1,[],())],[],false,())=Iq c:=rfl;grind
end Go.M
end
section
set_option maxRecDepth 8000
namespace Go.M
open Go.M.H (AD AG Ab AM AA Bc AH AY AL AN Ar Aa An Am Bt AX AU AW Ap CP BV Ao AZ DJ Bu B_ Cb)
theorem bY{c:BN}{g:AH}{sure:Int}{r:AN}{l:List Aa}(h0:(CR c g sure r l).2=0):
  (∃e:Ar,(CR c g sure r l).1.2.2.1=r.2.2.1++[e]∧e.2.2.1.length≤40)∧r.2.2.1.length<120:=by
 have hf:∀p,(UE p (Fq (g.1.getD (r.1-1).toNat FZ).1 p none l)).2.2.1.length≤40:=fun p=>by
  cases hb:Fq (g.1.getD (r.1-1).toNat FZ).1 p none l with
  |none=>show 0≤40;omega
  |some x=>
   have:=(E7.1 (Xj (b:=none) (fun x hx=>by cases hx) x hb)).len;unfold UE;dsimp only;split
   all_goals simp_all
 revert h0
 unfold CR;dsimp only;split
 ·omega
 rename_i hs;simp only[AGX,AGb,AE1,La]at hs;have r3:=hs.2.1.n;split
 ·omega
 rename_i h1;simp only[AHN,AFS,not_or]at h1;have IV:r.2.2.1.length<120:=by omega
 split
 ·simp_all
 split
 ·simp_all
 split
 ·omega
 split
 all_goals simp_all
theorem EF.ZI{w:AA}(h:EF w)(hr:AX AZ w.AQ≤900000):UK w:=by
 have hc:=(EG h.cfg).2.1;have XM:w.1.length≤8:=hc;have a1:=Is (f:=Am) (B:=10000) (N:=8) (l:=w.Al) (by rw[h.dG];omega) fun s hs=>(h.Wz hs).w
 have a2:=F6 h.lost;have a3:=h.WW.w;have a4:=Is (f:=Ao) (B:=3000) h.dM fun x hx=>(h.AE x hx).1.w
 have a5:=Is (f:=Bt) (B:=5000) h.jY fun x hx=>(h.A8 x hx).1.w
 have a7:=Is (f:=DJ) (B:=40) h.MN fun s hs=>(h.A3 s hs).2.2
 refine⟨?_,fun s hs=>(h.Wz hs).sin,h.WW.tin,fun m hm=>(h.A8 m hm).1.zJ,fun s hs=>Nq (h.A3 s hs).1⟩;have a3':AX CP w.Ay≤270:=a3;grind[AX,AZ,Am,CP,Ao,Bt,DJ,B_]
def fy(w:AA)(a:Int):Nat:=(w.AQ.getD a.toNat CC).2.2.1.length
theorem dL{α:Type}{f:α→Nat}{x:α}:∀{l:List α} {i:Nat} (h:i<l.length),AX f (l.set i x)+f l[i]=AX f l+f x
 |y::l,0,_=>by simp[AX];omega
 |y::l,i+1,h=>by
  have:=dL (f:=f) (x:=x) (l:=l) (i:=i) (by simp_all);grind[AX]
theorem dR{α:Type}{f:α→Nat}{x:α}:∀{l:List α},AX f (l++[x])=AX f l+(1+f x)
 |[]=>by simp[AX]
 |y::l=>by
  have:=dR (f:=f) (x:=x) (l:=l);grind[AX]
theorem Yk{w:AA}{a k:Int}(h:EF w)(e:(Dm w a k).2=0):BC a 0 1=true∧EF (Dm w a k).1∧fy (Dm w a k).1 a=fy w a+1∧fy w a<120∧
  fy (Dm w a k).1 (1-a)=fy w (1-a)∧AX AZ (Dm w a k).1.AQ≤AX AZ w.AQ+41:=by
 have Dg:=lf h e;unfold Dm at e Dg⊢;split at e
 ·omega
 rename_i h1;rw[AE4 h1]at Dg;rw[AE4 h1];dsimp only at e Dg⊢;split at e
 ·omega
 rename_i h2;rw[AE4 h2]at Dg;rw[AE4 h2];simp only[ne_eq,AIa]at h2;simp only[AGX,AGb]at h1;have rR:=Ak.1 h1;have hl:a.toNat<w.AQ.length:=by rw[h.dD];omega
 obtain⟨⟨ev,q1,q2⟩,q3⟩:=bY h2
 generalize hq:(CR (Ag w) (C2 w) (Q6 w (w.AQ.getD a.toNat CC).1) (w.AQ.getD a.toNat CC) (answers w (D3 (w.AQ.getD a.toNat CC).1 (w.AQ.getD a.toNat CC).2.1) (DQ k))).1=q at q1 Dg
 have hg:(w.AQ.set a.toNat q).getD a.toNat CC=q:=by simp_all
 have UZ:(1-a).toNat≠a.toNat:=by omega
 refine⟨h1,Dg,?_,q3,?_,?_⟩
 ·show((w.AQ.set a.toNat q).getD a.toNat CC).2.2.1.length=_
  grind[fy]
 ·show((w.AQ.set a.toNat q).getD (1-a).toNat CC).2.2.1.length=_
  simp only[List.getD,AHB (Ne.symm UZ)];rfl
 ·show AX AZ (w.AQ.set a.toNat q)≤_
  have:=dL (f:=AZ) (x:=q) hl;have e1:AZ q=AX Bu q.2.2.1:=rfl;have e2:AZ w.AQ[a.toNat]=AX Bu w.AQ[a.toNat].2.2.1:=rfl;rw[q1,dR,Hy hl]at e1;have e3:Bu ev=ev.2.2.1.length:=rfl;omega
def P7:Nat→AA→Int→AA×Int
 |0,w,_=>(w,0)
 |n+1,w,a=>if(Dm w a 255).2=0 then((P7 n (Dm w a 255).1 a).1,(P7 n (Dm w a 255).1 a).2+1)else(w,0)
theorem fY{all:Bool}{w:AA}(h:EF w){a k:Int}:BS all w (14,a,k,0,[],())=Dm w a k:=by
 unfold BS;have hd:J2 (14,a,k,0,[],())=true:=rfl;rw[B8.2 h,hd];rfl
end Go.M
end
section
set_option maxRecDepth 8000
namespace Go.M
open Go.M.H (AD AG Ab AM AA Bc AH AY AL AN Ar Aa An Am Bt AX AU AW Ap CP BV Ao AZ DJ Bu B_ Cb)
theorem Wl{α:Type}{q:Nat}{v l:List α}(hq:q≤l.length)(hl:l.length+v.length≤2^30):iD (q:Int) v l=some (l.take q++v++l.drop q):=by
 unfold iD;rw[AEv ⟨by omega,by omega,by rw[DF];omega⟩,AFL]
theorem ix{l:AAG}(ha:Kg id l)(hl:l.length≤2^30)(p:Int):∃q,XC id p l q∧
  ER l p=some ((((q:Int),(match l[q]? with|some e=>e==p|none=>false),()),()),()):=by
 have key:∀(n a b:Nat),a≤b→b≤l.length→b-a<n→(∀(i:Nat) (h:i<l.length),i<a→l[i]<p)→(∀(i:Nat) (h:i<l.length),b≤i→p≤l[i])→
   ∃q,XC id p l q∧Cj n l p l.length a b=some ((((q:Int),(match l[q]? with|some e=>e==p|none=>false),()),()),()):=by
  intro n
  induction n with
  |zero=>omega
  |succ n ih=>
   intro a b fL hb hn h1 h2;simp only[Cj,Gg,AB,cmp_Less_int,cmp_isNaN_int,KO,AIq,AF,AFM];by_cases IV:a<b
   ·have hm:(a+b)/2<l.length:=by omega
    rw[AEv (by omega),fM (by omega),AEv (by omega),BJ hm];by_cases hc:l[(a+b)/2]<p
    ·rw[AEv hc,AR (by omega) (by omega),show((((a+b)/2:Nat):Int)+1)=(((a+b)/2+1:Nat):Int)by omega]
     refine ih _ b (by omega) hb (by omega) (fun i h hi=> ?_) h2;have:=SX (f:=id) ha h hm (by omega);grind
    ·have y8:∀(i:Nat) (h:i<l.length),(a+b)/2≤i→p≤l[i]:=fun i h hi=>by
      have:=SX (f:=id) ha hm h hi;grind
     rw[AE4 hc];exact ih a _ (by omega) (by omega) (by omega) h1 y8
   ·have qp:a=b:=by omega
    subst qp;refine⟨a,⟨hb,h1,h2⟩,?_⟩;rw[AE4 (by omega)];by_cases nZ:a<l.length
    ·rw[AEv (by omega),AEv (by omega),BJ nZ,AEX nZ]
     dsimp only;cases l[a]==p<;>simp[nZ]
    grind
 obtain⟨q,hq,e⟩:=key Aq 0 l.length (by omega) (by omega) (Aw (by omega)) (fun i h hi=>by omega) (fun i h hi=>by omega);refine⟨q,hq,?_⟩;unfold ER Gi;omega
theorem Z2{x:Int}:∀{l:AAG} {q:Nat},XC id x l q→(∀h:q<l.length,l[q]≠x)→Vu x l=l.take q++[x]++l.drop q
 |[],q,h,_=>by
  have:=h.le;have:q=0:=by simp_all
  subst this;rfl
 |y::l,0,h,hn=>by
  have h1:=h.ge 0 (by simp) (AGh _);have h2:=hn (by simp);simp only[AH4,id]at h1 h2;simp only[Vu];grind
 |y::l,q+1,h,hn=>by
  have h1:=h.lt 0 (by simp) (by omega);simp only[AH4,id]at h1;simp only[Vu];rw[AE4 (by omega),Z2 (l:=l) (q:=q) ⟨by have:=h.le;simp_all,fun i hi lk=>by have:=h.lt (i+1) (by simp_all) (by omega);simp_all,fun i hi lk=>by have:=h.ge (i+1) (by simp_all) (by omega);simp_all⟩ (fun hq=>by simp_all)];rfl
theorem KC{l:AAG}{x:Int}(ha:Kg id l)(hl:l.length≤2^29):HM l x=some (((),()),(Fc x l,())):=by
 unfold HM Fc;rw[Ck (by omega)];simp only[AF];obtain⟨q,hq,e⟩:=ix ha (by omega) x;rw[e];simp only[AF,Bp];by_cases hc:q<l.length
 ·rw[AEX hc]
  dsimp only;by_cases he:l[q]=x
  ·grind
  ·rw[AGk.2 he,AFM]
   have hn:l.contains x=false:=by
    rw[AHX,ne_eq,AH6];intro hm;obtain⟨i,hi,rfl⟩:=AHD hm;rcases Nat.lt_or_ge i q with lk|lk
    ·have:=hq.lt i hi lk;simp_all
    ·have h1:=SX (f:=id) ha hc hi lk
     have h2:=hq.ge q hc (AGh _);grind
   rw[hn,AE4 (by simp)];grind[Ge,Wl,Z2]
 ·rw[AIX (by omega)]
  dsimp only;rw[AFM];have hn:l.contains x=false:=by
   rw[AHX,ne_eq,AH6];intro hm;obtain⟨i,hi,rfl⟩:=AHD hm;have:=hq.lt i hi (by omega);simp_all
  rw[hn,AE4 (by simp)];unfold Ge;rw[Wl hq.le (by grind),Z2 hq (fun h=>absurd h hc)];rfl
theorem iu{e:AD}:∀{l:List AD} {q:Nat},XC (fun x:AD=>x.1) e.1 l q→SW l→
  keep e l=if h:q<l.length then(if l[q].1=e.1 then l.set q (better l[q] e)else l.take q++[e]++l.drop q)else l++[e]
 |[],q,h,_=>by
  rfl
 |y::l,0,h,_=>by
  have h1:=h.ge 0 (by simp) (AGh _);simp only[AH4]at h1;simp only[keep,AFq,Nat.zero_lt_succ,AIt,AH4];grind
 |y::l,q+1,h,ha=>by
  have h1:=h.lt 0 (by simp) (by omega);simp only[AH4]at h1;have ih:=iu (e:=e) (l:=l) (q:=q) ⟨by have:=h.le;simp_all,fun i hi lk=>by have:=h.lt (i+1) (by simp_all) (by omega);simp_all,fun i hi lk=>by have:=h.ge (i+1) (by simp_all) (by omega);simp_all⟩ (AGx.1 ha).2;simp only[keep];grind
theorem SL{e:AD}{l:List AD}(ha:SW l)(hl:l.length≤2^29):O9 e l=some (((),()),((),keep e l,())):=by
 unfold O9;obtain⟨q,hq,hs⟩:=Tu ha (by omega) e.1;rw[hs,iu hq ha];simp only[AF,Bp];by_cases hc:q<l.length
 ·rw[dif_pos hc,AEX hc]
  dsimp only;have hb:(0:Int)≤(q:Int)∧(q:Int)<(l.length:Int):=by omega
  by_cases he:l[q].1=e.1
  ·rw[AHo.2 he,AGV,AEv he,AEv hb,BJ hc,show(l[q].1,l[q].2.1,l[q].2.2.1,l[q].2.2.2.1,())=l[q]from rfl,show(e.1,e.2.1,e.2.2.1,e.2.2.2.1,())=e from rfl,Px]
   simp_all
  ·rw[AGk.2 he,AFM,AE4 he]
   grind[Cn,Wl]
 ·have hql:q=l.length:=by have:=hq.le;omega
  rw[dif_neg hc,AIX (by omega)];dsimp only;rw[AFM];grind[Cn,Wl,List.take_length,List.drop_length]
theorem Il{s:AG}(hw:Am s≤2^30)(hs:ln s):Ci s=some (if CO s then((((),(),s.2.2.1,()),()),(s.1,s.2.1,()))else((((),(),0,()),()),([],[],()))):=by
 obtain⟨l1,l2⟩:=M5 hw;unfold Ci;rw[show(s.1,s.2.1,s.2.2.1,())=s from rfl,Dd hw hs,FO l1 l2];grind
theorem Xq{s:AG}{e:AD}(hw:Am s≤2^30)(hs:ln s)(he:Cp e.1):NV s e=some (n_ (G8 s e)):=by
 obtain⟨l1,l2⟩:=M5 hw;unfold NV G8;rw[show(s.1,s.2.1,s.2.2.1,())=s from rfl,show(e.1,e.2.1,e.2.2.1,e.2.2.2.1,())=e from rfl,Dd hw hs,Il hw hs,FO l1 l2,K0 he,Dc he];simp only[AF,Bp,AB,G2];cases h1:CO s with
 |false=>rfl
 |true=>
  have Dg:=B5.1 h1;have jM:=Dg.nl;cases h2:C8 e with
  |false=>rfl
  |true=>
   have hE:=(E7.1 h2).w0;simp only[AGV,AGJ,AE7,AE6,AGn,AHL];have lim:s.2.1.length+1≤IQ:=by rw[DF];omega
   by_cases h3:s.2.1.length=20
   ·rw[AEv (by omega),AHI (fun h=>h h3),AIg]
    rfl
   ·rw[AE4 (by omega),AHJ (show s.2.1.length≠20 from h3),AIE]
    unfold takes;by_cases h4:e.2.1=0
    ·rw[AEv h4,AEv h4]
     by_cases h5:Ah e.1≤s.2.2.1
     ·rw[AEv h5,AHI (by omega)];rfl
     ·rw[AE4 h5,AE4 (by omega),AEv lim,AHJ (by omega)];rfl
    ·rw[AE4 h4,AE4 h4,AEv (by omega)]
     by_cases h5:e.2.1≤s.2.2.1
     ·rw[AEv h5,AHI (by omega)];rfl
     ·rw[AE4 h5,AEv lim,AHJ (by omega)];rfl
theorem PM{s:AG}{k:Int}(hw:Am s≤2^30)(hs:ln s):Ip s k=some (n_ (ED s k)):=by
 obtain⟨l1,l2⟩:=M5 hw;unfold Ip Ml ED;rw[show(s.1,s.2.1,s.2.2.1,())=s from rfl,Dd hw hs,Il hw hs,FO l1 l2,Ac];simp only[AF,Bp];cases h1:CO s with
 |false=>rfl
 |true=>
  have Dg:=B5.1 h1;have jM:=Dg.nl;have hnk:=Dg.nk;simp only[AGV,AE7,AE6,AGn,AHL];cases h2:BC k 0 1048575 with
  |false=>rfl
  |true=>
   have hk:=Ak.1 h2;have AE_:0≤k∧k<2^63:=by omega
   simp only[AGV,AGJ];have key:∀(n i:Nat) (b:List AD),i≤s.2.1.length→s.2.1.length-i<n→b.length≤200+i→SW b→
     GL n k s.2.1 s.2.1.length i s.1 s.2.1 s.2.2.1 0 [] [] s.2.2.1 b []=
      some (n_ (if decide ((Dr b (HX k i (s.2.1.drop i))).length≤200)then((Dr b (HX k i (s.2.1.drop i)),[],s.2.2.1,()),true)else(s,false))):=by
    intro n
    induction n with
    |zero=>omega
    |succ n ih=>
     intro i b hi hn hb fL;simp only[GL,Mh,AB];by_cases hc:i<s.2.1.length
     ·have w5:=qA AE_ (i:=i) (by omega)
      rw[AEv (by omega),AEv (by omega),AE4 (by omega),AFL,w5,AB,Hy hc,AR (by omega) (by omega),show((i:Int)+1)=((i+1:Nat):Int)by omega,drop_cons hc];rw[show(s.2.1[i].1,s.2.1[i].2.1,s.2.1[i].2.2.1,s.2.1[i].2.2.2.1,())=s.2.1[i]from rfl,SL fL (by omega)];simp only[AF];rw[show HX k i (s.2.1[i]::s.2.1.drop (i+1))=if(k/2^i)%2=1 then s.2.1[i]::HX k (i+1) (s.2.1.drop (i+1))else HX k (i+1) (s.2.1.drop (i+1))from rfl];by_cases hbt:(k/2^i)%2=1
      ·rw[AEv hbt,AEv hbt,ih (i+1) _ (by omega) (by omega) (by grind[WU]) (Rq fL)]
       rfl
      ·rw[AE4 hbt,AE4 hbt,ih (i+1) _ (by omega) (by omega) (by omega) fL]
     ·rw[AE4 (by omega),AF0 (by omega),show(s.1,s.2.1,s.2.2.1,())=s from rfl,FO l1 l2]
      simp only[AF,HX,Dr];by_cases hg:b.length≤200
      ·rw[AE4 (by omega),AEv (AHJ hg)];rfl
      ·rw[AEv (by omega),AE4 (by simp_all)];rfl
   have:=key Aq 0 s.1 (by omega) (Aw (by omega)) (by omega) Dg.cJ;simp_all
theorem Qm{s:AG}(hw:Am s≤2^30)(hs:ln s):J0 s=some (n_ (CS s)):=by
 unfold J0 CS;rw[show(s.1,s.2.1,s.2.2.1,())=s from rfl,PM hw hs];rfl
theorem XH{s:AG}{u:Int}(hw:Am s≤2^30)(hs:ln s):Ji s u=some (n_ (CT s u)):=by
 unfold Ji CT;rw[show(s.1,s.2.1,s.2.2.1,())=s from rfl,Qm hw hs,Il hw hs,Ac];simp only[AF,Bp,n_];cases h1:CO s with
 |false=>
  grind[CS,ED]
 |true=>
  grind
theorem Xo{s:AG}{ep:Int}(hw:Am s≤2^30)(hs:ln s):Ke s ep=some (((),()),(Ko s ep,())):=by
 obtain⟨l1,l2⟩:=M5 hw;unfold Ke OY Ko;rw[show(s.1,s.2.1,s.2.2.1,())=s from rfl,Dd hw hs];simp only[AF,Bp];cases h1:CO s with
 |false=>rfl
 |true=>
  have key:∀(n i:Nat) (b:List AD),i≤s.1.length→s.1.length-i<n→b.length≤i→
    H_ n ep s.1 s.1.length i b=some (((),()),(b++(s.1.drop i).filter (fun e=>Ah e.1==ep),())):=by
   intro n
   induction n with
   |zero=>omega
   |succ n ih=>
    intro i b hi hn hb;simp only[H_,Oe,AB];by_cases hc:i<s.1.length
    ·rw[AEv (by omega),AEv (by omega),BJ hc,Dc (hs.1 _ (AFj hc)),AR (by omega) (by omega),show((i:Int)+1)=((i+1:Nat):Int)by omega,drop_cons hc,AHr]
     simp only[AF];rw[AEv (by rw[DF];omega),show(s.1[i].1,s.1[i].2.1,s.1[i].2.2.1,s.1[i].2.2.2.1,())=s.1[i]from rfl,ih (i+1) _ (by omega) (by omega) (by simp_all),ih (i+1) b (by omega) (by omega) (by omega)];grind
    grind
  have:=key Aq 0 [] (by omega) (Aw (by omega)) (by simp);simp_all
end Go.M
end
section
set_option maxRecDepth 8000
namespace Go.M
open Go.M.H (AD AG Ab AM AA Bc AH AY AL AN Ar Aa An Am Bt AX AU AW Ap CP BV Ao AZ DJ Bu B_ Cb)
theorem jB{x:AD}{t:ABV}:KA (x.1,x.2.1,x.2.2.1,x.2.2.2.1,()) t=some ((decide (x.1≤t.1),()),()):=rfl
theorem TW{t:ACY}{l:List AD}(hl:l.length≤2^30):BM t l=some (((),()),((),l.filter (fun x=> !(decide (x.1≤t.1.1))),())):=by
 have key:∀(n i j:Nat) (b:List AD),i≤j→j≤b.length→b.length≤2^30→b.length-j<n→Au n t i j b=some (((),()),((),b.take i++(b.drop j).filter (fun x=> !(decide (x.1≤t.1.1))),())):=by
  intro n
  induction n with
  |zero=>omega
  |succ n ih=>
   intro i j b rq hj hb hn;simp only[Au,CY,AB];by_cases hc:j<b.length
   ·rw[AEv (by omega),AEv (by omega),BJ hc,jB]
    simp only[AF];rw[AR (x:=(j:Int)+1) (by omega) (by omega),AR (x:=(i:Int)+1) (by omega) (by omega),show((j:Int)+1)=((j+1:Nat):Int)by omega,show((i:Int)+1)=((i+1:Nat):Int)by omega,drop_cons hc,AHr];have n1:=ih (i+1) (j+1) (b.set i b[j]) (by omega) (by grind) (by simp_all) (by grind);have n2:=ih i (j+1) b (by omega) (by omega) hb (by omega);rw[show(t.1,())=t from rfl,n2];rw[AI0 (by omega),AHO (by grind),AI1 (AGh _),AIv,AGl,AH8]at n1;rw[AEv (by omega),AFL,n1]
    generalize hx:b[j]=x
    cases(decide (x.1≤t.1.1))<;>rfl
   ·rw[AE4 (by omega),AF0 (i:=j) (by omega),AFL,AFL]
    simp_all;omega
 have mZ:∀(n i:Nat),i≤l.length→l.length-i<n→ ∃r:Int,Av n l t l.length i=some ((r,()),())∧((r= -1∧(l.drop i).filter (fun x=> !(decide (x.1≤t.1.1)))=l.drop i)∨ ∃q:Nat,r=q∧i≤q∧q<l.length∧((l.take q).drop i).filter (fun x=> !(decide (x.1≤t.1.1)))=(l.take q).drop i∧ ∀(h:q<l.length) x,x=l[q]→(decide (x.1≤t.1.1))=true):=by
  intro n
  induction n with
  |zero=>omega
  |succ n ih=>
   intro i hi hn;simp only[Av,Cd,AB];by_cases hc:i<l.length
   ·rw[AEv (by omega),AEv (by omega),BJ hc,jB]
    simp only[AF];rw[AR (x:=(i:Int)+1) (by omega) (by omega),show((i:Int)+1)=((i+1:Nat):Int)by omega,show(t.1,())=t from rfl];obtain⟨r,e,hr⟩:=ih (i+1) (by omega) (by omega);rw[e]
    generalize hx:l[i]=x
    cases hp:(decide (x.1≤t.1.1))with
    |true=>
     grind
    |false=>
     refine⟨r,rfl,?_⟩;rcases hr with⟨h1,h2⟩|⟨q,h1,h2,h3,h4,h5⟩
     ·grind[drop_cons]
     ·refine .inr ⟨q,h1,by omega,h3,?_,h5⟩
      grind[drop_cons]
   grind
 obtain⟨r,e,hr⟩:=mZ Aq 0 (by omega) (Aw (by omega));rw[show((0:Nat):Int)=0 from rfl]at e;unfold BM CZ Bo Cc;rw[show(t.1,())=t from rfl,e];simp only[AF];rcases hr with⟨h1,h2⟩|⟨q,h1,h2,h3,h4,h5⟩
 ·grind
 ·rw[h1,AGk.2 (by omega),AFM,AR (by omega) (by omega),show((q:Int)+1)=((q+1:Nat):Int)by omega,key Aq q (q+1) l (by omega) (by omega) hl (Aw (by omega))]
  rw[AHa]at h4;have hd:=h5 h3 _ rfl;grind[List.take_append_drop,drop_cons]
theorem Wq{s:AG}{u:Int}(hw:Am s≤2^30)(hs:ln s)(hu:Cp u):MF s u=some (n_ (I3 s u)):=by
 obtain⟨l1,l2⟩:=M5 hw;unfold MF I3;rw[show(s.1,s.2.1,s.2.2.1,())=s from rfl,Dd hw hs,Il hw hs,FO l1 l2,Kx hu];simp only[AF];cases CO s with
 |false=>rfl
 |true=>
  cases Bd u with
  |false=>rfl
  |true=>
   rw[TW l1];simp only[AF,AE7,AFM,AE6,AGn,AHL];rw[show(fun x:AD=> !decide (x.1≤(((u,()),()):ACY).1.1))=fun e=>decide (e.1>u)from funext fun x=>by
    grind]
   rfl
theorem kp{p:Int}{n:Nat}:BC (Ah p) 1 n=(Bd p&&decide (Ah p≤n)):=by
 cases h:Bd p with
 |false=>
  unfold Ah;rw[h];rfl
 |true=>
  obtain⟨⟨h1,h2⟩,_⟩:=D2 h;unfold BC;simp_all
section
variable{c:BN} {r:AH} (hc:c.1.length≤2^40) (hl:AX CP r.1≤2^30) (ht:Cp r.2.1)
include hc hl ht
theorem M6:C_ c r=some (if Mw c r then((((),r.2.1,()),()),(r.1,()))else((((),0,()),()),([],()))):=by
 unfold C_;rw[show(c.1,c.2.1,())=c from rfl,show(r.1,r.2.1,())=r from rfl,I6 hc hl ht,FD hl];grind
theorem ZF{ns:AAG}(hn:ns.length≤2^30):Ii c r ns=some (((((),(JX c r ns).1.2.1,()),(JX c r ns).2.1,(JX c r ns).2.2,()),()),((JX c r ns).1.1,())):=by
 have l1:=AU (f:=CP) (l:=r.1);unfold Ii JX;rw[show(c.1,c.2.1,())=c from rfl,show(r.1,r.2.1,())=r from rfl,I6 hc hl ht,M6 hc hl ht,FD hl,Df hc (by omega),Ck hn];simp only[AF];cases Mw c r with
 |false=>rfl
 |true=>
  cases holds c ns with
  |false=>rfl
  |true=>
   simp only[AE7,AFM,AE6,AGn,AGJ,AHL];by_cases h30:r.1.length=30
   ·simp_all
   ·rw[show((r.1.length:Int)==30)=false by grind,show decide (r.1.length≠30)=true by simp[h30],AFM,AEv (by rw[DF];omega)]
    simp
theorem X5{b last:Int}:Ki c r b last=some (pkR (Kf c r b last)):=by
 have l1:=AU (f:=CP) (l:=r.1);unfold Ki Kf;rw[show(c.1,c.2.1,())=c from rfl,show(r.1,r.2.1,())=r from rfl,I6 hc hl ht,M6 hc hl ht,FD hl,Lo (by omega)];simp only[AF];rcases AEw (Mw c r)with hr|hr
 rotate_left
 ·rw[hr];rfl
 have Dg:=FX.1 hr;rw[hr];simp only[AE7,AFM,AE6,AGn,AHL];by_cases h1:b=r.1.length
 rotate_left
 ·rw[show(b !=(r.1.length:Int))=true by simp_all,show decide (b=(r.1.length:Int))=false by simp_all]
  rfl
 rw[show(b !=(r.1.length:Int))=false by simp_all,show decide (b=(r.1.length:Int))=true by simp_all];simp only[AFM,AGJ];by_cases h3:b=Bj r.1
 ·rw[show(Bj r.1==b)=true by simp_all,show decide (b≠Bj r.1)=false by simp_all,AHW,AIg]
  rfl
 have AAY:0<r.1.length:=by
  rcases Nat.eq_zero_or_pos r.1.length with hz|hz
  ·exact absurd (by rw[h1,hz];unfold Bj;rw[hz];rfl) h3
  omega
 obtain⟨k,k1,k2,k3,k4⟩:=Po Dg AAY;rw[show(Bj r.1==b)=false by grind,show decide (b≠Bj r.1)=true by simp_all,show decide (Bj r.1≠0)=true by grind,Ac];simp only[AFM,AGJ,AF];cases BC last 0 60 with
 |false=>rfl
 |true=>
  simp only[AE7,AFM,AHL];rw[k2,AR (by omega) (by omega),show((k:Int)+1-1)=(k:Int)by omega,AEv (by omega),AEv (by simp_all),AFL];unfold pkR Km;simp_all
theorem ZP{p:Int}(hp:Cp p):O3 c r p=some (pkR (NU c r p)):=by
 unfold O3 NU;rw[show(c.1,c.2.1,())=c from rfl,show(r.1,r.2.1,())=r from rfl,I6 hc hl ht,M6 hc hl ht,FD hl,Dc hp];simp only[AF];rw[Ac,kp];simp only[AF];cases Mw c r with
 |false=>rfl
 |true=>
  cases Bd p&&decide (Ah p≤(r.1.length:Int))with
  |false=>rfl
  |true=>
   simp only[AE7,AFM,AE6,AGn,AHL];rw[show(if p>r.2.1 then p else r.2.1)=max r.2.1 p by omega];rfl
end
section
variable{c:BN} {w:AL} (hc:c.1.length≤2^40) (hl:AX BV w.2.1≤2^20)
include hc hl
theorem Oa:DA c w=some (if GW c w then(((w.1,(),()),()),(w.2.1,()))else(((0,(),()),()),([],()))):=by
 unfold DA;rw[show(c.1,c.2.1,())=c from rfl,show(w.1,w.2.1,())=w from rfl,GB hc (by omega),GM (by show AX BV w.2.1≤2^30;omega)];grind
theorem Wc{d:List UInt8}(hd:d.length≤2^20):GR c w d=some (((((Bk c w d).1.1,(),()),(Bk c w d).2.1,(Bk c w d).2.2,()),()),((Bk c w d).1.2.1,())):=by
 have l1:=AU (f:=BV) (l:=w.2.1);unfold GR Bk;rw[show(c.1,c.2.1,())=c from rfl,show(w.1,w.2.1,())=w from rfl,GM (by show AX BV w.2.1≤2^30;omega),Oa hc hl];simp only[AF];rw[AEv (by rw[DF];omega),GB hc (by omega),GB hc (by
  grind[AX,BV,Yq,List.length_nil])]
 grind
theorem WJ{o n:Int}:MQ c w o n=some (pkW (UX c w o n)):=by
 have l1:=AU (f:=BV) (l:=w.2.1);unfold MQ UX;rw[show(c.1,c.2.1,())=c from rfl,show(w.1,w.2.1,())=w from rfl,GB hc (by omega),Oa hc hl,GM (by show AX BV w.2.1≤2^30;omega),Ac,Ac];simp only[AF];rcases AEw (GW c w)with hw|hw
 rotate_left
 ·rw[hw];rfl
 have Dg:=Fj.1 hw;have xV:=EG Dg.cfg;rw[hw,AR (x:=(c.1.length:Int)-1) (by omega) (by omega)];simp only[AE7,AFM,AE6,AGn,AHL];rcases AEw (BC o 1 (w.2.1.length:Int))with ho|ho
 rotate_left
 ·rw[ho];rfl
 have l3:=Ak.1 ho;rw[ho];have hi:(o-1).toNat<w.2.1.length:=by omega
 have oK:w.2.1.getD (o-1).toNat Mt∈w.2.1:=CE (d:=Mt) hi;have hm:(w.2.1.getD (o-1).toNat Mt).1.length+(w.2.1.getD (o-1).toNat Mt).2.1.length≤AX BV w.2.1:=AW (f:=BV) oK;have oQ:=(Ct.1 (Dg.words _ oK).2.1).2.2;simp only[AE7,AFM,AGJ];rw[AR (x:=o-1) (by omega) (by omega),AEv (by omega)]
 show cond (w.2.1.getD (o-1).toNat Mt).2.2.1 _ _=_
 cases(w.2.1.getD (o-1).toNat Mt).2.2.1 with
 |true=>
  cases BC n 0 ((c.1.length:Int)-1)<;>rfl
 |false=>
  cases BC n 0 ((c.1.length:Int)-1)with
  |false=>rfl
  |true=>
   simp only[AFM,AHQ,AHL,AE7,AIF];rw[AEv (by omega),show(w.2.1.getD (o-1).toNat ([],[],false,())).2.1=(w.2.1.getD (o-1).toNat Mt).2.1 from rfl,KC oQ (by omega)];simp only[AF];have hg:∀x:AY,(w.2.1.set (o-1).toNat x).getD (o-1).toNat ([],[],false,())=x:=fun x=>NN hi
   rw[hg,Df hc (by
    grind[bB,Mt])]
   simp only[AF];rw[List.set_set];rfl
theorem Tb{n:Int}:JS c w n=some (pkW (Cw c w n)):=by
 have l1:=AU (f:=BV) (l:=w.2.1);unfold JS LO Cw;rw[show(c.1,c.2.1,())=c from rfl,show(w.1,w.2.1,())=w from rfl,GB hc (by omega),GM (by show AX BV w.2.1≤2^30;omega)];simp only[AF];cases GW c w with
 |false=>rfl
 |true=>
  simp only[AE7,AFM,AE6,AGn];have key:∀(k i:Nat),i≤w.2.1.length→w.2.1.length-i<k→FE k n w.2.1 w.2.1.length i 0 [] w.1 ((w.2.1.map (Fa n)).take i++w.2.1.drop i)=some (pkW ((w.1,w.2.1.map (Fa n),()),true)):=by
   intro k
   induction k with
   |zero=>omega
   |succ k ih=>
    intro i hi hk;have hlen:((w.2.1.map (Fa n)).take i++w.2.1.drop i).length=w.2.1.length:=WM hi;simp only[FE,Ld,AB,hlen];by_cases JU:i<w.2.1.length
    ·have c1:(0:Int)≤(i:Int)∧(i:Int)<(w.2.1.length:Int):=by omega
     have hm:w.2.1[i].1.length+w.2.1[i].2.1.length≤AX BV w.2.1:=AW (f:=BV) (AFj JU);have hg:((w.2.1.map (Fa n)).take i++w.2.1.drop i).getD ((i:Int).toNat) ([],[],false,())=w.2.1[i]:=UO JU;rw[AEv c1.2];simp only[AEv c1,hg];rw[BJ JU,AR (by omega) (by omega),show((i:Int)+1)=((i+1:Nat):Int)by omega];rcases AEw (w.2.1[i].2.2.1)with hd|hd
     ·rw[hd]
      simp only[AE7,AFM];grind[iH,iY]
     ·rw[hd]
      simp only[AHQ,AGV];rw[Hf (by omega)];grind[AF,Int.toNat_natCast,XJ,Fa]
    ·rw[AE4 (by omega),AF0 (by omega)]
     have:i=w.2.1.length:=by omega
     subst this;rw[AF5,AH3 (by simp)];rfl
  have:=key Aq 0 (by omega) (Aw (by omega));simp_all
end
end Go.M
end
section
set_option maxRecDepth 8000
namespace Go.M
open Go.M.H (AD AG Ab AM AA Bc AH AY AL AN Ar Aa An Am AX AU AW Ap CP BV Ao Bt Cb)
section
variable{c:BN} {m:Ab} (hc:c.1.length≤2^40) (hm:Bt m≤2^20) (h:jX m.2.2.2.1)
include hc hm h
theorem Lm:DX c m=some (if GX c m then(((m.1,m.2.1,(),(),m.2.2.2.2.1,(),()),()),(m.2.2.1,m.2.2.2.1,m.2.2.2.2.2.1,()))else(((0,0,(),(),false,(),()),()),([],[],[],()))):=by
 unfold DX;rw[show(c.1,c.2.1,())=c from rfl,show(m.1,m.2.1,m.2.2.1,m.2.2.2.1,m.2.2.2.2.1,m.2.2.2.2.2.1,())=m from rfl,FA hc (by omega) h,En (by omega)];grind
theorem ZS{o n:Int}:KG c m o n=some (lp (Zb c m o n)):=by
 obtain⟨h1,h2,h3,h4⟩:=PA hm;unfold KG Zb;rw[show(c.1,c.2.1,())=c from rfl,show(m.1,m.2.1,m.2.2.1,m.2.2.2.1,m.2.2.2.2.1,m.2.2.2.2.2.1,())=m from rfl,FA hc (by omega) h,Lm hc hm h,En (by omega),Ac,Ac];simp only[AF];rcases AEw (GX c m)with hw|hw
 rotate_left
 ·rw[hw];rfl
 have Dg:=Ea.1 hw;have xV:=EG Dg.cfg;rw[hw,AR (x:=(c.1.length:Int)-1) (by omega) (by omega)];simp only[AE7,AFM,AE6,AGn,AHL];rcases AEw (BC o 1 (m.2.2.2.2.2.1.length:Int))with ho|ho
 rotate_left
 ·rw[ho];rfl
 have l3:=Ak.1 ho;rw[ho];cases BC n 0 ((c.1.length:Int)-1)with
 |false=>rfl
 |true=>
  have hi:(o-1).toNat<m.2.2.2.2.2.1.length:=by omega
  have oK:=CE (d:=([]:AAG)) hi;have hq:=h4 _ oK;have oQ:=(Ct.1 (Dg.wrote _ oK)).2.2;simp only[AE7,AFM,AGJ,AHL];rw[AR (by omega) (by omega),AEv (by omega),KC oQ (by omega)];simp only[AF];rw[AEv (by omega)];rfl
theorem Vl{n:Int}:K4 c m n=some (lp (DE c m n)):=by
 obtain⟨h1,h2,h3,h4⟩:=PA hm;unfold K4 Mo DE;rw[show(c.1,c.2.1,())=c from rfl,show(m.1,m.2.1,m.2.2.1,m.2.2.2.1,m.2.2.2.2.1,m.2.2.2.2.2.1,())=m from rfl,FA hc (by omega) h,En (by omega)];simp only[AF];cases GX c m with
 |false=>rfl
 |true=>
  simp only[AE7,AFM,AE6,AGn];have key:∀(k i:Nat),i≤m.2.2.2.2.2.1.length→m.2.2.2.2.2.1.length-i<k→GS k n m.2.2.2.2.2.1 m.2.2.2.2.2.1.length i 0 0 false [] [] [] m.1 m.2.1 m.2.2.2.2.1 m.2.2.1 m.2.2.2.1 ((m.2.2.2.2.2.1.map (fun l=>less l [n])).take i++m.2.2.2.2.2.1.drop i)=
    some (lp ((m.1,m.2.1,m.2.2.1,m.2.2.2.1,m.2.2.2.2.1,m.2.2.2.2.2.1.map (fun l=>less l [n]),()),true)):=by
   intro k
   induction k with
   |zero=>omega
   |succ k ih=>
    intro i hi hk;have hlen:=WM (f:=fun l=>less l [n]) hi;simp only[GS,Mv,AB,hlen];by_cases JU:i<m.2.2.2.2.2.1.length
    ·have c1:(0:Int)≤(i:Int)∧(i:Int)<(m.2.2.2.2.2.1.length:Int):=by omega
     have hq:=h4 _ (AFj JU);rw[AEv c1.2];simp only[AEv c1];rw[BJ JU,AR (by omega) (by omega),show((i:Int)+1)=((i+1:Nat):Int)by omega,Hf (by omega)];simp only[AF];rw[AFL,XJ JU rfl];grind
    ·rw[AE4 (by omega),AF0 (by omega)]
     have:i=m.2.2.2.2.2.1.length:=by omega
     subst this;rw[AF5,AH3 (by simp)];rfl
  have:=key Aq 0 (by omega) (Aw (by omega));simp_all
theorem XI:J4 c m=some ((O8 c m,()),()):=by
 obtain⟨h1,h2,h3,h4⟩:=PA hm;unfold J4 Ny O8;rw[show(c.1,c.2.1,())=c from rfl,show(m.1,m.2.1,m.2.2.1,m.2.2.2.1,m.2.2.2.2.1,m.2.2.2.2.2.1,())=m from rfl,FA hc (by omega) h];simp only[AF];cases GX c m with
 |false=>rfl
 |true=>
  rcases AEw m.2.2.2.2.1 with hp|hp
  rotate_left
  ·simp_all
  have key:∀(k i:Nat),i≤m.2.2.2.2.2.1.length→m.2.2.2.2.2.1.length-i<k→G7 k m.2.2.2.2.2.1 m.2.2.2.2.2.1.length i c.1 c.2.1=some (((m.2.2.2.2.2.1.drop i).all (holds c),()),()):=by
   intro k
   induction k with
   |zero=>omega
   |succ k ih=>
    intro i hi hk;simp only[G7,Nz,AB];by_cases JU:i<m.2.2.2.2.2.1.length
    ·have c1:(0:Int)≤(i:Int)∧(i:Int)<(m.2.2.2.2.2.1.length:Int):=by omega
     have hq:=h4 _ (AFj JU);rw[AEv c1.2,AEv c1,AR (by omega) (by omega),show((i:Int)+1)=((i+1:Nat):Int)by omega,BJ JU,drop_cons JU,show(c.1,c.2.1,())=c from rfl,Df hc (by omega),ih (i+1) (by omega) (by omega)];simp only[AF,AHw];cases holds c m.2.2.2.2.2.1[i]<;>rfl
    grind
  have:=key Aq 0 (by omega) (Aw (by omega));simp_all
omit hc h in
theorem QO{o:Int}:GK m o=some ((((FV m o).getD GG,(FV m o).isSome,()),()),()):=by
 obtain⟨h1,h2,h3,h4⟩:=PA hm;unfold GK Ni FV;rw[EX];simp only[AF];cases m.2.2.2.2.1 with
 |false=>
  simp only[AHW,AE6,AGn,AHQ,AGV];cases(BC m.2.1 1 30&&BC o 1 60)<;>rfl
 |true=>
  simp only[AE7,AFM,AGJ];rcases AEw (BC m.2.1 1 30)with he|he
  rotate_left
  ·rw[he];rfl
  rcases AEw (BC o 1 60)with ho|ho
  rotate_left
  ·rw[he,ho];rfl
  have hp:E4 m.2.1 o=D3 m.2.1 o:=by unfold E4;rw[he,ho];rfl
  rw[he,ho,hp];simp only[AIE,AE7,AFM,AGJ];by_cases hl:o≤m.2.2.2.2.2.1.length
  ·rw[show decide (o>(m.2.2.2.2.2.1.length:Int))=false by simpa using hl,show decide (o≤(m.2.2.2.2.2.1.length:Int))=true by simpa using hl]
   simp only[AFM,AHL];have key:∀(k i:Nat),i≤m.2.2.2.1.length→m.2.2.2.1.length-i<k→HD k (D3 m.2.1 o) m.2.2.2.1 m.2.2.2.1.length i m.1 m.2.1 m.2.2.1 m.2.2.2.1 true m.2.2.2.2.2.1 0 0 false []=
     some ((((match HK (D3 m.2.1 o) (m.2.2.2.1.drop i)with
      |some x=>(D3 m.2.1 o,m.1,x.2.2.1,x.2.2.2.1,())
      |none=>(D3 m.2.1 o,m.1,true,[],())),true,()),()),()):=by
    intro k
    induction k with
    |zero=>intro i _ h;omega
    |succ k ih=>
     intro i hi hk;simp only[HD,N4,AB];by_cases JU:i<m.2.2.2.1.length
     ·have c1:(0:Int)≤(i:Int)∧(i:Int)<(m.2.2.2.1.length:Int):=by omega
      rw[AEv c1.2,AEv c1,AR (by omega) (by omega),show((i:Int)+1)=((i+1:Nat):Int)by omega,BJ JU,drop_cons JU,ih (i+1) (by omega) (by omega)];unfold HK;rw[AIU];cases hx:m.2.2.2.1[i].1==D3 m.2.1 o<;>rfl
     ·rw[AE4 (by omega),AF0 (by omega)]
      rfl
   have:=key Aq 0 (by omega) (Aw (by omega));rw[show((0:Nat):Int)=0 from rfl,AHa]at this;rw[this];cases HK (D3 m.2.1 o) m.2.2.2.1<;>rfl
  ·rw[show decide (o>(m.2.2.2.2.2.1.length:Int))=true by simp;omega,show decide (o≤(m.2.2.2.2.2.1.length:Int))=false by simp;omega]
   rfl
theorem X6{s:AAG}(hs:s.length≤2^20):Kl c m s=some (lp (Iv c m s)):=by
 obtain⟨h1,h2,h3,h4⟩:=PA hm;unfold Kl Iv;rw[show(c.1,c.2.1,())=c from rfl,show(m.1,m.2.1,m.2.2.1,m.2.2.2.1,m.2.2.2.2.1,m.2.2.2.2.2.1,())=m from rfl,FA hc (by omega) h,Lm hc hm h,En (by omega),Sz (by omega) h];simp only[AF];rcases AEw (GX c m)with Dg|Dg
 rotate_left
 ·rw[Dg];rfl
 have ub:=Ea.1 Dg;rw[Dg];simp only[AHL];rcases AEw m.2.2.2.2.1 with hp|hp
 ·rw[hp]
  simp only[AE7,AFM,AGV,AHW,AE6,AGn,lp,hp]
 have jt:(m.2.2.1.filter s.contains).length≤m.2.2.1.length:=AHl _ _;rw[hp];simp only[AE7,AHQ,AFM,AE6,AGn,AGJ];rw[SM (by omega) (by omega)];simp only[AF];rw[Ta hc (by omega) hs];simp only[AF];cases OM c s (m.2.2.1.filter s.contains)with
 |false=>simp[lp,hp]
 |true=>
  simp only[AE7,AFM,AHL];have hlb:=J7 (l:=m.2.2.2.1);rw[AEv ⟨hlb.1,Int.le_refl _,by rw[DF];omega⟩];rfl
theorem Xu{n:Int}{l:List AD}(hl:l.length≤2^20)(Sg:jX l)(hw:AX Ap l≤2^20):Kr c m n l=some (lp (Kq c m n l)):=by
 obtain⟨h1,h2,h3,h4⟩:=PA hm;unfold Kr ON Kq;rw[show(c.1,c.2.1,())=c from rfl,show(m.1,m.2.1,m.2.2.1,m.2.2.2.1,m.2.2.2.2.1,m.2.2.2.2.2.1,())=m from rfl,FA hc (by omega) h,Lm hc hm h,En (by omega)];simp only[AF];rcases AEw (GX c m)with Dg|Dg
 rotate_left
 ·rw[Dg];rfl
 have ub:=Ea.1 Dg;have oQ:=(Ct.1 ub.nu).2.2;rw[Dg];simp only[AE7,AFM,AE6,AGn,AHL];rcases AEw m.2.2.2.2.1 with hp|hp
 ·grind[lp]
 rw[hp,KC oQ (by omega)];simp only[AF,AFM,AHQ,AGJ];have key:∀(k i:Nat) (b:List AD),i≤l.length→l.length-i<k→b.length≤2^20+i→SW b→jX b→AX Ap b+AX Ap (l.drop i)≤2^21→
   IE k l l.length i c.1 c.2.1 m.1 m.2.1 m.2.2.1 m.2.2.2.1 false m.2.2.2.2.2.1 0 0 false [] [] [] m.1 m.2.1 false (Fc n m.2.2.1) b m.2.2.2.2.2.1=
   some (lp (if GX c (m.1,m.2.1,Fc n m.2.2.1,Dr b ((l.drop i).filter fun e=>Ah e.1==m.2.1),false,m.2.2.2.2.2.1,())then
    ((m.1,m.2.1,Fc n m.2.2.1,Dr b ((l.drop i).filter fun e=>Ah e.1==m.2.1),false,m.2.2.2.2.2.1,()),true)else(m,false))):=by
  intro k
  induction k with
  |zero=>omega
  |succ k ih=>
   intro i b hi hk hb fL zB zL;simp only[IE,Ob,AB];by_cases JU:i<l.length
   ·have c1:(0:Int)≤(i:Int)∧(i:Int)<(l.length:Int):=by omega
    rw[AEv c1.2];simp only[AEv c1];rw[AR (by omega) (by omega),show((i:Int)+1)=((i+1:Nat):Int)by omega,BJ JU,drop_cons JU,show(l[i].1,l[i].2.1,l[i].2.2.1,l[i].2.2.2.1,())=l[i]from rfl,Dc (Sg _ (AFj JU)),SL fL (by omega)];rw[drop_cons JU]at zL;simp only[AX]at zL;simp only[AF,AHr];rcases AEw (Ah l[i].1==m.2.1)with he|he
    ·simp only[he,AGV,AHL,Dr]
     have:=WU (e:=l[i]) (l:=b);have hwk:=ki l[i] b;exact ih (i+1) _ (by omega) (by omega) (by omega) (Rq fL) (fun x hx=>by
      rcases XL hx with rfl|hx
      ·exact Sg _ (AFj JU)
      ·exact zB x hx) (by omega)
    grind
   ·rw[AE4 (by omega),AF0 (by omega),show(c.1,c.2.1,())=c from rfl,En (m:=(m.1,m.2.1,m.2.2.1,m.2.2.2.1,false,m.2.2.2.2.2.1,())) (by
     grind)]
    simp only[List.filter_nil,Dr];rw[AF0 (by omega)]at zL;simp only[AX]at zL;have jW:=bB (n:=n) (l:=m.2.2.1);have hb2:=AU (f:=Ap) (l:=b);rw[FA (m:=(m.1,m.2.1,Fc n m.2.2.1,b,false,m.2.2.2.2.2.1,())) hc (by
     grind[Bt]) zB]
    grind[AF,GX,Fc,lp]
 have hsw:AX Ap m.2.2.2.1≤2^20:=by
  grind[Bt]
 have:=key Aq 0 m.2.2.2.1 (by omega) (Aw (by omega)) (by omega) ub.cJ h (by grind);simp_all
end
end Go.M
end
section
set_option maxRecDepth 8000
namespace Go.M
open Go.M.H (AD AG Ab AM AA Bc AH AY AL AN Ar Aa An Am AX AU AW Ap CP BV Ao Bt Cb)
theorem bC{c:BN}{l:AAG}(hc:c.1.length≤2^20)(hl:l.length≤2^20):Qf c l=some ((BA c l&& !holds c l,()),()):=by
 unfold Qf;rw[show(c.1,c.2.1,())=c from rfl,C5 (by omega) (by omega),Df (by omega) (by omega)];grind
theorem cx{ss:List AG}(hs:ss.length≤1024)(h:∀s∈ss,s.1.length≤1024)(hw:∀s∈ss,Am s≤2^30)(Sg:∀s∈ss,ln s)(Dg:∀s∈ss,CO s=true):Vv ss=some (((),()),(Jo [] ss,())):=by
 have key:∀n:Nat,
   (∀(i:Nat) (b:List AD),i≤ss.length→(ss.length-i)*1026+1≤n→b.length≤i*1024→SW b→
    I4 n ss ss.length i b=some (((),()),(Jo b (ss.drop i),())))∧
   (∀(i j:Nat) (b:List AD),(hi:i<ss.length)→j≤ss[i].1.length→(ss.length-i-1)*1026+1+(ss[i].1.length-j)+1≤n→b.length≤i*1024+j→SW b→
    JA n ss ss.length i ss[i].1 ss[i].1.length j b=some (((),()),(Jo (Dr b (ss[i].1.drop j)) (ss.drop (i+1)),()))):=by
  intro n
  induction n with
  |zero=>simp_all
  |succ n ih=>
   refine⟨fun i b hi h' hb fL=> ?_,fun i j b hi hj h' hb fL=> ?_⟩
   ·simp only[I4,Rn,AB]
    by_cases hc:i<ss.length
    ·have e_:=AFj hc
     have hm:=h _ e_;rw[AEv (by omega),AEv (by omega),BJ hc,show(ss[i].1,ss[i].2.1,ss[i].2.2.1,())=ss[i]from rfl,Dd (hw _ e_) (Sg _ e_),Dg _ e_];have e1:(ss.length-i)*1026=(ss.length-i-1)*1026+1026:=by
      omega
     have:=ih.2 i 0 b hc (by omega) (by omega) (by omega) fL;rw[show((0:Nat):Int)=0 from rfl,AHa]at this;simp only[AF,AE7,AFM];rw[this,drop_cons hc];rfl
    ·rw[AE4 (by omega),AF0 (by omega)]
     rfl
   ·have hm:=h _ (AFj hi)
    simp only[JA,RT,AB];have uZ:i*1024≤2^20:=by
     omega
    by_cases hc:j<ss[i].1.length
    ·have c2:(0:Int)≤(j:Int)∧(j:Int)<(ss[i].1.length:Int):=by omega
     rw[AEv c2.2,AEv c2,BJ hc,show(ss[i].1[j].1,ss[i].1[j].2.1,ss[i].1[j].2.2.1,ss[i].1[j].2.2.2.1,())=ss[i].1[j]from rfl,SL fL (by omega)];simp only[AF];rw[AR (by omega) (by omega),show((j:Int)+1)=((j+1:Nat):Int)by omega,drop_cons hc];have hk:=WU (e:=ss[i].1[j]) (l:=b);exact ih.2 i (j+1) _ hi (by omega) (by omega) (by omega) (Rq fL)
    ·rw[AE4 (by omega),AR (by omega) (by omega),show((i:Int)+1)=((i+1:Nat):Int)by omega,AF0 (by omega)]
     exact ih.1 (i+1) b (by omega) (by grind) (by omega) fL
 have hf:(ss.length-0)*1026+1≤Aq:=by
  have:ss.length*1026≤1024*1026:=AGS _ hs;exact Nat.le_of_lt (Aw (by omega))
 exact(key Aq).1 0 [] (by omega) hf (by simp) List.Pairwise.nil
theorem gI{c:BN}{ss:List AG}{lost:AAG}{n upto:Int}(hc:c.1.length≤2^20)(hs:ss.length≤1024)(hn:∀s∈ss,s.1.length≤1024)(hw:AX Am ss≤2^24)(Sg:∀s∈ss,ln s)(hl:lost.length≤2^20):
  Rt c lost n upto ss=some (pkF ss (U3 c ss lost n upto)):=by
 have zN:U3 c ss lost n upto=vf (C4 c&&(decide (ss.length=c.1.length)&&(BA c lost&&(!holds c lost&&(lost.contains n&&((others lost 0 ss).all CO&&CO (Jo [] (others lost 0 ss),[],upto,()))))))) (Jo [] (others lost 0 ss),[],upto,()):=rfl;rw[zN];unfold Rt S_;rw[show(c.1,c.2.1,())=c from rfl,bC hc hl,Fz (by omega)];simp only[AF,Bp,FF];have key:∀(k i:Nat) (o:List AG),(∀s∈o,s∈ss)→(∀s∈o,CO s=true)→i≤ss.length→ss.length-i<k→o.length≤i→AX Am o+AX Am (ss.drop i)≤2^24→
   MY k lost upto ss.length i ss 0 [] [] o=some (pkF ss (vf ((others lost i (ss.drop i)).all CO&&CO (Jo [] (o++others lost i (ss.drop i)),[],upto,())) (Jo [] (o++others lost i (ss.drop i)),[],upto,()))):=by
  intro k
  induction k with
  |zero=>omega
  |succ k ih=>
   intro i o ho Dg hi h hol how;simp only[MY,Sy,AB,Bp];by_cases JU:i<ss.length
   ·have c1:(0:Int)≤(i:Int)∧(i:Int)<(ss.length:Int):=by omega
    have c2:o.length+1≤IQ:=by rw[DF];omega
    have e_:=AFj JU;have AIW:=AW (f:=Am) e_;rw[drop_cons JU]at how;simp only[AX]at how;rw[AEv c1.2,AEv c1,Fz (by omega),BJ JU,show(ss[i].1,ss[i].2.1,ss[i].2.2.1,())=ss[i]from rfl,Dd (by omega) (Sg _ e_),AR (by omega) (by omega),show((i:Int)+1)=((i+1:Nat):Int)by omega];simp only[AF];rw[drop_cons JU];simp only[others];rcases AEw (lost.contains (i:Int))with hb|hb
    ·rw[hb]
     simp only[AGV,AHL];exact ih (i+1) o ho Dg (by omega) (by omega) (by omega) (by omega)
    ·rw[hb]
     simp only[AFM,AE6,AGn];rcases AEw (CO ss[i])with hg|hg
     ·rw[hg]
      simp only[AGV,AHw,hg,AGJ];rw[AEv c2,ih (i+1) (o++[ss[i]]) (fun s hs=>by
       grind) (fun s hs=>by
       grind) (by omega) (by omega) (by simp_all) (by grind[Yq,AX])]
      simp_all
     ·rw[hg]
      simp only[AFM,AHw,hg,AHW];rfl
   ·have hu:=pg (l:=o) (k:=[])
    simp only[AX]at hu;have AJS:AX Am o≤2^24:=by omega
    rw[AE4 (by omega),AF0 (by omega),cx (by omega) (fun s hs=>hn s (ho s hs)) (fun s hs=>by grind[AW,Am]) (fun s hs=>Sg s (ho s hs)) Dg];simp only[AF,others,AF5,List.all_nil,AGJ];rw[Dd (s:=(Jo [] o,[],upto,())) (by show AX Ap (Jo [] o)+AX Ap []≤_;grind[AX]) ⟨fun e he=>by
     rcases eH he with he|⟨t,ht,he⟩
     ·simp_all
     ·exact(Sg t (ho t ht)).1 e he,fun e he=>by simp_all⟩]
    simp only[AF];rcases AEw (CO (Jo [] o,[],upto,()))with hb|hb<;>rw[hb]<;>rfl
 have:=key Aq 0 [] (by simp) (by simp) (by omega) (Aw (by omega)) (by simp) (by grind[AX]);rw[show((0:Nat):Int)=0 from rfl,AHa,AHS]at this;rw[this];rcases AEw (BA c lost)with h1|h1
 rotate_left
 ·rw[h1]
  by_cases h2:ss.length=c.1.length
  ·rw[AEv (by omega)]
   simp only[AHW,AIg,AFM];rfl
  ·rw[AE4 (by omega)]
   simp only[AHW,AIg];rfl
 have xV:C4 c=true:=(Ct.1 h1).1;rw[h1,xV];simp only[AGJ];by_cases h2:ss.length=c.1.length
 rotate_left
 ·rw[AE4 (by omega),AHI h2]
  rfl
 rw[AEv (by omega),AHJ h2];simp only[AGJ];cases holds c lost with
 |true=>rfl
 |false=>
  cases lost.contains n with
  |false=>rfl
  |true=>rfl
end Go.M
end
section
set_option maxRecDepth 8000
namespace Go.M
open Go.M.H (AD AG Ab AM AA Bc AH AY AL AN Ar Aa An Am Bt AX AU AW Ap CP BV Ao AZ DJ Bu B_ Cb)
def AER(q:AA×Int):Qj:=((q.2,()),(((),q.1.2.1,(),(),(),q.1.2.2.2.2.2.1,(),(),(),(),q.1.2.2.2.2.2.2.2.2.2.2.1,()),q.1.1,q.1.2.2.1,q.1.2.2.2.1,(),(),(),q.1.2.2.2.2.2.2.2.2.1,q.1.2.2.2.2.2.2.2.2.2.1,q.1.2.2.2.2.1,q.1.2.2.2.2.2.2.1,q.1.2.2.2.2.2.2.2.1,()))
def ABX(q:AA×Int):Ri:=((q.2,()),(((),q.1.2.1,(),(),(),q.1.2.2.2.2.2.1,(),(),(),(),q.1.2.2.2.2.2.2.2.2.2.2.1,()),q.1.1,q.1.2.2.1,q.1.2.2.2.1,q.1.2.2.2.2.1,q.1.2.2.2.2.2.2.1,q.1.2.2.2.2.2.2.2.1,q.1.2.2.2.2.2.2.2.2.1,(),q.1.2.2.2.2.2.2.2.2.2.1,()))
def uw(q:AA×Int):EZ:=((q.2,()),(((),q.1.2.1,(),(),(),q.1.2.2.2.2.2.1,(),(),(),(),q.1.2.2.2.2.2.2.2.2.2.2.1,()),q.1.1,q.1.2.2.1,(),q.1.2.2.2.2.1,q.1.2.2.2.2.2.2.1,q.1.2.2.2.2.2.2.2.1,q.1.2.2.2.2.2.2.2.2.1,q.1.2.2.2.2.2.2.2.2.2.1,q.1.2.2.2.1,()))
def AGm(q:AA×Int):Qg:=((q.2,()),(((),q.1.2.1,(),(),(),q.1.2.2.2.2.2.1,(),(),(),(),q.1.2.2.2.2.2.2.2.2.2.2.1,()),q.1.1,q.1.2.2.1,q.1.2.2.2.1,q.1.2.2.2.2.1,q.1.2.2.2.2.2.2.1,(),q.1.2.2.2.2.2.2.2.2.1,q.1.2.2.2.2.2.2.2.2.2.1,q.1.2.2.2.2.2.2.2.1,()))
def AEZ(q:AA×Int):Pm:=((q.2,()),(((),q.1.2.1,(),(),(),q.1.2.2.2.2.2.1,(),(),(),(),q.1.2.2.2.2.2.2.2.2.2.2.1,()),q.1.1,q.1.2.2.1,q.1.2.2.2.1,(),q.1.2.2.2.2.2.2.1,(),q.1.2.2.2.2.2.2.2.2.1,q.1.2.2.2.2.2.2.2.2.2.1,q.1.2.2.2.2.1,q.1.2.2.2.2.2.2.2.1,()))
theorem fc{m:Ab}{b:Int}{e:AD}(h:FV m b=some e):Cp e.1:=by
 unfold FV at h;split at h
 ·rename_i hc
  simp only[AE1,Ak]at hc;grind[KI,Nq]
 simp_all
theorem W8{α:Type}{l:List α}{i:Nat}{d:α}:l.set i (l.getD i d)=l:=by
 by_cases h:i<l.length
 ·simp_all
 grind[List.set_eq_of_length_le]
def al(w:AA)(n ep:Int):Int:=if As w n=0 then if(BB w.Ay ep).contains n then 0 else 2 else As w n
section
variable{w:AA} (h:EF w)
include h
theorem K9{n ep:Int}(he:Cp ep):Cg w n ep=some ((al w n ep,()),()):=by
 have k:=h.nums;have k1:=k.c;have k2:=k.wr;have k3:=k.lost;have k4:=k.st;have Yv:=k.gV;have jD:=k.N5;have jT:=k.gv;have k5:=k.era;have k7:=k.Uw;unfold Cg al;rw[Hs (by omega) (by omega),show(w.2.2.2.2.1,w.2.2.2.2.2.1,())=C2 w from rfl,Hi (r:=C2 w) (by show AX CP w.2.2.2.2.1≤_;omega) he];have RJ:(BB w.Ay ep).length≤8:=Ik h;rw[show(C2 w).1=w.Ay from rfl];simp only[AF,G2];rw[Fz (by omega)];grind
theorem QV{n:Int}{e:AD}(hn:As w n=0)(he:Cp e.1):Hw n e w.2.1 w.2.2.2.2.2.1 w.2.2.2.2.2.2.2.2.2.2.1 w.1 w.2.2.1 w.2.2.2.1 w.2.2.2.2.1 w.2.2.2.2.2.2.1 w.2.2.2.2.2.2.2.1 w.2.2.2.2.2.2.2.2.1 w.2.2.2.2.2.2.2.2.2.1=some (Xb (putAt w n (G8 (storeAt w n) e))):=by
 obtain⟨hr,s1,s2,s3⟩:=h.LJ hn;have cG:w.2.2.1.getD n.toNat ([],[],0,())=storeAt w n:=rfl;unfold Hw putAt;simp only[AEv hr,cG];rw[show((storeAt w n).1,(storeAt w n).2.1,(storeAt w n).2.2.1,())=storeAt w n from rfl,show(e.1,e.2.1,e.2.2.1,e.2.2.2.1,())=e from rfl,Xq s1 s2 he];simp only[AF,n_,KF];cases(G8 (storeAt w n) e).2<;>rfl
theorem Vy{a:Int}:Gp a w.2.1 w.2.2.2.2.2.1 w.2.2.2.2.2.2.2.2.2.2.1 w.1 w.2.2.1 w.2.2.2.1 w.2.2.2.2.1 w.2.2.2.2.2.2.1 w.2.2.2.2.2.2.2.1 w.2.2.2.2.2.2.2.2.1 w.2.2.2.2.2.2.2.2.2.1=some (AER (PW w a)):=by
 have k:=h.nums;have k1:=k.c;have k2:=k.wr;have k3:=k.lost;have k4:=k.st;have Yv:=k.gV;have jD:=k.N5;have jT:=k.gv;have k5:=k.era;have k7:=k.Uw;unfold Gp PW;rw[G2];by_cases h4:w.2.2.2.2.2.2.1.length=4
 ·rw[AEv (by omega),AEv h4];rfl
 have hm:(DQ a).length≤8:=ie;rw[AE4 (by omega),AE4 h4,Qo];simp only[AF];rw[show(w.1,w.2.1,())=Ag w from rfl,show(w.2.2.2.2.1,w.2.2.2.2.2.1,())=C2 w from rfl,ZF (c:=Ag w) (r:=C2 w) (by show w.1.length≤_;omega) (by show AX CP w.2.2.2.2.1≤_;omega) k.trim (by omega)];simp only[AF,Bp];rcases AEw (JX (Ag w) (C2 w) (DQ a)).2.2 with hq|hq
 ·rw[hq,AEv (by rw[DF];omega),Jd];rfl
 ·rw[hq,LK];rfl
theorem Ux{d:An}:F9 d w.2.1 w.2.2.2.2.2.1 w.2.2.2.2.2.2.2.2.2.2.1 w.1 w.2.2.1 w.2.2.2.1 w.2.2.2.2.1 w.2.2.2.2.2.2.1 w.2.2.2.2.2.2.2.1 w.2.2.2.2.2.2.2.2.1 w.2.2.2.2.2.2.2.2.2.1=some (Xb (HH w d.2.1 d.2.2.1 d.2.2.2.1)):=by
 have k:=h.nums;have k1:=k.c;have k2:=k.wr;have k3:=k.lost;have k4:=k.st;have Yv:=k.gV;have jD:=k.N5;have jT:=k.gv;have k5:=k.era;have k7:=k.Uw;unfold F9 HH;rw[show(w.1,w.2.1,w.2.2.1,w.2.2.2.1,w.2.2.2.2.1,w.2.2.2.2.2.1,w.2.2.2.2.2.2.1,w.2.2.2.2.2.2.2.1,w.2.2.2.2.2.2.2.2.1,w.2.2.2.2.2.2.2.2.2.1,w.2.2.2.2.2.2.2.2.2.2.1,())=w from rfl,AR (x:=(w.2.2.2.2.2.2.1.length:Int)-1) (by omega) (by omega),Ac];simp only[AF,Bp,FF];rw[show BC d.2.1 0 ((w.2.2.2.2.2.2.1.length:Int)-1)=BC d.2.1 0 ((w.AE.length:Int)-1)from rfl];rcases AEw (BC d.2.1 0 ((w.AE.length:Int)-1))with h1|h1
 rotate_left
 ·rw[h1,LK];rfl
 obtain⟨x1,x2,x3⟩:=h.bI h1;rw[h1,AGV,Jd,AEv x1,Ac];simp only[AF];rw[show w.2.2.2.2.2.2.1.getD d.2.1.toNat (0,[],())=w.AE.getD d.2.1.toNat Af from rfl]
 generalize hx:w.AE.getD d.2.1.toNat Af=x at*
 rcases AEw (BC d.2.2.1 1 (x.2.1.length:Int))with h2|h2
 rotate_left
 ·rw[h2,LK];rfl
 have sa:=Ak.1 h2;have xF:=x2.n;have hxe:=x2.ep;have jW:=KI (e:=x.1) (o:=d.2.2.1) hxe (by omega);have wY:E4 x.1 d.2.2.1=D3 x.1 d.2.2.1:=by
  grind[E4,Ak]
 rw[h2,AGV,Jd,K9 h ⟨by omega,by omega⟩,EX,wY,AR (by omega) (by omega)];simp only[AF,AEv (show(0:Int)≤d.2.2.1-1∧d.2.2.1-1<(x.2.1.length:Int)by omega)];unfold al;by_cases h3:As w d.2.2.2.1=0
 rotate_left
 ·rw[AE4 h3,AE4 h3,AEv h3];rfl
 rw[AEv h3,AE4 (show¬(As w d.2.2.2.1≠0)from fun hh=>hh h3)];rcases AEw ((BB w.Ay x.1).contains d.2.2.2.1)with h5|h5
 rotate_left
 ·rw[h5,LK];rfl
 rw[h5,Jd,AEv rfl,AEv rfl,QV h h3 (Nq jW.1)];rfl
theorem Uo{n k:Int}:KQ n k w.2.1 w.2.2.2.2.2.1 w.2.2.2.2.2.2.2.2.2.2.1 w.1 w.2.2.1 w.2.2.2.1 w.2.2.2.2.1 w.2.2.2.2.2.2.1 w.2.2.2.2.2.2.2.1 w.2.2.2.2.2.2.2.2.1 w.2.2.2.2.2.2.2.2.2.1=some (Xb (Oh w n k)):=by
 have kk:=h.nums;have k1:=kk.c;have k2:=kk.wr;have k3:=kk.lost;have k4:=kk.st;have Yv:=kk.gV;have jD:=kk.N5;have jT:=kk.gv;have k5:=kk.era;have k7:=kk.Uw;unfold KQ Oh;rw[show(w.1,w.2.1,w.2.2.1,w.2.2.2.1,w.2.2.2.2.1,w.2.2.2.2.2.1,w.2.2.2.2.2.2.1,w.2.2.2.2.2.2.2.1,w.2.2.2.2.2.2.2.2.1,w.2.2.2.2.2.2.2.2.2.1,w.2.2.2.2.2.2.2.2.2.2.1,())=w from rfl,Hs (by omega) (by omega)];simp only[AF,FF];by_cases h3:As w n=0
 rotate_left
 ·rw[AE4 h3,AEv h3];rfl
 obtain⟨hr,s1,s2,s3⟩:=h.LJ h3;have cG:w.2.2.1.getD n.toNat ([],[],0,())=storeAt w n:=rfl;rw[AEv h3,AE4 (show¬(As w n≠0)from fun hh=>hh h3)];simp only[AEv hr,cG];rw[show((storeAt w n).1,(storeAt w n).2.1,(storeAt w n).2.2.1,())=storeAt w n from rfl,PM s1 s2];simp only[AF,n_,KF];unfold putAt;rcases AEw (ED (storeAt w n) k).2 with hq|hq
 ·rw[hq];rfl
 ·have e:(ED (storeAt w n) k).1=storeAt w n:=by
   unfold ED at hq⊢;rw[B5.2 s3]at hq⊢;grind
  rw[hq,e];have:w.2.2.1.set n.toNat ((storeAt w n).1,(storeAt w n).2.1,(storeAt w n).2.2.1,())=w.2.2.1:=W8;rw[this];rfl
theorem U0{n:Int}:KM n w.2.1 w.2.2.2.2.2.1 w.2.2.2.2.2.2.2.2.2.2.1 w.1 w.2.2.1 w.2.2.2.1 w.2.2.2.2.1 w.2.2.2.2.2.2.1 w.2.2.2.2.2.2.2.1 w.2.2.2.2.2.2.2.2.1 w.2.2.2.2.2.2.2.2.2.1=some (Xb (Ot w n)):=by
 have k:=h.nums;have k1:=k.c;have k2:=k.wr;have k3:=k.lost;have k4:=k.st;have Yv:=k.gV;have jD:=k.N5;have jT:=k.gv;have k5:=k.era;have k7:=k.Uw;unfold KM Ot;rw[show(w.1,w.2.1,w.2.2.1,w.2.2.2.1,w.2.2.2.2.1,w.2.2.2.2.2.1,w.2.2.2.2.2.2.1,w.2.2.2.2.2.2.2.1,w.2.2.2.2.2.2.2.2.1,w.2.2.2.2.2.2.2.2.2.1,w.2.2.2.2.2.2.2.2.2.2.1,())=w from rfl,Hs (by omega) (by omega)];simp only[AF,FF];by_cases h3:As w n=0
 rotate_left
 ·rw[AE4 h3,AEv h3];rfl
 obtain⟨hr,s1,s2,s3⟩:=h.LJ h3;have cG:w.2.2.1.getD n.toNat ([],[],0,())=storeAt w n:=rfl;rw[AEv h3,AE4 (show¬(As w n≠0)from fun hh=>hh h3)];simp only[AEv hr,cG];rw[show((storeAt w n).1,(storeAt w n).2.1,(storeAt w n).2.2.1,())=storeAt w n from rfl,Wq s1 s2 k.trim];simp only[AF,n_,KF];unfold putAt;rw[show w.trim=w.2.2.2.2.2.1 from rfl];rcases AEw (I3 (storeAt w n) w.2.2.2.2.2.1).2 with hq|hq
 ·rw[hq];rfl
 ·have e:(I3 (storeAt w n) w.2.2.2.2.2.1).1=storeAt w n:=by
   unfold I3 at hq⊢;rw[B5.2 s3]at hq⊢;grind
  rw[hq,e];have:w.2.2.1.set n.toNat ((storeAt w n).1,(storeAt w n).2.1,(storeAt w n).2.2.1,())=w.2.2.1:=W8;rw[this];rfl
theorem V2:Kw w.2.1 w.2.2.2.2.2.1 w.2.2.2.2.2.2.2.2.2.2.1 w.1 w.2.2.1 w.2.2.2.1 w.2.2.2.2.1 w.2.2.2.2.2.2.1 w.2.2.2.2.2.2.2.1 w.2.2.2.2.2.2.2.2.1 w.2.2.2.2.2.2.2.2.2.1=some (AGm (Pc w)):=by
 have k:=h.nums;have k1:=k.c;have k2:=k.wr;have k3:=k.lost;have k4:=k.st;have Yv:=k.gV;have jD:=k.N5;have jT:=k.gv;have k5:=k.era;have k7:=k.Uw;unfold Kw Pc;rw[show(w.2.2.2.2.1,w.2.2.2.2.2.1,())=C2 w from rfl,Lo (r:=C2 w) (by show w.2.2.2.2.1.length≤_;omega)];simp only[AF,G2,AB];rw[show(C2 w).1=w.Ay from rfl];by_cases h1:(w.2.2.2.2.1.length:Int)<2
 ·rw[AEv h1,show(decide ((w.2.2.2.2.1.length:Int)<2)||decide (Bj w.2.2.2.2.1=(w.2.2.2.2.1.length:Int)))=true by simp_all];rfl
 rw[AE4 h1];by_cases h2:Bj w.2.2.2.2.1=(w.2.2.2.2.1.length:Int)
 ·rw[AEv h2,show(decide ((w.2.2.2.2.1.length:Int)<2)||decide (Bj w.2.2.2.2.1=(w.2.2.2.2.1.length:Int)))=true by simp_all];rfl
 rw[AE4 h2,show(decide ((w.2.2.2.2.1.length:Int)<2)||decide (Bj w.2.2.2.2.1=(w.2.2.2.2.1.length:Int)))=false by simp_all];rw[AE4 (show¬(false=true)by simp)];by_cases h3:w.2.2.2.2.2.2.2.1.length>0
 ·rw[AEv (by omega),AEv h3];rfl
 ·rw[AE4 (by omega),AE4 h3];rfl
theorem VO{n:Int}:Gn n w.2.1 w.2.2.2.2.2.1 w.2.2.2.2.2.2.2.2.2.2.1 w.1 w.2.2.1 w.2.2.2.1 w.2.2.2.2.1 w.2.2.2.2.2.2.1 w.2.2.2.2.2.2.2.1 w.2.2.2.2.2.2.2.2.1 w.2.2.2.2.2.2.2.2.2.1=some (uw (Sa w n)):=by
 have k:=h.nums;have k1:=k.c;have k2:=k.wr;have k3:=k.lost;have k4:=k.st;have Yv:=k.gV;have jD:=k.N5;have jT:=k.gv;have k5:=k.era;have k7:=k.Uw;have k6:=k.ws;unfold Gn Sa;rw[show(w.1,w.2.1,w.2.2.1,w.2.2.2.1,w.2.2.2.2.1,w.2.2.2.2.2.1,w.2.2.2.2.2.2.1,w.2.2.2.2.2.2.2.1,w.2.2.2.2.2.2.2.2.1,w.2.2.2.2.2.2.2.2.2.1,w.2.2.2.2.2.2.2.2.2.2.1,())=w from rfl,AR (x:=(w.2.2.1.length:Int)-1) (by omega) (by omega),AR (x:=(w.2.2.2.2.1.length:Int)-1) (by omega) (by omega),Ac];simp only[AF,Bp];rcases AEw (w.lost.contains n)with hl|hl
 rotate_left
 ·rw[hl]
  have e:CA w n=some ((w.lost.contains n,()),()):=RM (by omega);rw[e,hl];cases BC n 0 ((w.2.2.1.length:Int)-1)<;>rfl
 have Sg:=(Ct.1 h.lost).2.1 n (by simp_all);have hn1:BC n 0 ((w.2.2.1.length:Int)-1)=true:=Ak.2 ⟨Sg.1,by
  have:n<(w.1.length:Int):=Sg.2;omega⟩
 have AIn:=Ak.1 hn1;rw[hn1,show CA w n=some ((w.lost.contains n,()),())from RM (by omega),hl,Jd];simp only[AF,AGV];rw[show(if(0:Int)>(w.2.2.2.2.1.length:Int)-1 then 0 else(w.2.2.2.2.1.length:Int)-1)=max ((w.Ay.length:Int)-1) 0 by
  grind]
 have AA_:∀s∈w.2.2.1,Uv s:=fun s hs=>h.Wz hs
 rw[show(w.1,w.2.1,())=Ag w from rfl,gI (c:=Ag w) (by show w.1.length≤_;omega) (by omega) (fun s hs=>by have:=(AA_ s hs).nk;omega) (by omega) (fun s hs=>(AA_ s hs).sin) (by omega)];simp only[AF,pkF];rw[show U3 (Ag w) w.Al w.lost n (max ((w.Ay.length:Int)-1) 0)=U3 (Ag w) w.2.2.1 w.2.2.2.1 n (max ((w.Ay.length:Int)-1) 0)from rfl];rcases AEw (U3 (Ag w) w.2.2.1 w.2.2.2.1 n (max ((w.Ay.length:Int)-1) 0)).2 with hq|hq
 rotate_left
 ·rw[hq,LK];rfl
 rw[hq,AGV,Jd,AEv (by omega),Hf (by omega)];rfl
theorem V6{n:Int}:Gy n w.2.1 w.2.2.2.2.2.1 w.2.2.2.2.2.2.2.2.2.2.1 w.1 w.2.2.1 w.2.2.2.1 w.2.2.2.2.1 w.2.2.2.2.2.2.1 w.2.2.2.2.2.2.2.1 w.2.2.2.2.2.2.2.2.1 w.2.2.2.2.2.2.2.2.2.1=some (Xb (Pf w n)):=by
 have k:=h.nums;have k1:=k.c;have k2:=k.wr;have k3:=k.lost;have k4:=k.st;have Yv:=k.gV;have jD:=k.N5;have jT:=k.gv;have k5:=k.era;have k7:=k.Uw;unfold Gy Pf;rcases hm:w.A8 with _|⟨m,ms⟩
 ·rw[G2,AEv (by simp_all)];rfl
 have vS:w.2.2.2.2.2.2.2.1=m::ms:=hm;have wT:w.2.2.2.2.2.2.2.1.length=ms.length+1:=by simp_all
 have g0:w.2.2.2.2.2.2.2.1.getD 0 (0,0,[],[],false,[],())=m:=by simp_all
 have wj:(0:Int)≤(0:Int)∧(0:Int)<(w.2.2.2.2.2.2.2.1.length:Int):=by omega
 have cM:=(h.A8 m (by simp_all)).1;have y9:=cM.w;have sk:=cM.ep;have hmb:=cM.b;simp only[G2,Bp,FF,AEv wj,g0];rw[AE4 (by omega)];rw[show(w.1,w.2.1,w.2.2.1,w.2.2.2.1,w.2.2.2.2.1,w.2.2.2.2.2.1,w.2.2.2.2.2.2.1,w.2.2.2.2.2.2.2.1,w.2.2.2.2.2.2.2.2.1,w.2.2.2.2.2.2.2.2.2.1,w.2.2.2.2.2.2.2.2.2.2.1,())=w from rfl,K9 h ⟨by omega,by omega⟩];simp only[AF];unfold al;by_cases h3:As w n=0
 rotate_left
 ·rw[AE4 h3,AE4 h3,AEv h3];rfl
 obtain⟨hr,s1,s2,s3⟩:=h.LJ h3;have cG:w.2.2.1.getD n.toNat ([],[],0,())=storeAt w n:=rfl;have hn3: ¬(As w n≠0):=fun hh=>hh h3
 rw[AEv h3,AE4 hn3];simp only[AEv hr,cG];rcases AEw ((BB w.Ay m.2.1).contains n)with h5|h5
 rotate_left
 ·rw[h5,LK];rfl
 rw[h5,Jd,AEv rfl,AEv rfl,AR (by omega) (by omega),show((storeAt w n).1,(storeAt w n).2.1,(storeAt w n).2.2.1,())=storeAt w n from rfl,XH s1 s2];have hq:=pL (u:=m.1-1) s3;have hqw:=hq.w;simp only[AF,n_];rw[show((CT (storeAt w n) (m.1-1)).1.1,(CT (storeAt w n) (m.1-1)).1.2.1,(CT (storeAt w n) (m.1-1)).1.2.2.1,())=(CT (storeAt w n) (m.1-1)).1 from rfl,Xo (by omega) hq.sin];simp only[AF];have hes:(Ko (CT (storeAt w n) (m.1-1)).1 m.2.1).length≤200∧jX (Ko (CT (storeAt w n) (m.1-1)).1 m.2.1)∧AX Ap (Ko (CT (storeAt w n) (m.1-1)).1 m.2.1)≤10000:=by
  unfold Ko;rw[B5.2 hq,AEv rfl];refine⟨AHK (AHl _ _) hq.nk,fun e he=>hq.sin.1 e (AIV.1 he).1,AHK dO ?_⟩;have:Am (CT (storeAt w n) (m.1-1)).1=AX Ap (CT (storeAt w n) (m.1-1)).1.1+AX Ap (CT (storeAt w n) (m.1-1)).1.2.1:=rfl;omega
 rw[show(m.1,m.2.1,m.2.2.1,m.2.2.2.1,m.2.2.2.2.1,m.2.2.2.2.2.1,())=m from rfl,show(w.1,w.2.1,())=Ag w from rfl,Xu (c:=Ag w) (by show w.1.length≤_;omega) (by omega) cM.zJ (by omega) hes.2.1 (by omega)];simp only[AF,lp];rcases AEw (CT (storeAt w n) (m.1-1)).2 with h6|h6
 rotate_left
 ·rw[h6,AHQ,Bool.true_or,AEv rfl];rfl
 rw[h6,AE7,AHd];rcases AEw (Kq (Ag w) m n (Ko (CT (storeAt w n) (m.1-1)).1 m.2.1)).2 with h7|h7
 rotate_left
 ·rw[h7,LK];rfl
 rw[h7,Jd,AGV,AGV,vS];rfl
theorem VX:Gw w.2.1 w.2.2.2.2.2.1 w.2.2.2.2.2.2.2.2.2.2.1 w.1 w.2.2.1 w.2.2.2.1 w.2.2.2.2.1 w.2.2.2.2.2.2.1 w.2.2.2.2.2.2.2.1 w.2.2.2.2.2.2.2.2.1 w.2.2.2.2.2.2.2.2.2.1=some (Xb (NF w)):=by
 have k:=h.nums;have k1:=k.c;have k2:=k.wr;have k3:=k.lost;have k4:=k.st;have Yv:=k.gV;have jD:=k.N5;have jT:=k.gv;have k5:=k.era;have k7:=k.Uw;unfold Gw NF;rcases hm:w.A8 with _|⟨m,ms⟩
 ·rw[G2,AEv (by simp_all)];rfl
 have vS:w.2.2.2.2.2.2.2.1=m::ms:=hm;have wT:w.2.2.2.2.2.2.2.1.length=ms.length+1:=by simp_all
 have g0:w.2.2.2.2.2.2.2.1.getD 0 (0,0,[],[],false,[],())=m:=by simp_all
 have wj:(0:Int)≤(0:Int)∧(0:Int)<(w.2.2.2.2.2.2.2.1.length:Int):=by omega
 have cM:=(h.A8 m (by simp_all)).1;have y9:=cM.w;have sk:=cM.ep;simp only[G2,Bp,FF,AEv wj,g0];rw[AE4 (by omega)];rw[show(w.2.2.2.2.1,w.2.2.2.2.2.1,())=C2 w from rfl,Hi (r:=C2 w) (by show AX CP w.2.2.2.2.1≤_;omega) ⟨by omega,by omega⟩];have RJ:(BB w.Ay m.2.1).length≤8:=Ik h;rw[show(C2 w).1=w.Ay from rfl];simp only[AF];rw[show(m.1,m.2.1,m.2.2.1,m.2.2.2.1,m.2.2.2.2.1,m.2.2.2.2.2.1,())=m from rfl,show(w.1,w.2.1,())=Ag w from rfl,X6 (c:=Ag w) (by show w.1.length≤_;omega) (by omega) cM.zJ (by omega)];simp only[AF,lp,KF];rcases AEw (Iv (Ag w) m (BB w.Ay m.2.1)).2 with h6|h6
 ·rw[h6,Jd,vS];rfl
 ·have e:(Iv (Ag w) m (BB w.Ay m.2.1)).1=m:=by
   unfold Iv at h6⊢;rw[Ea.2 cM]at h6⊢;grind
  rw[h6,LK,e,vS]
  show some ((4,()),_,_,_,_,_,_,(m::ms),_)=some ((4,()),_,_,_,_,_,_,w.2.2.2.2.2.2.2.1,_)
  rw[vS]
theorem XE{b n:Int}:L6 b n w.2.1 w.2.2.2.2.2.1 w.2.2.2.2.2.2.2.2.2.2.1 w.1 w.2.2.1 w.2.2.2.1 w.2.2.2.2.1 w.2.2.2.2.2.2.1 w.2.2.2.2.2.2.2.1 w.2.2.2.2.2.2.2.2.1 w.2.2.2.2.2.2.2.2.2.1=some (Xb (Ts w b n)):=by
 have k:=h.nums;have k1:=k.c;have k2:=k.wr;have k3:=k.lost;have k4:=k.st;have Yv:=k.gV;have jD:=k.N5;have jT:=k.gv;have k5:=k.era;have k7:=k.Uw;unfold L6 Ts;rcases hm:w.A8 with _|⟨m,ms⟩
 ·rw[G2,AEv (by simp_all)];rfl
 have vS:w.2.2.2.2.2.2.2.1=m::ms:=hm;have wT:w.2.2.2.2.2.2.2.1.length=ms.length+1:=by simp_all
 have g0:w.2.2.2.2.2.2.2.1.getD 0 (0,0,[],[],false,[],())=m:=by simp_all
 have wj:(0:Int)≤(0:Int)∧(0:Int)<(w.2.2.2.2.2.2.2.1.length:Int):=by omega
 have cM:=(h.A8 m (by simp_all)).1;have y9:=cM.w;have sk:=cM.ep;simp only[G2,Bp,FF,AEv wj,g0];rw[AE4 (by omega),show(m.1,m.2.1,m.2.2.1,m.2.2.2.1,m.2.2.2.2.1,m.2.2.2.2.2.1,())=m from rfl,QO (by omega)];simp only[AF];rcases he:FV m b with _|e
 ·rfl
 simp only[AIi,AIO,AGV];rw[show(w.1,w.2.1,w.2.2.1,w.2.2.2.1,w.2.2.2.2.1,w.2.2.2.2.2.1,w.2.2.2.2.2.2.1,w.2.2.2.2.2.2.2.1,w.2.2.2.2.2.2.2.2.1,w.2.2.2.2.2.2.2.2.2.1,w.2.2.2.2.2.2.2.2.2.2.1,())=w from rfl,K9 h ⟨by omega,by omega⟩];simp only[AF];unfold al;by_cases h3:As w n=0
 rotate_left
 ·rw[AE4 h3,AE4 h3,AEv h3];rfl
 rw[AEv h3,AE4 (show¬(As w n≠0)from fun hh=>hh h3)];rcases AEw ((BB w.Ay m.2.1).contains n)with h5|h5
 rotate_left
 ·rw[h5,LK];rfl
 rw[h5,Jd,AEv rfl,AEv rfl,show(e.1,e.2.1,e.2.2.1,e.2.2.2.1,())=e from rfl,QV h h3 (fc he)];rfl
theorem Us:GC w.2.1 w.2.2.2.2.2.1 w.2.2.2.2.2.2.2.2.2.2.1 w.1 w.2.2.1 w.2.2.2.1 w.2.2.2.2.1 w.2.2.2.2.2.2.1 w.2.2.2.2.2.2.2.1 w.2.2.2.2.2.2.2.2.1 w.2.2.2.2.2.2.2.2.2.1=some (AEZ (MC w)):=by
 have k:=h.nums;have k1:=k.c;have k2:=k.wr;have k3:=k.lost;have k4:=k.st;have Yv:=k.gV;have jD:=k.N5;have jT:=k.gv;have k5:=k.era;have k7:=k.Uw;unfold GC MC;rcases hm:w.A8 with _|⟨m,ms⟩
 ·rw[G2,AEv (by simp_all)];rfl
 have vS:w.2.2.2.2.2.2.2.1=m::ms:=hm;have wT:w.2.2.2.2.2.2.2.1.length=ms.length+1:=by simp_all
 have g0:w.2.2.2.2.2.2.2.1.getD 0 (0,0,[],[],false,[],())=m:=by simp_all
 have wj:(0:Int)≤(0:Int)∧(0:Int)<(w.2.2.2.2.2.2.2.1.length:Int):=by omega
 have cM:=(h.A8 m (by simp_all)).1;have y9:=cM.w;simp only[G2,Bp,FF,AEv wj,g0];rw[AE4 (by omega),show(m.1,m.2.1,m.2.2.1,m.2.2.2.1,m.2.2.2.2.1,m.2.2.2.2.2.1,())=m from rfl,show(w.1,w.2.1,())=Ag w from rfl,show(w.2.2.2.2.1,w.2.2.2.2.2.1,())=C2 w from rfl,XI (c:=Ag w) (by show w.1.length≤_;omega) (by omega) cM.zJ];simp only[AF];rcases AEw (O8 (Ag w) m)with h6|h6
 rotate_left
 ·rw[h6,LK];rfl
 rw[h6,Jd,AGV,X5 (c:=Ag w) (r:=C2 w) (by show w.1.length≤_;omega) (by show AX CP w.2.2.2.2.1≤_;omega) k.trim];simp only[AF,pkR,KF];rcases AEw (Kf (Ag w) (C2 w) m.1 (m.2.2.2.2.2.1.length:Int)).2 with h7|h7
 ·rw[h7,AGV,Jd];rfl
 ·rw[h7,AFM,LK];rfl
end
end Go.M
end
section
set_option maxRecDepth 8000
namespace Go.M
open Go.M.H (AD AG Ab AM AA Bc AH AY AL AN Ar Aa An Am Bt AX AU AW Ap CP BV Ao AZ DJ Bu B_ Cb)
abbrev Yy(l:List AM):Prop:=Kg (fun s:AM=>s.1) l
abbrev jz(p:Int)(l:List AM)(q:Nat):Prop:=XC (fun s:AM=>s.1) p l q
def Nf(p:Int)(l:List AM)(q:Nat):Bool:=match l[q]? with|some e=>e.1==p|none=>false
theorem Tn{l:List AM}(ha:Yy l)(hl:l.length≤2^30)(hp:∀s∈l,0≤s.1∧s.1<2^40){p:Int}(hpp:0≤p∧p<2^40):∃q,jz p l q∧
  A0 l p=some ((((q:Int),Nf p l q,()),()),()):=by
 have key:∀(n a b:Nat),a≤b→b≤l.length→b-a<n→(∀(i:Nat) (h:i<l.length),i<a→l[i].1<p)→(∀(i:Nat) (h:i<l.length),b≤i→p≤l[i].1)→
   ∃q,jz p l q∧Ae n l p l.length a b=some ((((q:Int),Nf p l q,()),()),()):=by
  intro n
  induction n with
  |zero=>omega
  |succ n ih=>
   intro a b fL hb hn h1 h2;simp only[Ae,Bm,AB,Hc,AF];by_cases IV:a<b
   ·have hm:(a+b)/2<l.length:=by omega
    have hq:=hp _ (AFj hm);rw[AEv (by omega),fM (by omega),AEv (by omega),BJ hm,AR (by omega) (by omega)];by_cases hc:l[(a+b)/2].1<p
    ·rw[AEv (by omega),AR (by omega) (by omega),show((((a+b)/2:Nat):Int)+1)=(((a+b)/2+1:Nat):Int)by omega]
     refine ih _ b (by omega) hb (by omega) (fun i h hi=> ?_) h2;exact Int.lt_of_le_of_lt (SX (f:=fun s:AM=>s.1) ha h hm (by omega)) hc
    ·rw[AE4 (by omega)]
     exact ih a _ (by omega) (by omega) (by omega) h1 fun i h hi=>Int.le_trans (by omega) (SX (f:=fun s:AM=>s.1) ha hm h hi)
   ·have qp:a=b:=by omega
    subst qp;refine⟨a,⟨hb,h1,h2⟩,?_⟩;rw[AE4 (by omega)];unfold Nf;by_cases nZ:a<l.length
    ·have hq:=hp _ (AFj nZ)
     rw[AEv (by omega),AEv (by omega),BJ nZ,AEX nZ,AR (by omega) (by omega)];dsimp only;by_cases hd:l[a].1=p
     ·simp_all
     ·rw[AGk.2 hd,AGk.2 (by omega:l[a].1-p≠0)]
    grind
 obtain⟨q,hq,e⟩:=key Aq 0 l.length (by omega) (by omega) (Aw (by omega)) (fun i h hi=>by omega) (fun i h hi=>by omega);refine⟨q,hq,?_⟩;unfold A0 Bn;omega
theorem cC{p:Int}{l:List AM}{q:Nat}(h:Nf p l q=true):∃hq:q<l.length,l[q].1=p:=by
 unfold Nf at h;grind
theorem eE{p:Int}{l:List AM}{q:Nat}(hp:jz p l q)(ha:Yy l)(h:Nf p l q=false):∀s∈l,s.1≠p:=by
 intro s hs e;obtain⟨i,hi,rfl⟩:=List.mem_iff_getElem.1 hs;have h1:=hp.lt i hi;by_cases lk:i<q
 ·omega
 ·have hq:q<l.length:=by omega
  have h3:p≤l[q].1:=hp.ge q hq (AGh _);have h4:=SX (f:=fun s:AM=>s.1) ha hq hi (by omega);grind[Nf,List.getElem?_eq_getElem,beq_eq_false_iff_ne]
theorem lD{p:Int}{l:List AM}{q:Nat}(hp:jz p l q)(ha:Yy l):(l.any fun s=>s.1==p)=Nf p l q:=by
 rcases AEw (Nf p l q)with h|h
 ·obtain⟨hq,e⟩:=cC h
  grind
 ·rw[h,AIY]
  intro s hs;grind[eE]
def LD(p:Int)(l:List AM):List AM:=l.map fun s=>if s.1=p then(s.1,s.2.1,true,())else s
theorem lV{p:Int}{l:List AM}(h:∀s∈l,s.1≠p):LD p l=l:=by
 unfold LD
 conv=>rhs;rw[←AIj l]
 refine AHH fun s hs=> ?_
 grind
theorem pN{p:Int}:∀{l:List AM} {q:Nat} (hq:q<l.length),Yy l→l[q].1=p→l.set q (l[q].1,l[q].2.1,true,())=LD p l
 |[],q,hq,_,_=>by rfl
 |s::l,0,_,ha,e=>by
  have h1:=AGx.1 ha;have e':s.1=p:=e;have h2:LD p l=l:=lV fun y hy=>by grind
  show(s.1,s.2.1,true,())::l=(if s.1=p then(s.1,s.2.1,true,())else s)::LD p l
  simp_all
 |s::l,q+1,hq,ha,e=>by
  have h1:=AGx.1 ha;have vh:q<l.length:=by grind
  have e':l[q].1=p:=e;have h3:s.1<l[q].1:=h1.1 _ (AFj vh);have h4:s.1≠p:=by omega
  have:=pN vh h1.2 e'
  show s::l.set q (l[q].1,l[q].2.1,true,())=(if s.1=p then(s.1,s.2.1,true,())else s)::LD p l
  simp_all
theorem sm_at{p:Int}{l:List AM}:∀{s:AM},s∈LD p l→ ∃t∈l,t.1=s.1:=by
 intro s hs;obtain⟨t,ht,rfl⟩:=AHv.1 hs;grind
theorem yD{p:Int}{l:List AM}(h:Yy l):Yy (LD p l):=by
 unfold LD Yy Kg;grind
theorem yU{p:Int}{l:List AM}:(LD p l).length=l.length:=by unfold LD;rw[AIR]
theorem iL{s:AM}:∀{l:List AM} {q:Nat},jz s.1 l q→Nf s.1 l q=false→Rj s l=l.take q++[s]++l.drop q
 |[],q,h,_=>by
  have:=h.le;have:q=0:=by simp_all
  subst this;rfl
 |y::l,0,h,hn=>by
  have h1:=h.ge 0 (by simp) (AGh _);have h2:(y.1==s.1)=false:=hn;have sa:=AGk.1 h2;have rR:s.1≤y.1:=h1;simp only[Rj];grind
 |y::l,q+1,h,hn=>by
  have h1:y.1<s.1:=h.lt 0 (by simp) (by omega);have hp:jz s.1 l q:=⟨by have:=h.le;simp_all,fun i hi lk=>h.lt (i+1) (by simp_all) (by omega),fun i hi lk=>h.ge (i+1) (by simp_all) (by omega)⟩;simp only[Rj];rw[AE4 (by omega),iL hp hn];rfl
section
variable{w:AA} (h:EF w)
include h
theorem EF.rK:∀s∈w.2.2.2.2.2.2.2.2.2.1,0≤s.1∧s.1<2^40:=fun s hs=>by
 have hp:=(h.A3 s hs).1;have h1:=D2 hp;grind[D3,Ah,CM]
theorem WL{a:Int}{d:List UInt8}(hd:d.length≤40):Hz a d w.2.1 w.2.2.2.2.2.1 w.2.2.2.2.2.2.2.2.2.2.1 w.1 w.2.2.1 w.2.2.2.1 w.2.2.2.2.1 w.2.2.2.2.2.2.1 w.2.2.2.2.2.2.2.1 w.2.2.2.2.2.2.2.2.1 w.2.2.2.2.2.2.2.2.2.1=some (ABX (doAdd w a d)):=by
 have k:=h.nums;have k1:=k.c;have k2:=k.wr;have k3:=k.lost;have k4:=k.st;have Yv:=k.gV;have jD:=k.N5;have jT:=k.gv;have k5:=k.era;have k7:=k.Uw;have k6:=k.se;unfold Hz doAdd;rw[AR (x:=(w.2.2.2.2.2.2.1.length:Int)-1) (by omega) (by omega),Ac];simp only[AF,Bp,FF,G2];rw[show BC a 0 ((w.2.2.2.2.2.2.1.length:Int)-1)=BC a 0 ((w.AE.length:Int)-1)from rfl];rcases AEw (BC a 0 ((w.AE.length:Int)-1))with h1|h1
 rotate_left
 ·rw[h1,LK];rfl
 obtain⟨x1,x2,x3⟩:=h.bI h1;rw[h1,AGV,Jd];simp only[AEv x1];rw[show w.2.2.2.2.2.2.1.getD a.toNat (0,[],())=w.AE.getD a.toNat Af from rfl]
 generalize hx:w.AE.getD a.toNat Af=x at*
 rw[show(x.1,x.2.1,())=x from rfl,show(w.1,w.2.1,())=Ag w from rfl,Wc (c:=Ag w) (by show w.1.length≤_;omega) (by omega) (by omega)];simp only[AF];rw[EX];simp only[AF];have xF:=x2.n;have hxe:=x2.ep;have hq1:(Bk (Ag w) x d).1.1=x.1:=by
  unfold Bk;rw[Fj.2 x2];grind
 have wY:0≤E4 (Bk (Ag w) x d).1.1 (Bk (Ag w) x d).2.1∧E4 (Bk (Ag w) x d).1.1 (Bk (Ag w) x d).2.1<2^40:=by
  unfold E4 D3;split
  ·rename_i hc
   rw[AE1,Ak,Ak]at hc;omega
  omega
 obtain⟨q,hq,es⟩:=Tn (l:=w.2.2.2.2.2.2.2.2.2.1) h.Ou (by omega) h.rK wY;unfold DH;rw[es];simp only[AF];rcases AEw (Bk (Ag w) x d).2.2 with h2|h2
 rotate_left
 ·rw[h2,AHQ,Bool.true_or,AEv rfl,AFM];rfl
 obtain⟨y1,y2,y3,y4⟩:=SZ h2;have hyl:=y2.n;rw[y3]at hyl;simp only[AGP,AFq,AG6]at hyl;have jW:=KI (e:=x.1) (o:=(Bk (Ag w) x d).2.1) hxe (by omega);have tc:E4 (Bk (Ag w) x d).1.1 (Bk (Ag w) x d).2.1=D3 x.1 (Bk (Ag w) x d).2.1:=by
  grind[E4,Ak]
 rw[tc]at hq⊢;rw[h2,AGV];simp only[AE7,AHd];have xp:(w.A3.any fun s=>s.1==D3 x.1 (Bk (Ag w) x d).2.1)=Nf (D3 x.1 (Bk (Ag w) x d).2.1) w.2.2.2.2.2.2.2.2.2.1 q:=lD hq h.Ou;rw[xp];by_cases h3:w.2.2.2.2.2.2.2.2.2.1.length=120
 ·rw[AEv (by omega),show decide (w.A3.length=120)=true from AHJ h3,Bool.true_or,AEv rfl]
  rfl
 rw[AE4 (by omega),show decide (w.A3.length=120)=false from AHI h3];simp only[AHd];rcases AEw (Nf (D3 x.1 (Bk (Ag w) x d).2.1) w.2.2.2.2.2.2.2.2.2.1 q)with h4|h4
 ·rw[h4,AGV,AEv rfl];rfl
 rw[h4,AFM,AE4 (by simp)];have hql:=hq.le;grind[C9,Wl,iL,D3,Bk,Ag,ABX,List.append_assoc,Rj]
end
end Go.M
end
section
set_option maxRecDepth 8000
namespace Go.M
open Go.M.H (AD AG Ab AM AA Bc AH AY AL AN Ar Aa An Am Bt AX AU AW Ap CP BV Ao AZ DJ Bu B_ Cb)
def U6(c:BN)(s:AG)(ep n:Int):Int→List AY→List AM→List AM
 |_,[],se=>se
 |o,x::l,se=>U6 c s ep n (o+1) l (if !x.2.2.1&&Gj s (D3 ep o)&&(D7 c n x).2.2.1 then LD (D3 ep o) se else se)
def rr(c0:AAG)(c1 tr:Int)(tn:Bool)(ss:List AG)(lo:AAG)(er:List Bc)(ws:List AL)(ms:List Ab)(rs:List AN)(se:List AM):EJ:=
 (((()),()),(((),c1,(),(),(),tr,(),(),(),(),tn,()),c0,ss,lo,er,ws,ms,rs,se,()))
section
variable{c:BN} {st:AG} {SS:List AG} {n:Int} (hc:c.1.length≤8) (hs:Uv st) (hn:0≤n∧n<c.1.length) (vl:n<(SS.length:Int)) (cG:SS.getD n.toNat AO=st)
include hc hs hn vl cG
theorem j0{tr:Int}{tn:Bool}{lo:AAG}{er:List Bc}{ms:List Ab}{rs:List AN}{a:Nat}{ep:Int}:∀(rest dn:List AY) (ws:List AL) (se:List AM) (f:Nat),a<ws.length→a≤4→ws.getD a Af=(ep,dn++rest,())→TU c (ep,dn++rest,())→
  Yy se→(∀s∈se,0≤s.1∧s.1<2^40)→se.length≤120→rest.length<f→
  B9 f (a:Int) n ((dn.length:Int)+1) c.2.1 tr tn c.1 SS lo er ws ms rs se=some (rr c.1 c.2.1 tr tn SS lo er (ws.set a (ep,dn++BD c st ep n ((dn.length:Int)+1) rest,())) ms rs (U6 c st ep n ((dn.length:Int)+1) rest se)):=by
 have cN:=hs.w;intro rest
 induction rest with
 |nil=>
  intro dn ws se f ha ha4 hw Dg kO tz yi hf;obtain⟨f,rfl⟩:∃f',f=f'+1:=⟨f-1,by omega⟩;have dt:ws.getD a (0,[],())=(ep,dn++[],()):=hw;simp only[B9,Fv,AB,AFL,dt,AF5];rw[AEv (by omega),AE4 (by omega)];unfold BD U6 rr;rw[show((ep,dn++[],()):AL)=ws.getD a Af from hw.symm,W8]
 |cons x rest ih=>
  intro dn ws se f ha ha4 hw Dg kO tz yi hf;obtain⟨f,rfl⟩:∃f',f=f'+1:=⟨f-1,by omega⟩;simp only[AFq]at hf;have dt:ws.getD a (0,[],())=(ep,dn++x::rest,()):=hw;have hwe:1≤ep∧ep≤30:=Dg.ep;have hwn:(dn++x::rest).length≤60:=Dg.n;have hww:AX BV (dn++x::rest)≤3000:=Dg.w;have vU:=hwn;simp only[AGP,AFq]at vU;have ca:(0:Int)≤(a:Int)∧(a:Int)<(ws.length:Int):=by omega
  have cn:(0:Int)≤n∧n<(SS.length:Int):=⟨hn.1,vl⟩;have jW:=KI (e:=ep) (o:=(dn.length:Int)+1) hwe (by omega);have wY:E4 ep ((dn.length:Int)+1)=D3 ep ((dn.length:Int)+1):=by
   grind[E4,Ak]
  have cd:(0:Int)≤(dn.length:Int)+1-1∧(dn.length:Int)+1-1<((dn++x::rest).length:Int):=by
   grind
  have e1:((dn.length:Int)+1-1).toNat=dn.length:=by omega
  have e2:(dn++x::rest).getD dn.length ([],[],false,())=x:=by simp[List.getD]
  have yt:SS.getD n.toNat ([],[],0,())=st:=cG;simp only[B9,Fv,AB,Bp,FF,AFL,dt,AEv ca,AEv cn];rw[AEv (by omega),EX,wY];simp only[AF,yt];rw[show(st.1,st.2.1,st.2.2.1,())=st from rfl,Mz (by omega) hs.sin];simp only[AF];rw[AR (x:=(dn.length:Int)+1+1) (by omega) (by omega),AR (x:=(dn.length:Int)+1-1) (by omega) (by omega)];simp only[AEv cd,e1,e2];have go:∀(y:AY) (tg:List AL) (jN:List AM),tg.length=ws.length→tg.getD a Af=(ep,dn++y::rest,())→(∀z,tg.set a z=ws.set a z)→TU c (ep,dn++y::rest,())→Yy jN→(∀s∈jN,0≤s.1∧s.1<2^40)→jN.length≤120→
    (if !x.2.2.1&&Gj st (D3 ep ((dn.length:Int)+1))then D7 c n x else x)=y→(if !x.2.2.1&&Gj st (D3 ep ((dn.length:Int)+1))&&(D7 c n x).2.2.1 then LD (D3 ep ((dn.length:Int)+1)) se else se)=jN→
    B9 f (a:Int) n ((dn.length:Int)+1+1) c.2.1 tr tn c.1 SS lo er tg ms rs jN=some (rr c.1 c.2.1 tr tn SS lo er (ws.set a (ep,dn++BD c st ep n ((dn.length:Int)+1) (x::rest),())) ms rs (U6 c st ep n ((dn.length:Int)+1) (x::rest) se)):=fun y tg jN g1 g2 g3 g4 g5 g6 g7 g8 g9=>by
   have:=ih (dn++[y]) tg jN f (by omega) ha4 (by simp_all) (by simp_all) g5 g6 g7 (by omega);simp only[AGP,AFq,AG6,AGl,AH8]at this;grind[BD,U6]
  have stay:(if !x.2.2.1&&Gj st (D3 ep ((dn.length:Int)+1))then D7 c n x else x)=x→(if !x.2.2.1&&Gj st (D3 ep ((dn.length:Int)+1))&&(D7 c n x).2.2.1 then LD (D3 ep ((dn.length:Int)+1)) se else se)=se→
    B9 f (a:Int) n ((dn.length:Int)+1+1) c.2.1 tr tn c.1 SS lo er ws ms rs se=some (rr c.1 c.2.1 tr tn SS lo er (ws.set a (ep,dn++BD c st ep n ((dn.length:Int)+1) (x::rest),())) ms rs (U6 c st ep n ((dn.length:Int)+1) (x::rest) se)):=fun g8 g9=>go x ws se rfl hw (fun _=>rfl) Dg kO tz yi g8 g9
  have hsg:PX st (D3 ep ((dn.length:Int)+1))=HK (D3 ep ((dn.length:Int)+1)) st.1:=by unfold PX;rw[B5.2 hs,AEv rfl]
  rw[hsg];cases hxd:x.2.2.1 with
  |true=>
   grind
  |false=>
   rw[AFM];cases hg:HK (D3 ep ((dn.length:Int)+1)) st.1 with
   |none=>
    grind[Gj,D3]
   |some e=>
    simp only[AGV];by_cases he0:e.2.1=0
    rotate_left
    ·have hh:Gj st (D3 ep ((dn.length:Int)+1))=false:=by grind[Gj]
     simp_all
    have hh:Gj st (D3 ep ((dn.length:Int)+1))=true:=by grind[Gj]
    rw[AEv he0];have hx:=Dg.words x (by simp);have hb:TU c (ep,dn++D7 c n x::rest,()):=⟨Dg.cfg,Dg.ep,by grind,fun b hb=>by
     simp only[AGf,AGD]at hb;rcases hb with hb|rfl|hb
     ·exact Dg.words b (by simp[hb])
     ·exact⟨hx.1,MZ hx.2.1 hn,rfl⟩
     ·exact Dg.words b (by simp[hb]),AHK (eS hxd) Dg.opn⟩
    rw[show(c.1,c.2.1,())=c from rfl,WJ (c:=c) (w:=(ep,dn++x::rest,())) (by omega) (by grind)];have ADB:UX c (ep,dn++x::rest,()) ((dn.length:Int)+1) n=((ep,dn++D7 c n x::rest,()),true):=by
     unfold UX;rw[Fj.2 Dg];simp only[AE7,AE6,AGn];rw[e1,show(dn++x::rest).getD dn.length Mt=x from e2,hxd];rw[AEv (by
      rw[AE1,AE1,Ak,Ak];grind)]
     grind
    rw[ADB];simp only[AF,pkW];have hx7:(ws.set a (ep,dn++D7 c n x::rest,())).getD a (0,[],())=(ep,dn++D7 c n x::rest,()):=NN ha;have ca7:(0:Int)≤(a:Int)∧(a:Int)<((ws.set a (ep,dn++D7 c n x::rest,())).length:Int):=by grind
    have cd7:(0:Int)≤(dn.length:Int)+1-1∧(dn.length:Int)+1-1<((dn++D7 c n x::rest).length:Int):=by
     grind
    have e27:(dn++D7 c n x::rest).getD dn.length ([],[],false,())=D7 c n x:=by simp[List.getD]
    have hpr:0≤D3 ep ((dn.length:Int)+1)∧D3 ep ((dn.length:Int)+1)<2^40:=by unfold D3;omega
    obtain⟨q,hq,es⟩:=Tn kO (by omega) tz hpr;unfold DH;rw[es];simp only[AF,hx7,AEv ca7,AEv cd7,e27];have SI:∀z,(ws.set a (ep,dn++D7 c n x::rest,())).set a z=ws.set a z:=fun z=>List.set_set ..
    have vN:(if !x.2.2.1&&Gj st (D3 ep ((dn.length:Int)+1))then D7 c n x else x)=D7 c n x:=by grind
    rcases AEw (Nf (D3 ep ((dn.length:Int)+1)) se q)with hf|hf
    rotate_left
    ·rw[hf,AFM]
     refine go _ _ se (AH1 ..) hx7 SI hb kO tz yi vN ?_
     rw[lV (eE hq kO hf)];grind
    obtain⟨hql,hqe⟩:=cC hf;rw[hf,AGV];cases hd:(D7 c n x).2.2.1 with
    |false=>
     grind
    |true=>
     rw[AGV,AEv (by omega),AFL,show se.getD q (0,[],false,())=se[q]from Hy hql,pN hql kO hqe];refine go _ _ _ (AH1 ..) hx7 SI hb (yD kO) (fun s qh=> ?_) (by rw[yU];omega) vN (by grind);grind[sm_at]
theorem kV{tr:Int}{tn:Bool}{lo:AAG}{er:List Bc}{ws:List AL}{rs:List AN}{se:List AM}{a:Nat}{m:Ab}(hm:gM c m):∀(rest dn:List AAG) (ms:List Ab) (f:Nat),a<ms.length→a≤4→ms.getD a Gh=(m.1,m.2.1,m.2.2.1,m.2.2.2.1,m.2.2.2.2.1,dn++rest,())→(dn++rest).length=m.2.2.2.2.2.1.length→(∀l∈dn++rest,BA c l=true)→
  rest.length<f→
  A5 f (a:Int) n ((dn.length:Int)+1) c.2.1 tr tn c.1 SS lo er ws ms rs se=some (rr c.1 c.2.1 tr tn SS lo er ws (ms.set a (m.1,m.2.1,m.2.2.1,m.2.2.2.1,m.2.2.2.2.1,dn++FI m st n ((dn.length:Int)+1) rest,())) rs se):=by
 have cN:=hs.w;have hmn:m.2.2.2.2.2.1.length≤60:=by
  have:=hm.n;have hb:=J7 (l:=m.2.2.2.1);omega
 intro rest
 induction rest with
 |nil=>
  intro dn ms f ha ha4 hw hl ho hf;obtain⟨f,rfl⟩:∃f',f=f'+1:=⟨f-1,by omega⟩;have dt:ms.getD a (0,0,[],[],false,[],())=(m.1,m.2.1,m.2.2.1,m.2.2.2.1,m.2.2.2.2.1,dn++[],()):=hw;simp only[A5,Ej,AB,AFL,dt,AF5];rw[AEv (by omega),AE4 (by omega)];unfold FI rr;rw[show((m.1,m.2.1,m.2.2.1,m.2.2.2.1,m.2.2.2.2.1,dn++[],()):Ab)=ms.getD a Gh from hw.symm,W8]
 |cons x rest ih=>
  intro dn ms f ha ha4 hw hl ho hf;obtain⟨f,rfl⟩:∃f',f=f'+1:=⟨f-1,by omega⟩;simp only[AFq]at hf;have dt:ms.getD a (0,0,[],[],false,[],())=(m.1,m.2.1,m.2.2.1,m.2.2.2.1,m.2.2.2.2.1,dn++x::rest,()):=hw;have ct:=hl;simp only[AGP,AFq]at ct;have ca:(0:Int)≤(a:Int)∧(a:Int)<(ms.length:Int):=by omega
  have cn:(0:Int)≤n∧n<(SS.length:Int):=⟨hn.1,vl⟩;have yt:SS.getD n.toNat ([],[],0,())=st:=cG;have cM:gM c (m.1,m.2.1,m.2.2.1,m.2.2.2.1,m.2.2.2.2.1,dn++x::rest,()):=⟨hm.cfg,hm.ep,hm.b,hm.nu,hm.cJ,hm.seen,ho,by show((dn++x::rest).length:Int)=_;rw[hl];exact hm.n⟩;have y9:=cM.w;simp only[A5,Ej,AB,Bp,FF,AFL,dt,AEv ca,AEv cn];rw[AEv (by omega),QO (m:=(m.1,m.2.1,m.2.2.1,m.2.2.2.1,m.2.2.2.2.1,dn++x::rest,())) (by omega),ZX hl];simp only[AF,yt];rw[show(st.1,st.2.1,st.2.2.1,())=st from rfl,Mz (by omega) hs.sin];simp only[AF];rw[AR (x:=(dn.length:Int)+1+1) (by omega) (by omega)];have go:∀(y:AAG) (tp:List Ab),tp.length=ms.length→tp.getD a Gh=(m.1,m.2.1,m.2.2.1,m.2.2.2.1,m.2.2.2.2.1,dn++y::rest,())→(∀z,tp.set a z=ms.set a z)→BA c y=true→
    (if QS m st ((dn.length:Int)+1)then Fc n x else x)=y→
    A5 f (a:Int) n ((dn.length:Int)+1+1) c.2.1 tr tn c.1 SS lo er ws tp rs se=some (rr c.1 c.2.1 tr tn SS lo er ws (ms.set a (m.1,m.2.1,m.2.2.1,m.2.2.2.1,m.2.2.2.2.1,dn++FI m st n ((dn.length:Int)+1) (x::rest),())) rs se):=fun y tp g1 g2 g3 g4 g5=>by
   have:=ih (dn++[y]) tp f (by omega) ha4 (by simp_all) (by simp_all) (fun l hl=>by
    grind) (by omega)
   simp only[AGP,AFq,AG6,AGl,AH8]at this;grind[FI]
  have hx:=ho x (by simp);have stay:QS m st ((dn.length:Int)+1)=false→A5 f (a:Int) n ((dn.length:Int)+1+1) c.2.1 tr tn c.1 SS lo er ws ms rs se=some (rr c.1 c.2.1 tr tn SS lo er ws (ms.set a (m.1,m.2.1,m.2.2.1,m.2.2.2.1,m.2.2.2.2.1,dn++FI m st n ((dn.length:Int)+1) (x::rest),())) rs se):=fun g=>go x ms rfl hw (fun _=>rfl) hx (by simp_all)
  have hsg:∀p,PX st p=HK p st.1:=fun p=>by unfold PX;rw[B5.2 hs,AEv rfl]
  rw[hsg];cases he:FV m ((dn.length:Int)+1)with
  |none=>
   simp only[AHm,AFM];grind[QS]
  |some e=>
   simp only[AIO,AGV,AIi];cases hg:HK e.1 st.1 with
   |none=>
    grind[QS]
   |some y=>
    simp only[AGV,eqE,AB];by_cases hye:y=e
    rotate_left
    ·rw[AE4 hye]
     grind[QS]
    have hh:QS m st ((dn.length:Int)+1)=true:=by grind[QS]
    rw[AEv hye,show(c.1,c.2.1,())=c from rfl,ZS (c:=c) (m:=(m.1,m.2.1,m.2.2.1,m.2.2.2.1,m.2.2.2.2.1,dn++x::rest,())) (by omega) (by omega) cM.zJ];have ADB:Zb c (m.1,m.2.1,m.2.2.1,m.2.2.2.1,m.2.2.2.2.1,dn++x::rest,()) ((dn.length:Int)+1) n=((m.1,m.2.1,m.2.2.1,m.2.2.2.1,m.2.2.2.2.1,dn++Fc n x::rest,()),true):=by
     unfold Zb;rw[Ea.2 cM];have hq:(BC ((dn.length:Int)+1) 1 ((dn++x::rest).length:Int)&&BC n 0 ((c.1.length:Int)-1))=true:=by
      rw[AE1,Ak,Ak];omega
     grind
    grind[AF,lp,Fc,List.length_set,NN,List.set_set,MZ]
end
def Vr(c:BN)(s:AG)(ep n:Int):Int→List AY→Int→Bool
 |_,[],_=>false
 |o,x::l,p=>(decide (p=D3 ep o)&&(!x.2.2.1&&Gj s (D3 ep o)&&(D7 c n x).2.2.1))||Vr c s ep n (o+1) l p
theorem de{c:BN}{st:AG}{ep n:Int}:∀{l:List AY} {o:Int} {se:List AM},U6 c st ep n o l se=se.map fun s=>(s.1,s.2.1,s.2.2.1||Vr c st ep n o l s.1,())
 |[],o,se=>by
  simp only[U6,Vr,AIy];simp_all
 |x::l,o,se=>by
  simp only[U6];rw[de];rcases AEw (!x.2.2.1&&Gj st (D3 ep o)&&(D7 c n x).2.2.1)with hb|hb
  ·rw[hb,AEv rfl]
   unfold LD;rw[AHq];refine AHH fun s _=> ?_
   simp only[Function.comp_apply,Vr,hb,AIE];grind
  ·rw[hb]
   simp only[AE6,AGn];refine AHH fun s _=> ?_
   simp only[Vr,hb,AIg,AHd]
theorem eV{c:BN}{st:AG}{ep n p:Int}(sD:1≤ep∧ep≤30)(hp:Bd p=true):∀{l:List AY} {o:Int},1≤o→o+l.length≤61→
  Vr c st ep n o l p=(Ah p==ep&&(decide (o≤CM p)&&(decide (CM p<o+l.length)&&(((BD c st ep n o l).getD (CM p-o).toNat Mt).2.2.1&& !(l.getD (CM p-o).toNat Mt).2.2.1))))
 |[],o,_,_=>by
  have:(decide (o≤CM p)&&decide (CM p<o+(([]:List AY).length:Int)))=false:=by
   simp_all
  rw[←Bool.and_assoc (decide (o≤CM p)),this,AHW,AIg];rfl
 |x::l,o,ho,hl=>by
  simp only[AFq]at hl;have hf:=D2 hp;simp only[Vr];rw[eV sD hp (l:=l) (o:=o+1) (by omega) (by omega)];by_cases he:Ah p=ep
  rotate_left
  ·grind[D3,KI,beq_eq_false_iff_ne,decide_eq_false]
  rw[AHo.2 he];simp only[AGJ,AFq];by_cases h1:CM p=o
  ·have tc:p=D3 ep o:=by simp_all
   have e0:(CM p-o).toNat=0:=by omega
   rw[AHJ tc,AHI (show¬o+1≤CM p by omega),AHJ (show o≤CM p by omega),AHJ (show CM p<o+((l.length+1:Nat):Int)by omega),e0];simp only[AGJ,AHW,AIy,BD,List.getD_cons_zero];grind
  ·have UZ:p≠D3 ep o:=fun e=>h1 (by grind[KI])
   rw[AHI UZ,AHW,AHd];by_cases h2:o≤CM p
   ·rw[AHJ h2,AHJ (show o+1≤CM p by omega)]
    have e1:(CM p-o).toNat=(CM p-(o+1)).toNat+1:=by omega
    rw[e1];simp only[BD,List.getD_cons_succ];grind
   grind
theorem U8{c:BN}{st:AG}{ep n:Int}:∀{l:List AY} {o:Int},(BD c st ep n o l).length=l.length
 |[],_=>rfl
 |x::l,o=>by simp only[BD,AFq,U8]
theorem kC{c:BN}{st:AG}{ep n:Int}(sD:1≤ep∧ep≤30){l:List AY}(hl:l.length≤60){se:List AM}(hs:∀s∈se,Bd s.1=true):U6 c st ep n 1 l se=se.map (TV false ep l (BD c st ep n 1 l)):=by
 rw[de];refine AHH fun s hm=> ?_
 have hf:=D2 (hs s hm);unfold TV IF;rw[eV sD (hs s hm) (by omega) (by omega),U8];by_cases h1:CM s.1≤l.length
 ·have:BC (CM s.1) 1 (l.length:Int)=true:=Ak.2 (by omega)
  grind
 ·have:BC (CM s.1) 1 (l.length:Int)=false:=by
   rw[←AGX,Ak];omega
  grind
end Go.M
end
section
set_option maxRecDepth 8000
namespace Go.M
open Go.M.H (AD AG Ab AM AA Bc AH AY AL AN Ar Aa An Am Bt AX AU AW Ap CP BV Ao AZ DJ Bu B_ Cb)
def pq(q:AA×Int):S5:=((q.2,()),(((),q.1.2.1,(),(),(),q.1.2.2.2.2.2.1,(),(),(),(),q.1.2.2.2.2.2.2.2.2.2.2.1,()),q.1.1,q.1.2.2.1,(),(),(),(),q.1.2.2.2.2.2.2.2.2.1,(),q.1.2.2.2.1,q.1.2.2.2.2.1,q.1.2.2.2.2.2.2.1,q.1.2.2.2.2.2.2.2.1,q.1.2.2.2.2.2.2.2.2.2.1,()))
def ww(w:AA)(SS:List AG)(ws:List AL)(ms:List Ab)(se:List AM):AA:=(((w.BU SS).BZ ws).Cl se).CH ms
section
variable{w:AA} (h:EF w) {st:AG} {SS:List AG} {n:Int} (hs:Uv st) (hn:0≤n∧n<(Ag w).1.length) (vl:n<(SS.length:Int)) (cG:SS.getD n.toNat AO=st)
include h hs hn vl cG
theorem rh{ws:List AL}{se:List AM}:∀(k i:Nat),w.2.2.2.2.2.2.2.1.length-i=k→i≤w.2.2.2.2.2.2.2.1.length→ ∀f,k<f→
  Dv f n w.2.2.2.2.2.2.2.1.length i w.2.1 w.2.2.2.2.2.1 w.2.2.2.2.2.2.2.2.2.2.1 w.1 SS w.2.2.2.1 w.2.2.2.2.1 ws ((w.2.2.2.2.2.2.2.1.map (Nk st w.Ay n)).take i++w.2.2.2.2.2.2.2.1.drop i) w.2.2.2.2.2.2.2.2.1 se=some (Xb (ww w SS ws (w.2.2.2.2.2.2.2.1.map (Nk st w.Ay n)) se,0)):=by
 have k:=h.nums;have k1:=k.c;have k5:=k.era;have k6:=k.md;intro k
 induction k with
 |zero=>
  intro i hk hi f hf;obtain⟨f,rfl⟩:∃f',f=f'+1:=⟨f-1,by omega⟩;have:i=w.2.2.2.2.2.2.2.1.length:=by omega
  simp only[Dv,Ih,AB];rw[AE4 (by omega),this,AIJ,AF5,AH3 (by simp)];rfl
 |succ k ih=>
  intro i hk hi f hf;obtain⟨f,rfl⟩:∃f',f=f'+1:=⟨f-1,by omega⟩;have JU:i<w.2.2.2.2.2.2.2.1.length:=by omega
  have hm:=(h.A8 _ (AFj JU)).1;have sk:=hm.ep;have RJ:(BB w.Ay w.2.2.2.2.2.2.2.1[i].2.1).length≤8:=Ik h;simp only[Dv,Ih,AB];rw[WM hi,AEv (by omega),AEv (by omega),AFL,UO JU,show(w.2.2.2.2.1,w.2.2.2.2.2.1,())=C2 w from rfl,Hi (r:=C2 w) (by show AX CP w.2.2.2.2.1≤_;omega) ⟨by omega,by omega⟩];rw[show(C2 w).1=w.Ay from rfl];simp only[AF];rw[Fz (by omega),AR (x:=(i:Int)+1) (by omega) (by omega),show((i:Int)+1)=((i+1:Nat):Int)by omega];simp only[AF];have nx:=ih (i+1) (by omega) (by omega) f (by omega);rcases AEw ((BB w.Ay w.2.2.2.2.2.2.2.1[i].2.1).contains n)with hc|hc
  ·have hT:Nk st w.Ay n w.2.2.2.2.2.2.2.1[i]=(w.2.2.2.2.2.2.2.1[i].1,w.2.2.2.2.2.2.2.1[i].2.1,w.2.2.2.2.2.2.2.1[i].2.2.1,w.2.2.2.2.2.2.2.1[i].2.2.2.1,w.2.2.2.2.2.2.2.1[i].2.2.2.2.1,FI w.2.2.2.2.2.2.2.1[i] st n 1 w.2.2.2.2.2.2.2.1[i].2.2.2.2.2.1,()):=by
    unfold Nk;simp_all
   have hmn:w.2.2.2.2.2.2.2.1[i].2.2.2.2.2.1.length≤60:=by
    have:=hm.n;have hb:=J7 (l:=w.2.2.2.2.2.2.2.1[i].2.2.2.1);omega
   have:=kV (c:=Ag w) (tr:=w.2.2.2.2.2.1) (tn:=w.2.2.2.2.2.2.2.2.2.2.1) (lo:=w.2.2.2.1) (er:=w.2.2.2.2.1) (ws:=ws) (rs:=w.2.2.2.2.2.2.2.2.1) (se:=se) (a:=i) k1 hs hn vl cG hm w.2.2.2.2.2.2.2.1[i].2.2.2.2.2.1 [] ((w.2.2.2.2.2.2.2.1.map (Nk st w.Ay n)).take i++w.2.2.2.2.2.2.2.1.drop i) Aq (by simp_all) (by omega) (UO JU) rfl (by simpa using hm.wrote) (Aw (by omega));rw[hc,AGV];unfold Ha Gm;simp only[AG6,AHS]at this;have e1:(((0:Nat):Int)+1)=1:=rfl;rw[e1]at this;rw[show(w.2.1:Int)=(Ag w).2.1 from rfl,show w.1=(Ag w).1 from rfl,this];simp only[AF,rr];rw[XJ JU hT.symm];exact nx
  ·have hT:Nk st w.Ay n w.2.2.2.2.2.2.2.1[i]=w.2.2.2.2.2.2.2.1[i]:=by
    unfold Nk;simp_all
   rw[hc,AFM,iH JU hT];omega
theorem th:∀(rest pre:List AL) (se:List AM) (f:Nat),pre.length+rest.length=w.2.2.2.2.2.2.1.length→(∀x∈rest,TU (Ag w) x)→Yy se→(∀s∈se,Bd s.1=true)→se.length≤120→rest.length+w.2.2.2.2.2.2.2.1.length+1<f→
  DY f n w.2.2.2.2.2.2.1.length pre.length w.2.1 w.2.2.2.2.2.1 w.2.2.2.2.2.2.2.2.2.2.1 w.1 SS w.2.2.2.1 w.2.2.2.2.1 (pre++rest) w.2.2.2.2.2.2.2.1 w.2.2.2.2.2.2.2.2.1 se st.2.2.1=
   some (Xb (ww w SS (pre++(E_ false (Ag w) st w.Ay n rest se).1) (w.2.2.2.2.2.2.2.1.map (Nk st w.Ay n)) (E_ false (Ag w) st w.Ay n rest se).2,0)):=by
 have k:=h.nums;have k1:=k.c;have k2:=k.wr;have k5:=k.era;have k6:=k.md;have hb:∀{p:Int},Bd p=true→0≤p∧p<2^40:=fun{p} hp=>by
  have h1:=D2 hp;grind[D3]
 intro rest
 induction rest with
 |nil=>
  intro pre se f hl hw ha hp y7 hf;obtain⟨f,rfl⟩:∃f',f=f'+1:=⟨f-1,by omega⟩;simp only[AG6]at hl hf;simp only[DY,JM,AB,AF5];rw[AE4 (by omega)];have:=rh h hs hn vl cG (ws:=pre) (se:=se) w.2.2.2.2.2.2.2.1.length 0 (by omega) (by omega) f (by omega);rw[show((0:Nat):Int)=0 from rfl,AHa,List.take_zero,AHS]at this;grind[E_]
 |cons x rest ih=>
  intro pre se f hl hw ha hp y7 hf;obtain⟨f,rfl⟩:∃f',f=f'+1:=⟨f-1,by omega⟩;simp only[AFq]at hl hf;have hx:=hw x (by simp);have hxe:=hx.ep;have hxn:=hx.n;have jW:(pre++x::rest).length=pre.length+(rest.length+1):=by simp
  have cp:(0:Int)≤(pre.length:Int)∧(pre.length:Int)<((pre++x::rest).length:Int):=by omega
  have e2:(pre++x::rest).getD pre.length (0,[],())=x:=by simp[List.getD]
  have RJ:(BB w.Ay x.1).length≤8:=Ik h;simp only[DY,JM,AB,AFL,AEv cp,e2];rw[AEv (by omega),show(w.2.2.2.2.1,w.2.2.2.2.2.1,())=C2 w from rfl,Hi (r:=C2 w) (by show AX CP w.2.2.2.2.1≤_;omega) ⟨by omega,by omega⟩];rw[show(C2 w).1=w.Ay from rfl];simp only[AF];rw[Fz (by omega),AR (x:=(pre.length:Int)+1) (by omega) (by omega),show((pre.length:Int)+1)=((pre.length+1:Nat):Int)by omega];simp only[AF];have next:∀(b:AL) (jN:List AM),Yy jN→(∀s∈jN,Bd s.1=true)→jN.length≤120→
    DY f n w.2.2.2.2.2.2.1.length ((pre.length+1:Nat):Int) w.2.1 w.2.2.2.2.2.1 w.2.2.2.2.2.2.2.2.2.2.1 w.1 SS w.2.2.2.1 w.2.2.2.2.1 (pre++b::rest) w.2.2.2.2.2.2.2.1 w.2.2.2.2.2.2.2.2.1 jN st.2.2.1=
     some (Xb (ww w SS (pre++b::(E_ false (Ag w) st w.Ay n rest jN).1) (w.2.2.2.2.2.2.2.1.map (Nk st w.Ay n)) (E_ false (Ag w) st w.Ay n rest jN).2,0)):=fun b jN h1 h2 h3=>by
   have:=ih (pre++[b]) jN f (by grind) (fun x hx=>hw x (by simp[hx])) h1 h2 h3 (by omega);simp_all
  simp only[E_];rcases AEw (Fi st w.Ay n x)with ht|ht
  rotate_left
  ·rw[ht]
   simp only[AE6,AGn];unfold Fi at ht;by_cases IV:x.1>st.2.2.1
   ·grind
   grind
  ·rw[ht]
   simp only[AHL];unfold Fi at ht;rw[AE1,AFS]at ht;rw[AEv (show x.1>st.2.2.1 from ht.2),ht.1,AGV];have:=j0 (c:=Ag w) (tr:=w.2.2.2.2.2.1) (tn:=w.2.2.2.2.2.2.2.2.2.2.1) (lo:=w.2.2.2.1) (er:=w.2.2.2.2.1) (ms:=w.2.2.2.2.2.2.2.1) (rs:=w.2.2.2.2.2.2.2.2.1) (a:=pre.length) (ep:=x.1) k1 hs hn vl cG x.2.1 [] (pre++x::rest) se Aq (by omega) (by omega) (show(pre++x::rest).getD pre.length (0,[],())=x from e2) hx ha (fun s qh=>hb (hp s qh)) y7 (Aw (by omega));unfold JJ JW;simp only[AG6,AHS]at this;have e1:(((0:Nat):Int)+1)=1:=rfl;rw[e1,kC hxe hxn hp,List.set_append_right _ _ (by omega),AIQ,List.set_cons_zero]at this;rw[show(w.2.1:Int)=(Ag w).2.1 from rfl,show w.1=(Ag w).1 from rfl,this];simp only[AF,rr];refine next _ _ ?_ (fun s qh=> ?_) (by simp_all)
   ·unfold Yy Kg
    rw[AIb];exact List.Pairwise.imp (fun{a b} fL=>fL) ha
   ·obtain⟨s',h1,rfl⟩:=AHv.1 qh
    exact hp s' h1
end
section
variable{w:AA} (h:EF w)
include h
theorem Vm{n:Int}:Ks n w.2.1 w.2.2.2.2.2.1 w.2.2.2.2.2.2.2.2.2.2.1 w.1 w.2.2.1 w.2.2.2.1 w.2.2.2.2.1 w.2.2.2.2.2.2.1 w.2.2.2.2.2.2.2.1 w.2.2.2.2.2.2.2.2.1 w.2.2.2.2.2.2.2.2.2.1=some (Xb (KW false w n)):=by
 have k:=h.nums;have k1:=k.c;have k2:=k.wr;have k3:=k.lost;have k4:=k.st;have Yv:=k.gV;have jD:=k.N5;have jT:=k.gv;have k5:=k.era;have k7:=k.Uw;unfold Ks Ms KW;rw[show(w.1,w.2.1,w.2.2.1,w.2.2.2.1,w.2.2.2.2.1,w.2.2.2.2.2.1,w.2.2.2.2.2.2.1,w.2.2.2.2.2.2.2.1,w.2.2.2.2.2.2.2.2.1,w.2.2.2.2.2.2.2.2.2.1,w.2.2.2.2.2.2.2.2.2.2.1,())=w from rfl,Hs (by omega) (by omega)];simp only[AF,FF,Bp];by_cases h3:As w n=0
 rotate_left
 ·rw[AE4 h3,AEv h3];rfl
 obtain⟨hr,s1,s2,s3⟩:=h.LJ h3;have cG:w.2.2.1.getD n.toNat ([],[],0,())=storeAt w n:=rfl;rw[AEv h3,AE4 (show¬(As w n≠0)from fun hh=>hh h3)];simp only[AEv hr,cG];rw[show((storeAt w n).1,(storeAt w n).2.1,(storeAt w n).2.2.1,())=storeAt w n from rfl,Qm s1 s2];simp only[AF,n_];rcases AEw (CS (storeAt w n)).2 with hq|hq
 rotate_left
 ·rw[hq,LK];rfl
 rw[hq,Jd,AGV];have Dg:Uv (CS (storeAt w n)).1:=(Kb hq).2.1;have AFO:n.toNat<w.2.2.1.length:=by omega
 have:=th h (st:=(CS (storeAt w n)).1) (SS:=w.2.2.1.set n.toNat (CS (storeAt w n)).1) (n:=n) Dg (h.node h3).1 (by simp_all) (NN AFO) w.2.2.2.2.2.2.1 [] w.2.2.2.2.2.2.2.2.2.1 Aq (by simp) (fun x hx=>(h.AE x hx).1) h.Ou (fun s hs=>(h.A3 s hs).1) k.se (Aw (by have:=k.md;omega));simp only[AG6,AHS]at this;rw[show((0:Nat):Int)=0 from rfl]at this;exact this
theorem om{n:Int}{ss:List AG}{ls:AAG}{ws:List AL}(hls:ls.length≤2^20):∀(f i:Nat),i≤w.2.2.2.2.2.2.2.1.length→w.2.2.2.2.2.2.2.1.length-i<f→
  Ec f n w.2.2.2.2.2.2.2.1.length i w.2.1 w.2.2.2.2.2.1 w.2.2.2.2.2.2.2.2.2.2.1 w.1 ss w.2.2.2.1 w.2.2.2.2.1 ws ((w.2.2.2.2.2.2.2.1.map fun m=>(DE (Ag w) m n).1).take i++w.2.2.2.2.2.2.2.1.drop i) w.2.2.2.2.2.2.2.2.1 w.2.2.2.2.2.2.2.2.2.1 ls=
   some (uw (((((w.BU ss).EP ls).BZ ws).CH (w.2.2.2.2.2.2.2.1.map fun m=>(DE (Ag w) m n).1)).Eb (w.Ei||holds (Ag w) ls),0)):=by
 have k:=h.nums;have k1:=k.c;have k6:=k.md;intro f
 induction f with
 |zero=>omega
 |succ f ih=>
  intro i hi hn;have hlen:=WM (f:=fun m:Ab=>(DE (Ag w) m n).1) hi;simp only[Ec,MT,AB,Bp,hlen];by_cases JU:i<w.2.2.2.2.2.2.2.1.length
  ·have c1:(0:Int)≤(i:Int)∧(i:Int)<(w.2.2.2.2.2.2.2.1.length:Int):=by omega
   have hm:=(h.A8 _ (AFj JU)).1;have y9:=hm.w;have hg:((w.2.2.2.2.2.2.2.1.map fun m=>(DE (Ag w) m n).1).take i++w.2.2.2.2.2.2.2.1.drop i).getD i (0,0,[],[],false,[],())=w.2.2.2.2.2.2.2.1[i]:=UO JU;simp only[AEv c1,AEv c1.2,AFL,hg];rw[AR (by omega) (by omega),show((i:Int)+1)=((i+1:Nat):Int)by omega,show(w.2.2.2.2.2.2.2.1[i].1,w.2.2.2.2.2.2.2.1[i].2.1,w.2.2.2.2.2.2.2.1[i].2.2.1,w.2.2.2.2.2.2.2.1[i].2.2.2.1,w.2.2.2.2.2.2.2.1[i].2.2.2.2.1,w.2.2.2.2.2.2.2.1[i].2.2.2.2.2.1,())=w.2.2.2.2.2.2.2.1[i]from rfl,show(w.1,w.2.1,())=Ag w from rfl,Vl (c:=Ag w) (by show w.1.length≤_;omega) (by omega) hm.zJ];simp only[AF,lp];rw[show((DE (Ag w) w.2.2.2.2.2.2.2.1[i] n).1.1,(DE (Ag w) w.2.2.2.2.2.2.2.1[i] n).1.2.1,(DE (Ag w) w.2.2.2.2.2.2.2.1[i] n).1.2.2.1,(DE (Ag w) w.2.2.2.2.2.2.2.1[i] n).1.2.2.2.1,(DE (Ag w) w.2.2.2.2.2.2.2.1[i] n).1.2.2.2.2.1,(DE (Ag w) w.2.2.2.2.2.2.2.1[i] n).1.2.2.2.2.2.1,())=(DE (Ag w) w.2.2.2.2.2.2.2.1[i] n).1 from rfl,XJ JU rfl];grind
  ·have:i=w.2.2.2.2.2.2.2.1.length:=by omega
   rw[AE4 (by omega),this,AIJ,AF5,AH3 (by simp),show(w.1,w.2.1,())=Ag w from rfl,Df (by show w.1.length≤_;omega) (by omega)];simp only[AF];cases ht:w.2.2.2.2.2.2.2.2.2.2.1 with
   |true=>
    have ht':w.Ei=true:=ht;rw[ht'];rfl
   |false=>
    have ht':w.Ei=false:=ht;rw[ht'];rfl
theorem uL{n:Int}{ss:List AG}{ls:AAG}(hls:ls.length≤2^20):∀(f i:Nat),i≤w.2.2.2.2.2.2.1.length→(w.2.2.2.2.2.2.1.length-i)+w.2.2.2.2.2.2.2.1.length+2≤f→
  Ep f n w.2.2.2.2.2.2.1.length i w.2.1 w.2.2.2.2.2.1 w.2.2.2.2.2.2.2.2.2.2.1 w.1 ss w.2.2.2.1 w.2.2.2.2.1 ((w.2.2.2.2.2.2.1.map fun x=>(Cw (Ag w) x n).1).take i++w.2.2.2.2.2.2.1.drop i) w.2.2.2.2.2.2.2.1 w.2.2.2.2.2.2.2.2.1 w.2.2.2.2.2.2.2.2.2.1 ls=
   some (uw (((((w.BU ss).EP ls).BZ (w.2.2.2.2.2.2.1.map fun x=>(Cw (Ag w) x n).1)).CH (w.2.2.2.2.2.2.2.1.map fun m=>(DE (Ag w) m n).1)).Eb (w.Ei||holds (Ag w) ls),0)):=by
 have k:=h.nums;have k1:=k.c;have k6:=k.wr;intro f
 induction f with
 |zero=>omega
 |succ f ih=>
  intro i hi hn;have hlen:=WM (f:=fun x:AL=>(Cw (Ag w) x n).1) hi;simp only[Ep,Mm,AB,Bp,hlen];by_cases JU:i<w.2.2.2.2.2.2.1.length
  ·have c1:(0:Int)≤(i:Int)∧(i:Int)<(w.2.2.2.2.2.2.1.length:Int):=by omega
   have hm:=(h.AE _ (AFj JU)).1;have y9:=hm.w;have hg:((w.2.2.2.2.2.2.1.map fun x=>(Cw (Ag w) x n).1).take i++w.2.2.2.2.2.2.1.drop i).getD i (0,[],())=w.2.2.2.2.2.2.1[i]:=UO JU;simp only[AEv c1,AEv c1.2,AFL,hg];rw[AR (by omega) (by omega),show((i:Int)+1)=((i+1:Nat):Int)by omega,show(w.2.2.2.2.2.2.1[i].1,w.2.2.2.2.2.2.1[i].2.1,())=w.2.2.2.2.2.2.1[i]from rfl,show(w.1,w.2.1,())=Ag w from rfl,Tb (c:=Ag w) (by show w.1.length≤_;omega) (by have:Ao w.2.2.2.2.2.2.1[i]=AX BV w.2.2.2.2.2.2.1[i].2.1:=rfl;omega)];simp only[AF,pkW];rw[show((Cw (Ag w) w.2.2.2.2.2.2.1[i] n).1.1,(Cw (Ag w) w.2.2.2.2.2.2.1[i] n).1.2.1,())=(Cw (Ag w) w.2.2.2.2.2.2.1[i] n).1 from rfl,XJ JU rfl];grind
  ·have:i=w.2.2.2.2.2.2.1.length:=by omega
   have k12:=om h (n:=n) (ss:=ss) (ws:=w.2.2.2.2.2.2.1.map fun x=>(Cw (Ag w) x n).1) hls f 0 (by omega) (by omega);grind
theorem Vf{n:Int}:Kz n w.2.1 w.2.2.2.2.2.1 w.2.2.2.2.2.2.2.2.2.2.1 w.1 w.2.2.1 w.2.2.2.1 w.2.2.2.2.1 w.2.2.2.2.2.2.1 w.2.2.2.2.2.2.2.1 w.2.2.2.2.2.2.2.2.1 w.2.2.2.2.2.2.2.2.2.1=some (uw (SD w n)):=by
 have k:=h.nums;have k1:=k.c;have k2:=k.wr;have k3:=k.lost;have k4:=k.st;have Yv:=k.gV;have jD:=k.N5;have jT:=k.gv;have k5:=k.era;have k7:=k.Uw;have k6:=k.md;unfold Kz Mr SD;rw[show(w.1,w.2.1,w.2.2.1,w.2.2.2.1,w.2.2.2.2.1,w.2.2.2.2.2.1,w.2.2.2.2.2.2.1,w.2.2.2.2.2.2.2.1,w.2.2.2.2.2.2.2.2.1,w.2.2.2.2.2.2.2.2.2.1,w.2.2.2.2.2.2.2.2.2.2.1,())=w from rfl,Hs (by omega) (by omega)];simp only[AF,FF];by_cases h3:As w n=0
 rotate_left
 ·rw[AE4 h3,AEv h3];rfl
 obtain⟨hr,s1,s2,s3⟩:=h.LJ h3;rw[AEv h3,AE4 (show¬(As w n≠0)from fun hh=>hh h3),AEv hr,KC (Ct.1 h.lost).2.2 (by omega)];simp only[AF];have hp:=bB (n:=n) (l:=w.2.2.2.1);have:=uL h (n:=n) (ss:=w.2.2.1.set n.toNat ([],[],0,())) (ls:=Fc n w.2.2.2.1) (by omega) Aq 0 (by omega) (Nat.le_of_lt (Aw (by omega)));simp_all
theorem Xc{d:An}(Ht:UK w)(h64:Cp d.2.1)(hd:d.2.2.2.2.1.length≤40)(hk:1≤d.1∧d.1≤16):NT d w.2.1 w.2.2.2.2.2.1 w.2.2.2.2.2.2.2.2.2.2.1 w.1 w.2.2.1 w.2.2.2.1 w.2.2.2.2.1 w.2.2.2.2.2.2.1 w.2.2.2.2.2.2.2.1 w.2.2.2.2.2.2.2.2.1 w.2.2.2.2.2.2.2.2.2.1=some (pq (IU false w d)):=by
 have k:=h.nums;have k1:=k.c;have k2:=k.wr;have k3:=k.lost;have k4:=k.st;have Yv:=k.gV;have jD:=k.N5;have jT:=k.gv;have k5:=k.era;have k7:=k.Uw;unfold NT IU;rw[show(d.1,d.2.1,d.2.2.1,d.2.2.2.1,d.2.2.2.2.1,())=d from rfl];simp only[G2];by_cases c1:d.1=1
 ·rw[AEv c1,AEv c1,Vy h];rfl
 rw[AE4 c1,AE4 c1];by_cases c2:d.1=2
 ·rw[AEv c2,AEv c2,WL h hd];rfl
 rw[AE4 c2,AE4 c2];by_cases c3:d.1=3
 ·rw[AEv c3,AEv c3,Ux h];rfl
 rw[AE4 c3,AE4 c3];by_cases c4:d.1=4
 ·rw[AEv c4,AEv c4,Vm h];rfl
 rw[AE4 c4,AE4 c4];by_cases c5:d.1=5
 ·rw[AEv c5,AEv c5,Uo h];rfl
 rw[AE4 c5,AE4 c5];by_cases c6:d.1=6
 ·rw[AEv c6,AEv c6,Vf h];rfl
 rw[AE4 c6,AE4 c6];by_cases c7:d.1=7
 ·rw[AEv c7,AEv c7,VO h];rfl
 rw[AE4 c7,AE4 c7];by_cases c8:d.1=8
 ·rw[AEv c8,AEv c8,V2 h];rfl
 rw[AE4 c8,AE4 c8];by_cases c9:d.1=9
 ·rw[AEv c9,AEv c9,V6 h];rfl
 rw[AE4 c9,AE4 c9];by_cases c10:d.1=10
 ·rw[AEv c10,AEv c10,VX h];rfl
 rw[AE4 c10,AE4 c10];by_cases c11:d.1=11
 ·rw[AEv c11,AEv c11,XE h];rfl
 rw[AE4 c11,AE4 c11];by_cases c12:d.1=12
 ·rw[AEv c12,AEv c12,Us h];rfl
 rw[AE4 c12,AE4 c12];by_cases c13:d.1=13
 ·rw[AEv c13,AEv c13,show(w.1,w.2.1,())=Ag w from rfl,show(w.2.2.2.2.1,w.2.2.2.2.2.1,())=C2 w from rfl,ZP (c:=Ag w) (r:=C2 w) (by show w.1.length≤_;omega) (by show AX CP w.2.2.2.2.1≤_;omega) k.trim h64]
  simp only[AF,pkR,KF];unfold UF;dsimp only;rcases AEw (NU (Ag w) (C2 w) d.2.1).2 with hq|hq
  ·rw[hq,Jd];rfl
  ·have e:(NU (Ag w) (C2 w) d.2.1).1=C2 w:=by
    unfold NU at hq⊢;rw[FX.2 h.WW]at hq⊢;grind
   rw[hq,e,LK];rfl
 rw[AE4 c13,AE4 c13];by_cases c14:d.1=14
 ·rw[AEv c14,AEv c14,Vc h Ht];rfl
 rw[AE4 c14,AE4 c14];by_cases c16:d.1=16
 ·rw[AEv c16,AE4 (show¬d.1=15 by omega),U0 h];rfl
 rw[AE4 c16,AEv (show d.1=15 by omega),AR (x:=(w.2.2.2.2.2.2.1.length:Int)-1) (by omega) (by omega),Ac];simp only[AF,Bp];unfold Tr;rw[show BC d.2.1 0 ((w.2.2.2.2.2.2.1.length:Int)-1)=BC d.2.1 0 ((w.AE.length:Int)-1)from rfl];rcases AEw (BC d.2.1 0 ((w.AE.length:Int)-1))with h1|h1
 rotate_left
 ·rw[h1,LK];rfl
 obtain⟨x1,x2,x3⟩:=h.bI h1;rw[h1,AGV,Jd,AR (x:=d.2.1+1) (by omega) (by omega)];unfold Dq pv;rw[AEv (by omega)];simp only[AIz,AF];rw[show(d.2.1+1).toNat=d.2.1.toNat+1 by omega,←List.eraseIdx_eq_take_drop_succ];rfl
theorem XZ{d:An}(Ht:UK w)(h64:Cp d.2.1):EA w d=some (Uz (BS false w d)):=by
 unfold EA BS;rw[show(w.1,w.2.1,w.2.2.1,w.2.2.2.1,w.2.2.2.2.1,w.2.2.2.2.2.1,w.2.2.2.2.2.2.1,w.2.2.2.2.2.2.2.1,w.2.2.2.2.2.2.2.2.1,w.2.2.2.2.2.2.2.2.2.1,w.2.2.2.2.2.2.2.2.2.2.1,())=w from rfl,show(d.1,d.2.1,d.2.2.1,d.2.2.2.1,d.2.2.2.2.1,())=d from rfl,Db Ht,bK,FW Ht];simp only[AF,Bp,FF];rw[B8.2 h];rcases AEw (J2 d)with hd|hd
 rotate_left
 ·rw[hd];rfl
 have hk:1≤d.1∧d.1≤16:=by
  unfold J2 at hd;exact Ak.1 (AE1 _ _▸hd).1
 rw[hd,AGV,AGV,Xc h Ht h64 (cB hd) hk];simp only[AF,AE7,AIy,AE6,AGn];by_cases hc:(IU false w d).2=0
 ·rw[AEv (show(pq (IU false w d)).1.1=0 from hc)]
  generalize hg:IU false w d=q at hc⊢
  obtain⟨v,co⟩:=q;dsimp only at hc;subst hc;rfl
 ·rw[AE4 (show¬(pq (IU false w d)).1.1=0 from hc)]
  have:=iq hc;rw[show IU false w d=(w,(IU false w d).2)by grind];rfl
end
theorem Ee{w:AA}{d:An}(Ht:UK w)(h64:Cp d.2.1):EA w d=some (Uz (BS false w d)):=by
 rcases AEw (B4 w)with hw|hw
 ·grind[XZ,B8]
 ·unfold EA BS
  rw[show(w.1,w.2.1,w.2.2.1,w.2.2.2.1,w.2.2.2.2.1,w.2.2.2.2.2.1,w.2.2.2.2.2.2.1,w.2.2.2.2.2.2.2.1,w.2.2.2.2.2.2.2.2.1,w.2.2.2.2.2.2.2.2.2.1,w.2.2.2.2.2.2.2.2.2.2.1,())=w from rfl,Db Ht,hw];rfl
end Go.M
end
section
set_option maxRecDepth 8000
namespace Go.M
open Go.M.H (AD AG Ab AM AA Bc AH AY AL AN Ar Aa An Am Bt AX AU AW Ap CP BV Ao AZ DJ Bu B_ Cb)
def bare(se:List AM):List (Int×List UInt8):=se.map fun s=>(s.1,s.2.1)
section
variable{w:AA} {se:List AM}
end
theorem pW{l m:List AM}(h:bare l=bare m):l.length=m.length:=by
 have:=congrArg List.length h;grind[bare]
section
variable{w:AA}
end
theorem oq{l m:List AM}(h:bare l=bare m){s:AM}(hs:s∈l):∃t∈m,t.1=s.1∧t.2.1=s.2.1:=by
 have h1:(s.1,s.2.1)∈bare m:=by rw[←h];exact AHv.2 ⟨s,hs,rfl⟩
 obtain⟨t,ht,e⟩:=AHv.1 h1;grind
theorem qL{l m:List AM}(h:bare l=bare m)(ha:Kg (fun s:AM=>s.1) l):Kg (fun s:AM=>s.1) m:=by
 have e:∀l:List AM,Kg (fun s:AM=>s.1) l↔(bare l).Pairwise fun x y=>x.1<y.1:=fun l=>by
  unfold bare Kg;rw[AIb]
 simp_all
theorem EF.Cl{w:AA}{se:List AM}(hw:EF w)(h:bare se=bare w.A3):EF (w.Cl se) where
 cfg:=hw.cfg
 dG:=hw.dG
 lost:=hw.lost
 Ei:=hw.Ei
 Al:=hw.Al
 WW:=hw.WW
 dM:=hw.dM
 jY:=hw.jY
 AE:=hw.AE
 TL:=hw.TL
 A8:=hw.A8
 dD:=hw.dD
 AQ:=hw.AQ
 MN:=by
  have:=hw.MN;grind[pW]
 A3:=fun s hs=>by
  obtain⟨t,ht,e1,e2⟩:=oq h (show s∈se from hs);have:=hw.A3 t ht;simp_all
 Ou:=qL h.symm hw.Ou
end Go.M
end
section
set_option maxRecDepth 8000
namespace Go.M
open Go.M.H (AD AG Ab AM AA Bc AH AY AL AN Ar Aa An Am Bt AX AU AW Ap CP BV Ao AZ DJ Bu B_ Cb)
structure Up (w v:AA):Prop where
 rd:∀k,k<2→D3 (w.AQ.getD k CC).1 (w.AQ.getD k CC).2.1≤D3 (v.AQ.getD k CC).1 (v.AQ.getD k CC).2.1∧(w.AQ.getD k CC).2.2.1.length≤(v.AQ.getD k CC).2.2.1.length
 er:w.Ay.length≤v.Ay.length∧ ∀i,i<w.Ay.length→(w.Ay.getD i FZ).2.1=true→(v.Ay.getD i FZ).2.1=true∧(v.Ay.getD i FZ).2.2.1=(w.Ay.getD i FZ).2.2.1
 Ei:w.Ei=true→v.Ei=true
 se:w.A3.length≤v.A3.length
theorem Up.of{w v:AA}(h1:v.AQ=w.AQ)(h2:v.Ay=w.Ay)(h3:w.Ei=true→v.Ei=true)(h4:w.A3.length≤v.A3.length):Up w v:=
 ⟨fun k _=>by simp_all,by simp_all,h3,h4⟩
section
variable{w:AA} (hw:EF w)
end
end Go.M
end
section
namespace Go.M
open Go.M.H (AD AG Ab AM AA Bc AH AY AL AN Ar Aa An)
def runM(all:Bool):AA→List An→AA×List Int
 |w,[]=>(w,[])
 |w,d::l=>
  let q:=BS all w d
  let r:=runM all (if q.2=0 then q.1 else w) l
  (r.1,q.2::r.2)
end Go.M
end
section
namespace Go.M
open Go.M.H (AD AG Ab AM AA Bc AH AY AL AN Ar Aa An AX AZ)
structure O7 (w:AA) (q:Ra):Prop where
 code:q.2≠1
 keep:q.2≠0→q.1=w
 rd:q.1.AQ=w.AQ
theorem O7.no{w:AA}{k:Int}(h:k≠1):O7 w (w,k):=⟨h,fun _=>rfl,rfl⟩
theorem O7.yes{w v:AA}(h:v.AQ=w.AQ):O7 w (v,0):=⟨by simp,fun h=>absurd rfl h,h⟩
section
variable{w:AA}
theorem Jh{n:Int}:As w n≠1:=by
 unfold As;split
 ·decide
 ·split<;>decide
theorem UW{n:Int}{q:AG×Bool}:O7 w (putAt w n q):=by
 unfold putAt;split
 ·exact .yes rfl
 ·exact .no (by decide)
theorem ot{a:Int}:O7 w (PW w a):=by
 unfold PW;split
 ·exact .no (by decide)
 dsimp only;split
 ·exact .no (by decide)
 ·exact .yes rfl
theorem uS{a:Int}{d:List UInt8}:O7 w (doAdd w a d):=by
 unfold doAdd;split
 ·exact .no (by decide)
 dsimp only;split
 ·exact .no (by decide)
 ·exact .yes rfl
theorem mH{a b n:Int}:O7 w (HH w a b n):=by
 unfold HH;split
 ·exact .no (by decide)
 dsimp only;split
 ·exact .no (by decide)
 split
 ·exact .no Jh
 split
 ·exact .no (by decide)
 ·exact UW
theorem q9{all:Bool}{n:Int}:O7 w (KW all w n):=by
 unfold KW;split
 ·exact .no Jh
 dsimp only;split
 ·exact .no (by decide)
 ·exact .yes rfl
theorem mX{n k:Int}:O7 w (Oh w n k):=by
 unfold Oh;split
 ·exact .no Jh
 ·exact UW
theorem rB{n:Int}:O7 w (SD w n):=by
 unfold SD;split
 ·exact .no Jh
 ·exact .yes rfl
theorem qZ{n:Int}:O7 w (Sa w n):=by
 unfold Sa;split
 ·exact .no (by decide)
 dsimp only;split
 ·exact .no (by decide)
 ·exact .yes rfl
theorem pK:O7 w (Pc w):=by
 unfold Pc;split
 ·exact .no (by decide)
 split
 ·exact .no (by decide)
 ·exact .yes rfl
theorem qJ{n:Int}:O7 w (Pf w n):=by
 unfold Pf;split
 ·exact .no (by decide)
 split
 ·exact .no Jh
 split
 ·exact .no (by decide)
 dsimp only;split
 ·exact .no (by decide)
 ·exact .yes rfl
theorem oP:O7 w (NF w):=by
 unfold NF;split
 ·exact .no (by decide)
 dsimp only;split
 ·exact .no (by decide)
 ·exact .yes rfl
theorem tC{b n:Int}:O7 w (Ts w b n):=by
 unfold Ts;split
 ·exact .no (by decide)
 split
 ·exact .no (by decide)
 split
 ·exact .no Jh
 split
 ·exact .no (by decide)
 ·exact UW
theorem nc:O7 w (MC w):=by
 unfold MC;split
 ·exact .no (by decide)
 split
 ·exact .no (by decide)
 dsimp only;split
 ·exact .no (by decide)
 ·exact .yes rfl
theorem rV{a:Int}:O7 w (UF w a):=by
 unfold UF;dsimp only;split
 ·exact .no (by decide)
 ·exact .yes rfl
theorem oI{a:Int}:O7 w (Tr w a):=by
 unfold Tr;split
 ·exact .no (by decide)
 ·exact .yes rfl
theorem nR{n:Int}:O7 w (Ot w n):=by
 unfold Ot;split
 ·exact .no Jh
 ·exact UW
theorem qy{all:Bool}{d:An}(h:d.1≠14):O7 w (IU all w d):=by
 unfold IU;by_cases c1:d.1=1
 ·rw[AEv c1];exact ot
 rw[AE4 c1];by_cases c2:d.1=2
 ·rw[AEv c2];exact uS
 rw[AE4 c2];by_cases c3:d.1=3
 ·rw[AEv c3];exact mH
 rw[AE4 c3];by_cases c4:d.1=4
 ·rw[AEv c4];exact q9
 rw[AE4 c4];by_cases c5:d.1=5
 ·rw[AEv c5];exact mX
 rw[AE4 c5];by_cases c6:d.1=6
 ·rw[AEv c6];exact rB
 rw[AE4 c6];by_cases c7:d.1=7
 ·rw[AEv c7];exact qZ
 rw[AE4 c7];by_cases c8:d.1=8
 ·rw[AEv c8];exact pK
 rw[AE4 c8];by_cases c9:d.1=9
 ·rw[AEv c9];exact qJ
 rw[AE4 c9];by_cases c10:d.1=10
 ·rw[AEv c10];exact oP
 rw[AE4 c10];by_cases c11:d.1=11
 ·rw[AEv c11];exact tC
 rw[AE4 c11];by_cases c12:d.1=12
 ·rw[AEv c12];exact nc
 rw[AE4 c12];by_cases c13:d.1=13
 ·rw[AEv c13];exact rV
 rw[AE4 c13,AE4 h];by_cases zT:d.1=15
 ·rw[AEv zT];exact oI
 rw[AE4 zT];exact nR
theorem uO{all:Bool}{d:An}(h:d.1=14):IU all w d=Dm w d.2.1 d.2.2.1:=by
 unfold IU;rw[h];simp
theorem sd(hw:EF w){all:Bool}{d:An}(e:(IU all w d).2=0):AX AZ (IU all w d).1.AQ≤AX AZ w.AQ+41:=by
 by_cases h:d.1=14
 ·rw[uO h]at e⊢
  exact(Yk hw e).2.2.2.2.2
 ·rw[(qy h).rd];omega
end
end Go.M
end
section
set_option maxRecDepth 8000
namespace Go.M
open Go.M.H (AD AG Ab AM AA Bc AH AY AL AN Ar Aa An Am Bt AX AU AW Ap CP BV Ao AZ DJ Bu B_ Cb)
section
variable{code:AAG} (hc:code.length≤2^30)
include hc
end
theorem bm{w:AA}{d:An}{all:Bool}(hw:EF w)(h0:(BS all w d).2=0):AX AZ (BS all w d).1.AQ≤AX AZ w.AQ+41:=by
 have:BS all w d=IU all w d:=by
  revert h0
  unfold BS;cases B4 w<;>cases J2 d<;>simp
 rw[this]at h0⊢;exact sd hw h0
end Go.M
end
section
namespace Go.Sf
abbrev pM:=List UInt8
structure cR where
 at_:Int
 Ur:Int
 hole:Bool
 data:pM
structure Wd where
 data:pM
 ack:Int→Prop
 done:Prop
structure Md where
 ep:Int
 nu:Int→Prop
 seen:Int→Option cR
 pl:Prop
 n:Int
 wrote:Int→Int→Prop
structure St where
 len:Int
 nodes:Int→Int→Prop
 cl:Int→Prop
 last:Int→Int
 trim:Int
 lost:Int→Prop
 Ei:Prop
 kept:Int→Int→Option cR
 late:Int→cR→Prop
 sl:Int→Int
 vm:Int→Prop
 wd:Int→Option Wd
 md:Option Md
 TN:Int→Option (pM×Prop)
section
variable(H:(Int→Prop)→Prop) (ep off:Int→Int) (Pl:Int→Prop)
def ABR(len:Int)(m:Md)(p:Int):cR:=
 match m.seen p with
 |some x=>⟨p,len,x.hole,x.data⟩
 |none=>⟨p,len,true,[]⟩
def ku(s:St)(x:cR):Prop:=(∃n,s.kept n x.at_=some x)∨(∃n,s.late n x)∨(∃m,s.md=some m∧m.seen x.at_=some x)
def yF(s:St)(p n:Int):Prop:= ∃w,s.wd p=some w∧w.ack n
def qd(s:St)(p:Int):Prop:= ∃d q,s.TN p=some (d,q)∧q
def eX(s:St)(p:Int):Prop:= ¬qd s p∧ep p<s.len∧(s.vm (ep p)→ ¬H (fun n=>s.nodes (ep p) n∧(¬(s.lost n∨ep p≤s.sl n)∨yF s p n)))
def Have(s:St)(p n:Int):Prop:=(∃x,s.kept n p=some x)∨s.lost n
structure ji (s:St):Prop where
 AE8:0≤s.len
 AGY:∀e,1≤e→e≤s.len→H (s.nodes e)
 AKo:∀e,s.cl e→1≤e∧e<s.len
 AF3:∀e f,s.cl e→1≤f→f<e→s.cl f
 md1:∀m,s.md=some m→1≤m.ep∧m.ep<s.len∧ ¬s.cl m.ep∧ ∀e,1≤e→e<m.ep→s.cl e
 wr1:∀e,s.vm e→1≤e∧e≤s.len
 wd1:∀p w,s.wd p=some w→Pl p∧s.vm (ep p)∧(∃q,s.TN p=some (w.data,q)∧(w.done→q))∧(w.done↔H w.ack)∧(∀n,w.ack n→s.nodes (ep p) n)
 AHT:∀p d,s.TN p=some d→Pl p∧ep p≤s.len
 AHU:∀n p x,s.kept n p=some x→x.at_=p
 AHy:∀m p x,s.md=some m→m.seen p=some x→x.at_=p∧ep p=m.ep∧x.Ur<s.len
 AJG:∀x,ku s x→Pl x.at_∧0≤x.Ur∧x.Ur≤s.len∧ep x.at_≤s.len∧(0<x.Ur→ep x.at_<x.Ur)∧(x.Ur=0→x.hole=false)∧(x.hole=true→x.data=[])
 AJN:∀x,ku s x→x.hole=false→ ∃q,s.TN x.at_=some (x.data,q)
 AJT:∀x,ku s x→x.Ur=s.len→ ¬s.cl (ep x.at_)→ ∃m,s.md=some m∧m.pl∧m.ep=ep x.at_∧x=ABR s.len m x.at_
 AKi:∀x y,ku s x→ku s y→x.at_=y.at_→x.Ur=y.Ur→x=y
structure iI (s:St) (fin:Int→cR):Prop where
 AHh: ¬H s.lost
 sure:∀p,qd s p→s.trim<p→H (fun n=>s.nodes (ep p) n∧Have s p n)∧ ∀m,s.md=some m→m.ep=ep p→(∃x,m.seen p=some x)∨H (fun n=>s.nodes (ep p) n∧ ¬m.nu n∧Have s p n)
 ng:∀p w n,s.wd p=some w→ ¬w.done→w.ack n→ ¬s.lost n∧(s.trim<p→(∃x,s.kept n p=some x)∧ ∀m,s.md=some m→m.ep=ep p→m.nu n→ ∃x,m.seen p=some x)
 nu:∀m n,s.md=some m→m.nu n→s.lost n∨s.len-1≤s.sl n
 AHs:∀x,ku s x→x.hole=true→s.trim<x.at_→eX H ep s x.at_
 AFJ:∀m p,s.md=some m→m.pl→Pl p→ep p=m.ep→s.trim<p→m.seen p=none→eX H ep s p
 past:∀p,Pl p→s.cl (ep p)→s.last (ep p)<off p→s.trim<p→eX H ep s p
 wrote:∀m p n,s.md=some m→m.wrote p n→s.nodes m.ep n∧ ¬s.lost n∧m.pl∧(s.trim<p→s.kept n p=some (ABR s.len m p))
 AHV:∀m p x,s.md=some m→m.pl→m.seen p=some x→off p≤m.n
 closed:∀p,Pl p→s.cl (ep p)→off p≤s.last (ep p)→s.trim<p→(fin p).at_=p∧0<(fin p).Ur∧(∀x,ku s x→x.at_=p→x.Ur≤(fin p).Ur∧(x.Ur=(fin p).Ur→x=fin p))∧
  H (fun n=>s.nodes (ep p) n∧(s.lost n∨s.kept n p=some (fin p)))
end
end Go.Sf
end
section
namespace Go.Sf
section
variable{H:(Int→Prop)→Prop} (hm:∀S T:Int→Prop,(∀n,S n→T n)→H S→H T) {ep off:Int→Int} {Pl:Int→Prop} {s:St} {fin:Int→cR}
def iy(k k':Int→Option cR)(L:cR→Prop):Prop:=
 (∀p x,k p=some x→ ∃y,k' p=some y∧(y=x∨x.Ur<y.Ur))∧ ∀p y,k' p=some y→k p=some y∨(L y∧y.at_=p)
theorem eX.of{s s':St}{p:Int}(hn:eX H ep s p)(h1:qd s' p→qd s p)(h2:s.len≤s'.len)(h3:s'.vm (ep p)→s.vm (ep p))
  (h4:s'.vm (ep p)→ ∀n,s'.nodes (ep p) n→(¬(s'.lost n∨ep p≤s'.sl n)∨yF s' p n)→s.nodes (ep p) n∧(¬(s.lost n∨ep p≤s.sl n)∨yF s p n))
  (hm:∀S T:Int→Prop,(∀n,S n→T n)→H S→H T):eX H ep s' p:=
 ⟨fun h=>hn.1 (h1 h),Int.lt_of_lt_of_le hn.2.1 h2,fun hw h=>hn.2.2 (h3 hw) (hm _ _ (fun n hq=>h4 hw n hq.1 hq.2) h)⟩
end
end Go.Sf
end
section
namespace Go.Sf
section
variable{H:(Int→Prop)→Prop} (hm:∀S T:Int→Prop,(∀n,S n→T n)→H S→H T) {ep off:Int→Int} {Pl:Int→Prop} {s:St} {fin:Int→cR}
def St.AFJ(s:St)(m:Md)(L:Int):St:={ s with md:=some { m with pl:=True,n:=L } }
def St.drop(s:St)(gV:Int→Prop)(wd':Int→Option Wd):St:={ s with vm:=gV,wd:=wd' }
end
end Go.Sf
end
section
namespace Go.Sf
structure Rd where
 e:Int
 o:Int
 told:Int→Option pM
section
variable{H:(Int→Prop)→Prop} (hm:∀S T:Int→Prop,(∀n,S n→T n)→H S→H T) {ep off:Int→Int} {Pl:Int→Prop} {s:St} {fin:Int→cR}
def qn(ep off:Int→Int)(r:Rd)(p:Int):Prop:=ep p<r.e∨(ep p=r.e∧off p<r.o)
structure fu (ep off:Int→Int) (Pl:Int→Prop) (s:St) (fin:Int→cR) (r:Rd):Prop where
 e1:1≤r.e
 left:∀p,Pl p→ep p<r.e→s.trim<p→s.cl (ep p)
 data:∀p,Pl p→qn ep off r p→s.trim<p→
  (s.cl (ep p)→off p≤s.last (ep p)→r.told p=if(fin p).hole then none else some (fin p).data)∧
  (s.cl (ep p)→s.last (ep p)<off p→r.told p=none)∧
  (¬s.cl (ep p)→ ∃d q,s.TN p=some (d,q)∧q∧r.told p=some d)
 told:∀p d,r.told p=some d→qn ep off r p
theorem fu.of{s':St}{r:Rd}(h:fu ep off Pl s fin r)(h1:s'.cl=s.cl)(h2:s'.last=s.last)(h3:s.trim≤s'.trim)
  (h4:∀p d q,s.TN p=some (d,q)→q→ ∃q',s'.TN p=some (d,q')∧q'):fu ep off Pl s' fin r:=by
 refine⟨h.e1,fun p a b c=> ?_,fun p a b c=> ?_,h.told⟩
 ·rw[h1];exact h.left p a b (by omega)
 ·obtain⟨b1,b2,b3⟩:=h.data p a b (by omega)
  grind
end
end Go.Sf
end
section
namespace Go.M
open Go.M.H (AD AG Ab AM AA Bc AH AY AL AN Ar Aa An)
open Go.Sf (cR Wd Md St Rd pM iy ji iI fu)
def Pl(p:Int):Prop:=Bd p=true
def AC7(e:AD):cR:=⟨e.1,e.2.1,e.2.2.1,e.2.2.2.1⟩
def kS(l:List AD)(p:Int):Option cR:=(HK p l).map AC7
def AB5(l:List AD)(x:cR):Prop:= ∃e∈l,AC7 e=x
def wdS(x:AY):Wd:=⟨x.1,fun n=>n∈x.2.1,x.2.2.1=true⟩
def yZ(ws:List AL)(e:Int):Option AL:=ws.find? fun x=>x.1==e
def xw(ws:List AL)(p:Int):Option AY:=
 if Bd p then(yZ ws (Ah p)).bind fun x=>x.2.1[(CM p-1).toNat]? else none
def mdS(m:Ab):Md:=
 ⟨m.2.1,fun n=>n∈m.2.2.1,kS m.2.2.2.1,m.2.2.2.2.1=true,m.2.2.2.2.2.1.length,fun p n=>Pl p∧Ah p=m.2.1∧ ∃l,m.2.2.2.2.2.1[(CM p-1).toNat]? =some l∧n∈l⟩
def Gl(l:List AM)(p:Int):Option AM:=l.find? fun s=>s.1==p
def seS(s:AM):pM×Prop:=(s.2.1,s.2.2.1=true)
def gL(w:AA)(n:Int):AG:=if 0≤n∧n<(w.Al.length:Int)then storeAt w n else AO
def vX(l:List Bc)(e:Int):Bc:=l.getD (e-1).toNat FZ
def Vx(w:AA):St where
 len:=w.Ay.length
 nodes e n:=n∈BB w.Ay e
 cl e:=(1≤e∧e≤(w.Ay.length:Int))∧(vX w.Ay e).2.1=true
 last e:=if 1≤e then(vX w.Ay e).2.2.1 else 0
 trim:=w.trim
 lost n:=n∈w.lost
 Ei:=w.Ei=true
 kept n:=kS (gL w n).1
 late n:=AB5 (gL w n).2.1
 sl n:=(gL w n).2.2.1
 vm e:= ∃x∈w.AE,x.1=e
 wd p:=(xw w.AE p).map wdS
 md:=w.A8.head?.map mdS
 TN p:=(Gl w.A3 p).map seS
def tlS(l:List Ar)(p:Int):Option pM:=(l.find? fun e=>e.1==1&&e.2.1==p).map fun e=>e.2.2.1
def rdS(r:AN):Rd:=⟨r.1,r.2.1,tlS r.2.2.1⟩
structure Safe (w:AA):Prop where
 ok:EF w
 a:ji (p8 (Ag w)) Ah Pl (Vx w)
 b:w.Ei=false→ ∃fin,iI (p8 (Ag w)) Ah CM Pl (Vx w) fin∧ ∀r∈w.AQ,fu Ah CM Pl (Vx w) fin (rdS r)
def Grow(w v:AA):Prop:= ∀p d q,(Vx w).TN p=some (d,q)→ ∃q',(Vx v).TN p=some (d,q')∧(q→q')
theorem Safe.step{w v:AA}(h:Safe w)(Dg:EF v)(hc:Ag v=Ag w)(hr:v.AQ=w.AQ)(ht:v.Ei=false→w.Ei=false)
  (ha:ji (p8 (Ag w)) Ah Pl (Vx v))
  (hb:w.Ei=false→v.Ei=false→ ∀fin,iI (p8 (Ag w)) Ah CM Pl (Vx w) fin→iI (p8 (Ag w)) Ah CM Pl (Vx v) fin)
  (h1:(Vx v).cl=(Vx w).cl) (h2:(Vx v).last=(Vx w).last) (h3:(Vx w).trim≤(Vx v).trim)
  (h4:Grow w v):Safe v∧Grow w v:=by
 refine⟨⟨Dg,by simp_all,fun hv=> ?_⟩,h4⟩;obtain⟨fin,b1,b2⟩:=h.b (ht hv);rw[hc,hr];exact⟨fin,hb (ht hv) hv fin b1,fun r hr=>(b2 r hr).of h1 h2 h3 fun p d q a b=>(h4 p d q a).imp fun _ k=>⟨k.1,k.2 b⟩⟩
section
variable{w:AA} (h:Safe w)
include h
end
end Go.M
end
section
namespace Go.M
open Go.M.H (AD AG Ab AM AA Bc AH AY AL AN Ar Aa An)
open Go.Sf (cR Wd Md St Rd pM iy ji iI fu)
theorem bd{x:AL}:∀{ws:List AL},Kg (fun x:AL=>x.1) ws→x∈ws→yZ ws x.1=some x
 |[],_,h=>by simp at h
 |y::ws,ha,h=>by
  simp only[Kg,AGx]at ha;unfold yZ;rw[AIU];rcases AGD.1 h with rfl|h
  ·rw[AHe]
  ·rw[AGk.2 (fun e=>by grind)]
   exact bd ha.2 h
theorem Yl{l:List AM}{p:Int}{s:AM}(h:Gl l p=some s):s∈l∧s.1=p:=
 ⟨AIe h,by simpa using List.find?_some h⟩
theorem Yd{s:AM}{q:Int}:∀{l:List AM},(∀x∈l,x.1≠s.1)→Gl (Rj s l) q=if q=s.1 then some s else Gl l q
 |[],_=>by
  unfold Gl Rj;grind
 |x::l,h=>by
  have ih:=Yd (q:=q) (l:=l) fun y hy=>h y (by simp[hy])
  have hx:=h x (by simp);unfold Gl at*;rw[Rj];grind
section
variable{w:AA} (h:Safe w)
include h
end
end Go.M
end
section
namespace Go.Sf
section
variable{H:(Int→Prop)→Prop} (hm:∀S T:Int→Prop,(∀n,S n→T n)→H S→H T) {ep off:Int→Int} {Pl:Int→Prop} {fin:Int→cR}
end
end Go.Sf
namespace Go.M
open Go.M.H (AD AG Ab AM AA Bc AH AY AL AN Ar Aa An)
open Go.Sf (cR Wd Md St Rd pM iy ji iI fu)
theorem U4{c:BN}{s:AG}{ep n:Int}:∀{l:List AY} {o:Int} {i:Nat},(BD c s ep n o l)[i]? =(l[i]?).map fun x=>if !x.2.2.1&&Gj s (D3 ep (o+i))then D7 c n x else x
 |[],o,i=>by rfl
 |x::l,o,0=>by simp[BD]
 |x::l,o,i+1=>by
  simp only[BD,AIl];rw[U4 (l:=l),show o+1+(i:Int)=o+((i+1:Nat):Int)by omega]
theorem jR{g:AM→AM}(hg:∀t,(g t).1=t.1){l:List AM}{q:Int}:Gl (l.map g) q=(Gl l q).map g:=by
 unfold Gl;rw[List.find?_map];have:((fun s:AM=>s.1==q)∘g)=fun s=>s.1==q:=by grind
 rw[this]
theorem ke{l:List AY}{o:Int}(h:1≤o):IF l o=true↔ ∃x,l[(o-1).toNat]? =some x∧x.2.2.1=true:=by
 unfold IF;by_cases hl:o≤(l.length:Int)
 ·rw[Ak.2 ⟨h,hl⟩,AGJ,List.getD,AEX (by omega)]
  simp
 ·rw[AHX.2 (fun hh:BC o 1 (l.length:Int)=true=>hl (Ak.1 hh).2),AHW,AIX (by omega)]
  simp
section
variable{w:AA} (h:Safe w)
include h
end
end Go.M
end
section
namespace Go.M
open Go.M.H (AD AG Ab AM AA Bc AH AY AL AN Ar Aa An)
open Go.Sf (cR Wd Md St Rd pM iy ji iI fu)
def qK(e:Ar):Bool:=BC e.1 1 3
structure lW (ss:List AM) (r:AN):Prop where
 cJ:(r.2.2.1.filter qK).Pairwise fun a b=>a.2.1<b.2.1
 below:∀e∈r.2.2.1,qK e=true→Pl e.2.1∧e.2.1<D3 r.1 r.2.1
 TN:∀e∈r.2.2.1,e.1=1→ ∃s∈ss,s.1=e.2.1∧s.2.1=e.2.2.1
def s_(r:AN):Prop:= ∀e∈r.2.2.1,e.1≠3
structure Reached (w:AA):Prop where
 safe:Safe w
 out:∀r∈w.AQ,lW w.A3 r
 whole:w.Ei=false→ ∀r∈w.AQ,s_ r
theorem SJ{s:AM}:∀{l:List AM},Kg (fun s:AM=>s.1) l→s∈l→Gl l s.1=some s
 |[],_,h=>by simp at h
 |y::l,ha,h=>by
  simp only[Kg,AGx]at ha;unfold Gl;rw[AIU];rcases AGD.1 h with rfl|h
  ·rw[AHe]
  ·rw[AGk.2 (fun e=>by grind)]
   exact SJ ha.2 h
theorem Grow.mem{w v:AA}(h:Grow w v)(hw:EF w){s:AM}(hs:s∈w.A3):∃t∈v.A3,t.1=s.1∧t.2.1=s.2.1∧(s.2.2.1=true→t.2.2.1=true):=by
 obtain⟨q',e,h2⟩:=h s.1 s.2.1 (s.2.2.1=true) (by
  show(Gl w.A3 s.1).map seS=_
  rw[SJ hw.Ou hs];rfl)
 replace e:(Gl v.A3 s.1).map seS=some (s.2.1,q'):=e
 rw[AEx]at e;obtain⟨t,e1,e2⟩:=e;grind[Yl,seS,Prod.mk.injEq]
theorem lW.grow{w v:AA}(h:Grow w v)(hw:EF w){r:AN}(k:lW w.A3 r):lW v.A3 r:=
 ⟨k.cJ,k.below,fun e he h1=>by
  obtain⟨s,s1,s2,s3⟩:=k.TN e he h1;obtain⟨t,t1,t2,t3,_⟩:=h.mem hw s1;grind⟩
theorem Reached.of{w v:AA}(h:Reached w)(k:Safe v∧Grow w v)(hr:v.AQ=w.AQ)(ht:v.Ei=false→w.Ei=false):Reached v:=
 ⟨k.1,fun r hm=>(h.out r (by simp_all)).grow k.2 h.safe.ok,fun hv r hm=>h.whole (ht hv) r (by simp_all)⟩
section
variable{w:AA} (h:Reached w)
include h
end
end Go.M
end
section
namespace Go.M
open Go.M.H (AD AG Ab AM AA Bc AH AY AL AN Ar Aa An)
open Go.Sf (cR Wd Md St Rd pM iy ji iI fu)
section
variable{w:AA} (h:Reached w)
include h
theorem Reached.sure{s:AM}(hs:s∈w.A3)(hq:s.2.2.1=true):Pl s.1∧Sf.qd (Vx w) s.1:=by
 refine⟨(h.safe.ok.A3 s hs).1,s.2.1,s.2.2.1=true,?_,hq⟩
 show(Gl w.A3 s.1).map seS=_
 rw[SJ h.safe.ok.Ou hs];rfl
end
section
variable{w:AA} (h:Reached w)
include h
theorem Reached.reader{i:Nat}(hi:i<2):w.AQ.getD i CC∈w.AQ:=CE (by have:=h.safe.ok.dD;omega)
end
end Go.M
end
section
namespace Go.M
open Go.M.H (AD AG Ab AM AA Bc AH AY AL AN Ar Aa An)
section
variable{w:AA} (h:Reached w)
include h
theorem rz{k:Nat}(hk:k<2):Va w k=VC (w.AQ.getD k CC).2.2.1:=by
 unfold Va;rw[B8.2 h.safe.ok,Ak.2 (by omega:(0:Int)≤(k:Int)∧(k:Int)≤1)];rfl
end
end Go.M
end
section
set_option maxRecDepth 8000
namespace Go.M
open Go.M.H (AD AG Ab AM AA Bc AH AY AL AN Ar Aa An Am Bt AX AU AW Ap CP BV Ao AZ DJ Bu B_ Cb)
theorem dX:∀{l:List Ar},(VC l).length≤l.length
 |[]=>AGh _
 |e::l=>by
  have:=dX (l:=l);unfold VC;cases e.1==1<;>simp only[AGV,AFM,AFq]<;>omega
theorem Reached.WN{w:AA}(h:Reached w){k:Nat}(hk:k<2):(Va w k).length≤120:=by
 rw[rz h hk];exact AHK dX (h.safe.ok.AQ _ (h.reader hk)).n
end Go.M
end
section
namespace Go.M
open Go.M.H (AD AG Ab AM AA Bc AH AY AL AN Ar Aa An)
def HT(w:AA)(k:Nat)(o:Int):AY:=(w.AE.getD k Af).2.1.getD (o-1).toNat Mt
structure YD (c:BN) (k:Nat) (ep o p:Int) (d:List UInt8) (N:Nat) (w:AA):Prop where
 ok:EF w
 cfg:Ag w=c
 wr:k<w.AE.length∧(w.AE.getD k Af).1=ep∧(w.AE.getD k Af).2.1.length=o
 o1:1≤o∧o≤60
 pl:Pl p∧Ah p=ep∧CM p=o
 TN:∃s,Gl w.A3 p=some s∧s.2.1=d∧(s.2.2.1=true↔(HT w k o).2.2.1=true)
 ng:∀n∈(HT w k o).2.1,n∉w.lost∧ ∃e,HK p (storeAt w n).1=some e
 ns:w.A3.length=N
theorem Ye{w:AA}{n m:Int}{s:AG}(hn:0≤n∧n<(w.Al.length:Int))(hm:0≤m):storeAt (w.BU (w.Al.set n.toNat s)) m=if m=n then s else storeAt w m:=by
 unfold storeAt
 show(w.Al.set n.toNat s).getD m.toNat AO=_
 rw[UP (by omega)];by_cases e:m=n
 ·rw[AEv (by omega),AEv e]
 ·rw[AE4 (by omega),AE4 e]
theorem Q0{all:Bool}{c:BN}{s:AG}{l:List Bc}{n:Int}:∀{ws:List AL} {ss:List AM},
  (E_ all c s l n ws ss).2=ss.map fun t=>(t.1,t.2.1,t.2.2.1||(ws.any fun x=>Fi s l n x&&(Ah t.1==x.1&&(IF (BD c s x.1 n 1 x.2.1) (CM t.1)&&(all|| !IF x.2.1 (CM t.1))))),())
 |[],ss=>by
  simp only[E_,List.any_nil,AIy];exact(List.map_id' ss).symm
 |x::ws,ss=>by
  simp only[E_];split
  ·rename_i ht
   simp only;rw[Q0,AHq];refine AHH fun t _=> ?_
   simp only[Function.comp,TV,List.any_cons,ht,AGJ,Bool.or_assoc]
  ·rename_i ht
   simp only;rw[Q0];refine AHH fun t _=> ?_
   have ht':Fi s l n x=false:=by simpa using ht
   simp only[List.any_cons,ht',AHW,AHd]
section
variable{c:BN} {k:Nat} {ep o p:Int} {d:List UInt8} {N:Nat} {w:AA} (h:YD c k ep o p d N w)
include h
theorem YD.word:(w.AE.getD k Af).2.1[(o-1).toNat]? =some (HT w k o):=by
 have:=h.o1;have:=h.wr.2.2;unfold HT
 generalize (w.AE.getD k Af).2.1=l at*
 have hi:(o-1).toNat<l.length:=by omega
 rw[AEX hi,Hy hi]
theorem YD.vg:BA (Ag w) (HT w k o).2.1=true∧(HT w k o).2.2.1=holds (Ag w) (HT w k o).2.1:=
 ((h.ok.AE _ (CE h.wr.1)).1.words _ (AGN h.word)).2
theorem jQ{a b n:Int}(e:(HH w a b n).2=0):YD c k ep o p d N (HH w a b n).1:=by
 have Dg:=iR h.ok e;have hz:(HH w a b n).1=w∨ ∃en,As w n=0∧(G8 (storeAt w n) en).2=true∧(HH w a b n).1=w.BU (w.Al.set n.toNat (G8 (storeAt w n) en).1):=by
  unfold HH putAt;dsimp only
  repeat' split
  all_goals first
   |exact .inl rfl
   |exact .inr ⟨_,by rename_i h1 _ _;simpa using h1,by assumption,rfl⟩
   |exact .inr ⟨_,by simp_all,by simp_all,rfl⟩
 rcases hz with hz|⟨en,n0,q,hz⟩
 ·rw[hz];exact h
 rw[hz]at Dg⊢;obtain⟨n1,n2,n3⟩:=Kd n0;obtain⟨_,s2,_,_⟩:=Tc q;refine⟨Dg,h.cfg,h.wr,h.o1,h.pl,h.TN,fun m hm=>⟨(h.ng m hm).1,?_⟩,h.ns⟩;have vv:=(Ct.1 h.vg.1).2.1 m hm;rw[Ye ⟨n1,n2⟩ vv.1];by_cases em:m=n
 ·rw[AEv em,s2,←em];exact(h.ng m hm).2
 ·rw[AE4 em];exact(h.ng m hm).2
theorem nX{all:Bool}{n:Int}(e:(KW all w n).2=0):YD c k ep o p d N (KW all w n).1:=by
 have Dg:=lQ h.ok e;unfold KW at e Dg⊢;by_cases hn:As w n=0
 rotate_left
 ·rw[AEv hn]at e;exact absurd e hn
 rw[AE4 (by simpa using hn)]at e Dg⊢;by_cases hq:(CS (storeAt w n)).2=true
 rotate_left
 ·have vh:(CS (storeAt w n)).2=false:=by simpa using hq
  simp only[vh,AHQ,AHL]at e;cases e
 simp only[hq,AE7,AE6,AGn]at Dg⊢;obtain⟨s1,s2,s3⟩:=Kb (k:=1048575) hq;obtain⟨n1,n2,n3⟩:=Kd hn;have vp:=(h.ok.node hn).1;have hsy:(CS (storeAt w n)).1=(ED (storeAt w n) 1048575).1:=rfl;rw[←hsy]at s2 s3
 generalize (CS (storeAt w n)).1=S at*
 obtain⟨t1,_⟩:=Um h.ok (all:=all) (s:=S) vp (ws:=w.AE) (ss:=w.A3);rw[t1,Q0]at Dg⊢;have zQ:k<w.AE.length:=h.wr.1;have hx:=CE (d:=Af) zQ;have hwg:(w.AE.map fun x=>if Fi S w.Ay n x then(x.1,BD (Ag w) S x.1 n 1 x.2.1,())else x).getD k Af=if Fi S w.Ay n (w.AE.getD k Af)then((w.AE.getD k Af).1,BD (Ag w) S (w.AE.getD k Af).1 n 1 (w.AE.getD k Af).2.1,())else w.AE.getD k Af:=by
  rw[Hy (by simpa using zQ),List.getElem_map,Hy zQ]
 have rT:=h.word;obtain⟨a1,a2⟩:=h.vg;obtain⟨w1,w2,w3⟩:=h.wr;obtain⟨o1,o2⟩:=h.o1;obtain⟨p1,p2,p3⟩:=h.pl;have jW:D3 ep (1+(((o-1).toNat:Nat):Int))=p:=by
  rw[Int.toNat_of_nonneg (by omega),show 1+(o-1)=o by omega,←p2,←p3];exact(D2 p1).2.2
 have yA:=U4 (c:=Ag w) (s:=S) (ep:=(w.AE.getD k Af).1) (n:=n) (l:=(w.AE.getD k Af).2.1) (o:=1) (i:=(o-1).toNat);rw[rT,w2,jW]at yA;simp only[AIz]at yA;have cS:∃y,(BD (Ag w) S ep n 1 (w.AE.getD k Af).2.1)[(o-1).toNat]? =some y∧((HT w k o).2.2.1=true→y=HT w k o)∧(y=HT w k o∨(y=D7 (Ag w) n (HT w k o)∧Gj S p=true)):=by
  refine⟨_,yA,fun hd=> ?_,?_⟩
  ·rw[hd];rfl
  ·by_cases hc:(!(HT w k o).2.2.1&&Gj S p)=true
   ·rw[AEv hc]
    simp only[AE1]at hc;exact .inr ⟨rfl,hc.2⟩
   ·rw[AE4 hc];exact .inl rfl
 obtain⟨y,y1,y2,y3⟩:=cS;have hlw:=(SO (c:=Ag w) (s:=S) (ep:=ep) vp (l:=(w.AE.getD k Af).2.1) (o:=1) ((h.ok.AE _ hx).1.words)).2.2;have hSt:∀m,0≤m→storeAt (w.BU (w.Al.set n.toNat S)) m=if m=n then S else storeAt w m:=fun m hm=>Ye ⟨n1,n2⟩ hm
 have up:∀m,0≤m→(∃e,HK p (storeAt w m).1=some e)→ ∃e,HK p (storeAt (w.BU (w.Al.set n.toNat S)) m).1=some e:=fun m hm ⟨e,he⟩=>by
  rw[hSt m hm];by_cases em:m=n
  ·rw[AEv em,s3]
   rw[em]at he;obtain⟨z,hz,_⟩:=bT (l:=HX 1048575 0 (storeAt w n).2.1) s1.cJ he;exact⟨z,hz⟩
  ·rw[AE4 em];exact⟨e,he⟩
 generalize hv:(((w.BU (w.Al.set n.toNat S)).BZ (w.AE.map fun x=>if Fi S w.Ay n x then(x.1,BD (Ag w) S x.1 n 1 x.2.1,())else x)).Cl (w.A3.map fun t=>(t.1,t.2.1,t.2.2.1||(w.AE.any fun x=>Fi S w.Ay n x&&(Ah t.1==x.1&&(IF (BD (Ag w) S x.1 n 1 x.2.1) (CM t.1)&&(all|| !IF x.2.1 (CM t.1))))),()))).CH (w.A8.map (Nk S w.Ay n))=v at Dg⊢
 have nw:v.AE=w.AE.map fun x=>if Fi S w.Ay n x then(x.1,BD (Ag w) S x.1 n 1 x.2.1,())else x:=by rw[←hv]
 have Nx:v.A3=w.A3.map fun t=>(t.1,t.2.1,t.2.2.1||(w.AE.any fun x=>Fi S w.Ay n x&&(Ah t.1==x.1&&(IF (BD (Ag w) S x.1 n 1 x.2.1) (CM t.1)&&(all|| !IF x.2.1 (CM t.1))))),()):=by rw[←hv]
 have AE2:∀m,storeAt v m=storeAt (w.BU (w.Al.set n.toNat S)) m:=fun m=>by rw[←hv];rfl
 have wi:v.lost=w.lost:=by rw[←hv]
 have hvc:Ag v=Ag w:=by rw[←hv];rfl
 have hwx:=bd h.ok.TL hx;have lZ:∀(l:List AY) (z:AY),l[(o-1).toNat]? =some z→(IF l o=z.2.2.1):=fun l z hz=>by
  have:=ke (l:=l) o1;cases vQ:z.2.2.1 with
  |true=>exact this.2 ⟨z,hz,vQ⟩
  |false=>
   rw[AHX];intro hd;obtain⟨u,u1,u2⟩:=this.1 hd;rw[hz]at u1;cases u1;rw[vQ]at u2;cases u2
 have ABk:∀t:AM,t.1=p→(w.AE.any fun x=>Fi S w.Ay n x&&(Ah t.1==x.1&&(IF (BD (Ag w) S x.1 n 1 x.2.1) (CM t.1)&&(all|| !IF x.2.1 (CM t.1)))))=(Fi S w.Ay n (w.AE.getD k Af)&&(y.2.2.1&&(all|| !(HT w k o).2.2.1))):=fun(t:AM) ht=>by
  rw[ht,p2,p3,AI2,List.any_eq_true];constructor
  ·rintro⟨x,hxm,hh⟩
   simp only[AE1,AHo]at hh;have hxx:=bd h.ok.TL hxm;rw[←hh.2.1,←w2,hwx]at hxx;cases hxx;rw[w2,lZ _ y y1,lZ _ _ rT]at hh;rw[hh.1,hh.2.2.1,AGJ,AGJ];exact hh.2.2.2
  ·intro hh
   simp only[AE1]at hh;refine⟨_,hx,?_⟩;rw[hh.1,w2,lZ _ y y1,lZ _ _ rT,hh.2.1,hh.2.2];simp
 obtain⟨s,q1,q2,q3⟩:=h.TN;have AFl:Gl v.A3 p=some (s.1,s.2.1,s.2.2.1||(Fi S w.Ay n (w.AE.getD k Af)&&(y.2.2.1&&(all|| !(HT w k o).2.2.1))),()):=by
  rw[Nx,jR (g:=fun t:AM=>(t.1,t.2.1,t.2.2.1||(w.AE.any fun x=>Fi S w.Ay n x&&(Ah t.1==x.1&&(IF (BD (Ag w) S x.1 n 1 x.2.1) (CM t.1)&&(all|| !IF x.2.1 (CM t.1))))),())) (fun _=>rfl),q1,AIz,ABk s (Yl q1).2]
 have hwv:HT v k o=if Fi S w.Ay n (w.AE.getD k Af)then y else HT w k o:=by
  unfold HT;rw[nw,hwg];split
  ·rw[w2]
   show(BD (Ag w) S ep n 1 (w.AE.getD k Af).2.1).getD (o-1).toNat Mt=y
   rw[List.getD,y1];rfl
  ·rfl
 refine⟨Dg,hvc.trans h.cfg,⟨by rw[nw];simpa using zQ,?_,?_⟩,h.o1,h.pl,⟨_,AFl,q2,?_⟩,fun m hm=> ?_,by rw[Nx,AIR];exact h.ns⟩
 ·rw[nw,hwg];split<;>exact w2
 ·rw[nw,hwg];split
  ·rw[w2];show((BD (Ag w) S ep n 1 (w.AE.getD k Af).2.1).length:Int)=o;rw[hlw];exact w3
  ·exact w3
 ·rw[hwv]
  show(s.2.2.1||_)=true↔_
  cases ht:Fi S w.Ay n (w.AE.getD k Af)with
  |false=>simpa using q3
  |true=>
   simp only[AHL,AGJ];cases hd:(HT w k o).2.2.1 with
   |true=>rw[y2 hd,hd,q3.2 hd];simp
   |false=>
    have:s.2.2.1=false:=by
     cases hs:s.2.2.1 with
     |false=>rfl
     |true=>rw[q3.1 hs]at hd;cases hd
    rw[this];simp
 ·rw[wi,AE2]
  rw[hwv]at hm;have np:m∈(HT w k o).2.1→m∉w.lost∧ ∃e,HK p (storeAt (w.BU (w.Al.set n.toNat S)) m).1=some e:=fun hm=>by
   have vv:=(Ct.1 a1).2.1 m hm;exact⟨(h.ng m hm).1,up m vv.1 (h.ng m hm).2⟩
  split at hm
  ·rcases y3 with rfl|⟨rfl,zF⟩
   ·exact np hm
   ·rcases aN.1 hm with rfl|hm
    ·refine⟨n3,?_⟩
     rw[hSt _ n1,AEv rfl];unfold Gj at zF;cases hg:HK p S.1 with
     |none=>rw[hg]at zF;cases zF
     |some z=>exact⟨z,rfl⟩
    ·exact np hm
  ·exact np hm
end
end Go.M
end
