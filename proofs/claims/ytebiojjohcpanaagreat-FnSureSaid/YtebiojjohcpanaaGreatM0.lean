/- Plain facts on what the functions compute. -/
import Derived.Test.YtebiojjohcpanaaGreatG0
set_option linter.unusedVariables false
set_option linter.unusedSimpArgs false
set_option linter.unusedSectionVars false
section
namespace Go.M
theorem AB{α:Type}(p:Prop)[Decidable p](a b:α):cond (decide p) a b=if p then a else b:=by
 simp_all
theorem AL{x:Int}(h1: -9223372036854775808≤x)(h2:x<9223372036854775808):AX x=x:=by
 grind[AX,IntKind.wrap,IntKind.bits,IntKind.signed]
theorem AKY{n:Nat}(h:n<9223372036854775808):AX (n:Int)=n:=AL (by omega) (by omega)
theorem AB3(n:Nat):(BitVec.ofInt 64 (n:Int)).toNat=n%2^64:=by
 rfl
theorem pO{n:Nat}(h:n<2^63):IntKind.wrap .i64 (n:Int)=n:=AKY (by omega)
theorem ADk{a b:Nat}(ha:a<2^63)(hb:b<2^63):br .i64 a b=((a &&& b:Nat):Int):=by
 grind[br,BitVec.ofInt,IntKind.bits,BitVec.toNat_and,AB3,Nat.mod_eq_of_lt,pO,Nat.lt_of_le_of_lt,Nat.and_le_left]
theorem Ag{n:Nat}(h:n<2^64):n<Ae:=ASh h aF
theorem Ak{α:Type}{l:List α}{i:Nat}{d:α}(h:i<l.length):l.getD ((i:Int).toNat) d=l[i]:=by
 simp_all
theorem drop_cons{α:Type}{l:List α}{i:Nat}(h:i<l.length):l.drop i=l[i]::l.drop (i+1):=(List.getElem_cons_drop h).symm
theorem BT:Ds=68719476736:=rfl
end Go.M
end
section
namespace Go.M
def BK(x a b:Int):Bool:=decide (a≤x∧x≤b)
theorem Bd(x a b:Int):CN x a b=some ((BK x a b,()),()):=by
 unfold CN BK;grind
theorem Ay(x a b:Int):A4 x a b=some ((BK x a b,()),()):=Bd x a b
def E6(x:ABO):Bool:=BK (x.1.length:Int) 1 8&&(BK x.2.1 1 4&&x.1.all fun d=>BK d 0 7)
theorem bK{l:AAH}{c:Int}(hl:l.length≤2^40):∀(n i:Nat),i≤l.length→l.length-i<n→LC n i l c=some (((l.drop i).all fun d=>BK d 0 7,()),())
 |0,i,_,h=>by omega
 |n+1,i,hi,h=>by
  simp only[LC,VA,AB];by_cases hc:i<l.length
  ·rw[ALI (by omega),ALI (by omega),Ak hc,Bd,AL (by omega) (by omega),drop_cons hc]
   simp only[AMM,AS3];cases hb:BK l[i] 0 7 with
   |false=>simp
   |true=>
    simp only[ALu,ALz,AMD];rw[show(((i:Nat):Int)+1)=((i+1:Nat):Int)by omega,bK hl n (i+1) (by omega) (by omega)]
  grind
theorem HH{x:ABO}(hl:x.1.length≤2^40):GP x=some ((E6 x,()),()):=by
 unfold GP VM E6;simp only[Bd,AMM];cases BK (x.1.length:Int) 1 8 with
 |false=>simp
 |true=>
  cases BK x.2.1 1 4 with
  |false=>simp
  |true=>
   grind[bK,Ae,Ag]
theorem bf{l:AAH}{c:Int}(hl:l.length≤2^40):∀(n i:Nat),i≤l.length→l.length-i<n→
  LA n l l.length i l c=some ((((l.drop i).all fun d=>BK d 0 7)&&(BK (l.length:Int) 1 8&&BK c 1 4),()),())
 |0,i,_,h=>by omega
 |n+1,i,hi,h=>by
  simp only[LA,VD,AB];by_cases hc:i<l.length
  ·rw[ALI (by omega),ALI (by omega),Ak hc,Ay,AL (by omega) (by omega),drop_cons hc]
   simp only[AMM,AS3];cases hb:BK l[i] 0 7 with
   |false=>simp
   |true=>
    simp only[ALu,ALz,AMD];rw[show(((i:Nat):Int)+1)=((i+1:Nat):Int)by omega,bf hl n (i+1) (by omega) (by omega)]
  ·rw[ALT (by omega)]
   have:i=l.length:=by omega
   subst this;simp only[Ay,AMM,ATA,List.all_nil,AMD];grind
theorem LD{x:ABO}(hl:x.1.length≤2^40):Ez x=some ((E6 x,()),()):=by
 unfold Ez VS E6;have:=bf (l:=x.1) (c:=x.2.1) hl Ae 0 (by omega) (Ag (by omega));grind
theorem Fq{x:ABO}(h:E6 x=true):1≤x.1.length∧x.1.length≤8∧1≤x.2.1∧x.2.1≤4∧ ∀d∈x.1,0≤d∧d≤7:=by
 simp only[E6,BK,ALp,AMC,AS0]at h;grind
end Go.M
end
section
namespace Go.M
def Bytes(b:AAH):Prop:= ∀c∈b,0≤c∧c<256
end Go.M
end
section
namespace Go.M
theorem wf_i64{c:Int}(h:(Go.Lit.int .i64 c).wf=true): -9223372036854775808≤c∧c<9223372036854775808:=by
 simp only[Go.Lit.wf,ALp,AMC]at h;have h1:Go.IntKind.min .i64= -9223372036854775808:=rfl;simp_all;omega
end Go.M
end
section
namespace Go.M
abbrev Ev:Type:=Int×Int×List UInt8×Unit
abbrev Rdr:Type:=Int×Int×List Ev×Unit
def Wp(x:Rdr):Bool:=BK x.1 1 31&&(BK x.2.1 1 61&&decide ((x.2.2.1.length:Int)≤120))
theorem Oo(x:Rdr):Mw x=some ((Wp x,()),()):=by
 grind[Mw,Wp,Bd,BK]
theorem Z6(x:Rdr):TY x=some ((Wp x,()),()):=Oo x
end Go.M
end
section
namespace Go.M
def G3(code:AAH)(i:Int):Prop:=0≤i∧i≤code.length
theorem AAg(x:Int):∃v:Int,br .i64 x 255=v∧0≤v∧v<256:=by
 refine⟨_,rfl,?_⟩;grind[br,BitVec.ofInt,Go.IntKind.bits,BitVec.toNat_and,Nat.lt_of_le_of_lt,Nat.and_le_right,pO]
section
variable{code:AAH} (hc:code.length≤2^30)
include hc
theorem Zo{i h:Int}(hi:G3 code i):∃v i' h',Lv code i h=some ((v,()),((code,i',h',()),()))∧0≤v∧v<256∧G3 code i':=by
 unfold Lv;simp only[AB];obtain⟨h0,h1⟩:=hi;split
 ·rename_i Jq
  rw[ALI ⟨h0,Jq⟩,AL (x:=i+1) (by omega) (by omega)];obtain⟨v,e,v0,v1⟩:=AAg (AX (br .i64 (AOI .i64 ((AX (AX (h*6364136223846793005)+1442695040888963407)).fdiv (2^33)) ((AX (AX (h*6364136223846793005)+1442695040888963407)).fdiv (2^45))) 255+AX (code.getD i.toNat 0)));exact⟨v,i+1,_,by rw[e],v0,v1,by omega,by omega⟩
 ·obtain⟨v,e,v0,v1⟩:=AAg (AOI .i64 ((AX (AX (h*6364136223846793005)+1442695040888963407)).fdiv (2^33)) ((AX (AX (h*6364136223846793005)+1442695040888963407)).fdiv (2^45)))
  exact⟨v,i,_,by rw[e],v0,v1,h0,h1⟩
theorem QD{i h n:Int}(hi:G3 code i)(hn:n≤2^40):∃v i' h',Am n code i h=some ((v,()),((code,i',h',()),()))∧0≤v∧(0<n→v<n)∧(n≤0→v=0)∧G3 code i':=by
 unfold Am;simp only[AB];split
 ·grind
 ·split
  ·obtain⟨v,i1,h1,e,v0,v1,eJ⟩:=Zo hc (h:=h) hi
   rw[e];simp only[AMM];rw[ALT (by omega),Int.tmod_eq_emod_of_nonneg v0];exact⟨_,i1,h1,rfl,Int.emod_nonneg _ (by omega),fun _=>Int.emod_lt_of_pos _ (by omega),by omega,eJ⟩
  ·obtain⟨v1,i1,h1,e1,a1,b1,eJ⟩:=Zo hc (h:=h) hi
   obtain⟨v2,i2,h2,e2,a2,b2,zG⟩:=Zo hc (h:=h1) eJ;obtain⟨v3,i3,h3,e3,a3,b3,hi3⟩:=Zo hc (h:=h2) zG;obtain⟨v4,i4,h4,e4,a4,b4,hi4⟩:=Zo hc (h:=h3) hi3;rw[e1];simp only[AMM];rw[e2];simp only[AMM];rw[e3];simp only[AMM];rw[e4];simp only[AMM];rw[AL (x:=v1*16777216) (by omega) (by omega),AL (x:=v2*65536) (by omega) (by omega),AL (x:=v3*256) (by omega) (by omega),AL (x:=v1*16777216+v2*65536) (by omega) (by omega),
    AL (x:=v1*16777216+v2*65536+v3*256) (by omega) (by omega),AL (by omega) (by omega),ALT (by omega),Int.tmod_eq_emod_of_nonneg (by omega)]
   exact⟨_,i4,h4,rfl,Int.emod_nonneg _ (by omega),fun _=>Int.emod_lt_of_pos _ (by omega),by omega,hi4⟩
theorem ra{i h n:Int}(hi:G3 code i)(hn:n≤2^40):∃v i' h',B8 n code i h=some ((v,()),((code,i',h',()),()))∧G3 code i':=by
 unfold B8;obtain⟨v,i1,h1,e,_,_,_,eJ⟩:=QD hc (h:=h) hi hn;rw[e];exact⟨_,i1,h1,rfl,eJ⟩
theorem ub{i h:Int}{l:AAH}(hi:G3 code i)(hl:l≠[])(hn:l.length≤2^30):∃v i' h',OP l code i h=some ((v,()),((code,i',h',()),()))∧v∈l∧G3 code i':=by
 unfold OP;have hp:=AW8.2 hl;obtain⟨v,i1,h1,e,v0,v1,_,eJ⟩:=QD hc (h:=h) (n:=l.length) hi (by omega);grind
omit hc in
theorem zO{n:Nat}:∀(m i:Nat) (h:Int),i≤code.length→code.length-i<m→ ∃h',PT m code h i=some (((),()),((code,0,h',()),()))
 |0,_,_,_,h=>by omega
 |m+1,i,h,hi,hm=>by
  simp only[PT,Zz,AB];by_cases Jq:i<code.length
  ·rw[ALI (by omega)]
   split
   ·rw[ALI (by omega),AL (x:=(i:Int)+1) (by omega) (by omega),show((i:Int)+1)=((i+1:Nat):Int)by omega]
    exact zO (n:=n) m (i+1) _ (by omega) (by omega)
   ·exact⟨_,rfl⟩
  ·rw[ALT (by omega)]
   exact⟨_,rfl⟩
theorem AEp:∃h',au code=some (((),()),((code,0,h',()),())):=by
 unfold au Zg;exact zO (n:=0) Ae 0 _ (by omega) (Ag (by omega))
def aJ(l:AAH)(c:Int):Prop:=3≤l.length∧l.length≤7∧1≤c∧c≤3∧ ∀d∈l,0≤d∧d≤4
omit hc in
theorem aJ.ok{l:AAH}{c:Int}(h:aJ l c):E6 (l,c,())=true:=by
 obtain⟨h1,h2,h3,h4,h5⟩:=h;simp only[E6,BK,ALp,AMC,AS0];exact⟨by omega,by omega,fun d hd=>by have:=h5 d hd;omega⟩
theorem ef{N:Nat}(hN:3≤N∧N≤7){c:Int}(h1:1≤c∧c≤3){x1:Int}{x2:AAH}:∀(n k:Nat) (i h:Int) (acc:AAH),G3 code i→k≤N→N-k<n→acc.length=k→(∀d∈acc,0≤d∧d≤4)→
  ∃l c' i' h',IL n N k code i h x1 x2 c acc=some ((((),c',()),()),((code,i',h',()),l,()))∧aJ l c'∧G3 code i'
 |0,_,_,_,_,_,_,h,_,_=>by omega
 |n+1,k,i,h,acc,hi,hk,hn,hacc,hd=>by
  simp only[IL,Rc,AB];by_cases Jq:k<N
  ·rw[ALI (by omega)]
   obtain⟨v,i1,h1',e,v0,v1,_,eJ⟩:=QD hc (h:=h) (n:=5) hi (by omega);rw[e];simp only[AMM];rw[ALI (by rw[BT];omega),AL (by omega) (by omega),show((k:Int)+1)=((k+1:Nat):Int)by omega];have:=v1 (by omega);exact ef hN h1 n (k+1) i1 h1' _ eJ (by omega) (by omega) (by simp[hacc]) (fun d hdd=>by
    grind)
  ·rw[ALT (by omega)]
   obtain⟨v,i1,h1',e,eJ⟩:=ra hc (h:=h) (n:=2) hi (by omega);rw[e];simp only[AMM];cases v
   ·exact⟨acc,c,i1,h1',rfl,⟨by omega,by omega,h1.1,h1.2,hd⟩,eJ⟩
   ·exact⟨acc,2,i1,h1',rfl,⟨by omega,by omega,by omega,by omega,hd⟩,eJ⟩
theorem n0{i h:Int}(hi:G3 code i):∃l c' i' h',Om code i h=some ((((),c',()),()),((code,i',h',()),l,()))∧aJ l c'∧G3 code i':=by
 unfold Om RD;obtain⟨v,i1,h1,e1,a1,b1,_,eJ⟩:=QD hc (h:=h) (n:=3) hi (by omega);rw[e1];simp only[AMM];obtain⟨w,i2,h2,e2,a2,b2,_,zG⟩:=QD hc (h:=h1) (n:=5) eJ (by omega);rw[e2];simp only[AMM];have:=b1 (by omega);have:=b2 (by omega);rw[AL (by omega) (by omega),AL (by omega) (by omega)];obtain⟨N,hN⟩:∃N:Nat,3+w=(N:Int):=⟨(3+w).toNat,by omega⟩;rw[hN];exact ef hc (by omega) (by omega) Ae 0 i2 h2 [] zG (by omega) (Ag (by omega)) rfl (by simp)
end
end Go.M
end
section
namespace Go.M.H
open Go.M
def Af{α:Type}(f:α→Nat):List α→Nat
 |[]=>0
 |x::l=>1+f x+Af f l
theorem AW{α:Type}{f:α→Nat}:∀{l:List α},l.length≤Af f l
 |[]=>APz _
 |x::l=>by
  have:=AW (f:=f) (l:=l);grind[Af,List.length_cons]
theorem AZ{α:Type}{f:α→Nat}{x:α}:∀{l:List α},x∈l→f x≤Af f l
 |y::l,h=>by
  simp only[Af];rcases AO3.1 h with rfl|h
  ·omega
  ·have:=AZ (f:=f) h
   omega
abbrev AV1:Type:=List Int
abbrev DN(x:AV1):Nat:=x.length
abbrev AJ:Type:=Int×Int×Bool×List UInt8×Unit
abbrev tC:Go.Fw.Ty:= .cons (.int .i64) (.cons (.int .i64) (.cons .bool (.cons .str (.unit))))
def Ar(x:AJ):Nat:=x.2.2.2.1.length
abbrev AN:Type:=List AJ×List AJ×Int×Unit
abbrev AJP:Go.Fw.Ty:= .cons (.sl tC) (.cons (.sl tC) (.cons (.int .i64) (.unit)))
def An(x:AN):Nat:=Af Ar x.1+Af Ar x.2.1
abbrev CX:Type:=List Int×Bool×Int×Unit
abbrev ADC:Go.Fw.Ty:= .cons (.sl (.int .i64)) (.cons .bool (.cons (.int .i64) (.unit)))
def CL(x:CX):Nat:=x.1.length
abbrev AQ:Type:=List CX×Int×Unit
abbrev A9:Type:=List UInt8×List Int×Bool×Unit
abbrev yj:Go.Fw.Ty:= .cons .str (.cons (.sl (.int .i64)) (.cons .bool (.unit)))
def BU(x:A9):Nat:=x.1.length+x.2.1.length
abbrev AM:Type:=Int×List A9×Unit
abbrev pD:Go.Fw.Ty:= .cons (.int .i64) (.cons (.sl yj) (.unit))
def Ax(x:AM):Nat:=Af BU x.2.1
abbrev Au:Type:=Int×Int×List Int×List AJ×Bool×List AAH×Unit
abbrev AQd:Go.Fw.Ty:= .cons (.int .i64) (.cons (.int .i64) (.cons (.sl (.int .i64)) (.cons (.sl tC) (.cons .bool (.cons (.sl (.sl (.int .i64))) (.unit))))))
def Ca(x:Au):Nat:=x.2.2.1.length+Af Ar x.2.2.2.1+Af DN x.2.2.2.2.2.1
abbrev BG:Type:=Int×Int×List UInt8×Unit
abbrev AHx:Go.Fw.Ty:= .cons (.int .i64) (.cons (.int .i64) (.cons .str (.unit)))
def Ch(x:BG):Nat:=x.2.2.1.length
abbrev Ab:Type:=Int×Int×List BG×Unit
abbrev ADg:Go.Fw.Ty:= .cons (.int .i64) (.cons (.int .i64) (.cons (.sl AHx) (.unit)))
def BD(x:Ab):Nat:=Af Ch x.2.2.1
abbrev As:Type:=Int×Bool×Int×Int×Bool×List UInt8×Unit
abbrev Ac:Type:=Int×List UInt8×Bool×Unit
abbrev ANw:Go.Fw.Ty:= .cons (.int .i64) (.cons .str (.cons .bool (.unit)))
def Es(x:Ac):Nat:=x.2.1.length
abbrev AA:Type:=List Int×Int×List AN×List Int×List CX×Int×List AM×List Au×List Ab×List Ac×Bool×Unit
abbrev i_:Go.Fw.Ty:= .cons (.sl (.int .i64)) (.cons (.int .i64) (.cons (.sl AJP) (.cons (.sl (.int .i64)) (.cons (.sl ADC) (.cons (.int .i64) (.cons (.sl pD) (.cons (.sl AQd) (.cons (.sl ADg) (.cons (.sl ANw) (.cons .bool (.unit)))))))))))
def DF(x:AA):Nat:=x.1.length+Af An x.2.2.1+x.2.2.2.1.length+Af CL x.2.2.2.2.1+Af Ax x.2.2.2.2.2.2.1+Af Ca x.2.2.2.2.2.2.2.1+Af BD x.2.2.2.2.2.2.2.2.1+Af Es x.2.2.2.2.2.2.2.2.2.1
abbrev BO:Type:=Int×Int×Int×Int×List UInt8×Unit
end Go.M.H
end
section
namespace Go.M
def Ed(p:Nat→Bool)(i:Nat):Nat→Bool
 |0=>true
 |d+1=>p i&&Ed p (i+1) d
theorem GB{L:Nat→Int→Option (ABZ×Unit)}{len:Nat}{p:Nat→Bool}{fin:Bool}(h1:∀n (i:Nat),i<len→L (n+1) i=cond (p i) (L n ((i+1:Nat):Int)) (some ((false,()),())))(h2:∀n,L (n+1) (len:Int)=some ((fin,()),())):
  ∀d n i,i+d=len→d<n→L n i=some ((Ed p i d&&fin,()),())
 |0,n,i,hd,h=>by
  obtain⟨m,rfl⟩:∃m,n=m+1:=⟨n-1,by omega⟩;have:i=len:=by omega
  subst this;rw[h2];rfl
 |d+1,n,i,hd,h=>by
  obtain⟨m,rfl⟩:∃m,n=m+1:=⟨n-1,by omega⟩;rw[h1 m i (by omega)];simp only[Ed];cases p i with
  |false=>rfl
  |true=>rw[AMJ,GB h1 h2 d m (i+1) (by omega) (by omega)];rfl
theorem Rb{p:Nat→Bool}:∀{d i:Nat},Ed p i d=true→ ∀j,i≤j→j<i+d→p j=true
 |0,i,_,j,h1,h2=>by omega
 |d+1,i,h,j,h1,h2=>by
  simp only[Ed,ALp]at h;by_cases hj:j=i
  ·simp_all
  ·exact Rb h.2 j (by omega) (by omega)
theorem nt{p:Nat→Bool}:∀{d i:Nat},(∀j,i≤j→j<i+d→p j=true)→Ed p i d=true
 |0,_,_=>rfl
 |d+1,i,h=>by
  simp only[Ed,ALp];exact⟨h i (by omega) (by omega),nt fun j h1 h2=>h j (by omega) (by omega)⟩
def WI(x:Int):Int:=x.tdiv 4294967296
def BN(x:Int):Bool:=BK (WI x) 1 30&&BK (x.tmod 4294967296) 1 60
def AO(x:Int):Int:=if BN x then WI x else 0
theorem gz{x:Int}(h: -9223372036854775808≤x∧x<9223372036854775808):AX (x.tdiv 4294967296)=WI x:=by
 grind[WI,AL,Int.lt_or_le,Int.neg_tdiv,Int.tdiv_eq_ediv_of_nonneg]
theorem cm{x:Int}(h:BN x=true):0<x∧x<2^40:=by
 simp only[BN,BK,ALp,AMC]at h;grind[WI,Int.lt_or_le,Int.neg_tdiv,Int.tdiv_eq_ediv_of_nonneg,Int.tmod_eq_emod_of_nonneg]
def DJ(x:Int):Prop:= -9223372036854775808≤x∧x<9223372036854775808
theorem IE{x:Int}(h:DJ x):HT x=some ((BN x,()),()):=by
 unfold HT;rw[gz h,AB];split
 ·grind[Bd,BN,BK,WI]
 ·rename_i h0
  rcases AK7 (BN x)with hp|hp
  ·exact absurd (cm hp).1 (by omega)
  ·rw[hp]
theorem Pz{x:Int}(h:DJ x):D6 x=some ((BN x,()),()):=by
 unfold D6 HS XD;rw[gz h];grind[Ay,BN,BK,WI]
theorem Ey{x:Int}(h:DJ x):C0 x=some ((AO x,()),()):=by
 unfold C0 AO;rw[IE h,gz h];grind
theorem E4{x:Int}(h:DJ x):FB x=some ((AO x,()),()):=by
 unfold FB AO;rw[Pz h,gz h];grind
theorem eU{x:Int}:(BN x=true→1≤AO x∧AO x≤30)∧(BN x=false→AO x=0):=by
 constructor
 ·intro h
  rw[AO,ALI h];simp only[BN,BK,ALp,AMC]at h;omega
 grind[AO]
def tH(l:AAH)(hi:Int)(i:Nat):Bool:=BK (l.getD i 0) 0 hi&&(i==0||decide (l.getD (i-1) 0<l.getD i 0))
def pk(l:AAH)(hi:Int):Bool:=Ed (tH l hi) 0 l.length
theorem eu{l:AAH}{hi:Int}(hl:l.length≤2^40):Ww l 0 hi=some ((pk l hi,()),()):=by
 unfold Ww Zs pk;rw[←AS4 (Ed _ _ _)];refine GB (L:=fun n i=>M0 n l 0 hi i) (len:=l.length) (p:=tH l hi) (fin:=true) (fun n i De=> ?_) (fun n=> ?_) l.length Ae 0 (by omega) (Ag (by omega))
 ·simp only[M0,Sx,AB]
  rw[ALI (by omega),ALI (by omega),Bd,AL (x:=(i:Int)+1) (by omega) (by omega)];simp only[AMM,AL2,tH];cases BK (l.getD i 0) 0 hi with
  |false=>rfl
  |true=>
   simp only[ALu,ALz,AMD];by_cases h0:i=0
   ·simp_all
   ·rw[ALI (by omega),AL (by omega) (by omega),ALI (by omega),ALI (by omega)]
    have h1:((i:Int)-1).toNat=i-1:=by omega
    have h2:(i==0)=false:=by simp_all
    rw[h1,h2,ASR];grind
 ·simp only[M0,Sx,AB]
  simp_all
theorem mQ{l:AAH}{hi:Int}(hl:l.length≤2^40):Vs l hi=some ((pk l hi,()),()):=by
 unfold Vs XC pk;rw[←AS4 (Ed _ _ _)];refine GB (L:=fun n i=>Jv n l hi l l.length i) (len:=l.length) (p:=tH l hi) (fin:=true) (fun n i De=> ?_) (fun n=> ?_) l.length Ae 0 (by omega) (Ag (by omega))
 ·simp only[Jv,QJ,AB]
  rw[ALI (by omega),ALI (by omega),Ay,AL (x:=(i:Int)+1) (by omega) (by omega)];simp only[AMM,AL2,tH];cases BK (l.getD i 0) 0 hi with
  |false=>rfl
  |true=>
   simp only[ALu,ALz,AMD];by_cases h0:i=0
   ·simp_all
   ·rw[ALI (by omega),AL (by omega) (by omega),ALI (by omega)]
    have h1:((i:Int)-1).toNat=i-1:=by omega
    have h2:(i==0)=false:=by simp_all
    rw[h1,h2,ASR];grind
 ·simp only[Jv,QJ,AB]
  simp_all
theorem v8{l:AAH}{hi:Int}(h:pk l hi=true):∀x∈l,0≤x∧x≤hi:=fun x hx=>by
 obtain⟨i,De,rfl⟩:=AQU hx;have:=Rb h i (by omega) (by omega);simp only[tH,BK,ALp,AMC]at this;simp_all
theorem AAb{l:AAH}{hi:Int}(h:pk l hi=true):∀i,i<l.length→(i:Int)≤l.getD i 0
 |0,hl=>by
  have:=Rb h 0 (by omega) (by omega);simp only[tH,BK,ALp,AMC]at this;omega
 |i+1,hl=>by
  have h1:=AAb h i (by omega);have:=Rb h (i+1) (by omega) (by omega);simp only[tH,ALp,AR9,AMC]at this;grind
theorem AFS{l:AAH}{hi:Int}(h:pk l hi=true)(h0:0≤hi+1):(l.length:Int)≤hi+1:=by
 by_cases hl:l.length=0
 ·omega
 ·have h1:=AAb h (l.length-1) (by omega)
  have h2:=v8 h (l.getD (l.length-1) 0) (by
   grind)
  omega
def Aw(c:ABO)(l:AAH):Bool:=E6 c&&pk l ((c.1.length:Int)-1)
theorem Gw{c:ABO}{l:AAH}(hc:c.1.length≤2^40)(hl:l.length≤2^40):Gg c l=some ((Aw c l,()),()):=by
 unfold Gg Aw;rw[show(c.1,c.2.1,())=c from rfl,HH hc,AL (by omega) (by omega)];simp only[AMM];cases E6 c with
 |false=>rfl
 |true=>
  rw[AMJ,eu hl];rfl
theorem EB{c:ABO}{l:AAH}(hc:c.1.length≤2^40)(hl:l.length≤2^40):D7 c l=some ((Aw c l,()),()):=by
 unfold D7 Aw;rw[show(c.1,c.2.1,())=c from rfl,LD hc,AL (by omega) (by omega)];simp only[AMM];cases E6 c with
 |false=>rfl
 |true=>
  rw[AMJ,mQ hl];rfl
theorem iF{c:ABO}{l:AAH}(h:Aw c l=true):E6 c=true∧c.1.length≤8∧l.length≤8∧(∀x∈l,0≤x∧x<c.1.length)∧ ∀d∈c.1,0≤d∧d≤7:=by
 simp only[Aw,ALp]at h;obtain⟨k1,k2,k3,k4,k5⟩:=Fq h.1;have h1:=AFS h.2 (by omega);exact⟨h.1,k2,by omega,fun x hx=>by have:=v8 h.2 x hx;omega,k5⟩
theorem AAc{l:AAH}{x:Int}(hl:l.length≤2^40):∀(n i:Nat),i≤l.length→l.length-i<n→(∀y∈l.take i,y≠x)→
  ∃r:Int,GI n l x l.length i=some ((r,()),())∧decide (r≥0)=l.contains x
 |0,_,_,h,_=>by omega
 |n+1,i,hi,h,hx=>by
  simp only[GI,Ns,AB];by_cases hc:i<l.length
  ·rw[ALI (by omega),ALI (by omega),Ak hc,AL (by omega) (by omega)]
   by_cases he:x=l[i]
   ·simp_all
   ·obtain⟨r,e1,e2⟩:=AAc hl n (i+1) (by omega) (by omega) (fun y hy=>by
     rw[ASo hc]at hy;rcases AOs.1 hy with hy|hy
     ·exact hx y hy
     grind)
    grind
  ·rw[ALT (by omega)]
   grind
theorem It{l:AAH}{x:Int}(hl:l.length≤2^40):Bt l x=some ((l.contains x,()),()):=by
 unfold Bt Nl N4;obtain⟨r,e1,e2⟩:=AAc (x:=x) hl Ae 0 (by omega) (Ag (by omega)) (by simp);simp_all
def jD(c:AAH):List Int→List Int→List Int
 |[],acc=>acc
 |n::l,acc=>jD c l (if acc.contains (c.getD n.toNat 0)then acc else acc++[c.getD n.toNat 0])
def aC(c:AAH)(l:AAH):Nat:=(jD c l []).length
theorem Yo{c:AAH}{q:Int}{l:AAH}(hl:l.length≤8)(hm:∀x∈l,0≤x∧x<c.length):∀(n i:Nat) (acc:AAH),i≤l.length→l.length-i<n→acc.length≤i→
  Nt n l l.length i c q acc=some ((((jD c (l.drop i) acc).length:Int),()),())
 |0,i,_,_,h,_=>by omega
 |n+1,i,acc,hi,h,ha=>by
  simp only[Nt,Xe,AB];by_cases hc:i<l.length
  ·have hx:=hm _ (AL5 hc)
   rw[ALI (by omega),ALI (by omega),Ak hc,drop_cons hc]
   generalize l[i]=x at hx
   rw[ALI (by omega),It (by omega),AL (by omega) (by omega),show((i:Int)+1)=((i+1:Nat):Int)by omega];simp only[AMM,jD];cases AUq:acc.contains (c.getD x.toNat 0)with
   |true=>
    simp only[ALu,ALz,ASe];exact Yo hl hm n (i+1) acc (by omega) (by omega) (by omega)
   |false=>
    simp only[ARU,AMJ,ALr,AOV];rw[ALI (by omega),ALI (by rw[BT];omega)];exact Yo hl hm n (i+1) _ (by omega) (by omega) (by simp_all)
  ·rw[ALT (by omega)]
   grind[jD]
theorem oe{c:ABO}{l:AAH}(hc:c.1.length≤2^40)(hl:l.length≤2^40):Xn c l=some ((if Aw c l then(aC c.1 l:Int)else-1,()),()):=by
 unfold Xn YR;rw[show(c.1,c.2.1,())=c from rfl,EB hc hl];simp only[AMM];cases h:Aw c l with
 |false=>rfl
 |true=>
  obtain⟨k1,k2,k3,k4,k5⟩:=iF h;grind[Yo,Ae,Ag,aC]
theorem yw{s:List Bool}{k j:Nat}{b:Bool}(h:k<s.length):(s.set k b).getD j false=if k=j then b else s.getD j false:=by
 grind
theorem Yx{c:AAH}{q:Int}{l:AAH}(hl:l.length≤8)(hd:∀d∈c,0≤d∧d≤7)(hm:∀x∈l,0≤x∧x<c.length):∀(n i:Nat) (acc:AAH) (s:List Bool),i≤l.length→l.length-i<n→acc.length≤i→s.length=8→
  (∀j:Nat,j<8→s.getD j false=acc.contains (j:Int))→
  OI n l acc.length i c q s=some ((((jD c (l.drop i) acc).length:Int),()),())
 |0,i,_,_,_,h,_,_,_=>by omega
 |n+1,i,acc,s,hi,h,ha,hs,hj=>by
  simp only[OI,Xw,AB];by_cases hc:i<l.length
  ·have hx:=hm _ (AL5 hc)
   rw[ALI (by omega),ALI (by omega),Ak hc,drop_cons hc]
   generalize l[i]=x at hx
   rw[ALI (by omega)];have AbG:0≤c.getD x.toNat 0∧c.getD x.toNat 0≤7:=by
    simp_all
   simp only[jD]
   generalize c.getD x.toNat 0=d at AbG
   rw[ALI (by omega),AL (x:=(i:Int)+1) (by omega) (by omega),show((i:Int)+1)=((i+1:Nat):Int)by omega];have hsd:s.getD d.toNat false=acc.contains d:=by
    grind
   rw[hsd];cases AUq:acc.contains d with
   |true=>
    simp only[ALu,ALz,ASe];exact Yx hl hd hm n (i+1) acc s (by omega) (by omega) (by omega) hs hj
   |false=>
    simp only[ARU,AMJ,ALr,AOV];rw[ALI (by omega),AL (by omega) (by omega)];have:=Yx (q:=q) hl hd hm n (i+1) (acc++[d]) (s.set d.toNat true) (by omega) (by omega) (by simp_all) (by simp_all) (fun j hj8=>by
     rw[yw (by omega),hj j hj8];grind)
    simp_all
  ·rw[ALT (by omega)]
   grind[jD]
theorem cH{c:ABO}{l:AAH}(h:Aw c l=true):UW c l=some (((aC c.1 l:Int),()),()):=by
 obtain⟨k1,k2,k3,k4,k5⟩:=iF h;unfold UW X_;have:=Yx (c:=c.1) (q:=c.2.1) k3 k5 k4 Ae 0 [] (List.replicate 8 false) (by omega) (Ag (by omega)) (by simp) (by simp) (fun j hj=>by
  grind)
 grind[aC]
def holds(c:ABO)(l:AAH):Bool:=Aw c l&&decide ((aC c.1 l:Int)≥c.2.1)
theorem Ew{c:ABO}{l:AAH}(hc:c.1.length≤2^40)(hl:l.length≤2^40):FK c l=some ((holds c l,()),()):=by
 unfold FK holds;rw[show(c.1,c.2.1,())=c from rfl,Gw hc hl];simp only[AMM];cases h:Aw c l with
 |false=>rfl
 |true=>
  rw[AMJ,cH h];rfl
theorem GO{c:ABO}{l:AAH}(hc:c.1.length≤2^40)(hl:l.length≤2^40):Ge c l=some ((holds c l,()),()):=by
 unfold Ge holds;rw[show(c.1,c.2.1,())=c from rfl,EB hc hl,oe hc hl];simp only[AMM];cases h:Aw c l<;>rfl
theorem Ny{c:ABO}{l:AAH}(h:holds c l=true):Aw c l=true:=by
 simp only[holds,ALp]at h;exact h.1
end Go.M
end
section
namespace Go.M
open Go.M.H (CX AQ A9 AM Af AW AZ CL BU Ax ADC yj pD)
abbrev CK:Type:=List Int×Int×Unit
def GL:CX:=([],false,0,())
def pS(c:CK)(e:CX):Bool:=holds c e.1&&(BK e.2.2.1 0 60&&(e.2.1||e.2.2.1==0))
theorem qx{c:CK}{e:CX}(hc:c.1.length≤2^40)(hl:e.1.length≤2^40):ae c e=some ((pS c e,()),()):=by
 unfold ae pS;rw[show(c.1,c.2.1,())=c from rfl,GO hc hl];grind[Ay,holds,BK]
def te(c:CK)(l:List CX)(i:Nat):Bool:=
 pS c (l.getD i GL)&& !((l.getD i GL).2.1&&(decide (i+1=l.length)||(decide (0<i)&& !(l.getD (i-1) GL).2.1)))
def fE(r:AQ):Bool:=r.2.1==0||(BN r.2.1&&decide (AO r.2.1≤r.1.length))
def Mk(c:CK)(r:AQ):Bool:=E6 c&&(decide (r.1.length≤30)&&(fE r&&Ed (te c r.1) 0 r.1.length))
theorem BV{α:Type}{l:List α}{i:Nat}{d:α}(h:i<l.length):l.getD i d∈l:=by
 simp_all
theorem mn{c:CK}{l:List CX}{tr:Int}(hc:c.1.length≤2^40)(hl:Af CL l≤2^30):Kh Ae l.length 0 c.1 c.2.1 l tr=some ((Ed (te c l) 0 l.length,()),()):=by
 have zn:=AW (f:=CL) (l:=l);rw[←AS4 (Ed _ _ _)];refine GB (L:=fun n i=>Kh n l.length i c.1 c.2.1 l tr) (len:=l.length) (p:=te c l) (fin:=true) (fun n i hi=> ?_) (fun n=> ?_) l.length Ae 0 (by omega) (Ag (by omega))
 ·have hm:=AZ (f:=CL) (BV (d:=GL) hi)
  simp only[CL]at hm;simp only[Kh,TL,AB];rw[ALI (by omega),ALI (by omega),show(c.1,c.2.1,())=c from rfl,AL2,show(([],false,0,()):CX)=GL from rfl,Ew hc (by omega),Bd,AL (x:=(i:Int)+1) (by omega) (by omega),
   AL (x:=(l.length:Int)-1) (by omega) (by omega),AL (x:=(i:Int)-1) (by omega) (by omega),show((i:Int)+1)=((i+1:Nat):Int)by omega]
  simp only[AMM,te,pS];have e1:((i:Int)==(l.length:Int)-1)=decide (i+1=l.length):=by
   grind
  have e2:(((i:Int)-1).toNat)=i-1:=by omega
  grind
 ·simp only[Kh,TL,AB]
  simp_all
theorem Pg{c:CK}{r:AQ}(hc:c.1.length≤2^40)(hl:Af CL r.1≤2^30)(ht:DJ r.2.1):MA c r=some ((Mk c r,()),()):=by
 unfold MA ZM Mk fE;rw[show(c.1,c.2.1,())=c from rfl,HH hc,mn hc hl,IE ht,Ey ht];grind
theorem Mu{c:CK}{r:AQ}(hc:c.1.length≤2^40)(hl:Af CL r.1≤2^30)(ht:DJ r.2.1):Kc c r=some ((Mk c r,()),()):=by
 have zn:=AW (f:=CL) (l:=r.1);have ADj:Ke Ae r.1 r.1.length 0 c.1 c.2.1 r.1 r.2.1=some ((Ed (te c r.1) 0 r.1.length&&(E6 c&&(decide (r.1.length≤30)&&fE r)),()),()):=by
  refine GB (L:=fun n i=>Ke n r.1 r.1.length i c.1 c.2.1 r.1 r.2.1) (len:=r.1.length) (p:=te c r.1) (fin:=E6 c&&(decide (r.1.length≤30)&&fE r)) (fun n i hi=> ?_) (fun n=> ?_) r.1.length Ae 0 (by omega) (Ag (by omega))
  ·have hm:=AZ (f:=CL) (BV (d:=GL) hi)
   simp only[CL]at hm;simp only[Ke,TE,AB];rw[ALI (by omega),ALI (by omega),show(c.1,c.2.1,())=c from rfl,AL2,show(([],false,0,()):CX)=GL from rfl];rw[show((r.1.getD i GL).1,(r.1.getD i GL).2.1,(r.1.getD i GL).2.2.1,())=r.1.getD i GL from rfl,qx hc (by omega),AL (x:=(i:Int)+1) (by omega) (by omega),
    AL (x:=(r.1.length:Int)-1) (by omega) (by omega),AL (x:=(i:Int)-1) (by omega) (by omega),show((i:Int)+1)=((i+1:Nat):Int)by omega]
   simp only[AMM,te];have e1:((i:Int)==(r.1.length:Int)-1)=decide (i+1=r.1.length):=by
    grind
   have e2:(((i:Int)-1).toNat)=i-1:=by omega
   grind
  ·simp only[Ke,TE]
   rw[show decide ((r.1.length:Int)<(r.1.length:Int))=false by simp,show(c.1,c.2.1,())=c from rfl,LD hc,E4 ht];simp only[ALz,AMM,Ay,fE];have e1:decide ((r.1.length:Int)≤30)=decide (r.1.length≤30):=by
    grind
   rw[e1];have e4:BK (AO r.2.1) 1 (r.1.length:Int)=(BN r.2.1&&decide (AO r.2.1≤(r.1.length:Int))):=by
    have hr:=eU (x:=r.2.1);unfold BK;grind
   grind
 grind[Kc,Z0,Mk,E6,decide,fE,Ed,te]
def ADL(b:Bool):Int:=if b then 1 else 0
theorem l_(b:Bool):aR b=some ((ADL b,()),()):=by cases b<;>rfl
end Go.M
end
section
namespace Go.M
open Go.M.H (CX AQ A9 AM Af AW AZ CL BU Ax ADC yj pD)
def Kn:A9:=([],[],false,())
def aQ(c:CK)(e:A9):Bool:=decide (e.1.length≤40)&&(Aw c e.2.1&&(e.2.2.1==holds c e.2.1))
def Qz:List A9→Nat
 |[]=>0
 |e::l=>cond e.2.2.1 0 1+Qz l
def le6(n:Nat):Bool:=decide (n≤6)
theorem zx(o:Nat):decide ((o:Int)≤6)=le6 o:=by
 grind[le6]
def Fc(c:CK)(w:AM):Bool:=E6 c&&(BK w.1 1 30&&(decide (w.2.1.length≤60)&&(w.2.1.all (aQ c)&&le6 (Qz w.2.1))))
theorem bH{c:CK}{ep:Int}{l:List A9}(hc:c.1.length≤2^40)(hl:Af BU l≤2^30):∀(n i o:Nat),i≤l.length→l.length-i<n→o≤i→
  LV n o i c.1 c.2.1 ep l=some (((l.drop i).all (aQ c)&&le6 (o+Qz (l.drop i)),()),())
 |0,i,_,_,h,_=>by omega
 |n+1,i,o,hi,h,ho=>by
  have zn:=AW (f:=BU) (l:=l);simp only[LV,VL,AB];by_cases qo:i<l.length
  ·have hm:=AZ (f:=BU) (AL5 qo)
   rw[ALI (by omega),ALI (by omega),Ak qo,drop_cons qo];have ih:=fun o=>bH (ep:=ep) hc hl n (i+1) o (by omega) (by omega)
   generalize l[i]=e at hm
   simp only[BU]at hm;rw[show(c.1,c.2.1,())=c from rfl,Gw hc (by omega),Ew hc (by omega),AL (x:=(i:Int)+1) (by omega) (by omega),AL (x:=(o:Int)+1) (by omega) (by omega),show((i:Int)+1)=((i+1:Nat):Int)by omega,show((o:Int)+1)=((o+1:Nat):Int)by omega];simp only[AMM,AS3,aQ,Qz];by_cases h40:e.1.length≤40
   ·rw[ALT (by omega),ARd h40,ih o (by omega),ih (o+1) (by omega)]
    cases Aw c e.2.1 with
    |false=>rfl
    |true=>
     cases hd:e.2.2.1 with
     |true=>
      grind
     |false=>
      grind
   grind
  ·rw[ALT (by omega)]
   grind[Qz,zx]
theorem LW{c:CK}{w:AM}(hc:c.1.length≤2^40)(hl:Af BU w.2.1≤2^30):HW c w=some ((Fc c w,()),()):=by
 have zn:=AW (f:=BU) (l:=w.2.1);unfold HW VP Fc;have h:=bH (ep:=w.1) hc hl Ae 0 0 (by omega) (Ag (by omega)) (by omega);rw[show((0:Nat):Int)=0 from rfl]at h;rw[show(c.1,c.2.1,())=c from rfl,HH hc,Bd,h];grind
theorem bc{c:CK}{ep:Int}{l:List A9}(hc:c.1.length≤2^40)(hl:Af BU l≤2^30):∀(n i o:Nat),i≤l.length→l.length-i<n→o≤i→
  LH n o l l.length i c.1 c.2.1 ep l=some (((l.drop i).all (aQ c)&&(E6 c&&(BK ep 1 30&&(decide (l.length≤60)&&le6 (o+Qz (l.drop i))))),()),())
 |0,i,_,_,h,_=>by omega
 |n+1,i,o,hi,h,ho=>by
  have zn:=AW (f:=BU) (l:=l);simp only[LH,VV];by_cases qo:i<l.length
  ·have hm:=AZ (f:=BU) (AL5 qo)
   rw[show decide ((i:Int)<(l.length:Int))=true by simp_all,AMJ,ALI (by omega),Ak qo,drop_cons qo];have ih:=fun o=>bc (ep:=ep) hc hl n (i+1) o (by omega) (by omega)
   generalize l[i]=e at hm
   simp only[BU]at hm;rw[show(c.1,c.2.1,())=c from rfl,EB hc (by omega),GO hc (by omega),l_,AL (x:=(i:Int)+1) (by omega) (by omega),show((i:Int)+1)=((i+1:Nat):Int)by omega];simp only[AMM,AS3,aQ,Qz,F7];have e40:decide ((e.1.length:Int)≤40)=decide (e.1.length≤40):=by
    grind
   rw[e40];cases hd:e.2.2.1 with
   |true=>
    rw[show AX ((o:Int)+ADL (!true))=(o:Int)by rw[ALu,show ADL false=0 from rfl,Int.add_zero,AL (by omega) (by omega)],ih o (by omega)];grind
   |false=>
    rw[show AX ((o:Int)+ADL (!false))=((o+1:Nat):Int)by rw[ARU,show ADL true=1 from rfl,AL (by omega) (by omega)];omega,ih (o+1) (by omega)];grind
  ·have:i=l.length:=by omega
   subst this;rw[show decide (((l.length:Nat):Int)<(l.length:Int))=false by simp,show(c.1,c.2.1,())=c from rfl,LD hc];simp only[ALz,AMM,HS,Ay,ATA,List.all_nil,Qz,ATU,AMD];grind[decide,zx,E6,BK]
theorem I7{c:CK}{w:AM}(hc:c.1.length≤2^40)(hl:Af BU w.2.1≤2^30):GR c w=some ((Fc c w,()),()):=by
 have zn:=AW (f:=BU) (l:=w.2.1);unfold GR U8 Fc;have h:=bc (ep:=w.1) hc hl Ae 0 0 (by omega) (Ag (by omega)) (by omega);grind
theorem qc{c:CK}{w:AM}(h:Fc c w=true):E6 c=true∧(1≤w.1∧w.1≤30)∧w.2.1.length≤60∧ ∀e∈w.2.1,aQ c e=true:=by
 simp only[Fc,BK,ALp,AMC,AS0]at h;simp_all
end Go.M
end
section
namespace Go.M
open Go.M.H (AJ AN Au Ac AA CX AQ A9 AM Ab BG Af AW AZ Ar An Ca Es DF CL BU Ax BD Ch)
theorem AIN(a b:Int):decide (a≤b)= !decide (b<a):=by
 grind
theorem AUE(n k:Nat):decide ((n:Int)≤(k:Int))=decide (n≤k):=by
 simp_all
theorem AAA(n k:Nat):decide ((n:Int)>(k:Int))= !decide (n≤k):=by
 grind
def A7(x:Int):Int:=cond (BN x) (x.tmod 4294967296) 0
theorem ZF{x:Int}(h:DJ x):HG x=some ((A7 x,()),()):=by
 grind[HG,A7,IE,BN]
theorem Yk{x:Int}(h:DJ x):TA x=some ((A7 x,()),()):=by
 grind[TA,A7,Pz,BN]
abbrev Dq:AJ:=(0,0,false,[],())
def EU(e:AJ):Bool:=BN e.1&&(BK e.2.1 0 30&&((!decide (e.2.1>0)||decide (AO e.1<e.2.1))&&(decide (e.2.2.2.1.length≤40)&&(!e.2.2.1||(decide (e.2.1>0)&&e.2.2.2.1==[])))))
theorem Pt{e:AJ}(h:DJ e.1):L4 e=some ((EU e,()),()):=by
 unfold L4 EU;grind[IE,Bd,Ey,AIN,AO,decide,AAA,BN,BK]
theorem AWW{x:Int}(h:BK x 0 30=true):(x==0)= !decide (x>0):=by
 simp only[BK,AMC]at h;grind
theorem Pq{e:AJ}(h:DJ e.1):Lw e=some ((EU e,()),()):=by
 unfold Lw EU F7;rw[Pz h,Ay,E4 h];simp only[AMM];rw[show decide ((e.2.2.2.1.length:Int)≤40)=decide (e.2.2.2.1.length≤40)from AUE _ 40,show decide (e.2.1>AO e.1)=decide (AO e.1<e.2.1)from rfl];rcases AK7 (BK e.2.1 0 30)with hi|hi
 all_goals grind[AWW,BN,decide,AO]
def WX(l:List AJ):Bool:=Ed (fun i=>EU (l.getD i Dq)) 0 l.length
def iu(l:List AJ):Bool:=Ed (fun i=>i==0||decide ((l.getD (i-1) Dq).1<(l.getD i Dq).1)) 0 l.length
def qj(l:List AJ):Prop:= ∀e∈l,DJ e.1
theorem qj.getD{l:List AJ}(h:qj l){i:Nat}(hi:i<l.length):DJ (l.getD i Dq).1:=h _ (BV hi)
theorem dG{l:List AJ}{k:Nat}(hl:l.length≤2^40)(h:qj l):Ug l k=some ((decide (l.length≤k)&&WX l,()),()):=by
 unfold Ug Xm;have:=GB (L:=fun n i=>LX n l i) (len:=l.length) (p:=fun i=>EU (l.getD i Dq)) (fin:=true) (fun n i hi=>by
  simp only[LX,Rr,AB];rw[ALI (by omega),ALI (by omega),AL (by omega) (by omega),show((i:Int)+1)=((i+1:Nat):Int)by omega];simp only[AL2];rw[show((l.getD i (0,0,false,[],())).1,(l.getD i (0,0,false,[],())).2.1,(l.getD i (0,0,false,[],())).2.2.1,(l.getD i (0,0,false,[],())).2.2.2.1,())=l.getD i Dq from rfl,Pt (h.getD hi)];simp_all) (fun n=>by
  simp only[LX,Rr,AB];simp_all) l.length Ae 0 (by omega) (Ag (by omega))
 rw[show((0:Nat):Int)=0 from rfl]at this;rw[this,AAA,AS4];cases decide (l.length≤k)<;>rfl
theorem ec{l:List AJ}(hl:l.length≤2^40):W9 l=some ((iu l,()),()):=by
 unfold W9 Zn iu;have h1:∀n (i:Nat),0<i→i<l.length→GS (n+1) l i=cond (i==0||decide ((l.getD (i-1) Dq).1<(l.getD i Dq).1)) (GS n l ((i+1:Nat):Int)) (some ((false,()),())):=fun n i h0 hi=>by
  simp only[GS,Ox,AB];rw[ALI (by omega),AL (x:=(i:Int)-1) (by omega) (by omega),ALI (by omega),ALI (by omega),AL (by omega) (by omega),show((i:Int)+1)=((i+1:Nat):Int)by omega];have h1:((i:Int)-1).toNat=i-1:=by omega
  have h2:(i==0)=false:=by grind
  rw[h1,h2,AL2,ASR];grind
 cases hlen:l.length with
 |zero=>
  obtain⟨m,hm⟩:∃m,Ae=m+1:=⟨Ae-1,by have:=aF;omega⟩;rw[hm];simp only[GS,Ox,AB];rw[ALT (by omega)];rfl
 |succ k=>
  have:=GB (L:=fun n i=>if(0:Int)<i then GS n l i else cond (decide (0<n)) (GS (n-1) l 1) none) (len:=l.length) (p:=fun i=>i==0||decide ((l.getD (i-1) Dq).1<(l.getD i Dq).1)) (fin:=true) (fun n i hi=>by
   simp_all) (fun n=>by
   rw[ALI (by omega)];simp only[GS,Ox,AB];simp_all) l.length (Ae+1) 0 (by omega) (by have:=aF;omega)
  simp_all
theorem Xk{l:List AJ}(hl:l.length≤2^40)(h:qj l):N6 l=some ((WX l,()),()):=by
 unfold N6 Ue;have:=GB (L:=fun n i=>Hz n l l.length i) (len:=l.length) (p:=fun i=>EU (l.getD i Dq)) (fin:=true) (fun n i hi=>by
  simp only[Hz,OO,AB];rw[ALI (by omega),ALI (by omega),AL (by omega) (by omega),show((i:Int)+1)=((i+1:Nat):Int)by omega];simp only[AL2];rw[show((l.getD i (0,0,false,[],())).1,(l.getD i (0,0,false,[],())).2.1,(l.getD i (0,0,false,[],())).2.2.1,(l.getD i (0,0,false,[],())).2.2.2.1,())=l.getD i Dq from rfl,Pq (h.getD hi)];simp_all) (fun n=>by
  simp only[Hz,OO,AB];simp_all) l.length Ae 0 (by omega) (Ag (by omega))
 rw[show((0:Nat):Int)=0 from rfl]at this;rw[this,AS4];rfl
theorem UT{l:List AJ}(hl:l.length≤2^40):KF l=some ((iu l,()),()):=by
 unfold KF Qe;have:=GB (L:=fun n i=>GF n l l l.length i) (len:=l.length) (p:=fun i=>i==0||decide ((l.getD (i-1) Dq).1<(l.getD i Dq).1)) (fin:=true) (fun n i hi=>by
  simp only[GF,Lb,AB];rw[ALI (by omega),ALI (by omega),AL (x:=(i:Int)+1) (by omega) (by omega),show((i:Int)+1)=((i+1:Nat):Int)by omega];by_cases h0:i=0
  ·simp_all
  ·rw[ALI (by omega),AL (by omega) (by omega),ALI (by omega)]
   have h1:((i:Int)-1).toNat=i-1:=by omega
   have h2:(i==0)=false:=by simp_all
   rw[h1,h2,AL2,ASR];grind) (fun n=>by
  simp only[GF,Lb,AB];simp_all) l.length Ae 0 (by omega) (Ag (by omega))
 rw[show((0:Nat):Int)=0 from rfl]at this;rw[this,AS4];rfl
def CE(s:AN):Bool:=(decide (s.1.length≤200)&&WX s.1)&&((decide (s.2.1.length≤20)&&WX s.2.1)&&(iu s.1&&BK s.2.2.1 0 30))
def qR(s:AN):Prop:=qj s.1∧qj s.2.1
theorem Fj{s:AN}(hl:An s≤2^30)(h:qR s):Gn s=some ((CE s,()),()):=by
 have l1:=AW (f:=Ar) (l:=s.1);have l2:=AW (f:=Ar) (l:=s.2.1);unfold An at hl;have e1:=dG (l:=s.1) (k:=200) (by omega) h.1;have e2:=dG (l:=s.2.1) (k:=20) (by omega) h.2;rw[show((200:Nat):Int)=200 from rfl]at e1;rw[show((20:Nat):Int)=20 from rfl]at e2;grind[Gn,CE,ec,Bd,decide,WX,iu]
theorem Ex{s:AN}(hl:An s≤2^30)(h:qR s):FD s=some ((CE s,()),()):=by
 have l1:=AW (f:=Ar) (l:=s.1);have l2:=AW (f:=Ar) (l:=s.2.1);unfold An at hl;unfold FD CE;rw[Xk (by omega) h.1,Xk (by omega) h.2,UT (by omega),Ay,show decide ((s.1.length:Int)>200)= !decide (s.1.length≤200)from AAA _ 200,show decide ((s.2.1.length:Int)>20)= !decide (s.2.1.length≤20)from AAA _ 20];grind
end Go.M
end
section
namespace Go.M
open Go.M.H (AJ AN Au Ac AA CX AQ A9 AM Ab BG Af AW AZ Ar An Ca Es DF CL BU Ax BD Ch DN)
theorem j7{L:Nat→Int→Option (ABZ×Unit)}{len N:Nat}{p:Nat→Bool}{fin:Bool}(h1:∀n (i:Nat),i<len→L (n+1) i=cond (p i) (L n ((i+1:Nat):Int)) (some ((false,()),())))(h2:∀n,N≤n→L (n+1) (len:Int)=some ((fin,()),())):
  ∀d n i,i+d=len→d+N<n→L n i=some ((Ed p i d&&fin,()),())
 |0,n,i,hd,h=>by
  obtain⟨m,rfl⟩:∃m,n=m+1:=⟨n-1,by omega⟩;have:i=len:=by omega
  subst this;rw[h2 m (by omega)];rfl
 |d+1,n,i,hd,h=>by
  obtain⟨m,rfl⟩:∃m,n=m+1:=⟨n-1,by omega⟩;rw[h1 m i (by omega)];simp only[Ed];cases p i with
  |false=>rfl
  |true=>rw[AMJ,j7 h1 h2 d m (i+1) (by omega) (by omega)];rfl
def Li(l:List AJ):Int:=cond (l.length==0) 0 (A7 (l.getD (l.length-1) Dq).1)
theorem cg{m:Au}(hl:m.2.2.2.1.length≤2^40)(h:qj m.2.2.2.1):Qr m=some ((Li m.2.2.2.1,()),()):=by
 unfold Qr Li;by_cases h0:m.2.2.2.1.length=0
 ·simp[h0]
 ·have e1:((m.2.2.2.1.length:Int)==0)=false:=by simp_all
  have e2:(m.2.2.2.1.length==0)=false:=by simp_all
  rw[e1,e2];simp only[ALz];rw[AL (by omega) (by omega),ALI (by omega),show((m.2.2.2.1.length:Int)-1).toNat=m.2.2.2.1.length-1 by omega,ZF (h.getD (by omega))];rfl
theorem bq{m:Au}(hl:m.2.2.2.1.length≤2^40)(h:qj m.2.2.2.1):Rs m=some ((Li m.2.2.2.1,()),()):=by
 unfold Rs Li;by_cases h0:m.2.2.2.1.length=0
 ·simp[h0]
 ·have e1:((m.2.2.2.1.length:Int)==0)=false:=by simp_all
  have e2:(m.2.2.2.1.length==0)=false:=by simp_all
  rw[e1,e2];simp only[ALz];rw[AL (by omega) (by omega),ALI (by omega),show((m.2.2.2.1.length:Int)-1).toNat=m.2.2.2.1.length-1 by omega,Yk (h.getD (by omega))];rfl
def sZ(l:List AJ)(ep by_:Int)(i:Nat):Bool:=EU (l.getD i Dq)&&((AO (l.getD i Dq).1==ep)&&decide ((l.getD i Dq).2.1<by_))
def sF(l:List AJ)(ep by_:Int):Bool:=Ed (sZ l ep by_) 0 l.length
def pg(c:CK)(l:List AAH):Bool:=Ed (fun i=>Aw c (l.getD i [])) 0 l.length
def G4(c:CK)(m:Au):Bool:=E6 c&&(BK m.2.1 1 30&&(BK m.1 (m.2.1+1) 30&&(Aw c m.2.2.1&&(iu m.2.2.2.1&&(sF m.2.2.2.1 m.2.1 m.1&&(pg c m.2.2.2.2.2.1&&((m.2.2.2.2.2.1.length:Int)==cond m.2.2.2.2.1 (Li m.2.2.2.1) 0)))))))
theorem JC{c:CK}{m:Au}(hc:c.1.length≤2^40)(hm:Ca m≤2^30)(h:qj m.2.2.2.1):Ip c m=some ((G4 c m,()),()):=by
 have l1:=AW (f:=Ar) (l:=m.2.2.2.1);have l2:=AW (f:=DN) (l:=m.2.2.2.2.2.1);unfold Ca at hm;have wr:∀n,m.2.2.2.2.2.1.length+1≤n→Hf n 0 c.1 c.2.1 m.1 m.2.1 m.2.2.1 m.2.2.2.1 m.2.2.2.2.1 m.2.2.2.2.2.1=some ((pg c m.2.2.2.2.2.1&&((m.2.2.2.2.2.1.length:Int)==cond m.2.2.2.2.1 (Li m.2.2.2.1) 0),()),()):=fun n hn=>by
  refine GB (L:=fun n i=>Hf n i c.1 c.2.1 m.1 m.2.1 m.2.2.1 m.2.2.2.1 m.2.2.2.2.1 m.2.2.2.2.2.1) (len:=m.2.2.2.2.2.1.length) (p:=fun i=>Aw c (m.2.2.2.2.2.1.getD i [])) (fin:=(m.2.2.2.2.2.1.length:Int)==cond m.2.2.2.2.1 (Li m.2.2.2.1) 0) (fun n i hi=> ?_) (fun n=> ?_) m.2.2.2.2.2.1.length n 0 (by omega) (by omega)
  ·have hwi:(m.2.2.2.2.2.1.getD i []).length≤Af DN m.2.2.2.2.2.1:=AZ (f:=DN) (BV (d:=[]) hi)
   simp only[Hf,SL,AB];rw[ALI (by omega),ALI (by omega),AL (by omega) (by omega),show((i:Int)+1)=((i+1:Nat):Int)by omega,AL2,show(c.1,c.2.1,())=c from rfl,Gw hc (by omega)];simp_all
  ·simp only[Hf,SL,AB]
   rw[ALT (by omega),show(m.1,m.2.1,m.2.2.1,m.2.2.2.1,m.2.2.2.2.1,m.2.2.2.2.2.1,())=m from rfl,cg (by omega) h];grind
 have se:=j7 (L:=fun n i=>JT n i c.1 c.2.1 m.1 m.2.1 m.2.2.1 m.2.2.2.1 m.2.2.2.2.1 m.2.2.2.2.2.1) (len:=m.2.2.2.1.length) (N:=m.2.2.2.2.2.1.length+1) (p:=sZ m.2.2.2.1 m.2.1 m.1) (fin:=pg c m.2.2.2.2.2.1&&((m.2.2.2.2.2.1.length:Int)==cond m.2.2.2.2.1 (Li m.2.2.2.1) 0)) (fun n i hi=>by
   simp only[JT,SF,AB,sZ];have hb:(0:Int)≤(i:Int)∧(i:Int)<(m.2.2.2.1.length:Int):=by omega
   rw[ALI hb.2,AL (by omega) (by omega),show((i:Int)+1)=((i+1:Nat):Int)by omega,AL2];simp only[ALI hb];rw[show((m.2.2.2.1.getD i (0,0,false,[],())).1,(m.2.2.2.1.getD i (0,0,false,[],())).2.1,(m.2.2.2.1.getD i (0,0,false,[],())).2.2.1,(m.2.2.2.1.getD i (0,0,false,[],())).2.2.2.1,())=m.2.2.2.1.getD i Dq from rfl,Pt (h.getD hi),Ey (h.getD hi)];grind) (fun n hn=>by
   simp only[JT,SF,AB];simp_all) m.2.2.2.1.length Ae 0 (by omega) (Ag (by omega))
 rw[show((0:Nat):Int)=0 from rfl]at se;unfold Ip YV G4;rw[show(c.1,c.2.1,())=c from rfl,HH hc,Bd,Bd,Gw hc (by omega),ec (by omega),se];simp only[AMM];rcases AK7 (BK m.2.1 1 30)with hi|hi
 ·have zG:=hi
  simp only[BK,AMC]at zG;rw[AL (by omega) (by omega),hi];cases E6 c<;>cases BK m.1 (m.2.1+1) 30<;>cases Aw c m.2.2.1<;>cases iu m.2.2.2.1<;>rfl
 simp_all
theorem ow{m:Au}(hm:Ca m≤2^30)(h:qj m.2.2.2.1):UX m=some ((sF m.2.2.2.1 m.2.1 m.1&&iu m.2.2.2.1,()),()):=by
 have l1:=AW (f:=Ar) (l:=m.2.2.2.1);unfold Ca at hm;unfold UX Xl;exact GB (L:=fun n i=>Ln n m.2.2.2.1 m.2.2.2.1.length i m.1 m.2.1 m.2.2.1 m.2.2.2.1 m.2.2.2.2.1 m.2.2.2.2.2.1) (len:=m.2.2.2.1.length) (p:=sZ m.2.2.2.1 m.2.1 m.1) (fin:=iu m.2.2.2.1) (fun n i hi=>by
  simp only[Ln,Q8,AB,sZ];rw[ALI (by omega),ALI (by omega),AL (by omega) (by omega),show((i:Int)+1)=((i+1:Nat):Int)by omega,AL2];rw[show((m.2.2.2.1.getD i (0,0,false,[],())).1,(m.2.2.2.1.getD i (0,0,false,[],())).2.1,(m.2.2.2.1.getD i (0,0,false,[],())).2.2.1,(m.2.2.2.1.getD i (0,0,false,[],())).2.2.2.1,())=m.2.2.2.1.getD i Dq from rfl,Pq (h.getD hi),E4 (h.getD hi)];grind) (fun n=>by
  simp only[Ln,Q8,AB];rw[ALT (by omega),UT (by omega)];rfl) m.2.2.2.1.length Ae 0 (by omega) (Ag (by omega))
theorem Hk{c:CK}{m:Au}(hc:c.1.length≤2^40)(hm:Ca m≤2^30)(h:qj m.2.2.2.1):Hj c m=some ((G4 c m,()),()):=by
 have l1:=AW (f:=Ar) (l:=m.2.2.2.1);have l2:=AW (f:=DN) (l:=m.2.2.2.2.2.1);have hm2:=hm;unfold Ca at hm;have key:=GB (L:=fun n i=>Lc n m.2.2.2.2.2.1 m.2.2.2.2.2.1.length i c.1 c.2.1 m.1 m.2.1 m.2.2.1 m.2.2.2.1 m.2.2.2.2.1 m.2.2.2.2.2.1) (len:=m.2.2.2.2.2.1.length) (p:=fun i=>Aw c (m.2.2.2.2.2.1.getD i []))
  (fin:=E6 c&&(BK m.2.1 1 30&&(BK m.1 (m.2.1+1) 30&&(Aw c m.2.2.1&&((sF m.2.2.2.1 m.2.1 m.1&&iu m.2.2.2.1)&&((m.2.2.2.2.2.1.length:Int)==cond m.2.2.2.2.1 (Li m.2.2.2.1) 0)))))) (fun n i hi=>by
   have hwi:(m.2.2.2.2.2.1.getD i []).length≤Af DN m.2.2.2.2.2.1:=AZ (f:=DN) (BV (d:=[]) hi);simp only[Lc,Ry,AB];rw[ALI (by omega),ALI (by omega),AL (x:=(i:Int)+1) (by omega) (by omega),show((i:Int)+1)=((i+1:Nat):Int)by omega,AL2,show(c.1,c.2.1,())=c from rfl,EB hc (by omega)];simp_all) (fun n=>by
   simp only[Lc,Ry,AB];rw[ALT (by omega),show(m.1,m.2.1,m.2.2.1,m.2.2.2.1,m.2.2.2.2.1,m.2.2.2.2.2.1,())=m from rfl,bq (by omega) h,show(c.1,c.2.1,())=c from rfl,LD hc,EB hc (by omega),ow hm2 h];simp only[AMM,HS,Ay];rcases AK7 (BK m.2.1 1 30)with hi|hi
   ·have zG:=hi
    simp only[BK,AMC]at zG;grind[AL,E6,BK,Aw,sF,iu]
   simp_all) m.2.2.2.2.2.1.length Ae 0 (by omega) (Ag (by omega))
 unfold Hj YP G4;rw[show((0:Nat):Int)=0 from rfl]at key;grind[pg,Ed,Aw,E6,BK,sF,iu]
end Go.M
end
section
namespace Go.M
open Go.M.H (AJ AN Au Ac AA CX AQ A9 AM Ab BG Af AW AZ Ar An Ca Es DF CL BU Ax BD Ch DN)
theorem AC2{x:Int}{l:AAH}(hl:l.length≤2^40):∃r,Mx [x] l=some (((),()),(r,()))∧decide ((r.length:Int)>0)=l.contains x:=by
 obtain⟨m,hm⟩:∃m,Ae=m+2:=⟨Ae-2,by have:=aF;omega⟩;unfold Mx DG;rw[ALI (by rw[BT];simp)];simp only[AMM];unfold Cq Dy Di D8;rw[hm];simp only[CA,D4,Q5,ANW,AQF,AB];rw[ALI (by omega),ALI (by omega)];simp only[Int.toNat_zero,List.getD_cons_zero];rw[It hl];simp only[AMM];cases l.contains x with
 |true=>
  simp only[ALu,ALz];rw[AL (x:=0+1) (by omega) (by omega),ALT (by omega)];simp_all
 |false=>
  simp only[ARU,AMJ,AMM];rw[AL (x:=0+1) (by omega) (by omega)];simp only[B3,Dw,AB,ANW,AQF];simp_all
theorem Zl{w:AA}{x:Int}(hl:w.2.2.2.1.length≤2^40):C8 w x=some ((w.2.2.2.1.contains x,()),()):=by
 unfold C8;obtain⟨r,h1,h2⟩:=AC2 (x:=x) hl;simp_all
theorem KG{l:AAH}{x:Int}(hl:l.length≤2^40):DI l x=some ((l.contains x,()),()):=by
 have key:∀(n i:Nat),i≤l.length→l.length-i<n→PZ n l x i=some (((l.drop i).contains x,()),()):=by
  intro n
  induction n with
  |zero=>omega
  |succ n ih=>
   intro i hi h;simp only[PZ,Zi,AB];by_cases hc:i<l.length
   ·rw[ALI (by omega),ALI (by omega),AL (by omega) (by omega),show((i:Int)+1)=((i+1:Nat):Int)by omega,Ak hc,drop_cons hc,ih (i+1) (by omega) (by omega)]
    simp only[List.contains_cons];by_cases he:l[i]=x
    all_goals grind
   grind
 grind[DI,Zu,Ae,Ag]
def WL(l:List CX):Nat→Nat→Int
 |_,0=>0
 |i,d+1=>cond (!(l.getD i ([],false,0,())).2.1) ((i:Int)+1) (WL l (i+1) d)
def A5(l:List CX):Int:=WL l 0 l.length
theorem NU{r:AQ}(hl:r.1.length≤2^40):JZ r=some ((A5 r.1,()),()):=by
 have key:∀(d n i:Nat),i+d=r.1.length→d<n→H5 n i r.1 r.2.1=some ((WL r.1 i d,()),()):=by
  intro d
  induction d with
  |zero=>
   intro n i hi hn;obtain⟨m,rfl⟩:∃m,n=m+1:=⟨n-1,by omega⟩;simp only[H5,OG,AB,WL];simp_all
  |succ d ih=>
   intro n i hi hn;obtain⟨m,rfl⟩:∃m,n=m+1:=⟨n-1,by omega⟩;simp only[H5,OG,AB,WL];rw[ALI (by omega),ALI (by omega),AL (by omega) (by omega),show((i:Int)+1)=((i+1:Nat):Int)by omega,ih m (i+1) (by omega) (by omega),AL2];grind
 grind[JZ,Tz,A5,Ae,Ag]
theorem Rx{r:AQ}(hl:r.1.length≤2^40):La r=some ((A5 r.1,()),()):=by
 have key:∀(d n i:Nat),i+d=r.1.length→d<n→H0 n r.1 r.1.length i=some ((WL r.1 i d,()),()):=by
  intro d
  induction d with
  |zero=>
   intro n i hi hn;obtain⟨m,rfl⟩:∃m,n=m+1:=⟨n-1,by omega⟩;simp only[H0,N_,AB,WL];simp_all
  |succ d ih=>
   intro n i hi hn;obtain⟨m,rfl⟩:∃m,n=m+1:=⟨n-1,by omega⟩;simp only[H0,N_,AB,WL];rw[ALI (by omega),ALI (by omega),AL (by omega) (by omega),show((i:Int)+1)=((i+1:Nat):Int)by omega,ih m (i+1) (by omega) (by omega),AL2];grind
 grind[La,Uf,A5,Ae,Ag]
structure jX (w:AA):Prop where
 weight:DF w≤2^20
 Aj:∀s∈w.2.2.1,qR s
 trim:DJ w.2.2.2.2.2.1
 BW:∀m∈w.2.2.2.2.2.2.2.1,qj m.2.2.2.1
 HQ:∀s∈w.2.2.2.2.2.2.2.2.2.1,DJ s.1
abbrev Ci:AN:=([],[],0,())
abbrev Bo:AM:=(0,[],())
abbrev Ql:Au:=(0,0,[],[],false,[],())
abbrev Dj:Ab:=(0,0,[],())
abbrev MW:Ac:=(0,[],false,())
def AS(w:AA):CK:=(w.1,w.2.1,())
def B7(w:AA):AQ:=(w.2.2.2.2.1,w.2.2.2.2.2.1,())
def ky(w:AA)(i:Nat):Bool:=CE (w.2.2.1.getD i Ci)&&(!w.2.2.2.1.contains (i:Int)||((w.2.2.1.getD i Ci).1.length==0&&((w.2.2.1.getD i Ci).2.1.length==0&&(w.2.2.1.getD i Ci).2.2.1==0)))
def dt(w:AA)(i:Nat):Bool:=Fc (AS w) (w.2.2.2.2.2.2.1.getD i Bo)&&(decide ((w.2.2.2.2.2.2.1.getD i Bo).1≤(w.2.2.2.2.1.length:Int))&&(i==0||decide ((w.2.2.2.2.2.2.1.getD (i-1) Bo).1<(w.2.2.2.2.2.2.1.getD i Bo).1)))
def sB(w:AA)(i:Nat):Bool:=G4 (AS w) (w.2.2.2.2.2.2.2.1.getD i Ql)&&(((w.2.2.2.2.2.2.2.1.getD i Ql).1==(w.2.2.2.2.1.length:Int))&&((w.2.2.2.2.2.2.2.1.getD i Ql).2.1==A5 w.2.2.2.2.1))
def sD(w:AA)(i:Nat):Bool:=(BN (w.2.2.2.2.2.2.2.2.2.1.getD i MW).1&&decide (AO (w.2.2.2.2.2.2.2.2.2.1.getD i MW).1≤(w.2.2.2.2.1.length:Int)))&&(decide ((w.2.2.2.2.2.2.2.2.2.1.getD i MW).2.1.length≤40)&&(i==0||decide ((w.2.2.2.2.2.2.2.2.2.1.getD (i-1) MW).1<(w.2.2.2.2.2.2.2.2.2.1.getD i MW).1)))
def de(w:AA):Bool:=Ed (ky w) 0 w.2.2.1.length
def ZX(w:AA):Bool:=Ed (dt w) 0 w.2.2.2.2.2.2.1.length
def ft(w:AA):Bool:=Ed (sB w) 0 w.2.2.2.2.2.2.2.1.length
def sa(w:AA):Bool:=Ed (sD w) 0 w.2.2.2.2.2.2.2.2.2.1.length
def cB(w:AA):Bool:=decide (w.2.2.2.2.2.2.2.2.1.length=2)&&(Wp (w.2.2.2.2.2.2.2.2.1.getD 0 Dj)&&Wp (w.2.2.2.2.2.2.2.2.1.getD 1 Dj))
def IM(w:AA):Bool:=E6 (AS w)&&(decide (w.2.2.1.length=w.1.length)&&(Aw (AS w) w.2.2.2.1&&((w.2.2.2.2.2.2.2.2.2.2.1|| !holds (AS w) w.2.2.2.1)&&(de w&&(Mk (AS w) (B7 w)&&(decide (w.2.2.2.2.2.2.1.length≤4)&&(decide (w.2.2.2.2.2.2.2.1.length≤1)&&(ZX w&&(ft w&&(cB w&&(decide (w.2.2.2.2.2.2.2.2.2.1.length≤120)&&sa w)))))))))))
section
variable{w:AA} (h:jX w)
include h
theorem jX.lens:w.1.length≤2^20∧Af An w.2.2.1≤2^20∧w.2.2.2.1.length≤2^20∧Af CL w.2.2.2.2.1≤2^20∧Af Ax w.2.2.2.2.2.2.1≤2^20∧Af Ca w.2.2.2.2.2.2.2.1≤2^20∧Af BD w.2.2.2.2.2.2.2.2.1≤2^20∧Af Es w.2.2.2.2.2.2.2.2.2.1≤2^20:=by
 have:=h.weight;grind[DF]
theorem jX.OJ:w.2.2.1.length≤2^20∧w.2.2.2.2.1.length≤2^20∧w.2.2.2.2.2.2.1.length≤2^20∧w.2.2.2.2.2.2.2.1.length≤2^20∧w.2.2.2.2.2.2.2.2.1.length≤2^20∧w.2.2.2.2.2.2.2.2.2.1.length≤2^20:=by
 have k:=h.lens;grind[AW,An,CL,Ax,Ca,BD,Es]
theorem jX.cfg:(AS w).1.length≤2^40:=by
 have:=h.lens
 show w.1.length≤2^40
 omega
theorem ur:Kt w=some ((decide (w.2.2.1.length=w.1.length)&&(Aw (AS w) w.2.2.2.1&&(de w&&(w.2.2.2.2.2.2.2.2.2.2.1|| !holds (AS w) w.2.2.2.1))),()),()):=by
 have k1:=h.lens;have k2:=h.OJ;have key:=GB (L:=fun n i=>FE n w w.2.2.1 w.2.2.1.length i) (len:=w.2.2.1.length) (p:=ky w) (fin:=w.2.2.2.2.2.2.2.2.2.2.1|| !holds (AS w) w.2.2.2.1) (fun n i hi=>by
  have hm:=BV (d:=Ci) hi;have hw:=AZ (f:=An) hm;simp only[FE,Jp,AB,ky];rw[ALI (by omega),ALI (by omega),AL (x:=(i:Int)+1) (by omega) (by omega),show((i:Int)+1)=((i+1:Nat):Int)by omega,AL2,Zl (by omega)];rw[show((w.2.2.1.getD i ([],[],0,())).1,(w.2.2.1.getD i ([],[],0,())).2.1,(w.2.2.1.getD i ([],[],0,())).2.2.1,())=w.2.2.1.getD i Ci from rfl,Ex (by omega) (h.Aj _ hm)];simp only[AMM]
  show cond (!CE (w.2.2.1.getD i Ci)) _ _=_
  rcases AK7 (CE (w.2.2.1.getD i Ci))with hs|hs
  rotate_left
  ·simp_all
  rw[hs];have hs2:=hs;simp only[CE,BK,ALp,AMC]at hs2
  generalize w.2.2.1.getD i Ci=s at hw hs2
  cases w.2.2.2.1.contains ((i:Nat):Int)with
  |false=>rfl
  |true=>
   simp only[ALu,ALz,AMJ,AMD,ASR];unfold An at hw;have q1:=AW (f:=Ar) (l:=s.1);have q2:=AW (f:=Ar) (l:=s.2.1);rw[AL (x:=(s.1.length:Int)+_) (by omega) (by omega),AL (by omega) (by omega)];grind) (fun n=>by
  simp only[FE,Jp,AB];rw[ALT (by omega),show(w.1,w.2.1,())=AS w from rfl,GO h.cfg (by omega)];grind) w.2.2.1.length Ae 0 (by omega) (Ag (by omega))
 rw[show((0:Nat):Int)=0 from rfl]at key;unfold Kt PA de;rw[show(w.1,w.2.1,())=AS w from rfl,EB h.cfg (by omega),key];grind[decide_eq_true,Aw,AS,decide_eq_false]
end
end Go.M
end
section
namespace Go.M
open Go.M.H (AJ AN Au Ac AA CX AQ A9 AM Ab BG Af AW AZ Ar An Ca Es DF CL BU Ax BD Ch DN)
theorem zV{x lo hi:Int}(h:lo≤x):BK x lo hi=decide (x≤hi):=by
 grind[BK,decide_eq_true,decide_eq_false]
theorem ADV{x lo hi:Int}(h:x<lo):BK x lo hi=false:=by
 grind[BK,decide_eq_false]
section
variable{w:AA} (h:jX w)
include h
theorem tO:KC w=some ((ZX w&&decide (w.2.2.2.2.2.2.1.length≤4),()),()):=by
 have k1:=h.lens;have k2:=h.OJ;have key:=GB (L:=fun n i=>Ec n w w.2.2.2.2.2.2.1 w.2.2.2.2.2.2.1.length i) (len:=w.2.2.2.2.2.2.1.length) (p:=dt w) (fin:=decide (w.2.2.2.2.2.2.1.length≤4)) (fun n i hi=>by
  have hm:=BV (d:=Bo) hi;have hw:=AZ (f:=Ax) hm;unfold Ax at hw;simp only[Ec,JN,AB,dt,JE,Ay];rw[ALI (by omega),ALI (by omega),AL (x:=(i:Int)+1) (by omega) (by omega),show((i:Int)+1)=((i+1:Nat):Int)by omega,AL2];have hw2:Af BU (w.2.2.2.2.2.2.1.getD i Bo).2.1≤2^30:=by
   have:=k1.2.2.2.2.1;unfold Ax at this;omega
  rw[show((w.2.2.2.2.2.2.1.getD i (0,[],())).1,(w.2.2.2.2.2.2.1.getD i (0,[],())).2.1,())=w.2.2.2.2.2.2.1.getD i Bo from rfl,show(w.1,w.2.1,())=AS w from rfl,I7 h.cfg hw2];simp only[AMM];rcases AK7 (Fc (AS w) (w.2.2.2.2.2.2.1.getD i Bo))with hs|hs
  rotate_left
  ·simp_all
  have he:=(qc hs).2.1;rw[hs,show BK (w.2.2.2.2.2.2.1.getD i (0,[],())).1 1 (w.2.2.2.2.1.length:Int)=decide ((w.2.2.2.2.2.2.1.getD i Bo).1≤(w.2.2.2.2.1.length:Int))from zV he.1];simp only[ALu,ALz,AMD];cases decide ((w.2.2.2.2.2.2.1.getD i Bo).1≤(w.2.2.2.2.1.length:Int))with
  |false=>rfl
  |true=>
   simp only[ALu,ALz,AMD];by_cases h0:i=0
   ·simp_all
   ·rw[ALI (by omega),AL (by omega) (by omega),ALI (by omega)]
    have h1:((i:Int)-1).toNat=i-1:=by omega
    have h2:(i==0)=false:=by simp_all
    rw[h1,h2,ASR];grind) (fun n=>by
  simp only[Ec,JN,AB];simp_all;omega) w.2.2.2.2.2.2.1.length Ae 0 (by omega) (Ag (by omega))
 rw[show((0:Nat):Int)=0 from rfl]at key;grind[KC,OL,ZX]
theorem yW:L2 w=some ((ft w&&decide (w.2.2.2.2.2.2.2.1.length≤1),()),()):=by
 have k1:=h.lens;have k2:=h.OJ;have key:=GB (L:=fun n i=>FU n w w.2.2.2.2.2.2.2.1 w.2.2.2.2.2.2.2.1.length i) (len:=w.2.2.2.2.2.2.2.1.length) (p:=sB w) (fin:=decide (w.2.2.2.2.2.2.2.1.length≤1)) (fun n i hi=>by
  have hm:=BV (d:=Ql) hi;have hw:=AZ (f:=Ca) hm;simp only[FU,Kd,AB,sB];rw[ALI (by omega),ALI (by omega),AL (x:=(i:Int)+1) (by omega) (by omega),show((i:Int)+1)=((i+1:Nat):Int)by omega,AL2];rw[show((w.2.2.2.2.2.2.2.1.getD i (0,0,[],[],false,[],())).1,(w.2.2.2.2.2.2.2.1.getD i (0,0,[],[],false,[],())).2.1,(w.2.2.2.2.2.2.2.1.getD i (0,0,[],[],false,[],())).2.2.1,(w.2.2.2.2.2.2.2.1.getD i (0,0,[],[],false,[],())).2.2.2.1,(w.2.2.2.2.2.2.2.1.getD i (0,0,[],[],false,[],())).2.2.2.2.1,(w.2.2.2.2.2.2.2.1.getD i (0,0,[],[],false,[],())).2.2.2.2.2.1,())=w.2.2.2.2.2.2.2.1.getD i Ql from rfl,show(w.1,w.2.1,())=AS w from rfl,Hk h.cfg (by omega) (h.BW _ hm)];rw[Rx (by grind)];grind) (fun n=>by
  simp only[FU,Kd,AB];simp_all;omega) w.2.2.2.2.2.2.2.1.length Ae 0 (by omega) (Ag (by omega))
 rw[show((0:Nat):Int)=0 from rfl]at key;grind[L2,Pj,ft]
theorem uP:KB w=some ((cB w,()),()):=by
 have k2:=h.OJ;have key:=GB (L:=fun n i=>Ea n w w.2.2.2.2.2.2.2.2.1 w.2.2.2.2.2.2.2.2.1.length i) (len:=w.2.2.2.2.2.2.2.2.1.length) (p:=fun i=>Wp (w.2.2.2.2.2.2.2.2.1.getD i Dj)) (fin:=((w.2.2.2.2.2.2.2.2.1.length:Int)==2)) (fun n i hi=>by
  simp only[Ea,JG,AB];rw[ALI (by omega),ALI (by omega),AL (x:=(i:Int)+1) (by omega) (by omega),show((i:Int)+1)=((i+1:Nat):Int)by omega,AL2];rw[show((w.2.2.2.2.2.2.2.2.1.getD i (0,0,[],())).1,(w.2.2.2.2.2.2.2.2.1.getD i (0,0,[],())).2.1,(w.2.2.2.2.2.2.2.2.1.getD i (0,0,[],())).2.2.1,())=w.2.2.2.2.2.2.2.2.1.getD i Dj from rfl,Z6];simp_all) (fun n=>by
  simp only[Ea,JG,AB];simp_all) w.2.2.2.2.2.2.2.2.1.length Ae 0 (by omega) (Ag (by omega))
 rw[show((0:Nat):Int)=0 from rfl]at key;unfold KB OA cB;grind[Ed,decide_eq_false]
theorem ABG:NK w=some ((sa w&&decide (w.2.2.2.2.2.2.2.2.2.1.length≤120),()),()):=by
 have k2:=h.OJ;have key:=GB (L:=fun n i=>F5 n w w.2.2.2.2.2.2.2.2.2.1 w.2.2.2.2.2.2.2.2.2.1.length i) (len:=w.2.2.2.2.2.2.2.2.2.1.length) (p:=sD w) (fin:=decide (w.2.2.2.2.2.2.2.2.2.1.length≤120)) (fun n i hi=>by
  have hm:=BV (d:=MW) hi;have O9:DJ (w.2.2.2.2.2.2.2.2.2.1.getD i (0,[],false,())).1:=h.HQ _ hm;simp only[F5,Lq,AB,sD,JE,Ay,F7];rw[ALI (by omega),ALI (by omega),AL (x:=(i:Int)+1) (by omega) (by omega),show((i:Int)+1)=((i+1:Nat):Int)by omega,AL2,E4 O9];simp only[AMM];have e1:BK (AO (w.2.2.2.2.2.2.2.2.2.1.getD i (0,[],false,())).1) 1 (w.2.2.2.2.1.length:Int)=(BN (w.2.2.2.2.2.2.2.2.2.1.getD i MW).1&&decide (AO (w.2.2.2.2.2.2.2.2.2.1.getD i MW).1≤(w.2.2.2.2.1.length:Int))):=by
   show BK (AO (w.2.2.2.2.2.2.2.2.2.1.getD i MW).1) 1 (w.2.2.2.2.1.length:Int)=_
   have hr:=eU (x:=(w.2.2.2.2.2.2.2.2.2.1.getD i MW).1);rcases AK7 (BN (w.2.2.2.2.2.2.2.2.2.1.getD i MW).1)with hp|hp
   ·rw[hp,zV (hr.1 hp).1,AMD]
   ·rw[hp,hr.2 hp,ADV (by omega),ASk]
  rw[e1,show decide ((((w.2.2.2.2.2.2.2.2.2.1.getD i (0,[],false,())).2.1.length:Nat):Int)≤40)=decide ((w.2.2.2.2.2.2.2.2.2.1.getD i MW).2.1.length≤40)from AUE _ 40];cases(BN (w.2.2.2.2.2.2.2.2.2.1.getD i MW).1&&decide (AO (w.2.2.2.2.2.2.2.2.2.1.getD i MW).1≤(w.2.2.2.2.1.length:Int)))with
  |false=>rfl
  |true=>
   cases decide ((w.2.2.2.2.2.2.2.2.2.1.getD i MW).2.1.length≤40)with
   |false=>rfl
   |true=>
    simp only[ALu,ALz,AMD];by_cases h0:i=0
    ·simp_all
    ·rw[ALI (by omega),AL (by omega) (by omega),ALI (by omega)]
     have h1:((i:Int)-1).toNat=i-1:=by omega
     have h2:(i==0)=false:=by simp_all
     rw[h1,h2,ASR];grind) (fun n=>by
  simp only[F5,Lq,AB];simp_all;omega) w.2.2.2.2.2.2.2.2.2.1.length Ae 0 (by omega) (Ag (by omega))
 rw[show((0:Nat):Int)=0 from rfl]at key;grind[NK,Qw,sa]
theorem MX:Fm w=some ((IM w,()),()):=by
 have k1:=h.lens;unfold Fm IM;rw[show(w.1,w.2.1,w.2.2.1,w.2.2.2.1,w.2.2.2.2.1,w.2.2.2.2.2.1,w.2.2.2.2.2.2.1,w.2.2.2.2.2.2.2.1,w.2.2.2.2.2.2.2.2.1,w.2.2.2.2.2.2.2.2.2.1,w.2.2.2.2.2.2.2.2.2.2.1,())=w from rfl,show(w.1,w.2.1,())=AS w from rfl,show(w.2.2.2.2.1,w.2.2.2.2.2.1,())=B7 w from rfl];rw[LD h.cfg,ur h,Mu h.cfg (by show Af CL w.2.2.2.2.1≤_;omega) h.trim,tO h,yW h,uP h,ABG h];grind
end
end Go.M
end
section
namespace Go.M
open Go.M.H (AJ AN Au Ac AA CX AQ A9 AM Ab BG Af AW AZ Ar An Ca Es DF CL BU Ax BD Ch DN)
section
variable{w:AA} (h:jX w)
include h
theorem vg:Tf w=some ((E6 (AS w)&&(decide (w.2.2.1.length=w.1.length)&&(Aw (AS w) w.2.2.2.1&&((w.2.2.2.2.2.2.2.2.2.2.1|| !holds (AS w) w.2.2.2.1)&&de w))),()),()):=by
 have k1:=h.lens;have k2:=h.OJ;have key:=GB (L:=fun n i=>Iv n i w.1 w.2.1 w.2.2.1 w.2.2.2.1 w.2.2.2.2.1 w.2.2.2.2.2.1 w.2.2.2.2.2.2.1 w.2.2.2.2.2.2.2.1 w.2.2.2.2.2.2.2.2.1 w.2.2.2.2.2.2.2.2.2.1 w.2.2.2.2.2.2.2.2.2.2.1) (len:=w.2.2.1.length) (p:=ky w) (fin:=true) (fun n i hi=>by
  have hm:=BV (d:=Ci) hi;have hw:=AZ (f:=An) hm;simp only[Iv,PH,AB,ky];have hb:(0:Int)≤(i:Int)∧(i:Int)<(w.2.2.1.length:Int):=by omega
  rw[ALI hb.2,AL (x:=(i:Int)+1) (by omega) (by omega),show((i:Int)+1)=((i+1:Nat):Int)by omega,AL2,KG (by omega)];simp only[ALI hb];rw[show((w.2.2.1.getD i ([],[],0,())).1,(w.2.2.1.getD i ([],[],0,())).2.1,(w.2.2.1.getD i ([],[],0,())).2.2.1,())=w.2.2.1.getD i Ci from rfl,Fj (by omega) (h.Aj _ hm)];simp only[AMM]
  show cond (!CE (w.2.2.1.getD i Ci)) _ _=_
  cases CE (w.2.2.1.getD i Ci)with
  |false=>rfl
  |true=>
   cases w.2.2.2.1.contains ((i:Nat):Int)with
   |false=>rfl
   |true=>
    simp only[al,ALu,ALz,AMJ,AMD,ASR];have e1:∀n:Nat,((n:Int)==0)=(n==0):=fun n=>by
     grind
    grind) (fun n=>by
  simp only[Iv,PH,AB];simp_all) w.2.2.1.length Ae 0 (by omega) (Ag (by omega))
 rw[show((0:Nat):Int)=0 from rfl]at key;unfold Tf U3 de;rw[show(w.1,w.2.1,())=AS w from rfl,HH h.cfg,Gw h.cfg (by omega),Ew h.cfg (by omega),key];simp only[AMM,AS4];grind[decide_eq_true,E6,AS,Aw,holds,decide_eq_false]
theorem ta:Rp w=some ((Mk (AS w) (B7 w)&&(decide (w.2.2.2.2.2.2.1.length≤4)&&(decide (w.2.2.2.2.2.2.2.1.length≤1)&&(ZX w&&ft w))),()),()):=by
 have k1:=h.lens;have k2:=h.OJ;have me:∀n,w.2.2.2.2.2.2.2.1.length+1≤n→Ep n (w.2.2.2.2.1.length:Int) 0 w.1 w.2.1 w.2.2.1 w.2.2.2.1 w.2.2.2.2.1 w.2.2.2.2.2.1 w.2.2.2.2.2.2.1 w.2.2.2.2.2.2.2.1 w.2.2.2.2.2.2.2.2.1 w.2.2.2.2.2.2.2.2.2.1 w.2.2.2.2.2.2.2.2.2.2.1=some ((ft w,()),()):=fun n hn=>by
  have key:=GB (L:=fun n i=>Ep n (w.2.2.2.2.1.length:Int) i w.1 w.2.1 w.2.2.1 w.2.2.2.1 w.2.2.2.2.1 w.2.2.2.2.2.1 w.2.2.2.2.2.2.1 w.2.2.2.2.2.2.2.1 w.2.2.2.2.2.2.2.2.1 w.2.2.2.2.2.2.2.2.2.1 w.2.2.2.2.2.2.2.2.2.2.1) (len:=w.2.2.2.2.2.2.2.1.length) (p:=sB w) (fin:=true) (fun n i hi=>by
   have hm:=BV (d:=Ql) hi;have hw:=AZ (f:=Ca) hm;simp only[Ep,M8,AB,sB];rw[ALI (by omega),ALI (by omega),AL (x:=(i:Int)+1) (by omega) (by omega),show((i:Int)+1)=((i+1:Nat):Int)by omega,AL2];rw[show((w.2.2.2.2.2.2.2.1.getD i (0,0,[],[],false,[],())).1,(w.2.2.2.2.2.2.2.1.getD i (0,0,[],[],false,[],())).2.1,(w.2.2.2.2.2.2.2.1.getD i (0,0,[],[],false,[],())).2.2.1,(w.2.2.2.2.2.2.2.1.getD i (0,0,[],[],false,[],())).2.2.2.1,(w.2.2.2.2.2.2.2.1.getD i (0,0,[],[],false,[],())).2.2.2.2.1,(w.2.2.2.2.2.2.2.1.getD i (0,0,[],[],false,[],())).2.2.2.2.2.1,())=w.2.2.2.2.2.2.2.1.getD i Ql from rfl,show(w.1,w.2.1,())=AS w from rfl,JC h.cfg (by omega) (h.BW _ hm)];rw[NU (by grind)];grind) (fun n=>by
   simp only[Ep,M8,AB];simp_all) w.2.2.2.2.2.2.2.1.length n 0 (by omega) (by omega)
  rw[show((0:Nat):Int)=0 from rfl]at key;rw[key,AS4];rfl
 have key:=j7 (L:=fun n i=>Gk n (w.2.2.2.2.1.length:Int) i w.1 w.2.1 w.2.2.1 w.2.2.2.1 w.2.2.2.2.1 w.2.2.2.2.2.1 w.2.2.2.2.2.2.1 w.2.2.2.2.2.2.2.1 w.2.2.2.2.2.2.2.2.1 w.2.2.2.2.2.2.2.2.2.1 w.2.2.2.2.2.2.2.2.2.2.1) (len:=w.2.2.2.2.2.2.1.length) (N:=w.2.2.2.2.2.2.2.1.length+1) (p:=dt w) (fin:=ft w) (fun n i hi=>by
  have hm:=BV (d:=Bo) hi;have hw:=AZ (f:=Ax) hm;unfold Ax at hw;simp only[Gk,OB,AB,dt];have hb:(0:Int)≤(i:Int)∧(i:Int)<(w.2.2.2.2.2.2.1.length:Int):=by omega
  rw[ALI hb.2,AL (x:=(i:Int)+1) (by omega) (by omega),show((i:Int)+1)=((i+1:Nat):Int)by omega,AL2];simp only[ALI hb];have hw2:Af BU (w.2.2.2.2.2.2.1.getD i Bo).2.1≤2^30:=by
   have:=k1.2.2.2.2.1;unfold Ax at this;omega
  rw[show((w.2.2.2.2.2.2.1.getD i (0,[],())).1,(w.2.2.2.2.2.2.1.getD i (0,[],())).2.1,())=w.2.2.2.2.2.2.1.getD i Bo from rfl,show(w.1,w.2.1,())=AS w from rfl,LW h.cfg hw2];simp only[AMM];cases Fc (AS w) (w.2.2.2.2.2.2.1.getD i Bo)with
  |false=>rfl
  |true=>
   simp only[ALu,ALz,AMD];by_cases hle:(w.2.2.2.2.2.2.1.getD i (0,[],())).1≤(w.2.2.2.2.1.length:Int)
   ·rw[ALT (by omega),show decide ((w.2.2.2.2.2.2.1.getD i Bo).1≤(w.2.2.2.2.1.length:Int))=true from ARd hle,AMD]
    by_cases h0:i=0
    ·simp_all
    ·rw[ALI (by omega),AL (by omega) (by omega),ALI (by omega)]
     have h1:((i:Int)-1).toNat=i-1:=by omega
     have h2:(i==0)=false:=by simp_all
     rw[h1,h2,ASR];grind
   grind) (fun n hn=>by
  simp only[Gk,OB,AB];simp_all) w.2.2.2.2.2.2.1.length Ae 0 (by omega) (Ag (by omega))
 rw[show((0:Nat):Int)=0 from rfl]at key;unfold Rp T3 ZX;rw[show(w.1,w.2.1,())=AS w from rfl,show(w.2.2.2.2.1,w.2.2.2.2.2.1,())=B7 w from rfl,Pg h.cfg (by show Af CL w.2.2.2.2.1≤_;omega) h.trim,key];grind
theorem yy:Vl w=some ((decide (w.2.2.2.2.2.2.2.2.2.1.length≤120)&&sa w,()),()):=by
 have k2:=h.OJ;have key:=GB (L:=fun n i=>J1 n i w.1 w.2.1 w.2.2.1 w.2.2.2.1 w.2.2.2.2.1 w.2.2.2.2.2.1 w.2.2.2.2.2.2.1 w.2.2.2.2.2.2.2.1 w.2.2.2.2.2.2.2.2.1 w.2.2.2.2.2.2.2.2.2.1 w.2.2.2.2.2.2.2.2.2.2.1) (len:=w.2.2.2.2.2.2.2.2.2.1.length) (p:=sD w) (fin:=true) (fun n i hi=>by
  have hm:=BV (d:=MW) hi;have O9:DJ (w.2.2.2.2.2.2.2.2.2.1.getD i (0,[],false,())).1:=h.HQ _ hm;simp only[J1,QH,AB,sD];rw[ALI (by omega),ALI (by omega),AL (x:=(i:Int)+1) (by omega) (by omega),show((i:Int)+1)=((i+1:Nat):Int)by omega,AL2,IE O9,Ey O9];simp only[AMM]
  show cond (!BN (w.2.2.2.2.2.2.2.2.2.1.getD i MW).1) _ _=_
  cases BN (w.2.2.2.2.2.2.2.2.2.1.getD i MW).1 with
  |false=>rfl
  |true=>
   simp only[ALu,ALz,AMD];by_cases hle:AO (w.2.2.2.2.2.2.2.2.2.1.getD i (0,[],false,())).1≤(w.2.2.2.2.1.length:Int)
   ·rw[ALT (by omega),show decide (AO (w.2.2.2.2.2.2.2.2.2.1.getD i MW).1≤(w.2.2.2.2.1.length:Int))=true from ARd hle,AMD]
    by_cases h40:(w.2.2.2.2.2.2.2.2.2.1.getD i (0,[],false,())).2.1.length≤40
    ·rw[ALT (by omega),show decide ((w.2.2.2.2.2.2.2.2.2.1.getD i MW).2.1.length≤40)=true from ARd h40,AMD]
     by_cases h0:i=0
     ·simp_all
     ·rw[ALI (by omega),AL (by omega) (by omega),ALI (by omega)]
      have h1:((i:Int)-1).toNat=i-1:=by omega
      have h2:(i==0)=false:=by simp_all
      rw[h1,h2,ASR];grind
    grind
   grind) (fun n=>by
  simp only[J1,QH,AB];simp_all) w.2.2.2.2.2.2.2.2.2.1.length Ae 0 (by omega) (Ag (by omega))
 rw[show((0:Nat):Int)=0 from rfl]at key;unfold Vl Wx sa;grind
theorem Uq:Rm w=some ((IM w,()),()):=by
 unfold Rm IM cB;rw[show(w.1,w.2.1,w.2.2.1,w.2.2.2.1,w.2.2.2.2.1,w.2.2.2.2.2.1,w.2.2.2.2.2.2.1,w.2.2.2.2.2.2.2.1,w.2.2.2.2.2.2.2.2.1,w.2.2.2.2.2.2.2.2.2.1,w.2.2.2.2.2.2.2.2.2.2.1,())=w from rfl];rw[vg h,ta h,yy h,Oo,Oo];simp only[AMM];by_cases h2:w.2.2.2.2.2.2.2.2.1.length=2
 all_goals grind
end
end Go.M
end
section
namespace Go.M
open Go.M.H (AJ AN Au Ac AA CX AQ A9 AM Ab BG Af AW AZ Ar An Ca Es DF CL BU Ax BD Ch DN i_)
theorem jX.of{w:AA}(hv:Go.Fw.Vd i_ w)(hw:DF w≤2^20):jX w where
 weight:=hw
 Aj:=fun s hs=>⟨fun e he=>wf_i64 (((hv.2.2.1.2 s hs).1).2 e he).1,fun e he=>wf_i64 (((hv.2.2.1.2 s hs).2.1).2 e he).1⟩
 trim:=wf_i64 hv.2.2.2.2.2.1
 BW:=fun m hm e he=>wf_i64 (((hv.2.2.2.2.2.2.2.1.2 m hm).2.2.2.1).2 e he).1
 HQ:=fun s hs=>wf_i64 (hv.2.2.2.2.2.2.2.2.2.1.2 s hs).1
theorem jX.out{w:AA}(h:jX w){i:Nat}(hi:i<w.2.2.2.2.2.2.2.2.1.length):(w.2.2.2.2.2.2.2.2.1.getD i Dj).2.2.1.length≤2^20:=by
 have k:=h.lens;have h1:=AZ (f:=BD) (BV (d:=Dj) hi);have h2:=AW (f:=Ch) (l:=(w.2.2.2.2.2.2.2.2.1.getD i Dj).2.2.1);have h3:BD (w.2.2.2.2.2.2.2.2.1.getD i Dj)=Af Ch (w.2.2.2.2.2.2.2.2.1.getD i Dj).2.2.1:=rfl;omega
section
variable{w:AA} (h:jX w)
include h
end
end Go.M
end
section
namespace Go.M
open Go.M.H (AJ AN Au Ac AA CX AQ A9 AM Ab BG Af AW AZ Ar An Ca Es DF CL BU Ax BD Ch DN i_)
def rI(trim:Int)(s:Ac):Bool:=s.2.2.1&&decide (trim<s.1)
def Xt(w:AA):List Ac:=cond (IM w) (w.2.2.2.2.2.2.2.2.2.1.filter (rI w.2.2.2.2.2.1)) []
def fnd(p:Int):List Ac→List UInt8×Bool
 |[]=>([],false)
 |s::l=>cond (s.1==p) (s.2.1,true) (fnd p l)
section
variable{w:AA} (h:jX w)
include h
theorem aa(Bz:IM w=true):∀(n i:Nat) (acc:List Ac),i≤w.2.2.2.2.2.2.2.2.2.1.length→w.2.2.2.2.2.2.2.2.2.1.length-i<n→acc.length≤i→
  M3 n i w.1 w.2.1 w.2.2.1 w.2.2.2.1 w.2.2.2.2.1 w.2.2.2.2.2.1 w.2.2.2.2.2.2.1 w.2.2.2.2.2.2.2.1 w.2.2.2.2.2.2.2.2.1 w.2.2.2.2.2.2.2.2.2.1 w.2.2.2.2.2.2.2.2.2.2.1 acc=some (((),()),(acc++(w.2.2.2.2.2.2.2.2.2.1.drop i).filter (rI w.2.2.2.2.2.1),()))
 |0,i,_,_,hn,_=>by omega
 |n+1,i,acc,hi,hn,ha=>by
  have k2:=h.OJ;have hW:=Uq h;simp only[M3,TQ,AB];by_cases hc:i<w.2.2.2.2.2.2.2.2.2.1.length
  ·have hb:(0:Int)≤(i:Int)∧(i:Int)<(w.2.2.2.2.2.2.2.2.2.1.length:Int):=by omega
   have Vx:acc.length+1≤Ds:=by rw[BT];omega
   rw[ALI hb.2,show(w.1,w.2.1,w.2.2.1,w.2.2.2.1,w.2.2.2.2.1,w.2.2.2.2.2.1,w.2.2.2.2.2.2.1,w.2.2.2.2.2.2.2.1,w.2.2.2.2.2.2.2.2.1,w.2.2.2.2.2.2.2.2.2.1,w.2.2.2.2.2.2.2.2.2.2.1,())=w from rfl,hW,Bz,AL (by omega) (by omega),show((i:Int)+1)=((i+1:Nat):Int)by omega];simp only[ALI hb,ALI Vx,AMM,AMJ];rw[Ak hc,drop_cons hc,ASf];have n1:=aa Bz n (i+1) acc (by omega) (by omega) (by omega);have n2:=aa Bz n (i+1) (acc++[w.2.2.2.2.2.2.2.2.2.1[i]]) (by omega) (by omega) (by simp_all);rw[n1,show(w.2.2.2.2.2.2.2.2.2.1[i].1,w.2.2.2.2.2.2.2.2.2.1[i].2.1,w.2.2.2.2.2.2.2.2.2.1[i].2.2.1,())=w.2.2.2.2.2.2.2.2.2.1[i]from rfl,n2];unfold rI;grind
  grind
theorem eV:Kg w=some (((),()),(Xt w,())):=by
 unfold Kg ZV Xt;rcases AK7 (IM w)with Bz|Bz
 ·have k2:=h.OJ
  grind[aa,Ae,Ag]
 ·obtain⟨m,hm⟩:∃m,Ae=m+1:=⟨Ae-1,by have:=aF;omega⟩
  have hW:=Uq h;rw[hm,Bz];simp only[M3,TQ,AB];simp_all
theorem bG{x0:AAH}{x1:Int}{x2:List AN}{x3:AAH}{x4:List CX}{x6:List AM}{x7:List Au}{x8:List Ab}{x9:List Ac}{x10:Bool}:∀(n i:Nat) (acc:List Ac),i≤w.2.2.2.2.2.2.2.2.2.1.length→w.2.2.2.2.2.2.2.2.2.1.length-i<n→acc.length≤i→
  PY n w.2.2.2.2.2.2.2.2.2.1 w.2.2.2.2.2.2.2.2.2.1.length i x0 x1 x2 x3 x4 w.2.2.2.2.2.1 x6 x7 x8 x9 x10 acc=some (((),()),(acc++(w.2.2.2.2.2.2.2.2.2.1.drop i).filter (rI w.2.2.2.2.2.1),()))
 |0,i,_,_,hn,_=>by omega
 |n+1,i,acc,hi,hn,ha=>by
  have k2:=h.OJ;simp only[PY,Zm,AB];by_cases hc:i<w.2.2.2.2.2.2.2.2.2.1.length
  ·have Vx:acc.length+1≤Ds:=by rw[BT];omega
   rw[ALI (by omega),ALI (by omega),AL (by omega) (by omega),show((i:Int)+1)=((i+1:Nat):Int)by omega];simp only[ALI Vx];rw[Ak hc,drop_cons hc,ASf];have n1:=bG (x0:=x0) (x1:=x1) (x2:=x2) (x3:=x3) (x4:=x4) (x6:=x6) (x7:=x7) (x8:=x8) (x9:=x9) (x10:=x10) n (i+1) acc (by omega) (by omega) (by omega);have n2:=bG (x0:=x0) (x1:=x1) (x2:=x2) (x3:=x3) (x4:=x4) (x6:=x6) (x7:=x7) (x8:=x8) (x9:=x9) (x10:=x10) n (i+1) (acc++[w.2.2.2.2.2.2.2.2.2.1[i]]) (by omega) (by omega) (by simp_all);rw[n1,show(w.2.2.2.2.2.2.2.2.2.1[i].1,w.2.2.2.2.2.2.2.2.2.1[i].2.1,w.2.2.2.2.2.2.2.2.2.1[i].2.2.1,())=w.2.2.2.2.2.2.2.2.2.1[i]from rfl,n2];unfold rI;grind
  grind
theorem qv:L0 w=some (((),()),(Xt w,())):=by
 have k2:=h.OJ;unfold L0 Z8 Xt;rw[show(w.1,w.2.1,w.2.2.1,w.2.2.2.1,w.2.2.2.2.1,w.2.2.2.2.2.1,w.2.2.2.2.2.2.1,w.2.2.2.2.2.2.2.1,w.2.2.2.2.2.2.2.2.1,w.2.2.2.2.2.2.2.2.2.1,w.2.2.2.2.2.2.2.2.2.2.1,())=w from rfl,MX h];simp only[AMM];cases IM w with
 |false=>rfl
 |true=>
  grind[bG,Ae,Ag]
end
end Go.M
end
section
namespace Go.M
open Go.M.H (AJ AN Au Ac AA CX AQ A9 AM Ab BG Af AW AZ Ar An Ca Es DF CL BU Ax BD Ch DN i_)
def gJ(w:AA):Prop:= ∀r∈w.2.2.2.2.2.2.2.2.1,∀e∈r.2.2.1,DJ e.2.1
theorem gJ.of{w:AA}(hv:Go.Fw.Vd i_ w):gJ w:=fun r hr e he=>wf_i64 (((hv.2.2.2.2.2.2.2.2.1.2 r hr).2.2.1).2 e he).2.1
section
variable{w:AA} (h:jX w) (hev:gJ w)
include h hev
end
end Go.M
end
section
namespace Go.M
open Go.M.H (AJ AN Au Ac AA CX AQ A9 AM Ab BG As BO)
def D9(e o:Int):Int:=4294967296*e+o
def GW(e o:Int):Int:=if BK e 1 30&&BK o 1 60 then D9 e o else 0
def fz(x:Int):List Int→List Int
 |[]=>[x]
 |y::l=>if x<y then x::y::l else y::fz x l
def JO(x:Int)(l:AAH):AAH:=if l.contains x then l else fz x l
def less(l m:AAH):AAH:=l.filter fun x=> !m.contains x
def JJ(c:CK)(s l:AAH):Bool:=holds c s&&(Aw c l&&(l.all s.contains&& !holds c (less s l)))
def Ao(k:Int):AAH:=if BK k 0 255 then([0,1,2,3,4,5,6,7]:AAH).filter fun i=>(k/2^i.toNat)%2==1 else[]
def better(a b:AJ):AJ:=if b.2.1>a.2.1 then b else a
def keep(e:AJ):List AJ→List AJ
 |[]=>[e]
 |x::l=>if x.1=e.1 then better x e::l else if x.1>e.1 then e::x::l else x::keep e l
def Db:List AJ→List AJ→List AJ
 |k,[]=>k
 |k,e::l=>Db (keep e k) l
def L3(k:Int):Nat→List AJ→List AJ
 |_,[]=>[]
 |i,e::l=>if(k/2^i)%2=1 then e::L3 k (i+1) l else L3 k (i+1) l
def EA(p:Int)(l:List AJ):Option AJ:=l.find? fun e=>e.1==p
def takes(s:AN)(e:AJ):Bool:=if e.2.1=0 then decide (AO e.1>s.2.2.1)else decide (e.2.1>s.2.2.1)
def GD(s:AN)(e:AJ):AN×Bool:=
 if !CE s then(Ci,false)else if EU e&&(takes s e&&decide (s.2.1.length≠20))then((s.1,s.2.1++[e],s.2.2.1,()),true)else(s,false)
def D3(s:AN)(k:Int):AN×Bool:=
 if !CE s then(Ci,false)else
  let q:=Db s.1 (L3 k 0 s.2.1)
  if BK k 0 1048575&&decide (q.length≤200)then((q,[],s.2.2.1,()),true)else(s,false)
def Cf(s:AN):AN×Bool:=D3 s 1048575
def Bg(s:AN)(upto:Int):AN×Bool:=
 if !CE s then(Ci,false)else
  let o:=Cf s
  if o.2&&BK upto 0 30 then((o.1.1,o.1.2.1,max o.1.2.2.1 upto,()),true)else(s,false)
def UO(s:AN)(p:Int):Option AJ:=if CE s then EA p s.1 else none
def GH(s:AN)(ep:Int):List AJ:=if CE s then s.1.filter fun e=>AO e.1==ep else[]
def F_(s:AN)(upto:Int):AN×Bool:=
 if !CE s then(Ci,false)else if BN upto then((s.1.filter fun e=>decide (e.1>upto),s.2.1,s.2.2.1,()),true)else(s,false)
abbrev jx:AQ:=([],0,())
def Ap(l:List CX)(e:Int):AAH:=if BK e 1 l.length then(l.getD (e-1).toNat GL).1 else[]
def Ij(c:CK)(r:AQ)(ns:AAH):AQ×Int×Bool:=
 if !Mk c r then(jx,0,false)else if holds c ns&&decide (r.1.length≠30)then((r.1++[(ns,false,0,())],r.2.1,()),(r.1.length:Int)+1,true)else(r,0,false)
def Gj(l:List CX)(i:Nat)(last:Int):List CX:=l.set i ((l.getD i GL).1,true,last,())
def Mc(c:CK)(r:AQ)(b last:Int):AQ×Bool:=
 if !Mk c r then(jx,false)else
  if decide (b=r.1.length)&&(decide (A5 r.1≠0)&&(decide (b≠A5 r.1)&&BK last 0 60))then((Gj r.1 (A5 r.1-1).toNat last,r.2.1,()),true)else(r,false)
def L8(c:CK)(r:AQ)(p:Int):AQ×Bool:=
 if !Mk c r then(jx,false)else if BN p&&decide (AO p≤r.1.length)then((r.1,max r.2.1 p,()),true)else(r,false)
def CI(c:CK)(w:AM)(d:ABs):AM×Int×Bool:=
 if !Fc c w then(Bo,0,false)else
  if Fc c (w.1,w.2.1++[(d,[],false,())],())then((w.1,w.2.1++[(d,[],false,())],()),(w.2.1.length:Int)+1,true)else(w,0,false)
def EY(c:CK)(n:Int)(x:A9):A9:=(x.1,JO n x.2.1,holds c (JO n x.2.1),())
def Qu(c:CK)(w:AM)(o n:Int):AM×Bool:=
 if !Fc c w then(Bo,false)else
  if BK o 1 w.2.1.length&&(BK n 0 ((c.1.length:Int)-1)&& !(w.2.1.getD (o-1).toNat Kn).2.2.1)then((w.1,w.2.1.set (o-1).toNat (EY c n (w.2.1.getD (o-1).toNat Kn)),()),true)else(w,false)
def Cx(n:Int)(x:A9):A9:=(x.1,if x.2.2.1 then x.2.1 else less x.2.1 [n],x.2.2.1,())
def CD(c:CK)(w:AM)(n:Int):AM×Bool:=
 if !Fc c w then(Bo,false)else((w.1,w.2.1.map (Cx n),()),true)
def U5:List A9→Nat
 |[]=>0
 |x::l=>if x.2.2.1 then U5 l+1 else 0
def Vo(e b:Int):Au:=(b,e,[],[],false,[],())
def K6(c:CK)(m:Au)(n:Int)(l:List AJ):Au×Bool:=
 if !G4 c m then(Ql,false)else
  let o:Au:=(m.1,m.2.1,JO n m.2.2.1,Db m.2.2.2.1 (l.filter fun e=>AO e.1==m.2.1),m.2.2.2.2.1,m.2.2.2.2.2.1,())
  if !m.2.2.2.2.1&&G4 c o then(o,true)else(m,false)
def IH(c:CK)(m:Au)(s:AAH):Au×Bool:=
 if !G4 c m then(Ql,false)else
  if !m.2.2.2.2.1&&JJ c s (m.2.2.1.filter s.contains)then((m.1,m.2.1,m.2.2.1,m.2.2.2.1,true,List.replicate (Li m.2.2.2.1).toNat [],()),true)else(m,false)
def Dc(m:Au)(o:Int):Option AJ:=
 if m.2.2.2.2.1&&(BK m.2.1 1 30&&(BK o 1 60&&decide (o≤m.2.2.2.2.2.1.length)))then
  match EA (D9 m.2.1 o) m.2.2.2.1 with
  |some x=>some (D9 m.2.1 o,m.1,x.2.2.1,x.2.2.2.1,())
  |none=>some (D9 m.2.1 o,m.1,true,[],())
 else none
def Ya(c:CK)(m:Au)(o n:Int):Au×Bool:=
 if !G4 c m then(Ql,false)else
  if BK o 1 m.2.2.2.2.2.1.length&&BK n 0 ((c.1.length:Int)-1)then((m.1,m.2.1,m.2.2.1,m.2.2.2.1,m.2.2.2.2.1,m.2.2.2.2.2.1.set (o-1).toNat (JO n (m.2.2.2.2.2.1.getD (o-1).toNat [])),()),true)else(m,false)
def CB(c:CK)(m:Au)(n:Int):Au×Bool:=
 if !G4 c m then(Ql,false)else((m.1,m.2.1,m.2.2.1,m.2.2.2.1,m.2.2.2.2.1,m.2.2.2.2.2.1.map fun l=>less l [n],()),true)
def Oy(c:CK)(m:Au):Bool:=G4 c m&&(m.2.2.2.2.1&&m.2.2.2.2.2.1.all (holds c))
def Ur(a:As):AJ:=(a.2.2.1,a.2.2.2.1,a.2.2.2.2.1,a.2.2.2.2.2.1,())
def FW(s:AAH)(p:Int):Option AJ→List As→Option AJ
 |b,[]=>b
 |b,a::l=>if a.2.1&&(s.contains a.1&&(EU (Ur a)&&(Ur a).1==p))then
   FW s p (some (match b with|some x=>better x (Ur a)|none=>Ur a)) l
  else FW s p b l
def HK(p:Int):Option AJ→BG
 |none=>(3,p,[],())
 |some x=>if x.2.2.1 then(2,p,[],())else(1,p,x.2.2.2.1,())
def B4(c:CK)(g:AQ)(sure:Int)(r:Ab)(l:List As):Ab×Int:=
 if !(Mk c g&&(Wp r&&Aw c (l.map fun a=>a.1)))then(Dj,1)else
 if decide (r.1>g.1.length)||decide (r.2.2.1.length=120)then(r,2)else
 let era:=g.1.getD (r.1-1).toNat GL
 let p:=D9 r.1 r.2.1
 if g.2.1≥p then((AO g.2.1,A7 g.2.1+1,r.2.2.1++[(5,g.2.1,[],())],()),0)else
 if era.2.1&&decide (r.2.1>era.2.2.1)then((r.1+1,1,r.2.2.1++[(4,r.1+1,[],())],()),0)else
 if(!era.2.1&&decide (r.2.1>sure))||decide (r.2.1>60)then(r,2)else
 if !JJ c era.1 ((l.map fun a=>a.1).filter era.1.contains)then(r,3)else
 ((r.1,r.2.1+1,r.2.2.1++[HK p (FW era.1 p none l)],()),0)
def Ff:List AJ→List AN→List AJ
 |k,[]=>k
 |k,s::l=>Ff (Db k s.1) l
def others(lost:AAH):Nat→List AN→List AN
 |_,[]=>[]
 |i,s::l=>if lost.contains (i:Int)then others lost (i+1) l else s::others lost (i+1) l
def WE(c:CK)(ss:List AN)(lost:AAH)(n upto:Int):AN×Bool:=
 let s:AN:=(Ff [] (others lost 0 ss),[],upto,())
 if E6 c&&(decide (ss.length=c.1.length)&&(Aw c lost&&(!holds c lost&&(lost.contains n&&((others lost 0 ss).all CE&&CE s)))))then(s,true)else(Ci,false)
end Go.M
namespace Go.M.H.AA
open Go.M.H (AJ AN Au Ac AA CX AQ A9 AM Ab BG)
@[reducible] def Aj (w:AA):List AN:=w.2.2.1
@[reducible] def lost (w:AA):AAH:=w.2.2.2.1
@[reducible] def AY (w:AA):List CX:=w.2.2.2.2.1
@[reducible] def trim (w:AA):Int:=w.2.2.2.2.2.1
@[reducible] def AH (w:AA):List AM:=w.2.2.2.2.2.2.1
@[reducible] def BW (w:AA):List Au:=w.2.2.2.2.2.2.2.1
@[reducible] def Aa (w:AA):List Ab:=w.2.2.2.2.2.2.2.2.1
@[reducible] def Aq (w:AA):List Ac:=w.2.2.2.2.2.2.2.2.2.1
@[reducible] def EC (w:AA):Bool:=w.2.2.2.2.2.2.2.2.2.2.1
@[reducible] def A8 (w:AA) (x:List AN):AA:=(w.1,w.2.1,x,w.2.2.2)
@[reducible] def EV (w:AA) (x:AAH):AA:=(w.1,w.2.1,w.2.2.1,x,w.2.2.2.2)
@[reducible] def HE (w:AA) (x:AQ):AA:=(w.1,w.2.1,w.2.2.1,w.2.2.2.1,x.1,x.2.1,w.2.2.2.2.2.2)
@[reducible] def A6 (w:AA) (x:List AM):AA:=(w.1,w.2.1,w.2.2.1,w.2.2.2.1,w.2.2.2.2.1,w.2.2.2.2.2.1,x,w.2.2.2.2.2.2.2)
@[reducible] def Bi (w:AA) (x:List Au):AA:=(w.1,w.2.1,w.2.2.1,w.2.2.2.1,w.2.2.2.2.1,w.2.2.2.2.2.1,w.2.2.2.2.2.2.1,x,w.2.2.2.2.2.2.2.2)
@[reducible] def Cy (w:AA) (x:List Ab):AA:=(w.1,w.2.1,w.2.2.1,w.2.2.2.1,w.2.2.2.2.1,w.2.2.2.2.2.1,w.2.2.2.2.2.2.1,w.2.2.2.2.2.2.2.1,x,w.2.2.2.2.2.2.2.2.2)
@[reducible] def C2 (w:AA) (x:List Ac):AA:=(w.1,w.2.1,w.2.2.1,w.2.2.2.1,w.2.2.2.2.1,w.2.2.2.2.2.1,w.2.2.2.2.2.2.1,w.2.2.2.2.2.2.2.1,w.2.2.2.2.2.2.2.2.1,x,w.2.2.2.2.2.2.2.2.2.2)
@[reducible] def FA (w:AA) (x:Bool):AA:=(w.1,w.2.1,w.2.2.1,w.2.2.2.1,w.2.2.2.2.1,w.2.2.2.2.2.1,w.2.2.2.2.2.2.1,w.2.2.2.2.2.2.2.1,w.2.2.2.2.2.2.2.2.1,w.2.2.2.2.2.2.2.2.2.1,x,())
end Go.M.H.AA
namespace Go.M
open Go.M.H (AJ AN Au Ac AA CX AQ A9 AM Ab BG As BO)
def AMl:AA:=([],0,[],[],[],0,[],[],[],[],false,())
def Em(c:CK):AA:=(c.1,c.2.1,List.replicate c.1.length Ci,[],[],0,[],[],[(1,1,[],()),(1,1,[],())],[],false,())
def dq(k:Int):Bool×Bool×Bool×Bool:=
 if k=8∨k=10∨k=12 then(false,false,false,false)
 else if k=2 then(true,false,false,true)
 else if k=3 then(true,true,true,false)
 else if k=5∨k=14 then(true,true,false,false)
 else if k=11 then(false,true,true,false)
 else(true,false,false,false)
def PG(d:BO):Bool:=
 BK d.1 1 16&&(((dq d.1).1||d.2.1==0)&&(((dq d.1).2.1||d.2.2.1==0)&&(((dq d.1).2.2.1||d.2.2.2.1==0)&&(((dq d.1).2.2.2||d.2.2.2.2.1==[])&&decide (d.2.2.2.2.1.length≤40)))))
abbrev ZT:Type:=AA×Int
def Al(w:AA)(n:Int):Int:=if !BK n 0 ((w.Aj.length:Int)-1)then 2 else if w.lost.contains n then 3 else 0
def MK(w:AA)(a:Int):ZT:=
 if w.AH.length=4 then(w,4)else
 let q:=Ij (AS w) (B7 w) (Ao a)
 if !q.2.2 then(w,4)else(((w.HE q.1).A6 (w.AH++[(q.2.1,[],())])).Bi [],0)
def Xa(s:Ac):List Ac→List Ac
 |[]=>[s]
 |x::l=>if x.1>s.1 then s::x::l else x::Xa s l
def doAdd(w:AA)(a:Int)(d:ABs):ZT:=
 if !BK a 0 ((w.AH.length:Int)-1)then(w,2)else
 let x:=w.AH.getD a.toNat Bo
 let q:=CI (AS w) x d
 if !q.2.2||(decide (w.Aq.length=120)||w.Aq.any fun s=>s.1==D9 x.1 q.2.1)then(w,4)else
 ((w.A6 (w.AH.set a.toNat q.1)).C2 (Xa (D9 x.1 q.2.1,d,false,()) w.Aq),0)
def putAt(w:AA)(n:Int)(q:AN×Bool):ZT:=if q.2 then(w.A8 (w.Aj.set n.toNat q.1),0)else(w,4)
def storeAt(w:AA)(n:Int):AN:=w.Aj.getD n.toNat Ci
def IW(w:AA)(a b n:Int):ZT:=
 if !BK a 0 ((w.AH.length:Int)-1)then(w,2)else
 let x:=w.AH.getD a.toNat Bo
 if !BK b 1 x.2.1.length then(w,2)else
 if Al w n≠0 then(w,Al w n)else
 if !(Ap w.AY x.1).contains n then(w,2)else
 putAt w n (GD (storeAt w n) (D9 x.1 b,0,false,(x.2.1.getD (b-1).toNat Kn).1,()))
def JA(s:AN)(p:Int):Bool:=match EA p s.1 with|some e=>e.2.1==0|none=>false
def A_(c:CK)(s:AN)(ep n:Int):Int→List A9→List A9
 |_,[]=>[]
 |o,x::l=>(if !x.2.2.1&&JA s (D9 ep o)then EY c n x else x)::A_ c s ep n (o+1) l
def QY(l:List A9)(o:Int):Bool:=BK o 1 l.length&&(l.getD (o-1).toNat Kn).2.2.1
def Nn(all:Bool)(ep:Int)(old new:List A9)(s:Ac):Ac:=
 (s.1,s.2.1,s.2.2.1||(AO s.1==ep&&(QY new (A7 s.1)&&(all|| !QY old (A7 s.1)))),())
def K9(s:AN)(l:List CX)(n:Int)(x:AM):Bool:=(Ap l x.1).contains n&&decide (s.2.2.1<x.1)
def FH(all:Bool)(c:CK)(s:AN)(l:List CX)(n:Int):List AM→List Ac→List AM×List Ac
 |[],ss=>([],ss)
 |x::ws,ss=>
  if K9 s l n x then
   let new:=A_ c s x.1 n 1 x.2.1
   let q:=FH all c s l n ws (ss.map (Nn all x.1 x.2.1 new))
   ((x.1,new,())::q.1,q.2)
  else
   let q:=FH all c s l n ws ss
   (x::q.1,q.2)
def NT(m:Au)(s:AN)(o:Int):Bool:=match Dc m o with|some e=>EA e.1 s.1==some e|none=>false
def D1(m:Au)(s:AN)(n:Int):Int→List AAH→List AAH
 |_,[]=>[]
 |o,x::l=>(if NT m s o then JO n x else x)::D1 m s n (o+1) l
def G8(s:AN)(l:List CX)(n:Int)(m:Au):Au:=
 if(Ap l m.2.1).contains n then(m.1,m.2.1,m.2.2.1,m.2.2.2.1,m.2.2.2.2.1,D1 m s n 1 m.2.2.2.2.2.1,())else m
def Jn(all:Bool)(w:AA)(n:Int):ZT:=
 if Al w n≠0 then(w,Al w n)else
 let q:=Cf (storeAt w n)
 if !q.2 then(w,4)else
 let t:=FH all (AS w) q.1 w.AY n w.AH w.Aq
 ((((w.A8 (w.Aj.set n.toNat q.1)).A6 t.1).C2 t.2).Bi (w.BW.map (G8 q.1 w.AY n)),0)
def Ib(w:AA)(n k:Int):ZT:=if Al w n≠0 then(w,Al w n)else putAt w n (D3 (storeAt w n) k)
def MC(w:AA)(n:Int):ZT:=
 if Al w n≠0 then(w,Al w n)else
 let ls:=JO n w.lost
 (((((w.A8 (w.Aj.set n.toNat Ci)).EV ls).A6 (w.AH.map fun x=>(CD (AS w) x n).1)).Bi (w.BW.map fun m=>(CB (AS w) m n).1)).FA (w.EC||holds (AS w) ls),0)
def ME(w:AA)(n:Int):ZT:=
 if !w.lost.contains n then(w,2)else
 let q:=WE (AS w) w.Aj w.lost n (max ((w.AY.length:Int)-1) 0)
 if !q.2 then(w,4)else((w.A8 (w.Aj.set n.toNat q.1)).EV (less w.lost [n]),0)
def L5(w:AA):ZT:=
 if decide ((w.AY.length:Int)<2)||decide (A5 w.AY=w.AY.length)then(w,2)else
 if w.BW.length>0 then(w,4)else(w.Bi [Vo (A5 w.AY) w.AY.length],0)
def MH(w:AA)(n:Int):ZT:=
 match w.BW with
 |[]=>(w,2)
 |m::ms=>
  if Al w n≠0 then(w,Al w n)else
  if !(Ap w.AY m.2.1).contains n then(w,2)else
  let q:=Bg (storeAt w n) (m.1-1)
  let t:=K6 (AS w) m n (GH q.1 m.2.1)
  if !q.2|| !t.2 then(w,4)else((w.A8 (w.Aj.set n.toNat q.1)).Bi (t.1::ms),0)
def MJ(w:AA):ZT:=
 match w.BW with
 |[]=>(w,2)
 |m::ms=>
  let t:=IH (AS w) m (Ap w.AY m.2.1)
  if !t.2 then(w,4)else(w.Bi (t.1::ms),0)
def Rf(w:AA)(b n:Int):ZT:=
 match w.BW with
 |[]=>(w,2)
 |m::ms=>
  match Dc m b with
  |none=>(w,2)
  |some e=>
   if Al w n≠0 then(w,Al w n)else
   if !(Ap w.AY m.2.1).contains n then(w,2)else putAt w n (GD (storeAt w n) e)
def Ie(w:AA):ZT:=
 match w.BW with
 |[]=>(w,2)
 |m::ms=>
  if !Oy (AS w) m then(w,5)else
  let q:=Mc (AS w) (B7 w) m.1 m.2.2.2.2.2.1.length
  if !q.2 then(w,4)else((w.HE q.1).Bi [],0)
def Nw(w:AA)(a:Int):ZT:=
 let q:=L8 (AS w) (B7 w) a
 if !q.2 then(w,4)else(w.HE q.1,0)
def answer(w:AA)(p n:Int):As:=
 match EA p (storeAt w n).1 with
 |some e=>(n,true,e.1,e.2.1,e.2.2.1,e.2.2.2.1,())
 |none=>(n,false,0,0,false,[],())
def answers(w:AA)(p:Int)(ns:AAH):List As:=(ns.filter fun n=>Al w n==0).map (answer w p)
def Uy(w:AA)(e:Int):Int:=match w.AH.find? (fun x=>x.1==e)with|some x=>U5 x.2.1|none=>0
def IY(w:AA)(a k:Int):ZT:=
 if !BK a 0 1 then(w,2)else
 let r:=w.Aa.getD a.toNat Dj
 let q:=B4 (AS w) (B7 w) (Uy w r.1) r (answers w (D9 r.1 r.2.1) (Ao k))
 if q.2≠0 then(w,5)else(w.Cy (w.Aa.set a.toNat q.1),0)
def NF(w:AA)(a:Int):ZT:=
 if !BK a 0 ((w.AH.length:Int)-1)then(w,2)else(w.A6 (w.AH.eraseIdx a.toNat),0)
def Ii(w:AA)(n:Int):ZT:=if Al w n≠0 then(w,Al w n)else putAt w n (F_ (storeAt w n) w.trim)
def LN(all:Bool)(w:AA)(d:BO):ZT:=
 if d.1=1 then MK w d.2.1 else
 if d.1=2 then doAdd w d.2.1 d.2.2.2.2.1 else
 if d.1=3 then IW w d.2.1 d.2.2.1 d.2.2.2.1 else
 if d.1=4 then Jn all w d.2.1 else
 if d.1=5 then Ib w d.2.1 d.2.2.1 else
 if d.1=6 then MC w d.2.1 else
 if d.1=7 then ME w d.2.1 else
 if d.1=8 then L5 w else
 if d.1=9 then MH w d.2.1 else
 if d.1=10 then MJ w else
 if d.1=11 then Rf w d.2.2.1 d.2.2.2.1 else
 if d.1=12 then Ie w else
 if d.1=13 then Nw w d.2.1 else
 if d.1=14 then IY w d.2.1 d.2.2.1 else
 if d.1=15 then NF w d.2.1 else Ii w d.2.1
def DL(all:Bool)(w:AA)(d:BO):ZT:=if !IM w|| !PG d then(AMl,1)else LN all w d
end Go.M
end
section
namespace Go.M
open Go.M.H (AJ AN Au Ac AA CX AQ A9 AM Ab BG As BO)
theorem Qf{p:Nat→Bool}{n:Nat}:Ed p 0 n=true↔ ∀i,i<n→p i=true:=
 ⟨fun h i hi=>Rb h i (by omega) (by omega),fun h=>nt fun j _ hj=>h j (by omega)⟩
theorem Me{α:Type}{l:List α}{i:Nat}{d:α}(h:i<l.length):l.getD i d=l[i]:=by simp_all
theorem Q9{α:Type}{l:List α}{d:α}{P:α→Prop}:(∀i,i<l.length→P (l.getD i d))↔ ∀x∈l,P x:=by
 constructor
 ·intro h x hx
  obtain⟨i,hi,rfl⟩:=AQU hx;simp_all
 simp_all
abbrev S8{α:Type}(f:α→Int)(l:List α):Prop:=l.Pairwise fun a b=>f a<f b
theorem dy{α:Type}{f:α→Int}{l:List α}{d:α}:(∀i,i<l.length→i=0∨f (l.getD (i-1) d)<f (l.getD i d))↔S8 f l:=by
 constructor
 ·intro h
  unfold S8;rw[AWp];have key:∀(k i:Nat),i+k+1<l.length→f (l.getD i d)<f (l.getD (i+k+1) d):=by
   intro k
   induction k with
   |zero=>
    grind
   |succ k ih=>
    grind
  intro i j hi hj hij;have:=key (j-i-1) i (by omega);grind
 grind[List.pairwise_iff_getElem,Me]
theorem Ai{x a b:Int}:BK x a b=true↔a≤x∧x≤b:=by simp[BK]
theorem wX{l:AAH}{hi:Int}:pk l hi=true↔(∀x∈l,0≤x∧x≤hi)∧S8 id l:=by
 unfold pk;rw[Qf,←Q9 (d:=(0:Int)) (P:=fun x=>0≤x∧x≤hi),←dy (d:=(0:Int))];simp only[tH,ALp,Ai,AR9,ASy,AMC,id];grind
theorem EN{c:CK}{l:AAH}:Aw c l=true↔E6 c=true∧(∀x∈l,0≤x∧x<c.1.length)∧S8 id l:=by
 unfold Aw;rw[ALp,wX];grind
theorem uU{l:List AJ}:WX l=true↔ ∀e∈l,EU e=true:=by
 unfold WX;rw[Qf];exact Q9 (P:=fun e=>EU e=true)
theorem vH{l:List AJ}:iu l=true↔S8 (fun e:AJ=>e.1) l:=by
 unfold iu;rw[Qf,←dy (d:=Dq)];simp_all
structure eR (s:AN):Prop where
 nk:s.1.length≤200
 kept:∀e∈s.1,EU e=true
 nl:s.2.1.length≤20
 late:∀e∈s.2.1,EU e=true
 gf:S8 (fun e:AJ=>e.1) s.1
 sl:0≤s.2.2.1∧s.2.2.1≤30
theorem DC{s:AN}:CE s=true↔eR s:=by
 unfold CE;simp only[ALp,AMC,uU,vH,Ai];exact⟨fun⟨⟨a,b⟩,⟨c,d⟩,e,f⟩=>⟨a,b,c,d,e,f⟩,fun h=>⟨⟨h.nk,h.kept⟩,⟨h.nl,h.late⟩,h.gf,h.sl⟩⟩
structure EOk (e:AJ):Prop where
 pl:BN e.1=true
 w0:0≤e.2.1∧e.2.1≤30
 w1:0<e.2.1→AO e.1<e.2.1
 len:e.2.2.2.1.length≤40
 hole:e.2.2.1=true→0<e.2.1∧e.2.2.2.1=[]
theorem FR{e:AJ}:EU e=true↔EOk e:=by
 unfold EU;simp only[ALp,AR9,ASY,AMC,AS_,Ai,ASy];constructor
 ·rintro⟨a,b,c,d,e⟩
  refine⟨a,b,fun h=>c.resolve_left fun hn=>hn h,d,fun h=>e.resolve_left fun hn=> ?_⟩;simp_all
 ·intro h
  refine⟨h.pl,h.w0,?_,h.len,?_⟩
  ·by_cases hw:0<e.2.1
   ·exact .inr (h.w1 hw)
   omega
  ·cases hh:e.2.2.1 with
   |false=>simp_all
   |true=>exact .inr (h.hole hh)
structure pV (c:CK) (m:Au):Prop where
 cfg:E6 c=true
 ep:1≤m.2.1∧m.2.1≤30
 b:m.2.1+1≤m.1∧m.1≤30
 fD:Aw c m.2.2.1=true
 gf:S8 (fun e:AJ=>e.1) m.2.2.2.1
 seen:∀e∈m.2.2.2.1,EU e=true∧AO e.1=m.2.1∧e.2.1<m.1
 wrote:∀l∈m.2.2.2.2.2.1,Aw c l=true
 n:(m.2.2.2.2.2.1.length:Int)=if m.2.2.2.2.1 then Li m.2.2.2.1 else 0
theorem HJ{c:CK}{m:Au}:G4 c m=true↔pV c m:=by
 unfold G4 sF pg;simp only[ALp,Ai,vH,Qf,sZ,ASy,AMC];rw[Q9 (d:=Dq) (P:=fun e=>EU e=true∧AO e.1=m.2.1∧e.2.1<m.1),Q9 (d:=([]:AAH)) (P:=fun l=>Aw c l=true)];have:(m.2.2.2.2.2.1.length:Int)=cond m.2.2.2.2.1 (Li m.2.2.2.1) 0↔(m.2.2.2.2.2.1.length:Int)=if m.2.2.2.2.1 then Li m.2.2.2.1 else 0:=by
  grind
 rw[this];exact⟨fun⟨a,b,c,d,e,f,g,h⟩=>⟨a,b,c,d,e,f,g,h⟩,fun h=>⟨h.cfg,h.ep,h.b,h.fD,h.gf,h.seen,h.wrote,h.n⟩⟩
structure zS (c:CK) (r:AQ):Prop where
 cfg:E6 c=true
 n:r.1.length≤30
 trim:r.2.1=0∨(BN r.2.1=true∧AO r.2.1≤r.1.length)
 AY:∀e∈r.1,holds c e.1=true∧(0≤e.2.2.1∧e.2.2.1≤60)∧(e.2.1=false→e.2.2.1=0)
 down:∀i,i<r.1.length→(r.1.getD i GL).2.1=true→i+1<r.1.length∧ ∀j,j<i→(r.1.getD j GL).2.1=true
theorem I1{c:CK}{r:AQ}:Mk c r=true↔zS c r:=by
 unfold Mk fE;simp only[ALp,AMC,AR9,ASy,Qf,te,pS,Ai,ASY,Bool.and_eq_false_iff,Bool.or_eq_false_iff,AS_,AO7];constructor
 ·rintro⟨a,b,c1,d⟩
  refine⟨a,b,c1,(Q9 (d:=GL) (P:=fun e=>holds c e.1=true∧(0≤e.2.2.1∧e.2.2.1≤60)∧(e.2.1=false→e.2.2.1=0))).1 fun i hi=> ?_,fun i hi hc=> ?_⟩
  ·grind
  ·have step:∀k,k<r.1.length→(r.1.getD k GL).2.1=true→k+1<r.1.length∧(0<k→(r.1.getD (k-1) GL).2.1=true):=fun k hk hkc=>by
    rcases(d k hk).2 with h|⟨h1,h2⟩
    ·simp_all
    ·refine⟨by omega,fun h0=> ?_⟩
     simp_all
   refine⟨(step i hi hc).1,?_⟩;clear hi
   induction i with
   |zero=>omega
   |succ i ih=>
    intro j hj;have De:i+1<r.1.length:=by
     rcases Nat.lt_or_ge (i+1) r.1.length with h|h
     ·omega
     ·simp[List.getD,h]at hc
      cases hc
    grind
 ·intro h
  refine⟨h.cfg,h.n,h.trim,fun i hi=>⟨?_,?_⟩⟩
  ·obtain⟨h1,h2,h3⟩:=h.AY _ (BV (d:=GL) hi)
   grind
  ·cases hb:(r.1.getD i GL).2.1 with
   |false=>simp_all
   |true=>
    obtain⟨h1,h2⟩:=h.down i hi hb;grind
structure ax (c:CK) (w:AM):Prop where
 cfg:E6 c=true
 ep:1≤w.1∧w.1≤30
 n:w.2.1.length≤60
 words:∀x∈w.2.1,x.1.length≤40∧Aw c x.2.1=true∧x.2.2.1=holds c x.2.1
 opn:Qz w.2.1≤6
theorem Ih{c:CK}{w:AM}:Fc c w=true↔ax c w:=by
 unfold Fc le6 aQ;simp only[ALp,AMC,Ai,AS0,ASy];exact⟨fun⟨a,b,c,d,e⟩=>⟨a,b,c,d,e⟩,fun h=>⟨h.cfg,h.ep,h.n,h.words,h.opn⟩⟩
structure AC8 (r:Ab):Prop where
 ep:1≤r.1∧r.1≤31
 off:1≤r.2.1∧r.2.1≤61
 n:r.2.2.1.length≤120
theorem Qg{r:Ab}:Wp r=true↔AC8 r:=by
 unfold Wp;simp only[ALp,AMC,Ai];exact⟨fun⟨a,b,c⟩=>⟨a,b,by omega⟩,fun h=>⟨h.ep,h.off,by have:=h.n;omega⟩⟩
structure Ml (w:AA):Prop where
 cfg:E6 (AS w)=true
 my:w.Aj.length=w.1.length
 lost:Aw (AS w) w.lost=true
 EC:w.EC=true∨holds (AS w) w.lost=false
 Aj:∀i,i<w.Aj.length→eR (w.Aj.getD i Ci)∧((i:Int)∈w.lost→w.Aj.getD i Ci=Ci)
 lf:zS (AS w) (B7 w)
 q8:w.AH.length≤4
 xP:w.BW.length≤1
 AH:∀x∈w.AH,ax (AS w) x∧x.1≤w.AY.length
 Xb:S8 (fun x:AM=>x.1) w.AH
 BW:∀m∈w.BW,pV (AS w) m∧m.1=w.AY.length∧m.2.1=A5 w.AY
 p_:w.Aa.length=2
 Aa:∀r∈w.Aa,AC8 r
 NN:w.Aq.length≤120
 Aq:∀s∈w.Aq,BN s.1=true∧AO s.1≤w.AY.length∧s.2.1.length≤40
 XZ:S8 (fun s:Ac=>s.1) w.Aq
theorem KI{w:AA}:IM w=true↔Ml w:=by
 unfold IM;simp only[ALp,AMC,de,ZX,ft,sa,cB,Qf,ky,dt,sB,sD,AR9,ASY,ASy,DC,I1,Ih,HJ,Qg];have hz:∀s:AN,(s.1.length=0∧s.2.1.length=0∧s.2.2.1=0)↔s=Ci:=fun s=>by
  grind
 simp only[hz];constructor
 ·rintro⟨h1,h2,h3,h4,h5,h6,h7,h8,h9,h10,⟨h11,h12,h13⟩,h14,h15⟩
  refine⟨h1,h2,h3,h4,fun i hi=>⟨(h5 i hi).1,fun hm=>(h5 i hi).2.resolve_left fun hc=> ?_⟩,h6,h7,h8,?_,?_,?_,h11,?_,h14,?_,?_⟩
  ·simp_all
  ·exact(Q9 (d:=Bo) (P:=fun x:AM=>ax (AS w) x∧x.1≤w.AY.length)).1 fun i hi=>⟨(h9 i hi).1,(h9 i hi).2.1⟩
  ·exact(dy (f:=fun x:AM=>x.1) (d:=Bo)).1 fun i hi=>(h9 i hi).2.2
  ·exact(Q9 (d:=Ql) (P:=fun m:Au=>pV (AS w) m∧m.1=w.AY.length∧m.2.1=A5 w.AY)).1 h10
  ·refine(Q9 (d:=Dj) (P:=AC8)).1 fun i hi=> ?_
   rw[h11]at hi;rcases(by omega:i=0∨i=1)with rfl|rfl
   all_goals omega
  ·exact(Q9 (d:=MW) (P:=fun s:Ac=>BN s.1=true∧AO s.1≤w.AY.length∧s.2.1.length≤40)).1 fun i hi=>⟨(h15 i hi).1.1,(h15 i hi).1.2,(h15 i hi).2.1⟩
  ·exact(dy (f:=fun s:Ac=>s.1) (d:=MW)).1 fun i hi=>(h15 i hi).2.2
 ·intro h
  refine⟨h.cfg,h.my,h.lost,h.EC,fun i hi=>⟨(h.Aj i hi).1,?_⟩,h.lf,h.q8,h.xP,fun i hi=> ?_,fun i hi=>h.BW _ (BV hi),⟨h.p_,h.Aa _ (BV (by rw[h.p_];omega)),h.Aa _ (BV (by rw[h.p_];omega))⟩,h.NN,fun i hi=> ?_⟩
  ·by_cases hm:(i:Int)∈w.lost
   ·exact .inr ((h.Aj i hi).2 hm)
   simp_all
  ·have:=h.AH _ (BV (d:=Bo) hi)
   exact⟨this.1,this.2,(dy (f:=fun x:AM=>x.1) (d:=Bo)).2 h.Xb i hi⟩
  ·have:=h.Aq _ (BV (d:=MW) hi)
   exact⟨⟨this.1,this.2.1⟩,this.2.2,(dy (f:=fun s:Ac=>s.1) (d:=MW)).2 h.XZ i hi⟩
end Go.M
end
section
namespace Go.M
open Go.M.H (AJ AN Au Ac AA CX AQ A9 AM Ab BG As BO)
theorem p7{x y:Int}:∀{l:AAH},y∈fz x l↔y=x∨y∈l
 |[]=>by simp[fz]
 |z::l=>by
  simp only[fz];split
  ·simp
  ·simp only[AO3,p7 (l:=l)]
   grind
theorem wW{x:Int}:∀{l:AAH},S8 id l→x∉l→S8 id (fz x l)
 |[],_,_=>by simp[fz,S8]
 |z::l,h,hx=>by
  simp only[S8,AQc,id]at h;simp only[AO3,AXG]at hx;simp only[fz];split
  ·rename_i hz
   simp only[S8,AQc,AO3,id];grind
  ·rename_i hz
   simp only[S8,AQc,id];refine⟨fun a ha=> ?_,wW h.2 hx.2⟩;rcases p7.1 ha with rfl|ha
   all_goals grind
theorem Nr{x y:Int}{l:AAH}:y∈JO x l↔y=x∨y∈l:=by
 unfold JO;split
 ·simp_all
 ·exact p7
theorem AEj{x:Int}{l:AAH}(h:S8 id l):S8 id (JO x l):=by
 grind[JO,wW]
theorem Ig{c:CK}{x:Int}{l:AAH}(h:Aw c l=true)(hx:0≤x∧x<c.1.length):Aw c (JO x l)=true:=by
 rw[EN]at h⊢;refine⟨h.1,fun y hy=> ?_,AEj h.2.2⟩;rcases Nr.1 hy with rfl|hy
 all_goals simp_all
theorem LZ{c:CK}{l:AAH}(p:Int→Bool)(h:Aw c l=true):Aw c (l.filter p)=true:=by
 grind[EN]
theorem Rq{x:Int}{l m:AAH}:x∈less l m↔x∈l∧x∉m:=by simp[less]
theorem dJ{c:CK}(h:E6 c=true):Aw c []=true:=EN.2 ⟨h,fun _ h=>by simp at h,List.Pairwise.nil⟩
theorem ADJ{l m:AAH}(h:l.Nodup)(hs:∀x∈l,x∈m):l.length≤m.length:=by
 induction l generalizing m with
 |nil=>simp
 |cons a l ih=>
  rw[AWI]at h;have ha:=hs a (by simp);have:=ih (m:=m.erase a) h.2 fun x hx=>(List.mem_erase_of_ne (fun e:x=a=>h.1 (by simp_all))).2 (hs x (by simp[hx]))
  grind
theorem vY{c:AAH}{d:Int}:∀{l acc:AAH},d∈jD c l acc↔d∈acc∨ ∃n∈l,c.getD n.toNat 0=d
 |[],acc=>by simp[jD]
 |n::l,acc=>by
  simp only[jD];rw[vY (l:=l)];grind
theorem oI{c:AAH}:∀{l acc:AAH},acc.Nodup→(jD c l acc).Nodup
 |[],acc,h=>h
 |n::l,acc,h=>by
  simp only[jD];refine oI ?_
  grind
theorem wU{c l m:AAH}(h:∀x∈l,x∈m):aC c l≤aC c m:=by
 refine ADJ (oI List.nodup_nil) fun d hd=> ?_
 grind[vY]
theorem gW{c:CK}{l m:AAH}(hl:holds c l=true)(hm:Aw c m=true)(h:∀x∈l,x∈m):holds c m=true:=by
 simp only[holds,ALp,AMC]at hl⊢;have:=wU (c:=c.1) h;grind
def GN(c:CK)(S:Int→Prop):Prop:= ∃l,holds c l=true∧ ∀n∈l,S n
theorem GN.mono{c:CK}(S T:Int→Prop)(h:∀n,S n→T n)(hS:GN c S):GN c T:=
 let⟨l,h1,h2⟩:=hS;⟨l,h1,fun n hn=>h n (h2 n hn)⟩
theorem GN.list{c:CK}{l:AAH}(h:Aw c l=true):GN c (fun n=>n∈l)↔holds c l=true:=
 ⟨fun⟨_,h1,h2⟩=>gW h1 h h2,fun h1=>⟨l,h1,fun _ hn=>hn⟩⟩
theorem holds_nil{c:CK}:holds c []=false:=by
 rw[AS1];intro h;have hc:=(EN.1 (Ny h)).1;have:=(Fq hc).2.2.1;simp only[holds,ALp,AMC,aC,jD]at h;grind
theorem GN.empty{c:CK}: ¬GN c (fun _=>False):=fun⟨l,h1,h2⟩=>by
 cases l with
 |nil=>grind[holds_nil]
 |cons a l=>exact h2 a (by simp)
theorem ry{a b:AJ}(h:a.1=b.1):(better a b).1=b.1:=by grind[better]
theorem cV{e y:AJ}:∀{l:List AJ},y∈keep e l→y=e∨y∈l
 |[],h=>by simpa[keep]using h
 |x::l,h=>by
  simp only[keep]at h;split at h
  ·rcases AO3.1 h with rfl|h
   all_goals grind[better]
  ·split at h
   ·simp_all
   ·rcases AO3.1 h with rfl|h
    ·simp
    ·rcases cV h with h|h<;>simp[h]
theorem AIm{e y:AJ}{l:List AJ}(h:y∈keep e l):y.1=e.1∨ ∃z∈l,z.1=y.1:=by
 rcases cV h with rfl|h
 all_goals grind
theorem XE{e:AJ}:∀{l:List AJ},(keep e l).length≤l.length+1∧l.length≤(keep e l).length
 |[]=>by simp[keep]
 |x::l=>by
  have:=XE (e:=e) (l:=l);grind[keep,List.length_cons]
abbrev WD(l:List AJ):Prop:=S8 (fun e:AJ=>e.1) l
theorem UL{e:AJ}:∀{l:List AJ},WD l→WD (keep e l)
 |[],_=>by simp[keep,S8]
 |x::l,h=>by
  have h':=h;simp only[S8,AQc]at h;simp only[keep];split
  ·rename_i hx
   simp only[WD,S8,AQc];grind[ry]
  ·split
   ·rename_i hx
    simp only[WD,S8,AQc,AO3];grind
   ·rename_i h1 h2
    simp only[WD,S8,AQc];refine⟨fun a ha=> ?_,UL h.2⟩;grind[AIm]
theorem Gr{p:Int}{l:List AJ}{e:AJ}(h:EA p l=some e):e∈l∧e.1=p:=by
 grind[EA,List.mem_of_find?_eq_some]
theorem ABu{p:Int}{l:List AJ}(h:EA p l=none):∀e∈l,e.1≠p:=by
 grind[EA]
theorem Lt{e:AJ}:∀{l:List AJ},WD l→e∈l→EA e.1 l=some e
 |x::l,h,he=>by
  simp only[S8,AQc]at h;unfold EA;rw[AUO];rcases AO3.1 he with rfl|he
  ·simp
  ·have:=h.1 e he
   have bM:(x.1==e.1)=false:=by grind
   rw[bM];exact Lt h.2 he
theorem jy{e:AJ}{p:Int}:∀{l:List AJ},WD l→EA p (keep e l)=if p=e.1 then some (match EA p l with|some x=>better x e|none=>e)else EA p l
 |[],_=>by
  simp only[keep,EA,AUO,List.find?_nil];grind
 |x::l,h=>by
  have h':=h;simp only[S8,AQc]at h;have tail:∀q,q≤x.1→q≠x.1→EA q l=none:=fun q hq bM=>by
   grind[EA,Gr]
  have cons:∀(z:AJ) (m:List AJ),EA p (z::m)=if z.1=p then some z else EA p m:=fun z m=>by
   unfold EA;grind
  simp only[keep];split
  ·rename_i hx
   rw[cons,cons,ry hx];grind
  ·split
   ·grind
   ·rename_i h1 h2
    rw[cons,cons,jy h.2];grind
theorem Q4{y:AJ}:∀{l k:List AJ},y∈Db k l→y∈k∨y∈l
 |[],k,h=> .inl h
 |e::l,k,h=>by
  rcases Q4 (l:=l) h with h|h
  ·rcases cV h with rfl|h
   all_goals simp_all
  simp_all
theorem Q1:∀{l k:List AJ},WD k→WD (Db k l)
 |[],k,h=>h
 |e::l,k,h=>Q1 (l:=l) (UL h)
theorem AJD{e:AJ}{l:List AJ}{p:Int}{x:AJ}(h:WD l)(hx:EA p l=some x):∃y,EA p (keep e l)=some y∧(y=x∨x.2.1<y.2.1):=by
 rw[jy h];split
 ·rw[hx]
  refine⟨better x e,rfl,?_⟩;unfold better;grind
 simp_all
theorem XF{p:Int}:∀{l k:List AJ} {x:AJ},WD k→EA p k=some x→ ∃y,EA p (Db k l)=some y∧(y=x∨x.2.1<y.2.1)
 |[],k,x,_,hx=>⟨x,hx,.inl rfl⟩
 |e::l,k,x,h,hx=>by
  obtain⟨y,h1,h2⟩:=AJD (e:=e) h hx;obtain⟨z,h3,h4⟩:=XF (l:=l) (UL h) h1;refine⟨z,h3,?_⟩;grind
theorem fj{e:AJ}:∀{l k:List AJ},WD k→e∈l→ ∃y,EA e.1 (Db k l)=some y∧e.2.1≤y.2.1
 |a::l,k,h,he=>by
  rcases AO3.1 he with rfl|he
  ·have h1:∃y,EA e.1 (keep e k)=some y∧e.2.1≤y.2.1:=by
    rw[jy h,ALI rfl];refine⟨_,rfl,?_⟩;split
    ·grind[better]
    omega
   obtain⟨y,h1,h2⟩:=h1;obtain⟨z,h3,h4⟩:=XF (l:=l) (UL h) h1;exact⟨z,h3,by grind⟩
  ·exact fj (l:=l) (UL h) he
theorem Qb{k:Int}{y:AJ}:∀{l:List AJ} {i:Nat},y∈L3 k i l→y∈l
 |[],_,h=>h
 |e::l,i,h=>by
  simp only[L3]at h;split at h
  ·rcases AO3.1 h with rfl|h
   ·simp
   ·simp[Qb h]
  ·simp[Qb h]
end Go.M
end
section
namespace Go.M
open Go.M.H (AJ AN Au Ac AA CX AQ A9 AM Ab BG As BO)
theorem I4{e o:Int}(he:1≤e∧e≤30)(ho:1≤o∧o≤60):BN (D9 e o)=true∧AO (D9 e o)=e∧A7 (D9 e o)=o:=by
 have h1:WI (D9 e o)=e:=by
  grind[WI,D9,Int.tdiv_eq_ediv_of_nonneg]
 have h2:(D9 e o).tmod 4294967296=o:=by
  grind[D9,Int.tmod_eq_emod_of_nonneg]
 have h3:BN (D9 e o)=true:=by
  unfold BN;rw[h1,h2,ALp,Ai,Ai];omega
 exact⟨h3,by unfold AO;simp_all,by unfold A7;simp_all⟩
theorem CJ{p:Int}(h:BN p=true):(1≤AO p∧AO p≤30)∧(1≤A7 p∧A7 p≤60)∧D9 (AO p) (A7 p)=p:=by
 have h0:=cm h;have h1:=h;unfold BN at h1;rw[ALp,Ai,Ai]at h1;have e1:AO p=WI p:=by unfold AO;rw[ALI h]
 grind[A7,D9,WI,Int.tdiv_eq_ediv_of_nonneg,Int.tmod_eq_emod_of_nonneg]
theorem rH{p q:Int}(hp:BN p=true)(hq:BN q=true):p≤q↔AO p<AO q∨(AO p=AO q∧A7 p≤A7 q):=by
 obtain⟨a1,a2,a3⟩:=CJ hp;obtain⟨b1,b2,b3⟩:=CJ hq;grind[D9]
theorem rz{p q:Int}(hp:BN p=true)(hq:BN q=true)(h1:AO p=AO q)(h2:A7 p=A7 q):p=q:=by
 rw[←(CJ hp).2.2,←(CJ hq).2.2,h1,h2]
theorem eR.nil:eR Ci:=⟨by simp,by simp,by simp,by simp,List.Pairwise.nil,by simp⟩
theorem dK{s:AN}{e:AJ}(h:(GD s e).2=true):eR (GD s e).1∧(GD s e).1=(s.1,s.2.1++[e],s.2.2.1,())∧EU e=true∧takes s e=true:=by
 unfold GD at*;split at h
 ·cases h
 rename_i hs;rw[ALT hs];simp only[AO4,AO7]at hs;rw[DC]at hs;split at h
 case isFalse=>cases h
 rename_i h1;rw[ALI h1];simp only[ALp,AMC]at h1;obtain⟨he,ht,hl⟩:=h1;refine⟨⟨hs.nk,hs.kept,?_,fun x hx=> ?_,hs.gf,hs.sl⟩,rfl,he,ht⟩
 ·have:=hs.nl
  grind
 ·simp only[AOs,AS2]at hx
  rcases hx with hx|rfl
  ·exact hs.late x hx
  omega
theorem Km{s:AN}{k:Int}(h:(D3 s k).2=true):eR s∧eR (D3 s k).1∧(D3 s k).1=(Db s.1 (L3 k 0 s.2.1),[],s.2.2.1,()):=by
 unfold D3 at*;split at h
 ·cases h
 rename_i hs;rw[ALT hs];simp only[AO4,AO7]at hs;rw[DC]at hs;simp only at h⊢;split at h
 case isFalse=>cases h
 rename_i h1;rw[ALI h1];simp only[ALp,AMC]at h1;refine⟨hs,⟨h1.2,fun e he=> ?_,by simp,by simp,Q1 hs.gf,hs.sl⟩,rfl⟩;rcases Q4 he with he|he
 ·exact hs.kept e he
 ·exact hs.late e (Qb he)
theorem aH{s:AN}{u:Int}(h:(Bg s u).2=true):eR s∧eR (Bg s u).1∧(Bg s u).1=(Db s.1 (L3 1048575 0 s.2.1),[],max s.2.2.1 u,())∧0≤u∧u≤30:=by
 unfold Bg at*;split at h
 ·cases h
 rename_i hs;rw[ALT hs];simp only[AO4,AO7]at hs;simp only at h⊢;split at h
 case isFalse=>cases h
 rename_i h1;rw[ALI h1];simp only[ALp,Ai]at h1;obtain⟨k1,k2,k3⟩:=Km h1.1;have gb:(Cf s).1=_:=k3;rw[gb];refine⟨k1,⟨?_,?_,by simp,by simp,Q1 k1.gf,?_⟩,rfl,h1.2⟩
 ·have:=k2.nk;simp_all
 ·have:=k2.kept;simp_all
 ·have:=k1.sl
  grind
theorem jE{s:AN}{u:Int}(h:(F_ s u).2=true):eR s∧eR (F_ s u).1∧(F_ s u).1=(s.1.filter fun e=>decide (e.1>u),s.2.1,s.2.2.1,()):=by
 unfold F_ at*;split at h
 ·cases h
 rename_i hs;rw[ALT hs];simp only[AO4,AO7]at hs;rw[DC]at hs;split at h
 case isFalse=>cases h
 rename_i h1;rw[ALI h1];refine⟨hs,⟨ARE (ARK _ _) hs.nk,fun e he=>hs.kept e (ASp.1 he).1,hs.nl,hs.late,hs.gf.filter _,hs.sl⟩,rfl⟩
theorem wu{c:CK}{ss:List AN}{lost:AAH}{n u:Int}(h:(WE c ss lost n u).2=true):
  eR (WE c ss lost n u).1∧(WE c ss lost n u).1=(Ff [] (others lost 0 ss),[],u,())∧holds c lost=false∧ ∀s∈others lost 0 ss,eR s:=by
 unfold WE at*;simp only at h⊢;split at h
 case isFalse=>cases h
 rename_i h1;rw[ALI h1];simp only[ALp,AMC,ASY,AS0]at h1;obtain⟨_,_,_,h2,_,h3,h4⟩:=h1;exact⟨DC.1 h4,rfl,h2,fun s hs=>DC.1 (h3 s hs)⟩
theorem dP{l:List CX}:∀{d i:Nat},i+d=l.length→(WL l i d=0∧ ∀j,i≤j→j<l.length→(l.getD j GL).2.1=true)∨
  ∃k,i≤k∧k<l.length∧WL l i d=(k:Int)+1∧(l.getD k GL).2.1=false∧ ∀j,i≤j→j<k→(l.getD j GL).2.1=true
 |0,i,h=> .inl ⟨rfl,fun j h1 h2=>by omega⟩
 |d+1,i,h=>by
  simp only[WL];cases hb:(l.getD i ([],false,0,())).2.1 with
  |false=>grind
  |true=>
   simp only[ALu,ALz];rcases dP (l:=l) (d:=d) (i:=i+1) (by omega)with⟨h1,h2⟩|⟨k,h1,h2,h3,h4,h5⟩
   all_goals grind
theorem N1{c:CK}{r:AQ}(h:zS c r)(hl:0<r.1.length):∃k,k<r.1.length∧A5 r.1=(k:Int)+1∧(r.1.getD k GL).2.1=false∧ ∀j,j<k→(r.1.getD j GL).2.1=true:=by
 rcases dP (l:=r.1) (d:=r.1.length) (i:=0) (by omega)with⟨h1,h2⟩|⟨k,h1,h2,h3,h4,h5⟩
 ·have:=(h.down (r.1.length-1) (by omega) (h2 _ (by omega) (by omega))).1
  omega
 ·exact⟨k,h2,h3,h4,fun j hj=>h5 j (by omega) hj⟩
theorem oS{c:CK}{r:AQ}{ns:AAH}(h:(Ij c r ns).2.2=true):zS c r∧zS c (Ij c r ns).1∧(Ij c r ns).1=(r.1++[(ns,false,0,())],r.2.1,())∧(Ij c r ns).2.1=(r.1.length:Int)+1∧holds c ns=true∧r.1.length<30:=by
 unfold Ij at*;split at h
 ·cases h
 rename_i hs;rw[ALT hs];simp only[AO4,AO7]at hs;rw[I1]at hs;split at h
 case isFalse=>cases h
 rename_i h1;rw[ALI h1];simp only[ALp,AMC]at h1;have hn:=hs.n;refine⟨hs,⟨hs.cfg,?_,?_,fun e he=> ?_,fun i hi hc=> ?_⟩,rfl,rfl,h1.1,by omega⟩
 ·grind
 ·rcases hs.trim with h2|⟨h2,h3⟩
  all_goals grind
 ·simp only[AOs,AS2]at he
  rcases he with he|rfl
  ·exact hs.AY e he
  simp_all
 ·simp only[APV,ANW,AQF]at hi
  have get:∀j,j<r.1.length→(r.1++[(ns,false,0,())]).getD j GL=r.1.getD j GL:=fun j hj=>by
   grind
  by_cases hl:i<r.1.length
  ·rw[get i hl]at hc
   obtain⟨h2,h3⟩:=hs.down i hl hc;grind
  simp_all
theorem Vz{l:List CX}{i j:Nat}{last:Int}(hi:i<l.length):(Gj l i last).getD j GL=if i=j then((l.getD i GL).1,true,last,())else l.getD j GL:=by
 grind[Gj]
theorem lg{c:CK}{r:AQ}{b last:Int}(h:(Mc c r b last).2=true):zS c r∧zS c (Mc c r b last).1∧
  ∃k,k<r.1.length∧A5 r.1=(k:Int)+1∧k+1<r.1.length∧b=r.1.length∧(0≤last∧last≤60)∧(Mc c r b last).1=(Gj r.1 k last,r.2.1,())∧(r.1.getD k GL).2.1=false∧ ∀j,j<k→(r.1.getD j GL).2.1=true:=by
 unfold Mc at*;split at h
 ·cases h
 rename_i hs;rw[ALT hs];simp only[AO4,AO7]at hs;rw[I1]at hs;split at h
 case isFalse=>cases h
 rename_i h1;rw[ALI h1];simp only[ALp,AMC,Ai]at h1;obtain⟨hb,h0,bM,hlast⟩:=h1;have hl:0<r.1.length:=by
  rcases AWx r.1.length with hz|hz
  ·exfalso
   apply h0;unfold A5;rw[hz];rfl
  omega
 obtain⟨k,k1,k2,k3,k4⟩:=N1 hs hl;have hk:(A5 r.1-1).toNat=k:=by omega
 rw[hk];have hlen:(Gj r.1 k last).length=r.1.length:=by simp[Gj]
 refine⟨hs,⟨hs.cfg,by rw[hlen];exact hs.n,?_,fun e he=> ?_,fun i hi hc=> ?_⟩,k,k1,k2,by omega,hb,hlast,rfl,k3,k4⟩
 ·simp only[hlen];exact hs.trim
 ·unfold Gj at he
  rcases ASw he with he|rfl
  ·exact hs.AY e he
  ·exact⟨(hs.AY _ (BV k1)).1,hlast,fun hf=>by cases hf⟩
 ·simp only[hlen]at hi⊢
  rw[Vz k1]at hc;by_cases hik:k=i
  ·subst hik
   refine⟨by omega,fun j hj=> ?_⟩;rw[Vz k1,ALT (by omega)];simp_all
  ·rw[ALT hik]at hc
   obtain⟨h2,h3⟩:=hs.down i hi hc;grind[Vz]
theorem qL{c:CK}{r:AQ}{p:Int}(h:(L8 c r p).2=true):zS c r∧zS c (L8 c r p).1∧(L8 c r p).1=(r.1,max r.2.1 p,()):=by
 unfold L8 at*;split at h
 ·cases h
 rename_i hs;rw[ALT hs];simp only[AO4,AO7]at hs;rw[I1]at hs;split at h
 case isFalse=>cases h
 rename_i h1;rw[ALI h1];simp only[ALp,AMC]at h1;refine⟨hs,⟨hs.cfg,hs.n,?_,hs.AY,hs.down⟩,rfl⟩;simp only;have hp:=(cm h1.1).1;by_cases hm:r.2.1≤p
 ·grind
 ·rw[show max r.2.1 p=r.2.1 by omega]
  exact hs.trim
theorem Vr{c:CK}{w:AM}{d:ABs}(h:(CI c w d).2.2=true):ax c w∧ax c (CI c w d).1∧(CI c w d).1=(w.1,w.2.1++[(d,[],false,())],())∧(CI c w d).2.1=(w.2.1.length:Int)+1:=by
 unfold CI at*;split at h
 ·cases h
 rename_i hs;rw[ALT hs];simp only[AO4,AO7]at hs;rw[Ih]at hs;split at h
 case isFalse=>cases h
 rename_i h1;rw[ALI h1];exact⟨hs,Ih.1 h1,rfl,rfl⟩
theorem aW{c:CK}{s:AN}{ep n:Int}(hn:0≤n∧n<c.1.length):∀{l:List A9} {o:Int},(∀x∈l,x.1.length≤40∧Aw c x.2.1=true∧x.2.2.1=holds c x.2.1)→
  (∀x∈A_ c s ep n o l,x.1.length≤40∧Aw c x.2.1=true∧x.2.2.1=holds c x.2.1)∧Qz (A_ c s ep n o l)≤Qz l∧(A_ c s ep n o l).length=l.length
 |[],o,h=>by simp[A_]
 |x::l,o,h=>by
  obtain⟨h1,h2,h3⟩:=aW (s:=s) (ep:=ep) hn (l:=l) (o:=o+1) fun y hy=>h y (by simp[hy])
  have hx:=h x (by simp);simp only[A_,AO3,ANW,Qz];split
  ·rename_i hd
   simp only[ALp,ASY]at hd;refine⟨?_,?_,by omega⟩
   ·rintro y (rfl|hy)
    ·exact⟨hx.1,Ig hx.2.1 hn,rfl⟩
    grind
   grind
  grind
theorem r_{c:CK}{n:Int}:∀{l:List A9},(∀x∈l,x.1.length≤40∧Aw c x.2.1=true∧x.2.2.1=holds c x.2.1)→
  (∀x∈l.map (Cx n),x.1.length≤40∧Aw c x.2.1=true∧x.2.2.1=holds c x.2.1)∧Qz (l.map (Cx n))=Qz l
 |[],h=>by simp
 |x::l,h=>by
  obtain⟨h1,h2⟩:=r_ (n:=n) (l:=l) fun y hy=>h y (by simp[hy])
  have hx:=h x (by simp);simp only[ATb,AO3,Qz,h2,Cx,ASn]
  rintro y (rfl|hy)
  ·refine⟨hx.1,?_,?_⟩
   ·simp only
    split
    ·simp_all
    ·exact LZ _ hx.2.1
   ·simp only
    split
    ·simp_all
    ·rename_i hd
     simp only[AO4]at hd;rw[hd]
     symm
     rw[AS1];grind[gW,Rq]
  grind
theorem Uj{c:CK}{w:AM}{n:Int}(h:ax c w):ax c (CD c w n).1∧(CD c w n).1=(w.1,w.2.1.map (Cx n),()):=by
 unfold CD;rw[Ih.2 h];obtain⟨h1,h2⟩:=r_ (n:=n) h.words;exact⟨⟨h.cfg,h.ep,by simpa using h.n,h1,by simp only[ALu];exact h2▸h.opn⟩,rfl⟩
theorem Gm{l:List AJ}:0≤Li l∧Li l≤60:=by
 unfold Li;cases l.length==0 with
 |true=>simp
 |false=>
  simp only[ALz];rcases AK7 (BN (l.getD (l.length-1) Dq).1)with h|h
  ·have:=(CJ h).2.1;omega
  grind[A7]
theorem lU{c:CK}{m:Au}{n:Int}{l:List AJ}(h:(K6 c m n l).2=true):pV c m∧pV c (K6 c m n l).1∧m.2.2.2.2.1=false∧
  (K6 c m n l).1=(m.1,m.2.1,JO n m.2.2.1,Db m.2.2.2.1 (l.filter fun e=>AO e.1==m.2.1),m.2.2.2.2.1,m.2.2.2.2.2.1,()):=by
 unfold K6 at*;split at h
 ·cases h
 rename_i hs;rw[ALT hs];simp only[AO4,AO7]at hs;rw[HJ]at hs;simp only at h⊢;split at h
 case isFalse=>cases h
 rename_i h1;rw[ALI h1];simp only[ALp,ASY]at h1;exact⟨hs,HJ.1 h1.2,h1.1,rfl⟩
theorem lO{c:CK}{m:Au}{s:AAH}(h:(IH c m s).2=true):pV c m∧pV c (IH c m s).1∧m.2.2.2.2.1=false∧JJ c s (m.2.2.1.filter s.contains)=true∧
  (IH c m s).1=(m.1,m.2.1,m.2.2.1,m.2.2.2.1,true,List.replicate (Li m.2.2.2.1).toNat [],()):=by
 unfold IH at*;split at h
 ·cases h
 rename_i hs;rw[ALT hs];simp only[AO4,AO7]at hs;rw[HJ]at hs;split at h
 case isFalse=>cases h
 rename_i h1;rw[ALI h1];simp only[ALp,ASY]at h1;refine⟨hs,⟨hs.cfg,hs.ep,hs.b,hs.fD,hs.gf,hs.seen,fun l hl=> ?_,?_⟩,h1.1,h1.2,rfl⟩
 ·simp only at hl
  rw[AS7 hl];exact dJ hs.cfg
 ·simp only[AV4,ASe]
  have:=(Gm (l:=m.2.2.2.1)).1;omega
theorem aE{c:CK}{m:Au}{s:AN}{n:Int}(hn:0≤n∧n<c.1.length):∀{l:List AAH} {o:Int},(∀x∈l,Aw c x=true)→
  (∀x∈D1 m s n o l,Aw c x=true)∧(D1 m s n o l).length=l.length
 |[],o,h=>by simp[D1]
 |x::l,o,h=>by
  obtain⟨h1,h2⟩:=aE (m:=m) (s:=s) hn (l:=l) (o:=o+1) fun y hy=>h y (by simp[hy])
  have hx:=h x (by simp);simp only[D1,AO3,ANW,h2,ASn]
  rintro y (rfl|hy)
  all_goals grind[Ig]
theorem ADc{c:CK}{s:AN}{l:List CX}{n:Int}{m:Au}(hn:0≤n∧n<c.1.length)(h:pV c m):pV c (G8 s l n m):=by
 unfold G8;split
 ·obtain⟨h1,h2⟩:=aE (m:=m) (s:=s) hn (o:=1) h.wrote
  exact⟨h.cfg,h.ep,h.b,h.fD,h.gf,h.seen,h1,by simp only[h2];exact h.n⟩
 omega
theorem eY{c:CK}{m:Au}{n:Int}(h:pV c m):pV c (CB c m n).1∧(CB c m n).1=(m.1,m.2.1,m.2.2.1,m.2.2.2.1,m.2.2.2.2.1,m.2.2.2.2.2.1.map fun l=>less l [n],()):=by
 unfold CB;rw[HJ.2 h];refine⟨⟨h.cfg,h.ep,h.b,h.fD,h.gf,h.seen,fun l hl=> ?_,?_⟩,rfl⟩
 ·simp only[ALu,ALr,AOV,ASt]at hl
  obtain⟨l',h1,rfl⟩:=hl;exact LZ _ (h.wrote l' h1)
 ·simp only[ALu,ALr,AOV,AWu]
  exact h.n
theorem qm{c:CK}{g:AQ}{sure:Int}{r:Ab}{l:List As}(h:(B4 c g sure r l).2=0):AC8 (B4 c g sure r l).1:=by
 unfold B4 at*;split at h
 ·omega
 rename_i hs;rw[ALT hs];simp only[AO4,AO7,ALp,I1,Qg]at hs;obtain⟨hg,hr,_⟩:=hs;have r1:=hr.ep;have r2:=hr.off;have r3:=hr.n;split at h
 ·omega
 rename_i h1;rw[ALT h1];simp only[AR9,AMC,AXG]at h1;have hn:=hg.n;simp only at h⊢;split at h
 ·rename_i h2
  rw[ALI h2];have hp:BN g.2.1=true:=by
   rcases hg.trim with ht|ht
   all_goals grind[D9]
  obtain⟨a1,a2,_⟩:=CJ hp;exact⟨by grind,by grind,by grind⟩
 ·rename_i h2
  rw[ALT h2];split at h
  ·rename_i h3
   rw[ALI h3];exact⟨by grind,by simp_all,by simp_all;omega⟩
  ·rename_i h3
   rw[ALT h3];split at h
   ·omega
   rename_i h4;rw[ALT h4];simp only[AR9,AMC,AXG]at h4;split at h
   ·omega
   rename_i h5;rw[ALT h5];exact⟨by omega,by grind,by simp_all;omega⟩
end Go.M
end
section
namespace Go.M
open Go.M.H (AJ AN Au Ac AA CX AQ A9 AM Ab BG As BO)
theorem AD{α β:Type}(a:α)(f:α→Option β):(some a).bind f=f a:=rfl
theorem Uz{l:AAH}{x:Int}(hl:l.length≤2^30):∀(n i:Nat) (b:AAH),i≤l.length→l.length-i<n→b.length≤2*i+1→
  Kb n l x true i b=some (((),()),(b++l.drop i,()))
 |0,i,b,_,h,_=>by omega
 |n+1,i,b,hi,h,hb=>by
  simp only[Kb,S7,AB,ALu,ALz];by_cases hc:i<l.length
  ·have c1:(0:Int)≤(i:Int)∧(i:Int)<(l.length:Int):=by omega
   have c2:b.length+1≤Ds:=by rw[BT];omega
   rw[ALI c1.2,ALI c1,ALI c2,AL (by omega) (by omega),show((i:Int)+1)=((i+1:Nat):Int)by omega,Ak hc,drop_cons hc,Uz hl n (i+1) _ (by omega) (by omega) (by grind)];simp
  grind
theorem ZN{l:AAH}{x:Int}(hl:l.length≤2^30):∀(n i:Nat) (b:AAH),i≤l.length→l.length-i<n→b.length≤i→
  Kb n l x false i b=some (((),()),(b++fz x (l.drop i),()))
 |0,i,b,_,h,_=>by omega
 |n+1,i,b,hi,h,hb=>by
  simp only[Kb,S7,AB,ARU,AMJ];have c2:b.length+1≤Ds:=by rw[BT];omega
  by_cases hc:i<l.length
  ·have c1:(0:Int)≤(i:Int)∧(i:Int)<(l.length:Int):=by omega
   have c3:(b++[x]).length+1≤Ds:=by grind[BT]
   rw[ALI c1.2];simp only[ALI c1,ALI c2,ALI c3];rw[AL (by omega) (by omega),show((i:Int)+1)=((i+1:Nat):Int)by omega,Ak hc,drop_cons hc];simp only[fz];by_cases hx:l[i]>x
   ·rw[ALI hx,ALI (by omega),Uz hl n (i+1) _ (by omega) (by omega) (by grind)]
    simp
   ·rw[ALT hx,ALT (by omega),ZN hl n (i+1) _ (by omega) (by omega) (by simp_all)]
    simp
  ·rw[ALT (by omega),ALI c2,AMI (by omega)]
   rfl
theorem My{l:AAH}{x:Int}(hl:l.length≤2^30):MU l x=some (((),()),(JO x l,())):=by
 unfold MU Za JO;rw[KG (by omega)];simp only[AD];rcases AK7 (l.contains x)with h|h
 ·rw[h,ALI rfl]
  grind[Uz,Ae,Ag]
 ·rw[h,ALT (by simp)]
  grind[ZN,Ae,Ag]
theorem Yj{l m:AAH}(hl:l.length≤2^30)(hm:m.length≤2^30):∀(n i:Nat) (b:AAH),i≤l.length→l.length-i<n→b.length≤i→
  N3 n l m i b=some (((),()),(b++less (l.drop i) m,()))
 |0,i,b,_,h,_=>by omega
 |n+1,i,b,hi,h,hb=>by
  simp only[N3,YU,AB];have c2:b.length+1≤Ds:=by rw[BT];omega
  by_cases hc:i<l.length
  ·have c1:(0:Int)≤(i:Int)∧(i:Int)<(l.length:Int):=by omega
   rw[ALI c1.2];simp only[ALI c1,ALI c2];rw[AL (by omega) (by omega),show((i:Int)+1)=((i+1:Nat):Int)by omega,Ak hc,drop_cons hc,KG (by omega)];simp only[AD,less,ASf];cases hx:m.contains l[i]with
   |true=>
    simp only[ALu,ALz,ALr,AOV];exact Yj hl hm n (i+1) _ (by omega) (by omega) (by omega)
   |false=>
    simp only[ARU,AMJ,ASe];rw[Yj hl hm n (i+1) _ (by omega) (by omega) (by simp_all)];simp[less]
  ·rw[ALT (by omega),AMI (by omega)]
   simp[less]
theorem JR{l m:AAH}(hl:l.length≤2^30)(hm:m.length≤2^30):Iq l m=some (((),()),(less l m,())):=by
 grind[Iq,Xu,Yj,Ae,Ag]
theorem Mg{e o:Int}(he: -1000≤e∧e≤1000)(ho: -1000≤o∧o≤1000):EX e o=some ((D9 e o,()),()):=by
 grind[EX,D9,AL]
theorem iV{e o:Int}:RW e o=some (((GW e o,BK e 1 30&&BK o 1 60,()),()),()):=by
 unfold RW GW;rw[Bd,Bd];simp only[AD];rcases AK7 (BK e 1 30)with he|he
 ·rcases AK7 (BK o 1 60)with ho|ho
  ·have h1:=Ai.1 he
   have h2:=Ai.1 ho;rw[he,ho,AL (x:=4294967296*e) (by omega) (by omega),AL (by omega) (by omega)];rfl
  simp_all
 simp_all
theorem Kj{a b:Int}:MB a b=some ((max a b,()),()):=by
 unfold MB;grind
theorem Yl{a b:Int}:TJ a b=some ((min a b,()),()):=by
 unfold TJ;grind
def ld(q:AN×Bool):ACo×(List AJ×List AJ×Unit):=(((((),(),q.1.2.2.1,()),q.2,()),()),(q.1.1,q.1.2.1,()))
theorem N8{s:AN}(h1:s.1.length≤2^30)(h2:s.2.1.length≤2^30):El s=some ((((),(),s.2.2.1,()),()),(s.1,s.2.1,())):=by
 unfold El;rw[ALI (by rw[BT];omega),ALI (by rw[BT];omega)]
theorem mI{s:AN}{e:AJ}(he:DJ e.1):VZ s e=some ((takes s e,()),()):=by
 unfold VZ takes;rw[Ey he];grind
theorem WH{a b:AJ}:Qa a b=some ((better a b,()),()):=by
 unfold Qa better;grind
theorem Fu{s:AN}(h:H.An s≤2^30):s.1.length≤2^30∧s.2.1.length≤2^30:=by
 grind[H.AW,H.Ar,H.An]
theorem Zx{s:AN}{e:AJ}(hw:H.An s≤2^30)(hs:qR s)(he:DJ e.1):PR s e=some (ld (GD s e)):=by
 obtain⟨l1,l2⟩:=Fu hw;unfold PR GD;rw[show(s.1,s.2.1,s.2.2.1,())=s from rfl,show(e.1,e.2.1,e.2.2.1,e.2.2.2.1,())=e from rfl,Fj hw hs,N8 l1 l2,Pt he,mI he];simp only[AD];rcases AK7 (CE s)with h|h
 rotate_left
 ·rw[h];rfl
 rw[h];simp only[ALu,ALz,ALr,AOV];cases EU e with
 |false=>rfl
 |true=>
  cases takes s e with
  |false=>rfl
  |true=>
   simp only[ALu,ALz,AMD];by_cases h20:s.2.1.length=20
   ·rw[show((s.2.1.length:Int)==20)=true by simp[h20],show decide (s.2.1.length≠20)=false by simp[h20]]
    rfl
   ·rw[show((s.2.1.length:Int)==20)=false by grind,show decide (s.2.1.length≠20)=true by simp[h20],ALz,ALI (by rw[BT];omega)]
    rfl
theorem TC{l:List AJ}{e:AJ}(hl:l.length≤2^30):∀(n i:Nat) (b:List AJ),i≤l.length→l.length-i<n→b.length≤2*i+1→
  JI n l true i e.1 e.2.1 e.2.2.1 e.2.2.2.1 b=some (((),()),(b++l.drop i,()))
 |0,i,b,_,h,_=>by omega
 |n+1,i,b,hi,h,hb=>by
  simp only[JI,Rw,AB,ALu,ALz];by_cases hc:i<l.length
  ·have c1:(0:Int)≤(i:Int)∧(i:Int)<(l.length:Int):=by omega
   have c2:b.length+1≤Ds:=by rw[BT];omega
   rw[ALI c1.2,ALI c1,ALI c2,AL (by omega) (by omega),show((i:Int)+1)=((i+1:Nat):Int)by omega,Ak hc,drop_cons hc,TC hl n (i+1) _ (by omega) (by omega) (by grind),AM4];rfl
  grind
theorem X6{l:List AJ}{e:AJ}(hl:l.length≤2^30):∀(n i:Nat) (b:List AJ),i≤l.length→l.length-i<n→b.length≤i→
  JI n l false i e.1 e.2.1 e.2.2.1 e.2.2.2.1 b=some (((),()),(b++keep e (l.drop i),()))
 |0,i,b,_,h,_=>by omega
 |n+1,i,b,hi,h,hb=>by
  simp only[JI,Rw,AB,ARU,AMJ];have c2:b.length+1≤Ds:=by rw[BT];omega
  by_cases hc:i<l.length
  ·have c1:(0:Int)≤(i:Int)∧(i:Int)<(l.length:Int):=by omega
   have c3:(b++[(e.1,e.2.1,e.2.2.1,e.2.2.2.1,())]).length+1≤Ds:=by grind[BT]
   rw[ALI c1.2];simp only[ALI c1,ALI c2,ALI c3];rw[AL (by omega) (by omega),show((i:Int)+1)=((i+1:Nat):Int)by omega,Ak hc,drop_cons hc];rw[show(l[i].1,l[i].2.1,l[i].2.2.1,l[i].2.2.2.1,())=l[i]from rfl,show(e.1,e.2.1,e.2.2.1,e.2.2.2.1,())=e from rfl,WH];simp only[AD,keep];by_cases hx:l[i].1=e.1
   ·rw[show(l[i].1==e.1)=true by simp_all,ALI hx,AMJ,show((better l[i] e).1,(better l[i] e).2.1,(better l[i] e).2.2.1,(better l[i] e).2.2.2.1,())=better l[i] e from rfl,TC hl n (i+1) _ (by omega) (by omega) (by grind)]
    simp
   ·rw[show(l[i].1==e.1)=false by simp_all,ALT hx,ALz]
    by_cases hg:l[i].1>e.1
    ·rw[ALI hg,ALI hg,TC hl n (i+1) _ (by omega) (by omega) (by grind)]
     simp
    ·rw[ALT hg,ALT hg,X6 hl n (i+1) _ (by omega) (by omega) (by simp_all)]
     simp
  ·rw[ALT (by omega),ALI c2,AMI (by omega)]
   rfl
theorem WS{l:List AJ}{e:AJ}(hl:l.length≤2^30):Qd l e=some (((),()),(keep e l,())):=by
 grind[Qd,Xz,X6,Ae,Ag]
theorem Tg{l:List AJ}{p:Int}(hl:l.length≤2^30):HO l p=some ((((EA p l).getD Dq,(EA p l).isSome,()),()),()):=by
 have key:∀(n i:Nat),i≤l.length→l.length-i<n→Pc n l p i 0 0 false []=some ((((EA p (l.drop i)).getD Dq,(EA p (l.drop i)).isSome,()),()),()):=by
  intro n
  induction n with
  |zero=>omega
  |succ n ih=>
   intro i hi h;simp only[Pc,Zc,AB];by_cases hc:i<l.length
   ·have c1:(0:Int)≤(i:Int)∧(i:Int)<(l.length:Int):=by omega
    rw[ALI c1.2];simp only[ALI c1];rw[AL (by omega) (by omega),show((i:Int)+1)=((i+1:Nat):Int)by omega,Ak hc,drop_cons hc,ih (i+1) (by omega) (by omega)];simp only[EA,AUO];cases l[i].1==p<;>rfl
   ·rw[ALT (by omega),AMI (by omega)]
    rfl
 grind[HO,ZS,Ae,Ag]
end Go.M
end
section
namespace Go.M
open Go.M.H (AJ AN Au Ac AA CX AQ A9 AM Ab BG As BO An Af AW Ar)
theorem uT{k:Int}{i:Nat}(hk:0≤k∧k<2^63)(hi:i≤63):(br .i64 (k.fdiv (2^(min i 64))) 1==1)=decide ((k/2^i)%2=1):=by
 obtain⟨m,rfl⟩:∃m:Nat,k=m:=⟨k.toNat,by omega⟩;rw[show min i 64=i by omega];have h1:(m:Int).fdiv (2^i)=((m/2^i:Nat):Int):=by
  grind
 have h2:(m:Int)/2^i=((m/2^i:Nat):Int):=by norm_cast
 have h3:m/2^i<2^63:=Nat.lt_of_le_of_lt (Nat.div_le_self _ _) (by omega);rw[h1,h2,show(1:Int)=((1:Nat):Int)from rfl,ADk h3 (by omega),Nat.and_one_is_mod];rfl
def wA(p:Nat→Bool):Nat→List AJ→List AJ
 |_,[]=>[]
 |i,e::l=>if p i then e::wA p (i+1) l else wA p (i+1) l
theorem sN{k:Int}(hk:0≤k∧k<2^63):∀{l:List AJ} {i:Nat},i+l.length≤60→wA (fun i=>br .i64 (k.fdiv (2^(min i 64))) 1==1) i l=L3 k i l
 |[],i,_=>rfl
 |e::l,i,h=>by
  simp only[ANW]at h;have ih:=sN hk (l:=l) (i:=i+1) (by omega);have ABW:=uT hk (i:=i) (by omega);simp only[wA,L3];simp_all
theorem YI{s:AN}{k:Int}(h1:s.1.length≤200)(h2:s.2.1.length≤20):∀(n i:Nat) (b:List AJ),i≤s.2.1.length→s.2.1.length-i<n→b.length≤200+i→
  JY n k i s.1 s.2.1 s.2.2.1 0 [] [] s.2.2.1 b []=
   some (ld (if BK k 0 1048575&&decide ((Db b (wA (fun i=>br .i64 (k.fdiv (2^(min i 64))) 1==1) i (s.2.1.drop i))).length≤200)then((Db b (wA (fun i=>br .i64 (k.fdiv (2^(min i 64))) 1==1) i (s.2.1.drop i)),[],s.2.2.1,()),true)else(s,false)))
 |0,i,b,_,h,_=>by omega
 |n+1,i,b,hi,h,hb=>by
  simp only[JY,Ss,AB];by_cases hc:i<s.2.1.length
  ·have c1:(0:Int)≤(i:Int)∧(i:Int)<(s.2.1.length:Int):=by omega
   have ih:=fun b hb=>YI (k:=k) h1 h2 n (i+1) b (by omega) (by omega) hb
   rw[ALI c1.2,ALT (by omega)];simp only[ALI c1];rw[AL (by omega) (by omega),show((i:Int)+1)=((i+1:Nat):Int)by omega,Ak hc,drop_cons hc,AL2];rw[show(s.2.1[i].1,s.2.1[i].2.1,s.2.1[i].2.2.1,s.2.1[i].2.2.2.1,())=s.2.1[i]from rfl,WS (by omega)];simp only[AD,wA];have kl:=XE (e:=s.2.1[i]) (l:=b);rcases AK7 (br .i64 (k.fdiv (2^(min i 64))) 1==1)with hb|hb
   ·simp only[hb,AMJ,ASe,Db]
    grind
   grind
  ·rw[ALT (by omega),AMI (by omega),Bd,show(s.1,s.2.1,s.2.2.1,())=s from rfl,N8 (by omega) (by omega)]
   simp only[AD,wA,Db];cases BK k 0 1048575 with
   |false=>rfl
   |true=>
    simp only[ALu,ALz,AMD];by_cases h200:b.length≤200
    ·rw[ALT (by omega),ARd h200];rfl
    ·rw[ALI (by omega),ASq h200];rfl
theorem WK{s:AN}{k:Int}(hw:An s≤2^30)(hs:qR s):Mq s k=some (ld (D3 s k)):=by
 obtain⟨l1,l2⟩:=Fu hw;unfold Mq Sb D3;rw[show(s.1,s.2.1,s.2.2.1,())=s from rfl,Fj hw hs];simp only[AD];rcases AK7 (CE s)with h|h
 rotate_left
 ·rw[h];rfl
 have Bz:=DC.1 h;rw[h];simp only[ALu,ALz,ALr,AOV];rw[ALI (by rw[BT];omega)];have:=YI (k:=k) Bz.nk Bz.nl Ae 0 s.1 (by omega) (Ag (by omega)) (by have:=Bz.nk;omega);rw[show((0:Nat):Int)=0 from rfl,ASi]at this;rw[this];rcases AK7 (BK k 0 1048575)with hk|hk
 ·have hk':=Ai.1 hk
  have hn:=Bz.nl;grind[sN]
 simp_all
theorem YA{s:AN}(hw:An s≤2^30)(hs:qR s):OH s=some (ld (Cf s)):=by
 unfold OH Cf;rw[show(s.1,s.2.1,s.2.2.1,())=s from rfl,WK hw hs];rfl
theorem iW{s:AN}{u:Int}(hw:An s≤2^30)(hs:qR s):RE s u=some (ld (Bg s u)):=by
 obtain⟨l1,l2⟩:=Fu hw;unfold RE Bg;rw[show(s.1,s.2.1,s.2.2.1,())=s from rfl,Fj hw hs,YA hw hs,N8 l1 l2,Bd];simp only[AD];cases CE s with
 |false=>rfl
 |true=>
  simp only[ALu,ALz,ALr,AOV,ld];cases(Cf s).2 with
  |false=>rfl
  |true=>
   cases BK u 0 30 with
   |false=>rfl
   |true=>
    simp only[ALu,ALz,AMD,ASe];rw[Kj];rfl
theorem jz{s:AN}{ep:Int}(hw:An s≤2^30)(hs:qR s):To s ep=some (((),()),(GH s ep,())):=by
 obtain⟨l1,l2⟩:=Fu hw;unfold To U7 GH;rcases AK7 (CE s)with h|h
 ·have key:∀(n i:Nat) (b:List AJ),i≤s.1.length→s.1.length-i<n→b.length≤i→Iu n ep i s.1 s.2.1 s.2.2.1 b=some (((),()),(b++(s.1.drop i).filter fun e=>AO e.1==ep,())):=by
   intro n
   induction n with
   |zero=>omega
   |succ n ih=>
    intro i b hi hn hb;simp only[Iu,PN,AB];have c2:b.length+1≤Ds:=by rw[BT];omega
    by_cases hc:i<s.1.length
    ·have c1:(0:Int)≤(i:Int)∧(i:Int)<(s.1.length:Int):=by omega
     rw[ALI c1.2];simp only[ALI c1,ALI c2];rw[AL (by omega) (by omega),show((i:Int)+1)=((i+1:Nat):Int)by omega,Ak hc,drop_cons hc,show(s.1,s.2.1,s.2.2.1,())=s from rfl,Fj hw hs,Ey (hs.1 _ (AL5 hc)),h];simp only[AD,AMJ,ASf];cases AO s.1[i].1==ep with
     |true=>
      simp only[AMJ,ASe];rw[ih (i+1) _ (by omega) (by omega) (by simp_all),AM4];rfl
     |false=>
      grind
    grind
  have:=key Ae 0 [] (by omega) (Ag (by omega)) (by simp);simp_all
 ·obtain⟨m,hm⟩:∃m,Ae=m+1:=⟨Ae-1,by have:=aF;omega⟩
  rw[h,hm];simp only[Iu,PN,AB];rw[show(s.1,s.2.1,s.2.2.1,())=s from rfl,Fj hw hs,h];simp_all
theorem iL{s:AN}{u:Int}(hw:An s≤2^30)(hs:qR s)(hu:DJ u):SC s u=some (ld (F_ s u)):=by
 obtain⟨l1,l2⟩:=Fu hw;unfold SC UD F_;rw[show(s.1,s.2.1,s.2.2.1,())=s from rfl,Fj hw hs,N8 l1 l2,IE hu];simp only[AD];cases CE s with
 |false=>rfl
 |true=>
  cases BN u with
  |false=>rfl
  |true=>
   simp only[ALu,ALz,ALr,AOV,ASe];have key:∀(n i:Nat) (b:List AJ),i≤s.1.length→s.1.length-i<n→b.length≤i→KV n u i s.1 s.2.1 s.2.2.1 0 [] [] s.2.2.1 b s.2.1=some (ld ((b++(s.1.drop i).filter fun e=>decide (e.1>u),s.2.1,s.2.2.1,()),true)):=by
    intro n
    induction n with
    |zero=>omega
    |succ n ih=>
     intro i b hi hn hb;simp only[KV,UP];have c2:b.length+1≤Ds:=by rw[BT];omega
     by_cases hc:i<s.1.length
     ·have c1:(0:Int)≤(i:Int)∧(i:Int)<(s.1.length:Int):=by omega
      rw[ARd c1.2];simp only[ALI c1,ALI c2,AMJ];rw[AL (by omega) (by omega),show((i:Int)+1)=((i+1:Nat):Int)by omega,Ak hc,drop_cons hc];simp only[ASf];cases decide (s.1[i].1>u)with
      |true=>
       simp only[AMJ,ASe];rw[ih (i+1) _ (by omega) (by omega) (by simp_all),AM4];rfl
      |false=>
       grind
     grind[decide_eq_false,List.drop_eq_nil_of_le,ld]
   have:=key Ae 0 [] (by omega) (Ag (by omega)) (by simp);simp_all
end Go.M
end
section
namespace Go.M
open Go.M.H (AJ AN Au Ac AA CX AQ A9 AM Ab BG As BO An Af AW AZ Ar CL BU Ax)
theorem M1{α:Type}{l:List α}{i:Nat}{x d:α}(hi:i<l.length):(l.set i x).getD i d=x:=by
 simp_all
theorem OZ{α:Type}{l:List α}{f:α→α}{i:Nat}(hi:i≤l.length):((l.map f).take i++l.drop i).length=l.length:=by
 simp_all
theorem Mb{α:Type}{l:List α}{f:α→α}{i:Nat}{d:α}(hi:i<l.length):((l.map f).take i++l.drop i).getD i d=l[i]:=by
 grind
theorem Pk{α:Type}{l:List α}{f:α→α}{i:Nat}{y:α}(hi:i<l.length)(hy:y=f l[i]):((l.map f).take i++l.drop i).set i y=(l.map f).take (i+1)++l.drop (i+1):=by
 have h:((l.map f).take i).length=i:=by grind
 subst hy;rw[AW3 _ _ (by omega),h,AXC,drop_cons hi,AWt,ASo (by simp_all),AM4,List.getElem_map];rfl
theorem iE{α:Type}{l:List α}{f:α→α}{i:Nat}(hi:i<l.length)(hf:f l[i]=l[i]):(l.map f).take i++l.drop i=(l.map f).take (i+1)++l.drop (i+1):=by
 grind[List.take_succ_eq_append_getElem,List.append_assoc,drop_cons]
theorem vj{n:Int}:∀{l:AAH},(fz n l).length=l.length+1
 |[]=>rfl
 |a::l=>by
  simp only[fz];split
  ·simp
  ·simp[vj (l:=l)]
theorem T5{n:Int}{l:AAH}:(JO n l).length≤l.length+1:=by
 grind[JO,vj]
theorem FF{r:AQ}{e:Int}(hl:Af CL r.1≤2^30):Cd r e=some (((),()),(Ap r.1 e,())):=by
 have l1:=AW (f:=CL) (l:=r.1);unfold Cd Ap;rw[Bd];simp only[AD];rcases AK7 (BK e 1 (r.1.length:Int))with h|h
 ·have h':=Ai.1 h
  have hm:=AZ (f:=CL) (BV (d:=GL) (l:=r.1) (i:=(e-1).toNat) (by omega));have px:(r.1.getD (e-1).toNat GL).1.length≤Af CL r.1:=hm;rw[h,AL (by omega) (by omega)];simp only[ALu,ALz,ASe];rw[ALI (by omega),ALI (by grind[BT,GL])];rfl
 simp_all
theorem RI{r:AQ}(hl:Af CL r.1≤2^30):F6 r=some ((((),r.2.1,()),()),(r.1,())):=by
 have l1:=AW (f:=CL) (l:=r.1);have key:∀(n i:Nat) (b:List CX),i≤r.1.length→r.1.length-i<n→b.length≤i→Nu n i r.1 r.2.1 0 [] r.2.1 b=some ((((),r.2.1,()),()),(b++r.1.drop i,())):=by
  intro n
  induction n with
  |zero=>omega
  |succ n ih=>
   intro i b hi hn hb;simp only[Nu,Xg,AB];by_cases hc:i<r.1.length
   ·have c1:(0:Int)≤(i:Int)∧(i:Int)<(r.1.length:Int):=by omega
    have hm:=AZ (f:=CL) (AL5 hc)
    replace hm:r.1[i].1.length≤Af CL r.1:=hm
    rw[ALI c1.2,ALI c1,AL (by omega) (by omega),show((i:Int)+1)=((i+1:Nat):Int)by omega,Ak hc,ALI (by rw[BT];omega),ALI (by rw[BT];omega),drop_cons hc,ih (i+1) _ (by omega) (by omega) (by simp_all),AM4];rfl
   grind
 grind[F6,Xj,Ae,Ag]
def pkR(q:AQ×Bool):AE6×(List CX×Unit):=(((((),q.1.2.1,()),q.2,()),()),(q.1.1,()))
section
variable{c:CK} {r:AQ} (hc:c.1.length≤2^40) (hl:Af CL r.1≤2^30) (ht:DJ r.2.1)
include hc hl ht
theorem mG{ns:AAH}(hn:ns.length≤2^30):O5 c r ns=some (((((),(Ij c r ns).1.2.1,()),(Ij c r ns).2.1,(Ij c r ns).2.2,()),()),((Ij c r ns).1.1,())):=by
 have l1:=AW (f:=CL) (l:=r.1);unfold O5 Ij;rw[show(c.1,c.2.1,())=c from rfl,show(r.1,r.2.1,())=r from rfl,Pg hc hl ht,RI hl,Ew hc (by omega)];simp only[AD];cases Mk c r with
 |false=>rfl
 |true=>
  cases holds c ns with
  |false=>rfl
  |true=>
   simp only[ALu,ALz,ALr,AOV,AMD];by_cases h30:r.1.length=30
   ·simp_all
   ·rw[show((r.1.length:Int)==30)=false by grind,show decide (r.1.length≠30)=true by simp[h30],ALz,ALI (by rw[BT];omega),ALI (by rw[BT];omega)]
    simp
theorem j4{b last:Int}:Ti c r b last=some (pkR (Mc c r b last)):=by
 have l1:=AW (f:=CL) (l:=r.1);unfold Ti Mc;rw[show(c.1,c.2.1,())=c from rfl,show(r.1,r.2.1,())=r from rfl,Pg hc hl ht,RI hl,NU (by omega)];simp only[AD];rcases AK7 (Mk c r)with hr|hr
 rotate_left
 ·rw[hr];rfl
 rw[hr];simp only[ALu,ALz,ALr,AOV];by_cases h1:b=r.1.length
 rotate_left
 ·rw[show(b !=(r.1.length:Int))=true by simp_all,show decide (b=(r.1.length:Int))=false by simp_all]
  rfl
 rw[show(b !=(r.1.length:Int))=false by simp_all,show decide (b=(r.1.length:Int))=true by simp_all];simp only[ALz,AMD];by_cases h2:A5 r.1=0
 ·rw[show(A5 r.1==0)=true by simp_all,show decide (A5 r.1≠0)=false by simp_all]
  rfl
 rw[show(A5 r.1==0)=false by simp_all,show decide (A5 r.1≠0)=true by simp_all];simp only[ALz,AMD];by_cases h3:b=A5 r.1
 ·rw[show(b==A5 r.1)=true by simp_all,show decide (b≠A5 r.1)=false by simp_all]
  rfl
 rw[show(b==A5 r.1)=false by simp_all,show decide (b≠A5 r.1)=true by simp_all,Bd];simp only[ALz,AMD,AD];cases BK last 0 60 with
 |false=>rfl
 |true=>
  have Bz:=I1.1 hr;have AG5:0<r.1.length:=by
   rcases AWx r.1.length with hz|hz
   ·exact absurd (by unfold A5;rw[hz];rfl) h2
   omega
  obtain⟨k,k1,k2,k3,k4⟩:=N1 Bz AG5;simp only[ALu,ALz,ASe];rw[k2,AL (by omega) (by omega),show((k:Int)+1-1)=(k:Int)by omega,ALI (by omega),ALI (by simp_all),AL2];unfold pkR Gj;simp_all
theorem mX{p:Int}(hp:DJ p):Vn c r p=some (pkR (L8 c r p)):=by
 unfold Vn L8;rw[show(c.1,c.2.1,())=c from rfl,show(r.1,r.2.1,())=r from rfl,Pg hc hl ht,RI hl,IE hp,Ey hp];simp only[AD];cases Mk c r with
 |false=>rfl
 |true=>
  cases BN p with
  |false=>rfl
  |true=>
   simp only[ALu,ALz,ALr,AOV,AMD];by_cases h:AO p≤r.1.length
   ·rw[show decide (AO p>(r.1.length:Int))=false by simp_all,show decide (AO p≤(r.1.length:Int))=true by simp_all,ALz,Kj]
    rfl
   ·rw[show decide (AO p>(r.1.length:Int))=true by simp_all,show decide (AO p≤(r.1.length:Int))=false by simp_all]
    rfl
end
theorem RY{w:AM}(hl:Af BU w.2.1≤2^30):FQ w=some (((w.1,(),()),()),(w.2.1,())):=by
 have l1:=AW (f:=BU) (l:=w.2.1);have key:∀(n i:Nat) (b:List A9),i≤w.2.1.length→w.2.1.length-i<n→b.length≤i→OC n i w.1 w.2.1 0 [] w.1 b=some (((w.1,(),()),()),(b++w.2.1.drop i,())):=by
  intro n
  induction n with
  |zero=>omega
  |succ n ih=>
   intro i b hi hn hb;simp only[OC,Xh,AB];by_cases hc:i<w.2.1.length
   ·have c1:(0:Int)≤(i:Int)∧(i:Int)<(w.2.1.length:Int):=by omega
    have hm:w.2.1[i].1.length+w.2.1[i].2.1.length≤Af BU w.2.1:=AZ (f:=BU) (AL5 hc);rw[ALI c1.2,ALI c1,AL (by omega) (by omega),show((i:Int)+1)=((i+1:Nat):Int)by omega,Ak hc,ALI (by rw[BT];omega),ALI (by rw[BT];omega),drop_cons hc,ih (i+1) _ (by omega) (by omega) (by simp_all),AM4];rfl
   grind
 grind[FQ,X5,Ae,Ag]
theorem YH{α:Type}{f:α→Nat}{l m:List α}:Af f (l++m)=Af f l+Af f m:=by
 induction l with
 |nil=>simp[Af]
 |cons a l ih=>grind[Af]
theorem ll{n:Int}{x:A9}(h:x.2.2.1=true):Cx n x=x:=by
 obtain⟨a,b,d,e⟩:=x;simp only at h;subst h;rfl
def pkW(q:AM×Bool):AEz×(List A9×Unit):=((((q.1.1,(),()),q.2,()),()),(q.1.2.1,()))
section
variable{c:CK} {w:AM} (hc:c.1.length≤2^40) (hl:Af BU w.2.1≤2^20)
include hc hl
theorem jG{d:ABs}(hd:d.length≤2^20):K8 c w d=some (((((CI c w d).1.1,(),()),(CI c w d).2.1,(CI c w d).2.2,()),()),((CI c w d).1.2.1,())):=by
 have l1:=AW (f:=BU) (l:=w.2.1);unfold K8 CI;rw[show(c.1,c.2.1,())=c from rfl,show(w.1,w.2.1,())=w from rfl,LW hc (by omega),RY (by omega)];simp only[AD];cases Fc c w with
 |false=>rfl
 |true=>
  simp only[ALu,ALz,ALr,AOV];rw[ALI (by rw[BT];omega),LW hc (by
   grind[Af,BU,YH,List.length_nil])]
  grind
theorem hU{o n:Int}:Fa c w o n=some (pkW (Qu c w o n)):=by
 have l1:=AW (f:=BU) (l:=w.2.1);unfold Fa Qu;rw[show(c.1,c.2.1,())=c from rfl,show(w.1,w.2.1,())=w from rfl,LW hc (by omega),RY (by omega),Bd,Bd];simp only[AD];rcases AK7 (Fc c w)with hw|hw
 rotate_left
 ·rw[hw];rfl
 have yN:=Fq (Ih.1 hw).cfg;rw[hw,AL (x:=(c.1.length:Int)-1) (by omega) (by omega)];simp only[ALu,ALz,ALr,AOV];rcases AK7 (BK o 1 (w.2.1.length:Int))with ho|ho
 rotate_left
 ·rw[ho];rfl
 have we:=Ai.1 ho;rw[ho];cases BK n 0 ((c.1.length:Int)-1)with
 |false=>rfl
 |true=>
  have hi:(o-1).toNat<w.2.1.length:=by omega
  have hm:(w.2.1.getD (o-1).toNat Kn).1.length+(w.2.1.getD (o-1).toNat Kn).2.1.length≤Af BU w.2.1:=AZ (f:=BU) (BV (d:=Kn) hi);simp only[ALu,ALz,AMD];rw[AL (by omega) (by omega),ALI (by omega)]
  show cond (w.2.1.getD (o-1).toNat Kn).2.2.1 _ _=_
  cases(w.2.1.getD (o-1).toNat Kn).2.2.1 with
  |true=>rfl
  |false=>
   simp only[ALz,ARU,ASe];rw[ALI (by omega),show(w.2.1.getD (o-1).toNat ([],[],false,())).2.1=(w.2.1.getD (o-1).toNat Kn).2.1 from rfl,My (by omega)];simp only[AD];rw[ALI (by omega)];have hg:∀x:A9,(w.2.1.set (o-1).toNat x).getD (o-1).toNat ([],[],false,())=x:=fun x=>M1 hi
   rw[ALI (by grind),hg,Ew hc (by
    grind[T5,Kn])]
   simp only[AD];rw[ALI (by grind),AXB];rfl
theorem cJ{n:Int}:NQ c w n=some (pkW (CD c w n)):=by
 have l1:=AW (f:=BU) (l:=w.2.1);unfold NQ Qo CD;rw[show(c.1,c.2.1,())=c from rfl,show(w.1,w.2.1,())=w from rfl,LW hc (by omega),RY (by omega)];simp only[AD];cases Fc c w with
 |false=>rfl
 |true=>
  simp only[ALu,ALz,ALr,AOV];have key:∀(k i:Nat),i≤w.2.1.length→w.2.1.length-i<k→Hi k n i 0 [] w.1 ((w.2.1.map (Cx n)).take i++w.2.1.drop i)=some (pkW ((w.1,w.2.1.map (Cx n),()),true)):=by
   intro k
   induction k with
   |zero=>omega
   |succ k ih=>
    intro i hi hk;have hlen:((w.2.1.map (Cx n)).take i++w.2.1.drop i).length=w.2.1.length:=OZ hi;simp only[Hi,Qp,AB,hlen];by_cases De:i<w.2.1.length
    ·have c1:(0:Int)≤(i:Int)∧(i:Int)<(w.2.1.length:Int):=by omega
     have hm:w.2.1[i].1.length+w.2.1[i].2.1.length≤Af BU w.2.1:=AZ (f:=BU) (AL5 De);have hg:((w.2.1.map (Cx n)).take i++w.2.1.drop i).getD ((i:Int).toNat) ([],[],false,())=w.2.1[i]:=Mb De;rw[ALI c1.2];simp only[ALI c1,hg];rw[AL (by omega) (by omega),show((i:Int)+1)=((i+1:Nat):Int)by omega];rcases AK7 (w.2.1[i].2.2.1)with hd|hd
     ·rw[hd]
      simp only[ALu,ALz];grind[iE,ll]
     ·rw[hd]
      simp only[ARU,AMJ];rw[JR (by omega) (by simp)];grind[AD,Int.toNat_natCast,Pk,Cx]
    ·rw[ALT (by omega),AMI (by omega)]
     have:i=w.2.1.length:=by omega
     subst this;rw[AMa,ASm (by simp)];rfl
  have:=key Ae 0 (by omega) (Ag (by omega));simp_all
end
end Go.M
end
section
namespace Go.M
open Go.M.H (AJ AN Au Ac AA CX AQ A9 AM Ab BG As BO An Af AW AZ Ar CL BU Ax Ca DN)
abbrev PkM:Type:=ADu×(List Int×List AJ×List AAH×Unit)
def iG(q:Au×Bool):PkM:=((((q.1.1,q.1.2.1,(),(),q.1.2.2.2.2.1,(),()),q.2,()),()),(q.1.2.2.1,q.1.2.2.2.1,q.1.2.2.2.2.2.1,()))
section
variable{m:Au} (hm:Ca m≤2^20)
include hm
theorem Iz:m.2.2.1.length≤2^20∧m.2.2.2.1.length≤2^20∧m.2.2.2.2.2.1.length≤2^20∧ ∀l∈m.2.2.2.2.2.1,l.length≤2^20:=by
 have l1:=AW (f:=Ar) (l:=m.2.2.2.1);have l2:=AW (f:=DN) (l:=m.2.2.2.2.2.1);have px:m.2.2.1.length+(Af Ar m.2.2.2.1+(Af DN m.2.2.2.2.2.1+0))≤2^20:=by
  grind[Ca]
 refine⟨by omega,by omega,by omega,fun l hl=> ?_⟩;have:l.length≤Af DN m.2.2.2.2.2.1:=AZ (f:=DN) hl;omega
theorem LK:EL m=some (((m.1,m.2.1,(),(),m.2.2.2.2.1,(),()),()),(m.2.2.1,m.2.2.2.1,m.2.2.2.2.2.1,())):=by
 obtain⟨h1,h2,h3,h4⟩:=Iz hm;have key:∀(n i:Nat) (b:List AAH),i≤m.2.2.2.2.2.1.length→m.2.2.2.2.2.1.length-i<n→b.length≤i→
   Hs n i m.1 m.2.1 m.2.2.1 m.2.2.2.1 m.2.2.2.2.1 m.2.2.2.2.2.1 0 0 false [] [] [] m.1 m.2.1 m.2.2.2.2.1 m.2.2.1 m.2.2.2.1 b=some (((m.1,m.2.1,(),(),m.2.2.2.2.1,(),()),()),(m.2.2.1,m.2.2.2.1,b++m.2.2.2.2.2.1.drop i,())):=by
  intro n
  induction n with
  |zero=>omega
  |succ n ih=>
   intro i b hi hn hb;simp only[Hs,R_,AB];by_cases hc:i<m.2.2.2.2.2.1.length
   ·have c1:(0:Int)≤(i:Int)∧(i:Int)<(m.2.2.2.2.2.1.length:Int):=by omega
    have hq:=h4 _ (AL5 hc);rw[ALI c1.2,ALI c1,AL (by omega) (by omega),show((i:Int)+1)=((i+1:Nat):Int)by omega,Ak hc,ALI (by rw[BT];omega),ALI (by rw[BT];omega),drop_cons hc,ih (i+1) _ (by omega) (by omega) (by simp_all),AM4];rfl
   grind
 unfold EL NI;rw[ALI (by rw[BT];omega),ALI (by rw[BT];omega)];grind[Ae,Ag]
end
theorem cM{l s:AAH}(hl:l.length≤2^20)(hs:s.length≤2^20):KW l s=some (((),()),(l.filter s.contains,())):=by
 unfold KW;rw[JR (by omega) (by omega)];simp only[AD];have zn:(less l s).length≤l.length:=ARK _ _;rw[JR (by omega) (by omega)];grind[AD,less,List.filter_congr]
theorem cR{c:CK}{s l:AAH}(hc:c.1.length≤2^40)(hl:l.length≤2^20)(hs:s.length≤2^20):KK c s l=some ((JJ c s l,()),()):=by
 unfold KK JJ;rw[show(c.1,c.2.1,())=c from rfl,Ew (l:=s) hc (by omega),Gw (l:=l) hc (by omega),JR (l:=l) (m:=s) (by omega) (by omega),JR (l:=s) (m:=l) (by omega) (by omega)];simp only[AD];rcases AK7 (holds c s)with h|h
 rotate_left
 ·simp_all
 rw[h];cases Aw c l with
 |false=>rfl
 |true=>
  simp only[ALu,ALz,AMD];have hn:Aw c (less s l)=true:=LZ _ (Ny h);by_cases ha:(less l s).length>0
  ·rw[show decide (((less l s).length:Int)>0)=true by simp_all]
   have:l.all s.contains=false:=by
    rw[AS1];grind[List.all_eq_true,less,List.filter_eq_nil_iff]
   grind
  ·rw[ASq (show¬((less l s).length:Int)>0 by omega)]
   have:l.all s.contains=true:=by
    grind[less,List.length_eq_zero_iff,List.filter_eq_nil_iff,List.all_eq_true]
   rw[this];simp only[ALz,AMD];rw[cH hn];simp only[AD,holds,hn,AMD];grind[aC,less,decide_eq_true,decide_eq_false]
section
variable{c:CK} {m:Au} (hc:c.1.length≤2^40) (hm:Ca m≤2^20) (h:qj m.2.2.2.1)
include hc hm h
theorem mv{o n:Int}:Hc c m o n=some (iG (Ya c m o n)):=by
 obtain⟨h1,h2,h3,h4⟩:=Iz hm;unfold Hc Ya;rw[show(c.1,c.2.1,())=c from rfl,show(m.1,m.2.1,m.2.2.1,m.2.2.2.1,m.2.2.2.2.1,m.2.2.2.2.2.1,())=m from rfl,JC hc (by omega) h,LK hm,Bd,Bd];simp only[AD];rcases AK7 (G4 c m)with hw|hw
 rotate_left
 ·rw[hw];rfl
 have yN:=Fq (HJ.1 hw).cfg;rw[hw,AL (x:=(c.1.length:Int)-1) (by omega) (by omega)];simp only[ALu,ALz,ALr,AOV];rcases AK7 (BK o 1 (m.2.2.2.2.2.1.length:Int))with ho|ho
 rotate_left
 ·rw[ho];rfl
 have we:=Ai.1 ho;rw[ho];cases BK n 0 ((c.1.length:Int)-1)with
 |false=>rfl
 |true=>
  have hi:(o-1).toNat<m.2.2.2.2.2.1.length:=by omega
  have hq:=h4 _ (BV (d:=([]:AAH)) hi);simp only[ALu,ALz,AMD,ASe];rw[AL (by omega) (by omega),ALI (by omega),My (by omega)];simp only[AD];rw[ALI (by omega)];rfl
theorem fJ{n:Int}:P9 c m n=some (iG (CB c m n)):=by
 obtain⟨h1,h2,h3,h4⟩:=Iz hm;unfold P9 SW CB;rw[show(c.1,c.2.1,())=c from rfl,show(m.1,m.2.1,m.2.2.1,m.2.2.2.1,m.2.2.2.2.1,m.2.2.2.2.2.1,())=m from rfl,JC hc (by omega) h,LK hm];simp only[AD];cases G4 c m with
 |false=>rfl
 |true=>
  simp only[ALu,ALz,ALr,AOV];have key:∀(k i:Nat),i≤m.2.2.2.2.2.1.length→m.2.2.2.2.2.1.length-i<k→JH k n i 0 0 false [] [] [] m.1 m.2.1 m.2.2.2.2.1 m.2.2.1 m.2.2.2.1 ((m.2.2.2.2.2.1.map (fun l=>less l [n])).take i++m.2.2.2.2.2.1.drop i)=
    some (iG ((m.1,m.2.1,m.2.2.1,m.2.2.2.1,m.2.2.2.2.1,m.2.2.2.2.2.1.map (fun l=>less l [n]),()),true)):=by
   intro k
   induction k with
   |zero=>omega
   |succ k ih=>
    intro i hi hk;have hlen:=OZ (f:=fun l=>less l [n]) hi;simp only[JH,Sr,AB,hlen];by_cases De:i<m.2.2.2.2.2.1.length
    ·have c1:(0:Int)≤(i:Int)∧(i:Int)<(m.2.2.2.2.2.1.length:Int):=by omega
     have hq:=h4 _ (AL5 De);have hg:((m.2.2.2.2.2.1.map (fun l=>less l [n])).take i++m.2.2.2.2.2.1.drop i).getD ((i:Int).toNat) []=m.2.2.2.2.2.1[i]:=Mb De;rw[ALI c1.2];simp only[ALI c1,hg];rw[AL (by omega) (by omega),show((i:Int)+1)=((i+1:Nat):Int)by omega,JR (by omega) (by simp)];simp only[AD];rw[AL2,Pk De rfl];grind
    ·rw[ALT (by omega),AMI (by omega)]
     have:i=m.2.2.2.2.2.1.length:=by omega
     subst this;rw[AMa,ASm (by simp)];rfl
  have:=key Ae 0 (by omega) (Ag (by omega));simp_all
theorem il:RU c m=some ((Oy c m,()),()):=by
 obtain⟨h1,h2,h3,h4⟩:=Iz hm;unfold RU UZ Oy;rw[show(c.1,c.2.1,())=c from rfl,show(m.1,m.2.1,m.2.2.1,m.2.2.2.1,m.2.2.2.2.1,m.2.2.2.2.2.1,())=m from rfl,JC hc (by omega) h];simp only[AD];cases G4 c m with
 |false=>rfl
 |true=>
  rcases AK7 m.2.2.2.2.1 with hp|hp
  rotate_left
  ·simp_all
  have key:∀(k i:Nat),i≤m.2.2.2.2.2.1.length→m.2.2.2.2.2.1.length-i<k→KS k i c.1 c.2.1 m.1 m.2.1 m.2.2.1 m.2.2.2.1 m.2.2.2.2.1 m.2.2.2.2.2.1=some (((m.2.2.2.2.2.1.drop i).all (holds c),()),()):=by
   intro k
   induction k with
   |zero=>omega
   |succ k ih=>
    intro i hi hk;simp only[KS,T7,AB];by_cases De:i<m.2.2.2.2.2.1.length
    ·have c1:(0:Int)≤(i:Int)∧(i:Int)<(m.2.2.2.2.2.1.length:Int):=by omega
     have hq:=h4 _ (AL5 De);rw[ALI c1.2,ALI c1,AL (by omega) (by omega),show((i:Int)+1)=((i+1:Nat):Int)by omega,Ak De,drop_cons De,show(c.1,c.2.1,())=c from rfl,Ew hc (by omega),ih (i+1) (by omega) (by omega)];simp only[AD,AS3];cases holds c m.2.2.2.2.2.1[i]<;>rfl
    grind
  have:=key Ae 0 (by omega) (Ag (by omega));simp_all
omit hc h in
theorem Yc{o:Int}:Ek m o=some ((((Dc m o).getD Dq,(Dc m o).isSome,()),()),()):=by
 obtain⟨h1,h2,h3,h4⟩:=Iz hm;unfold Ek Dc;rw[iV];simp only[AD];rw[Tg (by omega)];simp only[AD];cases m.2.2.2.2.1 with
 |false=>rfl
 |true=>
  simp only[ALu,ALz,AMD];rcases AK7 (BK m.2.1 1 30)with he|he
  rotate_left
  ·rw[he];rfl
  rcases AK7 (BK o 1 60)with ho|ho
  rotate_left
  ·rw[he,ho];rfl
  have hp:GW m.2.1 o=D9 m.2.1 o:=by unfold GW;rw[he,ho];rfl
  rw[he,ho,hp];simp only[AS4,ALu,ALz,AMD];by_cases hl:o≤m.2.2.2.2.2.1.length
  ·rw[show decide (o>(m.2.2.2.2.2.1.length:Int))=false by simpa using hl,show decide (o≤(m.2.2.2.2.2.1.length:Int))=true by simpa using hl]
   simp only[ALz,ASe];cases EA (D9 m.2.1 o) m.2.2.2.1<;>rfl
  ·rw[show decide (o>(m.2.2.2.2.2.1.length:Int))=true by simp;omega,show decide (o≤(m.2.2.2.2.2.1.length:Int))=false by simp;omega]
   rfl
theorem jw{s:AAH}(hs:s.length≤2^20):TZ c m s=some (iG (IH c m s)):=by
 obtain⟨h1,h2,h3,h4⟩:=Iz hm;unfold TZ VU IH;rw[show(c.1,c.2.1,())=c from rfl,show(m.1,m.2.1,m.2.2.1,m.2.2.2.1,m.2.2.2.2.1,m.2.2.2.2.2.1,())=m from rfl,JC hc (by omega) h,LK hm];simp only[AD];rcases AK7 (G4 c m)with Bz|Bz
 rotate_left
 ·rw[Bz];rfl
 have hmo:=HJ.1 Bz;rw[Bz];rcases AK7 m.2.2.2.2.1 with hp|hp
 ·rw[hp]
  simp only[ALu,ALz,AMJ,ASk,ALr,AOV,iG,hp]
 have hn:=hmo.n;rw[hp]at hn;have hw0:m.2.2.2.2.2.1=[]:=AWv.1 (by simp_all);rw[hp];simp only[ALu,ARU,ALz,ALr,AOV,AMD];rw[cM (by omega) hs];have xO:(m.2.2.1.filter s.contains).length≤m.2.2.1.length:=ARK _ _;simp only[AD];rw[cR hc (by omega) hs];simp only[AD];cases JJ c s (m.2.2.1.filter s.contains)with
 |false=>simp[iG,hp]
 |true=>
  simp only[ALu,ALz,ASe];have hlb:=Gm (l:=m.2.2.2.1);have key:∀(k i:Nat),(i:Int)≤Li m.2.2.2.1→(Li m.2.2.2.1).toNat-i<k→Lh k i m.1 m.2.1 m.2.2.1 m.2.2.2.1 false m.2.2.2.2.2.1 0 0 false [] [] [] m.1 m.2.1 true m.2.2.1 m.2.2.2.1 (List.replicate i [])=
    some (iG ((m.1,m.2.1,m.2.2.1,m.2.2.2.1,true,List.replicate (Li m.2.2.2.1).toNat [],()),true)):=by
   intro k
   induction k with
   |zero=>omega
   |succ k ih=>
    intro i hi hk;simp only[Lh,U4];rw[show Qr (m.1,m.2.1,m.2.2.1,m.2.2.2.1,false,m.2.2.2.2.2.1,())=some ((Li m.2.2.2.1,()),())from cg (m:=(m.1,m.2.1,m.2.2.1,m.2.2.2.1,false,m.2.2.2.2.2.1,())) (by grind) h];simp only[AD,AB];by_cases De:(i:Int)<Li m.2.2.2.1
    ·rw[ALI De,ALI (by rw[BT,AV4];omega),AL (by omega) (by omega),show((i:Int)+1)=((i+1:Nat):Int)by omega,←List.replicate_succ']
     exact ih (i+1) (by omega) (by omega)
    ·rw[ALT De]
     have:i=(Li m.2.2.2.1).toNat:=by omega
     rw[this];rfl
  have:=key Ae 0 (by omega) (Ag (by omega));simp_all
theorem kN{n:Int}{l:List AJ}(hl:l.length≤2^20)(O9:qj l)(hw:Af Ar l≤2^20):Tb c m n l=some (iG (K6 c m n l)):=by
 obtain⟨h1,h2,h3,h4⟩:=Iz hm;unfold Tb VJ K6;rw[show(c.1,c.2.1,())=c from rfl,show(m.1,m.2.1,m.2.2.1,m.2.2.2.1,m.2.2.2.2.1,m.2.2.2.2.2.1,())=m from rfl,JC hc (by omega) h,LK hm];simp only[AD];rw[My (by omega)];simp only[AD];rcases AK7 (G4 c m)with Bz|Bz
 rotate_left
 ·rw[Bz];rfl
 rw[Bz];simp only[ALu,ALz,ALr,AOV];have AUm:∀(e:AJ) (k:List AJ),Af Ar (keep e k)≤Af Ar k+(1+Ar e):=by
  intro e k
  induction k with
  |nil=>simp[keep,Af]
  |cons x k ih=>
   grind[keep,Af,better]
 have key:∀(k i:Nat) (b:List AJ),i≤l.length→l.length-i<k→b.length≤2^20+i→qj b→Af Ar b+Af Ar (l.drop i)≤2^21→
   Lg k l i c.1 c.2.1 m.1 m.2.1 m.2.2.1 m.2.2.2.1 m.2.2.2.2.1 m.2.2.2.2.2.1 0 0 false [] [] [] m.1 m.2.1 m.2.2.2.2.1 (JO n m.2.2.1) b m.2.2.2.2.2.1=
   some (iG (if !m.2.2.2.2.1&&G4 c (m.1,m.2.1,JO n m.2.2.1,Db b ((l.drop i).filter fun e=>AO e.1==m.2.1),m.2.2.2.2.1,m.2.2.2.2.2.1,())then
    ((m.1,m.2.1,JO n m.2.2.1,Db b ((l.drop i).filter fun e=>AO e.1==m.2.1),m.2.2.2.2.1,m.2.2.2.2.2.1,()),true)else(m,false))):=by
  intro k
  induction k with
  |zero=>omega
  |succ k ih=>
   intro i b hi hk hb hbi hbw;simp only[Lg,VF,AB];by_cases De:i<l.length
   ·have c1:(0:Int)≤(i:Int)∧(i:Int)<(l.length:Int):=by omega
    rw[ALI c1.2];simp only[ALI c1];rw[AL (by omega) (by omega),show((i:Int)+1)=((i+1:Nat):Int)by omega,Ak De,drop_cons De,show(l[i].1,l[i].2.1,l[i].2.2.1,l[i].2.2.2.1,())=l[i]from rfl,Ey (O9 _ (AL5 De)),WS (by omega)];rw[drop_cons De]at hbw;simp only[Af]at hbw;simp only[AD,ASf];rcases AK7 (AO l[i].1==m.2.1)with he|he
    ·simp only[he,AMJ,ASe,Db]
     have:=XE (e:=l[i]) (l:=b);have hwk:=AUm l[i] b;exact ih (i+1) _ (by omega) (by omega) (by omega) (fun x hx=>by
      rcases cV hx with rfl|hx
      ·exact O9 _ (AL5 De)
      ·exact hbi x hx) (by omega)
    grind
   ·rw[ALT (by omega),AMI (by omega),show(m.1,m.2.1,m.2.2.1,m.2.2.2.1,m.2.2.2.2.1,m.2.2.2.2.2.1,())=m from rfl,show(c.1,c.2.1,())=c from rfl,LK hm]
    simp only[AW9,Db];rcases AK7 m.2.2.2.2.1 with hp|hp
    ·grind[iG]
    rw[AMI (by omega)]at hbw;simp only[Af]at hbw;have j5:=T5 (n:=n) (l:=m.2.2.1);have hb2:=AW (f:=Ar) (l:=b);rw[JC (m:=(m.1,m.2.1,JO n m.2.2.1,b,m.2.2.2.2.1,m.2.2.2.2.2.1,())) hc (by
     grind[Ca]) hbi]
    simp only[AD];rw[hp];simp only[ALz,ARU,AMD];grind[G4,JO,iG]
 have hsw:Af Ar m.2.2.2.1≤2^20:=by
  grind[Ca]
 have:=key Ae 0 m.2.2.2.1 (by omega) (Ag (by omega)) (by omega) h (by grind);simp_all
end
end Go.M
end
section
namespace Go.M
open Go.M.H (AJ AN Au Ac AA CX AQ A9 AM Ab BG As BO An Ca Af AW AZ Ar CL)
theorem A3{α:Type}{b:Bool}{x y:α}:cond (!b) x y=cond b y x:=by simp_all
theorem Cw{α:Type}{a b:Int}{x y:α}:cond (a !=b) x y=if a=b then y else x:=by
 simp_all
theorem DR{α:Type}{a b:Int}{x y:α}:cond (a==b) x y=if a=b then x else y:=by
 simp_all
theorem jo{c:CK}{l:List As}(hc:c.1.length≤2^40)(hl:l.length≤2^20):
  Yp c l=some ((((),Aw c (l.map fun a=>a.1),()),()),(l.map (fun a=>a.1),())):=by
 have key:∀(n i:Nat) (b:AAH),i≤l.length→l.length-i<n→b.length=i→
   LF n l i c.1 c.2.1 b=some ((((),Aw c (b++(l.drop i).map fun a=>a.1),()),()),(b++(l.drop i).map (fun a=>a.1),())):=by
  intro n
  induction n with
  |zero=>omega
  |succ n ih=>
   intro i b hi h hb;simp only[LF,VH,AB];by_cases ZL:i<l.length
   ·have c1:(0:Int)≤(i:Int)∧(i:Int)<(l.length:Int):=by omega
    have c2:b.length+1≤Ds:=by rw[BT];omega
    rw[ALI c1.2,ALI c1,ALI c2,AL (by omega) (by omega),show((i:Int)+1)=((i+1:Nat):Int)by omega,Ak ZL,ih (i+1) _ (by omega) (by omega) (by simp_all),drop_cons ZL];grind
   ·rw[ALT (by omega),AMI (by omega),AWs,AMa,show(c.1,c.2.1,())=c from rfl,Gw hc (by omega)]
    rfl
 have:=key Ae 0 [] (by omega) (Ag (by omega)) rfl;rw[show((0:Nat):Int)=0 from rfl,ASi,ASg]at this;exact this
theorem Uw{r:Ab}(h:r.2.2.1.length≤2^30):CS r=some (((r.1,r.2.1,(),()),()),(r.2.2.1,())):=by
 unfold CS;rw[ALI (by rw[BT];omega)]
theorem bY{r:Ab}{e:BG}{x y:Int}(h:r.2.2.1.length≤2^30):Ia r e x y=some (((x,y,(),()),()),(r.2.2.1++[e],())):=by
 unfold Ia;rw[show(r.1,r.2.1,r.2.2.1,())=r from rfl,Uw h];simp only[AD];rw[ALI (by rw[BT];omega)]
theorem l3{s:AAH}{p:Int}{l:List As}(hs:s.length≤2^20)(hl:l.length≤2^20)(O9:∀a∈l,DJ a.2.2.1):
  L1 s p l=some ((HK p (FW s p none l),()),()):=by
 have key:∀(n i:Nat) (b:Option AJ),i≤l.length→l.length-i<n→
   Mm n s p l b.isSome i 0 0 [] (b.getD Dq).1 (b.getD Dq).2.1 (b.getD Dq).2.2.1 (b.getD Dq).2.2.2.1=some ((HK p (FW s p b (l.drop i)),()),()):=by
  intro n
  induction n with
  |zero=>omega
  |succ n ih=>
   intro i b hi h;simp only[Mm,W6,AB,A3];by_cases ZL:i<l.length
   ·have c1:(0:Int)≤(i:Int)∧(i:Int)<(l.length:Int):=by omega
    rw[ALI c1.2,ALI c1,AL (by omega) (by omega),show((i:Int)+1)=((i+1:Nat):Int)by omega,Ak ZL,drop_cons ZL];have ih':=fun b=>ih (i+1) b (by omega) (by omega)
    simp only[ih'];rw[KG (by omega),show(l[i].2.2.1,l[i].2.2.2.1,l[i].2.2.2.2.1,l[i].2.2.2.2.2.1,())=Ur l[i]from rfl];rw[Pt (e:=Ur l[i]) (O9 _ (AL5 ZL))];simp only[AD,FW];cases h1:l[i].2.1 with
    |false=>simp
    |true=>
     cases h2:s.contains l[i].1 with
     |false=>simp
     |true=>
      cases h3:EU (Ur l[i])with
      |false=>simp
      |true=>
       simp only[AMJ,AMD];by_cases h4:l[i].2.2.1=p
       ·rw[Cw,ALI h4,ALI (by show((Ur l[i]).1==p)=true;rw[ASy];exact h4)]
        cases b with
        |none=>
         simp only[ASr,ALz,WH,AD,Option.getD_none];have:=ih' (some (Ur l[i]));simp only[ASs,ASv]at this;have hb:better (Ur l[i]) (Ur l[i])=Ur l[i]:=by unfold better;simp_all
         simp_all
        |some x=>
         simp only[ASs,AMJ,ASv];rw[show(x.1,x.2.1,x.2.2.1,x.2.2.2.1,())=x from rfl];grind[WH,AD,better,Ur,Option.isSome_some]
       ·rw[Cw,ALT h4,ALT (by show¬((Ur l[i]).1==p)=true;rw[ASy];exact h4)]
   ·rw[ALT (by omega),AMI (by omega)]
    simp only[FW];cases b with
    |none=>rfl
    |some x=>
     simp only[ASs,AMJ,ASv,HK];grind
 exact key Ae 0 none (by omega) (Ag (by omega))
theorem g_{x:Int}:0≤A7 x∧A7 x≤60:=by
 cases h:BN x with
 |true=>have:=(CJ h).2.1;omega
 |false=>unfold A7;simp_all
def xo(q:Ab×Int):X8:=((((q.1.1,q.1.2.1,(),()),q.2,()),()),(q.1.2.2.1,()))
theorem gU{c:CK}{g:AQ}{sure:Int}{r:Ab}{l:List As}(hc:c.1.length≤2^20)(hg:Af CL g.1≤2^20)(ht:DJ g.2.1)(hl:l.length≤2^20)(O9:∀a∈l,DJ a.2.2.1):
  Px c g sure r l=some (xo (B4 c g sure r l)):=by
 unfold Px B4;rw[show(c.1,c.2.1,())=c from rfl,show(g.1,g.2.1,())=g from rfl,show(r.1,r.2.1,r.2.2.1,())=r from rfl,jo (by omega) hl,Pg (by omega) (by omega) ht,Oo];simp only[AD,A3,AB];cases h1:Mk c g with
 |false=>rfl
 |true=>
 cases h2:Wp r with
 |false=>rfl
 |true=>
 cases h3:Aw c (l.map fun a=>a.1)with
 |false=>rfl
 |true=>
 have hr:=Qg.1 h2;have hre:=hr.ep;have hro:=hr.off;have hrn:=hr.n;have hR:=I1.1 h1;have hRn:=hR.n;simp only[AMJ,AMD,ALu,ALr,AOV];rw[Uw (by omega)];simp only[AD];by_cases h4:r.1>(g.1.length:Int)
 ·rw[ALI h4,ARd h4];rfl
 rw[ALT h4,ASq h4];by_cases h5:r.2.2.1.length=120
 ·rw[show(((r.2.2.1.length:Nat):Int)==120)=true by simp_all,ARd h5];rfl
 rw[show(((r.2.2.1.length:Nat):Int)==120)=false by grind,ASq h5];simp only[ALz,ASR,ALr,AOV];rw[AL (x:=r.1-1) (by omega) (by omega),ALI (by omega),Mg (by omega) (by omega),Ey ht,ZF ht];simp only[AD];have hto:=g_ (x:=g.2.1);rw[AL (x:=A7 g.2.1+1) (by omega) (by omega),AL (x:=r.1+1) (by omega) (by omega),AL (x:=r.2.1+1) (by omega) (by omega)];simp only[bY (r:=r) (by omega),AD];by_cases h6:g.2.1≥D9 r.1 r.2.1
 ·rw[ALI h6,ALI h6];rfl
 rw[ALT h6,ALT h6]
 generalize ACD:g.1.getD (r.1-1).toNat GL=era
 have Jq:(r.1-1).toNat<g.1.length:=by omega
 have UJ:era.1.length≤2^20:=by
  have h7:=AZ (f:=CL) (BV (d:=GL) Jq);rw[ACD]at h7;have:CL era=era.1.length:=rfl;omega
 have tail:((KW (l.map fun a=>a.1) era.1).bind fun SO=>
   (KK c era.1 SO.2.1).bind fun lR=>
   cond (lR.1.1)
    ((L1 era.1 (D9 r.1 r.2.1) l).bind fun Y_=>
    some ((((r.1,r.2.1+1,(),()),0,()),()),(r.2.2.1++[(Y_.1.1.1,Y_.1.1.2.1,Y_.1.1.2.2.1,())],())))
    (some ((((r.1,r.2.1,(),()),3,()),()),(r.2.2.1,()))))=
   some (xo (if !JJ c era.1 ((l.map fun a=>a.1).filter era.1.contains)then(r,3)else
    ((r.1,r.2.1+1,r.2.2.1++[HK (D9 r.1 r.2.1) (FW era.1 (D9 r.1 r.2.1) none l)],()),0))):=by
  have hf:((l.map fun a=>a.1).filter era.1.contains).length≤2^20:=ARE (ARK _ _) (by simp_all);rw[cM (by simp_all) UJ,l3 UJ hl O9];simp only[AD];rw[cR (by omega) hf UJ];simp only[AD,bY (r:=r) (by omega)];cases JJ c era.1 ((l.map fun a=>a.1).filter era.1.contains)<;>rfl
 have hd:g.1.getD (r.1-1).toNat ([],false,0,())=era:=ACD;rw[hd];simp only[tail];cases h7:era.2.1 with
 |true=>
  simp only[AMJ,ALz,AMD,ALu,ASk,ASR,AMC];by_cases h8:r.2.1>era.2.2.1
  ·rw[ALI h8,ALI h8];rfl
  rw[ALT h8,ALT h8];by_cases h9:r.2.1>60
  ·rw[ALI h9,ALI h9];rfl
  grind
 |false=>
  simp only[AMJ,ALz,AMD,ARU,ASk,ALr,AOV,AR9,AMC];by_cases h8:r.2.1>sure
  ·rw[ALI h8,ALI (.inl h8)];rfl
  rw[ALT h8];by_cases h9:r.2.1>60
  ·rw[ALI h9,ALI (.inr h9)];rfl
  grind
end Go.M
end
section
set_option maxRecDepth 8000
namespace Go.M
open Go.M.H (AJ AN Au Ac AA CX AQ A9 AM Ab BG As BO An Ca Af AW AZ Ar CL BU Ax)
theorem oy{c:CK}{l:AAH}(hc:c.1.length≤2^20)(hl:l.length≤2^20):YF c l=some ((Aw c l&& !holds c l,()),()):=by
 unfold YF;rw[show(c.1,c.2.1,())=c from rfl,Gw (by omega) (by omega),Ew (by omega) (by omega)];grind
theorem jS{ss:List AN}(hs:ss.length≤1024)(h:∀s∈ss,s.1.length≤1024):Yd ss=some (((),()),(Ff [] ss,())):=by
 have key:∀n:Nat,
   (∀(i:Nat) (b:List AJ),i≤ss.length→(ss.length-i)*1026+1≤n→b.length≤i*1024→
    Iy n ss i b=some (((),()),(Ff b (ss.drop i),())))∧
   (∀(i j:Nat) (b:List AJ),(hi:i<ss.length)→j≤ss[i].1.length→(ss.length-i-1)*1026+1+(ss[i].1.length-j)+1≤n→b.length≤i*1024+j→
    I8 n ss i j b=some (((),()),(Ff (Db b (ss[i].1.drop j)) (ss.drop (i+1)),()))):=by
  intro n
  induction n with
  |zero=>simp_all
  |succ n ih=>
   refine⟨fun i b hi h' hb=> ?_,fun i j b hi hj h' hb=> ?_⟩
   ·simp only[Iy,VT,AB]
    by_cases hc:i<ss.length
    ·rw[ALI (by omega)]
     have hm:=h _ (AL5 hc);have e1:(ss.length-i)*1026=(ss.length-i-1)*1026+1026:=by
      omega
     have:=ih.2 i 0 b hc (by omega) (by omega) (by omega);rw[show((0:Nat):Int)=0 from rfl,ASi]at this;rw[this,drop_cons hc];rfl
    ·rw[ALT (by omega),AMI (by omega)]
     rfl
   ·have hm:=h _ (AL5 hi)
    simp only[I8,VW,AB];have c1:(0:Int)≤(i:Int)∧(i:Int)<(ss.length:Int):=by omega
    rw[ALI c1,Ak hi];simp only[ALI c1];have hbb:i*1024≤2^20:=by
     omega
    by_cases hc:j<ss[i].1.length
    ·have c2:(0:Int)≤(j:Int)∧(j:Int)<(ss[i].1.length:Int):=by omega
     rw[ALI c2.2,ALI c2,Ak hc,show(ss[i].1[j].1,ss[i].1[j].2.1,ss[i].1[j].2.2.1,ss[i].1[j].2.2.2.1,())=ss[i].1[j]from rfl,WS (by omega)];simp only[AD];rw[AL (by omega) (by omega),show((j:Int)+1)=((j+1:Nat):Int)by omega,drop_cons hc];have hk:=XE (e:=ss[i].1[j]) (l:=b);exact ih.2 i (j+1) _ hi (by omega) (by omega) (by omega)
    ·rw[ALT (by omega),AL (by omega) (by omega),show((i:Int)+1)=((i+1:Nat):Int)by omega,AMI (by omega)]
     exact ih.1 (i+1) b (by omega) (by grind) (by omega)
 have hf:(ss.length-0)*1026+1≤Ae:=by
  have:ss.length*1026≤1024*1026:=AOk _ hs;exact ATs (Ag (by omega))
 exact(key Ae).1 0 [] (by omega) hf (by simp)
theorem xz(e:AJ):∀l:List AJ,Af Ar (keep e l)≤Af Ar l+(1+Ar e)
 |[]=>by simp[keep,Af]
 |x::l=>by
  have:=xz e l;grind[keep,better,Af]
theorem wo:∀{l k:List AJ},Af Ar (Db k l)≤Af Ar k+Af Ar l
 |[],k=>by simp[Db,Af]
 |e::l,k=>by
  have h1:=wo (l:=l) (k:=keep e k);grind[xz,Db,Af]
theorem yx:∀{l:List AN} {k:List AJ},Af Ar (Ff k l)≤Af Ar k+Af An l
 |[],k=>by simp[Ff,Af]
 |s::l,k=>by
  have h1:=yx (l:=l) (k:=Db k s.1);have h2:=wo (l:=s.1) (k:=k);have:An s=Af Ar s.1+Af Ar s.2.1:=rfl;grind[Ff,Af]
theorem kF{y:AJ}:∀{l:List AN} {k:List AJ},y∈Ff k l→y∈k∨ ∃s∈l,y∈s.1
 |[],k,h=> .inl h
 |s::l,k,h=>by
  rcases kF (l:=l) h with h|⟨t,ht,h⟩
  all_goals grind[Q4]
def wg(b:Bool)(x:AN):AN×Bool:=if b then(x,true)else(Ci,false)
def pkF(ss:List AN)(q:AN×Bool):OE:=(((((),(),q.1.2.2.1,()),q.2,()),()),(ss,q.1.1,q.1.2.1,()))
theorem uc{c:CK}{ss:List AN}{lost:AAH}{n upto:Int}(hc:c.1.length≤2^20)(hs:ss.length≤1024)(hn:∀s∈ss,s.1.length≤1024)(hw:Af An ss≤2^24)(O9:∀s∈ss,qR s)(hl:lost.length≤2^20):
  dW c lost n upto ss=some (pkF ss (WE c ss lost n upto)):=by
 have hfs:WE c ss lost n upto=wg (E6 c&&(decide (ss.length=c.1.length)&&(Aw c lost&&(!holds c lost&&(lost.contains n&&((others lost 0 ss).all CE&&CE (Ff [] (others lost 0 ss),[],upto,()))))))) (Ff [] (others lost 0 ss),[],upto,()):=rfl;rw[hfs];unfold dW bZ;rw[show(c.1,c.2.1,())=c from rfl,HH (by omega),oy hc hl,KG (by omega)];simp only[AD,A3,Cw];have k11:∀(k i:Nat) (o:List AN),(∀s∈o,s∈ss)→o.length≤ss.length→Af An o≤2^24→i≤o.length→o.length-i<k→
   Mz k upto i ss 0 [] [] 0 [] [] o=some (pkF ss (wg ((o.drop i).all CE&&CE (Ff [] o,[],upto,())) (Ff [] o,[],upto,()))):=by
  intro k
  induction k with
  |zero=>omega
  |succ k ih=>
   intro i o ho hol how hi h;simp only[Mz,ZU,AB,A3];by_cases De:i<o.length
   ·have c1:(0:Int)≤(i:Int)∧(i:Int)<(o.length:Int):=by omega
    have hm:=ho _ (AL5 De);have hws:=AZ (f:=An) hm;rw[ALI c1.2,ALI c1,Ak De,show(o[i].1,o[i].2.1,o[i].2.2.1,())=o[i]from rfl,Fj (by omega) (O9 _ hm),AL (by omega) (by omega),show((i:Int)+1)=((i+1:Nat):Int)by omega,ih (i+1) o ho hol how (by omega) (by omega),drop_cons De];simp only[AD,AS3];rcases AK7 (CE o[i])with hb|hb<;>rw[hb]
    all_goals rfl
   ·rw[ALT (by omega),AMI (by omega),jS (by omega) (fun s hs=>hn s (ho s hs))]
    have hu:=yx (l:=o) (k:=[]);simp only[Af]at hu;simp only[AD];rw[Fj (s:=(Ff [] o,[],upto,())) (by show Af Ar (Ff [] o)+Af Ar []≤_;grind[Af]) ⟨fun e he=>by
     rcases kF he with he|⟨t,ht,he⟩
     ·simp_all
     ·exact(O9 t (ho t ht)).1 e he,fun e he=>by simp_all⟩]
    simp only[AD,List.all_nil,AMD];rcases AK7 (CE (Ff [] o,[],upto,()))with hb|hb<;>rw[hb]<;>rfl
 have k6:∀(k i:Nat) (o:List AN),(∀s∈o,s∈ss)→i≤ss.length→(ss.length-i)+ss.length+2≤k→o.length≤i→Af An o+Af An (ss.drop i)≤2^24→
   O3 k lost upto i ss 0 [] [] 0 [] [] o=some (pkF ss (wg ((o++others lost i (ss.drop i)).all CE&&CE (Ff [] (o++others lost i (ss.drop i)),[],upto,())) (Ff [] (o++others lost i (ss.drop i)),[],upto,()))):=by
  intro k
  induction k with
  |zero=>omega
  |succ k ih=>
   intro i o ho hi h hol how;simp only[O3,bU,AB,A3];by_cases De:i<ss.length
   ·have c1:(0:Int)≤(i:Int)∧(i:Int)<(ss.length:Int):=by omega
    have c2:o.length+1≤Ds:=by rw[BT];omega
    rw[drop_cons De]at how;simp only[Af]at how;have hws:An ss[i]+(Af Ar []+0)=An ss[i]:=rfl;rw[ALI c1.2,KG (by omega),ALI c1,ALI c2,Ak De,show(ss[i].1,ss[i].2.1,ss[i].2.2.1,())=ss[i]from rfl,AL (by omega) (by omega),show((i:Int)+1)=((i+1:Nat):Int)by omega];simp only[AD];rw[ih (i+1) o ho (by omega) (by omega) (by omega) (by omega)];rw[ih (i+1) (o++[ss[i]]) (fun s hs=>by
     grind) (by omega) (by omega) (by simp_all) (by grind[YH,Af])]
    rw[drop_cons De];simp only[others];grind
   ·have:=k11 k 0 o ho (by omega) (by omega) (by omega) (by omega)
    rw[show((0:Nat):Int)=0 from rfl,ASi]at this;rw[ALT (by omega),this,AMI (by omega)];simp only[others,AMa]
 have:=k6 Ae 0 [] (by simp) (by omega) (ATs (Ag (by omega))) (by simp) (by grind[Af]);rw[show((0:Nat):Int)=0 from rfl,ASi,ASg]at this;rw[this];rcases AK7 (E6 c)with h1|h1
 rotate_left
 ·rw[h1];rfl
 by_cases h2:ss.length=c.1.length
 rotate_left
 ·rw[ALT (by omega),h1,ASq h2];rfl
 rw[ALI (by omega),h1,ARd h2];rcases AK7 (Aw c lost)with h3|h3
 rotate_left
 ·rw[h3];rfl
 rw[h3];rcases AK7 (holds c lost)with h4|h4
 ·rw[h4];rfl
 rw[h4];rcases AK7 (lost.contains n)with h5|h5
 rotate_left
 ·rw[h5];rfl
 simp_all
end Go.M
end
section
namespace Go.M
open Go.M.H (AJ AN Au Ac AA CX AQ A9 AM Ab BG As BO)
theorem nS{α:Type}{l:List α}{i j:Nat}{x d:α}(hi:i<l.length):(l.set i x).getD j d=if i=j then x else l.getD j d:=by
 grind
theorem EI{w:AA}{n:Int}(h:Al w n=0):0≤n∧n<w.Aj.length∧n∉w.lost:=by
 unfold Al at h;split at h
 ·omega
 rename_i h1;simp only[AO4,AO7,Ai]at h1;grind
theorem pr{s x:Ac}:∀{l:List Ac},x∈Xa s l↔x=s∨x∈l
 |[]=>by simp[Xa]
 |y::l=>by
  simp only[Xa];split
  ·simp
  ·simp only[AO3,pr (l:=l)]
   grind
theorem uu{s:Ac}:∀{l:List Ac},(Xa s l).length=l.length+1
 |[]=>rfl
 |y::l=>by
  simp only[Xa];split
  ·rfl
  ·simp only[ANW,uu (l:=l)]
theorem wi{s:Ac}:∀{l:List Ac},S8 (fun s:Ac=>s.1) l→(∀x∈l,x.1≠s.1)→S8 (fun s:Ac=>s.1) (Xa s l)
 |[],_,_=>by simp[Xa,S8]
 |y::l,h,hs=>by
  have h':=h;simp only[S8,AQc]at h;simp only[Xa];split
  ·rename_i hy
   simp only[S8,AQc,AO3];grind
  ·rename_i hy
   simp only[S8,AQc];refine⟨fun a ha=> ?_,wi h.2 fun x hx=>hs x (by simp[hx])⟩;rcases pr.1 ha with rfl|ha
   all_goals grind
section
variable{w:AA} (h:Ml w)
include h
theorem Ml.node{n:Int}(hn:Al w n=0):(0≤n∧n<(AS w).1.length)∧n.toNat<w.Aj.length∧n∉w.lost:=by
 obtain⟨a,b,c⟩:=EI hn;have:=h.my;exact⟨⟨a,by show n<(w.1.length:Int);omega⟩,by omega,c⟩
theorem Ml.oF{n:Int}(hn:Al w n=0){s:AN}(hs:eR s):Ml (w.A8 (w.Aj.set n.toNat s)):=by
 obtain⟨h1,h2,h3⟩:=h.node hn;refine⟨h.cfg,by(try simp only[H.AA.Aj,H.AA.lost,H.AA.AY,H.AA.trim,H.AA.AH,H.AA.BW,H.AA.Aa,H.AA.Aq,H.AA.EC,H.AA.A8,H.AA.EV,H.AA.HE,H.AA.A6,H.AA.Bi,H.AA.Cy,H.AA.C2,H.AA.FA,B7,AS]at*);simpa using h.my,h.lost,h.EC,fun i hi=> ?_,h.lf,h.q8,h.xP,h.AH,h.Xb,h.BW,h.p_,h.Aa,h.NN,h.Aq,h.XZ⟩
 (try simp only[H.AA.Aj,H.AA.lost,H.AA.AY,H.AA.trim,H.AA.AH,H.AA.BW,H.AA.Aa,H.AA.Aq,H.AA.EC,H.AA.A8,H.AA.EV,H.AA.HE,H.AA.A6,H.AA.Bi,H.AA.Cy,H.AA.C2,H.AA.FA,B7,AS]at*);simp only[ATZ]at hi
 simp only[nS h2];split
 ·grind
 ·exact h.Aj i hi
theorem Ml.store{n:Int}(hn:Al w n=0):eR (storeAt w n):=(h.Aj _ (h.node hn).2.1).1
theorem jJ{n:Int}{q:AN×Bool}(hn:Al w n=0)(hs:q.2=true→eR q.1)(e:(putAt w n q).2=0):Ml (putAt w n q).1:=by
 unfold putAt at*;split at e
 ·rename_i hq
  rw[ALI hq];exact h.oF hn (hs hq)
 omega
theorem zM{a:Int}(e:(MK w a).2=0):Ml (MK w a).1:=by
 unfold MK at*;split at e
 ·omega
 rename_i h4;rw[ALT h4];simp only at e⊢;split at e
 ·omega
 rename_i hq;rw[ALT hq];simp only[AO4,AO7]at hq;obtain⟨_,r1,r2,r3,r4,r5⟩:=oS hq;rw[r2]at r1;rw[r2,r3];have hnw:=h.q8;have hl:((B7 w).1++[(Ao a,false,0,())]).length=w.AY.length+1:=by simp[B7]
 refine⟨h.cfg,h.my,h.lost,h.EC,h.Aj,r1,?_,by(try simp only[H.AA.Aj,H.AA.lost,H.AA.AY,H.AA.trim,H.AA.AH,H.AA.BW,H.AA.Aa,H.AA.Aq,H.AA.EC,H.AA.A8,H.AA.EV,H.AA.HE,H.AA.A6,H.AA.Bi,H.AA.Cy,H.AA.C2,H.AA.FA,B7,AS]at*);simp,fun x hx=> ?_,?_,fun m hm=>by grind,h.p_,h.Aa,h.NN,fun s hs=> ?_,h.XZ⟩
 ·grind
 ·replace hx:x∈w.AH++[((w.AY.length:Int)+1,[],())]:=hx
  simp only[AOs,AS2]at hx;have AdL:w.AY.length<30:=r5;have gl:(((B7 w).1++[(Ao a,false,0,())]).length:Int)=(w.AY.length:Int)+1:=by omega
  show ax (AS w) x∧x.1≤(((B7 w).1++[(Ao a,false,0,())]).length:Int)
  rw[gl];rcases hx with hx|rfl
  ·have:=h.AH x hx
   grind
  ·exact⟨⟨h.cfg,by omega,by simp,by simp,by simp[Qz]⟩,by omega⟩
 ·show S8 (fun x:AM=>x.1) (w.AH++[((w.AY.length:Int)+1,[],())])
  simp only[S8,List.pairwise_append,AQc,List.Pairwise.nil,AS2,ASn];refine⟨h.Xb,by simp,fun x hx y hy=> ?_⟩;subst hy;have:=(h.AH x hx).2;omega
 ·have:=h.Aq s hs
  grind
end
section
variable{w:AA} (h:Ml w)
include h
theorem AD4{a:Int}{d:ABs}(hd:d.length≤40)(e:(doAdd w a d).2=0):Ml (doAdd w a d).1:=by
 unfold doAdd at*;split at e
 ·omega
 rename_i ha;rw[ALT ha];simp only[AO4,AO7,Ai]at ha;simp only at e⊢;split at e
 ·omega
 rename_i hq;rw[ALT hq];simp only[AR9,AXG,AO4,AO7,AS_,List.any_eq_false,ASy]at hq;obtain⟨hq,h120,hno⟩:=hq;have hi:a.toNat<w.AH.length:=by omega
 have hx:=h.AH _ (BV (d:=Bo) hi);obtain⟨_,r1,r2,r3⟩:=Vr hq;rw[r2]at r1;rw[r2,r3];rw[r3]at hno;have ya:=r1.n;simp only[APV,ANW,AQF]at ya;obtain⟨p1,p2,p3⟩:=I4 (e:=(w.AH.getD a.toNat Bo).1) (o:=((w.AH.getD a.toNat Bo).2.1.length:Int)+1) hx.1.ep (by omega);have za:=h.NN;refine⟨h.cfg,h.my,h.lost,h.EC,h.Aj,h.lf,by(try simp only[H.AA.Aj,H.AA.lost,H.AA.AY,H.AA.trim,H.AA.AH,H.AA.BW,H.AA.Aa,H.AA.Aq,H.AA.EC,H.AA.A8,H.AA.EV,H.AA.HE,H.AA.A6,H.AA.Bi,H.AA.Cy,H.AA.C2,H.AA.FA,B7,AS]at*);simpa using h.q8,h.xP,fun x y_=> ?_,?_,h.BW,h.p_,h.Aa,by grind[uu],fun s hs=> ?_,wi h.XZ fun x hx=>by grind⟩
 ·rcases ASw y_ with y_|rfl
  ·exact h.AH x y_
  ·exact⟨r1,hx.2⟩
 ·have:=h.Xb
  show S8 (fun x:AM=>x.1) (w.AH.set a.toNat ((w.AH.getD a.toNat Bo).1,(w.AH.getD a.toNat Bo).2.1++[(d,[],false,())],()))
  simp only[S8,AWp,List.getElem_set,ATZ]at this⊢;grind
 ·rcases pr.1 hs with rfl|hs
  ·simp_all
  ·exact h.Aq s hs
theorem vE{a b n:Int}(e:(IW w a b n).2=0):Ml (IW w a b n).1:=by
 unfold IW at*;split at e
 ·omega
 rename_i h1;rw[ALT h1];simp only at e⊢;split at e
 ·omega
 rename_i h2;rw[ALT h2];split at e
 ·omega
 rename_i h3;rw[ALT h3];split at e
 ·omega
 rename_i h4;rw[ALT h4];grind[jJ,dK]
theorem dr{all:Bool}{s:AN}{n:Int}(hn:0≤n∧n<(AS w).1.length):∀{ws:List AM} {ss:List Ac},
  (FH all (AS w) s w.AY n ws ss).1=ws.map (fun x=>if K9 s w.AY n x then(x.1,A_ (AS w) s x.1 n 1 x.2.1,())else x)∧
  (FH all (AS w) s w.AY n ws ss).2.map (fun x=>(x.1,x.2.1))=ss.map (fun x=>(x.1,x.2.1))
 |[],ss=>⟨rfl,rfl⟩
 |x::ws,ss=>by
  simp only[FH,ATb];split
  ·rename_i ht
   obtain⟨h1,h2⟩:=dr hn (ws:=ws) (ss:=ss.map (Nn all x.1 x.2.1 (A_ (AS w) s x.1 n 1 x.2.1)));rw[h1,h2];exact⟨rfl,by rw[ATj];rfl⟩
  ·obtain⟨h1,h2⟩:=dr hn (ws:=ws) (ss:=ss)
   rw[h1,h2];simp_all
theorem AAZ{all:Bool}{n:Int}(e:(Jn all w n).2=0):Ml (Jn all w n).1:=by
 unfold Jn at*;split at e
 ·omega
 rename_i h1;rw[ALT h1];simp only at e⊢;split at e
 ·omega
 rename_i h2;rw[ALT h2];simp only[ne_eq,AWl]at h1;simp only[AO4,AO7]at h2;have hn:=(h.node h1).1;obtain⟨s1,s2,s3⟩:=Km h2;have hw:=h.oF h1 s2;obtain⟨t1,t2⟩:=dr h (all:=all) (s:=(Cf (storeAt w n)).1) hn (ws:=w.AH) (ss:=w.Aq);have ms:∀x∈(FH all (AS w) (Cf (storeAt w n)).1 w.AY n w.AH w.Aq).2,∃y∈w.Aq,x.1=y.1∧x.2.1=y.2.1:=fun x hx=>by
  have:(x.1,x.2.1)∈w.Aq.map (fun x=>(x.1,x.2.1)):=by grind
  simp_all
 have ml:(FH all (AS w) (Cf (storeAt w n)).1 w.AY n w.AH w.Aq).2.length=w.Aq.length:=by
  have:=congrArg List.length t2;grind
 have ma:S8 (fun s:Ac=>s.1) (FH all (AS w) (Cf (storeAt w n)).1 w.AY n w.AH w.Aq).2:=by
  have h1:(FH all (AS w) (Cf (storeAt w n)).1 w.AY n w.AH w.Aq).2.map (fun x=>x.1)=w.Aq.map (fun x=>x.1):=by
   have:=congrArg (List.map Prod.fst) t2;rw[ATj,ATj]at this;exact this
  have h2:(w.Aq.map (fun x:Ac=>x.1)).Pairwise (· < ·):=AWm.2 h.XZ;grind
 refine⟨h.cfg,hw.my,h.lost,h.EC,hw.Aj,h.lf,by(try simp only[H.AA.Aj,H.AA.lost,H.AA.AY,H.AA.trim,H.AA.AH,H.AA.BW,H.AA.Aa,H.AA.Aq,H.AA.EC,H.AA.A8,H.AA.EV,H.AA.HE,H.AA.A6,H.AA.Bi,H.AA.Cy,H.AA.C2,H.AA.FA,B7,AS]at*);simp only[t1,AWu];exact h.q8,by(try simp only[H.AA.Aj,H.AA.lost,H.AA.AY,H.AA.trim,H.AA.AH,H.AA.BW,H.AA.Aa,H.AA.Aq,H.AA.EC,H.AA.A8,H.AA.EV,H.AA.HE,H.AA.A6,H.AA.Bi,H.AA.Cy,H.AA.C2,H.AA.FA,B7,AS]at*);simpa using h.xP,fun x hx=> ?_,?_,fun m hm=> ?_,h.p_,h.Aa,by(try simp only[H.AA.Aj,H.AA.lost,H.AA.AY,H.AA.trim,H.AA.AH,H.AA.BW,H.AA.Aa,H.AA.Aq,H.AA.EC,H.AA.A8,H.AA.EV,H.AA.HE,H.AA.A6,H.AA.Bi,H.AA.Cy,H.AA.C2,H.AA.FA,B7,AS]at*);simp only[ml];exact h.NN,fun x hx=> ?_,ma⟩
 ·(try simp only[H.AA.Aj,H.AA.lost,H.AA.AY,H.AA.trim,H.AA.AH,H.AA.BW,H.AA.Aa,H.AA.Aq,H.AA.EC,H.AA.A8,H.AA.EV,H.AA.HE,H.AA.A6,H.AA.Bi,H.AA.Cy,H.AA.C2,H.AA.FA,B7,AS]at*);simp only[t1]at hx
  obtain⟨y,hy,rfl⟩:=ASt.1 hx;have xN:=h.AH y hy;split
  ·obtain⟨k1,k2,k3⟩:=aW (s:=(Cf (storeAt w n)).1) (ep:=y.1) hn (o:=1) xN.1.words
   exact⟨⟨h.cfg,xN.1.ep,k3▸xN.1.n,k1,ARE k2 xN.1.opn⟩,xN.2⟩
  ·exact xN
 ·show S8 (fun x:AM=>x.1) (FH all (AS w) (Cf (storeAt w n)).1 w.AY n w.AH w.Aq).1
  rw[t1];simp only[S8,AWm];refine h.Xb.imp fun{a b} qy=> ?_
  grind
 ·obtain⟨y,hy,rfl⟩:=ASt.1 hm
  have xN:=h.BW y hy;refine⟨ADc hn xN.1,?_⟩;grind[G8]
 ·obtain⟨y,hy,e1,e2⟩:=ms x hx
  have:=h.Aq y hy;simp_all
theorem vv{n k:Int}(e:(Ib w n k).2=0):Ml (Ib w n k).1:=by
 unfold Ib at*;split at e
 ·omega
 rename_i h1;rw[ALT h1];exact jJ h (by omega) (fun hq=>(Km hq).2.1) e
theorem wV{n:Int}(e:(Ii w n).2=0):Ml (Ii w n).1:=by
 unfold Ii at*;split at e
 ·omega
 rename_i h1;rw[ALT h1];exact jJ h (by omega) (fun hq=>(jE hq).2.1) e
theorem AAN{n:Int}(e:(MC w n).2=0):Ml (MC w n).1:=by
 unfold MC at*;split at e
 ·omega
 rename_i h1;rw[ALT h1];simp only[ne_eq,AWl]at h1;obtain⟨hn,hn2,hn3⟩:=h.node h1;have fw:∀x∈w.AH,(CD (AS w) x n).1=(x.1,x.2.1.map (Cx n),()):=fun x hx=>(Uj (h.AH x hx).1).2
 refine⟨h.cfg,by(try simp only[H.AA.Aj,H.AA.lost,H.AA.AY,H.AA.trim,H.AA.AH,H.AA.BW,H.AA.Aa,H.AA.Aq,H.AA.EC,H.AA.A8,H.AA.EV,H.AA.HE,H.AA.A6,H.AA.Bi,H.AA.Cy,H.AA.C2,H.AA.FA,B7,AS]at*);simpa using h.my,Ig h.lost hn,?_,fun i hi=> ?_,h.lf,by(try simp only[H.AA.Aj,H.AA.lost,H.AA.AY,H.AA.trim,H.AA.AH,H.AA.BW,H.AA.Aa,H.AA.Aq,H.AA.EC,H.AA.A8,H.AA.EV,H.AA.HE,H.AA.A6,H.AA.Bi,H.AA.Cy,H.AA.C2,H.AA.FA,B7,AS]at*);simpa using h.q8,by(try simp only[H.AA.Aj,H.AA.lost,H.AA.AY,H.AA.trim,H.AA.AH,H.AA.BW,H.AA.Aa,H.AA.Aq,H.AA.EC,H.AA.A8,H.AA.EV,H.AA.HE,H.AA.A6,H.AA.Bi,H.AA.Cy,H.AA.C2,H.AA.FA,B7,AS]at*);simpa using h.xP,fun x hx=> ?_,?_,fun m hm=> ?_,h.p_,h.Aa,h.NN,h.Aq,h.XZ⟩
 ·grind[holds,AS,JO]
 ·(try simp only[H.AA.Aj,H.AA.lost,H.AA.AY,H.AA.trim,H.AA.AH,H.AA.BW,H.AA.Aa,H.AA.Aq,H.AA.EC,H.AA.A8,H.AA.EV,H.AA.HE,H.AA.A6,H.AA.Bi,H.AA.Cy,H.AA.C2,H.AA.FA,B7,AS]at*);simp only[ATZ]at hi
  simp only[nS hn2];split
  ·exact⟨eR.nil,fun _=>rfl⟩
  ·rename_i bM
   refine⟨(h.Aj i hi).1,fun hl=>(h.Aj i hi).2 ?_⟩;grind[Nr]
 ·obtain⟨y,hy,rfl⟩:=ASt.1 hx
  have xN:=h.AH y hy;refine⟨(Uj xN.1).1,?_⟩;simp_all
 ·(try simp only[H.AA.Aj,H.AA.lost,H.AA.AY,H.AA.trim,H.AA.AH,H.AA.BW,H.AA.Aa,H.AA.Aq,H.AA.EC,H.AA.A8,H.AA.EV,H.AA.HE,H.AA.A6,H.AA.Bi,H.AA.Cy,H.AA.C2,H.AA.FA,B7,AS]at*);simp only[S8,AWm]
  refine List.Pairwise.imp_of_mem (fun{a b} ha hb qy=> ?_) h.Xb;simp_all
 ·obtain⟨y,hy,rfl⟩:=ASt.1 hm
  have xN:=h.BW y hy;obtain⟨k1,k2⟩:=eY (n:=n) xN.1;refine⟨k1,?_⟩;simp_all
theorem z8{n:Int}(e:(ME w n).2=0):Ml (ME w n).1:=by
 unfold ME at*;split at e
 ·omega
 rename_i h1;rw[ALT h1];simp only at e⊢;split at e
 ·omega
 rename_i h2;rw[ALT h2];simp only[AO4,AO7]at h1 h2;obtain⟨s1,s2,s3,s4⟩:=wu h2;rw[List.contains_eq_mem,AMC]at h1;have ya:=(EN.1 h.lost).2.1 n h1;have za:=h.my;have hn2:n.toNat<w.Aj.length:=by
  have:n<(w.1.length:Int):=ya.2;omega
 refine⟨h.cfg,by grind,LZ _ h.lost,?_,fun i hi=> ?_,h.lf,h.q8,h.xP,h.AH,h.Xb,h.BW,h.p_,h.Aa,h.NN,h.Aq,h.XZ⟩
 ·refine .inr ?_
  rw[AS1];intro hh
  replace hh:holds (AS w) (less w.lost [n])=true:=hh
  have:=gW (m:=w.lost) hh h.lost fun x hx=>(ASp.1 hx).1
  simp_all
 ·(try simp only[H.AA.Aj,H.AA.lost,H.AA.AY,H.AA.trim,H.AA.AH,H.AA.BW,H.AA.Aa,H.AA.Aq,H.AA.EC,H.AA.A8,H.AA.EV,H.AA.HE,H.AA.A6,H.AA.Bi,H.AA.Cy,H.AA.C2,H.AA.FA,B7,AS]at*);simp only[ATZ]at hi
  simp only[nS hn2];split
  ·grind[Rq,List.mem_singleton]
  ·exact⟨(h.Aj i hi).1,fun hl=>(h.Aj i hi).2 (Rq.1 hl).1⟩
theorem AAP(e:(L5 w).2=0):Ml (L5 w).1:=by
 unfold L5 at*;split at e
 ·omega
 rename_i h1;rw[ALT h1];split at e
 ·omega
 rename_i h2;rw[ALT h2];simp only[AR9,AMC,AXG]at h1;obtain⟨k,k1,k2,k3,k4⟩:=N1 h.lf (by show 0<w.AY.length;omega);have k1':k<w.AY.length:=k1;have ZZ:A5 w.AY=(k:Int)+1:=k2;have hn:w.AY.length≤30:=h.lf.n;refine⟨h.cfg,h.my,h.lost,h.EC,h.Aj,h.lf,h.q8,by(try simp only[H.AA.Aj,H.AA.lost,H.AA.AY,H.AA.trim,H.AA.AH,H.AA.BW,H.AA.Aa,H.AA.Aq,H.AA.EC,H.AA.A8,H.AA.EV,H.AA.HE,H.AA.A6,H.AA.Bi,H.AA.Cy,H.AA.C2,H.AA.FA,B7,AS]at*);simp,h.AH,h.Xb,fun m hm=> ?_,h.p_,h.Aa,h.NN,h.Aq,h.XZ⟩
 replace hm:m∈[Vo (A5 w.AY) w.AY.length]:=hm
 simp only[AS2]at hm;subst hm;refine⟨⟨h.cfg,?_,?_,dJ h.cfg,List.Pairwise.nil,by simp[Vo],by simp[Vo],rfl⟩,rfl,rfl⟩
 ·show 1≤A5 w.AY∧A5 w.AY≤30
  omega
 ·show A5 w.AY+1≤(w.AY.length:Int)∧(w.AY.length:Int)≤30
  omega
theorem AAB{n:Int}(e:(MH w n).2=0):Ml (MH w n).1:=by
 unfold MH at*;split at e
 ·omega
 rename_i m ms hm;simp only at e⊢;split at e
 ·omega
 rename_i h1;rw[ALT h1];split at e
 ·omega
 rename_i h2;rw[ALT h2];split at e
 ·omega
 rename_i h3;rw[ALT h3];simp only[ne_eq,AWl]at h1;simp only[AR9,AXG,AO4,AO7]at h3;obtain⟨s1,s2,s3⟩:=aH h3.1;obtain⟨m1,m2,m3,m4⟩:=lU h3.2;have hw:=h.oF h1 s2;have hm1:=h.xP;rw[hm]at hm1;refine⟨h.cfg,hw.my,h.lost,h.EC,hw.Aj,h.lf,h.q8,by omega,h.AH,h.Xb,fun x hx=> ?_,h.p_,h.Aa,h.NN,h.Aq,h.XZ⟩;rcases AO3.1 hx with rfl|hx
 ·have:=h.BW m (by simp_all)
  refine⟨m2,?_⟩;simp_all
 simp_all
theorem ze(e:(MJ w).2=0):Ml (MJ w).1:=by
 unfold MJ at*;split at e
 ·omega
 rename_i m ms hm;simp only at e⊢;split at e
 ·omega
 rename_i h3;rw[ALT h3];simp only[AO4,AO7]at h3;obtain⟨m1,m2,m3,m4,m5⟩:=lO h3;have hm1:=h.xP;rw[hm]at hm1;refine⟨h.cfg,h.my,h.lost,h.EC,h.Aj,h.lf,h.q8,by omega,h.AH,h.Xb,fun x hx=> ?_,h.p_,h.Aa,h.NN,h.Aq,h.XZ⟩;rcases AO3.1 hx with rfl|hx
 ·have:=h.BW m (by simp_all)
  refine⟨m2,?_⟩;simp_all
 simp_all
theorem AEN{b n:Int}(e:(Rf w b n).2=0):Ml (Rf w b n).1:=by
 unfold Rf at*;split at e
 ·omega
 rename_i m ms hm;split at e
 ·omega
 rename_i x hx;split at e
 ·omega
 rename_i h1;rw[ALT h1];split at e
 ·omega
 rename_i h2;rw[ALT h2];grind[jJ,dK]
theorem vn(e:(Ie w).2=0):Ml (Ie w).1:=by
 unfold Ie at*;split at e
 ·omega
 rename_i m ms hm;split at e
 ·omega
 rename_i h1;rw[ALT h1];simp only at e⊢;split at e
 ·omega
 rename_i h2;rw[ALT h2];simp only[AO4,AO7]at h2;obtain⟨r0,r1,k,k1,k2,k3,k4,k5,k6,k7,k8⟩:=lg h2;rw[k6]at r1;rw[k6];have hl:(Gj (B7 w).1 k (m.2.2.2.2.2.1.length:Int)).length=w.AY.length:=by simp[Gj,B7]
 refine⟨h.cfg,h.my,h.lost,h.EC,h.Aj,r1,h.q8,by(try simp only[H.AA.Aj,H.AA.lost,H.AA.AY,H.AA.trim,H.AA.AH,H.AA.BW,H.AA.Aa,H.AA.Aq,H.AA.EC,H.AA.A8,H.AA.EV,H.AA.HE,H.AA.A6,H.AA.Bi,H.AA.Cy,H.AA.C2,H.AA.FA,B7,AS]at*);simp,fun x hx=> ?_,h.Xb,fun x hx=>by grind,h.p_,h.Aa,h.NN,fun x hx=> ?_,h.XZ⟩
 ·(try simp only[H.AA.Aj,H.AA.lost,H.AA.AY,H.AA.trim,H.AA.AH,H.AA.BW,H.AA.Aa,H.AA.Aq,H.AA.EC,H.AA.A8,H.AA.EV,H.AA.HE,H.AA.A6,H.AA.Bi,H.AA.Cy,H.AA.C2,H.AA.FA,B7,AS]at*);simp only[hl];exact h.AH x hx
 ·(try simp only[H.AA.Aj,H.AA.lost,H.AA.AY,H.AA.trim,H.AA.AH,H.AA.BW,H.AA.Aa,H.AA.Aq,H.AA.EC,H.AA.A8,H.AA.EV,H.AA.HE,H.AA.A6,H.AA.Bi,H.AA.Cy,H.AA.C2,H.AA.FA,B7,AS]at*);simp only[hl];exact h.Aq x hx
theorem wh{a:Int}(e:(Nw w a).2=0):Ml (Nw w a).1:=by
 unfold Nw at*;simp only at e⊢;split at e
 ·omega
 rename_i h2;rw[ALT h2];simp only[AO4,AO7]at h2;obtain⟨r0,r1,r2⟩:=qL h2;rw[r2]at r1;rw[r2];exact⟨h.cfg,h.my,h.lost,h.EC,h.Aj,r1,h.q8,h.xP,h.AH,h.Xb,h.BW,h.p_,h.Aa,h.NN,h.Aq,h.XZ⟩
theorem so{a k:Int}(e:(IY w a k).2=0):Ml (IY w a k).1:=by
 unfold IY at*;split at e
 ·omega
 rename_i h1;rw[ALT h1];simp only at e⊢;split at e
 ·omega
 rename_i h2;rw[ALT h2];simp only[ne_eq,AWl]at h2;refine⟨h.cfg,h.my,h.lost,h.EC,h.Aj,h.lf,h.q8,h.xP,h.AH,h.Xb,h.BW,by(try simp only[H.AA.Aj,H.AA.lost,H.AA.AY,H.AA.trim,H.AA.AH,H.AA.BW,H.AA.Aa,H.AA.Aq,H.AA.EC,H.AA.A8,H.AA.EV,H.AA.HE,H.AA.A6,H.AA.Bi,H.AA.Cy,H.AA.C2,H.AA.FA,B7,AS]at*);simpa using h.p_,fun r hr=> ?_,h.NN,h.Aq,h.XZ⟩;rcases ASw hr with hr|rfl
 ·exact h.Aa r hr
 ·exact qm h2
theorem zi{a:Int}(e:(NF w a).2=0):Ml (NF w a).1:=by
 unfold NF at*;split at e
 ·omega
 rename_i h1;rw[ALT h1];have hs:(w.AH.eraseIdx a.toNat).Sublist w.AH:=List.eraseIdx_sublist _ _;exact⟨h.cfg,h.my,h.lost,h.EC,h.Aj,h.lf,ARE hs.length_le h.q8,h.xP,fun x hx=>h.AH x (hs.subset hx),h.Xb.sublist hs,h.BW,h.p_,h.Aa,h.NN,h.Aq,h.XZ⟩
theorem AG_{all:Bool}{d:BO}(hd:d.2.2.2.2.1.length≤40)(e:(LN all w d).2=0):Ml (LN all w d).1:=by
 unfold LN at*;by_cases hc:d.1=1
 ·rw[ALI hc]at e⊢;exact zM h e
 rw[ALT hc]at e⊢;clear hc;by_cases hc:d.1=2
 ·rw[ALI hc]at e⊢;exact AD4 h hd e
 rw[ALT hc]at e⊢;clear hc;by_cases hc:d.1=3
 ·rw[ALI hc]at e⊢;exact vE h e
 rw[ALT hc]at e⊢;clear hc;by_cases hc:d.1=4
 ·rw[ALI hc]at e⊢;exact AAZ h e
 rw[ALT hc]at e⊢;clear hc;by_cases hc:d.1=5
 ·rw[ALI hc]at e⊢;exact vv h e
 rw[ALT hc]at e⊢;clear hc;by_cases hc:d.1=6
 ·rw[ALI hc]at e⊢;exact AAN h e
 rw[ALT hc]at e⊢;clear hc;by_cases hc:d.1=7
 ·rw[ALI hc]at e⊢;exact z8 h e
 rw[ALT hc]at e⊢;clear hc;by_cases hc:d.1=8
 ·rw[ALI hc]at e⊢;exact AAP h e
 rw[ALT hc]at e⊢;clear hc;by_cases hc:d.1=9
 ·rw[ALI hc]at e⊢;exact AAB h e
 rw[ALT hc]at e⊢;clear hc;by_cases hc:d.1=10
 ·rw[ALI hc]at e⊢;exact ze h e
 rw[ALT hc]at e⊢;clear hc;by_cases hc:d.1=11
 ·rw[ALI hc]at e⊢;exact AEN h e
 rw[ALT hc]at e⊢;clear hc;by_cases hc:d.1=12
 ·rw[ALI hc]at e⊢;exact vn h e
 rw[ALT hc]at e⊢;clear hc;by_cases hc:d.1=13
 ·rw[ALI hc]at e⊢;exact wh h e
 rw[ALT hc]at e⊢;clear hc;by_cases hc:d.1=14
 ·rw[ALI hc]at e⊢;exact so h e
 rw[ALT hc]at e⊢;clear hc;by_cases hc:d.1=15
 ·rw[ALI hc]at e⊢;exact zi h e
 rw[ALT hc]at e⊢;grind[wV]
end
theorem bC{d:BO}(h:PG d=true):d.2.2.2.2.1.length≤40:=by
 unfold PG at h;simp_all
theorem yM{all:Bool}{w:AA}{d:BO}(e:(DL all w d).2=0):IM (DL all w d).1=true:=by
 unfold DL at*;split at e
 ·omega
 rename_i h1;rw[ALT h1];have hw:IM w=true:=by
  simp_all
 have hd:PG d=true:=by
  simp_all
 grind[KI,AG_,bC]
end Go.M
end
section
namespace Go.M
open Go.M.H (AJ AN Au Ac AA CX AQ A9 AM Ab BG As BO An Ca Af AW AZ Ar CL BU Ax BD Es Ch DF DN)
theorem AAS{α:Type}{f:α→Nat}{B:Nat}:∀{l:List α},(∀x∈l,f x≤B)→Af f l≤l.length*(1+B)
 |[],_=>by simp[Af]
 |x::l,h=>by
  have h1:=h x (by simp);have h2:=AAS (l:=l) fun y hy=>h y (by simp[hy])
  grind[Af,List.length_cons,Nat.add_mul]
theorem GA{α:Type}{f:α→Nat}{B N:Nat}{l:List α}(hn:l.length≤N)(h:∀x∈l,f x≤B):Af f l≤N*(1+B):=
 ARE (AAS h) (AOk _ hn)
theorem tG{α:Type}{f:α→Int}{b:Int}:∀{l:List α} {a:Int},S8 f l→(∀x∈l,a≤f x∧f x<b)→(l.length:Int)≤max (b-a) 0
 |[],a,_,_=>by grind
 |x::l,a,h,hb=>by
  simp only[S8,AQc]at h;have h1:=hb x (by simp);have h2:=tG (l:=l) (a:=f x+1) h.2 fun y hy=>⟨by grind,(hb y (by simp[hy])).2⟩
  grind
theorem Hr{c:CK}{l:AAH}(h:Aw c l=true):l.length≤8:=by
 obtain⟨h1,h2,h3⟩:=EN.1 h;have:=(Fq h1).2.1;have:=tG (a:=0) (b:=c.1.length) h3 h2;omega
theorem Jd{p:Int}(h:BN p=true):DJ p:=by
 obtain⟨h1,h2,h3⟩:=CJ h;grind[D9,DJ]
theorem eR.w{s:AN}(h:eR s):An s≤10000:=by
 have h1:=GA (f:=Ar) (B:=40) h.nk fun e he=>(FR.1 (h.kept e he)).len
 have h2:=GA (f:=Ar) (B:=40) h.nl fun e he=>(FR.1 (h.late e he)).len
 unfold An;omega
theorem eR.sin{s:AN}(h:eR s):qR s:=
 ⟨fun e he=>Jd (FR.1 (h.kept e he)).pl,fun e he=>Jd (FR.1 (h.late e he)).pl⟩
theorem pV.ATO{c:CK}{m:Au}(h:pV c m):m.2.2.2.1.length≤60:=by
 have:=tG (f:=fun e:AJ=>e.1) (a:=D9 m.2.1 1) (b:=D9 m.2.1 61) h.gf fun e he=>by
  have h1:=h.seen e he;have h2:=CJ (FR.1 h1.1).pl;grind[D9]
 grind[D9]
theorem pV.w{c:CK}{m:Au}(h:pV c m):Ca m≤5000:=by
 have h1:=GA (f:=Ar) (B:=40) h.ATO fun e he=>(FR.1 (h.seen e he).1).len
 have h2:=Hr h.fD;have h3:m.2.2.2.2.2.1.length≤60:=by
  have:=h.n;have hb:=Gm (l:=m.2.2.2.1);omega
 have h4:=GA (f:=DN) (B:=8) h3 fun l hl=>Hr (h.wrote l hl)
 unfold Ca;omega
theorem pV.ein{c:CK}{m:Au}(h:pV c m):qj m.2.2.2.1:=fun e he=>Jd (FR.1 (h.seen e he).1).pl
theorem zS.w{c:CK}{r:AQ}(h:zS c r):Af CL r.1≤270:=by
 have:=GA (f:=CL) (B:=8) h.n fun e he=>Hr (Ny (h.AY e he).1)
 omega
theorem zS.tin{c:CK}{r:AQ}(h:zS c r):DJ r.2.1:=by
 rcases h.trim with h|h
 all_goals grind[DJ,Jd]
theorem ax.w{c:CK}{w:AM}(h:ax c w):Ax w≤3000:=by
 have:=GA (f:=BU) (B:=48) h.n fun x hx=>by
  have h1:=h.words x hx;grind[Hr,BU]
 unfold Ax;omega
def RdS(w:AA):Prop:= ∀r∈w.Aa,∀e∈r.2.2.1,e.2.2.1.length≤40
theorem Ml.PU{w:AA}(h:Ml w){s:AN}(hs:s∈w.Aj):eR s:=by
 obtain⟨i,hi,rfl⟩:=AQU hs;have:=(h.Aj i hi).1;simp_all
theorem Ml.win{w:AA}(h:Ml w)(hr:RdS w):jX w:=by
 have hc:=(Fq h.cfg).2.1;have ZL:w.1.length≤8:=hc;have a1:=GA (f:=An) (B:=10000) (N:=8) (l:=w.Aj) (by rw[h.my];omega) fun s hs=>(h.PU hs).w
 have a2:=Hr h.lost;have a3:=h.lf.w;have a4:=GA (f:=Ax) (B:=3000) h.q8 fun x hx=>(h.AH x hx).1.w
 have a5:=GA (f:=Ca) (B:=5000) h.xP fun x hx=>(h.BW x hx).1.w
 have a6:=GA (f:=BD) (B:=5000) (N:=2) (l:=w.Aa) (by rw[h.p_];omega) fun r hx=>by
  have:=GA (f:=Ch) (B:=40) (h.Aa r hx).n (hr r hx);unfold BD;omega
 have a7:=GA (f:=Es) (B:=40) h.NN fun s hs=>(h.Aq s hs).2.2
 refine⟨?_,fun s hs=>(h.PU hs).sin,h.lf.tin,fun m hm=>(h.BW m hm).1.ein,fun s hs=>Jd (h.Aq s hs).1⟩;have a3':Af CL w.AY≤270:=a3;grind[DF]
end Go.M
end
section
set_option maxRecDepth 8000
namespace Go.M
open Go.M.H (AJ AN Au Ac AA CX AQ A9 AM Ab BG As BO An Ca Af AW AZ Ar CL BU Ax BD Es Ch DF DN)
theorem rX:∀i,i<8→([0,1,2,3,4,5,6,7]:AAH).drop i=(i:Int)::([0,1,2,3,4,5,6,7]:AAH).drop (i+1):=by decide
theorem Xp{k:Int}:Nh k=some (((),()),(Ao k,())):=by
 unfold Nh Uc Ao;rcases AK7 (BK k 0 255)with hk|hk
 rotate_left
 ·rw[hk]
  obtain⟨m,hm⟩:∃m,Ae=m+1:=⟨Ae-1,by have:=Ag (n:=0) (by omega);omega⟩;rw[hm];simp only[Hw,Ng,Bd,AD,hk,AB];rfl
 rw[hk,ALI rfl];have hk':=Ai.1 hk;have key:∀(n i:Nat) (b:AAH),i≤8→8-i<n→b.length≤i→
   Hw n k i b=some (((),()),(b++(([0,1,2,3,4,5,6,7]:AAH).drop i).filter (fun i=>(k/2^i.toNat)%2==1),())):=by
  intro n
  induction n with
  |zero=>omega
  |succ n ih=>
   intro i b hi h hb;simp only[Hw,Ng,Bd,AD,hk,AMJ,AB];by_cases De:i<8
   ·have ABW:=uT (k:=k) (i:=i) (by omega) (by omega)
    rw[ALI (show(i:Int)<8 by omega),ALT (by omega),AL2,ABW,rX i De,ASf,AL2,AL (by omega) (by omega),show((i:Int)+1)=((i+1:Nat):Int)by omega,AB];have c2:b.length+1≤Ds:=by rw[BT];omega
    by_cases z6:(k/2^i)%2=1
    ·rw[ALI z6,ALI c2,ALI (by simp_all),ih (i+1) _ (by omega) (by omega) (by simp_all),AM4]
     rfl
    grind
   ·have:i=8:=by omega
    simp_all
 have:=key Ae 0 [] (by omega) (Ag (by omega)) (by simp);simp_all
theorem pB{d:BO}:YN d=some ((PG d,()),()):=by
 obtain⟨k,a,b,n,t,⟨⟩⟩:=d;unfold YN PG;rw[Bd];simp only[AD];rcases AK7 (BK k 1 16)with hk|hk
 rotate_left
 ·simp_all
 have hk':=Ai.1 hk;rw[hk];have dl:decide ((t.length:Int)≤40)=decide (t.length≤40):=by
  grind
 have:k=1∨k=2∨k=3∨k=4∨k=5∨k=6∨k=7∨k=8∨k=9∨k=10∨k=11∨k=12∨k=13∨k=14∨k=15∨k=16:=by omega
 rcases this with h|h|h|h|h|h|h|h|h|h|h|h|h|h|h|h<;>subst h<;>simp only[AMJ,dl]<;>clear dl hk hk'<;>
  (unfold Ye;simp[dq];cases a==0<;>cases b==0<;>cases n==0<;>cases t.isEmpty<;>rfl)
theorem gM{w:AM}(hl:w.2.1.length≤2^20):Ux w=some (((U5 w.2.1:Int),()),()):=by
 have key:∀(n i:Nat),i≤w.2.1.length→w.2.1.length-i<n→
   JK n i w.1 w.2.1=some ((((i+U5 (w.2.1.drop i):Nat):Int),()),()):=by
  intro n
  induction n with
  |zero=>omega
  |succ n ih=>
   intro i hi h;simp only[JK,Sj,AB];by_cases De:i<w.2.1.length
   ·have c1:(0:Int)≤(i:Int)∧(i:Int)<(w.2.1.length:Int):=by omega
    rw[ALI c1.2,ALI c1,Ak De,AL (by omega) (by omega),show((i:Int)+1)=((i+1:Nat):Int)by omega,ih (i+1) (by omega) (by omega),drop_cons De];simp only[U5];cases w.2.1[i].2.2.1 with
    |false=>simp
    |true=>grind
   ·rw[ALT (by omega),AMI (by omega)]
    rfl
 have:=key Ae 0 (by omega) (Ag (by omega));rw[ASz,ASi]at this;exact this
theorem ID{w:AA}{n:Int}(h1:w.Aj.length≤2^20)(h2:w.lost.length≤2^20):Hb w n=some ((Al w n,()),()):=by
 unfold Hb Al
 (try simp only[H.AA.Aj,H.AA.lost,H.AA.AY,H.AA.trim,H.AA.AH,H.AA.BW,H.AA.Aa,H.AA.Aq,H.AA.EC,H.AA.A8,H.AA.EV,H.AA.HE,H.AA.A6,H.AA.Bi,H.AA.Cy,H.AA.C2,H.AA.FA,B7,AS]at*)
 rw[AL (by omega) (by omega),Bd,KG (by omega)];grind
theorem Ri{w:AA}{n:Int}(h1:w.AH.length≤2^20):K7 w n=some ((BK n 0 ((w.AH.length:Int)-1),()),()):=by
 grind[K7,AL,Bd]
theorem o_{w:AA}{e:Int}(hl:Af Ax w.AH≤2^20):cU w e=some ((Uy w e,()),()):=by
 have zn:=AW (f:=Ax) (l:=w.AH);have key:∀(n i:Nat),i≤w.AH.length→w.AH.length-i<n→
   OS n e i w.1 w.2.1 w.2.2.1 w.2.2.2.1 w.2.2.2.2.1 w.2.2.2.2.2.1 w.AH w.2.2.2.2.2.2.2.1 w.2.2.2.2.2.2.2.2.1 w.2.2.2.2.2.2.2.2.2.1 w.2.2.2.2.2.2.2.2.2.2.1=
    some (((match(w.AH.drop i).find? (fun x=>x.1==e)with|some x=>(U5 x.2.1:Int)|none=>0),()),()):=by
  intro n
  induction n with
  |zero=>omega
  |succ n ih=>
   intro i hi h;simp only[OS,Yb,AB];by_cases De:i<w.AH.length
   ·have c1:(0:Int)≤(i:Int)∧(i:Int)<(w.AH.length:Int):=by omega
    rw[ALI c1.2,ALI c1,ALI c1,Ak De,AL (by omega) (by omega),show((i:Int)+1)=((i+1:Nat):Int)by omega,ih (i+1) (by omega) (by omega),drop_cons De,AUO,show(w.AH[i].1,w.AH[i].2.1,())=w.AH[i]from rfl];have hm:=AZ (f:=Ax) (AL5 De);have hw:Ax w.AH[i]=Af BU w.AH[i].2.1:=rfl;have hlw:=AW (f:=BU) (l:=w.AH[i].2.1);rw[gM (by omega)];cases(w.AH[i].1==e)<;>rfl
   grind
 have:=key Ae 0 (by omega) (Ag (by omega));rw[ASi]at this;exact this
theorem gB{w:AA}{r:Ab}{k:Int}(h1:Af An w.Aj≤2^20)(h2:w.lost.length≤2^20)(hr1: -1000≤r.1∧r.1≤1000)(hr2: -1000≤r.2.1∧r.2.1≤1000):
  P5 w r k=some (((),()),(answers w (D9 r.1 r.2.1) (Ao k),())):=by
 have zb:=AW (f:=An) (l:=w.Aj);have uk:(Ao k).length≤8:=by
  unfold Ao;split
  ·exact ARE (ARK _ _) (by simp)
  ·simp
 have key:∀(n i:Nat) (b:List As),i≤(Ao k).length→(Ao k).length-i<n→b.length≤i→
   JU n i w.1 w.2.1 w.2.2.1 w.2.2.2.1 w.2.2.2.2.1 w.2.2.2.2.2.1 w.2.2.2.2.2.2.1 w.2.2.2.2.2.2.2.1 w.2.2.2.2.2.2.2.2.1 w.2.2.2.2.2.2.2.2.2.1 w.2.2.2.2.2.2.2.2.2.2.1 r.1 r.2.1 r.2.2.1 b (Ao k)=
    some (((),()),(b++answers w (D9 r.1 r.2.1) ((Ao k).drop i),())):=by
  intro n
  induction n with
  |zero=>omega
  |succ n ih=>
   intro i b hi h hb;simp only[JU,SZ,AB];by_cases De:i<(Ao k).length
   ·have c1:(0:Int)≤(i:Int)∧(i:Int)<((Ao k).length:Int):=by omega
    have c2:b.length+1≤Ds:=by rw[BT];omega
    rw[ALI c1.2,ALI c1,Ak De,show(w.1,w.2.1,w.2.2.1,w.2.2.2.1,w.2.2.2.2.1,w.2.2.2.2.2.1,w.2.2.2.2.2.2.1,w.2.2.2.2.2.2.2.1,w.2.2.2.2.2.2.2.2.1,w.2.2.2.2.2.2.2.2.2.1,w.2.2.2.2.2.2.2.2.2.2.1,())=w from rfl,ID (by omega) h2,AL (by omega) (by omega),show((i:Int)+1)=((i+1:Nat):Int)by omega,drop_cons De];simp only[AD,Cw,answers,ASf];by_cases hn:Al w (Ao k)[i]=0
    ·obtain⟨n1,n2,n3⟩:=EI hn
     have hs1:((Ao k)[i]).toNat<w.2.2.1.length:=by simp_all
     rw[ALI hn,ALI c1,ALI ⟨n1,n2⟩,Mg hr1 hr2];simp only[AD];have ZK:w.2.2.1.getD ((Ao k)[i]).toNat ([],[],0,())=storeAt w (Ao k)[i]:=rfl;have hsm:An (storeAt w (Ao k)[i])≤2^20:=ARE (AZ (f:=An) (BV (d:=Ci) hs1)) h1;rw[ZK,Tg (Fu (by omega)).1];simp only[AD];rw[ALI c1,ALI c2,ih (i+1) _ (by omega) (by omega) (by simp_all),ALI (by simp_all),ATb,AM4];have:((Ao k)[i],(EA (D9 r.1 r.2.1) (storeAt w (Ao k)[i]).1).isSome,((EA (D9 r.1 r.2.1) (storeAt w (Ao k)[i]).1).getD Dq).1,((EA (D9 r.1 r.2.1) (storeAt w (Ao k)[i]).1).getD Dq).2.1,((EA (D9 r.1 r.2.1) (storeAt w (Ao k)[i]).1).getD Dq).2.2.1,((EA (D9 r.1 r.2.1) (storeAt w (Ao k)[i]).1).getD Dq).2.2.2.1,())=answer w (D9 r.1 r.2.1) (Ao k)[i]:=by
      grind[answer,EA,D9,storeAt,Ao]
     rw[this];rfl
    ·rw[ALT hn,ih (i+1) _ (by omega) (by omega) (by omega),ALT (by simp_all)]
     rfl
   ·rw[ALT (by omega),AMI (by omega)]
    simp[answers]
 have:=key Ae 0 [] (by omega) (Ag (by omega)) (by simp);grind[P5,Sh,Xp]
end Go.M
end
section
set_option maxRecDepth 8000
namespace Go.M
open Go.M.H (AJ AN Au Ac AA CX AQ A9 AM Ab BG As BO An Ca Af AW AZ Ar CL BU Ax BD Es Ch DF DN)
section
variable{w:AA} (h:jX w)
include h
theorem AK_:∀(n i:Nat) (D2:List AN) (ER:List AM) (E8:List Au) (Fh:List Ab),i≤w.2.2.2.2.2.2.2.2.1.length→w.2.2.2.2.2.2.2.2.1.length-i<n→Fh.length≤i→
  CW n i w.1 w.2.1 w.2.2.1 w.2.2.2.1 w.2.2.2.2.1 w.2.2.2.2.2.1 w.2.2.2.2.2.2.1 w.2.2.2.2.2.2.2.1 w.2.2.2.2.2.2.2.2.1 w.2.2.2.2.2.2.2.2.2.1 w.2.2.2.2.2.2.2.2.2.2.1 0 0 false [] [] [] [] [] [] [] [] w.2.1 w.2.2.2.2.2.1 w.2.2.2.2.2.2.2.2.2.2.1 w.1 D2 w.2.2.2.1 w.2.2.2.2.1 ER E8 Fh w.2.2.2.2.2.2.2.2.2.1=some ((((),w.2.1,(),(),(),w.2.2.2.2.2.1,(),(),(),(),w.2.2.2.2.2.2.2.2.2.2.1,()),()),(w.1,D2,w.2.2.2.1,w.2.2.2.2.1,ER,E8,(Fh++w.2.2.2.2.2.2.2.2.1.drop i),w.2.2.2.2.2.2.2.2.2.1,())):=by
 have xQ:=h.OJ;have hl:=h.lens;intro n
 induction n with
 |zero=>omega
 |succ n ih=>
  intro i D2 ER E8 Fh hi hn hb;simp only[CW,PF,AB];by_cases De:i<w.2.2.2.2.2.2.2.2.1.length
  ·have c1:(0:Int)≤(i:Int)∧(i:Int)<(w.2.2.2.2.2.2.2.2.1.length:Int):=by omega
   have c2:Fh.length+1≤Ds:=by rw[BT];omega
   rw[ALI c1.2,ALI c1,Ak De,AL (by omega) (by omega),show((i:Int)+1)=((i+1:Nat):Int)by omega,drop_cons De];have hm:=AZ (f:=BD) (AL5 De);have hw:BD w.2.2.2.2.2.2.2.2.1[i]=Af Ch w.2.2.2.2.2.2.2.2.1[i].2.2.1:=rfl;have hlw:=AW (f:=Ch) (l:=w.2.2.2.2.2.2.2.2.1[i].2.2.1);rw[show(w.2.2.2.2.2.2.2.2.1[i].1,w.2.2.2.2.2.2.2.2.1[i].2.1,w.2.2.2.2.2.2.2.2.1[i].2.2.1,())=w.2.2.2.2.2.2.2.2.1[i]from rfl,Uw (by omega)];simp only[AD];rw[ALI c2,ih (i+1) _ _ _ _ (by omega) (by omega) (by simp_all),AM4];rfl
  grind
theorem AJc:∀(n i:Nat) (D2:List AN) (ER:List AM) (E8:List Au),i≤w.2.2.2.2.2.2.2.1.length→(w.2.2.2.2.2.2.2.1.length-i)+w.2.2.2.2.2.2.2.2.1.length+2≤n→E8.length≤i→
  CY n i w.1 w.2.1 w.2.2.1 w.2.2.2.1 w.2.2.2.2.1 w.2.2.2.2.2.1 w.2.2.2.2.2.2.1 w.2.2.2.2.2.2.2.1 w.2.2.2.2.2.2.2.2.1 w.2.2.2.2.2.2.2.2.2.1 w.2.2.2.2.2.2.2.2.2.2.1 0 0 false [] [] [] [] [] [] [] [] w.2.1 w.2.2.2.2.2.1 w.2.2.2.2.2.2.2.2.2.2.1 w.1 D2 w.2.2.2.1 w.2.2.2.2.1 ER E8 [] w.2.2.2.2.2.2.2.2.2.1=some ((((),w.2.1,(),(),(),w.2.2.2.2.2.1,(),(),(),(),w.2.2.2.2.2.2.2.2.2.2.1,()),()),(w.1,D2,w.2.2.2.1,w.2.2.2.2.1,ER,(E8++w.2.2.2.2.2.2.2.1.drop i),w.2.2.2.2.2.2.2.2.1,w.2.2.2.2.2.2.2.2.2.1,())):=by
 have xQ:=h.OJ;have hl:=h.lens;intro n
 induction n with
 |zero=>omega
 |succ n ih=>
  intro i D2 ER E8 hi hn hb;simp only[CY,PE,AB];by_cases De:i<w.2.2.2.2.2.2.2.1.length
  ·have c1:(0:Int)≤(i:Int)∧(i:Int)<(w.2.2.2.2.2.2.2.1.length:Int):=by omega
   have c2:E8.length+1≤Ds:=by rw[BT];omega
   rw[ALI c1.2,ALI c1,Ak De,AL (by omega) (by omega),show((i:Int)+1)=((i+1:Nat):Int)by omega,drop_cons De];have hm:=AZ (f:=Ca) (AL5 De);rw[show(w.2.2.2.2.2.2.2.1[i].1,w.2.2.2.2.2.2.2.1[i].2.1,w.2.2.2.2.2.2.2.1[i].2.2.1,w.2.2.2.2.2.2.2.1[i].2.2.2.1,w.2.2.2.2.2.2.2.1[i].2.2.2.2.1,w.2.2.2.2.2.2.2.1[i].2.2.2.2.2.1,())=w.2.2.2.2.2.2.2.1[i]from rfl,LK (by omega)];simp only[AD];rw[ALI c2,ih (i+1) _ _ _ (by omega) (by omega) (by simp_all),AM4];rfl
  ·have:=AK_ h n 0 D2 ER E8 [] (by omega) (by omega) (by simp)
   grind
theorem ASF:∀(n i:Nat) (D2:List AN) (ER:List AM),i≤w.2.2.2.2.2.2.1.length→(w.2.2.2.2.2.2.1.length-i)+w.2.2.2.2.2.2.2.1.length+w.2.2.2.2.2.2.2.2.1.length+3≤n→ER.length≤i→
  Cs n i w.1 w.2.1 w.2.2.1 w.2.2.2.1 w.2.2.2.2.1 w.2.2.2.2.2.1 w.2.2.2.2.2.2.1 w.2.2.2.2.2.2.2.1 w.2.2.2.2.2.2.2.2.1 w.2.2.2.2.2.2.2.2.2.1 w.2.2.2.2.2.2.2.2.2.2.1 0 0 false [] [] [] [] [] [] [] [] w.2.1 w.2.2.2.2.2.1 w.2.2.2.2.2.2.2.2.2.2.1 w.1 D2 w.2.2.2.1 w.2.2.2.2.1 ER [] [] w.2.2.2.2.2.2.2.2.2.1=some ((((),w.2.1,(),(),(),w.2.2.2.2.2.1,(),(),(),(),w.2.2.2.2.2.2.2.2.2.2.1,()),()),(w.1,D2,w.2.2.2.1,w.2.2.2.2.1,(ER++w.2.2.2.2.2.2.1.drop i),w.2.2.2.2.2.2.2.1,w.2.2.2.2.2.2.2.2.1,w.2.2.2.2.2.2.2.2.2.1,())):=by
 have xQ:=h.OJ;have hl:=h.lens;intro n
 induction n with
 |zero=>omega
 |succ n ih=>
  intro i D2 ER hi hn hb;simp only[Cs,QV,AB];by_cases De:i<w.2.2.2.2.2.2.1.length
  ·have c1:(0:Int)≤(i:Int)∧(i:Int)<(w.2.2.2.2.2.2.1.length:Int):=by omega
   have c2:ER.length+1≤Ds:=by rw[BT];omega
   rw[ALI c1.2,ALI c1,Ak De,AL (by omega) (by omega),show((i:Int)+1)=((i+1:Nat):Int)by omega,drop_cons De];have hm:=AZ (f:=Ax) (AL5 De);have hw:Ax w.2.2.2.2.2.2.1[i]=Af BU w.2.2.2.2.2.2.1[i].2.1:=rfl;rw[show(w.2.2.2.2.2.2.1[i].1,w.2.2.2.2.2.2.1[i].2.1,())=w.2.2.2.2.2.2.1[i]from rfl,RY (by omega)];simp only[AD];rw[ALI c2,ih (i+1) _ _ (by omega) (by omega) (by simp_all),AM4];rfl
  ·have:=AJc h n 0 D2 ER [] (by omega) (by omega) (by simp)
   grind
theorem ANR:∀(n i:Nat) (D2:List AN),i≤w.2.2.1.length→(w.2.2.1.length-i)+w.2.2.2.2.2.2.1.length+w.2.2.2.2.2.2.2.1.length+w.2.2.2.2.2.2.2.2.1.length+4≤n→D2.length≤i→
  Cc n i w.1 w.2.1 w.2.2.1 w.2.2.2.1 w.2.2.2.2.1 w.2.2.2.2.2.1 w.2.2.2.2.2.2.1 w.2.2.2.2.2.2.2.1 w.2.2.2.2.2.2.2.2.1 w.2.2.2.2.2.2.2.2.2.1 w.2.2.2.2.2.2.2.2.2.2.1 0 0 false [] [] [] [] [] [] [] [] w.2.1 w.2.2.2.2.2.1 w.2.2.2.2.2.2.2.2.2.2.1 w.1 D2 w.2.2.2.1 w.2.2.2.2.1 [] [] [] w.2.2.2.2.2.2.2.2.2.1=some ((((),w.2.1,(),(),(),w.2.2.2.2.2.1,(),(),(),(),w.2.2.2.2.2.2.2.2.2.2.1,()),()),(w.1,(D2++w.2.2.1.drop i),w.2.2.2.1,w.2.2.2.2.1,w.2.2.2.2.2.2.1,w.2.2.2.2.2.2.2.1,w.2.2.2.2.2.2.2.2.1,w.2.2.2.2.2.2.2.2.2.1,())):=by
 have xQ:=h.OJ;have hl:=h.lens;intro n
 induction n with
 |zero=>omega
 |succ n ih=>
  intro i D2 hi hn hb;simp only[Cc,QT,AB];by_cases De:i<w.2.2.1.length
  ·have c1:(0:Int)≤(i:Int)∧(i:Int)<(w.2.2.1.length:Int):=by omega
   have c2:D2.length+1≤Ds:=by rw[BT];omega
   rw[ALI c1.2,ALI c1,Ak De,AL (by omega) (by omega),show((i:Int)+1)=((i+1:Nat):Int)by omega,drop_cons De];have hm:=AZ (f:=An) (AL5 De);have hw:=Fu (s:=w.2.2.1[i]) (by omega);rw[show(w.2.2.1[i].1,w.2.2.1[i].2.1,w.2.2.1[i].2.2.1,())=w.2.2.1[i]from rfl,N8 hw.1 hw.2];simp only[AD];rw[ALI c2,ih (i+1) _ (by omega) (by omega) (by simp_all),AM4];rfl
  ·have:=ASF h n 0 D2 [] (by omega) (by omega) (by simp)
   grind
theorem l6:Og w=some ((((),w.2.1,(),(),(),w.2.2.2.2.2.1,(),(),(),(),w.2.2.2.2.2.2.2.2.2.2.1,()),()),(w.1,w.2.2.1,w.2.2.2.1,w.2.2.2.2.1,w.2.2.2.2.2.2.1,w.2.2.2.2.2.2.2.1,w.2.2.2.2.2.2.2.2.1,w.2.2.2.2.2.2.2.2.2.1,())):=by
 have xQ:=h.OJ;have hl:=h.lens;unfold Og QL;have:=ANR h Ae 0 [] (by omega) (ATs (Ag (by omega))) (by simp);rw[show((0:Nat):Int)=0 from rfl,ASg,ASi]at this;rw[ALI (by rw[BT];omega),ALI (by rw[BT];omega),show(w.2.2.2.2.1,w.2.2.2.2.2.1,())=(B7 w)from rfl,RI (by show Af CL w.2.2.2.2.1≤_;omega)];simp only[AD];rw[ALI (by rw[BT];omega)];exact this
end
end Go.M
end
section
set_option maxRecDepth 8000
namespace Go.M
open Go.M.H (AJ AN Au Ac AA CX AQ A9 AM Ab BG As BO An Ca Af AW AZ Ar CL BU Ax BD Es Ch DF DN)
def pkD(q:AA×Int):bN:=(((((),q.1.2.1,(),(),(),q.1.2.2.2.2.2.1,(),(),(),(),q.1.2.2.2.2.2.2.2.2.2.2.1,()),q.2,()),()),(q.1.1,q.1.2.2.1,q.1.2.2.2.1,q.1.2.2.2.2.1,q.1.2.2.2.2.2.2.1,q.1.2.2.2.2.2.2.2.1,q.1.2.2.2.2.2.2.2.2.1,q.1.2.2.2.2.2.2.2.2.2.1,()))
def AQq(q:AA×Int):cF:=(((((),q.1.2.1,(),(),(),q.1.2.2.2.2.2.1,(),(),(),(),q.1.2.2.2.2.2.2.2.2.2.2.1,()),q.2,()),()),(q.1.1,q.1.2.2.1,q.1.2.2.2.1,(),(),(),q.1.2.2.2.2.2.2.2.2.1,q.1.2.2.2.2.2.2.2.2.2.1,q.1.2.2.2.2.1,q.1.2.2.2.2.2.2.1,q.1.2.2.2.2.2.2.2.1,()))
def AD3(q:AA×Int):Ki:=(((((),q.1.2.1,(),(),(),q.1.2.2.2.2.2.1,(),(),(),(),q.1.2.2.2.2.2.2.2.2.2.2.1,()),q.2,()),()),(q.1.1,q.1.2.2.1,q.1.2.2.2.1,q.1.2.2.2.2.1,q.1.2.2.2.2.2.2.1,q.1.2.2.2.2.2.2.2.1,q.1.2.2.2.2.2.2.2.2.1,(),q.1.2.2.2.2.2.2.2.2.2.1,()))
def tY(q:AA×Int):JL:=(((((),q.1.2.1,(),(),(),q.1.2.2.2.2.2.1,(),(),(),(),q.1.2.2.2.2.2.2.2.2.2.2.1,()),q.2,()),()),(q.1.1,q.1.2.2.1,(),q.1.2.2.2.2.1,q.1.2.2.2.2.2.2.1,q.1.2.2.2.2.2.2.2.1,q.1.2.2.2.2.2.2.2.2.1,q.1.2.2.2.2.2.2.2.2.2.1,q.1.2.2.2.1,()))
def AM6(q:AA×Int):dE:=(((((),q.1.2.1,(),(),(),q.1.2.2.2.2.2.1,(),(),(),(),q.1.2.2.2.2.2.2.2.2.2.2.1,()),q.2,()),()),(q.1.1,q.1.2.2.1,q.1.2.2.2.1,q.1.2.2.2.2.1,q.1.2.2.2.2.2.2.1,(),q.1.2.2.2.2.2.2.2.2.1,q.1.2.2.2.2.2.2.2.2.2.1,q.1.2.2.2.2.2.2.2.1,()))
def AKP(q:AA×Int):ba:=(((((),q.1.2.1,(),(),(),q.1.2.2.2.2.2.1,(),(),(),(),q.1.2.2.2.2.2.2.2.2.2.2.1,()),q.2,()),()),(q.1.1,q.1.2.2.1,q.1.2.2.2.1,(),q.1.2.2.2.2.2.2.1,(),q.1.2.2.2.2.2.2.2.2.1,q.1.2.2.2.2.2.2.2.2.2.1,q.1.2.2.2.2.1,q.1.2.2.2.2.2.2.2.1,()))
def ADI(q:AA×Int):Nj:=(((((),q.1.2.1,(),(),(),q.1.2.2.2.2.2.1,(),(),(),(),q.1.2.2.2.2.2.2.2.2.2.2.1,()),q.2,()),()),(q.1.1,q.1.2.2.1,q.1.2.2.2.1,q.1.2.2.2.2.1,(),q.1.2.2.2.2.2.2.2.1,q.1.2.2.2.2.2.2.2.2.1,q.1.2.2.2.2.2.2.2.2.2.1,q.1.2.2.2.2.2.2.1,()))
def AQ0(q:AA×Int):ie:=(((((),q.1.2.1,(),(),(),q.1.2.2.2.2.2.1,(),(),(),(),q.1.2.2.2.2.2.2.2.2.2.2.1,()),q.2,()),()),(q.1.1,q.1.2.2.1,(),(),(),(),q.1.2.2.2.2.2.2.2.2.1,(),q.1.2.2.2.1,q.1.2.2.2.2.1,q.1.2.2.2.2.2.2.1,q.1.2.2.2.2.2.2.2.1,q.1.2.2.2.2.2.2.2.2.2.1,()))
theorem Fy{α:Type}{x y:α}:(if(!true)=true then x else y)=y:=rfl
theorem Ic{α:Type}{x y:α}:(if(!false)=true then x else y)=x:=rfl
structure Aa5 (w:AA):Prop where
 c:w.1.length≤8
 st:w.2.2.1.length=w.1.length
 lost:w.2.2.2.1.length≤8
 era:Af CL w.2.2.2.2.1≤270
 aB:w.2.2.2.2.1.length≤30
 trim:DJ w.2.2.2.2.2.1
 wr:w.2.2.2.2.2.2.1.length≤4
 md:w.2.2.2.2.2.2.2.1.length≤1
 rd:w.2.2.2.2.2.2.2.2.1.length=2
 se:w.2.2.2.2.2.2.2.2.2.1.length≤120
 ws:Af An w.2.2.1≤80008
 ww:Af Ax w.2.2.2.2.2.2.1≤12004
 Zp:w.AH.length≤4
 gg:w.Aj.length=w.1.length
 Jk:w.lost.length≤8
theorem Ml.nums{w:AA}(h:Ml w):Aa5 w where
 c:=(Fq h.cfg).2.1
 st:=h.my
 lost:=Hr h.lost
 era:=h.lf.w
 aB:=h.lf.n
 trim:=h.lf.tin
 wr:=h.q8
 md:=h.xP
 rd:=h.p_
 se:=h.NN
 ws:=by
  have:=GA (f:=An) (B:=10000) (N:=8) (l:=w.Aj) (by rw[h.my];exact(Fq h.cfg).2.1) fun s hs=>(h.PU hs).w
  omega
 ww:=by
  have:=GA (f:=Ax) (B:=3000) h.q8 fun x hx=>(h.AH x hx).1.w
  omega
 Zp:=h.q8
 gg:=h.my
 Jk:=Hr h.lost
section
variable{w:AA} (h:Ml w)
include h
theorem Ml.cD{a:Int}(ha:BK a 0 ((w.AH.length:Int)-1)=true):(0≤a∧a<(w.2.2.2.2.2.2.1.length:Int))∧ax (AS w) (w.AH.getD a.toNat Bo)∧Af BU (w.AH.getD a.toNat Bo).2.1≤3000:=by
 have:=Ai.1 ha;have hi:a.toNat<w.AH.length:=by omega
 have hx:=(h.AH _ (BV (d:=Bo) hi)).1;refine⟨?_,hx,hx.w⟩
 (try simp only[H.AA.Aj,H.AA.lost,H.AA.AY,H.AA.trim,H.AA.AH,H.AA.BW,H.AA.Aa,H.AA.Aq,H.AA.EC,H.AA.A8,H.AA.EV,H.AA.HE,H.AA.A6,H.AA.Bi,H.AA.Cy,H.AA.C2,H.AA.FA,B7,AS]at*)
 omega
theorem Gl{e:Int}:(Ap (B7 w).1 e).length≤8:=by
 unfold Ap;split
 ·rename_i he
  have he':=Ai.1 he;exact Hr (Ny (h.lf.AY _ (BV (d:=GL) (by omega))).1)
 ·simp
theorem mA{d:BO}:Vv w.2.1 w.2.2.2.2.2.1 w.2.2.2.2.2.2.2.2.2.2.1 d w.1 w.2.2.1 w.2.2.2.1 w.2.2.2.2.1 w.2.2.2.2.2.2.1 w.2.2.2.2.2.2.2.1 w.2.2.2.2.2.2.2.2.1 w.2.2.2.2.2.2.2.2.2.1=some (AQq (MK w d.2.1)):=by
 have k:=h.nums;have k1:=k.c;have k2:=k.wr;unfold Vv MK;rw[DR];by_cases h4:w.2.2.2.2.2.2.1.length=4
 ·rw[ALI (by omega),ALI h4];rfl
 have hm:(Ao d.2.1).length≤8:=by
  unfold Ao;split
  ·exact ARE (ARK _ _) (by simp)
  ·simp
 rw[ALT (by omega),ALT h4,Xp];simp only[AD];rw[show(w.1,w.2.1,())=AS w from rfl,show(w.2.2.2.2.1,w.2.2.2.2.2.1,())=B7 w from rfl,mG (c:=AS w) (r:=B7 w) (by show w.1.length≤_;omega) (by have:=k.era;show Af CL w.2.2.2.2.1≤_;omega) k.trim (by omega)];simp only[AD,A3];rcases AK7 (Ij (AS w) (B7 w) (Ao d.2.1)).2.2 with hq|hq
 ·rw[hq,ALI (by rw[BT];omega),Fy];rfl
 ·rw[hq,Ic];rfl
theorem jP{d:BO}:Tn w.2.1 w.2.2.2.2.2.1 w.2.2.2.2.2.2.2.2.2.2.1 d w.1 w.2.2.1 w.2.2.2.1 w.2.2.2.2.1 w.2.2.2.2.2.2.1 w.2.2.2.2.2.2.2.1 w.2.2.2.2.2.2.2.2.1 w.2.2.2.2.2.2.2.2.2.1=some (pkD (IW w d.2.1 d.2.2.1 d.2.2.2.1)):=by
 have k:=h.nums;have k1:=k.c;have k2:=k.wr;have k3:=k.lost;have k4:=k.st;have ZZ:=k.Zp;have gb:=k.Jk;have jM:=k.gg;have k5:=k.era;unfold Tn IW;rw[show(w.1,w.2.1,w.2.2.1,w.2.2.2.1,w.2.2.2.2.1,w.2.2.2.2.2.1,w.2.2.2.2.2.2.1,w.2.2.2.2.2.2.2.1,w.2.2.2.2.2.2.2.2.1,w.2.2.2.2.2.2.2.2.2.1,w.2.2.2.2.2.2.2.2.2.2.1,())=w from rfl,Ri (by omega),ID (by omega) (by omega)];simp only[AD,A3,Cw];rcases AK7 (BK d.2.1 0 ((w.AH.length:Int)-1))with h1|h1
 rotate_left
 ·rw[h1,Ic];rfl
 obtain⟨x1,x2,x3⟩:=h.cD h1;rw[h1,AMJ,Fy,ALI x1,Bd];simp only[AD]
 generalize hx:w.AH.getD d.2.1.toNat Bo=x at*
 rcases AK7 (BK d.2.2.1 1 (x.2.1.length:Int))with h2|h2
 rotate_left
 ·rw[h2,Ic];rfl
 have h2':=Ai.1 h2;rw[h2,AMJ,Fy];by_cases h3:Al w d.2.2.2.1=0
 rotate_left
 ·rw[ALT h3,ALI h3];rfl
 rw[ALI h3,ALT (show¬(Al w d.2.2.2.1≠0)from fun hh=>hh h3)];obtain⟨n1,n2,n3⟩:=EI h3;have n2':d.2.2.2.1<(w.2.2.1.length:Int):=n2;have hxl:=x2.n;have hxe:=x2.ep;rw[show(w.2.2.2.2.1,w.2.2.2.2.2.1,())=B7 w from rfl,FF (r:=B7 w) (by show Af CL w.2.2.2.2.1≤_;omega)];have UJ:(Ap w.AY x.1).length≤8:=Gl h;have hr:0≤d.2.2.2.1∧d.2.2.2.1<(w.2.2.1.length:Int):=⟨n1,n2'⟩;rw[show(B7 w).1=w.AY from rfl];simp only[AD,ALI hr];rw[KG (by omega),AL (by omega) (by omega),ALI (by omega),Mg (by omega) (by omega)];simp only[AD];have ZK:w.2.2.1.getD d.2.2.2.1.toNat ([],[],0,())=storeAt w d.2.2.2.1:=rfl;have hso:=h.store h3;have j5:=I4 (e:=x.1) (o:=d.2.2.1) hxe (by omega);rw[ZK,show((storeAt w d.2.2.2.1).1,(storeAt w d.2.2.2.1).2.1,(storeAt w d.2.2.2.1).2.2.1,())=storeAt w d.2.2.2.1 from rfl,Zx (by have:=hso.w;omega) hso.sin (Jd j5.1)];simp only[AD,ld,putAt];rcases AK7 ((Ap w.AY x.1).contains d.2.2.2.1)with h5|h5
 rotate_left
 ·rw[h5,Ic];rfl
 rw[h5,Fy,AMJ];have hwd:(x.2.1.getD (d.2.2.1-1).toNat ([],[],false,()))=x.2.1.getD (d.2.2.1-1).toNat Kn:=rfl;rw[hwd];rcases AK7 (GD (storeAt w d.2.2.2.1) (D9 x.1 d.2.2.1,0,false,(x.2.1.getD (d.2.2.1-1).toNat Kn).1,())).2 with h6|h6
 rotate_left
 ·rw[h6];rfl
 rw[h6,AMJ,ALI rfl];rfl
end
end Go.M
end
section
set_option maxRecDepth 8000
namespace Go.M
open Go.M.H (AJ AN Au Ac AA CX AQ A9 AM Ab BG As BO An Ca Af AW AZ Ar CL BU Ax BD Es Ch DF DN)
theorem jZ{α:Type}{f:α→Nat}{p:α→Bool}:∀{l:List α},Af f (l.filter p)≤Af f l
 |[]=>APz _
 |x::l=>by
  have:=jZ (f:=f) (p:=p) (l:=l);grind[Af]
theorem vz{s:AN}{u:Int}(hs:eR s):eR (Bg s u).1:=by
 rcases AK7 (Bg s u).2 with hq|hq
 ·exact(aH hq).2.1
 ·have:(Bg s u).1=s:=by
   unfold Bg at*;rw[DC.2 hs]at*;grind
  simp_all
section
variable{w:AA} (h:Ml w)
include h
theorem Ml.K_{n:Int}(hn:Al w n=0):(0≤n∧n<(w.2.2.1.length:Int))∧An (storeAt w n)≤2^30∧qR (storeAt w n)∧eR (storeAt w n):=by
 obtain⟨n1,n2,n3⟩:=EI hn;have:=(h.store hn).w;exact⟨⟨n1,n2⟩,by omega,(h.store hn).sin,h.store hn⟩
theorem ji{d:BO}:Th w.2.1 w.2.2.2.2.2.1 w.2.2.2.2.2.2.2.2.2.2.1 d w.1 w.2.2.1 w.2.2.2.1 w.2.2.2.2.1 w.2.2.2.2.2.2.1 w.2.2.2.2.2.2.2.1 w.2.2.2.2.2.2.2.2.1 w.2.2.2.2.2.2.2.2.2.1=some (pkD (if d.1=16 then Ii w d.2.1 else Ib w d.2.1 d.2.2.1)):=by
 have k:=h.nums;have k1:=k.c;have k2:=k.wr;have k3:=k.lost;have k4:=k.st;have ZZ:=k.Zp;have gb:=k.Jk;have jM:=k.gg;have k5:=k.era;unfold Th Ii Ib;rw[show(w.1,w.2.1,w.2.2.1,w.2.2.2.1,w.2.2.2.2.1,w.2.2.2.2.2.1,w.2.2.2.2.2.2.1,w.2.2.2.2.2.2.2.1,w.2.2.2.2.2.2.2.2.1,w.2.2.2.2.2.2.2.2.2.1,w.2.2.2.2.2.2.2.2.2.2.1,())=w from rfl,ID (by omega) (by omega)];simp only[AD,A3,Cw,DR];by_cases h3:Al w d.2.1=0
 rotate_left
 ·rw[ALT h3]
  by_cases h16:d.1=16
  ·rw[ALI h16,ALI h3];rfl
  ·rw[ALT h16,ALI h3];rfl
 obtain⟨hr,s1,s2,s3⟩:=h.K_ h3;have ZK:w.2.2.1.getD d.2.1.toNat ([],[],0,())=storeAt w d.2.1:=rfl;have hn3: ¬(Al w d.2.1≠0):=fun hh=>hh h3
 rw[ALI h3];simp only[ALI hr,ZK,ALT hn3];rw[show((storeAt w d.2.1).1,(storeAt w d.2.1).2.1,(storeAt w d.2.1).2.2.1,())=storeAt w d.2.1 from rfl,WK s1 s2,iL s1 s2 k.trim];simp only[AD,ld,putAt];by_cases h16:d.1=16
 ·rw[ALI h16,ALI h16]
  rcases AK7 (F_ (storeAt w d.2.1) w.2.2.2.2.2.1).2 with h6|h6
  ·rw[h6];rfl
  ·rw[h6];rfl
 ·rw[ALT h16,ALT h16]
  rcases AK7 (D3 (storeAt w d.2.1) d.2.2.1).2 with h6|h6
  ·rw[h6];rfl
  ·rw[h6];rfl
theorem mF{d:BO}:V1 w.2.1 w.2.2.2.2.2.1 w.2.2.2.2.2.2.2.2.2.2.1 d w.1 w.2.2.1 w.2.2.2.1 w.2.2.2.2.1 w.2.2.2.2.2.2.1 w.2.2.2.2.2.2.2.1 w.2.2.2.2.2.2.2.2.1 w.2.2.2.2.2.2.2.2.2.1=some (tY (ME w d.2.1)):=by
 have k:=h.nums;have k1:=k.c;have k2:=k.wr;have k3:=k.lost;have k4:=k.st;have ZZ:=k.Zp;have gb:=k.Jk;have jM:=k.gg;have k5:=k.era;have k6:=k.ws;have k6':Af An w.Aj≤80008:=k.ws;have k7:=k.aB;unfold V1 ME;rw[KG (by omega)];simp only[AD,A3];rcases AK7 (w.2.2.2.1.contains d.2.1)with h1|h1
 rotate_left
 ·rw[h1];rfl
 rw[h1,Fy,AMJ,AL (by omega) (by omega),Kj];simp only[AD];rw[show(w.1,w.2.1,())=AS w from rfl,uc (c:=AS w) (by show w.1.length≤_;omega) (by omega) (fun s hs=>by have:=(h.PU hs).nk;omega) (by omega) (fun s hs=>(h.PU hs).sin) (by omega)];simp only[AD,pkF];rcases AK7 (WE (AS w) w.2.2.1 w.2.2.2.1 d.2.1 (max ((w.2.2.2.2.1.length:Int)-1) 0)).2 with h2|h2
 rotate_left
 ·rw[h2];rfl
 have hm:d.2.1∈w.lost:=by
  simp_all
 have hn:=(EN.1 h.lost).2.1 d.2.1 hm;have hn':d.2.1<(w.1.length:Int):=hn.2;rw[h2,AMJ,Fy,ALI (show 0≤d.2.1∧d.2.1<(w.2.2.1.length:Int)from⟨hn.1,by omega⟩),JR (by omega) (by simp)];rfl
theorem mS:Vw w.2.1 w.2.2.2.2.2.1 w.2.2.2.2.2.2.2.2.2.2.1 w.1 w.2.2.1 w.2.2.2.1 w.2.2.2.2.1 w.2.2.2.2.2.2.1 w.2.2.2.2.2.2.2.1 w.2.2.2.2.2.2.2.2.1 w.2.2.2.2.2.2.2.2.2.1=some (AM6 (L5 w)):=by
 have k:=h.nums;have k1:=k.c;have k2:=k.wr;have k3:=k.lost;have k4:=k.st;have ZZ:=k.Zp;have gb:=k.Jk;have jM:=k.gg;have k5:=k.era;have k7:=k.aB;unfold Vw L5;rw[show(w.2.2.2.2.1,w.2.2.2.2.2.1,())=B7 w from rfl,NU (r:=B7 w) (by show w.2.2.2.2.1.length≤_;omega)];simp only[AD,DR,AB];rw[show(B7 w).1=w.AY from rfl];by_cases h1:(w.2.2.2.2.1.length:Int)<2
 ·rw[ALI h1,show(decide ((w.2.2.2.2.1.length:Int)<2)||decide (A5 w.2.2.2.2.1=(w.2.2.2.2.1.length:Int)))=true by simp_all];rfl
 rw[ALT h1];by_cases h2:A5 w.2.2.2.2.1=(w.2.2.2.2.1.length:Int)
 ·rw[ALI h2,show(decide ((w.2.2.2.2.1.length:Int)<2)||decide (A5 w.2.2.2.2.1=(w.2.2.2.2.1.length:Int)))=true by simp_all];rfl
 rw[ALT h2,show(decide ((w.2.2.2.2.1.length:Int)<2)||decide (A5 w.2.2.2.2.1=(w.2.2.2.2.1.length:Int)))=false by simp_all];rw[ALT (show¬(false=true)by simp)];by_cases h3:w.2.2.2.2.2.2.2.1.length>0
 ·rw[ALI (by omega),ALI h3];rfl
 ·rw[ALT (by omega),ALT h3];rfl
theorem l5{d:BO}:Vy w.2.1 w.2.2.2.2.2.1 w.2.2.2.2.2.2.2.2.2.2.1 d w.1 w.2.2.1 w.2.2.2.1 w.2.2.2.2.1 w.2.2.2.2.2.2.1 w.2.2.2.2.2.2.2.1 w.2.2.2.2.2.2.2.2.1 w.2.2.2.2.2.2.2.2.2.1=some (pkD (MH w d.2.1)):=by
 have k:=h.nums;have k1:=k.c;have k2:=k.wr;have k3:=k.lost;have k4:=k.st;have ZZ:=k.Zp;have gb:=k.Jk;have jM:=k.gg;have k5:=k.era;unfold Vy MH;rcases hm:w.BW with _|⟨m,ms⟩
 ·rw[DR,ALI (by simp_all)];rfl
 have px:w.2.2.2.2.2.2.2.1=m::ms:=hm;have uk:w.2.2.2.2.2.2.2.1.length=ms.length+1:=by simp_all
 have g0:w.2.2.2.2.2.2.2.1.getD 0 (0,0,[],[],false,[],())=m:=by simp_all
 have yT:(0:Int)≤(0:Int)∧(0:Int)<(w.2.2.2.2.2.2.2.1.length:Int):=by omega
 have Yg:=(h.BW m (by simp_all)).1;have hmw:=Yg.w;have o7:=Yg.ep;have hmb:=Yg.b;simp only[DR,A3,Cw,ALI yT,g0];rw[ALT (by omega)];rw[show(w.1,w.2.1,w.2.2.1,w.2.2.2.1,w.2.2.2.2.1,w.2.2.2.2.2.1,w.2.2.2.2.2.2.1,w.2.2.2.2.2.2.2.1,w.2.2.2.2.2.2.2.2.1,w.2.2.2.2.2.2.2.2.2.1,w.2.2.2.2.2.2.2.2.2.2.1,())=w from rfl,ID (by omega) (by omega),show(w.2.2.2.2.1,w.2.2.2.2.2.1,())=B7 w from rfl,FF (r:=B7 w) (by show Af CL w.2.2.2.2.1≤_;omega)];have UJ:(Ap w.AY m.2.1).length≤8:=Gl h;rw[show(B7 w).1=w.AY from rfl];simp only[AD];rw[KG (by omega)];simp only[AD];by_cases h3:Al w d.2.1=0
 rotate_left
 ·rw[ALT h3,ALI h3];rfl
 obtain⟨hr,s1,s2,s3⟩:=h.K_ h3;have ZK:w.2.2.1.getD d.2.1.toNat ([],[],0,())=storeAt w d.2.1:=rfl;have hn3: ¬(Al w d.2.1≠0):=fun hh=>hh h3
 rw[ALI h3,ALT hn3];simp only[ALI hr,ZK];rcases AK7 ((Ap w.AY m.2.1).contains d.2.1)with h5|h5
 rotate_left
 ·rw[h5,Ic];rfl
 rw[h5,Fy,AMJ,AL (by omega) (by omega),show((storeAt w d.2.1).1,(storeAt w d.2.1).2.1,(storeAt w d.2.1).2.2.1,())=storeAt w d.2.1 from rfl,iW s1 s2];have hq:=vz (u:=m.1-1) s3;have hqw:=hq.w;simp only[AD,ld];rw[show((Bg (storeAt w d.2.1) (m.1-1)).1.1,(Bg (storeAt w d.2.1) (m.1-1)).1.2.1,(Bg (storeAt w d.2.1) (m.1-1)).1.2.2.1,())=(Bg (storeAt w d.2.1) (m.1-1)).1 from rfl,jz (by omega) hq.sin];simp only[AD];have hes:(GH (Bg (storeAt w d.2.1) (m.1-1)).1 m.2.1).length≤200∧qj (GH (Bg (storeAt w d.2.1) (m.1-1)).1 m.2.1)∧Af Ar (GH (Bg (storeAt w d.2.1) (m.1-1)).1 m.2.1)≤10000:=by
  unfold GH;rw[DC.2 hq,ALI rfl];refine⟨ARE (ARK _ _) hq.nk,fun e he=>hq.sin.1 e (ASp.1 he).1,ARE jZ ?_⟩;have:An (Bg (storeAt w d.2.1) (m.1-1)).1=Af Ar (Bg (storeAt w d.2.1) (m.1-1)).1.1+Af Ar (Bg (storeAt w d.2.1) (m.1-1)).1.2.1:=rfl;omega
 rw[show(m.1,m.2.1,m.2.2.1,m.2.2.2.1,m.2.2.2.2.1,m.2.2.2.2.2.1,())=m from rfl,show(w.1,w.2.1,())=AS w from rfl,kN (c:=AS w) (by show w.1.length≤_;omega) (by omega) Yg.ein (by omega) hes.2.1 (by omega)];simp only[AD,iG];rcases AK7 (Bg (storeAt w d.2.1) (m.1-1)).2 with h6|h6
 rotate_left
 ·rw[h6,ARU,AW4,ALI rfl];rfl
 rw[h6,ALu,ASR];rcases AK7 (K6 (AS w) m d.2.1 (GH (Bg (storeAt w d.2.1) (m.1-1)).1 m.2.1)).2 with h7|h7
 rotate_left
 ·rw[h7,Ic];rfl
 rw[h7,Fy,AMJ,AMJ,px];rfl
theorem l4:Vu w.2.1 w.2.2.2.2.2.1 w.2.2.2.2.2.2.2.2.2.2.1 w.1 w.2.2.1 w.2.2.2.1 w.2.2.2.2.1 w.2.2.2.2.2.2.1 w.2.2.2.2.2.2.2.1 w.2.2.2.2.2.2.2.2.1 w.2.2.2.2.2.2.2.2.2.1=some (pkD (MJ w)):=by
 have k:=h.nums;have k1:=k.c;have k2:=k.wr;have k3:=k.lost;have k4:=k.st;have ZZ:=k.Zp;have gb:=k.Jk;have jM:=k.gg;have k5:=k.era;unfold Vu MJ;rcases hm:w.BW with _|⟨m,ms⟩
 ·rw[DR,ALI (by simp_all)];rfl
 have px:w.2.2.2.2.2.2.2.1=m::ms:=hm;have uk:w.2.2.2.2.2.2.2.1.length=ms.length+1:=by simp_all
 have g0:w.2.2.2.2.2.2.2.1.getD 0 (0,0,[],[],false,[],())=m:=by simp_all
 have yT:(0:Int)≤(0:Int)∧(0:Int)<(w.2.2.2.2.2.2.2.1.length:Int):=by omega
 have Yg:=(h.BW m (by simp_all)).1;have hmw:=Yg.w;have o7:=Yg.ep;have hmb:=Yg.b;simp only[DR,A3,Cw,ALI yT,g0];rw[ALT (by omega)];rw[show(w.2.2.2.2.1,w.2.2.2.2.2.1,())=B7 w from rfl,FF (r:=B7 w) (by show Af CL w.2.2.2.2.1≤_;omega)];have UJ:(Ap w.AY m.2.1).length≤8:=Gl h;rw[show(B7 w).1=w.AY from rfl];simp only[AD];rw[show(m.1,m.2.1,m.2.2.1,m.2.2.2.1,m.2.2.2.2.1,m.2.2.2.2.2.1,())=m from rfl,show(w.1,w.2.1,())=AS w from rfl,jw (c:=AS w) (by show w.1.length≤_;omega) (by omega) Yg.ein (by omega)];simp only[AD,iG];rcases AK7 (IH (AS w) m (Ap w.AY m.2.1)).2 with h7|h7
 rotate_left
 ·rw[h7,Ic];rfl
 rw[h7,Fy,AMJ,px];rfl
theorem oV{d:BO}:YZ w.2.1 w.2.2.2.2.2.1 w.2.2.2.2.2.2.2.2.2.2.1 d w.1 w.2.2.1 w.2.2.2.1 w.2.2.2.2.1 w.2.2.2.2.2.2.1 w.2.2.2.2.2.2.2.1 w.2.2.2.2.2.2.2.2.1 w.2.2.2.2.2.2.2.2.2.1=some (pkD (Rf w d.2.2.1 d.2.2.2.1)):=by
 have k:=h.nums;have k1:=k.c;have k2:=k.wr;have k3:=k.lost;have k4:=k.st;have ZZ:=k.Zp;have gb:=k.Jk;have jM:=k.gg;have k5:=k.era;unfold YZ Rf;rcases hm:w.BW with _|⟨m,ms⟩
 ·rw[DR,ALI (by simp_all)];rfl
 have px:w.2.2.2.2.2.2.2.1=m::ms:=hm;have uk:w.2.2.2.2.2.2.2.1.length=ms.length+1:=by simp_all
 have g0:w.2.2.2.2.2.2.2.1.getD 0 (0,0,[],[],false,[],())=m:=by simp_all
 have yT:(0:Int)≤(0:Int)∧(0:Int)<(w.2.2.2.2.2.2.2.1.length:Int):=by omega
 have Yg:=(h.BW m (by simp_all)).1;have hmw:=Yg.w;have o7:=Yg.ep;have hmb:=Yg.b;simp only[DR,A3,Cw,ALI yT,g0];rw[ALT (by omega)];rw[show(m.1,m.2.1,m.2.2.1,m.2.2.2.1,m.2.2.2.2.1,m.2.2.2.2.2.1,())=m from rfl,Yc (m:=m) (by omega),show(w.1,w.2.1,w.2.2.1,w.2.2.2.1,w.2.2.2.2.1,w.2.2.2.2.2.1,w.2.2.2.2.2.2.1,w.2.2.2.2.2.2.2.1,w.2.2.2.2.2.2.2.2.1,w.2.2.2.2.2.2.2.2.2.1,w.2.2.2.2.2.2.2.2.2.2.1,())=w from rfl,ID (by omega) (by omega),show(w.2.2.2.2.1,w.2.2.2.2.2.1,())=B7 w from rfl,FF (r:=B7 w) (by show Af CL w.2.2.2.2.1≤_;omega)];have UJ:(Ap w.AY m.2.1).length≤8:=Gl h;rw[show(B7 w).1=w.AY from rfl];simp only[AD];rw[KG (by omega)];simp only[AD];have O9:∀e,Dc m d.2.2.1=some e→DJ e.1:=fun e he=>by
  unfold Dc at he;split at he
  ·rename_i hc
   simp only[ALp,Ai]at hc;grind[I4,Jd]
  simp_all
 cases he:Dc m d.2.2.1 with
 |none=>rfl
 |some e=>
 simp only[ASs,AMJ,ASv];by_cases h3:Al w d.2.2.2.1=0
 rotate_left
 ·rw[ALT h3,ALI h3];rfl
 obtain⟨hr,s1,s2,s3⟩:=h.K_ h3;have ZK:w.2.2.1.getD d.2.2.2.1.toNat ([],[],0,())=storeAt w d.2.2.2.1:=rfl;have hn3: ¬(Al w d.2.2.2.1≠0):=fun hh=>hh h3
 rw[ALI h3,ALT hn3];simp only[ALI hr,ZK];rcases AK7 ((Ap w.AY m.2.1).contains d.2.2.2.1)with h5|h5
 rotate_left
 ·rw[h5,Ic];rfl
 rw[h5,Fy,AMJ,show((storeAt w d.2.2.2.1).1,(storeAt w d.2.2.2.1).2.1,(storeAt w d.2.2.2.1).2.2.1,())=storeAt w d.2.2.2.1 from rfl,show(e.1,e.2.1,e.2.2.1,e.2.2.2.1,())=e from rfl,Zx s1 s2 (O9 e he)];simp only[AD,ld,putAt];rcases AK7 (GD (storeAt w d.2.2.2.1) e).2 with h6|h6
 ·rw[h6];rfl
 ·rw[h6];rfl
theorem kV:Tq w.2.1 w.2.2.2.2.2.1 w.2.2.2.2.2.2.2.2.2.2.1 w.1 w.2.2.1 w.2.2.2.1 w.2.2.2.2.1 w.2.2.2.2.2.2.1 w.2.2.2.2.2.2.2.1 w.2.2.2.2.2.2.2.2.1 w.2.2.2.2.2.2.2.2.2.1=some (AKP (Ie w)):=by
 have k:=h.nums;have k1:=k.c;have k2:=k.wr;have k3:=k.lost;have k4:=k.st;have ZZ:=k.Zp;have gb:=k.Jk;have jM:=k.gg;have k5:=k.era;unfold Tq Ie;rcases hm:w.BW with _|⟨m,ms⟩
 ·rw[DR,ALI (by simp_all)];rfl
 have px:w.2.2.2.2.2.2.2.1=m::ms:=hm;have uk:w.2.2.2.2.2.2.2.1.length=ms.length+1:=by simp_all
 have g0:w.2.2.2.2.2.2.2.1.getD 0 (0,0,[],[],false,[],())=m:=by simp_all
 have yT:(0:Int)≤(0:Int)∧(0:Int)<(w.2.2.2.2.2.2.2.1.length:Int):=by omega
 have Yg:=(h.BW m (by simp_all)).1;have hmw:=Yg.w;have o7:=Yg.ep;have hmb:=Yg.b;simp only[DR,A3,Cw,ALI yT,g0];rw[ALT (by omega)];rw[show(m.1,m.2.1,m.2.2.1,m.2.2.2.1,m.2.2.2.2.1,m.2.2.2.2.2.1,())=m from rfl,show(w.1,w.2.1,())=AS w from rfl,il (c:=AS w) (by show w.1.length≤_;omega) (by omega) Yg.ein];simp only[AD];rcases AK7 (Oy (AS w) m)with h5|h5
 rotate_left
 ·rw[h5,Ic];rfl
 rw[h5,Fy,AMJ,show(w.2.2.2.2.1,w.2.2.2.2.2.1,())=B7 w from rfl,j4 (c:=AS w) (r:=B7 w) (by show w.1.length≤_;omega) (by show Af CL w.2.2.2.2.1≤_;omega) k.trim];simp only[AD,pkR];rcases AK7 (Mc (AS w) (B7 w) m.1 m.2.2.2.2.2.1.length).2 with h6|h6
 ·rw[h6];rfl
 ·rw[h6];rfl
theorem mD{d:BO}:Vj w.2.1 w.2.2.2.2.2.1 w.2.2.2.2.2.2.2.2.2.2.1 d w.1 w.2.2.1 w.2.2.2.1 w.2.2.2.2.1 w.2.2.2.2.2.2.1 w.2.2.2.2.2.2.2.1 w.2.2.2.2.2.2.2.2.1 w.2.2.2.2.2.2.2.2.2.1=some (pkD (IY w d.2.1 d.2.2.1)):=by
 have k:=h.nums;have k1:=k.c;have k2:=k.wr;have k3:=k.lost;have k4:=k.st;have ZZ:=k.Zp;have gb:=k.Jk;have jM:=k.gg;have k5:=k.era;have k6:=k.ws;have k6':Af An w.Aj≤80008:=k.ws;have k7:=k.ww;have k8:=k.rd;unfold Vj IY;rw[Bd];simp only[AD,A3,Cw];rcases AK7 (BK d.2.1 0 1)with h1|h1
 rotate_left
 ·rw[h1];rfl
 have h1':=Ai.1 h1;have hr:0≤d.2.1∧d.2.1<(w.2.2.2.2.2.2.2.2.1.length:Int):=by omega
 have Jq:d.2.1.toNat<w.Aa.length:=by
  simp_all
 have Yv:=h.Aa _ (BV (d:=Dj) Jq);simp only[ALI hr];rw[h1,Fy,AMJ,show(w.1,w.2.1,w.2.2.1,w.2.2.2.1,w.2.2.2.2.1,w.2.2.2.2.2.1,w.2.2.2.2.2.2.1,w.2.2.2.2.2.2.2.1,w.2.2.2.2.2.2.2.2.1,w.2.2.2.2.2.2.2.2.2.1,w.2.2.2.2.2.2.2.2.2.2.1,())=w from rfl]
 generalize hx:w.Aa.getD d.2.1.toNat Dj=r at*
 have hre:=Yv.ep;have hro:=Yv.off;rw[o_ (by grind),show(r.1,r.2.1,r.2.2.1,())=r from rfl,gB (by omega) (by omega) (by omega) (by omega)];simp only[AD];have ha:∀a∈answers w (D9 r.1 r.2.1) (Ao d.2.2.1),DJ a.2.2.1:=fun a ha=>by
  unfold answers at ha;obtain⟨n,hn,rfl⟩:=ASt.1 ha;have hn':Al w n=0:=by simp_all
  unfold answer;split
  ·rename_i e he
   have:=(h.store hn').kept e (ATE he);exact Jd (FR.1 this).pl
  ·exact⟨by simp_all,by simp_all⟩
 have hal:(answers w (D9 r.1 r.2.1) (Ao d.2.2.1)).length≤8:=by
  unfold answers;rw[AWu];refine ARE (ARK _ _) ?_
  unfold Ao;split
  ·exact ARE (ARK _ _) (by simp)
  ·simp
 rw[show(w.1,w.2.1,())=AS w from rfl,show(w.2.2.2.2.1,w.2.2.2.2.2.1,())=B7 w from rfl,gU (c:=AS w) (g:=B7 w) (by show w.1.length≤_;omega) (by show Af CL w.2.2.2.2.1≤_;omega) k.trim (by omega) ha];simp only[AD,xo];by_cases h2:(B4 (AS w) (B7 w) (Uy w r.1) r (answers w (D9 r.1 r.2.1) (Ao d.2.2.1))).2=0
 ·rw[ALI h2,ALT (fun hh=>hh h2)];rfl
 ·rw[ALT h2,ALI h2];rfl
end
end Go.M
end
section
set_option maxRecDepth 8000
namespace Go.M
open Go.M.H (AJ AN Au Ac AA CX AQ A9 AM Ab BG As BO An Ca Af AW AZ Ar CL BU Ax BD Es Ch DF DN)
section
variable{w:AA} (h:Ml w)
include h
theorem AP4{ws:List AM}{s:Ac}:∀(n i:Nat) (t:Bool) (b:List Ac),i≤w.2.2.2.2.2.2.2.2.2.1.length→w.2.2.2.2.2.2.2.2.2.1.length-i<n→b.length≤2*i+2→
  J9 n t i w.1 w.2.2.1 w.2.2.2.1 w.2.2.2.2.1 ws w.2.2.2.2.2.2.2.1 w.2.2.2.2.2.2.2.2.1 w.2.2.2.2.2.2.2.2.2.1 w.2.1 w.2.2.2.2.2.1 w.2.2.2.2.2.2.2.2.2.2.1 0 0 false [] [] [] [] [] [] [] [] s.1 s.2.1 s.2.2.1 b=some (AD3 (((w.A6 ws).C2 (b++(if t then w.2.2.2.2.2.2.2.2.2.1.drop i else Xa s (w.2.2.2.2.2.2.2.2.2.1.drop i)))),0)):=by
 have k6:=h.nums.se;intro n
 induction n with
 |zero=>omega
 |succ n ih=>
  intro i t b hi hn hb;simp only[J9,WY,AB,A3];have c2:b.length+1≤Ds:=by rw[BT];omega
  by_cases De:i<w.2.2.2.2.2.2.2.2.2.1.length
  ·have c1:(0:Int)≤(i:Int)∧(i:Int)<(w.2.2.2.2.2.2.2.2.2.1.length:Int):=by omega
   have c3:(b++[(s.1,s.2.1,s.2.2.1,())]).length+1≤Ds:=by grind[BT]
   rw[ALI c1.2];simp only[ALI c1,ALI c2,ALI c3];rw[Ak De,AL (by omega) (by omega),show((i:Int)+1)=((i+1:Nat):Int)by omega,drop_cons De,show(w.2.2.2.2.2.2.2.2.2.1[i].1,w.2.2.2.2.2.2.2.2.2.1[i].2.1,w.2.2.2.2.2.2.2.2.2.1[i].2.2.1,())=w.2.2.2.2.2.2.2.2.2.1[i]from rfl];cases t with
   |true=>
    rw[AMJ,ih (i+1) true _ (by omega) (by omega) (by grind),ALI rfl,ALI rfl,AM4];rfl
   |false=>
    rw[ALz,ALT (show¬(false=true)by simp)];simp only[Xa];by_cases hg:w.2.2.2.2.2.2.2.2.2.1[i].1>s.1
    ·rw[ALI hg,ALI hg,ih (i+1) true _ (by omega) (by omega) (by grind),ALI rfl,AM4,AM4]
     rfl
    ·rw[ALT hg,ALT hg,ih (i+1) false _ (by omega) (by omega) (by grind),ALT (show¬(false=true)by simp),AM4]
     rfl
  ·rw[ALT (by omega),AMI (by omega)]
   cases t with
   |true=>rw[AMJ,ALI rfl,AMa];rfl
   |false=>rw[ALz,ALI c2];rfl
theorem AV2{ws:List AM}{s:Ac}:∀(n i:Nat),i≤w.2.2.2.2.2.2.2.2.2.1.length→(w.2.2.2.2.2.2.2.2.2.1.length-i)+w.2.2.2.2.2.2.2.2.2.1.length+2≤n→
  LL n i w.1 w.2.2.1 w.2.2.2.1 w.2.2.2.2.1 ws w.2.2.2.2.2.2.2.1 w.2.2.2.2.2.2.2.2.1 w.2.2.2.2.2.2.2.2.2.1 w.2.1 w.2.2.2.2.2.1 w.2.2.2.2.2.2.2.2.2.2.1 0 0 false [] [] [] [] [] [] [] [] s.1 s.2.1 s.2.2.1=some (AD3 (if(w.2.2.2.2.2.2.2.2.2.1.drop i).any (fun x=>x.1==s.1)then(w.A6 ws,4)else(((w.A6 ws).C2 (Xa s w.2.2.2.2.2.2.2.2.2.1)),0))):=by
 have k6:=h.nums.se;intro n
 induction n with
 |zero=>omega
 |succ n ih=>
  intro i hi hn;simp only[LL,YJ,AB,DR];by_cases De:i<w.2.2.2.2.2.2.2.2.2.1.length
  ·have c1:(0:Int)≤(i:Int)∧(i:Int)<(w.2.2.2.2.2.2.2.2.2.1.length:Int):=by omega
   rw[ALI c1.2,ALI c1,Ak De,AL (by omega) (by omega),show((i:Int)+1)=((i+1:Nat):Int)by omega,drop_cons De,ih (i+1) (by omega) (by omega),List.any_cons];by_cases he:w.2.2.2.2.2.2.2.2.2.1[i].1=s.1
   ·rw[ALI he,show(w.2.2.2.2.2.2.2.2.2.1[i].1==s.1)=true by simp_all,AW4,ALI rfl]
    rfl
   ·rw[ALT he,show(w.2.2.2.2.2.2.2.2.2.1[i].1==s.1)=false by simp_all,ASR]
  ·have:=AP4 h (ws:=ws) (s:=s) n 0 false [] (by omega) (by omega) (by simp)
   grind
theorem ot{d:BO}(hd:d.2.2.2.2.1.length≤40):∃w',Xo w.2.1 w.2.2.2.2.2.1 w.2.2.2.2.2.2.2.2.2.2.1 d w.1 w.2.2.1 w.2.2.2.1 w.2.2.2.2.1 w.2.2.2.2.2.2.1 w.2.2.2.2.2.2.2.1 w.2.2.2.2.2.2.2.2.1 w.2.2.2.2.2.2.2.2.2.1=some (AD3 (w',(doAdd w d.2.1 d.2.2.2.2.1).2))∧((doAdd w d.2.1 d.2.2.2.2.1).2=0→w' =(doAdd w d.2.1 d.2.2.2.2.1).1):=by
 have k:=h.nums;have k1:=k.c;have k2:=k.wr;have k3:=k.lost;have k4:=k.st;have ZZ:=k.Zp;have gb:=k.Jk;have jM:=k.gg;have k5:=k.era;unfold Xo YM doAdd;rw[show(w.1,w.2.1,w.2.2.1,w.2.2.2.1,w.2.2.2.2.1,w.2.2.2.2.2.1,w.2.2.2.2.2.2.1,w.2.2.2.2.2.2.2.1,w.2.2.2.2.2.2.2.2.1,w.2.2.2.2.2.2.2.2.2.1,w.2.2.2.2.2.2.2.2.2.2.1,())=w from rfl,Ri (by omega)];simp only[AD,A3,DR];rcases AK7 (BK d.2.1 0 ((w.AH.length:Int)-1))with h1|h1
 rotate_left
 ·rw[h1];exact⟨w,rfl,fun _=>rfl⟩
 obtain⟨x1,x2,x3⟩:=h.cD h1;simp only[h1,AMJ,Fy,ALI x1]
 generalize hx:w.AH.getD d.2.1.toNat Bo=x at*
 rw[show(x.1,x.2.1,())=x from rfl,show(w.1,w.2.1,())=AS w from rfl,jG (c:=AS w) (w:=x) (by show w.1.length≤_;omega) (by omega) (by omega)];simp only[AD];rcases AK7 (CI (AS w) x d.2.2.2.2.1).2.2 with h2|h2
 rotate_left
 ·rw[h2];exact⟨w,rfl,fun _=>rfl⟩
 obtain⟨_,r1,r2,r3⟩:=Vr h2;rw[r2]at r1;have ya:=r1.n;simp only[APV,ANW,AQF]at ya;have hxe:=x2.ep;rw[h2,AMJ,r3,r2];rw[Mg (by omega) (by omega)];simp only[AD,ALu,ASR];by_cases h3:w.2.2.2.2.2.2.2.2.2.1.length=120
 ·rw[ALI (by omega),show decide (w.Aq.length=120)=true from ARd h3,AW4,ALI rfl];exact⟨w,rfl,fun hh=>by rfl⟩
 have:=AV2 h (ws:=w.AH.set d.2.1.toNat (x.1,x.2.1++[(d.2.2.2.2.1,[],false,())],())) (s:=(D9 x.1 ((x.2.1.length:Int)+1),d.2.2.2.2.1,false,())) Ae 0 (by omega) (ATs (Ag (by have:=h.nums.se;omega)));grind
end
end Go.M
end
section
set_option maxRecDepth 8000
namespace Go.M
open Go.M.H (AJ AN Au Ac AA CX AQ A9 AM Ab BG As BO An Ca Af AW AZ Ar CL BU Ax BD Es Ch DF DN)
section
variable{w:AA} (h:Ml w)
include h
theorem AMr{d:BO}{a:Nat}(ha:d.2.1=(a:Int)):∀(n i:Nat) (b:List AM),i≤w.2.2.2.2.2.2.1.length→w.2.2.2.2.2.2.1.length-i<n→b.length≤i→
  MZ n i w.1 w.2.2.1 w.2.2.2.1 w.2.2.2.2.1 w.2.2.2.2.2.2.1 w.2.2.2.2.2.2.2.1 w.2.2.2.2.2.2.2.2.1 w.2.2.2.2.2.2.2.2.2.1 w.2.1 w.2.2.2.2.2.1 w.2.2.2.2.2.2.2.2.2.2.1 d.1 d.2.1 d.2.2.1 d.2.2.2.1 d.2.2.2.2.1 0 0 false [] [] [] [] [] [] [] [] b=some (ADI (w.A6 (b++(if i≤a then(w.2.2.2.2.2.2.1.drop i).eraseIdx (a-i)else w.2.2.2.2.2.2.1.drop i)),0)):=by
 have k6:=h.nums.wr;intro n
 induction n with
 |zero=>omega
 |succ n ih=>
  intro i b hi hn hb;simp only[MZ,XN,AB,Cw];by_cases De:i<w.2.2.2.2.2.2.1.length
  ·have c1:(0:Int)≤(i:Int)∧(i:Int)<(w.2.2.2.2.2.2.1.length:Int):=by omega
   have c2:b.length+1≤Ds:=by rw[BT];omega
   rw[ALI c1.2];simp only[ALI c1,ALI c2];rw[Ak De,AL (by omega) (by omega),show((i:Int)+1)=((i+1:Nat):Int)by omega,drop_cons De,show(w.2.2.2.2.2.2.1[i].1,w.2.2.2.2.2.2.1[i].2.1,())=w.2.2.2.2.2.2.1[i]from rfl];by_cases he:(i:Int)=d.2.1
   ·rw[ALI he,ih (i+1) b (by omega) (by omega) (by omega),ALT (by omega),ALI (by omega),show a-i=0 by omega]
    rfl
   ·rw[ALT he,ih (i+1) _ (by omega) (by omega) (by simp_all),AM4]
    by_cases hl:i+1≤a
    ·rw[ALI hl,ALI (by omega),show a-i=(a-(i+1))+1 by omega,List.eraseIdx_cons_succ]
     rfl
    ·rw[ALT hl,ALT (by omega)]
     rfl
  ·rw[ALT (by omega),AMI (by omega)]
   have:(if i≤a then([]:List AM).eraseIdx (a-i)else[])=[]:=by simp_all
   rw[this,AMa];rfl
theorem mo{d:BO}:V4 w.2.1 w.2.2.2.2.2.1 w.2.2.2.2.2.2.2.2.2.2.1 d w.1 w.2.2.1 w.2.2.2.1 w.2.2.2.2.1 w.2.2.2.2.2.2.1 w.2.2.2.2.2.2.2.1 w.2.2.2.2.2.2.2.2.1 w.2.2.2.2.2.2.2.2.2.1=some (ADI (NF w d.2.1)):=by
 have k:=h.nums;have k1:=k.c;have k2:=k.wr;have k3:=k.lost;have k4:=k.st;have ZZ:=k.Zp;have gb:=k.Jk;have jM:=k.gg;have k5:=k.era;unfold V4 Wj NF;rw[show(w.1,w.2.1,w.2.2.1,w.2.2.2.1,w.2.2.2.2.1,w.2.2.2.2.2.1,w.2.2.2.2.2.2.1,w.2.2.2.2.2.2.2.1,w.2.2.2.2.2.2.2.2.1,w.2.2.2.2.2.2.2.2.2.1,w.2.2.2.2.2.2.2.2.2.2.1,())=w from rfl,Ri (by omega)];simp only[AD,A3];rcases AK7 (BK d.2.1 0 ((w.AH.length:Int)-1))with h1|h1
 rotate_left
 ·rw[h1];rfl
 have h1':=Ai.1 h1;have:=AMr h (d:=d) (a:=d.2.1.toNat) (by omega) Ae 0 [] (by omega) (Ag (by omega)) (by simp);simp_all
theorem AKt{d:BO}{ss:List AN}{ls:AAH}{ws:List AM}(hls:ls.length≤2^20):∀(n i:Nat),i≤w.2.2.2.2.2.2.2.1.length→w.2.2.2.2.2.2.2.1.length-i<n→
  I9 n i w.1 ss w.2.2.2.1 w.2.2.2.2.1 ws ((w.2.2.2.2.2.2.2.1.map fun m=>(CB (AS w) m d.2.1).1).take i++w.2.2.2.2.2.2.2.1.drop i) w.2.2.2.2.2.2.2.2.1 w.2.2.2.2.2.2.2.2.2.1 w.2.1 w.2.2.2.2.2.1 w.2.2.2.2.2.2.2.2.2.2.1 ls d.1 d.2.1 d.2.2.1 d.2.2.2.1 d.2.2.2.2.1 0 0 false [] [] [] [] [] [] [] []=some (tY (((((w.A8 ss).EV ls).A6 ws).Bi (w.2.2.2.2.2.2.2.1.map fun m=>(CB (AS w) m d.2.1).1)).FA (w.EC||holds (AS w) ls),0)):=by
 have k:=h.nums;have k1:=k.c;have k6:=k.md;intro n
 induction n with
 |zero=>omega
 |succ n ih=>
  intro i hi hn;simp only[I9,U9,AB,A3];rw[OZ hi];by_cases De:i<w.2.2.2.2.2.2.2.1.length
  ·have c1:(0:Int)≤(i:Int)∧(i:Int)<(w.2.2.2.2.2.2.2.1.length:Int):=by omega
   have hm:=(h.BW _ (AL5 De)).1;have hmw:=hm.w;rw[ALI c1.2];simp only[ALI c1];rw[AL2,Mb De,AL (by omega) (by omega),show((i:Int)+1)=((i+1:Nat):Int)by omega,show(w.2.2.2.2.2.2.2.1[i].1,w.2.2.2.2.2.2.2.1[i].2.1,w.2.2.2.2.2.2.2.1[i].2.2.1,w.2.2.2.2.2.2.2.1[i].2.2.2.1,w.2.2.2.2.2.2.2.1[i].2.2.2.2.1,w.2.2.2.2.2.2.2.1[i].2.2.2.2.2.1,())=w.2.2.2.2.2.2.2.1[i]from rfl,show(w.1,w.2.1,())=AS w from rfl,fJ (c:=AS w) (by show w.1.length≤_;omega) (by omega) hm.ein];simp only[AD,iG];rw[show((CB (AS w) w.2.2.2.2.2.2.2.1[i] d.2.1).1.1,(CB (AS w) w.2.2.2.2.2.2.2.1[i] d.2.1).1.2.1,(CB (AS w) w.2.2.2.2.2.2.2.1[i] d.2.1).1.2.2.1,(CB (AS w) w.2.2.2.2.2.2.2.1[i] d.2.1).1.2.2.2.1,(CB (AS w) w.2.2.2.2.2.2.2.1[i] d.2.1).1.2.2.2.2.1,(CB (AS w) w.2.2.2.2.2.2.2.1[i] d.2.1).1.2.2.2.2.2.1,())=(CB (AS w) w.2.2.2.2.2.2.2.1[i] d.2.1).1 from rfl,Pk De rfl];grind
  ·have:i=w.2.2.2.2.2.2.2.1.length:=by omega
   rw[ALT (by omega),this,ATA,AMa,ASm (by simp),show(w.1,w.2.1,())=AS w from rfl,Ew (by show w.1.length≤_;omega) (by omega)];simp only[AD];cases ht:w.2.2.2.2.2.2.2.2.2.2.1 with
   |true=>
    have ht':w.EC=true:=ht;rw[ht'];rfl
   |false=>
    have ht':w.EC=false:=ht;rw[ht'];rfl
theorem AOY{d:BO}{ss:List AN}{ls:AAH}(hls:ls.length≤2^20):∀(n i:Nat),i≤w.2.2.2.2.2.2.1.length→(w.2.2.2.2.2.2.1.length-i)+w.2.2.2.2.2.2.2.1.length+2≤n→
  J6 n i w.1 ss w.2.2.2.1 w.2.2.2.2.1 ((w.2.2.2.2.2.2.1.map fun x=>(CD (AS w) x d.2.1).1).take i++w.2.2.2.2.2.2.1.drop i) w.2.2.2.2.2.2.2.1 w.2.2.2.2.2.2.2.2.1 w.2.2.2.2.2.2.2.2.2.1 w.2.1 w.2.2.2.2.2.1 w.2.2.2.2.2.2.2.2.2.2.1 ls d.1 d.2.1 d.2.2.1 d.2.2.2.1 d.2.2.2.2.1 0 0 false [] [] [] [] [] [] [] []=some (tY (((((w.A8 ss).EV ls).A6 (w.2.2.2.2.2.2.1.map fun x=>(CD (AS w) x d.2.1).1)).Bi (w.2.2.2.2.2.2.2.1.map fun m=>(CB (AS w) m d.2.1).1)).FA (w.EC||holds (AS w) ls),0)):=by
 have k:=h.nums;have k1:=k.c;have k6:=k.wr;intro n
 induction n with
 |zero=>omega
 |succ n ih=>
  intro i hi hn;simp only[J6,Wq,AB,A3];rw[OZ hi];by_cases De:i<w.2.2.2.2.2.2.1.length
  ·have c1:(0:Int)≤(i:Int)∧(i:Int)<(w.2.2.2.2.2.2.1.length:Int):=by omega
   have hm:=(h.AH _ (AL5 De)).1;have hmw:=hm.w;rw[ALI c1.2];simp only[ALI c1];rw[AL2,Mb De,AL (by omega) (by omega),show((i:Int)+1)=((i+1:Nat):Int)by omega,show(w.2.2.2.2.2.2.1[i].1,w.2.2.2.2.2.2.1[i].2.1,())=w.2.2.2.2.2.2.1[i]from rfl,show(w.1,w.2.1,())=AS w from rfl,cJ (c:=AS w) (by show w.1.length≤_;omega) (by have:Ax w.2.2.2.2.2.2.1[i]=Af BU w.2.2.2.2.2.2.1[i].2.1:=rfl;omega)];simp only[AD,pkW];rw[show((CD (AS w) w.2.2.2.2.2.2.1[i] d.2.1).1.1,(CD (AS w) w.2.2.2.2.2.2.1[i] d.2.1).1.2.1,())=(CD (AS w) w.2.2.2.2.2.2.1[i] d.2.1).1 from rfl,Pk De rfl];grind
  ·have:i=w.2.2.2.2.2.2.1.length:=by omega
   have k11:=AKt h (d:=d) (ss:=ss) (ws:=w.2.2.2.2.2.2.1.map fun x=>(CD (AS w) x d.2.1).1) hls n 0 (by omega) (by omega);rw[show((0:Nat):Int)=0 from rfl,ASi,AXF,ASg]at k11;rw[ALT (by omega),this,ATA,AMa,ASm (by simp),k11]
theorem mq{d:BO}:Vg w.2.1 w.2.2.2.2.2.1 w.2.2.2.2.2.2.2.2.2.2.1 d w.1 w.2.2.1 w.2.2.2.1 w.2.2.2.2.1 w.2.2.2.2.2.2.1 w.2.2.2.2.2.2.2.1 w.2.2.2.2.2.2.2.2.1 w.2.2.2.2.2.2.2.2.2.1=some (tY (MC w d.2.1)):=by
 have k:=h.nums;have k1:=k.c;have k2:=k.wr;have k3:=k.lost;have k4:=k.st;have ZZ:=k.Zp;have gb:=k.Jk;have jM:=k.gg;have k5:=k.era;have k6:=k.md;unfold Vg W4 MC;rw[show(w.1,w.2.1,w.2.2.1,w.2.2.2.1,w.2.2.2.2.1,w.2.2.2.2.2.1,w.2.2.2.2.2.2.1,w.2.2.2.2.2.2.2.1,w.2.2.2.2.2.2.2.2.1,w.2.2.2.2.2.2.2.2.2.1,w.2.2.2.2.2.2.2.2.2.2.1,())=w from rfl,ID (by omega) (by omega)];simp only[AD,Cw];by_cases h3:Al w d.2.1=0
 rotate_left
 ·rw[ALT h3,ALI h3];rfl
 obtain⟨hr,s1,s2,s3⟩:=h.K_ h3;rw[ALI h3,ALT (show¬(Al w d.2.1≠0)from fun hh=>hh h3),ALI hr,My (by omega)];simp only[AD];have hp:=T5 (n:=d.2.1) (l:=w.2.2.2.1);have:=AOY h (d:=d) (ss:=w.2.2.1.set d.2.1.toNat ([],[],0,())) (ls:=JO d.2.1 w.2.2.2.1) (by omega) Ae 0 (by omega) (ATs (Ag (by omega)));simp_all
end
end Go.M
end
section
set_option maxRecDepth 8000
namespace Go.M
open Go.M.H (AJ AN Au Ac AA CX AQ A9 AM Ab BG As BO An Ca Af AW AZ Ar CL BU Ax BD Es Ch DF DN)
theorem eqE{x e:AJ}:(x.1==e.1&&(x.2.1==e.2.1&&(x.2.2.1==e.2.2.1&&(x.2.2.2.1==e.2.2.2.1&&true))))=decide (x=e):=by
 grind
theorem bT{m:Au}{o:Int}{l:List AAH}(hl:l.length=m.2.2.2.2.2.1.length):Dc (m.1,m.2.1,m.2.2.1,m.2.2.2.1,m.2.2.2.2.1,l,()) o=Dc m o:=by
 grind[Dc]
section
variable{w:AA} (h:Ml w) {st:AN} (hs:eR st) {n:Int} (hn:0≤n∧n<(AS w).1.length) {SS:List AN}
include h hs hn
theorem ALA{ws:List AM}{se:List Ac}{ms:List Au}{j B:Nat}{m:Au}{R:Option B5}(hj:j<ms.length)(qN:ms.length≤2^20)(hlen:(ms.getD j Ql).2.2.2.2.2.1.length=m.2.2.2.2.2.1.length)(hm:pV (AS w) m)
  (hc:(Ap w.AY m.2.1).contains n=true)
  (cont:∀f,B≤f→Bh f n ((j+1:Nat):Int) w.1 SS w.2.2.2.1 w.2.2.2.2.1 ws (ms.set j (m.1,m.2.1,m.2.2.1,m.2.2.2.1,m.2.2.2.2.1,D1 m st n 1 m.2.2.2.2.2.1,())) w.2.2.2.2.2.2.2.2.1 se w.2.1 w.2.2.2.2.2.1 w.2.2.2.2.2.2.2.2.2.2.1 0 0 false [] [] [] [] [] [] [] [] st.1 st.2.1 st.2.2.1=R):
  ∀(rest dn:List AAH) (f:Nat),dn.length+rest.length=m.2.2.2.2.2.1.length→(∀l∈dn++rest,Aw (AS w) l=true)→rest.length+B+1≤f→
   dn++D1 m st n ((dn.length:Int)+1) rest=D1 m st n 1 m.2.2.2.2.2.1→
   Ba f n (j:Int) ((dn.length:Int)+1) w.1 SS w.2.2.2.1 w.2.2.2.2.1 ws ms w.2.2.2.2.2.2.2.2.1 se w.2.1 w.2.2.2.2.2.1 w.2.2.2.2.2.2.2.2.2.2.1 0 0 false [] [] [] [] [] [] [] [] st.1 st.2.1 st.2.2.1 m.1 m.2.1 m.2.2.1 m.2.2.2.1 m.2.2.2.2.1 (dn++rest)=R:=by
 have k:=h.nums;have k1:=k.c;have k5:=k.era;have c1:(0:Int)≤(j:Int)∧(j:Int)<(ms.length:Int):=by omega
 have UJ:(Ap w.AY m.2.1).length≤8:=Gl h;have uk:m.2.2.2.2.2.1.length≤60:=by
  have:=hm.n;have hb:=Gm (l:=m.2.2.2.1);omega
 intro rest
 induction rest with
 |nil=>
  intro dn f hl ho hf he;obtain⟨f,rfl⟩:∃f',f=f'+1:=⟨f-1,by omega⟩;simp only[AQF,ATU,ASz,D1,AMa]at hl hf he;simp only[Ba,IF,AB,AMa];simp only[ALI c1];rw[show ms.getD ((j:Int)).toNat (0,0,[],[],false,[],())=ms.getD j Ql from rfl,hlen,ALT (by omega),AL (by omega) (by omega),show((j:Int)+1)=((j+1:Nat):Int)by omega,he,AL2];simp_all
 |cons x rest ih=>
  intro dn f hl ho hf he;obtain⟨f,rfl⟩:∃f',f=f'+1:=⟨f-1,by omega⟩;simp only[ANW]at hl hf;simp only[Ba,IF,AB];simp only[ALI c1];have Yg:pV (AS w) (m.1,m.2.1,m.2.2.1,m.2.2.2.1,m.2.2.2.2.1,dn++x::rest,()):=⟨hm.cfg,hm.ep,hm.b,hm.fD,hm.gf,hm.seen,ho,by
   have:=hm.n;simp_all⟩
  have hmw:=Yg.w;rw[show ms.getD ((j:Int)).toNat (0,0,[],[],false,[],())=ms.getD j Ql from rfl,hlen,ALI (by omega),show(w.2.2.2.2.1,w.2.2.2.2.2.1,())=B7 w from rfl,FF (r:=B7 w) (by show Af CL w.2.2.2.2.1≤_;omega)];rw[show(B7 w).1=w.AY from rfl];simp only[AD];rw[KG (by omega),hc];simp only[AD,AMJ];have hdl:(dn++x::rest).length=m.2.2.2.2.2.1.length:=by simp_all
  rw[Yc (m:=(m.1,m.2.1,m.2.2.1,m.2.2.2.1,m.2.2.2.2.1,dn++x::rest,())) (by omega),bT hdl];simp only[AD];have AY9:m.2.2.2.2.1=true:=by
   have:=hm.n;grind
  have ATq:∃e,Dc m ((dn.length:Int)+1)=some e:=by
   unfold Dc;rw[AY9,ALI (by
    simp only[AMD,ALp,Ai,AMC];have:=hm.ep;omega)]
   split<;>exact⟨_,rfl⟩
  obtain⟨e,hee⟩:=ATq;have cz:=hs.w;rw[hee];simp only[ASv];rw[Tg (Fu (by omega)).1];simp only[AD,eqE,AB];rw[AL (by omega) (by omega)];simp only[D1]at he;have SU:NT m st ((dn.length:Int)+1)=(EA e.1 st.1==some e):=by
   unfold NT;rw[hee]
  cases hg:EA e.1 st.1 with
  |none=>
   simp only[ASr,ALz];rw[SU,hg]at he;have:=ih (dn++[x]) f (by grind) (by simp_all) (by omega) (by
    simp_all)
   simp_all
  |some y=>
   simp only[ASs,AMJ,ASv];by_cases hye:y=e
   ·rw[ALI hye]
    rw[SU,hg,hye]at he;rw[show(w.1,w.2.1,())=AS w from rfl,mv (c:=AS w) (m:=(m.1,m.2.1,m.2.2.1,m.2.2.2.1,m.2.2.2.2.1,dn++x::rest,())) (by show w.1.length≤_;omega) (by omega) Yg.ein];have ADE:Ya (AS w) (m.1,m.2.1,m.2.2.1,m.2.2.2.1,m.2.2.2.2.1,dn++x::rest,()) ((dn.length:Int)+1) n=((m.1,m.2.1,m.2.2.1,m.2.2.2.1,m.2.2.2.2.1,dn++JO n x::rest,()),true):=by
     unfold Ya;rw[HJ.2 Yg];have hq:(BK ((dn.length:Int)+1) 1 ((dn++x::rest).length:Int)&&BK n 0 (((AS w).1.length:Int)-1))=true:=by
      rw[ALp,Ai,Ai];omega
     grind
    rw[ADE];simp only[AD,iG];have hx:=ho x (by simp);have:=ih (dn++[JO n x]) f (by grind) (by
     intro l gl;simp only[AM4,AS8,AOs,AO3]at gl;rcases gl with gl|rfl|gl
     all_goals grind[Ig]) (by omega) (by
     simp_all)
    simp_all
   ·rw[ALT hye]
    have hf2:(some y==some e)=false:=by
     simp_all
    rw[SU,hg,hf2]at he;have:=ih (dn++[x]) f (by grind) (by simp_all) (by omega) (by
     simp_all)
    simp_all
theorem AJo{ws:List AM}{se:List Ac}:∀(k i:Nat),w.2.2.2.2.2.2.2.1.length-i=k→i≤w.2.2.2.2.2.2.2.1.length→ ∀f,k*100+1≤f→
  Bh f n (i:Int) w.1 SS w.2.2.2.1 w.2.2.2.2.1 ws ((w.2.2.2.2.2.2.2.1.map (G8 st w.AY n)).take i++w.2.2.2.2.2.2.2.1.drop i) w.2.2.2.2.2.2.2.2.1 se w.2.1 w.2.2.2.2.2.1 w.2.2.2.2.2.2.2.2.2.2.1 0 0 false [] [] [] [] [] [] [] [] st.1 st.2.1 st.2.2.1=(some ((((),w.2.1,(),(),(),w.2.2.2.2.2.1,(),(),(),(),w.2.2.2.2.2.2.2.2.2.2.1,()),()),(w.1,SS,w.2.2.2.1,w.2.2.2.2.1,ws,(w.2.2.2.2.2.2.2.1.map (G8 st w.AY n)),w.2.2.2.2.2.2.2.2.1,se,())):Option B5):=by
 have k:=h.nums;have k5:=k.era;have k6:=k.md;intro k
 induction k with
 |zero=>
  intro i hk hi f hf;obtain⟨f,rfl⟩:∃f',f=f'+1:=⟨f-1,by omega⟩;have:i=w.2.2.2.2.2.2.2.1.length:=by omega
  simp only[Bh,Kp,AB];grind
 |succ k ih=>
  intro i hk hi f hf;obtain⟨f,rfl⟩:∃f',f=f'+1:=⟨f-1,by omega⟩;have De:i<w.2.2.2.2.2.2.2.1.length:=by omega
  have c1:(0:Int)≤(i:Int)∧(i:Int)<(w.2.2.2.2.2.2.2.1.length:Int):=by omega
  simp only[Bh,Kp,AB];rw[OZ hi,ALI c1.2,ALI c1,AL2,Mb De];have hm:=(h.BW _ (AL5 De)).1;have uk:w.2.2.2.2.2.2.2.1[i].2.2.2.2.2.1.length≤60:=by
   have:=hm.n;have hb:=Gm (l:=w.2.2.2.2.2.2.2.1[i].2.2.2.1);omega
  rcases AK7 ((Ap w.AY w.2.2.2.2.2.2.2.1[i].2.1).contains n)with hc|hc
  ·have hT:G8 st w.AY n w.2.2.2.2.2.2.2.1[i]=(w.2.2.2.2.2.2.2.1[i].1,w.2.2.2.2.2.2.2.1[i].2.1,w.2.2.2.2.2.2.2.1[i].2.2.1,w.2.2.2.2.2.2.2.1[i].2.2.2.1,w.2.2.2.2.2.2.2.1[i].2.2.2.2.1,D1 w.2.2.2.2.2.2.2.1[i] st n 1 w.2.2.2.2.2.2.2.1[i].2.2.2.2.2.1,()):=by
    unfold G8;simp_all
   have:=ALA h hs hn (SS:=SS) (ws:=ws) (se:=se) (ms:=(w.2.2.2.2.2.2.2.1.map (G8 st w.AY n)).take i++w.2.2.2.2.2.2.2.1.drop i) (j:=i) (B:=k*100+1) (m:=w.2.2.2.2.2.2.2.1[i]) (R:=(some ((((),w.2.1,(),(),(),w.2.2.2.2.2.1,(),(),(),(),w.2.2.2.2.2.2.2.2.2.2.1,()),()),(w.1,SS,w.2.2.2.1,w.2.2.2.2.1,ws,(w.2.2.2.2.2.2.2.1.map (G8 st w.AY n)),w.2.2.2.2.2.2.2.2.1,se,())):Option B5)) (by simp_all) (by grind) (by simp_all) hm hc (fun f hf=>by
    grind[Pk]) w.2.2.2.2.2.2.2.1[i].2.2.2.2.2.1 [] f (by simp) (by simpa using hm.wrote) (by omega) (by simp)
   simp_all
  ·have hT:G8 st w.AY n w.2.2.2.2.2.2.2.1[i]=w.2.2.2.2.2.2.2.1[i]:=by
    unfold G8;simp_all
   obtain⟨f,rfl⟩:∃f',f=f'+1:=⟨f-1,by omega⟩;simp only[Ba,IF,AB];have UJ:(Ap w.AY w.2.2.2.2.2.2.2.1[i].2.1).length≤8:=Gl h;rw[OZ hi];simp only[ALI c1];rw[AL2,Mb De,show(w.2.2.2.2.1,w.2.2.2.2.2.1,())=B7 w from rfl,FF (r:=B7 w) (by show Af CL w.2.2.2.2.1≤_;omega)];rw[show(B7 w).1=w.AY from rfl];simp only[AD];rw[KG (by omega),hc,Pk De (show(w.2.2.2.2.2.2.2.1[i].1,w.2.2.2.2.2.2.2.1[i].2.1,w.2.2.2.2.2.2.2.1[i].2.2.1,w.2.2.2.2.2.2.2.1[i].2.2.2.1,w.2.2.2.2.2.2.2.1[i].2.2.2.2.1,w.2.2.2.2.2.2.2.1[i].2.2.2.2.2.1,())=G8 st w.AY n w.2.2.2.2.2.2.2.1[i]from hT.symm),AL (x:=(i:Int)+1) (by omega) (by omega),show((i:Int)+1)=((i+1:Nat):Int)by omega,ih (i+1) (by omega) (by omega) f (by omega)];simp_all
end
end Go.M
end
section
set_option maxRecDepth 8000
namespace Go.M
open Go.M.H (AJ AN Au Ac AA CX AQ A9 AM Ab BG As BO An Ca Af AW AZ Ar CL BU Ax BD Es Ch DF DN)
theorem kz{x y:A9}(hx:x.2.2.1=false):∀{dn rest:List A9},Qz (dn++y::rest)≤Qz (dn++x::rest)
 |[],rest=>by
  grind[Qz]
 |a::dn,rest=>by
  have:=kz (y:=y) hx (dn:=dn) (rest:=rest);grind[Qz]
section
variable{w:AA} (h:Ml w) {st:AN} (hs:eR st) {n:Int} (hn:0≤n∧n<(AS w).1.length) {SS:List AN}
include h hs hn
theorem AIq{ws:List AM}{se:List Ac}{j B:Nat}{ep x y:Int}{z:Bool}{old new:List A9}{R:Option B5}(hj:j<2^20)(ZK:se.length≤120)(hsp:∀s∈se,BN s.1=true)(vm:new.length≤60)(hep:1≤ep∧ep≤30)
  (cont:∀f,B≤f→Be f n ((j+1:Nat):Int) w.1 SS w.2.2.2.1 w.2.2.2.2.1 ws w.2.2.2.2.2.2.2.1 w.2.2.2.2.2.2.2.2.1 (se.map (Nn true ep old new)) w.2.1 w.2.2.2.2.2.1 w.2.2.2.2.2.2.2.2.2.2.1 0 0 false [] [] [] [] [] [] [] [] st.1 st.2.1 st.2.2.1=R):
  ∀(k i:Nat),se.length-i=k→i≤se.length→ ∀f,k+B+1≤f→
   BC f n (j:Int) (i:Int) x y z w.1 SS w.2.2.2.1 w.2.2.2.2.1 ws w.2.2.2.2.2.2.2.1 w.2.2.2.2.2.2.2.2.1 ((se.map (Nn true ep old new)).take i++se.drop i) w.2.1 w.2.2.2.2.2.1 w.2.2.2.2.2.2.2.2.2.2.1 0 0 false [] [] [] [] [] [] [] [] st.1 st.2.1 st.2.2.1 ep new=R:=by
 intro k
 induction k with
 |zero=>
  intro i hk hi f hf;obtain⟨f,rfl⟩:∃f',f=f'+1:=⟨f-1,by omega⟩;have:i=se.length:=by omega
  simp only[BC,Kq,AB];rw[OZ hi,ALT (by omega),this,ATA,AMa,ASm (by simp),AL (by omega) (by omega),show((j:Int)+1)=((j+1:Nat):Int)by omega];simp_all
 |succ k ih=>
  intro i hk hi f hf;obtain⟨f,rfl⟩:∃f',f=f'+1:=⟨f-1,by omega⟩;have De:i<se.length:=by omega
  have c1:(0:Int)≤(i:Int)∧(i:Int)<(se.length:Int):=by omega
  have hp:=hsp _ (AL5 De);have hpf:=CJ hp;have ih':=ih (i+1) (by omega) (by omega) f (by omega);simp only[BC,Kq,AB,DR];rw[OZ hi,ALI c1.2];simp only[ALI c1];rw[AL2,Mb De,Ey (Jd hp),ZF (Jd hp),AL (x:=(i:Int)+1) (by omega) (by omega),show((i:Int)+1)=((i+1:Nat):Int)by omega];simp only[AD];have skip:Nn true ep old new se[i]=se[i]→BC f n (j:Int) ((i+1:Nat):Int) x y z w.1 SS w.2.2.2.1 w.2.2.2.2.1 ws w.2.2.2.2.2.2.2.1 w.2.2.2.2.2.2.2.2.1 ((se.map (Nn true ep old new)).take i++se.drop i) w.2.1 w.2.2.2.2.2.1 w.2.2.2.2.2.2.2.2.2.2.1 0 0 false [] [] [] [] [] [] [] [] st.1 st.2.1 st.2.2.1 ep new=R:=fun hm=>by
   grind[iE]
  by_cases he:AO se[i].1=ep
  rotate_left
  ·rw[ALT he]
   grind[Nn,AO,beq_eq_false_iff_ne]
  rw[ALI he];by_cases ho:A7 se[i].1≤(new.length:Int)
  rotate_left
  ·rw[ALT ho]
   refine skip ?_
   unfold Nn QY;rw[show BK (A7 se[i].1) 1 (new.length:Int)=false by
    rw[AS1];grind[Ai]]
   simp
  rw[ALI ho,AL (x:=A7 se[i].1-1) (by omega) (by omega),ALI (by omega)];have hd:QY new (A7 se[i].1)=(new.getD (A7 se[i].1-1).toNat Kn).2.2.1:=by
   unfold QY;rw[Ai.2 ⟨hpf.2.1.1,ho⟩,AMD]
  have xA:(new.getD (A7 se[i].1-1).toNat ([],[],false,())).2.2.1=QY new (A7 se[i].1):=hd.symm;rw[xA];cases hdd:QY new (A7 se[i].1)with
  |false=>
   rw[ALz];grind[Nn]
  |true=>
   rw[AMJ,Pk De (show(se[i].1,se[i].2.1,true,())=Nn true ep old new se[i]by
    grind[Nn])]
   omega
theorem AOa{ws:List AM}{se:List Ac}{j B:Nat}{ep x y:Int}{z:Bool}{l0:List A9}{R:Option B5}(hj:j<ws.length)(qN:ws.length≤2^20)
  (cont:∀f,B≤f→BC f n (j:Int) 0 x y z w.1 SS w.2.2.2.1 w.2.2.2.2.1 (ws.set j (ep,A_ (AS w) st ep n 1 l0,())) w.2.2.2.2.2.2.2.1 w.2.2.2.2.2.2.2.2.1 se w.2.1 w.2.2.2.2.2.1 w.2.2.2.2.2.2.2.2.2.2.1 0 0 false [] [] [] [] [] [] [] [] st.1 st.2.1 st.2.2.1 ep (A_ (AS w) st ep n 1 l0)=R):
  ∀(rest dn:List A9) (f:Nat),ax (AS w) (ep,dn++rest,())→rest.length+B+1≤f→
   dn++A_ (AS w) st ep n ((dn.length:Int)+1) rest=A_ (AS w) st ep n 1 l0→
   BA f n (j:Int) ((dn.length:Int)+1) x y z w.1 SS w.2.2.2.1 w.2.2.2.2.1 ws w.2.2.2.2.2.2.2.1 w.2.2.2.2.2.2.2.2.1 se w.2.1 w.2.2.2.2.2.1 w.2.2.2.2.2.2.2.2.2.2.1 0 0 false [] [] [] [] [] [] [] [] st.1 st.2.1 st.2.2.1 ep (dn++rest)=R:=by
 have k1:=h.nums.c;have cz:=hs.w;intro rest
 induction rest with
 |nil=>
  intro dn f hw hf he;obtain⟨f,rfl⟩:∃f',f=f'+1:=⟨f-1,by omega⟩;simp only[AQF,ASz,A_,AMa]at hf he;simp only[BA,MF,AB,AMa];grind
 |cons a rest ih=>
  intro dn f hw hf he;obtain⟨f,rfl⟩:∃f',f=f'+1:=⟨f-1,by omega⟩;simp only[ANW]at hf;have hwe:1≤ep∧ep≤30:=hw.ep;have hwn:(dn++a::rest).length≤60:=hw.n;have hww:=hw.w;have hwl:=hwn;simp only[APV,ANW]at hwl;simp only[BA,MF,AB,A3,Cw];rw[ALI (by grind),Mg (by omega) (by omega)];simp only[AD];rw[Tg (Fu (by omega)).1];simp only[AD];rw[AL (x:=(dn.length:Int)+1+1) (by omega) (by omega),AL (x:=(dn.length:Int)+1-1) (by omega) (by omega),ALI (show(0:Int)≤(dn.length:Int)+1-1∧(dn.length:Int)+1-1<((dn++a::rest).length:Int)by grind)];have e1:((dn.length:Int)+1-1).toNat=dn.length:=by omega
  have e2:(dn++a::rest).getD dn.length ([],[],false,())=a:=by simp[List.getD]
  rw[e1,e2];simp only[A_]at he;have go:∀b:A9,ax (AS w) (ep,dn++b::rest,())→(if(!a.2.2.1&&JA st (D9 ep ((dn.length:Int)+1)))=true then EY (AS w) n a else a)=b→
    BA f n (j:Int) ((dn.length:Int)+1+1) x y z w.1 SS w.2.2.2.1 w.2.2.2.2.1 ws w.2.2.2.2.2.2.2.1 w.2.2.2.2.2.2.2.2.1 se w.2.1 w.2.2.2.2.2.1 w.2.2.2.2.2.2.2.2.2.2.1 0 0 false [] [] [] [] [] [] [] [] st.1 st.2.1 st.2.2.1 ep (dn++b::rest)=R:=fun b hb qy=>by
   rw[qy]at he;have:=ih (dn++[b]) f (by simp_all) (by omega) (by
    simp_all)
   simp_all
  cases hg:EA (D9 ep ((dn.length:Int)+1)) st.1 with
  |none=>
   simp only[ASr,ALz];grind[JA]
  |some e=>
   simp only[ASs,AMJ,ASv];by_cases he0:e.2.1=0
   rotate_left
   ·rw[ALT he0]
    grind[JA]
   rw[ALI he0];cases had:a.2.2.1 with
   |true=>
    grind
   |false=>
    rw[ALz];have ha:=hw.words a (by simp);have hb:ax (AS w) (ep,dn++EY (AS w) n a::rest,()):=⟨hw.cfg,hw.ep,by simp_all,fun b hb=>by
     simp only[AOs,AO3]at hb;rcases hb with hb|rfl|hb
     ·exact hw.words b (by simp[hb])
     ·exact⟨ha.1,Ig ha.2.1 hn,rfl⟩
     ·exact hw.words b (by simp[hb]),ARE (kz had) hw.opn⟩
    rw[show(w.1,w.2.1,())=AS w from rfl,hU (c:=AS w) (w:=(ep,dn++a::rest,())) (by show w.1.length≤_;omega) (by have:Ax (ep,dn++a::rest,())=Af BU (dn++a::rest):=rfl;grind)];have ADE:Qu (AS w) (ep,dn++a::rest,()) ((dn.length:Int)+1) n=((ep,dn++EY (AS w) n a::rest,()),true):=by
     unfold Qu;rw[Ih.2 hw];simp only[ALu,ALr,AOV];rw[e1,show(dn++a::rest).getD dn.length Kn=a from e2,had];rw[ALI (by
      rw[ALp,ALp,Ai,Ai];grind)]
     simp_all
    grind[AD,pkW,JA]
theorem AMu:∀(rest pre:List AM) (se:List Ac) (f:Nat),(pre++rest).length≤4→(∀x∈rest,ax (AS w) x)→se.length≤120→(∀s∈se,BN s.1=true)→rest.length*300+w.2.2.2.2.2.2.2.1.length*100+2≤f→
  Be f n (pre.length:Int) w.1 SS w.2.2.2.1 w.2.2.2.2.1 (pre++rest) w.2.2.2.2.2.2.2.1 w.2.2.2.2.2.2.2.2.1 se w.2.1 w.2.2.2.2.2.1 w.2.2.2.2.2.2.2.2.2.2.1 0 0 false [] [] [] [] [] [] [] [] st.1 st.2.1 st.2.2.1=(some ((((),w.2.1,(),(),(),w.2.2.2.2.2.1,(),(),(),(),w.2.2.2.2.2.2.2.2.2.2.1,()),()),(w.1,SS,w.2.2.2.1,w.2.2.2.2.1,(pre++(FH true (AS w) st w.AY n rest se).1),(w.2.2.2.2.2.2.2.1.map (G8 st w.AY n)),w.2.2.2.2.2.2.2.2.1,(FH true (AS w) st w.AY n rest se).2,())):Option B5):=by
 have k5:=h.nums.era;intro rest
 induction rest with
 |nil=>
  intro pre se f hl hw ZK hsp hf;obtain⟨f,rfl⟩:∃f',f=f'+1:=⟨f-1,by omega⟩;simp only[Be,MR,AB];have:=AJo h hs hn (SS:=SS) (ws:=pre) (se:=se) w.2.2.2.2.2.2.2.1.length 0 (by omega) (by omega) f (by omega);rw[show((0:Nat):Int)=0 from rfl,ASi,AXF,ASg]at this;rw[AMa,ALT (by omega),this];simp only[FH,AMa]
 |cons a rest ih=>
  intro pre se f hl hw ZK hsp hf;simp only[APV,ANW]at hl hf;obtain⟨f,rfl⟩:∃f',f=f'+1:=⟨f-1,by omega⟩;simp only[Be,MR,AB,A3];have j5:(pre++a::rest).length=pre.length+(rest.length+1):=by simp
  have c1:(0:Int)≤(pre.length:Int)∧(pre.length:Int)<((pre++a::rest).length:Int):=by omega
  have e2:(pre++a::rest).getD pre.length (0,[],())=a:=by simp[List.getD]
  have UJ:(Ap w.AY a.1).length≤8:=Gl h;rw[ALI c1.2,ALI c1,AL2,e2,show(w.2.2.2.2.1,w.2.2.2.2.2.1,())=B7 w from rfl,FF (r:=B7 w) (by show Af CL w.2.2.2.2.1≤_;omega)];rw[show(B7 w).1=w.AY from rfl];simp only[AD];rw[KG (by omega),AL (by omega) (by omega),show((pre.length:Int)+1)=((pre.length+1:Nat):Int)by omega];simp only[AD];have ha:=hw a (by simp);have hae:=ha.ep;have han:=ha.n;have next:∀(b:AM) (nG:List Ac) (f:Nat),nG.length≤120→(∀s∈nG,BN s.1=true)→rest.length*300+w.2.2.2.2.2.2.2.1.length*100+2≤f→
    Be f n ((pre.length+1:Nat):Int) w.1 SS w.2.2.2.1 w.2.2.2.2.1 (pre++b::rest) w.2.2.2.2.2.2.2.1 w.2.2.2.2.2.2.2.2.1 nG w.2.1 w.2.2.2.2.2.1 w.2.2.2.2.2.2.2.2.2.2.1 0 0 false [] [] [] [] [] [] [] [] st.1 st.2.1 st.2.2.1=(some ((((),w.2.1,(),(),(),w.2.2.2.2.2.1,(),(),(),(),w.2.2.2.2.2.2.2.2.2.2.1,()),()),(w.1,SS,w.2.2.2.1,w.2.2.2.2.1,(pre++b::(FH true (AS w) st w.AY n rest nG).1),(w.2.2.2.2.2.2.2.1.map (G8 st w.AY n)),w.2.2.2.2.2.2.2.2.1,(FH true (AS w) st w.AY n rest nG).2,())):Option B5):=fun b nG f h1 h2 h3=>by
   have:=ih (pre++[b]) nG f (by simp only[APV,ANW,AQF];omega) (fun x hx=>hw x (by simp[hx])) h1 h2 h3;simp only[APV,ANW,AQF,AM4,AS8]at this;exact this
  simp only[FH];rcases AK7 (K9 st w.AY n a)with ht|ht
  rotate_left
  ·rw[ht]
   simp only[ALr,AOV];unfold K9 at ht;rcases AK7 ((Ap w.AY a.1).contains n)with hc|hc
   ·rw[hc,AMD,AS_]at ht
    rw[hc,AMJ,ALI (by omega)];exact next a se f ZK hsp (by omega)
   ·rw[hc,ALz]
    exact next a se f ZK hsp (by omega)
  ·rw[ht]
   simp only[ASe];unfold K9 at ht;rw[ALp,AMC]at ht;rw[ht.1,AMJ,ALT (by omega)];have htl:=(aW (s:=st) (ep:=a.1) hn (o:=1) ha.words).2.2;have hsm:∀s∈se.map (Nn true a.1 a.2.1 (A_ (AS w) st a.1 n 1 a.2.1)),BN s.1=true:=fun s uz=>by
    obtain⟨s',h1,rfl⟩:=ASt.1 uz;exact hsp s' h1
   have:=AOa h hs hn (SS:=SS) (ws:=pre++a::rest) (se:=se) (j:=pre.length) (B:=rest.length*300+w.2.2.2.2.2.2.2.1.length*100+2+130) (ep:=a.1) (x:=st.2.2.1) (y:=a.1) (z:=decide (st.2.2.1≥a.1)) (l0:=a.2.1) (R:=(some ((((),w.2.1,(),(),(),w.2.2.2.2.2.1,(),(),(),(),w.2.2.2.2.2.2.2.2.2.2.1,()),()),(w.1,SS,w.2.2.2.1,w.2.2.2.2.1,(pre++(a.1,A_ (AS w) st a.1 n 1 a.2.1,())::(FH true (AS w) st w.AY n rest (se.map (Nn true a.1 a.2.1 (A_ (AS w) st a.1 n 1 a.2.1)))).1),(w.2.2.2.2.2.2.2.1.map (G8 st w.AY n)),w.2.2.2.2.2.2.2.2.1,(FH true (AS w) st w.AY n rest (se.map (Nn true a.1 a.2.1 (A_ (AS w) st a.1 n 1 a.2.1)))).2,())):Option B5)) (by omega) (by omega) (fun f hf=>by
    have:=AIq h hs hn (SS:=SS) (ws:=(pre++a::rest).set pre.length (a.1,A_ (AS w) st a.1 n 1 a.2.1,())) (se:=se) (j:=pre.length) (B:=rest.length*300+w.2.2.2.2.2.2.2.1.length*100+2) (ep:=a.1) (x:=st.2.2.1) (y:=a.1) (z:=decide (st.2.2.1≥a.1)) (old:=a.2.1) (new:=A_ (AS w) st a.1 n 1 a.2.1) (R:=(some ((((),w.2.1,(),(),(),w.2.2.2.2.2.1,(),(),(),(),w.2.2.2.2.2.2.2.2.2.2.1,()),()),(w.1,SS,w.2.2.2.1,w.2.2.2.2.1,(pre++(a.1,A_ (AS w) st a.1 n 1 a.2.1,())::(FH true (AS w) st w.AY n rest (se.map (Nn true a.1 a.2.1 (A_ (AS w) st a.1 n 1 a.2.1)))).1),(w.2.2.2.2.2.2.2.1.map (G8 st w.AY n)),w.2.2.2.2.2.2.2.2.1,(FH true (AS w) st w.AY n rest (se.map (Nn true a.1 a.2.1 (A_ (AS w) st a.1 n 1 a.2.1)))).2,())):Option B5)) (by omega) ZK hsp (by omega) hae (fun f hf=>by
     rw[AW3 _ _ (by omega),AXC,AWt];exact next _ _ f (by simpa using ZK) hsm hf) se.length 0 (by omega) (by omega) f (by omega)
    rw[show((0:Nat):Int)=0 from rfl,ASi,AXF,ASg]at this;exact this) a.2.1 [] f (by simpa using ha) (by omega) (by simp)
   simp only[AQF,ASg]at this;exact this
end
section
variable{w:AA} (h:Ml w)
include h
theorem mR{d:BO}:Ve w.2.1 w.2.2.2.2.2.1 w.2.2.2.2.2.2.2.2.2.2.1 d w.1 w.2.2.1 w.2.2.2.1 w.2.2.2.2.1 w.2.2.2.2.2.2.1 w.2.2.2.2.2.2.2.1 w.2.2.2.2.2.2.2.2.1 w.2.2.2.2.2.2.2.2.2.1=some (pkD (Jn true w d.2.1)):=by
 have k:=h.nums;have k1:=k.c;have k2:=k.wr;have k3:=k.lost;have k4:=k.st;have ZZ:=k.Zp;have gb:=k.Jk;have jM:=k.gg;have k6:=k.md;unfold Ve Jn;rw[show(w.1,w.2.1,w.2.2.1,w.2.2.2.1,w.2.2.2.2.1,w.2.2.2.2.2.1,w.2.2.2.2.2.2.1,w.2.2.2.2.2.2.2.1,w.2.2.2.2.2.2.2.2.1,w.2.2.2.2.2.2.2.2.2.1,w.2.2.2.2.2.2.2.2.2.2.1,())=w from rfl,ID (by omega) (by omega)];simp only[AD,Cw,A3];by_cases h3:Al w d.2.1=0
 rotate_left
 ·rw[ALT h3,ALI h3];rfl
 obtain⟨hr,s1,s2,s3⟩:=h.K_ h3;have ZK:w.2.2.1.getD d.2.1.toNat ([],[],0,())=storeAt w d.2.1:=rfl;rw[ALI h3,ALT (show¬(Al w d.2.1≠0)from fun hh=>hh h3)];simp only[ALI hr,ZK];rw[show((storeAt w d.2.1).1,(storeAt w d.2.1).2.1,(storeAt w d.2.1).2.2.1,())=storeAt w d.2.1 from rfl,YA s1 s2];simp only[AD,ld];rcases AK7 (Cf (storeAt w d.2.1)).2 with h6|h6
 rotate_left
 ·rw[h6];rfl
 have hq:=(Km h6).2.1;have ya:=(h.node h3).1;rw[h6,AMJ,Fy];have Jq:d.2.1.toNat<w.2.2.1.length:=by omega
 unfold V2 QN;rw[ATZ,ALI hr,M1 Jq];have:=AMu h (st:=(Cf (storeAt w d.2.1)).1) hq ya (SS:=w.2.2.1.set d.2.1.toNat (Cf (storeAt w d.2.1)).1) w.2.2.2.2.2.2.1 [] w.2.2.2.2.2.2.2.2.2.1 Ae (by simp_all) (fun x hx=>(h.AH x hx).1) k.se (fun s hs=>(h.Aq s hs).1) (ATs (Ag (by omega)));simp only[AQF,ASg]at this;rw[show((0:Nat):Int)=0 from rfl]at this;rw[show((Cf (storeAt w d.2.1)).1.1,(Cf (storeAt w d.2.1)).1.2.1,(Cf (storeAt w d.2.1)).1.2.2.1,())=(Cf (storeAt w d.2.1)).1 from rfl,this];rfl
end
end Go.M
end
section
set_option maxRecDepth 8000
namespace Go.M
open Go.M.H (AJ AN Au Ac AA CX AQ A9 AM Ab BG As BO An Ca Af AW AZ Ar CL BU Ax BD Es Ch DF DN)
section
variable{w:AA} (h:Ml w)
include h
theorem qi{d:BO}(h64:DJ d.2.1)(hd:d.2.2.2.2.1.length≤40)(hk:1≤d.1∧d.1≤16):∃w',aX w.2.1 w.2.2.2.2.2.1 w.2.2.2.2.2.2.2.2.2.2.1 d w.1 w.2.2.1 w.2.2.2.1 w.2.2.2.2.1 w.2.2.2.2.2.2.1 w.2.2.2.2.2.2.2.1 w.2.2.2.2.2.2.2.2.1 w.2.2.2.2.2.2.2.2.2.1=some (AQ0 (w',(LN true w d).2))∧((LN true w d).2=0→w' =(LN true w d).1):=by
 have k:=h.nums;have k1:=k.c;have k5:=k.era;unfold aX LN;rw[show(d.1,d.2.1,d.2.2.1,d.2.2.2.1,d.2.2.2.2.1,())=d from rfl];simp only[DR];by_cases c1:d.1=1
 ·simp only[ALI c1]
  rw[mA h];exact⟨_,rfl,fun _=>rfl⟩
 by_cases c2:d.1=2
 ·simp only[ALT (show¬d.1=1 by omega),ALI c2]
  obtain⟨w',e1,e2⟩:=ot h (d:=d) hd;rw[e1];exact⟨w',rfl,e2⟩
 by_cases c3:d.1=3
 ·simp only[ALT (show¬d.1=1 by omega),ALT (show¬d.1=2 by omega),ALI c3]
  rw[jP h];exact⟨_,rfl,fun _=>rfl⟩
 by_cases c4:d.1=4
 ·simp only[ALT (show¬d.1=1 by omega),ALT (show¬d.1=2 by omega),ALT (show¬d.1=3 by omega),ALI c4]
  rw[mR h];exact⟨_,rfl,fun _=>rfl⟩
 by_cases c6:d.1=6
 ·simp only[ALT (show¬d.1=1 by omega),ALT (show¬d.1=2 by omega),ALT (show¬d.1=3 by omega),ALT (show¬d.1=4 by omega),ALT (show¬d.1=5 by omega),ALI c6]
  rw[mq h];exact⟨_,rfl,fun _=>rfl⟩
 by_cases c7:d.1=7
 ·simp only[ALT (show¬d.1=1 by omega),ALT (show¬d.1=2 by omega),ALT (show¬d.1=3 by omega),ALT (show¬d.1=4 by omega),ALT (show¬d.1=5 by omega),ALT (show¬d.1=6 by omega),ALI c7]
  rw[mF h];exact⟨_,rfl,fun _=>rfl⟩
 by_cases c8:d.1=8
 ·simp only[ALT (show¬d.1=1 by omega),ALT (show¬d.1=2 by omega),ALT (show¬d.1=3 by omega),ALT (show¬d.1=4 by omega),ALT (show¬d.1=5 by omega),ALT (show¬d.1=6 by omega),ALT (show¬d.1=7 by omega),ALI c8]
  rw[mS h];exact⟨_,rfl,fun _=>rfl⟩
 by_cases c9:d.1=9
 ·simp only[ALT (show¬d.1=1 by omega),ALT (show¬d.1=2 by omega),ALT (show¬d.1=3 by omega),ALT (show¬d.1=4 by omega),ALT (show¬d.1=5 by omega),ALT (show¬d.1=6 by omega),ALT (show¬d.1=7 by omega),ALT (show¬d.1=8 by omega),ALI c9]
  rw[l5 h];exact⟨_,rfl,fun _=>rfl⟩
 by_cases c10:d.1=10
 ·simp only[ALT (show¬d.1=1 by omega),ALT (show¬d.1=2 by omega),ALT (show¬d.1=3 by omega),ALT (show¬d.1=4 by omega),ALT (show¬d.1=5 by omega),ALT (show¬d.1=6 by omega),ALT (show¬d.1=7 by omega),ALT (show¬d.1=8 by omega),ALT (show¬d.1=9 by omega),ALI c10]
  rw[l4 h];exact⟨_,rfl,fun _=>rfl⟩
 by_cases c11:d.1=11
 ·simp only[ALT (show¬d.1=1 by omega),ALT (show¬d.1=2 by omega),ALT (show¬d.1=3 by omega),ALT (show¬d.1=4 by omega),ALT (show¬d.1=5 by omega),ALT (show¬d.1=6 by omega),ALT (show¬d.1=7 by omega),ALT (show¬d.1=8 by omega),ALT (show¬d.1=9 by omega),ALT (show¬d.1=10 by omega),ALI c11]
  rw[oV h];exact⟨_,rfl,fun _=>rfl⟩
 by_cases c12:d.1=12
 ·simp only[ALT (show¬d.1=1 by omega),ALT (show¬d.1=2 by omega),ALT (show¬d.1=3 by omega),ALT (show¬d.1=4 by omega),ALT (show¬d.1=5 by omega),ALT (show¬d.1=6 by omega),ALT (show¬d.1=7 by omega),ALT (show¬d.1=8 by omega),ALT (show¬d.1=9 by omega),ALT (show¬d.1=10 by omega),ALT (show¬d.1=11 by omega),ALI c12]
  rw[kV h];exact⟨_,rfl,fun _=>rfl⟩
 by_cases c13:d.1=13
 ·simp only[ALT (show¬d.1=1 by omega),ALT (show¬d.1=2 by omega),ALT (show¬d.1=3 by omega),ALT (show¬d.1=4 by omega),ALT (show¬d.1=5 by omega),ALT (show¬d.1=6 by omega),ALT (show¬d.1=7 by omega),ALT (show¬d.1=8 by omega),ALT (show¬d.1=9 by omega),ALT (show¬d.1=10 by omega),ALT (show¬d.1=11 by omega),ALT (show¬d.1=12 by omega),ALI c13]
  rw[show(w.1,w.2.1,())=AS w from rfl,show(w.2.2.2.2.1,w.2.2.2.2.2.1,())=B7 w from rfl,mX (c:=AS w) (r:=B7 w) (by show w.1.length≤_;omega) (by show Af CL w.2.2.2.2.1≤_;omega) k.trim h64];simp only[AD,pkR,A3,Nw];rcases AK7 (L8 (AS w) (B7 w) d.2.1).2 with hq|hq
  ·rw[hq];exact⟨_,rfl,fun _=>rfl⟩
  ·rw[hq];exact⟨w,rfl,fun _=>rfl⟩
 by_cases c14:d.1=14
 ·simp only[ALT (show¬d.1=1 by omega),ALT (show¬d.1=2 by omega),ALT (show¬d.1=3 by omega),ALT (show¬d.1=4 by omega),ALT (show¬d.1=5 by omega),ALT (show¬d.1=6 by omega),ALT (show¬d.1=7 by omega),ALT (show¬d.1=8 by omega),ALT (show¬d.1=9 by omega),ALT (show¬d.1=10 by omega),ALT (show¬d.1=11 by omega),ALT (show¬d.1=12 by omega),ALT (show¬d.1=13 by omega),ALI c14]
  rw[mD h];exact⟨_,rfl,fun _=>rfl⟩
 by_cases c15:d.1=15
 ·simp only[ALT (show¬d.1=1 by omega),ALT (show¬d.1=2 by omega),ALT (show¬d.1=3 by omega),ALT (show¬d.1=4 by omega),ALT (show¬d.1=5 by omega),ALT (show¬d.1=6 by omega),ALT (show¬d.1=7 by omega),ALT (show¬d.1=8 by omega),ALT (show¬d.1=9 by omega),ALT (show¬d.1=10 by omega),ALT (show¬d.1=11 by omega),ALT (show¬d.1=12 by omega),ALT (show¬d.1=13 by omega),ALT (show¬d.1=14 by omega),ALI c15]
  rw[mo h];exact⟨_,rfl,fun _=>rfl⟩
 simp only[ALT c1,ALT c2,ALT c3,ALT c4,ALT c6,ALT c7,ALT c8,ALT c9,ALT c10,ALT c11,ALT c12,ALT c13,ALT c14,ALT c15];rw[ji h];by_cases c5:d.1=5
 ·rw[ALI c5,ALT (by omega)]
  exact⟨_,rfl,fun _=>rfl⟩
 ·rw[ALT c5,ALI (by omega)]
  exact⟨_,rfl,fun _=>rfl⟩
end
theorem df{w:AA}{n:Int}{q:AN×Bool}(e:(putAt w n q).2≠0):(putAt w n q).1=w:=by
 unfold putAt at*;grind
theorem vk{all:Bool}{w:AA}{d:BO}(e:(LN all w d).2≠0):(LN all w d).1=w:=by
 unfold LN at*;by_cases c:d.1=1
 ·rw[ALI c]at e⊢
  clear c
  revert e
  unfold MK;grind
 rw[ALT c]at e⊢;clear c;by_cases c:d.1=2
 ·rw[ALI c]at e⊢
  clear c
  revert e
  unfold doAdd;grind
 rw[ALT c]at e⊢;clear c;by_cases c:d.1=3
 ·rw[ALI c]at e⊢
  clear c
  revert e
  unfold IW
  try dsimp only
  repeat' split
  all_goals first|(intro e;exact absurd rfl e)|(intro e;rfl)|grind[df]
 rw[ALT c]at e⊢;clear c;by_cases c:d.1=4
 ·rw[ALI c]at e⊢
  clear c
  revert e
  unfold Jn;grind
 rw[ALT c]at e⊢;clear c;by_cases c:d.1=5
 ·rw[ALI c]at e⊢
  clear c
  revert e
  unfold Ib
  try dsimp only
  repeat' split
  all_goals first|(intro e;exact absurd rfl e)|(intro e;rfl)|grind[df]
 rw[ALT c]at e⊢;clear c;by_cases c:d.1=6
 ·rw[ALI c]at e⊢
  clear c
  revert e
  unfold MC;grind
 rw[ALT c]at e⊢;clear c;by_cases c:d.1=7
 ·rw[ALI c]at e⊢
  clear c
  revert e
  unfold ME;grind
 rw[ALT c]at e⊢;clear c;by_cases c:d.1=8
 ·rw[ALI c]at e⊢
  clear c
  revert e
  unfold L5;grind
 rw[ALT c]at e⊢;clear c;by_cases c:d.1=9
 ·rw[ALI c]at e⊢
  clear c
  revert e
  unfold MH;grind
 rw[ALT c]at e⊢;clear c;by_cases c:d.1=10
 ·rw[ALI c]at e⊢
  clear c
  revert e
  unfold MJ;grind
 rw[ALT c]at e⊢;clear c;by_cases c:d.1=11
 ·rw[ALI c]at e⊢
  clear c
  revert e
  unfold Rf
  try dsimp only
  repeat' split
  all_goals first|(intro e;exact absurd rfl e)|(intro e;rfl)|grind[df]
 rw[ALT c]at e⊢;clear c;by_cases c:d.1=12
 ·rw[ALI c]at e⊢
  clear c
  revert e
  unfold Ie;grind
 rw[ALT c]at e⊢;clear c;by_cases c:d.1=13
 ·rw[ALI c]at e⊢
  clear c
  revert e
  unfold Nw;grind
 rw[ALT c]at e⊢;clear c;by_cases c:d.1=14
 ·rw[ALI c]at e⊢
  clear c
  revert e
  unfold IY;grind
 rw[ALT c]at e⊢;clear c;by_cases c:d.1=15
 ·rw[ALI c]at e⊢
  clear c
  revert e
  unfold NF;grind
 rw[ALT c]at e⊢;clear c;unfold Ii at*;split at e
 ·simp_all
 ·rename_i h1;rw[ALT h1];exact df e
theorem bX{w:AA}{d:BO}(h:jX w)(h64:DJ d.2.1):HY w d=some (pkD (DL true w d)):=by
 unfold HY DL;rw[show(w.1,w.2.1,w.2.2.1,w.2.2.2.1,w.2.2.2.2.1,w.2.2.2.2.2.1,w.2.2.2.2.2.2.1,w.2.2.2.2.2.2.2.1,w.2.2.2.2.2.2.2.2.1,w.2.2.2.2.2.2.2.2.2.1,w.2.2.2.2.2.2.2.2.2.2.1,())=w from rfl,show(d.1,d.2.1,d.2.2.1,d.2.2.2.1,d.2.2.2.2.1,())=d from rfl,Uq h,pB,l6 h];simp only[AD,A3,Cw];rcases AK7 (IM w)with hw|hw
 rotate_left
 ·rw[hw];rfl
 rcases AK7 (PG d)with hd|hd
 rotate_left
 ·rw[hw,hd];rfl
 have hk:1≤d.1∧d.1≤16:=by
  unfold PG at hd;exact Ai.1 (ALp _ _▸hd).1
 rw[hw,hd,AMJ,AMJ];obtain⟨w',e1,e2⟩:=qi (KI.1 hw) h64 (bC hd) hk;rw[e1];simp only[AD,ALu,AW7,ALr,AOV];by_cases hc:(LN true w d).2=0
 ·rw[e2 hc]
  rw[ALI (show(AQ0 ((LN true w d).1,(LN true w d).2)).1.1.2.1=0 from hc)];rfl
 ·rw[ALT (show¬(AQ0 (w',(LN true w d).2)).1.1.2.1=0 from hc)]
  have:=vk hc;rw[show LN true w d=(w,(LN true w d).2)by grind];rfl
end Go.M
end
section
namespace Go.M
section
variable{b:AAH} (hb:Bytes b)
include hb
end
section
variable{code:AAH} (hc:code.length≤2^30)
include hc
theorem ABD{i h:Int}{l:List ABs}(hi:G3 code i)(hl:l≠[])(hn:l.length≤2^30):∃v i' h',Is l code i h=some ((v,()),((code,i',h',()),()))∧v∈l∧G3 code i':=by
 unfold Is;have hp:=AW8.2 hl;obtain⟨v,i1,h1,e,v0,v1,_,eJ⟩:=QD hc (h:=h) (n:=l.length) hi (by omega);rw[e];simp only[AMM];have:=v1 (by omega);rw[ALI ⟨v0,this⟩];obtain⟨k,rfl⟩:∃k:Nat,v=(k:Int):=⟨v.toNat,by omega⟩;exact⟨_,i1,h1,rfl,by rw[Ak (by omega)];exact AL5 _,eJ⟩
end
end Go.M
end
section
set_option maxRecDepth 8000
namespace Go.M
open Go.M.H (AJ AN Au Ac AA CX AQ A9 AM Ab BG As BO An Ca Af AW AZ Ar CL BU Ax BD Es Ch DF DN)
def OK(code:AAH){X Y:Type}(Q:X→Y→Prop)(o:Option (X×(ACp×Y))):Prop:=
 ∃x i h y,o=some (x,((code,i,h,()),y))∧G3 code i∧Q x y
section
variable{code:AAH} {X Y Z W:Type} {Q:X→Y→Prop} {R:Z→W→Prop}
theorem OK.bind{o:Option (X×(ACp×Y))}{f:X×(ACp×Y)→Option (Z×(ACp×W))}
  (ho:OK code Q o) (hf:∀x i h y,G3 code i→Q x y→OK code R (f (x,((code,i,h,()),y)))):OK code R (o.bind f):=by
 obtain⟨x,i,h,y,e,hi,hq⟩:=ho;simp_all
theorem OK.pure{A:Type}{o:Option A}{a:A}{f:A→Option (Z×(ACp×W))}(ho:o=some a)(hf:OK code R (f a)):OK code R (o.bind f):=by
 simp_all
theorem OK.some{x:X}{i h:Int}{y:Y}(hi:G3 code i)(hq:Q x y):OK code Q (some (x,((code,i,h,()),y))):=⟨x,i,h,y,rfl,hi,hq⟩
theorem OK.cond{b:Bool}{x y:Option (X×(ACp×Y))}(h1:b=true→OK code Q x)(h2:b=false→OK code Q y):OK code Q (cond b x y):=by
 grind
theorem OK.iP{p:Prop}[Decidable p]{x y:Option (X×(ACp×Y))}(h1:p→OK code Q x)(h2: ¬p→OK code Q y):OK code Q (_root_.cond (decide p) x y):=by
 grind
theorem OK.sK{a b:Int}{x y:Option (X×(ACp×Y))}(h1:a=b→OK code Q x)(h2:a≠b→OK code Q y):OK code Q (_root_.cond (a==b) x y):=by
 grind
theorem OK.ite{p:Prop}[Decidable p]{x y:Option (X×(ACp×Y))}(hp:p)(h1:OK code Q x):OK code Q (if p then x else y):=by
 simp_all
end
section
variable{code:AAH} (hc:code.length≤2^30)
include hc
theorem PW{i h n:Int}(hi:G3 code i)(hn:n≤2^40):OK code (fun(x:ABp) (y:Unit)=>0≤x.1∧(0<n→x.1<n)∧(n≤0→x.1=0)) (Am n code i h):=by
 obtain⟨v,i',h',e,v0,v1,v2,De⟩:=QD hc (h:=h) hi hn;exact⟨(v,()),i',h',(),e,De,v0,v1,v2⟩
theorem aS{i h n:Int}(hi:G3 code i)(hn:n≤2^40):OK code (fun(x:ABZ) (y:Unit)=>True) (B8 n code i h):=by
 obtain⟨v,i',h',e,De⟩:=ra hc (h:=h) hi hn;exact⟨(v,()),i',h',(),e,De,trivial⟩
theorem xW{i h:Int}{l:AAH}(hi:G3 code i)(hl:l≠[])(hn:l.length≤2^30):OK code (fun(x:ABp) (y:Unit)=>x.1∈l) (OP l code i h):=by
 obtain⟨v,i',h',e,hv,De⟩:=ub hc (h:=h) hi hl hn;exact⟨(v,()),i',h',(),e,De,hv⟩
theorem tq{i h:Int}{l:List ABs}(hi:G3 code i)(hl:l≠[])(hn:l.length≤2^30):OK code (fun(x:AFf) (y:Unit)=>x.1∈l) (Is l code i h):=by
 obtain⟨v,i',h',e,hv,De⟩:=ABD hc (h:=h) hi hl hn;exact⟨(v,()),i',h',(),e,De,hv⟩
theorem uV{c:CK}(cu:c.1.length≤2^10){i h:Int}(hi:G3 code i):OK code (fun(x:ACL) (y:ACb)=>y.1.length≤2^12) (O2 c code i h):=by
 have key:∀(n k N:Nat) (i h:Int) (b:AAH),G3 code i→k≤N→N-k<n→N≤2^11→b.length≤k→
   OK code (fun(x:ACL) (y:ACb)=>y.1.length≤2^12) (IK n N k code i h c.1 c.2.1 b):=by
  intro n
  induction n with
  |zero=>omega
  |succ n ih=>
   intro k N i h b hi hk hn hN hb;simp only[IK,SM];refine OK.iP (fun Jq=> ?_) (fun hge=> ?_)
   ·refine OK.pure Kj ?_
    dsimp only;refine OK.bind (PW hc hi (by omega)) fun x i' h' y De hq=> ?_
    dsimp only;refine OK.pure (My (by omega)) ?_
    dsimp only;rw[AL (by omega) (by omega),show((k:Int)+1)=((k+1:Nat):Int)by omega];have:=T5 (n:=x.1) (l:=b);exact ih (k+1) N _ _ _ De (by omega) (by omega) hN (by omega)
   ·refine OK.bind (aS hc hi (by omega)) fun x i' h' y De hq=> ?_
    dsimp only;refine OK.cond (fun _=> ?_) (fun _=> ?_)
    ·refine OK.bind (xW hc De (by simp) (by simp)) fun x i' h' y De hq=> ?_
     dsimp only;refine OK.ite (by rw[BT];omega) ?_
     grind[OK.some]
    grind[OK.some]
 unfold O2 RS;rw[AL (by omega) (by omega)];refine OK.bind (PW hc hi (by omega)) fun x i' h' y De hq=> ?_
 dsimp only;obtain⟨N,hN⟩:∃N:Nat,x.1=N:=⟨x.1.toNat,by omega⟩;grind[Ae,Ag]
theorem x_{c:CK}(cu:c.1.length≤2^10){i h:Int}(hi:G3 code i):OK code (fun(x:ACL) (y:ACb)=>y.1.length≤2^13) (LR c code i h):=by
 have key:∀(n k:Nat) (i h:Int) (b:AAH),G3 code i→k≤c.1.length→c.1.length-k<n→b.length≤2^12+k→
   OK code (fun(x:ACL) (y:ACb)=>y.1.length≤2^13) (KO n k code i h c.1 c.2.1 b):=by
  intro n
  induction n with
  |zero=>omega
  |succ n ih=>
   intro k i h b hi hk hn hb;simp only[KO,UR];refine OK.iP (fun Jq=> ?_) (fun hge=>OK.some hi (by grind));refine OK.pure (Ew (c:=(c.1,c.2.1,())) (by grind) (by omega)) ?_
   dsimp only;refine OK.cond (fun _=> ?_) (fun _=>OK.some hi (by grind));refine OK.pure (My (by omega)) ?_
   dsimp only;rw[AL (by omega) (by omega),show((k:Int)+1)=((k+1:Nat):Int)by omega];have:=T5 (n:=(k:Int)) (l:=b);exact ih (k+1) _ _ _ hi (by omega) (by omega) (by omega)
 unfold LR UE;grind[OK.bind,uV,Ae,Ag]
end
theorem AHT{x:Int}:DJ (IntKind.wrap .i64 x):=by
 grind[DJ,IntKind.wrap,IntKind.bits,IntKind.signed]
theorem AQI{a b:Int}:DJ (bOr .i64 a b):=by
 unfold bOr;exact AHT
theorem t_{l:AAH}(hl:l.length≤2^20):∃r,LG l=some ((r,()),())∧DJ r:=by
 have key:∀(n k:Nat) (t:Int),(∀x∈l,0≤x)→DJ t→k≤l.length→l.length-k<n→ ∃r,KH n l t k=some ((r,()),())∧DJ r:=by
  intro n
  induction n with
  |zero=>omega
  |succ n ih=>
   intro k t hp ht hk hn;simp only[KH,T0,AB];by_cases Jq:k<l.length
   ·rw[ALI (by omega),ALI (by omega),Ak Jq,ALT (by simp_all),AL (x:=(k:Int)+1) (by omega) (by omega),show((k:Int)+1)=((k+1:Nat):Int)by omega]
    grind[AQI]
   grind
 unfold LG UG;rw[eu (by omega)];simp only[AD,A3];rcases AK7 (pk l 7)with ha|ha
 ·rw[ha]
  exact key Ae 0 0 (fun x hx=>((wX.1 ha).1 x hx).1) (by unfold DJ;omega) (by omega) (Ag (by omega))
 ·rw[ha]
  exact⟨-1,rfl,by unfold DJ;omega⟩
end Go.M
end
section
set_option maxRecDepth 8000
namespace Go.M
open Go.M.H (AJ AN Au Ac AA CX AQ A9 AM Ab BG As BO An Ca Af AW AZ Ar CL BU Ax BD Es Ch DF DN)
abbrev hI:BO×Unit→Unit→Prop:=fun x _=>DJ x.1.2.1∧DJ x.1.2.2.1∧DJ x.1.2.2.2.1∧x.1.2.2.2.2.1.length≤40
theorem AD_(x:Int):DJ (AX x):=by
 grind[AX,IntKind.wrap,DJ,IntKind.bits,IntKind.signed]
theorem P1{x:Int}(h: -1000≤x∧x≤1000):DJ x:=by unfold DJ;omega
section
variable{code:AAH} (hc:code.length≤2^30) {w:AA} (h:Ml w)
include hc h
theorem Ml.AFQ{e:Int}(he:1≤e∧e≤w.AY.length):0<(Ap w.AY e).length∧(Ap w.AY e).length≤8∧ ∀x∈Ap w.AY e,0≤x∧x<8:=by
 have hh:=(h.lf.AY _ (BV (d:=GL) (show(e-1).toNat<(B7 w).1.length by show _<w.AY.length;omega))).1;have hn:=Ny hh;have cu:=(Fq h.cfg).2.1;unfold Ap;rw[Ai.2 he,ALI rfl];refine⟨?_,Hr hn,fun x hx=> ?_⟩
 ·rcases AWx (w.AY.getD (e-1).toNat GL).1.length with h0|h0
  ·have th:=APc h0
   have hh':holds (AS w) (w.AY.getD (e-1).toNat GL).1=true:=hh;grind[holds_nil]
  omega
 ·have:=(EN.1 hn).2.1 x hx
  omega
theorem tW(hw:0<w.AH.length){i hh:Int}(hi:G3 code i):OK code hI (Gc w code i hh):=by
 have k:=h.nums;have k2:=k.wr;have k5:=k.era;have qY:0<w.2.2.2.2.2.2.1.length:=hw;have tail:∀(j:Int),0≤j→j<(w.2.2.2.2.2.2.1.length:Int)→ ∀i hh,G3 code i→OK code hI (
   (Cd (w.2.2.2.2.1,w.2.2.2.2.2.1,()) ((w.2.2.2.2.2.2.1.getD (j.toNat) (0,[],())).1)).bind fun wZ=>
   (Am (wZ.2.1.length:Int) code i hh).bind fun SO=>
   if(0:Int)≤SO.1.1∧SO.1.1<(wZ.2.1.length:Int)then(
   cond ((((w.2.2.2.2.2.2.1.getD (j.toNat) (0,[],())).2.1).length:Int)==0)
    ((Is [[],[97],[98,99],[100]] SO.2.1.1 SO.2.1.2.1 SO.2.1.2.2.1).bind fun Y_=>
    some (((2,j,0,0,Y_.1.1,()),()),((Y_.2.1.1,Y_.2.1.2.1,Y_.2.1.2.2.1,()),())))
   ((B8 7 SO.2.1.1 SO.2.1.2.1 SO.2.1.2.2.1).bind fun XY=>
   cond (XY.1.1)
    ((Is [[],[97],[98,99],[100]] XY.2.1.1 XY.2.1.2.1 XY.2.1.2.2.1).bind fun fC=>
    some (((2,j,0,0,fC.1.1,()),()),((fC.2.1.1,fC.2.1.2.1,fC.2.1.2.2.1,()),())))
   ((B8 3 XY.2.1.1 XY.2.1.2.1 XY.2.1.2.2.1).bind fun m_=>
   cond (m_.1.1)
    (some (((4,(wZ.2.1.getD (SO.1.1.toNat) 0),0,0,[],()),()),((m_.2.1.1,m_.2.1.2.1,m_.2.1.2.2.1,()),())))
   ((TJ (((w.2.2.2.2.2.2.1.getD (j.toNat) (0,[],())).2.1).length:Int) 3).bind fun uh=>
   (Am uh.1.1 m_.2.1.1 m_.2.1.2.1 m_.2.1.2.2.1).bind fun XX=>
   some (((3,j,AX ((((w.2.2.2.2.2.2.1.getD (j.toNat) (0,[],())).2.1).length:Int)-XX.1.1),(wZ.2.1.getD (SO.1.1.toNat) 0),[],()),()),((XX.2.1.1,XX.2.1.2.1,XX.2.1.2.2.1,()),()))))))else none):=by
  intro j hj0 hj1 i hh hi;have hx:=h.AH _ (BV (d:=Bo) (show j.toNat<w.AH.length by simp_all));have he:=hx.1.ep;obtain⟨e1,e2,e3⟩:=h.AFQ hc (e:=(w.AH.getD j.toNat Bo).1) ⟨he.1,hx.2⟩;refine OK.pure (FF (r:=B7 w) (by show Af CL w.2.2.2.2.1≤_;omega)) ?_
  dsimp only
  generalize za:Ap (B7 w).1 (w.2.2.2.2.2.2.1.getD j.toNat (0,[],())).1=ns
  have ARl:Ap w.AY (w.AH.getD j.toNat Bo).1=ns:=za;rw[ARl]at e1 e2 e3;refine OK.bind (PW hc hi (by omega)) fun x i1 h1 y eJ hq=> ?_
  dsimp only at*;refine OK.ite (by omega) ?_
  have gm:DJ (ns.getD x.1.toNat 0):=P1 (by grind[BV]);have hjj:DJ j:=P1 (by omega);have z:DJ 0:=P1 (by omega)
  repeat' (first|refine OK.some (by assumption) ?_|refine OK.iP (fun _=> ?_) (fun _=> ?_)|refine OK.sK (fun _=> ?_) (fun _=> ?_)|refine OK.cond (fun _=> ?_) (fun _=> ?_)|refine OK.ite (by omega) ?_|(refine OK.bind (aS (by assumption) (by assumption) (by omega)) fun x i h y hi hq=> ?_;dsimp only)|(refine OK.bind (PW (by assumption) (by assumption) (by omega)) fun x i h y hi hq=> ?_;dsimp only at*)|(refine OK.bind (tq (by assumption) (by assumption) (by simp) (by simp)) fun x i h y hi hq=> ?_;dsimp only)|(refine OK.pure Yl ?_;dsimp only)|(refine OK.pure Kj ?_;dsimp only))
  all_goals refine⟨?_,?_,?_,?_⟩
  all_goals first
   |assumption
   |exact AD_ _
   |exact AW1 _
   |grind
 unfold Gc;dsimp only;have e1:AX ((w.2.2.2.2.2.2.1.length:Int)-1)=(w.2.2.2.2.2.2.1.length:Int)-1:=AL (by omega) (by omega);simp only[e1];refine OK.bind (PW hc hi (by omega)) fun x i1 h1 y eJ hq=> ?_
 dsimp only at*;refine OK.bind (aS hc eJ (by omega)) fun x2 i2 h2 y2 zG hq2=> ?_
 dsimp only at*;refine OK.cond (fun _=> ?_) (fun _=> ?_)
 ·refine OK.ite (by omega) ?_
  exact tail _ (by omega) (by omega) _ _ zG
 simp_all
end
end Go.M
end
section
set_option maxRecDepth 8000
namespace Go.M
open Go.M.H (AJ AN Au Ac AA CX AQ A9 AM Ab BG As BO An Ca Af AW AZ Ar CL BU Ax BD Es Ch DF DN)
section
variable{code:AAH} (hc:code.length≤2^30) {w:AA} (h:Ml w)
include hc h
theorem wT{m:Au}(hm:pV (AS w) m){t7:Int}(h7:DJ t7):∀(n k:Nat) (t8 i hh:Int),DJ t8→G3 code i→k≤m.2.2.2.2.2.1.length→m.2.2.2.2.2.1.length-k<n→
  OK code hI (Fz n t7 t8 k code i hh w.1 w.2.1 w.2.2.1 w.2.2.2.1 w.2.2.2.2.1 w.2.2.2.2.2.1 w.2.2.2.2.2.2.1 w.2.2.2.2.2.2.2.1 w.2.2.2.2.2.2.2.2.1 w.2.2.2.2.2.2.2.2.2.1 w.2.2.2.2.2.2.2.2.2.2.1 0 0 0 0 [] m.1 m.2.1 m.2.2.1 m.2.2.2.1 m.2.2.2.2.1 m.2.2.2.2.2.1):=by
 have k1:=h.nums.c;have uk:m.2.2.2.2.2.1.length≤60:=by
  have:=hm.n;have hb:=Gm (l:=m.2.2.2.1);split at this<;>omega
 intro n
 induction n with
 |zero=>intro k t8 i hh _ _ _ h;omega
 |succ n ih=>
  intro k t8 i hh h8 hi hk hn;have hk8:DJ ((k+1:Nat):Int):=P1 (by omega);simp only[Fz,Qh];refine OK.iP (fun Jq=> ?_) (fun hge=>OK.some hi ⟨P1 (by show-1000≤(0:Int)∧(0:Int)≤1000;omega),h8,h7,AW1 _⟩);have AYN:k<m.2.2.2.2.2.1.length:=by omega
  refine OK.ite (by omega) ?_
  rw[AL (x:=(k:Int)+1) (by omega) (by omega),show((k:Int)+1)=((k+1:Nat):Int)by omega];have vm:=Hr (hm.wrote _ (BV (d:=[]) AYN));refine OK.pure (Ew (c:=AS w) (by show w.1.length≤_;omega) (by show(m.2.2.2.2.2.1.getD k []).length≤_;omega)) ?_
  dsimp only;refine OK.cond (fun _=> ?_) (fun _=>ih (k+1) _ _ _ h8 hi (by omega) (by omega));refine OK.bind (aS hc hi (by omega)) fun x2 i2 h2 y2 zG hq2=> ?_
  dsimp only;exact OK.cond (fun _=>ih (k+1) _ _ _ hk8 zG (by omega) (by omega)) (fun _=>ih (k+1) _ _ _ h8 zG (by omega) (by omega))
theorem xC{i hh:Int}(hi:G3 code i):OK code hI (LB w code i hh):=by
 have k:=h.nums;have k5:=k.era;unfold LB Rh;have z:DJ 0:=P1 (by omega);refine OK.sK (fun _=>OK.some hi ⟨z,z,z,AW1 _⟩) (fun bM=> ?_);have hlen:0<w.BW.length:=by show 0<w.2.2.2.2.2.2.2.1.length;omega
 refine OK.ite (by omega) ?_
 have hmm:=h.BW _ (BV (d:=Ql) hlen)
 generalize hg:w.2.2.2.2.2.2.2.1.getD 0 (0,0,[],[],false,[],())=m
 have vt:w.BW.getD 0 Ql=m:=hg;rw[vt]at hmm;obtain⟨hm,hm2,hm3⟩:=hmm;have he:=hm.ep;have hb:=hm.b;obtain⟨e1,e2,e3⟩:=h.AFQ hc (e:=m.2.1) ⟨he.1,by omega⟩;have uk:m.2.2.2.2.2.1.length≤60:=by
  have:=hm.n;have hb:=Gm (l:=m.2.2.2.1);split at this<;>omega
 refine OK.pure (FF (r:=B7 w) (by show Af CL w.2.2.2.2.1≤_;omega)) ?_
 dsimp only
 generalize za:Ap (B7 w).1 m.2.1=ns
 have ARl:Ap w.AY m.2.1=ns:=za;rw[ARl]at e1 e2 e3;refine OK.bind (PW hc hi (by omega)) fun x i1 h1 y eJ hq=> ?_
 dsimp only at*;refine OK.ite (by omega) ?_
 have gm:DJ (ns.getD x.1.toNat 0):=P1 (by have:=e3 _ (BV (l:=ns) (i:=x.1.toNat) (d:=0) (by omega));omega);have fin:∀t8 i hh,DJ t8→G3 code i→OK code hI (Fz Ae (ns.getD x.1.toNat 0) t8 0 code i hh w.1 w.2.1 w.2.2.1 w.2.2.2.1 w.2.2.2.2.1 w.2.2.2.2.2.1 w.2.2.2.2.2.2.1 w.2.2.2.2.2.2.2.1 w.2.2.2.2.2.2.2.2.1 w.2.2.2.2.2.2.2.2.2.1 w.2.2.2.2.2.2.2.2.2.2.1 0 0 0 0 [] m.1 m.2.1 m.2.2.1 m.2.2.2.1 m.2.2.2.2.1 m.2.2.2.2.2.1):=fun t8 i hh h8 hi=>
  wT hc h hm gm Ae 0 t8 i hh h8 hi (by omega) (Ag (by omega))
 repeat' (first|refine OK.some (by assumption) ?_|refine OK.iP (fun _=> ?_) (fun _=> ?_)|refine OK.sK (fun _=> ?_) (fun _=> ?_)|refine OK.cond (fun _=> ?_) (fun _=> ?_)|refine OK.ite (by omega) ?_|(refine OK.bind (aS (by assumption) (by assumption) (by omega)) fun x i h y hi hq=> ?_;dsimp only)|(refine OK.bind (PW (by assumption) (by assumption) (by omega)) fun x i h y hi hq=> ?_;dsimp only at*)|(refine OK.bind (tq (by assumption) (by assumption) (by simp) (by simp)) fun x i h y hi hq=> ?_;dsimp only)|(refine OK.pure Yl ?_;dsimp only)|(refine OK.pure Kj ?_;dsimp only))
 all_goals first
  |exact fin _ _ _ (AD_ _) (by assumption)
  |exact⟨z,z,z,AW1 _⟩
  |exact⟨gm,z,z,AW1 _⟩
theorem vy{i hh:Int}(hi:G3 code i):OK code hI (Ol w code i hh):=by
 have k:=h.nums;have k1:=k.c;have k2:=k.wr;have k3:=k.lost;have k4:=k.st;have k5:=k.era;have k6:=k.se;have k7:=k.aB;have yN:=(Fq h.cfg).1;have Abg:1≤w.1.length:=yN;have z:DJ 0:=P1 (by omega);have Wb:∀i hh,G3 code i→OK code hI ((LR (w.1,w.2.1,()) code i hh).bind fun u3=>
   (LG u3.2.2.1).bind fun u4=>
   some (((1,u4.1.1,0,0,[],()),()),((u3.2.1.1,u3.2.1.2.1,u3.2.1.2.2.1,()),()))):=fun i hh hi=>by
  refine OK.bind (x_ hc (c:=(w.1,w.2.1,())) (by show w.1.length≤_;omega) hi) fun x i1 h1 y eJ hq=> ?_
  dsimp only;obtain⟨r,hr,hr2⟩:=t_ (l:=y.1) (by omega);refine OK.pure hr ?_
  exact OK.some eJ ⟨hr2,z,z,AW1 _⟩
 have AD1:∀j:Nat,DJ (w.2.2.2.2.2.2.2.2.2.1.getD j (0,[],false,())).1:=fun j=>by
  by_cases hj:j<w.2.2.2.2.2.2.2.2.2.1.length
  ·exact Jd (h.Aq _ (BV (d:=MW) hj)).1
  ·rw[List.getD,ASu (by omega)];exact z
 have AAj:DJ (w.2.2.2.1.getD 0 0):=by
  by_cases hj:0<w.2.2.2.1.length
  ·have:=(EN.1 h.lost).2.1 _ (BV (d:=0) hj)
   have hc8:(AS w).1.length≤8:=k1;have Abr:0≤w.2.2.2.1.getD 0 0∧w.2.2.2.1.getD 0 0<(AS w).1.length:=this;exact P1 (by omega)
  ·rw[List.getD,ASu (by omega)];exact z
 unfold Ol;refine OK.sK (fun _=>Wb _ _ hi) (fun bM=> ?_);have hw0:0<w.AH.length:=by show 0<w.2.2.2.2.2.2.1.length;omega
 have hwr:∀i hh,G3 code i→OK code hI ((Gc w code i hh).bind fun lP=>
   some (((lP.1.1.1,lP.1.1.2.1,lP.1.1.2.2.1,lP.1.1.2.2.2.1,lP.1.1.2.2.2.2.1,()),()),((lP.2.1.1,lP.2.1.2.1,lP.2.1.2.2.1,()),()))):=fun i hh hi=>
  OK.bind (tW hc h hw0 hi) fun x i1 h1 y eJ hq=>OK.some eJ hq
 have SU:∀i hh,G3 code i→OK code hI ((LB w code i hh).bind fun lP=>
   some (((lP.1.1.1,lP.1.1.2.1,lP.1.1.2.2.1,lP.1.1.2.2.2.1,lP.1.1.2.2.2.2.1,()),()),((lP.2.1.1,lP.2.1.2.1,lP.2.1.2.2.1,()),()))):=fun i hh hi=>
  OK.bind (xC hc h hi) fun x i1 h1 y eJ hq=>OK.some eJ hq
 rw[show(w.1,w.2.1,w.2.2.1,w.2.2.2.1,w.2.2.2.2.1,w.2.2.2.2.2.1,w.2.2.2.2.2.2.1,w.2.2.2.2.2.2.2.1,w.2.2.2.2.2.2.2.2.1,w.2.2.2.2.2.2.2.2.2.1,w.2.2.2.2.2.2.2.2.2.2.1,())=w from rfl];refine OK.bind (aS hc hi (by omega)) fun x2 i2 h2 y2 zG hq2=> ?_
 dsimp only;refine OK.cond (fun _=>Wb _ _ zG) (fun _=> ?_);refine OK.bind (PW hc zG (by omega)) fun x3 i3 h3 y3 hi3 hq3=> ?_
 dsimp only at*;have hx3:DJ x3.1:=P1 (by omega)
 repeat' first
  |exact hwr _ _ (by assumption)
  |exact SU _ _ (by assumption)
  |(refine OK.pure (NU (r:=B7 w) (by show w.2.2.2.2.1.length≤_;omega)) ?_;dsimp only)
  |(first|refine OK.some (by assumption) ?_|refine OK.iP (fun _=> ?_) (fun _=> ?_)|refine OK.sK (fun _=> ?_) (fun _=> ?_)|refine OK.cond (fun _=> ?_) (fun _=> ?_)|refine OK.ite (by omega) ?_|(refine OK.bind (aS (by assumption) (by assumption) (by omega)) fun x i h y hi hq=> ?_;dsimp only)|(refine OK.bind (PW (by assumption) (by assumption) (by omega)) fun x i h y hi hq=> ?_;dsimp only at*)|(refine OK.bind (tq (by assumption) (by assumption) (by simp) (by simp)) fun x i h y hi hq=> ?_;dsimp only)|(refine OK.pure Yl ?_;dsimp only)|(refine OK.pure Kj ?_;dsimp only))
 all_goals refine⟨?_,?_,?_,AW1 _⟩
 all_goals first
  |exact z
  |exact hx3
  |exact AD1 _
  |exact AAj
  |(refine P1 ?_;dsimp only;omega)
end
end Go.M
end
section
set_option maxRecDepth 8000
namespace Go.M
open Go.M.H (AJ AN Au Ac AA CX AQ A9 AM Ab BG As BO An Ca Af AW AZ Ar CL BU Ax BD Es Ch DF DN)
theorem dk{s:AAH}{p:Int}:∀{l:List As} {b:Option AJ},(∀x,b=some x→EU x=true)→ ∀x,FW s p b l=some x→EU x=true
 |[],b,hb,x,h=>hb x h
 |a::l,b,hb,x,h=>by
  simp only[FW]at h;split at h
  ·rename_i hc
   simp only[ALp]at hc;refine dk (l:=l) ?_ x h
   intro z hz;split at hz
   ·rename_i z' hz'
    unfold better at hz;grind
   simp_all
  ·exact dk (l:=l) hb x h
theorem kj{c:CK}{g:AQ}{sure:Int}{r:Ab}{l:List As}(h:∀e∈r.2.2.1,e.2.2.1.length≤40)(h0:(B4 c g sure r l).2=0):∀e∈(B4 c g sure r l).1.2.2.1,e.2.2.1.length≤40:=by
 have app:∀(ev:BG),ev.2.2.1.length≤40→ ∀e∈r.2.2.1++[ev],e.2.2.1.length≤40:=fun ev hev e he=>by
  grind
 have hf:∀p,(HK p (FW (g.1.getD (r.1-1).toNat GL).1 p none l)).2.2.1.length≤40:=fun p=>by
  cases hb:FW (g.1.getD (r.1-1).toNat GL).1 p none l with
  |none=>show 0≤40;omega
  |some x=>
   have:=(FR.1 (dk (b:=none) (fun x hx=>by cases hx) x hb)).len;unfold HK;dsimp only;split
   all_goals simp_all
 revert h0
 unfold B4;dsimp only;split
 ·omega
 split
 ·omega
 split
 ·grind
 split
 ·grind
 split
 ·omega
 split
 all_goals grind
theorem BF{w:AA}{n:Int}{q:AN×Bool}:(putAt w n q).1.Aa=w.Aa:=by
 grind[putAt]
theorem tL{w:AA}{a k:Int}(h:RdS w):RdS (IY w a k).1:=by
 unfold IY;split
 ·omega
 dsimp only;split
 ·omega
 rename_i h2;intro r hr;rcases ASw hr with hr|rfl
 ·exact h r hr
 ·refine kj ?_ (by omega)
  by_cases hl:a.toNat<w.Aa.length
  ·exact h _ (BV hl)
  simp_all
theorem DZ{w w':AA}(h:RdS w)(e:w'.Aa=w.Aa):RdS w':=by
 unfold RdS;rw[e];exact h
theorem ye{all:Bool}{w:AA}{d:BO}(h:RdS w):RdS (LN all w d).1:=by
 unfold LN;by_cases c:d.1=1
 ·rw[ALI c]
  grind[DZ,MK,BF]
 rw[ALT c];clear c;by_cases c:d.1=2
 ·rw[ALI c]
  grind[DZ,doAdd,BF]
 rw[ALT c];clear c;by_cases c:d.1=3
 ·rw[ALI c]
  grind[DZ,IW,BF]
 rw[ALT c];clear c;by_cases c:d.1=4
 ·rw[ALI c]
  grind[DZ,Jn,BF]
 rw[ALT c];clear c;by_cases c:d.1=5
 ·rw[ALI c]
  grind[DZ,Ib,BF]
 rw[ALT c];clear c;by_cases c:d.1=6
 ·rw[ALI c]
  grind[DZ,MC,BF]
 rw[ALT c];clear c;by_cases c:d.1=7
 ·rw[ALI c]
  grind[DZ,ME,BF]
 rw[ALT c];clear c;by_cases c:d.1=8
 ·rw[ALI c]
  grind[DZ,L5,BF]
 rw[ALT c];clear c;by_cases c:d.1=9
 ·rw[ALI c]
  grind[DZ,MH,BF]
 rw[ALT c];clear c;by_cases c:d.1=10
 ·rw[ALI c]
  grind[DZ,MJ,BF]
 rw[ALT c];clear c;by_cases c:d.1=11
 ·rw[ALI c]
  grind[DZ,Rf,BF]
 rw[ALT c];clear c;by_cases c:d.1=12
 ·rw[ALI c]
  grind[DZ,Ie,BF]
 rw[ALT c];clear c;by_cases c:d.1=13
 ·rw[ALI c]
  grind[DZ,Nw,BF]
 rw[ALT c];clear c;by_cases c:d.1=14
 ·rw[ALI c];exact tL h
 rw[ALT c];clear c;by_cases c:d.1=15
 ·rw[ALI c]
  grind[DZ,NF,BF]
 rw[ALT c];grind[DZ,Ii,BF]
theorem qh{c:CK}{g:AQ}{sure:Int}{r:Ab}{l:List As}(h:∀e∈r.2.2.1,DJ e.2.1)(h0:(B4 c g sure r l).2=0):∀e∈(B4 c g sure r l).1.2.2.1,DJ e.2.1:=by
 have app:∀(ev:BG),DJ ev.2.1→ ∀e∈r.2.2.1++[ev],DJ e.2.1:=fun ev hev e he=>by
  grind
 have hf:∀p b,(HK p b).2.1=p:=fun p b=>by
  cases b with
  |none=>rfl
  |some x=>grind[HK]
 revert h0
 unfold B4;dsimp only;split
 ·omega
 rename_i Bz;have AUK:Mk c g=true∧Wp r=true:=by
  simp_all
 have hrg:=(I1.1 AUK.1).tin;have Yv:=Qg.1 AUK.2;have hre:=Yv.ep;have hro:=Yv.off;split
 ·omega
 split
 ·grind
 split
 ·grind[P1]
 split
 ·omega
 split
 ·omega
 intro _;refine app _ ?_
 grind[DJ,D9]
theorem ABL{w:AA}{a k:Int}(h:gJ w):gJ (IY w a k).1:=by
 unfold IY;split
 ·omega
 dsimp only;split
 ·omega
 rename_i h2;intro r hr;rcases ASw hr with hr|rfl
 ·exact h r hr
 ·refine qh ?_ (by omega)
  by_cases hl:a.toNat<w.Aa.length
  ·exact h _ (BV hl)
  simp_all
theorem Fv{w w':AA}(h:gJ w)(e:w'.Aa=w.Aa):gJ w':=by
 unfold gJ;rw[show w'.2.2.2.2.2.2.2.2.1=w.2.2.2.2.2.2.2.2.1 from e];exact h
theorem AHh{all:Bool}{w:AA}{d:BO}(h:gJ w):gJ (LN all w d).1:=by
 unfold LN;by_cases c:d.1=1
 ·rw[ALI c]
  grind[Fv,MK,BF]
 rw[ALT c];clear c;by_cases c:d.1=2
 ·rw[ALI c]
  grind[Fv,doAdd,BF]
 rw[ALT c];clear c;by_cases c:d.1=3
 ·rw[ALI c]
  grind[Fv,IW,BF]
 rw[ALT c];clear c;by_cases c:d.1=4
 ·rw[ALI c]
  grind[Fv,Jn,BF]
 rw[ALT c];clear c;by_cases c:d.1=5
 ·rw[ALI c]
  grind[Fv,Ib,BF]
 rw[ALT c];clear c;by_cases c:d.1=6
 ·rw[ALI c]
  grind[Fv,MC,BF]
 rw[ALT c];clear c;by_cases c:d.1=7
 ·rw[ALI c]
  grind[Fv,ME,BF]
 rw[ALT c];clear c;by_cases c:d.1=8
 ·rw[ALI c]
  grind[Fv,L5,BF]
 rw[ALT c];clear c;by_cases c:d.1=9
 ·rw[ALI c]
  grind[Fv,MH,BF]
 rw[ALT c];clear c;by_cases c:d.1=10
 ·rw[ALI c]
  grind[Fv,MJ,BF]
 rw[ALT c];clear c;by_cases c:d.1=11
 ·rw[ALI c]
  grind[Fv,Rf,BF]
 rw[ALT c];clear c;by_cases c:d.1=12
 ·rw[ALI c]
  grind[Fv,Ie,BF]
 rw[ALT c];clear c;by_cases c:d.1=13
 ·rw[ALI c]
  grind[Fv,Nw,BF]
 rw[ALT c];clear c;by_cases c:d.1=14
 ·rw[ALI c];exact ABL h
 rw[ALT c];clear c;by_cases c:d.1=15
 ·rw[ALI c]
  grind[Fv,NF,BF]
 rw[ALT c];grind[Fv,Ii,BF]
theorem yV{all:Bool}{w:AA}{d:BO}(h:gJ w)(e:(DL all w d).2=0):gJ (DL all w d).1:=by
 unfold DL at*;by_cases hc:(!IM w|| !PG d)=true
 ·simp_all
 ·rw[ALT hc];exact AHh h
theorem wc{c:CK}:gJ (Em c):=fun r hr=>by
 have:r=(1,1,[],()):=by
  have hr':r∈([(1,1,[],()),(1,1,[],())]:List Ab):=hr;simp_all
 simp_all
theorem qa{all:Bool}{w:AA}{d:BO}(h:RdS w)(e:(DL all w d).2=0):RdS (DL all w d).1:=by
 unfold DL at*;by_cases hc:(!IM w|| !PG d)=true
 ·simp_all
 ·rw[ALT hc];exact ye h
theorem cf{c:CK}(hc:E6 c=true):Ml (Em c)∧RdS (Em c):=by
 refine⟨⟨hc,by simp[Em,H.AA.Aj],dJ hc,.inr holds_nil,fun i hi=> ?_,⟨hc,by show 0≤30;omega,.inl rfl,fun e he=>(by cases he),fun i hi=>by exact absurd hi (by show¬i<0;omega)⟩,by show 0≤4;omega,by show 0≤1;omega,fun x hx=>(by cases hx),List.Pairwise.nil,fun x hx=>(by cases hx),rfl,fun r hr=> ?_,by show 0≤120;omega,fun x hx=>(by cases hx),List.Pairwise.nil⟩,fun r hr=> ?_⟩
 ·have:(Em c).Aj.getD i Ci=Ci:=by
   show(List.replicate c.1.length Ci).getD i Ci=Ci
   grind
  rw[this];exact⟨eR.nil,fun _=>rfl⟩
 ·have:r=(1,1,[],()):=by
   have hr':r∈([(1,1,[],()),(1,1,[],())]:List Ab):=hr;simp_all
  subst this;exact⟨by omega,by simp_all,by simp_all⟩
 ·have:r=(1,1,[],()):=by
   have hr':r∈([(1,1,[],()),(1,1,[],())]:List Ab):=hr;simp_all
  simp_all
theorem jt{c:CK}(hc:E6 c=true):HZ c=some (((((),c.2.1,(),(),(),0,(),(),(),(),false,()),true,()),()),(c.1,List.replicate c.1.length Ci,[],[],[],[],[(1,1,[],()),(1,1,[],())],[],())):=by
 have hl:=(Fq hc).2.1;unfold HZ;rw[show(c.1,c.2.1,())=c from rfl,HH (by omega),hc];simp only[AD,ALu,ALz];rw[ALI (by rw[BT];omega),ALI ⟨by omega,by omega,by rw[BT];omega⟩];rfl
section
variable{code:AAH} (hc:code.length≤2^30)
include hc
end
end Go.M
end
section
set_option maxRecDepth 8000
namespace Go.M
open Go.M.H (AJ AN Au Ac AA CX AQ A9 AM Ab BG As BO An Ca Af AW AZ Ar CL BU Ax BD Es Ch DF DN)
theorem Dm{l:AAH}(h:l.length≤2^30):DG l=some (((),()),(l,())):=by
 unfold DG;rw[ALI (by rw[BT];omega)]
theorem VG{l:List AJ}(h:l.length≤2^30):I6 l=some (((),()),(l,())):=by
 unfold I6;rw[ALI (by rw[BT];omega)]
theorem W5{r:Ab}(h:r.2.2.1.length≤2^30):Mr r=some (((r.1,r.2.1,(),()),()),(r.2.2.1,())):=by
 unfold Mr;rw[ALI (by rw[BT];omega)]
theorem fI{c:CK}(h:c.1.length≤2^30):Py c=some ((((),c.2.1,()),()),(c.1,())):=by
 grind[Py,Dm]
theorem H8{s:AN}(h1:s.1.length≤2^30)(h2:s.2.1.length≤2^30):C9 s=some ((((),(),s.2.2.1,()),()),(s.1,s.2.1,())):=by
 grind[C9,VG]
theorem Hq{r:AQ}(h:Af CL r.1≤2^30):ET r=some ((((),r.2.1,()),()),(r.1,())):=by
 have hl:=AW (f:=CL) (l:=r.1);have key:∀(n i:Nat) (acc:List CX),i≤r.1.length→r.1.length-i<n→acc.length≤i→Hp n r.1 r.1.length i 0 [] r.2.1 acc=some ((((),r.2.1,()),()),(acc++r.1.drop i,())):=by
  intro n
  induction n with
  |zero=>omega
  |succ n ih=>
   intro i acc hi hn ha;simp only[Hp,Qc,AB];by_cases hc:i<r.1.length
   ·have hm:=AZ (f:=CL) (AL5 hc)
    have hw:CL r.1[i]=r.1[i].1.length:=rfl;rw[ALI (by omega),ALI (by omega),Ak hc,Dm (by omega),AL (by omega) (by omega),show((i:Int)+1)=((i+1:Nat):Int)by omega];simp only[AD];rw[ALI (by rw[BT];omega),ih (i+1) _ (by omega) (by omega) (by simp_all),drop_cons hc,AM4];rfl
   grind
 grind[ET,Q0,Ae,Ag]
theorem JQ{x:AM}(h:Ax x≤2^30):Fo x=some (((x.1,(),()),()),(x.2.1,())):=by
 have h':Af BU x.2.1≤2^30:=h;have hl:=AW (f:=BU) (l:=x.2.1);have key:∀(n i:Nat) (acc:List A9),i≤x.2.1.length→x.2.1.length-i<n→acc.length≤i→Jc n x.2.1 x.2.1.length i 0 [] x.1 acc=some (((x.1,(),()),()),(acc++x.2.1.drop i,())):=by
  intro n
  induction n with
  |zero=>omega
  |succ n ih=>
   intro i acc hi hn ha;simp only[Jc,Sc,AB];by_cases hc:i<x.2.1.length
   ·have hm:=AZ (f:=BU) (AL5 hc)
    have hw:BU x.2.1[i]=x.2.1[i].1.length+x.2.1[i].2.1.length:=rfl;rw[ALI (by omega),ALI (by omega),Ak hc,Dm (by omega),AL (by omega) (by omega),show((i:Int)+1)=((i+1:Nat):Int)by omega];simp only[AD];rw[ALI (by rw[BT];omega),ih (i+1) _ (by omega) (by omega) (by simp_all),drop_cons hc,AM4];rfl
   grind
 grind[Fo,Sq,Ae,Ag]
theorem HL{m:Au}(h:Ca m≤2^30):GQ m=some (((m.1,m.2.1,(),(),m.2.2.2.2.1,(),()),()),(m.2.2.1,m.2.2.2.1,m.2.2.2.2.2.1,())):=by
 have h':m.2.2.1.length+Af Ar m.2.2.2.1+Af DN m.2.2.2.2.2.1≤2^30:=h;have hl:=AW (f:=DN) (l:=m.2.2.2.2.2.1);have xQ:=AW (f:=Ar) (l:=m.2.2.2.1);have key:∀(n i:Nat) (acc:List AAH),i≤m.2.2.2.2.2.1.length→m.2.2.2.2.2.1.length-i<n→acc.length≤i→LS n m.2.2.2.2.2.1 m.2.2.2.2.2.1.length i 0 0 false [] [] [] m.1 m.2.1 m.2.2.2.2.1 m.2.2.1 m.2.2.2.1 acc=some (((m.1,m.2.1,(),(),m.2.2.2.2.1,(),()),()),(m.2.2.1,m.2.2.2.1,acc++m.2.2.2.2.2.1.drop i,())):=by
  intro n
  induction n with
  |zero=>omega
  |succ n ih=>
   intro i acc hi hn ha;simp only[LS,VE,AB];by_cases hc:i<m.2.2.2.2.2.1.length
   ·have hm:=AZ (f:=DN) (AL5 hc)
    have hw:DN m.2.2.2.2.2.1[i]=m.2.2.2.2.2.1[i].length:=rfl;rw[ALI (by omega),ALI (by omega),Ak hc,Dm (by omega),AL (by omega) (by omega),show((i:Int)+1)=((i+1:Nat):Int)by omega];simp only[AD];rw[ALI (by rw[BT];omega),ih (i+1) _ (by omega) (by omega) (by simp_all),drop_cons hc,AM4];rfl
   grind
 grind[GQ,U6,Dm,VG,AD,Ae,Ag]
section
variable{w:AA} (h:jX w)
include h
theorem AEK:∀(n i:Nat) (D2:List AN) (ER:List AM) (E8:List Au) (Fh:List Ab),i≤w.2.2.2.2.2.2.2.2.1.length→w.2.2.2.2.2.2.2.2.1.length-i+1≤n→Fh.length≤i→
  Eu n w.2.2.2.2.2.2.2.2.1 w.2.2.2.2.2.2.2.2.1.length i w.1 w.2.1 w.2.2.1 w.2.2.2.1 w.2.2.2.2.1 w.2.2.2.2.2.1 w.2.2.2.2.2.2.1 w.2.2.2.2.2.2.2.1 w.2.2.2.2.2.2.2.2.1 w.2.2.2.2.2.2.2.2.2.1 w.2.2.2.2.2.2.2.2.2.2.1 0 0 false [] [] [] [] [] [] [] [] w.2.1 w.2.2.2.2.2.1 w.2.2.2.2.2.2.2.2.2.2.1 w.1 D2 w.2.2.2.1 w.2.2.2.2.1 ER E8 Fh []=some ((((),w.2.1,(),(),(),w.2.2.2.2.2.1,(),(),(),(),w.2.2.2.2.2.2.2.2.2.2.1,()),()),(w.1,D2,w.2.2.2.1,w.2.2.2.2.1,ER,E8,(Fh++w.2.2.2.2.2.2.2.2.1.drop i),w.2.2.2.2.2.2.2.2.2.1,())):=by
 have xQ:=h.OJ;have hl:=h.lens;intro n
 induction n with
 |zero=>omega
 |succ n ih=>
  intro i D2 ER E8 Fh hi hn hb;simp only[Eu,Sl,AB];by_cases De:i<w.2.2.2.2.2.2.2.2.1.length
  ·have hm:=AZ (f:=BD) (AL5 De)
   have hw:BD w.2.2.2.2.2.2.2.2.1[i]=Af Ch w.2.2.2.2.2.2.2.2.1[i].2.2.1:=rfl;have hlw:=AW (f:=Ch) (l:=w.2.2.2.2.2.2.2.2.1[i].2.2.1);rw[ALI (by omega),ALI (by omega),Ak De,AL (by omega) (by omega),show((i:Int)+1)=((i+1:Nat):Int)by omega,drop_cons De];rw[show(w.2.2.2.2.2.2.2.2.1[i].1,w.2.2.2.2.2.2.2.2.1[i].2.1,w.2.2.2.2.2.2.2.2.1[i].2.2.1,())=w.2.2.2.2.2.2.2.2.1[i]from rfl,W5 (by omega)];simp only[AD];rw[ALI (by rw[BT];omega),ih (i+1) _ _ _ _ (by omega) (by omega) (by simp_all),AM4];rfl
  ·rw[ALT (by omega),ALI (by rw[BT];omega),AMI (by omega),AMa]
theorem ADz:∀(n i:Nat) (D2:List AN) (ER:List AM) (E8:List Au),i≤w.2.2.2.2.2.2.2.1.length→(w.2.2.2.2.2.2.2.1.length-i)+w.2.2.2.2.2.2.2.2.1.length+2≤n→E8.length≤i→
  Ej n w.2.2.2.2.2.2.2.1 w.2.2.2.2.2.2.2.1.length i w.1 w.2.1 w.2.2.1 w.2.2.2.1 w.2.2.2.2.1 w.2.2.2.2.2.1 w.2.2.2.2.2.2.1 w.2.2.2.2.2.2.2.1 w.2.2.2.2.2.2.2.2.1 w.2.2.2.2.2.2.2.2.2.1 w.2.2.2.2.2.2.2.2.2.2.1 0 0 false [] [] [] [] [] [] [] [] w.2.1 w.2.2.2.2.2.1 w.2.2.2.2.2.2.2.2.2.2.1 w.1 D2 w.2.2.2.1 w.2.2.2.2.1 ER E8 [] []=some ((((),w.2.1,(),(),(),w.2.2.2.2.2.1,(),(),(),(),w.2.2.2.2.2.2.2.2.2.2.1,()),()),(w.1,D2,w.2.2.2.1,w.2.2.2.2.1,ER,(E8++w.2.2.2.2.2.2.2.1.drop i),w.2.2.2.2.2.2.2.2.1,w.2.2.2.2.2.2.2.2.2.1,())):=by
 have xQ:=h.OJ;have hl:=h.lens;intro n
 induction n with
 |zero=>omega
 |succ n ih=>
  intro i D2 ER E8 hi hn hb;simp only[Ej,Sk,AB];by_cases De:i<w.2.2.2.2.2.2.2.1.length
  ·have hm:=AZ (f:=Ca) (AL5 De)
   rw[ALI (by omega),ALI (by omega),Ak De,AL (by omega) (by omega),show((i:Int)+1)=((i+1:Nat):Int)by omega,drop_cons De];rw[show(w.2.2.2.2.2.2.2.1[i].1,w.2.2.2.2.2.2.2.1[i].2.1,w.2.2.2.2.2.2.2.1[i].2.2.1,w.2.2.2.2.2.2.2.1[i].2.2.2.1,w.2.2.2.2.2.2.2.1[i].2.2.2.2.1,w.2.2.2.2.2.2.2.1[i].2.2.2.2.2.1,())=w.2.2.2.2.2.2.2.1[i]from rfl,HL (by omega)];simp only[AD];rw[ALI (by rw[BT];omega),ih (i+1) _ _ _ (by omega) (by omega) (by simp_all),AM4];rfl
  ·have:=AEK h n 0 D2 ER E8 [] (by omega) (by omega) (by simp)
   grind
theorem AI9:∀(n i:Nat) (D2:List AN) (ER:List AM),i≤w.2.2.2.2.2.2.1.length→(w.2.2.2.2.2.2.1.length-i)+w.2.2.2.2.2.2.2.1.length+w.2.2.2.2.2.2.2.2.1.length+3≤n→ER.length≤i→
  FO n w.2.2.2.2.2.2.1 w.2.2.2.2.2.2.1.length i w.1 w.2.1 w.2.2.1 w.2.2.2.1 w.2.2.2.2.1 w.2.2.2.2.2.1 w.2.2.2.2.2.2.1 w.2.2.2.2.2.2.2.1 w.2.2.2.2.2.2.2.2.1 w.2.2.2.2.2.2.2.2.2.1 w.2.2.2.2.2.2.2.2.2.2.1 0 0 false [] [] [] [] [] [] [] [] w.2.1 w.2.2.2.2.2.1 w.2.2.2.2.2.2.2.2.2.2.1 w.1 D2 w.2.2.2.1 w.2.2.2.2.1 ER [] [] []=some ((((),w.2.1,(),(),(),w.2.2.2.2.2.1,(),(),(),(),w.2.2.2.2.2.2.2.2.2.2.1,()),()),(w.1,D2,w.2.2.2.1,w.2.2.2.2.1,(ER++w.2.2.2.2.2.2.1.drop i),w.2.2.2.2.2.2.2.1,w.2.2.2.2.2.2.2.2.1,w.2.2.2.2.2.2.2.2.2.1,())):=by
 have xQ:=h.OJ;have hl:=h.lens;intro n
 induction n with
 |zero=>omega
 |succ n ih=>
  intro i D2 ER hi hn hb;simp only[FO,T2,AB];by_cases De:i<w.2.2.2.2.2.2.1.length
  ·have hm:=AZ (f:=Ax) (AL5 De)
   rw[ALI (by omega),ALI (by omega),Ak De,AL (by omega) (by omega),show((i:Int)+1)=((i+1:Nat):Int)by omega,drop_cons De];rw[show(w.2.2.2.2.2.2.1[i].1,w.2.2.2.2.2.2.1[i].2.1,())=w.2.2.2.2.2.2.1[i]from rfl,JQ (by omega)];simp only[AD];rw[ALI (by rw[BT];omega),ih (i+1) _ _ (by omega) (by omega) (by simp_all),AM4];rfl
  ·have:=ADz h n 0 D2 ER [] (by omega) (by omega) (by simp)
   grind
theorem AJV:∀(n i:Nat) (D2:List AN),i≤w.2.2.1.length→(w.2.2.1.length-i)+w.2.2.2.2.2.2.1.length+w.2.2.2.2.2.2.2.1.length+w.2.2.2.2.2.2.2.2.1.length+4≤n→D2.length≤i→
  FP n w.2.2.1 w.2.2.1.length i w.1 w.2.1 w.2.2.1 w.2.2.2.1 w.2.2.2.2.1 w.2.2.2.2.2.1 w.2.2.2.2.2.2.1 w.2.2.2.2.2.2.2.1 w.2.2.2.2.2.2.2.2.1 w.2.2.2.2.2.2.2.2.2.1 w.2.2.2.2.2.2.2.2.2.2.1 0 0 false [] [] [] [] [] [] [] [] w.2.1 w.2.2.2.2.2.1 w.2.2.2.2.2.2.2.2.2.2.1 w.1 D2 w.2.2.2.1 w.2.2.2.2.1 [] [] [] []=some ((((),w.2.1,(),(),(),w.2.2.2.2.2.1,(),(),(),(),w.2.2.2.2.2.2.2.2.2.2.1,()),()),(w.1,(D2++w.2.2.1.drop i),w.2.2.2.1,w.2.2.2.2.1,w.2.2.2.2.2.2.1,w.2.2.2.2.2.2.2.1,w.2.2.2.2.2.2.2.2.1,w.2.2.2.2.2.2.2.2.2.1,())):=by
 have xQ:=h.OJ;have hl:=h.lens;intro n
 induction n with
 |zero=>omega
 |succ n ih=>
  intro i D2 hi hn hb;simp only[FP,UY,AB];by_cases De:i<w.2.2.1.length
  ·have hm:=AZ (f:=An) (AL5 De)
   have hw:=Fu (s:=w.2.2.1[i]) (by omega);rw[ALI (by omega),ALI (by omega),Ak De,AL (by omega) (by omega),show((i:Int)+1)=((i+1:Nat):Int)by omega,drop_cons De];rw[show(w.2.2.1[i].1,w.2.2.1[i].2.1,w.2.2.1[i].2.2.1,())=w.2.2.1[i]from rfl,H8 hw.1 hw.2];simp only[AD];rw[ALI (by rw[BT];omega),ih (i+1) _ (by omega) (by omega) (by simp_all),AM4];rfl
  ·have:=AI9 h n 0 D2 [] (by omega) (by omega) (by simp)
   grind
theorem iR:N2 w=some ((((),w.2.1,(),(),(),w.2.2.2.2.2.1,(),(),(),(),w.2.2.2.2.2.2.2.2.2.2.1,()),()),(w.1,w.2.2.1,w.2.2.2.1,w.2.2.2.2.1,w.2.2.2.2.2.2.1,w.2.2.2.2.2.2.2.1,w.2.2.2.2.2.2.2.2.1,w.2.2.2.2.2.2.2.2.2.1,())):=by
 have xQ:=h.OJ;have hl:=h.lens;unfold N2 UA;have:=AJV h Ae 0 [] (by omega) (ATs (Ag (by omega))) (by simp);rw[show((0:Nat):Int)=0 from rfl,ASg,ASi]at this;rw[show(w.1,w.2.1,())=AS w from rfl,fI (by show w.1.length≤_;omega),Dm (by omega),show(w.2.2.2.2.1,w.2.2.2.2.2.1,())=(B7 w)from rfl,Hq (by show Af CL w.2.2.2.2.1≤_;omega)];simp only[AD];exact this
end
end Go.M
end
