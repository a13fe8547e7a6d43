/- Plain facts on what the functions compute. -/
import Derived.Test.YtdkfcaidapdecaaGreatG1
set_option linter.unusedVariables false
set_option linter.unusedSimpArgs false
set_option linter.unusedSectionVars false
section
namespace Go.M
theorem AB{α:Type}(p:Prop)[Decidable p](a b:α):cond (decide p) a b=if p then a else b:=by
 simp_all
theorem AH{x:Int}(h1: -9223372036854775808≤x)(h2:x<9223372036854775808):AS x=x:=by
 grind[AS,IntKind.wrap,IntKind.bits,IntKind.signed]
theorem AFp{n:Nat}(h:n<9223372036854775808):AS (n:Int)=n:=AH (by omega) (by omega)
theorem AAc(n:Nat):(BitVec.ofInt 64 (n:Int)).toNat=n%2^64:=by
 rfl
theorem qH{n:Nat}(h:n<2^63):IntKind.wrap .i64 (n:Int)=n:=AFp (by omega)
theorem AD6{a b:Nat}(ha:a<2^63)(hb:b<2^63):dS .i64 a b=((a &&& b:Nat):Int):=by
 grind[dS,BitVec.ofInt,IntKind.bits,BitVec.toNat_and,AAc,Nat.mod_eq_of_lt,qH,Nat.lt_of_le_of_lt,Nat.and_le_left]
theorem AZ{n:Nat}(h:n<2^64):n<AX:=ASn h fJ
theorem Ah{α:Type}{l:List α}{i:Nat}{d:α}(h:i<l.length):l.getD ((i:Int).toNat) d=l[i]:=by
 simp_all
theorem drop_cons{α:Type}{l:List α}{i:Nat}(h:i<l.length):l.drop i=l[i]::l.drop (i+1):=(List.getElem_cons_drop h).symm
theorem An:C7=68719476736:=rfl
end Go.M
end
section
namespace Go.M
def BL(x a b:Int):Bool:=decide (a≤x∧x≤b)
theorem BR(x a b:Int):CG x a b=some ((BL x a b,()),()):=by
 unfold CG BL;grind
theorem Av(x a b:Int):A3 x a b=some ((BL x a b,()),()):=BR x a b
def F6(x:ABD):Bool:=BL (x.1.length:Int) 1 8&&(BL x.2.1 1 4&&x.1.all fun d=>BL d 0 7)
theorem cz{l:AAD}{c:Int}(hl:l.length≤2^40):∀(n i:Nat),i≤l.length→l.length-i<n→L0 n i l c=some (((l.drop i).all fun d=>BL d 0 7,()),())
 |0,i,_,h=>by omega
 |n+1,i,hi,h=>by
  simp only[L0,WM,AB];by_cases hc:i<l.length
  ·rw[AM1 (by omega),AM1 (by omega),Ah hc,BR,AH (by omega) (by omega),drop_cons hc]
   simp only[AN0,AS4];cases hb:BL l[i] 0 7 with
   |false=>simp
   |true=>
    simp only[ANZ,ANP,AOM];rw[show(((i:Nat):Int)+1)=((i+1:Nat):Int)by omega,cz hl n (i+1) (by omega) (by omega)]
  grind
theorem HT{x:ABD}(hl:x.1.length≤2^40):Gd x=some ((F6 x,()),()):=by
 unfold Gd WY F6;simp only[BR,AN0];cases BL (x.1.length:Int) 1 8 with
 |false=>simp
 |true=>
  cases BL x.2.1 1 4 with
  |false=>simp
  |true=>
   grind[cz,AX,AZ]
theorem cT{l:AAD}{c:Int}(hl:l.length≤2^40):∀(n i:Nat),i≤l.length→l.length-i<n→
  MD n l l.length i l c=some ((((l.drop i).all fun d=>BL d 0 7)&&(BL (l.length:Int) 1 8&&BL c 1 4),()),())
 |0,i,_,h=>by omega
 |n+1,i,hi,h=>by
  simp only[MD,Wa,AB];by_cases hc:i<l.length
  ·rw[AM1 (by omega),AM1 (by omega),Ah hc,Av,AH (by omega) (by omega),drop_cons hc]
   simp only[AN0,AS4];cases hb:BL l[i] 0 7 with
   |false=>simp
   |true=>
    simp only[ANZ,ANP,AOM];rw[show(((i:Nat):Int)+1)=((i+1:Nat):Int)by omega,cT hl n (i+1) (by omega) (by omega)]
  ·rw[AM2 (by omega)]
   have:i=l.length:=by omega
   subst this;simp only[Av,AN0,AS1,List.all_nil,AOM];grind
theorem Lx{x:ABD}(hl:x.1.length≤2^40):E8 x=some ((F6 x,()),()):=by
 unfold E8 Wg F6;have:=cT (l:=x.1) (c:=x.2.1) hl AX 0 (by omega) (AZ (by omega));grind
theorem Dl{x:ABD}(h:F6 x=true):1≤x.1.length∧x.1.length≤8∧1≤x.2.1∧x.2.1≤4∧ ∀d∈x.1,0≤d∧d≤7:=by
 simp only[F6,BL,ANN,AOH,ASw]at h;grind
end Go.M
end
section
namespace Go.M
def Bytes(b:AAD):Prop:= ∀c∈b,0≤c∧c<256
end Go.M
end
section
namespace Go.M
theorem wf_u8{c:Int}(h:(Go.Lit.int .u8 c).wf=true):0≤c∧c<256:=by
 simp only[Go.Lit.wf,ANN,AOH]at h;have h1:Go.IntKind.min .u8=0:=rfl;have h2:Go.IntKind.max .u8=255:=rfl;omega
theorem wf_i64{c:Int}(h:(Go.Lit.int .i64 c).wf=true): -9223372036854775808≤c∧c<9223372036854775808:=by
 simp only[Go.Lit.wf,ANN,AOH]at h;have h1:Go.IntKind.min .i64= -9223372036854775808:=rfl;simp_all;omega
end Go.M
end
section
namespace Go.M
abbrev Ev:Type:=Int×Int×List UInt8×Unit
abbrev Rdr:Type:=Int×Int×List Ev×Unit
def ZE(x:Rdr):Bool:=BL x.1 1 31&&(BL x.2.1 1 61&&decide ((x.2.2.1.length:Int)≤120))
theorem Pg(x:Rdr):Nk x=some ((ZE x,()),()):=by
 grind[Nk,ZE,BR,BL]
theorem bJ(x:Rdr):U6 x=some ((ZE x,()),()):=Pg x
end Go.M
end
section
namespace Go.M
def CH(code:AAD)(i:Int):Prop:=0≤i∧i≤code.length
theorem zr(x:Int):∃v:Int,dS .i64 x 255=v∧0≤v∧v<256:=by
 refine⟨_,rfl,?_⟩;grind[dS,BitVec.ofInt,Go.IntKind.bits,BitVec.toNat_and,Nat.lt_of_le_of_lt,Nat.and_le_right,qH]
section
variable{code:AAD} (hc:code.length≤2^30)
include hc
theorem bE{i h:Int}(hi:CH code i):∃v i' h',MZ code i h=some ((v,()),((code,i',h',()),()))∧0≤v∧v<256∧CH code i':=by
 unfold MZ;simp only[AB];obtain⟨h0,h1⟩:=hi;split
 ·rename_i G4
  rw[AM1 ⟨h0,G4⟩,AH (x:=i+1) (by omega) (by omega)];obtain⟨v,e,v0,v1⟩:=zr (AS (dS .i64 (AOU .i64 ((AS (AS (h*6364136223846793005)+1442695040888963407)).fdiv (2^33)) ((AS (AS (h*6364136223846793005)+1442695040888963407)).fdiv (2^45))) 255+AS (code.getD i.toNat 0)));exact⟨v,i+1,_,by rw[e],v0,v1,by omega,by omega⟩
 ·obtain⟨v,e,v0,v1⟩:=zr (AOU .i64 ((AS (AS (h*6364136223846793005)+1442695040888963407)).fdiv (2^33)) ((AS (AS (h*6364136223846793005)+1442695040888963407)).fdiv (2^45)))
  exact⟨v,i,_,by rw[e],v0,v1,h0,h1⟩
theorem Ez{i h n:Int}(hi:CH code i)(hn:n≤2^40):∃v i' h',AJ n code i h=some ((v,()),((code,i',h',()),()))∧0≤v∧(0<n→v<n)∧(n≤0→v=0)∧CH code i':=by
 unfold AJ;simp only[AB];split
 ·grind
 ·split
  ·obtain⟨v,i1,h1,e,v0,v1,J_⟩:=bE hc (h:=h) hi
   rw[e];simp only[AN0];rw[AM2 (by omega),AT7 v0];exact⟨_,i1,h1,rfl,Int.emod_nonneg _ (by omega),fun _=>Int.emod_lt_of_pos _ (by omega),by omega,J_⟩
  ·obtain⟨v1,i1,h1,e1,a1,b1,J_⟩:=bE hc (h:=h) hi
   obtain⟨v2,i2,h2,e2,a2,b2,Hq⟩:=bE hc (h:=h1) J_;obtain⟨v3,i3,h3,e3,a3,b3,KX⟩:=bE hc (h:=h2) Hq;obtain⟨v4,i4,h4,e4,a4,b4,vA⟩:=bE hc (h:=h3) KX;rw[e1];simp only[AN0];rw[e2];simp only[AN0];rw[e3];simp only[AN0];rw[e4];simp only[AN0];rw[AH (x:=v1*16777216) (by omega) (by omega),AH (x:=v2*65536) (by omega) (by omega),AH (x:=v3*256) (by omega) (by omega),AH (x:=v1*16777216+v2*65536) (by omega) (by omega),
    AH (x:=v1*16777216+v2*65536+v3*256) (by omega) (by omega),AH (by omega) (by omega),AM2 (by omega),AT7 (by omega)]
   exact⟨_,i4,h4,rfl,Int.emod_nonneg _ (by omega),fun _=>Int.emod_lt_of_pos _ (by omega),by omega,vA⟩
theorem lg{i h n:Int}(hi:CH code i)(hn:n≤2^40):∃v i' h',A5 n code i h=some ((v,()),((code,i',h',()),()))∧CH code i':=by
 unfold A5;obtain⟨v,i1,h1,e,_,_,_,J_⟩:=Ez hc (h:=h) hi hn;rw[e];exact⟨_,i1,h1,rfl,J_⟩
theorem Kv{i h:Int}{l:AAD}(hi:CH code i)(hl:l≠[])(hn:l.length≤2^30):∃v i' h',CP l code i h=some ((v,()),((code,i',h',()),()))∧v∈l∧CH code i':=by
 unfold CP;have hp:=AXM.2 hl;obtain⟨v,i1,h1,e,v0,v1,_,J_⟩:=Ez hc (h:=h) (n:=l.length) hi (by omega);grind
omit hc in
theorem AAE{n:Nat}:∀(m i:Nat) (h:Int),i≤code.length→code.length-i<m→ ∃h',QX m code h i=some (((),()),((code,0,h',()),()))
 |0,_,_,_,h=>by omega
 |m+1,i,h,hi,hm=>by
  simp only[QX,bA,AB];by_cases G4:i<code.length
  ·rw[AM1 (by omega)]
   split
   ·rw[AM1 (by omega),AH (x:=(i:Int)+1) (by omega) (by omega),show((i:Int)+1)=((i+1:Nat):Int)by omega]
    exact AAE (n:=n) m (i+1) _ (by omega) (by omega)
   ·exact⟨_,rfl⟩
  ·rw[AM2 (by omega)]
   exact⟨_,rfl⟩
theorem ADU:∃h',bt code=some (((),()),((code,0,h',()),())):=by
 unfold bt az;exact AAE (n:=0) AX 0 _ (by omega) (AZ (by omega))
def U9(l:AAD)(c:Int):Prop:=3≤l.length∧l.length≤7∧1≤c∧c≤3∧ ∀d∈l,0≤d∧d≤4
omit hc in
theorem U9.ok{l:AAD}{c:Int}(h:U9 l c):F6 (l,c,())=true:=by
 obtain⟨h1,h2,h3,h4,h5⟩:=h;simp only[F6,BL,ANN,AOH,ASw];exact⟨by omega,by omega,fun d hd=>by have:=h5 d hd;omega⟩
theorem fx{N:Nat}(hN:3≤N∧N≤7){c:Int}(h1:1≤c∧c≤3){x1:Int}{x2:AAD}:∀(n k:Nat) (i h:Int) (acc:AAD),CH code i→k≤N→N-k<n→acc.length=k→(∀d∈acc,0≤d∧d≤4)→
  ∃l c' i' h',Ip n N k code i h x1 x2 c acc=some ((((),c',()),()),((code,i',h',()),l,()))∧U9 l c'∧CH code i'
 |0,_,_,_,_,_,_,h,_,_=>by omega
 |n+1,k,i,h,acc,hi,hk,hn,hacc,hd=>by
  simp only[Ip,TP,AB];by_cases G4:k<N
  ·rw[AM1 (by omega)]
   obtain⟨v,i1,h1',e,v0,v1,_,J_⟩:=Ez hc (h:=h) (n:=5) hi (by omega);rw[e];simp only[AN0];rw[AM1 (by rw[An];omega),AH (by omega) (by omega),show((k:Int)+1)=((k+1:Nat):Int)by omega];have:=v1 (by omega);exact fx hN h1 n (k+1) i1 h1' _ J_ (by omega) (by omega) (by simp[hacc]) (fun d hdd=>by
    grind)
  ·rw[AM2 (by omega)]
   obtain⟨v,i1,h1',e,J_⟩:=lg hc (h:=h) (n:=2) hi (by omega);rw[e];simp only[AN0];cases v
   ·exact⟨acc,c,i1,h1',rfl,⟨by omega,by omega,h1.1,h1.2,hd⟩,J_⟩
   ·exact⟨acc,2,i1,h1',rfl,⟨by omega,by omega,by omega,by omega,hd⟩,J_⟩
theorem Ya{i h:Int}(hi:CH code i):∃l c' i' h',JX code i h=some ((((),c',()),()),((code,i',h',()),l,()))∧U9 l c'∧CH code i':=by
 unfold JX TM;obtain⟨v,i1,h1,e1,a1,b1,_,J_⟩:=Ez hc (h:=h) (n:=3) hi (by omega);rw[e1];simp only[AN0];obtain⟨w,i2,h2,e2,a2,b2,_,Hq⟩:=Ez hc (h:=h1) (n:=5) J_ (by omega);rw[e2];simp only[AN0];have:=b1 (by omega);have:=b2 (by omega);rw[AH (by omega) (by omega),AH (by omega) (by omega)];obtain⟨N,hN⟩:∃N:Nat,3+w=(N:Int):=⟨(3+w).toNat,by omega⟩;rw[hN];exact fx hc (by omega) (by omega) AX 0 i2 h2 [] Hq (by omega) (AZ (by omega)) rfl (by simp)
theorem ABl{i h:Int}(hi:CH code i):∃l c' i' h',Ro code i h=some ((((),c',()),()),((code,i',h',()),l,()))∧l.length≤9∧CH code i':=by
 unfold Ro;obtain⟨l,c,i1,h1,e1,hg,J_⟩:=Ya hc (h:=h) hi;rw[e1];simp only[AN0];obtain⟨v,i2,h2,e2,a2,b2,_,Hq⟩:=Ez hc (h:=h1) (n:=20) J_ (by omega);rw[e2];simp only[AN0];obtain⟨g1,g2,g3,g4,g5⟩:=hg;cases v==0 with
 |true=>
  simp only[AOA];obtain⟨p,i3,h3,e3,hp,KX⟩:=Kv hc (h:=h2) (l:=[0,4,5]) Hq (by simp) (by simp);grind
 |false=>
  simp only[ANP];cases v==1 with
  |true=>
   simp only[AOA];obtain⟨p,i3,h3,e3,hp,KX⟩:=Kv hc (h:=h2) (l:=[-1,7,8]) Hq (by simp) (by simp);grind
  |false=>
   simp only[ANP];cases v==2 with
   |true=>
    simp only[AOA];obtain⟨p,i3,h3,e3,hp,KX⟩:=Kv hc (h:=h2) (l:=[0,8,9]) Hq (by simp) (by simp);rw[e3];simp only[AN0];simp at hp;rw[AM1 (by rw[An];omega)];grind
   |false=>grind
end
end Go.M
end
section
namespace Go.M.H
open Go.M
def AU{α:Type}(f:α→Nat):List α→Nat
 |[]=>0
 |x::l=>1+f x+AU f l
theorem AW{α:Type}{f:α→Nat}:∀{l:List α},l.length≤AU f l
 |[]=>AQQ _
 |x::l=>by
  have:=AW (f:=f) (l:=l);grind[AU,List.length_cons]
theorem Ab{α:Type}{f:α→Nat}{x:α}:∀{l:List α},x∈l→f x≤AU f l
 |y::l,h=>by
  simp only[AU];rcases ARi.1 h with rfl|h
  ·omega
  ·have:=Ab (f:=f) h
   omega
abbrev AWN:Type:=List Int
abbrev C_(x:AWN):Nat:=x.length
abbrev AK:Type:=Int×Int×Bool×List UInt8×Unit
abbrev uc:Go.Fw.Ty:= .cons (.int .i64) (.cons (.int .i64) (.cons .bool (.cons .str (.unit))))
def Ag(x:AK):Nat:=x.2.2.2.1.length
abbrev AQ:Type:=List AK×List AK×Int×Unit
abbrev ALv:Go.Fw.Ty:= .cons (.sl uc) (.cons (.sl uc) (.cons (.int .i64) (.unit)))
def Aj(x:AQ):Nat:=AU Ag x.1+AU Ag x.2.1
abbrev Cq:Type:=List Int×Bool×Int×Unit
abbrev wM:Go.Fw.Ty:= .cons (.sl (.int .i64)) (.cons .bool (.cons (.int .i64) (.unit)))
def Bg(x:Cq):Nat:=x.1.length
abbrev AO:Type:=List Cq×Int×Unit
abbrev A8:Type:=List UInt8×List Int×Bool×Unit
abbrev qU:Go.Fw.Ty:= .cons .str (.cons (.sl (.int .i64)) (.cons .bool (.unit)))
def Ax(x:A8):Nat:=x.1.length+x.2.1.length
abbrev AR:Type:=Int×List A8×Unit
abbrev dY:Go.Fw.Ty:= .cons (.int .i64) (.cons (.sl qU) (.unit))
def Ao(x:AR):Nat:=AU Ax x.2.1
abbrev A0:Type:=Int×Int×List Int×List AK×Bool×List AAD×Unit
abbrev AN_:Go.Fw.Ty:= .cons (.int .i64) (.cons (.int .i64) (.cons (.sl (.int .i64)) (.cons (.sl uc) (.cons .bool (.cons (.sl (.sl (.int .i64))) (.unit))))))
def CB(x:A0):Nat:=x.2.2.1.length+AU Ag x.2.2.2.1+AU C_ x.2.2.2.2.2.1
abbrev Bd:Type:=Int×Int×List UInt8×Unit
abbrev AGQ:Go.Fw.Ty:= .cons (.int .i64) (.cons (.int .i64) (.cons .str (.unit)))
def CL(x:Bd):Nat:=x.2.2.1.length
abbrev Ak:Type:=Int×Int×List Bd×Unit
abbrev AD2:Go.Fw.Ty:= .cons (.int .i64) (.cons (.int .i64) (.cons (.sl AGQ) (.unit)))
def Au(x:Ak):Nat:=AU CL x.2.2.1
abbrev A9:Type:=Int×Bool×Int×Int×Bool×List UInt8×Unit
abbrev Ai:Type:=Int×List UInt8×Bool×Unit
abbrev AOP:Go.Fw.Ty:= .cons (.int .i64) (.cons .str (.cons .bool (.unit)))
def EB(x:Ai):Nat:=x.2.1.length
abbrev AA:Type:=List Int×Int×List AQ×List Int×List Cq×Int×List AR×List A0×List Ak×List Ai×Bool×Unit
abbrev jv:Go.Fw.Ty:= .cons (.sl (.int .i64)) (.cons (.int .i64) (.cons (.sl ALv) (.cons (.sl (.int .i64)) (.cons (.sl wM) (.cons (.int .i64) (.cons (.sl dY) (.cons (.sl AN_) (.cons (.sl AD2) (.cons (.sl AOP) (.cons .bool (.unit)))))))))))
def Cy(x:AA):Nat:=x.1.length+AU Aj x.2.2.1+x.2.2.2.1.length+AU Bg x.2.2.2.2.1+AU Ao x.2.2.2.2.2.2.1+AU CB x.2.2.2.2.2.2.2.1+AU Au x.2.2.2.2.2.2.2.2.1+AU EB x.2.2.2.2.2.2.2.2.2.1
abbrev BK:Type:=Int×Int×Int×Int×List UInt8×Unit
end Go.M.H
end
section
namespace Go.M
def Eg(p:Nat→Bool)(i:Nat):Nat→Bool
 |0=>true
 |d+1=>p i&&Eg p (i+1) d
theorem GB{L:Nat→Int→Option (ABV×Unit)}{len:Nat}{p:Nat→Bool}{fin:Bool}(h1:∀n (i:Nat),i<len→L (n+1) i=cond (p i) (L n ((i+1:Nat):Int)) (some ((false,()),())))(h2:∀n,L (n+1) (len:Int)=some ((fin,()),())):
  ∀d n i,i+d=len→d<n→L n i=some ((Eg p i d&&fin,()),())
 |0,n,i,hd,h=>by
  obtain⟨m,rfl⟩:∃m,n=m+1:=⟨n-1,by omega⟩;have:i=len:=by omega
  subst this;rw[h2];rfl
 |d+1,n,i,hd,h=>by
  obtain⟨m,rfl⟩:∃m,n=m+1:=⟨n-1,by omega⟩;rw[h1 m i (by omega)];simp only[Eg];cases p i with
  |false=>rfl
  |true=>rw[AOA,GB h1 h2 d m (i+1) (by omega) (by omega)];rfl
theorem TS{p:Nat→Bool}:∀{d i:Nat},Eg p i d=true→ ∀j,i≤j→j<i+d→p j=true
 |0,i,_,j,h1,h2=>by omega
 |d+1,i,h,j,h1,h2=>by
  simp only[Eg,ANN]at h;by_cases hj:j=i
  ·simp_all
  ·exact TS h.2 j (by omega) (by omega)
theorem pB{p:Nat→Bool}:∀{d i:Nat},(∀j,i≤j→j<i+d→p j=true)→Eg p i d=true
 |0,_,_=>rfl
 |d+1,i,h=>by
  simp only[Eg,ANN];exact⟨h i (by omega) (by omega),pB fun j h1 h2=>h j (by omega) (by omega)⟩
def Yf(x:Int):Int:=x.tdiv 4294967296
def Bf(x:Int):Bool:=BL (Yf x) 1 30&&BL (x.tmod 4294967296) 1 60
def Aw(x:Int):Int:=if Bf x then Yf x else 0
theorem ie{x:Int}(h: -9223372036854775808≤x∧x<9223372036854775808):AS (x.tdiv 4294967296)=Yf x:=by
 grind[Yf,AH,Int.lt_or_le,Int.neg_tdiv,Int.tdiv_eq_ediv_of_nonneg]
theorem du{x:Int}(h:Bf x=true):0<x∧x<2^40:=by
 simp only[Bf,BL,ANN,AOH]at h;grind[Yf,Int.lt_or_le,Int.neg_tdiv,Int.tdiv_eq_ediv_of_nonneg,Int.tmod_eq_emod_of_nonneg]
def CR(x:Int):Prop:= -9223372036854775808≤x∧x<9223372036854775808
theorem Ij{x:Int}(h:CR x):Ho x=some ((Bf x,()),()):=by
 unfold Ho;rw[ie h,AB];split
 ·grind[BR,Bf,BL,Yf]
 ·rename_i h0
  rcases AM0 (Bf x)with hp|hp
  ·exact absurd (du hp).1 (by omega)
  ·rw[hp]
theorem Qj{x:Int}(h:CR x):D8 x=some ((Bf x,()),()):=by
 unfold D8 Hl Xt;rw[ie h];grind[Av,Bf,BL,Yf]
theorem ED{x:Int}(h:CR x):Cm x=some ((Aw x,()),()):=by
 unfold Cm Aw;rw[Ij h,ie h];grind
theorem E_{x:Int}(h:CR x):FI x=some ((Aw x,()),()):=by
 unfold FI Aw;rw[Qj h,ie h];grind
theorem gL{x:Int}:(Bf x=true→1≤Aw x∧Aw x≤30)∧(Bf x=false→Aw x=0):=by
 constructor
 ·intro h
  rw[Aw,AM1 h];simp only[Bf,BL,ANN,AOH]at h;omega
 grind[Aw]
def ue(l:AAD)(hi:Int)(i:Nat):Bool:=BL (l.getD i 0) 0 hi&&(i==0||decide (l.getD (i-1) 0<l.getD i 0))
def ql(l:AAD)(hi:Int):Bool:=Eg (ue l hi) 0 l.length
theorem f_{l:AAD}{hi:Int}(hl:l.length≤2^40):Ye l 0 hi=some ((ql l hi,()),()):=by
 unfold Ye ae ql;rw[←AS3 (Eg _ _ _)];refine GB (L:=fun n i=>Nh n l 0 hi i) (len:=l.length) (p:=ue l hi) (fin:=true) (fun n i DL=> ?_) (fun n=> ?_) l.length AX 0 (by omega) (AZ (by omega))
 ·simp only[Nh,UG,AB]
  rw[AM1 (by omega),AM1 (by omega),BR,AH (x:=(i:Int)+1) (by omega) (by omega)];simp only[AN0,AN4,ue];cases BL (l.getD i 0) 0 hi with
  |false=>rfl
  |true=>
   simp only[ANZ,ANP,AOM];by_cases h0:i=0
   ·simp_all
   ·rw[AM1 (by omega),AH (by omega) (by omega),AM1 (by omega),AM1 (by omega)]
    have h1:((i:Int)-1).toNat=i-1:=by omega
    have h2:(i==0)=false:=by simp_all
    rw[h1,h2,ASj];grind
 ·simp only[Nh,UG,AB]
  simp_all
theorem ni{l:AAD}{hi:Int}(hl:l.length≤2^40):XQ l hi=some ((ql l hi,()),()):=by
 unfold XQ Xm ql;rw[←AS3 (Eg _ _ _)];refine GB (L:=fun n i=>KW n l hi l l.length i) (len:=l.length) (p:=ue l hi) (fin:=true) (fun n i DL=> ?_) (fun n=> ?_) l.length AX 0 (by omega) (AZ (by omega))
 ·simp only[KW,RN,AB]
  rw[AM1 (by omega),AM1 (by omega),Av,AH (x:=(i:Int)+1) (by omega) (by omega)];simp only[AN0,AN4,ue];cases BL (l.getD i 0) 0 hi with
  |false=>rfl
  |true=>
   simp only[ANZ,ANP,AOM];by_cases h0:i=0
   ·simp_all
   ·rw[AM1 (by omega),AH (by omega) (by omega),AM1 (by omega)]
    have h1:((i:Int)-1).toNat=i-1:=by omega
    have h2:(i==0)=false:=by simp_all
    rw[h1,h2,ASj];grind
 ·simp only[KW,RN,AB]
  simp_all
theorem wP{l:AAD}{hi:Int}(h:ql l hi=true):∀x∈l,0≤x∧x≤hi:=fun x hx=>by
 obtain⟨i,DL,rfl⟩:=ASe hx;have:=TS h i (by omega) (by omega);simp only[ue,BL,ANN,AOH]at this;simp_all
theorem AAY{l:AAD}{hi:Int}(h:ql l hi=true):∀i,i<l.length→(i:Int)≤l.getD i 0
 |0,hl=>by
  have:=TS h 0 (by omega) (by omega);simp only[ue,BL,ANN,AOH]at this;omega
 |i+1,hl=>by
  have h1:=AAY h i (by omega);have:=TS h (i+1) (by omega) (by omega);simp only[ue,ANN,ASr,AOH]at this;grind
theorem AEb{l:AAD}{hi:Int}(h:ql l hi=true)(h0:0≤hi+1):(l.length:Int)≤hi+1:=by
 by_cases hl:l.length=0
 ·omega
 ·have h1:=AAY h (l.length-1) (by omega)
  have h2:=wP h (l.getD (l.length-1) 0) (by
   grind)
  omega
def A4(c:ABD)(l:AAD):Bool:=F6 c&&ql l ((c.1.length:Int)-1)
theorem G_{c:ABD}{l:AAD}(hc:c.1.length≤2^40)(hl:l.length≤2^40):Gi c l=some ((A4 c l,()),()):=by
 unfold Gi A4;rw[show(c.1,c.2.1,())=c from rfl,HT hc,AH (by omega) (by omega)];simp only[AN0];cases F6 c with
 |false=>rfl
 |true=>
  rw[AOA,f_ hl];rfl
theorem EC{c:ABD}{l:AAD}(hc:c.1.length≤2^40)(hl:l.length≤2^40):D6 c l=some ((A4 c l,()),()):=by
 unfold D6 A4;rw[show(c.1,c.2.1,())=c from rfl,Lx hc,AH (by omega) (by omega)];simp only[AN0];cases F6 c with
 |false=>rfl
 |true=>
  rw[AOA,ni hl];rfl
theorem bn{c:ABD}{l:AAD}(h:A4 c l=true):F6 c=true∧c.1.length≤8∧l.length≤8∧(∀x∈l,0≤x∧x<c.1.length)∧ ∀d∈c.1,0≤d∧d≤7:=by
 simp only[A4,ANN]at h;obtain⟨k1,k2,k3,k4,k5⟩:=Dl h.1;have h1:=AEb h.2 (by omega);exact⟨h.1,k2,by omega,fun x hx=>by have:=wP h.2 x hx;omega,k5⟩
theorem AAJ{l:AAD}{x:Int}(hl:l.length≤2^40):∀(n i:Nat),i≤l.length→l.length-i<n→(∀y∈l.take i,y≠x)→
  ∃r:Int,GP n l x l.length i=some ((r,()),())∧decide (r≥0)=l.contains x
 |0,_,_,h,_=>by omega
 |n+1,i,hi,h,hx=>by
  simp only[GP,Ot,AB];by_cases hc:i<l.length
  ·rw[AM1 (by omega),AM1 (by omega),Ah hc,AH (by omega) (by omega)]
   by_cases he:x=l[i]
   ·simp_all
   ·obtain⟨r,e1,e2⟩:=AAJ hl n (i+1) (by omega) (by omega) (fun y hy=>by
     rw[ASt hc]at hy;rcases AOk.1 hy with hy|hy
     ·exact hx y hy
     grind)
    grind
  ·rw[AM2 (by omega)]
   grind
theorem JC{l:AAD}{x:Int}(hl:l.length≤2^40):Bk l x=some ((l.contains x,()),()):=by
 unfold Bk O5 PE;obtain⟨r,e1,e2⟩:=AAJ (x:=x) hl AX 0 (by omega) (AZ (by omega)) (by simp);simp_all
def iz(c:AAD):List Int→List Int→List Int
 |[],acc=>acc
 |n::l,acc=>iz c l (if acc.contains (c.getD n.toNat 0)then acc else acc++[c.getD n.toNat 0])
def bQ(c:AAD)(l:AAD):Nat:=(iz c l []).length
theorem Zz{c:AAD}{q:Int}{l:AAD}(hl:l.length≤8)(hm:∀x∈l,0≤x∧x<c.length):∀(n i:Nat) (acc:AAD),i≤l.length→l.length-i<n→acc.length≤i→
  PA n l l.length i c q acc=some ((((iz c (l.drop i) acc).length:Int),()),())
 |0,i,_,_,h,_=>by omega
 |n+1,i,acc,hi,h,ha=>by
  simp only[PA,Zo,AB];by_cases hc:i<l.length
  ·have hx:=hm _ (AN7 hc)
   rw[AM1 (by omega),AM1 (by omega),Ah hc,drop_cons hc]
   generalize l[i]=x at hx
   rw[AM1 (by omega),JC (by omega),AH (by omega) (by omega),show((i:Int)+1)=((i+1:Nat):Int)by omega];simp only[AN0,iz];cases AOs:acc.contains (c.getD x.toNat 0)with
   |true=>
    simp only[ANZ,ANP,ASi];exact Zz hl hm n (i+1) acc (by omega) (by omega) (by omega)
   |false=>
    simp only[ASd,AOA,ANw,AQS];rw[AM1 (by omega),AM1 (by rw[An];omega)];exact Zz hl hm n (i+1) _ (by omega) (by omega) (by simp_all)
  ·rw[AM2 (by omega)]
   grind[iz]
theorem qx{c:ABD}{l:AAD}(hc:c.1.length≤2^40)(hl:l.length≤2^40):ZV c l=some ((if A4 c l then(bQ c.1 l:Int)else-1,()),()):=by
 unfold ZV ZW;rw[show(c.1,c.2.1,())=c from rfl,EC hc hl];simp only[AN0];cases h:A4 c l with
 |false=>rfl
 |true=>
  obtain⟨k1,k2,k3,k4,k5⟩:=bn h;grind[Zz,AX,AZ,bQ]
theorem yI{s:List Bool}{k j:Nat}{b:Bool}(h:k<s.length):(s.set k b).getD j false=if k=j then b else s.getD j false:=by
 grind
theorem aD{c:AAD}{q:Int}{l:AAD}(hl:l.length≤8)(hd:∀d∈c,0≤d∧d≤7)(hm:∀x∈l,0≤x∧x<c.length):∀(n i:Nat) (acc:AAD) (s:List Bool),i≤l.length→l.length-i<n→acc.length≤i→s.length=8→
  (∀j:Nat,j<8→s.getD j false=acc.contains (j:Int))→
  PB n l acc.length i c q s=some ((((iz c (l.drop i) acc).length:Int),()),())
 |0,i,_,_,_,h,_,_,_=>by omega
 |n+1,i,acc,s,hi,h,ha,hs,hj=>by
  simp only[PB,Ze,AB];by_cases hc:i<l.length
  ·have hx:=hm _ (AN7 hc)
   rw[AM1 (by omega),AM1 (by omega),Ah hc,drop_cons hc]
   generalize l[i]=x at hx
   rw[AM1 (by omega)];have AZX:0≤c.getD x.toNat 0∧c.getD x.toNat 0≤7:=by
    simp_all
   simp only[iz]
   generalize c.getD x.toNat 0=d at AZX
   rw[AM1 (by omega),AH (x:=(i:Int)+1) (by omega) (by omega),show((i:Int)+1)=((i+1:Nat):Int)by omega];have hsd:s.getD d.toNat false=acc.contains d:=by
    grind
   rw[hsd];cases AOs:acc.contains d with
   |true=>
    simp only[ANZ,ANP,ASi];exact aD hl hd hm n (i+1) acc s (by omega) (by omega) (by omega) hs hj
   |false=>
    simp only[ASd,AOA,ANw,AQS];rw[AM1 (by omega),AH (by omega) (by omega)];have:=aD (q:=q) hl hd hm n (i+1) (acc++[d]) (s.set d.toNat true) (by omega) (by omega) (by simp_all) (by simp_all) (fun j hj8=>by
     rw[yI (by omega),hj j hj8];grind)
    simp_all
  ·rw[AM2 (by omega)]
   grind[iz]
theorem dy{c:ABD}{l:AAD}(h:A4 c l=true):Vs c l=some (((bQ c.1 l:Int),()),()):=by
 obtain⟨k1,k2,k3,k4,k5⟩:=bn h;unfold Vs ZB;have:=aD (c:=c.1) (q:=c.2.1) k3 k5 k4 AX 0 [] (List.replicate 8 false) (by omega) (AZ (by omega)) (by simp) (by simp) (fun j hj=>by
  grind)
 grind[bQ]
def holds(c:ABD)(l:AAD):Bool:=A4 c l&&decide ((bQ c.1 l:Int)≥c.2.1)
theorem DZ{c:ABD}{l:AAD}(hc:c.1.length≤2^40)(hl:l.length≤2^40):EX c l=some ((holds c l,()),()):=by
 unfold EX holds;rw[show(c.1,c.2.1,())=c from rfl,G_ hc hl];simp only[AN0];cases h:A4 c l with
 |false=>rfl
 |true=>
  rw[AOA,dy h];rfl
theorem GX{c:ABD}{l:AAD}(hc:c.1.length≤2^40)(hl:l.length≤2^40):Gx c l=some ((holds c l,()),()):=by
 unfold Gx holds;rw[show(c.1,c.2.1,())=c from rfl,EC hc hl,qx hc hl];simp only[AN0];cases h:A4 c l<;>rfl
theorem VU{c:ABD}{l:AAD}(h:holds c l=true):A4 c l=true:=by
 simp only[holds,ANN]at h;exact h.1
end Go.M
end
section
namespace Go.M
open Go.M.H (Cq AO A8 AR AU AW Ab Bg Ax Ao wM qU dY)
abbrev CE:Type:=List Int×Int×Unit
def G3:Cq:=([],false,0,())
def o9(c:CE)(e:Cq):Bool:=holds c e.1&&(BL e.2.2.1 0 60&&(e.2.1||e.2.2.1==0))
theorem rT{c:CE}{e:Cq}(hc:c.1.length≤2^40)(hl:e.1.length≤2^40):bp c e=some ((o9 c e,()),()):=by
 unfold bp o9;rw[show(c.1,c.2.1,())=c from rfl,GX hc hl];grind[Av,holds,BL]
def tw(c:CE)(l:List Cq)(i:Nat):Bool:=
 o9 c (l.getD i G3)&& !((l.getD i G3).2.1&&(decide (i+1=l.length)||(decide (0<i)&& !(l.getD (i-1) G3).2.1)))
def gN(r:AO):Bool:=r.2.1==0||(Bf r.2.1&&decide (Aw r.2.1≤r.1.length))
def NW(c:CE)(r:AO):Bool:=F6 c&&(decide (r.1.length≤30)&&(gN r&&Eg (tw c r.1) 0 r.1.length))
theorem BU{α:Type}{l:List α}{i:Nat}{d:α}(h:i<l.length):l.getD i d∈l:=by
 simp_all
theorem ng{c:CE}{l:List Cq}{tr:Int}(hc:c.1.length≤2^40)(hl:AU Bg l≤2^30):LK AX l.length 0 c.1 c.2.1 l tr=some ((Eg (tw c l) 0 l.length,()),()):=by
 have xJ:=AW (f:=Bg) (l:=l);rw[←AS3 (Eg _ _ _)];refine GB (L:=fun n i=>LK n l.length i c.1 c.2.1 l tr) (len:=l.length) (p:=tw c l) (fin:=true) (fun n i hi=> ?_) (fun n=> ?_) l.length AX 0 (by omega) (AZ (by omega))
 ·have hm:=Ab (f:=Bg) (BU (d:=G3) hi)
  simp only[Bg]at hm;simp only[LK,UB,AB];rw[AM1 (by omega),AM1 (by omega),show(c.1,c.2.1,())=c from rfl,AN4,show(([],false,0,()):Cq)=G3 from rfl,DZ hc (by omega),BR,AH (x:=(i:Int)+1) (by omega) (by omega),
   AH (x:=(l.length:Int)-1) (by omega) (by omega),AH (x:=(i:Int)-1) (by omega) (by omega),show((i:Int)+1)=((i+1:Nat):Int)by omega]
  simp only[AN0,tw,o9];have e1:((i:Int)==(l.length:Int)-1)=decide (i+1=l.length):=by
   grind
  have e2:(((i:Int)-1).toNat)=i-1:=by omega
  grind
 ·simp only[LK,UB,AB]
  simp_all
theorem QK{c:CE}{r:AO}(hc:c.1.length≤2^40)(hl:AU Bg r.1≤2^30)(ht:CR r.2.1):M7 c r=some ((NW c r,()),()):=by
 unfold M7 bI NW gN;rw[show(c.1,c.2.1,())=c from rfl,HT hc,ng hc hl,Ij ht,ED ht];grind
theorem Ns{c:CE}{r:AO}(hc:c.1.length≤2^40)(hl:AU Bg r.1≤2^30)(ht:CR r.2.1):LI c r=some ((NW c r,()),()):=by
 have xJ:=AW (f:=Bg) (l:=r.1);have ADe:LA AX r.1 r.1.length 0 c.1 c.2.1 r.1 r.2.1=some ((Eg (tw c r.1) 0 r.1.length&&(F6 c&&(decide (r.1.length≤30)&&gN r)),()),()):=by
  refine GB (L:=fun n i=>LA n r.1 r.1.length i c.1 c.2.1 r.1 r.2.1) (len:=r.1.length) (p:=tw c r.1) (fin:=F6 c&&(decide (r.1.length≤30)&&gN r)) (fun n i hi=> ?_) (fun n=> ?_) r.1.length AX 0 (by omega) (AZ (by omega))
  ·have hm:=Ab (f:=Bg) (BU (d:=G3) hi)
   simp only[Bg]at hm;simp only[LA,Ua,AB];rw[AM1 (by omega),AM1 (by omega),show(c.1,c.2.1,())=c from rfl,AN4,show(([],false,0,()):Cq)=G3 from rfl];rw[show((r.1.getD i G3).1,(r.1.getD i G3).2.1,(r.1.getD i G3).2.2.1,())=r.1.getD i G3 from rfl,rT hc (by omega),AH (x:=(i:Int)+1) (by omega) (by omega),
    AH (x:=(r.1.length:Int)-1) (by omega) (by omega),AH (x:=(i:Int)-1) (by omega) (by omega),show((i:Int)+1)=((i+1:Nat):Int)by omega]
   simp only[AN0,tw];have e1:((i:Int)==(r.1.length:Int)-1)=decide (i+1=r.1.length):=by
    grind
   have e2:(((i:Int)-1).toNat)=i-1:=by omega
   grind
  ·simp only[LA,Ua]
   rw[show decide ((r.1.length:Int)<(r.1.length:Int))=false by simp,show(c.1,c.2.1,())=c from rfl,Lx hc,E_ ht];simp only[ANP,AN0,Av,gN];have e1:decide ((r.1.length:Int)≤30)=decide (r.1.length≤30):=by
    grind
   rw[e1];have e4:BL (Aw r.2.1) 1 (r.1.length:Int)=(Bf r.2.1&&decide (Aw r.2.1≤(r.1.length:Int))):=by
    have hr:=gL (x:=r.2.1);unfold BL;grind
   grind
 grind[LI,bC,NW,F6,decide,gN,Eg,tw]
def AEQ(b:Bool):Int:=if b then 1 else 0
theorem nO(b:Bool):cN b=some ((AEQ b,()),()):=by cases b<;>rfl
end Go.M
end
section
namespace Go.M
open Go.M.H (Cq AO A8 AR AU AW Ab Bg Ax Ao wM qU dY)
def Ma:A8:=([],[],false,())
def W4(c:CE)(e:A8):Bool:=decide (e.1.length≤40)&&(A4 c e.2.1&&(e.2.2.1==holds c e.2.1))
def RS:List A8→Nat
 |[]=>0
 |e::l=>cond e.2.2.1 0 1+RS l
def le6(n:Nat):Bool:=decide (n≤6)
theorem zW(o:Nat):decide ((o:Int)≤6)=le6 o:=by
 grind[le6]
def Db(c:CE)(w:AR):Bool:=F6 c&&(BL w.1 1 30&&(decide (w.2.1.length≤60)&&(w.2.1.all (W4 c)&&le6 (RS w.2.1))))
theorem ck{c:CE}{ep:Int}{l:List A8}(hc:c.1.length≤2^40)(hl:AU Ax l≤2^30):∀(n i o:Nat),i≤l.length→l.length-i<n→o≤i→
  L2 n o i c.1 c.2.1 ep l=some (((l.drop i).all (W4 c)&&le6 (o+RS (l.drop i)),()),())
 |0,i,_,_,h,_=>by omega
 |n+1,i,o,hi,h,ho=>by
  have xJ:=AW (f:=Ax) (l:=l);simp only[L2,Wi,AB];by_cases q8:i<l.length
  ·have hm:=Ab (f:=Ax) (AN7 q8)
   rw[AM1 (by omega),AM1 (by omega),Ah q8,drop_cons q8];have ih:=fun o=>ck (ep:=ep) hc hl n (i+1) o (by omega) (by omega)
   generalize l[i]=e at hm
   simp only[Ax]at hm;rw[show(c.1,c.2.1,())=c from rfl,G_ hc (by omega),DZ hc (by omega),AH (x:=(i:Int)+1) (by omega) (by omega),AH (x:=(o:Int)+1) (by omega) (by omega),show((i:Int)+1)=((i+1:Nat):Int)by omega,show((o:Int)+1)=((o+1:Nat):Int)by omega];simp only[AN0,AS4,W4,RS];by_cases h40:e.1.length≤40
   ·rw[AM2 (by omega),AQg h40,ih o (by omega),ih (o+1) (by omega)]
    cases A4 c e.2.1 with
    |false=>rfl
    |true=>
     cases hd:e.2.2.1 with
     |true=>
      grind
     |false=>
      grind
   grind
  ·rw[AM2 (by omega)]
   grind[RS,zW]
theorem GN{c:CE}{w:AR}(hc:c.1.length≤2^40)(hl:AU Ax w.2.1≤2^30):Hk c w=some ((Db c w,()),()):=by
 have xJ:=AW (f:=Ax) (l:=w.2.1);unfold Hk Wo Db;have h:=ck (ep:=w.1) hc hl AX 0 0 (by omega) (AZ (by omega)) (by omega);rw[show((0:Nat):Int)=0 from rfl]at h;rw[show(c.1,c.2.1,())=c from rfl,HT hc,BR,h];grind
theorem dE{c:CE}{ep:Int}{l:List A8}(hc:c.1.length≤2^40)(hl:AU Ax l≤2^30):∀(n i o:Nat),i≤l.length→l.length-i<n→o≤i→
  ML n o l l.length i c.1 c.2.1 ep l=some (((l.drop i).all (W4 c)&&(F6 c&&(BL ep 1 30&&(decide (l.length≤60)&&le6 (o+RS (l.drop i))))),()),())
 |0,i,_,_,h,_=>by omega
 |n+1,i,o,hi,h,ho=>by
  have xJ:=AW (f:=Ax) (l:=l);simp only[ML,Wm];by_cases q8:i<l.length
  ·have hm:=Ab (f:=Ax) (AN7 q8)
   rw[show decide ((i:Int)<(l.length:Int))=true by simp_all,AOA,AM1 (by omega),Ah q8,drop_cons q8];have ih:=fun o=>dE (ep:=ep) hc hl n (i+1) o (by omega) (by omega)
   generalize l[i]=e at hm
   simp only[Ax]at hm;rw[show(c.1,c.2.1,())=c from rfl,EC hc (by omega),GX hc (by omega),nO,AH (x:=(i:Int)+1) (by omega) (by omega),show((i:Int)+1)=((i+1:Nat):Int)by omega];simp only[AN0,AS4,W4,RS,GK];have e40:decide ((e.1.length:Int)≤40)=decide (e.1.length≤40):=by
    grind
   rw[e40];cases hd:e.2.2.1 with
   |true=>
    rw[show AS ((o:Int)+AEQ (!true))=(o:Int)by rw[ANZ,show AEQ false=0 from rfl,Int.add_zero,AH (by omega) (by omega)],ih o (by omega)];grind
   |false=>
    rw[show AS ((o:Int)+AEQ (!false))=((o+1:Nat):Int)by rw[ASd,show AEQ true=1 from rfl,AH (by omega) (by omega)];omega,ih (o+1) (by omega)];grind
  ·have:i=l.length:=by omega
   subst this;rw[show decide (((l.length:Nat):Int)<(l.length:Int))=false by simp,show(c.1,c.2.1,())=c from rfl,Lx hc];simp only[ANP,AN0,Hl,Av,AS1,List.all_nil,RS,ATG,AOM];grind[decide,zW,F6,BL]
theorem JU{c:CE}{w:AR}(hc:c.1.length≤2^40)(hl:AU Ax w.2.1≤2^30):GY c w=some ((Db c w,()),()):=by
 have xJ:=AW (f:=Ax) (l:=w.2.1);unfold GY Wv Db;have h:=dE (ep:=w.1) hc hl AX 0 0 (by omega) (AZ (by omega)) (by omega);grind
theorem aL{c:CE}{w:AR}(h:Db c w=true):F6 c=true∧(1≤w.1∧w.1≤30)∧w.2.1.length≤60∧ ∀e∈w.2.1,W4 c e=true:=by
 simp only[Db,BL,ANN,AOH,ASw]at h;simp_all
theorem jr{c:CE}{e:A8}(h:W4 c e=true):e.1.length≤40∧e.2.1.length≤8∧(∀x∈e.2.1,0≤x∧x<8)∧e.2.2.1=holds c e.2.1:=by
 simp only[W4,ANN,AOH,ASo]at h;obtain⟨k1,k2,k3,k4,k5⟩:=bn h.2.1;grind
end Go.M
end
section
namespace Go.M
open Go.M.H (AK AQ A0 Ai AA Cq AO A8 AR Ak Bd AU AW Ab Ag Aj CB EB Cy Bg Ax Ao Au CL)
theorem AGe(a b:Int):decide (a≤b)= !decide (b<a):=by
 grind
theorem AWE(n k:Nat):decide ((n:Int)≤(k:Int))=decide (n≤k):=by
 simp_all
theorem zP(n k:Nat):decide ((n:Int)>(k:Int))= !decide (n≤k):=by
 grind
def EE(x:Int):Int:=cond (Bf x) (x.tmod 4294967296) 0
theorem Z8{x:Int}(h:CR x):HS x=some ((EE x,()),()):=by
 grind[HS,EE,Ij,Bf]
theorem aU{x:Int}(h:CR x):T9 x=some ((EE x,()),()):=by
 grind[T9,EE,Qj,Bf]
abbrev Dt:AK:=(0,0,false,[],())
def Fy(e:AK):Bool:=Bf e.1&&(BL e.2.1 0 30&&((!decide (e.2.1>0)||decide (Aw e.1<e.2.1))&&(decide (e.2.2.2.1.length≤40)&&(!e.2.2.1||(decide (e.2.1>0)&&e.2.2.2.1==[])))))
theorem Qg{e:AK}(h:CR e.1):Mz e=some ((Fy e,()),()):=by
 unfold Mz Fy;grind[Ij,BR,ED,AGe,Aw,decide,zP,Bf,BL]
theorem ATL{x:Int}(h:BL x 0 30=true):(x==0)= !decide (x>0):=by
 simp only[BL,AOH]at h;grind
theorem Qp{e:AK}(h:CR e.1):Mx e=some ((Fy e,()),()):=by
 unfold Mx Fy GK;rw[Qj h,Av,E_ h];simp only[AN0];rw[show decide ((e.2.2.2.1.length:Int)≤40)=decide (e.2.2.2.1.length≤40)from AWE _ 40,show decide (e.2.1>Aw e.1)=decide (Aw e.1<e.2.1)from rfl];rcases AM0 (BL e.2.1 0 30)with hi|hi
 all_goals grind[ATL,Bf,decide,Aw]
def X5(l:List AK):Bool:=Eg (fun i=>Fy (l.getD i Dt)) 0 l.length
def iv(l:List AK):Bool:=Eg (fun i=>i==0||decide ((l.getD (i-1) Dt).1<(l.getD i Dt).1)) 0 l.length
def fl(l:List AK):Prop:= ∀e∈l,CR e.1
theorem fl.getD{l:List AK}(h:fl l){i:Nat}(hi:i<l.length):CR (l.getD i Dt).1:=h _ (BU hi)
theorem eI{l:List AK}{k:Nat}(hl:l.length≤2^40)(h:fl l):VC l k=some ((decide (l.length≤k)&&X5 l,()),()):=by
 unfold VC ZJ;have:=GB (L:=fun n i=>MN n l i) (len:=l.length) (p:=fun i=>Fy (l.getD i Dt)) (fin:=true) (fun n i hi=>by
  simp only[MN,TB,AB];rw[AM1 (by omega),AM1 (by omega),AH (by omega) (by omega),show((i:Int)+1)=((i+1:Nat):Int)by omega];simp only[AN4];rw[show((l.getD i (0,0,false,[],())).1,(l.getD i (0,0,false,[],())).2.1,(l.getD i (0,0,false,[],())).2.2.1,(l.getD i (0,0,false,[],())).2.2.2.1,())=l.getD i Dt from rfl,Qg (h.getD hi)];simp_all) (fun n=>by
  simp only[MN,TB,AB];simp_all) l.length AX 0 (by omega) (AZ (by omega))
 rw[show((0:Nat):Int)=0 from rfl]at this;rw[this,zP,AS3];cases decide (l.length≤k)<;>rfl
theorem fq{l:List AK}(hl:l.length≤2^40):Yb l=some ((iv l,()),()):=by
 unfold Yb aZ iv;have h1:∀n (i:Nat),0<i→i<l.length→GZ (n+1) l i=cond (i==0||decide ((l.getD (i-1) Dt).1<(l.getD i Dt).1)) (GZ n l ((i+1:Nat):Int)) (some ((false,()),())):=fun n i h0 hi=>by
  simp only[GZ,Pc,AB];rw[AM1 (by omega),AH (x:=(i:Int)-1) (by omega) (by omega),AM1 (by omega),AM1 (by omega),AH (by omega) (by omega),show((i:Int)+1)=((i+1:Nat):Int)by omega];have h1:((i:Int)-1).toNat=i-1:=by omega
  have h2:(i==0)=false:=by grind
  rw[h1,h2,AN4,ASj];grind
 cases hlen:l.length with
 |zero=>
  obtain⟨m,hm⟩:∃m,AX=m+1:=⟨AX-1,by have:=fJ;omega⟩;rw[hm];simp only[GZ,Pc,AB];rw[AM2 (by omega)];rfl
 |succ k=>
  have:=GB (L:=fun n i=>if(0:Int)<i then GZ n l i else cond (decide (0<n)) (GZ (n-1) l 1) none) (len:=l.length) (p:=fun i=>i==0||decide ((l.getD (i-1) Dt).1<(l.getD i Dt).1)) (fin:=true) (fun n i hi=>by
   simp_all) (fun n=>by
   rw[AM1 (by omega)];simp only[GZ,Pc,AB];simp_all) l.length (AX+1) 0 (by omega) (by have:=fJ;omega)
  simp_all
theorem Yy{l:List AK}(hl:l.length≤2^40)(h:fl l):PR l=some ((X5 l,()),()):=by
 unfold PR Vp;have:=GB (L:=fun n i=>IV n l l.length i) (len:=l.length) (p:=fun i=>Fy (l.getD i Dt)) (fin:=true) (fun n i hi=>by
  simp only[IV,PI,AB];rw[AM1 (by omega),AM1 (by omega),AH (by omega) (by omega),show((i:Int)+1)=((i+1:Nat):Int)by omega];simp only[AN4];rw[show((l.getD i (0,0,false,[],())).1,(l.getD i (0,0,false,[],())).2.1,(l.getD i (0,0,false,[],())).2.2.1,(l.getD i (0,0,false,[],())).2.2.2.1,())=l.getD i Dt from rfl,Qp (h.getD hi)];simp_all) (fun n=>by
  simp only[IV,PI,AB];simp_all) l.length AX 0 (by omega) (AZ (by omega))
 rw[show((0:Nat):Int)=0 from rfl]at this;rw[this,AS3];rfl
theorem VE{l:List AK}(hl:l.length≤2^40):Kr l=some ((iv l,()),()):=by
 unfold Kr RW;have:=GB (L:=fun n i=>GD n l l l.length i) (len:=l.length) (p:=fun i=>i==0||decide ((l.getD (i-1) Dt).1<(l.getD i Dt).1)) (fin:=true) (fun n i hi=>by
  simp only[GD,Lr,AB];rw[AM1 (by omega),AM1 (by omega),AH (x:=(i:Int)+1) (by omega) (by omega),show((i:Int)+1)=((i+1:Nat):Int)by omega];by_cases h0:i=0
  ·simp_all
  ·rw[AM1 (by omega),AH (by omega) (by omega),AM1 (by omega)]
   have h1:((i:Int)-1).toNat=i-1:=by omega
   have h2:(i==0)=false:=by simp_all
   rw[h1,h2,AN4,ASj];grind) (fun n=>by
  simp only[GD,Lr,AB];simp_all) l.length AX 0 (by omega) (AZ (by omega))
 rw[show((0:Nat):Int)=0 from rfl]at this;rw[this,AS3];rfl
def B7(s:AQ):Bool:=(decide (s.1.length≤200)&&X5 s.1)&&((decide (s.2.1.length≤20)&&X5 s.2.1)&&(iv s.1&&BL s.2.2.1 0 30))
def jc(s:AQ):Prop:=fl s.1∧fl s.2.1
theorem Fq{s:AQ}(hl:Aj s≤2^30)(h:jc s):Gw s=some ((B7 s,()),()):=by
 have l1:=AW (f:=Ag) (l:=s.1);have l2:=AW (f:=Ag) (l:=s.2.1);unfold Aj at hl;have e1:=eI (l:=s.1) (k:=200) (by omega) h.1;have e2:=eI (l:=s.2.1) (k:=20) (by omega) h.2;rw[show((200:Nat):Int)=200 from rfl]at e1;rw[show((20:Nat):Int)=20 from rfl]at e2;grind[Gw,B7,fq,BR,decide,X5,iv]
theorem E7{s:AQ}(hl:Aj s≤2^30)(h:jc s):FL s=some ((B7 s,()),()):=by
 have l1:=AW (f:=Ag) (l:=s.1);have l2:=AW (f:=Ag) (l:=s.2.1);unfold Aj at hl;unfold FL B7;rw[Yy (by omega) h.1,Yy (by omega) h.2,VE (by omega),Av,show decide ((s.1.length:Int)>200)= !decide (s.1.length≤200)from zP _ 200,show decide ((s.2.1.length:Int)>20)= !decide (s.2.1.length≤20)from zP _ 20];grind
end Go.M
end
section
namespace Go.M
open Go.M.H (AK AQ A0 Ai AA Cq AO A8 AR Ak Bd AU AW Ab Ag Aj CB EB Cy Bg Ax Ao Au CL C_)
theorem ka{L:Nat→Int→Option (ABV×Unit)}{len N:Nat}{p:Nat→Bool}{fin:Bool}(h1:∀n (i:Nat),i<len→L (n+1) i=cond (p i) (L n ((i+1:Nat):Int)) (some ((false,()),())))(h2:∀n,N≤n→L (n+1) (len:Int)=some ((fin,()),())):
  ∀d n i,i+d=len→d+N<n→L n i=some ((Eg p i d&&fin,()),())
 |0,n,i,hd,h=>by
  obtain⟨m,rfl⟩:∃m,n=m+1:=⟨n-1,by omega⟩;have:i=len:=by omega
  subst this;rw[h2 m (by omega)];rfl
 |d+1,n,i,hd,h=>by
  obtain⟨m,rfl⟩:∃m,n=m+1:=⟨n-1,by omega⟩;rw[h1 m i (by omega)];simp only[Eg];cases p i with
  |false=>rfl
  |true=>rw[AOA,ka h1 h2 d m (i+1) (by omega) (by omega)];rfl
def PK(l:List AK):Int:=cond (l.length==0) 0 (EE (l.getD (l.length-1) Dt).1)
theorem de{m:A0}(hl:m.2.2.2.1.length≤2^40)(h:fl m.2.2.2.1):Rb m=some ((PK m.2.2.2.1,()),()):=by
 unfold Rb PK;by_cases h0:m.2.2.2.1.length=0
 ·simp[h0]
 ·have e1:((m.2.2.2.1.length:Int)==0)=false:=by simp_all
  have e2:(m.2.2.2.1.length==0)=false:=by simp_all
  rw[e1,e2];simp only[ANP];rw[AH (by omega) (by omega),AM1 (by omega),show((m.2.2.2.1.length:Int)-1).toNat=m.2.2.2.1.length-1 by omega,Z8 (h.getD (by omega))];rfl
theorem cq{m:A0}(hl:m.2.2.2.1.length≤2^40)(h:fl m.2.2.2.1):SY m=some ((PK m.2.2.2.1,()),()):=by
 unfold SY PK;by_cases h0:m.2.2.2.1.length=0
 ·simp[h0]
 ·have e1:((m.2.2.2.1.length:Int)==0)=false:=by simp_all
  have e2:(m.2.2.2.1.length==0)=false:=by simp_all
  rw[e1,e2];simp only[ANP];rw[AH (by omega) (by omega),AM1 (by omega),show((m.2.2.2.1.length:Int)-1).toNat=m.2.2.2.1.length-1 by omega,aU (h.getD (by omega))];rfl
def s9(l:List AK)(ep by_:Int)(i:Nat):Bool:=Fy (l.getD i Dt)&&((Aw (l.getD i Dt).1==ep)&&decide ((l.getD i Dt).2.1<by_))
def sR(l:List AK)(ep by_:Int):Bool:=Eg (s9 l ep by_) 0 l.length
def qt(c:CE)(l:List AAD):Bool:=Eg (fun i=>A4 c (l.getD i [])) 0 l.length
def GV(c:CE)(m:A0):Bool:=F6 c&&(BL m.2.1 1 30&&(BL m.1 (m.2.1+1) 30&&(A4 c m.2.2.1&&(iv m.2.2.2.1&&(sR m.2.2.2.1 m.2.1 m.1&&(qt c m.2.2.2.2.2.1&&((m.2.2.2.2.2.1.length:Int)==cond m.2.2.2.2.1 (PK m.2.2.2.1) 0)))))))
theorem J3{c:CE}{m:A0}(hc:c.1.length≤2^40)(hm:CB m≤2^30)(h:fl m.2.2.2.1):JA c m=some ((GV c m,()),()):=by
 have l1:=AW (f:=Ag) (l:=m.2.2.2.1);have l2:=AW (f:=C_) (l:=m.2.2.2.2.2.1);unfold CB at hm;have wr:∀n,m.2.2.2.2.2.1.length+1≤n→Hy n 0 c.1 c.2.1 m.1 m.2.1 m.2.2.1 m.2.2.2.1 m.2.2.2.2.1 m.2.2.2.2.2.1=some ((qt c m.2.2.2.2.2.1&&((m.2.2.2.2.2.1.length:Int)==cond m.2.2.2.2.1 (PK m.2.2.2.1) 0),()),()):=fun n hn=>by
  refine GB (L:=fun n i=>Hy n i c.1 c.2.1 m.1 m.2.1 m.2.2.1 m.2.2.2.1 m.2.2.2.2.1 m.2.2.2.2.2.1) (len:=m.2.2.2.2.2.1.length) (p:=fun i=>A4 c (m.2.2.2.2.2.1.getD i [])) (fin:=(m.2.2.2.2.2.1.length:Int)==cond m.2.2.2.2.1 (PK m.2.2.2.1) 0) (fun n i hi=> ?_) (fun n=> ?_) m.2.2.2.2.2.1.length n 0 (by omega) (by omega)
  ·have hwi:(m.2.2.2.2.2.1.getD i []).length≤AU C_ m.2.2.2.2.2.1:=Ab (f:=C_) (BU (d:=[]) hi)
   simp only[Hy,S4,AB];rw[AM1 (by omega),AM1 (by omega),AH (by omega) (by omega),show((i:Int)+1)=((i+1:Nat):Int)by omega,AN4,show(c.1,c.2.1,())=c from rfl,G_ hc (by omega)];simp_all
  ·simp only[Hy,S4,AB]
   rw[AM2 (by omega),show(m.1,m.2.1,m.2.2.1,m.2.2.2.1,m.2.2.2.2.1,m.2.2.2.2.2.1,())=m from rfl,de (by omega) h];grind
 have se:=ka (L:=fun n i=>Jm n i c.1 c.2.1 m.1 m.2.1 m.2.2.1 m.2.2.2.1 m.2.2.2.2.1 m.2.2.2.2.2.1) (len:=m.2.2.2.1.length) (N:=m.2.2.2.2.2.1.length+1) (p:=s9 m.2.2.2.1 m.2.1 m.1) (fin:=qt c m.2.2.2.2.2.1&&((m.2.2.2.2.2.1.length:Int)==cond m.2.2.2.2.1 (PK m.2.2.2.1) 0)) (fun n i hi=>by
   simp only[Jm,SO,AB,s9];have hb:(0:Int)≤(i:Int)∧(i:Int)<(m.2.2.2.1.length:Int):=by omega
   rw[AM1 hb.2,AH (by omega) (by omega),show((i:Int)+1)=((i+1:Nat):Int)by omega,AN4];simp only[AM1 hb];rw[show((m.2.2.2.1.getD i (0,0,false,[],())).1,(m.2.2.2.1.getD i (0,0,false,[],())).2.1,(m.2.2.2.1.getD i (0,0,false,[],())).2.2.1,(m.2.2.2.1.getD i (0,0,false,[],())).2.2.2.1,())=m.2.2.2.1.getD i Dt from rfl,Qg (h.getD hi),ED (h.getD hi)];grind) (fun n hn=>by
   simp only[Jm,SO,AB];simp_all) m.2.2.2.1.length AX 0 (by omega) (AZ (by omega))
 rw[show((0:Nat):Int)=0 from rfl]at se;unfold JA ZO GV;rw[show(c.1,c.2.1,())=c from rfl,HT hc,BR,BR,G_ hc (by omega),fq (by omega),se];simp only[AN0];rcases AM0 (BL m.2.1 1 30)with hi|hi
 ·have Hq:=hi
  simp only[BL,AOH]at Hq;rw[AH (by omega) (by omega),hi];cases F6 c<;>cases BL m.1 (m.2.1+1) 30<;>cases A4 c m.2.2.1<;>cases iv m.2.2.2.1<;>rfl
 simp_all
theorem oS{m:A0}(hm:CB m≤2^30)(h:fl m.2.2.2.1):Vc m=some ((sR m.2.2.2.1 m.2.1 m.1&&iv m.2.2.2.1,()),()):=by
 have l1:=AW (f:=Ag) (l:=m.2.2.2.1);unfold CB at hm;unfold Vc Y_;exact GB (L:=fun n i=>Ly n m.2.2.2.1 m.2.2.2.1.length i m.1 m.2.1 m.2.2.1 m.2.2.2.1 m.2.2.2.2.1 m.2.2.2.2.2.1) (len:=m.2.2.2.1.length) (p:=s9 m.2.2.2.1 m.2.1 m.1) (fin:=iv m.2.2.2.1) (fun n i hi=>by
  simp only[Ly,Sc,AB,s9];rw[AM1 (by omega),AM1 (by omega),AH (by omega) (by omega),show((i:Int)+1)=((i+1:Nat):Int)by omega,AN4];rw[show((m.2.2.2.1.getD i (0,0,false,[],())).1,(m.2.2.2.1.getD i (0,0,false,[],())).2.1,(m.2.2.2.1.getD i (0,0,false,[],())).2.2.1,(m.2.2.2.1.getD i (0,0,false,[],())).2.2.2.1,())=m.2.2.2.1.getD i Dt from rfl,Qp (h.getD hi),E_ (h.getD hi)];grind) (fun n=>by
  simp only[Ly,Sc,AB];rw[AM2 (by omega),VE (by omega)];rfl) m.2.2.2.1.length AX 0 (by omega) (AZ (by omega))
theorem Ht{c:CE}{m:A0}(hc:c.1.length≤2^40)(hm:CB m≤2^30)(h:fl m.2.2.2.1):Hr c m=some ((GV c m,()),()):=by
 have l1:=AW (f:=Ag) (l:=m.2.2.2.1);have l2:=AW (f:=C_) (l:=m.2.2.2.2.2.1);have hm2:=hm;unfold CB at hm;have key:=GB (L:=fun n i=>Lo n m.2.2.2.2.2.1 m.2.2.2.2.2.1.length i c.1 c.2.1 m.1 m.2.1 m.2.2.1 m.2.2.2.1 m.2.2.2.2.1 m.2.2.2.2.2.1) (len:=m.2.2.2.2.2.1.length) (p:=fun i=>A4 c (m.2.2.2.2.2.1.getD i []))
  (fin:=F6 c&&(BL m.2.1 1 30&&(BL m.1 (m.2.1+1) 30&&(A4 c m.2.2.1&&((sR m.2.2.2.1 m.2.1 m.1&&iv m.2.2.2.1)&&((m.2.2.2.2.2.1.length:Int)==cond m.2.2.2.2.1 (PK m.2.2.2.1) 0)))))) (fun n i hi=>by
   have hwi:(m.2.2.2.2.2.1.getD i []).length≤AU C_ m.2.2.2.2.2.1:=Ab (f:=C_) (BU (d:=[]) hi);simp only[Lo,SZ,AB];rw[AM1 (by omega),AM1 (by omega),AH (x:=(i:Int)+1) (by omega) (by omega),show((i:Int)+1)=((i+1:Nat):Int)by omega,AN4,show(c.1,c.2.1,())=c from rfl,EC hc (by omega)];simp_all) (fun n=>by
   simp only[Lo,SZ,AB];rw[AM2 (by omega),show(m.1,m.2.1,m.2.2.1,m.2.2.2.1,m.2.2.2.2.1,m.2.2.2.2.2.1,())=m from rfl,cq (by omega) h,show(c.1,c.2.1,())=c from rfl,Lx hc,EC hc (by omega),oS hm2 h];simp only[AN0,Hl,Av];rcases AM0 (BL m.2.1 1 30)with hi|hi
   ·have Hq:=hi
    simp only[BL,AOH]at Hq;grind[AH,F6,BL,A4,sR,iv]
   simp_all) m.2.2.2.2.2.1.length AX 0 (by omega) (AZ (by omega))
 unfold Hr Zt GV;rw[show((0:Nat):Int)=0 from rfl]at key;grind[qt,Eg,A4,F6,BL,sR,iv]
end Go.M
end
section
namespace Go.M
open Go.M.H (AK AQ A0 Ai AA Cq AO A8 AR Ak Bd AU AW Ab Ag Aj CB EB Cy Bg Ax Ao Au CL C_)
theorem AEN{x:Int}{l:AAD}(hl:l.length≤2^40):∃r,Np [x] l=some (((),()),(r,()))∧decide ((r.length:Int)>0)=l.contains x:=by
 obtain⟨m,hm⟩:∃m,AX=m+2:=⟨AX-2,by have:=fJ;omega⟩;unfold Np DF;rw[AM1 (by rw[An];simp)];simp only[AN0];unfold Ck D1 Dj D7;rw[hm];simp only[B5,D9,Ru,AOX,AQl,AB];rw[AM1 (by omega),AM1 (by omega)];simp only[Int.toNat_zero,List.getD_cons_zero];rw[JC hl];simp only[AN0];cases l.contains x with
 |true=>
  simp only[ANZ,ANP];rw[AH (x:=0+1) (by omega) (by omega),AM2 (by omega)];simp_all
 |false=>
  simp only[ASd,AOA,AN0];rw[AH (x:=0+1) (by omega) (by omega)];simp only[Bp,Dy,AB,AOX,AQl];simp_all
theorem af{w:AA}{x:Int}(hl:w.2.2.2.1.length≤2^40):C4 w x=some ((w.2.2.2.1.contains x,()),()):=by
 unfold C4;obtain⟨r,h1,h2⟩:=AEN (x:=x) hl;simp_all
theorem K4{l:AAD}{x:Int}(hl:l.length≤2^40):Cw l x=some ((l.contains x,()),()):=by
 have key:∀(n i:Nat),i≤l.length→l.length-i<n→LB n l x i=some (((l.drop i).contains x,()),()):=by
  intro n
  induction n with
  |zero=>omega
  |succ n ih=>
   intro i hi h;simp only[LB,UR,AB];by_cases hc:i<l.length
   ·rw[AM1 (by omega),AM1 (by omega),AH (by omega) (by omega),show((i:Int)+1)=((i+1:Nat):Int)by omega,Ah hc,drop_cons hc,ih (i+1) (by omega) (by omega)]
    simp only[List.contains_cons];by_cases he:l[i]=x
    all_goals grind
   grind
 grind[Cw,Ub,AX,AZ]
def YD(l:List Cq):Nat→Nat→Int
 |_,0=>0
 |i,d+1=>cond (!(l.getD i ([],false,0,())).2.1) ((i:Int)+1) (YD l (i+1) d)
def BG(l:List Cq):Int:=YD l 0 l.length
theorem OB{r:AO}(hl:r.1.length≤2^40):J4 r=some ((BG r.1,()),()):=by
 have key:∀(d n i:Nat),i+d=r.1.length→d<n→II n i r.1 r.2.1=some ((YD r.1 i d,()),()):=by
  intro d
  induction d with
  |zero=>
   intro n i hi hn;obtain⟨m,rfl⟩:∃m,n=m+1:=⟨n-1,by omega⟩;simp only[II,O6,AB,YD];simp_all
  |succ d ih=>
   intro n i hi hn;obtain⟨m,rfl⟩:∃m,n=m+1:=⟨n-1,by omega⟩;simp only[II,O6,AB,YD];rw[AM1 (by omega),AM1 (by omega),AH (by omega) (by omega),show((i:Int)+1)=((i+1:Nat):Int)by omega,ih m (i+1) (by omega) (by omega),AN4];grind
 grind[J4,Vf,BG,AX,AZ]
theorem Sf{r:AO}(hl:r.1.length≤2^40):Lt r=some ((BG r.1,()),()):=by
 have key:∀(d n i:Nat),i+d=r.1.length→d<n→IQ n r.1 r.1.length i=some ((YD r.1 i d,()),()):=by
  intro d
  induction d with
  |zero=>
   intro n i hi hn;obtain⟨m,rfl⟩:∃m,n=m+1:=⟨n-1,by omega⟩;simp only[IQ,Of,AB,YD];simp_all
  |succ d ih=>
   intro n i hi hn;obtain⟨m,rfl⟩:∃m,n=m+1:=⟨n-1,by omega⟩;simp only[IQ,Of,AB,YD];rw[AM1 (by omega),AM1 (by omega),AH (by omega) (by omega),show((i:Int)+1)=((i+1:Nat):Int)by omega,ih m (i+1) (by omega) (by omega),AN4];grind
 grind[Lt,VX,BG,AX,AZ]
structure lF (w:AA):Prop where
 weight:Cy w≤2^20
 BE:∀s∈w.2.2.1,jc s
 trim:CR w.2.2.2.2.2.1
 CI:∀m∈w.2.2.2.2.2.2.2.1,fl m.2.2.2.1
 AFs:∀s∈w.2.2.2.2.2.2.2.2.2.1,CR s.1
abbrev EF:AQ:=([],[],0,())
abbrev B8:AR:=(0,[],())
abbrev Ra:A0:=(0,0,[],[],false,[],())
abbrev EG:Ak:=(0,0,[],())
abbrev NX:Ai:=(0,[],false,())
def Ae(w:AA):CE:=(w.1,w.2.1,())
def CO(w:AA):AO:=(w.2.2.2.2.1,w.2.2.2.2.2.1,())
def kg(w:AA)(i:Nat):Bool:=B7 (w.2.2.1.getD i EF)&&(!w.2.2.2.1.contains (i:Int)||((w.2.2.1.getD i EF).1.length==0&&((w.2.2.1.getD i EF).2.1.length==0&&(w.2.2.1.getD i EF).2.2.1==0)))
def fC(w:AA)(i:Nat):Bool:=Db (Ae w) (w.2.2.2.2.2.2.1.getD i B8)&&(decide ((w.2.2.2.2.2.2.1.getD i B8).1≤(w.2.2.2.2.1.length:Int))&&(i==0||decide ((w.2.2.2.2.2.2.1.getD (i-1) B8).1<(w.2.2.2.2.2.2.1.getD i B8).1)))
def s7(w:AA)(i:Nat):Bool:=GV (Ae w) (w.2.2.2.2.2.2.2.1.getD i Ra)&&(((w.2.2.2.2.2.2.2.1.getD i Ra).1==(w.2.2.2.2.1.length:Int))&&((w.2.2.2.2.2.2.2.1.getD i Ra).2.1==BG w.2.2.2.2.1))
def tF(w:AA)(i:Nat):Bool:=(Bf (w.2.2.2.2.2.2.2.2.2.1.getD i NX).1&&decide (Aw (w.2.2.2.2.2.2.2.2.2.1.getD i NX).1≤(w.2.2.2.2.1.length:Int)))&&(decide ((w.2.2.2.2.2.2.2.2.2.1.getD i NX).2.1.length≤40)&&(i==0||decide ((w.2.2.2.2.2.2.2.2.2.1.getD (i-1) NX).1<(w.2.2.2.2.2.2.2.2.2.1.getD i NX).1)))
def fM(w:AA):Bool:=Eg (kg w) 0 w.2.2.1.length
def av(w:AA):Bool:=Eg (fC w) 0 w.2.2.2.2.2.2.1.length
def iU(w:AA):Bool:=Eg (s7 w) 0 w.2.2.2.2.2.2.2.1.length
def sW(w:AA):Bool:=Eg (tF w) 0 w.2.2.2.2.2.2.2.2.2.1.length
def eQ(w:AA):Bool:=decide (w.2.2.2.2.2.2.2.2.1.length=2)&&(ZE (w.2.2.2.2.2.2.2.2.1.getD 0 EG)&&ZE (w.2.2.2.2.2.2.2.2.1.getD 1 EG))
def Ft(w:AA):Bool:=F6 (Ae w)&&(decide (w.2.2.1.length=w.1.length)&&(A4 (Ae w) w.2.2.2.1&&((w.2.2.2.2.2.2.2.2.2.2.1|| !holds (Ae w) w.2.2.2.1)&&(fM w&&(NW (Ae w) (CO w)&&(decide (w.2.2.2.2.2.2.1.length≤4)&&(decide (w.2.2.2.2.2.2.2.1.length≤1)&&(av w&&(iU w&&(eQ w&&(decide (w.2.2.2.2.2.2.2.2.2.1.length≤120)&&sW w)))))))))))
section
variable{w:AA} (h:lF w)
include h
theorem lF.lens:w.1.length≤2^20∧AU Aj w.2.2.1≤2^20∧w.2.2.2.1.length≤2^20∧AU Bg w.2.2.2.2.1≤2^20∧AU Ao w.2.2.2.2.2.2.1≤2^20∧AU CB w.2.2.2.2.2.2.2.1≤2^20∧AU Au w.2.2.2.2.2.2.2.2.1≤2^20∧AU EB w.2.2.2.2.2.2.2.2.2.1≤2^20:=by
 have:=h.weight;grind[Cy]
theorem lF.TJ:w.2.2.1.length≤2^20∧w.2.2.2.2.1.length≤2^20∧w.2.2.2.2.2.2.1.length≤2^20∧w.2.2.2.2.2.2.2.1.length≤2^20∧w.2.2.2.2.2.2.2.2.1.length≤2^20∧w.2.2.2.2.2.2.2.2.2.1.length≤2^20:=by
 have k:=h.lens;grind[AW,Aj,Bg,Ao,CB,Au,EB]
theorem lF.cfg:(Ae w).1.length≤2^40:=by
 have:=h.lens
 show w.1.length≤2^40
 omega
theorem vg:LW w=some ((decide (w.2.2.1.length=w.1.length)&&(A4 (Ae w) w.2.2.2.1&&(fM w&&(w.2.2.2.2.2.2.2.2.2.2.1|| !holds (Ae w) w.2.2.2.1))),()),()):=by
 have k1:=h.lens;have k2:=h.TJ;have key:=GB (L:=fun n i=>FG n w w.2.2.1 w.2.2.1.length i) (len:=w.2.2.1.length) (p:=kg w) (fin:=w.2.2.2.2.2.2.2.2.2.2.1|| !holds (Ae w) w.2.2.2.1) (fun n i hi=>by
  have hm:=BU (d:=EF) hi;have hw:=Ab (f:=Aj) hm;simp only[FG,KH,AB,kg];rw[AM1 (by omega),AM1 (by omega),AH (x:=(i:Int)+1) (by omega) (by omega),show((i:Int)+1)=((i+1:Nat):Int)by omega,AN4,af (by omega)];rw[show((w.2.2.1.getD i ([],[],0,())).1,(w.2.2.1.getD i ([],[],0,())).2.1,(w.2.2.1.getD i ([],[],0,())).2.2.1,())=w.2.2.1.getD i EF from rfl,E7 (by omega) (h.BE _ hm)];simp only[AN0]
  show cond (!B7 (w.2.2.1.getD i EF)) _ _=_
  rcases AM0 (B7 (w.2.2.1.getD i EF))with hs|hs
  rotate_left
  ·simp_all
  rw[hs];have hs2:=hs;simp only[B7,BL,ANN,AOH]at hs2
  generalize w.2.2.1.getD i EF=s at hw hs2
  cases w.2.2.2.1.contains ((i:Nat):Int)with
  |false=>rfl
  |true=>
   simp only[ANZ,ANP,AOA,AOM,ASj];unfold Aj at hw;have q1:=AW (f:=Ag) (l:=s.1);have q2:=AW (f:=Ag) (l:=s.2.1);rw[AH (x:=(s.1.length:Int)+_) (by omega) (by omega),AH (by omega) (by omega)];grind) (fun n=>by
  simp only[FG,KH,AB];rw[AM2 (by omega),show(w.1,w.2.1,())=Ae w from rfl,GX h.cfg (by omega)];grind) w.2.2.1.length AX 0 (by omega) (AZ (by omega))
 rw[show((0:Nat):Int)=0 from rfl]at key;unfold LW P3 fM;rw[show(w.1,w.2.1,())=Ae w from rfl,EC h.cfg (by omega),key];grind[decide_eq_true,A4,Ae,decide_eq_false]
end
end Go.M
end
section
namespace Go.M
open Go.M.H (AK AQ A0 Ai AA Cq AO A8 AR Ak Bd AU AW Ab Ag Aj CB EB Cy Bg Ax Ao Au CL C_)
theorem zU{x lo hi:Int}(h:lo≤x):BL x lo hi=decide (x≤hi):=by
 grind[BL,decide_eq_true,decide_eq_false]
theorem ACn{x lo hi:Int}(h:x<lo):BL x lo hi=false:=by
 grind[BL,decide_eq_false]
section
variable{w:AA} (h:lF w)
include h
theorem tN:Kw w=some ((av w&&decide (w.2.2.2.2.2.2.1.length≤4),()),()):=by
 have k1:=h.lens;have k2:=h.TJ;have key:=GB (L:=fun n i=>Ee n w w.2.2.2.2.2.2.1 w.2.2.2.2.2.2.1.length i) (len:=w.2.2.2.2.2.2.1.length) (p:=fC w) (fin:=decide (w.2.2.2.2.2.2.1.length≤4)) (fun n i hi=>by
  have hm:=BU (d:=B8) hi;have hw:=Ab (f:=Ao) hm;unfold Ao at hw;simp only[Ee,Ju,AB,fC,J5,Av];rw[AM1 (by omega),AM1 (by omega),AH (x:=(i:Int)+1) (by omega) (by omega),show((i:Int)+1)=((i+1:Nat):Int)by omega,AN4];have hw2:AU Ax (w.2.2.2.2.2.2.1.getD i B8).2.1≤2^30:=by
   have:=k1.2.2.2.2.1;unfold Ao at this;omega
  rw[show((w.2.2.2.2.2.2.1.getD i (0,[],())).1,(w.2.2.2.2.2.2.1.getD i (0,[],())).2.1,())=w.2.2.2.2.2.2.1.getD i B8 from rfl,show(w.1,w.2.1,())=Ae w from rfl,JU h.cfg hw2];simp only[AN0];rcases AM0 (Db (Ae w) (w.2.2.2.2.2.2.1.getD i B8))with hs|hs
  rotate_left
  ·simp_all
  have he:=(aL hs).2.1;rw[hs,show BL (w.2.2.2.2.2.2.1.getD i (0,[],())).1 1 (w.2.2.2.2.1.length:Int)=decide ((w.2.2.2.2.2.2.1.getD i B8).1≤(w.2.2.2.2.1.length:Int))from zU he.1];simp only[ANZ,ANP,AOM];cases decide ((w.2.2.2.2.2.2.1.getD i B8).1≤(w.2.2.2.2.1.length:Int))with
  |false=>rfl
  |true=>
   simp only[ANZ,ANP,AOM];by_cases h0:i=0
   ·simp_all
   ·rw[AM1 (by omega),AH (by omega) (by omega),AM1 (by omega)]
    have h1:((i:Int)-1).toNat=i-1:=by omega
    have h2:(i==0)=false:=by simp_all
    rw[h1,h2,ASj];grind) (fun n=>by
  simp only[Ee,Ju,AB];simp_all;omega) w.2.2.2.2.2.2.1.length AX 0 (by omega) (AZ (by omega))
 rw[show((0:Nat):Int)=0 from rfl]at key;grind[Kw,Om,av]
theorem yx:Ms w=some ((iU w&&decide (w.2.2.2.2.2.2.2.1.length≤1),()),()):=by
 have k1:=h.lens;have k2:=h.TJ;have key:=GB (L:=fun n i=>Fe n w w.2.2.2.2.2.2.2.1 w.2.2.2.2.2.2.2.1.length i) (len:=w.2.2.2.2.2.2.2.1.length) (p:=s7 w) (fin:=decide (w.2.2.2.2.2.2.2.1.length≤1)) (fun n i hi=>by
  have hm:=BU (d:=Ra) hi;have hw:=Ab (f:=CB) hm;simp only[Fe,LO,AB,s7];rw[AM1 (by omega),AM1 (by omega),AH (x:=(i:Int)+1) (by omega) (by omega),show((i:Int)+1)=((i+1:Nat):Int)by omega,AN4];rw[show((w.2.2.2.2.2.2.2.1.getD i (0,0,[],[],false,[],())).1,(w.2.2.2.2.2.2.2.1.getD i (0,0,[],[],false,[],())).2.1,(w.2.2.2.2.2.2.2.1.getD i (0,0,[],[],false,[],())).2.2.1,(w.2.2.2.2.2.2.2.1.getD i (0,0,[],[],false,[],())).2.2.2.1,(w.2.2.2.2.2.2.2.1.getD i (0,0,[],[],false,[],())).2.2.2.2.1,(w.2.2.2.2.2.2.2.1.getD i (0,0,[],[],false,[],())).2.2.2.2.2.1,())=w.2.2.2.2.2.2.2.1.getD i Ra from rfl,show(w.1,w.2.1,())=Ae w from rfl,Ht h.cfg (by omega) (h.CI _ hm)];rw[Sf (by grind)];grind) (fun n=>by
  simp only[Fe,LO,AB];simp_all;omega) w.2.2.2.2.2.2.2.1.length AX 0 (by omega) (AZ (by omega))
 rw[show((0:Nat):Int)=0 from rfl]at key;grind[Ms,Qc,iU]
theorem ud:Kh w=some ((eQ w,()),()):=by
 have k2:=h.TJ;have key:=GB (L:=fun n i=>Ed n w w.2.2.2.2.2.2.2.2.1 w.2.2.2.2.2.2.2.2.1.length i) (len:=w.2.2.2.2.2.2.2.2.1.length) (p:=fun i=>ZE (w.2.2.2.2.2.2.2.2.1.getD i EG)) (fin:=((w.2.2.2.2.2.2.2.2.1.length:Int)==2)) (fun n i hi=>by
  simp only[Ed,Jj,AB];rw[AM1 (by omega),AM1 (by omega),AH (x:=(i:Int)+1) (by omega) (by omega),show((i:Int)+1)=((i+1:Nat):Int)by omega,AN4];rw[show((w.2.2.2.2.2.2.2.2.1.getD i (0,0,[],())).1,(w.2.2.2.2.2.2.2.2.1.getD i (0,0,[],())).2.1,(w.2.2.2.2.2.2.2.2.1.getD i (0,0,[],())).2.2.1,())=w.2.2.2.2.2.2.2.2.1.getD i EG from rfl,bJ];simp_all) (fun n=>by
  simp only[Ed,Jj,AB];simp_all) w.2.2.2.2.2.2.2.2.1.length AX 0 (by omega) (AZ (by omega))
 rw[show((0:Nat):Int)=0 from rfl]at key;unfold Kh Oq eQ;grind[Eg,decide_eq_false]
theorem AA5:OG w=some ((sW w&&decide (w.2.2.2.2.2.2.2.2.2.1.length≤120),()),()):=by
 have k2:=h.TJ;have key:=GB (L:=fun n i=>GL n w w.2.2.2.2.2.2.2.2.2.1 w.2.2.2.2.2.2.2.2.2.1.length i) (len:=w.2.2.2.2.2.2.2.2.2.1.length) (p:=tF w) (fin:=decide (w.2.2.2.2.2.2.2.2.2.1.length≤120)) (fun n i hi=>by
  have hm:=BU (d:=NX) hi;have Te:CR (w.2.2.2.2.2.2.2.2.2.1.getD i (0,[],false,())).1:=h.AFs _ hm;simp only[GL,MP,AB,tF,J5,Av,GK];rw[AM1 (by omega),AM1 (by omega),AH (x:=(i:Int)+1) (by omega) (by omega),show((i:Int)+1)=((i+1:Nat):Int)by omega,AN4,E_ Te];simp only[AN0];have e1:BL (Aw (w.2.2.2.2.2.2.2.2.2.1.getD i (0,[],false,())).1) 1 (w.2.2.2.2.1.length:Int)=(Bf (w.2.2.2.2.2.2.2.2.2.1.getD i NX).1&&decide (Aw (w.2.2.2.2.2.2.2.2.2.1.getD i NX).1≤(w.2.2.2.2.1.length:Int))):=by
   show BL (Aw (w.2.2.2.2.2.2.2.2.2.1.getD i NX).1) 1 (w.2.2.2.2.1.length:Int)=_
   have hr:=gL (x:=(w.2.2.2.2.2.2.2.2.2.1.getD i NX).1);rcases AM0 (Bf (w.2.2.2.2.2.2.2.2.2.1.getD i NX).1)with hp|hp
   ·rw[hp,zU (hr.1 hp).1,AOM]
   ·rw[hp,hr.2 hp,ACn (by omega),ASv]
  rw[e1,show decide ((((w.2.2.2.2.2.2.2.2.2.1.getD i (0,[],false,())).2.1.length:Nat):Int)≤40)=decide ((w.2.2.2.2.2.2.2.2.2.1.getD i NX).2.1.length≤40)from AWE _ 40];cases(Bf (w.2.2.2.2.2.2.2.2.2.1.getD i NX).1&&decide (Aw (w.2.2.2.2.2.2.2.2.2.1.getD i NX).1≤(w.2.2.2.2.1.length:Int)))with
  |false=>rfl
  |true=>
   cases decide ((w.2.2.2.2.2.2.2.2.2.1.getD i NX).2.1.length≤40)with
   |false=>rfl
   |true=>
    simp only[ANZ,ANP,AOM];by_cases h0:i=0
    ·simp_all
    ·rw[AM1 (by omega),AH (by omega) (by omega),AM1 (by omega)]
     have h1:((i:Int)-1).toNat=i-1:=by omega
     have h2:(i==0)=false:=by simp_all
     rw[h1,h2,ASj];grind) (fun n=>by
  simp only[GL,MP,AB];simp_all;omega) w.2.2.2.2.2.2.2.2.2.1.length AX 0 (by omega) (AZ (by omega))
 rw[show((0:Nat):Int)=0 from rfl]at key;grind[OG,Rm,sW]
theorem Vz:Su w=some ((Ft w,()),()):=by
 have k1:=h.lens;unfold Su Ft;rw[show(w.1,w.2.1,w.2.2.1,w.2.2.2.1,w.2.2.2.2.1,w.2.2.2.2.2.1,w.2.2.2.2.2.2.1,w.2.2.2.2.2.2.2.1,w.2.2.2.2.2.2.2.2.1,w.2.2.2.2.2.2.2.2.2.1,w.2.2.2.2.2.2.2.2.2.2.1,())=w from rfl,show(w.1,w.2.1,())=Ae w from rfl,show(w.2.2.2.2.1,w.2.2.2.2.2.1,())=CO w from rfl];rw[Lx h.cfg,vg h,Ns h.cfg (by show AU Bg w.2.2.2.2.1≤_;omega) h.trim,tN h,yx h,ud h,AA5 h];grind
end
end Go.M
end
section
namespace Go.M
open Go.M.H (AK AQ A0 Ai AA Cq AO A8 AR Ak Bd AU AW Ab Ag Aj CB EB Cy Bg Ax Ao Au CL C_)
section
variable{w:AA} (h:lF w)
include h
theorem xD:Uo w=some ((F6 (Ae w)&&(decide (w.2.2.1.length=w.1.length)&&(A4 (Ae w) w.2.2.2.1&&((w.2.2.2.2.2.2.2.2.2.2.1|| !holds (Ae w) w.2.2.2.1)&&fM w))),()),()):=by
 have k1:=h.lens;have k2:=h.TJ;have key:=GB (L:=fun n i=>Jb n i w.1 w.2.1 w.2.2.1 w.2.2.2.1 w.2.2.2.2.1 w.2.2.2.2.2.1 w.2.2.2.2.2.2.1 w.2.2.2.2.2.2.2.1 w.2.2.2.2.2.2.2.2.1 w.2.2.2.2.2.2.2.2.2.1 w.2.2.2.2.2.2.2.2.2.2.1) (len:=w.2.2.1.length) (p:=kg w) (fin:=true) (fun n i hi=>by
  have hm:=BU (d:=EF) hi;have hw:=Ab (f:=Aj) hm;simp only[Jb,QI,AB,kg];have hb:(0:Int)≤(i:Int)∧(i:Int)<(w.2.2.1.length:Int):=by omega
  rw[AM1 hb.2,AH (x:=(i:Int)+1) (by omega) (by omega),show((i:Int)+1)=((i+1:Nat):Int)by omega,AN4,K4 (by omega)];simp only[AM1 hb];rw[show((w.2.2.1.getD i ([],[],0,())).1,(w.2.2.1.getD i ([],[],0,())).2.1,(w.2.2.1.getD i ([],[],0,())).2.2.1,())=w.2.2.1.getD i EF from rfl,Fq (by omega) (h.BE _ hm)];simp only[AN0]
  show cond (!B7 (w.2.2.1.getD i EF)) _ _=_
  cases B7 (w.2.2.1.getD i EF)with
  |false=>rfl
  |true=>
   cases w.2.2.2.1.contains ((i:Nat):Int)with
   |false=>rfl
   |true=>
    simp only[cO,ANZ,ANP,AOA,AOM,ASj];have e1:∀n:Nat,((n:Int)==0)=(n==0):=fun n=>by
     grind
    grind) (fun n=>by
  simp only[Jb,QI,AB];simp_all) w.2.2.1.length AX 0 (by omega) (AZ (by omega))
 rw[show((0:Nat):Int)=0 from rfl]at key;unfold Uo Wq fM;rw[show(w.1,w.2.1,())=Ae w from rfl,HT h.cfg,G_ h.cfg (by omega),DZ h.cfg (by omega),key];simp only[AN0,AS3];grind[decide_eq_true,F6,Ae,A4,holds,decide_eq_false]
theorem uv:TX w=some ((NW (Ae w) (CO w)&&(decide (w.2.2.2.2.2.2.1.length≤4)&&(decide (w.2.2.2.2.2.2.2.1.length≤1)&&(av w&&iU w))),()),()):=by
 have k1:=h.lens;have k2:=h.TJ;have me:∀n,w.2.2.2.2.2.2.2.1.length+1≤n→E4 n (w.2.2.2.2.1.length:Int) 0 w.1 w.2.1 w.2.2.1 w.2.2.2.1 w.2.2.2.2.1 w.2.2.2.2.2.1 w.2.2.2.2.2.2.1 w.2.2.2.2.2.2.2.1 w.2.2.2.2.2.2.2.2.1 w.2.2.2.2.2.2.2.2.2.1 w.2.2.2.2.2.2.2.2.2.2.1=some ((iU w,()),()):=fun n hn=>by
  have key:=GB (L:=fun n i=>E4 n (w.2.2.2.2.1.length:Int) i w.1 w.2.1 w.2.2.1 w.2.2.2.1 w.2.2.2.2.1 w.2.2.2.2.2.1 w.2.2.2.2.2.2.1 w.2.2.2.2.2.2.2.1 w.2.2.2.2.2.2.2.2.1 w.2.2.2.2.2.2.2.2.2.1 w.2.2.2.2.2.2.2.2.2.2.1) (len:=w.2.2.2.2.2.2.2.1.length) (p:=s7 w) (fin:=true) (fun n i hi=>by
   have hm:=BU (d:=Ra) hi;have hw:=Ab (f:=CB) hm;simp only[E4,N2,AB,s7];rw[AM1 (by omega),AM1 (by omega),AH (x:=(i:Int)+1) (by omega) (by omega),show((i:Int)+1)=((i+1:Nat):Int)by omega,AN4];rw[show((w.2.2.2.2.2.2.2.1.getD i (0,0,[],[],false,[],())).1,(w.2.2.2.2.2.2.2.1.getD i (0,0,[],[],false,[],())).2.1,(w.2.2.2.2.2.2.2.1.getD i (0,0,[],[],false,[],())).2.2.1,(w.2.2.2.2.2.2.2.1.getD i (0,0,[],[],false,[],())).2.2.2.1,(w.2.2.2.2.2.2.2.1.getD i (0,0,[],[],false,[],())).2.2.2.2.1,(w.2.2.2.2.2.2.2.1.getD i (0,0,[],[],false,[],())).2.2.2.2.2.1,())=w.2.2.2.2.2.2.2.1.getD i Ra from rfl,show(w.1,w.2.1,())=Ae w from rfl,J3 h.cfg (by omega) (h.CI _ hm)];rw[OB (by grind)];grind) (fun n=>by
   simp only[E4,N2,AB];simp_all) w.2.2.2.2.2.2.2.1.length n 0 (by omega) (by omega)
  rw[show((0:Nat):Int)=0 from rfl]at key;rw[key,AS3];rfl
 have key:=ka (L:=fun n i=>Gk n (w.2.2.2.2.1.length:Int) i w.1 w.2.1 w.2.2.1 w.2.2.2.1 w.2.2.2.2.1 w.2.2.2.2.2.1 w.2.2.2.2.2.2.1 w.2.2.2.2.2.2.2.1 w.2.2.2.2.2.2.2.2.1 w.2.2.2.2.2.2.2.2.2.1 w.2.2.2.2.2.2.2.2.2.2.1) (len:=w.2.2.2.2.2.2.1.length) (N:=w.2.2.2.2.2.2.2.1.length+1) (p:=fC w) (fin:=iU w) (fun n i hi=>by
  have hm:=BU (d:=B8) hi;have hw:=Ab (f:=Ao) hm;unfold Ao at hw;simp only[Gk,Oj,AB,fC];have hb:(0:Int)≤(i:Int)∧(i:Int)<(w.2.2.2.2.2.2.1.length:Int):=by omega
  rw[AM1 hb.2,AH (x:=(i:Int)+1) (by omega) (by omega),show((i:Int)+1)=((i+1:Nat):Int)by omega,AN4];simp only[AM1 hb];have hw2:AU Ax (w.2.2.2.2.2.2.1.getD i B8).2.1≤2^30:=by
   have:=k1.2.2.2.2.1;unfold Ao at this;omega
  rw[show((w.2.2.2.2.2.2.1.getD i (0,[],())).1,(w.2.2.2.2.2.2.1.getD i (0,[],())).2.1,())=w.2.2.2.2.2.2.1.getD i B8 from rfl,show(w.1,w.2.1,())=Ae w from rfl,GN h.cfg hw2];simp only[AN0];cases Db (Ae w) (w.2.2.2.2.2.2.1.getD i B8)with
  |false=>rfl
  |true=>
   simp only[ANZ,ANP,AOM];by_cases hle:(w.2.2.2.2.2.2.1.getD i (0,[],())).1≤(w.2.2.2.2.1.length:Int)
   ·rw[AM2 (by omega),show decide ((w.2.2.2.2.2.2.1.getD i B8).1≤(w.2.2.2.2.1.length:Int))=true from AQg hle,AOM]
    by_cases h0:i=0
    ·simp_all
    ·rw[AM1 (by omega),AH (by omega) (by omega),AM1 (by omega)]
     have h1:((i:Int)-1).toNat=i-1:=by omega
     have h2:(i==0)=false:=by simp_all
     rw[h1,h2,ASj];grind
   grind) (fun n hn=>by
  simp only[Gk,Oj,AB];simp_all) w.2.2.2.2.2.2.1.length AX 0 (by omega) (AZ (by omega))
 rw[show((0:Nat):Int)=0 from rfl]at key;unfold TX VA av;rw[show(w.1,w.2.1,())=Ae w from rfl,show(w.2.2.2.2.1,w.2.2.2.2.2.1,())=CO w from rfl,QK h.cfg (by show AU Bg w.2.2.2.2.1≤_;omega) h.trim,key];grind
theorem zF:W0 w=some ((decide (w.2.2.2.2.2.2.2.2.2.1.length≤120)&&sW w,()),()):=by
 have k2:=h.TJ;have key:=GB (L:=fun n i=>KT n i w.1 w.2.1 w.2.2.1 w.2.2.2.1 w.2.2.2.2.1 w.2.2.2.2.2.1 w.2.2.2.2.2.2.1 w.2.2.2.2.2.2.2.1 w.2.2.2.2.2.2.2.2.1 w.2.2.2.2.2.2.2.2.2.1 w.2.2.2.2.2.2.2.2.2.2.1) (len:=w.2.2.2.2.2.2.2.2.2.1.length) (p:=tF w) (fin:=true) (fun n i hi=>by
  have hm:=BU (d:=NX) hi;have Te:CR (w.2.2.2.2.2.2.2.2.2.1.getD i (0,[],false,())).1:=h.AFs _ hm;simp only[KT,RC,AB,tF];rw[AM1 (by omega),AM1 (by omega),AH (x:=(i:Int)+1) (by omega) (by omega),show((i:Int)+1)=((i+1:Nat):Int)by omega,AN4,Ij Te,ED Te];simp only[AN0]
  show cond (!Bf (w.2.2.2.2.2.2.2.2.2.1.getD i NX).1) _ _=_
  cases Bf (w.2.2.2.2.2.2.2.2.2.1.getD i NX).1 with
  |false=>rfl
  |true=>
   simp only[ANZ,ANP,AOM];by_cases hle:Aw (w.2.2.2.2.2.2.2.2.2.1.getD i (0,[],false,())).1≤(w.2.2.2.2.1.length:Int)
   ·rw[AM2 (by omega),show decide (Aw (w.2.2.2.2.2.2.2.2.2.1.getD i NX).1≤(w.2.2.2.2.1.length:Int))=true from AQg hle,AOM]
    by_cases h40:(w.2.2.2.2.2.2.2.2.2.1.getD i (0,[],false,())).2.1.length≤40
    ·rw[AM2 (by omega),show decide ((w.2.2.2.2.2.2.2.2.2.1.getD i NX).2.1.length≤40)=true from AQg h40,AOM]
     by_cases h0:i=0
     ·simp_all
     ·rw[AM1 (by omega),AH (by omega) (by omega),AM1 (by omega)]
      have h1:((i:Int)-1).toNat=i-1:=by omega
      have h2:(i==0)=false:=by simp_all
      rw[h1,h2,ASj];grind
    grind
   grind) (fun n=>by
  simp only[KT,RC,AB];simp_all) w.2.2.2.2.2.2.2.2.2.1.length AX 0 (by omega) (AZ (by omega))
 rw[show((0:Nat):Int)=0 from rfl]at key;unfold W0 Xe sW;grind
theorem cW:Sn w=some ((Ft w,()),()):=by
 unfold Sn Ft eQ;rw[show(w.1,w.2.1,w.2.2.1,w.2.2.2.1,w.2.2.2.2.1,w.2.2.2.2.2.1,w.2.2.2.2.2.2.1,w.2.2.2.2.2.2.2.1,w.2.2.2.2.2.2.2.2.1,w.2.2.2.2.2.2.2.2.2.1,w.2.2.2.2.2.2.2.2.2.2.1,())=w from rfl];rw[xD h,uv h,zF h,Pg,Pg];simp only[AN0];by_cases h2:w.2.2.2.2.2.2.2.2.1.length=2
 all_goals grind
end
end Go.M
end
section
namespace Go.M
open Go.M.H (AK AQ A0 Ai AA Cq AO A8 AR Ak Bd AU AW Ab Ag Aj CB EB Cy Bg Ax Ao Au CL C_ jv)
theorem lF.of{w:AA}(hv:Go.Fw.Vd jv w)(hw:Cy w≤2^20):lF w where
 weight:=hw
 BE:=fun s hs=>⟨fun e he=>wf_i64 (((hv.2.2.1.2 s hs).1).2 e he).1,fun e he=>wf_i64 (((hv.2.2.1.2 s hs).2.1).2 e he).1⟩
 trim:=wf_i64 hv.2.2.2.2.2.1
 CI:=fun m hm e he=>wf_i64 (((hv.2.2.2.2.2.2.2.1.2 m hm).2.2.2.1).2 e he).1
 AFs:=fun s hs=>wf_i64 (hv.2.2.2.2.2.2.2.2.2.1.2 s hs).1
section
variable{w:AA} (h:lF w)
include h
end
end Go.M
end
section
namespace Go.M
open Go.M.H (AK AQ A0 Ai AA Cq AO A8 AR Ak Bd AU AW Ab Ag Aj CB EB Cy Bg Ax Ao Au CL C_ jv)
def fnd(p:Int):List Ai→List UInt8×Bool
 |[]=>([],false)
 |s::l=>cond (s.1==p) (s.2.1,true) (fnd p l)
section
variable{w:AA} (h:lF w)
include h
end
end Go.M
end
section
namespace Go.M
open Go.M.H (AK AQ A0 Ai AA Cq AO A8 AR Ak Bd AU AW Ab Ag Aj CB EB Cy Bg Ax Ao Au CL C_ jv)
def aF(w:AA):Prop:= ∀r∈w.2.2.2.2.2.2.2.2.1,∀e∈r.2.2.1,CR e.2.1
theorem aF.of{w:AA}(hv:Go.Fw.Vd jv w):aF w:=fun r hr e he=>wf_i64 (((hv.2.2.2.2.2.2.2.2.1.2 r hr).2.2.1).2 e he).2.1
section
variable{w:AA} (h:lF w) (hev:aF w)
include h hev
end
end Go.M
end
section
namespace Go.M
open Go.M.H (AK AQ A0 Ai AA Cq AO A8 AR Ak Bd A9 BK)
def HF(e o:Int):Int:=4294967296*e+o
def Gl(e o:Int):Int:=if BL e 1 30&&BL o 1 60 then HF e o else 0
def iA(x:Int):List Int→List Int
 |[]=>[x]
 |y::l=>if x<y then x::y::l else y::iA x l
def N4(x:Int)(l:AAD):AAD:=if l.contains x then l else iA x l
def less(l m:AAD):AAD:=l.filter fun x=> !m.contains x
def Q5(c:CE)(s l:AAD):Bool:=holds c s&&(A4 c l&&(l.all s.contains&& !holds c (less s l)))
def BJ(k:Int):AAD:=if BL k 0 255 then([0,1,2,3,4,5,6,7]:AAD).filter fun i=>(k/2^i.toNat)%2==1 else[]
def better(a b:AK):AK:=if b.2.1>a.2.1 then b else a
def keep(e:AK):List AK→List AK
 |[]=>[e]
 |x::l=>if x.1=e.1 then better x e::l else if x.1>e.1 then e::x::l else x::keep e l
def EH:List AK→List AK→List AK
 |k,[]=>k
 |k,e::l=>EH (keep e k) l
def Mg(k:Int):Nat→List AK→List AK
 |_,[]=>[]
 |i,e::l=>if(k/2^i)%2=1 then e::Mg k (i+1) l else Mg k (i+1) l
def PL(p:Int)(l:List AK):Option AK:=l.find? fun e=>e.1==p
def takes(s:AQ)(e:AK):Bool:=if e.2.1=0 then decide (Aw e.1>s.2.2.1)else decide (e.2.1>s.2.2.1)
def HM(s:AQ)(e:AK):AQ×Bool:=
 if !B7 s then(EF,false)else if Fy e&&(takes s e&&decide (s.2.1.length≠20))then((s.1,s.2.1++[e],s.2.2.1,()),true)else(s,false)
def GA(s:AQ)(k:Int):AQ×Bool:=
 if !B7 s then(EF,false)else
  let q:=EH s.1 (Mg k 0 s.2.1)
  if BL k 0 1048575&&decide (q.length≤200)then((q,[],s.2.2.1,()),true)else(s,false)
def Be(s:AQ):AQ×Bool:=GA s 1048575
def Bo(s:AQ)(upto:Int):AQ×Bool:=
 if !B7 s then(EF,false)else
  let o:=Be s
  if o.2&&BL upto 0 30 then((o.1.1,o.1.2.1,max o.1.2.2.1 upto,()),true)else(s,false)
def YF(s:AQ)(p:Int):Option AK:=if B7 s then PL p s.1 else none
def Gf(s:AQ)(ep:Int):List AK:=if B7 s then s.1.filter fun e=>Aw e.1==ep else[]
def JO(s:AQ)(upto:Int):AQ×Bool:=
 if !B7 s then(EF,false)else if Bf upto then((s.1.filter fun e=>decide (e.1>upto),s.2.1,s.2.2.1,()),true)else(s,false)
abbrev ks:AO:=([],0,())
def Bh(l:List Cq)(e:Int):AAD:=if BL e 1 l.length then(l.getD (e-1).toNat G3).1 else[]
def I4(c:CE)(r:AO)(ns:AAD):AO×Int×Bool:=
 if !NW c r then(ks,0,false)else if holds c ns&&decide (r.1.length≠30)then((r.1++[(ns,false,0,())],r.2.1,()),(r.1.length:Int)+1,true)else(r,0,false)
def Oh(l:List Cq)(i:Nat)(last:Int):List Cq:=l.set i ((l.getD i G3).1,true,last,())
def NI(c:CE)(r:AO)(b last:Int):AO×Bool:=
 if !NW c r then(ks,false)else
  if decide (b=r.1.length)&&(decide (BG r.1≠0)&&(decide (b≠BG r.1)&&BL last 0 60))then((Oh r.1 (BG r.1-1).toNat last,r.2.1,()),true)else(r,false)
def OW(c:CE)(r:AO)(p:Int):AO×Bool:=
 if !NW c r then(ks,false)else if Bf p&&decide (Aw p≤r.1.length)then((r.1,max r.2.1 p,()),true)else(r,false)
def Bq(c:CE)(w:AR)(d:AB_):AR×Int×Bool:=
 if !Db c w then(B8,0,false)else
  if Db c (w.1,w.2.1++[(d,[],false,())],())then((w.1,w.2.1++[(d,[],false,())],()),(w.2.1.length:Int)+1,true)else(w,0,false)
def GR(c:CE)(n:Int)(x:A8):A8:=(x.1,N4 n x.2.1,holds c (N4 n x.2.1),())
def Rx(c:CE)(w:AR)(o n:Int):AR×Bool:=
 if !Db c w then(B8,false)else
  if BL o 1 w.2.1.length&&(BL n 0 ((c.1.length:Int)-1)&& !(w.2.1.getD (o-1).toNat Ma).2.2.1)then((w.1,w.2.1.set (o-1).toNat (GR c n (w.2.1.getD (o-1).toNat Ma)),()),true)else(w,false)
def Et(n:Int)(x:A8):A8:=(x.1,if x.2.2.1 then x.2.1 else less x.2.1 [n],x.2.2.1,())
def CD(c:CE)(w:AR)(n:Int):AR×Bool:=
 if !Db c w then(B8,false)else((w.1,w.2.1.map (Et n),()),true)
def YO:List A8→Nat
 |[]=>0
 |x::l=>if x.2.2.1 then YO l+1 else 0
def oB(e b:Int):A0:=(b,e,[],[],false,[],())
def O7(c:CE)(m:A0)(n:Int)(l:List AK):A0×Bool:=
 if !GV c m then(Ra,false)else
  let o:A0:=(m.1,m.2.1,N4 n m.2.2.1,EH m.2.2.2.1 (l.filter fun e=>Aw e.1==m.2.1),m.2.2.2.2.1,m.2.2.2.2.2.1,())
  if !m.2.2.2.2.1&&GV c o then(o,true)else(m,false)
def MH(c:CE)(m:A0)(s:AAD):A0×Bool:=
 if !GV c m then(Ra,false)else
  if !m.2.2.2.2.1&&Q5 c s (m.2.2.1.filter s.contains)then((m.1,m.2.1,m.2.2.1,m.2.2.2.1,true,List.replicate (PK m.2.2.2.1).toNat [],()),true)else(m,false)
def EL(m:A0)(o:Int):Option AK:=
 if m.2.2.2.2.1&&(BL m.2.1 1 30&&(BL o 1 60&&decide (o≤m.2.2.2.2.2.1.length)))then
  match PL (HF m.2.1 o) m.2.2.2.1 with
  |some x=>some (HF m.2.1 o,m.1,x.2.2.1,x.2.2.2.1,())
  |none=>some (HF m.2.1 o,m.1,true,[],())
 else none
def Sm(c:CE)(m:A0)(o n:Int):A0×Bool:=
 if !GV c m then(Ra,false)else
  if BL o 1 m.2.2.2.2.2.1.length&&BL n 0 ((c.1.length:Int)-1)then((m.1,m.2.1,m.2.2.1,m.2.2.2.1,m.2.2.2.2.1,m.2.2.2.2.2.1.set (o-1).toNat (N4 n (m.2.2.2.2.2.1.getD (o-1).toNat [])),()),true)else(m,false)
def CA(c:CE)(m:A0)(n:Int):A0×Bool:=
 if !GV c m then(Ra,false)else((m.1,m.2.1,m.2.2.1,m.2.2.2.1,m.2.2.2.2.1,m.2.2.2.2.2.1.map fun l=>less l [n],()),true)
def UP(c:CE)(m:A0):Bool:=GV c m&&(m.2.2.2.2.1&&m.2.2.2.2.2.1.all (holds c))
def XN(a:A9):AK:=(a.2.2.1,a.2.2.2.1,a.2.2.2.2.1,a.2.2.2.2.2.1,())
def Hb(s:AAD)(p:Int):Option AK→List A9→Option AK
 |b,[]=>b
 |b,a::l=>if a.2.1&&(s.contains a.1&&(Fy (XN a)&&(XN a).1==p))then
   Hb s p (some (match b with|some x=>better x (XN a)|none=>XN a)) l
  else Hb s p b l
def Q9(p:Int):Option AK→Bd
 |none=>(3,p,[],())
 |some x=>if x.2.2.1 then(2,p,[],())else(1,p,x.2.2.2.1,())
def Co(c:CE)(g:AO)(sure:Int)(r:Ak)(l:List A9):Ak×Int:=
 if !(NW c g&&(ZE r&&A4 c (l.map fun a=>a.1)))then(EG,1)else
 if decide (r.1>g.1.length)||decide (r.2.2.1.length=120)then(r,2)else
 let era:=g.1.getD (r.1-1).toNat G3
 let p:=HF r.1 r.2.1
 if g.2.1≥p then((Aw g.2.1,EE g.2.1+1,r.2.2.1++[(5,g.2.1,[],())],()),0)else
 if era.2.1&&decide (r.2.1>era.2.2.1)then((r.1+1,1,r.2.2.1++[(4,r.1+1,[],())],()),0)else
 if(!era.2.1&&decide (r.2.1>sure))||decide (r.2.1>60)then(r,2)else
 if !Q5 c era.1 ((l.map fun a=>a.1).filter era.1.contains)then(r,3)else
 ((r.1,r.2.1+1,r.2.2.1++[Q9 p (Hb era.1 p none l)],()),0)
def Gr:List AK→List AQ→List AK
 |k,[]=>k
 |k,s::l=>Gr (EH k s.1) l
def others(lost:AAD):Nat→List AQ→List AQ
 |_,[]=>[]
 |i,s::l=>if lost.contains (i:Int)then others lost (i+1) l else s::others lost (i+1) l
def aw(c:CE)(ss:List AQ)(lost:AAD)(n upto:Int):AQ×Bool:=
 let s:AQ:=(Gr [] (others lost 0 ss),[],upto,())
 if F6 c&&(decide (ss.length=c.1.length)&&(A4 c lost&&(!holds c lost&&(lost.contains n&&((others lost 0 ss).all B7&&B7 s)))))then(s,true)else(EF,false)
end Go.M
namespace Go.M.H.AA
open Go.M.H (AK AQ A0 Ai AA Cq AO A8 AR Ak Bd)
@[reducible] def BE (w:AA):List AQ:=w.2.2.1
@[reducible] def lost (w:AA):AAD:=w.2.2.2.1
@[reducible] def BA (w:AA):List Cq:=w.2.2.2.2.1
@[reducible] def trim (w:AA):Int:=w.2.2.2.2.2.1
@[reducible] def AN (w:AA):List AR:=w.2.2.2.2.2.2.1
@[reducible] def CI (w:AA):List A0:=w.2.2.2.2.2.2.2.1
@[reducible] def Ac (w:AA):List Ak:=w.2.2.2.2.2.2.2.2.1
@[reducible] def Al (w:AA):List Ai:=w.2.2.2.2.2.2.2.2.2.1
@[reducible] def Ib (w:AA):Bool:=w.2.2.2.2.2.2.2.2.2.2.1
@[reducible] def CF (w:AA) (x:List AQ):AA:=(w.1,w.2.1,x,w.2.2.2)
@[reducible] def FH (w:AA) (x:AAD):AA:=(w.1,w.2.1,w.2.2.1,x,w.2.2.2.2)
@[reducible] def I0 (w:AA) (x:AO):AA:=(w.1,w.2.1,w.2.2.1,w.2.2.2.1,x.1,x.2.1,w.2.2.2.2.2.2)
@[reducible] def BZ (w:AA) (x:List AR):AA:=(w.1,w.2.1,w.2.2.1,w.2.2.2.1,w.2.2.2.2.1,w.2.2.2.2.2.1,x,w.2.2.2.2.2.2.2)
@[reducible] def Cn (w:AA) (x:List A0):AA:=(w.1,w.2.1,w.2.2.1,w.2.2.2.1,w.2.2.2.2.1,w.2.2.2.2.2.1,w.2.2.2.2.2.2.1,x,w.2.2.2.2.2.2.2.2)
@[reducible] def DC (w:AA) (x:List Ak):AA:=(w.1,w.2.1,w.2.2.1,w.2.2.2.1,w.2.2.2.2.1,w.2.2.2.2.2.1,w.2.2.2.2.2.2.1,w.2.2.2.2.2.2.2.1,x,w.2.2.2.2.2.2.2.2.2)
@[reducible] def Az (w:AA) (x:List Ai):AA:=(w.1,w.2.1,w.2.2.1,w.2.2.2.1,w.2.2.2.2.1,w.2.2.2.2.2.1,w.2.2.2.2.2.2.1,w.2.2.2.2.2.2.2.1,w.2.2.2.2.2.2.2.2.1,x,w.2.2.2.2.2.2.2.2.2.2)
@[reducible] def FV (w:AA) (x:Bool):AA:=(w.1,w.2.1,w.2.2.1,w.2.2.2.1,w.2.2.2.2.1,w.2.2.2.2.2.1,w.2.2.2.2.2.2.1,w.2.2.2.2.2.2.2.1,w.2.2.2.2.2.2.2.2.1,w.2.2.2.2.2.2.2.2.2.1,x,())
end Go.M.H.AA
namespace Go.M
open Go.M.H (AK AQ A0 Ai AA Cq AO A8 AR Ak Bd A9 BK)
def ARv:AA:=([],0,[],[],[],0,[],[],[],[],false,())
def VL(c:CE):AA:=(c.1,c.2.1,List.replicate c.1.length EF,[],[],0,[],[],[(1,1,[],()),(1,1,[],())],[],false,())
def fE(k:Int):Bool×Bool×Bool×Bool:=
 if k=8∨k=10∨k=12 then(false,false,false,false)
 else if k=2 then(true,false,false,true)
 else if k=3 then(true,true,true,false)
 else if k=5∨k=14 then(true,true,false,false)
 else if k=11 then(false,true,true,false)
 else(true,false,false,false)
def P7(d:BK):Bool:=
 BL d.1 1 16&&(((fE d.1).1||d.2.1==0)&&(((fE d.1).2.1||d.2.2.1==0)&&(((fE d.1).2.2.1||d.2.2.2.1==0)&&(((fE d.1).2.2.2||d.2.2.2.2.1==[])&&decide (d.2.2.2.2.1.length≤40)))))
abbrev YL:Type:=AA×Int
def Aq(w:AA)(n:Int):Int:=if !BL n 0 ((w.BE.length:Int)-1)then 2 else if w.lost.contains n then 3 else 0
def Mf(w:AA)(a:Int):YL:=
 if w.AN.length=4 then(w,4)else
 let q:=I4 (Ae w) (CO w) (BJ a)
 if !q.2.2 then(w,4)else(((w.I0 q.1).BZ (w.AN++[(q.2.1,[],())])).Cn [],0)
def Z_(s:Ai):List Ai→List Ai
 |[]=>[s]
 |x::l=>if x.1>s.1 then s::x::l else x::Z_ s l
def doAdd(w:AA)(a:Int)(d:AB_):YL:=
 if !BL a 0 ((w.AN.length:Int)-1)then(w,2)else
 let x:=w.AN.getD a.toNat B8
 let q:=Bq (Ae w) x d
 if !q.2.2||(decide (w.Al.length=120)||w.Al.any fun s=>s.1==HF x.1 q.2.1)then(w,4)else
 ((w.BZ (w.AN.set a.toNat q.1)).Az (Z_ (HF x.1 q.2.1,d,false,()) w.Al),0)
def putAt(w:AA)(n:Int)(q:AQ×Bool):YL:=if q.2 then(w.CF (w.BE.set n.toNat q.1),0)else(w,4)
def storeAt(w:AA)(n:Int):AQ:=w.BE.getD n.toNat EF
def Iy(w:AA)(a b n:Int):YL:=
 if !BL a 0 ((w.AN.length:Int)-1)then(w,2)else
 let x:=w.AN.getD a.toNat B8
 if !BL b 1 x.2.1.length then(w,2)else
 if Aq w n≠0 then(w,Aq w n)else
 if !(Bh w.BA x.1).contains n then(w,2)else
 putAt w n (HM (storeAt w n) (HF x.1 b,0,false,(x.2.1.getD (b-1).toNat Ma).1,()))
def N3(s:AQ)(p:Int):Bool:=match PL p s.1 with|some e=>e.2.1==0|none=>false
def Br(c:CE)(s:AQ)(ep n:Int):Int→List A8→List A8
 |_,[]=>[]
 |o,x::l=>(if !x.2.2.1&&N3 s (HF ep o)then GR c n x else x)::Br c s ep n (o+1) l
def dz(l:List A8)(o:Int):Bool:=BL o 1 l.length&&(l.getD (o-1).toNat Ma).2.2.1
def QN(all:Bool)(ep:Int)(old new:List A8)(s:Ai):Ai:=
 (s.1,s.2.1,s.2.2.1||(Aw s.1==ep&&(dz new (EE s.1)&&(all|| !dz old (EE s.1)))),())
def eF(s:AQ)(l:List Cq)(n:Int)(x:AR):Bool:=(Bh l x.1).contains n&&decide (s.2.2.1<x.1)
def FE(all:Bool)(c:CE)(s:AQ)(l:List Cq)(n:Int):List AR→List Ai→List AR×List Ai
 |[],ss=>([],ss)
 |x::ws,ss=>
  if eF s l n x then
   let new:=Br c s x.1 n 1 x.2.1
   let q:=FE all c s l n ws (ss.map (QN all x.1 x.2.1 new))
   ((x.1,new,())::q.1,q.2)
  else
   let q:=FE all c s l n ws ss
   (x::q.1,q.2)
def Us(m:A0)(s:AQ)(o:Int):Bool:=match EL m o with|some e=>PL e.1 s.1==some e|none=>false
def Ff(m:A0)(s:AQ)(n:Int):Int→List AAD→List AAD
 |_,[]=>[]
 |o,x::l=>(if Us m s o then N4 n x else x)::Ff m s n (o+1) l
def Ln(s:AQ)(l:List Cq)(n:Int)(m:A0):A0:=
 if(Bh l m.2.1).contains n then(m.1,m.2.1,m.2.2.1,m.2.2.2.1,m.2.2.2.2.1,Ff m s n 1 m.2.2.2.2.2.1,())else m
def N_(all:Bool)(w:AA)(n:Int):YL:=
 if Aq w n≠0 then(w,Aq w n)else
 let q:=Be (storeAt w n)
 if !q.2 then(w,4)else
 let t:=FE all (Ae w) q.1 w.BA n w.AN w.Al
 ((((w.CF (w.BE.set n.toNat q.1)).BZ t.1).Az t.2).Cn (w.CI.map (Ln q.1 w.BA n)),0)
def I9(w:AA)(n k:Int):YL:=if Aq w n≠0 then(w,Aq w n)else putAt w n (GA (storeAt w n) k)
def M8(w:AA)(n:Int):YL:=
 if Aq w n≠0 then(w,Aq w n)else
 let ls:=N4 n w.lost
 (((((w.CF (w.BE.set n.toNat EF)).FH ls).BZ (w.AN.map fun x=>(CD (Ae w) x n).1)).Cn (w.CI.map fun m=>(CA (Ae w) m n).1)).FV (w.Ib||holds (Ae w) ls),0)
def Mk(w:AA)(n:Int):YL:=
 if !w.lost.contains n then(w,2)else
 let q:=aw (Ae w) w.BE w.lost n (max ((w.BA.length:Int)-1) 0)
 if !q.2 then(w,4)else((w.CF (w.BE.set n.toNat q.1)).FH (less w.lost [n]),0)
def Mm(w:AA):YL:=
 if decide ((w.BA.length:Int)<2)||decide (BG w.BA=w.BA.length)then(w,2)else
 if w.CI.length>0 then(w,4)else(w.Cn [oB (BG w.BA) w.BA.length],0)
def Me(w:AA)(n:Int):YL:=
 match w.CI with
 |[]=>(w,2)
 |m::ms=>
  if Aq w n≠0 then(w,Aq w n)else
  if !(Bh w.BA m.2.1).contains n then(w,2)else
  let q:=Bo (storeAt w n) (m.1-1)
  let t:=O7 (Ae w) m n (Gf q.1 m.2.1)
  if !q.2|| !t.2 then(w,4)else((w.CF (w.BE.set n.toNat q.1)).Cn (t.1::ms),0)
def My(w:AA):YL:=
 match w.CI with
 |[]=>(w,2)
 |m::ms=>
  let t:=MH (Ae w) m (Bh w.BA m.2.1)
  if !t.2 then(w,4)else(w.Cn (t.1::ms),0)
def TT(w:AA)(b n:Int):YL:=
 match w.CI with
 |[]=>(w,2)
 |m::ms=>
  match EL m b with
  |none=>(w,2)
  |some e=>
   if Aq w n≠0 then(w,Aq w n)else
   if !(Bh w.BA m.2.1).contains n then(w,2)else putAt w n (HM (storeAt w n) e)
def Iw(w:AA):YL:=
 match w.CI with
 |[]=>(w,2)
 |m::ms=>
  if !UP (Ae w) m then(w,5)else
  let q:=NI (Ae w) (CO w) m.1 m.2.2.2.2.2.1.length
  if !q.2 then(w,4)else((w.I0 q.1).Cn [],0)
def Ox(w:AA)(a:Int):YL:=
 let q:=OW (Ae w) (CO w) a
 if !q.2 then(w,4)else(w.I0 q.1,0)
def answer(w:AA)(p n:Int):A9:=
 match PL p (storeAt w n).1 with
 |some e=>(n,true,e.1,e.2.1,e.2.2.1,e.2.2.2.1,())
 |none=>(n,false,0,0,false,[],())
def answers(w:AA)(p:Int)(ns:AAD):List A9:=(ns.filter fun n=>Aq w n==0).map (answer w p)
def cD(w:AA)(e:Int):Int:=match w.AN.find? (fun x=>x.1==e)with|some x=>YO x.2.1|none=>0
def Ha(w:AA)(a k:Int):YL:=
 if !BL a 0 1 then(w,2)else
 let r:=w.Ac.getD a.toNat EG
 let q:=Co (Ae w) (CO w) (cD w r.1) r (answers w (HF r.1 r.2.1) (BJ k))
 if q.2≠0 then(w,5)else(w.DC (w.Ac.set a.toNat q.1),0)
def N1(w:AA)(a:Int):YL:=
 if !BL a 0 ((w.AN.length:Int)-1)then(w,2)else(w.BZ (w.AN.eraseIdx a.toNat),0)
def I6(w:AA)(n:Int):YL:=if Aq w n≠0 then(w,Aq w n)else putAt w n (JO (storeAt w n) w.trim)
def LQ(all:Bool)(w:AA)(d:BK):YL:=
 if d.1=1 then Mf w d.2.1 else
 if d.1=2 then doAdd w d.2.1 d.2.2.2.2.1 else
 if d.1=3 then Iy w d.2.1 d.2.2.1 d.2.2.2.1 else
 if d.1=4 then N_ all w d.2.1 else
 if d.1=5 then I9 w d.2.1 d.2.2.1 else
 if d.1=6 then M8 w d.2.1 else
 if d.1=7 then Mk w d.2.1 else
 if d.1=8 then Mm w else
 if d.1=9 then Me w d.2.1 else
 if d.1=10 then My w else
 if d.1=11 then TT w d.2.2.1 d.2.2.2.1 else
 if d.1=12 then Iw w else
 if d.1=13 then Ox w d.2.1 else
 if d.1=14 then Ha w d.2.1 d.2.2.1 else
 if d.1=15 then N1 w d.2.1 else I6 w d.2.1
def CC(all:Bool)(w:AA)(d:BK):YL:=if !Ft w|| !P7 d then(ARv,1)else LQ all w d
end Go.M
end
section
namespace Go.M
open Go.M.H (AK AQ A0 Ai AA Cq AO A8 AR Ak Bd A9 BK)
theorem Rk{p:Nat→Bool}{n:Nat}:Eg p 0 n=true↔ ∀i,i<n→p i=true:=
 ⟨fun h i hi=>TS h i (by omega) (by omega),fun h=>pB fun j _ hj=>h j (by omega)⟩
theorem jW{α:Type}{l:List α}{i:Nat}{d:α}(h:i<l.length):l.getD i d=l[i]:=by simp_all
theorem S9{α:Type}{l:List α}{d:α}{P:α→Prop}:(∀i,i<l.length→P (l.getD i d))↔ ∀x∈l,P x:=by
 constructor
 ·intro h x hx
  obtain⟨i,hi,rfl⟩:=ASe hx;simp_all
 simp_all
abbrev Wf{α:Type}(f:α→Int)(l:List α):Prop:=l.Pairwise fun a b=>f a<f b
theorem ez{α:Type}{f:α→Int}{l:List α}{d:α}:(∀i,i<l.length→i=0∨f (l.getD (i-1) d)<f (l.getD i d))↔Wf f l:=by
 constructor
 ·intro h
  unfold Wf;rw[AWB];have key:∀(k i:Nat),i+k+1<l.length→f (l.getD i d)<f (l.getD (i+k+1) d):=by
   intro k
   induction k with
   |zero=>
    grind
   |succ k ih=>
    grind
  intro i j hi hj hij;have:=key (j-i-1) i (by omega);grind
 grind[List.pairwise_iff_getElem,jW]
theorem Am{x a b:Int}:BL x a b=true↔a≤x∧x≤b:=by simp[BL]
theorem w8{l:AAD}{hi:Int}:ql l hi=true↔(∀x∈l,0≤x∧x≤hi)∧Wf id l:=by
 unfold ql;rw[Rk,←S9 (d:=(0:Int)) (P:=fun x=>0≤x∧x≤hi),←ez (d:=(0:Int))];simp only[ue,ANN,Am,ASr,ASo,AOH,id];grind
theorem En{c:CE}{l:AAD}:A4 c l=true↔F6 c=true∧(∀x∈l,0≤x∧x<c.1.length)∧Wf id l:=by
 unfold A4;rw[ANN,w8];grind
theorem uO{l:List AK}:X5 l=true↔ ∀e∈l,Fy e=true:=by
 unfold X5;rw[Rk];exact S9 (P:=fun e=>Fy e=true)
theorem wC{l:List AK}:iv l=true↔Wf (fun e:AK=>e.1) l:=by
 unfold iv;rw[Rk,←ez (d:=Dt)];simp_all
structure cI (s:AQ):Prop where
 nk:s.1.length≤200
 kept:∀e∈s.1,Fy e=true
 nl:s.2.1.length≤20
 late:∀e∈s.2.1,Fy e=true
 u_:Wf (fun e:AK=>e.1) s.1
 sl:0≤s.2.2.1∧s.2.2.1≤30
theorem DO{s:AQ}:B7 s=true↔cI s:=by
 unfold B7;simp only[ANN,AOH,uO,wC,Am];exact⟨fun⟨⟨a,b⟩,⟨c,d⟩,e,f⟩=>⟨a,b,c,d,e,f⟩,fun h=>⟨⟨h.nk,h.kept⟩,⟨h.nl,h.late⟩,h.u_,h.sl⟩⟩
structure EOk (e:AK):Prop where
 pl:Bf e.1=true
 w0:0≤e.2.1∧e.2.1≤30
 w1:0<e.2.1→Aw e.1<e.2.1
 len:e.2.2.2.1.length≤40
 hole:e.2.2.1=true→0<e.2.1∧e.2.2.2.1=[]
theorem FY{e:AK}:Fy e=true↔EOk e:=by
 unfold Fy;simp only[ANN,ASr,AS2,AOH,ATJ,Am,ASo];constructor
 ·rintro⟨a,b,c,d,e⟩
  refine⟨a,b,fun h=>c.resolve_left fun hn=>hn h,d,fun h=>e.resolve_left fun hn=> ?_⟩;simp_all
 ·intro h
  refine⟨h.pl,h.w0,?_,h.len,?_⟩
  ·by_cases hw:0<e.2.1
   ·exact .inr (h.w1 hw)
   omega
  ·cases hh:e.2.2.1 with
   |false=>simp_all
   |true=>exact .inr (h.hole hh)
structure kF (c:CE) (m:A0):Prop where
 cfg:F6 c=true
 ep:1≤m.2.1∧m.2.1≤30
 b:m.2.1+1≤m.1∧m.1≤30
 sld:A4 c m.2.2.1=true
 u_:Wf (fun e:AK=>e.1) m.2.2.2.1
 seen:∀e∈m.2.2.2.1,Fy e=true∧Aw e.1=m.2.1∧e.2.1<m.1
 wrote:∀l∈m.2.2.2.2.2.1,A4 c l=true
 n:(m.2.2.2.2.2.1.length:Int)=if m.2.2.2.2.1 then PK m.2.2.2.1 else 0
theorem Gg{c:CE}{m:A0}:GV c m=true↔kF c m:=by
 unfold GV sR qt;simp only[ANN,Am,wC,Rk,s9,ASo,AOH];rw[S9 (d:=Dt) (P:=fun e=>Fy e=true∧Aw e.1=m.2.1∧e.2.1<m.1),S9 (d:=([]:AAD)) (P:=fun l=>A4 c l=true)];have:(m.2.2.2.2.2.1.length:Int)=cond m.2.2.2.2.1 (PK m.2.2.2.1) 0↔(m.2.2.2.2.2.1.length:Int)=if m.2.2.2.2.1 then PK m.2.2.2.1 else 0:=by
  grind
 rw[this];exact⟨fun⟨a,b,c,d,e,f,g,h⟩=>⟨a,b,c,d,e,f,g,h⟩,fun h=>⟨h.cfg,h.ep,h.b,h.sld,h.u_,h.seen,h.wrote,h.n⟩⟩
structure zO (c:CE) (r:AO):Prop where
 cfg:F6 c=true
 n:r.1.length≤30
 trim:r.2.1=0∨(Bf r.2.1=true∧Aw r.2.1≤r.1.length)
 BA:∀e∈r.1,holds c e.1=true∧(0≤e.2.2.1∧e.2.2.1≤60)∧(e.2.1=false→e.2.2.1=0)
 down:∀i,i<r.1.length→(r.1.getD i G3).2.1=true→i+1<r.1.length∧ ∀j,j<i→(r.1.getD j G3).2.1=true
theorem KO{c:CE}{r:AO}:NW c r=true↔zO c r:=by
 unfold NW gN;simp only[ANN,AOH,ASr,ASo,Rk,tw,o9,Am,AS2,Bool.and_eq_false_iff,Bool.or_eq_false_iff,ATJ,AQZ];constructor
 ·rintro⟨a,b,c1,d⟩
  refine⟨a,b,c1,(S9 (d:=G3) (P:=fun e=>holds c e.1=true∧(0≤e.2.2.1∧e.2.2.1≤60)∧(e.2.1=false→e.2.2.1=0))).1 fun i hi=> ?_,fun i hi hc=> ?_⟩
  ·grind
  ·have step:∀k,k<r.1.length→(r.1.getD k G3).2.1=true→k+1<r.1.length∧(0<k→(r.1.getD (k-1) G3).2.1=true):=fun k hk hkc=>by
    rcases(d k hk).2 with h|⟨h1,h2⟩
    ·simp_all
    ·refine⟨by omega,fun h0=> ?_⟩
     simp_all
   refine⟨(step i hi hc).1,?_⟩;clear hi
   induction i with
   |zero=>omega
   |succ i ih=>
    intro j hj;have DL:i+1<r.1.length:=by
     rcases Nat.lt_or_ge (i+1) r.1.length with h|h
     ·omega
     ·simp[List.getD,h]at hc
      cases hc
    grind
 ·intro h
  refine⟨h.cfg,h.n,h.trim,fun i hi=>⟨?_,?_⟩⟩
  ·obtain⟨h1,h2,h3⟩:=h.BA _ (BU (d:=G3) hi)
   grind
  ·cases hb:(r.1.getD i G3).2.1 with
   |false=>simp_all
   |true=>
    obtain⟨h1,h2⟩:=h.down i hi hb;grind
structure bZ (c:CE) (w:AR):Prop where
 cfg:F6 c=true
 ep:1≤w.1∧w.1≤30
 n:w.2.1.length≤60
 words:∀x∈w.2.1,x.1.length≤40∧A4 c x.2.1=true∧x.2.2.1=holds c x.2.1
 opn:RS w.2.1≤6
theorem Ix{c:CE}{w:AR}:Db c w=true↔bZ c w:=by
 unfold Db le6 W4;simp only[ANN,AOH,Am,ASw,ASo];exact⟨fun⟨a,b,c,d,e⟩=>⟨a,b,c,d,e⟩,fun h=>⟨h.cfg,h.ep,h.n,h.words,h.opn⟩⟩
structure AHl (r:Ak):Prop where
 ep:1≤r.1∧r.1≤31
 off:1≤r.2.1∧r.2.1≤61
 n:r.2.2.1.length≤120
theorem T_{r:Ak}:ZE r=true↔AHl r:=by
 unfold ZE;simp only[ANN,AOH,Am];exact⟨fun⟨a,b,c⟩=>⟨a,b,by omega⟩,fun h=>⟨h.ep,h.off,by have:=h.n;omega⟩⟩
structure Nw (w:AA):Prop where
 cfg:F6 (Ae w)=true
 q_:w.BE.length=w.1.length
 lost:A4 (Ae w) w.lost=true
 Ib:w.Ib=true∨holds (Ae w) w.lost=false
 BE:∀i,i<w.BE.length→cI (w.BE.getD i EF)∧((i:Int)∈w.lost→w.BE.getD i EF=EF)
 nj:zO (Ae w) (CO w)
 rr:w.AN.length≤4
 vI:w.CI.length≤1
 AN:∀x∈w.AN,bZ (Ae w) x∧x.1≤w.BA.length
 fX:Wf (fun x:AR=>x.1) w.AN
 CI:∀m∈w.CI,kF (Ae w) m∧m.1=w.BA.length∧m.2.1=BG w.BA
 nN:w.Ac.length=2
 Ac:∀r∈w.Ac,AHl r
 Rp:w.Al.length≤120
 Al:∀s∈w.Al,Bf s.1=true∧Aw s.1≤w.BA.length∧s.2.1.length≤40
 bU:Wf (fun s:Ai=>s.1) w.Al
theorem EU{w:AA}:Ft w=true↔Nw w:=by
 unfold Ft;simp only[ANN,AOH,fM,av,iU,sW,eQ,Rk,kg,fC,s7,tF,ASr,AS2,ASo,DO,KO,Ix,Gg,T_];have hz:∀s:AQ,(s.1.length=0∧s.2.1.length=0∧s.2.2.1=0)↔s=EF:=fun s=>by
  grind
 simp only[hz];constructor
 ·rintro⟨h1,h2,h3,h4,h5,h6,h7,h8,h9,h10,⟨h11,h12,h13⟩,h14,h15⟩
  refine⟨h1,h2,h3,h4,fun i hi=>⟨(h5 i hi).1,fun hm=>(h5 i hi).2.resolve_left fun hc=> ?_⟩,h6,h7,h8,?_,?_,?_,h11,?_,h14,?_,?_⟩
  ·simp_all
  ·exact(S9 (d:=B8) (P:=fun x:AR=>bZ (Ae w) x∧x.1≤w.BA.length)).1 fun i hi=>⟨(h9 i hi).1,(h9 i hi).2.1⟩
  ·exact(ez (f:=fun x:AR=>x.1) (d:=B8)).1 fun i hi=>(h9 i hi).2.2
  ·exact(S9 (d:=Ra) (P:=fun m:A0=>kF (Ae w) m∧m.1=w.BA.length∧m.2.1=BG w.BA)).1 h10
  ·refine(S9 (d:=EG) (P:=AHl)).1 fun i hi=> ?_
   rw[h11]at hi;rcases(by omega:i=0∨i=1)with rfl|rfl
   all_goals omega
  ·exact(S9 (d:=NX) (P:=fun s:Ai=>Bf s.1=true∧Aw s.1≤w.BA.length∧s.2.1.length≤40)).1 fun i hi=>⟨(h15 i hi).1.1,(h15 i hi).1.2,(h15 i hi).2.1⟩
  ·exact(ez (f:=fun s:Ai=>s.1) (d:=NX)).1 fun i hi=>(h15 i hi).2.2
 ·intro h
  refine⟨h.cfg,h.q_,h.lost,h.Ib,fun i hi=>⟨(h.BE i hi).1,?_⟩,h.nj,h.rr,h.vI,fun i hi=> ?_,fun i hi=>h.CI _ (BU hi),⟨h.nN,h.Ac _ (BU (by rw[h.nN];omega)),h.Ac _ (BU (by rw[h.nN];omega))⟩,h.Rp,fun i hi=> ?_⟩
  ·by_cases hm:(i:Int)∈w.lost
   ·exact .inr ((h.BE i hi).2 hm)
   simp_all
  ·have:=h.AN _ (BU (d:=B8) hi)
   exact⟨this.1,this.2,(ez (f:=fun x:AR=>x.1) (d:=B8)).2 h.fX i hi⟩
  ·have:=h.Al _ (BU (d:=NX) hi)
   exact⟨⟨this.1,this.2.1⟩,this.2.2,(ez (f:=fun s:Ai=>s.1) (d:=NX)).2 h.bU i hi⟩
end Go.M
end
section
namespace Go.M
open Go.M.H (AK AQ A0 Ai AA Cq AO A8 AR Ak Bd A9 BK)
theorem pY{x y:Int}:∀{l:AAD},y∈iA x l↔y=x∨y∈l
 |[]=>by simp[iA]
 |z::l=>by
  simp only[iA];split
  ·simp
  ·simp only[ARi,pY (l:=l)]
   grind
theorem wy{x:Int}:∀{l:AAD},Wf id l→x∉l→Wf id (iA x l)
 |[],_,_=>by simp[iA,Wf]
 |z::l,h,hx=>by
  simp only[Wf,ASf,id]at h;simp only[ARi,not_or]at hx;simp only[iA];split
  ·rename_i hz
   simp only[Wf,ASf,ARi,id];grind
  ·rename_i hz
   simp only[Wf,ASf,id];refine⟨fun a ha=> ?_,wy h.2 hx.2⟩;rcases pY.1 ha with rfl|ha
   all_goals grind
theorem wZ{x y:Int}{l:AAD}:y∈N4 x l↔y=x∨y∈l:=by
 unfold N4;split
 ·simp_all
 ·exact pY
theorem AEt{x:Int}{l:AAD}(h:Wf id l):Wf id (N4 x l):=by
 grind[N4,wy]
theorem Ks{c:CE}{x:Int}{l:AAD}(h:A4 c l=true)(hx:0≤x∧x<c.1.length):A4 c (N4 x l)=true:=by
 rw[En]at h⊢;refine⟨h.1,fun y hy=> ?_,AEt h.2.2⟩;rcases wZ.1 hy with rfl|hy
 all_goals simp_all
theorem Tb{c:CE}{l:AAD}(p:Int→Bool)(h:A4 c l=true):A4 c (l.filter p)=true:=by
 grind[En]
theorem pZ{x:Int}{l m:AAD}:x∈less l m↔x∈l∧x∉m:=by simp[less]
theorem Zg{c:CE}(h:F6 c=true):A4 c []=true:=En.2 ⟨h,fun _ h=>by simp at h,List.Pairwise.nil⟩
theorem ADW{l m:AAD}(h:l.Nodup)(hs:∀x∈l,x∈m):l.length≤m.length:=by
 induction l generalizing m with
 |nil=>simp
 |cons a l ih=>
  rw[AVi]at h;have ha:=hs a (by simp);have:=ih (m:=m.erase a) h.2 fun x hx=>(List.mem_erase_of_ne (fun e:x=a=>h.1 (by simp_all))).2 (hs x (by simp[hx]))
  grind
theorem vT{c:AAD}{d:Int}:∀{l acc:AAD},d∈iz c l acc↔d∈acc∨ ∃n∈l,c.getD n.toNat 0=d
 |[],acc=>by simp[iz]
 |n::l,acc=>by
  simp only[iz];rw[vT (l:=l)];grind
theorem pQ{c:AAD}:∀{l acc:AAD},acc.Nodup→(iz c l acc).Nodup
 |[],acc,h=>h
 |n::l,acc,h=>by
  simp only[iz];refine pQ ?_
  grind
theorem wz{c l m:AAD}(h:∀x∈l,x∈m):bQ c l≤bQ c m:=by
 refine ADW (pQ List.nodup_nil) fun d hd=> ?_
 grind[vT]
theorem pP{c:CE}{l m:AAD}(hl:holds c l=true)(hm:A4 c m=true)(h:∀x∈l,x∈m):holds c m=true:=by
 simp only[holds,ANN,AOH]at hl⊢;have:=wz (c:=c.1) h;grind
theorem holds_nil{c:CE}:holds c []=false:=by
 rw[ATA];intro h;have hc:=(En.1 (VU h)).1;have:=(Dl hc).2.2.1;simp only[holds,ANN,AOH,bQ,iz]at h;grind
theorem AA9{a b:AK}(h:a.1=b.1):(better a b).1=b.1:=by grind[better]
theorem eL{e y:AK}:∀{l:List AK},y∈keep e l→y=e∨y∈l
 |[],h=>by simpa[keep]using h
 |x::l,h=>by
  simp only[keep]at h;split at h
  ·rcases ARi.1 h with rfl|h
   all_goals grind[better]
  ·split at h
   ·simp_all
   ·rcases ARi.1 h with rfl|h
    ·simp
    ·rcases eL h with h|h<;>simp[h]
theorem AKq{e y:AK}{l:List AK}(h:y∈keep e l):y.1=e.1∨ ∃z∈l,z.1=y.1:=by
 rcases eL h with rfl|h
 all_goals grind
theorem X4{e:AK}:∀{l:List AK},(keep e l).length≤l.length+1∧l.length≤(keep e l).length
 |[]=>by simp[keep]
 |x::l=>by
  have:=X4 (e:=e) (l:=l);grind[keep,List.length_cons]
abbrev fi(l:List AK):Prop:=Wf (fun e:AK=>e.1) l
theorem dw{e:AK}:∀{l:List AK},fi l→fi (keep e l)
 |[],_=>by simp[keep,Wf]
 |x::l,h=>by
  have h':=h;simp only[Wf,ASf]at h;simp only[keep];split
  ·rename_i hx
   simp only[fi,Wf,ASf];grind[AA9]
  ·split
   ·rename_i hx
    simp only[fi,Wf,ASf,ARi];grind
   ·rename_i h1 h2
    simp only[fi,Wf,ASf];refine⟨fun a ha=> ?_,dw h.2⟩;grind[AKq]
theorem sA{p:Int}{l:List AK}{e:AK}(h:PL p l=some e):e∈l∧e.1=p:=by
 grind[PL,List.mem_of_find?_eq_some]
theorem mV{e:AK}:∀{l:List AK},fi l→e∈l→PL e.1 l=some e
 |x::l,h,he=>by
  simp only[Wf,ASf]at h;unfold PL;rw[AWX];rcases ARi.1 he with rfl|he
  ·simp
  ·have:=h.1 e he
   have ea:(x.1==e.1)=false:=by grind
   rw[ea];exact mV h.2 he
theorem eP{y:AK}:∀{l k:List AK},y∈EH k l→y∈k∨y∈l
 |[],k,h=> .inl h
 |e::l,k,h=>by
  rcases eP (l:=l) h with h|h
  ·rcases eL h with rfl|h
   all_goals simp_all
  simp_all
theorem dX:∀{l k:List AK},fi k→fi (EH k l)
 |[],k,h=>h
 |e::l,k,h=>dX (l:=l) (dw h)
theorem eM{k:Int}{y:AK}:∀{l:List AK} {i:Nat},y∈Mg k i l→y∈l
 |[],_,h=>h
 |e::l,i,h=>by
  simp only[Mg]at h;split at h
  ·rcases ARi.1 h with rfl|h
   ·simp
   ·simp[eM h]
  ·simp[eM h]
end Go.M
end
section
namespace Go.M
open Go.M.H (AK AQ A0 Ai AA Cq AO A8 AR Ak Bd A9 BK)
theorem JM{e o:Int}(he:1≤e∧e≤30)(ho:1≤o∧o≤60):Bf (HF e o)=true∧Aw (HF e o)=e∧EE (HF e o)=o:=by
 have h1:Yf (HF e o)=e:=by
  grind[Yf,HF,Int.tdiv_eq_ediv_of_nonneg]
 have h2:(HF e o).tmod 4294967296=o:=by
  grind[HF,Int.tmod_eq_emod_of_nonneg]
 have h3:Bf (HF e o)=true:=by
  unfold Bf;rw[h1,h2,ANN,Am,Am];omega
 exact⟨h3,by unfold Aw;simp_all,by unfold EE;simp_all⟩
theorem HD{p:Int}(h:Bf p=true):(1≤Aw p∧Aw p≤30)∧(1≤EE p∧EE p≤60)∧HF (Aw p) (EE p)=p:=by
 have h0:=du h;have h1:=h;unfold Bf at h1;rw[ANN,Am,Am]at h1;have e1:Aw p=Yf p:=by unfold Aw;rw[AM1 h]
 grind[EE,HF,Yf,Int.tdiv_eq_ediv_of_nonneg,Int.tmod_eq_emod_of_nonneg]
theorem cI.nil:cI EF:=⟨by simp,by simp,by simp,by simp,List.Pairwise.nil,by simp⟩
theorem eX{s:AQ}{e:AK}(h:(HM s e).2=true):cI (HM s e).1∧(HM s e).1=(s.1,s.2.1++[e],s.2.2.1,())∧Fy e=true∧takes s e=true:=by
 unfold HM at*;split at h
 ·cases h
 rename_i hs;rw[AM2 hs];simp only[AQV,AQZ]at hs;rw[DO]at hs;split at h
 case isFalse=>cases h
 rename_i h1;rw[AM1 h1];simp only[ANN,AOH]at h1;obtain⟨he,ht,hl⟩:=h1;refine⟨⟨hs.nk,hs.kept,?_,fun x hx=> ?_,hs.u_,hs.sl⟩,rfl,he,ht⟩
 ·have:=hs.nl
  grind
 ·simp only[AOk,ARu]at hx
  rcases hx with hx|rfl
  ·exact hs.late x hx
  omega
theorem Nn{s:AQ}{k:Int}(h:(GA s k).2=true):cI s∧cI (GA s k).1∧(GA s k).1=(EH s.1 (Mg k 0 s.2.1),[],s.2.2.1,()):=by
 unfold GA at*;split at h
 ·cases h
 rename_i hs;rw[AM2 hs];simp only[AQV,AQZ]at hs;rw[DO]at hs;simp only at h⊢;split at h
 case isFalse=>cases h
 rename_i h1;rw[AM1 h1];simp only[ANN,AOH]at h1;refine⟨hs,⟨h1.2,fun e he=> ?_,by simp,by simp,dX hs.u_,hs.sl⟩,rfl⟩;rcases eP he with he|he
 ·exact hs.kept e he
 ·exact hs.late e (eM he)
theorem jq{s:AQ}{u:Int}(h:(Bo s u).2=true):cI s∧cI (Bo s u).1∧(Bo s u).1=(EH s.1 (Mg 1048575 0 s.2.1),[],max s.2.2.1 u,())∧0≤u∧u≤30:=by
 unfold Bo at*;split at h
 ·cases h
 rename_i hs;rw[AM2 hs];simp only[AQV,AQZ]at hs;simp only at h⊢;split at h
 case isFalse=>cases h
 rename_i h1;rw[AM1 h1];simp only[ANN,Am]at h1;obtain⟨k1,k2,k3⟩:=Nn h1.1;have iY:(Be s).1=_:=k3;rw[iY];refine⟨k1,⟨?_,?_,by simp,by simp,dX k1.u_,?_⟩,rfl,h1.2⟩
 ·have:=k2.nk;simp_all
 ·have:=k2.kept;simp_all
 ·have:=k1.sl
  grind
theorem tc{s:AQ}{u:Int}(h:(JO s u).2=true):cI s∧cI (JO s u).1∧(JO s u).1=(s.1.filter fun e=>decide (e.1>u),s.2.1,s.2.2.1,()):=by
 unfold JO at*;split at h
 ·cases h
 rename_i hs;rw[AM2 hs];simp only[AQV,AQZ]at hs;rw[DO]at hs;split at h
 case isFalse=>cases h
 rename_i h1;rw[AM1 h1];refine⟨hs,⟨ASY (ASZ _ _) hs.nk,fun e he=>hs.kept e (ATi.1 he).1,hs.nl,hs.late,hs.u_.filter _,hs.sl⟩,rfl⟩
theorem ADy{c:CE}{ss:List AQ}{lost:AAD}{n u:Int}(h:(aw c ss lost n u).2=true):
  cI (aw c ss lost n u).1∧(aw c ss lost n u).1=(Gr [] (others lost 0 ss),[],u,())∧holds c lost=false∧ ∀s∈others lost 0 ss,cI s:=by
 unfold aw at*;simp only at h⊢;split at h
 case isFalse=>cases h
 rename_i h1;rw[AM1 h1];simp only[ANN,AOH,AS2,ASw]at h1;obtain⟨_,_,_,h2,_,h3,h4⟩:=h1;exact⟨DO.1 h4,rfl,h2,fun s hs=>DO.1 (h3 s hs)⟩
theorem eu{l:List Cq}:∀{d i:Nat},i+d=l.length→(YD l i d=0∧ ∀j,i≤j→j<l.length→(l.getD j G3).2.1=true)∨
  ∃k,i≤k∧k<l.length∧YD l i d=(k:Int)+1∧(l.getD k G3).2.1=false∧ ∀j,i≤j→j<k→(l.getD j G3).2.1=true
 |0,i,h=> .inl ⟨rfl,fun j h1 h2=>by omega⟩
 |d+1,i,h=>by
  simp only[YD];cases hb:(l.getD i ([],false,0,())).2.1 with
  |false=>grind
  |true=>
   simp only[ANZ,ANP];rcases eu (l:=l) (d:=d) (i:=i+1) (by omega)with⟨h1,h2⟩|⟨k,h1,h2,h3,h4,h5⟩
   all_goals grind
theorem SU{c:CE}{r:AO}(h:zO c r)(hl:0<r.1.length):∃k,k<r.1.length∧BG r.1=(k:Int)+1∧(r.1.getD k G3).2.1=false∧ ∀j,j<k→(r.1.getD j G3).2.1=true:=by
 rcases eu (l:=r.1) (d:=r.1.length) (i:=0) (by omega)with⟨h1,h2⟩|⟨k,h1,h2,h3,h4,h5⟩
 ·have:=(h.down (r.1.length-1) (by omega) (h2 _ (by omega) (by omega))).1
  omega
 ·exact⟨k,h2,h3,h4,fun j hj=>h5 j (by omega) hj⟩
theorem ot{c:CE}{r:AO}{ns:AAD}(h:(I4 c r ns).2.2=true):zO c r∧zO c (I4 c r ns).1∧(I4 c r ns).1=(r.1++[(ns,false,0,())],r.2.1,())∧(I4 c r ns).2.1=(r.1.length:Int)+1∧holds c ns=true∧r.1.length<30:=by
 unfold I4 at*;split at h
 ·cases h
 rename_i hs;rw[AM2 hs];simp only[AQV,AQZ]at hs;rw[KO]at hs;split at h
 case isFalse=>cases h
 rename_i h1;rw[AM1 h1];simp only[ANN,AOH]at h1;have hn:=hs.n;refine⟨hs,⟨hs.cfg,?_,?_,fun e he=> ?_,fun i hi hc=> ?_⟩,rfl,rfl,h1.1,by omega⟩
 ·grind
 ·rcases hs.trim with h2|⟨h2,h3⟩
  all_goals grind
 ·simp only[AOk,ARu]at he
  rcases he with he|rfl
  ·exact hs.BA e he
  simp_all
 ·simp only[AOq,AOX,AQl]at hi
  have get:∀j,j<r.1.length→(r.1++[(ns,false,0,())]).getD j G3=r.1.getD j G3:=fun j hj=>by
   grind
  by_cases hl:i<r.1.length
  ·rw[get i hl]at hc
   obtain⟨h2,h3⟩:=hs.down i hl hc;grind
  simp_all
theorem bd{l:List Cq}{i j:Nat}{last:Int}(hi:i<l.length):(Oh l i last).getD j G3=if i=j then((l.getD i G3).1,true,last,())else l.getD j G3:=by
 grind[Oh]
theorem l3{c:CE}{r:AO}{b last:Int}(h:(NI c r b last).2=true):zO c r∧zO c (NI c r b last).1∧
  ∃k,k<r.1.length∧BG r.1=(k:Int)+1∧k+1<r.1.length∧b=r.1.length∧(0≤last∧last≤60)∧(NI c r b last).1=(Oh r.1 k last,r.2.1,())∧(r.1.getD k G3).2.1=false∧ ∀j,j<k→(r.1.getD j G3).2.1=true:=by
 unfold NI at*;split at h
 ·cases h
 rename_i hs;rw[AM2 hs];simp only[AQV,AQZ]at hs;rw[KO]at hs;split at h
 case isFalse=>cases h
 rename_i h1;rw[AM1 h1];simp only[ANN,AOH,Am]at h1;obtain⟨hb,h0,ea,hlast⟩:=h1;have hl:0<r.1.length:=by
  rcases AWa r.1.length with hz|hz
  ·exfalso
   apply h0;unfold BG;rw[hz];rfl
  omega
 obtain⟨k,k1,k2,k3,k4⟩:=SU hs hl;have hk:(BG r.1-1).toNat=k:=by omega
 rw[hk];have hlen:(Oh r.1 k last).length=r.1.length:=by simp[Oh]
 refine⟨hs,⟨hs.cfg,by rw[hlen];exact hs.n,?_,fun e he=> ?_,fun i hi hc=> ?_⟩,k,k1,k2,by omega,hb,hlast,rfl,k3,k4⟩
 ·simp only[hlen];exact hs.trim
 ·unfold Oh at he
  rcases ASk he with he|rfl
  ·exact hs.BA e he
  ·exact⟨(hs.BA _ (BU k1)).1,hlast,fun hf=>by cases hf⟩
 ·simp only[hlen]at hi⊢
  rw[bd k1]at hc;by_cases hik:k=i
  ·subst hik
   refine⟨by omega,fun j hj=> ?_⟩;rw[bd k1,AM2 (by omega)];simp_all
  ·rw[AM2 hik]at hc
   obtain⟨h2,h3⟩:=hs.down i hi hc;grind[bd]
theorem pf{c:CE}{r:AO}{p:Int}(h:(OW c r p).2=true):zO c r∧zO c (OW c r p).1∧(OW c r p).1=(r.1,max r.2.1 p,()):=by
 unfold OW at*;split at h
 ·cases h
 rename_i hs;rw[AM2 hs];simp only[AQV,AQZ]at hs;rw[KO]at hs;split at h
 case isFalse=>cases h
 rename_i h1;rw[AM1 h1];simp only[ANN,AOH]at h1;refine⟨hs,⟨hs.cfg,hs.n,?_,hs.BA,hs.down⟩,rfl⟩;simp only;have hp:=(du h1.1).1;by_cases hm:r.2.1≤p
 ·grind
 ·rw[show max r.2.1 p=r.2.1 by omega]
  exact hs.trim
theorem bX{c:CE}{w:AR}{d:AB_}(h:(Bq c w d).2.2=true):bZ c w∧bZ c (Bq c w d).1∧(Bq c w d).1=(w.1,w.2.1++[(d,[],false,())],())∧(Bq c w d).2.1=(w.2.1.length:Int)+1:=by
 unfold Bq at*;split at h
 ·cases h
 rename_i hs;rw[AM2 hs];simp only[AQV,AQZ]at hs;rw[Ix]at hs;split at h
 case isFalse=>cases h
 rename_i h1;rw[AM1 h1];exact⟨hs,Ix.1 h1,rfl,rfl⟩
theorem cM{c:CE}{s:AQ}{ep n:Int}(hn:0≤n∧n<c.1.length):∀{l:List A8} {o:Int},(∀x∈l,x.1.length≤40∧A4 c x.2.1=true∧x.2.2.1=holds c x.2.1)→
  (∀x∈Br c s ep n o l,x.1.length≤40∧A4 c x.2.1=true∧x.2.2.1=holds c x.2.1)∧RS (Br c s ep n o l)≤RS l∧(Br c s ep n o l).length=l.length
 |[],o,h=>by simp[Br]
 |x::l,o,h=>by
  obtain⟨h1,h2,h3⟩:=cM (s:=s) (ep:=ep) hn (l:=l) (o:=o+1) fun y hy=>h y (by simp[hy])
  have hx:=h x (by simp);simp only[Br,ARi,AOX,RS];split
  ·rename_i hd
   simp only[ANN,AS2]at hd;refine⟨?_,?_,by omega⟩
   ·rintro y (rfl|hy)
    ·exact⟨hx.1,Ks hx.2.1 hn,rfl⟩
    grind
   grind
  grind
theorem sU{c:CE}{n:Int}:∀{l:List A8},(∀x∈l,x.1.length≤40∧A4 c x.2.1=true∧x.2.2.1=holds c x.2.1)→
  (∀x∈l.map (Et n),x.1.length≤40∧A4 c x.2.1=true∧x.2.2.1=holds c x.2.1)∧RS (l.map (Et n))=RS l
 |[],h=>by simp
 |x::l,h=>by
  obtain⟨h1,h2⟩:=sU (n:=n) (l:=l) fun y hy=>h y (by simp[hy])
  have hx:=h x (by simp);simp only[ATB,ARi,RS,h2,Et,ASq]
  rintro y (rfl|hy)
  ·refine⟨hx.1,?_,?_⟩
   ·simp only
    split
    ·simp_all
    ·exact Tb _ hx.2.1
   ·simp only
    split
    ·simp_all
    ·rename_i hd
     simp only[AQV]at hd;rw[hd]
     symm
     rw[ATA];grind[pP,pZ]
  grind
theorem cj{c:CE}{w:AR}{n:Int}(h:bZ c w):bZ c (CD c w n).1∧(CD c w n).1=(w.1,w.2.1.map (Et n),()):=by
 unfold CD;rw[Ix.2 h];obtain⟨h1,h2⟩:=sU (n:=n) h.words;exact⟨⟨h.cfg,h.ep,by simpa using h.n,h1,by simp only[ANZ];exact h2▸h.opn⟩,rfl⟩
theorem Hj{l:List AK}:0≤PK l∧PK l≤60:=by
 unfold PK;cases l.length==0 with
 |true=>simp
 |false=>
  simp only[ANP];rcases AM0 (Bf (l.getD (l.length-1) Dt).1)with h|h
  ·have:=(HD h).2.1;omega
  grind[EE]
theorem mA{c:CE}{m:A0}{n:Int}{l:List AK}(h:(O7 c m n l).2=true):kF c m∧kF c (O7 c m n l).1∧m.2.2.2.2.1=false∧
  (O7 c m n l).1=(m.1,m.2.1,N4 n m.2.2.1,EH m.2.2.2.1 (l.filter fun e=>Aw e.1==m.2.1),m.2.2.2.2.1,m.2.2.2.2.2.1,()):=by
 unfold O7 at*;split at h
 ·cases h
 rename_i hs;rw[AM2 hs];simp only[AQV,AQZ]at hs;rw[Gg]at hs;simp only at h⊢;split at h
 case isFalse=>cases h
 rename_i h1;rw[AM1 h1];simp only[ANN,AS2]at h1;exact⟨hs,Gg.1 h1.2,h1.1,rfl⟩
theorem mG{c:CE}{m:A0}{s:AAD}(h:(MH c m s).2=true):kF c m∧kF c (MH c m s).1∧m.2.2.2.2.1=false∧Q5 c s (m.2.2.1.filter s.contains)=true∧
  (MH c m s).1=(m.1,m.2.1,m.2.2.1,m.2.2.2.1,true,List.replicate (PK m.2.2.2.1).toNat [],()):=by
 unfold MH at*;split at h
 ·cases h
 rename_i hs;rw[AM2 hs];simp only[AQV,AQZ]at hs;rw[Gg]at hs;split at h
 case isFalse=>cases h
 rename_i h1;rw[AM1 h1];simp only[ANN,AS2]at h1;refine⟨hs,⟨hs.cfg,hs.ep,hs.b,hs.sld,hs.u_,hs.seen,fun l hl=> ?_,?_⟩,h1.1,h1.2,rfl⟩
 ·simp only at hl
  rw[AS9 hl];exact Zg hs.cfg
 ·simp only[AS8,ASi]
  have:=(Hj (l:=m.2.2.2.1)).1;omega
theorem iy{c:CE}{m:A0}{s:AQ}{n:Int}(hn:0≤n∧n<c.1.length):∀{l:List AAD} {o:Int},(∀x∈l,A4 c x=true)→
  (∀x∈Ff m s n o l,A4 c x=true)∧(Ff m s n o l).length=l.length
 |[],o,h=>by simp[Ff]
 |x::l,o,h=>by
  obtain⟨h1,h2⟩:=iy (m:=m) (s:=s) hn (l:=l) (o:=o+1) fun y hy=>h y (by simp[hy])
  have hx:=h x (by simp);simp only[Ff,ARi,AOX,h2,ASq]
  rintro y (rfl|hy)
  all_goals grind[Ks]
theorem AE0{c:CE}{s:AQ}{l:List Cq}{n:Int}{m:A0}(hn:0≤n∧n<c.1.length)(h:kF c m):kF c (Ln s l n m):=by
 unfold Ln;split
 ·obtain⟨h1,h2⟩:=iy (m:=m) (s:=s) hn (o:=1) h.wrote
  exact⟨h.cfg,h.ep,h.b,h.sld,h.u_,h.seen,h1,by simp only[h2];exact h.n⟩
 omega
theorem rN{c:CE}{m:A0}{n:Int}(h:kF c m):kF c (CA c m n).1∧(CA c m n).1=(m.1,m.2.1,m.2.2.1,m.2.2.2.1,m.2.2.2.2.1,m.2.2.2.2.2.1.map fun l=>less l [n],()):=by
 unfold CA;rw[Gg.2 h];refine⟨⟨h.cfg,h.ep,h.b,h.sld,h.u_,h.seen,fun l hl=> ?_,?_⟩,rfl⟩
 ·simp only[ANZ,ANw,AQS,ATD]at hl
  obtain⟨l',h1,rfl⟩:=hl;exact Tb _ (h.wrote l' h1)
 ·simp only[ANZ,ANw,AQS,ATV]
  exact h.n
theorem rQ{c:CE}{g:AO}{sure:Int}{r:Ak}{l:List A9}(h:(Co c g sure r l).2=0):AHl (Co c g sure r l).1:=by
 unfold Co at*;split at h
 ·omega
 rename_i hs;rw[AM2 hs];simp only[AQV,AQZ,ANN,KO,T_]at hs;obtain⟨hg,hr,_⟩:=hs;have r1:=hr.ep;have r2:=hr.off;have r3:=hr.n;split at h
 ·omega
 rename_i h1;rw[AM2 h1];simp only[ASr,AOH,not_or]at h1;have hn:=hg.n;simp only at h⊢;split at h
 ·rename_i h2
  rw[AM1 h2];have hp:Bf g.2.1=true:=by
   rcases hg.trim with ht|ht
   all_goals grind[HF]
  obtain⟨a1,a2,_⟩:=HD hp;exact⟨by grind,by grind,by grind⟩
 ·rename_i h2
  rw[AM2 h2];split at h
  ·rename_i h3
   rw[AM1 h3];exact⟨by grind,by simp_all,by simp_all;omega⟩
  ·rename_i h3
   rw[AM2 h3];split at h
   ·omega
   rename_i h4;rw[AM2 h4];simp only[ASr,AOH,not_or]at h4;split at h
   ·omega
   rename_i h5;rw[AM2 h5];exact⟨by omega,by grind,by simp_all;omega⟩
end Go.M
end
section
namespace Go.M
open Go.M.H (AK AQ A0 Ai AA Cq AO A8 AR Ak Bd A9 BK)
theorem AD{α β:Type}(a:α)(f:α→Option β):(some a).bind f=f a:=rfl
theorem WC{l:AAD}{x:Int}(hl:l.length≤2^30):∀(n i:Nat) (b:AAD),i≤l.length→l.length-i<n→b.length≤2*i+1→
  Hp n l x true i b=some (((),()),(b++l.drop i,()))
 |0,i,b,_,h,_=>by omega
 |n+1,i,b,hi,h,hb=>by
  simp only[Hp,Pt,AB,ANZ,ANP];by_cases hc:i<l.length
  ·have c1:(0:Int)≤(i:Int)∧(i:Int)<(l.length:Int):=by omega
   have c2:b.length+1≤C7:=by rw[An];omega
   rw[AM1 c1.2,AM1 c1,AM1 c2,AH (by omega) (by omega),show((i:Int)+1)=((i+1:Nat):Int)by omega,Ah hc,drop_cons hc,WC hl n (i+1) _ (by omega) (by omega) (by grind)];simp
  grind
theorem aX{l:AAD}{x:Int}(hl:l.length≤2^30):∀(n i:Nat) (b:AAD),i≤l.length→l.length-i<n→b.length≤i→
  Hp n l x false i b=some (((),()),(b++iA x (l.drop i),()))
 |0,i,b,_,h,_=>by omega
 |n+1,i,b,hi,h,hb=>by
  simp only[Hp,Pt,AB,ASd,AOA];have c2:b.length+1≤C7:=by rw[An];omega
  by_cases hc:i<l.length
  ·have c1:(0:Int)≤(i:Int)∧(i:Int)<(l.length:Int):=by omega
   have c3:(b++[x]).length+1≤C7:=by grind[An]
   rw[AM1 c1.2];simp only[AM1 c1,AM1 c2,AM1 c3];rw[AH (by omega) (by omega),show((i:Int)+1)=((i+1:Nat):Int)by omega,Ah hc,drop_cons hc];simp only[iA];by_cases hx:l[i]>x
   ·rw[AM1 hx,AM1 (by omega),WC hl n (i+1) _ (by omega) (by omega) (by grind)]
    simp
   ·rw[AM2 hx,AM2 (by omega),aX hl n (i+1) _ (by omega) (by omega) (by simp_all)]
    simp
  ·rw[AM2 (by omega),AM1 c2,ANy (by omega)]
   rfl
theorem LF{l:AAD}{x:Int}(hl:l.length≤2^30):Ig l x=some (((),()),(N4 x l,())):=by
 unfold Ig Uk N4;rw[K4 (by omega)];simp only[AD];rcases AM0 (l.contains x)with h|h
 ·rw[h,AM1 rfl]
  grind[WC,AX,AZ]
 ·rw[h,AM2 (by simp)]
  grind[aX,AX,AZ]
theorem aS{l m:AAD}(hl:l.length≤2^30)(hm:m.length≤2^30):∀(n i:Nat) (b:AAD),i≤l.length→l.length-i<n→b.length≤i→
  O9 n l m i b=some (((),()),(b++less (l.drop i) m,()))
 |0,i,b,_,h,_=>by omega
 |n+1,i,b,hi,h,hb=>by
  simp only[O9,ZM,AB];have c2:b.length+1≤C7:=by rw[An];omega
  by_cases hc:i<l.length
  ·have c1:(0:Int)≤(i:Int)∧(i:Int)<(l.length:Int):=by omega
   rw[AM1 c1.2];simp only[AM1 c1,AM1 c2];rw[AH (by omega) (by omega),show((i:Int)+1)=((i+1:Nat):Int)by omega,Ah hc,drop_cons hc,K4 (by omega)];simp only[AD,less,ASL];cases hx:m.contains l[i]with
   |true=>
    simp only[ANZ,ANP,ANw,AQS];exact aS hl hm n (i+1) _ (by omega) (by omega) (by omega)
   |false=>
    simp only[ASd,AOA,ASi];rw[aS hl hm n (i+1) _ (by omega) (by omega) (by simp_all)];simp[less]
  ·rw[AM2 (by omega),ANy (by omega)]
   simp[less]
theorem Jt{l m:AAD}(hl:l.length≤2^30)(hm:m.length≤2^30):JG l m=some (((),()),(less l m,())):=by
 grind[JG,Zd,aS,AX,AZ]
theorem F4{e o:Int}(he: -1000≤e∧e≤1000)(ho: -1000≤o∧o≤1000):CY e o=some ((HF e o,()),()):=by
 grind[CY,HF,AH]
theorem jR{e o:Int}:S3 e o=some (((Gl e o,BL e 1 30&&BL o 1 60,()),()),()):=by
 unfold S3 Gl;rw[BR,BR];simp only[AD];rcases AM0 (BL e 1 30)with he|he
 ·rcases AM0 (BL o 1 60)with ho|ho
  ·have h1:=Am.1 he
   have h2:=Am.1 ho;rw[he,ho,AH (x:=4294967296*e) (by omega) (by omega),AH (by omega) (by omega)];rfl
  simp_all
 simp_all
theorem JF{a b:Int}:FQ a b=some ((max a b,()),()):=by
 unfold FQ;grind
theorem Z4{a b:Int}:UC a b=some ((min a b,()),()):=by
 unfold UC;grind
def ia(q:AQ×Bool):ADN×(List AK×List AK×Unit):=(((((),(),q.1.2.2.1,()),q.2,()),()),(q.1.1,q.1.2.1,()))
theorem Ov{s:AQ}(h1:s.1.length≤2^30)(h2:s.2.1.length≤2^30):Ek s=some ((((),(),s.2.2.1,()),()),(s.1,s.2.1,())):=by
 unfold Ek;rw[AM1 (by rw[An];omega),AM1 (by rw[An];omega)]
theorem mq{s:AQ}{e:AK}(he:CR e.1):W6 s e=some ((takes s e,()),()):=by
 unfold W6 takes;rw[ED he];grind
theorem X7{a b:AK}:Ry a b=some ((better a b,()),()):=by
 unfold Ry better;grind
theorem F_{s:AQ}(h:H.Aj s≤2^30):s.1.length≤2^30∧s.2.1.length≤2^30:=by
 grind[H.AW,H.Ag,H.Aj]
theorem UU{s:AQ}{e:AK}(hw:H.Aj s≤2^30)(hs:jc s)(he:CR e.1):Ng s e=some (ia (HM s e)):=by
 obtain⟨l1,l2⟩:=F_ hw;unfold Ng HM;rw[show(s.1,s.2.1,s.2.2.1,())=s from rfl,show(e.1,e.2.1,e.2.2.1,e.2.2.2.1,())=e from rfl,Fq hw hs,Ov l1 l2,Qg he,mq he];simp only[AD];rcases AM0 (B7 s)with h|h
 rotate_left
 ·rw[h];rfl
 rw[h];simp only[ANZ,ANP,ANw,AQS];cases Fy e with
 |false=>rfl
 |true=>
  cases takes s e with
  |false=>rfl
  |true=>
   simp only[ANZ,ANP,AOM];by_cases h20:s.2.1.length=20
   ·rw[show((s.2.1.length:Int)==20)=true by simp[h20],show decide (s.2.1.length≠20)=false by simp[h20]]
    rfl
   ·rw[show((s.2.1.length:Int)==20)=false by grind,show decide (s.2.1.length≠20)=true by simp[h20],ANP,AM1 (by rw[An];omega)]
    rfl
theorem Uj{l:List AK}{e:AK}(hl:l.length≤2^30):∀(n i:Nat) (b:List AK),i≤l.length→l.length-i<n→b.length≤2*i+1→
  Jc n l true i e.1 e.2.1 e.2.2.1 e.2.2.2.1 b=some (((),()),(b++l.drop i,()))
 |0,i,b,_,h,_=>by omega
 |n+1,i,b,hi,h,hb=>by
  simp only[Jc,TW,AB,ANZ,ANP];by_cases hc:i<l.length
  ·have c1:(0:Int)≤(i:Int)∧(i:Int)<(l.length:Int):=by omega
   have c2:b.length+1≤C7:=by rw[An];omega
   rw[AM1 c1.2,AM1 c1,AM1 c2,AH (by omega) (by omega),show((i:Int)+1)=((i+1:Nat):Int)by omega,Ah hc,drop_cons hc,Uj hl n (i+1) _ (by omega) (by omega) (by grind),AOK];rfl
  grind
theorem Ys{l:List AK}{e:AK}(hl:l.length≤2^30):∀(n i:Nat) (b:List AK),i≤l.length→l.length-i<n→b.length≤i→
  Jc n l false i e.1 e.2.1 e.2.2.1 e.2.2.2.1 b=some (((),()),(b++keep e (l.drop i),()))
 |0,i,b,_,h,_=>by omega
 |n+1,i,b,hi,h,hb=>by
  simp only[Jc,TW,AB,ASd,AOA];have c2:b.length+1≤C7:=by rw[An];omega
  by_cases hc:i<l.length
  ·have c1:(0:Int)≤(i:Int)∧(i:Int)<(l.length:Int):=by omega
   have c3:(b++[(e.1,e.2.1,e.2.2.1,e.2.2.2.1,())]).length+1≤C7:=by grind[An]
   rw[AM1 c1.2];simp only[AM1 c1,AM1 c2,AM1 c3];rw[AH (by omega) (by omega),show((i:Int)+1)=((i+1:Nat):Int)by omega,Ah hc,drop_cons hc];rw[show(l[i].1,l[i].2.1,l[i].2.2.1,l[i].2.2.2.1,())=l[i]from rfl,show(e.1,e.2.1,e.2.2.1,e.2.2.2.1,())=e from rfl,X7];simp only[AD,keep];by_cases hx:l[i].1=e.1
   ·rw[show(l[i].1==e.1)=true by simp_all,AM1 hx,AOA,show((better l[i] e).1,(better l[i] e).2.1,(better l[i] e).2.2.1,(better l[i] e).2.2.2.1,())=better l[i] e from rfl,Uj hl n (i+1) _ (by omega) (by omega) (by grind)]
    simp
   ·rw[show(l[i].1==e.1)=false by simp_all,AM2 hx,ANP]
    by_cases hg:l[i].1>e.1
    ·rw[AM1 hg,AM1 hg,Uj hl n (i+1) _ (by omega) (by omega) (by grind)]
     simp
    ·rw[AM2 hg,AM2 hg,Ys hl n (i+1) _ (by omega) (by omega) (by simp_all)]
     simp
  ·rw[AM2 (by omega),AM1 c2,ANy (by omega)]
   rfl
theorem YW{l:List AK}{e:AK}(hl:l.length≤2^30):RT l e=some (((),()),(keep e l,())):=by
 grind[RT,Zn,Ys,AX,AZ]
theorem Um{l:List AK}{p:Int}(hl:l.length≤2^30):HZ l p=some ((((PL p l).getD Dt,(PL p l).isSome,()),()),()):=by
 have key:∀(n i:Nat),i≤l.length→l.length-i<n→QU n l p i 0 0 false []=some ((((PL p (l.drop i)).getD Dt,(PL p (l.drop i)).isSome,()),()),()):=by
  intro n
  induction n with
  |zero=>omega
  |succ n ih=>
   intro i hi h;simp only[QU,ay,AB];by_cases hc:i<l.length
   ·have c1:(0:Int)≤(i:Int)∧(i:Int)<(l.length:Int):=by omega
    rw[AM1 c1.2];simp only[AM1 c1];rw[AH (by omega) (by omega),show((i:Int)+1)=((i+1:Nat):Int)by omega,Ah hc,drop_cons hc,ih (i+1) (by omega) (by omega)];simp only[PL,AWX];cases l[i].1==p<;>rfl
   ·rw[AM2 (by omega),ANy (by omega)]
    rfl
 grind[HZ,al,AX,AZ]
end Go.M
end
section
namespace Go.M
open Go.M.H (AK AQ A0 Ai AA Cq AO A8 AR Ak Bd A9 BK Aj AU AW Ag)
theorem uq{k:Int}{i:Nat}(hk:0≤k∧k<2^63)(hi:i≤63):(dS .i64 (k.fdiv (2^(min i 64))) 1==1)=decide ((k/2^i)%2=1):=by
 obtain⟨m,rfl⟩:∃m:Nat,k=m:=⟨k.toNat,by omega⟩;rw[show min i 64=i by omega];have h1:(m:Int).fdiv (2^i)=((m/2^i:Nat):Int):=by
  grind
 have h2:(m:Int)/2^i=((m/2^i:Nat):Int):=by norm_cast
 have h3:m/2^i<2^63:=Nat.lt_of_le_of_lt (Nat.div_le_self _ _) (by omega);rw[h1,h2,show(1:Int)=((1:Nat):Int)from rfl,AD6 h3 (by omega),Nat.and_one_is_mod];rfl
def vS(p:Nat→Bool):Nat→List AK→List AK
 |_,[]=>[]
 |i,e::l=>if p i then e::vS p (i+1) l else vS p (i+1) l
theorem r_{k:Int}(hk:0≤k∧k<2^63):∀{l:List AK} {i:Nat},i+l.length≤60→vS (fun i=>dS .i64 (k.fdiv (2^(min i 64))) 1==1) i l=Mg k i l
 |[],i,_=>rfl
 |e::l,i,h=>by
  simp only[AOX]at h;have ih:=r_ hk (l:=l) (i:=i+1) (by omega);have AA6:=uq hk (i:=i) (by omega);simp only[vS,Mg];simp_all
theorem Zf{s:AQ}{k:Int}(h1:s.1.length≤200)(h2:s.2.1.length≤20):∀(n i:Nat) (b:List AK),i≤s.2.1.length→s.2.1.length-i<n→b.length≤200+i→
  Jx n k i s.1 s.2.1 s.2.2.1 0 [] [] s.2.2.1 b []=
   some (ia (if BL k 0 1048575&&decide ((EH b (vS (fun i=>dS .i64 (k.fdiv (2^(min i 64))) 1==1) i (s.2.1.drop i))).length≤200)then((EH b (vS (fun i=>dS .i64 (k.fdiv (2^(min i 64))) 1==1) i (s.2.1.drop i)),[],s.2.2.1,()),true)else(s,false)))
 |0,i,b,_,h,_=>by omega
 |n+1,i,b,hi,h,hb=>by
  simp only[Jx,Tq,AB];by_cases hc:i<s.2.1.length
  ·have c1:(0:Int)≤(i:Int)∧(i:Int)<(s.2.1.length:Int):=by omega
   have ih:=fun b hb=>Zf (k:=k) h1 h2 n (i+1) b (by omega) (by omega) hb
   rw[AM1 c1.2,AM2 (by omega)];simp only[AM1 c1];rw[AH (by omega) (by omega),show((i:Int)+1)=((i+1:Nat):Int)by omega,Ah hc,drop_cons hc,AN4];rw[show(s.2.1[i].1,s.2.1[i].2.1,s.2.1[i].2.2.1,s.2.1[i].2.2.2.1,())=s.2.1[i]from rfl,YW (by omega)];simp only[AD,vS];have kl:=X4 (e:=s.2.1[i]) (l:=b);rcases AM0 (dS .i64 (k.fdiv (2^(min i 64))) 1==1)with hb|hb
   ·simp only[hb,AOA,ASi,EH]
    grind
   grind
  ·rw[AM2 (by omega),ANy (by omega),BR,show(s.1,s.2.1,s.2.2.1,())=s from rfl,Ov (by omega) (by omega)]
   simp only[AD,vS,EH];cases BL k 0 1048575 with
   |false=>rfl
   |true=>
    simp only[ANZ,ANP,AOM];by_cases h200:b.length≤200
    ·rw[AM2 (by omega),AQg h200];rfl
    ·rw[AM1 (by omega),ASg h200];rfl
theorem Xz{s:AQ}{k:Int}(hw:Aj s≤2^30)(hs:jc s):NH s k=some (ia (GA s k)):=by
 obtain⟨l1,l2⟩:=F_ hw;unfold NH T7 GA;rw[show(s.1,s.2.1,s.2.2.1,())=s from rfl,Fq hw hs];simp only[AD];rcases AM0 (B7 s)with h|h
 rotate_left
 ·rw[h];rfl
 have FW:=DO.1 h;rw[h];simp only[ANZ,ANP,ANw,AQS];rw[AM1 (by rw[An];omega)];have:=Zf (k:=k) FW.nk FW.nl AX 0 s.1 (by omega) (AZ (by omega)) (by have:=FW.nk;omega);rw[show((0:Nat):Int)=0 from rfl,APS]at this;rw[this];rcases AM0 (BL k 0 1048575)with hk|hk
 ·have hk':=Am.1 hk
  have hn:=FW.nl;grind[r_]
 simp_all
theorem OP{s:AQ}(hw:Aj s≤2^30)(hs:jc s):Jr s=some (ia (Be s)):=by
 unfold Jr Be;rw[show(s.1,s.2.1,s.2.2.1,())=s from rfl,Xz hw hs];rfl
theorem ZP{s:AQ}{u:Int}(hw:Aj s≤2^30)(hs:jc s):Oi s u=some (ia (Bo s u)):=by
 obtain⟨l1,l2⟩:=F_ hw;unfold Oi Bo;rw[show(s.1,s.2.1,s.2.2.1,())=s from rfl,Fq hw hs,OP hw hs,Ov l1 l2,BR];simp only[AD];cases B7 s with
 |false=>rfl
 |true=>
  simp only[ANZ,ANP,ANw,AQS,ia];cases(Be s).2 with
  |false=>rfl
  |true=>
   cases BL u 0 30 with
   |false=>rfl
   |true=>
    simp only[ANZ,ANP,AOM,ASi];rw[JF];rfl
theorem an{s:AQ}{ep:Int}(hw:Aj s≤2^30)(hs:jc s):JE s ep=some (((),()),(Gf s ep,())):=by
 obtain⟨l1,l2⟩:=F_ hw;unfold JE WK Gf;rcases AM0 (B7 s)with h|h
 ·have key:∀(n i:Nat) (b:List AK),i≤s.1.length→s.1.length-i<n→b.length≤i→JP n ep i s.1 s.2.1 s.2.2.1 b=some (((),()),(b++(s.1.drop i).filter fun e=>Aw e.1==ep,())):=by
   intro n
   induction n with
   |zero=>omega
   |succ n ih=>
    intro i b hi hn hb;simp only[JP,QH,AB];have c2:b.length+1≤C7:=by rw[An];omega
    by_cases hc:i<s.1.length
    ·have c1:(0:Int)≤(i:Int)∧(i:Int)<(s.1.length:Int):=by omega
     rw[AM1 c1.2];simp only[AM1 c1,AM1 c2];rw[AH (by omega) (by omega),show((i:Int)+1)=((i+1:Nat):Int)by omega,Ah hc,drop_cons hc,show(s.1,s.2.1,s.2.2.1,())=s from rfl,Fq hw hs,ED (hs.1 _ (AN7 hc)),h];simp only[AD,AOA,ASL];cases Aw s.1[i].1==ep with
     |true=>
      simp only[AOA,ASi];rw[ih (i+1) _ (by omega) (by omega) (by simp_all),AOK];rfl
     |false=>
      grind
    grind
  have:=key AX 0 [] (by omega) (AZ (by omega)) (by simp);simp_all
 ·obtain⟨m,hm⟩:∃m,AX=m+1:=⟨AX-1,by have:=fJ;omega⟩
  rw[h,hm];simp only[JP,QH,AB];rw[show(s.1,s.2.1,s.2.2.1,())=s from rfl,Fq hw hs,h];simp_all
theorem je{s:AQ}{u:Int}(hw:Aj s≤2^30)(hs:jc s)(hu:CR u):TN s u=some (ia (JO s u)):=by
 obtain⟨l1,l2⟩:=F_ hw;unfold TN VJ JO;rw[show(s.1,s.2.1,s.2.2.1,())=s from rfl,Fq hw hs,Ov l1 l2,Ij hu];simp only[AD];cases B7 s with
 |false=>rfl
 |true=>
  cases Bf u with
  |false=>rfl
  |true=>
   simp only[ANZ,ANP,ANw,AQS,ASi];have key:∀(n i:Nat) (b:List AK),i≤s.1.length→s.1.length-i<n→b.length≤i→Kj n u i s.1 s.2.1 s.2.2.1 0 [] [] s.2.2.1 b s.2.1=some (ia ((b++(s.1.drop i).filter fun e=>decide (e.1>u),s.2.1,s.2.2.1,()),true)):=by
    intro n
    induction n with
    |zero=>omega
    |succ n ih=>
     intro i b hi hn hb;simp only[Kj,Vi];have c2:b.length+1≤C7:=by rw[An];omega
     by_cases hc:i<s.1.length
     ·have c1:(0:Int)≤(i:Int)∧(i:Int)<(s.1.length:Int):=by omega
      rw[AQg c1.2];simp only[AM1 c1,AM1 c2,AOA];rw[AH (by omega) (by omega),show((i:Int)+1)=((i+1:Nat):Int)by omega,Ah hc,drop_cons hc];simp only[ASL];cases decide (s.1[i].1>u)with
      |true=>
       simp only[AOA,ASi];rw[ih (i+1) _ (by omega) (by omega) (by simp_all),AOK];rfl
      |false=>
       grind
     grind[decide_eq_false,List.drop_eq_nil_of_le,ia]
   have:=key AX 0 [] (by omega) (AZ (by omega)) (by simp);simp_all
end Go.M
end
section
namespace Go.M
open Go.M.H (AK AQ A0 Ai AA Cq AO A8 AR Ak Bd A9 BK Aj AU AW Ab Ag Bg Ax Ao)
theorem Ni{α:Type}{l:List α}{i:Nat}{x d:α}(hi:i<l.length):(l.set i x).getD i d=x:=by
 simp_all
theorem OI{α:Type}{l:List α}{f:α→α}{i:Nat}(hi:i≤l.length):((l.map f).take i++l.drop i).length=l.length:=by
 simp_all
theorem NL{α:Type}{l:List α}{f:α→α}{i:Nat}{d:α}(hi:i<l.length):((l.map f).take i++l.drop i).getD i d=l[i]:=by
 grind
theorem Qn{α:Type}{l:List α}{f:α→α}{i:Nat}{y:α}(hi:i<l.length)(hy:y=f l[i]):((l.map f).take i++l.drop i).set i y=(l.map f).take (i+1)++l.drop (i+1):=by
 have h:((l.map f).take i).length=i:=by grind
 subst hy;rw[AVo _ _ (by omega),h,AXR,drop_cons hi,AUE,ASt (by simp_all),AOK,List.getElem_map];rfl
theorem ig{α:Type}{l:List α}{f:α→α}{i:Nat}(hi:i<l.length)(hf:f l[i]=l[i]):(l.map f).take i++l.drop i=(l.map f).take (i+1)++l.drop (i+1):=by
 grind[List.take_succ_eq_append_getElem,List.append_assoc,drop_cons]
theorem wb{n:Int}:∀{l:AAD},(iA n l).length=l.length+1
 |[]=>rfl
 |a::l=>by
  simp only[iA];split
  ·simp
  ·simp[wb (l:=l)]
theorem TQ{n:Int}{l:AAD}:(N4 n l).length≤l.length+1:=by
 grind[N4,wb]
theorem FJ{r:AO}{e:Int}(hl:AU Bg r.1≤2^30):CZ r e=some (((),()),(Bh r.1 e,())):=by
 have l1:=AW (f:=Bg) (l:=r.1);unfold CZ Bh;rw[BR];simp only[AD];rcases AM0 (BL e 1 (r.1.length:Int))with h|h
 ·have h':=Am.1 h
  have hm:=Ab (f:=Bg) (BU (d:=G3) (l:=r.1) (i:=(e-1).toNat) (by omega));have Yi:(r.1.getD (e-1).toNat G3).1.length≤AU Bg r.1:=hm;rw[h,AH (by omega) (by omega)];simp only[ANZ,ANP,ASi];rw[AM1 (by omega),AM1 (by grind[An,G3])];rfl
 simp_all
theorem Sw{r:AO}(hl:AU Bg r.1≤2^30):GF r=some ((((),r.2.1,()),()),(r.1,())):=by
 have l1:=AW (f:=Bg) (l:=r.1);have key:∀(n i:Nat) (b:List Cq),i≤r.1.length→r.1.length-i<n→b.length≤i→PN n i r.1 r.2.1 0 [] r.2.1 b=some ((((),r.2.1,()),()),(b++r.1.drop i,())):=by
  intro n
  induction n with
  |zero=>omega
  |succ n ih=>
   intro i b hi hn hb;simp only[PN,Zv,AB];by_cases hc:i<r.1.length
   ·have c1:(0:Int)≤(i:Int)∧(i:Int)<(r.1.length:Int):=by omega
    have hm:=Ab (f:=Bg) (AN7 hc)
    replace hm:r.1[i].1.length≤AU Bg r.1:=hm
    rw[AM1 c1.2,AM1 c1,AH (by omega) (by omega),show((i:Int)+1)=((i+1:Nat):Int)by omega,Ah hc,AM1 (by rw[An];omega),AM1 (by rw[An];omega),drop_cons hc,ih (i+1) _ (by omega) (by omega) (by simp_all),AOK];rfl
   grind
 grind[GF,ZI,AX,AZ]
def pkR(q:AO×Bool):AFf×(List Cq×Unit):=(((((),q.1.2.1,()),q.2,()),()),(q.1.1,()))
section
variable{c:CE} {r:AO} (hc:c.1.length≤2^40) (hl:AU Bg r.1≤2^30) (ht:CR r.2.1)
include hc hl ht
theorem dI{ns:AAD}(hn:ns.length≤2^30):Mj c r ns=some (((((),(I4 c r ns).1.2.1,()),(I4 c r ns).2.1,(I4 c r ns).2.2,()),()),((I4 c r ns).1.1,())):=by
 have l1:=AW (f:=Bg) (l:=r.1);unfold Mj I4;rw[show(c.1,c.2.1,())=c from rfl,show(r.1,r.2.1,())=r from rfl,QK hc hl ht,Sw hl,DZ hc (by omega)];simp only[AD];cases NW c r with
 |false=>rfl
 |true=>
  cases holds c ns with
  |false=>rfl
  |true=>
   simp only[ANZ,ANP,ANw,AQS,AOM];by_cases h30:r.1.length=30
   ·simp_all
   ·rw[show((r.1.length:Int)==30)=false by grind,show decide (r.1.length≠30)=true by simp[h30],ANP,AM1 (by rw[An];omega),AM1 (by rw[An];omega)]
    simp
theorem bL{b last:Int}:QV c r b last=some (pkR (NI c r b last)):=by
 have l1:=AW (f:=Bg) (l:=r.1);unfold QV NI;rw[show(c.1,c.2.1,())=c from rfl,show(r.1,r.2.1,())=r from rfl,QK hc hl ht,Sw hl,OB (by omega)];simp only[AD];rcases AM0 (NW c r)with hr|hr
 rotate_left
 ·rw[hr];rfl
 rw[hr];simp only[ANZ,ANP,ANw,AQS];by_cases h1:b=r.1.length
 rotate_left
 ·rw[show(b !=(r.1.length:Int))=true by simp_all,show decide (b=(r.1.length:Int))=false by simp_all]
  rfl
 rw[show(b !=(r.1.length:Int))=false by simp_all,show decide (b=(r.1.length:Int))=true by simp_all];simp only[ANP,AOM];by_cases h2:BG r.1=0
 ·rw[show(BG r.1==0)=true by simp_all,show decide (BG r.1≠0)=false by simp_all]
  rfl
 rw[show(BG r.1==0)=false by simp_all,show decide (BG r.1≠0)=true by simp_all];simp only[ANP,AOM];by_cases h3:b=BG r.1
 ·rw[show(b==BG r.1)=true by simp_all,show decide (b≠BG r.1)=false by simp_all]
  rfl
 rw[show(b==BG r.1)=false by simp_all,show decide (b≠BG r.1)=true by simp_all,BR];simp only[ANP,AOM,AD];cases BL last 0 60 with
 |false=>rfl
 |true=>
  have FW:=KO.1 hr;have ADl:0<r.1.length:=by
   rcases AWa r.1.length with hz|hz
   ·exact absurd (by unfold BG;rw[hz];rfl) h2
   omega
  obtain⟨k,k1,k2,k3,k4⟩:=SU FW ADl;simp only[ANZ,ANP,ASi];rw[k2,AH (by omega) (by omega),show((k:Int)+1-1)=(k:Int)by omega,AM1 (by omega),AM1 (by simp_all),AN4];unfold pkR Oh;simp_all
theorem dB{p:Int}(hp:CR p):Sy c r p=some (pkR (OW c r p)):=by
 unfold Sy OW;rw[show(c.1,c.2.1,())=c from rfl,show(r.1,r.2.1,())=r from rfl,QK hc hl ht,Sw hl,Ij hp,ED hp];simp only[AD];cases NW c r with
 |false=>rfl
 |true=>
  cases Bf p with
  |false=>rfl
  |true=>
   simp only[ANZ,ANP,ANw,AQS,AOM];by_cases h:Aw p≤r.1.length
   ·rw[show decide (Aw p>(r.1.length:Int))=false by simp_all,show decide (Aw p≤(r.1.length:Int))=true by simp_all,ANP,JF]
    rfl
   ·rw[show decide (Aw p>(r.1.length:Int))=true by simp_all,show decide (Aw p≤(r.1.length:Int))=false by simp_all]
    rfl
end
theorem Sk{w:AR}(hl:AU Ax w.2.1≤2^30):EO w=some (((w.1,(),()),()),(w.2.1,())):=by
 have l1:=AW (f:=Ax) (l:=w.2.1);have key:∀(n i:Nat) (b:List A8),i≤w.2.1.length→w.2.1.length-i<n→b.length≤i→Jy n i w.1 w.2.1 0 [] w.1 b=some (((w.1,(),()),()),(b++w.2.1.drop i,())):=by
  intro n
  induction n with
  |zero=>omega
  |succ n ih=>
   intro i b hi hn hb;simp only[Jy,SN,AB];by_cases hc:i<w.2.1.length
   ·have c1:(0:Int)≤(i:Int)∧(i:Int)<(w.2.1.length:Int):=by omega
    have hm:w.2.1[i].1.length+w.2.1[i].2.1.length≤AU Ax w.2.1:=Ab (f:=Ax) (AN7 hc);rw[AM1 c1.2,AM1 c1,AH (by omega) (by omega),show((i:Int)+1)=((i+1:Nat):Int)by omega,Ah hc,AM1 (by rw[An];omega),AM1 (by rw[An];omega),drop_cons hc,ih (i+1) _ (by omega) (by omega) (by simp_all),AOK];rfl
   grind
 grind[EO,Sv,AX,AZ]
theorem JI{α:Type}{f:α→Nat}{l m:List α}:AU f (l++m)=AU f l+AU f m:=by
 induction l with
 |nil=>simp[AU]
 |cons a l ih=>grind[AU]
theorem mf{n:Int}{x:A8}(h:x.2.2.1=true):Et n x=x:=by
 obtain⟨a,b,d,e⟩:=x;simp only at h;subst h;rfl
def pkW(q:AR×Bool):AFe×(List A8×Unit):=((((q.1.1,(),()),q.2,()),()),(q.1.2.1,()))
section
variable{c:CE} {w:AR} (hc:c.1.length≤2^40) (hl:AU Ax w.2.1≤2^20)
include hc hl
theorem jQ{d:AB_}(hd:d.length≤2^20):Gj c w d=some (((((Bq c w d).1.1,(),()),(Bq c w d).2.1,(Bq c w d).2.2,()),()),((Bq c w d).1.2.1,())):=by
 have l1:=AW (f:=Ax) (l:=w.2.1);unfold Gj Bq;rw[show(c.1,c.2.1,())=c from rfl,show(w.1,w.2.1,())=w from rfl,GN hc (by omega),Sk (by omega)];simp only[AD];cases Db c w with
 |false=>rfl
 |true=>
  simp only[ANZ,ANP,ANw,AQS];rw[AM1 (by rw[An];omega),GN hc (by
   grind[AU,Ax,JI,List.length_nil])]
  grind
theorem jF{o n:Int}:Dr c w o n=some (pkW (Rx c w o n)):=by
 have l1:=AW (f:=Ax) (l:=w.2.1);unfold Dr Rx;rw[show(c.1,c.2.1,())=c from rfl,show(w.1,w.2.1,())=w from rfl,GN hc (by omega),Sk (by omega),BR,BR];simp only[AD];rcases AM0 (Db c w)with hw|hw
 rotate_left
 ·rw[hw];rfl
 have yp:=Dl (Ix.1 hw).cfg;rw[hw,AH (x:=(c.1.length:Int)-1) (by omega) (by omega)];simp only[ANZ,ANP,ANw,AQS];rcases AM0 (BL o 1 (w.2.1.length:Int))with ho|ho
 rotate_left
 ·rw[ho];rfl
 have xK:=Am.1 ho;rw[ho];cases BL n 0 ((c.1.length:Int)-1)with
 |false=>rfl
 |true=>
  have hi:(o-1).toNat<w.2.1.length:=by omega
  have hm:(w.2.1.getD (o-1).toNat Ma).1.length+(w.2.1.getD (o-1).toNat Ma).2.1.length≤AU Ax w.2.1:=Ab (f:=Ax) (BU (d:=Ma) hi);simp only[ANZ,ANP,AOM];rw[AH (by omega) (by omega),AM1 (by omega)]
  show cond (w.2.1.getD (o-1).toNat Ma).2.2.1 _ _=_
  cases(w.2.1.getD (o-1).toNat Ma).2.2.1 with
  |true=>rfl
  |false=>
   simp only[ANP,ASd,ASi];rw[AM1 (by omega),show(w.2.1.getD (o-1).toNat ([],[],false,())).2.1=(w.2.1.getD (o-1).toNat Ma).2.1 from rfl,LF (by omega)];simp only[AD];rw[AM1 (by omega)];have hg:∀x:A8,(w.2.1.set (o-1).toNat x).getD (o-1).toNat ([],[],false,())=x:=fun x=>Ni hi
   rw[AM1 (by grind),hg,DZ hc (by
    grind[TQ,Ma])]
   simp only[AD];rw[AM1 (by grind),AW6];rfl
theorem ei{n:Int}:OL c w n=some (pkW (CD c w n)):=by
 have l1:=AW (f:=Ax) (l:=w.2.1);unfold OL Rw CD;rw[show(c.1,c.2.1,())=c from rfl,show(w.1,w.2.1,())=w from rfl,GN hc (by omega),Sk (by omega)];simp only[AD];cases Db c w with
 |false=>rfl
 |true=>
  simp only[ANZ,ANP,ANw,AQS];have key:∀(k i:Nat),i≤w.2.1.length→w.2.1.length-i<k→IB k n i 0 [] w.1 ((w.2.1.map (Et n)).take i++w.2.1.drop i)=some (pkW ((w.1,w.2.1.map (Et n),()),true)):=by
   intro k
   induction k with
   |zero=>omega
   |succ k ih=>
    intro i hi hk;have hlen:((w.2.1.map (Et n)).take i++w.2.1.drop i).length=w.2.1.length:=OI hi;simp only[IB,SC,AB,hlen];by_cases DL:i<w.2.1.length
    ·have c1:(0:Int)≤(i:Int)∧(i:Int)<(w.2.1.length:Int):=by omega
     have hm:w.2.1[i].1.length+w.2.1[i].2.1.length≤AU Ax w.2.1:=Ab (f:=Ax) (AN7 DL);have hg:((w.2.1.map (Et n)).take i++w.2.1.drop i).getD ((i:Int).toNat) ([],[],false,())=w.2.1[i]:=NL DL;rw[AM1 c1.2];simp only[AM1 c1,hg];rw[AH (by omega) (by omega),show((i:Int)+1)=((i+1:Nat):Int)by omega];rcases AM0 (w.2.1[i].2.2.1)with hd|hd
     ·rw[hd]
      simp only[ANZ,ANP];grind[ig,mf]
     ·rw[hd]
      simp only[ASd,AOA];rw[Jt (by omega) (by simp)];grind[AD,Int.toNat_natCast,Qn,Et]
    ·rw[AM2 (by omega),ANy (by omega)]
     have:i=w.2.1.length:=by omega
     subst this;rw[AOC,ASh (by simp)];rfl
  have:=key AX 0 (by omega) (AZ (by omega));simp_all
end
end Go.M
end
section
namespace Go.M
open Go.M.H (AK AQ A0 Ai AA Cq AO A8 AR Ak Bd A9 BK Aj AU AW Ab Ag Bg Ax Ao CB C_)
abbrev PkM:Type:=AEA×(List Int×List AK×List AAD×Unit)
def gF(q:A0×Bool):PkM:=((((q.1.1,q.1.2.1,(),(),q.1.2.2.2.2.1,(),()),q.2,()),()),(q.1.2.2.1,q.1.2.2.2.1,q.1.2.2.2.2.2.1,()))
section
variable{m:A0} (hm:CB m≤2^20)
include hm
theorem Hf:m.2.2.1.length≤2^20∧m.2.2.2.1.length≤2^20∧m.2.2.2.2.2.1.length≤2^20∧ ∀l∈m.2.2.2.2.2.1,l.length≤2^20:=by
 have l1:=AW (f:=Ag) (l:=m.2.2.2.1);have l2:=AW (f:=C_) (l:=m.2.2.2.2.2.1);have Yi:m.2.2.1.length+(AU Ag m.2.2.2.1+(AU C_ m.2.2.2.2.2.1+0))≤2^20:=by
  grind[CB]
 refine⟨by omega,by omega,by omega,fun l hl=> ?_⟩;have:l.length≤AU C_ m.2.2.2.2.2.1:=Ab (f:=C_) hl;omega
theorem MM:ES m=some (((m.1,m.2.1,(),(),m.2.2.2.2.1,(),()),()),(m.2.2.1,m.2.2.2.1,m.2.2.2.2.2.1,())):=by
 obtain⟨h1,h2,h3,h4⟩:=Hf hm;have key:∀(n i:Nat) (b:List AAD),i≤m.2.2.2.2.2.1.length→m.2.2.2.2.2.1.length-i<n→b.length≤i→
   H0 n i m.1 m.2.1 m.2.2.1 m.2.2.2.1 m.2.2.2.2.1 m.2.2.2.2.2.1 0 0 false [] [] [] m.1 m.2.1 m.2.2.2.2.1 m.2.2.1 m.2.2.2.1 b=some (((m.1,m.2.1,(),(),m.2.2.2.2.1,(),()),()),(m.2.2.1,m.2.2.2.1,b++m.2.2.2.2.2.1.drop i,())):=by
  intro n
  induction n with
  |zero=>omega
  |succ n ih=>
   intro i b hi hn hb;simp only[H0,SW,AB];by_cases hc:i<m.2.2.2.2.2.1.length
   ·have c1:(0:Int)≤(i:Int)∧(i:Int)<(m.2.2.2.2.2.1.length:Int):=by omega
    have hq:=h4 _ (AN7 hc);rw[AM1 c1.2,AM1 c1,AH (by omega) (by omega),show((i:Int)+1)=((i+1:Nat):Int)by omega,Ah hc,AM1 (by rw[An];omega),AM1 (by rw[An];omega),drop_cons hc,ih (i+1) _ (by omega) (by omega) (by simp_all),AOK];rfl
   grind
 unfold ES OQ;rw[AM1 (by rw[An];omega),AM1 (by rw[An];omega)];grind[AX,AZ]
end
theorem eH{l s:AAD}(hl:l.length≤2^20)(hs:s.length≤2^20):Kq l s=some (((),()),(l.filter s.contains,())):=by
 unfold Kq;rw[Jt (by omega) (by omega)];simp only[AD];have xJ:(less l s).length≤l.length:=ASZ _ _;rw[Jt (by omega) (by omega)];grind[AD,less,List.filter_congr]
theorem eT{c:CE}{s l:AAD}(hc:c.1.length≤2^40)(hl:l.length≤2^20)(hs:s.length≤2^20):K0 c s l=some ((Q5 c s l,()),()):=by
 unfold K0 Q5;rw[show(c.1,c.2.1,())=c from rfl,DZ (l:=s) hc (by omega),G_ (l:=l) hc (by omega),Jt (l:=l) (m:=s) (by omega) (by omega),Jt (l:=s) (m:=l) (by omega) (by omega)];simp only[AD];rcases AM0 (holds c s)with h|h
 rotate_left
 ·simp_all
 rw[h];cases A4 c l with
 |false=>rfl
 |true=>
  simp only[ANZ,ANP,AOM];have hn:A4 c (less s l)=true:=Tb _ (VU h);by_cases ha:(less l s).length>0
  ·rw[show decide (((less l s).length:Int)>0)=true by simp_all]
   have:l.all s.contains=false:=by
    rw[ATA];grind[List.all_eq_true,less,List.filter_eq_nil_iff]
   grind
  ·rw[ASg (show¬((less l s).length:Int)>0 by omega)]
   have:l.all s.contains=true:=by
    grind[less,List.length_eq_zero_iff,List.filter_eq_nil_iff,List.all_eq_true]
   rw[this];simp only[ANP,AOM];rw[dy hn];simp only[AD,holds,hn,AOM];grind[bQ,less,decide_eq_true,decide_eq_false]
section
variable{c:CE} {m:A0} (hc:c.1.length≤2^40) (hm:CB m≤2^20) (h:fl m.2.2.2.1)
include hc hm h
theorem cX{o n:Int}:EZ c m o n=some (gF (Sm c m o n)):=by
 obtain⟨h1,h2,h3,h4⟩:=Hf hm;unfold EZ Sm;rw[show(c.1,c.2.1,())=c from rfl,show(m.1,m.2.1,m.2.2.1,m.2.2.2.1,m.2.2.2.2.1,m.2.2.2.2.2.1,())=m from rfl,J3 hc (by omega) h,MM hm,BR,BR];simp only[AD];rcases AM0 (GV c m)with hw|hw
 rotate_left
 ·rw[hw];rfl
 have yp:=Dl (Gg.1 hw).cfg;rw[hw,AH (x:=(c.1.length:Int)-1) (by omega) (by omega)];simp only[ANZ,ANP,ANw,AQS];rcases AM0 (BL o 1 (m.2.2.2.2.2.1.length:Int))with ho|ho
 rotate_left
 ·rw[ho];rfl
 have xK:=Am.1 ho;rw[ho];cases BL n 0 ((c.1.length:Int)-1)with
 |false=>rfl
 |true=>
  have hi:(o-1).toNat<m.2.2.2.2.2.1.length:=by omega
  have hq:=h4 _ (BU (d:=([]:AAD)) hi);simp only[ANZ,ANP,AOM,ASi];rw[AH (by omega) (by omega),AM1 (by omega),LF (by omega)];simp only[AD];rw[AM1 (by omega)];rfl
theorem hD{n:Int}:Qq c m n=some (gF (CA c m n)):=by
 obtain⟨h1,h2,h3,h4⟩:=Hf hm;unfold Qq Tw CA;rw[show(c.1,c.2.1,())=c from rfl,show(m.1,m.2.1,m.2.2.1,m.2.2.2.1,m.2.2.2.2.1,m.2.2.2.2.2.1,())=m from rfl,J3 hc (by omega) h,MM hm];simp only[AD];cases GV c m with
 |false=>rfl
 |true=>
  simp only[ANZ,ANP,ANw,AQS];have key:∀(k i:Nat),i≤m.2.2.2.2.2.1.length→m.2.2.2.2.2.1.length-i<k→Jf k n i 0 0 false [] [] [] m.1 m.2.1 m.2.2.2.2.1 m.2.2.1 m.2.2.2.1 ((m.2.2.2.2.2.1.map (fun l=>less l [n])).take i++m.2.2.2.2.2.1.drop i)=
    some (gF ((m.1,m.2.1,m.2.2.1,m.2.2.2.1,m.2.2.2.2.1,m.2.2.2.2.2.1.map (fun l=>less l [n]),()),true)):=by
   intro k
   induction k with
   |zero=>omega
   |succ k ih=>
    intro i hi hk;have hlen:=OI (f:=fun l=>less l [n]) hi;simp only[Jf,T6,AB,hlen];by_cases DL:i<m.2.2.2.2.2.1.length
    ·have c1:(0:Int)≤(i:Int)∧(i:Int)<(m.2.2.2.2.2.1.length:Int):=by omega
     have hq:=h4 _ (AN7 DL);have hg:((m.2.2.2.2.2.1.map (fun l=>less l [n])).take i++m.2.2.2.2.2.1.drop i).getD ((i:Int).toNat) []=m.2.2.2.2.2.1[i]:=NL DL;rw[AM1 c1.2];simp only[AM1 c1,hg];rw[AH (by omega) (by omega),show((i:Int)+1)=((i+1:Nat):Int)by omega,Jt (by omega) (by simp)];simp only[AD];rw[AN4,Qn DL rfl];grind
    ·rw[AM2 (by omega),ANy (by omega)]
     have:i=m.2.2.2.2.2.1.length:=by omega
     subst this;rw[AOC,ASh (by simp)];rfl
  have:=key AX 0 (by omega) (AZ (by omega));simp_all
theorem jk:SL c m=some ((UP c m,()),()):=by
 obtain⟨h1,h2,h3,h4⟩:=Hf hm;unfold SL VD UP;rw[show(c.1,c.2.1,())=c from rfl,show(m.1,m.2.1,m.2.2.1,m.2.2.2.1,m.2.2.2.2.1,m.2.2.2.2.2.1,())=m from rfl,J3 hc (by omega) h];simp only[AD];cases GV c m with
 |false=>rfl
 |true=>
  rcases AM0 m.2.2.2.2.1 with hp|hp
  rotate_left
  ·simp_all
  have key:∀(k i:Nat),i≤m.2.2.2.2.2.1.length→m.2.2.2.2.2.1.length-i<k→Kn k i c.1 c.2.1 m.1 m.2.1 m.2.2.1 m.2.2.2.1 m.2.2.2.2.1 m.2.2.2.2.2.1=some (((m.2.2.2.2.2.1.drop i).all (holds c),()),()):=by
   intro k
   induction k with
   |zero=>omega
   |succ k ih=>
    intro i hi hk;simp only[Kn,VS,AB];by_cases DL:i<m.2.2.2.2.2.1.length
    ·have c1:(0:Int)≤(i:Int)∧(i:Int)<(m.2.2.2.2.2.1.length:Int):=by omega
     have hq:=h4 _ (AN7 DL);rw[AM1 c1.2,AM1 c1,AH (by omega) (by omega),show((i:Int)+1)=((i+1:Nat):Int)by omega,Ah DL,drop_cons DL,show(c.1,c.2.1,())=c from rfl,DZ hc (by omega),ih (i+1) (by omega) (by omega)];simp only[AD,AS4];cases holds c m.2.2.2.2.2.1[i]<;>rfl
    grind
  have:=key AX 0 (by omega) (AZ (by omega));simp_all
omit hc h in
theorem Zp{o:Int}:Em m o=some ((((EL m o).getD Dt,(EL m o).isSome,()),()),()):=by
 obtain⟨h1,h2,h3,h4⟩:=Hf hm;unfold Em EL;rw[jR];simp only[AD];rw[Um (by omega)];simp only[AD];cases m.2.2.2.2.1 with
 |false=>rfl
 |true=>
  simp only[ANZ,ANP,AOM];rcases AM0 (BL m.2.1 1 30)with he|he
  rotate_left
  ·rw[he];rfl
  rcases AM0 (BL o 1 60)with ho|ho
  rotate_left
  ·rw[he,ho];rfl
  have hp:Gl m.2.1 o=HF m.2.1 o:=by unfold Gl;rw[he,ho];rfl
  rw[he,ho,hp];simp only[AS3,ANZ,ANP,AOM];by_cases hl:o≤m.2.2.2.2.2.1.length
  ·rw[show decide (o>(m.2.2.2.2.2.1.length:Int))=false by simpa using hl,show decide (o≤(m.2.2.2.2.2.1.length:Int))=true by simpa using hl]
   simp only[ANP,ASi];cases PL (HF m.2.1 o) m.2.2.2.1<;>rfl
  ·rw[show decide (o>(m.2.2.2.2.2.1.length:Int))=true by simp;omega,show decide (o≤(m.2.2.2.2.2.1.length:Int))=false by simp;omega]
   rfl
theorem aq{s:AAD}(hs:s.length≤2^20):JB c m s=some (gF (MH c m s)):=by
 obtain⟨h1,h2,h3,h4⟩:=Hf hm;unfold JB Wn MH;rw[show(c.1,c.2.1,())=c from rfl,show(m.1,m.2.1,m.2.2.1,m.2.2.2.1,m.2.2.2.2.1,m.2.2.2.2.2.1,())=m from rfl,J3 hc (by omega) h,MM hm];simp only[AD];rcases AM0 (GV c m)with FW|FW
 rotate_left
 ·rw[FW];rfl
 have hmo:=Gg.1 FW;rw[FW];rcases AM0 m.2.2.2.2.1 with hp|hp
 ·rw[hp]
  simp only[ANZ,ANP,AOA,ASv,ANw,AQS,gF,hp]
 have hn:=hmo.n;rw[hp]at hn;have hw0:m.2.2.2.2.2.1=[]:=AWK.1 (by simp_all);rw[hp];simp only[ANZ,ASd,ANP,ANw,AQS,AOM];rw[eH (by omega) hs];have xO:(m.2.2.1.filter s.contains).length≤m.2.2.1.length:=ASZ _ _;simp only[AD];rw[eT hc (by omega) hs];simp only[AD];cases Q5 c s (m.2.2.1.filter s.contains)with
 |false=>simp[gF,hp]
 |true=>
  simp only[ANZ,ANP,ASi];have hlb:=Hj (l:=m.2.2.2.1);have key:∀(k i:Nat),(i:Int)≤PK m.2.2.2.1→(PK m.2.2.2.1).toNat-i<k→L3 k i m.1 m.2.1 m.2.2.1 m.2.2.2.1 false m.2.2.2.2.2.1 0 0 false [] [] [] m.1 m.2.1 true m.2.2.1 m.2.2.2.1 (List.replicate i [])=
    some (gF ((m.1,m.2.1,m.2.2.1,m.2.2.2.1,true,List.replicate (PK m.2.2.2.1).toNat [],()),true)):=by
   intro k
   induction k with
   |zero=>omega
   |succ k ih=>
    intro i hi hk;simp only[L3,WO];rw[show Rb (m.1,m.2.1,m.2.2.1,m.2.2.2.1,false,m.2.2.2.2.2.1,())=some ((PK m.2.2.2.1,()),())from de (m:=(m.1,m.2.1,m.2.2.1,m.2.2.2.1,false,m.2.2.2.2.2.1,())) (by grind) h];simp only[AD,AB];by_cases DL:(i:Int)<PK m.2.2.2.1
    ·rw[AM1 DL,AM1 (by rw[An,AS8];omega),AH (by omega) (by omega),show((i:Int)+1)=((i+1:Nat):Int)by omega,←List.replicate_succ']
     exact ih (i+1) (by omega) (by omega)
    ·rw[AM2 DL]
     have:i=(PK m.2.2.2.1).toNat:=by omega
     rw[this];rfl
  have:=key AX 0 (by omega) (AZ (by omega));simp_all
theorem bF{n:Int}{l:List AK}(hl:l.length≤2^20)(Te:fl l)(hw:AU Ag l≤2^20):JL c m n l=some (gF (O7 c m n l)):=by
 obtain⟨h1,h2,h3,h4⟩:=Hf hm;unfold JL We O7;rw[show(c.1,c.2.1,())=c from rfl,show(m.1,m.2.1,m.2.2.1,m.2.2.2.1,m.2.2.2.2.1,m.2.2.2.2.2.1,())=m from rfl,J3 hc (by omega) h,MM hm];simp only[AD];rw[LF (by omega)];simp only[AD];rcases AM0 (GV c m)with FW|FW
 rotate_left
 ·rw[FW];rfl
 rw[FW];simp only[ANZ,ANP,ANw,AQS];have AVj:∀(e:AK) (k:List AK),AU Ag (keep e k)≤AU Ag k+(1+Ag e):=by
  intro e k
  induction k with
  |nil=>simp[keep,AU]
  |cons x k ih=>
   grind[keep,AU,better]
 have key:∀(k i:Nat) (b:List AK),i≤l.length→l.length-i<k→b.length≤2^20+i→fl b→AU Ag b+AU Ag (l.drop i)≤2^21→
   MW k l i c.1 c.2.1 m.1 m.2.1 m.2.2.1 m.2.2.2.1 m.2.2.2.2.1 m.2.2.2.2.2.1 0 0 false [] [] [] m.1 m.2.1 m.2.2.2.2.1 (N4 n m.2.2.1) b m.2.2.2.2.2.1=
   some (gF (if !m.2.2.2.2.1&&GV c (m.1,m.2.1,N4 n m.2.2.1,EH b ((l.drop i).filter fun e=>Aw e.1==m.2.1),m.2.2.2.2.1,m.2.2.2.2.2.1,())then
    ((m.1,m.2.1,N4 n m.2.2.1,EH b ((l.drop i).filter fun e=>Aw e.1==m.2.1),m.2.2.2.2.1,m.2.2.2.2.2.1,()),true)else(m,false))):=by
  intro k
  induction k with
  |zero=>omega
  |succ k ih=>
   intro i b hi hk hb yt qT;simp only[MW,WQ,AB];by_cases DL:i<l.length
   ·have c1:(0:Int)≤(i:Int)∧(i:Int)<(l.length:Int):=by omega
    rw[AM1 c1.2];simp only[AM1 c1];rw[AH (by omega) (by omega),show((i:Int)+1)=((i+1:Nat):Int)by omega,Ah DL,drop_cons DL,show(l[i].1,l[i].2.1,l[i].2.2.1,l[i].2.2.2.1,())=l[i]from rfl,ED (Te _ (AN7 DL)),YW (by omega)];rw[drop_cons DL]at qT;simp only[AU]at qT;simp only[AD,ASL];rcases AM0 (Aw l[i].1==m.2.1)with he|he
    ·simp only[he,AOA,ASi,EH]
     have:=X4 (e:=l[i]) (l:=b);have hwk:=AVj l[i] b;exact ih (i+1) _ (by omega) (by omega) (by omega) (fun x hx=>by
      rcases eL hx with rfl|hx
      ·exact Te _ (AN7 DL)
      ·exact yt x hx) (by omega)
    grind
   ·rw[AM2 (by omega),ANy (by omega),show(m.1,m.2.1,m.2.2.1,m.2.2.2.1,m.2.2.2.2.1,m.2.2.2.2.2.1,())=m from rfl,show(c.1,c.2.1,())=c from rfl,MM hm]
    simp only[AUa,EH];rcases AM0 m.2.2.2.2.1 with hp|hp
    ·grind[gF]
    rw[ANy (by omega)]at qT;simp only[AU]at qT;have xu:=TQ (n:=n) (l:=m.2.2.1);have hb2:=AW (f:=Ag) (l:=b);rw[J3 (m:=(m.1,m.2.1,N4 n m.2.2.1,b,m.2.2.2.2.1,m.2.2.2.2.2.1,())) hc (by
     grind[CB]) yt]
    simp only[AD];rw[hp];simp only[ANP,ASd,AOM];grind[GV,N4,gF]
 have hsw:AU Ag m.2.2.2.1≤2^20:=by
  grind[CB]
 have:=key AX 0 m.2.2.2.1 (by omega) (AZ (by omega)) (by omega) h (by grind);simp_all
end
end Go.M
end
section
namespace Go.M
open Go.M.H (AK AQ A0 Ai AA Cq AO A8 AR Ak Bd A9 BK Aj CB AU AW Ab Ag Bg)
theorem As{α:Type}{b:Bool}{x y:α}:cond (!b) x y=cond b y x:=by simp_all
theorem Ct{α:Type}{a b:Int}{x y:α}:cond (a !=b) x y=if a=b then y else x:=by
 simp_all
theorem DB{α:Type}{a b:Int}{x y:α}:cond (a==b) x y=if a=b then x else y:=by
 simp_all
theorem lJ{c:CE}{l:List A9}(hc:c.1.length≤2^40)(hl:l.length≤2^20):
  aJ c l=some ((((),A4 c (l.map fun a=>a.1),()),()),(l.map (fun a=>a.1),())):=by
 have key:∀(n i:Nat) (b:AAD),i≤l.length→l.length-i<n→b.length=i→
   MF n l i c.1 c.2.1 b=some ((((),A4 c (b++(l.drop i).map fun a=>a.1),()),()),(b++(l.drop i).map (fun a=>a.1),())):=by
  intro n
  induction n with
  |zero=>omega
  |succ n ih=>
   intro i b hi h hb;simp only[MF,WR,AB];by_cases dN:i<l.length
   ·have c1:(0:Int)≤(i:Int)∧(i:Int)<(l.length:Int):=by omega
    have c2:b.length+1≤C7:=by rw[An];omega
    rw[AM1 c1.2,AM1 c1,AM1 c2,AH (by omega) (by omega),show((i:Int)+1)=((i+1:Nat):Int)by omega,Ah dN,ih (i+1) _ (by omega) (by omega) (by simp_all),drop_cons dN];grind
   ·rw[AM2 (by omega),ANy (by omega),AVg,AOC,show(c.1,c.2.1,())=c from rfl,G_ hc (by omega)]
    rfl
 have:=key AX 0 [] (by omega) (AZ (by omega)) rfl;rw[show((0:Nat):Int)=0 from rfl,APS,ARU]at this;exact this
theorem V1{r:Ak}(h:r.2.2.1.length≤2^30):CN r=some (((r.1,r.2.1,(),()),()),(r.2.2.1,())):=by
 unfold CN;rw[AM1 (by rw[An];omega)]
theorem cf{r:Ak}{e:Bd}{x y:Int}(h:r.2.2.1.length≤2^30):I7 r e x y=some (((x,y,(),()),()),(r.2.2.1++[e],())):=by
 unfold I7;rw[show(r.1,r.2.1,r.2.2.1,())=r from rfl,V1 h];simp only[AD];rw[AM1 (by rw[An];omega)]
theorem nq{s:AAD}{p:Int}{l:List A9}(hs:s.length≤2^20)(hl:l.length≤2^20)(Te:∀a∈l,CR a.2.2.1):
  Mp s p l=some ((Q9 p (Hb s p none l),()),()):=by
 have key:∀(n i:Nat) (b:Option AK),i≤l.length→l.length-i<n→
   NO n s p l b.isSome i 0 0 [] (b.getD Dt).1 (b.getD Dt).2.1 (b.getD Dt).2.2.1 (b.getD Dt).2.2.2.1=some ((Q9 p (Hb s p b (l.drop i)),()),()):=by
  intro n
  induction n with
  |zero=>omega
  |succ n ih=>
   intro i b hi h;simp only[NO,Xp,AB,As];by_cases dN:i<l.length
   ·have c1:(0:Int)≤(i:Int)∧(i:Int)<(l.length:Int):=by omega
    rw[AM1 c1.2,AM1 c1,AH (by omega) (by omega),show((i:Int)+1)=((i+1:Nat):Int)by omega,Ah dN,drop_cons dN];have ih':=fun b=>ih (i+1) b (by omega) (by omega)
    simp only[ih'];rw[K4 (by omega),show(l[i].2.2.1,l[i].2.2.2.1,l[i].2.2.2.2.1,l[i].2.2.2.2.2.1,())=XN l[i]from rfl];rw[Qg (e:=XN l[i]) (Te _ (AN7 dN))];simp only[AD,Hb];cases h1:l[i].2.1 with
    |false=>simp
    |true=>
     cases h2:s.contains l[i].1 with
     |false=>simp
     |true=>
      cases h3:Fy (XN l[i])with
      |false=>simp
      |true=>
       simp only[AOA,AOM];by_cases h4:l[i].2.2.1=p
       ·rw[Ct,AM1 h4,AM1 (by show((XN l[i]).1==p)=true;rw[ASo];exact h4)]
        cases b with
        |none=>
         simp only[ASu,ANP,X7,AD,Option.getD_none];have:=ih' (some (XN l[i]));simp only[ASs,ASp]at this;have hb:better (XN l[i]) (XN l[i])=XN l[i]:=by unfold better;simp_all
         simp_all
        |some x=>
         simp only[ASs,AOA,ASp];rw[show(x.1,x.2.1,x.2.2.1,x.2.2.2.1,())=x from rfl];grind[X7,AD,better,XN,Option.isSome_some]
       ·rw[Ct,AM2 h4,AM2 (by show¬((XN l[i]).1==p)=true;rw[ASo];exact h4)]
   ·rw[AM2 (by omega),ANy (by omega)]
    simp only[Hb];cases b with
    |none=>rfl
    |some x=>
     simp only[ASs,AOA,ASp,Q9];grind
 exact key AX 0 none (by omega) (AZ (by omega))
theorem ju{x:Int}:0≤EE x∧EE x≤60:=by
 cases h:Bf x with
 |true=>have:=(HD h).2.1;omega
 |false=>unfold EE;simp_all
def xc(q:Ak×Int):Zc:=((((q.1.1,q.1.2.1,(),()),q.2,()),()),(q.1.2.2.1,()))
theorem iO{c:CE}{g:AO}{sure:Int}{r:Ak}{l:List A9}(hc:c.1.length≤2^20)(hg:AU Bg g.1≤2^20)(ht:CR g.2.1)(hl:l.length≤2^20)(Te:∀a∈l,CR a.2.2.1):
  Qk c g sure r l=some (xc (Co c g sure r l)):=by
 unfold Qk Co;rw[show(c.1,c.2.1,())=c from rfl,show(g.1,g.2.1,())=g from rfl,show(r.1,r.2.1,r.2.2.1,())=r from rfl,lJ (by omega) hl,QK (by omega) (by omega) ht,Pg];simp only[AD,As,AB];cases h1:NW c g with
 |false=>rfl
 |true=>
 cases h2:ZE r with
 |false=>rfl
 |true=>
 cases h3:A4 c (l.map fun a=>a.1)with
 |false=>rfl
 |true=>
 have hr:=T_.1 h2;have hre:=hr.ep;have hro:=hr.off;have hrn:=hr.n;have hR:=KO.1 h1;have hRn:=hR.n;simp only[AOA,AOM,ANZ,ANw,AQS];rw[V1 (by omega)];simp only[AD];by_cases h4:r.1>(g.1.length:Int)
 ·rw[AM1 h4,AQg h4];rfl
 rw[AM2 h4,ASg h4];by_cases h5:r.2.2.1.length=120
 ·rw[show(((r.2.2.1.length:Nat):Int)==120)=true by simp_all,AQg h5];rfl
 rw[show(((r.2.2.1.length:Nat):Int)==120)=false by grind,ASg h5];simp only[ANP,ASj,ANw,AQS];rw[AH (x:=r.1-1) (by omega) (by omega),AM1 (by omega),F4 (by omega) (by omega),ED ht,Z8 ht];simp only[AD];have hto:=ju (x:=g.2.1);rw[AH (x:=EE g.2.1+1) (by omega) (by omega),AH (x:=r.1+1) (by omega) (by omega),AH (x:=r.2.1+1) (by omega) (by omega)];simp only[cf (r:=r) (by omega),AD];by_cases h6:g.2.1≥HF r.1 r.2.1
 ·rw[AM1 h6,AM1 h6];rfl
 rw[AM2 h6,AM2 h6]
 generalize AE1:g.1.getD (r.1-1).toNat G3=era
 have G4:(r.1-1).toNat<g.1.length:=by omega
 have Vb:era.1.length≤2^20:=by
  have h7:=Ab (f:=Bg) (BU (d:=G3) G4);rw[AE1]at h7;have:Bg era=era.1.length:=rfl;omega
 have tail:((Kq (l.map fun a=>a.1) era.1).bind fun MY=>
   (K0 c era.1 MY.2.1).bind fun mI=>
   cond (mI.1.1)
    ((Mp era.1 (HF r.1 r.2.1) l).bind fun Z3=>
    some ((((r.1,r.2.1+1,(),()),0,()),()),(r.2.2.1++[(Z3.1.1.1,Z3.1.1.2.1,Z3.1.1.2.2.1,())],())))
    (some ((((r.1,r.2.1,(),()),3,()),()),(r.2.2.1,()))))=
   some (xc (if !Q5 c era.1 ((l.map fun a=>a.1).filter era.1.contains)then(r,3)else
    ((r.1,r.2.1+1,r.2.2.1++[Q9 (HF r.1 r.2.1) (Hb era.1 (HF r.1 r.2.1) none l)],()),0))):=by
  have hf:((l.map fun a=>a.1).filter era.1.contains).length≤2^20:=ASY (ASZ _ _) (by simp_all);rw[eH (by simp_all) Vb,nq Vb hl Te];simp only[AD];rw[eT (by omega) hf Vb];simp only[AD,cf (r:=r) (by omega)];cases Q5 c era.1 ((l.map fun a=>a.1).filter era.1.contains)<;>rfl
 have hd:g.1.getD (r.1-1).toNat ([],false,0,())=era:=AE1;rw[hd];simp only[tail];cases h7:era.2.1 with
 |true=>
  simp only[AOA,ANP,AOM,ANZ,ASv,ASj,AOH];by_cases h8:r.2.1>era.2.2.1
  ·rw[AM1 h8,AM1 h8];rfl
  rw[AM2 h8,AM2 h8];by_cases h9:r.2.1>60
  ·rw[AM1 h9,AM1 h9];rfl
  grind
 |false=>
  simp only[AOA,ANP,AOM,ASd,ASv,ANw,AQS,ASr,AOH];by_cases h8:r.2.1>sure
  ·rw[AM1 h8,AM1 (.inl h8)];rfl
  rw[AM2 h8];by_cases h9:r.2.1>60
  ·rw[AM1 h9,AM1 (.inr h9)];rfl
  grind
end Go.M
end
section
set_option maxRecDepth 8000
namespace Go.M
open Go.M.H (AK AQ A0 Ai AA Cq AO A8 AR Ak Bd A9 BK Aj CB AU AW Ab Ag Bg Ax Ao)
theorem oU{c:CE}{l:AAD}(hc:c.1.length≤2^20)(hl:l.length≤2^20):Yr c l=some ((A4 c l&& !holds c l,()),()):=by
 unfold Yr;rw[show(c.1,c.2.1,())=c from rfl,G_ (by omega) (by omega),DZ (by omega) (by omega)];grind
theorem lq{ss:List AQ}(hs:ss.length≤1024)(h:∀s∈ss,s.1.length≤1024):aC ss=some (((),()),(Gr [] ss,())):=by
 have key:∀n:Nat,
   (∀(i:Nat) (b:List AK),i≤ss.length→(ss.length-i)*1026+1≤n→b.length≤i*1024→
    JV n ss i b=some (((),()),(Gr b (ss.drop i),())))∧
   (∀(i j:Nat) (b:List AK),(hi:i<ss.length)→j≤ss[i].1.length→(ss.length-i-1)*1026+1+(ss[i].1.length-j)+1≤n→b.length≤i*1024+j→
    JT n ss i j b=some (((),()),(Gr (EH b (ss[i].1.drop j)) (ss.drop (i+1)),()))):=by
  intro n
  induction n with
  |zero=>simp_all
  |succ n ih=>
   refine⟨fun i b hi h' hb=> ?_,fun i j b hi hj h' hb=> ?_⟩
   ·simp only[JV,WW,AB]
    by_cases hc:i<ss.length
    ·rw[AM1 (by omega)]
     have hm:=h _ (AN7 hc);have e1:(ss.length-i)*1026=(ss.length-i-1)*1026+1026:=by
      omega
     have:=ih.2 i 0 b hc (by omega) (by omega) (by omega);rw[show((0:Nat):Int)=0 from rfl,APS]at this;rw[this,drop_cons hc];rfl
    ·rw[AM2 (by omega),ANy (by omega)]
     rfl
   ·have hm:=h _ (AN7 hi)
    simp only[JT,WS,AB];have c1:(0:Int)≤(i:Int)∧(i:Int)<(ss.length:Int):=by omega
    rw[AM1 c1,Ah hi];simp only[AM1 c1];have hbb:i*1024≤2^20:=by
     omega
    by_cases hc:j<ss[i].1.length
    ·have c2:(0:Int)≤(j:Int)∧(j:Int)<(ss[i].1.length:Int):=by omega
     rw[AM1 c2.2,AM1 c2,Ah hc,show(ss[i].1[j].1,ss[i].1[j].2.1,ss[i].1[j].2.2.1,ss[i].1[j].2.2.2.1,())=ss[i].1[j]from rfl,YW (by omega)];simp only[AD];rw[AH (by omega) (by omega),show((j:Int)+1)=((j+1:Nat):Int)by omega,drop_cons hc];have hk:=X4 (e:=ss[i].1[j]) (l:=b);exact ih.2 i (j+1) _ hi (by omega) (by omega) (by omega)
    ·rw[AM2 (by omega),AH (by omega) (by omega),show((i:Int)+1)=((i+1:Nat):Int)by omega,ANy (by omega)]
     exact ih.1 (i+1) b (by omega) (by grind) (by omega)
 have hf:(ss.length-0)*1026+1≤AX:=by
  have:ss.length*1026≤1024*1026:=APC _ hs;exact ATE (AZ (by omega))
 exact(key AX).1 0 [] (by omega) hf (by simp)
theorem yU(e:AK):∀l:List AK,AU Ag (keep e l)≤AU Ag l+(1+Ag e)
 |[]=>by simp[keep,AU]
 |x::l=>by
  have:=yU e l;grind[keep,better,AU]
theorem w5:∀{l k:List AK},AU Ag (EH k l)≤AU Ag k+AU Ag l
 |[],k=>by simp[EH,AU]
 |e::l,k=>by
  have h1:=w5 (l:=l) (k:=keep e k);grind[yU,EH,AU]
theorem xk:∀{l:List AQ} {k:List AK},AU Ag (Gr k l)≤AU Ag k+AU Aj l
 |[],k=>by simp[Gr,AU]
 |s::l,k=>by
  have h1:=xk (l:=l) (k:=EH k s.1);have h2:=w5 (l:=s.1) (k:=k);have:Aj s=AU Ag s.1+AU Ag s.2.1:=rfl;grind[Gr,AU]
theorem ke{y:AK}:∀{l:List AQ} {k:List AK},y∈Gr k l→y∈k∨ ∃s∈l,y∈s.1
 |[],k,h=> .inl h
 |s::l,k,h=>by
  rcases ke (l:=l) h with h|⟨t,ht,h⟩
  all_goals grind[eP]
def xH(b:Bool)(x:AQ):AQ×Bool:=if b then(x,true)else(EF,false)
def pkF(ss:List AQ)(q:AQ×Bool):On:=(((((),(),q.1.2.2.1,()),q.2,()),()),(ss,q.1.1,q.1.2.1,()))
theorem tW{c:CE}{ss:List AQ}{lost:AAD}{n upto:Int}(hc:c.1.length≤2^20)(hs:ss.length≤1024)(hn:∀s∈ss,s.1.length≤1024)(hw:AU Aj ss≤2^24)(Te:∀s∈ss,jc s)(hl:lost.length≤2^20):
  fH c lost n upto ss=some (pkF ss (aw c ss lost n upto)):=by
 have hfs:aw c ss lost n upto=xH (F6 c&&(decide (ss.length=c.1.length)&&(A4 c lost&&(!holds c lost&&(lost.contains n&&((others lost 0 ss).all B7&&B7 (Gr [] (others lost 0 ss),[],upto,()))))))) (Gr [] (others lost 0 ss),[],upto,()):=rfl;rw[hfs];unfold fH cx;rw[show(c.1,c.2.1,())=c from rfl,HT (by omega),oU hc hl,K4 (by omega)];simp only[AD,As,Ct];have k11:∀(k i:Nat) (o:List AQ),(∀s∈o,s∈ss)→o.length≤ss.length→AU Aj o≤2^24→i≤o.length→o.length-i<k→
   Na k upto i ss 0 [] [] 0 [] [] o=some (pkF ss (xH ((o.drop i).all B7&&B7 (Gr [] o,[],upto,())) (Gr [] o,[],upto,()))):=by
  intro k
  induction k with
  |zero=>omega
  |succ k ih=>
   intro i o ho hol how hi h;simp only[Na,bK,AB,As];by_cases DL:i<o.length
   ·have c1:(0:Int)≤(i:Int)∧(i:Int)<(o.length:Int):=by omega
    have hm:=ho _ (AN7 DL);have hws:=Ab (f:=Aj) hm;rw[AM1 c1.2,AM1 c1,Ah DL,show(o[i].1,o[i].2.1,o[i].2.2.1,())=o[i]from rfl,Fq (by omega) (Te _ hm),AH (by omega) (by omega),show((i:Int)+1)=((i+1:Nat):Int)by omega,ih (i+1) o ho hol how (by omega) (by omega),drop_cons DL];simp only[AD,AS4];rcases AM0 (B7 o[i])with hb|hb<;>rw[hb]
    all_goals rfl
   ·rw[AM2 (by omega),ANy (by omega),lq (by omega) (fun s hs=>hn s (ho s hs))]
    have hu:=xk (l:=o) (k:=[]);simp only[AU]at hu;simp only[AD];rw[Fq (s:=(Gr [] o,[],upto,())) (by show AU Ag (Gr [] o)+AU Ag []≤_;grind[AU]) ⟨fun e he=>by
     rcases ke he with he|⟨t,ht,he⟩
     ·simp_all
     ·exact(Te t (ho t ht)).1 e he,fun e he=>by simp_all⟩]
    simp only[AD,List.all_nil,AOM];rcases AM0 (B7 (Gr [] o,[],upto,()))with hb|hb<;>rw[hb]<;>rfl
 have k6:∀(k i:Nat) (o:List AQ),(∀s∈o,s∈ss)→i≤ss.length→(ss.length-i)+ss.length+2≤k→o.length≤i→AU Aj o+AU Aj (ss.drop i)≤2^24→
   Pn k lost upto i ss 0 [] [] 0 [] [] o=some (pkF ss (xH ((o++others lost i (ss.drop i)).all B7&&B7 (Gr [] (o++others lost i (ss.drop i)),[],upto,())) (Gr [] (o++others lost i (ss.drop i)),[],upto,()))):=by
  intro k
  induction k with
  |zero=>omega
  |succ k ih=>
   intro i o ho hi h hol how;simp only[Pn,dA,AB,As];by_cases DL:i<ss.length
   ·have c1:(0:Int)≤(i:Int)∧(i:Int)<(ss.length:Int):=by omega
    have c2:o.length+1≤C7:=by rw[An];omega
    rw[drop_cons DL]at how;simp only[AU]at how;have hws:Aj ss[i]+(AU Ag []+0)=Aj ss[i]:=rfl;rw[AM1 c1.2,K4 (by omega),AM1 c1,AM1 c2,Ah DL,show(ss[i].1,ss[i].2.1,ss[i].2.2.1,())=ss[i]from rfl,AH (by omega) (by omega),show((i:Int)+1)=((i+1:Nat):Int)by omega];simp only[AD];rw[ih (i+1) o ho (by omega) (by omega) (by omega) (by omega)];rw[ih (i+1) (o++[ss[i]]) (fun s hs=>by
     grind) (by omega) (by omega) (by simp_all) (by grind[JI,AU])]
    rw[drop_cons DL];simp only[others];grind
   ·have:=k11 k 0 o ho (by omega) (by omega) (by omega) (by omega)
    rw[show((0:Nat):Int)=0 from rfl,APS]at this;rw[AM2 (by omega),this,ANy (by omega)];simp only[others,AOC]
 have:=k6 AX 0 [] (by simp) (by omega) (ATE (AZ (by omega))) (by simp) (by grind[AU]);rw[show((0:Nat):Int)=0 from rfl,APS,ARU]at this;rw[this];rcases AM0 (F6 c)with h1|h1
 rotate_left
 ·rw[h1];rfl
 by_cases h2:ss.length=c.1.length
 rotate_left
 ·rw[AM2 (by omega),h1,ASg h2];rfl
 rw[AM1 (by omega),h1,AQg h2];rcases AM0 (A4 c lost)with h3|h3
 rotate_left
 ·rw[h3];rfl
 rw[h3];rcases AM0 (holds c lost)with h4|h4
 ·rw[h4];rfl
 rw[h4];rcases AM0 (lost.contains n)with h5|h5
 rotate_left
 ·rw[h5];rfl
 simp_all
end Go.M
end
section
namespace Go.M
open Go.M.H (AK AQ A0 Ai AA Cq AO A8 AR Ak Bd A9 BK)
theorem qw{α:Type}{l:List α}{i j:Nat}{x d:α}(hi:i<l.length):(l.set i x).getD j d=if i=j then x else l.getD j d:=by
 grind
theorem QZ{w:AA}{n:Int}(h:Aq w n=0):0≤n∧n<w.BE.length∧n∉w.lost:=by
 unfold Aq at h;split at h
 ·omega
 rename_i h1;simp only[AQV,AQZ,Am]at h1;grind
theorem pH{s x:Ai}:∀{l:List Ai},x∈Z_ s l↔x=s∨x∈l
 |[]=>by simp[Z_]
 |y::l=>by
  simp only[Z_];split
  ·simp
  ·simp only[ARi,pH (l:=l)]
   grind
theorem wg{s:Ai}:∀{l:List Ai},(Z_ s l).length=l.length+1
 |[]=>rfl
 |y::l=>by
  simp only[Z_];split
  ·rfl
  ·simp only[AOX,wg (l:=l)]
theorem w4{s:Ai}:∀{l:List Ai},Wf (fun s:Ai=>s.1) l→(∀x∈l,x.1≠s.1)→Wf (fun s:Ai=>s.1) (Z_ s l)
 |[],_,_=>by simp[Z_,Wf]
 |y::l,h,hs=>by
  have h':=h;simp only[Wf,ASf]at h;simp only[Z_];split
  ·rename_i hy
   simp only[Wf,ASf,ARi];grind
  ·rename_i hy
   simp only[Wf,ASf];refine⟨fun a ha=> ?_,w4 h.2 fun x hx=>hs x (by simp[hx])⟩;rcases pH.1 ha with rfl|ha
   all_goals grind
section
variable{w:AA} (h:Nw w)
include h
theorem Nw.node{n:Int}(hn:Aq w n=0):(0≤n∧n<(Ae w).1.length)∧n.toNat<w.BE.length∧n∉w.lost:=by
 obtain⟨a,b,c⟩:=QZ hn;have:=h.q_;exact⟨⟨a,by show n<(w.1.length:Int);omega⟩,by omega,c⟩
theorem Nw.oR{n:Int}(hn:Aq w n=0){s:AQ}(hs:cI s):Nw (w.CF (w.BE.set n.toNat s)):=by
 obtain⟨h1,h2,h3⟩:=h.node hn;refine⟨h.cfg,by(try simp only[H.AA.BE,H.AA.lost,H.AA.BA,H.AA.trim,H.AA.AN,H.AA.CI,H.AA.Ac,H.AA.Al,H.AA.Ib,H.AA.CF,H.AA.FH,H.AA.I0,H.AA.BZ,H.AA.Cn,H.AA.DC,H.AA.Az,H.AA.FV,CO,Ae]at*);simpa using h.q_,h.lost,h.Ib,fun i hi=> ?_,h.nj,h.rr,h.vI,h.AN,h.fX,h.CI,h.nN,h.Ac,h.Rp,h.Al,h.bU⟩
 (try simp only[H.AA.BE,H.AA.lost,H.AA.BA,H.AA.trim,H.AA.AN,H.AA.CI,H.AA.Ac,H.AA.Al,H.AA.Ib,H.AA.CF,H.AA.FH,H.AA.I0,H.AA.BZ,H.AA.Cn,H.AA.DC,H.AA.Az,H.AA.FV,CO,Ae]at*);simp only[ASx]at hi
 simp only[qw h2];split
 ·grind
 ·exact h.BE i hi
theorem Nw.store{n:Int}(hn:Aq w n=0):cI (storeAt w n):=(h.BE _ (h.node hn).2.1).1
theorem j6{n:Int}{q:AQ×Bool}(hn:Aq w n=0)(hs:q.2=true→cI q.1)(e:(putAt w n q).2=0):Nw (putAt w n q).1:=by
 unfold putAt at*;split at e
 ·rename_i hq
  rw[AM1 hq];exact h.oR hn (hs hq)
 omega
theorem AKQ{a:Int}(e:(Mf w a).2=0):Nw (Mf w a).1:=by
 unfold Mf at*;split at e
 ·omega
 rename_i h4;rw[AM2 h4];simp only at e⊢;split at e
 ·omega
 rename_i hq;rw[AM2 hq];simp only[AQV,AQZ]at hq;obtain⟨_,r1,r2,r3,r4,r5⟩:=ot hq;rw[r2]at r1;rw[r2,r3];have hnw:=h.rr;have hl:((CO w).1++[(BJ a,false,0,())]).length=w.BA.length+1:=by simp[CO]
 refine⟨h.cfg,h.q_,h.lost,h.Ib,h.BE,r1,?_,by(try simp only[H.AA.BE,H.AA.lost,H.AA.BA,H.AA.trim,H.AA.AN,H.AA.CI,H.AA.Ac,H.AA.Al,H.AA.Ib,H.AA.CF,H.AA.FH,H.AA.I0,H.AA.BZ,H.AA.Cn,H.AA.DC,H.AA.Az,H.AA.FV,CO,Ae]at*);simp,fun x hx=> ?_,?_,fun m hm=>by grind,h.nN,h.Ac,h.Rp,fun s hs=> ?_,h.bU⟩
 ·grind
 ·replace hx:x∈w.AN++[((w.BA.length:Int)+1,[],())]:=hx
  simp only[AOk,ARu]at hx;have Ady:w.BA.length<30:=r5;have iV:(((CO w).1++[(BJ a,false,0,())]).length:Int)=(w.BA.length:Int)+1:=by omega
  show bZ (Ae w) x∧x.1≤(((CO w).1++[(BJ a,false,0,())]).length:Int)
  rw[iV];rcases hx with hx|rfl
  ·have:=h.AN x hx
   grind
  ·exact⟨⟨h.cfg,by omega,by simp,by simp,by simp[RS]⟩,by omega⟩
 ·show Wf (fun x:AR=>x.1) (w.AN++[((w.BA.length:Int)+1,[],())])
  simp only[Wf,List.pairwise_append,ASf,List.Pairwise.nil,ARu,ASq];refine⟨h.fX,by simp,fun x hx y hy=> ?_⟩;subst hy;have:=(h.AN x hx).2;omega
 ·have:=h.Al s hs
  grind
end
section
variable{w:AA} (h:Nw w)
include h
theorem APM{a:Int}{d:AB_}(hd:d.length≤40)(e:(doAdd w a d).2=0):Nw (doAdd w a d).1:=by
 unfold doAdd at*;split at e
 ·omega
 rename_i ha;rw[AM2 ha];simp only[AQV,AQZ,Am]at ha;simp only at e⊢;split at e
 ·omega
 rename_i hq;rw[AM2 hq];simp only[ASr,not_or,AQV,AQZ,ATJ,List.any_eq_false,ASo]at hq;obtain⟨hq,h120,hno⟩:=hq;have hi:a.toNat<w.AN.length:=by omega
 have hx:=h.AN _ (BU (d:=B8) hi);obtain⟨_,r1,r2,r3⟩:=bX hq;rw[r2]at r1;rw[r2,r3];rw[r3]at hno;have hnn:=r1.n;simp only[AOq,AOX,AQl]at hnn;obtain⟨p1,p2,p3⟩:=JM (e:=(w.AN.getD a.toNat B8).1) (o:=((w.AN.getD a.toNat B8).2.1.length:Int)+1) hx.1.ep (by omega);have hns:=h.Rp;refine⟨h.cfg,h.q_,h.lost,h.Ib,h.BE,h.nj,by(try simp only[H.AA.BE,H.AA.lost,H.AA.BA,H.AA.trim,H.AA.AN,H.AA.CI,H.AA.Ac,H.AA.Al,H.AA.Ib,H.AA.CF,H.AA.FH,H.AA.I0,H.AA.BZ,H.AA.Cn,H.AA.DC,H.AA.Az,H.AA.FV,CO,Ae]at*);simpa using h.rr,h.vI,fun x hx' => ?_,?_,h.CI,h.nN,h.Ac,by grind[wg],fun s hs=> ?_,w4 h.bU fun x hx=>by grind⟩
 ·rcases ASk hx' with hx'|rfl
  ·exact h.AN x hx'
  ·exact⟨r1,hx.2⟩
 ·have:=h.fX
  show Wf (fun x:AR=>x.1) (w.AN.set a.toNat ((w.AN.getD a.toNat B8).1,(w.AN.getD a.toNat B8).2.1++[(d,[],false,())],()))
  simp only[Wf,AWB,List.getElem_set,ASx]at this⊢;grind
 ·rcases pH.1 hs with rfl|hs
  ·simp_all
  ·exact h.Al s hs
theorem AEK{a b n:Int}(e:(Iy w a b n).2=0):Nw (Iy w a b n).1:=by
 unfold Iy at*;split at e
 ·omega
 rename_i h1;rw[AM2 h1];simp only at e⊢;split at e
 ·omega
 rename_i h2;rw[AM2 h2];split at e
 ·omega
 rename_i h3;rw[AM2 h3];split at e
 ·omega
 rename_i h4;rw[AM2 h4];grind[j6,eX]
theorem kY{all:Bool}{s:AQ}{n:Int}(hn:0≤n∧n<(Ae w).1.length):∀{ws:List AR} {ss:List Ai},
  (FE all (Ae w) s w.BA n ws ss).1=ws.map (fun x=>if eF s w.BA n x then(x.1,Br (Ae w) s x.1 n 1 x.2.1,())else x)∧
  (FE all (Ae w) s w.BA n ws ss).2.map (fun x=>(x.1,x.2.1))=ss.map (fun x=>(x.1,x.2.1))
 |[],ss=>⟨rfl,rfl⟩
 |x::ws,ss=>by
  simp only[FE,ATB];split
  ·rename_i ht
   obtain⟨h1,h2⟩:=kY hn (ws:=ws) (ss:=ss.map (QN all x.1 x.2.1 (Br (Ae w) s x.1 n 1 x.2.1)));rw[h1,h2];exact⟨rfl,by rw[AUL];rfl⟩
  ·obtain⟨h1,h2⟩:=kY hn (ws:=ws) (ss:=ss)
   rw[h1,h2];simp_all
theorem AF6{all:Bool}{n:Int}(e:(N_ all w n).2=0):Nw (N_ all w n).1:=by
 unfold N_ at*;split at e
 ·omega
 rename_i h1;rw[AM2 h1];simp only at e⊢;split at e
 ·omega
 rename_i h2;rw[AM2 h2];simp only[ne_eq,AVv]at h1;simp only[AQV,AQZ]at h2;have hn:=(h.node h1).1;obtain⟨s1,s2,s3⟩:=Nn h2;have hw:=h.oR h1 s2;obtain⟨t1,t2⟩:=kY h (all:=all) (s:=(Be (storeAt w n)).1) hn (ws:=w.AN) (ss:=w.Al);have ms:∀x∈(FE all (Ae w) (Be (storeAt w n)).1 w.BA n w.AN w.Al).2,∃y∈w.Al,x.1=y.1∧x.2.1=y.2.1:=fun x hx=>by
  have:(x.1,x.2.1)∈w.Al.map (fun x=>(x.1,x.2.1)):=by grind
  simp_all
 have ml:(FE all (Ae w) (Be (storeAt w n)).1 w.BA n w.AN w.Al).2.length=w.Al.length:=by
  have:=congrArg List.length t2;grind
 have ma:Wf (fun s:Ai=>s.1) (FE all (Ae w) (Be (storeAt w n)).1 w.BA n w.AN w.Al).2:=by
  have h1:(FE all (Ae w) (Be (storeAt w n)).1 w.BA n w.AN w.Al).2.map (fun x=>x.1)=w.Al.map (fun x=>x.1):=by
   have:=congrArg (List.map Prod.fst) t2;rw[AUL,AUL]at this;exact this
  have h2:(w.Al.map (fun x:Ai=>x.1)).Pairwise (· < ·):=AUg.2 h.bU;grind
 refine⟨h.cfg,hw.q_,h.lost,h.Ib,hw.BE,h.nj,by(try simp only[H.AA.BE,H.AA.lost,H.AA.BA,H.AA.trim,H.AA.AN,H.AA.CI,H.AA.Ac,H.AA.Al,H.AA.Ib,H.AA.CF,H.AA.FH,H.AA.I0,H.AA.BZ,H.AA.Cn,H.AA.DC,H.AA.Az,H.AA.FV,CO,Ae]at*);simp only[t1,ATV];exact h.rr,by(try simp only[H.AA.BE,H.AA.lost,H.AA.BA,H.AA.trim,H.AA.AN,H.AA.CI,H.AA.Ac,H.AA.Al,H.AA.Ib,H.AA.CF,H.AA.FH,H.AA.I0,H.AA.BZ,H.AA.Cn,H.AA.DC,H.AA.Az,H.AA.FV,CO,Ae]at*);simpa using h.vI,fun x hx=> ?_,?_,fun m hm=> ?_,h.nN,h.Ac,by(try simp only[H.AA.BE,H.AA.lost,H.AA.BA,H.AA.trim,H.AA.AN,H.AA.CI,H.AA.Ac,H.AA.Al,H.AA.Ib,H.AA.CF,H.AA.FH,H.AA.I0,H.AA.BZ,H.AA.Cn,H.AA.DC,H.AA.Az,H.AA.FV,CO,Ae]at*);simp only[ml];exact h.Rp,fun x hx=> ?_,ma⟩
 ·(try simp only[H.AA.BE,H.AA.lost,H.AA.BA,H.AA.trim,H.AA.AN,H.AA.CI,H.AA.Ac,H.AA.Al,H.AA.Ib,H.AA.CF,H.AA.FH,H.AA.I0,H.AA.BZ,H.AA.Cn,H.AA.DC,H.AA.Az,H.AA.FV,CO,Ae]at*);simp only[t1]at hx
  obtain⟨y,hy,rfl⟩:=ATD.1 hx;have zk:=h.AN y hy;split
  ·obtain⟨k1,k2,k3⟩:=cM (s:=(Be (storeAt w n)).1) (ep:=y.1) hn (o:=1) zk.1.words
   exact⟨⟨h.cfg,zk.1.ep,k3▸zk.1.n,k1,ASY k2 zk.1.opn⟩,zk.2⟩
  ·exact zk
 ·show Wf (fun x:AR=>x.1) (FE all (Ae w) (Be (storeAt w n)).1 w.BA n w.AN w.Al).1
  rw[t1];simp only[Wf,AUg];refine h.fX.imp fun{a b} nu=> ?_
  grind
 ·obtain⟨y,hy,rfl⟩:=ATD.1 hm
  have zk:=h.CI y hy;refine⟨AE0 hn zk.1,?_⟩;grind[Ln]
 ·obtain⟨y,hy,e1,e2⟩:=ms x hx
  have:=h.Al y hy;simp_all
theorem ACd{n k:Int}(e:(I9 w n k).2=0):Nw (I9 w n k).1:=by
 unfold I9 at*;split at e
 ·omega
 rename_i h1;rw[AM2 h1];exact j6 h (by omega) (fun hq=>(Nn hq).2.1) e
theorem AE2{n:Int}(e:(I6 w n).2=0):Nw (I6 w n).1:=by
 unfold I6 at*;split at e
 ·omega
 rename_i h1;rw[AM2 h1];exact j6 h (by omega) (fun hq=>(tc hq).2.1) e
theorem AH7{n:Int}(e:(M8 w n).2=0):Nw (M8 w n).1:=by
 unfold M8 at*;split at e
 ·omega
 rename_i h1;rw[AM2 h1];simp only[ne_eq,AVv]at h1;obtain⟨hn,hn2,hn3⟩:=h.node h1;have fw:∀x∈w.AN,(CD (Ae w) x n).1=(x.1,x.2.1.map (Et n),()):=fun x hx=>(cj (h.AN x hx).1).2
 refine⟨h.cfg,by(try simp only[H.AA.BE,H.AA.lost,H.AA.BA,H.AA.trim,H.AA.AN,H.AA.CI,H.AA.Ac,H.AA.Al,H.AA.Ib,H.AA.CF,H.AA.FH,H.AA.I0,H.AA.BZ,H.AA.Cn,H.AA.DC,H.AA.Az,H.AA.FV,CO,Ae]at*);simpa using h.q_,Ks h.lost hn,?_,fun i hi=> ?_,h.nj,by(try simp only[H.AA.BE,H.AA.lost,H.AA.BA,H.AA.trim,H.AA.AN,H.AA.CI,H.AA.Ac,H.AA.Al,H.AA.Ib,H.AA.CF,H.AA.FH,H.AA.I0,H.AA.BZ,H.AA.Cn,H.AA.DC,H.AA.Az,H.AA.FV,CO,Ae]at*);simpa using h.rr,by(try simp only[H.AA.BE,H.AA.lost,H.AA.BA,H.AA.trim,H.AA.AN,H.AA.CI,H.AA.Ac,H.AA.Al,H.AA.Ib,H.AA.CF,H.AA.FH,H.AA.I0,H.AA.BZ,H.AA.Cn,H.AA.DC,H.AA.Az,H.AA.FV,CO,Ae]at*);simpa using h.vI,fun x hx=> ?_,?_,fun m hm=> ?_,h.nN,h.Ac,h.Rp,h.Al,h.bU⟩
 ·grind[holds,Ae,N4]
 ·(try simp only[H.AA.BE,H.AA.lost,H.AA.BA,H.AA.trim,H.AA.AN,H.AA.CI,H.AA.Ac,H.AA.Al,H.AA.Ib,H.AA.CF,H.AA.FH,H.AA.I0,H.AA.BZ,H.AA.Cn,H.AA.DC,H.AA.Az,H.AA.FV,CO,Ae]at*);simp only[ASx]at hi
  simp only[qw hn2];split
  ·exact⟨cI.nil,fun _=>rfl⟩
  ·rename_i ea
   refine⟨(h.BE i hi).1,fun hl=>(h.BE i hi).2 ?_⟩;grind[wZ]
 ·obtain⟨y,hy,rfl⟩:=ATD.1 hx
  have zk:=h.AN y hy;refine⟨(cj zk.1).1,?_⟩;simp_all
 ·(try simp only[H.AA.BE,H.AA.lost,H.AA.BA,H.AA.trim,H.AA.AN,H.AA.CI,H.AA.Ac,H.AA.Al,H.AA.Ib,H.AA.CF,H.AA.FH,H.AA.I0,H.AA.BZ,H.AA.Cn,H.AA.DC,H.AA.Az,H.AA.FV,CO,Ae]at*);simp only[Wf,AUg]
  refine List.Pairwise.imp_of_mem (fun{a b} ha hb nu=> ?_) h.fX;simp_all
 ·obtain⟨y,hy,rfl⟩:=ATD.1 hm
  have zk:=h.CI y hy;obtain⟨k1,k2⟩:=rN (n:=n) zk.1;refine⟨k1,?_⟩;simp_all
theorem AKm{n:Int}(e:(Mk w n).2=0):Nw (Mk w n).1:=by
 unfold Mk at*;split at e
 ·omega
 rename_i h1;rw[AM2 h1];simp only at e⊢;split at e
 ·omega
 rename_i h2;rw[AM2 h2];simp only[AQV,AQZ]at h1 h2;obtain⟨s1,s2,s3,s4⟩:=ADy h2;rw[List.contains_eq_mem,AOH]at h1;have hnn:=(En.1 h.lost).2.1 n h1;have hns:=h.q_;have hn2:n.toNat<w.BE.length:=by
  have:n<(w.1.length:Int):=hnn.2;omega
 refine⟨h.cfg,by grind,Tb _ h.lost,?_,fun i hi=> ?_,h.nj,h.rr,h.vI,h.AN,h.fX,h.CI,h.nN,h.Ac,h.Rp,h.Al,h.bU⟩
 ·refine .inr ?_
  rw[ATA];intro hh
  replace hh:holds (Ae w) (less w.lost [n])=true:=hh
  have:=pP (m:=w.lost) hh h.lost fun x hx=>(ATi.1 hx).1
  simp_all
 ·(try simp only[H.AA.BE,H.AA.lost,H.AA.BA,H.AA.trim,H.AA.AN,H.AA.CI,H.AA.Ac,H.AA.Al,H.AA.Ib,H.AA.CF,H.AA.FH,H.AA.I0,H.AA.BZ,H.AA.Cn,H.AA.DC,H.AA.Az,H.AA.FV,CO,Ae]at*);simp only[ASx]at hi
  simp only[qw hn2];split
  ·grind[pZ,List.mem_singleton]
  ·exact⟨(h.BE i hi).1,fun hl=>(h.BE i hi).2 (pZ.1 hl).1⟩
theorem AHc(e:(Mm w).2=0):Nw (Mm w).1:=by
 unfold Mm at*;split at e
 ·omega
 rename_i h1;rw[AM2 h1];split at e
 ·omega
 rename_i h2;rw[AM2 h2];simp only[ASr,AOH,not_or]at h1;obtain⟨k,k1,k2,k3,k4⟩:=SU h.nj (by show 0<w.BA.length;omega);have k1':k<w.BA.length:=k1;have bl:BG w.BA=(k:Int)+1:=k2;have hn:w.BA.length≤30:=h.nj.n;refine⟨h.cfg,h.q_,h.lost,h.Ib,h.BE,h.nj,h.rr,by(try simp only[H.AA.BE,H.AA.lost,H.AA.BA,H.AA.trim,H.AA.AN,H.AA.CI,H.AA.Ac,H.AA.Al,H.AA.Ib,H.AA.CF,H.AA.FH,H.AA.I0,H.AA.BZ,H.AA.Cn,H.AA.DC,H.AA.Az,H.AA.FV,CO,Ae]at*);simp,h.AN,h.fX,fun m hm=> ?_,h.nN,h.Ac,h.Rp,h.Al,h.bU⟩
 replace hm:m∈[oB (BG w.BA) w.BA.length]:=hm
 simp only[ARu]at hm;subst hm;refine⟨⟨h.cfg,?_,?_,Zg h.cfg,List.Pairwise.nil,by simp[oB],by simp[oB],rfl⟩,rfl,rfl⟩
 ·show 1≤BG w.BA∧BG w.BA≤30
  omega
 ·show BG w.BA+1≤(w.BA.length:Int)∧(w.BA.length:Int)≤30
  omega
theorem AJs{n:Int}(e:(Me w n).2=0):Nw (Me w n).1:=by
 unfold Me at*;split at e
 ·omega
 rename_i m ms hm;simp only at e⊢;split at e
 ·omega
 rename_i h1;rw[AM2 h1];split at e
 ·omega
 rename_i h2;rw[AM2 h2];split at e
 ·omega
 rename_i h3;rw[AM2 h3];simp only[ne_eq,AVv]at h1;simp only[ASr,not_or,AQV,AQZ]at h3;obtain⟨s1,s2,s3⟩:=jq h3.1;obtain⟨m1,m2,m3,m4⟩:=mA h3.2;have hw:=h.oR h1 s2;have hm1:=h.vI;rw[hm]at hm1;refine⟨h.cfg,hw.q_,h.lost,h.Ib,hw.BE,h.nj,h.rr,by omega,h.AN,h.fX,fun x hx=> ?_,h.nN,h.Ac,h.Rp,h.Al,h.bU⟩;rcases ARi.1 hx with rfl|hx
 ·have:=h.CI m (by simp_all)
  refine⟨m2,?_⟩;simp_all
 simp_all
theorem AIa(e:(My w).2=0):Nw (My w).1:=by
 unfold My at*;split at e
 ·omega
 rename_i m ms hm;simp only at e⊢;split at e
 ·omega
 rename_i h3;rw[AM2 h3];simp only[AQV,AQZ]at h3;obtain⟨m1,m2,m3,m4,m5⟩:=mG h3;have hm1:=h.vI;rw[hm]at hm1;refine⟨h.cfg,h.q_,h.lost,h.Ib,h.BE,h.nj,h.rr,by omega,h.AN,h.fX,fun x hx=> ?_,h.nN,h.Ac,h.Rp,h.Al,h.bU⟩;rcases ARi.1 hx with rfl|hx
 ·have:=h.CI m (by simp_all)
  refine⟨m2,?_⟩;simp_all
 simp_all
theorem AQH{b n:Int}(e:(TT w b n).2=0):Nw (TT w b n).1:=by
 unfold TT at*;split at e
 ·omega
 rename_i m ms hm;split at e
 ·omega
 rename_i x hx;split at e
 ·omega
 rename_i h1;rw[AM2 h1];split at e
 ·omega
 rename_i h2;rw[AM2 h2];grind[j6,eX]
theorem ADP(e:(Iw w).2=0):Nw (Iw w).1:=by
 unfold Iw at*;split at e
 ·omega
 rename_i m ms hm;split at e
 ·omega
 rename_i h1;rw[AM2 h1];simp only at e⊢;split at e
 ·omega
 rename_i h2;rw[AM2 h2];simp only[AQV,AQZ]at h2;obtain⟨r0,r1,k,k1,k2,k3,k4,k5,k6,k7,k8⟩:=l3 h2;rw[k6]at r1;rw[k6];have hl:(Oh (CO w).1 k (m.2.2.2.2.2.1.length:Int)).length=w.BA.length:=by simp[Oh,CO]
 refine⟨h.cfg,h.q_,h.lost,h.Ib,h.BE,r1,h.rr,by(try simp only[H.AA.BE,H.AA.lost,H.AA.BA,H.AA.trim,H.AA.AN,H.AA.CI,H.AA.Ac,H.AA.Al,H.AA.Ib,H.AA.CF,H.AA.FH,H.AA.I0,H.AA.BZ,H.AA.Cn,H.AA.DC,H.AA.Az,H.AA.FV,CO,Ae]at*);simp,fun x hx=> ?_,h.fX,fun x hx=>by grind,h.nN,h.Ac,h.Rp,fun x hx=> ?_,h.bU⟩
 ·(try simp only[H.AA.BE,H.AA.lost,H.AA.BA,H.AA.trim,H.AA.AN,H.AA.CI,H.AA.Ac,H.AA.Al,H.AA.Ib,H.AA.CF,H.AA.FH,H.AA.I0,H.AA.BZ,H.AA.Cn,H.AA.DC,H.AA.Az,H.AA.FV,CO,Ae]at*);simp only[hl];exact h.AN x hx
 ·(try simp only[H.AA.BE,H.AA.lost,H.AA.BA,H.AA.trim,H.AA.AN,H.AA.CI,H.AA.Ac,H.AA.Al,H.AA.Ib,H.AA.CF,H.AA.FH,H.AA.I0,H.AA.BZ,H.AA.Cn,H.AA.DC,H.AA.Az,H.AA.FV,CO,Ae]at*);simp only[hl];exact h.Al x hx
theorem AEk{a:Int}(e:(Ox w a).2=0):Nw (Ox w a).1:=by
 unfold Ox at*;simp only at e⊢;split at e
 ·omega
 rename_i h2;rw[AM2 h2];simp only[AQV,AQZ]at h2;obtain⟨r0,r1,r2⟩:=pf h2;rw[r2]at r1;rw[r2];exact⟨h.cfg,h.q_,h.lost,h.Ib,h.BE,r1,h.rr,h.vI,h.AN,h.fX,h.CI,h.nN,h.Ac,h.Rp,h.Al,h.bU⟩
theorem zG{a k:Int}(e:(Ha w a k).2=0):Nw (Ha w a k).1:=by
 unfold Ha at*;split at e
 ·omega
 rename_i h1;rw[AM2 h1];simp only at e⊢;split at e
 ·omega
 rename_i h2;rw[AM2 h2];simp only[ne_eq,AVv]at h2;refine⟨h.cfg,h.q_,h.lost,h.Ib,h.BE,h.nj,h.rr,h.vI,h.AN,h.fX,h.CI,by(try simp only[H.AA.BE,H.AA.lost,H.AA.BA,H.AA.trim,H.AA.AN,H.AA.CI,H.AA.Ac,H.AA.Al,H.AA.Ib,H.AA.CF,H.AA.FH,H.AA.I0,H.AA.BZ,H.AA.Cn,H.AA.DC,H.AA.Az,H.AA.FV,CO,Ae]at*);simpa using h.nN,fun r hr=> ?_,h.Rp,h.Al,h.bU⟩;rcases ASk hr with hr|rfl
 ·exact h.Ac r hr
 ·exact rQ h2
theorem AFy{a:Int}(e:(N1 w a).2=0):Nw (N1 w a).1:=by
 unfold N1 at*;split at e
 ·omega
 rename_i h1;rw[AM2 h1];have hs:(w.AN.eraseIdx a.toNat).Sublist w.AN:=List.eraseIdx_sublist _ _;exact⟨h.cfg,h.q_,h.lost,h.Ib,h.BE,h.nj,ASY hs.length_le h.rr,h.vI,fun x hx=>h.AN x (hs.subset hx),h.fX.sublist hs,h.CI,h.nN,h.Ac,h.Rp,h.Al,h.bU⟩
theorem AFt{all:Bool}{d:BK}(hd:d.2.2.2.2.1.length≤40)(e:(LQ all w d).2=0):Nw (LQ all w d).1:=by
 unfold LQ at*;by_cases hc:d.1=1
 ·rw[AM1 hc]at e⊢;exact AKQ h e
 rw[AM2 hc]at e⊢;clear hc;by_cases hc:d.1=2
 ·rw[AM1 hc]at e⊢;exact APM h hd e
 rw[AM2 hc]at e⊢;clear hc;by_cases hc:d.1=3
 ·rw[AM1 hc]at e⊢;exact AEK h e
 rw[AM2 hc]at e⊢;clear hc;by_cases hc:d.1=4
 ·rw[AM1 hc]at e⊢;exact AF6 h e
 rw[AM2 hc]at e⊢;clear hc;by_cases hc:d.1=5
 ·rw[AM1 hc]at e⊢;exact ACd h e
 rw[AM2 hc]at e⊢;clear hc;by_cases hc:d.1=6
 ·rw[AM1 hc]at e⊢;exact AH7 h e
 rw[AM2 hc]at e⊢;clear hc;by_cases hc:d.1=7
 ·rw[AM1 hc]at e⊢;exact AKm h e
 rw[AM2 hc]at e⊢;clear hc;by_cases hc:d.1=8
 ·rw[AM1 hc]at e⊢;exact AHc h e
 rw[AM2 hc]at e⊢;clear hc;by_cases hc:d.1=9
 ·rw[AM1 hc]at e⊢;exact AJs h e
 rw[AM2 hc]at e⊢;clear hc;by_cases hc:d.1=10
 ·rw[AM1 hc]at e⊢;exact AIa h e
 rw[AM2 hc]at e⊢;clear hc;by_cases hc:d.1=11
 ·rw[AM1 hc]at e⊢;exact AQH h e
 rw[AM2 hc]at e⊢;clear hc;by_cases hc:d.1=12
 ·rw[AM1 hc]at e⊢;exact ADP h e
 rw[AM2 hc]at e⊢;clear hc;by_cases hc:d.1=13
 ·rw[AM1 hc]at e⊢;exact AEk h e
 rw[AM2 hc]at e⊢;clear hc;by_cases hc:d.1=14
 ·rw[AM1 hc]at e⊢;exact zG h e
 rw[AM2 hc]at e⊢;clear hc;by_cases hc:d.1=15
 ·rw[AM1 hc]at e⊢;exact AFy h e
 rw[AM2 hc]at e⊢;grind[AE2]
end
theorem gi{d:BK}(h:P7 d=true):d.2.2.2.2.1.length≤40:=by
 unfold P7 at h;simp_all
theorem Uh{all:Bool}{w:AA}{d:BK}(e:(CC all w d).2=0):Ft (CC all w d).1=true:=by
 unfold CC at*;split at e
 ·omega
 rename_i h1;rw[AM2 h1];have hw:Ft w=true:=by
  simp_all
 have hd:P7 d=true:=by
  simp_all
 grind[EU,AFt,gi]
end Go.M
end
section
namespace Go.M
open Go.M.H (AK AQ A0 Ai AA Cq AO A8 AR Ak Bd A9 BK Aj CB AU AW Ab Ag Bg Ax Ao Au EB CL Cy C_)
theorem AAH{α:Type}{f:α→Nat}{B:Nat}:∀{l:List α},(∀x∈l,f x≤B)→AU f l≤l.length*(1+B)
 |[],_=>by simp[AU]
 |x::l,h=>by
  have h1:=h x (by simp);have h2:=AAH (l:=l) fun y hy=>h y (by simp[hy])
  grind[AU,List.length_cons,Nat.add_mul]
theorem Dp{α:Type}{f:α→Nat}{B N:Nat}{l:List α}(hn:l.length≤N)(h:∀x∈l,f x≤B):AU f l≤N*(1+B):=
 ASY (AAH h) (APC _ hn)
theorem uL{α:Type}{f:α→Int}{b:Int}:∀{l:List α} {a:Int},Wf f l→(∀x∈l,a≤f x∧f x<b)→(l.length:Int)≤max (b-a) 0
 |[],a,_,_=>by grind
 |x::l,a,h,hb=>by
  simp only[Wf,ASf]at h;have h1:=hb x (by simp);have h2:=uL (l:=l) (a:=f x+1) h.2 fun y hy=>⟨by grind,(hb y (by simp[hy])).2⟩
  grind
theorem GI{c:CE}{l:AAD}(h:A4 c l=true):l.length≤8:=by
 obtain⟨h1,h2,h3⟩:=En.1 h;have:=(Dl h1).2.1;have:=uL (a:=0) (b:=c.1.length) h3 h2;omega
theorem Gv{p:Int}(h:Bf p=true):CR p:=by
 obtain⟨h1,h2,h3⟩:=HD h;grind[HF,CR]
theorem cI.w{s:AQ}(h:cI s):Aj s≤10000:=by
 have h1:=Dp (f:=Ag) (B:=40) h.nk fun e he=>(FY.1 (h.kept e he)).len
 have h2:=Dp (f:=Ag) (B:=40) h.nl fun e he=>(FY.1 (h.late e he)).len
 unfold Aj;omega
theorem cI.sin{s:AQ}(h:cI s):jc s:=
 ⟨fun e he=>Gv (FY.1 (h.kept e he)).pl,fun e he=>Gv (FY.1 (h.late e he)).pl⟩
theorem kF.AWV{c:CE}{m:A0}(h:kF c m):m.2.2.2.1.length≤60:=by
 have:=uL (f:=fun e:AK=>e.1) (a:=HF m.2.1 1) (b:=HF m.2.1 61) h.u_ fun e he=>by
  have h1:=h.seen e he;have h2:=HD (FY.1 h1.1).pl;grind[HF]
 grind[HF]
theorem kF.w{c:CE}{m:A0}(h:kF c m):CB m≤5000:=by
 have h1:=Dp (f:=Ag) (B:=40) h.AWV fun e he=>(FY.1 (h.seen e he).1).len
 have h2:=GI h.sld;have h3:m.2.2.2.2.2.1.length≤60:=by
  have:=h.n;have hb:=Hj (l:=m.2.2.2.1);omega
 have h4:=Dp (f:=C_) (B:=8) h3 fun l hl=>GI (h.wrote l hl)
 unfold CB;omega
theorem kF.xM{c:CE}{m:A0}(h:kF c m):fl m.2.2.2.1:=fun e he=>Gv (FY.1 (h.seen e he).1).pl
theorem zO.w{c:CE}{r:AO}(h:zO c r):AU Bg r.1≤270:=by
 have:=Dp (f:=Bg) (B:=8) h.n fun e he=>GI (VU (h.BA e he).1)
 omega
theorem zO.tin{c:CE}{r:AO}(h:zO c r):CR r.2.1:=by
 rcases h.trim with h|h
 all_goals grind[CR,Gv]
theorem bZ.w{c:CE}{w:AR}(h:bZ c w):Ao w≤3000:=by
 have:=Dp (f:=Ax) (B:=48) h.n fun x hx=>by
  have h1:=h.words x hx;grind[GI,Ax]
 unfold Ao;omega
def rS(w:AA):Prop:= ∀r∈w.Ac,∀e∈r.2.2.1,e.2.2.1.length≤40
theorem Nw.VZ{w:AA}(h:Nw w){s:AQ}(hs:s∈w.BE):cI s:=by
 obtain⟨i,hi,rfl⟩:=ASe hs;have:=(h.BE i hi).1;simp_all
theorem Nw.win{w:AA}(h:Nw w)(hr:rS w):lF w:=by
 have hc:=(Dl h.cfg).2.1;have dN:w.1.length≤8:=hc;have a1:=Dp (f:=Aj) (B:=10000) (N:=8) (l:=w.BE) (by rw[h.q_];omega) fun s hs=>(h.VZ hs).w
 have a2:=GI h.lost;have a3:=h.nj.w;have a4:=Dp (f:=Ao) (B:=3000) h.rr fun x hx=>(h.AN x hx).1.w
 have a5:=Dp (f:=CB) (B:=5000) h.vI fun x hx=>(h.CI x hx).1.w
 have a6:=Dp (f:=Au) (B:=5000) (N:=2) (l:=w.Ac) (by rw[h.nN];omega) fun r hx=>by
  have:=Dp (f:=CL) (B:=40) (h.Ac r hx).n (hr r hx);unfold Au;omega
 have a7:=Dp (f:=EB) (B:=40) h.Rp fun s hs=>(h.Al s hs).2.2
 refine⟨?_,fun s hs=>(h.VZ hs).sin,h.nj.tin,fun m hm=>(h.CI m hm).1.xM,fun s hs=>Gv (h.Al s hs).1⟩;have a3':AU Bg w.BA≤270:=a3;grind[Cy]
end Go.M
end
section
set_option maxRecDepth 8000
namespace Go.M
open Go.M.H (AK AQ A0 Ai AA Cq AO A8 AR Ak Bd A9 BK Aj CB AU AW Ab Ag Bg Ax Ao Au EB CL Cy C_)
theorem sn:∀i,i<8→([0,1,2,3,4,5,6,7]:AAD).drop i=(i:Int)::([0,1,2,3,4,5,6,7]:AAD).drop (i+1):=by decide
theorem ZH{k:Int}:PF k=some (((),()),(BJ k,())):=by
 unfold PF VM BJ;rcases AM0 (BL k 0 255)with hk|hk
 rotate_left
 ·rw[hk]
  obtain⟨m,hm⟩:∃m,AX=m+1:=⟨AX-1,by have:=AZ (n:=0) (by omega);omega⟩;rw[hm];simp only[IP,Og,BR,AD,hk,AB];rfl
 rw[hk,AM1 rfl];have hk':=Am.1 hk;have key:∀(n i:Nat) (b:AAD),i≤8→8-i<n→b.length≤i→
   IP n k i b=some (((),()),(b++(([0,1,2,3,4,5,6,7]:AAD).drop i).filter (fun i=>(k/2^i.toNat)%2==1),())):=by
  intro n
  induction n with
  |zero=>omega
  |succ n ih=>
   intro i b hi h hb;simp only[IP,Og,BR,AD,hk,AOA,AB];by_cases DL:i<8
   ·have AA6:=uq (k:=k) (i:=i) (by omega) (by omega)
    rw[AM1 (show(i:Int)<8 by omega),AM2 (by omega),AN4,AA6,sn i DL,ASL,AN4,AH (by omega) (by omega),show((i:Int)+1)=((i+1:Nat):Int)by omega,AB];have c2:b.length+1≤C7:=by rw[An];omega
    by_cases vU:(k/2^i)%2=1
    ·rw[AM1 vU,AM1 c2,AM1 (by simp_all),ih (i+1) _ (by omega) (by omega) (by simp_all),AOK]
     rfl
    grind
   ·have:i=8:=by omega
    simp_all
 have:=key AX 0 [] (by omega) (AZ (by omega)) (by simp);simp_all
theorem qB{d:BK}:Zr d=some ((P7 d,()),()):=by
 obtain⟨k,a,b,n,t,⟨⟩⟩:=d;unfold Zr P7;rw[BR];simp only[AD];rcases AM0 (BL k 1 16)with hk|hk
 rotate_left
 ·simp_all
 have hk':=Am.1 hk;rw[hk];have dl:decide ((t.length:Int)≤40)=decide (t.length≤40):=by
  grind
 have:k=1∨k=2∨k=3∨k=4∨k=5∨k=6∨k=7∨k=8∨k=9∨k=10∨k=11∨k=12∨k=13∨k=14∨k=15∨k=16:=by omega
 rcases this with h|h|h|h|h|h|h|h|h|h|h|h|h|h|h|h<;>subst h<;>simp only[AOA,dl]<;>clear dl hk hk'<;>
  (unfold Z9;simp[fE];cases a==0<;>cases b==0<;>cases n==0<;>cases t.isEmpty<;>rfl)
theorem iG{w:AR}(hl:w.2.1.length≤2^20):V9 w=some (((YO w.2.1:Int),()),()):=by
 have key:∀(n i:Nat),i≤w.2.1.length→w.2.1.length-i<n→
   J0 n i w.1 w.2.1=some ((((i+YO (w.2.1.drop i):Nat):Int),()),()):=by
  intro n
  induction n with
  |zero=>omega
  |succ n ih=>
   intro i hi h;simp only[J0,Tu,AB];by_cases DL:i<w.2.1.length
   ·have c1:(0:Int)≤(i:Int)∧(i:Int)<(w.2.1.length:Int):=by omega
    rw[AM1 c1.2,AM1 c1,Ah DL,AH (by omega) (by omega),show((i:Int)+1)=((i+1:Nat):Int)by omega,ih (i+1) (by omega) (by omega),drop_cons DL];simp only[YO];cases w.2.1[i].2.2.1 with
    |false=>simp
    |true=>grind
   ·rw[AM2 (by omega),ANy (by omega)]
    rfl
 have:=key AX 0 (by omega) (AZ (by omega));rw[AS7,APS]at this;exact this
theorem Ia{w:AA}{n:Int}(h1:w.BE.length≤2^20)(h2:w.lost.length≤2^20):Hm w n=some ((Aq w n,()),()):=by
 unfold Hm Aq
 (try simp only[H.AA.BE,H.AA.lost,H.AA.BA,H.AA.trim,H.AA.AN,H.AA.CI,H.AA.Ac,H.AA.Al,H.AA.Ib,H.AA.CF,H.AA.FH,H.AA.I0,H.AA.BZ,H.AA.Cn,H.AA.DC,H.AA.Az,H.AA.FV,CO,Ae]at*)
 rw[AH (by omega) (by omega),BR,K4 (by omega)];grind
theorem SM{w:AA}{n:Int}(h1:w.AN.length≤2^20):L9 w n=some ((BL n 0 ((w.AN.length:Int)-1),()),()):=by
 grind[L9,AH,BR]
theorem oK{w:AA}{e:Int}(hl:AU Ao w.AN≤2^20):dd w e=some ((cD w e,()),()):=by
 have xJ:=AW (f:=Ao) (l:=w.AN);have key:∀(n i:Nat),i≤w.AN.length→w.AN.length-i<n→
   PO n e i w.1 w.2.1 w.2.2.1 w.2.2.2.1 w.2.2.2.2.1 w.2.2.2.2.2.1 w.AN w.2.2.2.2.2.2.2.1 w.2.2.2.2.2.2.2.2.1 w.2.2.2.2.2.2.2.2.2.1 w.2.2.2.2.2.2.2.2.2.2.1=
    some (((match(w.AN.drop i).find? (fun x=>x.1==e)with|some x=>(YO x.2.1:Int)|none=>0),()),()):=by
  intro n
  induction n with
  |zero=>omega
  |succ n ih=>
   intro i hi h;simp only[PO,Zx,AB];by_cases DL:i<w.AN.length
   ·have c1:(0:Int)≤(i:Int)∧(i:Int)<(w.AN.length:Int):=by omega
    rw[AM1 c1.2,AM1 c1,AM1 c1,Ah DL,AH (by omega) (by omega),show((i:Int)+1)=((i+1:Nat):Int)by omega,ih (i+1) (by omega) (by omega),drop_cons DL,AWX,show(w.AN[i].1,w.AN[i].2.1,())=w.AN[i]from rfl];have hm:=Ab (f:=Ao) (AN7 DL);have hw:Ao w.AN[i]=AU Ax w.AN[i].2.1:=rfl;have hlw:=AW (f:=Ax) (l:=w.AN[i].2.1);rw[iG (by omega)];cases(w.AN[i].1==e)<;>rfl
   grind
 have:=key AX 0 (by omega) (AZ (by omega));rw[APS]at this;exact this
theorem gh{w:AA}{r:Ak}{k:Int}(h1:AU Aj w.BE≤2^20)(h2:w.lost.length≤2^20)(hr1: -1000≤r.1∧r.1≤1000)(hr2: -1000≤r.2.1∧r.2.1≤1000):
  Qv w r k=some (((),()),(answers w (HF r.1 r.2.1) (BJ k),())):=by
 have hsl:=AW (f:=Aj) (l:=w.BE);have xI:(BJ k).length≤8:=by
  unfold BJ;split
  ·exact ASY (ASZ _ _) (by simp)
  ·simp
 have key:∀(n i:Nat) (b:List A9),i≤(BJ k).length→(BJ k).length-i<n→b.length≤i→
   Ji n i w.1 w.2.1 w.2.2.1 w.2.2.2.1 w.2.2.2.2.1 w.2.2.2.2.2.1 w.2.2.2.2.2.2.1 w.2.2.2.2.2.2.2.1 w.2.2.2.2.2.2.2.2.1 w.2.2.2.2.2.2.2.2.2.1 w.2.2.2.2.2.2.2.2.2.2.1 r.1 r.2.1 r.2.2.1 b (BJ k)=
    some (((),()),(b++answers w (HF r.1 r.2.1) ((BJ k).drop i),())):=by
  intro n
  induction n with
  |zero=>omega
  |succ n ih=>
   intro i b hi h hb;simp only[Ji,T5,AB];by_cases DL:i<(BJ k).length
   ·have c1:(0:Int)≤(i:Int)∧(i:Int)<((BJ k).length:Int):=by omega
    have c2:b.length+1≤C7:=by rw[An];omega
    rw[AM1 c1.2,AM1 c1,Ah DL,show(w.1,w.2.1,w.2.2.1,w.2.2.2.1,w.2.2.2.2.1,w.2.2.2.2.2.1,w.2.2.2.2.2.2.1,w.2.2.2.2.2.2.2.1,w.2.2.2.2.2.2.2.2.1,w.2.2.2.2.2.2.2.2.2.1,w.2.2.2.2.2.2.2.2.2.2.1,())=w from rfl,Ia (by omega) h2,AH (by omega) (by omega),show((i:Int)+1)=((i+1:Nat):Int)by omega,drop_cons DL];simp only[AD,Ct,answers,ASL];by_cases hn:Aq w (BJ k)[i]=0
    ·obtain⟨n1,n2,n3⟩:=QZ hn
     have hs1:((BJ k)[i]).toNat<w.2.2.1.length:=by simp_all
     rw[AM1 hn,AM1 c1,AM1 ⟨n1,n2⟩,F4 hr1 hr2];simp only[AD];have cC:w.2.2.1.getD ((BJ k)[i]).toNat ([],[],0,())=storeAt w (BJ k)[i]:=rfl;have hsm:Aj (storeAt w (BJ k)[i])≤2^20:=ASY (Ab (f:=Aj) (BU (d:=EF) hs1)) h1;rw[cC,Um (F_ (by omega)).1];simp only[AD];rw[AM1 c1,AM1 c2,ih (i+1) _ (by omega) (by omega) (by simp_all),AM1 (by simp_all),ATB,AOK];have:((BJ k)[i],(PL (HF r.1 r.2.1) (storeAt w (BJ k)[i]).1).isSome,((PL (HF r.1 r.2.1) (storeAt w (BJ k)[i]).1).getD Dt).1,((PL (HF r.1 r.2.1) (storeAt w (BJ k)[i]).1).getD Dt).2.1,((PL (HF r.1 r.2.1) (storeAt w (BJ k)[i]).1).getD Dt).2.2.1,((PL (HF r.1 r.2.1) (storeAt w (BJ k)[i]).1).getD Dt).2.2.2.1,())=answer w (HF r.1 r.2.1) (BJ k)[i]:=by
      grind[answer,PL,HF,storeAt,BJ]
     rw[this];rfl
    ·rw[AM2 hn,ih (i+1) _ (by omega) (by omega) (by omega),AM2 (by simp_all)]
     rfl
   ·rw[AM2 (by omega),ANy (by omega)]
    simp[answers]
 have:=key AX 0 [] (by omega) (AZ (by omega)) (by simp);grind[Qv,Tl,ZH]
end Go.M
end
section
set_option maxRecDepth 8000
namespace Go.M
open Go.M.H (AK AQ A0 Ai AA Cq AO A8 AR Ak Bd A9 BK Aj CB AU AW Ab Ag Bg Ax Ao Au EB CL Cy C_)
section
variable{w:AA} (h:lF w)
include h
theorem AJP:∀(n i:Nat) (DI:List AQ) (De:List AR) (D4:List A0) (Ea:List Ak),i≤w.2.2.2.2.2.2.2.2.1.length→w.2.2.2.2.2.2.2.2.1.length-i<n→Ea.length≤i→
  CV n i w.1 w.2.1 w.2.2.1 w.2.2.2.1 w.2.2.2.2.1 w.2.2.2.2.2.1 w.2.2.2.2.2.2.1 w.2.2.2.2.2.2.2.1 w.2.2.2.2.2.2.2.2.1 w.2.2.2.2.2.2.2.2.2.1 w.2.2.2.2.2.2.2.2.2.2.1 0 0 false [] [] [] [] [] [] [] [] w.2.1 w.2.2.2.2.2.1 w.2.2.2.2.2.2.2.2.2.2.1 w.1 DI w.2.2.2.1 w.2.2.2.2.1 De D4 Ea w.2.2.2.2.2.2.2.2.2.1=some ((((),w.2.1,(),(),(),w.2.2.2.2.2.1,(),(),(),(),w.2.2.2.2.2.2.2.2.2.2.1,()),()),(w.1,DI,w.2.2.2.1,w.2.2.2.2.1,De,D4,(Ea++w.2.2.2.2.2.2.2.2.1.drop i),w.2.2.2.2.2.2.2.2.2.1,())):=by
 have vE:=h.TJ;have hl:=h.lens;intro n
 induction n with
 |zero=>omega
 |succ n ih=>
  intro i DI De D4 Ea hi hn hb;simp only[CV,P9,AB];by_cases DL:i<w.2.2.2.2.2.2.2.2.1.length
  ·have c1:(0:Int)≤(i:Int)∧(i:Int)<(w.2.2.2.2.2.2.2.2.1.length:Int):=by omega
   have c2:Ea.length+1≤C7:=by rw[An];omega
   rw[AM1 c1.2,AM1 c1,Ah DL,AH (by omega) (by omega),show((i:Int)+1)=((i+1:Nat):Int)by omega,drop_cons DL];have hm:=Ab (f:=Au) (AN7 DL);have hw:Au w.2.2.2.2.2.2.2.2.1[i]=AU CL w.2.2.2.2.2.2.2.2.1[i].2.2.1:=rfl;have hlw:=AW (f:=CL) (l:=w.2.2.2.2.2.2.2.2.1[i].2.2.1);rw[show(w.2.2.2.2.2.2.2.2.1[i].1,w.2.2.2.2.2.2.2.2.1[i].2.1,w.2.2.2.2.2.2.2.2.1[i].2.2.1,())=w.2.2.2.2.2.2.2.2.1[i]from rfl,V1 (by omega)];simp only[AD];rw[AM1 c2,ih (i+1) _ _ _ _ (by omega) (by omega) (by simp_all),AOK];rfl
  grind
theorem AHr:∀(n i:Nat) (DI:List AQ) (De:List AR) (D4:List A0),i≤w.2.2.2.2.2.2.2.1.length→(w.2.2.2.2.2.2.2.1.length-i)+w.2.2.2.2.2.2.2.2.1.length+2≤n→D4.length≤i→
  CS n i w.1 w.2.1 w.2.2.1 w.2.2.2.1 w.2.2.2.2.1 w.2.2.2.2.2.1 w.2.2.2.2.2.2.1 w.2.2.2.2.2.2.2.1 w.2.2.2.2.2.2.2.2.1 w.2.2.2.2.2.2.2.2.2.1 w.2.2.2.2.2.2.2.2.2.2.1 0 0 false [] [] [] [] [] [] [] [] w.2.1 w.2.2.2.2.2.1 w.2.2.2.2.2.2.2.2.2.2.1 w.1 DI w.2.2.2.1 w.2.2.2.2.1 De D4 [] w.2.2.2.2.2.2.2.2.2.1=some ((((),w.2.1,(),(),(),w.2.2.2.2.2.1,(),(),(),(),w.2.2.2.2.2.2.2.2.2.2.1,()),()),(w.1,DI,w.2.2.2.1,w.2.2.2.2.1,De,(D4++w.2.2.2.2.2.2.2.1.drop i),w.2.2.2.2.2.2.2.2.1,w.2.2.2.2.2.2.2.2.2.1,())):=by
 have vE:=h.TJ;have hl:=h.lens;intro n
 induction n with
 |zero=>omega
 |succ n ih=>
  intro i DI De D4 hi hn hb;simp only[CS,P6,AB];by_cases DL:i<w.2.2.2.2.2.2.2.1.length
  ·have c1:(0:Int)≤(i:Int)∧(i:Int)<(w.2.2.2.2.2.2.2.1.length:Int):=by omega
   have c2:D4.length+1≤C7:=by rw[An];omega
   rw[AM1 c1.2,AM1 c1,Ah DL,AH (by omega) (by omega),show((i:Int)+1)=((i+1:Nat):Int)by omega,drop_cons DL];have hm:=Ab (f:=CB) (AN7 DL);rw[show(w.2.2.2.2.2.2.2.1[i].1,w.2.2.2.2.2.2.2.1[i].2.1,w.2.2.2.2.2.2.2.1[i].2.2.1,w.2.2.2.2.2.2.2.1[i].2.2.2.1,w.2.2.2.2.2.2.2.1[i].2.2.2.2.1,w.2.2.2.2.2.2.2.1[i].2.2.2.2.2.1,())=w.2.2.2.2.2.2.2.1[i]from rfl,MM (by omega)];simp only[AD];rw[AM1 c2,ih (i+1) _ _ _ (by omega) (by omega) (by simp_all),AOK];rfl
  ·have:=AJP h n 0 DI De D4 [] (by omega) (by omega) (by simp)
   grind
theorem AQm:∀(n i:Nat) (DI:List AQ) (De:List AR),i≤w.2.2.2.2.2.2.1.length→(w.2.2.2.2.2.2.1.length-i)+w.2.2.2.2.2.2.2.1.length+w.2.2.2.2.2.2.2.2.1.length+3≤n→De.length≤i→
  Cp n i w.1 w.2.1 w.2.2.1 w.2.2.2.1 w.2.2.2.2.1 w.2.2.2.2.2.1 w.2.2.2.2.2.2.1 w.2.2.2.2.2.2.2.1 w.2.2.2.2.2.2.2.2.1 w.2.2.2.2.2.2.2.2.2.1 w.2.2.2.2.2.2.2.2.2.2.1 0 0 false [] [] [] [] [] [] [] [] w.2.1 w.2.2.2.2.2.1 w.2.2.2.2.2.2.2.2.2.2.1 w.1 DI w.2.2.2.1 w.2.2.2.2.1 De [] [] w.2.2.2.2.2.2.2.2.2.1=some ((((),w.2.1,(),(),(),w.2.2.2.2.2.1,(),(),(),(),w.2.2.2.2.2.2.2.2.2.2.1,()),()),(w.1,DI,w.2.2.2.1,w.2.2.2.2.1,(De++w.2.2.2.2.2.2.1.drop i),w.2.2.2.2.2.2.2.1,w.2.2.2.2.2.2.2.2.1,w.2.2.2.2.2.2.2.2.2.1,())):=by
 have vE:=h.TJ;have hl:=h.lens;intro n
 induction n with
 |zero=>omega
 |succ n ih=>
  intro i DI De hi hn hb;simp only[Cp,RQ,AB];by_cases DL:i<w.2.2.2.2.2.2.1.length
  ·have c1:(0:Int)≤(i:Int)∧(i:Int)<(w.2.2.2.2.2.2.1.length:Int):=by omega
   have c2:De.length+1≤C7:=by rw[An];omega
   rw[AM1 c1.2,AM1 c1,Ah DL,AH (by omega) (by omega),show((i:Int)+1)=((i+1:Nat):Int)by omega,drop_cons DL];have hm:=Ab (f:=Ao) (AN7 DL);have hw:Ao w.2.2.2.2.2.2.1[i]=AU Ax w.2.2.2.2.2.2.1[i].2.1:=rfl;rw[show(w.2.2.2.2.2.2.1[i].1,w.2.2.2.2.2.2.1[i].2.1,())=w.2.2.2.2.2.2.1[i]from rfl,Sk (by omega)];simp only[AD];rw[AM1 c2,ih (i+1) _ _ (by omega) (by omega) (by simp_all),AOK];rfl
  ·have:=AHr h n 0 DI De [] (by omega) (by omega) (by simp)
   grind
theorem AQy:∀(n i:Nat) (DI:List AQ),i≤w.2.2.1.length→(w.2.2.1.length-i)+w.2.2.2.2.2.2.1.length+w.2.2.2.2.2.2.2.1.length+w.2.2.2.2.2.2.2.2.1.length+4≤n→DI.length≤i→
  CX n i w.1 w.2.1 w.2.2.1 w.2.2.2.1 w.2.2.2.2.1 w.2.2.2.2.2.1 w.2.2.2.2.2.2.1 w.2.2.2.2.2.2.2.1 w.2.2.2.2.2.2.2.2.1 w.2.2.2.2.2.2.2.2.2.1 w.2.2.2.2.2.2.2.2.2.2.1 0 0 false [] [] [] [] [] [] [] [] w.2.1 w.2.2.2.2.2.1 w.2.2.2.2.2.2.2.2.2.2.1 w.1 DI w.2.2.2.1 w.2.2.2.2.1 [] [] [] w.2.2.2.2.2.2.2.2.2.1=some ((((),w.2.1,(),(),(),w.2.2.2.2.2.1,(),(),(),(),w.2.2.2.2.2.2.2.2.2.2.1,()),()),(w.1,(DI++w.2.2.1.drop i),w.2.2.2.1,w.2.2.2.2.1,w.2.2.2.2.2.2.1,w.2.2.2.2.2.2.2.1,w.2.2.2.2.2.2.2.2.1,w.2.2.2.2.2.2.2.2.2.1,())):=by
 have vE:=h.TJ;have hl:=h.lens;intro n
 induction n with
 |zero=>omega
 |succ n ih=>
  intro i DI hi hn hb;simp only[CX,Q4,AB];by_cases DL:i<w.2.2.1.length
  ·have c1:(0:Int)≤(i:Int)∧(i:Int)<(w.2.2.1.length:Int):=by omega
   have c2:DI.length+1≤C7:=by rw[An];omega
   rw[AM1 c1.2,AM1 c1,Ah DL,AH (by omega) (by omega),show((i:Int)+1)=((i+1:Nat):Int)by omega,drop_cons DL];have hm:=Ab (f:=Aj) (AN7 DL);have hw:=F_ (s:=w.2.2.1[i]) (by omega);rw[show(w.2.2.1[i].1,w.2.2.1[i].2.1,w.2.2.1[i].2.2.1,())=w.2.2.1[i]from rfl,Ov hw.1 hw.2];simp only[AD];rw[AM1 c2,ih (i+1) _ (by omega) (by omega) (by simp_all),AOK];rfl
  ·have:=AQm h n 0 DI [] (by omega) (by omega) (by simp)
   grind
theorem cU:Mc w=some ((((),w.2.1,(),(),(),w.2.2.2.2.2.1,(),(),(),(),w.2.2.2.2.2.2.2.2.2.2.1,()),()),(w.1,w.2.2.1,w.2.2.2.1,w.2.2.2.2.1,w.2.2.2.2.2.2.1,w.2.2.2.2.2.2.2.1,w.2.2.2.2.2.2.2.2.1,w.2.2.2.2.2.2.2.2.2.1,())):=by
 have vE:=h.TJ;have hl:=h.lens;unfold Mc RP;have:=AQy h AX 0 [] (by omega) (ATE (AZ (by omega))) (by simp);rw[show((0:Nat):Int)=0 from rfl,ARU,APS]at this;rw[AM1 (by rw[An];omega),AM1 (by rw[An];omega),show(w.2.2.2.2.1,w.2.2.2.2.2.1,())=(CO w)from rfl,Sw (by show AU Bg w.2.2.2.2.1≤_;omega)];simp only[AD];rw[AM1 (by rw[An];omega)];exact this
end
end Go.M
end
section
set_option maxRecDepth 8000
namespace Go.M
open Go.M.H (AK AQ A0 Ai AA Cq AO A8 AR Ak Bd A9 BK Aj CB AU AW Ab Ag Bg Ax Ao Au EB CL Cy C_)
def pkD(q:AA×Int):cQ:=(((((),q.1.2.1,(),(),(),q.1.2.2.2.2.2.1,(),(),(),(),q.1.2.2.2.2.2.2.2.2.2.2.1,()),q.2,()),()),(q.1.1,q.1.2.2.1,q.1.2.2.2.1,q.1.2.2.2.2.1,q.1.2.2.2.2.2.2.1,q.1.2.2.2.2.2.2.2.1,q.1.2.2.2.2.2.2.2.2.1,q.1.2.2.2.2.2.2.2.2.2.1,()))
def ASV(q:AA×Int):dp:=(((((),q.1.2.1,(),(),(),q.1.2.2.2.2.2.1,(),(),(),(),q.1.2.2.2.2.2.2.2.2.2.2.1,()),q.2,()),()),(q.1.1,q.1.2.2.1,q.1.2.2.2.1,(),(),(),q.1.2.2.2.2.2.2.2.2.1,q.1.2.2.2.2.2.2.2.2.2.1,q.1.2.2.2.2.1,q.1.2.2.2.2.2.2.1,q.1.2.2.2.2.2.2.2.1,()))
def AEC(q:AA×Int):LC:=(((((),q.1.2.1,(),(),(),q.1.2.2.2.2.2.1,(),(),(),(),q.1.2.2.2.2.2.2.2.2.2.2.1,()),q.2,()),()),(q.1.1,q.1.2.2.1,q.1.2.2.2.1,q.1.2.2.2.2.1,q.1.2.2.2.2.2.2.1,q.1.2.2.2.2.2.2.2.1,q.1.2.2.2.2.2.2.2.2.1,(),q.1.2.2.2.2.2.2.2.2.2.1,()))
def uV(q:AA×Int):Jd:=(((((),q.1.2.1,(),(),(),q.1.2.2.2.2.2.1,(),(),(),(),q.1.2.2.2.2.2.2.2.2.2.2.1,()),q.2,()),()),(q.1.1,q.1.2.2.1,(),q.1.2.2.2.2.1,q.1.2.2.2.2.2.2.1,q.1.2.2.2.2.2.2.2.1,q.1.2.2.2.2.2.2.2.2.1,q.1.2.2.2.2.2.2.2.2.2.1,q.1.2.2.2.1,()))
def APa(q:AA×Int):eR:=(((((),q.1.2.1,(),(),(),q.1.2.2.2.2.2.1,(),(),(),(),q.1.2.2.2.2.2.2.2.2.2.2.1,()),q.2,()),()),(q.1.1,q.1.2.2.1,q.1.2.2.2.1,q.1.2.2.2.2.1,q.1.2.2.2.2.2.2.1,(),q.1.2.2.2.2.2.2.2.2.1,q.1.2.2.2.2.2.2.2.2.2.1,q.1.2.2.2.2.2.2.2.1,()))
def ALV(q:AA×Int):dL:=(((((),q.1.2.1,(),(),(),q.1.2.2.2.2.2.1,(),(),(),(),q.1.2.2.2.2.2.2.2.2.2.2.1,()),q.2,()),()),(q.1.1,q.1.2.2.1,q.1.2.2.2.1,(),q.1.2.2.2.2.2.2.1,(),q.1.2.2.2.2.2.2.2.2.1,q.1.2.2.2.2.2.2.2.2.2.1,q.1.2.2.2.2.1,q.1.2.2.2.2.2.2.2.1,()))
def AFL(q:AA×Int):PM:=(((((),q.1.2.1,(),(),(),q.1.2.2.2.2.2.1,(),(),(),(),q.1.2.2.2.2.2.2.2.2.2.2.1,()),q.2,()),()),(q.1.1,q.1.2.2.1,q.1.2.2.2.1,q.1.2.2.2.2.1,(),q.1.2.2.2.2.2.2.2.1,q.1.2.2.2.2.2.2.2.2.1,q.1.2.2.2.2.2.2.2.2.2.1,q.1.2.2.2.2.2.2.1,()))
def APd(q:AA×Int):jm:=(((((),q.1.2.1,(),(),(),q.1.2.2.2.2.2.1,(),(),(),(),q.1.2.2.2.2.2.2.2.2.2.2.1,()),q.2,()),()),(q.1.1,q.1.2.2.1,(),(),(),(),q.1.2.2.2.2.2.2.2.2.1,(),q.1.2.2.2.1,q.1.2.2.2.2.1,q.1.2.2.2.2.2.2.1,q.1.2.2.2.2.2.2.2.1,q.1.2.2.2.2.2.2.2.2.2.1,()))
theorem F9{α:Type}{x y:α}:(if(!true)=true then x else y)=y:=rfl
theorem Iu{α:Type}{x y:α}:(if(!false)=true then x else y)=x:=rfl
structure AX7 (w:AA):Prop where
 c:w.1.length≤8
 st:w.2.2.1.length=w.1.length
 lost:w.2.2.2.1.length≤8
 era:AU Bg w.2.2.2.2.1≤270
 cF:w.2.2.2.2.1.length≤30
 trim:CR w.2.2.2.2.2.1
 wr:w.2.2.2.2.2.2.1.length≤4
 md:w.2.2.2.2.2.2.2.1.length≤1
 rd:w.2.2.2.2.2.2.2.2.1.length=2
 se:w.2.2.2.2.2.2.2.2.2.1.length≤120
 ws:AU Aj w.2.2.1≤80008
 ww:AU Ao w.2.2.2.2.2.2.1≤12004
 jf:w.AN.length≤4
 iZ:w.BE.length=w.1.length
 KF:w.lost.length≤8
theorem Nw.nums{w:AA}(h:Nw w):AX7 w where
 c:=(Dl h.cfg).2.1
 st:=h.q_
 lost:=GI h.lost
 era:=h.nj.w
 cF:=h.nj.n
 trim:=h.nj.tin
 wr:=h.rr
 md:=h.vI
 rd:=h.nN
 se:=h.Rp
 ws:=by
  have:=Dp (f:=Aj) (B:=10000) (N:=8) (l:=w.BE) (by rw[h.q_];exact(Dl h.cfg).2.1) fun s hs=>(h.VZ hs).w
  omega
 ww:=by
  have:=Dp (f:=Ao) (B:=3000) h.rr fun x hx=>(h.AN x hx).1.w
  omega
 jf:=h.rr
 iZ:=h.q_
 KF:=GI h.lost
section
variable{w:AA} (h:Nw w)
include h
theorem Nw.dk{a:Int}(ha:BL a 0 ((w.AN.length:Int)-1)=true):(0≤a∧a<(w.2.2.2.2.2.2.1.length:Int))∧bZ (Ae w) (w.AN.getD a.toNat B8)∧AU Ax (w.AN.getD a.toNat B8).2.1≤3000:=by
 have:=Am.1 ha;have hi:a.toNat<w.AN.length:=by omega
 have hx:=(h.AN _ (BU (d:=B8) hi)).1;refine⟨?_,hx,hx.w⟩
 (try simp only[H.AA.BE,H.AA.lost,H.AA.BA,H.AA.trim,H.AA.AN,H.AA.CI,H.AA.Ac,H.AA.Al,H.AA.Ib,H.AA.CF,H.AA.FH,H.AA.I0,H.AA.BZ,H.AA.Cn,H.AA.DC,H.AA.Az,H.AA.FV,CO,Ae]at*)
 omega
theorem Gh{e:Int}:(Bh (CO w).1 e).length≤8:=by
 unfold Bh;split
 ·rename_i he
  have he':=Am.1 he;exact GI (VU (h.nj.BA _ (BU (d:=G3) (by omega))).1)
 ·simp
theorem nF{d:BK}:Wy w.2.1 w.2.2.2.2.2.1 w.2.2.2.2.2.2.2.2.2.2.1 d w.1 w.2.2.1 w.2.2.2.1 w.2.2.2.2.1 w.2.2.2.2.2.2.1 w.2.2.2.2.2.2.2.1 w.2.2.2.2.2.2.2.2.1 w.2.2.2.2.2.2.2.2.2.1=some (ASV (Mf w d.2.1)):=by
 have k:=h.nums;have k1:=k.c;have k2:=k.wr;unfold Wy Mf;rw[DB];by_cases h4:w.2.2.2.2.2.2.1.length=4
 ·rw[AM1 (by omega),AM1 h4];rfl
 have hm:(BJ d.2.1).length≤8:=by
  unfold BJ;split
  ·exact ASY (ASZ _ _) (by simp)
  ·simp
 rw[AM2 (by omega),AM2 h4,ZH];simp only[AD];rw[show(w.1,w.2.1,())=Ae w from rfl,show(w.2.2.2.2.1,w.2.2.2.2.2.1,())=CO w from rfl,dI (c:=Ae w) (r:=CO w) (by show w.1.length≤_;omega) (by have:=k.era;show AU Bg w.2.2.2.2.1≤_;omega) k.trim (by omega)];simp only[AD,As];rcases AM0 (I4 (Ae w) (CO w) (BJ d.2.1)).2.2 with hq|hq
 ·rw[hq,AM1 (by rw[An];omega),F9];rfl
 ·rw[hq,Iu];rfl
theorem kX{d:BK}:U2 w.2.1 w.2.2.2.2.2.1 w.2.2.2.2.2.2.2.2.2.2.1 d w.1 w.2.2.1 w.2.2.2.1 w.2.2.2.2.1 w.2.2.2.2.2.2.1 w.2.2.2.2.2.2.2.1 w.2.2.2.2.2.2.2.2.1 w.2.2.2.2.2.2.2.2.2.1=some (pkD (Iy w d.2.1 d.2.2.1 d.2.2.2.1)):=by
 have k:=h.nums;have k1:=k.c;have k2:=k.wr;have k3:=k.lost;have k4:=k.st;have bl:=k.jf;have iY:=k.KF;have kH:=k.iZ;have k5:=k.era;unfold U2 Iy;rw[show(w.1,w.2.1,w.2.2.1,w.2.2.2.1,w.2.2.2.2.1,w.2.2.2.2.2.1,w.2.2.2.2.2.2.1,w.2.2.2.2.2.2.2.1,w.2.2.2.2.2.2.2.2.1,w.2.2.2.2.2.2.2.2.2.1,w.2.2.2.2.2.2.2.2.2.2.1,())=w from rfl,SM (by omega),Ia (by omega) (by omega)];simp only[AD,As,Ct];rcases AM0 (BL d.2.1 0 ((w.AN.length:Int)-1))with h1|h1
 rotate_left
 ·rw[h1,Iu];rfl
 obtain⟨x1,x2,x3⟩:=h.dk h1;rw[h1,AOA,F9,AM1 x1,BR];simp only[AD]
 generalize hx:w.AN.getD d.2.1.toNat B8=x at*
 rcases AM0 (BL d.2.2.1 1 (x.2.1.length:Int))with h2|h2
 rotate_left
 ·rw[h2,Iu];rfl
 have h2':=Am.1 h2;rw[h2,AOA,F9];by_cases h3:Aq w d.2.2.2.1=0
 rotate_left
 ·rw[AM2 h3,AM1 h3];rfl
 rw[AM1 h3,AM2 (show¬(Aq w d.2.2.2.1≠0)from fun hh=>hh h3)];obtain⟨n1,n2,n3⟩:=QZ h3;have n2':d.2.2.2.1<(w.2.2.1.length:Int):=n2;have hxl:=x2.n;have hxe:=x2.ep;rw[show(w.2.2.2.2.1,w.2.2.2.2.2.1,())=CO w from rfl,FJ (r:=CO w) (by show AU Bg w.2.2.2.2.1≤_;omega)];have Vb:(Bh w.BA x.1).length≤8:=Gh h;have hr:0≤d.2.2.2.1∧d.2.2.2.1<(w.2.2.1.length:Int):=⟨n1,n2'⟩;rw[show(CO w).1=w.BA from rfl];simp only[AD,AM1 hr];rw[K4 (by omega),AH (by omega) (by omega),AM1 (by omega),F4 (by omega) (by omega)];simp only[AD];have cC:w.2.2.1.getD d.2.2.2.1.toNat ([],[],0,())=storeAt w d.2.2.2.1:=rfl;have hso:=h.store h3;have xu:=JM (e:=x.1) (o:=d.2.2.1) hxe (by omega);rw[cC,show((storeAt w d.2.2.2.1).1,(storeAt w d.2.2.2.1).2.1,(storeAt w d.2.2.2.1).2.2.1,())=storeAt w d.2.2.2.1 from rfl,UU (by have:=hso.w;omega) hso.sin (Gv xu.1)];simp only[AD,ia,putAt];rcases AM0 ((Bh w.BA x.1).contains d.2.2.2.1)with h5|h5
 rotate_left
 ·rw[h5,Iu];rfl
 rw[h5,F9,AOA];have hwd:(x.2.1.getD (d.2.2.1-1).toNat ([],[],false,()))=x.2.1.getD (d.2.2.1-1).toNat Ma:=rfl;rw[hwd];rcases AM0 (HM (storeAt w d.2.2.2.1) (HF x.1 d.2.2.1,0,false,(x.2.1.getD (d.2.2.1-1).toNat Ma).1,())).2 with h6|h6
 rotate_left
 ·rw[h6];rfl
 rw[h6,AOA,AM1 rfl];rfl
end
end Go.M
end
section
set_option maxRecDepth 8000
namespace Go.M
open Go.M.H (AK AQ A0 Ai AA Cq AO A8 AR Ak Bd A9 BK Aj CB AU AW Ab Ag Bg Ax Ao Au EB CL Cy C_)
theorem fO{α:Type}{f:α→Nat}{p:α→Bool}:∀{l:List α},AU f (l.filter p)≤AU f l
 |[]=>AQQ _
 |x::l=>by
  have:=fO (f:=f) (p:=p) (l:=l);grind[AU]
theorem oJ{s:AQ}{u:Int}(hs:cI s):cI (Bo s u).1:=by
 rcases AM0 (Bo s u).2 with hq|hq
 ·exact(jq hq).2.1
 ·have:(Bo s u).1=s:=by
   unfold Bo at*;rw[DO.2 hs]at*;grind
  simp_all
section
variable{w:AA} (h:Nw w)
include h
theorem Nw.L8{n:Int}(hn:Aq w n=0):(0≤n∧n<(w.2.2.1.length:Int))∧Aj (storeAt w n)≤2^30∧jc (storeAt w n)∧cI (storeAt w n):=by
 obtain⟨n1,n2,n3⟩:=QZ hn;have:=(h.store hn).w;exact⟨⟨n1,n2⟩,by omega,(h.store hn).sin,h.store hn⟩
theorem kd{d:BK}:Uz w.2.1 w.2.2.2.2.2.1 w.2.2.2.2.2.2.2.2.2.2.1 d w.1 w.2.2.1 w.2.2.2.1 w.2.2.2.2.1 w.2.2.2.2.2.2.1 w.2.2.2.2.2.2.2.1 w.2.2.2.2.2.2.2.2.1 w.2.2.2.2.2.2.2.2.2.1=some (pkD (if d.1=16 then I6 w d.2.1 else I9 w d.2.1 d.2.2.1)):=by
 have k:=h.nums;have k1:=k.c;have k2:=k.wr;have k3:=k.lost;have k4:=k.st;have bl:=k.jf;have iY:=k.KF;have kH:=k.iZ;have k5:=k.era;unfold Uz I6 I9;rw[show(w.1,w.2.1,w.2.2.1,w.2.2.2.1,w.2.2.2.2.1,w.2.2.2.2.2.1,w.2.2.2.2.2.2.1,w.2.2.2.2.2.2.2.1,w.2.2.2.2.2.2.2.2.1,w.2.2.2.2.2.2.2.2.2.1,w.2.2.2.2.2.2.2.2.2.2.1,())=w from rfl,Ia (by omega) (by omega)];simp only[AD,As,Ct,DB];by_cases h3:Aq w d.2.1=0
 rotate_left
 ·rw[AM2 h3]
  by_cases h16:d.1=16
  ·rw[AM1 h16,AM1 h3];rfl
  ·rw[AM2 h16,AM1 h3];rfl
 obtain⟨hr,s1,s2,s3⟩:=h.L8 h3;have cC:w.2.2.1.getD d.2.1.toNat ([],[],0,())=storeAt w d.2.1:=rfl;have hn3: ¬(Aq w d.2.1≠0):=fun hh=>hh h3
 rw[AM1 h3];simp only[AM1 hr,cC,AM2 hn3];rw[show((storeAt w d.2.1).1,(storeAt w d.2.1).2.1,(storeAt w d.2.1).2.2.1,())=storeAt w d.2.1 from rfl,Xz s1 s2,je s1 s2 k.trim];simp only[AD,ia,putAt];by_cases h16:d.1=16
 ·rw[AM1 h16,AM1 h16]
  rcases AM0 (JO (storeAt w d.2.1) w.2.2.2.2.2.1).2 with h6|h6
  ·rw[h6];rfl
  ·rw[h6];rfl
 ·rw[AM2 h16,AM2 h16]
  rcases AM0 (GA (storeAt w d.2.1) d.2.2.1).2 with h6|h6
  ·rw[h6];rfl
  ·rw[h6];rfl
theorem mm{d:BK}:XU w.2.1 w.2.2.2.2.2.1 w.2.2.2.2.2.2.2.2.2.2.1 d w.1 w.2.2.1 w.2.2.2.1 w.2.2.2.2.1 w.2.2.2.2.2.2.1 w.2.2.2.2.2.2.2.1 w.2.2.2.2.2.2.2.2.1 w.2.2.2.2.2.2.2.2.2.1=some (uV (Mk w d.2.1)):=by
 have k:=h.nums;have k1:=k.c;have k2:=k.wr;have k3:=k.lost;have k4:=k.st;have bl:=k.jf;have iY:=k.KF;have kH:=k.iZ;have k5:=k.era;have k6:=k.ws;have k6':AU Aj w.BE≤80008:=k.ws;have k7:=k.cF;unfold XU Mk;rw[K4 (by omega)];simp only[AD,As];rcases AM0 (w.2.2.2.1.contains d.2.1)with h1|h1
 rotate_left
 ·rw[h1];rfl
 rw[h1,F9,AOA,AH (by omega) (by omega),JF];simp only[AD];rw[show(w.1,w.2.1,())=Ae w from rfl,tW (c:=Ae w) (by show w.1.length≤_;omega) (by omega) (fun s hs=>by have:=(h.VZ hs).nk;omega) (by omega) (fun s hs=>(h.VZ hs).sin) (by omega)];simp only[AD,pkF];rcases AM0 (aw (Ae w) w.2.2.1 w.2.2.2.1 d.2.1 (max ((w.2.2.2.2.1.length:Int)-1) 0)).2 with h2|h2
 rotate_left
 ·rw[h2];rfl
 have hm:d.2.1∈w.lost:=by
  simp_all
 have hn:=(En.1 h.lost).2.1 d.2.1 hm;have hn':d.2.1<(w.1.length:Int):=hn.2;rw[h2,AOA,F9,AM1 (show 0≤d.2.1∧d.2.1<(w.2.2.1.length:Int)from⟨hn.1,by omega⟩),Jt (by omega) (by simp)];rfl
theorem nW:XJ w.2.1 w.2.2.2.2.2.1 w.2.2.2.2.2.2.2.2.2.2.1 w.1 w.2.2.1 w.2.2.2.1 w.2.2.2.2.1 w.2.2.2.2.2.2.1 w.2.2.2.2.2.2.2.1 w.2.2.2.2.2.2.2.2.1 w.2.2.2.2.2.2.2.2.2.1=some (APa (Mm w)):=by
 have k:=h.nums;have k1:=k.c;have k2:=k.wr;have k3:=k.lost;have k4:=k.st;have bl:=k.jf;have iY:=k.KF;have kH:=k.iZ;have k5:=k.era;have k7:=k.cF;unfold XJ Mm;rw[show(w.2.2.2.2.1,w.2.2.2.2.2.1,())=CO w from rfl,OB (r:=CO w) (by show w.2.2.2.2.1.length≤_;omega)];simp only[AD,DB,AB];rw[show(CO w).1=w.BA from rfl];by_cases h1:(w.2.2.2.2.1.length:Int)<2
 ·rw[AM1 h1,show(decide ((w.2.2.2.2.1.length:Int)<2)||decide (BG w.2.2.2.2.1=(w.2.2.2.2.1.length:Int)))=true by simp_all];rfl
 rw[AM2 h1];by_cases h2:BG w.2.2.2.2.1=(w.2.2.2.2.1.length:Int)
 ·rw[AM1 h2,show(decide ((w.2.2.2.2.1.length:Int)<2)||decide (BG w.2.2.2.2.1=(w.2.2.2.2.1.length:Int)))=true by simp_all];rfl
 rw[AM2 h2,show(decide ((w.2.2.2.2.1.length:Int)<2)||decide (BG w.2.2.2.2.1=(w.2.2.2.2.1.length:Int)))=false by simp_all];rw[AM2 (show¬(false=true)by simp)];by_cases h3:w.2.2.2.2.2.2.2.1.length>0
 ·rw[AM1 (by omega),AM1 h3];rfl
 ·rw[AM2 (by omega),AM2 h3];rfl
theorem np{d:BK}:XW w.2.1 w.2.2.2.2.2.1 w.2.2.2.2.2.2.2.2.2.2.1 d w.1 w.2.2.1 w.2.2.2.1 w.2.2.2.2.1 w.2.2.2.2.2.2.1 w.2.2.2.2.2.2.2.1 w.2.2.2.2.2.2.2.2.1 w.2.2.2.2.2.2.2.2.2.1=some (pkD (Me w d.2.1)):=by
 have k:=h.nums;have k1:=k.c;have k2:=k.wr;have k3:=k.lost;have k4:=k.st;have bl:=k.jf;have iY:=k.KF;have kH:=k.iZ;have k5:=k.era;unfold XW Me;rcases hm:w.CI with _|⟨m,ms⟩
 ·rw[DB,AM1 (by simp_all)];rfl
 have Yi:w.2.2.2.2.2.2.2.1=m::ms:=hm;have xI:w.2.2.2.2.2.2.2.1.length=ms.length+1:=by simp_all
 have g0:w.2.2.2.2.2.2.2.1.getD 0 (0,0,[],[],false,[],())=m:=by simp_all
 have vD:(0:Int)≤(0:Int)∧(0:Int)<(w.2.2.2.2.2.2.2.1.length:Int):=by omega
 have Z5:=(h.CI m (by simp_all)).1;have yA:=Z5.w;have hme:=Z5.ep;have hmb:=Z5.b;simp only[DB,As,Ct,AM1 vD,g0];rw[AM2 (by omega)];rw[show(w.1,w.2.1,w.2.2.1,w.2.2.2.1,w.2.2.2.2.1,w.2.2.2.2.2.1,w.2.2.2.2.2.2.1,w.2.2.2.2.2.2.2.1,w.2.2.2.2.2.2.2.2.1,w.2.2.2.2.2.2.2.2.2.1,w.2.2.2.2.2.2.2.2.2.2.1,())=w from rfl,Ia (by omega) (by omega),show(w.2.2.2.2.1,w.2.2.2.2.2.1,())=CO w from rfl,FJ (r:=CO w) (by show AU Bg w.2.2.2.2.1≤_;omega)];have Vb:(Bh w.BA m.2.1).length≤8:=Gh h;rw[show(CO w).1=w.BA from rfl];simp only[AD];rw[K4 (by omega)];simp only[AD];by_cases h3:Aq w d.2.1=0
 rotate_left
 ·rw[AM2 h3,AM1 h3];rfl
 obtain⟨hr,s1,s2,s3⟩:=h.L8 h3;have cC:w.2.2.1.getD d.2.1.toNat ([],[],0,())=storeAt w d.2.1:=rfl;have hn3: ¬(Aq w d.2.1≠0):=fun hh=>hh h3
 rw[AM1 h3,AM2 hn3];simp only[AM1 hr,cC];rcases AM0 ((Bh w.BA m.2.1).contains d.2.1)with h5|h5
 rotate_left
 ·rw[h5,Iu];rfl
 rw[h5,F9,AOA,AH (by omega) (by omega),show((storeAt w d.2.1).1,(storeAt w d.2.1).2.1,(storeAt w d.2.1).2.2.1,())=storeAt w d.2.1 from rfl,ZP s1 s2];have hq:=oJ (u:=m.1-1) s3;have hqw:=hq.w;simp only[AD,ia];rw[show((Bo (storeAt w d.2.1) (m.1-1)).1.1,(Bo (storeAt w d.2.1) (m.1-1)).1.2.1,(Bo (storeAt w d.2.1) (m.1-1)).1.2.2.1,())=(Bo (storeAt w d.2.1) (m.1-1)).1 from rfl,an (by omega) hq.sin];simp only[AD];have hes:(Gf (Bo (storeAt w d.2.1) (m.1-1)).1 m.2.1).length≤200∧fl (Gf (Bo (storeAt w d.2.1) (m.1-1)).1 m.2.1)∧AU Ag (Gf (Bo (storeAt w d.2.1) (m.1-1)).1 m.2.1)≤10000:=by
  unfold Gf;rw[DO.2 hq,AM1 rfl];refine⟨ASY (ASZ _ _) hq.nk,fun e he=>hq.sin.1 e (ATi.1 he).1,ASY fO ?_⟩;have:Aj (Bo (storeAt w d.2.1) (m.1-1)).1=AU Ag (Bo (storeAt w d.2.1) (m.1-1)).1.1+AU Ag (Bo (storeAt w d.2.1) (m.1-1)).1.2.1:=rfl;omega
 rw[show(m.1,m.2.1,m.2.2.1,m.2.2.2.1,m.2.2.2.2.1,m.2.2.2.2.2.1,())=m from rfl,show(w.1,w.2.1,())=Ae w from rfl,bF (c:=Ae w) (by show w.1.length≤_;omega) (by omega) Z5.xM (by omega) hes.2.1 (by omega)];simp only[AD,gF];rcases AM0 (Bo (storeAt w d.2.1) (m.1-1)).2 with h6|h6
 rotate_left
 ·rw[h6,ASd,AXF,AM1 rfl];rfl
 rw[h6,ANZ,ASj];rcases AM0 (O7 (Ae w) m d.2.1 (Gf (Bo (storeAt w d.2.1) (m.1-1)).1 m.2.1)).2 with h7|h7
 rotate_left
 ·rw[h7,Iu];rfl
 rw[h7,F9,AOA,AOA,Yi];rfl
theorem nH:W5 w.2.1 w.2.2.2.2.2.1 w.2.2.2.2.2.2.2.2.2.2.1 w.1 w.2.2.1 w.2.2.2.1 w.2.2.2.2.1 w.2.2.2.2.2.2.1 w.2.2.2.2.2.2.2.1 w.2.2.2.2.2.2.2.2.1 w.2.2.2.2.2.2.2.2.2.1=some (pkD (My w)):=by
 have k:=h.nums;have k1:=k.c;have k2:=k.wr;have k3:=k.lost;have k4:=k.st;have bl:=k.jf;have iY:=k.KF;have kH:=k.iZ;have k5:=k.era;unfold W5 My;rcases hm:w.CI with _|⟨m,ms⟩
 ·rw[DB,AM1 (by simp_all)];rfl
 have Yi:w.2.2.2.2.2.2.2.1=m::ms:=hm;have xI:w.2.2.2.2.2.2.2.1.length=ms.length+1:=by simp_all
 have g0:w.2.2.2.2.2.2.2.1.getD 0 (0,0,[],[],false,[],())=m:=by simp_all
 have vD:(0:Int)≤(0:Int)∧(0:Int)<(w.2.2.2.2.2.2.2.1.length:Int):=by omega
 have Z5:=(h.CI m (by simp_all)).1;have yA:=Z5.w;have hme:=Z5.ep;have hmb:=Z5.b;simp only[DB,As,Ct,AM1 vD,g0];rw[AM2 (by omega)];rw[show(w.2.2.2.2.1,w.2.2.2.2.2.1,())=CO w from rfl,FJ (r:=CO w) (by show AU Bg w.2.2.2.2.1≤_;omega)];have Vb:(Bh w.BA m.2.1).length≤8:=Gh h;rw[show(CO w).1=w.BA from rfl];simp only[AD];rw[show(m.1,m.2.1,m.2.2.1,m.2.2.2.1,m.2.2.2.2.1,m.2.2.2.2.2.1,())=m from rfl,show(w.1,w.2.1,())=Ae w from rfl,aq (c:=Ae w) (by show w.1.length≤_;omega) (by omega) Z5.xM (by omega)];simp only[AD,gF];rcases AM0 (MH (Ae w) m (Bh w.BA m.2.1)).2 with h7|h7
 rotate_left
 ·rw[h7,Iu];rfl
 rw[h7,F9,AOA,Yi];rfl
theorem qX{d:BK}:ZU w.2.1 w.2.2.2.2.2.1 w.2.2.2.2.2.2.2.2.2.2.1 d w.1 w.2.2.1 w.2.2.2.1 w.2.2.2.2.1 w.2.2.2.2.2.2.1 w.2.2.2.2.2.2.2.1 w.2.2.2.2.2.2.2.2.1 w.2.2.2.2.2.2.2.2.2.1=some (pkD (TT w d.2.2.1 d.2.2.2.1)):=by
 have k:=h.nums;have k1:=k.c;have k2:=k.wr;have k3:=k.lost;have k4:=k.st;have bl:=k.jf;have iY:=k.KF;have kH:=k.iZ;have k5:=k.era;unfold ZU TT;rcases hm:w.CI with _|⟨m,ms⟩
 ·rw[DB,AM1 (by simp_all)];rfl
 have Yi:w.2.2.2.2.2.2.2.1=m::ms:=hm;have xI:w.2.2.2.2.2.2.2.1.length=ms.length+1:=by simp_all
 have g0:w.2.2.2.2.2.2.2.1.getD 0 (0,0,[],[],false,[],())=m:=by simp_all
 have vD:(0:Int)≤(0:Int)∧(0:Int)<(w.2.2.2.2.2.2.2.1.length:Int):=by omega
 have Z5:=(h.CI m (by simp_all)).1;have yA:=Z5.w;have hme:=Z5.ep;have hmb:=Z5.b;simp only[DB,As,Ct,AM1 vD,g0];rw[AM2 (by omega)];rw[show(m.1,m.2.1,m.2.2.1,m.2.2.2.1,m.2.2.2.2.1,m.2.2.2.2.2.1,())=m from rfl,Zp (m:=m) (by omega),show(w.1,w.2.1,w.2.2.1,w.2.2.2.1,w.2.2.2.2.1,w.2.2.2.2.2.1,w.2.2.2.2.2.2.1,w.2.2.2.2.2.2.2.1,w.2.2.2.2.2.2.2.2.1,w.2.2.2.2.2.2.2.2.2.1,w.2.2.2.2.2.2.2.2.2.2.1,())=w from rfl,Ia (by omega) (by omega),show(w.2.2.2.2.1,w.2.2.2.2.2.1,())=CO w from rfl,FJ (r:=CO w) (by show AU Bg w.2.2.2.2.1≤_;omega)];have Vb:(Bh w.BA m.2.1).length≤8:=Gh h;rw[show(CO w).1=w.BA from rfl];simp only[AD];rw[K4 (by omega)];simp only[AD];have Te:∀e,EL m d.2.2.1=some e→CR e.1:=fun e he=>by
  unfold EL at he;split at he
  ·rename_i hc
   simp only[ANN,Am]at hc;grind[JM,Gv]
  simp_all
 cases he:EL m d.2.2.1 with
 |none=>rfl
 |some e=>
 simp only[ASs,AOA,ASp];by_cases h3:Aq w d.2.2.2.1=0
 rotate_left
 ·rw[AM2 h3,AM1 h3];rfl
 obtain⟨hr,s1,s2,s3⟩:=h.L8 h3;have cC:w.2.2.1.getD d.2.2.2.1.toNat ([],[],0,())=storeAt w d.2.2.2.1:=rfl;have hn3: ¬(Aq w d.2.2.2.1≠0):=fun hh=>hh h3
 rw[AM1 h3,AM2 hn3];simp only[AM1 hr,cC];rcases AM0 ((Bh w.BA m.2.1).contains d.2.2.2.1)with h5|h5
 rotate_left
 ·rw[h5,Iu];rfl
 rw[h5,F9,AOA,show((storeAt w d.2.2.2.1).1,(storeAt w d.2.2.2.1).2.1,(storeAt w d.2.2.2.1).2.2.1,())=storeAt w d.2.2.2.1 from rfl,show(e.1,e.2.1,e.2.2.1,e.2.2.2.1,())=e from rfl,UU s1 s2 (Te e he)];simp only[AD,ia,putAt];rcases AM0 (HM (storeAt w d.2.2.2.1) e).2 with h6|h6
 ·rw[h6];rfl
 ·rw[h6];rfl
theorem lE:U4 w.2.1 w.2.2.2.2.2.1 w.2.2.2.2.2.2.2.2.2.2.1 w.1 w.2.2.1 w.2.2.2.1 w.2.2.2.2.1 w.2.2.2.2.2.2.1 w.2.2.2.2.2.2.2.1 w.2.2.2.2.2.2.2.2.1 w.2.2.2.2.2.2.2.2.2.1=some (ALV (Iw w)):=by
 have k:=h.nums;have k1:=k.c;have k2:=k.wr;have k3:=k.lost;have k4:=k.st;have bl:=k.jf;have iY:=k.KF;have kH:=k.iZ;have k5:=k.era;unfold U4 Iw;rcases hm:w.CI with _|⟨m,ms⟩
 ·rw[DB,AM1 (by simp_all)];rfl
 have Yi:w.2.2.2.2.2.2.2.1=m::ms:=hm;have xI:w.2.2.2.2.2.2.2.1.length=ms.length+1:=by simp_all
 have g0:w.2.2.2.2.2.2.2.1.getD 0 (0,0,[],[],false,[],())=m:=by simp_all
 have vD:(0:Int)≤(0:Int)∧(0:Int)<(w.2.2.2.2.2.2.2.1.length:Int):=by omega
 have Z5:=(h.CI m (by simp_all)).1;have yA:=Z5.w;have hme:=Z5.ep;have hmb:=Z5.b;simp only[DB,As,Ct,AM1 vD,g0];rw[AM2 (by omega)];rw[show(m.1,m.2.1,m.2.2.1,m.2.2.2.1,m.2.2.2.2.1,m.2.2.2.2.2.1,())=m from rfl,show(w.1,w.2.1,())=Ae w from rfl,jk (c:=Ae w) (by show w.1.length≤_;omega) (by omega) Z5.xM];simp only[AD];rcases AM0 (UP (Ae w) m)with h5|h5
 rotate_left
 ·rw[h5,Iu];rfl
 rw[h5,F9,AOA,show(w.2.2.2.2.1,w.2.2.2.2.2.1,())=CO w from rfl,bL (c:=Ae w) (r:=CO w) (by show w.1.length≤_;omega) (by show AU Bg w.2.2.2.2.1≤_;omega) k.trim];simp only[AD,pkR];rcases AM0 (NI (Ae w) (CO w) m.1 m.2.2.2.2.2.1.length).2 with h6|h6
 ·rw[h6];rfl
 ·rw[h6];rfl
theorem mn{d:BK}:XC w.2.1 w.2.2.2.2.2.1 w.2.2.2.2.2.2.2.2.2.2.1 d w.1 w.2.2.1 w.2.2.2.1 w.2.2.2.2.1 w.2.2.2.2.2.2.1 w.2.2.2.2.2.2.2.1 w.2.2.2.2.2.2.2.2.1 w.2.2.2.2.2.2.2.2.2.1=some (pkD (Ha w d.2.1 d.2.2.1)):=by
 have k:=h.nums;have k1:=k.c;have k2:=k.wr;have k3:=k.lost;have k4:=k.st;have bl:=k.jf;have iY:=k.KF;have kH:=k.iZ;have k5:=k.era;have k6:=k.ws;have k6':AU Aj w.BE≤80008:=k.ws;have k7:=k.ww;have k8:=k.rd;unfold XC Ha;rw[BR];simp only[AD,As,Ct];rcases AM0 (BL d.2.1 0 1)with h1|h1
 rotate_left
 ·rw[h1];rfl
 have h1':=Am.1 h1;have hr:0≤d.2.1∧d.2.1<(w.2.2.2.2.2.2.2.2.1.length:Int):=by omega
 have G4:d.2.1.toNat<w.Ac.length:=by
  simp_all
 have ZN:=h.Ac _ (BU (d:=EG) G4);simp only[AM1 hr];rw[h1,F9,AOA,show(w.1,w.2.1,w.2.2.1,w.2.2.2.1,w.2.2.2.2.1,w.2.2.2.2.2.1,w.2.2.2.2.2.2.1,w.2.2.2.2.2.2.2.1,w.2.2.2.2.2.2.2.2.1,w.2.2.2.2.2.2.2.2.2.1,w.2.2.2.2.2.2.2.2.2.2.1,())=w from rfl]
 generalize hx:w.Ac.getD d.2.1.toNat EG=r at*
 have hre:=ZN.ep;have hro:=ZN.off;rw[oK (by grind),show(r.1,r.2.1,r.2.2.1,())=r from rfl,gh (by omega) (by omega) (by omega) (by omega)];simp only[AD];have ha:∀a∈answers w (HF r.1 r.2.1) (BJ d.2.2.1),CR a.2.2.1:=fun a ha=>by
  unfold answers at ha;obtain⟨n,hn,rfl⟩:=ATD.1 ha;have hn':Aq w n=0:=by simp_all
  unfold answer;split
  ·rename_i e he
   have:=(h.store hn').kept e (AV9 he);exact Gv (FY.1 this).pl
  ·exact⟨by simp_all,by simp_all⟩
 have hal:(answers w (HF r.1 r.2.1) (BJ d.2.2.1)).length≤8:=by
  unfold answers;rw[ATV];refine ASY (ASZ _ _) ?_
  unfold BJ;split
  ·exact ASY (ASZ _ _) (by simp)
  ·simp
 rw[show(w.1,w.2.1,())=Ae w from rfl,show(w.2.2.2.2.1,w.2.2.2.2.2.1,())=CO w from rfl,iO (c:=Ae w) (g:=CO w) (by show w.1.length≤_;omega) (by show AU Bg w.2.2.2.2.1≤_;omega) k.trim (by omega) ha];simp only[AD,xc];by_cases h2:(Co (Ae w) (CO w) (cD w r.1) r (answers w (HF r.1 r.2.1) (BJ d.2.2.1))).2=0
 ·rw[AM1 h2,AM2 (fun hh=>hh h2)];rfl
 ·rw[AM2 h2,AM1 h2];rfl
end
end Go.M
end
section
set_option maxRecDepth 8000
namespace Go.M
open Go.M.H (AK AQ A0 Ai AA Cq AO A8 AR Ak Bd A9 BK Aj CB AU AW Ab Ag Bg Ax Ao Au EB CL Cy C_)
section
variable{w:AA} (h:Nw w)
include h
theorem AOY{ws:List AR}{s:Ai}:∀(n i:Nat) (t:Bool) (b:List Ai),i≤w.2.2.2.2.2.2.2.2.2.1.length→w.2.2.2.2.2.2.2.2.2.1.length-i<n→b.length≤2*i+2→
  KM n t i w.1 w.2.2.1 w.2.2.2.1 w.2.2.2.2.1 ws w.2.2.2.2.2.2.2.1 w.2.2.2.2.2.2.2.2.1 w.2.2.2.2.2.2.2.2.2.1 w.2.1 w.2.2.2.2.2.1 w.2.2.2.2.2.2.2.2.2.2.1 0 0 false [] [] [] [] [] [] [] [] s.1 s.2.1 s.2.2.1 b=some (AEC (((w.BZ ws).Az (b++(if t then w.2.2.2.2.2.2.2.2.2.1.drop i else Z_ s (w.2.2.2.2.2.2.2.2.2.1.drop i)))),0)):=by
 have k6:=h.nums.se;intro n
 induction n with
 |zero=>omega
 |succ n ih=>
  intro i t b hi hn hb;simp only[KM,YJ,AB,As];have c2:b.length+1≤C7:=by rw[An];omega
  by_cases DL:i<w.2.2.2.2.2.2.2.2.2.1.length
  ·have c1:(0:Int)≤(i:Int)∧(i:Int)<(w.2.2.2.2.2.2.2.2.2.1.length:Int):=by omega
   have c3:(b++[(s.1,s.2.1,s.2.2.1,())]).length+1≤C7:=by grind[An]
   rw[AM1 c1.2];simp only[AM1 c1,AM1 c2,AM1 c3];rw[Ah DL,AH (by omega) (by omega),show((i:Int)+1)=((i+1:Nat):Int)by omega,drop_cons DL,show(w.2.2.2.2.2.2.2.2.2.1[i].1,w.2.2.2.2.2.2.2.2.2.1[i].2.1,w.2.2.2.2.2.2.2.2.2.1[i].2.2.1,())=w.2.2.2.2.2.2.2.2.2.1[i]from rfl];cases t with
   |true=>
    rw[AOA,ih (i+1) true _ (by omega) (by omega) (by grind),AM1 rfl,AM1 rfl,AOK];rfl
   |false=>
    rw[ANP,AM2 (show¬(false=true)by simp)];simp only[Z_];by_cases hg:w.2.2.2.2.2.2.2.2.2.1[i].1>s.1
    ·rw[AM1 hg,AM1 hg,ih (i+1) true _ (by omega) (by omega) (by grind),AM1 rfl,AOK,AOK]
     rfl
    ·rw[AM2 hg,AM2 hg,ih (i+1) false _ (by omega) (by omega) (by grind),AM2 (show¬(false=true)by simp),AOK]
     rfl
  ·rw[AM2 (by omega),ANy (by omega)]
   cases t with
   |true=>rw[AOA,AM1 rfl,AOC];rfl
   |false=>rw[ANP,AM1 c2];rfl
theorem ATu{ws:List AR}{s:Ai}:∀(n i:Nat),i≤w.2.2.2.2.2.2.2.2.2.1.length→(w.2.2.2.2.2.2.2.2.2.1.length-i)+w.2.2.2.2.2.2.2.2.2.1.length+2≤n→
  MJ n i w.1 w.2.2.1 w.2.2.2.1 w.2.2.2.2.1 ws w.2.2.2.2.2.2.2.1 w.2.2.2.2.2.2.2.2.1 w.2.2.2.2.2.2.2.2.2.1 w.2.1 w.2.2.2.2.2.1 w.2.2.2.2.2.2.2.2.2.2.1 0 0 false [] [] [] [] [] [] [] [] s.1 s.2.1 s.2.2.1=some (AEC (if(w.2.2.2.2.2.2.2.2.2.1.drop i).any (fun x=>x.1==s.1)then(w.BZ ws,4)else(((w.BZ ws).Az (Z_ s w.2.2.2.2.2.2.2.2.2.1)),0))):=by
 have k6:=h.nums.se;intro n
 induction n with
 |zero=>omega
 |succ n ih=>
  intro i hi hn;simp only[MJ,Zq,AB,DB];by_cases DL:i<w.2.2.2.2.2.2.2.2.2.1.length
  ·have c1:(0:Int)≤(i:Int)∧(i:Int)<(w.2.2.2.2.2.2.2.2.2.1.length:Int):=by omega
   rw[AM1 c1.2,AM1 c1,Ah DL,AH (by omega) (by omega),show((i:Int)+1)=((i+1:Nat):Int)by omega,drop_cons DL,ih (i+1) (by omega) (by omega),List.any_cons];by_cases he:w.2.2.2.2.2.2.2.2.2.1[i].1=s.1
   ·rw[AM1 he,show(w.2.2.2.2.2.2.2.2.2.1[i].1==s.1)=true by simp_all,AXF,AM1 rfl]
    rfl
   ·rw[AM2 he,show(w.2.2.2.2.2.2.2.2.2.1[i].1==s.1)=false by simp_all,ASj]
  ·have:=AOY h (ws:=ws) (s:=s) n 0 false [] (by omega) (by omega) (by simp)
   grind
theorem p9{d:BK}(hd:d.2.2.2.2.1.length≤40):∃w',ZR w.2.1 w.2.2.2.2.2.1 w.2.2.2.2.2.2.2.2.2.2.1 d w.1 w.2.2.1 w.2.2.2.1 w.2.2.2.2.1 w.2.2.2.2.2.2.1 w.2.2.2.2.2.2.2.1 w.2.2.2.2.2.2.2.2.1 w.2.2.2.2.2.2.2.2.2.1=some (AEC (w',(doAdd w d.2.1 d.2.2.2.2.1).2))∧((doAdd w d.2.1 d.2.2.2.2.1).2=0→w' =(doAdd w d.2.1 d.2.2.2.2.1).1):=by
 have k:=h.nums;have k1:=k.c;have k2:=k.wr;have k3:=k.lost;have k4:=k.st;have bl:=k.jf;have iY:=k.KF;have kH:=k.iZ;have k5:=k.era;unfold ZR Zs doAdd;rw[show(w.1,w.2.1,w.2.2.1,w.2.2.2.1,w.2.2.2.2.1,w.2.2.2.2.2.1,w.2.2.2.2.2.2.1,w.2.2.2.2.2.2.2.1,w.2.2.2.2.2.2.2.2.1,w.2.2.2.2.2.2.2.2.2.1,w.2.2.2.2.2.2.2.2.2.2.1,())=w from rfl,SM (by omega)];simp only[AD,As,DB];rcases AM0 (BL d.2.1 0 ((w.AN.length:Int)-1))with h1|h1
 rotate_left
 ·rw[h1];exact⟨w,rfl,fun _=>rfl⟩
 obtain⟨x1,x2,x3⟩:=h.dk h1;simp only[h1,AOA,F9,AM1 x1]
 generalize hx:w.AN.getD d.2.1.toNat B8=x at*
 rw[show(x.1,x.2.1,())=x from rfl,show(w.1,w.2.1,())=Ae w from rfl,jQ (c:=Ae w) (w:=x) (by show w.1.length≤_;omega) (by omega) (by omega)];simp only[AD];rcases AM0 (Bq (Ae w) x d.2.2.2.2.1).2.2 with h2|h2
 rotate_left
 ·rw[h2];exact⟨w,rfl,fun _=>rfl⟩
 obtain⟨_,r1,r2,r3⟩:=bX h2;rw[r2]at r1;have hnn:=r1.n;simp only[AOq,AOX,AQl]at hnn;have hxe:=x2.ep;rw[h2,AOA,r3,r2];rw[F4 (by omega) (by omega)];simp only[AD,ANZ,ASj];by_cases h3:w.2.2.2.2.2.2.2.2.2.1.length=120
 ·rw[AM1 (by omega),show decide (w.Al.length=120)=true from AQg h3,AXF,AM1 rfl];exact⟨w,rfl,fun hh=>by rfl⟩
 have:=ATu h (ws:=w.AN.set d.2.1.toNat (x.1,x.2.1++[(d.2.2.2.2.1,[],false,())],())) (s:=(HF x.1 ((x.2.1.length:Int)+1),d.2.2.2.2.1,false,())) AX 0 (by omega) (ATE (AZ (by have:=h.nums.se;omega)));grind
end
end Go.M
end
section
set_option maxRecDepth 8000
namespace Go.M
open Go.M.H (AK AQ A0 Ai AA Cq AO A8 AR Ak Bd A9 BK Aj CB AU AW Ab Ag Bg Ax Ao Au EB CL Cy C_)
section
variable{w:AA} (h:Nw w)
include h
theorem ANu{d:BK}{a:Nat}(ha:d.2.1=(a:Int)):∀(n i:Nat) (b:List AR),i≤w.2.2.2.2.2.2.1.length→w.2.2.2.2.2.2.1.length-i<n→b.length≤i→
  NP n i w.1 w.2.2.1 w.2.2.2.1 w.2.2.2.2.1 w.2.2.2.2.2.2.1 w.2.2.2.2.2.2.2.1 w.2.2.2.2.2.2.2.2.1 w.2.2.2.2.2.2.2.2.2.1 w.2.1 w.2.2.2.2.2.1 w.2.2.2.2.2.2.2.2.2.2.1 d.1 d.2.1 d.2.2.1 d.2.2.2.1 d.2.2.2.2.1 0 0 false [] [] [] [] [] [] [] [] b=some (AFL (w.BZ (b++(if i≤a then(w.2.2.2.2.2.2.1.drop i).eraseIdx (a-i)else w.2.2.2.2.2.2.1.drop i)),0)):=by
 have k6:=h.nums.wr;intro n
 induction n with
 |zero=>omega
 |succ n ih=>
  intro i b hi hn hb;simp only[NP,Xl,AB,Ct];by_cases DL:i<w.2.2.2.2.2.2.1.length
  ·have c1:(0:Int)≤(i:Int)∧(i:Int)<(w.2.2.2.2.2.2.1.length:Int):=by omega
   have c2:b.length+1≤C7:=by rw[An];omega
   rw[AM1 c1.2];simp only[AM1 c1,AM1 c2];rw[Ah DL,AH (by omega) (by omega),show((i:Int)+1)=((i+1:Nat):Int)by omega,drop_cons DL,show(w.2.2.2.2.2.2.1[i].1,w.2.2.2.2.2.2.1[i].2.1,())=w.2.2.2.2.2.2.1[i]from rfl];by_cases he:(i:Int)=d.2.1
   ·rw[AM1 he,ih (i+1) b (by omega) (by omega) (by omega),AM2 (by omega),AM1 (by omega),show a-i=0 by omega]
    rfl
   ·rw[AM2 he,ih (i+1) _ (by omega) (by omega) (by simp_all),AOK]
    by_cases hl:i+1≤a
    ·rw[AM1 hl,AM1 (by omega),show a-i=(a-(i+1))+1 by omega,List.eraseIdx_cons_succ]
     rfl
    ·rw[AM2 hl,AM2 (by omega)]
     rfl
  ·rw[AM2 (by omega),ANy (by omega)]
   have:(if i≤a then([]:List AR).eraseIdx (a-i)else[])=[]:=by simp_all
   rw[this,AOC];rfl
theorem nY{d:BK}:XS w.2.1 w.2.2.2.2.2.1 w.2.2.2.2.2.2.2.2.2.2.1 d w.1 w.2.2.1 w.2.2.2.1 w.2.2.2.2.1 w.2.2.2.2.2.2.1 w.2.2.2.2.2.2.2.1 w.2.2.2.2.2.2.2.2.1 w.2.2.2.2.2.2.2.2.2.1=some (AFL (N1 w d.2.1)):=by
 have k:=h.nums;have k1:=k.c;have k2:=k.wr;have k3:=k.lost;have k4:=k.st;have bl:=k.jf;have iY:=k.KF;have kH:=k.iZ;have k5:=k.era;unfold XS YC N1;rw[show(w.1,w.2.1,w.2.2.1,w.2.2.2.1,w.2.2.2.2.1,w.2.2.2.2.2.1,w.2.2.2.2.2.2.1,w.2.2.2.2.2.2.2.1,w.2.2.2.2.2.2.2.2.1,w.2.2.2.2.2.2.2.2.2.1,w.2.2.2.2.2.2.2.2.2.2.1,())=w from rfl,SM (by omega)];simp only[AD,As];rcases AM0 (BL d.2.1 0 ((w.AN.length:Int)-1))with h1|h1
 rotate_left
 ·rw[h1];rfl
 have h1':=Am.1 h1;have:=ANu h (d:=d) (a:=d.2.1.toNat) (by omega) AX 0 [] (by omega) (AZ (by omega)) (by simp);simp_all
theorem AIk{d:BK}{ss:List AQ}{ls:AAD}{ws:List AR}(hls:ls.length≤2^20):∀(n i:Nat),i≤w.2.2.2.2.2.2.2.1.length→w.2.2.2.2.2.2.2.1.length-i<n→
  JZ n i w.1 ss w.2.2.2.1 w.2.2.2.2.1 ws ((w.2.2.2.2.2.2.2.1.map fun m=>(CA (Ae w) m d.2.1).1).take i++w.2.2.2.2.2.2.2.1.drop i) w.2.2.2.2.2.2.2.2.1 w.2.2.2.2.2.2.2.2.2.1 w.2.1 w.2.2.2.2.2.1 w.2.2.2.2.2.2.2.2.2.2.1 ls d.1 d.2.1 d.2.2.1 d.2.2.2.1 d.2.2.2.2.1 0 0 false [] [] [] [] [] [] [] []=some (uV (((((w.CF ss).FH ls).BZ ws).Cn (w.2.2.2.2.2.2.2.1.map fun m=>(CA (Ae w) m d.2.1).1)).FV (w.Ib||holds (Ae w) ls),0)):=by
 have k:=h.nums;have k1:=k.c;have k6:=k.md;intro n
 induction n with
 |zero=>omega
 |succ n ih=>
  intro i hi hn;simp only[JZ,WU,AB,As];rw[OI hi];by_cases DL:i<w.2.2.2.2.2.2.2.1.length
  ·have c1:(0:Int)≤(i:Int)∧(i:Int)<(w.2.2.2.2.2.2.2.1.length:Int):=by omega
   have hm:=(h.CI _ (AN7 DL)).1;have yA:=hm.w;rw[AM1 c1.2];simp only[AM1 c1];rw[AN4,NL DL,AH (by omega) (by omega),show((i:Int)+1)=((i+1:Nat):Int)by omega,show(w.2.2.2.2.2.2.2.1[i].1,w.2.2.2.2.2.2.2.1[i].2.1,w.2.2.2.2.2.2.2.1[i].2.2.1,w.2.2.2.2.2.2.2.1[i].2.2.2.1,w.2.2.2.2.2.2.2.1[i].2.2.2.2.1,w.2.2.2.2.2.2.2.1[i].2.2.2.2.2.1,())=w.2.2.2.2.2.2.2.1[i]from rfl,show(w.1,w.2.1,())=Ae w from rfl,hD (c:=Ae w) (by show w.1.length≤_;omega) (by omega) hm.xM];simp only[AD,gF];rw[show((CA (Ae w) w.2.2.2.2.2.2.2.1[i] d.2.1).1.1,(CA (Ae w) w.2.2.2.2.2.2.2.1[i] d.2.1).1.2.1,(CA (Ae w) w.2.2.2.2.2.2.2.1[i] d.2.1).1.2.2.1,(CA (Ae w) w.2.2.2.2.2.2.2.1[i] d.2.1).1.2.2.2.1,(CA (Ae w) w.2.2.2.2.2.2.2.1[i] d.2.1).1.2.2.2.2.1,(CA (Ae w) w.2.2.2.2.2.2.2.1[i] d.2.1).1.2.2.2.2.2.1,())=(CA (Ae w) w.2.2.2.2.2.2.2.1[i] d.2.1).1 from rfl,Qn DL rfl];grind
  ·have:i=w.2.2.2.2.2.2.2.1.length:=by omega
   rw[AM2 (by omega),this,AS1,AOC,ASh (by simp),show(w.1,w.2.1,())=Ae w from rfl,DZ (by show w.1.length≤_;omega) (by omega)];simp only[AD];cases ht:w.2.2.2.2.2.2.2.2.2.2.1 with
   |true=>
    have ht':w.Ib=true:=ht;rw[ht'];rfl
   |false=>
    have ht':w.Ib=false:=ht;rw[ht'];rfl
theorem ARA{d:BK}{ss:List AQ}{ls:AAD}(hls:ls.length≤2^20):∀(n i:Nat),i≤w.2.2.2.2.2.2.1.length→(w.2.2.2.2.2.2.1.length-i)+w.2.2.2.2.2.2.2.1.length+2≤n→
  KP n i w.1 ss w.2.2.2.1 w.2.2.2.2.1 ((w.2.2.2.2.2.2.1.map fun x=>(CD (Ae w) x d.2.1).1).take i++w.2.2.2.2.2.2.1.drop i) w.2.2.2.2.2.2.2.1 w.2.2.2.2.2.2.2.2.1 w.2.2.2.2.2.2.2.2.2.1 w.2.1 w.2.2.2.2.2.1 w.2.2.2.2.2.2.2.2.2.2.1 ls d.1 d.2.1 d.2.2.1 d.2.2.2.1 d.2.2.2.2.1 0 0 false [] [] [] [] [] [] [] []=some (uV (((((w.CF ss).FH ls).BZ (w.2.2.2.2.2.2.1.map fun x=>(CD (Ae w) x d.2.1).1)).Cn (w.2.2.2.2.2.2.2.1.map fun m=>(CA (Ae w) m d.2.1).1)).FV (w.Ib||holds (Ae w) ls),0)):=by
 have k:=h.nums;have k1:=k.c;have k6:=k.wr;intro n
 induction n with
 |zero=>omega
 |succ n ih=>
  intro i hi hn;simp only[KP,YY,AB,As];rw[OI hi];by_cases DL:i<w.2.2.2.2.2.2.1.length
  ·have c1:(0:Int)≤(i:Int)∧(i:Int)<(w.2.2.2.2.2.2.1.length:Int):=by omega
   have hm:=(h.AN _ (AN7 DL)).1;have yA:=hm.w;rw[AM1 c1.2];simp only[AM1 c1];rw[AN4,NL DL,AH (by omega) (by omega),show((i:Int)+1)=((i+1:Nat):Int)by omega,show(w.2.2.2.2.2.2.1[i].1,w.2.2.2.2.2.2.1[i].2.1,())=w.2.2.2.2.2.2.1[i]from rfl,show(w.1,w.2.1,())=Ae w from rfl,ei (c:=Ae w) (by show w.1.length≤_;omega) (by have:Ao w.2.2.2.2.2.2.1[i]=AU Ax w.2.2.2.2.2.2.1[i].2.1:=rfl;omega)];simp only[AD,pkW];rw[show((CD (Ae w) w.2.2.2.2.2.2.1[i] d.2.1).1.1,(CD (Ae w) w.2.2.2.2.2.2.1[i] d.2.1).1.2.1,())=(CD (Ae w) w.2.2.2.2.2.2.1[i] d.2.1).1 from rfl,Qn DL rfl];grind
  ·have:i=w.2.2.2.2.2.2.1.length:=by omega
   have k11:=AIk h (d:=d) (ss:=ss) (ws:=w.2.2.2.2.2.2.1.map fun x=>(CD (Ae w) x d.2.1).1) hls n 0 (by omega) (by omega);rw[show((0:Nat):Int)=0 from rfl,APS,AWG,ARU]at k11;rw[AM2 (by omega),this,AS1,AOC,ASh (by simp),k11]
theorem nP{d:BK}:W7 w.2.1 w.2.2.2.2.2.1 w.2.2.2.2.2.2.2.2.2.2.1 d w.1 w.2.2.1 w.2.2.2.1 w.2.2.2.2.1 w.2.2.2.2.2.2.1 w.2.2.2.2.2.2.2.1 w.2.2.2.2.2.2.2.2.1 w.2.2.2.2.2.2.2.2.2.1=some (uV (M8 w d.2.1)):=by
 have k:=h.nums;have k1:=k.c;have k2:=k.wr;have k3:=k.lost;have k4:=k.st;have bl:=k.jf;have iY:=k.KF;have kH:=k.iZ;have k5:=k.era;have k6:=k.md;unfold W7 YQ M8;rw[show(w.1,w.2.1,w.2.2.1,w.2.2.2.1,w.2.2.2.2.1,w.2.2.2.2.2.1,w.2.2.2.2.2.2.1,w.2.2.2.2.2.2.2.1,w.2.2.2.2.2.2.2.2.1,w.2.2.2.2.2.2.2.2.2.1,w.2.2.2.2.2.2.2.2.2.2.1,())=w from rfl,Ia (by omega) (by omega)];simp only[AD,Ct];by_cases h3:Aq w d.2.1=0
 rotate_left
 ·rw[AM2 h3,AM1 h3];rfl
 obtain⟨hr,s1,s2,s3⟩:=h.L8 h3;rw[AM1 h3,AM2 (show¬(Aq w d.2.1≠0)from fun hh=>hh h3),AM1 hr,LF (by omega)];simp only[AD];have hp:=TQ (n:=d.2.1) (l:=w.2.2.2.1);have:=ARA h (d:=d) (ss:=w.2.2.1.set d.2.1.toNat ([],[],0,())) (ls:=N4 d.2.1 w.2.2.2.1) (by omega) AX 0 (by omega) (ATE (AZ (by omega)));simp_all
end
end Go.M
end
section
set_option maxRecDepth 8000
namespace Go.M
open Go.M.H (AK AQ A0 Ai AA Cq AO A8 AR Ak Bd A9 BK Aj CB AU AW Ab Ag Bg Ax Ao Au EB CL Cy C_)
theorem eqE{x e:AK}:(x.1==e.1&&(x.2.1==e.2.1&&(x.2.2.1==e.2.2.1&&(x.2.2.2.1==e.2.2.2.1&&true))))=decide (x=e):=by
 grind
theorem cS{m:A0}{o:Int}{l:List AAD}(hl:l.length=m.2.2.2.2.2.1.length):EL (m.1,m.2.1,m.2.2.1,m.2.2.2.1,m.2.2.2.2.1,l,()) o=EL m o:=by
 grind[EL]
section
variable{w:AA} (h:Nw w) {st:AQ} (hs:cI st) {n:Int} (hn:0≤n∧n<(Ae w).1.length) {SS:List AQ}
include h hs hn
theorem AK1{ws:List AR}{se:List Ai}{ms:List A0}{j B:Nat}{m:A0}{R:Option Bv}(hj:j<ms.length)(xR:ms.length≤2^20)(hlen:(ms.getD j Ra).2.2.2.2.2.1.length=m.2.2.2.2.2.1.length)(hm:kF (Ae w) m)
  (hc:(Bh w.BA m.2.1).contains n=true)
  (cont:∀f,B≤f→Bc f n ((j+1:Nat):Int) w.1 SS w.2.2.2.1 w.2.2.2.2.1 ws (ms.set j (m.1,m.2.1,m.2.2.1,m.2.2.2.1,m.2.2.2.2.1,Ff m st n 1 m.2.2.2.2.2.1,())) w.2.2.2.2.2.2.2.2.1 se w.2.1 w.2.2.2.2.2.1 w.2.2.2.2.2.2.2.2.2.2.1 0 0 false [] [] [] [] [] [] [] [] st.1 st.2.1 st.2.2.1=R):
  ∀(rest dn:List AAD) (f:Nat),dn.length+rest.length=m.2.2.2.2.2.1.length→(∀l∈dn++rest,A4 (Ae w) l=true)→rest.length+B+1≤f→
   dn++Ff m st n ((dn.length:Int)+1) rest=Ff m st n 1 m.2.2.2.2.2.1→
   BW f n (j:Int) ((dn.length:Int)+1) w.1 SS w.2.2.2.1 w.2.2.2.2.1 ws ms w.2.2.2.2.2.2.2.2.1 se w.2.1 w.2.2.2.2.2.1 w.2.2.2.2.2.2.2.2.2.2.1 0 0 false [] [] [] [] [] [] [] [] st.1 st.2.1 st.2.2.1 m.1 m.2.1 m.2.2.1 m.2.2.2.1 m.2.2.2.2.1 (dn++rest)=R:=by
 have k:=h.nums;have k1:=k.c;have k5:=k.era;have c1:(0:Int)≤(j:Int)∧(j:Int)<(ms.length:Int):=by omega
 have Vb:(Bh w.BA m.2.1).length≤8:=Gh h;have xI:m.2.2.2.2.2.1.length≤60:=by
  have:=hm.n;have hb:=Hj (l:=m.2.2.2.1);omega
 intro rest
 induction rest with
 |nil=>
  intro dn f hl ho hf he;obtain⟨f,rfl⟩:∃f',f=f'+1:=⟨f-1,by omega⟩;simp only[AQl,ATG,AS7,Ff,AOC]at hl hf he;simp only[BW,Ir,AB,AOC];simp only[AM1 c1];rw[show ms.getD ((j:Int)).toNat (0,0,[],[],false,[],())=ms.getD j Ra from rfl,hlen,AM2 (by omega),AH (by omega) (by omega),show((j:Int)+1)=((j+1:Nat):Int)by omega,he,AN4];simp_all
 |cons x rest ih=>
  intro dn f hl ho hf he;obtain⟨f,rfl⟩:∃f',f=f'+1:=⟨f-1,by omega⟩;simp only[AOX]at hl hf;simp only[BW,Ir,AB];simp only[AM1 c1];have Z5:kF (Ae w) (m.1,m.2.1,m.2.2.1,m.2.2.2.1,m.2.2.2.2.1,dn++x::rest,()):=⟨hm.cfg,hm.ep,hm.b,hm.sld,hm.u_,hm.seen,ho,by
   have:=hm.n;simp_all⟩
  have yA:=Z5.w;rw[show ms.getD ((j:Int)).toNat (0,0,[],[],false,[],())=ms.getD j Ra from rfl,hlen,AM1 (by omega),show(w.2.2.2.2.1,w.2.2.2.2.2.1,())=CO w from rfl,FJ (r:=CO w) (by show AU Bg w.2.2.2.2.1≤_;omega)];rw[show(CO w).1=w.BA from rfl];simp only[AD];rw[K4 (by omega),hc];simp only[AD,AOA];have yd:(dn++x::rest).length=m.2.2.2.2.2.1.length:=by simp_all
  rw[Zp (m:=(m.1,m.2.1,m.2.2.1,m.2.2.2.1,m.2.2.2.2.1,dn++x::rest,())) (by omega),cS yd];simp only[AD];have Aal:m.2.2.2.2.1=true:=by
   have:=hm.n;grind
  have AXB:∃e,EL m ((dn.length:Int)+1)=some e:=by
   unfold EL;rw[Aal,AM1 (by
    simp only[AOM,ANN,Am,AOH];have:=hm.ep;omega)]
   split<;>exact⟨_,rfl⟩
  obtain⟨e,hee⟩:=AXB;have rA:=hs.w;rw[hee];simp only[ASp];rw[Um (F_ (by omega)).1];simp only[AD,eqE,AB];rw[AH (by omega) (by omega)];simp only[Ff]at he;have hmd:Us m st ((dn.length:Int)+1)=(PL e.1 st.1==some e):=by
   unfold Us;rw[hee]
  cases hg:PL e.1 st.1 with
  |none=>
   simp only[ASu,ANP];rw[hmd,hg]at he;have:=ih (dn++[x]) f (by grind) (by simp_all) (by omega) (by
    simp_all)
   simp_all
  |some y=>
   simp only[ASs,AOA,ASp];by_cases hye:y=e
   ·rw[AM1 hye]
    rw[hmd,hg,hye]at he;rw[show(w.1,w.2.1,())=Ae w from rfl,cX (c:=Ae w) (m:=(m.1,m.2.1,m.2.2.1,m.2.2.2.1,m.2.2.2.2.1,dn++x::rest,())) (by show w.1.length≤_;omega) (by omega) Z5.xM];have ACG:Sm (Ae w) (m.1,m.2.1,m.2.2.1,m.2.2.2.1,m.2.2.2.2.1,dn++x::rest,()) ((dn.length:Int)+1) n=((m.1,m.2.1,m.2.2.1,m.2.2.2.1,m.2.2.2.2.1,dn++N4 n x::rest,()),true):=by
     unfold Sm;rw[Gg.2 Z5];have hq:(BL ((dn.length:Int)+1) 1 ((dn++x::rest).length:Int)&&BL n 0 (((Ae w).1.length:Int)-1))=true:=by
      rw[ANN,Am,Am];omega
     grind
    rw[ACG];simp only[AD,gF];have hx:=ho x (by simp);have:=ih (dn++[N4 n x]) f (by grind) (by
     intro l iV;simp only[AOK,ASl,AOk,ARi]at iV;rcases iV with iV|rfl|iV
     all_goals grind[Ks]) (by omega) (by
     simp_all)
    simp_all
   ·rw[AM2 hye]
    have hf2:(some y==some e)=false:=by
     simp_all
    rw[hmd,hg,hf2]at he;have:=ih (dn++[x]) f (by grind) (by simp_all) (by omega) (by
     simp_all)
    simp_all
theorem ALX{ws:List AR}{se:List Ai}:∀(k i:Nat),w.2.2.2.2.2.2.2.1.length-i=k→i≤w.2.2.2.2.2.2.2.1.length→ ∀f,k*100+1≤f→
  Bc f n (i:Int) w.1 SS w.2.2.2.1 w.2.2.2.2.1 ws ((w.2.2.2.2.2.2.2.1.map (Ln st w.BA n)).take i++w.2.2.2.2.2.2.2.1.drop i) w.2.2.2.2.2.2.2.2.1 se w.2.1 w.2.2.2.2.2.1 w.2.2.2.2.2.2.2.2.2.2.1 0 0 false [] [] [] [] [] [] [] [] st.1 st.2.1 st.2.2.1=(some ((((),w.2.1,(),(),(),w.2.2.2.2.2.1,(),(),(),(),w.2.2.2.2.2.2.2.2.2.2.1,()),()),(w.1,SS,w.2.2.2.1,w.2.2.2.2.1,ws,(w.2.2.2.2.2.2.2.1.map (Ln st w.BA n)),w.2.2.2.2.2.2.2.2.1,se,())):Option Bv):=by
 have k:=h.nums;have k5:=k.era;have k6:=k.md;intro k
 induction k with
 |zero=>
  intro i hk hi f hf;obtain⟨f,rfl⟩:∃f',f=f'+1:=⟨f-1,by omega⟩;have:i=w.2.2.2.2.2.2.2.1.length:=by omega
  simp only[Bc,LX,AB];grind
 |succ k ih=>
  intro i hk hi f hf;obtain⟨f,rfl⟩:∃f',f=f'+1:=⟨f-1,by omega⟩;have DL:i<w.2.2.2.2.2.2.2.1.length:=by omega
  have c1:(0:Int)≤(i:Int)∧(i:Int)<(w.2.2.2.2.2.2.2.1.length:Int):=by omega
  simp only[Bc,LX,AB];rw[OI hi,AM1 c1.2,AM1 c1,AN4,NL DL];have hm:=(h.CI _ (AN7 DL)).1;have xI:w.2.2.2.2.2.2.2.1[i].2.2.2.2.2.1.length≤60:=by
   have:=hm.n;have hb:=Hj (l:=w.2.2.2.2.2.2.2.1[i].2.2.2.1);omega
  rcases AM0 ((Bh w.BA w.2.2.2.2.2.2.2.1[i].2.1).contains n)with hc|hc
  ·have hT:Ln st w.BA n w.2.2.2.2.2.2.2.1[i]=(w.2.2.2.2.2.2.2.1[i].1,w.2.2.2.2.2.2.2.1[i].2.1,w.2.2.2.2.2.2.2.1[i].2.2.1,w.2.2.2.2.2.2.2.1[i].2.2.2.1,w.2.2.2.2.2.2.2.1[i].2.2.2.2.1,Ff w.2.2.2.2.2.2.2.1[i] st n 1 w.2.2.2.2.2.2.2.1[i].2.2.2.2.2.1,()):=by
    unfold Ln;simp_all
   have:=AK1 h hs hn (SS:=SS) (ws:=ws) (se:=se) (ms:=(w.2.2.2.2.2.2.2.1.map (Ln st w.BA n)).take i++w.2.2.2.2.2.2.2.1.drop i) (j:=i) (B:=k*100+1) (m:=w.2.2.2.2.2.2.2.1[i]) (R:=(some ((((),w.2.1,(),(),(),w.2.2.2.2.2.1,(),(),(),(),w.2.2.2.2.2.2.2.2.2.2.1,()),()),(w.1,SS,w.2.2.2.1,w.2.2.2.2.1,ws,(w.2.2.2.2.2.2.2.1.map (Ln st w.BA n)),w.2.2.2.2.2.2.2.2.1,se,())):Option Bv)) (by simp_all) (by grind) (by simp_all) hm hc (fun f hf=>by
    grind[Qn]) w.2.2.2.2.2.2.2.1[i].2.2.2.2.2.1 [] f (by simp) (by simpa using hm.wrote) (by omega) (by simp)
   simp_all
  ·have hT:Ln st w.BA n w.2.2.2.2.2.2.2.1[i]=w.2.2.2.2.2.2.2.1[i]:=by
    unfold Ln;simp_all
   obtain⟨f,rfl⟩:∃f',f=f'+1:=⟨f-1,by omega⟩;simp only[BW,Ir,AB];have Vb:(Bh w.BA w.2.2.2.2.2.2.2.1[i].2.1).length≤8:=Gh h;rw[OI hi];simp only[AM1 c1];rw[AN4,NL DL,show(w.2.2.2.2.1,w.2.2.2.2.2.1,())=CO w from rfl,FJ (r:=CO w) (by show AU Bg w.2.2.2.2.1≤_;omega)];rw[show(CO w).1=w.BA from rfl];simp only[AD];rw[K4 (by omega),hc,Qn DL (show(w.2.2.2.2.2.2.2.1[i].1,w.2.2.2.2.2.2.2.1[i].2.1,w.2.2.2.2.2.2.2.1[i].2.2.1,w.2.2.2.2.2.2.2.1[i].2.2.2.1,w.2.2.2.2.2.2.2.1[i].2.2.2.2.1,w.2.2.2.2.2.2.2.1[i].2.2.2.2.2.1,())=Ln st w.BA n w.2.2.2.2.2.2.2.1[i]from hT.symm),AH (x:=(i:Int)+1) (by omega) (by omega),show((i:Int)+1)=((i+1:Nat):Int)by omega,ih (i+1) (by omega) (by omega) f (by omega)];simp_all
end
end Go.M
end
section
set_option maxRecDepth 8000
namespace Go.M
open Go.M.H (AK AQ A0 Ai AA Cq AO A8 AR Ak Bd A9 BK Aj CB AU AW Ab Ag Bg Ax Ao Au EB CL Cy C_)
theorem kt{x y:A8}(hx:x.2.2.1=false):∀{dn rest:List A8},RS (dn++y::rest)≤RS (dn++x::rest)
 |[],rest=>by
  simp only[ARU,RS,hx];cases y.2.2.1<;>simp
 |a::dn,rest=>by
  have:=kt (y:=y) hx (dn:=dn) (rest:=rest);simp only[AS0,RS];cases a.2.2.1<;>simp<;>omega
section
variable{w:AA} (h:Nw w) {st:AQ} (hs:cI st) {n:Int} (hn:0≤n∧n<(Ae w).1.length) {SS:List AQ}
include h hs hn
theorem AIz{ws:List AR}{se:List Ai}{j B:Nat}{ep x y:Int}{z:Bool}{old new:List A8}{R:Option Bv}(hj:j<2^20)(cC:se.length≤120)(hsp:∀s∈se,Bf s.1=true)(wE:new.length≤60)(hep:1≤ep∧ep≤30)
  (cont:∀f,B≤f→Ba f n ((j+1:Nat):Int) w.1 SS w.2.2.2.1 w.2.2.2.2.1 ws w.2.2.2.2.2.2.2.1 w.2.2.2.2.2.2.2.2.1 (se.map (QN true ep old new)) w.2.1 w.2.2.2.2.2.1 w.2.2.2.2.2.2.2.2.2.2.1 0 0 false [] [] [] [] [] [] [] [] st.1 st.2.1 st.2.2.1=R):
  ∀(k i:Nat),se.length-i=k→i≤se.length→ ∀f,k+B+1≤f→
   A_ f n (j:Int) (i:Int) x y z w.1 SS w.2.2.2.1 w.2.2.2.2.1 ws w.2.2.2.2.2.2.2.1 w.2.2.2.2.2.2.2.2.1 ((se.map (QN true ep old new)).take i++se.drop i) w.2.1 w.2.2.2.2.2.1 w.2.2.2.2.2.2.2.2.2.2.1 0 0 false [] [] [] [] [] [] [] [] st.1 st.2.1 st.2.2.1 ep new=R:=by
 intro k
 induction k with
 |zero=>
  intro i hk hi f hf;obtain⟨f,rfl⟩:∃f',f=f'+1:=⟨f-1,by omega⟩;have:i=se.length:=by omega
  simp only[A_,Ld,AB];rw[OI hi,AM2 (by omega),this,AS1,AOC,ASh (by simp),AH (by omega) (by omega),show((j:Int)+1)=((j+1:Nat):Int)by omega];exact cont f (by omega)
 |succ k ih=>
  intro i hk hi f hf;obtain⟨f,rfl⟩:∃f',f=f'+1:=⟨f-1,by omega⟩;have DL:i<se.length:=by omega
  have c1:(0:Int)≤(i:Int)∧(i:Int)<(se.length:Int):=by omega
  have hp:=hsp _ (AN7 DL);have hpf:=HD hp;have ih':=ih (i+1) (by omega) (by omega) f (by omega);simp only[A_,Ld,AB,DB];rw[OI hi,AM1 c1.2];simp only[AM1 c1];rw[AN4,NL DL,ED (Gv hp),Z8 (Gv hp),AH (x:=(i:Int)+1) (by omega) (by omega),show((i:Int)+1)=((i+1:Nat):Int)by omega];simp only[AD];have skip:QN true ep old new se[i]=se[i]→A_ f n (j:Int) ((i+1:Nat):Int) x y z w.1 SS w.2.2.2.1 w.2.2.2.2.1 ws w.2.2.2.2.2.2.2.1 w.2.2.2.2.2.2.2.2.1 ((se.map (QN true ep old new)).take i++se.drop i) w.2.1 w.2.2.2.2.2.1 w.2.2.2.2.2.2.2.2.2.2.1 0 0 false [] [] [] [] [] [] [] [] st.1 st.2.1 st.2.2.1 ep new=R:=fun hm=>by
   rw[ig DL hm];exact ih'
  by_cases he:Aw se[i].1=ep
  rotate_left
  ·rw[AM2 he]
   refine skip ?_
   unfold QN;rw[show(Aw se[i].1==ep)=false by rw[APT];exact he];simp
  rw[AM1 he];by_cases ho:EE se[i].1≤(new.length:Int)
  rotate_left
  ·rw[AM2 ho]
   refine skip ?_
   unfold QN dz;rw[show BL (EE se[i].1) 1 (new.length:Int)=false by
    rw[ATA];intro hh;exact ho (Am.1 hh).2]
   simp
  rw[AM1 ho,AH (x:=EE se[i].1-1) (by omega) (by omega),AM1 (by omega)];have hd:dz new (EE se[i].1)=(new.getD (EE se[i].1-1).toNat Ma).2.2.1:=by
   unfold dz;rw[Am.2 ⟨hpf.2.1.1,ho⟩,AOM]
  have rF:(new.getD (EE se[i].1-1).toNat ([],[],false,())).2.2.1=dz new (EE se[i].1):=hd.symm;rw[rF];cases hdd:dz new (EE se[i].1)with
  |false=>
   rw[ANP];refine skip ?_
   unfold QN;rw[hdd];simp
  |true=>
   rw[AOA,Qn DL (show(se[i].1,se[i].2.1,true,())=QN true ep old new se[i]by
    unfold QN;rw[hdd,he];simp)]
   exact ih'
theorem AR3{ws:List AR}{se:List Ai}{j B:Nat}{ep x y:Int}{z:Bool}{l0:List A8}{R:Option Bv}(hj:j<ws.length)(xR:ws.length≤2^20)
  (cont:∀f,B≤f→A_ f n (j:Int) 0 x y z w.1 SS w.2.2.2.1 w.2.2.2.2.1 (ws.set j (ep,Br (Ae w) st ep n 1 l0,())) w.2.2.2.2.2.2.2.1 w.2.2.2.2.2.2.2.2.1 se w.2.1 w.2.2.2.2.2.1 w.2.2.2.2.2.2.2.2.2.2.1 0 0 false [] [] [] [] [] [] [] [] st.1 st.2.1 st.2.2.1 ep (Br (Ae w) st ep n 1 l0)=R):
  ∀(rest dn:List A8) (f:Nat),bZ (Ae w) (ep,dn++rest,())→rest.length+B+1≤f→
   dn++Br (Ae w) st ep n ((dn.length:Int)+1) rest=Br (Ae w) st ep n 1 l0→
   A7 f n (j:Int) ((dn.length:Int)+1) x y z w.1 SS w.2.2.2.1 w.2.2.2.2.1 ws w.2.2.2.2.2.2.2.1 w.2.2.2.2.2.2.2.2.1 se w.2.1 w.2.2.2.2.2.1 w.2.2.2.2.2.2.2.2.2.2.1 0 0 false [] [] [] [] [] [] [] [] st.1 st.2.1 st.2.2.1 ep (dn++rest)=R:=by
 have k1:=h.nums.c;have rA:=hs.w;intro rest
 induction rest with
 |nil=>
  intro dn f hw hf he;obtain⟨f,rfl⟩:∃f',f=f'+1:=⟨f-1,by simp at hf;omega⟩;simp only[AQl,AS7,Br,AOC]at hf he;simp only[A7,Mq,AB,AOC];rw[AM2 (by omega),AM1 (by omega),he,AN4];exact cont f (by omega)
 |cons a rest ih=>
  intro dn f hw hf he;obtain⟨f,rfl⟩:∃f',f=f'+1:=⟨f-1,by simp at hf;omega⟩;simp only[AOX]at hf;have hwe:1≤ep∧ep≤30:=hw.ep;have hwn:(dn++a::rest).length≤60:=hw.n;have hww:=hw.w;have hwl:=hwn;simp only[AOq,AOX]at hwl;simp only[A7,Mq,AB,As,Ct];rw[AM1 (by simp only[AOq,AOX];omega),F4 (by omega) (by omega)];simp only[AD];rw[Um (F_ (by omega)).1];simp only[AD];rw[AH (x:=(dn.length:Int)+1+1) (by omega) (by omega),AH (x:=(dn.length:Int)+1-1) (by omega) (by omega),AM1 (show(0:Int)≤(dn.length:Int)+1-1∧(dn.length:Int)+1-1<((dn++a::rest).length:Int)by simp only[AOq,AOX];omega)];have e1:((dn.length:Int)+1-1).toNat=dn.length:=by omega
  have e2:(dn++a::rest).getD dn.length ([],[],false,())=a:=by simp[List.getD]
  rw[e1,e2];simp only[Br]at he;have go:∀b:A8,bZ (Ae w) (ep,dn++b::rest,())→(if(!a.2.2.1&&N3 st (HF ep ((dn.length:Int)+1)))=true then GR (Ae w) n a else a)=b→
    A7 f n (j:Int) ((dn.length:Int)+1+1) x y z w.1 SS w.2.2.2.1 w.2.2.2.2.1 ws w.2.2.2.2.2.2.2.1 w.2.2.2.2.2.2.2.2.1 se w.2.1 w.2.2.2.2.2.1 w.2.2.2.2.2.2.2.2.2.2.1 0 0 false [] [] [] [] [] [] [] [] st.1 st.2.1 st.2.2.1 ep (dn++b::rest)=R:=fun b hb nu=>by
   rw[nu]at he;have:=ih (dn++[b]) f (by simpa using hb) (by omega) (by
    rw[←he];simp only[AOq,AOX,AQl,AOK,ASl];rw[show(((dn.length+(0+1):Nat):Int)+1)=(dn.length:Int)+1+1 by omega])
   simp only[AOq,AOX,AQl,AOK,ASl]at this;rw[show(((dn.length+(0+1):Nat):Int)+1)=(dn.length:Int)+1+1 by omega]at this;exact this
  cases hg:PL (HF ep ((dn.length:Int)+1)) st.1 with
  |none=>
   simp only[ASu,ANP];exact go a hw (by unfold N3;rw[hg];simp)
  |some e=>
   simp only[ASs,AOA,ASp];by_cases he0:e.2.1=0
   rotate_left
   ·rw[AM2 he0]
    exact go a hw (by unfold N3;rw[hg];simp[he0])
   rw[AM1 he0];cases had:a.2.2.1 with
   |true=>
    rw[AOA];exact go a hw (by rw[had];simp)
   |false=>
    rw[ANP];have ha:=hw.words a (by simp);have hb:bZ (Ae w) (ep,dn++GR (Ae w) n a::rest,()):=⟨hw.cfg,hw.ep,by simpa using hwn,fun b hb=>by
     simp only[AOk,ARi]at hb;rcases hb with hb|rfl|hb
     ·exact hw.words b (by simp[hb])
     ·exact⟨ha.1,Ks ha.2.1 hn,rfl⟩
     ·exact hw.words b (by simp[hb]),ASY (kt had) hw.opn⟩
    rw[show(w.1,w.2.1,())=Ae w from rfl,jF (c:=Ae w) (w:=(ep,dn++a::rest,())) (by show w.1.length≤_;omega) (by have:Ao (ep,dn++a::rest,())=AU Ax (dn++a::rest):=rfl;show AU Ax (dn++a::rest)≤_;omega)];have ACG:Rx (Ae w) (ep,dn++a::rest,()) ((dn.length:Int)+1) n=((ep,dn++GR (Ae w) n a::rest,()),true):=by
     unfold Rx;rw[Ix.2 hw];simp only[ANZ,ANw,AQS];rw[e1,show(dn++a::rest).getD dn.length Ma=a from e2,had];rw[AM1 (by
      rw[ANN,ANN,Am,Am];simp only[AOq,AOX];refine⟨by omega,by omega,rfl⟩)]
     rw[AVo _ _ (by omega),AXR,AUE]
    rw[ACG];simp only[AD,pkW];exact go _ hb (by unfold N3;rw[hg];simp[he0,had])
theorem ANg:∀(rest pre:List AR) (se:List Ai) (f:Nat),(pre++rest).length≤4→(∀x∈rest,bZ (Ae w) x)→se.length≤120→(∀s∈se,Bf s.1=true)→rest.length*300+w.2.2.2.2.2.2.2.1.length*100+2≤f→
  Ba f n (pre.length:Int) w.1 SS w.2.2.2.1 w.2.2.2.2.1 (pre++rest) w.2.2.2.2.2.2.2.1 w.2.2.2.2.2.2.2.2.1 se w.2.1 w.2.2.2.2.2.1 w.2.2.2.2.2.2.2.2.2.2.1 0 0 false [] [] [] [] [] [] [] [] st.1 st.2.1 st.2.2.1=(some ((((),w.2.1,(),(),(),w.2.2.2.2.2.1,(),(),(),(),w.2.2.2.2.2.2.2.2.2.2.1,()),()),(w.1,SS,w.2.2.2.1,w.2.2.2.2.1,(pre++(FE true (Ae w) st w.BA n rest se).1),(w.2.2.2.2.2.2.2.1.map (Ln st w.BA n)),w.2.2.2.2.2.2.2.2.1,(FE true (Ae w) st w.BA n rest se).2,())):Option Bv):=by
 have k5:=h.nums.era;intro rest
 induction rest with
 |nil=>
  intro pre se f hl hw cC hsp hf;obtain⟨f,rfl⟩:∃f',f=f'+1:=⟨f-1,by omega⟩;simp only[Ba,M0,AB];have:=ALX h hs hn (SS:=SS) (ws:=pre) (se:=se) w.2.2.2.2.2.2.2.1.length 0 (by omega) (by omega) f (by omega);rw[show((0:Nat):Int)=0 from rfl,APS,AWG,ARU]at this;rw[AOC,AM2 (by omega),this];simp only[FE,AOC]
 |cons a rest ih=>
  intro pre se f hl hw cC hsp hf;simp only[AOq,AOX]at hl hf;obtain⟨f,rfl⟩:∃f',f=f'+1:=⟨f-1,by omega⟩;simp only[Ba,M0,AB,As];have xu:(pre++a::rest).length=pre.length+(rest.length+1):=by simp
  have c1:(0:Int)≤(pre.length:Int)∧(pre.length:Int)<((pre++a::rest).length:Int):=by omega
  have e2:(pre++a::rest).getD pre.length (0,[],())=a:=by simp[List.getD]
  have Vb:(Bh w.BA a.1).length≤8:=Gh h;rw[AM1 c1.2,AM1 c1,AN4,e2,show(w.2.2.2.2.1,w.2.2.2.2.2.1,())=CO w from rfl,FJ (r:=CO w) (by show AU Bg w.2.2.2.2.1≤_;omega)];rw[show(CO w).1=w.BA from rfl];simp only[AD];rw[K4 (by omega),AH (by omega) (by omega),show((pre.length:Int)+1)=((pre.length+1:Nat):Int)by omega];simp only[AD];have ha:=hw a (by simp);have hae:=ha.ep;have han:=ha.n;have next:∀(b:AR) (bw:List Ai) (f:Nat),bw.length≤120→(∀s∈bw,Bf s.1=true)→rest.length*300+w.2.2.2.2.2.2.2.1.length*100+2≤f→
    Ba f n ((pre.length+1:Nat):Int) w.1 SS w.2.2.2.1 w.2.2.2.2.1 (pre++b::rest) w.2.2.2.2.2.2.2.1 w.2.2.2.2.2.2.2.2.1 bw w.2.1 w.2.2.2.2.2.1 w.2.2.2.2.2.2.2.2.2.2.1 0 0 false [] [] [] [] [] [] [] [] st.1 st.2.1 st.2.2.1=(some ((((),w.2.1,(),(),(),w.2.2.2.2.2.1,(),(),(),(),w.2.2.2.2.2.2.2.2.2.2.1,()),()),(w.1,SS,w.2.2.2.1,w.2.2.2.2.1,(pre++b::(FE true (Ae w) st w.BA n rest bw).1),(w.2.2.2.2.2.2.2.1.map (Ln st w.BA n)),w.2.2.2.2.2.2.2.2.1,(FE true (Ae w) st w.BA n rest bw).2,())):Option Bv):=fun b bw f h1 h2 h3=>by
   have:=ih (pre++[b]) bw f (by simp only[AOq,AOX,AQl];omega) (fun x hx=>hw x (by simp[hx])) h1 h2 h3;simp only[AOq,AOX,AQl,AOK,ASl]at this;exact this
  simp only[FE];rcases AM0 (eF st w.BA n a)with ht|ht
  rotate_left
  ·rw[ht]
   simp only[ANw,AQS];unfold eF at ht;rcases AM0 ((Bh w.BA a.1).contains n)with hc|hc
   ·rw[hc,AOM,ATJ]at ht
    rw[hc,AOA,AM1 (by omega)];exact next a se f cC hsp (by omega)
   ·rw[hc,ANP]
    exact next a se f cC hsp (by omega)
  ·rw[ht]
   simp only[ASi];unfold eF at ht;rw[ANN,AOH]at ht;rw[ht.1,AOA,AM2 (by omega)];have htl:=(cM (s:=st) (ep:=a.1) hn (o:=1) ha.words).2.2;have hsm:∀s∈se.map (QN true a.1 a.2.1 (Br (Ae w) st a.1 n 1 a.2.1)),Bf s.1=true:=fun s hs' =>by
    obtain⟨s',h1,rfl⟩:=ATD.1 hs';exact hsp s' h1
   have:=AR3 h hs hn (SS:=SS) (ws:=pre++a::rest) (se:=se) (j:=pre.length) (B:=rest.length*300+w.2.2.2.2.2.2.2.1.length*100+2+130) (ep:=a.1) (x:=st.2.2.1) (y:=a.1) (z:=decide (st.2.2.1≥a.1)) (l0:=a.2.1) (R:=(some ((((),w.2.1,(),(),(),w.2.2.2.2.2.1,(),(),(),(),w.2.2.2.2.2.2.2.2.2.2.1,()),()),(w.1,SS,w.2.2.2.1,w.2.2.2.2.1,(pre++(a.1,Br (Ae w) st a.1 n 1 a.2.1,())::(FE true (Ae w) st w.BA n rest (se.map (QN true a.1 a.2.1 (Br (Ae w) st a.1 n 1 a.2.1)))).1),(w.2.2.2.2.2.2.2.1.map (Ln st w.BA n)),w.2.2.2.2.2.2.2.2.1,(FE true (Ae w) st w.BA n rest (se.map (QN true a.1 a.2.1 (Br (Ae w) st a.1 n 1 a.2.1)))).2,())):Option Bv)) (by omega) (by omega) (fun f hf=>by
    have:=AIz h hs hn (SS:=SS) (ws:=(pre++a::rest).set pre.length (a.1,Br (Ae w) st a.1 n 1 a.2.1,())) (se:=se) (j:=pre.length) (B:=rest.length*300+w.2.2.2.2.2.2.2.1.length*100+2) (ep:=a.1) (x:=st.2.2.1) (y:=a.1) (z:=decide (st.2.2.1≥a.1)) (old:=a.2.1) (new:=Br (Ae w) st a.1 n 1 a.2.1) (R:=(some ((((),w.2.1,(),(),(),w.2.2.2.2.2.1,(),(),(),(),w.2.2.2.2.2.2.2.2.2.2.1,()),()),(w.1,SS,w.2.2.2.1,w.2.2.2.2.1,(pre++(a.1,Br (Ae w) st a.1 n 1 a.2.1,())::(FE true (Ae w) st w.BA n rest (se.map (QN true a.1 a.2.1 (Br (Ae w) st a.1 n 1 a.2.1)))).1),(w.2.2.2.2.2.2.2.1.map (Ln st w.BA n)),w.2.2.2.2.2.2.2.2.1,(FE true (Ae w) st w.BA n rest (se.map (QN true a.1 a.2.1 (Br (Ae w) st a.1 n 1 a.2.1)))).2,())):Option Bv)) (by omega) cC hsp (by omega) hae (fun f hf=>by
     rw[AVo _ _ (by omega),AXR,AUE];exact next _ _ f (by simpa using cC) hsm hf) se.length 0 (by omega) (by omega) f (by omega)
    rw[show((0:Nat):Int)=0 from rfl,APS,AWG,ARU]at this;exact this) a.2.1 [] f (by simpa using ha) (by omega) (by simp)
   simp only[AQl,ARU]at this;exact this
end
section
variable{w:AA} (h:Nw w)
include h
theorem nE{d:BK}:XG w.2.1 w.2.2.2.2.2.1 w.2.2.2.2.2.2.2.2.2.2.1 d w.1 w.2.2.1 w.2.2.2.1 w.2.2.2.2.1 w.2.2.2.2.2.2.1 w.2.2.2.2.2.2.2.1 w.2.2.2.2.2.2.2.2.1 w.2.2.2.2.2.2.2.2.2.1=some (pkD (N_ true w d.2.1)):=by
 have k:=h.nums;have k1:=k.c;have k2:=k.wr;have k3:=k.lost;have k4:=k.st;have bl:=k.jf;have iY:=k.KF;have kH:=k.iZ;have k6:=k.md;unfold XG N_;rw[show(w.1,w.2.1,w.2.2.1,w.2.2.2.1,w.2.2.2.2.1,w.2.2.2.2.2.1,w.2.2.2.2.2.2.1,w.2.2.2.2.2.2.2.1,w.2.2.2.2.2.2.2.2.1,w.2.2.2.2.2.2.2.2.2.1,w.2.2.2.2.2.2.2.2.2.2.1,())=w from rfl,Ia (by omega) (by omega)];simp only[AD,Ct,As];by_cases h3:Aq w d.2.1=0
 rotate_left
 ·rw[AM2 h3,AM1 h3];rfl
 obtain⟨hr,s1,s2,s3⟩:=h.L8 h3;have cC:w.2.2.1.getD d.2.1.toNat ([],[],0,())=storeAt w d.2.1:=rfl;rw[AM1 h3,AM2 (show¬(Aq w d.2.1≠0)from fun hh=>hh h3)];simp only[AM1 hr,cC];rw[show((storeAt w d.2.1).1,(storeAt w d.2.1).2.1,(storeAt w d.2.1).2.2.1,())=storeAt w d.2.1 from rfl,OP s1 s2];simp only[AD,ia];rcases AM0 (Be (storeAt w d.2.1)).2 with h6|h6
 rotate_left
 ·rw[h6];rfl
 have hq:=(Nn h6).2.1;have hnn:=(h.node h3).1;rw[h6,AOA,F9];have G4:d.2.1.toNat<w.2.2.1.length:=by omega
 unfold XE Qz;rw[ASx,AM1 hr,Ni G4];have:=ANg h (st:=(Be (storeAt w d.2.1)).1) hq hnn (SS:=w.2.2.1.set d.2.1.toNat (Be (storeAt w d.2.1)).1) w.2.2.2.2.2.2.1 [] w.2.2.2.2.2.2.2.2.2.1 AX (by simpa using k2) (fun x hx=>(h.AN x hx).1) k.se (fun s hs=>(h.Al s hs).1) (ATE (AZ (by omega)));simp only[AQl,ARU]at this;rw[show((0:Nat):Int)=0 from rfl]at this;rw[show((Be (storeAt w d.2.1)).1.1,(Be (storeAt w d.2.1)).1.2.1,(Be (storeAt w d.2.1)).1.2.2.1,())=(Be (storeAt w d.2.1)).1 from rfl,this];rfl
end
end Go.M
end
section
set_option maxRecDepth 8000
namespace Go.M
open Go.M.H (AK AQ A0 Ai AA Cq AO A8 AR Ak Bd A9 BK Aj CB AU AW Ab Ag Bg Ax Ao Au EB CL Cy C_)
section
variable{w:AA} (h:Nw w)
include h
theorem rE{d:BK}(ze:CR d.2.1)(hd:d.2.2.2.2.1.length≤40)(hk:1≤d.1∧d.1≤16):∃w',cG w.2.1 w.2.2.2.2.2.1 w.2.2.2.2.2.2.2.2.2.2.1 d w.1 w.2.2.1 w.2.2.2.1 w.2.2.2.2.1 w.2.2.2.2.2.2.1 w.2.2.2.2.2.2.2.1 w.2.2.2.2.2.2.2.2.1 w.2.2.2.2.2.2.2.2.2.1=some (APd (w',(LQ true w d).2))∧((LQ true w d).2=0→w' =(LQ true w d).1):=by
 have k:=h.nums;have k1:=k.c;have k5:=k.era;unfold cG LQ;rw[show(d.1,d.2.1,d.2.2.1,d.2.2.2.1,d.2.2.2.2.1,())=d from rfl];simp only[DB];by_cases c1:d.1=1
 ·simp only[AM1 c1]
  rw[nF h];exact⟨_,rfl,fun _=>rfl⟩
 by_cases c2:d.1=2
 ·simp only[AM2 (show¬d.1=1 by omega),AM1 c2]
  obtain⟨w',e1,e2⟩:=p9 h (d:=d) hd;rw[e1];exact⟨w',rfl,e2⟩
 by_cases c3:d.1=3
 ·simp only[AM2 (show¬d.1=1 by omega),AM2 (show¬d.1=2 by omega),AM1 c3]
  rw[kX h];exact⟨_,rfl,fun _=>rfl⟩
 by_cases c4:d.1=4
 ·simp only[AM2 (show¬d.1=1 by omega),AM2 (show¬d.1=2 by omega),AM2 (show¬d.1=3 by omega),AM1 c4]
  rw[nE h];exact⟨_,rfl,fun _=>rfl⟩
 by_cases c6:d.1=6
 ·simp only[AM2 (show¬d.1=1 by omega),AM2 (show¬d.1=2 by omega),AM2 (show¬d.1=3 by omega),AM2 (show¬d.1=4 by omega),AM2 (show¬d.1=5 by omega),AM1 c6]
  rw[nP h];exact⟨_,rfl,fun _=>rfl⟩
 by_cases c7:d.1=7
 ·simp only[AM2 (show¬d.1=1 by omega),AM2 (show¬d.1=2 by omega),AM2 (show¬d.1=3 by omega),AM2 (show¬d.1=4 by omega),AM2 (show¬d.1=5 by omega),AM2 (show¬d.1=6 by omega),AM1 c7]
  rw[mm h];exact⟨_,rfl,fun _=>rfl⟩
 by_cases c8:d.1=8
 ·simp only[AM2 (show¬d.1=1 by omega),AM2 (show¬d.1=2 by omega),AM2 (show¬d.1=3 by omega),AM2 (show¬d.1=4 by omega),AM2 (show¬d.1=5 by omega),AM2 (show¬d.1=6 by omega),AM2 (show¬d.1=7 by omega),AM1 c8]
  rw[nW h];exact⟨_,rfl,fun _=>rfl⟩
 by_cases c9:d.1=9
 ·simp only[AM2 (show¬d.1=1 by omega),AM2 (show¬d.1=2 by omega),AM2 (show¬d.1=3 by omega),AM2 (show¬d.1=4 by omega),AM2 (show¬d.1=5 by omega),AM2 (show¬d.1=6 by omega),AM2 (show¬d.1=7 by omega),AM2 (show¬d.1=8 by omega),AM1 c9]
  rw[np h];exact⟨_,rfl,fun _=>rfl⟩
 by_cases c10:d.1=10
 ·simp only[AM2 (show¬d.1=1 by omega),AM2 (show¬d.1=2 by omega),AM2 (show¬d.1=3 by omega),AM2 (show¬d.1=4 by omega),AM2 (show¬d.1=5 by omega),AM2 (show¬d.1=6 by omega),AM2 (show¬d.1=7 by omega),AM2 (show¬d.1=8 by omega),AM2 (show¬d.1=9 by omega),AM1 c10]
  rw[nH h];exact⟨_,rfl,fun _=>rfl⟩
 by_cases c11:d.1=11
 ·simp only[AM2 (show¬d.1=1 by omega),AM2 (show¬d.1=2 by omega),AM2 (show¬d.1=3 by omega),AM2 (show¬d.1=4 by omega),AM2 (show¬d.1=5 by omega),AM2 (show¬d.1=6 by omega),AM2 (show¬d.1=7 by omega),AM2 (show¬d.1=8 by omega),AM2 (show¬d.1=9 by omega),AM2 (show¬d.1=10 by omega),AM1 c11]
  rw[qX h];exact⟨_,rfl,fun _=>rfl⟩
 by_cases c12:d.1=12
 ·simp only[AM2 (show¬d.1=1 by omega),AM2 (show¬d.1=2 by omega),AM2 (show¬d.1=3 by omega),AM2 (show¬d.1=4 by omega),AM2 (show¬d.1=5 by omega),AM2 (show¬d.1=6 by omega),AM2 (show¬d.1=7 by omega),AM2 (show¬d.1=8 by omega),AM2 (show¬d.1=9 by omega),AM2 (show¬d.1=10 by omega),AM2 (show¬d.1=11 by omega),AM1 c12]
  rw[lE h];exact⟨_,rfl,fun _=>rfl⟩
 by_cases c13:d.1=13
 ·simp only[AM2 (show¬d.1=1 by omega),AM2 (show¬d.1=2 by omega),AM2 (show¬d.1=3 by omega),AM2 (show¬d.1=4 by omega),AM2 (show¬d.1=5 by omega),AM2 (show¬d.1=6 by omega),AM2 (show¬d.1=7 by omega),AM2 (show¬d.1=8 by omega),AM2 (show¬d.1=9 by omega),AM2 (show¬d.1=10 by omega),AM2 (show¬d.1=11 by omega),AM2 (show¬d.1=12 by omega),AM1 c13]
  rw[show(w.1,w.2.1,())=Ae w from rfl,show(w.2.2.2.2.1,w.2.2.2.2.2.1,())=CO w from rfl,dB (c:=Ae w) (r:=CO w) (by show w.1.length≤_;omega) (by show AU Bg w.2.2.2.2.1≤_;omega) k.trim ze];simp only[AD,pkR,As,Ox];rcases AM0 (OW (Ae w) (CO w) d.2.1).2 with hq|hq
  ·rw[hq];exact⟨_,rfl,fun _=>rfl⟩
  ·rw[hq];exact⟨w,rfl,fun _=>rfl⟩
 by_cases c14:d.1=14
 ·simp only[AM2 (show¬d.1=1 by omega),AM2 (show¬d.1=2 by omega),AM2 (show¬d.1=3 by omega),AM2 (show¬d.1=4 by omega),AM2 (show¬d.1=5 by omega),AM2 (show¬d.1=6 by omega),AM2 (show¬d.1=7 by omega),AM2 (show¬d.1=8 by omega),AM2 (show¬d.1=9 by omega),AM2 (show¬d.1=10 by omega),AM2 (show¬d.1=11 by omega),AM2 (show¬d.1=12 by omega),AM2 (show¬d.1=13 by omega),AM1 c14]
  rw[mn h];exact⟨_,rfl,fun _=>rfl⟩
 by_cases c15:d.1=15
 ·simp only[AM2 (show¬d.1=1 by omega),AM2 (show¬d.1=2 by omega),AM2 (show¬d.1=3 by omega),AM2 (show¬d.1=4 by omega),AM2 (show¬d.1=5 by omega),AM2 (show¬d.1=6 by omega),AM2 (show¬d.1=7 by omega),AM2 (show¬d.1=8 by omega),AM2 (show¬d.1=9 by omega),AM2 (show¬d.1=10 by omega),AM2 (show¬d.1=11 by omega),AM2 (show¬d.1=12 by omega),AM2 (show¬d.1=13 by omega),AM2 (show¬d.1=14 by omega),AM1 c15]
  rw[nY h];exact⟨_,rfl,fun _=>rfl⟩
 simp only[AM2 c1,AM2 c2,AM2 c3,AM2 c4,AM2 c6,AM2 c7,AM2 c8,AM2 c9,AM2 c10,AM2 c11,AM2 c12,AM2 c13,AM2 c14,AM2 c15];rw[kd h];by_cases c5:d.1=5
 ·rw[AM1 c5,AM2 (by omega)]
  exact⟨_,rfl,fun _=>rfl⟩
 ·rw[AM2 c5,AM1 (by omega)]
  exact⟨_,rfl,fun _=>rfl⟩
end
theorem G2{w:AA}{n:Int}{q:AQ×Bool}(e:(putAt w n q).2≠0):(putAt w n q).1=w:=by
 unfold putAt at*;split at e
 ·exact absurd rfl e
 ·rename_i hq;rw[AM2 hq]
theorem vx{all:Bool}{w:AA}{d:BK}(e:(LQ all w d).2≠0):(LQ all w d).1=w:=by
 unfold LQ at*;by_cases c:d.1=1
 ·rw[AM1 c]at e⊢
  clear c
  revert e
  unfold Mf
  try dsimp only
  repeat' split
  all_goals first|(intro e;exact absurd rfl e)|(intro e;rfl)|(intro e;exact G2 e)
 rw[AM2 c]at e⊢;clear c;by_cases c:d.1=2
 ·rw[AM1 c]at e⊢
  clear c
  revert e
  unfold doAdd
  try dsimp only
  repeat' split
  all_goals first|(intro e;exact absurd rfl e)|(intro e;rfl)|(intro e;exact G2 e)
 rw[AM2 c]at e⊢;clear c;by_cases c:d.1=3
 ·rw[AM1 c]at e⊢
  clear c
  revert e
  unfold Iy
  try dsimp only
  repeat' split
  all_goals first|(intro e;exact absurd rfl e)|(intro e;rfl)|(intro e;exact G2 e)
 rw[AM2 c]at e⊢;clear c;by_cases c:d.1=4
 ·rw[AM1 c]at e⊢
  clear c
  revert e
  unfold N_
  try dsimp only
  repeat' split
  all_goals first|(intro e;exact absurd rfl e)|(intro e;rfl)|(intro e;exact G2 e)
 rw[AM2 c]at e⊢;clear c;by_cases c:d.1=5
 ·rw[AM1 c]at e⊢
  clear c
  revert e
  unfold I9
  try dsimp only
  repeat' split
  all_goals first|(intro e;exact absurd rfl e)|(intro e;rfl)|(intro e;exact G2 e)
 rw[AM2 c]at e⊢;clear c;by_cases c:d.1=6
 ·rw[AM1 c]at e⊢
  clear c
  revert e
  unfold M8
  try dsimp only
  repeat' split
  all_goals first|(intro e;exact absurd rfl e)|(intro e;rfl)|(intro e;exact G2 e)
 rw[AM2 c]at e⊢;clear c;by_cases c:d.1=7
 ·rw[AM1 c]at e⊢
  clear c
  revert e
  unfold Mk
  try dsimp only
  repeat' split
  all_goals first|(intro e;exact absurd rfl e)|(intro e;rfl)|(intro e;exact G2 e)
 rw[AM2 c]at e⊢;clear c;by_cases c:d.1=8
 ·rw[AM1 c]at e⊢
  clear c
  revert e
  unfold Mm
  try dsimp only
  repeat' split
  all_goals first|(intro e;exact absurd rfl e)|(intro e;rfl)|(intro e;exact G2 e)
 rw[AM2 c]at e⊢;clear c;by_cases c:d.1=9
 ·rw[AM1 c]at e⊢
  clear c
  revert e
  unfold Me
  try dsimp only
  repeat' split
  all_goals first|(intro e;exact absurd rfl e)|(intro e;rfl)|(intro e;exact G2 e)
 rw[AM2 c]at e⊢;clear c;by_cases c:d.1=10
 ·rw[AM1 c]at e⊢
  clear c
  revert e
  unfold My
  try dsimp only
  repeat' split
  all_goals first|(intro e;exact absurd rfl e)|(intro e;rfl)|(intro e;exact G2 e)
 rw[AM2 c]at e⊢;clear c;by_cases c:d.1=11
 ·rw[AM1 c]at e⊢
  clear c
  revert e
  unfold TT
  try dsimp only
  repeat' split
  all_goals first|(intro e;exact absurd rfl e)|(intro e;rfl)|(intro e;exact G2 e)
 rw[AM2 c]at e⊢;clear c;by_cases c:d.1=12
 ·rw[AM1 c]at e⊢
  clear c
  revert e
  unfold Iw
  try dsimp only
  repeat' split
  all_goals first|(intro e;exact absurd rfl e)|(intro e;rfl)|(intro e;exact G2 e)
 rw[AM2 c]at e⊢;clear c;by_cases c:d.1=13
 ·rw[AM1 c]at e⊢
  clear c
  revert e
  unfold Ox
  try dsimp only
  repeat' split
  all_goals first|(intro e;exact absurd rfl e)|(intro e;rfl)|(intro e;exact G2 e)
 rw[AM2 c]at e⊢;clear c;by_cases c:d.1=14
 ·rw[AM1 c]at e⊢
  clear c
  revert e
  unfold Ha
  try dsimp only
  repeat' split
  all_goals first|(intro e;exact absurd rfl e)|(intro e;rfl)|(intro e;exact G2 e)
 rw[AM2 c]at e⊢;clear c;by_cases c:d.1=15
 ·rw[AM1 c]at e⊢
  clear c
  revert e
  unfold N1
  try dsimp only
  repeat' split
  all_goals first|(intro e;exact absurd rfl e)|(intro e;rfl)|(intro e;exact G2 e)
 rw[AM2 c]at e⊢;clear c;unfold I6 at*;split at e
 ·rename_i h1;rw[AM1 h1]
 ·rename_i h1;rw[AM2 h1];exact G2 e
theorem V_{w:AA}{d:BK}(h:lF w)(ze:CR d.2.1):Pf w d=some (pkD (CC true w d)):=by
 unfold Pf CC;rw[show(w.1,w.2.1,w.2.2.1,w.2.2.2.1,w.2.2.2.2.1,w.2.2.2.2.2.1,w.2.2.2.2.2.2.1,w.2.2.2.2.2.2.2.1,w.2.2.2.2.2.2.2.2.1,w.2.2.2.2.2.2.2.2.2.1,w.2.2.2.2.2.2.2.2.2.2.1,())=w from rfl,show(d.1,d.2.1,d.2.2.1,d.2.2.2.1,d.2.2.2.2.1,())=d from rfl,cW h,qB,cU h];simp only[AD,As,Ct];rcases AM0 (Ft w)with hw|hw
 rotate_left
 ·rw[hw];rfl
 rcases AM0 (P7 d)with hd|hd
 rotate_left
 ·rw[hw,hd];rfl
 have hk:1≤d.1∧d.1≤16:=by
  unfold P7 at hd;exact Am.1 (ANN _ _▸hd).1
 rw[hw,hd,AOA,AOA];obtain⟨w',e1,e2⟩:=rE (EU.1 hw) ze (gi hd) hk;rw[e1];simp only[AD,ANZ,AXL,ANw,AQS];by_cases hc:(LQ true w d).2=0
 ·rw[e2 hc]
  rw[AM1 (show(APd ((LQ true w d).1,(LQ true w d).2)).1.1.2.1=0 from hc)];rfl
 ·rw[AM2 (show¬(APd (w',(LQ true w d).2)).1.1.2.1=0 from hc)]
  have:=vx hc;rw[show LQ true w d=(w,(LQ true w d).2)by rw[←Prod.eta (LQ true w d)];simp only[this]];rfl
end Go.M
end
section
namespace Go.M
open Go.M.H (Cq AO A8 AR AU AW Ab Bg Ax Ao wM qU dY)
section
variable{b:AAD} (hb:Bytes b) (hl:b.length≤2^30)
include hb hl
omit hb hl in
theorem qb{l:List A8}{e:A8}:AU Ax (l++[e])=AU Ax l+(1+Ax e):=by
 induction l with
 |nil=>simp[AU]
 |cons x l ih=>simp only[AS0,AU,ih];omega
end
end Go.M
end
section
namespace Go.M
def At(b:AAD)(a:Nat)(w:AAD)(a':Nat):Prop:=a' =a+w.length∧b.drop a=w++b.drop a'
theorem At.nil{b:AAD}{a:Nat}:At b a [] a:=⟨by simp,by simp⟩
theorem At.split{b w w':AAD}{a a2:Nat}(ha:a≤b.length)(h:At b a (w++w') a2):At b a w (a+w.length)∧At b (a+w.length) w' a2∧a+w.length≤b.length:=by
 obtain⟨h1,h2⟩:=h;have e1:b.drop (a+w.length)=w'++b.drop a2:=by
  rw[←List.drop_drop,h2,AOK];simp
 refine⟨⟨rfl,by rw[h2,e1,AOK]⟩,⟨by simp only[AOq]at h1;omega,e1⟩,?_⟩;have:=congrArg List.length h2;simp only[AOq,AT9]at this;omega
theorem At.all{b w:AAD}(h:At b 0 w b.length):b=w:=by
 have:=h.2;simpa using this
section
variable{b:AAD} (hb:Bytes b)
include hb
end
section
variable{code:AAD} (hc:code.length≤2^30)
include hc
theorem sG{i h:Int}{l:List AB_}(hi:CH code i)(hl:l≠[])(hn:l.length≤2^30):∃v i' h',HA l code i h=some ((v,()),((code,i',h',()),()))∧v∈l∧CH code i':=by
 unfold HA;have hp:=AXM.2 hl;obtain⟨v,i1,h1,e,v0,v1,_,J_⟩:=Ez hc (h:=h) (n:=l.length) hi (by omega);rw[e];simp only[AN0];have:=v1 (by omega);rw[AM1 ⟨v0,this⟩];obtain⟨k,rfl⟩:∃k:Nat,v=(k:Int):=⟨v.toNat,by omega⟩;exact⟨_,i1,h1,rfl,by rw[Ah (by omega)];exact AN7 _,J_⟩
theorem od{i h:Int}(hi:CH code i):∃v i' h',FD code i h=some ((v,()),((code,i',h',()),()))∧v<2^63∧ -2^63≤v∧CH code i':=by
 unfold FD CY;obtain⟨v1,i1,h1,e1,a1,b1,_,J_⟩:=Ez hc (h:=h) (n:=3) hi (by omega);rw[e1];simp only[AN0];obtain⟨v2,i2,h2,e2,a2,b2,_,Hq⟩:=Ez hc (h:=h1) (n:=6) J_ (by omega);rw[e2];simp only[AN0];obtain⟨v3,i3,h3,e3,a3,b3,_,KX⟩:=Ez hc (h:=h2) (n:=15) Hq (by omega);rw[e3];simp only[AN0];have:=b1 (by omega);have:=b2 (by omega);cases v3==0 with
 |true=>
  simp only[AOA];obtain⟨p,i4,h4,e4,hp,vA⟩:=Kv hc (h:=h3) (l:=[0,(-1),4294967296,4294967297,9223372036854775807,(-9223372036854775808)]) KX (by simp) (by simp);rw[e4];simp at hp;exact⟨p,i4,h4,rfl,by omega,by omega,vA⟩
 |false=>
  simp only[ANP];cases v3==1 with
  |true=>
   simp only[AOA];obtain⟨p,i4,h4,e4,hp,vA⟩:=Kv hc (h:=h3) (l:=[0,30,31]) KX (by simp) (by simp);rw[e4];simp only[AN0];obtain⟨q,i5,h5,e5,hq,hi5⟩:=Kv hc (h:=h4) (l:=[0,60,61]) vA (by simp) (by simp);rw[e5];simp only[AN0];simp at hp hq;rw[AH (x:=4294967296*p) (by omega) (by omega),AH (by omega) (by omega)];exact⟨_,i5,h5,rfl,by omega,by omega,hi5⟩
  |false=>
   simp only[ANP];rw[AH (x:=1+v1) (by omega) (by omega),AH (x:=1+v2) (by omega) (by omega),AH (x:=4294967296*_) (by omega) (by omega),AH (by omega) (by omega)];exact⟨_,i3,h3,rfl,by omega,by omega,KX⟩
end
end Go.M
end
section
namespace Go.M
open Go.M.H (Cq AO A8 AR AU AW Ab Bg Ax Ao wM qU dY)
section
variable{b:AAD} (hb:Bytes b) (hl:b.length≤2^30)
include hb hl
end
theorem xB{o:Int}{l:List A8}{x:Int}{y:List A8}{z:Int}(hl:AU Ax l≤2^30):∀(n i:Nat) (acc:List A8),i≤l.length→l.length-i<n→acc.length=i→
  Jy n i o l x y z acc=some (((z,(),()),()),(acc++l.drop i,()))
 |0,i,_,_,h,_=>by omega
 |n+1,i,acc,hi,h,ha=>by
  have xJ:=AW (f:=Ax) (l:=l);simp only[Jy,SN,AB];by_cases hc:i<l.length
  ·have hm:=Ab (f:=Ax) (AN7 hc)
   rw[AM1 (by omega),AM1 (by omega),Ah hc,drop_cons hc];simp only[Ax]at hm;rw[AM1 (by rw[An];omega),AM1 (by rw[An];omega),AH (by omega) (by omega),show((i:Int)+1)=((i+1:Nat):Int)by omega];rw[xB hl n (i+1) _ (by omega) (by omega) (by simp[ha])];simp only[AOK,AS0,ARU]
  ·rw[AM2 (by omega)]
   have:i=l.length:=by omega
   subst this;simp
theorem tG{w:AR}(hl:AU Ax w.2.1≤2^30):EO w=some (((w.1,(),()),()),(w.2.1,())):=by
 have xJ:=AW (f:=Ax) (l:=w.2.1);unfold EO Sv;have:=xB (o:=w.1) (l:=w.2.1) (x:=0) (y:=[]) (z:=w.1) hl AX 0 [] (by omega) (AZ (by omega)) rfl;simpa using this
theorem AEX{l:AAD}{x:Int}(hl:l.length≤2^30):∃r,Cw l x=some ((r,()),()):=by
 have key:∀(n i:Nat),i≤l.length→l.length-i<n→ ∃r,LB n l x i=some ((r,()),()):=by
  intro n
  induction n with
  |zero=>intro i _ h;omega
  |succ n ih=>
   intro i hi h;simp only[LB,UR,AB];by_cases hc:i<l.length
   ·rw[AM1 (by omega),AM1 (by omega),AH (by omega) (by omega),show((i:Int)+1)=((i+1:Nat):Int)by omega]
    cases(l.getD ((i:Int).toNat) 0==x)with
    |true=>exact⟨true,rfl⟩
    |false=>exact ih (i+1) (by omega) (by omega)
   ·rw[AM2 (by omega)]
    exact⟨false,rfl⟩
 unfold Cw Ub;have:=key AX 0 (by omega) (AZ (by omega));simpa using this
theorem nz{l:AAD}{x:Int}(hl:l.length≤2^30):∀(n i:Nat) (t:Bool) (b:AAD),i≤l.length→l.length-i<n→b.length≤i+cond t 1 0→ ∃l',Hp n l x t i b=some (((),()),(l',()))∧l'.length≤l.length+1
 |0,i,_,_,_,h,_=>by omega
 |n+1,i,t,b,hi,h,hbl=>by
  simp only[Hp,Pt,AB];have hb2:b.length≤i+1:=by cases t<;>simp at hbl<;>omega
  by_cases hc:i<l.length
  ·have hc2:(0:Int)≤(i:Int)∧(i:Int)<(l.length:Int):=by omega
   have Ym:b.length+1≤C7:=by rw[An];omega
   rw[AM1 hc2.2,AH (by omega) (by omega),show((i:Int)+1)=((i+1:Nat):Int)by omega];simp only[AM1 hc2,AM1 Ym];cases t with
   |true=>
    simp only[ANZ,ANP];exact nz hl n (i+1) true _ (by omega) (by omega) (by simp at hbl⊢;omega)
   |false=>
    simp only[ASd,AOA];simp at hbl;by_cases hg:l.getD ((i:Int).toNat) 0>x
    ·rw[AM1 hg,AM1 (by rw[An];simp;omega)]
     exact nz hl n (i+1) true _ (by omega) (by omega) (by simp;omega)
    ·rw[AM2 hg]
     exact nz hl n (i+1) false _ (by omega) (by omega) (by simp;omega)
  ·rw[AM2 (by omega),AM1 (by rw[An];omega)]
   cases t with
   |true=>exact⟨b,rfl,by omega⟩
   |false=>exact⟨_,rfl,by simp at hbl⊢;omega⟩
theorem ACl{l:AAD}{x:Int}(hl:l.length≤2^30):∃l',Ig l x=some (((),()),(l',()))∧l'.length≤l.length+1:=by
 unfold Ig Uk;obtain⟨r,h⟩:=AEX (x:=x) hl;rw[h];exact nz hl AX 0 r [] (by omega) (AZ (by omega)) (by cases r<;>simp)
def WI(l:List A8):Prop:=l.length≤61∧ ∀e∈l,e.1.length≤41∧e.2.1.length≤9
theorem WI.w{l:List A8}(h:WI l):AU Ax l≤4000:=by
 have key:∀l:List A8,(∀e∈l,e.1.length≤41∧e.2.1.length≤9)→AU Ax l≤60*l.length:=by
  intro l
  induction l with
  |nil=>intro _;simp[AU]
  |cons e l ih=>
   intro hh;have:=hh e (by simp);have:=ih (fun e he=>hh e (by simp[he]));simp only[AU,Ax,AOX]at this⊢;omega
 have:=key l h.2;have:=h.1;omega
theorem WI.of{c:CE}{w:AR}(h:Db c w=true):WI w.2.1:=by
 obtain⟨h1,h2,h3,h4⟩:=aL h;exact⟨by omega,fun e he=>by have:=jr (h4 e he);omega⟩
theorem tu{c:CE}{w:AR}{s:AB_}(hc:c.1.length≤2^40)(hw:WI w.2.1)(hs:s.length≤41):
  ∃w':AR,∃off ok,Gj c w s=some ((((w'.1,(),()),off,ok,()),()),(w'.2.1,()))∧WI w'.2.1:=by
 unfold Gj;have hww:=hw.w;rw[show(c.1,c.2.1,())=c from rfl,show(w.1,w.2.1,())=w from rfl,GN hc (by omega),tG (by omega)];simp only[AN0];cases Db c w with
 |false=>exact⟨(0,[],()),0,false,rfl,by simp[WI]⟩
 |true=>
  have h1:=hw.1;simp only[ANZ,ANP];rw[AM1 (by rw[An];omega)];have ADd:AU Ax (w.2.1++[(s,[],false,())])≤2^30:=by
   rw[qb];simp only[Ax,AQl];omega
  rw[GN (w:=(w.1,w.2.1++[(s,[],false,())],())) hc ADd];simp only[AN0];rcases AM0 (Db c (w.1,w.2.1++[(s,[],false,())],()))with hf|hf
  ·rw[hf]
   exact⟨(w.1,w.2.1++[(s,[],false,())],()),_,true,rfl,WI.of hf⟩
  ·rw[hf]
   exact⟨w,0,false,rfl,hw⟩
theorem tK{c:CE}{w:AR}{p q:Int}(hc:c.1.length≤2^40)(hw:WI w.2.1):
  ∃w':AR,∃ok,Dr c w p q=some ((((w'.1,(),()),ok,()),()),(w'.2.1,()))∧WI w'.2.1:=by
 unfold Dr;have hww:=hw.w;rw[show(c.1,c.2.1,())=c from rfl,show(w.1,w.2.1,())=w from rfl,GN hc (by omega),tG (by omega),BR,BR];simp only[AN0];rcases AM0 (Db c w)with FW|FW
 rotate_left
 ·rw[FW]
  exact⟨(0,[],()),false,rfl,by simp[WI]⟩
 have h1:=hw.1;rw[FW];simp only[ANZ,ANP];rcases AM0 (BL p 1 (w.2.1.length:Int))with hp|hp
 rotate_left
 ·rw[hp]
  exact⟨w,false,rfl,hw⟩
 rw[hp];simp only[ANZ,ANP];cases BL q 0 (AS ((c.1.length:Int)-1))with
 |false=>exact⟨w,false,rfl,hw⟩
 |true=>
  simp only[BL,AOH]at hp;rw[AH (x:=p-1) (by omega) (by omega)];obtain⟨k,hk⟩:∃k:Nat,p-1=(k:Int):=⟨(p-1).toNat,by omega⟩;rw[hk];have hkl:k<w.2.1.length:=by omega
  have hb:(0:Int)≤(k:Int)∧(k:Int)<(w.2.1.length:Int):=by omega
  simp only[ANZ,ANP,ASx];rw[AM1 hb,AM1 hb,Ah hkl];have he:=hw.2 _ (AN7 hkl);have he2:=jr ((aL FW).2.2.2 _ (AN7 hkl))
  generalize uN:w.2.1[k]=e at he he2
  cases e.2.2.1 with
  |true=>exact⟨w,false,rfl,hw⟩
  |false=>
   simp only[ANP];obtain⟨l',hl1,vE⟩:=ACl (l:=e.2.1) (x:=q) (by omega);rw[hl1];simp only[AN0];rw[AM1 hb,AM1 hb,AN4];have hg:(w.2.1.set k (e.1,l',false,())).getD k ([],[],false,())=(e.1,l',false,()):=by
    simp[List.getD,hkl]
   rw[hg];simp only;rw[DZ hc (by omega)];simp only[AN0];rw[AM1 hb];refine⟨(w.1,(w.2.1.set k (e.1,l',false,())).set k (e.1,l',holds c l',()),()),true,rfl,by simp only[ASx];exact h1,?_⟩;intro y hy;simp only[AW6]at hy;rcases ASk hy with hy|rfl
   ·exact hw.2 y hy
   ·exact⟨he.1,by simp only;omega⟩
section
variable{code:AAD} (hc:code.length≤2^30)
include hc
theorem QP{c:CE}(Zi:c.1.length≤2^20){x:Int}{y:List A8}:∀(n k:Nat) (i h:Int) (w:AR),CH code i→k≤14→14-k<n→WI w.2.1→
  ∃(w':AR) (i' h':Int),Im n k code i h c.1 c.2.1 x y w.1 w.2.1=some (((w'.1,(),()),()),((code,i',h',()),w'.2.1,()))∧WI w'.2.1∧CH code i'
 |0,_,_,_,_,_,_,h,_=>by omega
 |n+1,k,i,h,w,hi,hk,hn,hw=>by
  simp only[Im,TF,AB];obtain⟨v,i1,h1,e1,a1,b1,_,J_⟩:=Ez hc (h:=h) (n:=14) hi (by omega);rw[e1];simp only[AN0];have:=b1 (by omega);by_cases G4:(k:Int)<v
  ·rw[AM1 G4]
   obtain⟨s,i2,h2,e2,hs,Hq⟩:=sG hc (h:=h1) (l:=[[],[97],[98,99]]) J_ (by simp) (by simp);rw[e2];simp only[AN0];have hsl:s.length≤41:=by
    simp at hs;rcases hs with rfl|rfl|rfl<;>simp
   obtain⟨w1,off,ok,e3,hw1⟩:=tu (c:=c) (w:=w) (s:=s) (by omega) hw hsl;rw[show(c.1,c.2.1,())=c from rfl,show(w.1,w.2.1,())=w from rfl,e3];simp only[AN0];obtain⟨o,i3,h3,e4,KX⟩:=lg hc (h:=h2) (n:=2) Hq (by omega);rw[e4];simp only[AN0];rw[AH (x:=(k:Int)+1) (by omega) (by omega),show((k:Int)+1)=((k+1:Nat):Int)by omega];cases o with
   |true=>
    simp only[AOA];have h61:=hw.1;obtain⟨m,em,hm⟩:∃m:Int,FQ (w.2.1.length:Int) 1=some ((m,()),())∧m≤2^40:=by
     unfold FQ;rw[AB];split
     ·exact⟨_,rfl,by omega⟩
     ·exact⟨1,rfl,by omega⟩
    rw[em];simp only[AN0];obtain⟨v4,i4,h4,e5,a5,b5,_,vA⟩:=Ez hc (h:=h3) (n:=m) KX hm;rw[e5];simp only[AN0];obtain⟨v5,i5,h5,e6,a6,b6,_,hi5⟩:=Ez hc (h:=h4) (n:=(c.1.length:Int)) vA (by omega);rw[e6];simp only[AN0];obtain⟨w2,ok2,e7,hw2⟩:=tK (c:=c) (w:=w) (p:=AS (1+v4)) (q:=v5) (by omega) hw;rw[e7];simp only[AN0];cases ok2 with
    |true=>exact QP Zi n (k+1) i5 h5 w2 hi5 (by omega) (by omega) hw2
    |false=>exact QP Zi n (k+1) i5 h5 w hi5 (by omega) (by omega) hw
   |false=>
    simp only[ANP];cases ok with
    |true=>exact QP Zi n (k+1) i3 h3 w1 KX (by omega) (by omega) hw1
    |false=>exact QP Zi n (k+1) i3 h3 w KX (by omega) (by omega) hw
  ·rw[AM2 G4]
   exact⟨w,i1,h1,rfl,hw,J_⟩
theorem om{c:CE}(Zi:c.1.length≤2^20){i h:Int}(hi:CH code i):
  ∃(w':AR) (i' h':Int),Pm c code i h=some (((w'.1,(),()),()),((code,i',h',()),w'.2.1,()))∧WI w'.2.1∧CH code i':=by
 unfold Pm Sl;obtain⟨v,i1,h1,e1,a1,b1,_,J_⟩:=Ez hc (h:=h) (n:=4) hi (by omega);rw[e1];exact QP hc Zi AX 0 i1 h1 (AS (1+v),[],()) J_ (by omega) (AZ (by omega)) (by simp[WI])
omit hc in
theorem wS{x:Int}{y:List A8}{z:Int}{i h:Int}(hi:CH code i):∀(n:Nat) (l:List A8),61-l.length<n→WI l→
  ∃l',HC n code i h x y z l=some (((z,(),()),()),((code,i,h,()),l',()))∧WI l'
 |0,_,h,_=>by omega
 |n+1,l,hn,hw=>by
  simp only[HC,Q0,AB];have h1:=hw.1;by_cases h60:l.length<60
  ·rw[AM1 (by omega)]
   by_cases h0:0<l.length
   ·rw[AM1 (by omega),AM1 (by omega),AM1 (by rw[An];omega)]
    refine wS hi n _ (by simp;omega) ⟨by simp;omega,fun e he=> ?_⟩;rcases AOk.1 he with he|he
    ·exact hw.2 e he
    ·simp only[ARu]at he
     have hm:l.getD 0 ([],[],false,())∈l:=by
      have:=Ah (l:=l) (i:=0) (d:=([],[],false,())) h0;simp only[Int.ofNat_zero,Int.toNat_zero]at this;rw[this];exact AN7 _
     rw[he];exact hw.2 _ hm
   ·rw[AM2 (by omega)]
    exact⟨l,rfl,hw⟩
  ·rw[AM2 (by omega)]
   exact⟨l,rfl,hw⟩
theorem AB2{c:CE}(Zi:c.1.length≤2^20){i h:Int}(hi:CH code i):
  ∃(w':AR) (i' h':Int),Oo c code i h=some (((w'.1,(),()),()),((code,i',h',()),w'.2.1,()))∧AU Ax w'.2.1≤4000∧CH code i':=by
 unfold Oo OV;obtain⟨w,i1,h1,e1,hw,J_⟩:=om hc Zi (h:=h) hi;rw[show(c.1,c.2.1,())=c from rfl,e1];simp only[AN0];obtain⟨v,i2,h2,e2,a2,b2,_,Hq⟩:=Ez hc (h:=h1) (n:=25) J_ (by omega);rw[e2];simp only[AN0];have h61:=hw.1;cases v==0 with
 |true=>
  simp only[AOA];obtain⟨p,i3,h3,e3,hp,KX⟩:=Kv hc (h:=h2) (l:=[0,30,31]) Hq (by simp) (by simp);rw[e3];exact⟨(p,w.2.1,()),i3,h3,rfl,hw.w,KX⟩
 |false=>
  simp only[ANP];cases v==1 with
  |true=>
   simp only[AOA,AB];by_cases h0:0<w.2.1.length
   ·rw[AM1 (by omega),AM1 (by omega),AM1 (by omega)]
    refine⟨(w.1,w.2.1.set 0 ((w.2.1.getD 0 ([],[],false,())).1,(w.2.1.getD 0 ([],[],false,())).2.1,!(w.2.1.getD 0 ([],[],false,())).2.2.1,()),()),i2,h2,rfl,WI.w ⟨by simp;omega,fun e he=> ?_⟩,Hq⟩;rcases ASk he with he|rfl
    ·exact hw.2 e he
    ·have hm:w.2.1.getD 0 ([],[],false,())∈w.2.1:=by
      have:=Ah (l:=w.2.1) (i:=0) (d:=([],[],false,())) h0;simp only[Int.ofNat_zero,Int.toNat_zero]at this;rw[this];exact AN7 _
     have:=hw.2 _ hm;exact this
   ·rw[AM2 (by omega)]
    exact⟨w,i2,h2,rfl,hw.w,Hq⟩
  |false=>
   simp only[ANP];cases v==2 with
   |true=>
    simp only[AOA];obtain⟨p,i3,h3,e3,a3,b3,_,KX⟩:=Ez hc (h:=h2) (n:=2) Hq (by omega);rw[e3];simp only[AN0];have:=b3 (by omega);rw[AH (by omega) (by omega),AM1 (by rw[An];omega),AM1 (by rw[An];omega)];refine⟨(w.1,w.2.1++[(List.map (fun n:Int=>UInt8.ofNat n.toNat) (List.replicate (40+p).toNat 0),[],false,())],()),i3,h3,rfl,?_,KX⟩;have hww:=hw.w;have key:=qb (l:=w.2.1) (e:=(List.map (fun n:Int=>UInt8.ofNat n.toNat) (List.replicate (40+p).toNat 0),[],false,()));have hws:AU Ax w.2.1≤60*61:=by
     have AaO:∀l:List A8,(∀e∈l,e.1.length≤41∧e.2.1.length≤9)→AU Ax l≤60*l.length:=by
      intro l
      induction l with
      |nil=>intro _;simp[AU]
      |cons e l ih=>
       intro hh;have:=hh e (by simp);have:=ih (fun e he=>hh e (by simp[he]));simp only[AU,Ax,AOX]at this⊢;omega
     have:=AaO _ hw.2;omega
    simp only;rw[key];simp only[Ax,ATV,AS8,AQl];omega
   |false=>
    simp only[ANP];cases v==3 with
    |true=>
     simp only[AOA];obtain⟨l',e4,hw4⟩:=wS (x:=0) (y:=[]) (z:=w.1) (h:=h2) Hq AX w.2.1 (AZ (by omega)) hw;rw[e4];exact⟨(w.1,l',()),i2,h2,rfl,hw4.w,Hq⟩
    |false=>exact⟨w,i2,h2,rfl,hw.w,Hq⟩
end
end Go.M
end
section
set_option maxRecDepth 8000
namespace Go.M
open Go.M.H (AK AQ A0 Ai AA Cq AO A8 AR Ak Bd A9 BK Aj CB AU AW Ab Ag Bg Ax Ao Au EB CL Cy C_)
def OK(code:AAD){X Y:Type}(Q:X→Y→Prop)(o:Option (X×(ACW×Y))):Prop:=
 ∃x i h y,o=some (x,((code,i,h,()),y))∧CH code i∧Q x y
section
variable{code:AAD} {X Y Z W:Type} {Q:X→Y→Prop} {R:Z→W→Prop}
theorem OK.bind{o:Option (X×(ACW×Y))}{f:X×(ACW×Y)→Option (Z×(ACW×W))}
  (ho:OK code Q o) (hf:∀x i h y,CH code i→Q x y→OK code R (f (x,((code,i,h,()),y)))):OK code R (o.bind f):=by
 obtain⟨x,i,h,y,e,hi,hq⟩:=ho;rw[e];exact hf x i h y hi hq
theorem OK.pure{A:Type}{o:Option A}{a:A}{f:A→Option (Z×(ACW×W))}(ho:o=some a)(hf:OK code R (f a)):OK code R (o.bind f):=by
 rw[ho];exact hf
theorem OK.some{x:X}{i h:Int}{y:Y}(hi:CH code i)(hq:Q x y):OK code Q (some (x,((code,i,h,()),y))):=⟨x,i,h,y,rfl,hi,hq⟩
theorem OK.cond{b:Bool}{x y:Option (X×(ACW×Y))}(h1:b=true→OK code Q x)(h2:b=false→OK code Q y):OK code Q (cond b x y):=by
 cases b
 ·exact h2 rfl
 ·exact h1 rfl
theorem OK.OE{p:Prop}[Decidable p]{x y:Option (X×(ACW×Y))}(h1:p→OK code Q x)(h2: ¬p→OK code Q y):OK code Q (_root_.cond (decide p) x y):=by
 by_cases hp:p
 ·rw[AQg hp];exact h1 hp
 ·rw[ASg hp];exact h2 hp
theorem OK.Fh{a b:Int}{x y:Option (X×(ACW×Y))}(h1:a=b→OK code Q x)(h2:a≠b→OK code Q y):OK code Q (_root_.cond (a==b) x y):=by
 rw[DB];by_cases hp:a=b
 ·rw[AM1 hp];exact h1 hp
 ·rw[AM2 hp];exact h2 hp
theorem OK.ite{p:Prop}[Decidable p]{x y:Option (X×(ACW×Y))}(hp:p)(h1:OK code Q x):OK code Q (if p then x else y):=by
 rw[AM1 hp];exact h1
end
section
variable{code:AAD} (hc:code.length≤2^30)
include hc
theorem Bz{i h n:Int}(hi:CH code i)(hn:n≤2^40):OK code (fun(x:ABw) (y:Unit)=>0≤x.1∧(0<n→x.1<n)∧(n≤0→x.1=0)) (AJ n code i h):=by
 obtain⟨v,i',h',e,v0,v1,v2,DL⟩:=Ez hc (h:=h) hi hn;exact⟨(v,()),i',h',(),e,DL,v0,v1,v2⟩
theorem M4{i h n:Int}(hi:CH code i)(hn:n≤2^40):OK code (fun(x:ABV) (y:Unit)=>True) (A5 n code i h):=by
 obtain⟨v,i',h',e,DL⟩:=lg hc (h:=h) hi hn;exact⟨(v,()),i',h',(),e,DL,trivial⟩
theorem Q_{i h:Int}{l:AAD}(hi:CH code i)(hl:l≠[])(hn:l.length≤2^30):OK code (fun(x:ABw) (y:Unit)=>x.1∈l) (CP l code i h):=by
 obtain⟨v,i',h',e,hv,DL⟩:=Kv hc (h:=h) hi hl hn;exact⟨(v,()),i',h',(),e,DL,hv⟩
theorem oG{i h:Int}{l:List AB_}(hi:CH code i)(hl:l≠[])(hn:l.length≤2^30):OK code (fun(x:AFm) (y:Unit)=>x.1∈l) (HA l code i h):=by
 obtain⟨v,i',h',e,hv,DL⟩:=sG hc (h:=h) hi hl hn;exact⟨(v,()),i',h',(),e,DL,hv⟩
theorem S5{c:CE}(Zi:c.1.length≤2^10){i h:Int}(hi:CH code i):OK code (fun(x:ACP) (y:ACQ)=>y.1.length≤2^12) (FK c code i h):=by
 have key:∀(n k N:Nat) (i h:Int) (b:AAD),CH code i→k≤N→N-k<n→N≤2^11→b.length≤k→
   OK code (fun(x:ACP) (y:ACQ)=>y.1.length≤2^12) (Io n N k code i h c.1 c.2.1 b):=by
  intro n
  induction n with
  |zero=>intro k N i h b _ _ h;omega
  |succ n ih=>
   intro k N i h b hi hk hn hN hb;simp only[Io,S7];refine OK.OE (fun G4=> ?_) (fun uN=> ?_)
   ·refine OK.pure JF ?_
    dsimp only;refine OK.bind (Bz hc hi (by omega)) fun x i' h' y DL hq=> ?_
    dsimp only;refine OK.pure (LF (by omega)) ?_
    dsimp only;rw[AH (by omega) (by omega),show((k:Int)+1)=((k+1:Nat):Int)by omega];have:=TQ (n:=x.1) (l:=b);exact ih (k+1) N _ _ _ DL (by omega) (by omega) hN (by omega)
   ·refine OK.bind (M4 hc hi (by omega)) fun x i' h' y DL hq=> ?_
    dsimp only;refine OK.cond (fun _=> ?_) (fun _=> ?_)
    ·refine OK.bind (Q_ hc DL (by simp) (by simp)) fun x i' h' y DL hq=> ?_
     dsimp only;refine OK.ite (by rw[An];omega) ?_
     exact OK.some DL (by simp;omega)
    ·exact OK.some DL (by show b.length≤_;omega)
 unfold FK Sx;rw[AH (by omega) (by omega)];refine OK.bind (Bz hc hi (by omega)) fun x i' h' y DL hq=> ?_
 dsimp only;obtain⟨N,hN⟩:∃N:Nat,x.1=N:=⟨x.1.toNat,by omega⟩;rw[hN];exact key AX 0 N i' h' [] DL (by omega) (AZ (by omega)) (by omega) (by simp)
theorem gY{c:CE}(Zi:c.1.length≤2^10){i h:Int}(hi:CH code i):OK code (fun(x:ACP) (y:ACQ)=>y.1.length≤2^13) (Hv c code i h):=by
 have key:∀(n k:Nat) (i h:Int) (b:AAD),CH code i→k≤c.1.length→c.1.length-k<n→b.length≤2^12+k→
   OK code (fun(x:ACP) (y:ACQ)=>y.1.length≤2^13) (Kf n k code i h c.1 c.2.1 b):=by
  intro n
  induction n with
  |zero=>intro k i h b _ _ h;omega
  |succ n ih=>
   intro k i h b hi hk hn hb;simp only[Kf,Vn];refine OK.OE (fun G4=> ?_) (fun uN=>OK.some hi (by show b.length≤_;omega));refine OK.pure (DZ (c:=(c.1,c.2.1,())) (by show c.1.length≤_;omega) (by omega)) ?_
   dsimp only;refine OK.cond (fun _=> ?_) (fun _=>OK.some hi (by show b.length≤_;omega));refine OK.pure (LF (by omega)) ?_
   dsimp only;rw[AH (by omega) (by omega),show((k:Int)+1)=((k+1:Nat):Int)by omega];have:=TQ (n:=(k:Int)) (l:=b);exact ih (k+1) _ _ _ hi (by omega) (by omega) (by omega)
 unfold Hv VP;refine OK.bind (S5 hc (c:=(c.1,c.2.1,())) Zi hi) fun x i' h' y DL hq=> ?_
 dsimp only;exact key AX 0 i' h' y.1 DL (by omega) (AZ (by omega)) (by omega)
end
theorem AIA{x:Int}:CR (IntKind.wrap .i64 x):=by
 unfold CR IntKind.wrap;simp[IntKind.bits,IntKind.signed];split<;>omega
theorem AQL{a b:Int}:CR (bOr .i64 a b):=by
 unfold bOr;exact AIA
theorem t_{l:AAD}(hl:l.length≤2^20):∃r,L4 l=some ((r,()),())∧CR r:=by
 have key:∀(n k:Nat) (t:Int),(∀x∈l,0≤x)→CR t→k≤l.length→l.length-k<n→ ∃r,K5 n l t k=some ((r,()),())∧CR r:=by
  intro n
  induction n with
  |zero=>intro k t _ _ _ h;omega
  |succ n ih=>
   intro k t hp ht hk hn;simp only[K5,VV,AB];by_cases G4:k<l.length
   ·rw[AM1 (by omega),AM1 (by omega),Ah G4,AM2 (by have:=hp _ (AN7 G4);omega),AH (x:=(k:Int)+1) (by omega) (by omega),show((k:Int)+1)=((k+1:Nat):Int)by omega]
    exact ih (k+1) _ hp AQL (by omega) (by omega)
   ·rw[AM2 (by omega)]
    exact⟨t,rfl,ht⟩
 unfold L4 Vt;rw[f_ (by omega)];simp only[AD,As];rcases AM0 (ql l 7)with ha|ha
 ·rw[ha]
  exact key AX 0 0 (fun x hx=>((w8.1 ha).1 x hx).1) (by unfold CR;omega) (by omega) (AZ (by omega))
 ·rw[ha]
  exact⟨-1,rfl,by unfold CR;omega⟩
end Go.M
end
section
set_option maxRecDepth 8000
namespace Go.M
open Go.M.H (AK AQ A0 Ai AA Cq AO A8 AR Ak Bd A9 BK Aj CB AU AW Ab Ag Bg Ax Ao Au EB CL Cy C_)
abbrev jt:BK×Unit→Unit→Prop:=fun x _=>CR x.1.2.1∧CR x.1.2.2.1∧CR x.1.2.2.2.1∧x.1.2.2.2.2.1.length≤40
theorem ABb{x:AB_}(h:x∈[[],[97],[98,99],[100]]):x.length≤40:=by
 simp only[ARi,List.not_mem_nil,or_false]at h;rcases h with rfl|rfl|rfl|rfl<;>simp
theorem AE_(x:Int):CR (AS x):=by
 unfold AS IntKind.wrap CR;simp[IntKind.bits,IntKind.signed];split<;>omega
theorem ON{x:Int}(h: -1000≤x∧x≤1000):CR x:=by unfold CR;omega
section
variable{code:AAD} (hc:code.length≤2^30) {w:AA} (h:Nw w)
include hc h
theorem Nw.ADX{e:Int}(he:1≤e∧e≤w.BA.length):0<(Bh w.BA e).length∧(Bh w.BA e).length≤8∧ ∀x∈Bh w.BA e,0≤x∧x<8:=by
 have hh:=(h.nj.BA _ (BU (d:=G3) (show(e-1).toNat<(CO w).1.length by show _<w.BA.length;omega))).1;have hn:=VU hh;have Zi:=(Dl h.cfg).2.1;unfold Bh;rw[Am.2 he,AM1 rfl];refine⟨?_,GI hn,fun x hx=> ?_⟩
 ·rcases AWa (w.BA.getD (e-1).toNat G3).1.length with h0|h0
  ·have wT:=ARO h0
   have hh':holds (Ae w) (w.BA.getD (e-1).toNat G3).1=true:=hh;rw[wT,holds_nil]at hh';cases hh'
  ·exact h0
 ·have:=(En.1 hn).2.1 x hx
  omega
theorem ub(hw:0<w.AN.length){i hh:Int}(hi:CH code i):OK code jt (Gp w code i hh):=by
 have k:=h.nums;have k2:=k.wr;have k5:=k.era;have rp:0<w.2.2.2.2.2.2.1.length:=hw;have tail:∀(j:Int),0≤j→j<(w.2.2.2.2.2.2.1.length:Int)→ ∀i hh,CH code i→OK code jt (
   (CZ (w.2.2.2.2.1,w.2.2.2.2.2.1,()) ((w.2.2.2.2.2.2.1.getD (j.toNat) (0,[],())).1)).bind fun WL=>
   (AJ (WL.2.1.length:Int) code i hh).bind fun MY=>
   if(0:Int)≤MY.1.1∧MY.1.1<(WL.2.1.length:Int)then(
   cond ((((w.2.2.2.2.2.2.1.getD (j.toNat) (0,[],())).2.1).length:Int)==0)
    ((HA [[],[97],[98,99],[100]] MY.2.1.1 MY.2.1.2.1 MY.2.1.2.2.1).bind fun Z3=>
    some (((2,j,0,0,Z3.1.1,()),()),((Z3.2.1.1,Z3.2.1.2.1,Z3.2.1.2.2.1,()),())))
   ((A5 7 MY.2.1.1 MY.2.1.2.1 MY.2.1.2.2.1).bind fun It=>
   cond (It.1.1)
    ((HA [[],[97],[98,99],[100]] It.2.1.1 It.2.1.2.1 It.2.1.2.2.1).bind fun Yj=>
    some (((2,j,0,0,Yj.1.1,()),()),((Yj.2.1.1,Yj.2.1.2.1,Yj.2.1.2.2.1,()),())))
   ((A5 3 It.2.1.1 It.2.1.2.1 It.2.1.2.2.1).bind fun cw=>
   cond (cw.1.1)
    (some (((4,(WL.2.1.getD (MY.1.1.toNat) 0),0,0,[],()),()),((cw.2.1.1,cw.2.1.2.1,cw.2.1.2.2.1,()),())))
   ((UC (((w.2.2.2.2.2.2.1.getD (j.toNat) (0,[],())).2.1).length:Int) 3).bind fun bW=>
   (AJ bW.1.1 cw.2.1.1 cw.2.1.2.1 cw.2.1.2.2.1).bind fun PT=>
   some (((3,j,AS ((((w.2.2.2.2.2.2.1.getD (j.toNat) (0,[],())).2.1).length:Int)-PT.1.1),(WL.2.1.getD (MY.1.1.toNat) 0),[],()),()),((PT.2.1.1,PT.2.1.2.1,PT.2.1.2.2.1,()),()))))))else none):=by
  intro j hj0 hj1 i hh hi;have hx:=h.AN _ (BU (d:=B8) (show j.toNat<w.AN.length by show j.toNat<w.2.2.2.2.2.2.1.length;omega));have he:=hx.1.ep;obtain⟨e1,e2,e3⟩:=h.ADX hc (e:=(w.AN.getD j.toNat B8).1) ⟨he.1,hx.2⟩;refine OK.pure (FJ (r:=CO w) (by show AU Bg w.2.2.2.2.1≤_;omega)) ?_
  dsimp only
  generalize hns:Bh (CO w).1 (w.2.2.2.2.2.2.1.getD j.toNat (0,[],())).1=ns
  have AQ2:Bh w.BA (w.AN.getD j.toNat B8).1=ns:=hns;rw[AQ2]at e1 e2 e3;refine OK.bind (Bz hc hi (by omega)) fun x i1 h1 y J_ hq=> ?_
  dsimp only at*;refine OK.ite (by omega) ?_
  have AD7:CR (ns.getD x.1.toNat 0):=ON (by have:=e3 _ (BU (l:=ns) (i:=x.1.toNat) (d:=0) (by omega));omega);have hjj:CR j:=ON (by omega);have z:CR 0:=ON (by omega)
  repeat' (first|refine OK.some (by assumption) ?_|refine OK.OE (fun _=> ?_) (fun _=> ?_)|refine OK.Fh (fun _=> ?_) (fun _=> ?_)|refine OK.cond (fun _=> ?_) (fun _=> ?_)|refine OK.ite (by omega) ?_|(refine OK.bind (M4 (by assumption) (by assumption) (by omega)) fun x i h y hi hq=> ?_;dsimp only)|(refine OK.bind (Bz (by assumption) (by assumption) (by omega)) fun x i h y hi hq=> ?_;dsimp only at*)|(refine OK.bind (oG (by assumption) (by assumption) (by simp) (by simp)) fun x i h y hi hq=> ?_;dsimp only)|(refine OK.pure Z4 ?_;dsimp only)|(refine OK.pure JF ?_;dsimp only))
  all_goals refine⟨?_,?_,?_,?_⟩
  all_goals first
   |assumption
   |exact AE_ _
   |exact AW2 _
   |exact ABb (by assumption)
 unfold Gp;dsimp only;have e1:AS ((w.2.2.2.2.2.2.1.length:Int)-1)=(w.2.2.2.2.2.2.1.length:Int)-1:=AH (by omega) (by omega);simp only[e1];refine OK.bind (Bz hc hi (by omega)) fun x i1 h1 y J_ hq=> ?_
 dsimp only at*;refine OK.bind (M4 hc J_ (by omega)) fun x2 i2 h2 y2 Hq rb=> ?_
 dsimp only at*;refine OK.cond (fun _=> ?_) (fun _=> ?_)
 ·refine OK.ite (by omega) ?_
  exact tail _ (by omega) (by omega) _ _ Hq
 ·refine OK.ite (by omega) ?_
  exact tail _ (by omega) (by omega) _ _ Hq
end
end Go.M
end
section
set_option maxRecDepth 8000
namespace Go.M
open Go.M.H (AK AQ A0 Ai AA Cq AO A8 AR Ak Bd A9 BK Aj CB AU AW Ab Ag Bg Ax Ao Au EB CL Cy C_)
section
variable{code:AAD} (hc:code.length≤2^30) {w:AA} (h:Nw w)
include hc h
theorem vN{m:A0}(hm:kF (Ae w) m){t7:Int}(h7:CR t7):∀(n k:Nat) (t8 i hh:Int),CR t8→CH code i→k≤m.2.2.2.2.2.1.length→m.2.2.2.2.2.1.length-k<n→
  OK code jt (GM n t7 t8 k code i hh w.1 w.2.1 w.2.2.1 w.2.2.2.1 w.2.2.2.2.1 w.2.2.2.2.2.1 w.2.2.2.2.2.2.1 w.2.2.2.2.2.2.2.1 w.2.2.2.2.2.2.2.2.1 w.2.2.2.2.2.2.2.2.2.1 w.2.2.2.2.2.2.2.2.2.2.1 0 0 0 0 [] m.1 m.2.1 m.2.2.1 m.2.2.2.1 m.2.2.2.2.1 m.2.2.2.2.2.1):=by
 have k1:=h.nums.c;have xI:m.2.2.2.2.2.1.length≤60:=by
  have:=hm.n;have hb:=Hj (l:=m.2.2.2.1);split at this<;>omega
 intro n
 induction n with
 |zero=>intro k t8 i hh _ _ _ h;omega
 |succ n ih=>
  intro k t8 i hh h8 hi hk hn;have hk8:CR ((k+1:Nat):Int):=ON (by omega);simp only[GM,Rf];refine OK.OE (fun G4=> ?_) (fun uN=>OK.some hi ⟨ON (by show-1000≤(0:Int)∧(0:Int)≤1000;omega),h8,h7,AW2 _⟩);have AZE:k<m.2.2.2.2.2.1.length:=by omega
  refine OK.ite (by omega) ?_
  rw[AH (x:=(k:Int)+1) (by omega) (by omega),show((k:Int)+1)=((k+1:Nat):Int)by omega];have wE:=GI (hm.wrote _ (BU (d:=[]) AZE));refine OK.pure (DZ (c:=Ae w) (by show w.1.length≤_;omega) (by show(m.2.2.2.2.2.1.getD k []).length≤_;omega)) ?_
  dsimp only;refine OK.cond (fun _=> ?_) (fun _=>ih (k+1) _ _ _ h8 hi (by omega) (by omega));refine OK.bind (M4 hc hi (by omega)) fun x2 i2 h2 y2 Hq rb=> ?_
  dsimp only;exact OK.cond (fun _=>ih (k+1) _ _ _ hk8 Hq (by omega) (by omega)) (fun _=>ih (k+1) _ _ _ h8 Hq (by omega) (by omega))
theorem wL{i hh:Int}(hi:CH code i):OK code jt (L1 w code i hh):=by
 have k:=h.nums;have k5:=k.era;unfold L1 Se;have z:CR 0:=ON (by omega);refine OK.Fh (fun _=>OK.some hi ⟨z,z,z,AW2 _⟩) (fun ea=> ?_);have hlen:0<w.CI.length:=by show 0<w.2.2.2.2.2.2.2.1.length;omega
 refine OK.ite (by omega) ?_
 have hmm:=h.CI _ (BU (d:=Ra) hlen)
 generalize hg:w.2.2.2.2.2.2.2.1.getD 0 (0,0,[],[],false,[],())=m
 have vz:w.CI.getD 0 Ra=m:=hg;rw[vz]at hmm;obtain⟨hm,hm2,hm3⟩:=hmm;have he:=hm.ep;have hb:=hm.b;obtain⟨e1,e2,e3⟩:=h.ADX hc (e:=m.2.1) ⟨he.1,by omega⟩;have xI:m.2.2.2.2.2.1.length≤60:=by
  have:=hm.n;have hb:=Hj (l:=m.2.2.2.1);split at this<;>omega
 refine OK.pure (FJ (r:=CO w) (by show AU Bg w.2.2.2.2.1≤_;omega)) ?_
 dsimp only
 generalize hns:Bh (CO w).1 m.2.1=ns
 have AQ2:Bh w.BA m.2.1=ns:=hns;rw[AQ2]at e1 e2 e3;refine OK.bind (Bz hc hi (by omega)) fun x i1 h1 y J_ hq=> ?_
 dsimp only at*;refine OK.ite (by omega) ?_
 have AD7:CR (ns.getD x.1.toNat 0):=ON (by have:=e3 _ (BU (l:=ns) (i:=x.1.toNat) (d:=0) (by omega));omega);have fin:∀t8 i hh,CR t8→CH code i→OK code jt (GM AX (ns.getD x.1.toNat 0) t8 0 code i hh w.1 w.2.1 w.2.2.1 w.2.2.2.1 w.2.2.2.2.1 w.2.2.2.2.2.1 w.2.2.2.2.2.2.1 w.2.2.2.2.2.2.2.1 w.2.2.2.2.2.2.2.2.1 w.2.2.2.2.2.2.2.2.2.1 w.2.2.2.2.2.2.2.2.2.2.1 0 0 0 0 [] m.1 m.2.1 m.2.2.1 m.2.2.2.1 m.2.2.2.2.1 m.2.2.2.2.2.1):=fun t8 i hh h8 hi=>
  vN hc h hm AD7 AX 0 t8 i hh h8 hi (by omega) (AZ (by omega))
 repeat' (first|refine OK.some (by assumption) ?_|refine OK.OE (fun _=> ?_) (fun _=> ?_)|refine OK.Fh (fun _=> ?_) (fun _=> ?_)|refine OK.cond (fun _=> ?_) (fun _=> ?_)|refine OK.ite (by omega) ?_|(refine OK.bind (M4 (by assumption) (by assumption) (by omega)) fun x i h y hi hq=> ?_;dsimp only)|(refine OK.bind (Bz (by assumption) (by assumption) (by omega)) fun x i h y hi hq=> ?_;dsimp only at*)|(refine OK.bind (oG (by assumption) (by assumption) (by simp) (by simp)) fun x i h y hi hq=> ?_;dsimp only)|(refine OK.pure Z4 ?_;dsimp only)|(refine OK.pure JF ?_;dsimp only))
 all_goals first
  |exact fin _ _ _ (AE_ _) (by assumption)
  |exact⟨z,z,z,AW2 _⟩
  |exact⟨AD7,z,z,AW2 _⟩
theorem mJ{i hh:Int}(hi:CH code i):OK code jt (Ls w code i hh):=by
 have k:=h.nums;have k1:=k.c;have k2:=k.wr;have k3:=k.lost;have k4:=k.st;have k5:=k.era;have k6:=k.se;have k7:=k.cF;have yp:=(Dl h.cfg).1;have Ab5:1≤w.1.length:=yp;have z:CR 0:=ON (by omega);have Va:∀i hh,CH code i→OK code jt ((Hv (w.1,w.2.1,()) code i hh).bind fun u3=>
   (L4 u3.2.2.1).bind fun u4=>
   some (((1,u4.1.1,0,0,[],()),()),((u3.2.1.1,u3.2.1.2.1,u3.2.1.2.2.1,()),()))):=fun i hh hi=>by
  refine OK.bind (gY hc (c:=(w.1,w.2.1,())) (by show w.1.length≤_;omega) hi) fun x i1 h1 y J_ hq=> ?_
  dsimp only;obtain⟨r,hr,hr2⟩:=t_ (l:=y.1) (by omega);refine OK.pure hr ?_
  exact OK.some J_ ⟨hr2,z,z,AW2 _⟩
 have ATw:∀j:Nat,CR (w.2.2.2.2.2.2.2.2.2.1.getD j (0,[],false,())).1:=fun j=>by
  by_cases hj:j<w.2.2.2.2.2.2.2.2.2.1.length
  ·exact Gv (h.Al _ (BU (d:=NX) hj)).1
  ·rw[List.getD,ASm (by omega)];exact z
 have AUl:CR (w.2.2.2.1.getD 0 0):=by
  by_cases hj:0<w.2.2.2.1.length
  ·have:=(En.1 h.lost).2.1 _ (BU (d:=0) hj)
   have hc8:(Ae w).1.length≤8:=k1;have AcB:0≤w.2.2.2.1.getD 0 0∧w.2.2.2.1.getD 0 0<(Ae w).1.length:=this;exact ON (by omega)
  ·rw[List.getD,ASm (by omega)];exact z
 unfold Ls;refine OK.Fh (fun _=>Va _ _ hi) (fun ea=> ?_);have hw0:0<w.AN.length:=by show 0<w.2.2.2.2.2.2.1.length;omega
 have hwr:∀i hh,CH code i→OK code jt ((Gp w code i hh).bind fun mT=>
   some (((mT.1.1.1,mT.1.1.2.1,mT.1.1.2.2.1,mT.1.1.2.2.2.1,mT.1.1.2.2.2.2.1,()),()),((mT.2.1.1,mT.2.1.2.1,mT.2.1.2.2.1,()),()))):=fun i hh hi=>
  OK.bind (ub hc h hw0 hi) fun x i1 h1 y J_ hq=>OK.some J_ hq
 have hmd:∀i hh,CH code i→OK code jt ((L1 w code i hh).bind fun mT=>
   some (((mT.1.1.1,mT.1.1.2.1,mT.1.1.2.2.1,mT.1.1.2.2.2.1,mT.1.1.2.2.2.2.1,()),()),((mT.2.1.1,mT.2.1.2.1,mT.2.1.2.2.1,()),()))):=fun i hh hi=>
  OK.bind (wL hc h hi) fun x i1 h1 y J_ hq=>OK.some J_ hq
 rw[show(w.1,w.2.1,w.2.2.1,w.2.2.2.1,w.2.2.2.2.1,w.2.2.2.2.2.1,w.2.2.2.2.2.2.1,w.2.2.2.2.2.2.2.1,w.2.2.2.2.2.2.2.2.1,w.2.2.2.2.2.2.2.2.2.1,w.2.2.2.2.2.2.2.2.2.2.1,())=w from rfl];refine OK.bind (M4 hc hi (by omega)) fun x2 i2 h2 y2 Hq rb=> ?_
 dsimp only;refine OK.cond (fun _=>Va _ _ Hq) (fun _=> ?_);refine OK.bind (Bz hc Hq (by omega)) fun x3 i3 h3 y3 KX Vv=> ?_
 dsimp only at*;have hx3:CR x3.1:=ON (by omega)
 repeat' first
  |exact hwr _ _ (by assumption)
  |exact hmd _ _ (by assumption)
  |(refine OK.pure (OB (r:=CO w) (by show w.2.2.2.2.1.length≤_;omega)) ?_;dsimp only)
  |(first|refine OK.some (by assumption) ?_|refine OK.OE (fun _=> ?_) (fun _=> ?_)|refine OK.Fh (fun _=> ?_) (fun _=> ?_)|refine OK.cond (fun _=> ?_) (fun _=> ?_)|refine OK.ite (by omega) ?_|(refine OK.bind (M4 (by assumption) (by assumption) (by omega)) fun x i h y hi hq=> ?_;dsimp only)|(refine OK.bind (Bz (by assumption) (by assumption) (by omega)) fun x i h y hi hq=> ?_;dsimp only at*)|(refine OK.bind (oG (by assumption) (by assumption) (by simp) (by simp)) fun x i h y hi hq=> ?_;dsimp only)|(refine OK.pure Z4 ?_;dsimp only)|(refine OK.pure JF ?_;dsimp only))
 all_goals refine⟨?_,?_,?_,AW2 _⟩
 all_goals first
  |exact z
  |exact hx3
  |exact ATw _
  |exact AUl
  |(refine ON ?_;dsimp only;omega)
end
end Go.M
end
