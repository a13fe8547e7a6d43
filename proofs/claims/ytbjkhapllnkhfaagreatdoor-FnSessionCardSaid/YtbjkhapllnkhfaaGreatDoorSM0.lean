/- Plain facts on what the functions compute. -/
import Derived.Test.YtbjkhapllnkhfaaGreatDoorSG1
set_option linter.unusedVariables false
set_option linter.unusedSimpArgs false
set_option linter.unusedSectionVars false
section
namespace Go.M
theorem Oy{A0 A1 A2:Type}(w:A0×A1×A2×Unit):(w.1,w.2.1,w.2.2.1,())=w:=rfl
theorem gS{A0 A1 A2 A3:Type}(w:A0×A1×A2×A3×Unit):(w.1,w.2.1,w.2.2.1,w.2.2.2.1,())=w:=rfl
theorem uv{A0 A1 A2 A3 A4:Type}(w:A0×A1×A2×A3×A4×Unit):(w.1,w.2.1,w.2.2.1,w.2.2.2.1,w.2.2.2.2.1,())=w:=rfl
theorem W8{A0 A1 A2 A3 A4 A5:Type}(w:A0×A1×A2×A3×A4×A5×Unit):(w.1,w.2.1,w.2.2.1,w.2.2.2.1,w.2.2.2.2.1,w.2.2.2.2.2.1,())=w:=rfl
theorem Fo{A0 A1 A2 A3 A4 A5 A6 A7 A8 A9 A10:Type}(w:A0×A1×A2×A3×A4×A5×A6×A7×A8×A9×A10×Unit):(w.1,w.2.1,w.2.2.1,w.2.2.2.1,w.2.2.2.2.1,w.2.2.2.2.2.1,w.2.2.2.2.2.2.1,w.2.2.2.2.2.2.2.1,w.2.2.2.2.2.2.2.2.1,w.2.2.2.2.2.2.2.2.2.1,w.2.2.2.2.2.2.2.2.2.2.1,())=w:=rfl
end Go.M
namespace Go.M
theorem AB{α:Type}(p:Prop)[Decidable p](a b:α):cond (decide p) a b=if p then a else b:=by
 simp_all
theorem AG{x:Int}(h1: -9223372036854775808<=x)(h2:x<9223372036854775808):AQ x=x:=by
 grind[AQ,IntKind.wrap,IntKind.bits,IntKind.signed]
theorem ASm{x:Int}(h1:0<=x)(h2:x<256):w8 x=x:=by
 grind[w8,IntKind.wrap,IntKind.bits,IntKind.signed]
theorem AKJ{n:Nat}(h:n<9223372036854775808):AQ (n:Int)=n:=AG (by omega) (by omega)
theorem AFp(n:Nat):(BitVec.ofInt 64 (n:Int)).toNat=n%2^64:=by
 rfl
theorem uN{n:Nat}(h:n<2^63):IntKind.wrap .i64 (n:Int)=n:=AKJ (by omega)
theorem AIO{a b:Nat}(ha:a<2^63)(hb:b<2^63):gU .i64 a b=((a &&& b:Nat):Int):=by
 grind[gU,BitVec.ofInt,IntKind.bits,BitVec.toNat_and,AFp,Nat.mod_eq_of_lt,uN,Nat.lt_of_le_of_lt,Nat.and_le_left]
theorem Aa{n:Nat}(h:n<2^64):n<AW:=AQQ h WR
theorem Ah{α:Type}{l:List α}{i:Nat}{d:α}(h:i<l.length):l.getD ((i:Int).toNat) d=l[i]:=by
 simp_all
theorem drop_cons{α:Type}{l:List α}{i:Nat}(h:i<l.length):l.drop i=l[i]::l.drop (i+1):=(List.getElem_cons_drop h).symm
theorem Am:CN=68719476736:=rfl
end Go.M
end
section
set_option maxRecDepth 8000
namespace Go.M
def BE(x a b:Int):Bool:=decide (a<=x/\x<=b)
theorem Bc(x a b:Int):CF x a b=some ((BE x a b,()),()):=by
 unfold CF BE;grind
theorem Ax(x a b:Int):A_ x a b=some ((BE x a b,()),()):=Bc x a b
def EM(x:ABx):Bool:=BE (x.1.length:Int) 1 8&&(BE x.2.1 1 4&&x.1.all fun d=>BE d 0 7)
theorem fg{l:AAA}{c:Int}(hl:l.length<=2^40):∀(n i:Nat),i<=l.length->l.length-i<n->Li n i l c=some (((l.drop i).all fun d=>BE d 0 7,()),())
 |0,i,_,h=>by omega
 |n+1,i,hi,h=>by
  simp only[Li,X7,AB];by_cases hc:i<l.length
  ·rw[AJe (by omega),AJe (by omega),Ah hc,Bc,AG (by omega) (by omega),drop_cons hc]
   simp only[ALi,ARN];cases hb:BE l[i] 0 7 with
   |false=>simp
   |true=>
    simp only[ALR,AKp,ALl];rw[show(((i:Nat):Int)+1)=((i+1:Nat):Int)by omega,fg hl n (i+1) (by omega) (by omega)]
  grind
theorem GL{x:ABx}(hl:x.1.length<=2^40):Ge x=some ((EM x,()),()):=by
 unfold Ge YC EM;simp only[Bc,ALi];cases BE (x.1.length:Int) 1 8 with
 |false=>simp
 |true=>
  cases BE x.2.1 1 4 with
  |false=>simp
  |true=>
   grind[fg,AW,Aa]
theorem fY{l:AAA}{c:Int}(hl:l.length<=2^40):∀(n i:Nat),i<=l.length->l.length-i<n->
  Ln n l l.length i l c=some ((((l.drop i).all fun d=>BE d 0 7)&&(BE (l.length:Int) 1 8&&BE c 1 4),()),())
 |0,i,_,h=>by omega
 |n+1,i,hi,h=>by
  simp only[Ln,X_,AB];by_cases hc:i<l.length
  ·rw[AJe (by omega),AJe (by omega),Ah hc,Ax,AG (by omega) (by omega),drop_cons hc]
   simp only[ALi,ARN];cases hb:BE l[i] 0 7 with
   |false=>simp
   |true=>
    simp only[ALR,AKp,ALl];rw[show(((i:Nat):Int)+1)=((i+1:Nat):Int)by omega,fY hl n (i+1) (by omega) (by omega)]
  ·rw[AJk (by omega)]
   have:i=l.length:=by omega
   subst this;simp only[Ax,ALi,ARO,List.all_nil,ALl];grind
theorem JO{x:ABx}(hl:x.1.length<=2^40):E6 x=some ((EM x,()),()):=by
 unfold E6 Xr EM;have:=fY (l:=x.1) (c:=x.2.1) hl AW 0 (by omega) (Aa (by omega));grind
theorem F_{x:ABx}(h:EM x=true):1<=x.1.length/\x.1.length<=8/\1<=x.2.1/\x.2.1<=4/\ ∀d∈x.1,0<=d/\d<=7:=by
 simp only[EM,BE,ALJ,ALh,ARM]at h;grind
def Bytes(b:AAA):Prop:= ∀c∈b,0<=c/\c<256
abbrev Ev:Type:=Int×Int×List UInt8×Unit
abbrev Rdr:Type:=Int×Int×List Ev×Unit
def T8(x:Rdr):Bool:=BE x.1 1 31&&(BE x.2.1 1 61&&decide ((x.2.2.1.length:Int)<=120))
theorem QC(x:Rdr):Nn x=some ((T8 x,()),()):=by
 grind[Nn,T8,Bc,BE]
theorem dw(x:Rdr):WS x=some ((T8 x,()),()):=QC x
def FK(code:AAA)(i:Int):Prop:=0<=i/\i<=code.length
theorem AEY(x:Int):∃v:Int,gU .i64 x 255=v/\0<=v/\v<256:=by
 refine⟨_,rfl,?_⟩;grind[gU,BitVec.ofInt,Go.IntKind.bits,BitVec.toNat_and,Nat.lt_of_le_of_lt,Nat.and_le_right,uN]
section
variable{code:AAA} (hc:code.length<=2^30)
include hc
theorem dX{i h:Int}(hi:FK code i):∃v i' h',Mi code i h=some ((v,()),((code,i',h',()),()))/\0<=v/\v<256/\FK code i':=by
 unfold Mi;simp only[AB];obtain⟨h0,h1⟩:=hi;split
 ·rename_i Ix
  rw[AJe ⟨h0,Ix⟩,AG (x:=i+1) (by omega) (by omega)];obtain⟨v,e,v0,v1⟩:=AEY (AQ (gU .i64 (APT .i64 ((AQ (AQ (h*6364136223846793005)+1442695040888963407)).fdiv (2^33)) ((AQ (AQ (h*6364136223846793005)+1442695040888963407)).fdiv (2^45))) 255+AQ (code.getD i.toNat 0)));exact⟨v,i+1,_,by rw[e],v0,v1,by omega,by omega⟩
 ·obtain⟨v,e,v0,v1⟩:=AEY (APT .i64 ((AQ (AQ (h*6364136223846793005)+1442695040888963407)).fdiv (2^33)) ((AQ (AQ (h*6364136223846793005)+1442695040888963407)).fdiv (2^45)))
  exact⟨v,i,_,by rw[e],v0,v1,h0,h1⟩
theorem LC{i h n:Int}(hi:FK code i)(hn:n<=2^40):∃v i' h',Ag n code i h=some ((v,()),((code,i',h',()),()))/\0<=v/\(0<n->v<n)/\(n<=0->v=0)/\FK code i':=by
 unfold Ag;simp only[AB];split
 ·grind
 ·split
  ·obtain⟨v,i1,h1,e,v0,v1,ck⟩:=dX hc (h:=h) hi
   rw[e];simp only[ALi];rw[AJk (by omega),Int.tmod_eq_emod_of_nonneg v0];exact⟨_,i1,h1,rfl,Int.emod_nonneg _ (by omega),fun _=>Int.emod_lt_of_pos _ (by omega),by omega,ck⟩
  ·obtain⟨v1,i1,h1,e1,a1,b1,ck⟩:=dX hc (h:=h) hi
   obtain⟨v2,i2,h2,e2,a2,b2,mv⟩:=dX hc (h:=h1) ck;obtain⟨v3,i3,h3,e3,a3,b3,hi3⟩:=dX hc (h:=h2) mv;obtain⟨v4,i4,h4,e4,a4,b4,hi4⟩:=dX hc (h:=h3) hi3;rw[e1];simp only[ALi];rw[e2];simp only[ALi];rw[e3];simp only[ALi];rw[e4];simp only[ALi];rw[AG (x:=v1*16777216) (by omega) (by omega),AG (x:=v2*65536) (by omega) (by omega),AG (x:=v3*256) (by omega) (by omega),AG (x:=v1*16777216+v2*65536) (by omega) (by omega),
    AG (x:=v1*16777216+v2*65536+v3*256) (by omega) (by omega),AG (by omega) (by omega),AJk (by omega),Int.tmod_eq_emod_of_nonneg (by omega)]
   exact⟨_,i4,h4,rfl,Int.emod_nonneg _ (by omega),fun _=>Int.emod_lt_of_pos _ (by omega),by omega,hi4⟩
theorem od{i h n:Int}(hi:FK code i)(hn:n<=2^40):∃v i' h',BW n code i h=some ((v,()),((code,i',h',()),()))/\FK code i':=by
 unfold BW;obtain⟨v,i1,h1,e,_,_,_,ck⟩:=LC hc (h:=h) hi hn;rw[e];exact⟨_,i1,h1,rfl,ck⟩
theorem Yh{i h:Int}{l:AAA}(hi:FK code i)(hl:l≠[])(hn:l.length<=2^30):∃v i' h',Hw l code i h=some ((v,()),((code,i',h',()),()))/\v∈l/\FK code i':=by
 unfold Hw;have hp:=AVY.2 hl;obtain⟨v,i1,h1,e,v0,v1,_,ck⟩:=LC hc (h:=h) (n:=l.length) hi (by omega);grind
omit hc in
theorem AEc{n:Nat}:∀(m i:Nat) (h:Int),i<=code.length->code.length-i<m-> ∃h',Q_ m code h i=some (((),()),((code,0,h',()),()))
 |0,_,_,_,h=>by omega
 |m+1,i,h,hi,hm=>by
  simp only[Q_,dA,AB];by_cases Ix:i<code.length
  ·rw[AJe (by omega)]
   split
   ·rw[AJe (by omega),AG (x:=(i:Int)+1) (by omega) (by omega),show((i:Int)+1)=((i+1:Nat):Int)by omega]
    exact AEc (n:=n) m (i+1) _ (by omega) (by omega)
   ·exact⟨_,rfl⟩
  ·rw[AJk (by omega)]
   exact⟨_,rfl⟩
theorem AHc:∃h',eg code=some (((),()),((code,0,h',()),())):=by
 unfold eg dV;exact AEc (n:=0) AW 0 _ (by omega) (Aa (by omega))
theorem AWz:FK code 0:=⟨by omega,by omega⟩
def ry(l:AAA)(c:Int):Prop:=3<=l.length/\l.length<=7/\1<=c/\c<=3/\ ∀d∈l,0<=d/\d<=4
omit hc in
theorem ry.ok{l:AAA}{c:Int}(h:ry l c):EM (l,c,())=true:=by
 obtain⟨h1,h2,h3,h4,h5⟩:=h;simp only[EM,BE,ALJ,ALh,ARM];exact⟨by omega,by omega,fun d hd=>by have:=h5 d hd;omega⟩
theorem je{N:Nat}(hN:3<=N/\N<=7){c:Int}(h1:1<=c/\c<=3){x1:Int}{x2:AAA}:∀(n k:Nat) (i h:Int) (acc:AAA),FK code i->k<=N->N-k<n->acc.length=k->(∀d∈acc,0<=d/\d<=4)->
  ∃l c' i' h',Ip n N k code i h x1 x2 c acc=some ((((),c',()),()),((code,i',h',()),l,()))/\ry l c'/\FK code i'
 |0,_,_,_,_,_,_,h,_,_=>by omega
 |n+1,k,i,h,acc,hi,hk,hn,hacc,hd=>by
  simp only[Ip,UG,AB];by_cases Ix:k<N
  ·rw[AJe (by omega)]
   obtain⟨v,i1,h1',e,v0,v1,_,ck⟩:=LC hc (h:=h) (n:=5) hi (by omega);rw[e];simp only[ALi];rw[AJe (by rw[Am];omega),AG (by omega) (by omega),show((k:Int)+1)=((k+1:Nat):Int)by omega];have:=v1 (by omega);exact je hN h1 n (k+1) i1 h1' _ ck (by omega) (by omega) (by simp[hacc]) (fun d hdd=>by
    grind)
  ·rw[AJk (by omega)]
   obtain⟨v,i1,h1',e,ck⟩:=od hc (h:=h) (n:=2) hi (by omega);rw[e];simp only[ALi];cases v
   ·exact⟨acc,c,i1,h1',rfl,⟨by omega,by omega,h1.1,h1.2,hd⟩,ck⟩
   ·exact⟨acc,2,i1,h1',rfl,⟨by omega,by omega,by omega,by omega,hd⟩,ck⟩
theorem hY{i h:Int}(hi:FK code i):∃l c' i' h',MN code i h=some ((((),c',()),()),((code,i',h',()),l,()))/\ry l c'/\FK code i':=by
 unfold MN UI;obtain⟨v,i1,h1,e1,a1,b1,_,ck⟩:=LC hc (h:=h) (n:=3) hi (by omega);rw[e1];simp only[ALi];obtain⟨w,i2,h2,e2,a2,b2,_,mv⟩:=LC hc (h:=h1) (n:=5) ck (by omega);rw[e2];simp only[ALi];have:=b1 (by omega);have:=b2 (by omega);rw[AG (by omega) (by omega),AG (by omega) (by omega)];obtain⟨N,hN⟩:∃N:Nat,3+w=(N:Int):=⟨(3+w).toNat,by omega⟩;rw[hN];exact je hc (by omega) (by omega) AW 0 i2 h2 [] mv (by omega) (Aa (by omega)) rfl (by simp)
theorem AFm{i h:Int}(hi:FK code i):∃l c' i' h',ay code i h=some ((((),c',()),()),((code,i',h',()),l,()))/\l.length<=9/\FK code i':=by
 unfold ay;obtain⟨l,c,i1,h1,e1,hg,ck⟩:=hY hc (h:=h) hi;rw[e1];simp only[ALi];obtain⟨v,i2,h2,e2,a2,b2,_,mv⟩:=LC hc (h:=h1) (n:=20) ck (by omega);rw[e2];simp only[ALi];obtain⟨g1,g2,g3,g4,g5⟩:=hg;cases v==0 with
 |true=>
  simp only[ALg];obtain⟨p,i3,h3,e3,hp,hi3⟩:=Yh hc (h:=h2) (l:=[0,4,5]) mv (by simp) (by simp);grind
 |false=>
  simp only[AKp];cases v==1 with
  |true=>
   simp only[ALg];obtain⟨p,i3,h3,e3,hp,hi3⟩:=Yh hc (h:=h2) (l:=[-1,7,8]) mv (by simp) (by simp);grind
  |false=>
   simp only[AKp];cases v==2 with
   |true=>
    simp only[ALg];obtain⟨p,i3,h3,e3,hp,hi3⟩:=Yh hc (h:=h2) (l:=[0,8,9]) mv (by simp) (by simp);rw[e3];simp only[ALi];simp at hp;rw[AJe (by rw[Am];omega)];grind
   |false=>grind
end
end Go.M
end
section
namespace Go.M.H
open Go.M
def Af{α:Type}(f:α->Nat):List α->Nat
 |[]=>0
 |x::l=>1+f x+Af f l
theorem AX{α:Type}{f:α->Nat}:∀{l:List α},l.length<=Af f l
 |[]=>AMN _
 |x::l=>by
  have:=AX (f:=f) (l:=l);grind[Af,List.length_cons]
theorem AY{α:Type}{f:α->Nat}{x:α}:∀{l:List α},x∈l->f x<=Af f l
 |y::l,h=>by
  simp only[Af];rcases ANC.1 h with rfl|h
  ·omega
  ·have:=AY (f:=f) h
   omega
abbrev ATI:Type:=List Int
abbrev Cl(x:ATI):Nat:=x.length
abbrev AJ:Type:=Int×Int×Bool×List UInt8×Unit
def Ap(x:AJ):Nat:=x.2.2.2.1.length
abbrev AM:Type:=List AJ×List AJ×Int×Unit
def Aj(x:AM):Nat:=Af Ap x.1+Af Ap x.2.1
abbrev Cx:Type:=List Int×Bool×Int×Unit
def B_(x:Cx):Nat:=x.1.length
abbrev AN:Type:=List Cx×Int×Unit
abbrev BH:Type:=List UInt8×List Int×Bool×Unit
def BG(x:BH):Nat:=x.1.length+x.2.1.length
abbrev AU:Type:=Int×List BH×Unit
def Ao(x:AU):Nat:=Af BG x.2.1
abbrev Az:Type:=Int×Int×List Int×List AJ×Bool×List AAA×Unit
def CE(x:Az):Nat:=x.2.2.1.length+Af Ap x.2.2.2.1+Af Cl x.2.2.2.2.2.1
abbrev Ar:Type:=Int×Int×List UInt8×Unit
def B4(x:Ar):Nat:=x.2.2.1.length
abbrev Ac:Type:=Int×Int×List Ar×Unit
def Aw(x:Ac):Nat:=Af B4 x.2.2.1
abbrev BB:Type:=Int×Bool×Int×Int×Bool×List UInt8×Unit
abbrev Ak:Type:=Int×List UInt8×Bool×Unit
def DV(x:Ak):Nat:=x.2.1.length
abbrev AA:Type:=List Int×Int×List AM×List Int×List Cx×Int×List AU×List Az×List Ac×List Ak×Bool×Unit
def CX(x:AA):Nat:=x.1.length+Af Aj x.2.2.1+x.2.2.2.1.length+Af B_ x.2.2.2.2.1+Af Ao x.2.2.2.2.2.2.1+Af CE x.2.2.2.2.2.2.2.1+Af Aw x.2.2.2.2.2.2.2.2.1+Af DV x.2.2.2.2.2.2.2.2.2.1
abbrev Al:Type:=Int×Int×Int×Int×List UInt8×Unit
end Go.M.H
end
section
set_option maxRecDepth 8000
namespace Go.M
open Go.M.H (AA AJ AM AN AU AX AY Ac Af Aj Ak Ao Ap Ar Aw Az B4 BG BH B_ CE CX Cl Cx DV)
def CL(p:Nat->Bool)(i:Nat):Nat->Bool
 |0=>true
 |d+1=>p i&&CL p (i+1) d
theorem Fm{L:Nat->Int->Option (ABz×Unit)}{len:Nat}{p:Nat->Bool}{fin:Bool}(h1:∀n (i:Nat),i<len->L (n+1) i=cond (p i) (L n ((i+1:Nat):Int)) (some ((false,()),())))(h2:∀n,L (n+1) (len:Int)=some ((fin,()),())):
  ∀d n i,i+d=len->d<n->L n i=some ((CL p i d&&fin,()),())
 |0,n,i,hd,h=>by
  obtain⟨m,rfl⟩:∃m,n=m+1:=⟨n-1,by omega⟩;have:i=len:=by omega
  subst this;rw[h2];rfl
 |d+1,n,i,hd,h=>by
  obtain⟨m,rfl⟩:∃m,n=m+1:=⟨n-1,by omega⟩;rw[h1 m i (by omega)];simp only[CL];cases p i with
  |false=>rfl
  |true=>rw[ALg,Fm h1 h2 d m (i+1) (by omega) (by omega)];rfl
theorem M7{p:Nat->Bool}:∀{d i:Nat},CL p i d=true-> ∀j,i<=j->j<i+d->p j=true
 |0,i,_,j,h1,h2=>by omega
 |d+1,i,h,j,h1,h2=>by
  simp only[CL,ALJ]at h;by_cases hj:j=i
  ·simp_all
  ·exact M7 h.2 j (by omega) (by omega)
theorem cX{p q:Nat->Bool}:∀{d i:Nat},(∀j,i<=j->j<i+d->p j=q j)->CL p i d=CL q i d
 |0,_,_=>rfl
 |d+1,i,h=>by
  simp only[CL];rw[h i (by omega) (by omega),cX fun j h1 h2=>h j (by omega) (by omega)]
theorem tX{p:Nat->Bool}:∀{d i:Nat},(∀j,i<=j->j<i+d->p j=true)->CL p i d=true
 |0,_,_=>rfl
 |d+1,i,h=>by
  simp only[CL,ALJ];exact⟨h i (by omega) (by omega),tX fun j h1 h2=>h j (by omega) (by omega)⟩
def TO(x:Int):Int:=x.tdiv 4294967296
def Av(x:Int):Bool:=BE (TO x) 1 30&&BE (x.tmod 4294967296) 1 60
def Ab(x:Int):Int:=if Av x then TO x else 0
theorem mz{x:Int}(h: -9223372036854775808<=x/\x<9223372036854775808):AQ (x.tdiv 4294967296)=TO x:=by
 grind[TO,AG,Int.lt_or_le,Int.neg_tdiv,Int.tdiv_eq_ediv_of_nonneg]
theorem iC{x:Int}(h:Av x=true):0<x/\x<2^40:=by
 simp only[Av,BE,ALJ,ALh]at h;grind[TO,Int.lt_or_le,Int.neg_tdiv,Int.tdiv_eq_ediv_of_nonneg,Int.tmod_eq_emod_of_nonneg]
def Bp(x:Int):Prop:= -9223372036854775808<=x/\x<9223372036854775808
theorem E5{x:Int}(h:Bp x):FE x=some ((Av x,()),()):=by
 unfold FE;rw[mz h,AB];split
 ·grind[Bc,Av,BE,TO]
 ·rename_i h0
  rcases AJd (Av x)with hp|hp
  ·exact absurd (iC hp).1 (by omega)
  ·rw[hp]
theorem Il{x:Int}(h:Bp x):DB x=some ((Av x,()),()):=by
 unfold DB Hl Zu;rw[mz h];grind[Ax,Av,BE,TO]
theorem EA{x:Int}(h:Bp x):Cn x=some ((Ab x,()),()):=by
 unfold Cn Ab;rw[E5 h,mz h];grind
theorem Dl{x:Int}(h:Bp x):EU x=some ((Ab x,()),()):=by
 unfold EU Ab;rw[Il h,mz h];grind
theorem cM{x:Int}:(Av x=true->1<=Ab x/\Ab x<=30)/\(Av x=false->Ab x=0):=by
 constructor
 ·intro h
  rw[Ab,AJe h];simp only[Av,BE,ALJ,ALh]at h;omega
 grind[Ab]
def yR(l:AAA)(hi:Int)(i:Nat):Bool:=BE (l.getD i 0) 0 hi&&(i==0||decide (l.getD (i-1) 0<l.getD i 0))
def ug(l:AAA)(hi:Int):Bool:=CL (yR l hi) 0 l.length
theorem jY{l:AAA}{hi:Int}(hl:l.length<=2^40):Zh l 0 hi=some ((ug l hi,()),()):=by
 unfold Zh dB ug;rw[<-AQ5 (CL _ _ _)];refine Fm (L:=fun n i=>Nt n l 0 hi i) (len:=l.length) (p:=yR l hi) (fin:=true) (fun n i Dc=> ?_) (fun n=> ?_) l.length AW 0 (by omega) (Aa (by omega))
 ·simp only[Nt,VT,AB]
  rw[AJe (by omega),AJe (by omega),Bc,AG (x:=(i:Int)+1) (by omega) (by omega)];simp only[ALi,ALN,yR];cases BE (l.getD i 0) 0 hi with
  |false=>rfl
  |true=>
   simp only[ALR,AKp,ALl];by_cases h0:i=0
   ·simp_all
   ·rw[AJe (by omega),AG (by omega) (by omega),AJe (by omega),AJe (by omega)]
    have h1:((i:Int)-1).toNat=i-1:=by omega
    have h2:(i==0)=false:=by simp_all
    rw[h1,h2,APM];grind
 ·simp only[Nt,VT,AB]
  simp_all
theorem rq{l:AAA}{hi:Int}(hl:l.length<=2^40):Yg l hi=some ((ug l hi,()),()):=by
 unfold Yg aD ug;rw[<-AQ5 (CL _ _ _)];refine Fm (L:=fun n i=>Kb n l hi l l.length i) (len:=l.length) (p:=yR l hi) (fin:=true) (fun n i Dc=> ?_) (fun n=> ?_) l.length AW 0 (by omega) (Aa (by omega))
 ·simp only[Kb,SN,AB]
  rw[AJe (by omega),AJe (by omega),Ax,AG (x:=(i:Int)+1) (by omega) (by omega)];simp only[ALi,ALN,yR];cases BE (l.getD i 0) 0 hi with
  |false=>rfl
  |true=>
   simp only[ALR,AKp,ALl];by_cases h0:i=0
   ·simp_all
   ·rw[AJe (by omega),AG (by omega) (by omega),AJe (by omega)]
    have h1:((i:Int)-1).toNat=i-1:=by omega
    have h2:(i==0)=false:=by simp_all
    rw[h1,h2,APM];grind
 ·simp only[Kb,SN,AB]
  simp_all
theorem AAY{l:AAA}{hi:Int}(h:ug l hi=true):∀x∈l,0<=x/\x<=hi:=fun x hx=>by
 obtain⟨i,Dc,rfl⟩:=AQA hx;have:=M7 h i (by omega) (by omega);simp only[yR,BE,ALJ,ALh]at this;simp_all
theorem AEF{l:AAA}{hi:Int}(h:ug l hi=true):∀i,i<l.length->(i:Int)<=l.getD i 0
 |0,hl=>by
  have:=M7 h 0 (by omega) (by omega);simp only[yR,BE,ALJ,ALh]at this;omega
 |i+1,hl=>by
  have h1:=AEF h i (by omega);have:=M7 h (i+1) (by omega) (by omega);simp only[yR,ALJ,AQd,ALh]at this;grind
theorem AIl{l:AAA}{hi:Int}(h:ug l hi=true)(h0:0<=hi+1):(l.length:Int)<=hi+1:=by
 by_cases hl:l.length=0
 ·omega
 ·have h1:=AEF h (l.length-1) (by omega)
  have h2:=AAY h (l.getD (l.length-1) 0) (by
   grind)
  omega
def BC(c:ABx)(l:AAA):Bool:=EM c&&ug l ((c.1.length:Int)-1)
theorem HB{c:ABx}{l:AAA}(hc:c.1.length<=2^40)(hl:l.length<=2^40):Gz c l=some ((BC c l,()),()):=by
 unfold Gz BC;rw[show(c.1,c.2.1,())=c from rfl,GL hc,AG (by omega) (by omega)];simp only[ALi];cases EM c with
 |false=>rfl
 |true=>
  rw[ALg,jY hl];rfl
theorem EC{c:ABx}{l:AAA}(hc:c.1.length<=2^40)(hl:l.length<=2^40):D2 c l=some ((BC c l,()),()):=by
 unfold D2 BC;rw[show(c.1,c.2.1,())=c from rfl,JO hc,AG (by omega) (by omega)];simp only[ALi];cases EM c with
 |false=>rfl
 |true=>
  rw[ALg,rq hl];rfl
theorem mF{c:ABx}{l:AAA}(h:BC c l=true):EM c=true/\c.1.length<=8/\l.length<=8/\(∀x∈l,0<=x/\x<c.1.length)/\ ∀d∈c.1,0<=d/\d<=7:=by
 simp only[BC,ALJ]at h;obtain⟨k1,k2,k3,k4,k5⟩:=F_ h.1;have h1:=AIl h.2 (by omega);exact⟨h.1,k2,by omega,fun x hx=>by have:=AAY h.2 x hx;omega,k5⟩
theorem AEd{l:AAA}{x:Int}(hl:l.length<=2^40):∀(n i:Nat),i<=l.length->l.length-i<n->(∀y∈l.take i,y≠x)->
  ∃r:Int,GJ n l x l.length i=some ((r,()),())/\decide (r>=0)=l.contains x
 |0,_,_,h,_=>by omega
 |n+1,i,hi,h,hx=>by
  simp only[GJ,Py,AB];by_cases hc:i<l.length
  ·rw[AJe (by omega),AJe (by omega),Ah hc,AG (by omega) (by omega)]
   by_cases he:x=l[i]
   ·simp_all
   ·obtain⟨r,e1,e2⟩:=AEd hl n (i+1) (by omega) (by omega) (fun y hy=>by
     rw[ARB hc]at hy;rcases AMt.1 hy with hy|hy
     ·exact hx y hy
     grind)
    grind
  ·rw[AJk (by omega)]
   grind
theorem JB{l:AAA}{x:Int}(hl:l.length<=2^40):Bv l x=some ((l.contains x,()),()):=by
 unfold Bv PY O2;obtain⟨r,e1,e2⟩:=AEd (x:=x) hl AW 0 (by omega) (Aa (by omega)) (by simp);simp_all
def lj(c:AAA):List Int->List Int->List Int
 |[],acc=>acc
 |n::l,acc=>lj c l (if acc.contains (c.getD n.toNat 0)then acc else acc++[c.getD n.toNat 0])
def fP(c:AAA)(l:AAA):Nat:=(lj c l []).length
theorem cF{c:AAA}{q:Int}{l:AAA}(hl:l.length<=8)(hm:∀x∈l,0<=x/\x<c.length):∀(n i:Nat) (acc:AAA),i<=l.length->l.length-i<n->acc.length<=i->
  PO n l l.length i c q acc=some ((((lj c (l.drop i) acc).length:Int),()),())
 |0,i,_,_,h,_=>by omega
 |n+1,i,acc,hi,h,ha=>by
  simp only[PO,a_,AB];by_cases hc:i<l.length
  ·have hx:=hm _ (ALk hc)
   rw[AJe (by omega),AJe (by omega),Ah hc,drop_cons hc]
   generalize l[i]=x at hx
   rw[AJe (by omega),JB (by omega),AG (by omega) (by omega),show((i:Int)+1)=((i+1:Nat):Int)by omega];simp only[ALi,lj];cases ASo:acc.contains (c.getD x.toNat 0)with
   |true=>
    simp only[ALR,AKp,AQY];exact cF hl hm n (i+1) acc (by omega) (by omega) (by omega)
   |false=>
    simp only[AOP,ALg,ALY,ANX];rw[AJe (by omega),AJe (by rw[Am];omega)];exact cF hl hm n (i+1) _ (by omega) (by omega) (by simp_all)
  ·rw[AJk (by omega)]
   grind[lj]
theorem tV{c:ABx}{l:AAA}(hc:c.1.length<=2^40)(hl:l.length<=2^40):bl c l=some ((if BC c l then(fP c.1 l:Int)else-1,()),()):=by
 unfold bl af;rw[show(c.1,c.2.1,())=c from rfl,EC hc hl];simp only[ALi];cases h:BC c l with
 |false=>rfl
 |true=>
  obtain⟨k1,k2,k3,k4,k5⟩:=mF h;grind[cF,AW,Aa,fP]
theorem ADa{s:List Bool}{k j:Nat}{b:Bool}(h:k<s.length):(s.set k b).getD j false=if k=j then b else s.getD j false:=by
 grind
theorem bt{c:AAA}{q:Int}{l:AAA}(hl:l.length<=8)(hd:∀d∈c,0<=d/\d<=7)(hm:∀x∈l,0<=x/\x<c.length):∀(n i:Nat) (acc:AAA) (s:List Bool),i<=l.length->l.length-i<n->acc.length<=i->s.length=8->
  (∀j:Nat,j<8->s.getD j false=acc.contains (j:Int))->
  Pc n l acc.length i c q s=some ((((lj c (l.drop i) acc).length:Int),()),())
 |0,i,_,_,_,h,_,_,_=>by omega
 |n+1,i,acc,s,hi,h,ha,hs,hj=>by
  simp only[Pc,bI,AB];by_cases hc:i<l.length
  ·have hx:=hm _ (ALk hc)
   rw[AJe (by omega),AJe (by omega),Ah hc,drop_cons hc]
   generalize l[i]=x at hx
   rw[AJe (by omega)];have AXZ:0<=c.getD x.toNat 0/\c.getD x.toNat 0<=7:=by
    simp_all
   simp only[lj]
   generalize c.getD x.toNat 0=d at AXZ
   rw[AJe (by omega),AG (x:=(i:Int)+1) (by omega) (by omega),show((i:Int)+1)=((i+1:Nat):Int)by omega];have hsd:s.getD d.toNat false=acc.contains d:=by
    grind
   rw[hsd];cases ASo:acc.contains d with
   |true=>
    simp only[ALR,AKp,AQY];exact bt hl hd hm n (i+1) acc s (by omega) (by omega) (by omega) hs hj
   |false=>
    simp only[AOP,ALg,ALY,ANX];rw[AJe (by omega),AG (by omega) (by omega)];have:=bt (q:=q) hl hd hm n (i+1) (acc++[d]) (s.set d.toNat true) (by omega) (by omega) (by simp_all) (by simp_all) (fun j hj8=>by
     rw[ADa (by omega),hj j hj8];grind)
    simp_all
  ·rw[AJk (by omega)]
   grind[lj]
theorem gq{c:ABx}{l:AAA}(h:BC c l=true):Wo c l=some (((fP c.1 l:Int),()),()):=by
 obtain⟨k1,k2,k3,k4,k5⟩:=mF h;unfold Wo bF;have:=bt (c:=c.1) (q:=c.2.1) k3 k5 k4 AW 0 [] (List.replicate 8 false) (by omega) (Aa (by omega)) (by simp) (by simp) (fun j hj=>by
  grind)
 grind[fP]
def holds(c:ABx)(l:AAA):Bool:=BC c l&&decide ((fP c.1 l:Int)>=c.2.1)
theorem Ff{c:ABx}{l:AAA}(hc:c.1.length<=2^40)(hl:l.length<=2^40):F4 c l=some ((holds c l,()),()):=by
 unfold F4 holds;rw[show(c.1,c.2.1,())=c from rfl,HB hc hl];simp only[ALi];cases h:BC c l with
 |false=>rfl
 |true=>
  rw[ALg,gq h];rfl
theorem Gc{c:ABx}{l:AAA}(hc:c.1.length<=2^40)(hl:l.length<=2^40):Gr c l=some ((holds c l,()),()):=by
 unfold Gr holds;rw[show(c.1,c.2.1,())=c from rfl,EC hc hl,tV hc hl];simp only[ALi];cases h:BC c l<;>rfl
theorem Wr{c:ABx}{l:AAA}(h:holds c l=true):BC c l=true:=by
 simp only[holds,ALJ]at h;exact h.1
abbrev CQ:Type:=List Int×Int×Unit
def Hp:Cx:=([],false,0,())
def tM(c:CQ)(e:Cx):Bool:=holds c e.1&&(BE e.2.2.1 0 60&&(e.2.1||e.2.2.1==0))
theorem wB{c:CQ}{e:Cx}(hc:c.1.length<=2^40)(hl:e.1.length<=2^40):eI c e=some ((tM c e,()),()):=by
 unfold eI tM;rw[show(c.1,c.2.1,())=c from rfl,Gc hc hl];grind[Ax,holds,BE]
def yf(c:CQ)(l:List Cx)(i:Nat):Bool:=
 tM c (l.getD i Hp)&& !((l.getD i Hp).2.1&&(decide (i+1=l.length)||(decide (0<i)&& !(l.getD (i-1) Hp).2.1)))
def km(r:AN):Bool:=r.2.1==0||(Av r.2.1&&decide (Ab r.2.1<=r.1.length))
def Po(c:CQ)(r:AN):Bool:=EM c&&(decide (r.1.length<=30)&&(km r&&CL (yf c r.1) 0 r.1.length))
theorem BJ{α:Type}{l:List α}{i:Nat}{d:α}(h:i<l.length):l.getD i d∈l:=by
 simp_all
theorem qh{c:CQ}{l:List Cx}{tr:Int}(hc:c.1.length<=2^40)(hl:Af B_ l<=2^30):LG AW l.length 0 c.1 c.2.1 l tr=some ((CL (yf c l) 0 l.length,()),()):=by
 have xY:=AX (f:=B_) (l:=l);rw[<-AQ5 (CL _ _ _)];refine Fm (L:=fun n i=>LG n l.length i c.1 c.2.1 l tr) (len:=l.length) (p:=yf c l) (fin:=true) (fun n i hi=> ?_) (fun n=> ?_) l.length AW 0 (by omega) (Aa (by omega))
 ·have hm:=AY (f:=B_) (BJ (d:=Hp) hi)
  simp only[B_]at hm;simp only[LG,VP,AB];rw[AJe (by omega),AJe (by omega),show(c.1,c.2.1,())=c from rfl,ALN,show(([],false,0,()):Cx)=Hp from rfl,Ff hc (by omega),Bc,AG (x:=(i:Int)+1) (by omega) (by omega),
   AG (x:=(l.length:Int)-1) (by omega) (by omega),AG (x:=(i:Int)-1) (by omega) (by omega),show((i:Int)+1)=((i+1:Nat):Int)by omega]
  simp only[ALi,yf,tM];have e1:((i:Int)==(l.length:Int)-1)=decide (i+1=l.length):=by
   grind
  have e2:(((i:Int)-1).toNat)=i-1:=by omega
  grind
 ·simp only[LG,VP,AB]
  simp_all
theorem RF{c:CQ}{r:AN}(hc:c.1.length<=2^40)(hl:Af B_ r.1<=2^30)(ht:Bp r.2.1):M5 c r=some ((Po c r,()),()):=by
 unfold M5 cw Po km;rw[show(c.1,c.2.1,())=c from rfl,GL hc,qh hc hl,E5 ht,EA ht];grind
theorem Nl{c:CQ}{r:AN}(hc:c.1.length<=2^40)(hl:Af B_ r.1<=2^30)(ht:Bp r.2.1):LL c r=some ((Po c r,()),()):=by
 have xY:=AX (f:=B_) (l:=r.1);have AGK:LH AW r.1 r.1.length 0 c.1 c.2.1 r.1 r.2.1=some ((CL (yf c r.1) 0 r.1.length&&(EM c&&(decide (r.1.length<=30)&&km r)),()),()):=by
  refine Fm (L:=fun n i=>LH n r.1 r.1.length i c.1 c.2.1 r.1 r.2.1) (len:=r.1.length) (p:=yf c r.1) (fin:=EM c&&(decide (r.1.length<=30)&&km r)) (fun n i hi=> ?_) (fun n=> ?_) r.1.length AW 0 (by omega) (Aa (by omega))
  ·have hm:=AY (f:=B_) (BJ (d:=Hp) hi)
   simp only[B_]at hm;simp only[LH,VJ,AB];rw[AJe (by omega),AJe (by omega),show(c.1,c.2.1,())=c from rfl,ALN,show(([],false,0,()):Cx)=Hp from rfl];rw[show((r.1.getD i Hp).1,(r.1.getD i Hp).2.1,(r.1.getD i Hp).2.2.1,())=r.1.getD i Hp from rfl,wB hc (by omega),AG (x:=(i:Int)+1) (by omega) (by omega),
    AG (x:=(r.1.length:Int)-1) (by omega) (by omega),AG (x:=(i:Int)-1) (by omega) (by omega),show((i:Int)+1)=((i+1:Nat):Int)by omega]
   simp only[ALi,yf];have e1:((i:Int)==(r.1.length:Int)-1)=decide (i+1=r.1.length):=by
    grind
   have e2:(((i:Int)-1).toNat)=i-1:=by omega
   grind
  ·simp only[LH,VJ]
   rw[show decide ((r.1.length:Int)<(r.1.length:Int))=false by simp,show(c.1,c.2.1,())=c from rfl,JO hc,Dl ht];simp only[AKp,ALi,Ax,km];have e1:decide ((r.1.length:Int)<=30)=decide (r.1.length<=30):=by
    grind
   rw[e1];have e4:BE (Ab r.2.1) 1 (r.1.length:Int)=(Av r.2.1&&decide (Ab r.2.1<=(r.1.length:Int))):=by
    have hr:=cM (x:=r.2.1);unfold BE;grind
   grind
 grind[LL,dP,Po,EM,decide,km,CL,yf]
def AGb(b:Bool):Int:=if b then 1 else 0
theorem qc(b:Bool):ew b=some ((AGb b,()),()):=by cases b<;>rfl
def Mg:BH:=([],[],false,())
def eX(c:CQ)(e:BH):Bool:=decide (e.1.length<=40)&&(BC c e.2.1&&(e.2.2.1==holds c e.2.1))
def Sp:List BH->Nat
 |[]=>0
 |e::l=>cond e.2.2.1 0 1+Sp l
def le6(n:Nat):Bool:=decide (n<=6)
theorem AEU(o:Nat):decide ((o:Int)<=6)=le6 o:=by
 grind[le6]
def Fe(c:CQ)(w:AU):Bool:=EM c&&(BE w.1 1 30&&(decide (w.2.1.length<=60)&&(w.2.1.all (eX c)&&le6 (Sp w.2.1))))
theorem fy{c:CQ}{ep:Int}{l:List BH}(hc:c.1.length<=2^40)(hl:Af BG l<=2^30):∀(n i o:Nat),i<=l.length->l.length-i<n->o<=i->
  MJ n o i c.1 c.2.1 ep l=some (((l.drop i).all (eX c)&&le6 (o+Sp (l.drop i)),()),())
 |0,i,_,_,h,_=>by omega
 |n+1,i,o,hi,h,ho=>by
  have xY:=AX (f:=BG) (l:=l);simp only[MJ,Xo,AB];by_cases nD:i<l.length
  ·have hm:=AY (f:=BG) (ALk nD)
   rw[AJe (by omega),AJe (by omega),Ah nD,drop_cons nD];have ih:=fun o=>fy (ep:=ep) hc hl n (i+1) o (by omega) (by omega)
   generalize l[i]=e at hm
   simp only[BG]at hm;rw[show(c.1,c.2.1,())=c from rfl,HB hc (by omega),Ff hc (by omega),AG (x:=(i:Int)+1) (by omega) (by omega),AG (x:=(o:Int)+1) (by omega) (by omega),show((i:Int)+1)=((i+1:Nat):Int)by omega,show((o:Int)+1)=((o+1:Nat):Int)by omega];simp only[ALi,ARN,eX,Sp];by_cases h40:e.1.length<=40
   ·rw[AJk (by omega),AM_ h40,ih o (by omega),ih (o+1) (by omega)]
    cases BC c e.2.1 with
    |false=>rfl
    |true=>
     cases hd:e.2.2.1 with
     |true=>
      grind
     |false=>
      grind
   grind
  ·rw[AJk (by omega)]
   grind[Sp,AEU]
theorem Lo{c:CQ}{w:AU}(hc:c.1.length<=2^40)(hl:Af BG w.2.1<=2^30):Hr c w=some ((Fe c w,()),()):=by
 have xY:=AX (f:=BG) (l:=w.2.1);unfold Hr YH Fe;have h:=fy (ep:=w.1) hc hl AW 0 0 (by omega) (Aa (by omega)) (by omega);rw[show((0:Nat):Int)=0 from rfl]at h;rw[show(c.1,c.2.1,())=c from rfl,GL hc,Bc,h];grind
theorem gN{c:CQ}{ep:Int}{l:List BH}(hc:c.1.length<=2^40)(hl:Af BG l<=2^30):∀(n i o:Nat),i<=l.length->l.length-i<n->o<=i->
  MY n o l l.length i c.1 c.2.1 ep l=some (((l.drop i).all (eX c)&&(EM c&&(BE ep 1 30&&(decide (l.length<=60)&&le6 (o+Sp (l.drop i))))),()),())
 |0,i,_,_,h,_=>by omega
 |n+1,i,o,hi,h,ho=>by
  have xY:=AX (f:=BG) (l:=l);simp only[MY,X8];by_cases nD:i<l.length
  ·have hm:=AY (f:=BG) (ALk nD)
   rw[show decide ((i:Int)<(l.length:Int))=true by simp_all,ALg,AJe (by omega),Ah nD,drop_cons nD];have ih:=fun o=>gN (ep:=ep) hc hl n (i+1) o (by omega) (by omega)
   generalize l[i]=e at hm
   simp only[BG]at hm;rw[show(c.1,c.2.1,())=c from rfl,EC hc (by omega),Gc hc (by omega),qc,AG (x:=(i:Int)+1) (by omega) (by omega),show((i:Int)+1)=((i+1:Nat):Int)by omega];simp only[ALi,ARN,eX,Sp,GF];have e40:decide ((e.1.length:Int)<=40)=decide (e.1.length<=40):=by
    grind
   rw[e40];cases hd:e.2.2.1 with
   |true=>
    rw[show AQ ((o:Int)+AGb (!true))=(o:Int)by rw[ALR,show AGb false=0 from rfl,Int.add_zero,AG (by omega) (by omega)],ih o (by omega)];grind
   |false=>
    rw[show AQ ((o:Int)+AGb (!false))=((o+1:Nat):Int)by rw[AOP,show AGb true=1 from rfl,AG (by omega) (by omega)];omega,ih (o+1) (by omega)];grind
  ·have:i=l.length:=by omega
   subst this;rw[show decide (((l.length:Nat):Int)<(l.length:Int))=false by simp,show(c.1,c.2.1,())=c from rfl,JO hc];simp only[AKp,ALi,Hl,Ax,ARO,List.all_nil,Sp,ART,ALl];grind[decide,AEU,EM,BE]
theorem Jh{c:CQ}{w:AU}(hc:c.1.length<=2^40)(hl:Af BG w.2.1<=2^30):GW c w=some ((Fe c w,()),()):=by
 have xY:=AX (f:=BG) (l:=w.2.1);unfold GW YG Fe;have h:=gN (ep:=w.1) hc hl AW 0 0 (by omega) (Aa (by omega)) (by omega);grind
theorem wG{c:CQ}{w:AU}(h:Fe c w=true):EM c=true/\(1<=w.1/\w.1<=30)/\w.2.1.length<=60/\ ∀e∈w.2.1,eX c e=true:=by
 simp only[Fe,BE,ALJ,ALh,ARM]at h;simp_all
theorem AEQ(a b:Int):decide (a<=b)= !decide (b<a):=by
 grind
theorem AR6(n k:Nat):decide ((n:Int)<=(k:Int))=decide (n<=k):=by
 simp_all
theorem AD6(n k:Nat):decide ((n:Int)>(k:Int))= !decide (n<=k):=by
 grind
def Bt(x:Int):Int:=cond (Av x) (x.tmod 4294967296) 0
theorem V5{x:Int}(h:Bp x):Gl x=some ((Bt x,()),()):=by
 grind[Gl,Bt,E5,Av]
theorem Q5{x:Int}(h:Bp x):SU x=some ((Bt x,()),()):=by
 grind[SU,Bt,Il,Av]
abbrev Dq:AJ:=(0,0,false,[],())
def Fq(e:AJ):Bool:=Av e.1&&(BE e.2.1 0 30&&((!decide (e.2.1>0)||decide (Ab e.1<e.2.1))&&(decide (e.2.2.2.1.length<=40)&&(!e.2.2.1||(decide (e.2.1>0)&&e.2.2.2.1==[])))))
theorem Rq{e:AJ}(h:Bp e.1):Ml e=some ((Fq e,()),()):=by
 unfold Ml Fq;grind[E5,Bc,EA,AEQ,Ab,decide,AD6,Av,BE]
theorem ARw{x:Int}(h:BE x 0 30=true):(x==0)= !decide (x>0):=by
 simp only[BE,ALh]at h;grind
theorem RV{e:AJ}(h:Bp e.1):NF e=some ((Fq e,()),()):=by
 unfold NF Fq GF;rw[Il h,Ax,Dl h];simp only[ALi];rw[show decide ((e.2.2.2.1.length:Int)<=40)=decide (e.2.2.2.1.length<=40)from AR6 _ 40,show decide (e.2.1>Ab e.1)=decide (Ab e.1<e.2.1)from rfl];rcases AJd (BE e.2.1 0 30)with hi|hi
 all_goals grind[ARw,Av,decide,Ab]
def aK(l:List AJ):Bool:=CL (fun i=>Fq (l.getD i Dq)) 0 l.length
def ly(l:List AJ):Bool:=CL (fun i=>i==0||decide ((l.getD (i-1) Dq).1<(l.getD i Dq).1)) 0 l.length
def vv(l:List AJ):Prop:= ∀e∈l,Bp e.1
theorem vv.getD{l:List AJ}(h:vv l){i:Nat}(hi:i<l.length):Bp (l.getD i Dq).1:=h _ (BJ hi)
theorem iK{l:List AJ}{k:Nat}(hl:l.length<=2^40)(h:vv l):WW l k=some ((decide (l.length<=k)&&aK l,()),()):=by
 unfold WW aY;have:=Fm (L:=fun n i=>MI n l i) (len:=l.length) (p:=fun i=>Fq (l.getD i Dq)) (fin:=true) (fun n i hi=>by
  simp only[MI,TA,AB];rw[AJe (by omega),AJe (by omega),AG (by omega) (by omega),show((i:Int)+1)=((i+1:Nat):Int)by omega];simp only[ALN];rw[show((l.getD i (0,0,false,[],())).1,(l.getD i (0,0,false,[],())).2.1,(l.getD i (0,0,false,[],())).2.2.1,(l.getD i (0,0,false,[],())).2.2.2.1,())=l.getD i Dq from rfl,Rq (h.getD hi)];simp_all) (fun n=>by
  simp only[MI,TA,AB];simp_all) l.length AW 0 (by omega) (Aa (by omega))
 rw[show((0:Nat):Int)=0 from rfl]at this;rw[this,AD6,AQ5];cases decide (l.length<=k)<;>rfl
theorem jb{l:List AJ}(hl:l.length<=2^40):Z9 l=some ((ly l,()),()):=by
 unfold Z9 dW ly;have h1:∀n (i:Nat),0<i->i<l.length->GY (n+1) l i=cond (i==0||decide ((l.getD (i-1) Dq).1<(l.getD i Dq).1)) (GY n l ((i+1:Nat):Int)) (some ((false,()),())):=fun n i h0 hi=>by
  simp only[GY,QV,AB];rw[AJe (by omega),AG (x:=(i:Int)-1) (by omega) (by omega),AJe (by omega),AJe (by omega),AG (by omega) (by omega),show((i:Int)+1)=((i+1:Nat):Int)by omega];have h1:((i:Int)-1).toNat=i-1:=by omega
  have h2:(i==0)=false:=by grind
  rw[h1,h2,ALN,APM];grind
 cases hlen:l.length with
 |zero=>
  obtain⟨m,hm⟩:∃m,AW=m+1:=⟨AW-1,by have:=WR;omega⟩;rw[hm];simp only[GY,QV,AB];rw[AJk (by omega)];rfl
 |succ k=>
  have:=Fm (L:=fun n i=>if(0:Int)<i then GY n l i else cond (decide (0<n)) (GY (n-1) l 1) none) (len:=l.length) (p:=fun i=>i==0||decide ((l.getD (i-1) Dq).1<(l.getD i Dq).1)) (fin:=true) (fun n i hi=>by
   simp_all) (fun n=>by
   rw[AJe (by omega)];simp only[GY,QV,AB];simp_all) l.length (AW+1) 0 (by omega) (by have:=WR;omega)
  simp_all
theorem bR{l:List AJ}(hl:l.length<=2^40)(h:vv l):O9 l=some ((aK l,()),()):=by
 unfold O9 Ww;have:=Fm (L:=fun n i=>IL n l l.length i) (len:=l.length) (p:=fun i=>Fq (l.getD i Dq)) (fin:=true) (fun n i hi=>by
  simp only[IL,PK,AB];rw[AJe (by omega),AJe (by omega),AG (by omega) (by omega),show((i:Int)+1)=((i+1:Nat):Int)by omega];simp only[ALN];rw[show((l.getD i (0,0,false,[],())).1,(l.getD i (0,0,false,[],())).2.1,(l.getD i (0,0,false,[],())).2.2.1,(l.getD i (0,0,false,[],())).2.2.2.1,())=l.getD i Dq from rfl,RV (h.getD hi)];simp_all) (fun n=>by
  simp only[IL,PK,AB];simp_all) l.length AW 0 (by omega) (Aa (by omega))
 rw[show((0:Nat):Int)=0 from rfl]at this;rw[this,AQ5];rfl
theorem Wv{l:List AJ}(hl:l.length<=2^40):Ks l=some ((ly l,()),()):=by
 unfold Ks Sm;have:=Fm (L:=fun n i=>GG n l l l.length i) (len:=l.length) (p:=fun i=>i==0||decide ((l.getD (i-1) Dq).1<(l.getD i Dq).1)) (fin:=true) (fun n i hi=>by
  simp only[GG,L2,AB];rw[AJe (by omega),AJe (by omega),AG (x:=(i:Int)+1) (by omega) (by omega),show((i:Int)+1)=((i+1:Nat):Int)by omega];by_cases h0:i=0
  ·simp_all
  ·rw[AJe (by omega),AG (by omega) (by omega),AJe (by omega)]
   have h1:((i:Int)-1).toNat=i-1:=by omega
   have h2:(i==0)=false:=by simp_all
   rw[h1,h2,ALN,APM];grind) (fun n=>by
  simp only[GG,L2,AB];simp_all) l.length AW 0 (by omega) (Aa (by omega))
 rw[show((0:Nat):Int)=0 from rfl]at this;rw[this,AQ5];rfl
def CH(s:AM):Bool:=(decide (s.1.length<=200)&&aK s.1)&&((decide (s.2.1.length<=20)&&aK s.2.1)&&(ly s.1&&BE s.2.2.1 0 30))
def vf(s:AM):Prop:=vv s.1/\vv s.2.1
theorem Fy{s:AM}(hl:Aj s<=2^30)(h:vf s):Gf s=some ((CH s,()),()):=by
 have l1:=AX (f:=Ap) (l:=s.1);have l2:=AX (f:=Ap) (l:=s.2.1);unfold Aj at hl;have e1:=iK (l:=s.1) (k:=200) (by omega) h.1;have e2:=iK (l:=s.2.1) (k:=20) (by omega) h.2;rw[show((200:Nat):Int)=200 from rfl]at e1;rw[show((20:Nat):Int)=20 from rfl]at e2;grind[Gf,CH,jb,Bc,decide,aK,ly]
theorem Ez{s:AM}(hl:Aj s<=2^30)(h:vf s):FA s=some ((CH s,()),()):=by
 have l1:=AX (f:=Ap) (l:=s.1);have l2:=AX (f:=Ap) (l:=s.2.1);unfold Aj at hl;unfold FA CH;rw[bR (by omega) h.1,bR (by omega) h.2,Wv (by omega),Ax,show decide ((s.1.length:Int)>200)= !decide (s.1.length<=200)from AD6 _ 200,show decide ((s.2.1.length:Int)>20)= !decide (s.2.1.length<=20)from AD6 _ 20];grind
theorem oJ{L:Nat->Int->Option (ABz×Unit)}{len N:Nat}{p:Nat->Bool}{fin:Bool}(h1:∀n (i:Nat),i<len->L (n+1) i=cond (p i) (L n ((i+1:Nat):Int)) (some ((false,()),())))(h2:∀n,N<=n->L (n+1) (len:Int)=some ((fin,()),())):
  ∀d n i,i+d=len->d+N<n->L n i=some ((CL p i d&&fin,()),())
 |0,n,i,hd,h=>by
  obtain⟨m,rfl⟩:∃m,n=m+1:=⟨n-1,by omega⟩;have:i=len:=by omega
  subst this;rw[h2 m (by omega)];rfl
 |d+1,n,i,hd,h=>by
  obtain⟨m,rfl⟩:∃m,n=m+1:=⟨n-1,by omega⟩;rw[h1 m i (by omega)];simp only[CL];cases p i with
  |false=>rfl
  |true=>rw[ALg,oJ h1 h2 d m (i+1) (by omega) (by omega)];rfl
def O5(l:List AJ):Int:=cond (l.length==0) 0 (Bt (l.getD (l.length-1) Dq).1)
theorem gv{m:Az}(hl:m.2.2.2.1.length<=2^40)(h:vv m.2.2.2.1):Sx m=some ((O5 m.2.2.2.1,()),()):=by
 unfold Sx O5;by_cases h0:m.2.2.2.1.length=0
 ·simp[h0]
 ·have e1:((m.2.2.2.1.length:Int)==0)=false:=by simp_all
  have e2:(m.2.2.2.1.length==0)=false:=by simp_all
  rw[e1,e2];simp only[AKp];rw[AG (by omega) (by omega),AJe (by omega),show((m.2.2.2.1.length:Int)-1).toNat=m.2.2.2.1.length-1 by omega,V5 (h.getD (by omega))];rfl
theorem gF{m:Az}(hl:m.2.2.2.1.length<=2^40)(h:vv m.2.2.2.1):Th m=some ((O5 m.2.2.2.1,()),()):=by
 unfold Th O5;by_cases h0:m.2.2.2.1.length=0
 ·simp[h0]
 ·have e1:((m.2.2.2.1.length:Int)==0)=false:=by simp_all
  have e2:(m.2.2.2.1.length==0)=false:=by simp_all
  rw[e1,e2];simp only[AKp];rw[AG (by omega) (by omega),AJe (by omega),show((m.2.2.2.1.length:Int)-1).toNat=m.2.2.2.1.length-1 by omega,Q5 (h.getD (by omega))];rfl
def xC(l:List AJ)(ep by_:Int)(i:Nat):Bool:=Fq (l.getD i Dq)&&((Ab (l.getD i Dq).1==ep)&&decide ((l.getD i Dq).2.1<by_))
def xt(l:List AJ)(ep by_:Int):Bool:=CL (xC l ep by_) 0 l.length
def sf(c:CQ)(l:List AAA):Bool:=CL (fun i=>BC c (l.getD i [])) 0 l.length
def HE(c:CQ)(m:Az):Bool:=EM c&&(BE m.2.1 1 30&&(BE m.1 (m.2.1+1) 30&&(BC c m.2.2.1&&(ly m.2.2.2.1&&(xt m.2.2.2.1 m.2.1 m.1&&(sf c m.2.2.2.2.2.1&&((m.2.2.2.2.2.1.length:Int)==cond m.2.2.2.2.1 (O5 m.2.2.2.1) 0)))))))
theorem Jv{c:CQ}{m:Az}(hc:c.1.length<=2^40)(hm:CE m<=2^30)(h:vv m.2.2.2.1):JK c m=some ((HE c m,()),()):=by
 have l1:=AX (f:=Ap) (l:=m.2.2.2.1);have l2:=AX (f:=Cl) (l:=m.2.2.2.2.2.1);unfold CE at hm;have wr:∀n,m.2.2.2.2.2.1.length+1<=n->ID n 0 c.1 c.2.1 m.1 m.2.1 m.2.2.1 m.2.2.2.1 m.2.2.2.2.1 m.2.2.2.2.2.1=some ((sf c m.2.2.2.2.2.1&&((m.2.2.2.2.2.1.length:Int)==cond m.2.2.2.2.1 (O5 m.2.2.2.1) 0),()),()):=fun n hn=>by
  refine Fm (L:=fun n i=>ID n i c.1 c.2.1 m.1 m.2.1 m.2.2.1 m.2.2.2.1 m.2.2.2.2.1 m.2.2.2.2.2.1) (len:=m.2.2.2.2.2.1.length) (p:=fun i=>BC c (m.2.2.2.2.2.1.getD i [])) (fin:=(m.2.2.2.2.2.1.length:Int)==cond m.2.2.2.2.1 (O5 m.2.2.2.1) 0) (fun n i hi=> ?_) (fun n=> ?_) m.2.2.2.2.2.1.length n 0 (by omega) (by omega)
  ·have hwi:(m.2.2.2.2.2.1.getD i []).length<=Af Cl m.2.2.2.2.2.1:=AY (f:=Cl) (BJ (d:=[]) hi)
   simp only[ID,TZ,AB];rw[AJe (by omega),AJe (by omega),AG (by omega) (by omega),show((i:Int)+1)=((i+1:Nat):Int)by omega,ALN,show(c.1,c.2.1,())=c from rfl,HB hc (by omega)];simp_all
  ·simp only[ID,TZ,AB]
   rw[AJk (by omega),W8 m,gv (by omega) h];grind
 have se:=oJ (L:=fun n i=>Jo n i c.1 c.2.1 m.1 m.2.1 m.2.2.1 m.2.2.2.1 m.2.2.2.2.1 m.2.2.2.2.2.1) (len:=m.2.2.2.1.length) (N:=m.2.2.2.2.2.1.length+1) (p:=xC m.2.2.2.1 m.2.1 m.1) (fin:=sf c m.2.2.2.2.2.1&&((m.2.2.2.2.2.1.length:Int)==cond m.2.2.2.2.1 (O5 m.2.2.2.1) 0)) (fun n i hi=>by
   simp only[Jo,UM,AB,xC];have hb:(0:Int)<=(i:Int)/\(i:Int)<(m.2.2.2.1.length:Int):=by omega
   rw[AJe hb.2,AG (by omega) (by omega),show((i:Int)+1)=((i+1:Nat):Int)by omega,ALN];simp only[AJe hb];rw[show((m.2.2.2.1.getD i (0,0,false,[],())).1,(m.2.2.2.1.getD i (0,0,false,[],())).2.1,(m.2.2.2.1.getD i (0,0,false,[],())).2.2.1,(m.2.2.2.1.getD i (0,0,false,[],())).2.2.2.1,())=m.2.2.2.1.getD i Dq from rfl,Rq (h.getD hi),EA (h.getD hi)];grind) (fun n hn=>by
   simp only[Jo,UM,AB];simp_all) m.2.2.2.1.length AW 0 (by omega) (Aa (by omega))
 rw[show((0:Nat):Int)=0 from rfl]at se;unfold JK az HE;rw[show(c.1,c.2.1,())=c from rfl,GL hc,Bc,Bc,HB hc (by omega),jb (by omega),se];simp only[ALi];rcases AJd (BE m.2.1 1 30)with hi|hi
 ·have mv:=hi
  simp only[BE,ALh]at mv;rw[AG (by omega) (by omega),hi];cases EM c<;>cases BE m.1 (m.2.1+1) 30<;>cases BC c m.2.2.1<;>cases ly m.2.2.2.1<;>rfl
 simp_all
theorem s8{m:Az}(hm:CE m<=2^30)(h:vv m.2.2.2.1):Wy m=some ((xt m.2.2.2.1 m.2.1 m.1&&ly m.2.2.2.1,()),()):=by
 have l1:=AX (f:=Ap) (l:=m.2.2.2.1);unfold CE at hm;unfold Wy ba;exact Fm (L:=fun n i=>ML n m.2.2.2.1 m.2.2.2.1.length i m.1 m.2.1 m.2.2.1 m.2.2.2.1 m.2.2.2.2.1 m.2.2.2.2.2.1) (len:=m.2.2.2.1.length) (p:=xC m.2.2.2.1 m.2.1 m.1) (fin:=ly m.2.2.2.1) (fun n i hi=>by
  simp only[ML,Tj,AB,xC];rw[AJe (by omega),AJe (by omega),AG (by omega) (by omega),show((i:Int)+1)=((i+1:Nat):Int)by omega,ALN];rw[show((m.2.2.2.1.getD i (0,0,false,[],())).1,(m.2.2.2.1.getD i (0,0,false,[],())).2.1,(m.2.2.2.1.getD i (0,0,false,[],())).2.2.1,(m.2.2.2.1.getD i (0,0,false,[],())).2.2.2.1,())=m.2.2.2.1.getD i Dq from rfl,RV (h.getD hi),Dl (h.getD hi)];grind) (fun n=>by
  simp only[ML,Tj,AB];rw[AJk (by omega),Wv (by omega)];rfl) m.2.2.2.1.length AW 0 (by omega) (Aa (by omega))
theorem IA{c:CQ}{m:Az}(hc:c.1.length<=2^40)(hm:CE m<=2^30)(h:vv m.2.2.2.1):Ht c m=some ((HE c m,()),()):=by
 have l1:=AX (f:=Ap) (l:=m.2.2.2.1);have l2:=AX (f:=Cl) (l:=m.2.2.2.2.2.1);have hm2:=hm;unfold CE at hm;have key:=Fm (L:=fun n i=>L4 n m.2.2.2.2.2.1 m.2.2.2.2.2.1.length i c.1 c.2.1 m.1 m.2.1 m.2.2.1 m.2.2.2.1 m.2.2.2.2.1 m.2.2.2.2.2.1) (len:=m.2.2.2.2.2.1.length) (p:=fun i=>BC c (m.2.2.2.2.2.1.getD i []))
  (fin:=EM c&&(BE m.2.1 1 30&&(BE m.1 (m.2.1+1) 30&&(BC c m.2.2.1&&((xt m.2.2.2.1 m.2.1 m.1&&ly m.2.2.2.1)&&((m.2.2.2.2.2.1.length:Int)==cond m.2.2.2.2.1 (O5 m.2.2.2.1) 0)))))) (fun n i hi=>by
   have hwi:(m.2.2.2.2.2.1.getD i []).length<=Af Cl m.2.2.2.2.2.1:=AY (f:=Cl) (BJ (d:=[]) hi);simp only[L4,Uf,AB];rw[AJe (by omega),AJe (by omega),AG (x:=(i:Int)+1) (by omega) (by omega),show((i:Int)+1)=((i+1:Nat):Int)by omega,ALN,show(c.1,c.2.1,())=c from rfl,EC hc (by omega)];simp_all) (fun n=>by
   simp only[L4,Uf,AB];rw[AJk (by omega),W8 m,gF (by omega) h,show(c.1,c.2.1,())=c from rfl,JO hc,EC hc (by omega),s8 hm2 h];simp only[ALi,Hl,Ax];rcases AJd (BE m.2.1 1 30)with hi|hi
   ·have mv:=hi
    simp only[BE,ALh]at mv;grind[AG,EM,BE,BC,xt,ly]
   simp_all) m.2.2.2.2.2.1.length AW 0 (by omega) (Aa (by omega))
 unfold Ht bZ HE;rw[show((0:Nat):Int)=0 from rfl]at key;grind[sf,CL,BC,EM,BE,xt,ly]
theorem AG0{x:Int}{l:AAA}(hl:l.length<=2^40):∃r,Ny [x] l=some (((),()),(r,()))/\decide ((r.length:Int)>0)=l.contains x:=by
 obtain⟨m,hm⟩:∃m,AW=m+2:=⟨AW-2,by have:=WR;omega⟩;unfold Ny DD;rw[AJe (by rw[Am];simp)];simp only[ALi];unfold Cm Dy Di D9;rw[hm];simp only[CD,D7,Sj,AMK,APb,AB];rw[AJe (by omega),AJe (by omega)];simp only[Int.toNat_zero,List.getD_cons_zero];rw[JB hl];simp only[ALi];cases l.contains x with
 |true=>
  simp only[ALR,AKp];rw[AG (x:=0+1) (by omega) (by omega),AJk (by omega)];simp_all
 |false=>
  simp only[AOP,ALg,ALi];rw[AG (x:=0+1) (by omega) (by omega)];simp only[B6,Dx,AB,AMK,APb];simp_all
theorem dQ{w:AA}{x:Int}(hl:w.2.2.2.1.length<=2^40):C7 w x=some ((w.2.2.2.1.contains x,()),()):=by
 unfold C7;obtain⟨r,h1,h2⟩:=AG0 (x:=x) hl;simp_all
theorem K5{l:AAA}{x:Int}(hl:l.length<=2^40):DI l x=some ((l.contains x,()),()):=by
 have key:∀(n i:Nat),i<=l.length->l.length-i<n->RH n l x i=some (((l.drop i).contains x,()),()):=by
  intro n
  induction n with
  |zero=>omega
  |succ n ih=>
   intro i hi h;simp only[RH,dN,AB];by_cases hc:i<l.length
   ·rw[AJe (by omega),AJe (by omega),AG (by omega) (by omega),show((i:Int)+1)=((i+1:Nat):Int)by omega,Ah hc,drop_cons hc,ih (i+1) (by omega) (by omega)]
    simp only[List.contains_cons];by_cases he:l[i]=x
    all_goals grind
   grind
 grind[DI,cl,AW,Aa]
def ZI(l:List Cx):Nat->Nat->Int
 |_,0=>0
 |i,d+1=>cond (!(l.getD i ([],false,0,())).2.1) ((i:Int)+1) (ZI l (i+1) d)
def BR(l:List Cx):Int:=ZI l 0 l.length
theorem OP{r:AN}(hl:r.1.length<=2^40):Jq r=some ((BR r.1,()),()):=by
 have key:∀(d n i:Nat),i+d=r.1.length->d<n->II n i r.1 r.2.1=some ((ZI r.1 i d,()),()):=by
  intro d
  induction d with
  |zero=>
   intro n i hi hn;obtain⟨m,rfl⟩:∃m,n=m+1:=⟨n-1,by omega⟩;simp only[II,PB,AB,ZI];simp_all
  |succ d ih=>
   intro n i hi hn;obtain⟨m,rfl⟩:∃m,n=m+1:=⟨n-1,by omega⟩;simp only[II,PB,AB,ZI];rw[AJe (by omega),AJe (by omega),AG (by omega) (by omega),show((i:Int)+1)=((i+1:Nat):Int)by omega,ih m (i+1) (by omega) (by omega),ALN];grind
 grind[Jq,Wf,BR,AW,Aa]
theorem Uh{r:AN}(hl:r.1.length<=2^40):L3 r=some ((BR r.1,()),()):=by
 have key:∀(d n i:Nat),i+d=r.1.length->d<n->IU n r.1 r.1.length i=some ((ZI r.1 i d,()),()):=by
  intro d
  induction d with
  |zero=>
   intro n i hi hn;obtain⟨m,rfl⟩:∃m,n=m+1:=⟨n-1,by omega⟩;simp only[IU,P0,AB,ZI];simp_all
  |succ d ih=>
   intro n i hi hn;obtain⟨m,rfl⟩:∃m,n=m+1:=⟨n-1,by omega⟩;simp only[IU,P0,AB,ZI];rw[AJe (by omega),AJe (by omega),AG (by omega) (by omega),show((i:Int)+1)=((i+1:Nat):Int)by omega,ih m (i+1) (by omega) (by omega),ALN];grind
 grind[L3,XH,BR,AW,Aa]
structure lg (w:AA):Prop where
 weight:CX w<=2^20
 Bd:∀s∈w.2.2.1,vf s
 trim:Bp w.2.2.2.2.2.1
 CY:∀m∈w.2.2.2.2.2.2.2.1,vv m.2.2.2.1
 AOH:∀s∈w.2.2.2.2.2.2.2.2.2.1,Bp s.1
abbrev Dp:AM:=([],[],0,())
abbrev CO:AU:=(0,[],())
abbrev Su:Az:=(0,0,[],[],false,[],())
abbrev AR:Ac:=(0,0,[],())
abbrev HP:Ak:=(0,[],false,())
def Ae(w:AA):CQ:=(w.1,w.2.1,())
def CT(w:AA):AN:=(w.2.2.2.2.1,w.2.2.2.2.2.1,())
def pK(w:AA)(i:Nat):Bool:=CH (w.2.2.1.getD i Dp)&&(!w.2.2.2.1.contains (i:Int)||((w.2.2.1.getD i Dp).1.length==0&&((w.2.2.1.getD i Dp).2.1.length==0&&(w.2.2.1.getD i Dp).2.2.1==0)))
def jI(w:AA)(i:Nat):Bool:=Fe (Ae w) (w.2.2.2.2.2.2.1.getD i CO)&&(decide ((w.2.2.2.2.2.2.1.getD i CO).1<=(w.2.2.2.2.1.length:Int))&&(i==0||decide ((w.2.2.2.2.2.2.1.getD (i-1) CO).1<(w.2.2.2.2.2.2.1.getD i CO).1)))
def xu(w:AA)(i:Nat):Bool:=HE (Ae w) (w.2.2.2.2.2.2.2.1.getD i Su)&&(((w.2.2.2.2.2.2.2.1.getD i Su).1==(w.2.2.2.2.1.length:Int))&&((w.2.2.2.2.2.2.2.1.getD i Su).2.1==BR w.2.2.2.2.1))
def pn(w:AA)(i:Nat):Bool:=(Av (w.2.2.2.2.2.2.2.2.2.1.getD i HP).1&&decide (Ab (w.2.2.2.2.2.2.2.2.2.1.getD i HP).1<=(w.2.2.2.2.1.length:Int)))&&(decide ((w.2.2.2.2.2.2.2.2.2.1.getD i HP).2.1.length<=40)&&(i==0||decide ((w.2.2.2.2.2.2.2.2.2.1.getD (i-1) HP).1<(w.2.2.2.2.2.2.2.2.2.1.getD i HP).1)))
def jC(w:AA):Bool:=CL (pK w) 0 w.2.2.1.length
def c_(w:AA):Bool:=CL (jI w) 0 w.2.2.2.2.2.2.1.length
def kE(w:AA):Bool:=CL (xu w) 0 w.2.2.2.2.2.2.2.1.length
def pq(w:AA):Bool:=CL (pn w) 0 w.2.2.2.2.2.2.2.2.2.1.length
def Zn(w:AA):Bool:=decide (w.2.2.2.2.2.2.2.2.1.length=2)&&(T8 (w.2.2.2.2.2.2.2.2.1.getD 0 AR)&&T8 (w.2.2.2.2.2.2.2.2.1.getD 1 AR))
def DA(w:AA):Bool:=EM (Ae w)&&(decide (w.2.2.1.length=w.1.length)&&(BC (Ae w) w.2.2.2.1&&((w.2.2.2.2.2.2.2.2.2.2.1|| !holds (Ae w) w.2.2.2.1)&&(jC w&&(Po (Ae w) (CT w)&&(decide (w.2.2.2.2.2.2.1.length<=4)&&(decide (w.2.2.2.2.2.2.2.1.length<=1)&&(c_ w&&(kE w&&(Zn w&&(decide (w.2.2.2.2.2.2.2.2.2.1.length<=120)&&pq w)))))))))))
section
variable{w:AA} (h:lg w)
include h
theorem lg.lens:w.1.length<=2^20/\Af Aj w.2.2.1<=2^20/\w.2.2.2.1.length<=2^20/\Af B_ w.2.2.2.2.1<=2^20/\Af Ao w.2.2.2.2.2.2.1<=2^20/\Af CE w.2.2.2.2.2.2.2.1<=2^20/\Af Aw w.2.2.2.2.2.2.2.2.1<=2^20/\Af DV w.2.2.2.2.2.2.2.2.2.1<=2^20:=by
 have:=h.weight;grind[CX]
theorem lg.MD:w.2.2.1.length<=2^20/\w.2.2.2.2.1.length<=2^20/\w.2.2.2.2.2.2.1.length<=2^20/\w.2.2.2.2.2.2.2.1.length<=2^20/\w.2.2.2.2.2.2.2.2.1.length<=2^20/\w.2.2.2.2.2.2.2.2.2.1.length<=2^20:=by
 have k:=h.lens;grind[AX,Aj,B_,Ao,CE,Aw,DV]
theorem lg.cfg:(Ae w).1.length<=2^40:=by
 have:=h.lens
 show w.1.length<=2^40
 omega
theorem ABp:LW w=some ((decide (w.2.2.1.length=w.1.length)&&(BC (Ae w) w.2.2.2.1&&(jC w&&(w.2.2.2.2.2.2.2.2.2.2.1|| !holds (Ae w) w.2.2.2.1))),()),()):=by
 have k1:=h.lens;have k2:=h.MD;have key:=Fm (L:=fun n i=>FD n w w.2.2.1 w.2.2.1.length i) (len:=w.2.2.1.length) (p:=pK w) (fin:=w.2.2.2.2.2.2.2.2.2.2.1|| !holds (Ae w) w.2.2.2.1) (fun n i hi=>by
  have hm:=BJ (d:=Dp) hi;have hw:=AY (f:=Aj) hm;simp only[FD,KS,AB,pK];rw[AJe (by omega),AJe (by omega),AG (x:=(i:Int)+1) (by omega) (by omega),show((i:Int)+1)=((i+1:Nat):Int)by omega,ALN,dQ (by omega)];rw[show((w.2.2.1.getD i ([],[],0,())).1,(w.2.2.1.getD i ([],[],0,())).2.1,(w.2.2.1.getD i ([],[],0,())).2.2.1,())=w.2.2.1.getD i Dp from rfl,Ez (by omega) (h.Bd _ hm)];simp only[ALi]
  show cond (!CH (w.2.2.1.getD i Dp)) _ _=_
  rcases AJd (CH (w.2.2.1.getD i Dp))with hs|hs
  rotate_left
  ·simp_all
  rw[hs];have hs2:=hs;simp only[CH,BE,ALJ,ALh]at hs2
  generalize w.2.2.1.getD i Dp=s at hw hs2
  cases w.2.2.2.1.contains ((i:Nat):Int)with
  |false=>rfl
  |true=>
   simp only[ALR,AKp,ALg,ALl,APM];unfold Aj at hw;have q1:=AX (f:=Ap) (l:=s.1);have q2:=AX (f:=Ap) (l:=s.2.1);rw[AG (x:=(s.1.length:Int)+_) (by omega) (by omega),AG (by omega) (by omega)];grind) (fun n=>by
  simp only[FD,KS,AB];rw[AJk (by omega),show(w.1,w.2.1,())=Ae w from rfl,Gc h.cfg (by omega)];grind) w.2.2.1.length AW 0 (by omega) (Aa (by omega))
 rw[show((0:Nat):Int)=0 from rfl]at key;unfold LW Qe jC;rw[show(w.1,w.2.1,())=Ae w from rfl,EC h.cfg (by omega),key];grind[decide_eq_true,BC,Ae,decide_eq_false]
end
theorem AEh{x lo hi:Int}(h:lo<=x):BE x lo hi=decide (x<=hi):=by
 grind[BE,decide_eq_true,decide_eq_false]
theorem AGL{x lo hi:Int}(h:x<lo):BE x lo hi=false:=by
 grind[BE,decide_eq_false]
section
variable{w:AA} (h:lg w)
include h
theorem zF:Kp w=some ((c_ w&&decide (w.2.2.2.2.2.2.1.length<=4),()),()):=by
 have k1:=h.lens;have k2:=h.MD;have key:=Fm (L:=fun n i=>Ec n w w.2.2.2.2.2.2.1 w.2.2.2.2.2.2.1.length i) (len:=w.2.2.2.2.2.2.1.length) (p:=jI w) (fin:=decide (w.2.2.2.2.2.2.1.length<=4)) (fun n i hi=>by
  have hm:=BJ (d:=CO) hi;have hw:=AY (f:=Ao) hm;unfold Ao at hw;simp only[Ec,Jn,AB,jI,Jt,Ax];rw[AJe (by omega),AJe (by omega),AG (x:=(i:Int)+1) (by omega) (by omega),show((i:Int)+1)=((i+1:Nat):Int)by omega,ALN];have hw2:Af BG (w.2.2.2.2.2.2.1.getD i CO).2.1<=2^30:=by
   have:=k1.2.2.2.2.1;unfold Ao at this;omega
  rw[show((w.2.2.2.2.2.2.1.getD i (0,[],())).1,(w.2.2.2.2.2.2.1.getD i (0,[],())).2.1,())=w.2.2.2.2.2.2.1.getD i CO from rfl,show(w.1,w.2.1,())=Ae w from rfl,Jh h.cfg hw2];simp only[ALi];rcases AJd (Fe (Ae w) (w.2.2.2.2.2.2.1.getD i CO))with hs|hs
  rotate_left
  ·simp_all
  have he:=(wG hs).2.1;rw[hs,show BE (w.2.2.2.2.2.2.1.getD i (0,[],())).1 1 (w.2.2.2.2.1.length:Int)=decide ((w.2.2.2.2.2.2.1.getD i CO).1<=(w.2.2.2.2.1.length:Int))from AEh he.1];simp only[ALR,AKp,ALl];cases decide ((w.2.2.2.2.2.2.1.getD i CO).1<=(w.2.2.2.2.1.length:Int))with
  |false=>rfl
  |true=>
   simp only[ALR,AKp,ALl];by_cases h0:i=0
   ·simp_all
   ·rw[AJe (by omega),AG (by omega) (by omega),AJe (by omega)]
    have h1:((i:Int)-1).toNat=i-1:=by omega
    have h2:(i==0)=false:=by simp_all
    rw[h1,h2,APM];grind) (fun n=>by
  simp only[Ec,Jn,AB];simp_all;omega) w.2.2.2.2.2.2.1.length AW 0 (by omega) (Aa (by omega))
 rw[show((0:Nat):Int)=0 from rfl]at key;grind[Kp,Pb,c_]
theorem ACS:Mv w=some ((kE w&&decide (w.2.2.2.2.2.2.2.1.length<=1),()),()):=by
 have k1:=h.lens;have k2:=h.MD;have key:=Fm (L:=fun n i=>Fc n w w.2.2.2.2.2.2.2.1 w.2.2.2.2.2.2.2.1.length i) (len:=w.2.2.2.2.2.2.2.1.length) (p:=xu w) (fin:=decide (w.2.2.2.2.2.2.2.1.length<=1)) (fun n i hi=>by
  have hm:=BJ (d:=Su) hi;have hw:=AY (f:=CE) hm;simp only[Fc,LA,AB,xu];rw[AJe (by omega),AJe (by omega),AG (x:=(i:Int)+1) (by omega) (by omega),show((i:Int)+1)=((i+1:Nat):Int)by omega,ALN];rw[show((w.2.2.2.2.2.2.2.1.getD i (0,0,[],[],false,[],())).1,(w.2.2.2.2.2.2.2.1.getD i (0,0,[],[],false,[],())).2.1,(w.2.2.2.2.2.2.2.1.getD i (0,0,[],[],false,[],())).2.2.1,(w.2.2.2.2.2.2.2.1.getD i (0,0,[],[],false,[],())).2.2.2.1,(w.2.2.2.2.2.2.2.1.getD i (0,0,[],[],false,[],())).2.2.2.2.1,(w.2.2.2.2.2.2.2.1.getD i (0,0,[],[],false,[],())).2.2.2.2.2.1,())=w.2.2.2.2.2.2.2.1.getD i Su from rfl,show(w.1,w.2.1,())=Ae w from rfl,IA h.cfg (by omega) (h.CY _ hm)];rw[Uh (by grind)];grind) (fun n=>by
  simp only[Fc,LA,AB];simp_all;omega) w.2.2.2.2.2.2.2.1.length AW 0 (by omega) (Aa (by omega))
 rw[show((0:Nat):Int)=0 from rfl]at key;grind[Mv,RD,kE]
theorem yv:K7 w=some ((Zn w,()),()):=by
 have k2:=h.MD;have key:=Fm (L:=fun n i=>EY n w w.2.2.2.2.2.2.2.2.1 w.2.2.2.2.2.2.2.2.1.length i) (len:=w.2.2.2.2.2.2.2.2.1.length) (p:=fun i=>T8 (w.2.2.2.2.2.2.2.2.1.getD i AR)) (fin:=((w.2.2.2.2.2.2.2.2.1.length:Int)==2)) (fun n i hi=>by
  simp only[EY,J4,AB];rw[AJe (by omega),AJe (by omega),AG (x:=(i:Int)+1) (by omega) (by omega),show((i:Int)+1)=((i+1:Nat):Int)by omega,ALN];rw[show((w.2.2.2.2.2.2.2.2.1.getD i (0,0,[],())).1,(w.2.2.2.2.2.2.2.2.1.getD i (0,0,[],())).2.1,(w.2.2.2.2.2.2.2.2.1.getD i (0,0,[],())).2.2.1,())=w.2.2.2.2.2.2.2.2.1.getD i AR from rfl,dw];simp_all) (fun n=>by
  simp only[EY,J4,AB];simp_all) w.2.2.2.2.2.2.2.2.1.length AW 0 (by omega) (Aa (by omega))
 rw[show((0:Nat):Int)=0 from rfl]at key;unfold K7 PT Zn;grind[CL,decide_eq_false]
theorem AF2:Ot w=some ((pq w&&decide (w.2.2.2.2.2.2.2.2.2.1.length<=120),()),()):=by
 have k2:=h.MD;have key:=Fm (L:=fun n i=>GK n w w.2.2.2.2.2.2.2.2.2.1 w.2.2.2.2.2.2.2.2.2.1.length i) (len:=w.2.2.2.2.2.2.2.2.2.1.length) (p:=pn w) (fin:=decide (w.2.2.2.2.2.2.2.2.2.1.length<=120)) (fun n i hi=>by
  have hm:=BJ (d:=HP) hi;have Qt:Bp (w.2.2.2.2.2.2.2.2.2.1.getD i (0,[],false,())).1:=h.AOH _ hm;simp only[GK,Ll,AB,pn,Jt,Ax,GF];rw[AJe (by omega),AJe (by omega),AG (x:=(i:Int)+1) (by omega) (by omega),show((i:Int)+1)=((i+1:Nat):Int)by omega,ALN,Dl Qt];simp only[ALi];have e1:BE (Ab (w.2.2.2.2.2.2.2.2.2.1.getD i (0,[],false,())).1) 1 (w.2.2.2.2.1.length:Int)=(Av (w.2.2.2.2.2.2.2.2.2.1.getD i HP).1&&decide (Ab (w.2.2.2.2.2.2.2.2.2.1.getD i HP).1<=(w.2.2.2.2.1.length:Int))):=by
   show BE (Ab (w.2.2.2.2.2.2.2.2.2.1.getD i HP).1) 1 (w.2.2.2.2.1.length:Int)=_
   have hr:=cM (x:=(w.2.2.2.2.2.2.2.2.2.1.getD i HP).1);rcases AJd (Av (w.2.2.2.2.2.2.2.2.2.1.getD i HP).1)with hp|hp
   ·rw[hp,AEh (hr.1 hp).1,ALl]
   ·rw[hp,hr.2 hp,AGL (by omega),ARA]
  rw[e1,show decide ((((w.2.2.2.2.2.2.2.2.2.1.getD i (0,[],false,())).2.1.length:Nat):Int)<=40)=decide ((w.2.2.2.2.2.2.2.2.2.1.getD i HP).2.1.length<=40)from AR6 _ 40];cases(Av (w.2.2.2.2.2.2.2.2.2.1.getD i HP).1&&decide (Ab (w.2.2.2.2.2.2.2.2.2.1.getD i HP).1<=(w.2.2.2.2.1.length:Int)))with
  |false=>rfl
  |true=>
   cases decide ((w.2.2.2.2.2.2.2.2.2.1.getD i HP).2.1.length<=40)with
   |false=>rfl
   |true=>
    simp only[ALR,AKp,ALl];by_cases h0:i=0
    ·simp_all
    ·rw[AJe (by omega),AG (by omega) (by omega),AJe (by omega)]
     have h1:((i:Int)-1).toNat=i-1:=by omega
     have h2:(i==0)=false:=by simp_all
     rw[h1,h2,APM];grind) (fun n=>by
  simp only[GK,Ll,AB];simp_all;omega) w.2.2.2.2.2.2.2.2.2.1.length AW 0 (by omega) (Aa (by omega))
 rw[show((0:Nat):Int)=0 from rfl]at key;grind[Ot,Sf,pq]
theorem Fp:Cz w=some ((DA w,()),()):=by
 have k1:=h.lens;unfold Cz DA;rw[Fo w,show(w.1,w.2.1,())=Ae w from rfl,show(w.2.2.2.2.1,w.2.2.2.2.2.1,())=CT w from rfl];rw[JO h.cfg,ABp h,Nl h.cfg (by show Af B_ w.2.2.2.2.1<=_;omega) h.trim,zF h,ACS h,yv h,AF2 h];grind
end
section
variable{w:AA} (h:lg w)
include h
theorem AAZ:WH w=some ((EM (Ae w)&&(decide (w.2.2.1.length=w.1.length)&&(BC (Ae w) w.2.2.2.1&&((w.2.2.2.2.2.2.2.2.2.2.1|| !holds (Ae w) w.2.2.2.1)&&jC w))),()),()):=by
 have k1:=h.lens;have k2:=h.MD;have key:=Fm (L:=fun n i=>Jm n i w.1 w.2.1 w.2.2.1 w.2.2.2.1 w.2.2.2.2.1 w.2.2.2.2.2.1 w.2.2.2.2.2.2.1 w.2.2.2.2.2.2.2.1 w.2.2.2.2.2.2.2.2.1 w.2.2.2.2.2.2.2.2.2.1 w.2.2.2.2.2.2.2.2.2.2.1) (len:=w.2.2.1.length) (p:=pK w) (fin:=true) (fun n i hi=>by
  have hm:=BJ (d:=Dp) hi;have hw:=AY (f:=Aj) hm;simp only[Jm,Qp,AB,pK];have hb:(0:Int)<=(i:Int)/\(i:Int)<(w.2.2.1.length:Int):=by omega
  rw[AJe hb.2,AG (x:=(i:Int)+1) (by omega) (by omega),show((i:Int)+1)=((i+1:Nat):Int)by omega,ALN,K5 (by omega)];simp only[AJe hb];rw[show((w.2.2.1.getD i ([],[],0,())).1,(w.2.2.1.getD i ([],[],0,())).2.1,(w.2.2.1.getD i ([],[],0,())).2.2.1,())=w.2.2.1.getD i Dp from rfl,Fy (by omega) (h.Bd _ hm)];simp only[ALi]
  show cond (!CH (w.2.2.1.getD i Dp)) _ _=_
  cases CH (w.2.2.1.getD i Dp)with
  |false=>rfl
  |true=>
   cases w.2.2.2.1.contains ((i:Nat):Int)with
   |false=>rfl
   |true=>
    simp only[fE,ALR,AKp,ALg,ALl,APM];have e1:∀n:Nat,((n:Int)==0)=(n==0):=fun n=>by
     grind
    grind) (fun n=>by
  simp only[Jm,Qp,AB];simp_all) w.2.2.1.length AW 0 (by omega) (Aa (by omega))
 rw[show((0:Nat):Int)=0 from rfl]at key;unfold WH Xu jC;rw[show(w.1,w.2.1,())=Ae w from rfl,GL h.cfg,HB h.cfg (by omega),Ff h.cfg (by omega),key];simp only[ALi,AQ5];grind[decide_eq_true,EM,Ae,BC,holds,decide_eq_false]
theorem yO:TJ w=some ((Po (Ae w) (CT w)&&(decide (w.2.2.2.2.2.2.1.length<=4)&&(decide (w.2.2.2.2.2.2.2.1.length<=1)&&(c_ w&&kE w))),()),()):=by
 have k1:=h.lens;have k2:=h.MD;have me:∀n,w.2.2.2.2.2.2.2.1.length+1<=n->Ex n (w.2.2.2.2.1.length:Int) 0 w.1 w.2.1 w.2.2.1 w.2.2.2.1 w.2.2.2.2.1 w.2.2.2.2.2.1 w.2.2.2.2.2.2.1 w.2.2.2.2.2.2.2.1 w.2.2.2.2.2.2.2.2.1 w.2.2.2.2.2.2.2.2.2.1 w.2.2.2.2.2.2.2.2.2.2.1=some ((kE w,()),()):=fun n hn=>by
  have key:=Fm (L:=fun n i=>Ex n (w.2.2.2.2.1.length:Int) i w.1 w.2.1 w.2.2.1 w.2.2.2.1 w.2.2.2.2.1 w.2.2.2.2.2.1 w.2.2.2.2.2.2.1 w.2.2.2.2.2.2.2.1 w.2.2.2.2.2.2.2.2.1 w.2.2.2.2.2.2.2.2.2.1 w.2.2.2.2.2.2.2.2.2.2.1) (len:=w.2.2.2.2.2.2.2.1.length) (p:=xu w) (fin:=true) (fun n i hi=>by
   have hm:=BJ (d:=Su) hi;have hw:=AY (f:=CE) hm;simp only[Ex,OA,AB,xu];rw[AJe (by omega),AJe (by omega),AG (x:=(i:Int)+1) (by omega) (by omega),show((i:Int)+1)=((i+1:Nat):Int)by omega,ALN];rw[show((w.2.2.2.2.2.2.2.1.getD i (0,0,[],[],false,[],())).1,(w.2.2.2.2.2.2.2.1.getD i (0,0,[],[],false,[],())).2.1,(w.2.2.2.2.2.2.2.1.getD i (0,0,[],[],false,[],())).2.2.1,(w.2.2.2.2.2.2.2.1.getD i (0,0,[],[],false,[],())).2.2.2.1,(w.2.2.2.2.2.2.2.1.getD i (0,0,[],[],false,[],())).2.2.2.2.1,(w.2.2.2.2.2.2.2.1.getD i (0,0,[],[],false,[],())).2.2.2.2.2.1,())=w.2.2.2.2.2.2.2.1.getD i Su from rfl,show(w.1,w.2.1,())=Ae w from rfl,Jv h.cfg (by omega) (h.CY _ hm)];rw[OP (by grind)];grind) (fun n=>by
   simp only[Ex,OA,AB];simp_all) w.2.2.2.2.2.2.2.1.length n 0 (by omega) (by omega)
  rw[show((0:Nat):Int)=0 from rfl]at key;rw[key,AQ5];rfl
 have key:=oJ (L:=fun n i=>G4 n (w.2.2.2.2.1.length:Int) i w.1 w.2.1 w.2.2.1 w.2.2.2.1 w.2.2.2.2.1 w.2.2.2.2.2.1 w.2.2.2.2.2.2.1 w.2.2.2.2.2.2.2.1 w.2.2.2.2.2.2.2.2.1 w.2.2.2.2.2.2.2.2.2.1 w.2.2.2.2.2.2.2.2.2.2.1) (len:=w.2.2.2.2.2.2.1.length) (N:=w.2.2.2.2.2.2.2.1.length+1) (p:=jI w) (fin:=kE w) (fun n i hi=>by
  have hm:=BJ (d:=CO) hi;have hw:=AY (f:=Ao) hm;unfold Ao at hw;simp only[G4,PN,AB,jI];have hb:(0:Int)<=(i:Int)/\(i:Int)<(w.2.2.2.2.2.2.1.length:Int):=by omega
  rw[AJe hb.2,AG (x:=(i:Int)+1) (by omega) (by omega),show((i:Int)+1)=((i+1:Nat):Int)by omega,ALN];simp only[AJe hb];have hw2:Af BG (w.2.2.2.2.2.2.1.getD i CO).2.1<=2^30:=by
   have:=k1.2.2.2.2.1;unfold Ao at this;omega
  rw[show((w.2.2.2.2.2.2.1.getD i (0,[],())).1,(w.2.2.2.2.2.2.1.getD i (0,[],())).2.1,())=w.2.2.2.2.2.2.1.getD i CO from rfl,show(w.1,w.2.1,())=Ae w from rfl,Lo h.cfg hw2];simp only[ALi];cases Fe (Ae w) (w.2.2.2.2.2.2.1.getD i CO)with
  |false=>rfl
  |true=>
   simp only[ALR,AKp,ALl];by_cases hle:(w.2.2.2.2.2.2.1.getD i (0,[],())).1<=(w.2.2.2.2.1.length:Int)
   ·rw[AJk (by omega),show decide ((w.2.2.2.2.2.2.1.getD i CO).1<=(w.2.2.2.2.1.length:Int))=true from AM_ hle,ALl]
    by_cases h0:i=0
    ·simp_all
    ·rw[AJe (by omega),AG (by omega) (by omega),AJe (by omega)]
     have h1:((i:Int)-1).toNat=i-1:=by omega
     have h2:(i==0)=false:=by simp_all
     rw[h1,h2,APM];grind
   grind) (fun n hn=>by
  simp only[G4,PN,AB];simp_all) w.2.2.2.2.2.2.1.length AW 0 (by omega) (Aa (by omega))
 rw[show((0:Nat):Int)=0 from rfl]at key;unfold TJ W7 c_;rw[show(w.1,w.2.1,())=Ae w from rfl,show(w.2.2.2.2.1,w.2.2.2.2.2.1,())=CT w from rfl,RF h.cfg (by show Af B_ w.2.2.2.2.1<=_;omega) h.trim,key];grind
theorem ADV:Ya w=some ((decide (w.2.2.2.2.2.2.2.2.2.1.length<=120)&&pq w,()),()):=by
 have k2:=h.MD;have key:=Fm (L:=fun n i=>KW n i w.1 w.2.1 w.2.2.1 w.2.2.2.1 w.2.2.2.2.1 w.2.2.2.2.2.1 w.2.2.2.2.2.2.1 w.2.2.2.2.2.2.2.1 w.2.2.2.2.2.2.2.2.1 w.2.2.2.2.2.2.2.2.2.1 w.2.2.2.2.2.2.2.2.2.2.1) (len:=w.2.2.2.2.2.2.2.2.2.1.length) (p:=pn w) (fin:=true) (fun n i hi=>by
  have hm:=BJ (d:=HP) hi;have Qt:Bp (w.2.2.2.2.2.2.2.2.2.1.getD i (0,[],false,())).1:=h.AOH _ hm;simp only[KW,Rv,AB,pn];rw[AJe (by omega),AJe (by omega),AG (x:=(i:Int)+1) (by omega) (by omega),show((i:Int)+1)=((i+1:Nat):Int)by omega,ALN,E5 Qt,EA Qt];simp only[ALi]
  show cond (!Av (w.2.2.2.2.2.2.2.2.2.1.getD i HP).1) _ _=_
  cases Av (w.2.2.2.2.2.2.2.2.2.1.getD i HP).1 with
  |false=>rfl
  |true=>
   simp only[ALR,AKp,ALl];by_cases hle:Ab (w.2.2.2.2.2.2.2.2.2.1.getD i (0,[],false,())).1<=(w.2.2.2.2.1.length:Int)
   ·rw[AJk (by omega),show decide (Ab (w.2.2.2.2.2.2.2.2.2.1.getD i HP).1<=(w.2.2.2.2.1.length:Int))=true from AM_ hle,ALl]
    by_cases h40:(w.2.2.2.2.2.2.2.2.2.1.getD i (0,[],false,())).2.1.length<=40
    ·rw[AJk (by omega),show decide ((w.2.2.2.2.2.2.2.2.2.1.getD i HP).2.1.length<=40)=true from AM_ h40,ALl]
     by_cases h0:i=0
     ·simp_all
     ·rw[AJe (by omega),AG (by omega) (by omega),AJe (by omega)]
      have h1:((i:Int)-1).toNat=i-1:=by omega
      have h2:(i==0)=false:=by simp_all
      rw[h1,h2,APM];grind
    grind
   grind) (fun n=>by
  simp only[KW,Rv,AB];simp_all) w.2.2.2.2.2.2.2.2.2.1.length AW 0 (by omega) (Aa (by omega))
 rw[show((0:Nat):Int)=0 from rfl]at key;unfold Ya Z5 pq;grind
theorem G_:Gq w=some ((DA w,()),()):=by
 unfold Gq DA Zn;rw[Fo w];rw[AAZ h,yO h,ADV h,QC,QC];simp only[ALi];by_cases h2:w.2.2.2.2.2.2.2.2.1.length=2
 all_goals grind
end
theorem Wn{R:Type}{L:Nat->Int->Option R}{len:Nat}{p:Nat->Bool}{K:Nat->Option R}{no:Option R}(h1:∀n (i:Nat),i<len->L (n+1) i=cond (p i) (L n ((i+1:Nat):Int)) no)(h2:∀n,L (n+1) (len:Int)=K n):
  ∀d n i,i+d=len->d<n->L n i=cond (CL p i d) (K (n-d-1)) no
 |0,n,i,hd,h=>by
  obtain⟨m,rfl⟩:∃m,n=m+1:=⟨n-1,by omega⟩;have:i=len:=by omega
  subst this;rw[h2];rfl
 |d+1,n,i,hd,h=>by
  obtain⟨m,rfl⟩:∃m,n=m+1:=⟨n-1,by omega⟩;rw[h1 m i (by omega)];simp only[CL];cases p i with
  |false=>rfl
  |true=>
   rw[ALg,Wn h1 h2 d m (i+1) (by omega) (by omega),ALl];simp_all
abbrev Ep:Ar:=(0,0,[],())
theorem E4{w:AA}(h:DA w=true):w.2.2.2.2.2.2.2.2.1.length=2:=by
 simp only[DA,Zn,ALJ,ALh]at h;omega
theorem lg.out{w:AA}(h:lg w){i:Nat}(hi:i<w.2.2.2.2.2.2.2.2.1.length):(w.2.2.2.2.2.2.2.2.1.getD i AR).2.2.1.length<=2^20:=by
 have k:=h.lens;have h1:=AY (f:=Aw) (BJ (d:=AR) hi);have h2:=AX (f:=B4) (l:=(w.2.2.2.2.2.2.2.2.1.getD i AR).2.2.1);have h3:Aw (w.2.2.2.2.2.2.2.2.1.getD i AR)=Af B4 (w.2.2.2.2.2.2.2.2.1.getD i AR).2.2.1:=rfl;omega
def zS(l:List Ar):Bool:=CL (fun i=> !((l.getD i Ep).1==3)) 0 l.length
def SF(w:AA):Bool:=DA w&&(w.2.2.2.2.2.2.2.2.2.2.1||(zS (w.2.2.2.2.2.2.2.2.1.getD 0 AR).2.2.1&&zS (w.2.2.2.2.2.2.2.2.1.getD 1 AR).2.2.1))
section
variable{w:AA} (h:lg w)
include h
theorem k9:RZ w=some ((SF w,()),()):=by
 have k2:=h.MD;unfold RZ Uo SF;rw[Fo w,Fp h];simp only[ALi];rcases AJd (DA w)with DG|DG
 rotate_left
 ·simp_all
 rw[DG];simp only[ALR,AKp,ALl];cases w.2.2.2.2.2.2.2.2.2.2.1 with
 |true=>rfl
 |false=>
  have h2:=E4 DG;simp only[AKp,APM];have o:=fun i hi=>h.out (i:=i) hi
  generalize w.2.2.2.2.2.2.2.2.1=rs at h2 o
  have inner:∀(i:Nat),i<rs.length-> ∀n,2^20<n->DZ (n+1) rs rs.length i=cond (zS (rs.getD i AR).2.2.1) (DZ (n-(rs.getD i AR).2.2.1.length-1) rs rs.length ((i+1:Nat):Int)) (some ((false,()),())):=fun i hi n hn=>by
   have ho:=o i hi;simp only[DZ,N8,AB];rw[AJe (by omega),AJe (by omega),ALN];have:=Wn (L:=fun n j=>F5 n rs rs.length i (rs.getD i AR).2.2.1 (rs.getD i AR).2.2.1.length j) (len:=(rs.getD i AR).2.2.1.length) (p:=fun j=> !(((rs.getD i AR).2.2.1.getD j Ep).1==3)) (K:=fun n=>DZ n rs rs.length ((i+1:Nat):Int)) (no:=some ((false,()),())) (fun n j hj=>by
    simp only[F5,N4,AB];rw[AJe (by omega),AJe (by omega),ALN,AG (by omega) (by omega),show((j:Int)+1)=((j+1:Nat):Int)by omega];simp_all) (fun n=>by
    simp only[F5,N4,AB];rw[AJk (by omega),AG (by omega) (by omega),show((i:Int)+1)=((i+1:Nat):Int)by omega]) (rs.getD i AR).2.2.1.length n 0 (by omega) (by omega)
   exact this
  obtain⟨m,hm⟩:∃m,AW=m+2^40:=⟨AW-2^40,by have:=WR;omega⟩;have o0:=o 0 (by omega);have o1:=o 1 (by omega);have e0:=inner 0 (by omega) (m+2^40-1) (by omega);have e1:=inner 1 (by omega) (m+2^40-1-(rs.getD 0 AR).2.2.1.length-1-1) (by omega);rw[show m+2^40-1+1=AW by omega,show((0:Nat):Int)=0 from rfl,show((0+1:Nat):Int)=((1:Nat):Int)from rfl]at e0;rw[show m+2^40-1-(rs.getD 0 AR).2.2.1.length-1-1+1=m+2^40-1-(rs.getD 0 AR).2.2.1.length-1 by omega]at e1;rw[e0,e1];obtain⟨q,hq⟩:∃q,m+2^40-1-(rs.getD 0 AR).2.2.1.length-1-1-(rs.getD 1 AR).2.2.1.length-1=q+1:=⟨_,(Nat.succ_pred_eq_of_pos (by omega)).symm⟩;rw[hq];have AYc:DZ (q+1) rs rs.length ((1+1:Nat):Int)=some ((true,()),()):=by
   simp only[DZ,N8,AB];simp_all
  grind
theorem kV:Rh w=some ((SF w,()),()):=by
 have k2:=h.MD;unfold Rh U8 SF;rw[Fo w,G_ h];simp only[ALi];rcases AJd (DA w)with DG|DG
 rotate_left
 ·simp_all
 rw[DG];simp only[ALR,AKp,ALl];have h2:=E4 DG;have o:=fun i hi=>h.out (i:=i) hi
 generalize w.2.2.2.2.2.2.2.2.1=rs at h2 o
 generalize w.1=a0
 generalize w.2.1=a1
 generalize w.2.2.1=a2
 generalize w.2.2.2.1=a3
 generalize w.2.2.2.2.1=a4
 generalize w.2.2.2.2.2.1=a5
 generalize w.2.2.2.2.2.2.1=a6
 generalize w.2.2.2.2.2.2.2.1=a7
 generalize w.2.2.2.2.2.2.2.2.2.1=a9
 cases w.2.2.2.2.2.2.2.2.2.2.1 with
 |true=>
  obtain⟨m,hm⟩:∃m,AW=m+1:=⟨AW-1,by have:=WR;omega⟩;rw[hm];rfl
 |false=>
  simp only[APM];have inner:∀(i:Nat),i<rs.length-> ∀n,2^20<n->D3 (n+1) i a0 a1 a2 a3 a4 a5 a6 a7 rs a9 false=cond (zS (rs.getD i AR).2.2.1) (D3 (n-(rs.getD i AR).2.2.1.length-1) ((i+1:Nat):Int) a0 a1 a2 a3 a4 a5 a6 a7 rs a9 false) (some ((false,()),())):=fun i hi n hn=>by
   have ho:=o i hi;simp only[D3,U_,AB];rw[AJe (by omega)];have:=Wn (L:=fun n j=>F6 n i j false (!false) a0 a1 a2 a3 a4 a5 a6 a7 rs a9 false) (len:=(rs.getD i AR).2.2.1.length) (p:=fun j=> !(((rs.getD i AR).2.2.1.getD j Ep).1==3)) (K:=fun n=>D3 n ((i+1:Nat):Int) a0 a1 a2 a3 a4 a5 a6 a7 rs a9 false) (no:=some ((false,()),())) (fun n j hj=>by
    simp only[F6,N_,AB];have hb:(0:Int)<=(i:Int)/\(i:Int)<(rs.length:Int):=by omega
    simp only[AJe hb,ALN];have hd:(rs.getD i (0,0,[],())).2.2.1.length=(rs.getD i AR).2.2.1.length:=rfl;rw[AJe (by omega),AJe (by omega),AG (by omega) (by omega),show((j:Int)+1)=((j+1:Nat):Int)by omega];simp_all) (fun n=>by
    simp only[F6,N_,AB];have hb:(0:Int)<=(i:Int)/\(i:Int)<(rs.length:Int):=by omega
    simp only[AJe hb,ALN];have hd:(rs.getD i (0,0,[],())).2.2.1.length=(rs.getD i AR).2.2.1.length:=rfl;rw[AJk (by omega),AG (by omega) (by omega),show((i:Int)+1)=((i+1:Nat):Int)by omega]) (rs.getD i AR).2.2.1.length n 0 (by omega) (by omega)
   exact this
  obtain⟨m,hm⟩:∃m,AW=m+2^40:=⟨AW-2^40,by have:=WR;omega⟩;have o0:=o 0 (by omega);have o1:=o 1 (by omega);have e0:=inner 0 (by omega) (m+2^40-1) (by omega);have e1:=inner 1 (by omega) (m+2^40-1-(rs.getD 0 AR).2.2.1.length-1-1) (by omega);rw[show m+2^40-1+1=AW by omega,show((0:Nat):Int)=0 from rfl,show((0+1:Nat):Int)=((1:Nat):Int)from rfl]at e0;rw[show m+2^40-1-(rs.getD 0 AR).2.2.1.length-1-1+1=m+2^40-1-(rs.getD 0 AR).2.2.1.length-1 by omega]at e1;rw[e0,e1];obtain⟨q,hq⟩:∃q,m+2^40-1-(rs.getD 0 AR).2.2.1.length-1-1-(rs.getD 1 AR).2.2.1.length-1=q+1:=⟨_,(Nat.succ_pred_eq_of_pos (by omega)).symm⟩;rw[hq];have AYc:D3 (q+1) ((1+1:Nat):Int) a0 a1 a2 a3 a4 a5 a6 a7 rs a9 false=some ((true,()),()):=by
   rfl
  grind
end
theorem Vf{R:Type}{L:Nat->Int->Option R}{len E:Nat}{q:Nat->Bool}{e:Nat->Nat}{fin no:Option R}(he:∀i,i<len->e i<=E)(h1:∀i,i<len-> ∀n,E<n->L (n+1) i=cond (q i) (L (n-e i-1) ((i+1:Nat):Int)) no)(h2:∀n,L (n+1) (len:Int)=fin):
  ∀d n i,i+d=len->d*(E+2)<n->L n i=cond (CL q i d) fin no
 |0,n,i,hd,h=>by
  obtain⟨m,rfl⟩:∃m,n=m+1:=⟨n-1,by omega⟩;have:i=len:=by omega
  subst this;rw[h2];rfl
 |d+1,n,i,hd,h=>by
  rw[Nat.succ_mul]at h;obtain⟨m,rfl⟩:∃m,n=m+1:=⟨n-1,by omega⟩;have hi:=he i (by omega);rw[h1 i (by omega) m (by omega)];simp only[CL];cases q i with
  |false=>rfl
  |true=>rw[ALg,Vf he h1 h2 d _ (i+1) (by omega) (by omega),ALl]
theorem dz{d E:Nat}(hd:d<=2^20)(hE:E<=2^20):d*(E+2)<AW:=by
 have h1:d*(E+2)<=2^20*(2^20+2):=AV0 hd (by omega);exact Aa (by omega)
def wL:Option Int->List Ar->Bool
 |_,[]=>true
 |last,e::l=>cond (BE e.1 1 3) (cond (match last with|some a=>decide (a<e.2.1)|none=>true) (wL (some e.2.1) l) false) (wL last l)
theorem ABP{e:Ar}:WE e=some ((BE e.1 1 3,()),()):=by
 grind[WE,BE,decide_eq_false]
theorem kd{l:List Ar}{a b:Int}(hl:l.length<=2^40):∀(n i:Nat) (t:Int) (last:Option Int),i<=l.length->l.length-i<n->((t= -1/\last=none)\/ ∃j:Nat,t=(j:Int)/\j<l.length/\last=some (l.getD j (0,0,[],())).2.1)->
  Lw n t i a b l=some ((wL last (l.drop i),()),())
 |0,i,_,_,_,h,_=>by omega
 |n+1,i,t,last,hi,h,ht=>by
  simp only[Lw,Xt,AB,Zj,Bc,ALi];by_cases hc:i<l.length
  ·have hb:(0:Int)<=(i:Int)/\(i:Int)<(l.length:Int):=by omega
   rw[AJe hb.2,AG (by omega) (by omega),show((i:Int)+1)=((i+1:Nat):Int)by omega];simp only[AJe hb];rw[drop_cons hc];simp only[wL];have hg:l.getD ((i:Int).toNat) (0,0,[],())=l[i]:=Ah hc;have hg2:l.getD i (0,0,[],())=l[i]:=by simp_all
   rw[hg];cases BE l[i].1 1 3 with
   |false=>
    simp only[AOP,ALg,AKp];exact kd hl n (i+1) t last (by omega) (by omega) ht
   |true=>
    simp only[ALR,ALg,AKp];have next:=kd (a:=a) (b:=b) hl n (i+1) (i:Int) (some l[i].2.1) (by omega) (by omega) (.inr ⟨i,rfl,hc,by rw[hg2]⟩);grind
  ·rw[AJk (by omega),ALm (by omega)]
   rfl
theorem pz{r:Ac}(hl:r.2.2.1.length<=2^40):Qx r=some ((wL none r.2.2.1,()),()):=by
 unfold Qx Xs;have:=kd (a:=r.1) (b:=r.2.1) hl AW 0 (-1) none (by omega) (Aa (by omega)) (.inl ⟨rfl,rfl⟩);simp_all
def SD(w:AA):Bool:=DA w&&(wL none (w.2.2.2.2.2.2.2.2.1.getD 0 AR).2.2.1&&wL none (w.2.2.2.2.2.2.2.2.1.getD 1 AR).2.2.1)
section
variable{w:AA} (h:lg w)
include h
theorem kH:RP w=some ((SD w,()),()):=by
 unfold RP SD;rw[Fo w,G_ h];simp only[ALi];rcases AJd (DA w)with DG|DG
 rotate_left
 ·simp_all
 rw[DG];have h2:=E4 DG;have o0:=h.out (i:=0) (by omega);have o1:=h.out (i:=1) (by omega);simp only[ALg,ALl];rw[AJe (by omega),AJe (by omega)];rw[show((w.2.2.2.2.2.2.2.2.1.getD 0 (0,0,[],())).1,(w.2.2.2.2.2.2.2.2.1.getD 0 (0,0,[],())).2.1,(w.2.2.2.2.2.2.2.2.1.getD 0 (0,0,[],())).2.2.1,())=w.2.2.2.2.2.2.2.2.1.getD 0 AR from rfl,show((w.2.2.2.2.2.2.2.2.1.getD 1 (0,0,[],())).1,(w.2.2.2.2.2.2.2.2.1.getD 1 (0,0,[],())).2.1,(w.2.2.2.2.2.2.2.2.1.getD 1 (0,0,[],())).2.2.1,())=w.2.2.2.2.2.2.2.2.1.getD 1 AR from rfl];rw[pz (by omega),pz (by omega)];grind
theorem lE:RT w=some ((SD w,()),()):=by
 have k2:=h.MD;unfold RT Ut SD;have hW:=Fp h;have o:=fun i hi=>h.out (i:=i) hi
 have inner:∀(i:Nat),i<w.2.2.2.2.2.2.2.2.1.length-> ∀(n j:Nat) (t:Int) (g:Bool) (last:Option Int),j<=(w.2.2.2.2.2.2.2.2.1.getD i AR).2.2.1.length->(w.2.2.2.2.2.2.2.2.1.getD i AR).2.2.1.length-j<n->((g=false/\last=none)\/(g=true/\last=some t))->
   HW n t g w.2.2.2.2.2.2.2.2.1 w.2.2.2.2.2.2.2.2.1.length i (w.2.2.2.2.2.2.2.2.1.getD i AR).2.2.1 (w.2.2.2.2.2.2.2.2.1.getD i AR).2.2.1.length j w.1 w.2.1 w.2.2.1 w.2.2.2.1 w.2.2.2.2.1 w.2.2.2.2.2.1 w.2.2.2.2.2.2.1 w.2.2.2.2.2.2.2.1 w.2.2.2.2.2.2.2.2.1 w.2.2.2.2.2.2.2.2.2.1 w.2.2.2.2.2.2.2.2.2.2.1=
    cond (wL last ((w.2.2.2.2.2.2.2.2.1.getD i AR).2.2.1.drop j)) (Ej (n-((w.2.2.2.2.2.2.2.2.1.getD i AR).2.2.1.length-j)-1) w.2.2.2.2.2.2.2.2.1 w.2.2.2.2.2.2.2.2.1.length ((i+1:Nat):Int) w.1 w.2.1 w.2.2.1 w.2.2.2.1 w.2.2.2.2.1 w.2.2.2.2.2.1 w.2.2.2.2.2.2.1 w.2.2.2.2.2.2.2.1 w.2.2.2.2.2.2.2.2.1 w.2.2.2.2.2.2.2.2.2.1 w.2.2.2.2.2.2.2.2.2.2.1) (some ((false,()),())):=by
  intro i hi;have ho:=o i hi
  generalize (w.2.2.2.2.2.2.2.2.1.getD i AR).2.2.1=l at ho
  intro n
  induction n with
  |zero=>omega
  |succ n ih=>
   intro j t g last hj hn ht;simp only[HW,U3,AB];by_cases hc:j<l.length
   ·rw[AJe (by omega),AJe (by omega),AG (x:=(j:Int)+1) (by omega) (by omega),show((j:Int)+1)=((j+1:Nat):Int)by omega,Ah hc,drop_cons hc,Oy (l[j]),ABP]
    simp only[ALi,wL];rw[show n+1-(l.length-j)-1=n-(l.length-(j+1))-1 by omega];cases BE l[j].1 1 3 with
    |false=>
     simp only[AOP,ALg,AKp];exact ih (j+1) t g last (by omega) (by omega) ht
    |true=>
     simp only[ALR,ALg,AKp];have next:=ih (j+1) l[j].2.1 true (some l[j].2.1) (by omega) (by omega) (.inr ⟨rfl,rfl⟩);grind
   ·rw[AJk (by omega),AG (by omega) (by omega),show((i:Int)+1)=((i+1:Nat):Int)by omega,ALm (by omega),show n+1-(l.length-j)-1=n by omega]
    rfl
 have outer:=Vf (L:=fun n i=>Ej n w.2.2.2.2.2.2.2.2.1 w.2.2.2.2.2.2.2.2.1.length i w.1 w.2.1 w.2.2.1 w.2.2.2.1 w.2.2.2.2.1 w.2.2.2.2.2.1 w.2.2.2.2.2.2.1 w.2.2.2.2.2.2.2.1 w.2.2.2.2.2.2.2.2.1 w.2.2.2.2.2.2.2.2.2.1 w.2.2.2.2.2.2.2.2.2.2.1) (len:=w.2.2.2.2.2.2.2.2.1.length) (E:=2^20) (q:=fun i=>wL none (w.2.2.2.2.2.2.2.2.1.getD i AR).2.2.1) (e:=fun i=>(w.2.2.2.2.2.2.2.2.1.getD i AR).2.2.1.length) (fin:=some ((DA w,()),())) (no:=some ((false,()),())) (fun i hi=>o i hi) (fun i hi n hn=>by
   have ho:=o i hi;simp only[Ej,OB,AB];rw[AJe (by omega),AJe (by omega),ALN];have:=inner i hi n 0 0 false none (by omega) (by omega) (.inl ⟨rfl,rfl⟩);simp_all) (fun n=>by
   simp only[Ej,OB,AB];simp_all) w.2.2.2.2.2.2.2.2.1.length AW 0 (by omega) (dz (by omega) (by omega))
 rw[show((0:Nat):Int)=0 from rfl]at outer;refine Eq.trans outer ?_
 rcases AJd (DA w)with DG|DG
 ·rw[DG,E4 DG]
  simp only[CL,ALl,AQ5];grind
 simp_all
end
def fnd(p:Int):List Ak->List UInt8×Bool
 |[]=>([],false)
 |s::l=>cond (s.1==p) (s.2.1,true) (fnd p l)
section
variable{w:AA} (h:lg w)
include h
end
def anyS(p:Int)(d:ABF):List Ak->Bool
 |[]=>false
 |s::l=>(s.1==p&&s.2.1==d)||anyS p d l
theorem zm{p:Int}{d:ABF}:∀{l:List Ak},(∀s∈l,s.1≠p)->anyS p d l=false
 |[],_=>rfl
 |s::l,h=>by
  have h1:(s.1==p)=false:=by simp_all
  simp only[anyS,h1,ARA,APM];exact zm fun x hx=>h x (by simp[hx])
theorem AAS{p:Int}{d:ABF}:∀{l:List Ak},l.Pairwise (fun a b=>a.1<b.1)->anyS p d l=((fnd p l).2&&(fnd p l).1==d)
 |[],_=>rfl
 |s::l,h=>by
  obtain⟨h1,h2⟩:=APd.1 h;simp only[anyS,fnd];by_cases hp:s.1=p
  ·grind[zm]
  ·have e1:(s.1==p)=false:=by simp[hp]
   rw[e1,AAS h2];simp
theorem mN{w:AA}(h:DA w=true):pq w=true:=by
 simp only[DA,ALJ,ALh]at h;simp_all
theorem AEr{w:AA}(h:pq w=true):w.2.2.2.2.2.2.2.2.2.1.Pairwise (fun a b=>a.1<b.1):=by
 have step:∀i,i+1<w.2.2.2.2.2.2.2.2.2.1.length->(w.2.2.2.2.2.2.2.2.2.1.getD i HP).1<(w.2.2.2.2.2.2.2.2.2.1.getD (i+1) HP).1:=fun i hi=>by
  have:=M7 h (i+1) (by omega) (by omega);simp only[pn,ALJ,AQd,ALh,ARL]at this;simp_all
 generalize w.2.2.2.2.2.2.2.2.2.1=l at step
 rw[AVV];intro i j hi hj hij;have key:∀d,i+d+1<l.length->(l.getD i HP).1<(l.getD (i+d+1) HP).1:=by
  intro d
  induction d with
  |zero=>grind
  |succ d ih=>
   grind
 have:=key (j-i-1) (by omega);grind
theorem AFD{w:AA}{p:Int}(hl:w.2.2.2.2.2.2.2.2.2.1.length<=2^40):ai w p=some ((((fnd p w.2.2.2.2.2.2.2.2.2.1).1,(fnd p w.2.2.2.2.2.2.2.2.2.1).2,()),()),()):=by
 unfold ai ax
 generalize w.2.2.2.2.2.2.2.2.2.1=l at hl
 have key:∀(n i:Nat),i<=l.length->l.length-i<n->Pe n p l l.length i=some ((((fnd p (l.drop i)).1,(fnd p (l.drop i)).2,()),()),()):=by
  intro n
  induction n with
  |zero=>omega
  |succ n ih=>
   intro i hi h;simp only[Pe,au,AB];by_cases hc:i<l.length
   ·rw[AJe (by omega),AJe (by omega),AG (by omega) (by omega),show((i:Int)+1)=((i+1:Nat):Int)by omega,Ah hc,drop_cons hc,ih (i+1) (by omega) (by omega)]
    simp only[fnd];cases l[i].1==p<;>rfl
   ·rw[AJk (by omega),ALm (by omega)]
    rfl
 grind[AW,Aa]
theorem AC0{w:AA}{e:Ar}(hl:w.2.2.2.2.2.2.2.2.2.1.length<=2^40):YJ w e=some ((anyS e.2.1 e.2.2.1 w.2.2.2.2.2.2.2.2.2.1,()),()):=by
 unfold YJ Zf
 generalize w.2.2.2.2.2.2.2.2.2.1=l at hl
 have key:∀(n i:Nat),i<=l.length->l.length-i<n->Nd n i w.1 w.2.1 w.2.2.1 w.2.2.2.1 w.2.2.2.2.1 w.2.2.2.2.2.1 w.2.2.2.2.2.2.1 w.2.2.2.2.2.2.2.1 w.2.2.2.2.2.2.2.2.1 l w.2.2.2.2.2.2.2.2.2.2.1 e.1 e.2.1 e.2.2.1=some ((anyS e.2.1 e.2.2.1 (l.drop i),()),()):=by
  intro n
  induction n with
  |zero=>omega
  |succ n ih=>
   intro i hi h;simp only[Nd,ZD,AB];by_cases hc:i<l.length
   ·have hb:(0:Int)<=(i:Int)/\(i:Int)<(l.length:Int):=by omega
    rw[AJe hb.2,AG (by omega) (by omega),show((i:Int)+1)=((i+1:Nat):Int)by omega];simp only[AJe hb];rw[Ah hc,drop_cons hc,ih (i+1) (by omega) (by omega)];simp only[anyS];cases l[i].1==e.2.1<;>cases l[i].2.1==e.2.2.1<;>rfl
   ·rw[AJk (by omega),ALm (by omega)]
    rfl
 grind[AW,Aa]
def AA3(ss:List Ak)(e:Ar):Bool:= !(e.1==1)||((fnd e.2.1 ss).2&&(fnd e.2.1 ss).1==e.2.2.1)
def AET(ss:List Ak)(l:List Ar):Bool:=CL (fun j=>AA3 ss (l.getD j Ep)) 0 l.length
def Vs(w:AA):Bool:=DA w&&(AET w.2.2.2.2.2.2.2.2.2.1 (w.2.2.2.2.2.2.2.2.1.getD 0 AR).2.2.1&&AET w.2.2.2.2.2.2.2.2.2.1 (w.2.2.2.2.2.2.2.2.1.getD 1 AR).2.2.1)
section
variable{w:AA} (h:lg w)
include h
theorem mM:TB w=some ((Vs w,()),()):=by
 have k2:=h.MD;unfold TB W3 Vs;have hW:=Fp h;have o:=fun i hi=>h.out (i:=i) hi
 have outer:=Vf (L:=fun n i=>FY n w.2.2.2.2.2.2.2.2.1 w.2.2.2.2.2.2.2.2.1.length i w.1 w.2.1 w.2.2.1 w.2.2.2.1 w.2.2.2.2.1 w.2.2.2.2.2.1 w.2.2.2.2.2.2.1 w.2.2.2.2.2.2.2.1 w.2.2.2.2.2.2.2.2.1 w.2.2.2.2.2.2.2.2.2.1 w.2.2.2.2.2.2.2.2.2.2.1) (len:=w.2.2.2.2.2.2.2.2.1.length) (E:=2^20) (q:=fun i=>AET w.2.2.2.2.2.2.2.2.2.1 (w.2.2.2.2.2.2.2.2.1.getD i AR).2.2.1) (e:=fun i=>(w.2.2.2.2.2.2.2.2.1.getD i AR).2.2.1.length) (fin:=some ((DA w,()),())) (no:=some ((false,()),())) (fun i hi=>o i hi) (fun i hi n hn=>by
   have ho:=o i hi;simp only[FY,Px,AB];rw[AJe (by omega),AJe (by omega),ALN];have:=Wn (L:=fun n j=>Gg n w.2.2.2.2.2.2.2.2.1 w.2.2.2.2.2.2.2.2.1.length i (w.2.2.2.2.2.2.2.2.1.getD i AR).2.2.1 (w.2.2.2.2.2.2.2.2.1.getD i AR).2.2.1.length j w.1 w.2.1 w.2.2.1 w.2.2.2.1 w.2.2.2.2.1 w.2.2.2.2.2.1 w.2.2.2.2.2.2.1 w.2.2.2.2.2.2.2.1 w.2.2.2.2.2.2.2.2.1 w.2.2.2.2.2.2.2.2.2.1 w.2.2.2.2.2.2.2.2.2.2.1) (len:=(w.2.2.2.2.2.2.2.2.1.getD i AR).2.2.1.length) (p:=fun j=>AA3 w.2.2.2.2.2.2.2.2.2.1 ((w.2.2.2.2.2.2.2.2.1.getD i AR).2.2.1.getD j Ep)) (K:=fun n=>FY n w.2.2.2.2.2.2.2.2.1 w.2.2.2.2.2.2.2.2.1.length ((i+1:Nat):Int) w.1 w.2.1 w.2.2.1 w.2.2.2.1 w.2.2.2.2.1 w.2.2.2.2.2.1 w.2.2.2.2.2.2.1 w.2.2.2.2.2.2.2.1 w.2.2.2.2.2.2.2.2.1 w.2.2.2.2.2.2.2.2.2.1 w.2.2.2.2.2.2.2.2.2.2.1) (no:=some ((false,()),())) (fun n j hj=>by
    simp only[Gg,Pq,AB,AA3];rw[AJe (by omega),AJe (by omega),ALN,AG (by omega) (by omega),show((j:Int)+1)=((j+1:Nat):Int)by omega,Fo w,AFD (by omega)];grind) (fun n=>by
    simp only[Gg,Pq,AB];rw[AJk (by omega),AG (by omega) (by omega),show((i:Int)+1)=((i+1:Nat):Int)by omega]) (w.2.2.2.2.2.2.2.2.1.getD i AR).2.2.1.length n 0 (by omega) (by omega)
   exact this) (fun n=>by
   simp only[FY,Px,AB];simp_all) w.2.2.2.2.2.2.2.2.1.length AW 0 (by omega) (dz (by omega) (by omega))
 rw[show((0:Nat):Int)=0 from rfl]at outer;refine Eq.trans outer ?_
 rcases AJd (DA w)with DG|DG
 ·rw[DG,E4 DG]
  simp only[CL,ALl,AQ5];grind
 simp_all
theorem lQ:UA w=some ((Vs w,()),()):=by
 have k2:=h.MD;unfold UA Wx Vs;rw[Fo w,G_ h];simp only[ALi];rcases AJd (DA w)with DG|DG
 rotate_left
 ·simp_all
 rw[DG];simp only[ALR,AKp,ALl];have h2:=E4 DG;have ACm:=AEr (mN DG);have o:=fun i hi=>h.out (i:=i) hi
 have outer:=Vf (L:=fun n i=>Gv n i w.1 w.2.1 w.2.2.1 w.2.2.2.1 w.2.2.2.2.1 w.2.2.2.2.2.1 w.2.2.2.2.2.2.1 w.2.2.2.2.2.2.2.1 w.2.2.2.2.2.2.2.2.1 w.2.2.2.2.2.2.2.2.2.1 w.2.2.2.2.2.2.2.2.2.2.1) (len:=2) (E:=2^20) (q:=fun i=>AET w.2.2.2.2.2.2.2.2.2.1 (w.2.2.2.2.2.2.2.2.1.getD i AR).2.2.1) (e:=fun i=>(w.2.2.2.2.2.2.2.2.1.getD i AR).2.2.1.length) (fin:=some ((true,()),())) (no:=some ((false,()),())) (fun i hi=>o i (by omega)) (fun i hi n hn=>by
   have ho:=o i (by omega);have hb:(0:Int)<=(i:Int)/\(i:Int)<(w.2.2.2.2.2.2.2.2.1.length:Int):=by omega
   have hd:(w.2.2.2.2.2.2.2.2.1.getD i (0,0,[],())).2.2.1.length=(w.2.2.2.2.2.2.2.2.1.getD i AR).2.2.1.length:=rfl;simp only[Gv,W4,AB];rw[AJe (by omega)];have:=Wn (L:=fun n j=>Gx n i j w.1 w.2.1 w.2.2.1 w.2.2.2.1 w.2.2.2.2.1 w.2.2.2.2.2.1 w.2.2.2.2.2.2.1 w.2.2.2.2.2.2.2.1 w.2.2.2.2.2.2.2.2.1 w.2.2.2.2.2.2.2.2.2.1 w.2.2.2.2.2.2.2.2.2.2.1) (len:=(w.2.2.2.2.2.2.2.2.1.getD i AR).2.2.1.length) (p:=fun j=>AA3 w.2.2.2.2.2.2.2.2.2.1 ((w.2.2.2.2.2.2.2.2.1.getD i AR).2.2.1.getD j Ep)) (K:=fun n=>Gv n ((i+1:Nat):Int) w.1 w.2.1 w.2.2.1 w.2.2.2.1 w.2.2.2.2.1 w.2.2.2.2.2.1 w.2.2.2.2.2.2.1 w.2.2.2.2.2.2.2.1 w.2.2.2.2.2.2.2.2.1 w.2.2.2.2.2.2.2.2.2.1 w.2.2.2.2.2.2.2.2.2.2.1) (no:=some ((false,()),())) (fun n j hj=>by
    simp only[Gx,PE,AB,AA3];simp only[AJe hb,ALN];rw[AJe (by omega),AJe (by omega),AG (by omega) (by omega),show((j:Int)+1)=((j+1:Nat):Int)by omega,Fo w,AC0 (by omega)];simp only[ALi];rw[AAS ACm];grind) (fun n=>by
    simp only[Gx,PE,AB];simp only[AJe hb,ALN];rw[AJk (by omega),AG (by omega) (by omega),show((i:Int)+1)=((i+1:Nat):Int)by omega]) (w.2.2.2.2.2.2.2.2.1.getD i AR).2.2.1.length n 0 (by omega) (by omega)
   exact this) (fun n=>by
   rfl) 2 AW 0 (by omega) (dz (by omega) (by omega))
 rw[show((0:Nat):Int)=0 from rfl]at outer;refine Eq.trans outer ?_
 simp only[CL,AQ5];grind
end
def hO(p:Int):List Ar->List UInt8×Bool
 |[]=>([],false)
 |e::l=>cond (e.1==1&&e.2.1==p) (e.2.2.1,true) (hO p l)
theorem fH{r:Ac}{p:Int}(hl:r.2.2.1.length<=2^40):Vk r p=some ((((hO p r.2.2.1).1,(hO p r.2.2.1).2,()),()),()):=by
 unfold Vk gB
 generalize r.2.2.1=l at hl
 have key:∀(n i:Nat),i<=l.length->l.length-i<n->T5 n p l l.length i=some ((((hO p (l.drop i)).1,(hO p (l.drop i)).2,()),()),()):=by
  intro n
  induction n with
  |zero=>omega
  |succ n ih=>
   intro i hi h;simp only[T5,fx,AB];by_cases hc:i<l.length
   ·rw[AJe (by omega),AJe (by omega),AG (by omega) (by omega),show((i:Int)+1)=((i+1:Nat):Int)by omega,Ah hc,drop_cons hc,ih (i+1) (by omega) (by omega)]
    simp only[hO];cases l[i].1==1<;>cases l[i].2.1==p<;>rfl
   ·rw[AJk (by omega),ALm (by omega)]
    rfl
 grind[AW,Aa]
theorem eR{r:Ac}{p:Int}(hl:r.2.2.1.length<=2^40):M1 r p=some ((((hO p r.2.2.1).1,(hO p r.2.2.1).2,()),()),()):=by
 unfold M1 Z4
 generalize r.2.2.1=l at hl
 have key:∀(n i:Nat),i<=l.length->l.length-i<n->Nc n p i r.1 r.2.1 l=some ((((hO p (l.drop i)).1,(hO p (l.drop i)).2,()),()),()):=by
  intro n
  induction n with
  |zero=>omega
  |succ n ih=>
   intro i hi h;simp only[Nc,ZE,AB];by_cases hc:i<l.length
   ·have hb:(0:Int)<=(i:Int)/\(i:Int)<(l.length:Int):=by omega
    rw[AJe hb.2,AG (by omega) (by omega),show((i:Int)+1)=((i+1:Nat):Int)by omega];simp only[AJe hb];rw[Ah hc,drop_cons hc,ih (i+1) (by omega) (by omega)];simp only[hO];cases l[i].1==1<;>cases l[i].2.1==p<;>rfl
   ·rw[AJk (by omega),ALm (by omega)]
    rfl
 grind[AW,Aa]
def ahead(p:Int)(r:Ac):Bool:=cond (decide (Ab p<r.1)) true (cond (Ab p==r.1) (decide (Bt p<r.2.1)) false)
theorem jz{p:Int}{r:Ac}(hp:Bp p):I_ p r=some ((ahead p r,()),()):=by
 grind[I_,ahead,Dl,Q5,decide,Ab]
theorem ABV{r:Ac}(h:T8 r=true):(1<=r.1/\r.1<=31)/\(1<=r.2.1/\r.2.1<=61):=by
 simp only[T8,BE,ALJ,ALh]at h;omega
theorem AAM{p:Int}(h:Av p=true):p=4294967296*Ab p+Bt p/\(1<=Ab p/\Ab p<=30)/\(1<=Bt p/\Bt p<=60):=by
 have hr:=cM.1 h;have ho:Bt p=p.tmod 4294967296:=by grind[Bt]
 have he:Ab p=TO p:=by unfold Ab;rw[AJe h]
 have h2:=h;simp only[Av,BE,ALJ,ALh]at h2;grind[TO,Int.mul_tdiv_add_tmod]
theorem nw{p:Int}{r:Ac}(hr:T8 r=true)(hp:Av p=true):H9 r p=some ((ahead p r,()),()):=by
 obtain⟨h1,h2⟩:=ABV hr;grind[AAM,H9,Dh,ahead,AG,Ab,decide_eq_true,decide_eq_false,Bt]
def zt(trim:Int)(r:Ac)(s:Ak):Bool:= !(s.2.2.1&&(decide (trim<s.1)&&ahead s.1 r))||(hO s.1 r.2.2.1).2
def AEJ(trim:Int)(ss:List Ak)(r:Ac):Bool:=CL (fun j=>zt trim r (ss.getD j HP)) 0 ss.length
def VZ(w:AA):Bool:=DA w&&(w.2.2.2.2.2.2.2.2.2.2.1||(AEJ w.2.2.2.2.2.1 w.2.2.2.2.2.2.2.2.2.1 (w.2.2.2.2.2.2.2.2.1.getD 0 AR)&&AEJ w.2.2.2.2.2.1 w.2.2.2.2.2.2.2.2.2.1 (w.2.2.2.2.2.2.2.2.1.getD 1 AR)))
theorem ib{w:AA}(h:DA w=true){i:Nat}(hi:i<2):T8 (w.2.2.2.2.2.2.2.2.1.getD i AR)=true:=by
 simp only[DA,Zn,ALJ,ALh]at h;grind
theorem wC{w:AA}(h:DA w=true){j:Nat}(hj:j<w.2.2.2.2.2.2.2.2.2.1.length):Av (w.2.2.2.2.2.2.2.2.2.1.getD j HP).1=true:=by
 have:=M7 (mN h) j (by omega) (by omega);simp only[pn,ALJ]at this;simp_all
section
variable{w:AA} (h:lg w)
include h
theorem l_:Tf w=some ((VZ w,()),()):=by
 have k2:=h.MD;unfold Tf WZ VZ;rw[Fo w,Fp h];simp only[ALi];rcases AJd (DA w)with DG|DG
 rotate_left
 ·simp_all
 rw[DG];simp only[ALR,AKp,ALl];have h2:=E4 DG;have o:=fun i hi=>h.out (i:=i) hi
 have Qt:=fun j hj=>h.AOH _ (BJ (d:=HP) (i:=j) hj)
 have outer:=Vf (L:=fun n i=>FQ n w.2.2.2.2.2.2.2.2.1 w.2.2.2.2.2.2.2.2.1.length i w.1 w.2.1 w.2.2.1 w.2.2.2.1 w.2.2.2.2.1 w.2.2.2.2.2.1 w.2.2.2.2.2.2.1 w.2.2.2.2.2.2.2.1 w.2.2.2.2.2.2.2.2.1 w.2.2.2.2.2.2.2.2.2.1 w.2.2.2.2.2.2.2.2.2.2.1) (len:=w.2.2.2.2.2.2.2.2.1.length) (E:=2^20) (q:=fun i=>AEJ w.2.2.2.2.2.1 w.2.2.2.2.2.2.2.2.2.1 (w.2.2.2.2.2.2.2.2.1.getD i AR)) (e:=fun _=>w.2.2.2.2.2.2.2.2.2.1.length) (fin:=some ((true,()),())) (no:=some ((false,()),())) (fun i hi=>by omega) (fun i hi n hn=>by
   have ho:=o i hi;simp only[FQ,O4,AB];rw[AJe (by omega),AJe (by omega),ALN];have:=Wn (L:=fun n j=>Gi n w.2.2.2.2.2.2.2.2.1 w.2.2.2.2.2.2.2.2.1.length i w.2.2.2.2.2.2.2.2.2.1 w.2.2.2.2.2.2.2.2.2.1.length j w.1 w.2.1 w.2.2.1 w.2.2.2.1 w.2.2.2.2.1 w.2.2.2.2.2.1 w.2.2.2.2.2.2.1 w.2.2.2.2.2.2.2.1 w.2.2.2.2.2.2.2.2.1 w.2.2.2.2.2.2.2.2.2.1 w.2.2.2.2.2.2.2.2.2.2.1 (w.2.2.2.2.2.2.2.2.1.getD i AR).1 (w.2.2.2.2.2.2.2.2.1.getD i AR).2.1 (w.2.2.2.2.2.2.2.2.1.getD i AR).2.2.1) (len:=w.2.2.2.2.2.2.2.2.2.1.length) (p:=fun j=>zt w.2.2.2.2.2.1 (w.2.2.2.2.2.2.2.2.1.getD i AR) (w.2.2.2.2.2.2.2.2.2.1.getD j HP)) (K:=fun n=>FQ n w.2.2.2.2.2.2.2.2.1 w.2.2.2.2.2.2.2.2.1.length ((i+1:Nat):Int) w.1 w.2.1 w.2.2.1 w.2.2.2.1 w.2.2.2.2.1 w.2.2.2.2.2.1 w.2.2.2.2.2.2.1 w.2.2.2.2.2.2.2.1 w.2.2.2.2.2.2.2.2.1 w.2.2.2.2.2.2.2.2.2.1 w.2.2.2.2.2.2.2.2.2.2.1) (no:=some ((false,()),())) (fun n j hj=>by
    simp only[Gi,PC,zt];rw[show decide ((j:Int)<(w.2.2.2.2.2.2.2.2.2.1.length:Int))=true from AM_ (by omega),ALg,AJe (by omega),ALN,AG (by omega) (by omega),show((j:Int)+1)=((j+1:Nat):Int)by omega];rw[show((w.2.2.2.2.2.2.2.2.1.getD i AR).1,(w.2.2.2.2.2.2.2.2.1.getD i AR).2.1,(w.2.2.2.2.2.2.2.2.1.getD i AR).2.2.1,())=w.2.2.2.2.2.2.2.2.1.getD i AR from rfl];have hs:=Qt j hj
    show(Vk (w.2.2.2.2.2.2.2.2.1.getD i AR) (w.2.2.2.2.2.2.2.2.2.1.getD j HP).1).bind _=_
    rw[fH (by omega),jz hs];grind) (fun n=>by
    simp only[Gi,PC,AB];rw[AJk (by omega),AG (by omega) (by omega),show((i:Int)+1)=((i+1:Nat):Int)by omega]) w.2.2.2.2.2.2.2.2.2.1.length n 0 (by omega) (by omega)
   exact this) (fun n=>by
   simp only[FQ,O4,AB];simp_all) w.2.2.2.2.2.2.2.2.1.length AW 0 (by omega) (dz (by omega) (by omega))
 rw[show((0:Nat):Int)=0 from rfl]at outer;revert outer;cases w.2.2.2.2.2.2.2.2.2.2.1 with
 |true=>simp_all
 |false=>
  intro outer;simp only[AKp,APM];refine Eq.trans outer ?_
  rw[h2];simp only[CL,AQ5];grind
theorem mL:T6 w=some ((VZ w,()),()):=by
 have k2:=h.MD;unfold T6 XL VZ;rw[Fo w,G_ h];simp only[ALi];rcases AJd (DA w)with DG|DG
 rotate_left
 ·simp_all
 rw[DG];simp only[ALR,AKp,ALl];have h2:=E4 DG;have o:=fun i hi=>h.out (i:=i) hi
 have zg:=fun j hj=>wC DG (j:=j) hj
 have aU:=fun i hi=>ib DG (i:=i) hi
 cases ht:w.2.2.2.2.2.2.2.2.2.2.1 with
 |true=>
  obtain⟨m,hm⟩:∃m,AW=m+1:=⟨AW-1,by have:=WR;omega⟩;rw[hm];rfl
 |false=>
  have outer:=Vf (L:=fun n i=>G2 n i w.1 w.2.1 w.2.2.1 w.2.2.2.1 w.2.2.2.2.1 w.2.2.2.2.2.1 w.2.2.2.2.2.2.1 w.2.2.2.2.2.2.2.1 w.2.2.2.2.2.2.2.2.1 w.2.2.2.2.2.2.2.2.2.1 false) (len:=2) (E:=2^20) (q:=fun i=>AEJ w.2.2.2.2.2.1 w.2.2.2.2.2.2.2.2.2.1 (w.2.2.2.2.2.2.2.2.1.getD i AR)) (e:=fun _=>w.2.2.2.2.2.2.2.2.2.1.length) (fin:=some ((true,()),())) (no:=some ((false,()),())) (fun i hi=>by omega) (fun i hi n hn=>by
   have ho:=o i (by omega);have hb:(0:Int)<=(i:Int)/\(i:Int)<(w.2.2.2.2.2.2.2.2.1.length:Int):=by omega
   simp only[G2,XB,AOP,ALg];rw[show decide ((i:Int)<2)=true from AM_ (by omega),ALg];have:=Wn (L:=fun n j=>G3 n i j false true w.1 w.2.1 w.2.2.1 w.2.2.2.1 w.2.2.2.2.1 w.2.2.2.2.2.1 w.2.2.2.2.2.2.1 w.2.2.2.2.2.2.2.1 w.2.2.2.2.2.2.2.2.1 w.2.2.2.2.2.2.2.2.2.1 false) (len:=w.2.2.2.2.2.2.2.2.2.1.length) (p:=fun j=>zt w.2.2.2.2.2.1 (w.2.2.2.2.2.2.2.2.1.getD i AR) (w.2.2.2.2.2.2.2.2.2.1.getD j HP)) (K:=fun n=>G2 n ((i+1:Nat):Int) w.1 w.2.1 w.2.2.1 w.2.2.2.1 w.2.2.2.2.1 w.2.2.2.2.2.1 w.2.2.2.2.2.2.1 w.2.2.2.2.2.2.2.1 w.2.2.2.2.2.2.2.2.1 w.2.2.2.2.2.2.2.2.2.1 false) (no:=some ((false,()),())) (fun n j hj=>by
    simp only[G3,O1,zt];rw[show decide ((j:Int)<(w.2.2.2.2.2.2.2.2.2.1.length:Int))=true from AM_ (by omega),ALg,AJe (by omega)];simp only[AJe hb,ALN];rw[AG (by omega) (by omega),show((j:Int)+1)=((j+1:Nat):Int)by omega];have hs:=zg j hj
    show(M1 (w.2.2.2.2.2.2.2.2.1.getD i AR) (w.2.2.2.2.2.2.2.2.2.1.getD j HP).1).bind (fun u4=>cond _ (cond _ ((H9 (w.2.2.2.2.2.2.2.2.1.getD i AR) (w.2.2.2.2.2.2.2.2.2.1.getD j HP).1).bind _) _) _)=_
    rw[eR (by omega),nw (aU i (by omega)) hs];grind) (fun n=>by
    simp only[G3,O1,AB];rw[AJk (by omega),AG (by omega) (by omega),show((i:Int)+1)=((i+1:Nat):Int)by omega]) w.2.2.2.2.2.2.2.2.2.1.length n 0 (by omega) (by omega)
   exact this) (fun n=>by
   rfl) 2 AW 0 (by omega) (dz (by omega) (by omega))
  rw[show((0:Nat):Int)=0 from rfl]at outer;refine Eq.trans outer ?_
  simp only[CL,AQ5,APM];grind
end
theorem yd{e:Ar}:∀{l:List Ar},e∈l->e.1=1->(hO e.2.1 l).2=true
 |x::l,h,h1=>by
  simp only[hO];rcases ANC.1 h with rfl|h
  ·simp_all
  ·have ih:=yd h h1
   grind
def bS(trim:Int)(r0 r1:Ac)(e:Ar):Bool:=e.1==1&&(Av e.2.1&&(decide (trim<e.2.1)&&(ahead e.2.1 r0&&ahead e.2.1 r1)))
def ABu(trim:Int)(r0 r1:Ac)(e:Ar):Bool:= !bS trim r0 r1 e||(((hO e.2.1 r0.2.2.1).2==(hO e.2.1 r1.2.2.1).2)&&((hO e.2.1 r0.2.2.1).1==(hO e.2.1 r1.2.2.1).1))
def uR(trim:Int)(r0 r1:Ac)(l:List Ar):Bool:=CL (fun j=>ABu trim r0 r1 (l.getD j Ep)) 0 l.length
def VN(w:AA):Bool:=DA w&&(w.2.2.2.2.2.2.2.2.2.2.1||(uR w.2.2.2.2.2.1 (w.2.2.2.2.2.2.2.2.1.getD 0 AR) (w.2.2.2.2.2.2.2.2.1.getD 1 AR) (w.2.2.2.2.2.2.2.2.1.getD 0 AR).2.2.1&&uR w.2.2.2.2.2.1 (w.2.2.2.2.2.2.2.2.1.getD 0 AR) (w.2.2.2.2.2.2.2.2.1.getD 1 AR) (w.2.2.2.2.2.2.2.2.1.getD 1 AR).2.2.1))
def rJ(w:AA):Prop:= ∀r∈w.2.2.2.2.2.2.2.2.1,∀e∈r.2.2.1,Bp e.2.1
section
variable{w:AA} (h:lg w) (hev:rJ w)
include h hev
theorem lH:T4 w=some ((VN w,()),()):=by
 have k2:=h.MD;unfold T4 Wj VN;rw[Fo w,Fp h];simp only[ALi];rcases AJd (DA w)with DG|DG
 rotate_left
 ·simp_all
 rw[DG];simp only[ALR,AKp,ALl];have h2:=E4 DG;have o:=fun i hi=>h.out (i:=i) hi
 have o0:=o 0 (by omega);have o1:=o 1 (by omega);have b0:(0:Int)<=(0:Int)/\(0:Int)<(w.2.2.2.2.2.2.2.2.1.length:Int):=by omega
 have b1:(0:Int)<=(1:Int)/\(1:Int)<(w.2.2.2.2.2.2.2.2.1.length:Int):=by omega
 have outer:=Vf (L:=fun n i=>FW n w.2.2.2.2.2.2.2.2.1 w.2.2.2.2.2.2.2.2.1.length i w.1 w.2.1 w.2.2.1 w.2.2.2.1 w.2.2.2.2.1 w.2.2.2.2.2.1 w.2.2.2.2.2.2.1 w.2.2.2.2.2.2.2.1 w.2.2.2.2.2.2.2.2.1 w.2.2.2.2.2.2.2.2.2.1 w.2.2.2.2.2.2.2.2.2.2.1) (len:=w.2.2.2.2.2.2.2.2.1.length) (E:=2^20) (q:=fun i=>uR w.2.2.2.2.2.1 (w.2.2.2.2.2.2.2.2.1.getD 0 AR) (w.2.2.2.2.2.2.2.2.1.getD 1 AR) (w.2.2.2.2.2.2.2.2.1.getD i AR).2.2.1) (e:=fun i=>(w.2.2.2.2.2.2.2.2.1.getD i AR).2.2.1.length) (fin:=some ((true,()),())) (no:=some ((false,()),())) (fun i hi=>o i hi) (fun i hi n hn=>by
   have ho:=o i hi;simp only[FW,O6,AB];rw[AJe (by omega),AJe (by omega),ALN];have:=Wn (L:=fun n j=>Gu n w.2.2.2.2.2.2.2.2.1 w.2.2.2.2.2.2.2.2.1.length i (w.2.2.2.2.2.2.2.2.1.getD i AR).2.2.1 (w.2.2.2.2.2.2.2.2.1.getD i AR).2.2.1.length j w.1 w.2.1 w.2.2.1 w.2.2.2.1 w.2.2.2.2.1 w.2.2.2.2.2.1 w.2.2.2.2.2.2.1 w.2.2.2.2.2.2.2.1 w.2.2.2.2.2.2.2.2.1 w.2.2.2.2.2.2.2.2.2.1 w.2.2.2.2.2.2.2.2.2.2.1) (len:=(w.2.2.2.2.2.2.2.2.1.getD i AR).2.2.1.length) (p:=fun j=>ABu w.2.2.2.2.2.1 (w.2.2.2.2.2.2.2.2.1.getD 0 AR) (w.2.2.2.2.2.2.2.2.1.getD 1 AR) ((w.2.2.2.2.2.2.2.2.1.getD i AR).2.2.1.getD j Ep)) (K:=fun n=>FW n w.2.2.2.2.2.2.2.2.1 w.2.2.2.2.2.2.2.2.1.length ((i+1:Nat):Int) w.1 w.2.1 w.2.2.1 w.2.2.2.1 w.2.2.2.2.1 w.2.2.2.2.2.1 w.2.2.2.2.2.2.1 w.2.2.2.2.2.2.2.1 w.2.2.2.2.2.2.2.2.1 w.2.2.2.2.2.2.2.2.2.1 w.2.2.2.2.2.2.2.2.2.2.1) (no:=some ((false,()),())) (fun n j hj=>by
    simp only[Gu,PI,ABu,bS];rw[show decide ((j:Int)<((w.2.2.2.2.2.2.2.2.1.getD i AR).2.2.1.length:Int))=true from AM_ (by omega),ALg,AJe (by omega),ALN,AG (by omega) (by omega),show((j:Int)+1)=((j+1:Nat):Int)by omega];simp only[AJe b0,AJe b1];have hs:Bp ((w.2.2.2.2.2.2.2.2.1.getD i AR).2.2.1.getD j (0,0,[],())).2.1:=hev _ (BJ (d:=AR) hi) _ (BJ (d:=Ep) hj);rw[show((w.2.2.2.2.2.2.2.2.1.getD 0 (0,0,[],())).1,(w.2.2.2.2.2.2.2.2.1.getD 0 (0,0,[],())).2.1,(w.2.2.2.2.2.2.2.2.1.getD 0 (0,0,[],())).2.2.1,())=w.2.2.2.2.2.2.2.2.1.getD 0 AR from rfl,show((w.2.2.2.2.2.2.2.2.1.getD 1 (0,0,[],())).1,(w.2.2.2.2.2.2.2.2.1.getD 1 (0,0,[],())).2.1,(w.2.2.2.2.2.2.2.2.1.getD 1 (0,0,[],())).2.2.1,())=w.2.2.2.2.2.2.2.2.1.getD 1 AR from rfl];rw[Il hs,jz hs,jz hs,fH (by omega),fH (by omega)];grind) (fun n=>by
    simp only[Gu,PI,AB];rw[AJk (by omega),AG (by omega) (by omega),show((i:Int)+1)=((i+1:Nat):Int)by omega]) (w.2.2.2.2.2.2.2.2.1.getD i AR).2.2.1.length n 0 (by omega) (by omega)
   exact this) (fun n=>by
   simp only[FW,O6,AB];simp_all) w.2.2.2.2.2.2.2.2.1.length AW 0 (by omega) (dz (by omega) (by omega))
 rw[show((0:Nat):Int)=0 from rfl]at outer;revert outer;cases w.2.2.2.2.2.2.2.2.2.2.1 with
 |true=>simp_all
 |false=>
  intro outer;simp only[AKp,APM];refine Eq.trans outer ?_
  rw[h2];simp only[CL,AQ5];grind
omit h hev in
theorem p8{a b:Ac}(ha:a.2.2.1.length<=2^20)(hb2:b.2.2.1.length<=2^20)(ra:T8 a=true)(rb:T8 b=true)(Qt:∀e∈a.2.2.1,Bp e.2.1):
  Q6 w a b=some ((CL (fun j=> !bS w.2.2.2.2.2.1 a b (a.2.2.1.getD j Ep)||((hO (a.2.2.1.getD j Ep).2.1 b.2.2.1).2&&((hO (a.2.2.1.getD j Ep).2.1 b.2.2.1).1==(hO (a.2.2.1.getD j Ep).2.1 a.2.2.1).1))) 0 a.2.2.1.length,()),()):=by
 unfold Q6 X3;have key:=Fm (L:=fun n j=>JU n j w.1 w.2.1 w.2.2.1 w.2.2.2.1 w.2.2.2.2.1 w.2.2.2.2.2.1 w.2.2.2.2.2.2.1 w.2.2.2.2.2.2.2.1 w.2.2.2.2.2.2.2.2.1 w.2.2.2.2.2.2.2.2.2.1 w.2.2.2.2.2.2.2.2.2.2.1 a.1 a.2.1 a.2.2.1 b.1 b.2.1 b.2.2.1) (len:=a.2.2.1.length) (p:=fun j=> !bS w.2.2.2.2.2.1 a b (a.2.2.1.getD j Ep)||((hO (a.2.2.1.getD j Ep).2.1 b.2.2.1).2&&((hO (a.2.2.1.getD j Ep).2.1 b.2.2.1).1==(hO (a.2.2.1.getD j Ep).2.1 a.2.2.1).1))) (fin:=true) (fun n j hj=>by
  simp only[JU,Ql,bS];rw[show decide ((j:Int)<(a.2.2.1.length:Int))=true from AM_ (by omega),ALg,AJe (by omega),ALN,AG (by omega) (by omega),show((j:Int)+1)=((j+1:Nat):Int)by omega];rw[Oy a,Oy b];have hs:Bp (a.2.2.1.getD j (0,0,[],())).2.1:=Qt _ (BJ (d:=Ep) hj);rw[E5 hs,eR (by omega),eR (by omega),AEQ];simp only[ALi,bne]
  show cond (!((a.2.2.1.getD j Ep).1==1)) _ (cond (!Av (a.2.2.1.getD j Ep).2.1) _ (cond (!decide (w.2.2.2.2.2.1<(a.2.2.1.getD j Ep).2.1)) _ ((H9 a (a.2.2.1.getD j Ep).2.1).bind _)))=_
  generalize a.2.2.1.getD j Ep=e
  cases e.1==1 with
  |false=>rfl
  |true=>
   rcases AJd (Av e.2.1)with hp|hp
   rotate_left
   ·rw[hp];rfl
   rw[hp,nw ra hp,nw rb hp];simp only[ALi];cases decide (w.2.2.2.2.2.1<e.2.1)<;>cases ahead e.2.1 a<;>cases ahead e.2.1 b<;>(try rfl)<;>cases(hO e.2.1 b.2.2.1).2<;>cases((hO e.2.1 b.2.2.1).1==(hO e.2.1 a.2.2.1).1)<;>rfl) (fun n=>by
  simp only[JU,Ql,AB];rw[AJk (by omega)]) a.2.2.1.length AW 0 (by omega) (Aa (by omega))
 rw[show((0:Nat):Int)=0 from rfl]at key;rw[key,AQ5]
theorem mr:TT w=some ((VN w,()),()):=by
 unfold TT VN;rw[Fo w,G_ h];simp only[ALi];rcases AJd (DA w)with DG|DG
 rotate_left
 ·simp_all
 rw[DG];simp only[ALR,AKp,ALl];have h2:=E4 DG;have b0:(0:Int)<=(0:Int)/\(0:Int)<(w.2.2.2.2.2.2.2.2.1.length:Int):=by omega
 have b1:(0:Int)<=(1:Int)/\(1:Int)<(w.2.2.2.2.2.2.2.2.1.length:Int):=by omega
 simp only[AJe b0,AJe b1];rw[show((w.2.2.2.2.2.2.2.2.1.getD 0 (0,0,[],())).1,(w.2.2.2.2.2.2.2.2.1.getD 0 (0,0,[],())).2.1,(w.2.2.2.2.2.2.2.2.1.getD 0 (0,0,[],())).2.2.1,())=w.2.2.2.2.2.2.2.2.1.getD 0 AR from rfl,show((w.2.2.2.2.2.2.2.2.1.getD 1 (0,0,[],())).1,(w.2.2.2.2.2.2.2.2.1.getD 1 (0,0,[],())).2.1,(w.2.2.2.2.2.2.2.2.1.getD 1 (0,0,[],())).2.2.1,())=w.2.2.2.2.2.2.2.2.1.getD 1 AR from rfl];have o0:=h.out (i:=0) (by omega);have o1:=h.out (i:=1) (by omega);have r0:=ib DG (i:=0) (by omega);have r1:=ib DG (i:=1) (by omega);have i0:=hev _ (BJ (d:=AR) (i:=0) (by omega:0<w.2.2.2.2.2.2.2.2.1.length));have i1:=hev _ (BJ (d:=AR) (i:=1) (by omega:1<w.2.2.2.2.2.2.2.2.1.length));rw[p8 o0 o1 r0 r1 i0,p8 o1 o0 r1 r0 i1];simp only[ALi]
 generalize w.2.2.2.2.2.2.2.2.1.getD 0 AR=a at o0 r0 i0
 generalize w.2.2.2.2.2.2.2.2.1.getD 1 AR=b at o1 r1 i1
 have e1:CL (fun j=> !bS w.2.2.2.2.2.1 a b (a.2.2.1.getD j Ep)||((hO (a.2.2.1.getD j Ep).2.1 b.2.2.1).2&&((hO (a.2.2.1.getD j Ep).2.1 b.2.2.1).1==(hO (a.2.2.1.getD j Ep).2.1 a.2.2.1).1))) 0 a.2.2.1.length=uR w.2.2.2.2.2.1 a b a.2.2.1:=by
  unfold uR;refine cX fun j _ hj=> ?_
  have hm:=BJ (d:=Ep) (by omega:j<a.2.2.1.length)
  generalize a.2.2.1.getD j Ep=e at hm
  unfold ABu;rcases AJd (bS w.2.2.2.2.2.1 a b e)with hb|hb
  ·have hk:e.1=1:=by
    simp only[bS,ALJ,ARL]at hb;omega
   grind[yd,BEq.comm,hO]
  simp_all
 have e2:CL (fun j=> !bS w.2.2.2.2.2.1 b a (b.2.2.1.getD j Ep)||((hO (b.2.2.1.getD j Ep).2.1 a.2.2.1).2&&((hO (b.2.2.1.getD j Ep).2.1 a.2.2.1).1==(hO (b.2.2.1.getD j Ep).2.1 b.2.2.1).1))) 0 b.2.2.1.length=uR w.2.2.2.2.2.1 a b b.2.2.1:=by
  unfold uR;refine cX fun j _ hj=> ?_
  have hm:=BJ (d:=Ep) (by omega:j<b.2.2.1.length)
  generalize b.2.2.1.getD j Ep=e at hm
  unfold ABu;have hc:bS w.2.2.2.2.2.1 b a e=bS w.2.2.2.2.2.1 a b e:=by
   grind[bS,Bool.and_comm,ahead]
  rw[hc];rcases AJd (bS w.2.2.2.2.2.1 a b e)with hb|hb
  ·have hk:e.1=1:=by
    simp only[bS,ALJ,ARL]at hb;omega
   grind[yd,hO]
  simp_all
 grind
end
end Go.M
end
section
namespace Go.M
open Go.M.H (AJ AM Az Ak AA Cx AN BH AU Ac Ar BB Al)
def G9(e o:Int):Int:=4294967296*e+o
def D_(e o:Int):Int:=if BE e 1 30&&BE o 1 60 then G9 e o else 0
def kp(x:Int):List Int->List Int
 |[]=>[x]
 |y::l=>if x<y then x::y::l else y::kp x l
def Ox(x:Int)(l:AAA):AAA:=if l.contains x then l else kp x l
def less(l m:AAA):AAA:=l.filter fun x=> !m.contains x
def SW(c:CQ)(s l:AAA):Bool:=holds c s&&(BC c l&&(l.all s.contains&& !holds c (less s l)))
def BM(k:Int):AAA:=if BE k 0 255 then([0,1,2,3,4,5,6,7]:AAA).filter fun i=>(k/2^i.toNat)%2==1 else[]
def better(a b:AJ):AJ:=if b.2.1>a.2.1 then b else a
def keep(e:AJ):List AJ->List AJ
 |[]=>[e]
 |x::l=>if x.1=e.1 then better x e::l else if x.1>e.1 then e::x::l else x::keep e l
def EF:List AJ->List AJ->List AJ
 |k,[]=>k
 |k,e::l=>EF (keep e k) l
def NN(k:Int):Nat->List AJ->List AJ
 |_,[]=>[]
 |i,e::l=>if(k/2^i)%2=1 then e::NN k (i+1) l else NN k (i+1) l
def O0(p:Int)(l:List AJ):Option AJ:=l.find? fun e=>e.1==p
def takes(s:AM)(e:AJ):Bool:=if e.2.1=0 then decide (Ab e.1>s.2.2.1)else decide (e.2.1>s.2.2.1)
def K0(s:AM)(e:AJ):AM×Bool:=
 if !CH s then(Dp,false)else if Fq e&&(takes s e&&decide (s.2.1.length≠20))then((s.1,s.2.1++[e],s.2.2.1,()),true)else(s,false)
def GB(s:AM)(k:Int):AM×Bool:=
 if !CH s then(Dp,false)else
  let q:=EF s.1 (NN k 0 s.2.1)
  if BE k 0 1048575&&decide (q.length<=200)then((q,[],s.2.2.1,()),true)else(s,false)
def Cw(s:AM):AM×Bool:=GB s 1048575
def B5(s:AM)(upto:Int):AM×Bool:=
 if !CH s then(Dp,false)else
  let o:=Cw s
  if o.2&&BE upto 0 30 then((o.1.1,o.1.2.1,max o.1.2.2.1 upto,()),true)else(s,false)
def Zw(s:AM)(p:Int):Option AJ:=if CH s then O0 p s.1 else none
def Js(s:AM)(ep:Int):List AJ:=if CH s then s.1.filter fun e=>Ab e.1==ep else[]
def JQ(s:AM)(upto:Int):AM×Bool:=
 if !CH s then(Dp,false)else if Av upto then((s.1.filter fun e=>decide (e.1>upto),s.2.1,s.2.2.1,()),true)else(s,false)
abbrev oO:AN:=([],0,())
def Br(l:List Cx)(e:Int):AAA:=if BE e 1 l.length then(l.getD (e-1).toNat Hp).1 else[]
def JA(c:CQ)(r:AN)(ns:AAA):AN×Int×Bool:=
 if !Po c r then(oO,0,false)else if holds c ns&&decide (r.1.length≠30)then((r.1++[(ns,false,0,())],r.2.1,()),(r.1.length:Int)+1,true)else(r,0,false)
def Pv(l:List Cx)(i:Nat)(last:Int):List Cx:=l.set i ((l.getD i Hp).1,true,last,())
def Pt(c:CQ)(r:AN)(b last:Int):AN×Bool:=
 if !Po c r then(oO,false)else
  if decide (b=r.1.length)&&(decide (BR r.1≠0)&&(decide (b≠BR r.1)&&BE last 0 60))then((Pv r.1 (BR r.1-1).toNat last,r.2.1,()),true)else(r,false)
def QG(c:CQ)(r:AN)(p:Int):AN×Bool:=
 if !Po c r then(oO,false)else if Av p&&decide (Ab p<=r.1.length)then((r.1,max r.2.1 p,()),true)else(r,false)
def CR(c:CQ)(w:AU)(d:ABF):AU×Int×Bool:=
 if !Fe c w then(CO,0,false)else
  if Fe c (w.1,w.2.1++[(d,[],false,())],())then((w.1,w.2.1++[(d,[],false,())],()),(w.2.1.length:Int)+1,true)else(w,0,false)
def Ft(c:CQ)(n:Int)(x:BH):BH:=(x.1,Ox n x.2.1,holds c (Ox n x.2.1),())
def Sw(c:CQ)(w:AU)(o n:Int):AU×Bool:=
 if !Fe c w then(CO,false)else
  if BE o 1 w.2.1.length&&(BE n 0 ((c.1.length:Int)-1)&& !(w.2.1.getD (o-1).toNat Mg).2.2.1)then((w.1,w.2.1.set (o-1).toNat (Ft c n (w.2.1.getD (o-1).toNat Mg)),()),true)else(w,false)
def Et(n:Int)(x:BH):BH:=(x.1,if x.2.2.1 then x.2.1 else less x.2.1 [n],x.2.2.1,())
def CC(c:CQ)(w:AU)(n:Int):AU×Bool:=
 if !Fe c w then(CO,false)else((w.1,w.2.1.map (Et n),()),true)
def dp:List BH->Nat
 |[]=>0
 |x::l=>if x.2.2.1 then dp l+1 else 0
def r6(e b:Int):Az:=(b,e,[],[],false,[],())
def PG(c:CQ)(m:Az)(n:Int)(l:List AJ):Az×Bool:=
 if !HE c m then(Su,false)else
  let o:Az:=(m.1,m.2.1,Ox n m.2.2.1,EF m.2.2.2.1 (l.filter fun e=>Ab e.1==m.2.1),m.2.2.2.2.1,m.2.2.2.2.2.1,())
  if !m.2.2.2.2.1&&HE c o then(o,true)else(m,false)
def Ls(c:CQ)(m:Az)(s:AAA):Az×Bool:=
 if !HE c m then(Su,false)else
  if !m.2.2.2.2.1&&SW c s (m.2.2.1.filter s.contains)then((m.1,m.2.1,m.2.2.1,m.2.2.2.1,true,List.replicate (O5 m.2.2.2.1).toNat [],()),true)else(m,false)
def Ea(m:Az)(o:Int):Option AJ:=
 if m.2.2.2.2.1&&(BE m.2.1 1 30&&(BE o 1 60&&decide (o<=m.2.2.2.2.2.1.length)))then
  match O0 (G9 m.2.1 o) m.2.2.2.1 with
  |some x=>some (G9 m.2.1 o,m.1,x.2.2.1,x.2.2.2.1,())
  |none=>some (G9 m.2.1 o,m.1,true,[],())
 else none
def bP(c:CQ)(m:Az)(o n:Int):Az×Bool:=
 if !HE c m then(Su,false)else
  if BE o 1 m.2.2.2.2.2.1.length&&BE n 0 ((c.1.length:Int)-1)then((m.1,m.2.1,m.2.2.1,m.2.2.2.1,m.2.2.2.2.1,m.2.2.2.2.2.1.set (o-1).toNat (Ox n (m.2.2.2.2.2.1.getD (o-1).toNat [])),()),true)else(m,false)
def CK(c:CQ)(m:Az)(n:Int):Az×Bool:=
 if !HE c m then(Su,false)else((m.1,m.2.1,m.2.2.1,m.2.2.2.1,m.2.2.2.2.1,m.2.2.2.2.2.1.map fun l=>less l [n],()),true)
def VU(c:CQ)(m:Az):Bool:=HE c m&&(m.2.2.2.2.1&&m.2.2.2.2.2.1.all (holds c))
def Yk(a:BB):AJ:=(a.2.2.1,a.2.2.2.1,a.2.2.2.2.1,a.2.2.2.2.2.1,())
def I5(s:AAA)(p:Int):Option AJ->List BB->Option AJ
 |b,[]=>b
 |b,a::l=>if a.2.1&&(s.contains a.1&&(Fq (Yk a)&&(Yk a).1==p))then
   I5 s p (some (match b with|some x=>better x (Yk a)|none=>Yk a)) l
  else I5 s p b l
def VI(p:Int):Option AJ->Ar
 |none=>(3,p,[],())
 |some x=>if x.2.2.1 then(2,p,[],())else(1,p,x.2.2.2.1,())
def DH(c:CQ)(g:AN)(sure:Int)(r:Ac)(l:List BB):Ac×Int:=
 if !(Po c g&&(T8 r&&BC c (l.map fun a=>a.1)))then(AR,1)else
 if decide (r.1>g.1.length)||decide (r.2.2.1.length=120)then(r,2)else
 let era:=g.1.getD (r.1-1).toNat Hp
 let p:=G9 r.1 r.2.1
 if g.2.1>=p then((Ab g.2.1,Bt g.2.1+1,r.2.2.1++[(5,g.2.1,[],())],()),0)else
 if era.2.1&&decide (r.2.1>era.2.2.1)then((r.1+1,1,r.2.2.1++[(4,r.1+1,[],())],()),0)else
 if(!era.2.1&&decide (r.2.1>sure))||decide (r.2.1>60)then(r,2)else
 if !SW c era.1 ((l.map fun a=>a.1).filter era.1.contains)then(r,3)else
 ((r.1,r.2.1+1,r.2.2.1++[VI p (I5 era.1 p none l)],()),0)
def Gt:List AJ->List AM->List AJ
 |k,[]=>k
 |k,s::l=>Gt (EF k s.1) l
def others(lost:AAA):Nat->List AM->List AM
 |_,[]=>[]
 |i,s::l=>if lost.contains (i:Int)then others lost (i+1) l else s::others lost (i+1) l
def cx(c:CQ)(ss:List AM)(lost:AAA)(n upto:Int):AM×Bool:=
 let s:AM:=(Gt [] (others lost 0 ss),[],upto,())
 if EM c&&(decide (ss.length=c.1.length)&&(BC c lost&&(!holds c lost&&(lost.contains n&&((others lost 0 ss).all CH&&CH s)))))then(s,true)else(Dp,false)
end Go.M
namespace Go.M.H.AA
open Go.M.H (AJ AM Az Ak AA Cx AN BH AU Ac Ar)
@[reducible] def Bd (w:AA):List AM:=w.2.2.1
@[reducible] def lost (w:AA):AAA:=w.2.2.2.1
@[reducible] def BF (w:AA):List Cx:=w.2.2.2.2.1
@[reducible] def trim (w:AA):Int:=w.2.2.2.2.2.1
@[reducible] def AL (w:AA):List AU:=w.2.2.2.2.2.2.1
@[reducible] def CY (w:AA):List Az:=w.2.2.2.2.2.2.2.1
@[reducible] def Ai (w:AA):List Ac:=w.2.2.2.2.2.2.2.2.1
@[reducible] def CI (w:AA):List Ak:=w.2.2.2.2.2.2.2.2.2.1
@[reducible] def I6 (w:AA):Bool:=w.2.2.2.2.2.2.2.2.2.2.1
@[reducible] def CS (w:AA) (x:List AM):AA:=(w.1,w.2.1,x,w.2.2.2)
@[reducible] def FH (w:AA) (x:AAA):AA:=(w.1,w.2.1,w.2.2.1,x,w.2.2.2.2)
@[reducible] def I1 (w:AA) (x:AN):AA:=(w.1,w.2.1,w.2.2.1,w.2.2.2.1,x.1,x.2.1,w.2.2.2.2.2.2)
@[reducible] def Bm (w:AA) (x:List AU):AA:=(w.1,w.2.1,w.2.2.1,w.2.2.2.1,w.2.2.2.2.1,w.2.2.2.2.2.1,x,w.2.2.2.2.2.2.2)
@[reducible] def Ct (w:AA) (x:List Az):AA:=(w.1,w.2.1,w.2.2.1,w.2.2.2.1,w.2.2.2.2.1,w.2.2.2.2.2.1,w.2.2.2.2.2.2.1,x,w.2.2.2.2.2.2.2.2)
@[reducible] def C8 (w:AA) (x:List Ac):AA:=(w.1,w.2.1,w.2.2.1,w.2.2.2.1,w.2.2.2.2.1,w.2.2.2.2.2.1,w.2.2.2.2.2.2.1,w.2.2.2.2.2.2.2.1,x,w.2.2.2.2.2.2.2.2.2)
@[reducible] def Dd (w:AA) (x:List Ak):AA:=(w.1,w.2.1,w.2.2.1,w.2.2.2.1,w.2.2.2.2.1,w.2.2.2.2.2.1,w.2.2.2.2.2.2.1,w.2.2.2.2.2.2.2.1,w.2.2.2.2.2.2.2.2.1,x,w.2.2.2.2.2.2.2.2.2.2)
@[reducible] def FV (w:AA) (x:Bool):AA:=(w.1,w.2.1,w.2.2.1,w.2.2.2.1,w.2.2.2.2.1,w.2.2.2.2.2.1,w.2.2.2.2.2.2.1,w.2.2.2.2.2.2.2.1,w.2.2.2.2.2.2.2.2.1,w.2.2.2.2.2.2.2.2.2.1,x,())
end Go.M.H.AA
namespace Go.M
open Go.M.H (AJ AM Az Ak AA Cx AN BH AU Ac Ar BB Al)
def AP_:AA:=([],0,[],[],[],0,[],[],[],[],false,())
def Hz(c:CQ):AA:=(c.1,c.2.1,List.replicate c.1.length Dp,[],[],0,[],[],[(1,1,[],()),(1,1,[],())],[],false,())
def Yb(k:Int):Bool×Bool×Bool×Bool:=
 if k=8\/k=10\/k=12 then(false,false,false,false)
 else if k=2 then(true,false,false,true)
 else if k=3 then(true,true,true,false)
 else if k=5\/k=14 then(true,true,false,false)
 else if k=11 then(false,true,true,false)
 else(true,false,false,false)
def GS(d:Al):Bool:=
 BE d.1 1 16&&(((Yb d.1).1||d.2.1==0)&&(((Yb d.1).2.1||d.2.2.1==0)&&(((Yb d.1).2.2.1||d.2.2.2.1==0)&&(((Yb d.1).2.2.2||d.2.2.2.2.1==[])&&decide (d.2.2.2.2.1.length<=40)))))
abbrev aR:Type:=AA×Int
def Au(w:AA)(n:Int):Int:=if !BE n 0 ((w.Bd.length:Int)-1)then 2 else if w.lost.contains n then 3 else 0
def Qk(w:AA)(a:Int):aR:=
 if w.AL.length=4 then(w,4)else
 let q:=JA (Ae w) (CT w) (BM a)
 if !q.2.2 then(w,4)else(((w.I1 q.1).Bm (w.AL++[(q.2.1,[],())])).Ct [],0)
def eo(s:Ak):List Ak->List Ak
 |[]=>[s]
 |x::l=>if x.1>s.1 then s::x::l else x::eo s l
def doAdd(w:AA)(a:Int)(d:ABF):aR:=
 if !BE a 0 ((w.AL.length:Int)-1)then(w,2)else
 let x:=w.AL.getD a.toNat CO
 let q:=CR (Ae w) x d
 if !q.2.2||(decide (w.CI.length=120)||w.CI.any fun s=>s.1==G9 x.1 q.2.1)then(w,4)else
 ((w.Bm (w.AL.set a.toNat q.1)).Dd (eo (G9 x.1 q.2.1,d,false,()) w.CI),0)
def putAt(w:AA)(n:Int)(q:AM×Bool):aR:=if q.2 then(w.CS (w.Bd.set n.toNat q.1),0)else(w,4)
def storeAt(w:AA)(n:Int):AM:=w.Bd.getD n.toNat Dp
def OL(w:AA)(a b n:Int):aR:=
 if !BE a 0 ((w.AL.length:Int)-1)then(w,2)else
 let x:=w.AL.getD a.toNat CO
 if !BE b 1 x.2.1.length then(w,2)else
 if Au w n≠0 then(w,Au w n)else
 if !(Br w.BF x.1).contains n then(w,2)else
 putAt w n (K0 (storeAt w n) (G9 x.1 b,0,false,(x.2.1.getD (b-1).toNat Mg).1,()))
def Mp(s:AM)(p:Int):Bool:=match O0 p s.1 with|some e=>e.2.1==0|none=>false
def BQ(c:CQ)(s:AM)(ep n:Int):Int->List BH->List BH
 |_,[]=>[]
 |o,x::l=>(if !x.2.2.1&&Mp s (G9 ep o)then Ft c n x else x)::BQ c s ep n (o+1) l
def Ib(l:List BH)(o:Int):Bool:=BE o 1 l.length&&(l.getD (o-1).toNat Mg).2.2.1
def T7(all:Bool)(ep:Int)(old new:List BH)(s:Ak):Ak:=
 (s.1,s.2.1,s.2.2.1||(Ab s.1==ep&&(Ib new (Bt s.1)&&(all|| !Ib old (Bt s.1)))),())
def Pf(s:AM)(l:List Cx)(n:Int)(x:AU):Bool:=(Br l x.1).contains n&&decide (s.2.2.1<x.1)
def FB(all:Bool)(c:CQ)(s:AM)(l:List Cx)(n:Int):List AU->List Ak->List AU×List Ak
 |[],ss=>([],ss)
 |x::ws,ss=>
  if Pf s l n x then
   let new:=BQ c s x.1 n 1 x.2.1
   let q:=FB all c s l n ws (ss.map (T7 all x.1 x.2.1 new))
   ((x.1,new,())::q.1,q.2)
  else
   let q:=FB all c s l n ws ss
   (x::q.1,q.2)
def Vw(m:Az)(s:AM)(o:Int):Bool:=match Ea m o with|some e=>O0 e.1 s.1==some e|none=>false
def Fa(m:Az)(s:AM)(n:Int):Int->List AAA->List AAA
 |_,[]=>[]
 |o,x::l=>(if Vw m s o then Ox n x else x)::Fa m s n (o+1) l
def Mf(s:AM)(l:List Cx)(n:Int)(m:Az):Az:=
 if(Br l m.2.1).contains n then(m.1,m.2.1,m.2.2.1,m.2.2.2.1,m.2.2.2.2.1,Fa m s n 1 m.2.2.2.2.2.1,())else m
def Qi(all:Bool)(w:AA)(n:Int):aR:=
 if Au w n≠0 then(w,Au w n)else
 let q:=Cw (storeAt w n)
 if !q.2 then(w,4)else
 let t:=FB all (Ae w) q.1 w.BF n w.AL w.CI
 ((((w.CS (w.Bd.set n.toNat q.1)).Bm t.1).Dd t.2).Ct (w.CY.map (Mf q.1 w.BF n)),0)
def OT(w:AA)(n k:Int):aR:=if Au w n≠0 then(w,Au w n)else putAt w n (GB (storeAt w n) k)
def Rw(w:AA)(n:Int):aR:=
 if Au w n≠0 then(w,Au w n)else
 let ls:=Ox n w.lost
 (((((w.CS (w.Bd.set n.toNat Dp)).FH ls).Bm (w.AL.map fun x=>(CC (Ae w) x n).1)).Ct (w.CY.map fun m=>(CK (Ae w) m n).1)).FV (w.I6||holds (Ae w) ls),0)
def UH(w:AA)(n:Int):aR:=
 if !w.lost.contains n then(w,2)else
 let q:=cx (Ae w) w.Bd w.lost n (max ((w.BF.length:Int)-1) 0)
 if !q.2 then(w,4)else((w.CS (w.Bd.set n.toNat q.1)).FH (less w.lost [n]),0)
def UJ(w:AA):aR:=
 if decide ((w.BF.length:Int)<2)||decide (BR w.BF=w.BF.length)then(w,2)else
 if w.CY.length>0 then(w,4)else(w.Ct [r6 (BR w.BF) w.BF.length],0)
def Ti(w:AA)(n:Int):aR:=
 match w.CY with
 |[]=>(w,2)
 |m::ms=>
  if Au w n≠0 then(w,Au w n)else
  if !(Br w.BF m.2.1).contains n then(w,2)else
  let q:=B5 (storeAt w n) (m.1-1)
  let t:=PG (Ae w) m n (Js q.1 m.2.1)
  if !q.2|| !t.2 then(w,4)else((w.CS (w.Bd.set n.toNat q.1)).Ct (t.1::ms),0)
def Tb(w:AA):aR:=
 match w.CY with
 |[]=>(w,2)
 |m::ms=>
  let t:=Ls (Ae w) m (Br w.BF m.2.1)
  if !t.2 then(w,4)else(w.Ct (t.1::ms),0)
def bd(w:AA)(b n:Int):aR:=
 match w.CY with
 |[]=>(w,2)
 |m::ms=>
  match Ea m b with
  |none=>(w,2)
  |some e=>
   if Au w n≠0 then(w,Au w n)else
   if !(Br w.BF m.2.1).contains n then(w,2)else putAt w n (K0 (storeAt w n) e)
def Oj(w:AA):aR:=
 match w.CY with
 |[]=>(w,2)
 |m::ms=>
  if !VU (Ae w) m then(w,5)else
  let q:=Pt (Ae w) (CT w) m.1 m.2.2.2.2.2.1.length
  if !q.2 then(w,4)else((w.I1 q.1).Ct [],0)
def Xi(w:AA)(a:Int):aR:=
 let q:=QG (Ae w) (CT w) a
 if !q.2 then(w,4)else(w.I1 q.1,0)
def answer(w:AA)(p n:Int):BB:=
 match O0 p (storeAt w n).1 with
 |some e=>(n,true,e.1,e.2.1,e.2.2.1,e.2.2.2.1,())
 |none=>(n,false,0,0,false,[],())
def answers(w:AA)(p:Int)(ns:AAA):List BB:=(ns.filter fun n=>Au w n==0).map (answer w p)
def fM(w:AA)(e:Int):Int:=match w.AL.find? (fun x=>x.1==e)with|some x=>dp x.2.1|none=>0
def L6(w:AA)(a k:Int):aR:=
 if !BE a 0 1 then(w,2)else
 let r:=w.Ai.getD a.toNat AR
 let q:=DH (Ae w) (CT w) (fM w r.1) r (answers w (G9 r.1 r.2.1) (BM k))
 if q.2≠0 then(w,5)else(w.C8 (w.Ai.set a.toNat q.1),0)
def VD(w:AA)(a:Int):aR:=
 if !BE a 0 ((w.AL.length:Int)-1)then(w,2)else(w.Bm (w.AL.eraseIdx a.toNat),0)
def Ob(w:AA)(n:Int):aR:=if Au w n≠0 then(w,Au w n)else putAt w n (JQ (storeAt w n) w.trim)
def LO(all:Bool)(w:AA)(d:Al):aR:=
 if d.1=1 then Qk w d.2.1 else
 if d.1=2 then doAdd w d.2.1 d.2.2.2.2.1 else
 if d.1=3 then OL w d.2.1 d.2.2.1 d.2.2.2.1 else
 if d.1=4 then Qi all w d.2.1 else
 if d.1=5 then OT w d.2.1 d.2.2.1 else
 if d.1=6 then Rw w d.2.1 else
 if d.1=7 then UH w d.2.1 else
 if d.1=8 then UJ w else
 if d.1=9 then Ti w d.2.1 else
 if d.1=10 then Tb w else
 if d.1=11 then bd w d.2.2.1 d.2.2.2.1 else
 if d.1=12 then Oj w else
 if d.1=13 then Xi w d.2.1 else
 if d.1=14 then L6 w d.2.1 d.2.2.1 else
 if d.1=15 then VD w d.2.1 else Ob w d.2.1
def Fu(all:Bool)(w:AA)(d:Al):aR:=if !DA w|| !GS d then(AP_,1)else LO all w d
end Go.M
end
section
set_option maxRecDepth 8000
namespace Go.M
open Go.M.H (AA AJ AM AN AU AX AY Ac Af Aj Ak Al Ao Ap Ar Aw Az B4 BB BG BH B_ CE CX Cl Cx DV)
theorem S2{p:Nat->Bool}{n:Nat}:CL p 0 n=true↔ ∀i,i<n->p i=true:=
 ⟨fun h i hi=>M7 h i (by omega) (by omega),fun h=>tX fun j _ hj=>h j (by omega)⟩
theorem Uc{α:Type}{l:List α}{i:Nat}{d:α}(h:i<l.length):l.getD i d=l[i]:=by simp_all
theorem TL{α:Type}{l:List α}{d:α}{P:α->Prop}:(∀i,i<l.length->P (l.getD i d))↔ ∀x∈l,P x:=by
 constructor
 ·intro h x hx
  obtain⟨i,hi,rfl⟩:=AQA hx;simp_all
 simp_all
abbrev XT{α:Type}(f:α->Int)(l:List α):Prop:=l.Pairwise fun a b=>f a<f b
theorem ir{α:Type}{f:α->Int}{l:List α}{d:α}:(∀i,i<l.length->i=0\/f (l.getD (i-1) d)<f (l.getD i d))↔XT f l:=by
 constructor
 ·intro h
  unfold XT;rw[AVV];have key:∀(k i:Nat),i+k+1<l.length->f (l.getD i d)<f (l.getD (i+k+1) d):=by
   intro k
   induction k with
   |zero=>
    grind
   |succ k ih=>
    grind
  intro i j hi hj hij;have:=key (j-i-1) i (by omega);grind
 grind[List.pairwise_iff_getElem,Uc]
theorem An{x a b:Int}:BE x a b=true↔a<=x/\x<=b:=by simp[BE]
theorem AAv{l:AAA}{hi:Int}:ug l hi=true↔(∀x∈l,0<=x/\x<=hi)/\XT id l:=by
 unfold ug;rw[S2,<-TL (d:=(0:Int)) (P:=fun x=>0<=x/\x<=hi),<-ir (d:=(0:Int))];simp only[yR,ALJ,An,AQd,ARL,ALh,id];grind
theorem Eo{c:CQ}{l:AAA}:BC c l=true↔EM c=true/\(∀x∈l,0<=x/\x<c.1.length)/\XT id l:=by
 unfold BC;rw[ALJ,AAv];grind
theorem yq{l:List AJ}:aK l=true↔ ∀e∈l,Fq e=true:=by
 unfold aK;rw[S2];exact TL (P:=fun e=>Fq e=true)
theorem AAl{l:List AJ}:ly l=true↔XT (fun e:AJ=>e.1) l:=by
 unfold ly;rw[S2,<-ir (d:=Dq)];simp_all
structure jU (s:AM):Prop where
 nk:s.1.length<=200
 kept:∀e∈s.1,Fq e=true
 nl:s.2.1.length<=20
 late:∀e∈s.2.1,Fq e=true
 asc:XT (fun e:AJ=>e.1) s.1
 sl:0<=s.2.2.1/\s.2.2.1<=30
theorem Dg{s:AM}:CH s=true↔jU s:=by
 unfold CH;simp only[ALJ,ALh,yq,AAl,An];exact⟨fun⟨⟨a,b⟩,⟨c,d⟩,e,f⟩=>⟨a,b,c,d,e,f⟩,fun h=>⟨⟨h.nk,h.kept⟩,⟨h.nl,h.late⟩,h.asc,h.sl⟩⟩
structure EOk (e:AJ):Prop where
 pl:Av e.1=true
 w0:0<=e.2.1/\e.2.1<=30
 w1:0<e.2.1->Ab e.1<e.2.1
 len:e.2.2.2.1.length<=40
 hole:e.2.2.1=true->0<e.2.1/\e.2.2.2.1=[]
theorem IC{e:AJ}:Fq e=true↔EOk e:=by
 unfold Fq;simp only[ALJ,AQd,ARI,ALh,ARa,An,ARL];constructor
 ·rintro⟨a,b,c,d,e⟩
  refine⟨a,b,fun h=>c.resolve_left fun hn=>hn h,d,fun h=>e.resolve_left fun hn=> ?_⟩;simp_all
 ·intro h
  refine⟨h.pl,h.w0,?_,h.len,?_⟩
  ·by_cases hw:0<e.2.1
   ·exact .inr (h.w1 hw)
   omega
  ·cases hh:e.2.2.1 with
   |false=>simp_all
   |true=>exact .inr (h.hole hh)
structure ve (c:CQ) (m:Az):Prop where
 cfg:EM c=true
 ep:1<=m.2.1/\m.2.1<=30
 b:m.2.1+1<=m.1/\m.1<=30
 sld:BC c m.2.2.1=true
 asc:XT (fun e:AJ=>e.1) m.2.2.2.1
 seen:∀e∈m.2.2.2.1,Fq e=true/\Ab e.1=m.2.1/\e.2.1<m.1
 wrote:∀l∈m.2.2.2.2.2.1,BC c l=true
 n:(m.2.2.2.2.2.1.length:Int)=if m.2.2.2.2.1 then O5 m.2.2.2.1 else 0
theorem He{c:CQ}{m:Az}:HE c m=true↔ve c m:=by
 unfold HE xt sf;simp only[ALJ,An,AAl,S2,xC,ARL,ALh];rw[TL (d:=Dq) (P:=fun e=>Fq e=true/\Ab e.1=m.2.1/\e.2.1<m.1),TL (d:=([]:AAA)) (P:=fun l=>BC c l=true)];have:(m.2.2.2.2.2.1.length:Int)=cond m.2.2.2.2.1 (O5 m.2.2.2.1) 0↔(m.2.2.2.2.2.1.length:Int)=if m.2.2.2.2.1 then O5 m.2.2.2.1 else 0:=by
  grind
 rw[this];exact⟨fun⟨a,b,c,d,e,f,g,h⟩=>⟨a,b,c,d,e,f,g,h⟩,fun h=>⟨h.cfg,h.ep,h.b,h.sld,h.asc,h.seen,h.wrote,h.n⟩⟩
structure ROk (c:CQ) (r:AN):Prop where
 cfg:EM c=true
 n:r.1.length<=30
 trim:r.2.1=0\/(Av r.2.1=true/\Ab r.2.1<=r.1.length)
 BF:∀e∈r.1,holds c e.1=true/\(0<=e.2.2.1/\e.2.2.1<=60)/\(e.2.1=false->e.2.2.1=0)
 down:∀i,i<r.1.length->(r.1.getD i Hp).2.1=true->i+1<r.1.length/\ ∀j,j<i->(r.1.getD j Hp).2.1=true
theorem KU{c:CQ}{r:AN}:Po c r=true↔ROk c r:=by
 unfold Po km;simp only[ALJ,ALh,AQd,ARL,S2,yf,tM,An,ARI,Bool.and_eq_false_iff,Bool.or_eq_false_iff,ARa,AM0];constructor
 ·rintro⟨a,b,c1,d⟩
  refine⟨a,b,c1,(TL (d:=Hp) (P:=fun e=>holds c e.1=true/\(0<=e.2.2.1/\e.2.2.1<=60)/\(e.2.1=false->e.2.2.1=0))).1 fun i hi=> ?_,fun i hi hc=> ?_⟩
  ·grind
  ·have step:∀k,k<r.1.length->(r.1.getD k Hp).2.1=true->k+1<r.1.length/\(0<k->(r.1.getD (k-1) Hp).2.1=true):=fun k hk hkc=>by
    rcases(d k hk).2 with h|⟨h1,h2⟩
    ·simp_all
    ·refine⟨by omega,fun h0=> ?_⟩
     simp_all
   refine⟨(step i hi hc).1,?_⟩;clear hi
   induction i with
   |zero=>omega
   |succ i ih=>
    intro j hj;have Dc:i+1<r.1.length:=by
     rcases Nat.lt_or_ge (i+1) r.1.length with h|h
     ·omega
     ·simp[List.getD,h]at hc
      cases hc
    grind
 ·intro h
  refine⟨h.cfg,h.n,h.trim,fun i hi=>⟨?_,?_⟩⟩
  ·obtain⟨h1,h2,h3⟩:=h.BF _ (BJ (d:=Hp) hi)
   grind
  ·cases hb:(r.1.getD i Hp).2.1 with
   |false=>simp_all
   |true=>
    obtain⟨h1,h2⟩:=h.down i hi hb;grind
structure fK (c:CQ) (w:AU):Prop where
 cfg:EM c=true
 ep:1<=w.1/\w.1<=30
 n:w.2.1.length<=60
 words:∀x∈w.2.1,x.1.length<=40/\BC c x.2.1=true/\x.2.2.1=holds c x.2.1
 opn:Sp w.2.1<=6
theorem Ho{c:CQ}{w:AU}:Fe c w=true↔fK c w:=by
 unfold Fe le6 eX;simp only[ALJ,ALh,An,ARM,ARL];exact⟨fun⟨a,b,c,d,e⟩=>⟨a,b,c,d,e⟩,fun h=>⟨h.cfg,h.ep,h.n,h.words,h.opn⟩⟩
structure AJs (r:Ac):Prop where
 ep:1<=r.1/\r.1<=31
 off:1<=r.2.1/\r.2.1<=61
 n:r.2.2.1.length<=120
theorem VX{r:Ac}:T8 r=true↔AJs r:=by
 unfold T8;simp only[ALJ,ALh,An];exact⟨fun⟨a,b,c⟩=>⟨a,b,by omega⟩,fun h=>⟨h.ep,h.off,by have:=h.n;omega⟩⟩
structure RX (w:AA):Prop where
 cfg:EM (Ae w)=true
 vY:w.Bd.length=w.1.length
 lost:BC (Ae w) w.lost=true
 I6:w.I6=true\/holds (Ae w) w.lost=false
 Bd:∀i,i<w.Bd.length->jU (w.Bd.getD i Dp)/\((i:Int)∈w.lost->w.Bd.getD i Dp=Dp)
 rH:ROk (Ae w) (CT w)
 we:w.AL.length<=4
 nmd:w.CY.length<=1
 AL:∀x∈w.AL,fK (Ae w) x/\x.1<=w.BF.length
 jR:XT (fun x:AU=>x.1) w.AL
 CY:∀m∈w.CY,ve (Ae w) m/\m.1=w.BF.length/\m.2.1=BR w.BF
 tO:w.Ai.length=2
 Ai:∀r∈w.Ai,AJs r
 Ui:w.CI.length<=120
 CI:∀s∈w.CI,Av s.1=true/\Ab s.1<=w.BF.length/\s.2.1.length<=40
 de:XT (fun s:Ak=>s.1) w.CI
theorem JG{w:AA}:DA w=true↔RX w:=by
 unfold DA;simp only[ALJ,ALh,jC,c_,kE,pq,Zn,S2,pK,jI,xu,pn,AQd,ARI,ARL,Dg,KU,Ho,He,VX];have hz:∀s:AM,(s.1.length=0/\s.2.1.length=0/\s.2.2.1=0)↔s=Dp:=fun s=>by
  grind
 simp only[hz];constructor
 ·rintro⟨h1,h2,h3,h4,h5,h6,h7,h8,h9,h10,⟨h11,h12,h13⟩,h14,h15⟩
  refine⟨h1,h2,h3,h4,fun i hi=>⟨(h5 i hi).1,fun hm=>(h5 i hi).2.resolve_left fun hc=> ?_⟩,h6,h7,h8,?_,?_,?_,h11,?_,h14,?_,?_⟩
  ·simp_all
  ·exact(TL (d:=CO) (P:=fun x:AU=>fK (Ae w) x/\x.1<=w.BF.length)).1 fun i hi=>⟨(h9 i hi).1,(h9 i hi).2.1⟩
  ·exact(ir (f:=fun x:AU=>x.1) (d:=CO)).1 fun i hi=>(h9 i hi).2.2
  ·exact(TL (d:=Su) (P:=fun m:Az=>ve (Ae w) m/\m.1=w.BF.length/\m.2.1=BR w.BF)).1 h10
  ·refine(TL (d:=AR) (P:=AJs)).1 fun i hi=> ?_
   rw[h11]at hi;rcases(by omega:i=0\/i=1)with rfl|rfl
   all_goals omega
  ·exact(TL (d:=HP) (P:=fun s:Ak=>Av s.1=true/\Ab s.1<=w.BF.length/\s.2.1.length<=40)).1 fun i hi=>⟨(h15 i hi).1.1,(h15 i hi).1.2,(h15 i hi).2.1⟩
  ·exact(ir (f:=fun s:Ak=>s.1) (d:=HP)).1 fun i hi=>(h15 i hi).2.2
 ·intro h
  refine⟨h.cfg,h.vY,h.lost,h.I6,fun i hi=>⟨(h.Bd i hi).1,?_⟩,h.rH,h.we,h.nmd,fun i hi=> ?_,fun i hi=>h.CY _ (BJ hi),⟨h.tO,h.Ai _ (BJ (by rw[h.tO];omega)),h.Ai _ (BJ (by rw[h.tO];omega))⟩,h.Ui,fun i hi=> ?_⟩
  ·by_cases hm:(i:Int)∈w.lost
   ·exact .inr ((h.Bd i hi).2 hm)
   simp_all
  ·have:=h.AL _ (BJ (d:=CO) hi)
   exact⟨this.1,this.2,(ir (f:=fun x:AU=>x.1) (d:=CO)).2 h.jR i hi⟩
  ·have:=h.CI _ (BJ (d:=HP) hi)
   exact⟨⟨this.1,this.2.1⟩,this.2.2,(ir (f:=fun s:Ak=>s.1) (d:=HP)).2 h.de i hi⟩
theorem uG{x y:Int}:∀{l:AAA},y∈kp x l↔y=x\/y∈l
 |[]=>by simp[kp]
 |z::l=>by
  simp only[kp];split
  ·simp
  ·simp only[ANC,uG (l:=l)]
   grind
theorem AAa{x:Int}:∀{l:AAA},XT id l->x∉l->XT id (kp x l)
 |[],_,_=>by simp[kp,XT]
 |z::l,h,hx=>by
  simp only[XT,APd,id]at h;simp only[ANC,AV2]at hx;simp only[kp];split
  ·rename_i hz
   simp only[XT,APd,ANC,id];grind
  ·rename_i hz
   simp only[XT,APd,id];refine⟨fun a ha=> ?_,AAa h.2 hx.2⟩;rcases uG.1 ha with rfl|ha
   all_goals grind
theorem ABD{x y:Int}{l:AAA}:y∈Ox x l↔y=x\/y∈l:=by
 unfold Ox;split
 ·simp_all
 ·exact uG
theorem AGp{x:Int}{l:AAA}(h:XT id l):XT id (Ox x l):=by
 grind[Ox,AAa]
theorem Mo{c:CQ}{x:Int}{l:AAA}(h:BC c l=true)(hx:0<=x/\x<c.1.length):BC c (Ox x l)=true:=by
 rw[Eo]at h|-;refine⟨h.1,fun y hy=> ?_,AGp h.2.2⟩;rcases ABD.1 hy with rfl|hy
 all_goals simp_all
theorem TN{c:CQ}{l:AAA}(p:Int->Bool)(h:BC c l=true):BC c (l.filter p)=true:=by
 grind[Eo]
theorem vE{x:Int}{l m:AAA}:x∈less l m↔x∈l/\x∉m:=by simp[less]
theorem ij{c:CQ}(h:EM c=true):BC c []=true:=Eo.2 ⟨h,fun _ h=>by simp at h,List.Pairwise.nil⟩
theorem AH3{l m:AAA}(h:l.Nodup)(hs:∀x∈l,x∈m):l.length<=m.length:=by
 induction l generalizing m with
 |nil=>simp
 |cons a l ih=>
  rw[AUT]at h;have ha:=hs a (by simp);have:=ih (m:=m.erase a) h.2 fun x hx=>(List.mem_erase_of_ne (fun e:x=a=>h.1 (by simp_all))).2 (hs x (by simp[hx]))
  grind
theorem ABL{c:AAA}{d:Int}:∀{l acc:AAA},d∈lj c l acc↔d∈acc\/ ∃n∈l,c.getD n.toNat 0=d
 |[],acc=>by simp[lj]
 |n::l,acc=>by
  simp only[lj];rw[ABL (l:=l)];grind
theorem vS{c:AAA}:∀{l acc:AAA},acc.Nodup->(lj c l acc).Nodup
 |[],acc,h=>h
 |n::l,acc,h=>by
  simp only[lj];refine vS ?_
  grind
theorem AAn{c l m:AAA}(h:∀x∈l,x∈m):fP c l<=fP c m:=by
 refine AH3 (vS List.nodup_nil) fun d hd=> ?_
 grind[ABL]
theorem uy{c:CQ}{l m:AAA}(hl:holds c l=true)(hm:BC c m=true)(h:∀x∈l,x∈m):holds c m=true:=by
 simp only[holds,ALJ,ALh]at hl|-;have:=AAn (c:=c.1) h;grind
theorem holds_nil{c:CQ}:holds c []=false:=by
 rw[ARJ];intro h;have hc:=(Eo.1 (Wr h)).1;have:=(F_ hc).2.2.1;simp only[holds,ALJ,ALh,fP,lj]at h;grind
theorem AFx{a b:AJ}(h:a.1=b.1):(better a b).1=b.1:=by grind[better]
theorem gd{e y:AJ}:∀{l:List AJ},y∈keep e l->y=e\/y∈l
 |[],h=>by simpa[keep]using h
 |x::l,h=>by
  simp only[keep]at h;split at h
  ·rcases ANC.1 h with rfl|h
   all_goals grind[better]
  ·split at h
   ·simp_all
   ·rcases ANC.1 h with rfl|h
    ·simp
    ·rcases gd h with h|h<;>simp[h]
theorem AKO{e y:AJ}{l:List AJ}(h:y∈keep e l):y.1=e.1\/ ∃z∈l,z.1=y.1:=by
 rcases gd h with rfl|h
 all_goals grind
theorem Zo{e:AJ}:∀{l:List AJ},(keep e l).length<=l.length+1/\l.length<=(keep e l).length
 |[]=>by simp[keep]
 |x::l=>by
  have:=Zo (e:=e) (l:=l);grind[keep,List.length_cons]
abbrev jQ(l:List AJ):Prop:=XT (fun e:AJ=>e.1) l
theorem hI{e:AJ}:∀{l:List AJ},jQ l->jQ (keep e l)
 |[],_=>by simp[keep,XT]
 |x::l,h=>by
  have h':=h;simp only[XT,APd]at h;simp only[keep];split
  ·rename_i hx
   simp only[jQ,XT,APd];grind[AFx]
  ·split
   ·rename_i hx
    simp only[jQ,XT,APd,ANC];grind
   ·rename_i h1 h2
    simp only[jQ,XT,APd];refine⟨fun a ha=> ?_,hI h.2⟩;grind[AKO]
theorem xd{p:Int}{l:List AJ}{e:AJ}(h:O0 p l=some e):e∈l/\e.1=p:=by
 grind[O0,List.mem_of_find?_eq_some]
theorem p7{e:AJ}:∀{l:List AJ},jQ l->e∈l->O0 e.1 l=some e
 |x::l,h,he=>by
  simp only[XT,APd]at h;unfold O0;rw[AVe];rcases ANC.1 he with rfl|he
  ·simp
  ·have:=h.1 e he
   have aO:(x.1==e.1)=false:=by grind
   rw[aO];exact p7 h.2 he
theorem gu{y:AJ}:∀{l k:List AJ},y∈EF k l->y∈k\/y∈l
 |[],k,h=> .inl h
 |e::l,k,h=>by
  rcases gu (l:=l) h with h|h
  ·rcases gd h with rfl|h
   all_goals simp_all
  simp_all
theorem iP:∀{l k:List AJ},jQ k->jQ (EF k l)
 |[],k,h=>h
 |e::l,k,h=>iP (l:=l) (hI h)
theorem gh{k:Int}{y:AJ}:∀{l:List AJ} {i:Nat},y∈NN k i l->y∈l
 |[],_,h=>h
 |e::l,i,h=>by
  simp only[NN]at h;split at h
  ·rcases ANC.1 h with rfl|h
   ·simp
   ·simp[gh h]
  ·simp[gh h]
theorem Nv{e o:Int}(he:1<=e/\e<=30)(ho:1<=o/\o<=60):Av (G9 e o)=true/\Ab (G9 e o)=e/\Bt (G9 e o)=o:=by
 have h1:TO (G9 e o)=e:=by
  grind[TO,G9,Int.tdiv_eq_ediv_of_nonneg]
 have h2:(G9 e o).tmod 4294967296=o:=by
  grind[G9,Int.tmod_eq_emod_of_nonneg]
 have h3:Av (G9 e o)=true:=by
  unfold Av;rw[h1,h2,ALJ,An,An];omega
 exact⟨h3,by unfold Ab;simp_all,by unfold Bt;simp_all⟩
theorem GM{p:Int}(h:Av p=true):(1<=Ab p/\Ab p<=30)/\(1<=Bt p/\Bt p<=60)/\G9 (Ab p) (Bt p)=p:=by
 have h0:=iC h;have h1:=h;unfold Av at h1;rw[ALJ,An,An]at h1;have e1:Ab p=TO p:=by unfold Ab;rw[AJe h]
 grind[Bt,G9,TO,Int.tdiv_eq_ediv_of_nonneg,Int.tmod_eq_emod_of_nonneg]
theorem jU.nil:jU Dp:=⟨by simp,by simp,by simp,by simp,List.Pairwise.nil,by simp⟩
theorem qT{s:AM}{e:AJ}(h:(K0 s e).2=true):jU (K0 s e).1/\(K0 s e).1=(s.1,s.2.1++[e],s.2.2.1,())/\Fq e=true/\takes s e=true:=by
 unfold K0 at*;split at h
 ·cases h
 rename_i hs;rw[AJk hs];simp only[AMv,AM0]at hs;rw[Dg]at hs;split at h
 case isFalse=>cases h
 rename_i h1;rw[AJe h1];simp only[ALJ,ALh]at h1;obtain⟨he,ht,hl⟩:=h1;refine⟨⟨hs.nk,hs.kept,?_,fun x hx=> ?_,hs.asc,hs.sl⟩,rfl,he,ht⟩
 ·have:=hs.nl
  grind
 ·simp only[AMt,ASP]at hx
  rcases hx with hx|rfl
  ·exact hs.late x hx
  omega
theorem Q0{s:AM}{k:Int}(h:(GB s k).2=true):jU s/\jU (GB s k).1/\(GB s k).1=(EF s.1 (NN k 0 s.2.1),[],s.2.2.1,()):=by
 unfold GB at*;split at h
 ·cases h
 rename_i hs;rw[AJk hs];simp only[AMv,AM0]at hs;rw[Dg]at hs;simp only at h|-;split at h
 case isFalse=>cases h
 rename_i h1;rw[AJe h1];simp only[ALJ,ALh]at h1;refine⟨hs,⟨h1.2,fun e he=> ?_,by simp,by simp,iP hs.asc,hs.sl⟩,rfl⟩;rcases gu he with he|he
 ·exact hs.kept e he
 ·exact hs.late e (gh he)
theorem mX{s:AM}{u:Int}(h:(B5 s u).2=true):jU s/\jU (B5 s u).1/\(B5 s u).1=(EF s.1 (NN 1048575 0 s.2.1),[],max s.2.2.1 u,())/\0<=u/\u<=30:=by
 unfold B5 at*;split at h
 ·cases h
 rename_i hs;rw[AJk hs];simp only[AMv,AM0]at hs;simp only at h|-;split at h
 case isFalse=>cases h
 rename_i h1;rw[AJe h1];simp only[ALJ,An]at h1;obtain⟨k1,k2,k3⟩:=Q0 h1.1;have lF:(Cw s).1=_:=k3;rw[lF];refine⟨k1,⟨?_,?_,by simp,by simp,iP k1.asc,?_⟩,rfl,h1.2⟩
 ·have:=k2.nk;simp_all
 ·have:=k2.kept;simp_all
 ·have:=k1.sl
  grind
theorem yi{s:AM}{u:Int}(h:(JQ s u).2=true):jU s/\jU (JQ s u).1/\(JQ s u).1=(s.1.filter fun e=>decide (e.1>u),s.2.1,s.2.2.1,()):=by
 unfold JQ at*;split at h
 ·cases h
 rename_i hs;rw[AJk hs];simp only[AMv,AM0]at hs;rw[Dg]at hs;split at h
 case isFalse=>cases h
 rename_i h1;rw[AJe h1];refine⟨hs,⟨APp (AP5 _ _) hs.nk,fun e he=>hs.kept e (AUl.1 he).1,hs.nl,hs.late,hs.asc.filter _,hs.sl⟩,rfl⟩
theorem AIC{c:CQ}{ss:List AM}{lost:AAA}{n u:Int}(h:(cx c ss lost n u).2=true):
  jU (cx c ss lost n u).1/\(cx c ss lost n u).1=(Gt [] (others lost 0 ss),[],u,())/\holds c lost=false/\ ∀s∈others lost 0 ss,jU s:=by
 unfold cx at*;simp only at h|-;split at h
 case isFalse=>cases h
 rename_i h1;rw[AJe h1];simp only[ALJ,ALh,ARI,ARM]at h1;obtain⟨_,_,_,h2,_,h3,h4⟩:=h1;exact⟨Dg.1 h4,rfl,h2,fun s hs=>Dg.1 (h3 s hs)⟩
theorem iU{l:List Cx}:∀{d i:Nat},i+d=l.length->(ZI l i d=0/\ ∀j,i<=j->j<l.length->(l.getD j Hp).2.1=true)\/
  ∃k,i<=k/\k<l.length/\ZI l i d=(k:Int)+1/\(l.getD k Hp).2.1=false/\ ∀j,i<=j->j<k->(l.getD j Hp).2.1=true
 |0,i,h=> .inl ⟨rfl,fun j h1 h2=>by omega⟩
 |d+1,i,h=>by
  simp only[ZI];cases hb:(l.getD i ([],false,0,())).2.1 with
  |false=>grind
  |true=>
   simp only[ALR,AKp];rcases iU (l:=l) (d:=d) (i:=i+1) (by omega)with⟨h1,h2⟩|⟨k,h1,h2,h3,h4,h5⟩
   all_goals grind
theorem S_{c:CQ}{r:AN}(h:ROk c r)(hl:0<r.1.length):∃k,k<r.1.length/\BR r.1=(k:Int)+1/\(r.1.getD k Hp).2.1=false/\ ∀j,j<k->(r.1.getD j Hp).2.1=true:=by
 rcases iU (l:=r.1) (d:=r.1.length) (i:=0) (by omega)with⟨h1,h2⟩|⟨k,h1,h2,h3,h4,h5⟩
 ·have:=(h.down (r.1.length-1) (by omega) (h2 _ (by omega) (by omega))).1
  omega
 ·exact⟨k,h2,h3,h4,fun j hj=>h5 j (by omega) hj⟩
theorem ACD{c:CQ}{r:AN}{ns:AAA}(h:(JA c r ns).2.2=true):ROk c r/\ROk c (JA c r ns).1/\(JA c r ns).1=(r.1++[(ns,false,0,())],r.2.1,())/\(JA c r ns).2.1=(r.1.length:Int)+1/\holds c ns=true/\r.1.length<30:=by
 unfold JA at*;split at h
 ·cases h
 rename_i hs;rw[AJk hs];simp only[AMv,AM0]at hs;rw[KU]at hs;split at h
 case isFalse=>cases h
 rename_i h1;rw[AJe h1];simp only[ALJ,ALh]at h1;have hn:=hs.n;refine⟨hs,⟨hs.cfg,?_,?_,fun e he=> ?_,fun i hi hc=> ?_⟩,rfl,rfl,h1.1,by omega⟩
 ·grind
 ·rcases hs.trim with h2|⟨h2,h3⟩
  all_goals grind
 ·simp only[AMt,ASP]at he
  rcases he with he|rfl
  ·exact hs.BF e he
  simp_all
 ·simp only[AMf,AMK,APb]at hi
  have get:∀j,j<r.1.length->(r.1++[(ns,false,0,())]).getD j Hp=r.1.getD j Hp:=fun j hj=>by
   grind
  by_cases hl:i<r.1.length
  ·rw[get i hl]at hc
   obtain⟨h2,h3⟩:=hs.down i hl hc;grind
  simp_all
theorem ed{l:List Cx}{i j:Nat}{last:Int}(hi:i<l.length):(Pv l i last).getD j Hp=if i=j then((l.getD i Hp).1,true,last,())else l.getD j Hp:=by
 grind[Pv]
theorem ABU{c:CQ}{r:AN}{b last:Int}(h:(Pt c r b last).2=true):ROk c r/\ROk c (Pt c r b last).1/\
  ∃k,k<r.1.length/\BR r.1=(k:Int)+1/\k+1<r.1.length/\b=r.1.length/\(0<=last/\last<=60)/\(Pt c r b last).1=(Pv r.1 k last,r.2.1,())/\(r.1.getD k Hp).2.1=false/\ ∀j,j<k->(r.1.getD j Hp).2.1=true:=by
 unfold Pt at*;split at h
 ·cases h
 rename_i hs;rw[AJk hs];simp only[AMv,AM0]at hs;rw[KU]at hs;split at h
 case isFalse=>cases h
 rename_i h1;rw[AJe h1];simp only[ALJ,ALh,An]at h1;obtain⟨hb,h0,aO,AAq⟩:=h1;have hl:0<r.1.length:=by
  rcases AVf r.1.length with hz|hz
  ·exfalso
   apply h0;unfold BR;rw[hz];rfl
  omega
 obtain⟨k,k1,k2,k3,k4⟩:=S_ hs hl;have hk:(BR r.1-1).toNat=k:=by omega
 rw[hk];have hlen:(Pv r.1 k last).length=r.1.length:=by simp[Pv]
 refine⟨hs,⟨hs.cfg,by rw[hlen];exact hs.n,?_,fun e he=> ?_,fun i hi hc=> ?_⟩,k,k1,k2,by omega,hb,AAq,rfl,k3,k4⟩
 ·simp only[hlen];exact hs.trim
 ·unfold Pv at he
  rcases ARW he with he|rfl
  ·exact hs.BF e he
  ·exact⟨(hs.BF _ (BJ k1)).1,AAq,fun hf=>by cases hf⟩
 ·simp only[hlen]at hi|-
  rw[ed k1]at hc;by_cases hik:k=i
  ·subst hik
   refine⟨by omega,fun j hj=> ?_⟩;rw[ed k1,AJk (by omega)];simp_all
  ·rw[AJk hik]at hc
   obtain⟨h2,h3⟩:=hs.down i hi hc;grind[ed]
theorem AB_{c:CQ}{r:AN}{p:Int}(h:(QG c r p).2=true):ROk c r/\ROk c (QG c r p).1/\(QG c r p).1=(r.1,max r.2.1 p,()):=by
 unfold QG at*;split at h
 ·cases h
 rename_i hs;rw[AJk hs];simp only[AMv,AM0]at hs;rw[KU]at hs;split at h
 case isFalse=>cases h
 rename_i h1;rw[AJe h1];simp only[ALJ,ALh]at h1;refine⟨hs,⟨hs.cfg,hs.n,?_,hs.BF,hs.down⟩,rfl⟩;simp only;have hp:=(iC h1.1).1;by_cases hm:r.2.1<=p
 ·grind
 ·rw[show max r.2.1 p=r.2.1 by omega]
  exact hs.trim
theorem YN{c:CQ}{w:AU}{d:ABF}(h:(CR c w d).2.2=true):fK c w/\fK c (CR c w d).1/\(CR c w d).1=(w.1,w.2.1++[(d,[],false,())],())/\(CR c w d).2.1=(w.2.1.length:Int)+1:=by
 unfold CR at*;split at h
 ·cases h
 rename_i hs;rw[AJk hs];simp only[AMv,AM0]at hs;rw[Ho]at hs;split at h
 case isFalse=>cases h
 rename_i h1;rw[AJe h1];exact⟨hs,Ho.1 h1,rfl,rfl⟩
theorem eW{c:CQ}{s:AM}{ep n:Int}(hn:0<=n/\n<c.1.length):∀{l:List BH} {o:Int},(∀x∈l,x.1.length<=40/\BC c x.2.1=true/\x.2.2.1=holds c x.2.1)->
  (∀x∈BQ c s ep n o l,x.1.length<=40/\BC c x.2.1=true/\x.2.2.1=holds c x.2.1)/\Sp (BQ c s ep n o l)<=Sp l/\(BQ c s ep n o l).length=l.length
 |[],o,h=>by simp[BQ]
 |x::l,o,h=>by
  obtain⟨h1,h2,h3⟩:=eW (s:=s) (ep:=ep) hn (l:=l) (o:=o+1) fun y hy=>h y (by simp[hy])
  have hx:=h x (by simp);simp only[BQ,ANC,AMK,Sp];split
  ·rename_i hd
   simp only[ALJ,ARI]at hd;refine⟨?_,?_,by omega⟩
   ·rintro y (rfl|hy)
    ·exact⟨hx.1,Mo hx.2.1 hn,rfl⟩
    grind
   grind
  grind
theorem wv{c:CQ}{n:Int}:∀{l:List BH},(∀x∈l,x.1.length<=40/\BC c x.2.1=true/\x.2.2.1=holds c x.2.1)->
  (∀x∈l.map (Et n),x.1.length<=40/\BC c x.2.1=true/\x.2.2.1=holds c x.2.1)/\Sp (l.map (Et n))=Sp l
 |[],h=>by simp
 |x::l,h=>by
  obtain⟨h1,h2⟩:=wv (n:=n) (l:=l) fun y hy=>h y (by simp[hy])
  have hx:=h x (by simp);simp only[ARZ,ANC,Sp,h2,Et,AQ6]
  rintro y (rfl|hy)
  ·refine⟨hx.1,?_,?_⟩
   ·simp only
    split
    ·simp_all
    ·exact TN _ hx.2.1
   ·simp only
    split
    ·simp_all
    ·rename_i hd
     simp only[AMv]at hd;rw[hd]
     symm
     rw[ARJ];grind[uy,vE]
  grind
theorem gL{c:CQ}{w:AU}{n:Int}(h:fK c w):fK c (CC c w n).1/\(CC c w n).1=(w.1,w.2.1.map (Et n),()):=by
 unfold CC;rw[Ho.2 h];obtain⟨h1,h2⟩:=wv (n:=n) h.words;exact⟨⟨h.cfg,h.ep,by simpa using h.n,h1,by simp only[ALR];exact h2▸h.opn⟩,rfl⟩
theorem Hs{l:List AJ}:0<=O5 l/\O5 l<=60:=by
 unfold O5;cases l.length==0 with
 |true=>simp
 |false=>
  simp only[AKp];rcases AJd (Av (l.getD (l.length-1) Dq).1)with h|h
  ·have:=(GM h).2.1;omega
  grind[Bt]
theorem z6{c:CQ}{m:Az}{n:Int}{l:List AJ}(h:(PG c m n l).2=true):ve c m/\ve c (PG c m n l).1/\m.2.2.2.2.1=false/\
  (PG c m n l).1=(m.1,m.2.1,Ox n m.2.2.1,EF m.2.2.2.1 (l.filter fun e=>Ab e.1==m.2.1),m.2.2.2.2.1,m.2.2.2.2.2.1,()):=by
 unfold PG at*;split at h
 ·cases h
 rename_i hs;rw[AJk hs];simp only[AMv,AM0]at hs;rw[He]at hs;simp only at h|-;split at h
 case isFalse=>cases h
 rename_i h1;rw[AJe h1];simp only[ALJ,ARI]at h1;exact⟨hs,He.1 h1.2,h1.1,rfl⟩
theorem AAV{c:CQ}{m:Az}{s:AAA}(h:(Ls c m s).2=true):ve c m/\ve c (Ls c m s).1/\m.2.2.2.2.1=false/\SW c s (m.2.2.1.filter s.contains)=true/\
  (Ls c m s).1=(m.1,m.2.1,m.2.2.1,m.2.2.2.1,true,List.replicate (O5 m.2.2.2.1).toNat [],()):=by
 unfold Ls at*;split at h
 ·cases h
 rename_i hs;rw[AJk hs];simp only[AMv,AM0]at hs;rw[He]at hs;split at h
 case isFalse=>cases h
 rename_i h1;rw[AJe h1];simp only[ALJ,ARI]at h1;refine⟨hs,⟨hs.cfg,hs.ep,hs.b,hs.sld,hs.asc,hs.seen,fun l hl=> ?_,?_⟩,h1.1,h1.2,rfl⟩
 ·simp only at hl
  rw[ARD hl];exact ij hs.cfg
 ·simp only[AUS,AQY]
  have:=(Hs (l:=m.2.2.2.1)).1;omega
theorem lV{c:CQ}{m:Az}{s:AM}{n:Int}(hn:0<=n/\n<c.1.length):∀{l:List AAA} {o:Int},(∀x∈l,BC c x=true)->
  (∀x∈Fa m s n o l,BC c x=true)/\(Fa m s n o l).length=l.length
 |[],o,h=>by simp[Fa]
 |x::l,o,h=>by
  obtain⟨h1,h2⟩:=lV (m:=m) (s:=s) hn (l:=l) (o:=o+1) fun y hy=>h y (by simp[hy])
  have hx:=h x (by simp);simp only[Fa,ANC,AMK,h2,AQ6]
  rintro y (rfl|hy)
  all_goals grind[Mo]
theorem AIu{c:CQ}{s:AM}{l:List Cx}{n:Int}{m:Az}(hn:0<=n/\n<c.1.length)(h:ve c m):ve c (Mf s l n m):=by
 unfold Mf;split
 ·obtain⟨h1,h2⟩:=lV (m:=m) (s:=s) hn (o:=1) h.wrote
  exact⟨h.cfg,h.ep,h.b,h.sld,h.asc,h.seen,h1,by simp only[h2];exact h.n⟩
 omega
theorem wD{c:CQ}{m:Az}{n:Int}(h:ve c m):ve c (CK c m n).1/\(CK c m n).1=(m.1,m.2.1,m.2.2.1,m.2.2.2.1,m.2.2.2.2.1,m.2.2.2.2.2.1.map fun l=>less l [n],()):=by
 unfold CK;rw[He.2 h];refine⟨⟨h.cfg,h.ep,h.b,h.sld,h.asc,h.seen,fun l hl=> ?_,?_⟩,rfl⟩
 ·simp only[ALR,ALY,ANX,ARG]at hl
  obtain⟨l',h1,rfl⟩:=hl;exact TN _ (h.wrote l' h1)
 ·simp only[ALR,ALY,ANX,ARf]
  exact h.n
theorem wP{c:CQ}{g:AN}{sure:Int}{r:Ac}{l:List BB}(h:(DH c g sure r l).2=0):AJs (DH c g sure r l).1:=by
 unfold DH at*;split at h
 ·omega
 rename_i hs;rw[AJk hs];simp only[AMv,AM0,ALJ,KU,VX]at hs;obtain⟨hg,hr,_⟩:=hs;have r1:=hr.ep;have r2:=hr.off;have r3:=hr.n;split at h
 ·omega
 rename_i h1;rw[AJk h1];simp only[AQd,ALh,AV2]at h1;have hn:=hg.n;simp only at h|-;split at h
 ·rename_i h2
  rw[AJe h2];have hp:Av g.2.1=true:=by
   rcases hg.trim with ht|ht
   all_goals grind[G9]
  obtain⟨a1,a2,_⟩:=GM hp;exact⟨by grind,by grind,by grind⟩
 ·rename_i h2
  rw[AJk h2];split at h
  ·rename_i h3
   rw[AJe h3];exact⟨by grind,by simp_all,by simp_all;omega⟩
  ·rename_i h3
   rw[AJk h3];split at h
   ·omega
   rename_i h4;rw[AJk h4];simp only[AQd,ALh,AV2]at h4;split at h
   ·omega
   rename_i h5;rw[AJk h5];exact⟨by omega,by grind,by simp_all;omega⟩
theorem AD{α β:Type}(a:α)(f:α->Option β):(some a).bind f=f a:=rfl
theorem Xl{l:AAA}{x:Int}(hl:l.length<=2^30):∀(n i:Nat) (b:AAA),i<=l.length->l.length-i<n->b.length<=2*i+1->
  LF n l x true i b=some (((),()),(b++l.drop i,()))
 |0,i,b,_,h,_=>by omega
 |n+1,i,b,hi,h,hb=>by
  simp only[LF,Vt,AB,ALR,AKp];by_cases hc:i<l.length
  ·have c1:(0:Int)<=(i:Int)/\(i:Int)<(l.length:Int):=by omega
   have c2:b.length+1<=CN:=by rw[Am];omega
   rw[AJe c1.2,AJe c1,AJe c2,AG (by omega) (by omega),show((i:Int)+1)=((i+1:Nat):Int)by omega,Ah hc,drop_cons hc,Xl hl n (i+1) _ (by omega) (by omega) (by grind)];simp
  grind
theorem dD{l:AAA}{x:Int}(hl:l.length<=2^30):∀(n i:Nat) (b:AAA),i<=l.length->l.length-i<n->b.length<=i->
  LF n l x false i b=some (((),()),(b++kp x (l.drop i),()))
 |0,i,b,_,h,_=>by omega
 |n+1,i,b,hi,h,hb=>by
  simp only[LF,Vt,AB,AOP,ALg];have c2:b.length+1<=CN:=by rw[Am];omega
  by_cases hc:i<l.length
  ·have c1:(0:Int)<=(i:Int)/\(i:Int)<(l.length:Int):=by omega
   have c3:(b++[x]).length+1<=CN:=by grind[Am]
   rw[AJe c1.2];simp only[AJe c1,AJe c2,AJe c3];rw[AG (by omega) (by omega),show((i:Int)+1)=((i+1:Nat):Int)by omega,Ah hc,drop_cons hc];simp only[kp];by_cases hx:l[i]>x
   ·rw[AJe hx,AJe (by omega),Xl hl n (i+1) _ (by omega) (by omega) (by grind)]
    simp
   ·rw[AJk hx,AJk (by omega),dD hl n (i+1) _ (by omega) (by omega) (by simp_all)]
    simp
  ·rw[AJk (by omega),AJe c2,ALm (by omega)]
   rfl
theorem Nk{l:AAA}{x:Int}(hl:l.length<=2^30):Mq l x=some (((),()),(Ox x l,())):=by
 unfold Mq ct Ox;rw[K5 (by omega)];simp only[AD];rcases AJd (l.contains x)with h|h
 ·rw[h,AJe rfl]
  grind[Xl,AW,Aa]
 ·rw[h,AJk (by simp)]
  grind[dD,AW,Aa]
theorem bz{l m:AAA}(hl:l.length<=2^30)(hm:m.length<=2^30):∀(n i:Nat) (b:AAA),i<=l.length->l.length-i<n->b.length<=i->
  PL n l m i b=some (((),()),(b++less (l.drop i) m,()))
 |0,i,b,_,h,_=>by omega
 |n+1,i,b,hi,h,hb=>by
  simp only[PL,aW,AB];have c2:b.length+1<=CN:=by rw[Am];omega
  by_cases hc:i<l.length
  ·have c1:(0:Int)<=(i:Int)/\(i:Int)<(l.length:Int):=by omega
   rw[AJe c1.2];simp only[AJe c1,AJe c2];rw[AG (by omega) (by omega),show((i:Int)+1)=((i+1:Nat):Int)by omega,Ah hc,drop_cons hc,K5 (by omega)];simp only[AD,less,AQ9];cases hx:m.contains l[i]with
   |true=>
    simp only[ALR,AKp,ALY,ANX];exact bz hl hm n (i+1) _ (by omega) (by omega) (by omega)
   |false=>
    simp only[AOP,ALg,AQY];rw[bz hl hm n (i+1) _ (by omega) (by omega) (by simp_all)];simp[less]
  ·rw[AJk (by omega),ALm (by omega)]
   simp[less]
theorem KF{l m:AAA}(hl:l.length<=2^30)(hm:m.length<=2^30):JF l m=some (((),()),(less l m,())):=by
 grind[JF,aw,bz,AW,Aa]
theorem Nb{e o:Int}(he: -1000<=e/\e<=1000)(ho: -1000<=o/\o<=1000):Dh e o=some ((G9 e o,()),()):=by
 grind[Dh,G9,AG]
theorem aa{e o:Int}:Ps e o=some (((D_ e o,BE e 1 30&&BE o 1 60,()),()),()):=by
 unfold Ps D_;rw[Bc,Bc];simp only[AD];rcases AJd (BE e 1 30)with he|he
 ·rcases AJd (BE o 1 60)with ho|ho
  ·have h1:=An.1 he
   have h2:=An.1 ho;rw[he,ho,AG (x:=4294967296*e) (by omega) (by omega),AG (by omega) (by omega)];rfl
  simp_all
 simp_all
theorem LK{a b:Int}:Mm a b=some ((max a b,()),()):=by
 unfold Mm;grind
theorem Qy{a b:Int}:NO a b=some ((min a b,()),()):=by
 unfold NO;grind
def qX(q:AM×Bool):AFH×(List AJ×List AJ×Unit):=(((((),(),q.1.2.2.1,()),q.2,()),()),(q.1.1,q.1.2.1,()))
theorem Oz{s:AM}(h1:s.1.length<=2^30)(h2:s.2.1.length<=2^30):Eg s=some ((((),(),s.2.2.1,()),()),(s.1,s.2.1,())):=by
 unfold Eg;rw[AJe (by rw[Am];omega),AJe (by rw[Am];omega)]
theorem qz{s:AM}{e:AJ}(he:Bp e.1):Yi s e=some ((takes s e,()),()):=by
 unfold Yi takes;rw[EA he];grind
theorem ZG{a b:AJ}:Se a b=some ((better a b,()),()):=by
 unfold Se better;grind
theorem GA{s:AM}(h:H.Aj s<=2^30):s.1.length<=2^30/\s.2.1.length<=2^30:=by
 grind[H.AX,H.Ap,H.Aj]
theorem cu{s:AM}{e:AJ}(hw:H.Aj s<=2^30)(hs:vf s)(he:Bp e.1):Q8 s e=some (qX (K0 s e)):=by
 obtain⟨l1,l2⟩:=GA hw;unfold Q8 K0;rw[Oy s,gS e,Fy hw hs,Oz l1 l2,Rq he,qz he];simp only[AD];rcases AJd (CH s)with h|h
 rotate_left
 ·rw[h];rfl
 rw[h];simp only[ALR,AKp,ALY,ANX];cases Fq e with
 |false=>rfl
 |true=>
  cases takes s e with
  |false=>rfl
  |true=>
   simp only[ALR,AKp,ALl];by_cases h20:s.2.1.length=20
   ·rw[show((s.2.1.length:Int)==20)=true by simp[h20],show decide (s.2.1.length≠20)=false by simp[h20]]
    rfl
   ·rw[show((s.2.1.length:Int)==20)=false by grind,show decide (s.2.1.length≠20)=true by simp[h20],AKp,AJe (by rw[Am];omega)]
    rfl
theorem VG{l:List AJ}{e:AJ}(hl:l.length<=2^30):∀(n i:Nat) (b:List AJ),i<=l.length->l.length-i<n->b.length<=2*i+1->
  J7 n l true i e.1 e.2.1 e.2.2.1 e.2.2.2.1 b=some (((),()),(b++l.drop i,()))
 |0,i,b,_,h,_=>by omega
 |n+1,i,b,hi,h,hb=>by
  simp only[J7,Tc,AB,ALR,AKp];by_cases hc:i<l.length
  ·have c1:(0:Int)<=(i:Int)/\(i:Int)<(l.length:Int):=by omega
   have c2:b.length+1<=CN:=by rw[Am];omega
   rw[AJe c1.2,AJe c1,AJe c2,AG (by omega) (by omega),show((i:Int)+1)=((i+1:Nat):Int)by omega,Ah hc,drop_cons hc,VG hl n (i+1) _ (by omega) (by omega) (by grind),AL3];rfl
  grind
theorem bX{l:List AJ}{e:AJ}(hl:l.length<=2^30):∀(n i:Nat) (b:List AJ),i<=l.length->l.length-i<n->b.length<=i->
  J7 n l false i e.1 e.2.1 e.2.2.1 e.2.2.2.1 b=some (((),()),(b++keep e (l.drop i),()))
 |0,i,b,_,h,_=>by omega
 |n+1,i,b,hi,h,hb=>by
  simp only[J7,Tc,AB,AOP,ALg];have c2:b.length+1<=CN:=by rw[Am];omega
  by_cases hc:i<l.length
  ·have c1:(0:Int)<=(i:Int)/\(i:Int)<(l.length:Int):=by omega
   have c3:(b++[(e.1,e.2.1,e.2.2.1,e.2.2.2.1,())]).length+1<=CN:=by grind[Am]
   rw[AJe c1.2];simp only[AJe c1,AJe c2,AJe c3];rw[AG (by omega) (by omega),show((i:Int)+1)=((i+1:Nat):Int)by omega,Ah hc,drop_cons hc];rw[gS (l[i]),gS e,ZG];simp only[AD,keep];by_cases hx:l[i].1=e.1
   ·rw[show(l[i].1==e.1)=true by simp_all,AJe hx,ALg,show((better l[i] e).1,(better l[i] e).2.1,(better l[i] e).2.2.1,(better l[i] e).2.2.2.1,())=better l[i] e from rfl,VG hl n (i+1) _ (by omega) (by omega) (by grind)]
    simp
   ·rw[show(l[i].1==e.1)=false by simp_all,AJk hx,AKp]
    by_cases hg:l[i].1>e.1
    ·rw[AJe hg,AJe hg,VG hl n (i+1) _ (by omega) (by omega) (by grind)]
     simp
    ·rw[AJk hg,AJk hg,bX hl n (i+1) _ (by omega) (by omega) (by simp_all)]
     simp
  ·rw[AJk (by omega),AJe c2,ALm (by omega)]
   rfl
theorem ZH{l:List AJ}{e:AJ}(hl:l.length<=2^30):S3 l e=some (((),()),(keep e l,())):=by
 grind[S3,bH,bX,AW,Aa]
theorem V_{l:List AJ}{p:Int}(hl:l.length<=2^30):Hd l p=some ((((O0 p l).getD Dq,(O0 p l).isSome,()),()),()):=by
 have key:∀(n i:Nat),i<=l.length->l.length-i<n->RI n l p i 0 0 false []=some ((((O0 p (l.drop i)).getD Dq,(O0 p (l.drop i)).isSome,()),()),()):=by
  intro n
  induction n with
  |zero=>omega
  |succ n ih=>
   intro i hi h;simp only[RI,dK,AB];by_cases hc:i<l.length
   ·have c1:(0:Int)<=(i:Int)/\(i:Int)<(l.length:Int):=by omega
    rw[AJe c1.2];simp only[AJe c1];rw[AG (by omega) (by omega),show((i:Int)+1)=((i+1:Nat):Int)by omega,Ah hc,drop_cons hc,ih (i+1) (by omega) (by omega)];simp only[O0,AVe];cases l[i].1==p<;>rfl
   ·rw[AJk (by omega),ALm (by omega)]
    rfl
 grind[Hd,dq,AW,Aa]
theorem yc{k:Int}{i:Nat}(hk:0<=k/\k<2^63)(hi:i<=63):(gU .i64 (k.fdiv (2^(min i 64))) 1==1)=decide ((k/2^i)%2=1):=by
 obtain⟨m,rfl⟩:∃m:Nat,k=m:=⟨k.toNat,by omega⟩;rw[show min i 64=i by omega];have h1:(m:Int).fdiv (2^i)=((m/2^i:Nat):Int):=by
  grind
 have h2:(m:Int)/2^i=((m/2^i:Nat):Int):=by norm_cast
 have h3:m/2^i<2^63:=Nat.lt_of_le_of_lt (Nat.div_le_self _ _) (by omega);rw[h1,h2,show(1:Int)=((1:Nat):Int)from rfl,AIO h3 (by omega),Nat.and_one_is_mod];rfl
def AA0(p:Nat->Bool):Nat->List AJ->List AJ
 |_,[]=>[]
 |i,e::l=>if p i then e::AA0 p (i+1) l else AA0 p (i+1) l
theorem xR{k:Int}(hk:0<=k/\k<2^63):∀{l:List AJ} {i:Nat},i+l.length<=60->AA0 (fun i=>gU .i64 (k.fdiv (2^(min i 64))) 1==1) i l=NN k i l
 |[],i,_=>rfl
 |e::l,i,h=>by
  simp only[AMK]at h;have ih:=xR hk (l:=l) (i:=i+1) (by omega);have AFv:=yc hk (i:=i) (by omega);simp only[AA0,NN];simp_all
theorem bO{s:AM}{k:Int}(h1:s.1.length<=200)(h2:s.2.1.length<=20):∀(n i:Nat) (b:List AJ),i<=s.2.1.length->s.2.1.length-i<n->b.length<=200+i->
  Jw n k i s.1 s.2.1 s.2.2.1 0 [] [] s.2.2.1 b []=
   some (qX (if BE k 0 1048575&&decide ((EF b (AA0 (fun i=>gU .i64 (k.fdiv (2^(min i 64))) 1==1) i (s.2.1.drop i))).length<=200)then((EF b (AA0 (fun i=>gU .i64 (k.fdiv (2^(min i 64))) 1==1) i (s.2.1.drop i)),[],s.2.2.1,()),true)else(s,false)))
 |0,i,b,_,h,_=>by omega
 |n+1,i,b,hi,h,hb=>by
  simp only[Jw,U2,AB];by_cases hc:i<s.2.1.length
  ·have c1:(0:Int)<=(i:Int)/\(i:Int)<(s.2.1.length:Int):=by omega
   have ih:=fun b hb=>bO (k:=k) h1 h2 n (i+1) b (by omega) (by omega) hb
   rw[AJe c1.2,AJk (by omega)];simp only[AJe c1];rw[AG (by omega) (by omega),show((i:Int)+1)=((i+1:Nat):Int)by omega,Ah hc,drop_cons hc,ALN];rw[gS (s.2.1[i]),ZH (by omega)];simp only[AD,AA0];have kl:=Zo (e:=s.2.1[i]) (l:=b);rcases AJd (gU .i64 (k.fdiv (2^(min i 64))) 1==1)with hb|hb
   ·simp only[hb,ALg,AQY,EF]
    grind
   grind
  ·rw[AJk (by omega),ALm (by omega),Bc,Oy s,Oz (by omega) (by omega)]
   simp only[AD,AA0,EF];cases BE k 0 1048575 with
   |false=>rfl
   |true=>
    simp only[ALR,AKp,ALl];by_cases h200:b.length<=200
    ·rw[AJk (by omega),AM_ h200];rfl
    ·rw[AJe (by omega),AQK h200];rfl
theorem Zr{s:AM}{k:Int}(hw:Aj s<=2^30)(hs:vf s):NT s k=some (qX (GB s k)):=by
 obtain⟨l1,l2⟩:=GA hw;unfold NT VA GB;rw[Oy s,Fy hw hs];simp only[AD];rcases AJd (CH s)with h|h
 rotate_left
 ·rw[h];rfl
 have DG:=Dg.1 h;rw[h];simp only[ALR,AKp,ALY,ANX];rw[AJe (by rw[Am];omega)];have:=bO (k:=k) DG.nk DG.nl AW 0 s.1 (by omega) (Aa (by omega)) (by have:=DG.nk;omega);rw[show((0:Nat):Int)=0 from rfl,AP7]at this;rw[this];rcases AJd (BE k 0 1048575)with hk|hk
 ·have hk':=An.1 hk
  have hn:=DG.nl;grind[xR]
 simp_all
theorem bm{s:AM}(hw:Aj s<=2^30)(hs:vf s):Pn s=some (qX (Cw s)):=by
 unfold Pn Cw;rw[Oy s,Zr hw hs];rfl
theorem lP{s:AM}{u:Int}(hw:Aj s<=2^30)(hs:vf s):Tk s u=some (qX (B5 s u)):=by
 obtain⟨l1,l2⟩:=GA hw;unfold Tk B5;rw[Oy s,Fy hw hs,bm hw hs,Oz l1 l2,Bc];simp only[AD];cases CH s with
 |false=>rfl
 |true=>
  simp only[ALR,AKp,ALY,ANX,qX];cases(Cw s).2 with
  |false=>rfl
  |true=>
   cases BE u 0 30 with
   |false=>rfl
   |true=>
    simp only[ALR,AKp,ALl,AQY];rw[LK];rfl
theorem nq{s:AM}{ep:Int}(hw:Aj s<=2^30)(hs:vf s):WU s ep=some (((),()),(Js s ep,())):=by
 obtain⟨l1,l2⟩:=GA hw;unfold WU YD Js;rcases AJd (CH s)with h|h
 ·have key:∀(n i:Nat) (b:List AJ),i<=s.1.length->s.1.length-i<n->b.length<=i->JW n ep i s.1 s.2.1 s.2.2.1 b=some (((),()),(b++(s.1.drop i).filter fun e=>Ab e.1==ep,())):=by
   intro n
   induction n with
   |zero=>omega
   |succ n ih=>
    intro i b hi hn hb;simp only[JW,Qn,AB];have c2:b.length+1<=CN:=by rw[Am];omega
    by_cases hc:i<s.1.length
    ·have c1:(0:Int)<=(i:Int)/\(i:Int)<(s.1.length:Int):=by omega
     rw[AJe c1.2];simp only[AJe c1,AJe c2];rw[AG (by omega) (by omega),show((i:Int)+1)=((i+1:Nat):Int)by omega,Ah hc,drop_cons hc,Oy s,Fy hw hs,EA (hs.1 _ (ALk hc)),h];simp only[AD,ALg,AQ9];cases Ab s.1[i].1==ep with
     |true=>
      simp only[ALg,AQY];rw[ih (i+1) _ (by omega) (by omega) (by simp_all),AL3];rfl
     |false=>
      grind
    grind
  have:=key AW 0 [] (by omega) (Aa (by omega)) (by simp);simp_all
 ·obtain⟨m,hm⟩:∃m,AW=m+1:=⟨AW-1,by have:=WR;omega⟩
  rw[h,hm];simp only[JW,Qn,AB];rw[Oy s,Fy hw hs,h];simp_all
theorem nA{s:AM}{u:Int}(hw:Aj s<=2^30)(hs:vf s)(hu:Bp u):Tn s u=some (qX (JQ s u)):=by
 obtain⟨l1,l2⟩:=GA hw;unfold Tn WX JQ;rw[Oy s,Fy hw hs,Oz l1 l2,E5 hu];simp only[AD];cases CH s with
 |false=>rfl
 |true=>
  cases Av u with
  |false=>rfl
  |true=>
   simp only[ALR,AKp,ALY,ANX,AQY];have key:∀(n i:Nat) (b:List AJ),i<=s.1.length->s.1.length-i<n->b.length<=i->Kr n u i s.1 s.2.1 s.2.2.1 0 [] [] s.2.2.1 b s.2.1=some (qX ((b++(s.1.drop i).filter fun e=>decide (e.1>u),s.2.1,s.2.2.1,()),true)):=by
    intro n
    induction n with
    |zero=>omega
    |succ n ih=>
     intro i b hi hn hb;simp only[Kr,Wl];have c2:b.length+1<=CN:=by rw[Am];omega
     by_cases hc:i<s.1.length
     ·have c1:(0:Int)<=(i:Int)/\(i:Int)<(s.1.length:Int):=by omega
      rw[AM_ c1.2];simp only[AJe c1,AJe c2,ALg];rw[AG (by omega) (by omega),show((i:Int)+1)=((i+1:Nat):Int)by omega,Ah hc,drop_cons hc];simp only[AQ9];cases decide (s.1[i].1>u)with
      |true=>
       simp only[ALg,AQY];rw[ih (i+1) _ (by omega) (by omega) (by simp_all),AL3];rfl
      |false=>
       grind
     grind[decide_eq_false,List.drop_eq_nil_of_le,qX]
   have:=key AW 0 [] (by omega) (Aa (by omega)) (by simp);simp_all
theorem Nu{α:Type}{l:List α}{i:Nat}{x d:α}(hi:i<l.length):(l.set i x).getD i d=x:=by
 simp_all
theorem QU{α:Type}{l:List α}{f:α->α}{i:Nat}(hi:i<=l.length):((l.map f).take i++l.drop i).length=l.length:=by
 simp_all
theorem Na{α:Type}{l:List α}{f:α->α}{i:Nat}{d:α}(hi:i<l.length):((l.map f).take i++l.drop i).getD i d=l[i]:=by
 grind
theorem Re{α:Type}{l:List α}{f:α->α}{i:Nat}{y:α}(hi:i<l.length)(hy:y=f l[i]):((l.map f).take i++l.drop i).set i y=(l.map f).take (i+1)++l.drop (i+1):=by
 have h:((l.map f).take i).length=i:=by grind
 subst hy;rw[AVn _ _ (by omega),h,AVx,drop_cons hi,AVa,ARB (by simp_all),AL3,List.getElem_map];rfl
theorem l3{α:Type}{l:List α}{f:α->α}{i:Nat}(hi:i<l.length)(hf:f l[i]=l[i]):(l.map f).take i++l.drop i=(l.map f).take (i+1)++l.drop (i+1):=by
 grind[List.take_succ_eq_append_getElem,List.append_assoc,drop_cons]
theorem ABJ{n:Int}:∀{l:AAA},(kp n l).length=l.length+1
 |[]=>rfl
 |a::l=>by
  simp only[kp];split
  ·simp
  ·simp[ABJ (l:=l)]
theorem Wg{n:Int}{l:AAA}:(Ox n l).length<=l.length+1:=by
 grind[Ox,ABJ]
theorem FC{r:AN}{e:Int}(hl:Af B_ r.1<=2^30):Ce r e=some (((),()),(Br r.1 e,())):=by
 have l1:=AX (f:=B_) (l:=r.1);unfold Ce Br;rw[Bc];simp only[AD];rcases AJd (BE e 1 (r.1.length:Int))with h|h
 ·have h':=An.1 h
  have hm:=AY (f:=B_) (BJ (d:=Hp) (l:=r.1) (i:=(e-1).toNat) (by omega));have hm':(r.1.getD (e-1).toNat Hp).1.length<=Af B_ r.1:=hm;rw[h,AG (by omega) (by omega)];simp only[ALR,AKp,AQY];rw[AJe (by omega),AJe (by grind[Am,Hp])];rfl
 simp_all
theorem Tu{r:AN}(hl:Af B_ r.1<=2^30):GN r=some ((((),r.2.1,()),()),(r.1,())):=by
 have l1:=AX (f:=B_) (l:=r.1);have key:∀(n i:Nat) (b:List Cx),i<=r.1.length->r.1.length-i<n->b.length<=i->PV n i r.1 r.2.1 0 [] r.2.1 b=some ((((),r.2.1,()),()),(b++r.1.drop i,())):=by
  intro n
  induction n with
  |zero=>omega
  |succ n ih=>
   intro i b hi hn hb;simp only[PV,bQ,AB];by_cases hc:i<r.1.length
   ·have c1:(0:Int)<=(i:Int)/\(i:Int)<(r.1.length:Int):=by omega
    have hm:=AY (f:=B_) (ALk hc)
    replace hm:r.1[i].1.length<=Af B_ r.1:=hm
    rw[AJe c1.2,AJe c1,AG (by omega) (by omega),show((i:Int)+1)=((i+1:Nat):Int)by omega,Ah hc,AJe (by rw[Am];omega),AJe (by rw[Am];omega),drop_cons hc,ih (i+1) _ (by omega) (by omega) (by simp_all),AL3];rfl
   grind
 grind[GN,bA,AW,Aa]
def pkR(q:AN×Bool):AG3×(List Cx×Unit):=(((((),q.1.2.1,()),q.2,()),()),(q.1.1,()))
section
variable{c:CQ} {r:AN} (hc:c.1.length<=2^40) (hl:Af B_ r.1<=2^30) (ht:Bp r.2.1)
include hc hl ht
theorem qw{ns:AAA}(hn:ns.length<=2^30):P6 c r ns=some (((((),(JA c r ns).1.2.1,()),(JA c r ns).2.1,(JA c r ns).2.2,()),()),((JA c r ns).1.1,())):=by
 have l1:=AX (f:=B_) (l:=r.1);unfold P6 JA;rw[show(c.1,c.2.1,())=c from rfl,show(r.1,r.2.1,())=r from rfl,RF hc hl ht,Tu hl,Ff hc (by omega)];simp only[AD];cases Po c r with
 |false=>rfl
 |true=>
  cases holds c ns with
  |false=>rfl
  |true=>
   simp only[ALR,AKp,ALY,ANX,ALl];by_cases h30:r.1.length=30
   ·simp_all
   ·rw[show((r.1.length:Int)==30)=false by grind,show decide (r.1.length≠30)=true by simp[h30],AKp,AJe (by rw[Am];omega),AJe (by rw[Am];omega)]
    simp
theorem pN{b last:Int}:Vy c r b last=some (pkR (Pt c r b last)):=by
 have l1:=AX (f:=B_) (l:=r.1);unfold Vy Pt;rw[show(c.1,c.2.1,())=c from rfl,show(r.1,r.2.1,())=r from rfl,RF hc hl ht,Tu hl,OP (by omega)];simp only[AD];rcases AJd (Po c r)with hr|hr
 rotate_left
 ·rw[hr];rfl
 rw[hr];simp only[ALR,AKp,ALY,ANX];by_cases h1:b=r.1.length
 rotate_left
 ·rw[show(b !=(r.1.length:Int))=true by simp_all,show decide (b=(r.1.length:Int))=false by simp_all]
  rfl
 rw[show(b !=(r.1.length:Int))=false by simp_all,show decide (b=(r.1.length:Int))=true by simp_all];simp only[AKp,ALl];by_cases h2:BR r.1=0
 ·rw[show(BR r.1==0)=true by simp_all,show decide (BR r.1≠0)=false by simp_all]
  rfl
 rw[show(BR r.1==0)=false by simp_all,show decide (BR r.1≠0)=true by simp_all];simp only[AKp,ALl];by_cases h3:b=BR r.1
 ·rw[show(b==BR r.1)=true by simp_all,show decide (b≠BR r.1)=false by simp_all]
  rfl
 rw[show(b==BR r.1)=false by simp_all,show decide (b≠BR r.1)=true by simp_all,Bc];simp only[AKp,ALl,AD];cases BE last 0 60 with
 |false=>rfl
 |true=>
  have DG:=KU.1 hr;have AGJ:0<r.1.length:=by
   rcases AVf r.1.length with hz|hz
   ·exact absurd (by unfold BR;rw[hz];rfl) h2
   omega
  obtain⟨k,k1,k2,k3,k4⟩:=S_ DG AGJ;simp only[ALR,AKp,AQY];rw[k2,AG (by omega) (by omega),show((k:Int)+1-1)=(k:Int)by omega,AJe (by omega),AJe (by simp_all),ALN];unfold pkR Pv;simp_all
theorem rr{p:Int}(hp:Bp p):YW c r p=some (pkR (QG c r p)):=by
 unfold YW QG;rw[show(c.1,c.2.1,())=c from rfl,show(r.1,r.2.1,())=r from rfl,RF hc hl ht,Tu hl,E5 hp,EA hp];simp only[AD];cases Po c r with
 |false=>rfl
 |true=>
  cases Av p with
  |false=>rfl
  |true=>
   simp only[ALR,AKp,ALY,ANX,ALl];by_cases h:Ab p<=r.1.length
   ·rw[show decide (Ab p>(r.1.length:Int))=false by simp_all,show decide (Ab p<=(r.1.length:Int))=true by simp_all,AKp,LK]
    rfl
   ·rw[show decide (Ab p>(r.1.length:Int))=true by simp_all,show decide (Ab p<=(r.1.length:Int))=false by simp_all]
    rfl
end
theorem TV{w:AU}(hl:Af BG w.2.1<=2^30):FT w=some (((w.1,(),()),()),(w.2.1,())):=by
 have l1:=AX (f:=BG) (l:=w.2.1);have key:∀(n i:Nat) (b:List BH),i<=w.2.1.length->w.2.1.length-i<n->b.length<=i->Pk n i w.1 w.2.1 0 [] w.1 b=some (((w.1,(),()),()),(b++w.2.1.drop i,())):=by
  intro n
  induction n with
  |zero=>omega
  |succ n ih=>
   intro i b hi hn hb;simp only[Pk,bp,AB];by_cases hc:i<w.2.1.length
   ·have c1:(0:Int)<=(i:Int)/\(i:Int)<(w.2.1.length:Int):=by omega
    have hm:w.2.1[i].1.length+w.2.1[i].2.1.length<=Af BG w.2.1:=AY (f:=BG) (ALk hc);rw[AJe c1.2,AJe c1,AG (by omega) (by omega),show((i:Int)+1)=((i+1:Nat):Int)by omega,Ah hc,AJe (by rw[Am];omega),AJe (by rw[Am];omega),drop_cons hc,ih (i+1) _ (by omega) (by omega) (by simp_all),AL3];rfl
   grind
 grind[FT,an,AW,Aa]
theorem bU{α:Type}{f:α->Nat}{l m:List α}:Af f (l++m)=Af f l+Af f m:=by
 induction l with
 |nil=>simp[Af]
 |cons a l ih=>grind[Af]
theorem qS{n:Int}{x:BH}(h:x.2.2.1=true):Et n x=x:=by
 obtain⟨a,b,d,e⟩:=x;simp only at h;subst h;rfl
def pkW(q:AU×Bool):AGV×(List BH×Unit):=((((q.1.1,(),()),q.2,()),()),(q.1.2.1,()))
section
variable{c:CQ} {w:AU} (hc:c.1.length<=2^40) (hl:Af BG w.2.1<=2^20)
include hc hl
theorem l5{d:ABF}(hd:d.length<=2^20):Lj c w d=some (((((CR c w d).1.1,(),()),(CR c w d).2.1,(CR c w d).2.2,()),()),((CR c w d).1.2.1,())):=by
 have l1:=AX (f:=BG) (l:=w.2.1);unfold Lj CR;rw[show(c.1,c.2.1,())=c from rfl,show(w.1,w.2.1,())=w from rfl,Lo hc (by omega),TV (by omega)];simp only[AD];cases Fe c w with
 |false=>rfl
 |true=>
  simp only[ALR,AKp,ALY,ANX];rw[AJe (by rw[Am];omega),Lo hc (by
   grind[Af,BG,bU,List.length_nil])]
  grind
theorem mO{o n:Int}:Fj c w o n=some (pkW (Sw c w o n)):=by
 have l1:=AX (f:=BG) (l:=w.2.1);unfold Fj Sw;rw[show(c.1,c.2.1,())=c from rfl,show(w.1,w.2.1,())=w from rfl,Lo hc (by omega),TV (by omega),Bc,Bc];simp only[AD];rcases AJd (Fe c w)with hw|hw
 rotate_left
 ·rw[hw];rfl
 have ACv:=F_ (Ho.1 hw).cfg;rw[hw,AG (x:=(c.1.length:Int)-1) (by omega) (by omega)];simp only[ALR,AKp,ALY,ANX];rcases AJd (BE o 1 (w.2.1.length:Int))with ho|ho
 rotate_left
 ·rw[ho];rfl
 have ho':=An.1 ho;rw[ho];cases BE n 0 ((c.1.length:Int)-1)with
 |false=>rfl
 |true=>
  have hi:(o-1).toNat<w.2.1.length:=by omega
  have hm:(w.2.1.getD (o-1).toNat Mg).1.length+(w.2.1.getD (o-1).toNat Mg).2.1.length<=Af BG w.2.1:=AY (f:=BG) (BJ (d:=Mg) hi);simp only[ALR,AKp,ALl];rw[AG (by omega) (by omega),AJe (by omega)]
  show cond (w.2.1.getD (o-1).toNat Mg).2.2.1 _ _=_
  cases(w.2.1.getD (o-1).toNat Mg).2.2.1 with
  |true=>rfl
  |false=>
   simp only[AKp,AOP,AQY];rw[AJe (by omega),show(w.2.1.getD (o-1).toNat ([],[],false,())).2.1=(w.2.1.getD (o-1).toNat Mg).2.1 from rfl,Nk (by omega)];simp only[AD];rw[AJe (by omega)];have hg:∀x:BH,(w.2.1.set (o-1).toNat x).getD (o-1).toNat ([],[],false,())=x:=fun x=>Nu hi
   rw[AJe (by grind),hg,Ff hc (by
    grind[Wg,Mg])]
   simp only[AD];rw[AJe (by grind),AVj];rfl
theorem iB{n:Int}:OH c w n=some (pkW (CC c w n)):=by
 have l1:=AX (f:=BG) (l:=w.2.1);unfold OH S1 CC;rw[show(c.1,c.2.1,())=c from rfl,show(w.1,w.2.1,())=w from rfl,Lo hc (by omega),TV (by omega)];simp only[AD];cases Fe c w with
 |false=>rfl
 |true=>
  simp only[ALR,AKp,ALY,ANX];have key:∀(k i:Nat),i<=w.2.1.length->w.2.1.length-i<k->Hy k n i 0 [] w.1 ((w.2.1.map (Et n)).take i++w.2.1.drop i)=some (pkW ((w.1,w.2.1.map (Et n),()),true)):=by
   intro k
   induction k with
   |zero=>omega
   |succ k ih=>
    intro i hi hk;have hlen:((w.2.1.map (Et n)).take i++w.2.1.drop i).length=w.2.1.length:=QU hi;simp only[Hy,Sz,AB,hlen];by_cases Dc:i<w.2.1.length
    ·have c1:(0:Int)<=(i:Int)/\(i:Int)<(w.2.1.length:Int):=by omega
     have hm:w.2.1[i].1.length+w.2.1[i].2.1.length<=Af BG w.2.1:=AY (f:=BG) (ALk Dc);have hg:((w.2.1.map (Et n)).take i++w.2.1.drop i).getD ((i:Int).toNat) ([],[],false,())=w.2.1[i]:=Na Dc;rw[AJe c1.2];simp only[AJe c1,hg];rw[AG (by omega) (by omega),show((i:Int)+1)=((i+1:Nat):Int)by omega];rcases AJd (w.2.1[i].2.2.1)with hd|hd
     ·rw[hd]
      simp only[ALR,AKp];grind[l3,qS]
     ·rw[hd]
      simp only[AOP,ALg];rw[KF (by omega) (by simp)];grind[AD,Int.toNat_natCast,Re,Et]
    ·rw[AJk (by omega),ALm (by omega)]
     have:i=w.2.1.length:=by omega
     subst this;rw[ALu,AOe (by simp)];rfl
  have:=key AW 0 (by omega) (Aa (by omega));simp_all
end
abbrev PkM:Type:=AFl×(List Int×List AJ×List AAA×Unit)
def mc(q:Az×Bool):PkM:=((((q.1.1,q.1.2.1,(),(),q.1.2.2.2.2.1,(),()),q.2,()),()),(q.1.2.2.1,q.1.2.2.2.1,q.1.2.2.2.2.2.1,()))
section
variable{m:Az} (hm:CE m<=2^20)
include hm
theorem JY:m.2.2.1.length<=2^20/\m.2.2.2.1.length<=2^20/\m.2.2.2.2.2.1.length<=2^20/\ ∀l∈m.2.2.2.2.2.1,l.length<=2^20:=by
 have l1:=AX (f:=Ap) (l:=m.2.2.2.1);have l2:=AX (f:=Cl) (l:=m.2.2.2.2.2.1);have hm':m.2.2.1.length+(Af Ap m.2.2.2.1+(Af Cl m.2.2.2.2.2.1+0))<=2^20:=by
  grind[CE]
 refine⟨by omega,by omega,by omega,fun l hl=> ?_⟩;have:l.length<=Af Cl m.2.2.2.2.2.1:=AY (f:=Cl) hl;omega
theorem MM:EO m=some (((m.1,m.2.1,(),(),m.2.2.2.2.1,(),()),()),(m.2.2.1,m.2.2.2.1,m.2.2.2.2.2.1,())):=by
 obtain⟨h1,h2,h3,h4⟩:=JY hm;have key:∀(n i:Nat) (b:List AAA),i<=m.2.2.2.2.2.1.length->m.2.2.2.2.2.1.length-i<n->b.length<=i->
   H7 n i m.1 m.2.1 m.2.2.1 m.2.2.2.1 m.2.2.2.2.1 m.2.2.2.2.2.1 0 0 false [] [] [] m.1 m.2.1 m.2.2.2.2.1 m.2.2.1 m.2.2.2.1 b=some (((m.1,m.2.1,(),(),m.2.2.2.2.1,(),()),()),(m.2.2.1,m.2.2.2.1,b++m.2.2.2.2.2.1.drop i,())):=by
  intro n
  induction n with
  |zero=>omega
  |succ n ih=>
   intro i b hi hn hb;simp only[H7,Tm,AB];by_cases hc:i<m.2.2.2.2.2.1.length
   ·have c1:(0:Int)<=(i:Int)/\(i:Int)<(m.2.2.2.2.2.1.length:Int):=by omega
    have hq:=h4 _ (ALk hc);rw[AJe c1.2,AJe c1,AG (by omega) (by omega),show((i:Int)+1)=((i+1:Nat):Int)by omega,Ah hc,AJe (by rw[Am];omega),AJe (by rw[Am];omega),drop_cons hc,ih (i+1) _ (by omega) (by omega) (by simp_all),AL3];rfl
   grind
 unfold EO OM;rw[AJe (by rw[Am];omega),AJe (by rw[Am];omega)];grind[AW,Aa]
end
theorem gn{l s:AAA}(hl:l.length<=2^20)(hs:s.length<=2^20):Kw l s=some (((),()),(l.filter s.contains,())):=by
 unfold Kw;rw[KF (by omega) (by omega)];simp only[AD];have xY:(less l s).length<=l.length:=AP5 _ _;rw[KF (by omega) (by omega)];grind[AD,less,List.filter_congr]
theorem iD{c:CQ}{s l:AAA}(hc:c.1.length<=2^40)(hl:l.length<=2^20)(hs:s.length<=2^20):Ky c s l=some ((SW c s l,()),()):=by
 unfold Ky SW;rw[show(c.1,c.2.1,())=c from rfl,Ff (l:=s) hc (by omega),HB (l:=l) hc (by omega),KF (l:=l) (m:=s) (by omega) (by omega),KF (l:=s) (m:=l) (by omega) (by omega)];simp only[AD];rcases AJd (holds c s)with h|h
 rotate_left
 ·simp_all
 rw[h];cases BC c l with
 |false=>rfl
 |true=>
  simp only[ALR,AKp,ALl];have hn:BC c (less s l)=true:=TN _ (Wr h);by_cases ha:(less l s).length>0
  ·rw[show decide (((less l s).length:Int)>0)=true by simp_all]
   have:l.all s.contains=false:=by
    rw[ARJ];grind[List.all_eq_true,less,List.filter_eq_nil_iff]
   grind
  ·rw[AQK (show¬((less l s).length:Int)>0 by omega)]
   have:l.all s.contains=true:=by
    grind[less,List.length_eq_zero_iff,List.filter_eq_nil_iff,List.all_eq_true]
   rw[this];simp only[AKp,ALl];rw[gq hn];simp only[AD,holds,hn,ALl];grind[fP,less,decide_eq_true,decide_eq_false]
section
variable{c:CQ} {m:Az} (hc:c.1.length<=2^40) (hm:CE m<=2^20) (h:vv m.2.2.2.1)
include hc hm h
theorem rI{o n:Int}:Hm c m o n=some (mc (bP c m o n)):=by
 obtain⟨h1,h2,h3,h4⟩:=JY hm;unfold Hm bP;rw[show(c.1,c.2.1,())=c from rfl,W8 m,Jv hc (by omega) h,MM hm,Bc,Bc];simp only[AD];rcases AJd (HE c m)with hw|hw
 rotate_left
 ·rw[hw];rfl
 have ACv:=F_ (He.1 hw).cfg;rw[hw,AG (x:=(c.1.length:Int)-1) (by omega) (by omega)];simp only[ALR,AKp,ALY,ANX];rcases AJd (BE o 1 (m.2.2.2.2.2.1.length:Int))with ho|ho
 rotate_left
 ·rw[ho];rfl
 have ho':=An.1 ho;rw[ho];cases BE n 0 ((c.1.length:Int)-1)with
 |false=>rfl
 |true=>
  have hi:(o-1).toNat<m.2.2.2.2.2.1.length:=by omega
  have hq:=h4 _ (BJ (d:=([]:AAA)) hi);simp only[ALR,AKp,ALl,AQY];rw[AG (by omega) (by omega),AJe (by omega),Nk (by omega)];simp only[AD];rw[AJe (by omega)];rfl
theorem kz{n:Int}:Rb c m n=some (mc (CK c m n)):=by
 obtain⟨h1,h2,h3,h4⟩:=JY hm;unfold Rb U1 CK;rw[show(c.1,c.2.1,())=c from rfl,W8 m,Jv hc (by omega) h,MM hm];simp only[AD];cases HE c m with
 |false=>rfl
 |true=>
  simp only[ALR,AKp,ALY,ANX];have key:∀(k i:Nat),i<=m.2.2.2.2.2.1.length->m.2.2.2.2.2.1.length-i<k->KC k n i 0 0 false [] [] [] m.1 m.2.1 m.2.2.2.2.1 m.2.2.1 m.2.2.2.1 ((m.2.2.2.2.2.1.map (fun l=>less l [n])).take i++m.2.2.2.2.2.1.drop i)=
    some (mc ((m.1,m.2.1,m.2.2.1,m.2.2.2.1,m.2.2.2.2.1,m.2.2.2.2.2.1.map (fun l=>less l [n]),()),true)):=by
   intro k
   induction k with
   |zero=>omega
   |succ k ih=>
    intro i hi hk;have hlen:=QU (f:=fun l=>less l [n]) hi;simp only[KC,U0,AB,hlen];by_cases Dc:i<m.2.2.2.2.2.1.length
    ·have c1:(0:Int)<=(i:Int)/\(i:Int)<(m.2.2.2.2.2.1.length:Int):=by omega
     have hq:=h4 _ (ALk Dc);have hg:((m.2.2.2.2.2.1.map (fun l=>less l [n])).take i++m.2.2.2.2.2.1.drop i).getD ((i:Int).toNat) []=m.2.2.2.2.2.1[i]:=Na Dc;rw[AJe c1.2];simp only[AJe c1,hg];rw[AG (by omega) (by omega),show((i:Int)+1)=((i+1:Nat):Int)by omega,KF (by omega) (by simp)];simp only[AD];rw[ALN,Re Dc rfl];grind
    ·rw[AJk (by omega),ALm (by omega)]
     have:i=m.2.2.2.2.2.1.length:=by omega
     subst this;rw[ALu,AOe (by simp)];rfl
  have:=key AW 0 (by omega) (Aa (by omega));simp_all
theorem mS:T9 c m=some ((VU c m,()),()):=by
 obtain⟨h1,h2,h3,h4⟩:=JY hm;unfold T9 Wd VU;rw[show(c.1,c.2.1,())=c from rfl,W8 m,Jv hc (by omega) h];simp only[AD];cases HE c m with
 |false=>rfl
 |true=>
  rcases AJd m.2.2.2.2.1 with hp|hp
  rotate_left
  ·simp_all
  have key:∀(k i:Nat),i<=m.2.2.2.2.2.1.length->m.2.2.2.2.2.1.length-i<k->K6 k i c.1 c.2.1 m.1 m.2.1 m.2.2.1 m.2.2.2.1 m.2.2.2.2.1 m.2.2.2.2.2.1=some (((m.2.2.2.2.2.1.drop i).all (holds c),()),()):=by
   intro k
   induction k with
   |zero=>omega
   |succ k ih=>
    intro i hi hk;simp only[K6,XN,AB];by_cases Dc:i<m.2.2.2.2.2.1.length
    ·have c1:(0:Int)<=(i:Int)/\(i:Int)<(m.2.2.2.2.2.1.length:Int):=by omega
     have hq:=h4 _ (ALk Dc);rw[AJe c1.2,AJe c1,AG (by omega) (by omega),show((i:Int)+1)=((i+1:Nat):Int)by omega,Ah Dc,drop_cons Dc,show(c.1,c.2.1,())=c from rfl,Ff hc (by omega),ih (i+1) (by omega) (by omega)];simp only[AD,ARN];cases holds c m.2.2.2.2.2.1[i]<;>rfl
    grind
  have:=key AW 0 (by omega) (Aa (by omega));simp_all
omit hc h in
theorem bg{o:Int}:Eh m o=some ((((Ea m o).getD Dq,(Ea m o).isSome,()),()),()):=by
 obtain⟨h1,h2,h3,h4⟩:=JY hm;unfold Eh Ea;rw[aa];simp only[AD];rw[V_ (by omega)];simp only[AD];cases m.2.2.2.2.1 with
 |false=>rfl
 |true=>
  simp only[ALR,AKp,ALl];rcases AJd (BE m.2.1 1 30)with he|he
  rotate_left
  ·rw[he];rfl
  rcases AJd (BE o 1 60)with ho|ho
  rotate_left
  ·rw[he,ho];rfl
  have hp:D_ m.2.1 o=G9 m.2.1 o:=by unfold D_;rw[he,ho];rfl
  rw[he,ho,hp];simp only[AQ5,ALR,AKp,ALl];by_cases hl:o<=m.2.2.2.2.2.1.length
  ·rw[show decide (o>(m.2.2.2.2.2.1.length:Int))=false by simpa using hl,show decide (o<=(m.2.2.2.2.2.1.length:Int))=true by simpa using hl]
   simp only[AKp,AQY];cases O0 (G9 m.2.1 o) m.2.2.2.1<;>rfl
  ·rw[show decide (o>(m.2.2.2.2.2.1.length:Int))=true by simp;omega,show decide (o<=(m.2.2.2.2.2.1.length:Int))=false by simp;omega]
   rfl
theorem pZ{s:AAA}(hs:s.length<=2^20):V7 c m s=some (mc (Ls c m s)):=by
 obtain⟨h1,h2,h3,h4⟩:=JY hm;unfold V7 Xn Ls;rw[show(c.1,c.2.1,())=c from rfl,W8 m,Jv hc (by omega) h,MM hm];simp only[AD];rcases AJd (HE c m)with DG|DG
 rotate_left
 ·rw[DG];rfl
 have hmo:=He.1 DG;rw[DG];rcases AJd m.2.2.2.2.1 with hp|hp
 ·rw[hp]
  simp only[ALR,AKp,ALg,ARA,ALY,ANX,mc,hp]
 have hn:=hmo.n;rw[hp]at hn;have hw0:m.2.2.2.2.2.1=[]:=AVb.1 (by simp_all);rw[hp];simp only[ALR,AOP,AKp,ALY,ANX,ALl];rw[gn (by omega) hs];have hfl:(m.2.2.1.filter s.contains).length<=m.2.2.1.length:=AP5 _ _;simp only[AD];rw[iD hc (by omega) hs];simp only[AD];cases SW c s (m.2.2.1.filter s.contains)with
 |false=>simp[mc,hp]
 |true=>
  simp only[ALR,AKp,AQY];have hlb:=Hs (l:=m.2.2.2.1);have key:∀(k i:Nat),(i:Int)<=O5 m.2.2.2.1->(O5 m.2.2.2.1).toNat-i<k->Ma k i m.1 m.2.1 m.2.2.1 m.2.2.2.1 false m.2.2.2.2.2.1 0 0 false [] [] [] m.1 m.2.1 true m.2.2.1 m.2.2.2.1 (List.replicate i [])=
    some (mc ((m.1,m.2.1,m.2.2.1,m.2.2.2.1,true,List.replicate (O5 m.2.2.2.1).toNat [],()),true)):=by
   intro k
   induction k with
   |zero=>omega
   |succ k ih=>
    intro i hi hk;simp only[Ma,X4];rw[show Sx (m.1,m.2.1,m.2.2.1,m.2.2.2.1,false,m.2.2.2.2.2.1,())=some ((O5 m.2.2.2.1,()),())from gv (m:=(m.1,m.2.1,m.2.2.1,m.2.2.2.1,false,m.2.2.2.2.2.1,())) (by grind) h];simp only[AD,AB];by_cases Dc:(i:Int)<O5 m.2.2.2.1
    ·rw[AJe Dc,AJe (by rw[Am,AUS];omega),AG (by omega) (by omega),show((i:Int)+1)=((i+1:Nat):Int)by omega,<-List.replicate_succ']
     exact ih (i+1) (by omega) (by omega)
    ·rw[AJk Dc]
     have:i=(O5 m.2.2.2.1).toNat:=by omega
     rw[this];rfl
  have:=key AW 0 (by omega) (Aa (by omega));simp_all
theorem pX{n:Int}{l:List AJ}(hl:l.length<=2^20)(Qt:vv l)(hw:Af Ap l<=2^20):Vv c m n l=some (mc (PG c m n l)):=by
 obtain⟨h1,h2,h3,h4⟩:=JY hm;unfold Vv Xp PG;rw[show(c.1,c.2.1,())=c from rfl,W8 m,Jv hc (by omega) h,MM hm];simp only[AD];rw[Nk (by omega)];simp only[AD];rcases AJd (HE c m)with DG|DG
 rotate_left
 ·rw[DG];rfl
 rw[DG];simp only[ALR,AKp,ALY,ANX];have AVN:∀(e:AJ) (k:List AJ),Af Ap (keep e k)<=Af Ap k+(1+Ap e):=by
  intro e k
  induction k with
  |nil=>simp[keep,Af]
  |cons x k ih=>
   grind[keep,Af,better]
 have key:∀(k i:Nat) (b:List AJ),i<=l.length->l.length-i<k->b.length<=2^20+i->vv b->Af Ap b+Af Ap (l.drop i)<=2^21->
   Lh k l i c.1 c.2.1 m.1 m.2.1 m.2.2.1 m.2.2.2.1 m.2.2.2.2.1 m.2.2.2.2.2.1 0 0 false [] [] [] m.1 m.2.1 m.2.2.2.2.1 (Ox n m.2.2.1) b m.2.2.2.2.2.1=
   some (mc (if !m.2.2.2.2.1&&HE c (m.1,m.2.1,Ox n m.2.2.1,EF b ((l.drop i).filter fun e=>Ab e.1==m.2.1),m.2.2.2.2.1,m.2.2.2.2.2.1,())then
    ((m.1,m.2.1,Ox n m.2.2.1,EF b ((l.drop i).filter fun e=>Ab e.1==m.2.1),m.2.2.2.2.1,m.2.2.2.2.2.1,()),true)else(m,false))):=by
  intro k
  induction k with
  |zero=>omega
  |succ k ih=>
   intro i b hi hk hb hbi hbw;simp only[Lh,Xm,AB];by_cases Dc:i<l.length
   ·have c1:(0:Int)<=(i:Int)/\(i:Int)<(l.length:Int):=by omega
    rw[AJe c1.2];simp only[AJe c1];rw[AG (by omega) (by omega),show((i:Int)+1)=((i+1:Nat):Int)by omega,Ah Dc,drop_cons Dc,gS (l[i]),EA (Qt _ (ALk Dc)),ZH (by omega)];rw[drop_cons Dc]at hbw;simp only[Af]at hbw;simp only[AD,AQ9];rcases AJd (Ab l[i].1==m.2.1)with he|he
    ·simp only[he,ALg,AQY,EF]
     have:=Zo (e:=l[i]) (l:=b);have hwk:=AVN l[i] b;exact ih (i+1) _ (by omega) (by omega) (by omega) (fun x hx=>by
      rcases gd hx with rfl|hx
      ·exact Qt _ (ALk Dc)
      ·exact hbi x hx) (by omega)
    grind
   ·rw[AJk (by omega),ALm (by omega),W8 m,show(c.1,c.2.1,())=c from rfl,MM hm]
    simp only[AVt,EF];rcases AJd m.2.2.2.2.1 with hp|hp
    ·grind[mc]
    rw[ALm (by omega)]at hbw;simp only[Af]at hbw;have zg:=Wg (n:=n) (l:=m.2.2.1);have hb2:=AX (f:=Ap) (l:=b);rw[Jv (m:=(m.1,m.2.1,Ox n m.2.2.1,b,m.2.2.2.2.1,m.2.2.2.2.2.1,())) hc (by
     grind[CE]) hbi]
    simp only[AD];rw[hp];simp only[AKp,AOP,ALl];grind[HE,Ox,mc]
 have hsw:Af Ap m.2.2.2.1<=2^20:=by
  grind[CE]
 have:=key AW 0 m.2.2.2.1 (by omega) (Aa (by omega)) (by omega) h (by grind);simp_all
end
theorem Aq{α:Type}{b:Bool}{x y:α}:cond (!b) x y=cond b y x:=by simp_all
theorem Cv{α:Type}{a b:Int}{x y:α}:cond (a !=b) x y=if a=b then y else x:=by
 simp_all
theorem DL{α:Type}{a b:Int}{x y:α}:cond (a==b) x y=if a=b then x else y:=by
 simp_all
theorem oW{c:CQ}{l:List BB}(hc:c.1.length<=2^40)(hl:l.length<=2^20):
  cN c l=some ((((),BC c (l.map fun a=>a.1),()),()),(l.map (fun a=>a.1),())):=by
 have key:∀(n i:Nat) (b:AAA),i<=l.length->l.length-i<n->b.length=i->
   MZ n l i c.1 c.2.1 b=some ((((),BC c (b++(l.drop i).map fun a=>a.1),()),()),(b++(l.drop i).map (fun a=>a.1),())):=by
  intro n
  induction n with
  |zero=>omega
  |succ n ih=>
   intro i b hi h hb;simp only[MZ,X1,AB];by_cases gO:i<l.length
   ·have c1:(0:Int)<=(i:Int)/\(i:Int)<(l.length:Int):=by omega
    have c2:b.length+1<=CN:=by rw[Am];omega
    rw[AJe c1.2,AJe c1,AJe c2,AG (by omega) (by omega),show((i:Int)+1)=((i+1:Nat):Int)by omega,Ah gO,ih (i+1) _ (by omega) (by omega) (by simp_all),drop_cons gO];grind
   ·rw[AJk (by omega),ALm (by omega),AVZ,ALu,show(c.1,c.2.1,())=c from rfl,HB hc (by omega)]
    rfl
 have:=key AW 0 [] (by omega) (Aa (by omega)) rfl;rw[show((0:Nat):Int)=0 from rfl,AP7,AQH]at this;exact this
theorem Xg{r:Ac}(h:r.2.2.1.length<=2^30):CU r=some (((r.1,r.2.1,(),()),()),(r.2.2.1,())):=by
 unfold CU;rw[AJe (by rw[Am];omega)]
theorem fh{r:Ac}{e:Ar}{x y:Int}(h:r.2.2.1.length<=2^30):I7 r e x y=some (((x,y,(),()),()),(r.2.2.1++[e],())):=by
 unfold I7;rw[Oy r,Xg h];simp only[AD];rw[AJe (by rw[Am];omega)]
theorem qu{s:AAA}{p:Int}{l:List BB}(hs:s.length<=2^20)(hl:l.length<=2^20)(Qt:∀a∈l,Bp a.2.2.1):
  My s p l=some ((VI p (I5 s p none l),()),()):=by
 have key:∀(n i:Nat) (b:Option AJ),i<=l.length->l.length-i<n->
   NY n s p l b.isSome i 0 0 [] (b.getD Dq).1 (b.getD Dq).2.1 (b.getD Dq).2.2.1 (b.getD Dq).2.2.2.1=some ((VI p (I5 s p b (l.drop i)),()),()):=by
  intro n
  induction n with
  |zero=>omega
  |succ n ih=>
   intro i b hi h;simp only[NY,Zt,AB,Aq];by_cases gO:i<l.length
   ·have c1:(0:Int)<=(i:Int)/\(i:Int)<(l.length:Int):=by omega
    rw[AJe c1.2,AJe c1,AG (by omega) (by omega),show((i:Int)+1)=((i+1:Nat):Int)by omega,Ah gO,drop_cons gO];have ih':=fun b=>ih (i+1) b (by omega) (by omega)
    simp only[ih'];rw[K5 (by omega),show(l[i].2.2.1,l[i].2.2.2.1,l[i].2.2.2.2.1,l[i].2.2.2.2.2.1,())=Yk l[i]from rfl];rw[Rq (e:=Yk l[i]) (Qt _ (ALk gO))];simp only[AD,I5];cases h1:l[i].2.1 with
    |false=>simp
    |true=>
     cases h2:s.contains l[i].1 with
     |false=>simp
     |true=>
      cases h3:Fq (Yk l[i])with
      |false=>simp
      |true=>
       simp only[ALg,ALl];by_cases h4:l[i].2.2.1=p
       ·rw[Cv,AJe h4,AJe (by show((Yk l[i]).1==p)=true;rw[ARL];exact h4)]
        cases b with
        |none=>
         simp only[ARE,AKp,ZG,AD,Option.getD_none];have:=ih' (some (Yk l[i]));simp only[AQ7,AQ_]at this;have hb:better (Yk l[i]) (Yk l[i])=Yk l[i]:=by unfold better;simp_all
         simp_all
        |some x=>
         simp only[AQ7,ALg,AQ_];rw[gS x];grind[ZG,AD,better,Yk,Option.isSome_some]
       ·rw[Cv,AJk h4,AJk (by show¬((Yk l[i]).1==p)=true;rw[ARL];exact h4)]
   ·rw[AJk (by omega),ALm (by omega)]
    simp only[I5];cases b with
    |none=>rfl
    |some x=>
     simp only[AQ7,ALg,AQ_,VI];grind
 exact key AW 0 none (by omega) (Aa (by omega))
theorem lJ{x:Int}:0<=Bt x/\Bt x<=60:=by
 cases h:Av x with
 |true=>have:=(GM h).2.1;omega
 |false=>unfold Bt;simp_all
def ADE(q:Ac×Int):bJ:=((((q.1.1,q.1.2.1,(),()),q.2,()),()),(q.1.2.2.1,()))
theorem kh{c:CQ}{g:AN}{sure:Int}{r:Ac}{l:List BB}(hc:c.1.length<=2^20)(hg:Af B_ g.1<=2^20)(ht:Bp g.2.1)(hl:l.length<=2^20)(Qt:∀a∈l,Bp a.2.2.1):
  Rp c g sure r l=some (ADE (DH c g sure r l)):=by
 unfold Rp DH;rw[show(c.1,c.2.1,())=c from rfl,show(g.1,g.2.1,())=g from rfl,Oy r,oW (by omega) hl,RF (by omega) (by omega) ht,QC];simp only[AD,Aq,AB];cases h1:Po c g with
 |false=>rfl
 |true=>
 cases h2:T8 r with
 |false=>rfl
 |true=>
 cases h3:BC c (l.map fun a=>a.1)with
 |false=>rfl
 |true=>
 have hr:=VX.1 h2;have hre:=hr.ep;have hro:=hr.off;have hrn:=hr.n;have hR:=KU.1 h1;have hRn:=hR.n;simp only[ALg,ALl,ALR,ALY,ANX];rw[Xg (by omega)];simp only[AD];by_cases h4:r.1>(g.1.length:Int)
 ·rw[AJe h4,AM_ h4];rfl
 rw[AJk h4,AQK h4];by_cases h5:r.2.2.1.length=120
 ·rw[show(((r.2.2.1.length:Nat):Int)==120)=true by simp_all,AM_ h5];rfl
 rw[show(((r.2.2.1.length:Nat):Int)==120)=false by grind,AQK h5];simp only[AKp,APM,ALY,ANX];rw[AG (x:=r.1-1) (by omega) (by omega),AJe (by omega),Nb (by omega) (by omega),EA ht,V5 ht];simp only[AD];have hto:=lJ (x:=g.2.1);rw[AG (x:=Bt g.2.1+1) (by omega) (by omega),AG (x:=r.1+1) (by omega) (by omega),AG (x:=r.2.1+1) (by omega) (by omega)];simp only[fh (r:=r) (by omega),AD];by_cases h6:g.2.1>=G9 r.1 r.2.1
 ·rw[AJe h6,AJe h6];rfl
 rw[AJk h6,AJk h6]
 generalize AIQ:g.1.getD (r.1-1).toNat Hp=era
 have Ix:(r.1-1).toNat<g.1.length:=by omega
 have WG:era.1.length<=2^20:=by
  have h7:=AY (f:=B_) (BJ (d:=Hp) Ix);rw[AIQ]at h7;have:B_ era=era.1.length:=rfl;omega
 have tail:((Kw (l.map fun a=>a.1) era.1).bind fun Uj=>
   (Ky c era.1 Uj.2.1).bind fun di=>
   cond (di.1.1)
    ((My era.1 (G9 r.1 r.2.1) l).bind fun cK=>
    some ((((r.1,r.2.1+1,(),()),0,()),()),(r.2.2.1++[(cK.1.1.1,cK.1.1.2.1,cK.1.1.2.2.1,())],())))
    (some ((((r.1,r.2.1,(),()),3,()),()),(r.2.2.1,()))))=
   some (ADE (if !SW c era.1 ((l.map fun a=>a.1).filter era.1.contains)then(r,3)else
    ((r.1,r.2.1+1,r.2.2.1++[VI (G9 r.1 r.2.1) (I5 era.1 (G9 r.1 r.2.1) none l)],()),0))):=by
  have hf:((l.map fun a=>a.1).filter era.1.contains).length<=2^20:=APp (AP5 _ _) (by simp_all);rw[gn (by simp_all) WG,qu WG hl Qt];simp only[AD];rw[iD (by omega) hf WG];simp only[AD,fh (r:=r) (by omega)];cases SW c era.1 ((l.map fun a=>a.1).filter era.1.contains)<;>rfl
 have hd:g.1.getD (r.1-1).toNat ([],false,0,())=era:=AIQ;rw[hd];simp only[tail];cases h7:era.2.1 with
 |true=>
  simp only[ALg,AKp,ALl,ALR,ARA,APM,ALh];by_cases h8:r.2.1>era.2.2.1
  ·rw[AJe h8,AJe h8];rfl
  rw[AJk h8,AJk h8];by_cases h9:r.2.1>60
  ·rw[AJe h9,AJe h9];rfl
  grind
 |false=>
  simp only[ALg,AKp,ALl,AOP,ARA,ALY,ANX,AQd,ALh];by_cases h8:r.2.1>sure
  ·rw[AJe h8,AJe (.inl h8)];rfl
  rw[AJk h8];by_cases h9:r.2.1>60
  ·rw[AJe h9,AJe (.inr h9)];rfl
  grind
theorem vG{c:CQ}{l:AAA}(hc:c.1.length<=2^20)(hl:l.length<=2^20):bh c l=some ((BC c l&& !holds c l,()),()):=by
 unfold bh;rw[show(c.1,c.2.1,())=c from rfl,HB (by omega) (by omega),Ff (by omega) (by omega)];grind
theorem pC{ss:List AM}(hs:ss.length<=1024)(h:∀s∈ss,s.1.length<=1024):cV ss=some (((),()),(Gt [] ss,())):=by
 have key:∀n:Nat,
   (∀(i:Nat) (b:List AJ),i<=ss.length->(ss.length-i)*1026+1<=n->b.length<=i*1024->
    Jl n ss i b=some (((),()),(Gt b (ss.drop i),())))/\
   (∀(i j:Nat) (b:List AJ),(hi:i<ss.length)->j<=ss[i].1.length->(ss.length-i-1)*1026+1+(ss[i].1.length-j)+1<=n->b.length<=i*1024+j->
    JV n ss i j b=some (((),()),(Gt (EF b (ss[i].1.drop j)) (ss.drop (i+1)),()))):=by
  intro n
  induction n with
  |zero=>simp_all
  |succ n ih=>
   refine⟨fun i b hi h' hb=> ?_,fun i j b hi hj h' hb=> ?_⟩
   ·simp only[Jl,Xw,AB]
    by_cases hc:i<ss.length
    ·rw[AJe (by omega)]
     have hm:=h _ (ALk hc);have e1:(ss.length-i)*1026=(ss.length-i-1)*1026+1026:=by
      omega
     have:=ih.2 i 0 b hc (by omega) (by omega) (by omega);rw[show((0:Nat):Int)=0 from rfl,AP7]at this;rw[this,drop_cons hc];rfl
    ·rw[AJk (by omega),ALm (by omega)]
     rfl
   ·have hm:=h _ (ALk hi)
    simp only[JV,YF,AB];have c1:(0:Int)<=(i:Int)/\(i:Int)<(ss.length:Int):=by omega
    rw[AJe c1,Ah hi];simp only[AJe c1];have hbb:i*1024<=2^20:=by
     omega
    by_cases hc:j<ss[i].1.length
    ·have c2:(0:Int)<=(j:Int)/\(j:Int)<(ss[i].1.length:Int):=by omega
     rw[AJe c2.2,AJe c2,Ah hc,gS (ss[i].1[j]),ZH (by omega)];simp only[AD];rw[AG (by omega) (by omega),show((j:Int)+1)=((j+1:Nat):Int)by omega,drop_cons hc];have hk:=Zo (e:=ss[i].1[j]) (l:=b);exact ih.2 i (j+1) _ hi (by omega) (by omega) (by omega)
    ·rw[AJk (by omega),AG (by omega) (by omega),show((i:Int)+1)=((i+1:Nat):Int)by omega,ALm (by omega)]
     exact ih.1 (i+1) b (by omega) (by grind) (by omega)
 have hf:(ss.length-0)*1026+1<=AW:=by
  have:ss.length*1026<=1024*1026:=AME _ hs;exact AS_ (Aa (by omega))
 exact(key AW).1 0 [] (by omega) hf (by simp)
theorem ADK(e:AJ):∀l:List AJ,Af Ap (keep e l)<=Af Ap l+(1+Ap e)
 |[]=>by simp[keep,Af]
 |x::l=>by
  have:=ADK e l;grind[keep,better,Af]
theorem ABG:∀{l k:List AJ},Af Ap (EF k l)<=Af Ap k+Af Ap l
 |[],k=>by simp[EF,Af]
 |e::l,k=>by
  have h1:=ABG (l:=l) (k:=keep e k);grind[ADK,EF,Af]
theorem ADc:∀{l:List AM} {k:List AJ},Af Ap (Gt k l)<=Af Ap k+Af Aj l
 |[],k=>by simp[Gt,Af]
 |s::l,k=>by
  have h1:=ADc (l:=l) (k:=EF k s.1);have h2:=ABG (l:=s.1) (k:=k);have:Aj s=Af Ap s.1+Af Ap s.2.1:=rfl;grind[Gt,Af]
theorem oA{y:AJ}:∀{l:List AM} {k:List AJ},y∈Gt k l->y∈k\/ ∃s∈l,y∈s.1
 |[],k,h=> .inl h
 |s::l,k,h=>by
  rcases oA (l:=l) h with h|⟨t,ht,h⟩
  all_goals grind[gu]
def AAh(b:Bool)(x:AM):AM×Bool:=if b then(x,true)else(Dp,false)
def pkF(ss:List AM)(q:AM×Bool):PF:=(((((),(),q.1.2.2.1,()),q.2,()),()),(ss,q.1.1,q.1.2.1,()))
theorem yI{c:CQ}{ss:List AM}{lost:AAA}{n upto:Int}(hc:c.1.length<=2^20)(hs:ss.length<=1024)(hn:∀s∈ss,s.1.length<=1024)(hw:Af Aj ss<=2^24)(Qt:∀s∈ss,vf s)(hl:lost.length<=2^20):
  ix c lost n upto ss=some (pkF ss (cx c ss lost n upto)):=by
 have hfs:cx c ss lost n upto=AAh (EM c&&(decide (ss.length=c.1.length)&&(BC c lost&&(!holds c lost&&(lost.contains n&&((others lost 0 ss).all CH&&CH (Gt [] (others lost 0 ss),[],upto,()))))))) (Gt [] (others lost 0 ss),[],upto,()):=rfl;rw[hfs];unfold ix gK;rw[show(c.1,c.2.1,())=c from rfl,GL (by omega),vG hc hl,K5 (by omega)];simp only[AD,Aq,Cv];have k11:∀(k i:Nat) (o:List AM),(∀s∈o,s∈ss)->o.length<=ss.length->Af Aj o<=2^24->i<=o.length->o.length-i<k->
   Nj k upto i ss 0 [] [] 0 [] [] o=some (pkF ss (AAh ((o.drop i).all CH&&CH (Gt [] o,[],upto,())) (Gt [] o,[],upto,()))):=by
  intro k
  induction k with
  |zero=>omega
  |succ k ih=>
   intro i o ho hol how hi h;simp only[Nj,cr,AB,Aq];by_cases Dc:i<o.length
   ·have c1:(0:Int)<=(i:Int)/\(i:Int)<(o.length:Int):=by omega
    have hm:=ho _ (ALk Dc);have hws:=AY (f:=Aj) hm;rw[AJe c1.2,AJe c1,Ah Dc,Oy (o[i]),Fy (by omega) (Qt _ hm),AG (by omega) (by omega),show((i:Int)+1)=((i+1:Nat):Int)by omega,ih (i+1) o ho hol how (by omega) (by omega),drop_cons Dc];simp only[AD,ARN];rcases AJd (CH o[i])with hb|hb<;>rw[hb]
    all_goals rfl
   ·rw[AJk (by omega),ALm (by omega),pC (by omega) (fun s hs=>hn s (ho s hs))]
    have hu:=ADc (l:=o) (k:=[]);simp only[Af]at hu;simp only[AD];rw[Fy (s:=(Gt [] o,[],upto,())) (by show Af Ap (Gt [] o)+Af Ap []<=_;grind[Af]) ⟨fun e he=>by
     rcases oA he with he|⟨t,ht,he⟩
     ·simp_all
     ·exact(Qt t (ho t ht)).1 e he,fun e he=>by simp_all⟩]
    simp only[AD,List.all_nil,ALl];rcases AJd (CH (Gt [] o,[],upto,()))with hb|hb<;>rw[hb]<;>rfl
 have k6:∀(k i:Nat) (o:List AM),(∀s∈o,s∈ss)->i<=ss.length->(ss.length-i)+ss.length+2<=k->o.length<=i->Af Aj o+Af Aj (ss.drop i)<=2^24->
   QH k lost upto i ss 0 [] [] 0 [] [] o=some (pkF ss (AAh ((o++others lost i (ss.drop i)).all CH&&CH (Gt [] (o++others lost i (ss.drop i)),[],upto,())) (Gt [] (o++others lost i (ss.drop i)),[],upto,()))):=by
  intro k
  induction k with
  |zero=>omega
  |succ k ih=>
   intro i o ho hi h hol how;simp only[QH,fu,AB,Aq];by_cases Dc:i<ss.length
   ·have c1:(0:Int)<=(i:Int)/\(i:Int)<(ss.length:Int):=by omega
    have c2:o.length+1<=CN:=by rw[Am];omega
    rw[drop_cons Dc]at how;simp only[Af]at how;have hws:Aj ss[i]+(Af Ap []+0)=Aj ss[i]:=rfl;rw[AJe c1.2,K5 (by omega),AJe c1,AJe c2,Ah Dc,Oy (ss[i]),AG (by omega) (by omega),show((i:Int)+1)=((i+1:Nat):Int)by omega];simp only[AD];rw[ih (i+1) o ho (by omega) (by omega) (by omega) (by omega)];rw[ih (i+1) (o++[ss[i]]) (fun s hs=>by
     grind) (by omega) (by omega) (by simp_all) (by grind[bU,Af])]
    rw[drop_cons Dc];simp only[others];grind
   ·have:=k11 k 0 o ho (by omega) (by omega) (by omega) (by omega)
    rw[show((0:Nat):Int)=0 from rfl,AP7]at this;rw[AJk (by omega),this,ALm (by omega)];simp only[others,ALu]
 have:=k6 AW 0 [] (by simp) (by omega) (AS_ (Aa (by omega))) (by simp) (by grind[Af]);rw[show((0:Nat):Int)=0 from rfl,AP7,AQH]at this;rw[this];rcases AJd (EM c)with h1|h1
 rotate_left
 ·rw[h1];rfl
 by_cases h2:ss.length=c.1.length
 rotate_left
 ·rw[AJk (by omega),h1,AQK h2];rfl
 rw[AJe (by omega),h1,AM_ h2];rcases AJd (BC c lost)with h3|h3
 rotate_left
 ·rw[h3];rfl
 rw[h3];rcases AJd (holds c lost)with h4|h4
 ·rw[h4];rfl
 rw[h4];rcases AJd (lost.contains n)with h5|h5
 rotate_left
 ·rw[h5];rfl
 simp_all
theorem tE{α:Type}{l:List α}{i j:Nat}{x d:α}(hi:i<l.length):(l.set i x).getD j d=if i=j then x else l.getD j d:=by
 grind
theorem RE{w:AA}{n:Int}(h:Au w n=0):0<=n/\n<w.Bd.length/\n∉w.lost:=by
 unfold Au at h;split at h
 ·omega
 rename_i h1;simp only[AMv,AM0,An]at h1;grind
theorem gl{s x:Ak}:∀{l:List Ak},x∈eo s l↔x=s\/x∈l
 |[]=>by simp[eo]
 |y::l=>by
  simp only[eo];split
  ·simp
  ·simp only[ANC,gl (l:=l)]
   grind
theorem AAx{s:Ak}:∀{l:List Ak},(eo s l).length=l.length+1
 |[]=>rfl
 |y::l=>by
  simp only[eo];split
  ·rfl
  ·simp only[AMK,AAx (l:=l)]
theorem AAb{s:Ak}:∀{l:List Ak},XT (fun s:Ak=>s.1) l->(∀x∈l,x.1≠s.1)->XT (fun s:Ak=>s.1) (eo s l)
 |[],_,_=>by simp[eo,XT]
 |y::l,h,hs=>by
  have h':=h;simp only[XT,APd]at h;simp only[eo];split
  ·rename_i hy
   simp only[XT,APd,ANC];grind
  ·rename_i hy
   simp only[XT,APd];refine⟨fun a ha=> ?_,AAb h.2 fun x hx=>hs x (by simp[hx])⟩;rcases gl.1 ha with rfl|ha
   all_goals grind
section
variable{w:AA} (h:RX w)
include h
theorem RX.node{n:Int}(hn:Au w n=0):(0<=n/\n<(Ae w).1.length)/\n.toNat<w.Bd.length/\n∉w.lost:=by
 obtain⟨a,b,c⟩:=RE hn;have:=h.vY;exact⟨⟨a,by show n<(w.1.length:Int);omega⟩,by omega,c⟩
theorem RX.uA{n:Int}(hn:Au w n=0){s:AM}(hs:jU s):RX (w.CS (w.Bd.set n.toNat s)):=by
 obtain⟨h1,h2,h3⟩:=h.node hn;refine⟨h.cfg,by(try simp only[H.AA.Bd,H.AA.lost,H.AA.BF,H.AA.trim,H.AA.AL,H.AA.CY,H.AA.Ai,H.AA.CI,H.AA.I6,H.AA.CS,H.AA.FH,H.AA.I1,H.AA.Bm,H.AA.Ct,H.AA.C8,H.AA.Dd,H.AA.FV,CT,Ae]at*);simpa using h.vY,h.lost,h.I6,fun i hi=> ?_,h.rH,h.we,h.nmd,h.AL,h.jR,h.CY,h.tO,h.Ai,h.Ui,h.CI,h.de⟩
 (try simp only[H.AA.Bd,H.AA.lost,H.AA.BF,H.AA.trim,H.AA.AL,H.AA.CY,H.AA.Ai,H.AA.CI,H.AA.I6,H.AA.CS,H.AA.FH,H.AA.I1,H.AA.Bm,H.AA.Ct,H.AA.C8,H.AA.Dd,H.AA.FV,CT,Ae]at*);simp only[ARg]at hi
 simp only[tE h2];split
 ·grind
 ·exact h.Bd i hi
theorem RX.store{n:Int}(hn:Au w n=0):jU (storeAt w n):=(h.Bd _ (h.node hn).2.1).1
theorem l7{n:Int}{q:AM×Bool}(hn:Au w n=0)(hs:q.2=true->jU q.1)(e:(putAt w n q).2=0):RX (putAt w n q).1:=by
 unfold putAt at*;split at e
 ·rename_i hq
  rw[AJe hq];exact h.uA hn (hs hq)
 omega
theorem AJM{a:Int}(e:(Qk w a).2=0):RX (Qk w a).1:=by
 unfold Qk at*;split at e
 ·omega
 rename_i h4;rw[AJk h4];simp only at e|-;split at e
 ·omega
 rename_i hq;rw[AJk hq];simp only[AMv,AM0]at hq;obtain⟨_,r1,r2,r3,r4,r5⟩:=ACD hq;rw[r2]at r1;rw[r2,r3];have hnw:=h.we;have hl:((CT w).1++[(BM a,false,0,())]).length=w.BF.length+1:=by simp[CT]
 refine⟨h.cfg,h.vY,h.lost,h.I6,h.Bd,r1,?_,by(try simp only[H.AA.Bd,H.AA.lost,H.AA.BF,H.AA.trim,H.AA.AL,H.AA.CY,H.AA.Ai,H.AA.CI,H.AA.I6,H.AA.CS,H.AA.FH,H.AA.I1,H.AA.Bm,H.AA.Ct,H.AA.C8,H.AA.Dd,H.AA.FV,CT,Ae]at*);simp,fun x hx=> ?_,?_,fun m hm=>by grind,h.tO,h.Ai,h.Ui,fun s hs=> ?_,h.de⟩
 ·grind
 ·replace hx:x∈w.AL++[((w.BF.length:Int)+1,[],())]:=hx
  simp only[AMt,ASP]at hx;have Ad4:w.BF.length<30:=r5;have qR:(((CT w).1++[(BM a,false,0,())]).length:Int)=(w.BF.length:Int)+1:=by omega
  show fK (Ae w) x/\x.1<=(((CT w).1++[(BM a,false,0,())]).length:Int)
  rw[qR];rcases hx with hx|rfl
  ·have:=h.AL x hx
   grind
  ·exact⟨⟨h.cfg,by omega,by simp,by simp,by simp[Sp]⟩,by omega⟩
 ·show XT (fun x:AU=>x.1) (w.AL++[((w.BF.length:Int)+1,[],())])
  simp only[XT,List.pairwise_append,APd,List.Pairwise.nil,ASP,AQ6];refine⟨h.jR,by simp,fun x hx y hy=> ?_⟩;subst hy;have:=(h.AL x hx).2;omega
 ·have:=h.CI s hs
  grind
end
section
variable{w:AA} (h:RX w)
include h
theorem AQh{a:Int}{d:ABF}(hd:d.length<=40)(e:(doAdd w a d).2=0):RX (doAdd w a d).1:=by
 unfold doAdd at*;split at e
 ·omega
 rename_i ha;rw[AJk ha];simp only[AMv,AM0,An]at ha;simp only at e|-;split at e
 ·omega
 rename_i hq;rw[AJk hq];simp only[AQd,AV2,AMv,AM0,ARa,List.any_eq_false,ARL]at hq;obtain⟨hq,h120,hno⟩:=hq;have hi:a.toNat<w.AL.length:=by omega
 have hx:=h.AL _ (BJ (d:=CO) hi);obtain⟨_,r1,r2,r3⟩:=YN hq;rw[r2]at r1;rw[r2,r3];rw[r3]at hno;have hnn:=r1.n;simp only[AMf,AMK,APb]at hnn;obtain⟨p1,p2,p3⟩:=Nv (e:=(w.AL.getD a.toNat CO).1) (o:=((w.AL.getD a.toNat CO).2.1.length:Int)+1) hx.1.ep (by omega);have hns:=h.Ui;refine⟨h.cfg,h.vY,h.lost,h.I6,h.Bd,h.rH,by(try simp only[H.AA.Bd,H.AA.lost,H.AA.BF,H.AA.trim,H.AA.AL,H.AA.CY,H.AA.Ai,H.AA.CI,H.AA.I6,H.AA.CS,H.AA.FH,H.AA.I1,H.AA.Bm,H.AA.Ct,H.AA.C8,H.AA.Dd,H.AA.FV,CT,Ae]at*);simpa using h.we,h.nmd,fun x vW=> ?_,?_,h.CY,h.tO,h.Ai,by grind[AAx],fun s hs=> ?_,AAb h.de fun x hx=>by grind⟩
 ·rcases ARW vW with vW|rfl
  ·exact h.AL x vW
  ·exact⟨r1,hx.2⟩
 ·have:=h.jR
  show XT (fun x:AU=>x.1) (w.AL.set a.toNat ((w.AL.getD a.toNat CO).1,(w.AL.getD a.toNat CO).2.1++[(d,[],false,())],()))
  simp only[XT,AVV,List.getElem_set,ARg]at this|-;grind
 ·rcases gl.1 hs with rfl|hs
  ·simp_all
  ·exact h.CI s hs
theorem AI2{a b n:Int}(e:(OL w a b n).2=0):RX (OL w a b n).1:=by
 unfold OL at*;split at e
 ·omega
 rename_i h1;rw[AJk h1];simp only at e|-;split at e
 ·omega
 rename_i h2;rw[AJk h2];split at e
 ·omega
 rename_i h3;rw[AJk h3];split at e
 ·omega
 rename_i h4;rw[AJk h4];grind[l7,qT]
theorem oR{all:Bool}{s:AM}{n:Int}(hn:0<=n/\n<(Ae w).1.length):∀{ws:List AU} {ss:List Ak},
  (FB all (Ae w) s w.BF n ws ss).1=ws.map (fun x=>if Pf s w.BF n x then(x.1,BQ (Ae w) s x.1 n 1 x.2.1,())else x)/\
  (FB all (Ae w) s w.BF n ws ss).2.map (fun x=>(x.1,x.2.1))=ss.map (fun x=>(x.1,x.2.1))
 |[],ss=>⟨rfl,rfl⟩
 |x::ws,ss=>by
  simp only[FB,ARZ];split
  ·rename_i ht
   obtain⟨h1,h2⟩:=oR hn (ws:=ws) (ss:=ss.map (T7 all x.1 x.2.1 (BQ (Ae w) s x.1 n 1 x.2.1)));rw[h1,h2];exact⟨rfl,by rw[AR5];rfl⟩
  ·obtain⟨h1,h2⟩:=oR hn (ws:=ws) (ss:=ss)
   rw[h1,h2];simp_all
theorem AJi{all:Bool}{n:Int}(e:(Qi all w n).2=0):RX (Qi all w n).1:=by
 unfold Qi at*;split at e
 ·omega
 rename_i h1;rw[AJk h1];simp only at e|-;split at e
 ·omega
 rename_i h2;rw[AJk h2];simp only[ne_eq,AUm]at h1;simp only[AMv,AM0]at h2;have hn:=(h.node h1).1;obtain⟨s1,s2,s3⟩:=Q0 h2;have hw:=h.uA h1 s2;obtain⟨t1,t2⟩:=oR h (all:=all) (s:=(Cw (storeAt w n)).1) hn (ws:=w.AL) (ss:=w.CI);have ms:∀x∈(FB all (Ae w) (Cw (storeAt w n)).1 w.BF n w.AL w.CI).2,∃y∈w.CI,x.1=y.1/\x.2.1=y.2.1:=fun x hx=>by
  have:(x.1,x.2.1)∈w.CI.map (fun x=>(x.1,x.2.1)):=by grind
  simp_all
 have ml:(FB all (Ae w) (Cw (storeAt w n)).1 w.BF n w.AL w.CI).2.length=w.CI.length:=by
  have:=congrArg List.length t2;grind
 have ma:XT (fun s:Ak=>s.1) (FB all (Ae w) (Cw (storeAt w n)).1 w.BF n w.AL w.CI).2:=by
  have h1:(FB all (Ae w) (Cw (storeAt w n)).1 w.BF n w.AL w.CI).2.map (fun x=>x.1)=w.CI.map (fun x=>x.1):=by
   have:=congrArg (List.map Prod.fst) t2;rw[AR5,AR5]at this;exact this
  have h2:(w.CI.map (fun x:Ak=>x.1)).Pairwise (· < ·):=AU_.2 h.de;grind
 refine⟨h.cfg,hw.vY,h.lost,h.I6,hw.Bd,h.rH,by(try simp only[H.AA.Bd,H.AA.lost,H.AA.BF,H.AA.trim,H.AA.AL,H.AA.CY,H.AA.Ai,H.AA.CI,H.AA.I6,H.AA.CS,H.AA.FH,H.AA.I1,H.AA.Bm,H.AA.Ct,H.AA.C8,H.AA.Dd,H.AA.FV,CT,Ae]at*);simp only[t1,ARf];exact h.we,by(try simp only[H.AA.Bd,H.AA.lost,H.AA.BF,H.AA.trim,H.AA.AL,H.AA.CY,H.AA.Ai,H.AA.CI,H.AA.I6,H.AA.CS,H.AA.FH,H.AA.I1,H.AA.Bm,H.AA.Ct,H.AA.C8,H.AA.Dd,H.AA.FV,CT,Ae]at*);simpa using h.nmd,fun x hx=> ?_,?_,fun m hm=> ?_,h.tO,h.Ai,by(try simp only[H.AA.Bd,H.AA.lost,H.AA.BF,H.AA.trim,H.AA.AL,H.AA.CY,H.AA.Ai,H.AA.CI,H.AA.I6,H.AA.CS,H.AA.FH,H.AA.I1,H.AA.Bm,H.AA.Ct,H.AA.C8,H.AA.Dd,H.AA.FV,CT,Ae]at*);simp only[ml];exact h.Ui,fun x hx=> ?_,ma⟩
 ·(try simp only[H.AA.Bd,H.AA.lost,H.AA.BF,H.AA.trim,H.AA.AL,H.AA.CY,H.AA.Ai,H.AA.CI,H.AA.I6,H.AA.CS,H.AA.FH,H.AA.I1,H.AA.Bm,H.AA.Ct,H.AA.C8,H.AA.Dd,H.AA.FV,CT,Ae]at*);simp only[t1]at hx
  obtain⟨y,hy,rfl⟩:=ARG.1 hx;have hy':=h.AL y hy;split
  ·obtain⟨k1,k2,k3⟩:=eW (s:=(Cw (storeAt w n)).1) (ep:=y.1) hn (o:=1) hy'.1.words
   exact⟨⟨h.cfg,hy'.1.ep,k3▸hy'.1.n,k1,APp k2 hy'.1.opn⟩,hy'.2⟩
  ·exact hy'
 ·show XT (fun x:AU=>x.1) (FB all (Ae w) (Cw (storeAt w n)).1 w.BF n w.AL w.CI).1
  rw[t1];simp only[XT,AU_];refine h.jR.imp fun{a b} v7=> ?_
  grind
 ·obtain⟨y,hy,rfl⟩:=ARG.1 hm
  have hy':=h.CY y hy;refine⟨AIu hn hy'.1,?_⟩;grind[Mf]
 ·obtain⟨y,hy,e1,e2⟩:=ms x hx
  have:=h.CI y hy;simp_all
theorem AIF{n k:Int}(e:(OT w n k).2=0):RX (OT w n k).1:=by
 unfold OT at*;split at e
 ·omega
 rename_i h1;rw[AJk h1];exact l7 h (by omega) (fun hq=>(Q0 hq).2.1) e
theorem AG2{n:Int}(e:(Ob w n).2=0):RX (Ob w n).1:=by
 unfold Ob at*;split at e
 ·omega
 rename_i h1;rw[AJk h1];exact l7 h (by omega) (fun hq=>(yi hq).2.1) e
theorem AJo{n:Int}(e:(Rw w n).2=0):RX (Rw w n).1:=by
 unfold Rw at*;split at e
 ·omega
 rename_i h1;rw[AJk h1];simp only[ne_eq,AUm]at h1;obtain⟨hn,hn2,hn3⟩:=h.node h1;have fw:∀x∈w.AL,(CC (Ae w) x n).1=(x.1,x.2.1.map (Et n),()):=fun x hx=>(gL (h.AL x hx).1).2
 refine⟨h.cfg,by(try simp only[H.AA.Bd,H.AA.lost,H.AA.BF,H.AA.trim,H.AA.AL,H.AA.CY,H.AA.Ai,H.AA.CI,H.AA.I6,H.AA.CS,H.AA.FH,H.AA.I1,H.AA.Bm,H.AA.Ct,H.AA.C8,H.AA.Dd,H.AA.FV,CT,Ae]at*);simpa using h.vY,Mo h.lost hn,?_,fun i hi=> ?_,h.rH,by(try simp only[H.AA.Bd,H.AA.lost,H.AA.BF,H.AA.trim,H.AA.AL,H.AA.CY,H.AA.Ai,H.AA.CI,H.AA.I6,H.AA.CS,H.AA.FH,H.AA.I1,H.AA.Bm,H.AA.Ct,H.AA.C8,H.AA.Dd,H.AA.FV,CT,Ae]at*);simpa using h.we,by(try simp only[H.AA.Bd,H.AA.lost,H.AA.BF,H.AA.trim,H.AA.AL,H.AA.CY,H.AA.Ai,H.AA.CI,H.AA.I6,H.AA.CS,H.AA.FH,H.AA.I1,H.AA.Bm,H.AA.Ct,H.AA.C8,H.AA.Dd,H.AA.FV,CT,Ae]at*);simpa using h.nmd,fun x hx=> ?_,?_,fun m hm=> ?_,h.tO,h.Ai,h.Ui,h.CI,h.de⟩
 ·grind[holds,Ae,Ox]
 ·(try simp only[H.AA.Bd,H.AA.lost,H.AA.BF,H.AA.trim,H.AA.AL,H.AA.CY,H.AA.Ai,H.AA.CI,H.AA.I6,H.AA.CS,H.AA.FH,H.AA.I1,H.AA.Bm,H.AA.Ct,H.AA.C8,H.AA.Dd,H.AA.FV,CT,Ae]at*);simp only[ARg]at hi
  simp only[tE hn2];split
  ·exact⟨jU.nil,fun _=>rfl⟩
  ·rename_i aO
   refine⟨(h.Bd i hi).1,fun hl=>(h.Bd i hi).2 ?_⟩;grind[ABD]
 ·obtain⟨y,hy,rfl⟩:=ARG.1 hx
  have hy':=h.AL y hy;refine⟨(gL hy'.1).1,?_⟩;simp_all
 ·(try simp only[H.AA.Bd,H.AA.lost,H.AA.BF,H.AA.trim,H.AA.AL,H.AA.CY,H.AA.Ai,H.AA.CI,H.AA.I6,H.AA.CS,H.AA.FH,H.AA.I1,H.AA.Bm,H.AA.Ct,H.AA.C8,H.AA.Dd,H.AA.FV,CT,Ae]at*);simp only[XT,AU_]
  refine List.Pairwise.imp_of_mem (fun{a b} ha hb v7=> ?_) h.jR;simp_all
 ·obtain⟨y,hy,rfl⟩:=ARG.1 hm
  have hy':=h.CY y hy;obtain⟨k1,k2⟩:=wD (n:=n) hy'.1;refine⟨k1,?_⟩;simp_all
theorem AJ8{n:Int}(e:(UH w n).2=0):RX (UH w n).1:=by
 unfold UH at*;split at e
 ·omega
 rename_i h1;rw[AJk h1];simp only at e|-;split at e
 ·omega
 rename_i h2;rw[AJk h2];simp only[AMv,AM0]at h1 h2;obtain⟨s1,s2,s3,s4⟩:=AIC h2;rw[List.contains_eq_mem,ALh]at h1;have hnn:=(Eo.1 h.lost).2.1 n h1;have hns:=h.vY;have hn2:n.toNat<w.Bd.length:=by
  have:n<(w.1.length:Int):=hnn.2;omega
 refine⟨h.cfg,by grind,TN _ h.lost,?_,fun i hi=> ?_,h.rH,h.we,h.nmd,h.AL,h.jR,h.CY,h.tO,h.Ai,h.Ui,h.CI,h.de⟩
 ·refine .inr ?_
  rw[ARJ];intro hh
  replace hh:holds (Ae w) (less w.lost [n])=true:=hh
  have:=uy (m:=w.lost) hh h.lost fun x hx=>(AUl.1 hx).1
  simp_all
 ·(try simp only[H.AA.Bd,H.AA.lost,H.AA.BF,H.AA.trim,H.AA.AL,H.AA.CY,H.AA.Ai,H.AA.CI,H.AA.I6,H.AA.CS,H.AA.FH,H.AA.I1,H.AA.Bm,H.AA.Ct,H.AA.C8,H.AA.Dd,H.AA.FV,CT,Ae]at*);simp only[ARg]at hi
  simp only[tE hn2];split
  ·grind[vE,List.mem_singleton]
  ·exact⟨(h.Bd i hi).1,fun hl=>(h.Bd i hi).2 (vE.1 hl).1⟩
theorem AJj(e:(UJ w).2=0):RX (UJ w).1:=by
 unfold UJ at*;split at e
 ·omega
 rename_i h1;rw[AJk h1];split at e
 ·omega
 rename_i h2;rw[AJk h2];simp only[AQd,ALh,AV2]at h1;obtain⟨k,k1,k2,k3,k4⟩:=S_ h.rH (by show 0<w.BF.length;omega);have k1':k<w.BF.length:=k1;have eH:BR w.BF=(k:Int)+1:=k2;have hn:w.BF.length<=30:=h.rH.n;refine⟨h.cfg,h.vY,h.lost,h.I6,h.Bd,h.rH,h.we,by(try simp only[H.AA.Bd,H.AA.lost,H.AA.BF,H.AA.trim,H.AA.AL,H.AA.CY,H.AA.Ai,H.AA.CI,H.AA.I6,H.AA.CS,H.AA.FH,H.AA.I1,H.AA.Bm,H.AA.Ct,H.AA.C8,H.AA.Dd,H.AA.FV,CT,Ae]at*);simp,h.AL,h.jR,fun m hm=> ?_,h.tO,h.Ai,h.Ui,h.CI,h.de⟩
 replace hm:m∈[r6 (BR w.BF) w.BF.length]:=hm
 simp only[ASP]at hm;subst hm;refine⟨⟨h.cfg,?_,?_,ij h.cfg,List.Pairwise.nil,by simp[r6],by simp[r6],rfl⟩,rfl,rfl⟩
 ·show 1<=BR w.BF/\BR w.BF<=30
  omega
 ·show BR w.BF+1<=(w.BF.length:Int)/\(w.BF.length:Int)<=30
  omega
theorem AK7{n:Int}(e:(Ti w n).2=0):RX (Ti w n).1:=by
 unfold Ti at*;split at e
 ·omega
 rename_i m ms hm;simp only at e|-;split at e
 ·omega
 rename_i h1;rw[AJk h1];split at e
 ·omega
 rename_i h2;rw[AJk h2];split at e
 ·omega
 rename_i h3;rw[AJk h3];simp only[ne_eq,AUm]at h1;simp only[AQd,AV2,AMv,AM0]at h3;obtain⟨s1,s2,s3⟩:=mX h3.1;obtain⟨m1,m2,m3,m4⟩:=z6 h3.2;have hw:=h.uA h1 s2;have hm1:=h.nmd;rw[hm]at hm1;refine⟨h.cfg,hw.vY,h.lost,h.I6,hw.Bd,h.rH,h.we,by omega,h.AL,h.jR,fun x hx=> ?_,h.tO,h.Ai,h.Ui,h.CI,h.de⟩;rcases ANC.1 hx with rfl|hx
 ·have:=h.CY m (by simp_all)
  refine⟨m2,?_⟩;simp_all
 simp_all
theorem AJt(e:(Tb w).2=0):RX (Tb w).1:=by
 unfold Tb at*;split at e
 ·omega
 rename_i m ms hm;simp only at e|-;split at e
 ·omega
 rename_i h3;rw[AJk h3];simp only[AMv,AM0]at h3;obtain⟨m1,m2,m3,m4,m5⟩:=AAV h3;have hm1:=h.nmd;rw[hm]at hm1;refine⟨h.cfg,h.vY,h.lost,h.I6,h.Bd,h.rH,h.we,by omega,h.AL,h.jR,fun x hx=> ?_,h.tO,h.Ai,h.Ui,h.CI,h.de⟩;rcases ANC.1 hx with rfl|hx
 ·have:=h.CY m (by simp_all)
  refine⟨m2,?_⟩;simp_all
 simp_all
theorem AM1{b n:Int}(e:(bd w b n).2=0):RX (bd w b n).1:=by
 unfold bd at*;split at e
 ·omega
 rename_i m ms hm;split at e
 ·omega
 rename_i x hx;split at e
 ·omega
 rename_i h1;rw[AJk h1];split at e
 ·omega
 rename_i h2;rw[AJk h2];grind[l7,qT]
theorem AGl(e:(Oj w).2=0):RX (Oj w).1:=by
 unfold Oj at*;split at e
 ·omega
 rename_i m ms hm;split at e
 ·omega
 rename_i h1;rw[AJk h1];simp only at e|-;split at e
 ·omega
 rename_i h2;rw[AJk h2];simp only[AMv,AM0]at h2;obtain⟨r0,r1,k,k1,k2,k3,k4,k5,k6,k7,k8⟩:=ABU h2;rw[k6]at r1;rw[k6];have hl:(Pv (CT w).1 k (m.2.2.2.2.2.1.length:Int)).length=w.BF.length:=by simp[Pv,CT]
 refine⟨h.cfg,h.vY,h.lost,h.I6,h.Bd,r1,h.we,by(try simp only[H.AA.Bd,H.AA.lost,H.AA.BF,H.AA.trim,H.AA.AL,H.AA.CY,H.AA.Ai,H.AA.CI,H.AA.I6,H.AA.CS,H.AA.FH,H.AA.I1,H.AA.Bm,H.AA.Ct,H.AA.C8,H.AA.Dd,H.AA.FV,CT,Ae]at*);simp,fun x hx=> ?_,h.jR,fun x hx=>by grind,h.tO,h.Ai,h.Ui,fun x hx=> ?_,h.de⟩
 ·(try simp only[H.AA.Bd,H.AA.lost,H.AA.BF,H.AA.trim,H.AA.AL,H.AA.CY,H.AA.Ai,H.AA.CI,H.AA.I6,H.AA.CS,H.AA.FH,H.AA.I1,H.AA.Bm,H.AA.Ct,H.AA.C8,H.AA.Dd,H.AA.FV,CT,Ae]at*);simp only[hl];exact h.AL x hx
 ·(try simp only[H.AA.Bd,H.AA.lost,H.AA.BF,H.AA.trim,H.AA.AL,H.AA.CY,H.AA.Ai,H.AA.CI,H.AA.I6,H.AA.CS,H.AA.FH,H.AA.I1,H.AA.Bm,H.AA.Ct,H.AA.C8,H.AA.Dd,H.AA.FV,CT,Ae]at*);simp only[hl];exact h.CI x hx
theorem AI3{a:Int}(e:(Xi w a).2=0):RX (Xi w a).1:=by
 unfold Xi at*;simp only at e|-;split at e
 ·omega
 rename_i h2;rw[AJk h2];simp only[AMv,AM0]at h2;obtain⟨r0,r1,r2⟩:=AB_ h2;rw[r2]at r1;rw[r2];exact⟨h.cfg,h.vY,h.lost,h.I6,h.Bd,r1,h.we,h.nmd,h.AL,h.jR,h.CY,h.tO,h.Ai,h.Ui,h.CI,h.de⟩
theorem AEI{a k:Int}(e:(L6 w a k).2=0):RX (L6 w a k).1:=by
 unfold L6 at*;split at e
 ·omega
 rename_i h1;rw[AJk h1];simp only at e|-;split at e
 ·omega
 rename_i h2;rw[AJk h2];simp only[ne_eq,AUm]at h2;refine⟨h.cfg,h.vY,h.lost,h.I6,h.Bd,h.rH,h.we,h.nmd,h.AL,h.jR,h.CY,by(try simp only[H.AA.Bd,H.AA.lost,H.AA.BF,H.AA.trim,H.AA.AL,H.AA.CY,H.AA.Ai,H.AA.CI,H.AA.I6,H.AA.CS,H.AA.FH,H.AA.I1,H.AA.Bm,H.AA.Ct,H.AA.C8,H.AA.Dd,H.AA.FV,CT,Ae]at*);simpa using h.tO,fun r hr=> ?_,h.Ui,h.CI,h.de⟩;rcases ARW hr with hr|rfl
 ·exact h.Ai r hr
 ·exact wP h2
theorem AKy{a:Int}(e:(VD w a).2=0):RX (VD w a).1:=by
 unfold VD at*;split at e
 ·omega
 rename_i h1;rw[AJk h1];have hs:(w.AL.eraseIdx a.toNat).Sublist w.AL:=List.eraseIdx_sublist _ _;exact⟨h.cfg,h.vY,h.lost,h.I6,h.Bd,h.rH,APp hs.length_le h.we,h.nmd,fun x hx=>h.AL x (hs.subset hx),h.jR.sublist hs,h.CY,h.tO,h.Ai,h.Ui,h.CI,h.de⟩
theorem AKi{all:Bool}{d:Al}(hd:d.2.2.2.2.1.length<=40)(e:(LO all w d).2=0):RX (LO all w d).1:=by
 unfold LO at*;by_cases hc:d.1=1
 ·rw[AJe hc]at e|-;exact AJM h e
 rw[AJk hc]at e|-;clear hc;by_cases hc:d.1=2
 ·rw[AJe hc]at e|-;exact AQh h hd e
 rw[AJk hc]at e|-;clear hc;by_cases hc:d.1=3
 ·rw[AJe hc]at e|-;exact AI2 h e
 rw[AJk hc]at e|-;clear hc;by_cases hc:d.1=4
 ·rw[AJe hc]at e|-;exact AJi h e
 rw[AJk hc]at e|-;clear hc;by_cases hc:d.1=5
 ·rw[AJe hc]at e|-;exact AIF h e
 rw[AJk hc]at e|-;clear hc;by_cases hc:d.1=6
 ·rw[AJe hc]at e|-;exact AJo h e
 rw[AJk hc]at e|-;clear hc;by_cases hc:d.1=7
 ·rw[AJe hc]at e|-;exact AJ8 h e
 rw[AJk hc]at e|-;clear hc;by_cases hc:d.1=8
 ·rw[AJe hc]at e|-;exact AJj h e
 rw[AJk hc]at e|-;clear hc;by_cases hc:d.1=9
 ·rw[AJe hc]at e|-;exact AK7 h e
 rw[AJk hc]at e|-;clear hc;by_cases hc:d.1=10
 ·rw[AJe hc]at e|-;exact AJt h e
 rw[AJk hc]at e|-;clear hc;by_cases hc:d.1=11
 ·rw[AJe hc]at e|-;exact AM1 h e
 rw[AJk hc]at e|-;clear hc;by_cases hc:d.1=12
 ·rw[AJe hc]at e|-;exact AGl h e
 rw[AJk hc]at e|-;clear hc;by_cases hc:d.1=13
 ·rw[AJe hc]at e|-;exact AI3 h e
 rw[AJk hc]at e|-;clear hc;by_cases hc:d.1=14
 ·rw[AJe hc]at e|-;exact AEI h e
 rw[AJk hc]at e|-;clear hc;by_cases hc:d.1=15
 ·rw[AJe hc]at e|-;exact AKy h e
 rw[AJk hc]at e|-;grind[AG2]
end
theorem j9{d:Al}(h:GS d=true):d.2.2.2.2.1.length<=40:=by
 unfold GS at h;simp_all
theorem ADL{all:Bool}{w:AA}{d:Al}(e:(Fu all w d).2=0):DA (Fu all w d).1=true:=by
 unfold Fu at*;split at e
 ·omega
 rename_i h1;rw[AJk h1];have hw:DA w=true:=by
  simp_all
 have hd:GS d=true:=by
  simp_all
 grind[JG,AKi,j9]
theorem AEi{α:Type}{f:α->Nat}{B:Nat}:∀{l:List α},(∀x∈l,f x<=B)->Af f l<=l.length*(1+B)
 |[],_=>by simp[Af]
 |x::l,h=>by
  have h1:=h x (by simp);have h2:=AEi (l:=l) fun y hy=>h y (by simp[hy])
  grind[Af,List.length_cons,Nat.add_mul]
theorem HO{α:Type}{f:α->Nat}{B N:Nat}{l:List α}(hn:l.length<=N)(h:∀x∈l,f x<=B):Af f l<=N*(1+B):=
 APp (AEi h) (AME _ hn)
theorem zD{α:Type}{f:α->Int}{b:Int}:∀{l:List α} {a:Int},XT f l->(∀x∈l,a<=f x/\f x<b)->(l.length:Int)<=max (b-a) 0
 |[],a,_,_=>by grind
 |x::l,a,h,hb=>by
  simp only[XT,APd]at h;have h1:=hb x (by simp);have h2:=zD (l:=l) (a:=f x+1) h.2 fun y hy=>⟨by grind,(hb y (by simp[hy])).2⟩
  grind
theorem H_{c:CQ}{l:AAA}(h:BC c l=true):l.length<=8:=by
 obtain⟨h1,h2,h3⟩:=Eo.1 h;have:=(F_ h1).2.1;have:=zD (a:=0) (b:=c.1.length) h3 h2;omega
theorem Jp{p:Int}(h:Av p=true):Bp p:=by
 obtain⟨h1,h2,h3⟩:=GM h;grind[G9,Bp]
theorem jU.w{s:AM}(h:jU s):Aj s<=10000:=by
 have h1:=HO (f:=Ap) (B:=40) h.nk fun e he=>(IC.1 (h.kept e he)).len
 have h2:=HO (f:=Ap) (B:=40) h.nl fun e he=>(IC.1 (h.late e he)).len
 unfold Aj;omega
theorem jU.sin{s:AM}(h:jU s):vf s:=
 ⟨fun e he=>Jp (IC.1 (h.kept e he)).pl,fun e he=>Jp (IC.1 (h.late e he)).pl⟩
theorem ve.ATh{c:CQ}{m:Az}(h:ve c m):m.2.2.2.1.length<=60:=by
 have:=zD (f:=fun e:AJ=>e.1) (a:=G9 m.2.1 1) (b:=G9 m.2.1 61) h.asc fun e he=>by
  have h1:=h.seen e he;have h2:=GM (IC.1 h1.1).pl;grind[G9]
 grind[G9]
theorem ve.w{c:CQ}{m:Az}(h:ve c m):CE m<=5000:=by
 have h1:=HO (f:=Ap) (B:=40) h.ATh fun e he=>(IC.1 (h.seen e he).1).len
 have h2:=H_ h.sld;have h3:m.2.2.2.2.2.1.length<=60:=by
  have:=h.n;have hb:=Hs (l:=m.2.2.2.1);omega
 have h4:=HO (f:=Cl) (B:=8) h3 fun l hl=>H_ (h.wrote l hl)
 unfold CE;omega
theorem ve.ein{c:CQ}{m:Az}(h:ve c m):vv m.2.2.2.1:=fun e he=>Jp (IC.1 (h.seen e he).1).pl
theorem ROk.w{c:CQ}{r:AN}(h:ROk c r):Af B_ r.1<=270:=by
 have:=HO (f:=B_) (B:=8) h.n fun e he=>H_ (Wr (h.BF e he).1)
 omega
theorem ROk.tin{c:CQ}{r:AN}(h:ROk c r):Bp r.2.1:=by
 rcases h.trim with h|h
 all_goals grind[Bp,Jp]
theorem fK.w{c:CQ}{w:AU}(h:fK c w):Ao w<=3000:=by
 have:=HO (f:=BG) (B:=48) h.n fun x hx=>by
  have h1:=h.words x hx;grind[H_,BG]
 unfold Ao;omega
def RdS(w:AA):Prop:= ∀r∈w.Ai,∀e∈r.2.2.1,e.2.2.1.length<=40
theorem RX.Wa{w:AA}(h:RX w){s:AM}(hs:s∈w.Bd):jU s:=by
 obtain⟨i,hi,rfl⟩:=AQA hs;have:=(h.Bd i hi).1;simp_all
theorem RX.win{w:AA}(h:RX w)(hr:RdS w):lg w:=by
 have hc:=(F_ h.cfg).2.1;have gO:w.1.length<=8:=hc;have a1:=HO (f:=Aj) (B:=10000) (N:=8) (l:=w.Bd) (by rw[h.vY];omega) fun s hs=>(h.Wa hs).w
 have a2:=H_ h.lost;have a3:=h.rH.w;have a4:=HO (f:=Ao) (B:=3000) h.we fun x hx=>(h.AL x hx).1.w
 have a5:=HO (f:=CE) (B:=5000) h.nmd fun x hx=>(h.CY x hx).1.w
 have a6:=HO (f:=Aw) (B:=5000) (N:=2) (l:=w.Ai) (by rw[h.tO];omega) fun r hx=>by
  have:=HO (f:=B4) (B:=40) (h.Ai r hx).n (hr r hx);unfold Aw;omega
 have a7:=HO (f:=DV) (B:=40) h.Ui fun s hs=>(h.CI s hs).2.2
 refine⟨?_,fun s hs=>(h.Wa hs).sin,h.rH.tin,fun m hm=>(h.CY m hm).1.ein,fun s hs=>Jp (h.CI s hs).1⟩;have a3':Af B_ w.BF<=270:=a3;grind[CX]
theorem xG:∀i,i<8->([0,1,2,3,4,5,6,7]:AAA).drop i=(i:Int)::([0,1,2,3,4,5,6,7]:AAA).drop (i+1):=by decide
theorem bW{k:Int}:PU k=some (((),()),(BM k,())):=by
 unfold PU Wm BM;rcases AJd (BE k 0 255)with hk|hk
 rotate_left
 ·rw[hk]
  obtain⟨m,hm⟩:∃m,AW=m+1:=⟨AW-1,by have:=Aa (n:=0) (by omega);omega⟩;rw[hm];simp only[Ia,PR,Bc,AD,hk,AB];rfl
 rw[hk,AJe rfl];have hk':=An.1 hk;have key:∀(n i:Nat) (b:AAA),i<=8->8-i<n->b.length<=i->
   Ia n k i b=some (((),()),(b++(([0,1,2,3,4,5,6,7]:AAA).drop i).filter (fun i=>(k/2^i.toNat)%2==1),())):=by
  intro n
  induction n with
  |zero=>omega
  |succ n ih=>
   intro i b hi h hb;simp only[Ia,PR,Bc,AD,hk,ALg,AB];by_cases Dc:i<8
   ·have AFv:=yc (k:=k) (i:=i) (by omega) (by omega)
    rw[AJe (show(i:Int)<8 by omega),AJk (by omega),ALN,AFv,xG i Dc,AQ9,ALN,AG (by omega) (by omega),show((i:Int)+1)=((i+1:Nat):Int)by omega,AB];have c2:b.length+1<=CN:=by rw[Am];omega
    by_cases hb':(k/2^i)%2=1
    ·rw[AJe hb',AJe c2,AJe (by simp_all),ih (i+1) _ (by omega) (by omega) (by simp_all),AL3]
     rfl
    grind
   ·have:i=8:=by omega
    simp_all
 have:=key AW 0 [] (by omega) (Aa (by omega)) (by simp);simp_all
theorem gp{d:Al}:W0 d=some ((GS d,()),()):=by
 obtain⟨k,a,b,n,t,⟨⟩⟩:=d;unfold W0 GS;rw[Bc];simp only[AD];rcases AJd (BE k 1 16)with hk|hk
 rotate_left
 ·simp_all
 have hk':=An.1 hk;rw[hk];have dl:decide ((t.length:Int)<=40)=decide (t.length<=40):=by
  grind
 have:k=1\/k=2\/k=3\/k=4\/k=5\/k=6\/k=7\/k=8\/k=9\/k=10\/k=11\/k=12\/k=13\/k=14\/k=15\/k=16:=by omega
 rcases this with h|h|h|h|h|h|h|h|h|h|h|h|h|h|h|h<;>subst h<;>simp only[ALg,dl]<;>clear dl hk hk'<;>
  (unfold cT;simp[Yb];cases a==0<;>cases b==0<;>cases n==0<;>cases t.isEmpty<;>rfl)
theorem ke{w:AU}(hl:w.2.1.length<=2^20):Xf w=some (((dp w.2.1:Int),()),()):=by
 have key:∀(n i:Nat),i<=w.2.1.length->w.2.1.length-i<n->
   J9 n i w.1 w.2.1=some ((((i+dp (w.2.1.drop i):Nat):Int),()),()):=by
  intro n
  induction n with
  |zero=>omega
  |succ n ih=>
   intro i hi h;simp only[J9,Us,AB];by_cases Dc:i<w.2.1.length
   ·have c1:(0:Int)<=(i:Int)/\(i:Int)<(w.2.1.length:Int):=by omega
    rw[AJe c1.2,AJe c1,Ah Dc,AG (by omega) (by omega),show((i:Int)+1)=((i+1:Nat):Int)by omega,ih (i+1) (by omega) (by omega),drop_cons Dc];simp only[dp];cases w.2.1[i].2.2.1 with
    |false=>simp
    |true=>grind
   ·rw[AJk (by omega),ALm (by omega)]
    rfl
 have:=key AW 0 (by omega) (Aa (by omega));rw[ARQ,AP7]at this;exact this
theorem Ik{w:AA}{n:Int}(h1:w.Bd.length<=2^20)(h2:w.lost.length<=2^20):Hk w n=some ((Au w n,()),()):=by
 unfold Hk Au
 (try simp only[H.AA.Bd,H.AA.lost,H.AA.BF,H.AA.trim,H.AA.AL,H.AA.CY,H.AA.Ai,H.AA.CI,H.AA.I6,H.AA.CS,H.AA.FH,H.AA.I1,H.AA.Bm,H.AA.Ct,H.AA.C8,H.AA.Dd,H.AA.FV,CT,Ae]at*)
 rw[AG (by omega) (by omega),Bc,K5 (by omega)];grind
theorem TW{w:AA}{n:Int}(h1:w.AL.length<=2^20):Lq w n=some ((BE n 0 ((w.AL.length:Int)-1),()),()):=by
 grind[Lq,AG,Bc]
theorem sq{w:AA}{e:Int}(hl:Af Ao w.AL<=2^20):ie w e=some ((fM w e,()),()):=by
 have xY:=AX (f:=Ao) (l:=w.AL);have key:∀(n i:Nat),i<=w.AL.length->w.AL.length-i<n->
   O3 n e i w.1 w.2.1 w.2.2.1 w.2.2.2.1 w.2.2.2.2.1 w.2.2.2.2.2.1 w.AL w.2.2.2.2.2.2.2.1 w.2.2.2.2.2.2.2.2.1 w.2.2.2.2.2.2.2.2.2.1 w.2.2.2.2.2.2.2.2.2.2.1=
    some (((match(w.AL.drop i).find? (fun x=>x.1==e)with|some x=>(dp x.2.1:Int)|none=>0),()),()):=by
  intro n
  induction n with
  |zero=>omega
  |succ n ih=>
   intro i hi h;simp only[O3,bo,AB];by_cases Dc:i<w.AL.length
   ·have c1:(0:Int)<=(i:Int)/\(i:Int)<(w.AL.length:Int):=by omega
    rw[AJe c1.2,AJe c1,AJe c1,Ah Dc,AG (by omega) (by omega),show((i:Int)+1)=((i+1:Nat):Int)by omega,ih (i+1) (by omega) (by omega),drop_cons Dc,AVe,show(w.AL[i].1,w.AL[i].2.1,())=w.AL[i]from rfl];have hm:=AY (f:=Ao) (ALk Dc);have hw:Ao w.AL[i]=Af BG w.AL[i].2.1:=rfl;have hlw:=AX (f:=BG) (l:=w.AL[i].2.1);rw[ke (by omega)];cases(w.AL[i].1==e)<;>rfl
   grind
 have:=key AW 0 (by omega) (Aa (by omega));rw[AP7]at this;exact this
theorem kC{w:AA}{r:Ac}{k:Int}(h1:Af Aj w.Bd<=2^20)(h2:w.lost.length<=2^20)(hr1: -1000<=r.1/\r.1<=1000)(hr2: -1000<=r.2.1/\r.2.1<=1000):
  Ro w r k=some (((),()),(answers w (G9 r.1 r.2.1) (BM k),())):=by
 have hsl:=AX (f:=Aj) (l:=w.Bd);have w_:(BM k).length<=8:=by
  unfold BM;split
  ·exact APp (AP5 _ _) (by simp)
  ·simp
 have key:∀(n i:Nat) (b:List BB),i<=(BM k).length->(BM k).length-i<n->b.length<=i->
   Jz n i w.1 w.2.1 w.2.2.1 w.2.2.2.1 w.2.2.2.2.1 w.2.2.2.2.2.1 w.2.2.2.2.2.2.1 w.2.2.2.2.2.2.2.1 w.2.2.2.2.2.2.2.2.1 w.2.2.2.2.2.2.2.2.2.1 w.2.2.2.2.2.2.2.2.2.2.1 r.1 r.2.1 r.2.2.1 b (BM k)=
    some (((),()),(b++answers w (G9 r.1 r.2.1) ((BM k).drop i),())):=by
  intro n
  induction n with
  |zero=>omega
  |succ n ih=>
   intro i b hi h hb;simp only[Jz,Ur,AB];by_cases Dc:i<(BM k).length
   ·have c1:(0:Int)<=(i:Int)/\(i:Int)<((BM k).length:Int):=by omega
    have c2:b.length+1<=CN:=by rw[Am];omega
    rw[AJe c1.2,AJe c1,Ah Dc,Fo w,Ik (by omega) h2,AG (by omega) (by omega),show((i:Int)+1)=((i+1:Nat):Int)by omega,drop_cons Dc];simp only[AD,Cv,answers,AQ9];by_cases hn:Au w (BM k)[i]=0
    ·obtain⟨n1,n2,n3⟩:=RE hn
     have hs1:((BM k)[i]).toNat<w.2.2.1.length:=by simp_all
     rw[AJe hn,AJe c1,AJe ⟨n1,n2⟩,Nb hr1 hr2];simp only[AD];have ec:w.2.2.1.getD ((BM k)[i]).toNat ([],[],0,())=storeAt w (BM k)[i]:=rfl;have hsm:Aj (storeAt w (BM k)[i])<=2^20:=APp (AY (f:=Aj) (BJ (d:=Dp) hs1)) h1;rw[ec,V_ (GA (by omega)).1];simp only[AD];rw[AJe c1,AJe c2,ih (i+1) _ (by omega) (by omega) (by simp_all),AJe (by simp_all),ARZ,AL3];have:((BM k)[i],(O0 (G9 r.1 r.2.1) (storeAt w (BM k)[i]).1).isSome,((O0 (G9 r.1 r.2.1) (storeAt w (BM k)[i]).1).getD Dq).1,((O0 (G9 r.1 r.2.1) (storeAt w (BM k)[i]).1).getD Dq).2.1,((O0 (G9 r.1 r.2.1) (storeAt w (BM k)[i]).1).getD Dq).2.2.1,((O0 (G9 r.1 r.2.1) (storeAt w (BM k)[i]).1).getD Dq).2.2.2.1,())=answer w (G9 r.1 r.2.1) (BM k)[i]:=by
      grind[answer,O0,G9,storeAt,BM]
     rw[this];rfl
    ·rw[AJk hn,ih (i+1) _ (by omega) (by omega) (by omega),AJk (by simp_all)]
     rfl
   ·rw[AJk (by omega),ALm (by omega)]
    simp[answers]
 have:=key AW 0 [] (by omega) (Aa (by omega)) (by simp);grind[Ro,Uz,bW]
section
variable{w:AA} (h:lg w)
include h
theorem AJY:∀(n i:Nat) (EW:List AM) (FU:List AU) (GR:List Az) (HH:List Ac),i<=w.2.2.2.2.2.2.2.2.1.length->w.2.2.2.2.2.2.2.2.1.length-i<n->HH.length<=i->
  Cb n i w.1 w.2.1 w.2.2.1 w.2.2.2.1 w.2.2.2.2.1 w.2.2.2.2.2.1 w.2.2.2.2.2.2.1 w.2.2.2.2.2.2.2.1 w.2.2.2.2.2.2.2.2.1 w.2.2.2.2.2.2.2.2.2.1 w.2.2.2.2.2.2.2.2.2.2.1 0 0 false [] [] [] [] [] [] [] [] w.2.1 w.2.2.2.2.2.1 w.2.2.2.2.2.2.2.2.2.2.1 w.1 EW w.2.2.2.1 w.2.2.2.2.1 FU GR HH w.2.2.2.2.2.2.2.2.2.1=some ((((),w.2.1,(),(),(),w.2.2.2.2.2.1,(),(),(),(),w.2.2.2.2.2.2.2.2.2.2.1,()),()),(w.1,EW,w.2.2.2.1,w.2.2.2.2.1,FU,GR,(HH++w.2.2.2.2.2.2.2.2.1.drop i),w.2.2.2.2.2.2.2.2.2.1,())):=by
 have wS:=h.MD;have hl:=h.lens;intro n
 induction n with
 |zero=>omega
 |succ n ih=>
  intro i EW FU GR HH hi hn hb;simp only[Cb,Qh,AB];by_cases Dc:i<w.2.2.2.2.2.2.2.2.1.length
  ·have c1:(0:Int)<=(i:Int)/\(i:Int)<(w.2.2.2.2.2.2.2.2.1.length:Int):=by omega
   have c2:HH.length+1<=CN:=by rw[Am];omega
   rw[AJe c1.2,AJe c1,Ah Dc,AG (by omega) (by omega),show((i:Int)+1)=((i+1:Nat):Int)by omega,drop_cons Dc];have hm:=AY (f:=Aw) (ALk Dc);have hw:Aw w.2.2.2.2.2.2.2.2.1[i]=Af B4 w.2.2.2.2.2.2.2.2.1[i].2.2.1:=rfl;have hlw:=AX (f:=B4) (l:=w.2.2.2.2.2.2.2.2.1[i].2.2.1);rw[Oy (w.2.2.2.2.2.2.2.2.1[i]),Xg (by omega)];simp only[AD];rw[AJe c2,ih (i+1) _ _ _ _ (by omega) (by omega) (by simp_all),AL3];rfl
  grind
theorem AKt:∀(n i:Nat) (EW:List AM) (FU:List AU) (GR:List Az),i<=w.2.2.2.2.2.2.2.1.length->(w.2.2.2.2.2.2.2.1.length-i)+w.2.2.2.2.2.2.2.2.1.length+2<=n->GR.length<=i->
  CZ n i w.1 w.2.1 w.2.2.1 w.2.2.2.1 w.2.2.2.2.1 w.2.2.2.2.2.1 w.2.2.2.2.2.2.1 w.2.2.2.2.2.2.2.1 w.2.2.2.2.2.2.2.2.1 w.2.2.2.2.2.2.2.2.2.1 w.2.2.2.2.2.2.2.2.2.2.1 0 0 false [] [] [] [] [] [] [] [] w.2.1 w.2.2.2.2.2.1 w.2.2.2.2.2.2.2.2.2.2.1 w.1 EW w.2.2.2.1 w.2.2.2.2.1 FU GR [] w.2.2.2.2.2.2.2.2.2.1=some ((((),w.2.1,(),(),(),w.2.2.2.2.2.1,(),(),(),(),w.2.2.2.2.2.2.2.2.2.2.1,()),()),(w.1,EW,w.2.2.2.1,w.2.2.2.2.1,FU,(GR++w.2.2.2.2.2.2.2.1.drop i),w.2.2.2.2.2.2.2.2.1,w.2.2.2.2.2.2.2.2.2.1,())):=by
 have wS:=h.MD;have hl:=h.lens;intro n
 induction n with
 |zero=>omega
 |succ n ih=>
  intro i EW FU GR hi hn hb;simp only[CZ,Qg,AB];by_cases Dc:i<w.2.2.2.2.2.2.2.1.length
  ·have c1:(0:Int)<=(i:Int)/\(i:Int)<(w.2.2.2.2.2.2.2.1.length:Int):=by omega
   have c2:GR.length+1<=CN:=by rw[Am];omega
   rw[AJe c1.2,AJe c1,Ah Dc,AG (by omega) (by omega),show((i:Int)+1)=((i+1:Nat):Int)by omega,drop_cons Dc];have hm:=AY (f:=CE) (ALk Dc);rw[W8 (w.2.2.2.2.2.2.2.1[i]),MM (by omega)];simp only[AD];rw[AJe c2,ih (i+1) _ _ _ (by omega) (by omega) (by simp_all),AL3];rfl
  ·have:=AJY h n 0 EW FU GR [] (by omega) (by omega) (by simp)
   grind
theorem AO3:∀(n i:Nat) (EW:List AM) (FU:List AU),i<=w.2.2.2.2.2.2.1.length->(w.2.2.2.2.2.2.1.length-i)+w.2.2.2.2.2.2.2.1.length+w.2.2.2.2.2.2.2.2.1.length+3<=n->FU.length<=i->
  Cp n i w.1 w.2.1 w.2.2.1 w.2.2.2.1 w.2.2.2.2.1 w.2.2.2.2.2.1 w.2.2.2.2.2.2.1 w.2.2.2.2.2.2.2.1 w.2.2.2.2.2.2.2.2.1 w.2.2.2.2.2.2.2.2.2.1 w.2.2.2.2.2.2.2.2.2.2.1 0 0 false [] [] [] [] [] [] [] [] w.2.1 w.2.2.2.2.2.1 w.2.2.2.2.2.2.2.2.2.2.1 w.1 EW w.2.2.2.1 w.2.2.2.2.1 FU [] [] w.2.2.2.2.2.2.2.2.2.1=some ((((),w.2.1,(),(),(),w.2.2.2.2.2.1,(),(),(),(),w.2.2.2.2.2.2.2.2.2.2.1,()),()),(w.1,EW,w.2.2.2.1,w.2.2.2.2.1,(FU++w.2.2.2.2.2.2.1.drop i),w.2.2.2.2.2.2.2.1,w.2.2.2.2.2.2.2.2.1,w.2.2.2.2.2.2.2.2.2.1,())):=by
 have wS:=h.MD;have hl:=h.lens;intro n
 induction n with
 |zero=>omega
 |succ n ih=>
  intro i EW FU hi hn hb;simp only[Cp,SX,AB];by_cases Dc:i<w.2.2.2.2.2.2.1.length
  ·have c1:(0:Int)<=(i:Int)/\(i:Int)<(w.2.2.2.2.2.2.1.length:Int):=by omega
   have c2:FU.length+1<=CN:=by rw[Am];omega
   rw[AJe c1.2,AJe c1,Ah Dc,AG (by omega) (by omega),show((i:Int)+1)=((i+1:Nat):Int)by omega,drop_cons Dc];have hm:=AY (f:=Ao) (ALk Dc);have hw:Ao w.2.2.2.2.2.2.1[i]=Af BG w.2.2.2.2.2.2.1[i].2.1:=rfl;rw[show(w.2.2.2.2.2.2.1[i].1,w.2.2.2.2.2.2.1[i].2.1,())=w.2.2.2.2.2.2.1[i]from rfl,TV (by omega)];simp only[AD];rw[AJe c2,ih (i+1) _ _ (by omega) (by omega) (by simp_all),AL3];rfl
  ·have:=AKt h n 0 EW FU [] (by omega) (by omega) (by simp)
   grind
theorem APn:∀(n i:Nat) (EW:List AM),i<=w.2.2.1.length->(w.2.2.1.length-i)+w.2.2.2.2.2.2.1.length+w.2.2.2.2.2.2.2.1.length+w.2.2.2.2.2.2.2.2.1.length+4<=n->EW.length<=i->
  Cq n i w.1 w.2.1 w.2.2.1 w.2.2.2.1 w.2.2.2.2.1 w.2.2.2.2.2.1 w.2.2.2.2.2.2.1 w.2.2.2.2.2.2.2.1 w.2.2.2.2.2.2.2.2.1 w.2.2.2.2.2.2.2.2.2.1 w.2.2.2.2.2.2.2.2.2.2.1 0 0 false [] [] [] [] [] [] [] [] w.2.1 w.2.2.2.2.2.1 w.2.2.2.2.2.2.2.2.2.2.1 w.1 EW w.2.2.2.1 w.2.2.2.2.1 [] [] [] w.2.2.2.2.2.2.2.2.2.1=some ((((),w.2.1,(),(),(),w.2.2.2.2.2.1,(),(),(),(),w.2.2.2.2.2.2.2.2.2.2.1,()),()),(w.1,(EW++w.2.2.1.drop i),w.2.2.2.1,w.2.2.2.2.1,w.2.2.2.2.2.2.1,w.2.2.2.2.2.2.2.1,w.2.2.2.2.2.2.2.2.1,w.2.2.2.2.2.2.2.2.2.1,())):=by
 have wS:=h.MD;have hl:=h.lens;intro n
 induction n with
 |zero=>omega
 |succ n ih=>
  intro i EW hi hn hb;simp only[Cq,SV,AB];by_cases Dc:i<w.2.2.1.length
  ·have c1:(0:Int)<=(i:Int)/\(i:Int)<(w.2.2.1.length:Int):=by omega
   have c2:EW.length+1<=CN:=by rw[Am];omega
   rw[AJe c1.2,AJe c1,Ah Dc,AG (by omega) (by omega),show((i:Int)+1)=((i+1:Nat):Int)by omega,drop_cons Dc];have hm:=AY (f:=Aj) (ALk Dc);have hw:=GA (s:=w.2.2.1[i]) (by omega);rw[Oy (w.2.2.1[i]),Oz hw.1 hw.2];simp only[AD];rw[AJe c2,ih (i+1) _ (by omega) (by omega) (by simp_all),AL3];rfl
  ·have:=AO3 h n 0 EW [] (by omega) (by omega) (by simp)
   grind
theorem gC:Mz w=some ((((),w.2.1,(),(),(),w.2.2.2.2.2.1,(),(),(),(),w.2.2.2.2.2.2.2.2.2.2.1,()),()),(w.1,w.2.2.1,w.2.2.2.1,w.2.2.2.2.1,w.2.2.2.2.2.2.1,w.2.2.2.2.2.2.2.1,w.2.2.2.2.2.2.2.2.1,w.2.2.2.2.2.2.2.2.2.1,())):=by
 have wS:=h.MD;have hl:=h.lens;unfold Mz SH;have:=APn h AW 0 [] (by omega) (AS_ (Aa (by omega))) (by simp);rw[show((0:Nat):Int)=0 from rfl,AQH,AP7]at this;rw[AJe (by rw[Am];omega),AJe (by rw[Am];omega),show(w.2.2.2.2.1,w.2.2.2.2.2.1,())=(CT w)from rfl,Tu (by show Af B_ w.2.2.2.2.1<=_;omega)];simp only[AD];rw[AJe (by rw[Am];omega)];exact this
end
def pkD(q:AA×Int):fo:=(((((),q.1.2.1,(),(),(),q.1.2.2.2.2.2.1,(),(),(),(),q.1.2.2.2.2.2.2.2.2.2.2.1,()),q.2,()),()),(q.1.1,q.1.2.2.1,q.1.2.2.2.1,q.1.2.2.2.2.1,q.1.2.2.2.2.2.2.1,q.1.2.2.2.2.2.2.2.1,q.1.2.2.2.2.2.2.2.2.1,q.1.2.2.2.2.2.2.2.2.2.1,()))
def AQW(q:AA×Int):gg:=(((((),q.1.2.1,(),(),(),q.1.2.2.2.2.2.1,(),(),(),(),q.1.2.2.2.2.2.2.2.2.2.2.1,()),q.2,()),()),(q.1.1,q.1.2.2.1,q.1.2.2.2.1,(),(),(),q.1.2.2.2.2.2.2.2.2.1,q.1.2.2.2.2.2.2.2.2.2.1,q.1.2.2.2.2.1,q.1.2.2.2.2.2.2.1,q.1.2.2.2.2.2.2.2.1,()))
def AHb(q:AA×Int):LB:=(((((),q.1.2.1,(),(),(),q.1.2.2.2.2.2.1,(),(),(),(),q.1.2.2.2.2.2.2.2.2.2.2.1,()),q.2,()),()),(q.1.1,q.1.2.2.1,q.1.2.2.2.1,q.1.2.2.2.2.1,q.1.2.2.2.2.2.2.1,q.1.2.2.2.2.2.2.2.1,q.1.2.2.2.2.2.2.2.2.1,(),q.1.2.2.2.2.2.2.2.2.2.1,()))
def yV(q:AA×Int):J1:=(((((),q.1.2.1,(),(),(),q.1.2.2.2.2.2.1,(),(),(),(),q.1.2.2.2.2.2.2.2.2.2.2.1,()),q.2,()),()),(q.1.1,q.1.2.2.1,(),q.1.2.2.2.2.1,q.1.2.2.2.2.2.2.1,q.1.2.2.2.2.2.2.2.1,q.1.2.2.2.2.2.2.2.2.1,q.1.2.2.2.2.2.2.2.2.2.1,q.1.2.2.2.1,()))
def APR(q:AA×Int):iS:=(((((),q.1.2.1,(),(),(),q.1.2.2.2.2.2.1,(),(),(),(),q.1.2.2.2.2.2.2.2.2.2.2.1,()),q.2,()),()),(q.1.1,q.1.2.2.1,q.1.2.2.2.1,q.1.2.2.2.2.1,q.1.2.2.2.2.2.2.1,(),q.1.2.2.2.2.2.2.2.2.1,q.1.2.2.2.2.2.2.2.2.2.1,q.1.2.2.2.2.2.2.2.1,()))
def AJ7(q:AA×Int):gA:=(((((),q.1.2.1,(),(),(),q.1.2.2.2.2.2.1,(),(),(),(),q.1.2.2.2.2.2.2.2.2.2.2.1,()),q.2,()),()),(q.1.1,q.1.2.2.1,q.1.2.2.2.1,(),q.1.2.2.2.2.2.2.1,(),q.1.2.2.2.2.2.2.2.2.1,q.1.2.2.2.2.2.2.2.2.2.1,q.1.2.2.2.2.1,q.1.2.2.2.2.2.2.2.1,()))
def AHw(q:AA×Int):PA:=(((((),q.1.2.1,(),(),(),q.1.2.2.2.2.2.1,(),(),(),(),q.1.2.2.2.2.2.2.2.2.2.2.1,()),q.2,()),()),(q.1.1,q.1.2.2.1,q.1.2.2.2.1,q.1.2.2.2.2.1,(),q.1.2.2.2.2.2.2.2.1,q.1.2.2.2.2.2.2.2.2.1,q.1.2.2.2.2.2.2.2.2.2.1,q.1.2.2.2.2.2.2.1,()))
def ANd(q:AA×Int):lU:=(((((),q.1.2.1,(),(),(),q.1.2.2.2.2.2.1,(),(),(),(),q.1.2.2.2.2.2.2.2.2.2.2.1,()),q.2,()),()),(q.1.1,q.1.2.2.1,(),(),(),(),q.1.2.2.2.2.2.2.2.2.1,(),q.1.2.2.2.1,q.1.2.2.2.2.1,q.1.2.2.2.2.2.2.1,q.1.2.2.2.2.2.2.2.1,q.1.2.2.2.2.2.2.2.2.2.1,()))
theorem F9{α:Type}{x y:α}:(if(!true)=true then x else y)=y:=rfl
theorem Iz{α:Type}{x y:α}:(if(!false)=true then x else y)=x:=rfl
structure AYl (w:AA):Prop where
 c:w.1.length<=8
 st:w.2.2.1.length=w.1.length
 lost:w.2.2.2.1.length<=8
 era:Af B_ w.2.2.2.2.1<=270
 fI:w.2.2.2.2.1.length<=30
 trim:Bp w.2.2.2.2.2.1
 wr:w.2.2.2.2.2.2.1.length<=4
 md:w.2.2.2.2.2.2.2.1.length<=1
 rd:w.2.2.2.2.2.2.2.2.1.length=2
 se:w.2.2.2.2.2.2.2.2.2.1.length<=120
 ws:Af Aj w.2.2.1<=80008
 ww:Af Ao w.2.2.2.2.2.2.1<=12004
 mC:w.AL.length<=4
 lG:w.Bd.length=w.1.length
 KO:w.lost.length<=8
theorem RX.nums{w:AA}(h:RX w):AYl w where
 c:=(F_ h.cfg).2.1
 st:=h.vY
 lost:=H_ h.lost
 era:=h.rH.w
 fI:=h.rH.n
 trim:=h.rH.tin
 wr:=h.we
 md:=h.nmd
 rd:=h.tO
 se:=h.Ui
 ws:=by
  have:=HO (f:=Aj) (B:=10000) (N:=8) (l:=w.Bd) (by rw[h.vY];exact(F_ h.cfg).2.1) fun s hs=>(h.Wa hs).w
  omega
 ww:=by
  have:=HO (f:=Ao) (B:=3000) h.we fun x hx=>(h.AL x hx).1.w
  omega
 mC:=h.we
 lG:=h.vY
 KO:=H_ h.lost
section
variable{w:AA} (h:RX w)
include h
theorem RX.gy{a:Int}(ha:BE a 0 ((w.AL.length:Int)-1)=true):(0<=a/\a<(w.2.2.2.2.2.2.1.length:Int))/\fK (Ae w) (w.AL.getD a.toNat CO)/\Af BG (w.AL.getD a.toNat CO).2.1<=3000:=by
 have:=An.1 ha;have hi:a.toNat<w.AL.length:=by omega
 have hx:=(h.AL _ (BJ (d:=CO) hi)).1;refine⟨?_,hx,hx.w⟩
 (try simp only[H.AA.Bd,H.AA.lost,H.AA.BF,H.AA.trim,H.AA.AL,H.AA.CY,H.AA.Ai,H.AA.CI,H.AA.I6,H.AA.CS,H.AA.FH,H.AA.I1,H.AA.Bm,H.AA.Ct,H.AA.C8,H.AA.Dd,H.AA.FV,CT,Ae]at*)
 omega
theorem Gy{e:Int}:(Br (CT w).1 e).length<=8:=by
 unfold Br;split
 ·rename_i he
  have he':=An.1 he;exact H_ (Wr (h.rH.BF _ (BJ (d:=Hp) (by omega))).1)
 ·simp
theorem qm{d:Al}:Ys w.2.1 w.2.2.2.2.2.1 w.2.2.2.2.2.2.2.2.2.2.1 d w.1 w.2.2.1 w.2.2.2.1 w.2.2.2.2.1 w.2.2.2.2.2.2.1 w.2.2.2.2.2.2.2.1 w.2.2.2.2.2.2.2.2.1 w.2.2.2.2.2.2.2.2.2.1=some (AQW (Qk w d.2.1)):=by
 have k:=h.nums;have k1:=k.c;have k2:=k.wr;unfold Ys Qk;rw[DL];by_cases h4:w.2.2.2.2.2.2.1.length=4
 ·rw[AJe (by omega),AJe h4];rfl
 have hm:(BM d.2.1).length<=8:=by
  unfold BM;split
  ·exact APp (AP5 _ _) (by simp)
  ·simp
 rw[AJk (by omega),AJk h4,bW];simp only[AD];rw[show(w.1,w.2.1,())=Ae w from rfl,show(w.2.2.2.2.1,w.2.2.2.2.2.1,())=CT w from rfl,qw (c:=Ae w) (r:=CT w) (by show w.1.length<=_;omega) (by have:=k.era;show Af B_ w.2.2.2.2.1<=_;omega) k.trim (by omega)];simp only[AD,Aq];rcases AJd (JA (Ae w) (CT w) (BM d.2.1)).2.2 with hq|hq
 ·rw[hq,AJe (by rw[Am];omega),F9];rfl
 ·rw[hq,Iz];rfl
theorem pO{d:Al}:WA w.2.1 w.2.2.2.2.2.1 w.2.2.2.2.2.2.2.2.2.2.1 d w.1 w.2.2.1 w.2.2.2.1 w.2.2.2.2.1 w.2.2.2.2.2.2.1 w.2.2.2.2.2.2.2.1 w.2.2.2.2.2.2.2.2.1 w.2.2.2.2.2.2.2.2.2.1=some (pkD (OL w d.2.1 d.2.2.1 d.2.2.2.1)):=by
 have k:=h.nums;have k1:=k.c;have k2:=k.wr;have k3:=k.lost;have k4:=k.st;have eH:=k.mC;have lF:=k.KO;have nG:=k.lG;have k5:=k.era;unfold WA OL;rw[Fo w,TW (by omega),Ik (by omega) (by omega)];simp only[AD,Aq,Cv];rcases AJd (BE d.2.1 0 ((w.AL.length:Int)-1))with h1|h1
 rotate_left
 ·rw[h1,Iz];rfl
 obtain⟨x1,x2,x3⟩:=h.gy h1;rw[h1,ALg,F9,AJe x1,Bc];simp only[AD]
 generalize hx:w.AL.getD d.2.1.toNat CO=x at*
 rcases AJd (BE d.2.2.1 1 (x.2.1.length:Int))with h2|h2
 rotate_left
 ·rw[h2,Iz];rfl
 have h2':=An.1 h2;rw[h2,ALg,F9];by_cases h3:Au w d.2.2.2.1=0
 rotate_left
 ·rw[AJk h3,AJe h3];rfl
 rw[AJe h3,AJk (show¬(Au w d.2.2.2.1≠0)from fun hh=>hh h3)];obtain⟨n1,n2,n3⟩:=RE h3;have n2':d.2.2.2.1<(w.2.2.1.length:Int):=n2;have hxl:=x2.n;have hxe:=x2.ep;rw[show(w.2.2.2.2.1,w.2.2.2.2.2.1,())=CT w from rfl,FC (r:=CT w) (by show Af B_ w.2.2.2.2.1<=_;omega)];have WG:(Br w.BF x.1).length<=8:=Gy h;have hr:0<=d.2.2.2.1/\d.2.2.2.1<(w.2.2.1.length:Int):=⟨n1,n2'⟩;rw[show(CT w).1=w.BF from rfl];simp only[AD,AJe hr];rw[K5 (by omega),AG (by omega) (by omega),AJe (by omega),Nb (by omega) (by omega)];simp only[AD];have ec:w.2.2.1.getD d.2.2.2.1.toNat ([],[],0,())=storeAt w d.2.2.2.1:=rfl;have hso:=h.store h3;have zg:=Nv (e:=x.1) (o:=d.2.2.1) hxe (by omega);rw[ec,show((storeAt w d.2.2.2.1).1,(storeAt w d.2.2.2.1).2.1,(storeAt w d.2.2.2.1).2.2.1,())=storeAt w d.2.2.2.1 from rfl,cu (by have:=hso.w;omega) hso.sin (Jp zg.1)];simp only[AD,qX,putAt];rcases AJd ((Br w.BF x.1).contains d.2.2.2.1)with h5|h5
 rotate_left
 ·rw[h5,Iz];rfl
 rw[h5,F9,ALg];have hwd:(x.2.1.getD (d.2.2.1-1).toNat ([],[],false,()))=x.2.1.getD (d.2.2.1-1).toNat Mg:=rfl;rw[hwd];rcases AJd (K0 (storeAt w d.2.2.2.1) (G9 x.1 d.2.2.1,0,false,(x.2.1.getD (d.2.2.1-1).toNat Mg).1,())).2 with h6|h6
 rotate_left
 ·rw[h6];rfl
 rw[h6,ALg,AJe rfl];rfl
end
theorem pL{α:Type}{f:α->Nat}{p:α->Bool}:∀{l:List α},Af f (l.filter p)<=Af f l
 |[]=>AMN _
 |x::l=>by
  have:=pL (f:=f) (p:=p) (l:=l);grind[Af]
theorem AAk{s:AM}{u:Int}(hs:jU s):jU (B5 s u).1:=by
 rcases AJd (B5 s u).2 with hq|hq
 ·exact(mX hq).2.1
 ·have:(B5 s u).1=s:=by
   unfold B5 at*;rw[Dg.2 hs]at*;grind
  simp_all
section
variable{w:AA} (h:RX w)
include h
theorem RX.MQ{n:Int}(hn:Au w n=0):(0<=n/\n<(w.2.2.1.length:Int))/\Aj (storeAt w n)<=2^30/\vf (storeAt w n)/\jU (storeAt w n):=by
 obtain⟨n1,n2,n3⟩:=RE hn;have:=(h.store hn).w;exact⟨⟨n1,n2⟩,by omega,(h.store hn).sin,h.store hn⟩
theorem ow{d:Al}:V8 w.2.1 w.2.2.2.2.2.1 w.2.2.2.2.2.2.2.2.2.2.1 d w.1 w.2.2.1 w.2.2.2.1 w.2.2.2.2.1 w.2.2.2.2.2.2.1 w.2.2.2.2.2.2.2.1 w.2.2.2.2.2.2.2.2.1 w.2.2.2.2.2.2.2.2.2.1=some (pkD (if d.1=16 then Ob w d.2.1 else OT w d.2.1 d.2.2.1)):=by
 have k:=h.nums;have k1:=k.c;have k2:=k.wr;have k3:=k.lost;have k4:=k.st;have eH:=k.mC;have lF:=k.KO;have nG:=k.lG;have k5:=k.era;unfold V8 Ob OT;rw[Fo w,Ik (by omega) (by omega)];simp only[AD,Aq,Cv,DL];by_cases h3:Au w d.2.1=0
 rotate_left
 ·rw[AJk h3]
  by_cases h16:d.1=16
  ·rw[AJe h16,AJe h3];rfl
  ·rw[AJk h16,AJe h3];rfl
 obtain⟨hr,s1,s2,s3⟩:=h.MQ h3;have ec:w.2.2.1.getD d.2.1.toNat ([],[],0,())=storeAt w d.2.1:=rfl;have hn3: ¬(Au w d.2.1≠0):=fun hh=>hh h3
 rw[AJe h3];simp only[AJe hr,ec,AJk hn3];rw[show((storeAt w d.2.1).1,(storeAt w d.2.1).2.1,(storeAt w d.2.1).2.2.1,())=storeAt w d.2.1 from rfl,Zr s1 s2,nA s1 s2 k.trim];simp only[AD,qX,putAt];by_cases h16:d.1=16
 ·rw[AJe h16,AJe h16]
  rcases AJd (JQ (storeAt w d.2.1) w.2.2.2.2.2.1).2 with h6|h6
  ·rw[h6];rfl
  ·rw[h6];rfl
 ·rw[AJk h16,AJk h16]
  rcases AJd (GB (storeAt w d.2.1) d.2.2.1).2 with h6|h6
  ·rw[h6];rfl
  ·rw[h6];rfl
theorem rB{d:Al}:Yr w.2.1 w.2.2.2.2.2.1 w.2.2.2.2.2.2.2.2.2.2.1 d w.1 w.2.2.1 w.2.2.2.1 w.2.2.2.2.1 w.2.2.2.2.2.2.1 w.2.2.2.2.2.2.2.1 w.2.2.2.2.2.2.2.2.1 w.2.2.2.2.2.2.2.2.2.1=some (yV (UH w d.2.1)):=by
 have k:=h.nums;have k1:=k.c;have k2:=k.wr;have k3:=k.lost;have k4:=k.st;have eH:=k.mC;have lF:=k.KO;have nG:=k.lG;have k5:=k.era;have k6:=k.ws;have k6':Af Aj w.Bd<=80008:=k.ws;have k7:=k.fI;unfold Yr UH;rw[K5 (by omega)];simp only[AD,Aq];rcases AJd (w.2.2.2.1.contains d.2.1)with h1|h1
 rotate_left
 ·rw[h1];rfl
 rw[h1,F9,ALg,AG (by omega) (by omega),LK];simp only[AD];rw[show(w.1,w.2.1,())=Ae w from rfl,yI (c:=Ae w) (by show w.1.length<=_;omega) (by omega) (fun s hs=>by have:=(h.Wa hs).nk;omega) (by omega) (fun s hs=>(h.Wa hs).sin) (by omega)];simp only[AD,pkF];rcases AJd (cx (Ae w) w.2.2.1 w.2.2.2.1 d.2.1 (max ((w.2.2.2.2.1.length:Int)-1) 0)).2 with h2|h2
 rotate_left
 ·rw[h2];rfl
 have hm:d.2.1∈w.lost:=by
  simp_all
 have hn:=(Eo.1 h.lost).2.1 d.2.1 hm;have hn':d.2.1<(w.1.length:Int):=hn.2;rw[h2,ALg,F9,AJe (show 0<=d.2.1/\d.2.1<(w.2.2.1.length:Int)from⟨hn.1,by omega⟩),KF (by omega) (by simp)];rfl
theorem rO:Yp w.2.1 w.2.2.2.2.2.1 w.2.2.2.2.2.2.2.2.2.2.1 w.1 w.2.2.1 w.2.2.2.1 w.2.2.2.2.1 w.2.2.2.2.2.2.1 w.2.2.2.2.2.2.2.1 w.2.2.2.2.2.2.2.2.1 w.2.2.2.2.2.2.2.2.2.1=some (APR (UJ w)):=by
 have k:=h.nums;have k1:=k.c;have k2:=k.wr;have k3:=k.lost;have k4:=k.st;have eH:=k.mC;have lF:=k.KO;have nG:=k.lG;have k5:=k.era;have k7:=k.fI;unfold Yp UJ;rw[show(w.2.2.2.2.1,w.2.2.2.2.2.1,())=CT w from rfl,OP (r:=CT w) (by show w.2.2.2.2.1.length<=_;omega)];simp only[AD,DL,AB];rw[show(CT w).1=w.BF from rfl];by_cases h1:(w.2.2.2.2.1.length:Int)<2
 ·rw[AJe h1,show(decide ((w.2.2.2.2.1.length:Int)<2)||decide (BR w.2.2.2.2.1=(w.2.2.2.2.1.length:Int)))=true by simp_all];rfl
 rw[AJk h1];by_cases h2:BR w.2.2.2.2.1=(w.2.2.2.2.1.length:Int)
 ·rw[AJe h2,show(decide ((w.2.2.2.2.1.length:Int)<2)||decide (BR w.2.2.2.2.1=(w.2.2.2.2.1.length:Int)))=true by simp_all];rfl
 rw[AJk h2,show(decide ((w.2.2.2.2.1.length:Int)<2)||decide (BR w.2.2.2.2.1=(w.2.2.2.2.1.length:Int)))=false by simp_all];rw[AJk (show¬(false=true)by simp)];by_cases h3:w.2.2.2.2.2.2.2.1.length>0
 ·rw[AJe (by omega),AJe h3];rfl
 ·rw[AJk (by omega),AJk h3];rfl
theorem ru{d:Al}:YR w.2.1 w.2.2.2.2.2.1 w.2.2.2.2.2.2.2.2.2.2.1 d w.1 w.2.2.1 w.2.2.2.1 w.2.2.2.2.1 w.2.2.2.2.2.2.1 w.2.2.2.2.2.2.2.1 w.2.2.2.2.2.2.2.2.1 w.2.2.2.2.2.2.2.2.2.1=some (pkD (Ti w d.2.1)):=by
 have k:=h.nums;have k1:=k.c;have k2:=k.wr;have k3:=k.lost;have k4:=k.st;have eH:=k.mC;have lF:=k.KO;have nG:=k.lG;have k5:=k.era;unfold YR Ti;rcases hm:w.CY with _|⟨m,ms⟩
 ·rw[DL,AJe (by simp_all)];rfl
 have hm':w.2.2.2.2.2.2.2.1=m::ms:=hm;have w_:w.2.2.2.2.2.2.2.1.length=ms.length+1:=by simp_all
 have g0:w.2.2.2.2.2.2.2.1.getD 0 (0,0,[],[],false,[],())=m:=by simp_all
 have hr0:(0:Int)<=(0:Int)/\(0:Int)<(w.2.2.2.2.2.2.2.1.length:Int):=by omega
 have cR:=(h.CY m (by simp_all)).1;have hmw:=cR.w;have hme:=cR.ep;have hmb:=cR.b;simp only[DL,Aq,Cv,AJe hr0,g0];rw[AJk (by omega)];rw[Fo w,Ik (by omega) (by omega),show(w.2.2.2.2.1,w.2.2.2.2.2.1,())=CT w from rfl,FC (r:=CT w) (by show Af B_ w.2.2.2.2.1<=_;omega)];have WG:(Br w.BF m.2.1).length<=8:=Gy h;rw[show(CT w).1=w.BF from rfl];simp only[AD];rw[K5 (by omega)];simp only[AD];by_cases h3:Au w d.2.1=0
 rotate_left
 ·rw[AJk h3,AJe h3];rfl
 obtain⟨hr,s1,s2,s3⟩:=h.MQ h3;have ec:w.2.2.1.getD d.2.1.toNat ([],[],0,())=storeAt w d.2.1:=rfl;have hn3: ¬(Au w d.2.1≠0):=fun hh=>hh h3
 rw[AJe h3,AJk hn3];simp only[AJe hr,ec];rcases AJd ((Br w.BF m.2.1).contains d.2.1)with h5|h5
 rotate_left
 ·rw[h5,Iz];rfl
 rw[h5,F9,ALg,AG (by omega) (by omega),show((storeAt w d.2.1).1,(storeAt w d.2.1).2.1,(storeAt w d.2.1).2.2.1,())=storeAt w d.2.1 from rfl,lP s1 s2];have hq:=AAk (u:=m.1-1) s3;have hqw:=hq.w;simp only[AD,qX];rw[show((B5 (storeAt w d.2.1) (m.1-1)).1.1,(B5 (storeAt w d.2.1) (m.1-1)).1.2.1,(B5 (storeAt w d.2.1) (m.1-1)).1.2.2.1,())=(B5 (storeAt w d.2.1) (m.1-1)).1 from rfl,nq (by omega) hq.sin];simp only[AD];have hes:(Js (B5 (storeAt w d.2.1) (m.1-1)).1 m.2.1).length<=200/\vv (Js (B5 (storeAt w d.2.1) (m.1-1)).1 m.2.1)/\Af Ap (Js (B5 (storeAt w d.2.1) (m.1-1)).1 m.2.1)<=10000:=by
  unfold Js;rw[Dg.2 hq,AJe rfl];refine⟨APp (AP5 _ _) hq.nk,fun e he=>hq.sin.1 e (AUl.1 he).1,APp pL ?_⟩;have:Aj (B5 (storeAt w d.2.1) (m.1-1)).1=Af Ap (B5 (storeAt w d.2.1) (m.1-1)).1.1+Af Ap (B5 (storeAt w d.2.1) (m.1-1)).1.2.1:=rfl;omega
 rw[W8 m,show(w.1,w.2.1,())=Ae w from rfl,pX (c:=Ae w) (by show w.1.length<=_;omega) (by omega) cR.ein (by omega) hes.2.1 (by omega)];simp only[AD,mc];rcases AJd (B5 (storeAt w d.2.1) (m.1-1)).2 with h6|h6
 rotate_left
 ·rw[h6,AOP,AVo,AJe rfl];rfl
 rw[h6,ALR,APM];rcases AJd (PG (Ae w) m d.2.1 (Js (B5 (storeAt w d.2.1) (m.1-1)).1 m.2.1)).2 with h7|h7
 rotate_left
 ·rw[h7,Iz];rfl
 rw[h7,F9,ALg,ALg,hm'];rfl
theorem qy:YQ w.2.1 w.2.2.2.2.2.1 w.2.2.2.2.2.2.2.2.2.2.1 w.1 w.2.2.1 w.2.2.2.1 w.2.2.2.2.1 w.2.2.2.2.2.2.1 w.2.2.2.2.2.2.2.1 w.2.2.2.2.2.2.2.2.1 w.2.2.2.2.2.2.2.2.2.1=some (pkD (Tb w)):=by
 have k:=h.nums;have k1:=k.c;have k2:=k.wr;have k3:=k.lost;have k4:=k.st;have eH:=k.mC;have lF:=k.KO;have nG:=k.lG;have k5:=k.era;unfold YQ Tb;rcases hm:w.CY with _|⟨m,ms⟩
 ·rw[DL,AJe (by simp_all)];rfl
 have hm':w.2.2.2.2.2.2.2.1=m::ms:=hm;have w_:w.2.2.2.2.2.2.2.1.length=ms.length+1:=by simp_all
 have g0:w.2.2.2.2.2.2.2.1.getD 0 (0,0,[],[],false,[],())=m:=by simp_all
 have hr0:(0:Int)<=(0:Int)/\(0:Int)<(w.2.2.2.2.2.2.2.1.length:Int):=by omega
 have cR:=(h.CY m (by simp_all)).1;have hmw:=cR.w;have hme:=cR.ep;have hmb:=cR.b;simp only[DL,Aq,Cv,AJe hr0,g0];rw[AJk (by omega)];rw[show(w.2.2.2.2.1,w.2.2.2.2.2.1,())=CT w from rfl,FC (r:=CT w) (by show Af B_ w.2.2.2.2.1<=_;omega)];have WG:(Br w.BF m.2.1).length<=8:=Gy h;rw[show(CT w).1=w.BF from rfl];simp only[AD];rw[W8 m,show(w.1,w.2.1,())=Ae w from rfl,pZ (c:=Ae w) (by show w.1.length<=_;omega) (by omega) cR.ein (by omega)];simp only[AD,mc];rcases AJd (Ls (Ae w) m (Br w.BF m.2.1)).2 with h7|h7
 rotate_left
 ·rw[h7,Iz];rfl
 rw[h7,F9,ALg,hm'];rfl
theorem uY{d:Al}:bn w.2.1 w.2.2.2.2.2.1 w.2.2.2.2.2.2.2.2.2.2.1 d w.1 w.2.2.1 w.2.2.2.1 w.2.2.2.2.1 w.2.2.2.2.2.2.1 w.2.2.2.2.2.2.2.1 w.2.2.2.2.2.2.2.2.1 w.2.2.2.2.2.2.2.2.2.1=some (pkD (bd w d.2.2.1 d.2.2.2.1)):=by
 have k:=h.nums;have k1:=k.c;have k2:=k.wr;have k3:=k.lost;have k4:=k.st;have eH:=k.mC;have lF:=k.KO;have nG:=k.lG;have k5:=k.era;unfold bn bd;rcases hm:w.CY with _|⟨m,ms⟩
 ·rw[DL,AJe (by simp_all)];rfl
 have hm':w.2.2.2.2.2.2.2.1=m::ms:=hm;have w_:w.2.2.2.2.2.2.2.1.length=ms.length+1:=by simp_all
 have g0:w.2.2.2.2.2.2.2.1.getD 0 (0,0,[],[],false,[],())=m:=by simp_all
 have hr0:(0:Int)<=(0:Int)/\(0:Int)<(w.2.2.2.2.2.2.2.1.length:Int):=by omega
 have cR:=(h.CY m (by simp_all)).1;have hmw:=cR.w;have hme:=cR.ep;have hmb:=cR.b;simp only[DL,Aq,Cv,AJe hr0,g0];rw[AJk (by omega)];rw[W8 m,bg (m:=m) (by omega),Fo w,Ik (by omega) (by omega),show(w.2.2.2.2.1,w.2.2.2.2.2.1,())=CT w from rfl,FC (r:=CT w) (by show Af B_ w.2.2.2.2.1<=_;omega)];have WG:(Br w.BF m.2.1).length<=8:=Gy h;rw[show(CT w).1=w.BF from rfl];simp only[AD];rw[K5 (by omega)];simp only[AD];have Qt:∀e,Ea m d.2.2.1=some e->Bp e.1:=fun e he=>by
  unfold Ea at he;split at he
  ·rename_i hc
   simp only[ALJ,An]at hc;grind[Nv,Jp]
  simp_all
 cases he:Ea m d.2.2.1 with
 |none=>rfl
 |some e=>
 simp only[AQ7,ALg,AQ_];by_cases h3:Au w d.2.2.2.1=0
 rotate_left
 ·rw[AJk h3,AJe h3];rfl
 obtain⟨hr,s1,s2,s3⟩:=h.MQ h3;have ec:w.2.2.1.getD d.2.2.2.1.toNat ([],[],0,())=storeAt w d.2.2.2.1:=rfl;have hn3: ¬(Au w d.2.2.2.1≠0):=fun hh=>hh h3
 rw[AJe h3,AJk hn3];simp only[AJe hr,ec];rcases AJd ((Br w.BF m.2.1).contains d.2.2.2.1)with h5|h5
 rotate_left
 ·rw[h5,Iz];rfl
 rw[h5,F9,ALg,show((storeAt w d.2.2.2.1).1,(storeAt w d.2.2.2.1).2.1,(storeAt w d.2.2.2.1).2.2.1,())=storeAt w d.2.2.2.1 from rfl,gS e,cu s1 s2 (Qt e he)];simp only[AD,qX,putAt];rcases AJd (K0 (storeAt w d.2.2.2.1) e).2 with h6|h6
 ·rw[h6];rfl
 ·rw[h6];rfl
theorem pY:Vz w.2.1 w.2.2.2.2.2.1 w.2.2.2.2.2.2.2.2.2.2.1 w.1 w.2.2.1 w.2.2.2.1 w.2.2.2.2.1 w.2.2.2.2.2.2.1 w.2.2.2.2.2.2.2.1 w.2.2.2.2.2.2.2.2.1 w.2.2.2.2.2.2.2.2.2.1=some (AJ7 (Oj w)):=by
 have k:=h.nums;have k1:=k.c;have k2:=k.wr;have k3:=k.lost;have k4:=k.st;have eH:=k.mC;have lF:=k.KO;have nG:=k.lG;have k5:=k.era;unfold Vz Oj;rcases hm:w.CY with _|⟨m,ms⟩
 ·rw[DL,AJe (by simp_all)];rfl
 have hm':w.2.2.2.2.2.2.2.1=m::ms:=hm;have w_:w.2.2.2.2.2.2.2.1.length=ms.length+1:=by simp_all
 have g0:w.2.2.2.2.2.2.2.1.getD 0 (0,0,[],[],false,[],())=m:=by simp_all
 have hr0:(0:Int)<=(0:Int)/\(0:Int)<(w.2.2.2.2.2.2.2.1.length:Int):=by omega
 have cR:=(h.CY m (by simp_all)).1;have hmw:=cR.w;have hme:=cR.ep;have hmb:=cR.b;simp only[DL,Aq,Cv,AJe hr0,g0];rw[AJk (by omega)];rw[W8 m,show(w.1,w.2.1,())=Ae w from rfl,mS (c:=Ae w) (by show w.1.length<=_;omega) (by omega) cR.ein];simp only[AD];rcases AJd (VU (Ae w) m)with h5|h5
 rotate_left
 ·rw[h5,Iz];rfl
 rw[h5,F9,ALg,show(w.2.2.2.2.1,w.2.2.2.2.2.1,())=CT w from rfl,pN (c:=Ae w) (r:=CT w) (by show w.1.length<=_;omega) (by show Af B_ w.2.2.2.2.1<=_;omega) k.trim];simp only[AD,pkR];rcases AJd (Pt (Ae w) (CT w) m.1 m.2.2.2.2.2.1.length).2 with h6|h6
 ·rw[h6];rfl
 ·rw[h6];rfl
theorem qg{d:Al}:YT w.2.1 w.2.2.2.2.2.1 w.2.2.2.2.2.2.2.2.2.2.1 d w.1 w.2.2.1 w.2.2.2.1 w.2.2.2.2.1 w.2.2.2.2.2.2.1 w.2.2.2.2.2.2.2.1 w.2.2.2.2.2.2.2.2.1 w.2.2.2.2.2.2.2.2.2.1=some (pkD (L6 w d.2.1 d.2.2.1)):=by
 have k:=h.nums;have k1:=k.c;have k2:=k.wr;have k3:=k.lost;have k4:=k.st;have eH:=k.mC;have lF:=k.KO;have nG:=k.lG;have k5:=k.era;have k6:=k.ws;have k6':Af Aj w.Bd<=80008:=k.ws;have k7:=k.ww;have k8:=k.rd;unfold YT L6;rw[Bc];simp only[AD,Aq,Cv];rcases AJd (BE d.2.1 0 1)with h1|h1
 rotate_left
 ·rw[h1];rfl
 have h1':=An.1 h1;have hr:0<=d.2.1/\d.2.1<(w.2.2.2.2.2.2.2.2.1.length:Int):=by omega
 have Ix:d.2.1.toNat<w.Ai.length:=by
  simp_all
 have aU:=h.Ai _ (BJ (d:=AR) Ix);simp only[AJe hr];rw[h1,F9,ALg,Fo w]
 generalize hx:w.Ai.getD d.2.1.toNat AR=r at*
 have hre:=aU.ep;have hro:=aU.off;rw[sq (by grind),Oy r,kC (by omega) (by omega) (by omega) (by omega)];simp only[AD];have ha:∀a∈answers w (G9 r.1 r.2.1) (BM d.2.2.1),Bp a.2.2.1:=fun a ha=>by
  unfold answers at ha;obtain⟨n,hn,rfl⟩:=ARG.1 ha;have hn':Au w n=0:=by simp_all
  unfold answer;split
  ·rename_i e he
   have:=(h.store hn').kept e (AVT he);exact Jp (IC.1 this).pl
  ·exact⟨by simp_all,by simp_all⟩
 have hal:(answers w (G9 r.1 r.2.1) (BM d.2.2.1)).length<=8:=by
  unfold answers;rw[ARf];refine APp (AP5 _ _) ?_
  unfold BM;split
  ·exact APp (AP5 _ _) (by simp)
  ·simp
 rw[show(w.1,w.2.1,())=Ae w from rfl,show(w.2.2.2.2.1,w.2.2.2.2.2.1,())=CT w from rfl,kh (c:=Ae w) (g:=CT w) (by show w.1.length<=_;omega) (by show Af B_ w.2.2.2.2.1<=_;omega) k.trim (by omega) ha];simp only[AD,ADE];by_cases h2:(DH (Ae w) (CT w) (fM w r.1) r (answers w (G9 r.1 r.2.1) (BM d.2.2.1))).2=0
 ·rw[AJe h2,AJk (fun hh=>hh h2)];rfl
 ·rw[AJk h2,AJe h2];rfl
end
section
variable{w:AA} (h:RX w)
include h
theorem AQn{ws:List AU}{s:Ak}:∀(n i:Nat) (t:Bool) (b:List Ak),i<=w.2.2.2.2.2.2.2.2.2.1.length->w.2.2.2.2.2.2.2.2.2.1.length-i<n->b.length<=2*i+2->
  Kh n t i w.1 w.2.2.1 w.2.2.2.1 w.2.2.2.2.1 ws w.2.2.2.2.2.2.2.1 w.2.2.2.2.2.2.2.2.1 w.2.2.2.2.2.2.2.2.2.1 w.2.1 w.2.2.2.2.2.1 w.2.2.2.2.2.2.2.2.2.2.1 0 0 false [] [] [] [] [] [] [] [] s.1 s.2.1 s.2.2.1 b=some (AHb (((w.Bm ws).Dd (b++(if t then w.2.2.2.2.2.2.2.2.2.1.drop i else eo s (w.2.2.2.2.2.2.2.2.2.1.drop i)))),0)):=by
 have k6:=h.nums.se;intro n
 induction n with
 |zero=>omega
 |succ n ih=>
  intro i t b hi hn hb;simp only[Kh,Z3,AB,Aq];have c2:b.length+1<=CN:=by rw[Am];omega
  by_cases Dc:i<w.2.2.2.2.2.2.2.2.2.1.length
  ·have c1:(0:Int)<=(i:Int)/\(i:Int)<(w.2.2.2.2.2.2.2.2.2.1.length:Int):=by omega
   have c3:(b++[(s.1,s.2.1,s.2.2.1,())]).length+1<=CN:=by grind[Am]
   rw[AJe c1.2];simp only[AJe c1,AJe c2,AJe c3];rw[Ah Dc,AG (by omega) (by omega),show((i:Int)+1)=((i+1:Nat):Int)by omega,drop_cons Dc,Oy (w.2.2.2.2.2.2.2.2.2.1[i])];cases t with
   |true=>
    rw[ALg,ih (i+1) true _ (by omega) (by omega) (by grind),AJe rfl,AJe rfl,AL3];rfl
   |false=>
    rw[AKp,AJk (show¬(false=true)by simp)];simp only[eo];by_cases hg:w.2.2.2.2.2.2.2.2.2.1[i].1>s.1
    ·rw[AJe hg,AJe hg,ih (i+1) true _ (by omega) (by omega) (by grind),AJe rfl,AL3,AL3]
     rfl
    ·rw[AJk hg,AJk hg,ih (i+1) false _ (by omega) (by omega) (by grind),AJk (show¬(false=true)by simp),AL3]
     rfl
  ·rw[AJk (by omega),ALm (by omega)]
   cases t with
   |true=>rw[ALg,AJe rfl,ALu];rfl
   |false=>rw[AKp,AJe c2];rfl
theorem ATz{ws:List AU}{s:Ak}:∀(n i:Nat),i<=w.2.2.2.2.2.2.2.2.2.1.length->(w.2.2.2.2.2.2.2.2.2.1.length-i)+w.2.2.2.2.2.2.2.2.2.1.length+2<=n->
  Lu n i w.1 w.2.2.1 w.2.2.2.1 w.2.2.2.2.1 ws w.2.2.2.2.2.2.2.1 w.2.2.2.2.2.2.2.2.1 w.2.2.2.2.2.2.2.2.2.1 w.2.1 w.2.2.2.2.2.1 w.2.2.2.2.2.2.2.2.2.2.1 0 0 false [] [] [] [] [] [] [] [] s.1 s.2.1 s.2.2.1=some (AHb (if(w.2.2.2.2.2.2.2.2.2.1.drop i).any (fun x=>x.1==s.1)then(w.Bm ws,4)else(((w.Bm ws).Dd (eo s w.2.2.2.2.2.2.2.2.2.1)),0))):=by
 have k6:=h.nums.se;intro n
 induction n with
 |zero=>omega
 |succ n ih=>
  intro i hi hn;simp only[Lu,br,AB,DL];by_cases Dc:i<w.2.2.2.2.2.2.2.2.2.1.length
  ·have c1:(0:Int)<=(i:Int)/\(i:Int)<(w.2.2.2.2.2.2.2.2.2.1.length:Int):=by omega
   rw[AJe c1.2,AJe c1,Ah Dc,AG (by omega) (by omega),show((i:Int)+1)=((i+1:Nat):Int)by omega,drop_cons Dc,ih (i+1) (by omega) (by omega),List.any_cons];by_cases he:w.2.2.2.2.2.2.2.2.2.1[i].1=s.1
   ·rw[AJe he,show(w.2.2.2.2.2.2.2.2.2.1[i].1==s.1)=true by simp_all,AVo,AJe rfl]
    rfl
   ·rw[AJk he,show(w.2.2.2.2.2.2.2.2.2.1[i].1==s.1)=false by simp_all,APM]
  ·have:=AQn h (ws:=ws) (s:=s) n 0 false [] (by omega) (by omega) (by simp)
   grind
theorem ur{d:Al}(hd:d.2.2.2.2.1.length<=40):∃w',aX w.2.1 w.2.2.2.2.2.1 w.2.2.2.2.2.2.2.2.2.2.1 d w.1 w.2.2.1 w.2.2.2.1 w.2.2.2.2.1 w.2.2.2.2.2.2.1 w.2.2.2.2.2.2.2.1 w.2.2.2.2.2.2.2.2.1 w.2.2.2.2.2.2.2.2.2.1=some (AHb (w',(doAdd w d.2.1 d.2.2.2.2.1).2))/\((doAdd w d.2.1 d.2.2.2.2.1).2=0->w' =(doAdd w d.2.1 d.2.2.2.2.1).1):=by
 have k:=h.nums;have k1:=k.c;have k2:=k.wr;have k3:=k.lost;have k4:=k.st;have eH:=k.mC;have lF:=k.KO;have nG:=k.lG;have k5:=k.era;unfold aX aZ doAdd;rw[Fo w,TW (by omega)];simp only[AD,Aq,DL];rcases AJd (BE d.2.1 0 ((w.AL.length:Int)-1))with h1|h1
 rotate_left
 ·rw[h1];exact⟨w,rfl,fun _=>rfl⟩
 obtain⟨x1,x2,x3⟩:=h.gy h1;simp only[h1,ALg,F9,AJe x1]
 generalize hx:w.AL.getD d.2.1.toNat CO=x at*
 rw[show(x.1,x.2.1,())=x from rfl,show(w.1,w.2.1,())=Ae w from rfl,l5 (c:=Ae w) (w:=x) (by show w.1.length<=_;omega) (by omega) (by omega)];simp only[AD];rcases AJd (CR (Ae w) x d.2.2.2.2.1).2.2 with h2|h2
 rotate_left
 ·rw[h2];exact⟨w,rfl,fun _=>rfl⟩
 obtain⟨_,r1,r2,r3⟩:=YN h2;rw[r2]at r1;have hnn:=r1.n;simp only[AMf,AMK,APb]at hnn;have hxe:=x2.ep;rw[h2,ALg,r3,r2];rw[Nb (by omega) (by omega)];simp only[AD,ALR,APM];by_cases h3:w.2.2.2.2.2.2.2.2.2.1.length=120
 ·rw[AJe (by omega),show decide (w.CI.length=120)=true from AM_ h3,AVo,AJe rfl];exact⟨w,rfl,fun hh=>by rfl⟩
 have:=ATz h (ws:=w.AL.set d.2.1.toNat (x.1,x.2.1++[(d.2.2.2.2.1,[],false,())],())) (s:=(G9 x.1 ((x.2.1.length:Int)+1),d.2.2.2.2.1,false,())) AW 0 (by omega) (AS_ (Aa (by have:=h.nums.se;omega)));grind
end
section
variable{w:AA} (h:RX w)
include h
theorem AOB{d:Al}{a:Nat}(ha:d.2.1=(a:Int)):∀(n i:Nat) (b:List AU),i<=w.2.2.2.2.2.2.1.length->w.2.2.2.2.2.2.1.length-i<n->b.length<=i->
  NR n i w.1 w.2.2.1 w.2.2.2.1 w.2.2.2.2.1 w.2.2.2.2.2.2.1 w.2.2.2.2.2.2.2.1 w.2.2.2.2.2.2.2.2.1 w.2.2.2.2.2.2.2.2.2.1 w.2.1 w.2.2.2.2.2.1 w.2.2.2.2.2.2.2.2.2.2.1 d.1 d.2.1 d.2.2.1 d.2.2.2.1 d.2.2.2.2.1 0 0 false [] [] [] [] [] [] [] [] b=some (AHw (w.Bm (b++(if i<=a then(w.2.2.2.2.2.2.1.drop i).eraseIdx (a-i)else w.2.2.2.2.2.2.1.drop i)),0)):=by
 have k6:=h.nums.wr;intro n
 induction n with
 |zero=>omega
 |succ n ih=>
  intro i b hi hn hb;simp only[NR,ZX,AB,Cv];by_cases Dc:i<w.2.2.2.2.2.2.1.length
  ·have c1:(0:Int)<=(i:Int)/\(i:Int)<(w.2.2.2.2.2.2.1.length:Int):=by omega
   have c2:b.length+1<=CN:=by rw[Am];omega
   rw[AJe c1.2];simp only[AJe c1,AJe c2];rw[Ah Dc,AG (by omega) (by omega),show((i:Int)+1)=((i+1:Nat):Int)by omega,drop_cons Dc,show(w.2.2.2.2.2.2.1[i].1,w.2.2.2.2.2.2.1[i].2.1,())=w.2.2.2.2.2.2.1[i]from rfl];by_cases he:(i:Int)=d.2.1
   ·rw[AJe he,ih (i+1) b (by omega) (by omega) (by omega),AJk (by omega),AJe (by omega),show a-i=0 by omega]
    rfl
   ·rw[AJk he,ih (i+1) _ (by omega) (by omega) (by simp_all),AL3]
    by_cases hl:i+1<=a
    ·rw[AJe hl,AJe (by omega),show a-i=(a-(i+1))+1 by omega,List.eraseIdx_cons_succ]
     rfl
    ·rw[AJk hl,AJk (by omega)]
     rfl
  ·rw[AJk (by omega),ALm (by omega)]
   have:(if i<=a then([]:List AU).eraseIdx (a-i)else[])=[]:=by simp_all
   rw[this,ALu];rfl
theorem q8{d:Al}:YZ w.2.1 w.2.2.2.2.2.1 w.2.2.2.2.2.2.2.2.2.2.1 d w.1 w.2.2.1 w.2.2.2.1 w.2.2.2.2.1 w.2.2.2.2.2.2.1 w.2.2.2.2.2.2.2.1 w.2.2.2.2.2.2.2.2.1 w.2.2.2.2.2.2.2.2.2.1=some (AHw (VD w d.2.1)):=by
 have k:=h.nums;have k1:=k.c;have k2:=k.wr;have k3:=k.lost;have k4:=k.st;have eH:=k.mC;have lF:=k.KO;have nG:=k.lG;have k5:=k.era;unfold YZ Zl VD;rw[Fo w,TW (by omega)];simp only[AD,Aq];rcases AJd (BE d.2.1 0 ((w.AL.length:Int)-1))with h1|h1
 rotate_left
 ·rw[h1];rfl
 have h1':=An.1 h1;have:=AOB h (d:=d) (a:=d.2.1.toNat) (by omega) AW 0 [] (by omega) (Aa (by omega)) (by simp);simp_all
theorem AJ6{d:Al}{ss:List AM}{ls:AAA}{ws:List AU}(hls:ls.length<=2^20):∀(n i:Nat),i<=w.2.2.2.2.2.2.2.1.length->w.2.2.2.2.2.2.2.1.length-i<n->
  Jc n i w.1 ss w.2.2.2.1 w.2.2.2.2.1 ws ((w.2.2.2.2.2.2.2.1.map fun m=>(CK (Ae w) m d.2.1).1).take i++w.2.2.2.2.2.2.2.1.drop i) w.2.2.2.2.2.2.2.2.1 w.2.2.2.2.2.2.2.2.2.1 w.2.1 w.2.2.2.2.2.1 w.2.2.2.2.2.2.2.2.2.2.1 ls d.1 d.2.1 d.2.2.1 d.2.2.2.1 d.2.2.2.2.1 0 0 false [] [] [] [] [] [] [] []=some (yV (((((w.CS ss).FH ls).Bm ws).Ct (w.2.2.2.2.2.2.2.1.map fun m=>(CK (Ae w) m d.2.1).1)).FV (w.I6||holds (Ae w) ls),0)):=by
 have k:=h.nums;have k1:=k.c;have k6:=k.md;intro n
 induction n with
 |zero=>omega
 |succ n ih=>
  intro i hi hn;simp only[Jc,Xx,AB,Aq];rw[QU hi];by_cases Dc:i<w.2.2.2.2.2.2.2.1.length
  ·have c1:(0:Int)<=(i:Int)/\(i:Int)<(w.2.2.2.2.2.2.2.1.length:Int):=by omega
   have hm:=(h.CY _ (ALk Dc)).1;have hmw:=hm.w;rw[AJe c1.2];simp only[AJe c1];rw[ALN,Na Dc,AG (by omega) (by omega),show((i:Int)+1)=((i+1:Nat):Int)by omega,W8 (w.2.2.2.2.2.2.2.1[i]),show(w.1,w.2.1,())=Ae w from rfl,kz (c:=Ae w) (by show w.1.length<=_;omega) (by omega) hm.ein];simp only[AD,mc];rw[show((CK (Ae w) w.2.2.2.2.2.2.2.1[i] d.2.1).1.1,(CK (Ae w) w.2.2.2.2.2.2.2.1[i] d.2.1).1.2.1,(CK (Ae w) w.2.2.2.2.2.2.2.1[i] d.2.1).1.2.2.1,(CK (Ae w) w.2.2.2.2.2.2.2.1[i] d.2.1).1.2.2.2.1,(CK (Ae w) w.2.2.2.2.2.2.2.1[i] d.2.1).1.2.2.2.2.1,(CK (Ae w) w.2.2.2.2.2.2.2.1[i] d.2.1).1.2.2.2.2.2.1,())=(CK (Ae w) w.2.2.2.2.2.2.2.1[i] d.2.1).1 from rfl,Re Dc rfl];grind
  ·have:i=w.2.2.2.2.2.2.2.1.length:=by omega
   rw[AJk (by omega),this,ARO,ALu,AOe (by simp),show(w.1,w.2.1,())=Ae w from rfl,Ff (by show w.1.length<=_;omega) (by omega)];simp only[AD];cases ht:w.2.2.2.2.2.2.2.2.2.2.1 with
   |true=>
    have ht':w.I6=true:=ht;rw[ht'];rfl
   |false=>
    have ht':w.I6=false:=ht;rw[ht'];rfl
theorem APW{d:Al}{ss:List AM}{ls:AAA}(hls:ls.length<=2^20):∀(n i:Nat),i<=w.2.2.2.2.2.2.1.length->(w.2.2.2.2.2.2.1.length-i)+w.2.2.2.2.2.2.2.1.length+2<=n->
  KT n i w.1 ss w.2.2.2.1 w.2.2.2.2.1 ((w.2.2.2.2.2.2.1.map fun x=>(CC (Ae w) x d.2.1).1).take i++w.2.2.2.2.2.2.1.drop i) w.2.2.2.2.2.2.2.1 w.2.2.2.2.2.2.2.2.1 w.2.2.2.2.2.2.2.2.2.1 w.2.1 w.2.2.2.2.2.1 w.2.2.2.2.2.2.2.2.2.2.1 ls d.1 d.2.1 d.2.2.1 d.2.2.2.1 d.2.2.2.2.1 0 0 false [] [] [] [] [] [] [] []=some (yV (((((w.CS ss).FH ls).Bm (w.2.2.2.2.2.2.1.map fun x=>(CC (Ae w) x d.2.1).1)).Ct (w.2.2.2.2.2.2.2.1.map fun m=>(CK (Ae w) m d.2.1).1)).FV (w.I6||holds (Ae w) ls),0)):=by
 have k:=h.nums;have k1:=k.c;have k6:=k.wr;intro n
 induction n with
 |zero=>omega
 |succ n ih=>
  intro i hi hn;simp only[KT,aH,AB,Aq];rw[QU hi];by_cases Dc:i<w.2.2.2.2.2.2.1.length
  ·have c1:(0:Int)<=(i:Int)/\(i:Int)<(w.2.2.2.2.2.2.1.length:Int):=by omega
   have hm:=(h.AL _ (ALk Dc)).1;have hmw:=hm.w;rw[AJe c1.2];simp only[AJe c1];rw[ALN,Na Dc,AG (by omega) (by omega),show((i:Int)+1)=((i+1:Nat):Int)by omega,show(w.2.2.2.2.2.2.1[i].1,w.2.2.2.2.2.2.1[i].2.1,())=w.2.2.2.2.2.2.1[i]from rfl,show(w.1,w.2.1,())=Ae w from rfl,iB (c:=Ae w) (by show w.1.length<=_;omega) (by have:Ao w.2.2.2.2.2.2.1[i]=Af BG w.2.2.2.2.2.2.1[i].2.1:=rfl;omega)];simp only[AD,pkW];rw[show((CC (Ae w) w.2.2.2.2.2.2.1[i] d.2.1).1.1,(CC (Ae w) w.2.2.2.2.2.2.1[i] d.2.1).1.2.1,())=(CC (Ae w) w.2.2.2.2.2.2.1[i] d.2.1).1 from rfl,Re Dc rfl];grind
  ·have:i=w.2.2.2.2.2.2.1.length:=by omega
   have k11:=AJ6 h (d:=d) (ss:=ss) (ws:=w.2.2.2.2.2.2.1.map fun x=>(CC (Ae w) x d.2.1).1) hls n 0 (by omega) (by omega);rw[show((0:Nat):Int)=0 from rfl,AP7,AV1,AQH]at k11;rw[AJk (by omega),this,ARO,ALu,AOe (by simp),k11]
theorem rD{d:Al}:YO w.2.1 w.2.2.2.2.2.1 w.2.2.2.2.2.2.2.2.2.2.1 d w.1 w.2.2.1 w.2.2.2.1 w.2.2.2.2.1 w.2.2.2.2.2.2.1 w.2.2.2.2.2.2.2.1 w.2.2.2.2.2.2.2.2.1 w.2.2.2.2.2.2.2.2.2.1=some (yV (Rw w d.2.1)):=by
 have k:=h.nums;have k1:=k.c;have k2:=k.wr;have k3:=k.lost;have k4:=k.st;have eH:=k.mC;have lF:=k.KO;have nG:=k.lG;have k5:=k.era;have k6:=k.md;unfold YO ZR Rw;rw[Fo w,Ik (by omega) (by omega)];simp only[AD,Cv];by_cases h3:Au w d.2.1=0
 rotate_left
 ·rw[AJk h3,AJe h3];rfl
 obtain⟨hr,s1,s2,s3⟩:=h.MQ h3;rw[AJe h3,AJk (show¬(Au w d.2.1≠0)from fun hh=>hh h3),AJe hr,Nk (by omega)];simp only[AD];have hp:=Wg (n:=d.2.1) (l:=w.2.2.2.1);have:=APW h (d:=d) (ss:=w.2.2.1.set d.2.1.toNat ([],[],0,())) (ls:=Ox d.2.1 w.2.2.2.1) (by omega) AW 0 (by omega) (AS_ (Aa (by omega)));simp_all
end
theorem eqE{x e:AJ}:(x.1==e.1&&(x.2.1==e.2.1&&(x.2.2.1==e.2.2.1&&(x.2.2.2.1==e.2.2.2.1&&true))))=decide (x=e):=by
 grind
theorem fW{m:Az}{o:Int}{l:List AAA}(hl:l.length=m.2.2.2.2.2.1.length):Ea (m.1,m.2.1,m.2.2.1,m.2.2.2.1,m.2.2.2.2.1,l,()) o=Ea m o:=by
 grind[Ea]
section
variable{w:AA} (h:RX w) {st:AM} (hs:jU st) {n:Int} (hn:0<=n/\n<(Ae w).1.length) {SS:List AM}
include h hs hn
theorem AKZ{ws:List AU}{se:List Ak}{ms:List Az}{j B:Nat}{m:Az}{R:Option B9}(hj:j<ms.length)(hjl:ms.length<=2^20)(hlen:(ms.getD j Su).2.2.2.2.2.1.length=m.2.2.2.2.2.1.length)(hm:ve (Ae w) m)
  (hc:(Br w.BF m.2.1).contains n=true)
  (cont:∀f,B<=f->Bj f n ((j+1:Nat):Int) w.1 SS w.2.2.2.1 w.2.2.2.2.1 ws (ms.set j (m.1,m.2.1,m.2.2.1,m.2.2.2.1,m.2.2.2.2.1,Fa m st n 1 m.2.2.2.2.2.1,())) w.2.2.2.2.2.2.2.2.1 se w.2.1 w.2.2.2.2.2.1 w.2.2.2.2.2.2.2.2.2.2.1 0 0 false [] [] [] [] [] [] [] [] st.1 st.2.1 st.2.2.1=R):
  ∀(rest dn:List AAA) (f:Nat),dn.length+rest.length=m.2.2.2.2.2.1.length->(∀l∈dn++rest,BC (Ae w) l=true)->rest.length+B+1<=f->
   dn++Fa m st n ((dn.length:Int)+1) rest=Fa m st n 1 m.2.2.2.2.2.1->
   Bf f n (j:Int) ((dn.length:Int)+1) w.1 SS w.2.2.2.1 w.2.2.2.2.1 ws ms w.2.2.2.2.2.2.2.2.1 se w.2.1 w.2.2.2.2.2.1 w.2.2.2.2.2.2.2.2.2.2.1 0 0 false [] [] [] [] [] [] [] [] st.1 st.2.1 st.2.2.1 m.1 m.2.1 m.2.2.1 m.2.2.2.1 m.2.2.2.2.1 (dn++rest)=R:=by
 have k:=h.nums;have k1:=k.c;have k5:=k.era;have c1:(0:Int)<=(j:Int)/\(j:Int)<(ms.length:Int):=by omega
 have WG:(Br w.BF m.2.1).length<=8:=Gy h;have w_:m.2.2.2.2.2.1.length<=60:=by
  have:=hm.n;have hb:=Hs (l:=m.2.2.2.1);omega
 intro rest
 induction rest with
 |nil=>
  intro dn f hl ho hf he;obtain⟨f,rfl⟩:∃f',f=f'+1:=⟨f-1,by omega⟩;simp only[APb,ART,ARQ,Fa,ALu]at hl hf he;simp only[Bf,Iv,AB,ALu];simp only[AJe c1];rw[show ms.getD ((j:Int)).toNat (0,0,[],[],false,[],())=ms.getD j Su from rfl,hlen,AJk (by omega),AG (by omega) (by omega),show((j:Int)+1)=((j+1:Nat):Int)by omega,he,ALN];simp_all
 |cons x rest ih=>
  intro dn f hl ho hf he;obtain⟨f,rfl⟩:∃f',f=f'+1:=⟨f-1,by omega⟩;simp only[AMK]at hl hf;simp only[Bf,Iv,AB];simp only[AJe c1];have cR:ve (Ae w) (m.1,m.2.1,m.2.2.1,m.2.2.2.1,m.2.2.2.2.1,dn++x::rest,()):=⟨hm.cfg,hm.ep,hm.b,hm.sld,hm.asc,hm.seen,ho,by
   have:=hm.n;simp_all⟩
  have hmw:=cR.w;rw[show ms.getD ((j:Int)).toNat (0,0,[],[],false,[],())=ms.getD j Su from rfl,hlen,AJe (by omega),show(w.2.2.2.2.1,w.2.2.2.2.2.1,())=CT w from rfl,FC (r:=CT w) (by show Af B_ w.2.2.2.2.1<=_;omega)];rw[show(CT w).1=w.BF from rfl];simp only[AD];rw[K5 (by omega),hc];simp only[AD,ALg];have hdl:(dn++x::rest).length=m.2.2.2.2.2.1.length:=by simp_all
  rw[bg (m:=(m.1,m.2.1,m.2.2.1,m.2.2.2.1,m.2.2.2.2.1,dn++x::rest,())) (by omega),fW hdl];simp only[AD];have AWR:m.2.2.2.2.1=true:=by
   have:=hm.n;grind
  have AVS:∃e,Ea m ((dn.length:Int)+1)=some e:=by
   unfold Ea;rw[AWR,AJe (by
    simp only[ALl,ALJ,An,ALh];have:=hm.ep;omega)]
   split<;>exact⟨_,rfl⟩
  obtain⟨e,hee⟩:=AVS;have vX:=hs.w;rw[hee];simp only[AQ_];rw[V_ (GA (by omega)).1];simp only[AD,eqE,AB];rw[AG (by omega) (by omega)];simp only[Fa]at he;have hmd:Vw m st ((dn.length:Int)+1)=(O0 e.1 st.1==some e):=by
   unfold Vw;rw[hee]
  cases hg:O0 e.1 st.1 with
  |none=>
   simp only[ARE,AKp];rw[hmd,hg]at he;have:=ih (dn++[x]) f (by grind) (by simp_all) (by omega) (by
    simp_all)
   simp_all
  |some y=>
   simp only[AQ7,ALg,AQ_];by_cases hye:y=e
   ·rw[AJe hye]
    rw[hmd,hg,hye]at he;rw[show(w.1,w.2.1,())=Ae w from rfl,rI (c:=Ae w) (m:=(m.1,m.2.1,m.2.2.1,m.2.2.2.1,m.2.2.2.2.1,dn++x::rest,())) (by show w.1.length<=_;omega) (by omega) cR.ein];have AIz:bP (Ae w) (m.1,m.2.1,m.2.2.1,m.2.2.2.1,m.2.2.2.2.1,dn++x::rest,()) ((dn.length:Int)+1) n=((m.1,m.2.1,m.2.2.1,m.2.2.2.1,m.2.2.2.2.1,dn++Ox n x::rest,()),true):=by
     unfold bP;rw[He.2 cR];have hq:(BE ((dn.length:Int)+1) 1 ((dn++x::rest).length:Int)&&BE n 0 (((Ae w).1.length:Int)-1))=true:=by
      rw[ALJ,An,An];omega
     grind
    rw[AIz];simp only[AD,mc];have hx:=ho x (by simp);have:=ih (dn++[Ox n x]) f (by grind) (by
     intro l qR;simp only[AL3,ARR,AMt,ANC]at qR;rcases qR with qR|rfl|qR
     all_goals grind[Mo]) (by omega) (by
     simp_all)
    simp_all
   ·rw[AJk hye]
    have hf2:(some y==some e)=false:=by
     simp_all
    rw[hmd,hg,hf2]at he;have:=ih (dn++[x]) f (by grind) (by simp_all) (by omega) (by
     simp_all)
    simp_all
theorem AKI{ws:List AU}{se:List Ak}:∀(k i:Nat),w.2.2.2.2.2.2.2.1.length-i=k->i<=w.2.2.2.2.2.2.2.1.length-> ∀f,k*100+1<=f->
  Bj f n (i:Int) w.1 SS w.2.2.2.1 w.2.2.2.2.1 ws ((w.2.2.2.2.2.2.2.1.map (Mf st w.BF n)).take i++w.2.2.2.2.2.2.2.1.drop i) w.2.2.2.2.2.2.2.2.1 se w.2.1 w.2.2.2.2.2.1 w.2.2.2.2.2.2.2.2.2.2.1 0 0 false [] [] [] [] [] [] [] [] st.1 st.2.1 st.2.2.1=(some ((((),w.2.1,(),(),(),w.2.2.2.2.2.1,(),(),(),(),w.2.2.2.2.2.2.2.2.2.2.1,()),()),(w.1,SS,w.2.2.2.1,w.2.2.2.2.1,ws,(w.2.2.2.2.2.2.2.1.map (Mf st w.BF n)),w.2.2.2.2.2.2.2.2.1,se,())):Option B9):=by
 have k:=h.nums;have k5:=k.era;have k6:=k.md;intro k
 induction k with
 |zero=>
  intro i hk hi f hf;obtain⟨f,rfl⟩:∃f',f=f'+1:=⟨f-1,by omega⟩;have:i=w.2.2.2.2.2.2.2.1.length:=by omega
  simp only[Bj,Lf,AB];grind
 |succ k ih=>
  intro i hk hi f hf;obtain⟨f,rfl⟩:∃f',f=f'+1:=⟨f-1,by omega⟩;have Dc:i<w.2.2.2.2.2.2.2.1.length:=by omega
  have c1:(0:Int)<=(i:Int)/\(i:Int)<(w.2.2.2.2.2.2.2.1.length:Int):=by omega
  simp only[Bj,Lf,AB];rw[QU hi,AJe c1.2,AJe c1,ALN,Na Dc];have hm:=(h.CY _ (ALk Dc)).1;have w_:w.2.2.2.2.2.2.2.1[i].2.2.2.2.2.1.length<=60:=by
   have:=hm.n;have hb:=Hs (l:=w.2.2.2.2.2.2.2.1[i].2.2.2.1);omega
  rcases AJd ((Br w.BF w.2.2.2.2.2.2.2.1[i].2.1).contains n)with hc|hc
  ·have hT:Mf st w.BF n w.2.2.2.2.2.2.2.1[i]=(w.2.2.2.2.2.2.2.1[i].1,w.2.2.2.2.2.2.2.1[i].2.1,w.2.2.2.2.2.2.2.1[i].2.2.1,w.2.2.2.2.2.2.2.1[i].2.2.2.1,w.2.2.2.2.2.2.2.1[i].2.2.2.2.1,Fa w.2.2.2.2.2.2.2.1[i] st n 1 w.2.2.2.2.2.2.2.1[i].2.2.2.2.2.1,()):=by
    unfold Mf;simp_all
   have:=AKZ h hs hn (SS:=SS) (ws:=ws) (se:=se) (ms:=(w.2.2.2.2.2.2.2.1.map (Mf st w.BF n)).take i++w.2.2.2.2.2.2.2.1.drop i) (j:=i) (B:=k*100+1) (m:=w.2.2.2.2.2.2.2.1[i]) (R:=(some ((((),w.2.1,(),(),(),w.2.2.2.2.2.1,(),(),(),(),w.2.2.2.2.2.2.2.2.2.2.1,()),()),(w.1,SS,w.2.2.2.1,w.2.2.2.2.1,ws,(w.2.2.2.2.2.2.2.1.map (Mf st w.BF n)),w.2.2.2.2.2.2.2.2.1,se,())):Option B9)) (by simp_all) (by grind) (by simp_all) hm hc (fun f hf=>by
    grind[Re]) w.2.2.2.2.2.2.2.1[i].2.2.2.2.2.1 [] f (by simp) (by simpa using hm.wrote) (by omega) (by simp)
   simp_all
  ·have hT:Mf st w.BF n w.2.2.2.2.2.2.2.1[i]=w.2.2.2.2.2.2.2.1[i]:=by
    unfold Mf;simp_all
   obtain⟨f,rfl⟩:∃f',f=f'+1:=⟨f-1,by omega⟩;simp only[Bf,Iv,AB];have WG:(Br w.BF w.2.2.2.2.2.2.2.1[i].2.1).length<=8:=Gy h;rw[QU hi];simp only[AJe c1];rw[ALN,Na Dc,show(w.2.2.2.2.1,w.2.2.2.2.2.1,())=CT w from rfl,FC (r:=CT w) (by show Af B_ w.2.2.2.2.1<=_;omega)];rw[show(CT w).1=w.BF from rfl];simp only[AD];rw[K5 (by omega),hc,Re Dc (show(w.2.2.2.2.2.2.2.1[i].1,w.2.2.2.2.2.2.2.1[i].2.1,w.2.2.2.2.2.2.2.1[i].2.2.1,w.2.2.2.2.2.2.2.1[i].2.2.2.1,w.2.2.2.2.2.2.2.1[i].2.2.2.2.1,w.2.2.2.2.2.2.2.1[i].2.2.2.2.2.1,())=Mf st w.BF n w.2.2.2.2.2.2.2.1[i]from hT.symm),AG (x:=(i:Int)+1) (by omega) (by omega),show((i:Int)+1)=((i+1:Nat):Int)by omega,ih (i+1) (by omega) (by omega) f (by omega)];simp_all
end
theorem nK{x y:BH}(hx:x.2.2.1=false):∀{dn rest:List BH},Sp (dn++y::rest)<=Sp (dn++x::rest)
 |[],rest=>by
  grind[Sp]
 |a::dn,rest=>by
  have:=nK (y:=y) hx (dn:=dn) (rest:=rest);grind[Sp]
section
variable{w:AA} (h:RX w) {st:AM} (hs:jU st) {n:Int} (hn:0<=n/\n<(Ae w).1.length) {SS:List AM}
include h hs hn
theorem AKu{ws:List AU}{se:List Ak}{j B:Nat}{ep x y:Int}{z:Bool}{old new:List BH}{R:Option B9}(hj:j<2^20)(ec:se.length<=120)(hsp:∀s∈se,Av s.1=true)(hnl:new.length<=60)(hep:1<=ep/\ep<=30)
  (cont:∀f,B<=f->Bi f n ((j+1:Nat):Int) w.1 SS w.2.2.2.1 w.2.2.2.2.1 ws w.2.2.2.2.2.2.2.1 w.2.2.2.2.2.2.2.2.1 (se.map (T7 true ep old new)) w.2.1 w.2.2.2.2.2.1 w.2.2.2.2.2.2.2.2.2.2.1 0 0 false [] [] [] [] [] [] [] [] st.1 st.2.1 st.2.2.1=R):
  ∀(k i:Nat),se.length-i=k->i<=se.length-> ∀f,k+B+1<=f->
   BO f n (j:Int) (i:Int) x y z w.1 SS w.2.2.2.1 w.2.2.2.2.1 ws w.2.2.2.2.2.2.2.1 w.2.2.2.2.2.2.2.2.1 ((se.map (T7 true ep old new)).take i++se.drop i) w.2.1 w.2.2.2.2.2.1 w.2.2.2.2.2.2.2.2.2.2.1 0 0 false [] [] [] [] [] [] [] [] st.1 st.2.1 st.2.2.1 ep new=R:=by
 intro k
 induction k with
 |zero=>
  intro i hk hi f hf;obtain⟨f,rfl⟩:∃f',f=f'+1:=⟨f-1,by omega⟩;have:i=se.length:=by omega
  simp only[BO,LS,AB];rw[QU hi,AJk (by omega),this,ARO,ALu,AOe (by simp),AG (by omega) (by omega),show((j:Int)+1)=((j+1:Nat):Int)by omega];simp_all
 |succ k ih=>
  intro i hk hi f hf;obtain⟨f,rfl⟩:∃f',f=f'+1:=⟨f-1,by omega⟩;have Dc:i<se.length:=by omega
  have c1:(0:Int)<=(i:Int)/\(i:Int)<(se.length:Int):=by omega
  have hp:=hsp _ (ALk Dc);have hpf:=GM hp;have ih':=ih (i+1) (by omega) (by omega) f (by omega);simp only[BO,LS,AB,DL];rw[QU hi,AJe c1.2];simp only[AJe c1];rw[ALN,Na Dc,EA (Jp hp),V5 (Jp hp),AG (x:=(i:Int)+1) (by omega) (by omega),show((i:Int)+1)=((i+1:Nat):Int)by omega];simp only[AD];have skip:T7 true ep old new se[i]=se[i]->BO f n (j:Int) ((i+1:Nat):Int) x y z w.1 SS w.2.2.2.1 w.2.2.2.2.1 ws w.2.2.2.2.2.2.2.1 w.2.2.2.2.2.2.2.2.1 ((se.map (T7 true ep old new)).take i++se.drop i) w.2.1 w.2.2.2.2.2.1 w.2.2.2.2.2.2.2.2.2.2.1 0 0 false [] [] [] [] [] [] [] [] st.1 st.2.1 st.2.2.1 ep new=R:=fun hm=>by
   grind[l3]
  by_cases he:Ab se[i].1=ep
  rotate_left
  ·rw[AJk he]
   grind[T7,Ab,beq_eq_false_iff_ne]
  rw[AJe he];by_cases ho:Bt se[i].1<=(new.length:Int)
  rotate_left
  ·rw[AJk ho]
   refine skip ?_
   unfold T7 Ib;rw[show BE (Bt se[i].1) 1 (new.length:Int)=false by
    rw[ARJ];grind[An]]
   simp
  rw[AJe ho,AG (x:=Bt se[i].1-1) (by omega) (by omega),AJe (by omega)];have hd:Ib new (Bt se[i].1)=(new.getD (Bt se[i].1-1).toNat Mg).2.2.1:=by
   unfold Ib;rw[An.2 ⟨hpf.2.1.1,ho⟩,ALl]
  have hd':(new.getD (Bt se[i].1-1).toNat ([],[],false,())).2.2.1=Ib new (Bt se[i].1):=hd.symm;rw[hd'];cases hdd:Ib new (Bt se[i].1)with
  |false=>
   rw[AKp];grind[T7]
  |true=>
   rw[ALg,Re Dc (show(se[i].1,se[i].2.1,true,())=T7 true ep old new se[i]by
    grind[T7])]
   omega
theorem AOT{ws:List AU}{se:List Ak}{j B:Nat}{ep x y:Int}{z:Bool}{l0:List BH}{R:Option B9}(hj:j<ws.length)(hjl:ws.length<=2^20)
  (cont:∀f,B<=f->BO f n (j:Int) 0 x y z w.1 SS w.2.2.2.1 w.2.2.2.2.1 (ws.set j (ep,BQ (Ae w) st ep n 1 l0,())) w.2.2.2.2.2.2.2.1 w.2.2.2.2.2.2.2.2.1 se w.2.1 w.2.2.2.2.2.1 w.2.2.2.2.2.2.2.2.2.2.1 0 0 false [] [] [] [] [] [] [] [] st.1 st.2.1 st.2.2.1 ep (BQ (Ae w) st ep n 1 l0)=R):
  ∀(rest dn:List BH) (f:Nat),fK (Ae w) (ep,dn++rest,())->rest.length+B+1<=f->
   dn++BQ (Ae w) st ep n ((dn.length:Int)+1) rest=BQ (Ae w) st ep n 1 l0->
   Bh f n (j:Int) ((dn.length:Int)+1) x y z w.1 SS w.2.2.2.1 w.2.2.2.2.1 ws w.2.2.2.2.2.2.2.1 w.2.2.2.2.2.2.2.2.1 se w.2.1 w.2.2.2.2.2.1 w.2.2.2.2.2.2.2.2.2.2.1 0 0 false [] [] [] [] [] [] [] [] st.1 st.2.1 st.2.2.1 ep (dn++rest)=R:=by
 have k1:=h.nums.c;have vX:=hs.w;intro rest
 induction rest with
 |nil=>
  intro dn f hw hf he;obtain⟨f,rfl⟩:∃f',f=f'+1:=⟨f-1,by omega⟩;simp only[APb,ARQ,BQ,ALu]at hf he;simp only[Bh,Ms,AB,ALu];grind
 |cons a rest ih=>
  intro dn f hw hf he;obtain⟨f,rfl⟩:∃f',f=f'+1:=⟨f-1,by omega⟩;simp only[AMK]at hf;have hwe:1<=ep/\ep<=30:=hw.ep;have hwn:(dn++a::rest).length<=60:=hw.n;have hww:=hw.w;have hwl:=hwn;simp only[AMf,AMK]at hwl;simp only[Bh,Ms,AB,Aq,Cv];rw[AJe (by grind),Nb (by omega) (by omega)];simp only[AD];rw[V_ (GA (by omega)).1];simp only[AD];rw[AG (x:=(dn.length:Int)+1+1) (by omega) (by omega),AG (x:=(dn.length:Int)+1-1) (by omega) (by omega),AJe (show(0:Int)<=(dn.length:Int)+1-1/\(dn.length:Int)+1-1<((dn++a::rest).length:Int)by grind)];have e1:((dn.length:Int)+1-1).toNat=dn.length:=by omega
  have e2:(dn++a::rest).getD dn.length ([],[],false,())=a:=by simp[List.getD]
  rw[e1,e2];simp only[BQ]at he;have go:∀b:BH,fK (Ae w) (ep,dn++b::rest,())->(if(!a.2.2.1&&Mp st (G9 ep ((dn.length:Int)+1)))=true then Ft (Ae w) n a else a)=b->
    Bh f n (j:Int) ((dn.length:Int)+1+1) x y z w.1 SS w.2.2.2.1 w.2.2.2.2.1 ws w.2.2.2.2.2.2.2.1 w.2.2.2.2.2.2.2.2.1 se w.2.1 w.2.2.2.2.2.1 w.2.2.2.2.2.2.2.2.2.2.1 0 0 false [] [] [] [] [] [] [] [] st.1 st.2.1 st.2.2.1 ep (dn++b::rest)=R:=fun b hb v7=>by
   rw[v7]at he;have:=ih (dn++[b]) f (by simp_all) (by omega) (by
    simp_all)
   simp_all
  cases hg:O0 (G9 ep ((dn.length:Int)+1)) st.1 with
  |none=>
   simp only[ARE,AKp];grind[Mp]
  |some e=>
   simp only[AQ7,ALg,AQ_];by_cases he0:e.2.1=0
   rotate_left
   ·rw[AJk he0]
    grind[Mp]
   rw[AJe he0];cases had:a.2.2.1 with
   |true=>
    grind
   |false=>
    rw[AKp];have ha:=hw.words a (by simp);have hb:fK (Ae w) (ep,dn++Ft (Ae w) n a::rest,()):=⟨hw.cfg,hw.ep,by simp_all,fun b hb=>by
     simp only[AMt,ANC]at hb;rcases hb with hb|rfl|hb
     ·exact hw.words b (by simp[hb])
     ·exact⟨ha.1,Mo ha.2.1 hn,rfl⟩
     ·exact hw.words b (by simp[hb]),APp (nK had) hw.opn⟩
    rw[show(w.1,w.2.1,())=Ae w from rfl,mO (c:=Ae w) (w:=(ep,dn++a::rest,())) (by show w.1.length<=_;omega) (by have:Ao (ep,dn++a::rest,())=Af BG (dn++a::rest):=rfl;grind)];have AIz:Sw (Ae w) (ep,dn++a::rest,()) ((dn.length:Int)+1) n=((ep,dn++Ft (Ae w) n a::rest,()),true):=by
     unfold Sw;rw[Ho.2 hw];simp only[ALR,ALY,ANX];rw[e1,show(dn++a::rest).getD dn.length Mg=a from e2,had];rw[AJe (by
      rw[ALJ,ALJ,An,An];grind)]
     simp_all
    grind[AD,pkW,Mp]
theorem AOQ:∀(rest pre:List AU) (se:List Ak) (f:Nat),(pre++rest).length<=4->(∀x∈rest,fK (Ae w) x)->se.length<=120->(∀s∈se,Av s.1=true)->rest.length*300+w.2.2.2.2.2.2.2.1.length*100+2<=f->
  Bi f n (pre.length:Int) w.1 SS w.2.2.2.1 w.2.2.2.2.1 (pre++rest) w.2.2.2.2.2.2.2.1 w.2.2.2.2.2.2.2.2.1 se w.2.1 w.2.2.2.2.2.1 w.2.2.2.2.2.2.2.2.2.2.1 0 0 false [] [] [] [] [] [] [] [] st.1 st.2.1 st.2.2.1=(some ((((),w.2.1,(),(),(),w.2.2.2.2.2.1,(),(),(),(),w.2.2.2.2.2.2.2.2.2.2.1,()),()),(w.1,SS,w.2.2.2.1,w.2.2.2.2.1,(pre++(FB true (Ae w) st w.BF n rest se).1),(w.2.2.2.2.2.2.2.1.map (Mf st w.BF n)),w.2.2.2.2.2.2.2.2.1,(FB true (Ae w) st w.BF n rest se).2,())):Option B9):=by
 have k5:=h.nums.era;intro rest
 induction rest with
 |nil=>
  intro pre se f hl hw ec hsp hf;obtain⟨f,rfl⟩:∃f',f=f'+1:=⟨f-1,by omega⟩;simp only[Bi,NM,AB];have:=AKI h hs hn (SS:=SS) (ws:=pre) (se:=se) w.2.2.2.2.2.2.2.1.length 0 (by omega) (by omega) f (by omega);rw[show((0:Nat):Int)=0 from rfl,AP7,AV1,AQH]at this;rw[ALu,AJk (by omega),this];simp only[FB,ALu]
 |cons a rest ih=>
  intro pre se f hl hw ec hsp hf;simp only[AMf,AMK]at hl hf;obtain⟨f,rfl⟩:∃f',f=f'+1:=⟨f-1,by omega⟩;simp only[Bi,NM,AB,Aq];have zg:(pre++a::rest).length=pre.length+(rest.length+1):=by simp
  have c1:(0:Int)<=(pre.length:Int)/\(pre.length:Int)<((pre++a::rest).length:Int):=by omega
  have e2:(pre++a::rest).getD pre.length (0,[],())=a:=by simp[List.getD]
  have WG:(Br w.BF a.1).length<=8:=Gy h;rw[AJe c1.2,AJe c1,ALN,e2,show(w.2.2.2.2.1,w.2.2.2.2.2.1,())=CT w from rfl,FC (r:=CT w) (by show Af B_ w.2.2.2.2.1<=_;omega)];rw[show(CT w).1=w.BF from rfl];simp only[AD];rw[K5 (by omega),AG (by omega) (by omega),show((pre.length:Int)+1)=((pre.length+1:Nat):Int)by omega];simp only[AD];have ha:=hw a (by simp);have hae:=ha.ep;have han:=ha.n;have next:∀(b:AU) (r7:List Ak) (f:Nat),r7.length<=120->(∀s∈r7,Av s.1=true)->rest.length*300+w.2.2.2.2.2.2.2.1.length*100+2<=f->
    Bi f n ((pre.length+1:Nat):Int) w.1 SS w.2.2.2.1 w.2.2.2.2.1 (pre++b::rest) w.2.2.2.2.2.2.2.1 w.2.2.2.2.2.2.2.2.1 r7 w.2.1 w.2.2.2.2.2.1 w.2.2.2.2.2.2.2.2.2.2.1 0 0 false [] [] [] [] [] [] [] [] st.1 st.2.1 st.2.2.1=(some ((((),w.2.1,(),(),(),w.2.2.2.2.2.1,(),(),(),(),w.2.2.2.2.2.2.2.2.2.2.1,()),()),(w.1,SS,w.2.2.2.1,w.2.2.2.2.1,(pre++b::(FB true (Ae w) st w.BF n rest r7).1),(w.2.2.2.2.2.2.2.1.map (Mf st w.BF n)),w.2.2.2.2.2.2.2.2.1,(FB true (Ae w) st w.BF n rest r7).2,())):Option B9):=fun b r7 f h1 h2 h3=>by
   have:=ih (pre++[b]) r7 f (by simp only[AMf,AMK,APb];omega) (fun x hx=>hw x (by simp[hx])) h1 h2 h3;simp only[AMf,AMK,APb,AL3,ARR]at this;exact this
  simp only[FB];rcases AJd (Pf st w.BF n a)with ht|ht
  rotate_left
  ·rw[ht]
   simp only[ALY,ANX];unfold Pf at ht;rcases AJd ((Br w.BF a.1).contains n)with hc|hc
   ·rw[hc,ALl,ARa]at ht
    rw[hc,ALg,AJe (by omega)];exact next a se f ec hsp (by omega)
   ·rw[hc,AKp]
    exact next a se f ec hsp (by omega)
  ·rw[ht]
   simp only[AQY];unfold Pf at ht;rw[ALJ,ALh]at ht;rw[ht.1,ALg,AJk (by omega)];have htl:=(eW (s:=st) (ep:=a.1) hn (o:=1) ha.words).2.2;have hsm:∀s∈se.map (T7 true a.1 a.2.1 (BQ (Ae w) st a.1 n 1 a.2.1)),Av s.1=true:=fun s hs' =>by
    obtain⟨s',h1,rfl⟩:=ARG.1 hs';exact hsp s' h1
   have:=AOT h hs hn (SS:=SS) (ws:=pre++a::rest) (se:=se) (j:=pre.length) (B:=rest.length*300+w.2.2.2.2.2.2.2.1.length*100+2+130) (ep:=a.1) (x:=st.2.2.1) (y:=a.1) (z:=decide (st.2.2.1>=a.1)) (l0:=a.2.1) (R:=(some ((((),w.2.1,(),(),(),w.2.2.2.2.2.1,(),(),(),(),w.2.2.2.2.2.2.2.2.2.2.1,()),()),(w.1,SS,w.2.2.2.1,w.2.2.2.2.1,(pre++(a.1,BQ (Ae w) st a.1 n 1 a.2.1,())::(FB true (Ae w) st w.BF n rest (se.map (T7 true a.1 a.2.1 (BQ (Ae w) st a.1 n 1 a.2.1)))).1),(w.2.2.2.2.2.2.2.1.map (Mf st w.BF n)),w.2.2.2.2.2.2.2.2.1,(FB true (Ae w) st w.BF n rest (se.map (T7 true a.1 a.2.1 (BQ (Ae w) st a.1 n 1 a.2.1)))).2,())):Option B9)) (by omega) (by omega) (fun f hf=>by
    have:=AKu h hs hn (SS:=SS) (ws:=(pre++a::rest).set pre.length (a.1,BQ (Ae w) st a.1 n 1 a.2.1,())) (se:=se) (j:=pre.length) (B:=rest.length*300+w.2.2.2.2.2.2.2.1.length*100+2) (ep:=a.1) (x:=st.2.2.1) (y:=a.1) (z:=decide (st.2.2.1>=a.1)) (old:=a.2.1) (new:=BQ (Ae w) st a.1 n 1 a.2.1) (R:=(some ((((),w.2.1,(),(),(),w.2.2.2.2.2.1,(),(),(),(),w.2.2.2.2.2.2.2.2.2.2.1,()),()),(w.1,SS,w.2.2.2.1,w.2.2.2.2.1,(pre++(a.1,BQ (Ae w) st a.1 n 1 a.2.1,())::(FB true (Ae w) st w.BF n rest (se.map (T7 true a.1 a.2.1 (BQ (Ae w) st a.1 n 1 a.2.1)))).1),(w.2.2.2.2.2.2.2.1.map (Mf st w.BF n)),w.2.2.2.2.2.2.2.2.1,(FB true (Ae w) st w.BF n rest (se.map (T7 true a.1 a.2.1 (BQ (Ae w) st a.1 n 1 a.2.1)))).2,())):Option B9)) (by omega) ec hsp (by omega) hae (fun f hf=>by
     rw[AVn _ _ (by omega),AVx,AVa];exact next _ _ f (by simpa using ec) hsm hf) se.length 0 (by omega) (by omega) f (by omega)
    rw[show((0:Nat):Int)=0 from rfl,AP7,AV1,AQH]at this;exact this) a.2.1 [] f (by simpa using ha) (by omega) (by simp)
   simp only[APb,AQH]at this;exact this
end
section
variable{w:AA} (h:RX w)
include h
theorem q7{d:Al}:Yq w.2.1 w.2.2.2.2.2.1 w.2.2.2.2.2.2.2.2.2.2.1 d w.1 w.2.2.1 w.2.2.2.1 w.2.2.2.2.1 w.2.2.2.2.2.2.1 w.2.2.2.2.2.2.2.1 w.2.2.2.2.2.2.2.2.1 w.2.2.2.2.2.2.2.2.2.1=some (pkD (Qi true w d.2.1)):=by
 have k:=h.nums;have k1:=k.c;have k2:=k.wr;have k3:=k.lost;have k4:=k.st;have eH:=k.mC;have lF:=k.KO;have nG:=k.lG;have k6:=k.md;unfold Yq Qi;rw[Fo w,Ik (by omega) (by omega)];simp only[AD,Cv,Aq];by_cases h3:Au w d.2.1=0
 rotate_left
 ·rw[AJk h3,AJe h3];rfl
 obtain⟨hr,s1,s2,s3⟩:=h.MQ h3;have ec:w.2.2.1.getD d.2.1.toNat ([],[],0,())=storeAt w d.2.1:=rfl;rw[AJe h3,AJk (show¬(Au w d.2.1≠0)from fun hh=>hh h3)];simp only[AJe hr,ec];rw[show((storeAt w d.2.1).1,(storeAt w d.2.1).2.1,(storeAt w d.2.1).2.2.1,())=storeAt w d.2.1 from rfl,bm s1 s2];simp only[AD,qX];rcases AJd (Cw (storeAt w d.2.1)).2 with h6|h6
 rotate_left
 ·rw[h6];rfl
 have hq:=(Q0 h6).2.1;have hnn:=(h.node h3).1;rw[h6,ALg,F9];have Ix:d.2.1.toNat<w.2.2.1.length:=by omega
 unfold Yj SA;rw[ARg,AJe hr,Nu Ix];have:=AOQ h (st:=(Cw (storeAt w d.2.1)).1) hq hnn (SS:=w.2.2.1.set d.2.1.toNat (Cw (storeAt w d.2.1)).1) w.2.2.2.2.2.2.1 [] w.2.2.2.2.2.2.2.2.2.1 AW (by simp_all) (fun x hx=>(h.AL x hx).1) k.se (fun s hs=>(h.CI s hs).1) (AS_ (Aa (by omega)));simp only[APb,AQH]at this;rw[show((0:Nat):Int)=0 from rfl]at this;rw[show((Cw (storeAt w d.2.1)).1.1,(Cw (storeAt w d.2.1)).1.2.1,(Cw (storeAt w d.2.1)).1.2.2.1,())=(Cw (storeAt w d.2.1)).1 from rfl,this];rfl
end
section
variable{w:AA} (h:RX w)
include h
theorem wJ{d:Al}(h64:Bp d.2.1)(hd:d.2.2.2.2.1.length<=40)(hk:1<=d.1/\d.1<=16):∃w',ei w.2.1 w.2.2.2.2.2.1 w.2.2.2.2.2.2.2.2.2.2.1 d w.1 w.2.2.1 w.2.2.2.1 w.2.2.2.2.1 w.2.2.2.2.2.2.1 w.2.2.2.2.2.2.2.1 w.2.2.2.2.2.2.2.2.1 w.2.2.2.2.2.2.2.2.2.1=some (ANd (w',(LO true w d).2))/\((LO true w d).2=0->w' =(LO true w d).1):=by
 have k:=h.nums;have k1:=k.c;have k5:=k.era;unfold ei LO;rw[uv d];simp only[DL];by_cases c1:d.1=1
 ·simp only[AJe c1]
  rw[qm h];exact⟨_,rfl,fun _=>rfl⟩
 by_cases c2:d.1=2
 ·simp only[AJk (show¬d.1=1 by omega),AJe c2]
  obtain⟨w',e1,e2⟩:=ur h (d:=d) hd;rw[e1];exact⟨w',rfl,e2⟩
 by_cases c3:d.1=3
 ·simp only[AJk (show¬d.1=1 by omega),AJk (show¬d.1=2 by omega),AJe c3]
  rw[pO h];exact⟨_,rfl,fun _=>rfl⟩
 by_cases c4:d.1=4
 ·simp only[AJk (show¬d.1=1 by omega),AJk (show¬d.1=2 by omega),AJk (show¬d.1=3 by omega),AJe c4]
  rw[q7 h];exact⟨_,rfl,fun _=>rfl⟩
 by_cases c6:d.1=6
 ·simp only[AJk (show¬d.1=1 by omega),AJk (show¬d.1=2 by omega),AJk (show¬d.1=3 by omega),AJk (show¬d.1=4 by omega),AJk (show¬d.1=5 by omega),AJe c6]
  rw[rD h];exact⟨_,rfl,fun _=>rfl⟩
 by_cases c7:d.1=7
 ·simp only[AJk (show¬d.1=1 by omega),AJk (show¬d.1=2 by omega),AJk (show¬d.1=3 by omega),AJk (show¬d.1=4 by omega),AJk (show¬d.1=5 by omega),AJk (show¬d.1=6 by omega),AJe c7]
  rw[rB h];exact⟨_,rfl,fun _=>rfl⟩
 by_cases c8:d.1=8
 ·simp only[AJk (show¬d.1=1 by omega),AJk (show¬d.1=2 by omega),AJk (show¬d.1=3 by omega),AJk (show¬d.1=4 by omega),AJk (show¬d.1=5 by omega),AJk (show¬d.1=6 by omega),AJk (show¬d.1=7 by omega),AJe c8]
  rw[rO h];exact⟨_,rfl,fun _=>rfl⟩
 by_cases c9:d.1=9
 ·simp only[AJk (show¬d.1=1 by omega),AJk (show¬d.1=2 by omega),AJk (show¬d.1=3 by omega),AJk (show¬d.1=4 by omega),AJk (show¬d.1=5 by omega),AJk (show¬d.1=6 by omega),AJk (show¬d.1=7 by omega),AJk (show¬d.1=8 by omega),AJe c9]
  rw[ru h];exact⟨_,rfl,fun _=>rfl⟩
 by_cases c10:d.1=10
 ·simp only[AJk (show¬d.1=1 by omega),AJk (show¬d.1=2 by omega),AJk (show¬d.1=3 by omega),AJk (show¬d.1=4 by omega),AJk (show¬d.1=5 by omega),AJk (show¬d.1=6 by omega),AJk (show¬d.1=7 by omega),AJk (show¬d.1=8 by omega),AJk (show¬d.1=9 by omega),AJe c10]
  rw[qy h];exact⟨_,rfl,fun _=>rfl⟩
 by_cases c11:d.1=11
 ·simp only[AJk (show¬d.1=1 by omega),AJk (show¬d.1=2 by omega),AJk (show¬d.1=3 by omega),AJk (show¬d.1=4 by omega),AJk (show¬d.1=5 by omega),AJk (show¬d.1=6 by omega),AJk (show¬d.1=7 by omega),AJk (show¬d.1=8 by omega),AJk (show¬d.1=9 by omega),AJk (show¬d.1=10 by omega),AJe c11]
  rw[uY h];exact⟨_,rfl,fun _=>rfl⟩
 by_cases c12:d.1=12
 ·simp only[AJk (show¬d.1=1 by omega),AJk (show¬d.1=2 by omega),AJk (show¬d.1=3 by omega),AJk (show¬d.1=4 by omega),AJk (show¬d.1=5 by omega),AJk (show¬d.1=6 by omega),AJk (show¬d.1=7 by omega),AJk (show¬d.1=8 by omega),AJk (show¬d.1=9 by omega),AJk (show¬d.1=10 by omega),AJk (show¬d.1=11 by omega),AJe c12]
  rw[pY h];exact⟨_,rfl,fun _=>rfl⟩
 by_cases c13:d.1=13
 ·simp only[AJk (show¬d.1=1 by omega),AJk (show¬d.1=2 by omega),AJk (show¬d.1=3 by omega),AJk (show¬d.1=4 by omega),AJk (show¬d.1=5 by omega),AJk (show¬d.1=6 by omega),AJk (show¬d.1=7 by omega),AJk (show¬d.1=8 by omega),AJk (show¬d.1=9 by omega),AJk (show¬d.1=10 by omega),AJk (show¬d.1=11 by omega),AJk (show¬d.1=12 by omega),AJe c13]
  rw[show(w.1,w.2.1,())=Ae w from rfl,show(w.2.2.2.2.1,w.2.2.2.2.2.1,())=CT w from rfl,rr (c:=Ae w) (r:=CT w) (by show w.1.length<=_;omega) (by show Af B_ w.2.2.2.2.1<=_;omega) k.trim h64];simp only[AD,pkR,Aq,Xi];rcases AJd (QG (Ae w) (CT w) d.2.1).2 with hq|hq
  ·rw[hq];exact⟨_,rfl,fun _=>rfl⟩
  ·rw[hq];exact⟨w,rfl,fun _=>rfl⟩
 by_cases c14:d.1=14
 ·simp only[AJk (show¬d.1=1 by omega),AJk (show¬d.1=2 by omega),AJk (show¬d.1=3 by omega),AJk (show¬d.1=4 by omega),AJk (show¬d.1=5 by omega),AJk (show¬d.1=6 by omega),AJk (show¬d.1=7 by omega),AJk (show¬d.1=8 by omega),AJk (show¬d.1=9 by omega),AJk (show¬d.1=10 by omega),AJk (show¬d.1=11 by omega),AJk (show¬d.1=12 by omega),AJk (show¬d.1=13 by omega),AJe c14]
  rw[qg h];exact⟨_,rfl,fun _=>rfl⟩
 by_cases c15:d.1=15
 ·simp only[AJk (show¬d.1=1 by omega),AJk (show¬d.1=2 by omega),AJk (show¬d.1=3 by omega),AJk (show¬d.1=4 by omega),AJk (show¬d.1=5 by omega),AJk (show¬d.1=6 by omega),AJk (show¬d.1=7 by omega),AJk (show¬d.1=8 by omega),AJk (show¬d.1=9 by omega),AJk (show¬d.1=10 by omega),AJk (show¬d.1=11 by omega),AJk (show¬d.1=12 by omega),AJk (show¬d.1=13 by omega),AJk (show¬d.1=14 by omega),AJe c15]
  rw[q8 h];exact⟨_,rfl,fun _=>rfl⟩
 simp only[AJk c1,AJk c2,AJk c3,AJk c4,AJk c6,AJk c7,AJk c8,AJk c9,AJk c10,AJk c11,AJk c12,AJk c13,AJk c14,AJk c15];rw[ow h];by_cases c5:d.1=5
 ·rw[AJe c5,AJk (by omega)]
  exact⟨_,rfl,fun _=>rfl⟩
 ·rw[AJk c5,AJe (by omega)]
  exact⟨_,rfl,fun _=>rfl⟩
end
theorem iz{w:AA}{n:Int}{q:AM×Bool}(e:(putAt w n q).2≠0):(putAt w n q).1=w:=by
 unfold putAt at*;grind
theorem sM{all:Bool}{w:AA}{d:Al}(e:(LO all w d).2≠0):(LO all w d).1=w:=by
 unfold LO at*;by_cases c:d.1=1
 ·rw[AJe c]at e|-
  clear c
  revert e
  unfold Qk;grind
 rw[AJk c]at e|-;clear c;by_cases c:d.1=2
 ·rw[AJe c]at e|-
  clear c
  revert e
  unfold doAdd;grind
 rw[AJk c]at e|-;clear c;by_cases c:d.1=3
 ·rw[AJe c]at e|-
  clear c
  revert e
  unfold OL
  try dsimp only
  repeat' split
  all_goals first|(intro e;exact absurd rfl e)|(intro e;rfl)|grind[iz]
 rw[AJk c]at e|-;clear c;by_cases c:d.1=4
 ·rw[AJe c]at e|-
  clear c
  revert e
  unfold Qi;grind
 rw[AJk c]at e|-;clear c;by_cases c:d.1=5
 ·rw[AJe c]at e|-
  clear c
  revert e
  unfold OT
  try dsimp only
  repeat' split
  all_goals first|(intro e;exact absurd rfl e)|(intro e;rfl)|grind[iz]
 rw[AJk c]at e|-;clear c;by_cases c:d.1=6
 ·rw[AJe c]at e|-
  clear c
  revert e
  unfold Rw;grind
 rw[AJk c]at e|-;clear c;by_cases c:d.1=7
 ·rw[AJe c]at e|-
  clear c
  revert e
  unfold UH;grind
 rw[AJk c]at e|-;clear c;by_cases c:d.1=8
 ·rw[AJe c]at e|-
  clear c
  revert e
  unfold UJ;grind
 rw[AJk c]at e|-;clear c;by_cases c:d.1=9
 ·rw[AJe c]at e|-
  clear c
  revert e
  unfold Ti;grind
 rw[AJk c]at e|-;clear c;by_cases c:d.1=10
 ·rw[AJe c]at e|-
  clear c
  revert e
  unfold Tb;grind
 rw[AJk c]at e|-;clear c;by_cases c:d.1=11
 ·rw[AJe c]at e|-
  clear c
  revert e
  unfold bd
  try dsimp only
  repeat' split
  all_goals first|(intro e;exact absurd rfl e)|(intro e;rfl)|grind[iz]
 rw[AJk c]at e|-;clear c;by_cases c:d.1=12
 ·rw[AJe c]at e|-
  clear c
  revert e
  unfold Oj;grind
 rw[AJk c]at e|-;clear c;by_cases c:d.1=13
 ·rw[AJe c]at e|-
  clear c
  revert e
  unfold Xi;grind
 rw[AJk c]at e|-;clear c;by_cases c:d.1=14
 ·rw[AJe c]at e|-
  clear c
  revert e
  unfold L6;grind
 rw[AJk c]at e|-;clear c;by_cases c:d.1=15
 ·rw[AJe c]at e|-
  clear c
  revert e
  unfold VD;grind
 rw[AJk c]at e|-;clear c;unfold Ob at*;split at e
 ·simp_all
 ·rename_i h1;rw[AJk h1];exact iz e
theorem rf{w:AA}{d:Al}(h:lg w)(h64:Bp d.2.1):TE w d=some (pkD (Fu true w d)):=by
 unfold TE Fu;rw[Fo w,uv d,G_ h,gp,gC h];simp only[AD,Aq,Cv];rcases AJd (DA w)with hw|hw
 rotate_left
 ·rw[hw];rfl
 rcases AJd (GS d)with hd|hd
 rotate_left
 ·rw[hw,hd];rfl
 have hk:1<=d.1/\d.1<=16:=by
  unfold GS at hd;exact An.1 (ALJ _ _▸hd).1
 rw[hw,hd,ALg,ALg];obtain⟨w',e1,e2⟩:=wJ (JG.1 hw) h64 (j9 hd) hk;rw[e1];simp only[AD,ALR,AVr,ALY,ANX];by_cases hc:(LO true w d).2=0
 ·rw[e2 hc]
  rw[AJe (show(ANd ((LO true w d).1,(LO true w d).2)).1.1.2.1=0 from hc)];rfl
 ·rw[AJk (show¬(ANd (w',(LO true w d).2)).1.1.2.1=0 from hc)]
  have:=sM hc;rw[show LO true w d=(w,(LO true w d).2)by grind];rfl
section
variable{b:AAA} (hb:Bytes b)
include hb
end
section
variable{code:AAA} (hc:code.length<=2^30)
include hc
theorem o_{i h:Int}{l:List ABF}(hi:FK code i)(hl:l≠[])(hn:l.length<=2^30):∃v i' h',FX l code i h=some ((v,()),((code,i',h',()),()))/\v∈l/\FK code i':=by
 unfold FX;have hp:=AVY.2 hl;obtain⟨v,i1,h1,e,v0,v1,_,ck⟩:=LC hc (h:=h) (n:=l.length) hi (by omega);rw[e];simp only[ALi];have:=v1 (by omega);rw[AJe ⟨v0,this⟩];obtain⟨k,rfl⟩:∃k:Nat,v=(k:Int):=⟨v.toNat,by omega⟩;exact⟨_,i1,h1,rfl,by rw[Ah (by omega)];exact ALk _,ck⟩
end
def OK(code:AAA){X Y:Type}(Q:X->Y->Prop)(o:Option (X×(AFe×Y))):Prop:=
 ∃x i h y,o=some (x,((code,i,h,()),y))/\FK code i/\Q x y
section
variable{code:AAA} {X Y Z W:Type} {Q:X->Y->Prop} {R:Z->W->Prop}
theorem OK.bind{o:Option (X×(AFe×Y))}{f:X×(AFe×Y)->Option (Z×(AFe×W))}
  (ho:OK code Q o) (hf:∀x i h y,FK code i->Q x y->OK code R (f (x,((code,i,h,()),y)))):OK code R (o.bind f):=by
 obtain⟨x,i,h,y,e,hi,hq⟩:=ho;simp_all
theorem OK.pure{A:Type}{o:Option A}{a:A}{f:A->Option (Z×(AFe×W))}(ho:o=some a)(hf:OK code R (f a)):OK code R (o.bind f):=by
 simp_all
theorem OK.some{x:X}{i h:Int}{y:Y}(hi:FK code i)(hq:Q x y):OK code Q (some (x,((code,i,h,()),y))):=⟨x,i,h,y,rfl,hi,hq⟩
theorem OK.cond{b:Bool}{x y:Option (X×(AFe×Y))}(h1:b=true->OK code Q x)(h2:b=false->OK code Q y):OK code Q (cond b x y):=by
 grind
theorem OK.xl{p:Prop}[Decidable p]{x y:Option (X×(AFe×Y))}(h1:p->OK code Q x)(h2: ¬p->OK code Q y):OK code Q (_root_.cond (decide p) x y):=by
 grind
theorem OK.u_{a b:Int}{x y:Option (X×(AFe×Y))}(h1:a=b->OK code Q x)(h2:a≠b->OK code Q y):OK code Q (_root_.cond (a==b) x y):=by
 grind
theorem OK.ite{p:Prop}[Decidable p]{x y:Option (X×(AFe×Y))}(hp:p)(h1:OK code Q x):OK code Q (if p then x else y):=by
 simp_all
end
section
variable{code:AAA} (hc:code.length<=2^30)
include hc
theorem PM{i h n:Int}(hi:FK code i)(hn:n<=2^40):OK code (fun(x:AB2) (y:Unit)=>0<=x.1/\(0<n->x.1<n)/\(n<=0->x.1=0)) (Ag n code i h):=by
 obtain⟨v,i',h',e,v0,v1,v2,Dc⟩:=LC hc (h:=h) hi hn;exact⟨(v,()),i',h',(),e,Dc,v0,v1,v2⟩
theorem Ym{i h n:Int}(hi:FK code i)(hn:n<=2^40):OK code (fun(x:ABz) (y:Unit)=>True) (BW n code i h):=by
 obtain⟨v,i',h',e,Dc⟩:=od hc (h:=h) hi hn;exact⟨(v,()),i',h',(),e,Dc,trivial⟩
theorem ACW{i h:Int}{l:AAA}(hi:FK code i)(hl:l≠[])(hn:l.length<=2^30):OK code (fun(x:AB2) (y:Unit)=>x.1∈l) (Hw l code i h):=by
 obtain⟨v,i',h',e,hv,Dc⟩:=Yh hc (h:=h) hi hl hn;exact⟨(v,()),i',h',(),e,Dc,hv⟩
theorem yz{i h:Int}{l:List ABF}(hi:FK code i)(hl:l≠[])(hn:l.length<=2^30):OK code (fun(x:AEg) (y:Unit)=>x.1∈l) (FX l code i h):=by
 obtain⟨v,i',h',e,hv,Dc⟩:=o_ hc (h:=h) hi hl hn;exact⟨(v,()),i',h',(),e,Dc,hv⟩
theorem zA{c:CQ}(qN:c.1.length<=2^10){i h:Int}(hi:FK code i):OK code (fun(x:ACL) (y:ADH)=>y.1.length<=2^12) (QM c code i h):=by
 have key:∀(n k N:Nat) (i h:Int) (b:AAA),FK code i->k<=N->N-k<n->N<=2^11->b.length<=k->
   OK code (fun(x:ACL) (y:ADH)=>y.1.length<=2^12) (Iw n N k code i h c.1 c.2.1 b):=by
  intro n
  induction n with
  |zero=>omega
  |succ n ih=>
   intro k N i h b hi hk hn hN hb;simp only[Iw,UZ];refine OK.xl (fun Ix=> ?_) (fun hge=> ?_)
   ·refine OK.pure LK ?_
    dsimp only;refine OK.bind (PM hc hi (by omega)) fun x i' h' y Dc hq=> ?_
    dsimp only;refine OK.pure (Nk (by omega)) ?_
    dsimp only;rw[AG (by omega) (by omega),show((k:Int)+1)=((k+1:Nat):Int)by omega];have:=Wg (n:=x.1) (l:=b);exact ih (k+1) N _ _ _ Dc (by omega) (by omega) hN (by omega)
   ·refine OK.bind (Ym hc hi (by omega)) fun x i' h' y Dc hq=> ?_
    dsimp only;refine OK.cond (fun _=> ?_) (fun _=> ?_)
    ·refine OK.bind (ACW hc Dc (by simp) (by simp)) fun x i' h' y Dc hq=> ?_
     dsimp only;refine OK.ite (by rw[Am];omega) ?_
     grind[OK.some]
    grind[OK.some]
 unfold QM UD;rw[AG (by omega) (by omega)];refine OK.bind (PM hc hi (by omega)) fun x i' h' y Dc hq=> ?_
 dsimp only;obtain⟨N,hN⟩:∃N:Nat,x.1=N:=⟨x.1.toNat,by omega⟩;grind[AW,Aa]
theorem AC4{c:CQ}(qN:c.1.length<=2^10){i h:Int}(hi:FK code i):OK code (fun(x:ACL) (y:ADH)=>y.1.length<=2^13) (ME c code i h):=by
 have key:∀(n k:Nat) (i h:Int) (b:AAA),FK code i->k<=c.1.length->c.1.length-k<n->b.length<=2^12+k->
   OK code (fun(x:ACL) (y:ADH)=>y.1.length<=2^13) (Km n k code i h c.1 c.2.1 b):=by
  intro n
  induction n with
  |zero=>omega
  |succ n ih=>
   intro k i h b hi hk hn hb;simp only[Km,XC];refine OK.xl (fun Ix=> ?_) (fun hge=>OK.some hi (by grind));refine OK.pure (Ff (c:=(c.1,c.2.1,())) (by grind) (by omega)) ?_
   dsimp only;refine OK.cond (fun _=> ?_) (fun _=>OK.some hi (by grind));refine OK.pure (Nk (by omega)) ?_
   dsimp only;rw[AG (by omega) (by omega),show((k:Int)+1)=((k+1:Nat):Int)by omega];have:=Wg (n:=(k:Int)) (l:=b);exact ih (k+1) _ _ _ hi (by omega) (by omega) (by omega)
 unfold ME XO;grind[OK.bind,zA,AW,Aa]
end
theorem AJc{x:Int}:Bp (IntKind.wrap .i64 x):=by
 grind[Bp,IntKind.wrap,IntKind.bits,IntKind.signed]
theorem AM9{a b:Int}:Bp (bOr .i64 a b):=by
 unfold bOr;exact AJc
theorem yU{l:AAA}(hl:l.length<=2^20):∃r,MF l=some ((r,()),())/\Bp r:=by
 have key:∀(n k:Nat) (t:Int),(∀x∈l,0<=x)->Bp t->k<=l.length->l.length-k<n-> ∃r,Kl n l t k=some ((r,()),())/\Bp r:=by
  intro n
  induction n with
  |zero=>omega
  |succ n ih=>
   intro k t hp ht hk hn;simp only[Kl,XS,AB];by_cases Ix:k<l.length
   ·rw[AJe (by omega),AJe (by omega),Ah Ix,AJk (by simp_all),AG (x:=(k:Int)+1) (by omega) (by omega),show((k:Int)+1)=((k+1:Nat):Int)by omega]
    grind[AM9]
   grind
 unfold MF XE;rw[jY (by omega)];simp only[AD,Aq];rcases AJd (ug l 7)with ha|ha
 ·rw[ha]
  exact key AW 0 0 (fun x hx=>((AAv.1 ha).1 x hx).1) (by unfold Bp;omega) (by omega) (Aa (by omega))
 ·rw[ha]
  exact⟨-1,rfl,by unfold Bp;omega⟩
abbrev mf:Al×Unit->Unit->Prop:=fun x _=>Bp x.1.2.1/\Bp x.1.2.2.1/\Bp x.1.2.2.2.1/\x.1.2.2.2.2.1.length<=40
theorem AIE(x:Int):Bp (AQ x):=by
 grind[AQ,IntKind.wrap,Bp,IntKind.bits,IntKind.signed]
theorem Rm{x:Int}(h: -1000<=x/\x<=1000):Bp x:=by unfold Bp;omega
section
variable{code:AAA} (hc:code.length<=2^30) {w:AA} (h:RX w)
include hc h
theorem RX.AGX{e:Int}(he:1<=e/\e<=w.BF.length):0<(Br w.BF e).length/\(Br w.BF e).length<=8/\ ∀x∈Br w.BF e,0<=x/\x<8:=by
 have hh:=(h.rH.BF _ (BJ (d:=Hp) (show(e-1).toNat<(CT w).1.length by show _<w.BF.length;omega))).1;have hn:=Wr hh;have qN:=(F_ h.cfg).2.1;unfold Br;rw[An.2 he,AJe rfl];refine⟨?_,H_ hn,fun x hx=> ?_⟩
 ·rcases AVf (w.BF.getD (e-1).toNat Hp).1.length with h0|h0
  ·have ADT:=ANT h0
   have hh':holds (Ae w) (w.BF.getD (e-1).toNat Hp).1=true:=hh;grind[holds_nil]
  omega
 ·have:=(Eo.1 hn).2.1 x hx
  omega
theorem zE(hw:0<w.AL.length){i hh:Int}(hi:FK code i):OK code mf (Gj w code i hh):=by
 have k:=h.nums;have k2:=k.wr;have k5:=k.era;have pt:0<w.2.2.2.2.2.2.1.length:=hw;have tail:∀(j:Int),0<=j->j<(w.2.2.2.2.2.2.1.length:Int)-> ∀i hh,FK code i->OK code mf (
   (Ce (w.2.2.2.2.1,w.2.2.2.2.2.1,()) ((w.2.2.2.2.2.2.1.getD (j.toNat) (0,[],())).1)).bind fun cf=>
   (Ag (cf.2.1.length:Int) code i hh).bind fun Uj=>
   if(0:Int)<=Uj.1.1/\Uj.1.1<(cf.2.1.length:Int)then(
   cond ((((w.2.2.2.2.2.2.1.getD (j.toNat) (0,[],())).2.1).length:Int)==0)
    ((FX [[],[97],[98,99],[100]] Uj.2.1.1 Uj.2.1.2.1 Uj.2.1.2.2.1).bind fun cK=>
    some (((2,j,0,0,cK.1.1,()),()),((cK.2.1.1,cK.2.1.2.1,cK.2.1.2.2.1,()),())))
   ((BW 7 Uj.2.1.1 Uj.2.1.2.1 Uj.2.1.2.2.1).bind fun aL=>
   cond (aL.1.1)
    ((FX [[],[97],[98,99],[100]] aL.2.1.1 aL.2.1.2.1 aL.2.1.2.2.1).bind fun jZ=>
    some (((2,j,0,0,jZ.1.1,()),()),((jZ.2.1.1,jZ.2.1.2.1,jZ.2.1.2.2.1,()),())))
   ((BW 3 aL.2.1.1 aL.2.1.2.1 aL.2.1.2.2.1).bind fun sD=>
   cond (sD.1.1)
    (some (((4,(cf.2.1.getD (Uj.1.1.toNat) 0),0,0,[],()),()),((sD.2.1.1,sD.2.1.2.1,sD.2.1.2.2.1,()),())))
   ((NO (((w.2.2.2.2.2.2.1.getD (j.toNat) (0,[],())).2.1).length:Int) 3).bind fun zf=>
   (Ag zf.1.1 sD.2.1.1 sD.2.1.2.1 sD.2.1.2.2.1).bind fun aN=>
   some (((3,j,AQ ((((w.2.2.2.2.2.2.1.getD (j.toNat) (0,[],())).2.1).length:Int)-aN.1.1),(cf.2.1.getD (Uj.1.1.toNat) 0),[],()),()),((aN.2.1.1,aN.2.1.2.1,aN.2.1.2.2.1,()),()))))))else none):=by
  intro j hj0 hj1 i hh hi;have hx:=h.AL _ (BJ (d:=CO) (show j.toNat<w.AL.length by simp_all));have he:=hx.1.ep;obtain⟨e1,e2,e3⟩:=h.AGX hc (e:=(w.AL.getD j.toNat CO).1) ⟨he.1,hx.2⟩;refine OK.pure (FC (r:=CT w) (by show Af B_ w.2.2.2.2.1<=_;omega)) ?_
  dsimp only
  generalize hns:Br (CT w).1 (w.2.2.2.2.2.2.1.getD j.toNat (0,[],())).1=ns
  have AQl:Br w.BF (w.AL.getD j.toNat CO).1=ns:=hns;rw[AQl]at e1 e2 e3;refine OK.bind (PM hc hi (by omega)) fun x i1 h1 y ck hq=> ?_
  dsimp only at*;refine OK.ite (by omega) ?_
  have AGx:Bp (ns.getD x.1.toNat 0):=Rm (by grind[BJ]);have hjj:Bp j:=Rm (by omega);have z:Bp 0:=Rm (by omega)
  repeat' (first|refine OK.some (by assumption) ?_|refine OK.xl (fun _=> ?_) (fun _=> ?_)|refine OK.u_ (fun _=> ?_) (fun _=> ?_)|refine OK.cond (fun _=> ?_) (fun _=> ?_)|refine OK.ite (by omega) ?_|(refine OK.bind (Ym (by assumption) (by assumption) (by omega)) fun x i h y hi hq=> ?_;dsimp only)|(refine OK.bind (PM (by assumption) (by assumption) (by omega)) fun x i h y hi hq=> ?_;dsimp only at*)|(refine OK.bind (yz (by assumption) (by assumption) (by simp) (by simp)) fun x i h y hi hq=> ?_;dsimp only)|(refine OK.pure Qy ?_;dsimp only)|(refine OK.pure LK ?_;dsimp only))
  all_goals refine⟨?_,?_,?_,?_⟩
  all_goals first
   |assumption
   |exact AIE _
   |exact AVi _
   |grind
 unfold Gj;dsimp only;have e1:AQ ((w.2.2.2.2.2.2.1.length:Int)-1)=(w.2.2.2.2.2.2.1.length:Int)-1:=AG (by omega) (by omega);simp only[e1];refine OK.bind (PM hc hi (by omega)) fun x i1 h1 y ck hq=> ?_
 dsimp only at*;refine OK.bind (Ym hc ck (by omega)) fun x2 i2 h2 y2 mv hq2=> ?_
 dsimp only at*;refine OK.cond (fun _=> ?_) (fun _=> ?_)
 ·refine OK.ite (by omega) ?_
  exact tail _ (by omega) (by omega) _ _ mv
 simp_all
end
end Go.M
end
