/- Plain facts on what the functions compute. -/
import Derived.Test.YtdofdihhmbbbhaaGreatM0
set_option linter.unusedVariables false
set_option linter.unusedSimpArgs false
set_option linter.unusedSectionVars false
section
namespace Go.M
def At(b:AAD)(a:Nat)(w:AAD)(a':Nat):Prop:=a' =a+w.length∧b.drop a=w++b.drop a'
theorem At.nil{b:AAD}{a:Nat}:At b a [] a:=⟨by simp,by simp⟩
theorem At.split{b w w':AAD}{a a2:Nat}(ha:a≤b.length)(h:At b a (w++w') a2):At b a w (a+w.length)∧At b (a+w.length) w' a2∧a+w.length≤b.length:=by
 obtain⟨h1,h2⟩:=h;have e1:b.drop (a+w.length)=w'++b.drop a2:=by
  rw[←List.drop_drop,h2,AGq];simp
 refine⟨⟨rfl,by rw[h2,e1,AGq]⟩,⟨by simp only[AHw]at h1;omega,e1⟩,?_⟩;have:=congrArg List.length h2;simp only[AHw,List.length_drop]at this;omega
theorem At.all{b w:AAD}(h:At b 0 w b.length):b=w:=by
 have:=h.2;simpa using this
section
variable{b:AAD} (hb:Bytes b)
include hb
end
section
variable{code:AAD} (hc:code.length≤2^30)
include hc
theorem gr{i h:Int}{l:List AAg}(hi:Be code i)(hl:l≠[])(hn:l.length≤2^30):∃v i' h',Ee l code i h=some ((v,()),((code,i',h',()),()))∧v∈l∧Be code i':=by
 unfold Ee;have hp:=ALt.2 hl;obtain⟨v,i1,h1,e,v0,v1,_,Hc⟩:=C6 hc (h:=h) (n:=l.length) hi (by omega);rw[e];simp only[AGR];have:=v1 (by omega);rw[AGH ⟨v0,this⟩];obtain⟨k,rfl⟩:∃k:Nat,v=(k:Int):=⟨v.toNat,by omega⟩;exact⟨_,i1,h1,rfl,by rw[BA (by omega)];exact AIN _,Hc⟩
theorem cN{i h:Int}(hi:Be code i):∃v i' h',CY code i h=some ((v,()),((code,i',h',()),()))∧v<2^63∧ -2^63≤v∧Be code i':=by
 unfold CY Bl;obtain⟨v1,i1,h1,e1,a1,b1,_,Hc⟩:=C6 hc (h:=h) (n:=3) hi (by omega);rw[e1];simp only[AGR];obtain⟨v2,i2,h2,e2,a2,b2,_,FB⟩:=C6 hc (h:=h1) (n:=6) Hc (by omega);rw[e2];simp only[AGR];obtain⟨v3,i3,h3,e3,a3,b3,_,Ge⟩:=C6 hc (h:=h2) (n:=15) FB (by omega);rw[e3];simp only[AGR];have:=b1 (by omega);have:=b2 (by omega);cases v3==0 with
 |true=>
  simp only[AIO];obtain⟨p,i4,h4,e4,hp,iG⟩:=Hf hc (h:=h3) (l:=[0,(-1),4294967296,4294967297,9223372036854775807,(-9223372036854775808)]) Ge (by simp) (by simp);rw[e4];simp at hp;exact⟨p,i4,h4,rfl,by omega,by omega,iG⟩
 |false=>
  simp only[AG6];cases v3==1 with
  |true=>
   simp only[AIO];obtain⟨p,i4,h4,e4,hp,iG⟩:=Hf hc (h:=h3) (l:=[0,30,31]) Ge (by simp) (by simp);rw[e4];simp only[AGR];obtain⟨q,i5,h5,e5,hq,rf⟩:=Hf hc (h:=h4) (l:=[0,60,61]) iG (by simp) (by simp);rw[e5];simp only[AGR];simp at hp hq;rw[AG (x:=4294967296*p) (by omega) (by omega),AG (by omega) (by omega)];exact⟨_,i5,h5,rfl,by omega,by omega,rf⟩
  |false=>
   simp only[AG6];rw[AG (x:=1+v1) (by omega) (by omega),AG (x:=1+v2) (by omega) (by omega),AG (x:=4294967296*_) (by omega) (by omega),AG (by omega) (by omega)];exact⟨_,i3,h3,rfl,by omega,by omega,Ge⟩
end
end Go.M
end
section
namespace Go.M
open Go.M.H (CU AN BF AQ AW AR AY Bv A9 Av kD cJ Vo)
section
variable{b:AAD} (hb:Bytes b) (hl:b.length≤2^30)
include hb hl
end
theorem kI{o:Int}{l:List BF}{x:Int}{y:List BF}{z:Int}(hl:AW A9 l≤2^30):∀(n i:Nat) (acc:List BF),i≤l.length→l.length-i<n→acc.length=i→
  Gl n i o l x y z acc=some (((z,(),()),()),(acc++l.drop i,()))
 |0,i,_,_,h,_=>by omega
 |n+1,i,acc,hi,h,ha=>by
  have vd:=AR (f:=A9) (l:=l);simp only[Gl,M0,AB];by_cases hc:i<l.length
  ·have hm:=AY (f:=A9) (AIN hc)
   rw[AGH (by omega),AGH (by omega),BA hc,drop_cons hc];simp only[A9]at hm;rw[AGH (by rw[Ax];omega),AGH (by rw[Ax];omega),AG (by omega) (by omega),show((i:Int)+1)=((i+1:Nat):Int)by omega];rw[kI hl n (i+1) _ (by omega) (by omega) (by simp[ha])];simp only[AGq,AKF,AIf]
  ·rw[AGU (by omega)]
   have:i=l.length:=by omega
   subst this;simp
theorem gG{w:AQ}(hl:AW A9 w.2.1≤2^30):Cj w=some (((w.1,(),()),()),(w.2.1,())):=by
 have vd:=AR (f:=A9) (l:=w.2.1);unfold Cj Na;have:=kI (o:=w.1) (l:=w.2.1) (x:=0) (y:=[]) (z:=w.1) hl Ac 0 [] (by omega) (Ae (by omega)) rfl;simpa using this
theorem qh{l:AAD}{x:Int}(hl:l.length≤2^30):∃r,B6 l x=some ((r,()),()):=by
 have key:∀(n i:Nat),i≤l.length→l.length-i<n→ ∃r,Hh n l x i=some ((r,()),()):=by
  intro n
  induction n with
  |zero=>intro i _ h;omega
  |succ n ih=>
   intro i hi h;simp only[Hh,N4,AB];by_cases hc:i<l.length
   ·rw[AGH (by omega),AGH (by omega),AG (by omega) (by omega),show((i:Int)+1)=((i+1:Nat):Int)by omega]
    cases(l.getD ((i:Int).toNat) 0==x)with
    |true=>exact⟨true,rfl⟩
    |false=>exact ih (i+1) (by omega) (by omega)
   ·rw[AGU (by omega)]
    exact⟨false,rfl⟩
 unfold B6 OB;have:=key Ac 0 (by omega) (Ae (by omega));simpa using this
theorem b_{l:AAD}{x:Int}(hl:l.length≤2^30):∀(n i:Nat) (t:Bool) (b:AAD),i≤l.length→l.length-i<n→b.length≤i+cond t 1 0→ ∃l',E_ n l x t i b=some (((),()),(l',()))∧l'.length≤l.length+1
 |0,i,_,_,_,h,_=>by omega
 |n+1,i,t,b,hi,h,kq=>by
  simp only[E_,Kc,AB];have hb2:b.length≤i+1:=by cases t<;>simp at kq<;>omega
  by_cases hc:i<l.length
  ·have hc2:(0:Int)≤(i:Int)∧(i:Int)<(l.length:Int):=by omega
   have ba:b.length+1≤DE:=by rw[Ax];omega
   rw[AGH hc2.2,AG (by omega) (by omega),show((i:Int)+1)=((i+1:Nat):Int)by omega];simp only[AGH hc2,AGH ba];cases t with
   |true=>
    simp only[AHK,AG6];exact b_ hl n (i+1) true _ (by omega) (by omega) (by simp at kq⊢;omega)
   |false=>
    simp only[AJr,AIO];simp at kq;by_cases hg:l.getD ((i:Int).toNat) 0>x
    ·rw[AGH hg,AGH (by rw[Ax];simp;omega)]
     exact b_ hl n (i+1) true _ (by omega) (by omega) (by simp;omega)
    ·rw[AGU hg]
     exact b_ hl n (i+1) false _ (by omega) (by omega) (by simp;omega)
  ·rw[AGU (by omega),AGH (by rw[Ax];omega)]
   cases t with
   |true=>exact⟨b,rfl,by omega⟩
   |false=>exact⟨_,rfl,by simp at kq⊢;omega⟩
theorem qB{l:AAD}{x:Int}(hl:l.length≤2^30):∃l',Fp l x=some (((),()),(l',()))∧l'.length≤l.length+1:=by
 unfold Fp OH;obtain⟨r,h⟩:=qh (x:=x) hl;rw[h];exact b_ hl Ac 0 r [] (by omega) (Ae (by omega)) (by cases r<;>simp)
def WI(l:List BF):Prop:=l.length≤61∧ ∀e∈l,e.1.length≤41∧e.2.1.length≤9
theorem WI.w{l:List BF}(h:WI l):AW A9 l≤4000:=by
 have key:∀l:List BF,(∀e∈l,e.1.length≤41∧e.2.1.length≤9)→AW A9 l≤60*l.length:=by
  intro l
  induction l with
  |nil=>intro _;simp[AW]
  |cons e l ih=>
   intro hh;have:=hh e (by simp);have:=ih (fun e he=>hh e (by simp[he]));simp only[AW,A9,AHh]at this⊢;omega
 have:=key l h.2;have:=h.1;omega
theorem WI.of{c:Bz}{w:AQ}(h:C2 c w=true):WI w.2.1:=by
 obtain⟨h1,h2,h3,h4⟩:=TH h;exact⟨by omega,fun e he=>by have:=YP (h4 e he);omega⟩
theorem i_{c:Bz}{w:AQ}{s:AAg}(hc:c.1.length≤2^40)(hw:WI w.2.1)(hs:s.length≤41):
  ∃w':AQ,∃off ok,ES c w s=some ((((w'.1,(),()),off,ok,()),()),(w'.2.1,()))∧WI w'.2.1:=by
 unfold ES;have hww:=hw.w;rw[show(c.1,c.2.1,())=c from rfl,show(w.1,w.2.1,())=w from rfl,D5 hc (by omega),gG (by omega)];simp only[AGR];cases C2 c w with
 |false=>exact⟨(0,[],()),0,false,rfl,by simp[WI]⟩
 |true=>
  have h1:=hw.1;simp only[AHK,AG6];rw[AGH (by rw[Ax];omega)];have rk:AW A9 (w.2.1++[(s,[],false,())])≤2^30:=by
   rw[cm];simp only[A9,AIT];omega
  rw[D5 (w:=(w.1,w.2.1++[(s,[],false,())],())) hc rk];simp only[AGR];rcases AGB (C2 c (w.1,w.2.1++[(s,[],false,())],()))with hf|hf
  ·rw[hf]
   exact⟨(w.1,w.2.1++[(s,[],false,())],()),_,true,rfl,WI.of hf⟩
  ·rw[hf]
   exact⟨w,0,false,rfl,hw⟩
theorem ik{c:Bz}{w:AQ}{p q:Int}(hc:c.1.length≤2^40)(hw:WI w.2.1):
  ∃w':AQ,∃ok,CZ c w p q=some ((((w'.1,(),()),ok,()),()),(w'.2.1,()))∧WI w'.2.1:=by
 unfold CZ;have hww:=hw.w;rw[show(c.1,c.2.1,())=c from rfl,show(w.1,w.2.1,())=w from rfl,D5 hc (by omega),gG (by omega),Ar,Ar];simp only[AGR];rcases AGB (C2 c w)with G3|G3
 rotate_left
 ·rw[G3]
  exact⟨(0,[],()),false,rfl,by simp[WI]⟩
 have h1:=hw.1;rw[G3];simp only[AHK,AG6];rcases AGB (BG p 1 (w.2.1.length:Int))with hp|hp
 rotate_left
 ·rw[hp]
  exact⟨w,false,rfl,hw⟩
 rw[hp];simp only[AHK,AG6];cases BG q 0 (AX ((c.1.length:Int)-1))with
 |false=>exact⟨w,false,rfl,hw⟩
 |true=>
  simp only[BG,AG7]at hp;rw[AG (x:=p-1) (by omega) (by omega)];obtain⟨k,hk⟩:∃k:Nat,p-1=(k:Int):=⟨(p-1).toNat,by omega⟩;rw[hk];have hkl:k<w.2.1.length:=by omega
  have hb:(0:Int)≤(k:Int)∧(k:Int)<(w.2.1.length:Int):=by omega
  simp only[AHK,AG6,AKB];rw[AGH hb,AGH hb,BA hkl];have he:=hw.2 _ (AIN hkl);have he2:=YP ((TH G3).2.2.2 _ (AIN hkl))
  generalize pn:w.2.1[k]=e at he he2
  cases e.2.2.1 with
  |true=>exact⟨w,false,rfl,hw⟩
  |false=>
   simp only[AG6];obtain⟨l',hl1,r7⟩:=qB (l:=e.2.1) (x:=q) (by omega);rw[hl1];simp only[AGR];rw[AGH hb,AGH hb,AIP];have hg:(w.2.1.set k (e.1,l',false,())).getD k ([],[],false,())=(e.1,l',false,()):=by
    simp[List.getD,hkl]
   rw[hg];simp only;rw[Ce hc (by omega)];simp only[AGR];rw[AGH hb];refine⟨(w.1,(w.2.1.set k (e.1,l',false,())).set k (e.1,l',holds c l',()),()),true,rfl,by simp only[AKB];exact h1,?_⟩;intro y hy;simp only[ALg]at hy;rcases AIj hy with hy|rfl
   ·exact hw.2 y hy
   ·exact⟨he.1,by simp only;omega⟩
section
variable{code:AAD} (hc:code.length≤2^30)
include hc
theorem LK{c:Bz}(Vp:c.1.length≤2^20){x:Int}{y:List BF}:∀(n k:Nat) (i h:Int) (w:AQ),Be code i→k≤14→14-k<n→WI w.2.1→
  ∃(w':AQ) (i' h':Int),F4 n k code i h c.1 c.2.1 x y w.1 w.2.1=some (((w'.1,(),()),()),((code,i',h',()),w'.2.1,()))∧WI w'.2.1∧Be code i'
 |0,_,_,_,_,_,_,h,_=>by omega
 |n+1,k,i,h,w,hi,hk,hn,hw=>by
  simp only[F4,NL,AB];obtain⟨v,i1,h1,e1,a1,b1,_,Hc⟩:=C6 hc (h:=h) (n:=14) hi (by omega);rw[e1];simp only[AGR];have:=b1 (by omega);by_cases Dl:(k:Int)<v
  ·rw[AGH Dl]
   obtain⟨s,i2,h2,e2,hs,FB⟩:=gr hc (h:=h1) (l:=[[],[97],[98,99]]) Hc (by simp) (by simp);rw[e2];simp only[AGR];have hsl:s.length≤41:=by
    simp at hs;rcases hs with rfl|rfl|rfl<;>simp
   obtain⟨w1,off,ok,e3,hw1⟩:=i_ (c:=c) (w:=w) (s:=s) (by omega) hw hsl;rw[show(c.1,c.2.1,())=c from rfl,show(w.1,w.2.1,())=w from rfl,e3];simp only[AGR];obtain⟨o,i3,h3,e4,Ge⟩:=ZG hc (h:=h2) (n:=2) FB (by omega);rw[e4];simp only[AGR];rw[AG (x:=(k:Int)+1) (by omega) (by omega),show((k:Int)+1)=((k+1:Nat):Int)by omega];cases o with
   |true=>
    simp only[AIO];have h61:=hw.1;obtain⟨m,em,hm⟩:∃m:Int,DR (w.2.1.length:Int) 1=some ((m,()),())∧m≤2^40:=by
     unfold DR;rw[AB];split
     ·exact⟨_,rfl,by omega⟩
     ·exact⟨1,rfl,by omega⟩
    rw[em];simp only[AGR];obtain⟨v4,i4,h4,e5,a5,b5,_,iG⟩:=C6 hc (h:=h3) (n:=m) Ge hm;rw[e5];simp only[AGR];obtain⟨v5,i5,h5,e6,a6,b6,_,rf⟩:=C6 hc (h:=h4) (n:=(c.1.length:Int)) iG (by omega);rw[e6];simp only[AGR];obtain⟨w2,ok2,e7,hw2⟩:=ik (c:=c) (w:=w) (p:=AX (1+v4)) (q:=v5) (by omega) hw;rw[e7];simp only[AGR];cases ok2 with
    |true=>exact LK Vp n (k+1) i5 h5 w2 rf (by omega) (by omega) hw2
    |false=>exact LK Vp n (k+1) i5 h5 w rf (by omega) (by omega) hw
   |false=>
    simp only[AG6];cases ok with
    |true=>exact LK Vp n (k+1) i3 h3 w1 Ge (by omega) (by omega) hw1
    |false=>exact LK Vp n (k+1) i3 h3 w Ge (by omega) (by omega) hw
  ·rw[AGU Dl]
   exact⟨w,i1,h1,rfl,hw,Hc⟩
theorem eZ{c:Bz}(Vp:c.1.length≤2^20){i h:Int}(hi:Be code i):
  ∃(w':AQ) (i' h':Int),Ke c code i h=some (((w'.1,(),()),()),((code,i',h',()),w'.2.1,()))∧WI w'.2.1∧Be code i':=by
 unfold Ke M8;obtain⟨v,i1,h1,e1,a1,b1,_,Hc⟩:=C6 hc (h:=h) (n:=4) hi (by omega);rw[e1];exact LK hc Vp Ac 0 i1 h1 (AX (1+v),[],()) Hc (by omega) (Ae (by omega)) (by simp[WI])
omit hc in
theorem jU{x:Int}{y:List BF}{z:Int}{i h:Int}(hi:Be code i):∀(n:Nat) (l:List BF),61-l.length<n→WI l→
  ∃l',Ed n code i h x y z l=some (((z,(),()),()),((code,i,h,()),l',()))∧WI l'
 |0,_,h,_=>by omega
 |n+1,l,hn,hw=>by
  simp only[Ed,L4,AB];have h1:=hw.1;by_cases h60:l.length<60
  ·rw[AGH (by omega)]
   by_cases h0:0<l.length
   ·rw[AGH (by omega),AGH (by omega),AGH (by rw[Ax];omega)]
    refine jU hi n _ (by simp;omega) ⟨by simp;omega,fun e he=> ?_⟩;rcases AHp.1 he with he|he
    ·exact hw.2 e he
    ·simp only[AIX]at he
     have hm:l.getD 0 ([],[],false,())∈l:=by
      have:=BA (l:=l) (i:=0) (d:=([],[],false,())) h0;simp only[Int.ofNat_zero,Int.toNat_zero]at this;rw[this];exact AIN _
     rw[he];exact hw.2 _ hm
   ·rw[AGU (by omega)]
    exact⟨l,rfl,hw⟩
  ·rw[AGU (by omega)]
   exact⟨l,rfl,hw⟩
theorem ou{c:Bz}(Vp:c.1.length≤2^20){i h:Int}(hi:Be code i):
  ∃(w':AQ) (i' h':Int),KJ c code i h=some (((w'.1,(),()),()),((code,i',h',()),w'.2.1,()))∧AW A9 w'.2.1≤4000∧Be code i':=by
 unfold KJ Ji;obtain⟨w,i1,h1,e1,hw,Hc⟩:=eZ hc Vp (h:=h) hi;rw[show(c.1,c.2.1,())=c from rfl,e1];simp only[AGR];obtain⟨v,i2,h2,e2,a2,b2,_,FB⟩:=C6 hc (h:=h1) (n:=25) Hc (by omega);rw[e2];simp only[AGR];have h61:=hw.1;cases v==0 with
 |true=>
  simp only[AIO];obtain⟨p,i3,h3,e3,hp,Ge⟩:=Hf hc (h:=h2) (l:=[0,30,31]) FB (by simp) (by simp);rw[e3];exact⟨(p,w.2.1,()),i3,h3,rfl,hw.w,Ge⟩
 |false=>
  simp only[AG6];cases v==1 with
  |true=>
   simp only[AIO,AB];by_cases h0:0<w.2.1.length
   ·rw[AGH (by omega),AGH (by omega),AGH (by omega)]
    refine⟨(w.1,w.2.1.set 0 ((w.2.1.getD 0 ([],[],false,())).1,(w.2.1.getD 0 ([],[],false,())).2.1,!(w.2.1.getD 0 ([],[],false,())).2.2.1,()),()),i2,h2,rfl,WI.w ⟨by simp;omega,fun e he=> ?_⟩,FB⟩;rcases AIj he with he|rfl
    ·exact hw.2 e he
    ·have hm:w.2.1.getD 0 ([],[],false,())∈w.2.1:=by
      have:=BA (l:=w.2.1) (i:=0) (d:=([],[],false,())) h0;simp only[Int.ofNat_zero,Int.toNat_zero]at this;rw[this];exact AIN _
     have:=hw.2 _ hm;exact this
   ·rw[AGU (by omega)]
    exact⟨w,i2,h2,rfl,hw.w,FB⟩
  |false=>
   simp only[AG6];cases v==2 with
   |true=>
    simp only[AIO];obtain⟨p,i3,h3,e3,a3,b3,_,Ge⟩:=C6 hc (h:=h2) (n:=2) FB (by omega);rw[e3];simp only[AGR];have:=b3 (by omega);rw[AG (by omega) (by omega),AGH (by rw[Ax];omega),AGH (by rw[Ax];omega)];refine⟨(w.1,w.2.1++[(List.map (fun n:Int=>UInt8.ofNat n.toNat) (List.replicate (40+p).toNat 0),[],false,())],()),i3,h3,rfl,?_,Ge⟩;have hww:=hw.w;have key:=cm (l:=w.2.1) (e:=(List.map (fun n:Int=>UInt8.ofNat n.toNat) (List.replicate (40+p).toNat 0),[],false,()));have hws:AW A9 w.2.1≤60*61:=by
     have AKf:∀l:List BF,(∀e∈l,e.1.length≤41∧e.2.1.length≤9)→AW A9 l≤60*l.length:=by
      intro l
      induction l with
      |nil=>intro _;simp[AW]
      |cons e l ih=>
       intro hh;have:=hh e (by simp);have:=ih (fun e he=>hh e (by simp[he]));simp only[AW,A9,AHh]at this⊢;omega
     have:=AKf _ hw.2;omega
    simp only;rw[key];simp only[A9,ALY,AKR,AIT];omega
   |false=>
    simp only[AG6];cases v==3 with
    |true=>
     simp only[AIO];obtain⟨l',e4,hw4⟩:=jU (x:=0) (y:=[]) (z:=w.1) (h:=h2) FB Ac w.2.1 (Ae (by omega)) hw;rw[e4];exact⟨(w.1,l',()),i2,h2,rfl,hw4.w,FB⟩
    |false=>exact⟨w,i2,h2,rfl,hw.w,FB⟩
end
end Go.M
end
section
set_option maxRecDepth 8000
namespace Go.M
open Go.M.H (AJ AO A0 A3 AA CU AN BF AQ Al BX BS B4 Ao CK AW AR AY Aa Bv A9 Av BE EL BZ Cg C9)
def OK(code:AAD){X Y:Type}(Q:X→Y→Prop)(o:Option (X×(AA8×Y))):Prop:=
 ∃x i h y,o=some (x,((code,i,h,()),y))∧Be code i∧Q x y
section
variable{code:AAD} {X Y Z W:Type} {Q:X→Y→Prop} {R:Z→W→Prop}
theorem OK.bind{o:Option (X×(AA8×Y))}{f:X×(AA8×Y)→Option (Z×(AA8×W))}
  (ho:OK code Q o) (hf:∀x i h y,Be code i→Q x y→OK code R (f (x,((code,i,h,()),y)))):OK code R (o.bind f):=by
 obtain⟨x,i,h,y,e,hi,hq⟩:=ho;rw[e];exact hf x i h y hi hq
theorem OK.pure{A:Type}{o:Option A}{a:A}{f:A→Option (Z×(AA8×W))}(ho:o=some a)(hf:OK code R (f a)):OK code R (o.bind f):=by
 rw[ho];exact hf
theorem OK.some{x:X}{i h:Int}{y:Y}(hi:Be code i)(hq:Q x y):OK code Q (some (x,((code,i,h,()),y))):=⟨x,i,h,y,rfl,hi,hq⟩
theorem OK.cond{b:Bool}{x y:Option (X×(AA8×Y))}(h1:b=true→OK code Q x)(h2:b=false→OK code Q y):OK code Q (cond b x y):=by
 cases b
 ·exact h2 rfl
 ·exact h1 rfl
theorem OK.K3{p:Prop}[Decidable p]{x y:Option (X×(AA8×Y))}(h1:p→OK code Q x)(h2: ¬p→OK code Q y):OK code Q (_root_.cond (decide p) x y):=by
 by_cases hp:p
 ·rw[AIR hp];exact h1 hp
 ·rw[AH_ hp];exact h2 hp
theorem OK.C5{a b:Int}{x y:Option (X×(AA8×Y))}(h1:a=b→OK code Q x)(h2:a≠b→OK code Q y):OK code Q (_root_.cond (a==b) x y):=by
 rw[FH];by_cases hp:a=b
 ·rw[AGH hp];exact h1 hp
 ·rw[AGU hp];exact h2 hp
theorem OK.ite{p:Prop}[Decidable p]{x y:Option (X×(AA8×Y))}(hp:p)(h1:OK code Q x):OK code Q (if p then x else y):=by
 rw[AGH hp];exact h1
end
section
variable{code:AAD} (hc:code.length≤2^30)
include hc
theorem BB{i h n:Int}(hi:Be code i)(hn:n≤2^40):OK code (fun(x:AAl) (y:Unit)=>0≤x.1∧(0<n→x.1<n)∧(n≤0→x.1=0)) (AF n code i h):=by
 obtain⟨v,i',h',e,v0,v1,v2,Dh⟩:=C6 hc (h:=h) hi hn;exact⟨(v,()),i',h',(),e,Dh,v0,v1,v2⟩
theorem Kq{i h n:Int}(hi:Be code i)(hn:n≤2^40):OK code (fun(x:AAa) (y:Unit)=>True) (Aj n code i h):=by
 obtain⟨v,i',h',e,Dh⟩:=ZG hc (h:=h) hi hn;exact⟨(v,()),i',h',(),e,Dh,trivial⟩
theorem L2{i h:Int}{l:AAD}(hi:Be code i)(hl:l≠[])(hn:l.length≤2^30):OK code (fun(x:AAl) (y:Unit)=>x.1∈l) (Bc l code i h):=by
 obtain⟨v,i',h',e,hv,Dh⟩:=Hf hc (h:=h) hi hl hn;exact⟨(v,()),i',h',(),e,Dh,hv⟩
theorem bq{i h:Int}{l:List AAg}(hi:Be code i)(hl:l≠[])(hn:l.length≤2^30):OK code (fun(x:List UInt8×Unit) (y:Unit)=>x.1∈l) (Ee l code i h):=by
 obtain⟨v,i',h',e,hv,Dh⟩:=gr hc (h:=h) hi hl hn;exact⟨(v,()),i',h',(),e,Dh,hv⟩
theorem NN{c:Bz}(Vp:c.1.length≤2^10){i h:Int}(hi:Be code i):OK code (fun(x:AAu) (y:AAv)=>y.1.length≤2^12) (DG c code i h):=by
 have key:∀(n k N:Nat) (i h:Int) (b:AAD),Be code i→k≤N→N-k<n→N≤2^11→b.length≤k→
   OK code (fun(x:AAu) (y:AAv)=>y.1.length≤2^12) (Fy n N k code i h c.1 c.2.1 b):=by
  intro n
  induction n with
  |zero=>intro k N i h b _ _ h;omega
  |succ n ih=>
   intro k N i h b hi hk hn hN hb;simp only[Fy,My];refine OK.K3 (fun Dl=> ?_) (fun pn=> ?_)
   ·refine OK.pure GJ ?_
    dsimp only;refine OK.bind (BB hc hi (by omega)) fun x i' h' y Dh hq=> ?_
    dsimp only;refine OK.pure (Hj (by omega)) ?_
    dsimp only;rw[AG (by omega) (by omega),show((k:Int)+1)=((k+1:Nat):Int)by omega];have:=Td (n:=x.1) (l:=b);exact ih (k+1) N _ _ _ Dh (by omega) (by omega) hN (by omega)
   ·refine OK.bind (Kq hc hi (by omega)) fun x i' h' y Dh hq=> ?_
    dsimp only;refine OK.cond (fun _=> ?_) (fun _=> ?_)
    ·refine OK.bind (L2 hc Dh (by simp) (by simp)) fun x i' h' y Dh hq=> ?_
     dsimp only;refine OK.ite (by rw[Ax];omega) ?_
     exact OK.some Dh (by simp;omega)
    ·exact OK.some Dh (by show b.length≤_;omega)
 unfold DG Mx;rw[AG (by omega) (by omega)];refine OK.bind (BB hc hi (by omega)) fun x i' h' y Dh hq=> ?_
 dsimp only;obtain⟨N,hN⟩:∃N:Nat,x.1=N:=⟨x.1.toNat,by omega⟩;rw[hN];exact key Ac 0 N i' h' [] Dh (by omega) (Ae (by omega)) (by omega) (by simp)
theorem Xp{c:Bz}(Vp:c.1.length≤2^10){i h:Int}(hi:Be code i):OK code (fun(x:AAu) (y:AAv)=>y.1.length≤2^13) (FD c code i h):=by
 have key:∀(n k:Nat) (i h:Int) (b:AAD),Be code i→k≤c.1.length→c.1.length-k<n→b.length≤2^12+k→
   OK code (fun(x:AAu) (y:AAv)=>y.1.length≤2^13) (HL n k code i h c.1 c.2.1 b):=by
  intro n
  induction n with
  |zero=>intro k i h b _ _ h;omega
  |succ n ih=>
   intro k i h b hi hk hn hb;simp only[HL,PH];refine OK.K3 (fun Dl=> ?_) (fun pn=>OK.some hi (by show b.length≤_;omega));refine OK.pure (Ce (c:=(c.1,c.2.1,())) (by show c.1.length≤_;omega) (by omega)) ?_
   dsimp only;refine OK.cond (fun _=> ?_) (fun _=>OK.some hi (by show b.length≤_;omega));refine OK.pure (Hj (by omega)) ?_
   dsimp only;rw[AG (by omega) (by omega),show((k:Int)+1)=((k+1:Nat):Int)by omega];have:=Td (n:=(k:Int)) (l:=b);exact ih (k+1) _ _ _ hi (by omega) (by omega) (by omega)
 unfold FD PD;refine OK.bind (NN hc (c:=(c.1,c.2.1,())) Vp hi) fun x i' h' y Dh hq=> ?_
 dsimp only;exact key Ac 0 i' h' y.1 Dh (by omega) (Ae (by omega)) (by omega)
end
theorem vU{x:Int}:Cb (IntKind.wrap .i64 x):=by
 unfold Cb IntKind.wrap;simp[IntKind.bits,IntKind.signed];split<;>omega
theorem AD7{a b:Int}:Cb (bOr .i64 a b):=by
 unfold bOr;exact vU
theorem iC{l:AAD}(hl:l.length≤2^20):∃r,H_ l=some ((r,()),())∧Cb r:=by
 have key:∀(n k:Nat) (t:Int),(∀x∈l,0≤x)→Cb t→k≤l.length→l.length-k<n→ ∃r,HT n l t k=some ((r,()),())∧Cb r:=by
  intro n
  induction n with
  |zero=>intro k t _ _ _ h;omega
  |succ n ih=>
   intro k t hp ht hk hn;simp only[HT,O4,AB];by_cases Dl:k<l.length
   ·rw[AGH (by omega),AGH (by omega),BA Dl,AGU (by have:=hp _ (AIN Dl);omega),AG (x:=(k:Int)+1) (by omega) (by omega),show((k:Int)+1)=((k+1:Nat):Int)by omega]
    exact ih (k+1) _ hp AD7 (by omega) (by omega)
   ·rw[AGU (by omega)]
    exact⟨t,rfl,ht⟩
 unfold H_ O_;rw[W3 (by omega)];simp only[AK,B_];rcases AGB (eW l 7)with ha|ha
 ·rw[ha]
  exact key Ac 0 0 (fun x hx=>((jJ.1 ha).1 x hx).1) (by unfold Cb;omega) (by omega) (Ae (by omega))
 ·rw[ha]
  exact⟨-1,rfl,by unfold Cb;omega⟩
end Go.M
end
section
set_option maxRecDepth 8000
namespace Go.M
open Go.M.H (AJ AO A0 A3 AA CU AN BF AQ Al BX BS B4 Ao CK AW AR AY Aa Bv A9 Av BE EL BZ Cg C9)
abbrev YQ:B4×Unit→Unit→Prop:=fun x _=>Cb x.1.2.1
theorem Lj{x:Int}(h: -1000≤x∧x≤1000):Cb x:=by unfold Cb;omega
section
variable{code:AAD} (hc:code.length≤2^30) {w:AA} (h:Nh w)
include hc h
theorem Nh.r_{e:Int}(he:1≤e∧e≤w.Ay.length):0<(B8 w.Ay e).length∧(B8 w.Ay e).length≤8∧ ∀x∈B8 w.Ay e,0≤x∧x<8:=by
 have hh:=(h.ez.Ay _ (A8 (d:=Dd) (show(e-1).toNat<(B9 w).1.length by show _<w.Ay.length;omega))).1;have hn:=PR hh;have Vp:=(DQ h.cfg).2.1;unfold B8;rw[BO.2 he,AGH rfl];refine⟨?_,FE hn,fun x hx=> ?_⟩
 ·rcases Nat.eq_zero_or_pos (w.Ay.getD (e-1).toNat Dd).1.length with h0|h0
  ·have iU:=AIV h0
   have hh':holds (AZ w) (w.Ay.getD (e-1).toNat Dd).1=true:=hh;rw[iU,gZ]at hh';cases hh'
  ·exact h0
 ·have:=(HP.1 hn).2.1 x hx
  omega
theorem iq(hw:0<w.AM.length){i hh:Int}(hi:Be code i):OK code YQ (EJ w code i hh):=by
 have k:=h.nums;have k2:=k.wr;have k5:=k.era;have hw':0<w.2.2.2.2.2.2.1.length:=hw;have tail:∀(j:Int),0≤j→j<(w.2.2.2.2.2.2.1.length:Int)→ ∀i hh,Be code i→OK code YQ (
   (Bm (w.2.2.2.2.1,w.2.2.2.2.2.1,()) ((w.2.2.2.2.2.2.1.getD (j.toNat) (0,[],())).1)).bind fun Rr=>
   (AF (Rr.2.1.length:Int) code i hh).bind fun PB=>
   if(0:Int)≤PB.1.1∧PB.1.1<(Rr.2.1.length:Int)then(
   cond ((((w.2.2.2.2.2.2.1.getD (j.toNat) (0,[],())).2.1).length:Int)==0)
    ((Ee [[],[97],[98,99],[100]] PB.2.1.1 PB.2.1.2.1 PB.2.1.2.2.1).bind fun S6=>
    some (((2,j,0,0,S6.1.1,()),()),((S6.2.1.1,S6.2.1.2.1,S6.2.1.2.2.1,()),())))
   ((Aj 7 PB.2.1.1 PB.2.1.2.1 PB.2.1.2.2.1).bind fun JA=>
   cond (JA.1.1)
    ((Ee [[],[97],[98,99],[100]] JA.2.1.1 JA.2.1.2.1 JA.2.1.2.2.1).bind fun YH=>
    some (((2,j,0,0,YH.1.1,()),()),((YH.2.1.1,YH.2.1.2.1,YH.2.1.2.2.1,()),())))
   ((Aj 3 JA.2.1.1 JA.2.1.2.1 JA.2.1.2.2.1).bind fun X2=>
   cond (X2.1.1)
    (some (((4,(Rr.2.1.getD (PB.1.1.toNat) 0),0,0,[],()),()),((X2.2.1.1,X2.2.1.2.1,X2.2.1.2.2.1,()),())))
   ((Nu (((w.2.2.2.2.2.2.1.getD (j.toNat) (0,[],())).2.1).length:Int) 3).bind fun Yf=>
   (AF Yf.1.1 X2.2.1.1 X2.2.1.2.1 X2.2.1.2.2.1).bind fun OL=>
   some (((3,j,AX ((((w.2.2.2.2.2.2.1.getD (j.toNat) (0,[],())).2.1).length:Int)-OL.1.1),(Rr.2.1.getD (PB.1.1.toNat) 0),[],()),()),((OL.2.1.1,OL.2.1.2.1,OL.2.1.2.2.1,()),()))))))else none):=by
  intro j hj0 hj1 i hh hi;have hx:=h.AM _ (A8 (d:=BQ) (show j.toNat<w.AM.length by show j.toNat<w.2.2.2.2.2.2.1.length;omega));have he:=hx.1.ep;obtain⟨e1,e2,e3⟩:=h.r_ hc (e:=(w.AM.getD j.toNat BQ).1) ⟨he.1,hx.2⟩;refine OK.pure (DJ (r:=B9 w) (by show AW Bv w.2.2.2.2.1≤_;omega)) ?_
  dsimp only
  generalize hns:B8 (B9 w).1 (w.2.2.2.2.2.2.1.getD j.toNat (0,[],())).1=ns
  have AC_:B8 w.Ay (w.AM.getD j.toNat BQ).1=ns:=hns;rw[AC_]at e1 e2 e3;refine OK.bind (BB hc hi (by omega)) fun x i1 h1 y Hc hq=> ?_
  dsimp only at*;refine OK.ite (by omega) ?_
  have AAp:Cb (ns.getD x.1.toNat 0):=Lj (by have:=e3 _ (A8 (l:=ns) (i:=x.1.toNat) (d:=0) (by omega));omega);have hjj:Cb j:=Lj (by omega)
  repeat' (first|refine OK.some (by assumption) ?_|refine OK.K3 (fun _=> ?_) (fun _=> ?_)|refine OK.C5 (fun _=> ?_) (fun _=> ?_)|refine OK.cond (fun _=> ?_) (fun _=> ?_)|refine OK.ite (by omega) ?_|(refine OK.bind (Kq (by assumption) (by assumption) (by omega)) fun x i h y hi hq=> ?_;dsimp only)|(refine OK.bind (BB (by assumption) (by assumption) (by omega)) fun x i h y hi hq=> ?_;dsimp only at*)|(refine OK.bind (bq (by assumption) (by assumption) (by simp) (by simp)) fun x i h y hi hq=> ?_;dsimp only)|(refine OK.pure TC ?_;dsimp only)|(refine OK.pure GJ ?_;dsimp only))
  all_goals assumption
 unfold EJ;dsimp only;have e1:AX ((w.2.2.2.2.2.2.1.length:Int)-1)=(w.2.2.2.2.2.2.1.length:Int)-1:=AG (by omega) (by omega);simp only[e1];refine OK.bind (BB hc hi (by omega)) fun x i1 h1 y Hc hq=> ?_
 dsimp only at*;refine OK.bind (Kq hc Hc (by omega)) fun x2 i2 h2 y2 FB eu=> ?_
 dsimp only at*;refine OK.cond (fun _=> ?_) (fun _=> ?_)
 ·refine OK.ite (by omega) ?_
  exact tail _ (by omega) (by omega) _ _ FB
 ·refine OK.ite (by omega) ?_
  exact tail _ (by omega) (by omega) _ _ FB
end
end Go.M
end
section
set_option maxRecDepth 8000
namespace Go.M
open Go.M.H (AJ AO A0 A3 AA CU AN BF AQ Al BX BS B4 Ao CK AW AR AY Aa Bv A9 Av BE EL BZ Cg C9)
section
variable{code:AAD} (hc:code.length≤2^30) {w:AA} (h:Nh w)
include hc h
theorem ko{m:A0}(hm:aa (AZ w) m){t7:Int}:∀(n k:Nat) (t8 i hh:Int),Be code i→k≤m.2.2.2.2.2.1.length→m.2.2.2.2.2.1.length-k<n→
  OK code YQ (D3 n t7 t8 k code i hh w.1 w.2.1 w.2.2.1 w.2.2.2.1 w.2.2.2.2.1 w.2.2.2.2.2.1 w.2.2.2.2.2.2.1 w.2.2.2.2.2.2.2.1 w.2.2.2.2.2.2.2.2.1 w.2.2.2.2.2.2.2.2.2.1 w.2.2.2.2.2.2.2.2.2.2.1 0 0 0 0 [] m.1 m.2.1 m.2.2.1 m.2.2.2.1 m.2.2.2.2.1 m.2.2.2.2.2.1):=by
 have k1:=h.nums.c;have pg:m.2.2.2.2.2.1.length≤60:=by
  have:=hm.n;have hb:=Iv (l:=m.2.2.2.1);split at this<;>omega
 intro n
 induction n with
 |zero=>intro k t8 i hh _ _ h;omega
 |succ n ih=>
  intro k t8 i hh hi hk hn;simp only[D3,ML];refine OK.K3 (fun Dl=> ?_) (fun pn=>OK.some hi (Lj (by show-1000≤(0:Int)∧(0:Int)≤1000;omega)));have AKe:k<m.2.2.2.2.2.1.length:=by omega
  refine OK.ite (by omega) ?_
  rw[AG (x:=(k:Int)+1) (by omega) (by omega),show((k:Int)+1)=((k+1:Nat):Int)by omega];have jH:=FE (hm.wrote _ (A8 (d:=[]) AKe));refine OK.pure (Ce (c:=AZ w) (by show w.1.length≤_;omega) (by show(m.2.2.2.2.2.1.getD k []).length≤_;omega)) ?_
  dsimp only;refine OK.cond (fun _=> ?_) (fun _=>ih (k+1) _ _ _ hi (by omega) (by omega));refine OK.bind (Kq hc hi (by omega)) fun x2 i2 h2 y2 FB eu=> ?_
  dsimp only;exact OK.cond (fun _=>ih (k+1) _ _ _ FB (by omega) (by omega)) (fun _=>ih (k+1) _ _ _ FB (by omega) (by omega))
theorem j9{i hh:Int}(hi:Be code i):OK code YQ (Ib w code i hh):=by
 have k:=h.nums;have k5:=k.era;unfold Ib Mj;have z:Cb 0:=Lj (by omega);refine OK.C5 (fun _=>OK.some hi z) (fun YU=> ?_);have hlen:0<w.BT.length:=by show 0<w.2.2.2.2.2.2.2.1.length;omega
 refine OK.ite (by omega) ?_
 have hmm:=h.BT _ (A8 (d:=Ic) hlen)
 generalize hg:w.2.2.2.2.2.2.2.1.getD 0 (0,0,[],[],false,[],())=m
 have kV:w.BT.getD 0 Ic=m:=hg;rw[kV]at hmm;obtain⟨hm,hm2,hm3⟩:=hmm;have he:=hm.ep;have hb:=hm.b;obtain⟨e1,e2,e3⟩:=h.r_ hc (e:=m.2.1) ⟨he.1,by omega⟩;have pg:m.2.2.2.2.2.1.length≤60:=by
  have:=hm.n;have hb:=Iv (l:=m.2.2.2.1);split at this<;>omega
 refine OK.pure (DJ (r:=B9 w) (by show AW Bv w.2.2.2.2.1≤_;omega)) ?_
 dsimp only
 generalize hns:B8 (B9 w).1 m.2.1=ns
 have AC_:B8 w.Ay m.2.1=ns:=hns;rw[AC_]at e1 e2 e3;refine OK.bind (BB hc hi (by omega)) fun x i1 h1 y Hc hq=> ?_
 dsimp only at*;refine OK.ite (by omega) ?_
 have AAp:Cb (ns.getD x.1.toNat 0):=Lj (by have:=e3 _ (A8 (l:=ns) (i:=x.1.toNat) (d:=0) (by omega));omega);have fin:∀t8 i hh,Be code i→OK code YQ (D3 Ac (ns.getD x.1.toNat 0) t8 0 code i hh w.1 w.2.1 w.2.2.1 w.2.2.2.1 w.2.2.2.2.1 w.2.2.2.2.2.1 w.2.2.2.2.2.2.1 w.2.2.2.2.2.2.2.1 w.2.2.2.2.2.2.2.2.1 w.2.2.2.2.2.2.2.2.2.1 w.2.2.2.2.2.2.2.2.2.2.1 0 0 0 0 [] m.1 m.2.1 m.2.2.1 m.2.2.2.1 m.2.2.2.2.1 m.2.2.2.2.2.1):=fun t8 i hh hi=>
  ko hc h hm Ac 0 t8 i hh hi (by omega) (Ae (by omega))
 repeat' (first|refine OK.some (by assumption) ?_|refine OK.K3 (fun _=> ?_) (fun _=> ?_)|refine OK.C5 (fun _=> ?_) (fun _=> ?_)|refine OK.cond (fun _=> ?_) (fun _=> ?_)|refine OK.ite (by omega) ?_|(refine OK.bind (Kq (by assumption) (by assumption) (by omega)) fun x i h y hi hq=> ?_;dsimp only)|(refine OK.bind (BB (by assumption) (by assumption) (by omega)) fun x i h y hi hq=> ?_;dsimp only at*)|(refine OK.bind (bq (by assumption) (by assumption) (by simp) (by simp)) fun x i h y hi hq=> ?_;dsimp only)|(refine OK.pure TC ?_;dsimp only)|(refine OK.pure GJ ?_;dsimp only))
 all_goals first
  |exact fin _ _ _ (by assumption)
  |exact z
  |exact AAp
theorem jb{i hh:Int}(hi:Be code i):OK code YQ (Kg w code i hh):=by
 have k:=h.nums;have k1:=k.c;have k2:=k.wr;have k3:=k.lost;have k4:=k.st;have k5:=k.era;have k6:=k.se;have k7:=k.vG;have AEA:=(DQ h.cfg).1;have ALr:1≤w.1.length:=AEA;have z:Cb 0:=Lj (by omega);have PX:∀i hh,Be code i→OK code YQ ((FD (w.1,w.2.1,()) code i hh).bind fun u3=>
   (H_ u3.2.2.1).bind fun u4=>
   some (((1,u4.1.1,0,0,[],()),()),((u3.2.1.1,u3.2.1.2.1,u3.2.1.2.2.1,()),()))):=fun i hh hi=>by
  refine OK.bind (Xp hc (c:=(w.1,w.2.1,())) (by show w.1.length≤_;omega) hi) fun x i1 h1 y Hc hq=> ?_
  dsimp only;obtain⟨r,hr,hr2⟩:=iC (l:=y.1) (by omega);refine OK.pure hr ?_
  exact OK.some Hc hr2
 have AHT:∀j:Nat,Cb (w.2.2.2.2.2.2.2.2.2.1.getD j (0,[],false,())).1:=fun j=>by
  by_cases hj:j<w.2.2.2.2.2.2.2.2.2.1.length
  ·exact Gt (h.BM _ (A8 (d:=E4) hj)).1
  ·rw[List.getD,AKQ (by omega)];exact z
 have AGj:Cb (w.2.2.2.1.getD 0 0):=by
  by_cases hj:0<w.2.2.2.1.length
  ·have:=(HP.1 h.lost).2.1 _ (A8 (d:=0) hj)
   have hc8:(AZ w).1.length≤8:=k1;have ALn:0≤w.2.2.2.1.getD 0 0∧w.2.2.2.1.getD 0 0<(AZ w).1.length:=this;exact Lj (by omega)
  ·rw[List.getD,AKQ (by omega)];exact z
 unfold Kg;refine OK.C5 (fun _=>PX _ _ hi) (fun YU=> ?_);have hw0:0<w.AM.length:=by show 0<w.2.2.2.2.2.2.1.length;omega
 have hwr:∀i hh,Be code i→OK code YQ ((EJ w code i hh).bind fun ah=>
   some (((ah.1.1.1,ah.1.1.2.1,ah.1.1.2.2.1,ah.1.1.2.2.2.1,ah.1.1.2.2.2.2.1,()),()),((ah.2.1.1,ah.2.1.2.1,ah.2.1.2.2.1,()),()))):=fun i hh hi=>
  OK.bind (iq hc h hw0 hi) fun x i1 h1 y Hc hq=>OK.some Hc hq
 have hmd:∀i hh,Be code i→OK code YQ ((Ib w code i hh).bind fun ah=>
   some (((ah.1.1.1,ah.1.1.2.1,ah.1.1.2.2.1,ah.1.1.2.2.2.1,ah.1.1.2.2.2.2.1,()),()),((ah.2.1.1,ah.2.1.2.1,ah.2.1.2.2.1,()),()))):=fun i hh hi=>
  OK.bind (j9 hc h hi) fun x i1 h1 y Hc hq=>OK.some Hc hq
 rw[show(w.1,w.2.1,w.2.2.1,w.2.2.2.1,w.2.2.2.2.1,w.2.2.2.2.2.1,w.2.2.2.2.2.2.1,w.2.2.2.2.2.2.2.1,w.2.2.2.2.2.2.2.2.1,w.2.2.2.2.2.2.2.2.2.1,w.2.2.2.2.2.2.2.2.2.2.1,())=w from rfl];refine OK.bind (Kq hc hi (by omega)) fun x2 i2 h2 y2 FB eu=> ?_
 dsimp only;refine OK.cond (fun _=>PX _ _ FB) (fun _=> ?_);refine OK.bind (BB hc FB (by omega)) fun x3 i3 h3 y3 Ge Ni=> ?_
 dsimp only at*;have hx3:Cb x3.1:=Lj (by omega)
 repeat' first
  |exact hwr _ _ (by assumption)
  |exact hmd _ _ (by assumption)
  |(refine OK.pure (Js (r:=B9 w) (by show w.2.2.2.2.1.length≤_;omega)) ?_;dsimp only)
  |(first|refine OK.some (by assumption) ?_|refine OK.K3 (fun _=> ?_) (fun _=> ?_)|refine OK.C5 (fun _=> ?_) (fun _=> ?_)|refine OK.cond (fun _=> ?_) (fun _=> ?_)|refine OK.ite (by omega) ?_|(refine OK.bind (Kq (by assumption) (by assumption) (by omega)) fun x i h y hi hq=> ?_;dsimp only)|(refine OK.bind (BB (by assumption) (by assumption) (by omega)) fun x i h y hi hq=> ?_;dsimp only at*)|(refine OK.bind (bq (by assumption) (by assumption) (by simp) (by simp)) fun x i h y hi hq=> ?_;dsimp only)|(refine OK.pure TC ?_;dsimp only)|(refine OK.pure GJ ?_;dsimp only))
 all_goals first
  |exact z
  |exact hx3
  |exact AHT _
  |exact AGj
  |(refine Lj ?_;dsimp only;omega)
end
end Go.M
end
section
set_option maxRecDepth 8000
namespace Go.M
open Go.M.H (AJ AO A0 A3 AA CU AN BF AQ Al BX BS B4 Ao CK AW AR AY Aa Bv A9 Av BE EL BZ Cg C9)
theorem ZU{s:AAD}{p:Int}:∀{l:List BS} {b:Option AJ},(∀x,b=some x→DF x=true)→ ∀x,Pb s p b l=some x→DF x=true
 |[],b,hb,x,h=>hb x h
 |a::l,b,hb,x,h=>by
  simp only[Pb]at h;split at h
  ·rename_i hc
   simp only[AGx]at hc;refine ZU (l:=l) ?_ x h
   intro z hz;split at hz
   ·rename_i z' hz'
    unfold better at hz;split at hz
    ·rw[←ALW hz];exact hc.2.2.1
    ·rw[←ALW hz];exact hb _ rfl
   ·rw[←ALW hz];exact hc.2.2.1
  ·exact ZU (l:=l) hb x h
theorem aA{c:Bz}{g:AN}{sure:Int}{r:Al}{l:List BS}(h:∀e∈r.2.2.1,e.2.2.1.length≤40)(h0:(Ex c g sure r l).2=0):∀e∈(Ex c g sure r l).1.2.2.1,e.2.2.1.length≤40:=by
 have app:∀(ev:BX),ev.2.2.1.length≤40→ ∀e∈r.2.2.1++[ev],e.2.2.1.length≤40:=fun ev pZ e he=>by
  rcases AHp.1 he with he|he
  ·exact h e he
  ·rw[AIX.1 he];exact pZ
 have hf:∀p,(Uw p (Pb (g.1.getD (r.1-1).toNat Dd).1 p none l)).2.2.1.length≤40:=fun p=>by
  cases hb:Pb (g.1.getD (r.1-1).toNat Dd).1 p none l with
  |none=>show 0≤40;omega
  |some x=>
   have:=(FI.1 (ZU (b:=none) (fun x hx=>by cases hx) x hb)).len;unfold Uw;dsimp only;split
   ·show 0≤40;omega
   ·exact this
 revert h0
 unfold Ex;dsimp only;split
 ·intro h0;cases h0
 split
 ·intro h0;cases h0
 split
 ·intro _;exact app _ (by show 0≤40;omega)
 split
 ·intro _;exact app _ (by show 0≤40;omega)
 split
 ·intro h0;cases h0
 split
 ·intro h0;cases h0
 intro _;exact app _ (hf _)
theorem Ap{w:AA}{n:Int}{q:AO×Bool}:(putAt w n q).1.Ab=w.Ab:=by
 unfold putAt;split<;>rfl
theorem iP{w:AA}{a k:Int}(h:kG w):kG (PT w a k).1:=by
 unfold PT;split
 ·exact h
 dsimp only;split
 ·exact h
 rename_i h2;intro r hr;rcases AIj hr with hr|rfl
 ·exact h r hr
 ·refine aA ?_ (by simpa using h2)
  by_cases hl:a.toNat<w.Ab.length
  ·exact h _ (A8 hl)
  ·rw[List.getD,AKQ (by omega)]
   intro e he;exact absurd he (by simp)
theorem CP{w w':AA}(h:kG w)(e:w'.Ab=w.Ab):kG w':=by
 unfold kG;rw[e];exact h
theorem lj{all:Bool}{w:AA}{d:B4}(h:kG w):kG (Rs all w d).1:=by
 unfold Rs;by_cases c:d.1=1
 ·rw[AGH c]
  clear c
  refine CP h ?_
  unfold UE
  try dsimp only
  repeat' split
  all_goals first|rfl|exact Ap
 rw[AGU c];clear c;by_cases c:d.1=2
 ·rw[AGH c]
  clear c
  refine CP h ?_
  unfold doAdd
  try dsimp only
  repeat' split
  all_goals first|rfl|exact Ap
 rw[AGU c];clear c;by_cases c:d.1=3
 ·rw[AGH c]
  clear c
  refine CP h ?_
  unfold QK
  try dsimp only
  repeat' split
  all_goals first|rfl|exact Ap
 rw[AGU c];clear c;by_cases c:d.1=4
 ·rw[AGH c]
  clear c
  refine CP h ?_
  unfold Uu
  try dsimp only
  repeat' split
  all_goals first|rfl|exact Ap
 rw[AGU c];clear c;by_cases c:d.1=5
 ·rw[AGH c]
  clear c
  refine CP h ?_
  unfold QO
  try dsimp only
  repeat' split
  all_goals first|rfl|exact Ap
 rw[AGU c];clear c;by_cases c:d.1=6
 ·rw[AGH c]
  clear c
  refine CP h ?_
  unfold Ui
  try dsimp only
  repeat' split
  all_goals first|rfl|exact Ap
 rw[AGU c];clear c;by_cases c:d.1=7
 ·rw[AGH c]
  clear c
  refine CP h ?_
  unfold Uc
  try dsimp only
  repeat' split
  all_goals first|rfl|exact Ap
 rw[AGU c];clear c;by_cases c:d.1=8
 ·rw[AGH c]
  clear c
  refine CP h ?_
  unfold Ud
  try dsimp only
  repeat' split
  all_goals first|rfl|exact Ap
 rw[AGU c];clear c;by_cases c:d.1=9
 ·rw[AGH c]
  clear c
  refine CP h ?_
  unfold UL
  try dsimp only
  repeat' split
  all_goals first|rfl|exact Ap
 rw[AGU c];clear c;by_cases c:d.1=10
 ·rw[AGH c]
  clear c
  refine CP h ?_
  unfold Uj
  try dsimp only
  repeat' split
  all_goals first|rfl|exact Ap
 rw[AGU c];clear c;by_cases c:d.1=11
 ·rw[AGH c]
  clear c
  refine CP h ?_
  unfold YD
  try dsimp only
  repeat' split
  all_goals first|rfl|exact Ap
 rw[AGU c];clear c;by_cases c:d.1=12
 ·rw[AGH c]
  clear c
  refine CP h ?_
  unfold QZ
  try dsimp only
  repeat' split
  all_goals first|rfl|exact Ap
 rw[AGU c];clear c;by_cases c:d.1=13
 ·rw[AGH c]
  clear c
  refine CP h ?_
  unfold V9
  try dsimp only
  repeat' split
  all_goals first|rfl|exact Ap
 rw[AGU c];clear c;by_cases c:d.1=14
 ·rw[AGH c];exact iP h
 rw[AGU c];clear c;by_cases c:d.1=15
 ·rw[AGH c]
  clear c
  refine CP h ?_
  unfold Uv
  try dsimp only
  repeat' split
  all_goals first|rfl|exact Ap
 rw[AGU c];clear c;refine CP h ?_
 unfold P_;split
 ·rfl
 ·exact Ap
theorem fC{c:Bz}{g:AN}{sure:Int}{r:Al}{l:List BS}(h:∀e∈r.2.2.1,Cb e.2.1)(h0:(Ex c g sure r l).2=0):∀e∈(Ex c g sure r l).1.2.2.1,Cb e.2.1:=by
 have app:∀(ev:BX),Cb ev.2.1→ ∀e∈r.2.2.1++[ev],Cb e.2.1:=fun ev pZ e he=>by
  rcases AHp.1 he with he|he
  ·exact h e he
  ·rw[AIX.1 he];exact pZ
 have hf:∀p b,(Uw p b).2.1=p:=fun p b=>by
  cases b with
  |none=>rfl
  |some x=>unfold Uw;dsimp only;split<;>rfl
 revert h0
 unfold Ex;dsimp only;split
 ·intro h0;cases h0
 rename_i G3;have AGK:Kz c g=true∧PN r=true:=by
  rcases AGB (Kz c g)with h1|h1
  ·rcases AGB (PN r)with h2|h2
   ·exact⟨h1,h2⟩
   ·rw[h1,h2]at G3;exact absurd rfl G3
  ·rw[h1]at G3;exact absurd rfl G3
 have hrg:=(MP.1 AGK.1).tin;have Ro:=WZ.1 AGK.2;have hre:=Ro.ep;have hro:=Ro.off;split
 ·intro h0;cases h0
 split
 ·intro _;exact app _ hrg
 split
 ·intro _;exact app _ (Lj (by show-1000≤r.1+1∧r.1+1≤1000;omega))
 split
 ·intro h0;cases h0
 split
 ·intro h0;cases h0
 intro _;refine app _ ?_
 rw[hf];unfold Cb OD;omega
theorem pR{w:AA}{a k:Int}(h:Rq w):Rq (PT w a k).1:=by
 unfold PT;split
 ·exact h
 dsimp only;split
 ·exact h
 rename_i h2;intro r hr;rcases AIj hr with hr|rfl
 ·exact h r hr
 ·refine fC ?_ (by simpa using h2)
  by_cases hl:a.toNat<w.Ab.length
  ·exact h _ (A8 hl)
  ·rw[List.getD,AKQ (by omega)]
   intro e he;exact absurd he (by simp)
theorem Dt{w w':AA}(h:Rq w)(e:w'.Ab=w.Ab):Rq w':=by
 unfold Rq;rw[show w'.2.2.2.2.2.2.2.2.1=w.2.2.2.2.2.2.2.2.1 from e];exact h
theorem vM{all:Bool}{w:AA}{d:B4}(h:Rq w):Rq (Rs all w d).1:=by
 unfold Rs;by_cases c:d.1=1
 ·rw[AGH c]
  clear c
  refine Dt h ?_
  unfold UE
  try dsimp only
  repeat' split
  all_goals first|rfl|exact Ap
 rw[AGU c];clear c;by_cases c:d.1=2
 ·rw[AGH c]
  clear c
  refine Dt h ?_
  unfold doAdd
  try dsimp only
  repeat' split
  all_goals first|rfl|exact Ap
 rw[AGU c];clear c;by_cases c:d.1=3
 ·rw[AGH c]
  clear c
  refine Dt h ?_
  unfold QK
  try dsimp only
  repeat' split
  all_goals first|rfl|exact Ap
 rw[AGU c];clear c;by_cases c:d.1=4
 ·rw[AGH c]
  clear c
  refine Dt h ?_
  unfold Uu
  try dsimp only
  repeat' split
  all_goals first|rfl|exact Ap
 rw[AGU c];clear c;by_cases c:d.1=5
 ·rw[AGH c]
  clear c
  refine Dt h ?_
  unfold QO
  try dsimp only
  repeat' split
  all_goals first|rfl|exact Ap
 rw[AGU c];clear c;by_cases c:d.1=6
 ·rw[AGH c]
  clear c
  refine Dt h ?_
  unfold Ui
  try dsimp only
  repeat' split
  all_goals first|rfl|exact Ap
 rw[AGU c];clear c;by_cases c:d.1=7
 ·rw[AGH c]
  clear c
  refine Dt h ?_
  unfold Uc
  try dsimp only
  repeat' split
  all_goals first|rfl|exact Ap
 rw[AGU c];clear c;by_cases c:d.1=8
 ·rw[AGH c]
  clear c
  refine Dt h ?_
  unfold Ud
  try dsimp only
  repeat' split
  all_goals first|rfl|exact Ap
 rw[AGU c];clear c;by_cases c:d.1=9
 ·rw[AGH c]
  clear c
  refine Dt h ?_
  unfold UL
  try dsimp only
  repeat' split
  all_goals first|rfl|exact Ap
 rw[AGU c];clear c;by_cases c:d.1=10
 ·rw[AGH c]
  clear c
  refine Dt h ?_
  unfold Uj
  try dsimp only
  repeat' split
  all_goals first|rfl|exact Ap
 rw[AGU c];clear c;by_cases c:d.1=11
 ·rw[AGH c]
  clear c
  refine Dt h ?_
  unfold YD
  try dsimp only
  repeat' split
  all_goals first|rfl|exact Ap
 rw[AGU c];clear c;by_cases c:d.1=12
 ·rw[AGH c]
  clear c
  refine Dt h ?_
  unfold QZ
  try dsimp only
  repeat' split
  all_goals first|rfl|exact Ap
 rw[AGU c];clear c;by_cases c:d.1=13
 ·rw[AGH c]
  clear c
  refine Dt h ?_
  unfold V9
  try dsimp only
  repeat' split
  all_goals first|rfl|exact Ap
 rw[AGU c];clear c;by_cases c:d.1=14
 ·rw[AGH c];exact pR h
 rw[AGU c];clear c;by_cases c:d.1=15
 ·rw[AGH c]
  clear c
  refine Dt h ?_
  unfold Uv
  try dsimp only
  repeat' split
  all_goals first|rfl|exact Ap
 rw[AGU c];clear c;refine Dt h ?_
 unfold P_;split
 ·rfl
 ·exact Ap
theorem ll{all:Bool}{w:AA}{d:B4}(h:Rq w)(e:(KY all w d).2=0):Rq (KY all w d).1:=by
 unfold KY at*;by_cases hc:(!Ff w|| !Re d)=true
 ·rw[AGH hc]at e;cases e
 ·rw[AGU hc];exact vM h
theorem jO{c:Bz}:Rq (Tm c):=fun r hr=>by
 have:r=(1,1,[],()):=by
  have sT:r∈([(1,1,[],()),(1,1,[],())]:List Al):=hr;simpa using sT
 subst this;intro e he;cases he
theorem fO{all:Bool}{w:AA}{d:B4}(h:kG w)(e:(KY all w d).2=0):kG (KY all w d).1:=by
 unfold KY at*;by_cases hc:(!Ff w|| !Re d)=true
 ·rw[AGH hc]at e;cases e
 ·rw[AGU hc];exact lj h
theorem jd{c:Bz}(hc:Cl c=true):Nh (Tm c)∧kG (Tm c):=by
 refine⟨⟨hc,by simp[Tm,H.AA.Ag],SN hc,.inr gZ,fun i hi=> ?_,⟨hc,by show 0≤30;omega,.inl rfl,fun e he=>(by cases he),fun i hi=>by exact absurd hi (by show¬i<0;omega)⟩,by show 0≤4;omega,by show 0≤1;omega,fun x hx=>(by cases hx),List.Pairwise.nil,fun x hx=>(by cases hx),rfl,fun r hr=> ?_,by show 0≤120;omega,fun x hx=>(by cases hx),List.Pairwise.nil⟩,fun r hr=> ?_⟩
 ·have:(Tm c).Ag.getD i Cf=Cf:=by
   show(List.replicate c.1.length Cf).getD i Cf=Cf
   rw[List.getD,ALS];split<;>rfl
  rw[this];exact⟨VS.nil,fun _=>rfl⟩
 ·have:r=(1,1,[],()):=by
   have sT:r∈([(1,1,[],()),(1,1,[],())]:List Al):=hr;simpa using sT
  subst this;exact⟨by show(1:Int)≤1∧(1:Int)≤31;omega,by show(1:Int)≤1∧(1:Int)≤61;omega,by show 0≤120;omega⟩
 ·have:r=(1,1,[],()):=by
   have sT:r∈([(1,1,[],()),(1,1,[],())]:List Al):=hr;simpa using sT
  subst this;intro e he;cases he
theorem ZK{c:Bz}(hc:Cl c=true):E8 c=some (((((),c.2.1,(),(),(),0,(),(),(),(),false,()),true,()),()),(c.1,List.replicate c.1.length Cf,[],[],[],[],[(1,1,[],()),(1,1,[],())],[],())):=by
 have hl:=(DQ hc).2.1;unfold E8;rw[show(c.1,c.2.1,())=c from rfl,Es (by omega),hc];simp only[AK,AHK,AG6];rw[AGH (by rw[Ax];omega),AGH ⟨by omega,by omega,by rw[Ax];omega⟩];rfl
def Wp(x:(AFV×Unit))(y:Unit×Unit×Unit×Unit×Unit×Unit×Unit×Unit×(List B4)×List Int×(List AO)×List Int×(List CU)×(List AQ)×(List A0)×(List Al)×(List A3)×Unit):AA:=
 (y.2.2.2.2.2.2.2.2.2.1,x.1.2.2.1.2.1,y.2.2.2.2.2.2.2.2.2.2.1,y.2.2.2.2.2.2.2.2.2.2.2.1,y.2.2.2.2.2.2.2.2.2.2.2.2.1,x.1.2.2.1.2.2.2.2.2.1,y.2.2.2.2.2.2.2.2.2.2.2.2.2.1,y.2.2.2.2.2.2.2.2.2.2.2.2.2.2.1,y.2.2.2.2.2.2.2.2.2.2.2.2.2.2.2.1,y.2.2.2.2.2.2.2.2.2.2.2.2.2.2.2.2.1,x.1.2.2.1.2.2.2.2.2.2.2.2.2.2.1,())
section
variable{code:AAD} (hc:code.length≤2^30)
include hc
theorem AEr{T:Int}(hT:T≤1000){z1 z2:Int}{z3:Bool}:∀(n k:Nat) (i hh:Int) (w:AA) (acc:List B4),Be code i→(k:Int)≤max T 0→(T-k).toNat<n→acc.length≤k→Nh w→kG w→Rq w→
  OK code (fun x y=>Nh (Wp x y)∧kG (Wp x y)∧Rq (Wp x y)) (CS n T k code i hh 0 0 false [] [] [] [] [] [] [] [] 0 0 false [] [] [] [] [] [] [] [] z1 z2 z3 w.2.1 w.2.2.2.2.2.1 w.2.2.2.2.2.2.2.2.2.2.1 w.1 w.2.2.1 w.2.2.2.1 w.2.2.2.2.1 w.2.2.2.2.2.2.1 w.2.2.2.2.2.2.2.1 w.2.2.2.2.2.2.2.2.1 w.2.2.2.2.2.2.2.2.2.1 acc):=by
 intro n
 induction n with
 |zero=>intro k i hh w acc _ _ h;omega
 |succ n ih=>
  intro k i hh w acc hi hk hn hb hw hr hv;simp only[CS,LS];refine OK.K3 (fun Dl=> ?_) (fun pn=>OK.some hi ⟨hw,hr,hv⟩);rw[show(w.1,w.2.1,w.2.2.1,w.2.2.2.1,w.2.2.2.2.1,w.2.2.2.2.2.1,w.2.2.2.2.2.2.1,w.2.2.2.2.2.2.2.1,w.2.2.2.2.2.2.2.2.1,w.2.2.2.2.2.2.2.2.2.1,w.2.2.2.2.2.2.2.2.2.2.1,())=w from rfl];refine OK.bind (jb hc hw hi) fun x i1 h1 y Hc hq=> ?_
  dsimp only;refine OK.ite (by rw[Ax];omega) ?_
  refine OK.pure (bR (d:=x.1) (hw.VP hr) hq) ?_
  rw[AG (by omega) (by omega),show((k:Int)+1)=((k+1:Nat):Int)by omega];refine OK.C5 (fun h0=> ?_) (fun h0=> ?_)
  ·have h0':(KY true w x.1).2=0:=h0
   exact ih (k+1) i1 h1 (KY true w x.1).1 (acc++[x.1]) Hc (by omega) (by omega) (by simp;omega) (PO.1 (mK h0')) (fO hr h0') (ll hv h0')
  ·exact ih (k+1) i1 h1 w (acc++[x.1]) Hc (by omega) (by omega) (by simp;omega) hw hr hv
theorem AG_{T:Int}(hT:0≤T∧T≤500){qJ:AAD}{vm:AAD}(kq:vm.length≤100)(hd:UX qJ 1):∀(n:Nat) (c i hh:Int),Be code i→1≤c∧c≤3→c.toNat+1000≤n→
  OK code (fun x y=>Nh (Wp x y)∧kG (Wp x y)∧Rq (Wp x y)) (C7 n T code i hh 0 0 false [] [] [] [] [] [] [] [] 0 0 false [] [] [] [] [] [] [] [] c qJ vm):=by
 intro n
 induction n with
 |zero=>intro c i hh _ _ h;omega
 |succ n ih=>
  intro c i hh hi jG hn;have hg:UX qJ c:=⟨hd.1,hd.2.1,jG.1,jG.2,hd.2.2.2.2⟩;have hdl:=hd.2.1;simp only[C7,MH];have fin:OK code (fun x y=>Nh (Wp x y)∧kG (Wp x y)∧Rq (Wp x y)) ((E8 (qJ,c,())).bind fun u6=>
    (AF (AX (T+1)) code i hh).bind fun u7=>
    CS n u7.1.1 0 u7.2.1.1 u7.2.1.2.1 u7.2.1.2.2.1 0 0 false [] [] [] [] [] [] [] [] 0 0 false [] [] [] [] [] [] [] [] u6.1.1.1.2.1 u6.1.1.1.2.2.2.2.2.1 u6.1.1.1.2.2.2.2.2.2.2.2.2.2.1 u6.1.1.1.2.1 u6.1.1.1.2.2.2.2.2.1 u6.1.1.1.2.2.2.2.2.2.2.2.2.2.1 u6.2.1 u6.2.2.1 u6.2.2.2.1 u6.2.2.2.2.1 u6.2.2.2.2.2.1 u6.2.2.2.2.2.2.1 u6.2.2.2.2.2.2.2.1 u6.2.2.2.2.2.2.2.2.1 []):=by
   refine OK.pure (ZK hg.ok) ?_
   rw[AG (by omega) (by omega)];refine OK.bind (BB hc hi (by omega)) fun x i1 h1 y Hc hq=> ?_
   have hwn:=jd hg.ok;exact AEr hc (T:=x.1) (by omega) n 0 i1 h1 (Tm (qJ,c,())) [] Hc (by omega) (by omega) (by simp) hwn.1 hwn.2 jO
  refine OK.K3 (fun Dl=> ?_) (fun pn=>fin);refine OK.pure (Ce (by show qJ.length≤_;omega) (by omega)) ?_
  refine OK.cond (fun _=> ?_) (fun _=>fin);rw[AG (by omega) (by omega)];exact ih (c-1) i hh hi (by omega) (by omega)
theorem AGS{T:Int}(hT:0≤T∧T≤500){qJ:AAD}{c:Int}(hd:UX qJ c):∀(n k:Nat) (i hh:Int) (b:AAD),Be code i→k≤qJ.length→qJ.length-k+1010≤n→b.length≤k→
  OK code (fun x y=>Nh (Wp x y)∧kG (Wp x y)∧Rq (Wp x y)) (C3 n T k code i hh 0 0 false [] [] [] [] [] [] [] [] 0 0 false [] [] [] [] [] [] [] [] c qJ b):=by
 have hdl:=hd.2.1;intro n
 induction n with
 |zero=>intro k i hh b _ _ h;omega
 |succ n ih=>
  intro k i hh b hi hk hn hb;simp only[C3,MO];refine OK.K3 (fun Dl=> ?_) (fun pn=> ?_)
  ·refine OK.ite (by rw[Ax];omega) ?_
   rw[AG (by omega) (by omega),show((k:Int)+1)=((k+1:Nat):Int)by omega];exact ih (k+1) i hh _ hi (by omega) (by omega) (by simp;omega)
  ·exact AG_ hc hT (by omega) ⟨hd.1,hd.2.1,by omega,by omega,hd.2.2.2.2⟩ n c i hh hi ⟨hd.2.2.1,hd.2.2.2.1⟩ (by have:=hd.2.2.2.1;omega)
theorem mD{T:Int}(hT:0≤T∧T≤500){i hh:Int}(hi:Be code i):OK code (fun x y=>Nh (Wp x y)∧kG (Wp x y)∧Rq (Wp x y)) (HK T code i hh):=by
 unfold HK ME;obtain⟨l,c,i1,h1,e,hg,Hc⟩:=Vy hc (h:=hh) hi;rw[e];have hgl:=hg.2.1;exact AGS hc hT hg Ac 0 i1 h1 [] Hc (by omega) (ALN (Ae (by omega))) (by simp)
end
end Go.M
end
section
set_option maxRecDepth 8000
namespace Go.M
open Go.M.H (AJ AO A0 A3 AA CU AN BF AQ Al BX BS B4 Ao CK AW AR AY Aa Bv A9 Av BE EL BZ Cg C9)
abbrev AHr:AJ×Unit→Unit→Prop:=fun x _=>Cb x.1.1∧x.1.2.2.2.1.length≤41
section
variable{code:AAD} (hc:code.length≤2^30)
include hc
theorem Kn{i hh:Int}(hi:Be code i):OK code (fun(x:AAl) (_:Unit)=>Cb x.1) (CY code i hh):=by
 obtain⟨v,i1,h1,e,a,b,Hc⟩:=cN hc (h:=hh) hi;exact⟨(v,()),i1,h1,(),e,Hc,by unfold Cb;omega⟩
theorem aE{i hh:Int}(hi:Be code i):OK code AHr (IZ code i hh):=by
 unfold IZ;dsimp only;refine OK.bind (BB hc hi (by omega)) fun x1 i1 h1 y1 Hc hq1=> ?_
 dsimp only at*;refine OK.bind (BB hc Hc (by omega)) fun x2 i2 h2 y2 FB eu=> ?_
 dsimp only at*;rw[AG (by omega) (by omega),AG (x:=1+x2.1) (by omega) (by omega)];refine OK.pure (Dp (by omega) (by omega)) ?_
 dsimp only;have hp:=OC (e:=1+x1.1) (o:=1+x2.1) (by omega) (by omega);have hpi:=Gt hp.1;refine OK.bind (bq hc FB (by simp) (by simp)) fun x3 i3 h3 y3 Ge Ni=> ?_
 dsimp only at*;have hl:x3.1.length≤41:=by
  simp only[AIU,List.not_mem_nil,or_false]at Ni;rcases Ni with h|h|h|h|h<;>rw[h]<;>simp
 refine OK.bind (Kq hc Ge (by omega)) fun x4 i4 h4 y4 iG hq4=> ?_
 dsimp only;refine OK.cond (fun _=> ?_) (fun _=>OK.some iG ⟨hpi,hl⟩);refine OK.pure (Ci hpi) ?_
 dsimp only;refine OK.bind (BB hc iG (by omega)) fun x5 i5 h5 y5 rf hq5=> ?_
 dsimp only;refine OK.bind (Kq hc rf (by omega)) fun x6 i6 h6 y6 hi6 hq6=> ?_
 dsimp only;exact OK.cond (fun _=>OK.some hi6 ⟨hpi,by show 0≤41;omega⟩) (fun _=>OK.some hi6 ⟨hpi,hl⟩)
theorem Xz{i hh:Int}(hi:Be code i):OK code AHr (MM code i hh):=by
 unfold MM;refine OK.bind (aE hc hi) fun x i h y hi hq=> ?_
 dsimp only at*;refine OK.bind (BB hc hi (by omega)) fun x2 i2 h2 y2 FB eu=> ?_
 dsimp only at*;refine OK.C5 (fun _=> ?_) (fun _=> ?_)
 ·refine OK.bind (Kn hc FB) fun x3 i3 h3 y3 Ge Ni=> ?_
  exact OK.some Ge ⟨Ni,hq.2⟩
 refine OK.C5 (fun _=> ?_) (fun _=> ?_)
 ·refine OK.bind (L2 hc FB (by simp) (by simp)) fun x3 i3 h3 y3 Ge Ni=> ?_
  exact OK.some Ge hq
 refine OK.C5 (fun _=>OK.some FB hq) (fun _=> ?_);refine OK.C5 (fun _=> ?_) (fun _=>OK.some FB hq);refine OK.bind (BB hc FB (by omega)) fun x3 i3 h3 y3 Ge Ni=> ?_
 dsimp only at*;rw[AG (by omega) (by omega)];refine OK.ite (by rw[Ax];omega) ?_
 refine OK.some Ge ⟨hq.1,?_⟩;simp only[ALY,AKR];omega
abbrev StQ:ADy→((List AJ)×(List AJ)×Unit)→Prop:=fun x y=>hY (y.1,y.2.1,x.1.2.2.1,())∧y.1.length≤300∧y.2.1.length≤300∧(∀e∈y.1,Aa e≤41)∧(∀e∈y.2.1,Aa e≤41)
theorem AE6{s:AO}(h:VS s):hY s∧s.1.length≤200∧s.2.1.length≤20∧(∀e∈s.1,Aa e≤41)∧(∀e∈s.2.1,Aa e≤41):=
 ⟨h.sin,h.nk,h.nl,fun e he=>by have:=(FI.1 (h.kept e he)).len;unfold Aa;omega,fun e he=>by have:=(FI.1 (h.late e he)).len;unfold Aa;omega⟩
theorem lk{x2 x3:List AJ}{z:Int}{sl:Int}{l6:List AJ}{i hh:Int}(hi:Be code i)(h6:Yu l6∧l6.length≤20∧ ∀e∈l6,Aa e≤41):∀n:Nat,
  (∀(k:Nat) (b:List AJ),1≤k→k≤5→(5-k)*60+1≤n→b.length≤(k-1)*50→Yu b→(∀e∈b,Aa e≤41)→OK code StQ (DA n k code i hh z x2 x3 sl b l6))∧
  (∀(k j:Nat) (b:List AJ),1≤k→k≤4→1≤j→j≤51→(4-k)*60+1+(51-j)+1≤n→b.length≤(k-1)*50+(j-1)→Yu b→(∀e∈b,Aa e≤41)→OK code StQ (C8 n k j code i hh z x2 x3 sl b l6)):=by
 intro n
 induction n with
 |zero=>exact⟨fun k b _ _ h=>by omega,fun k j b _ _ _ _ h=>by omega⟩
 |succ n ih=>
  refine⟨fun k b h1 h2 hn hb nM kv=> ?_,fun k j b h1 h2 h3 h4 hn hb nM kv=> ?_⟩
  ·simp only[DA,MS]
   refine OK.K3 (fun Dl=>ih.2 k 1 b h1 (by omega) (by omega) (by omega) (by omega) (by omega) nM kv) (fun pn=> ?_);exact OK.some hi ⟨⟨nM,h6.1⟩,by show b.length≤300;omega,by show l6.length≤300;omega,kv,h6.2.2⟩
  ·simp only[C8,L_]
   refine OK.K3 (fun Dl=> ?_) (fun pn=> ?_)
   ·refine OK.pure (Dp (by omega) (by omega)) ?_
    dsimp only;refine OK.ite (by rw[Ax];omega) ?_
    rw[AG (by omega) (by omega),show((j:Int)+1)=((j+1:Nat):Int)by omega];have hp:=Gt (OC (e:=(k:Int)) (o:=(j:Int)) (by omega) (by omega)).1;refine ih.2 k (j+1) _ h1 h2 (by omega) (by omega) (by omega) (by simp;omega) (fun e he=> ?_) (fun e he=> ?_)
    ·rcases AHp.1 he with he|he
     ·exact nM e he
     ·rw[AIX.1 he];exact hp
    ·rcases AHp.1 he with he|he
     ·exact kv e he
     ·rw[AIX.1 he];show 0≤41;omega
   ·rw[AG (by omega) (by omega),show((k:Int)+1)=((k+1:Nat):Int)by omega]
    exact ih.1 (k+1) b (by omega) (by omega) (by omega) (by omega) nM kv
theorem ny{x2 x3:List AJ}{z:Int}{T:Int}(hT:T≤100):∀(n k:Nat) (i hh:Int) (s:AO),Be code i→(k:Int)≤max T 0→(T-k).toNat+400≤n→VS s→
  OK code StQ (Cm n T k code i hh z x2 x3 s.2.2.1 s.1 s.2.1):=by
 intro n
 induction n with
 |zero=>intro k i hh s _ _ h;omega
 |succ n ih=>
  intro k i hh s hi hk hn hs;have hsw:=hs.w;simp only[Cm,NZ];refine OK.K3 (fun Dl=> ?_) (fun pn=> ?_)
  ·rw[AG (x:=(k:Int)+1) (by omega) (by omega),show((k:Int)+1)=((k+1:Nat):Int)by omega]
   have next:∀(i hh:Int) (s:AO),Be code i→VS s→OK code StQ (Cm n T ((k+1:Nat):Int) code i hh z x2 x3 s.2.2.1 s.1 s.2.1):=fun i hh s hi hs=>ih (k+1) i hh s hi (by omega) (by omega) hs
   refine OK.bind (aE hc hi) fun x i1 h1 y Hc hq=> ?_
   dsimp only at*;rw[show(s.1,s.2.1,s.2.2.1,())=s from rfl,show(x.1.1,x.1.2.1,x.1.2.2.1,x.1.2.2.2.1,())=x.1 from rfl];refine OK.pure (OM (by omega) hs.sin hq.1) ?_
   dsimp only[jF];have qn:VS (HS s x.1).1:=by
    rcases AGB (HS s x.1).2 with h2|h2
    ·exact(V7 h2).1
    ·unfold HS at h2⊢
     rw[GM.2 hs]at h2⊢;simp only[AHK,AHU,AIk]at h2⊢;split at h2
     ·cases h2
     ·rename_i hn;rw[AGU hn];exact hs
   have ALU:=qn.w;have AAs:∀s:AO,VS s→(CQ s).2=true→VS (CQ s).1:=fun s hs h2=>(LL h2).2.1
   refine OK.bind (BB hc Hc (by omega)) fun x2' i2 h2 y2 FB eu=> ?_
   dsimp only at*;refine OK.C5 (fun _=> ?_) (fun _=> ?_)
   ·refine OK.pure (Jg (by omega) hs.sin) ?_
    dsimp only[jF];exact OK.cond (fun hb=>next _ _ _ FB (AAs s hs hb)) (fun _=>next _ _ _ FB hs)
   refine OK.C5 (fun _=> ?_) (fun _=> ?_)
   ·refine OK.pure (Jg (s:=(HS s x.1).1) (by omega) qn.sin) ?_
    dsimp only[jF];exact OK.cond (fun hb=>next _ _ _ FB (AAs _ qn hb)) (fun _=>next _ _ _ FB hs)
   refine OK.C5 (fun _=> ?_) (fun _=> ?_)
   ·refine OK.bind (Kq hc FB (by omega)) fun x3 i3 h3 y3 Ge Ni=> ?_
    dsimp only;refine OK.cond (fun _=> ?_) (fun _=> ?_)
    ·refine OK.bind (BB hc Ge (by omega)) fun x4 i4 h4 y4 iG hq4=> ?_
     dsimp only at*;refine OK.pure (Sa (by omega) hs.sin) ?_
     dsimp only[jF];exact OK.cond (fun hb=>next _ _ _ iG (kX hs)) (fun _=>next _ _ _ iG hs)
    ·exact OK.cond (fun hb=>next _ _ _ Ge qn) (fun _=>next _ _ _ Ge hs)
   ·exact OK.cond (fun hb=>next _ _ _ FB qn) (fun _=>next _ _ _ FB hs)
  ·refine OK.bind (Kq hc hi (by omega)) fun x3 i3 h3 y3 Ge Ni=> ?_
   dsimp only;have hq:=AE6 hc hs;refine OK.cond (fun _=> ?_) (fun _=>OK.some Ge ⟨hq.1,by have:=hq.2.1;show s.1.length≤300;omega,by have:=hq.2.2.1;show s.2.1.length≤300;omega,hq.2.2.2.1,hq.2.2.2.2⟩);exact(lk hc Ge ⟨hq.1.2,hq.2.2.1,hq.2.2.2.2⟩ n).1 1 [] (by omega) (by omega) (by omega) (by simp) (fun e he=>by simp at he) (fun e he=>by simp at he)
theorem cv{i hh:Int}(hi:Be code i):OK code StQ (Dz code i hh):=by
 unfold Dz M1;refine OK.bind (BB hc hi (by omega)) fun x2' i2 h2 y2 FB eu=> ?_
 dsimp only at*;exact ny hc (T:=x2'.1) (by omega) Ac 0 i2 h2 Cf FB (by omega) (ALN (Ae (by omega))) VS.nil
abbrev AHO:ADy→((List AJ)×(List AJ)×Unit)→Prop:=fun x y=>hY (y.1,y.2.1,x.1.2.2.1,())∧Ao (y.1,y.2.1,x.1.2.2.1,())≤40000
theorem Yt{s:AO}(h1:hY s)(h2:s.1.length≤310)(h3:s.2.1.length≤330)(h4:∀e∈s.1,Aa e≤41)(h5:∀e∈s.2.1,Aa e≤41):hY s∧Ao s≤40000:=by
 have a:=Dc (f:=Aa) (B:=41) h2 h4;have b:=Dc (f:=Aa) (B:=41) h3 h5;refine⟨h1,?_⟩;unfold Ao;omega
theorem nu{x2 x3:List AJ}{z sl:Int}{l5:List AJ}(h5:Yu l5∧l5.length≤300∧ ∀e∈l5,Aa e≤41):∀(n:Nat) (i hh:Int) (b:List AJ),Be code i→330-b.length<n→b.length≤310→Yu b→(∀e∈b,Aa e≤41)→
  OK code AHO (JF n code i hh z x2 x3 sl l5 b):=by
 intro n
 induction n with
 |zero=>intro i hh b _ h;omega
 |succ n ih=>
  intro i hh b hi hn hb nM kv;simp only[JF,RZ];refine OK.bind (BB hc hi (by omega)) fun x i2 h2 y2 FB eu=> ?_
  dsimp only at*;rw[AG (by omega) (by omega)];refine OK.K3 (fun Dl=> ?_) (fun _=>OK.some FB (Yt hc ⟨h5.1,nM⟩ (by show l5.length≤_;omega) (by show b.length≤_;omega) h5.2.2 kv));refine OK.pure (Dp (by omega) (by omega)) ?_
  dsimp only;refine OK.ite (by rw[Ax];omega) ?_
  have hp:=Gt (OC (e:=5) (o:=1) (by omega) (by omega)).1;refine ih i2 h2 _ FB (by simp;omega) (by simp;omega) (fun e he=> ?_) (fun e he=> ?_)
  ·rcases AHp.1 he with he|he
   ·exact nM e he
   ·rw[AIX.1 he];exact hp
  ·rcases AHp.1 he with he|he
   ·exact kv e he
   ·rw[AIX.1 he];show 0≤41;omega
theorem nT{i hh:Int}(hi:Be code i):OK code AHO (O9 code i hh):=by
 unfold O9 SM;refine OK.bind (cv hc hi) fun x i1 h1 y Hc hq=> ?_
 dsimp only at*;obtain⟨q1,q2,q3,q4,q5⟩:=hq;have base:hY (y.1,y.2.1,x.1.2.2.1,())∧Ao (y.1,y.2.1,x.1.2.2.1,())≤40000:=Yt hc q1 (by show y.1.length≤_;omega) (by show y.2.1.length≤_;omega) q4 q5;have add:∀{l:List AJ} {e:AJ},(∀x∈l,Aa x≤41)→Aa e≤41→ ∀x∈l++[e],Aa x≤41:=fun h1 h2 x hx=>by
  rcases AHp.1 hx with hx|hx
  ·exact h1 x hx
  ·rw[AIX.1 hx];exact h2
 have AHi:∀{l:List AJ} {e:AJ},Yu l→Cb e.1→Yu (l++[e]):=fun h1 h2 x hx=>by
  rcases AHp.1 hx with hx|hx
  ·exact h1 x hx
  ·rw[AIX.1 hx];exact h2
 refine OK.bind (BB hc Hc (by omega)) fun x2 i2 h2 y2 FB eu=> ?_
 dsimp only at*;refine OK.C5 (fun _=> ?_) (fun _=> ?_)
 ·refine OK.bind (L2 hc FB (by simp) (by simp)) fun x3 i3 h3 y3 Ge Ni=> ?_
  exact OK.some Ge base
 refine OK.C5 (fun _=> ?_) (fun _=> ?_)
 ·refine OK.bind (Xz hc FB) fun x3 i3 h3 y3 Ge Ni=> ?_
  dsimp only;refine OK.ite (by rw[Ax];omega) ?_
  exact OK.some Ge (Yt hc ⟨AHi q1.1 Ni.1,q1.2⟩ (by show(y.1++[_]).length≤_;simp;omega) (by show y.2.1.length≤_;omega) (add q4 Ni.2) q5)
 refine OK.C5 (fun _=> ?_) (fun _=> ?_)
 ·refine OK.bind (Xz hc FB) fun x3 i3 h3 y3 Ge Ni=> ?_
  dsimp only;refine OK.ite (by rw[Ax];omega) ?_
  exact OK.some Ge (Yt hc ⟨q1.1,AHi q1.2 Ni.1⟩ (by show y.1.length≤_;omega) (by show(y.2.1++[_]).length≤_;simp;omega) q4 (add q5 Ni.2))
 refine OK.C5 (fun _=> ?_) (fun _=>OK.some FB base);exact nu hc ⟨q1.1,q2,q4⟩ Ac i2 h2 y.2.1 FB (Ae (by omega)) (by omega) q1.2 q5
end
end Go.M
end
section
set_option maxRecDepth 8000
namespace Go.M
open Go.M.H (AJ AO A0 A3 AA CU AN BF AQ Al BX BS B4 Ao CK AW AR AY Aa Bv A9 Av BE EL BZ Cg C9)
theorem Tn{α:Type}{f:α→Nat}{x:α}:∀{l:List α} {i:Nat},AW f (l.set i x)≤AW f l+f x
 |[],i=>by simp[AW]
 |y::l,0=>by simp only[ALK,AW];omega
 |y::l,i+1=>by
  have:=Tn (f:=f) (x:=x) (l:=l) (i:=i);simp only[List.set_cons_succ,AW];omega
abbrev AF4:ACh→((List CU)×Unit)→Prop:=fun x y=>AW Bv y.1≤300000∧Cb x.1.2.1
def df(c:Bz)(r:AN):Prop:=nP c r∨r=([],0,())
theorem df.w{c:Bz}{r:AN}(h:df c r):AW Bv r.1≤270:=by
 rcases h with h|rfl
 ·exact h.w
 ·show 0≤270;omega
theorem df.n{c:Bz}{r:AN}(h:df c r):r.1.length≤30:=by
 rcases h with h|rfl
 ·exact h.n
 ·show 0≤30;omega
theorem df.tin{c:Bz}{r:AN}(h:df c r):Cb r.2.1:=by
 rcases h with h|rfl
 ·exact h.tin
 ·exact Lj (by show-1000≤(0:Int)∧(0:Int)≤1000;omega)
section
variable{code:AAD} (hc:code.length≤2^30) {c:Bz} (Vp:c.1.length≤2^10)
include hc Vp
theorem lZ{z:Int}{x3:List CU}:∀(n k:Nat) (i hh:Int) (r:AN),Be code i→k≤7→7-k<n→df c r→
  OK code (fun(x:ACh) (y:List CU×Unit)=>df c (y.1,x.1.2.1,())) (EX n k code i hh c.1 c.2.1 z x3 r.2.1 r.1):=by
 intro n
 induction n with
 |zero=>intro k i hh r _ _ h;omega
 |succ n ih=>
  intro k i hh r hi hk hn hr;have hrw:=hr.w;have ub:=hr.tin;simp only[EX,Mr];refine OK.bind (BB hc hi (by omega)) fun x i1 h1 y Hc hq=> ?_
  dsimp only at*;refine OK.K3 (fun Dl=> ?_) (fun _=>OK.some Hc hr);rw[AG (x:=(k:Int)+1) (by omega) (by omega),show((k:Int)+1)=((k+1:Nat):Int)by omega];have next:∀(i hh:Int) (r:AN),Be code i→df c r→OK code (fun(x:ACh) (y:List CU×Unit)=>df c (y.1,x.1.2.1,())) (EX n ((k+1:Nat):Int) code i hh c.1 c.2.1 z x3 r.2.1 r.1):=fun i hh r hi hr=>ih (k+1) i hh r hi (by omega) (by omega) hr
  rw[show(c.1,c.2.1,())=c from rfl,show(r.1,r.2.1,())=r from rfl];refine OK.bind (Xp hc (by omega) Hc) fun x2 i2 h2 y2 FB eu=> ?_
  dsimp only at*;refine OK.pure (U2 (by omega) (by omega) ub (by omega)) ?_
  dsimp only;refine OK.bind (BB hc FB (by omega)) fun x3 i3 h3 y3 Ge Ni=> ?_
  dsimp only at*;refine OK.C5 (fun _=> ?_) (fun _=> ?_)
  ·refine OK.bind (BB hc Ge (by omega)) fun x4 i4 h4 y4 iG hq4=> ?_
   dsimp only at*;refine OK.pure (Ti (by omega) (by omega) ub) ?_
   dsimp only[pkR];exact OK.cond (fun hb=>next _ _ (M9 c r _ _).1 iG (.inl (aS hb).2.1)) (fun _=>next _ _ r iG hr)
  refine OK.C5 (fun _=> ?_) (fun _=> ?_)
  ·refine OK.bind (BB hc Ge (by omega)) fun x4 i4 h4 y4 iG hq4=> ?_
   dsimp only at*;refine OK.bind (BB hc iG (by omega)) fun x5 i5 h5 y5 rf hq5=> ?_
   dsimp only at*;rw[AG (by omega) (by omega),AG (x:=1+x5.1) (by omega) (by omega)];refine OK.pure (Dp (by omega) (by omega)) ?_
   dsimp only;have hp:=Gt (OC (e:=1+x4.1) (o:=1+x5.1) (by omega) (by omega)).1;refine OK.pure (VJ (by omega) (by omega) ub hp) ?_
   dsimp only[pkR];exact OK.cond (fun hb=>next _ _ (Qf c r _).1 rf (.inl (c_ hb).2.1)) (fun _=>next _ _ r rf hr)
  ·exact OK.cond (fun hb=>next _ _ (Kh c r _).1 Ge (.inl (cl hb).2.1)) (fun _=>next _ _ r Ge hr)
theorem jY{i hh:Int}(hi:Be code i):OK code (fun(x:ACh) (y:List CU×Unit)=>df c (y.1,x.1.2.1,())) (Kw c code i hh):=by
 unfold Kw NH;exact lZ hc Vp Ac 0 i hh ([],0,()) hi (by omega) (Ae (by omega)) (.inr rfl)
omit Vp in
theorem lY{ns:AAD}(hns:ns.length≤2^13){z t:Int}{x2:List CU}(ht:Cb t):∀(n:Nat) (i hh:Int) (b:List CU),Be code i→40-b.length<n→b.length≤31→AW Bv b≤300+b.length*(2^13+1)→
  OK code AF4 (JL n ns code i hh z x2 t b):=by
 intro n
 induction n with
 |zero=>intro i hh b _ h;omega
 |succ n ih=>
  intro i hh b hi hn hb hw;simp only[JL,Rh];refine OK.bind (BB hc hi (by omega)) fun x i1 h1 y Hc hq=> ?_
  dsimp only at*;rw[AG (by omega) (by omega)];refine OK.K3 (fun Dl=> ?_) (fun _=>OK.some Hc ⟨by show AW Bv b≤_;omega,ht⟩);refine OK.ite (by rw[Ax];omega) ?_
  refine ih i1 h1 _ Hc (by simp;omega) (by simp;omega) ?_
  have:Bv (ns,false,0,())=ns.length:=rfl;rw[Ii];simp only[AW,AHw,AHh,AIT];omega
theorem mA{i hh:Int}(hi:Be code i):OK code AF4 (O7 c code i hh):=by
 unfold O7 SJ;rw[show(c.1,c.2.1,())=c from rfl];refine OK.bind (jY hc Vp hi) fun x i1 h1 y Hc hq=> ?_
 dsimp only at*;have hrw:AW Bv y.1≤270:=hq.w;have hrn:y.1.length≤30:=hq.n;have ub:Cb x.1.2.1:=hq.tin;have PX:∀{i:Nat} {e:CU},Bv e≤2^13→AW Bv (y.1.set i e)≤300000:=fun he=>by
  have:=Tn (f:=Bv) (x:= ‹CU›) (l:=y.1) (i:= ‹Nat›);omega
 have AFy:∀i,i<y.1.length→Bv (y.1.getD i ([],false,0,()))≤270:=fun i hi=>by
  have:=AY (f:=Bv) (A8 (d:=Dd) hi);have h2:Bv (y.1.getD i Dd)≤270:=by omega
  exact h2
 have base:AW Bv y.1≤300000∧Cb x.1.2.1:=⟨by omega,ub⟩;refine OK.bind (BB hc Hc (by omega)) fun x2 i2 h2 y2 FB eu=> ?_
 dsimp only at*;refine OK.C5 (fun _=> ?_) (fun _=> ?_)
 ·refine OK.bind (Kn hc FB) fun x3 i3 h3 y3 Ge Ni=> ?_
  exact OK.some Ge ⟨by show AW Bv y.1≤_;omega,Ni⟩
 refine OK.C5 (fun _=> ?_) (fun _=> ?_)
 ·refine OK.K3 (fun Dl=> ?_) (fun _=>OK.some FB base)
  rw[AG (by omega) (by omega)];refine OK.ite (by omega) ?_
  refine OK.some FB ⟨PX ?_,ub⟩;have:=AFy ((y.1.length:Int)-1).toNat (by omega);have h3:Bv ((y.1.getD ((y.1.length:Int)-1).toNat ([],false,0,())).1,true,(y.1.getD ((y.1.length:Int)-1).toNat ([],false,0,())).2.2.1,())=Bv (y.1.getD ((y.1.length:Int)-1).toNat ([],false,0,())):=rfl;rw[h3];omega
 refine OK.C5 (fun _=> ?_) (fun _=> ?_)
 ·refine OK.K3 (fun Dl=> ?_) (fun _=>OK.some FB base)
  refine OK.bind (L2 hc FB (by simp) (by simp)) fun x3 i3 h3 y3 Ge Ni=> ?_
  dsimp only;refine OK.ite (by omega) ?_
  refine OK.some Ge ⟨PX ?_,ub⟩;have:=AFy 0 (by omega);have h4:Bv ((y.1.getD 0 ([],false,0,())).1,(y.1.getD 0 ([],false,0,())).2.1,x3.1,())=Bv (y.1.getD 0 ([],false,0,())):=rfl;rw[h4];omega
 refine OK.C5 (fun _=> ?_) (fun _=> ?_)
 ·refine OK.K3 (fun Dl=> ?_) (fun _=>OK.some FB base)
  refine OK.bind (NN hc (by omega) FB) fun x3 i3 h3 y3 Ge Ni=> ?_
  dsimp only;refine OK.ite (by omega) ?_
  refine OK.some Ge ⟨PX ?_,ub⟩
  show y3.1.length≤_
  omega
 refine OK.C5 (fun _=> ?_) (fun _=>OK.some FB base);refine OK.bind (Xp hc (by omega) FB) fun x3 i3 h3 y3 Ge Ni=> ?_
 dsimp only;exact lY hc Ni ub Ac i3 h3 y.1 Ge (Ae (by omega)) (by omega) (by omega)
end
section
variable{code:AAD} (hc:code.length≤2^30) {c:Bz} (n_:Cl c=true)
include hc n_
theorem sM{l:AAD}(hl:l.length≤100){m:A0}(hm:m.2.2.1.length≤100):∃l',Iy c m=some (((),()),(l',()))∧l'.length≤1000:=by
 have Vp:=(DQ n_).2.1;have key:∀(n k:Nat) (b:AAD),k≤c.1.length→c.1.length-k<n→b.length≤100+k→ ∃l',JG n k c.1 c.2.1 b=some (((),()),(l',()))∧l'.length≤1000:=by
  intro n
  induction n with
  |zero=>intro k b _ h;omega
  |succ n ih=>
   intro k b hk hn hb;simp only[JG,Q0,AB,B_];by_cases Dl:(k:Int)<(c.1.length:Int)
   ·rw[AGH Dl,show(c.1,c.2.1,())=c from rfl,Ce (by omega) (by omega),Hj (by omega)]
    simp only[AK];rw[AG (by omega) (by omega),show((k:Int)+1)=((k+1:Nat):Int)by omega];have:=Td (n:=(k:Int)) (l:=b);obtain⟨l',e,h'⟩:=ih (k+1) (MW (k:Int) b) (by omega) (by omega) (by omega);rw[e];cases holds c b with
    |true=>exact⟨b,rfl,by omega⟩
    |false=>exact⟨l',rfl,h'⟩
   ·rw[AGU Dl]
    exact⟨b,rfl,by omega⟩
 unfold Iy Ra;rw[AGH (by rw[Ax];omega)];exact key Ac 0 m.2.2.1 (by omega) (Ae (by omega)) (by omega)
theorem jf{m:A0}{o n:Int}(h:(Uo c m o n).2=true):aa c (Uo c m o n).1:=by
 unfold Uo at*;rcases AGB (Gp c m)with hm|hm
 rotate_left
 ·rw[hm]at h;cases h
 rw[hm]at h⊢;simp only[AHK,AHU,AIk]at h⊢;split at h
 ·rename_i hq
  rw[AGH hq];have T9:=I9.1 hm;rw[AGx,BO,BO]at hq;refine⟨T9.cfg,T9.ep,T9.b,T9.sld,T9.pJ,T9.seen,fun l hl=> ?_,by simp only[AKB];exact T9.n⟩;rcases AIj hl with hl|rfl
  ·exact T9.wrote l hl
  ·exact Ka (T9.wrote _ (A8 (by omega))) (by omega)
 ·cases h
abbrev pt(x:ADd)(y:List Int×(List AJ)×List AAD×Unit):A0:=(x.1.1,x.1.2.1,y.1,y.2.1,x.1.2.2.2.2.1,y.2.2.1,())
theorem aW{z1 z2:Int}{z3:Bool}{x3:AAD}{x4:List AJ}{x5:List AAD}:∀(n k:Nat) (i hh:Int) (m:A0),Be code i→k≤9→9-k<n→aa c m→
  OK code (fun x y=>aa c (pt x y)) (As n k code i hh c.1 c.2.1 z1 z2 z3 x3 x4 x5 m.1 m.2.1 m.2.2.2.2.1 m.2.2.1 m.2.2.2.1 m.2.2.2.2.2.1):=by
 have Vp:=(DQ n_).2.1;intro n
 induction n with
 |zero=>intro k i hh m _ _ h;omega
 |succ n ih=>
  intro k i hh m hi hk hn hm;have hmw:=hm.w;have AK4:=(KZ (m:=m) (by omega)).2.2.1;simp only[As,IA];refine OK.bind (BB hc hi (by omega)) fun x i1 h1 y Hc hq=> ?_
  dsimp only at*;refine OK.K3 (fun Dl=> ?_) (fun _=>OK.some Hc hm);rw[AG (x:=(k:Int)+1) (by omega) (by omega),show((k:Int)+1)=((k+1:Nat):Int)by omega];refine OK.pure GJ ?_
  dsimp only;refine OK.bind (BB hc Hc (by omega)) fun x2 i2 h2 y2 FB eu=> ?_
  dsimp only at*;refine OK.bind (BB hc FB (by omega)) fun x3 i3 h3 y3 Ge Ni=> ?_
  dsimp only at*;rw[show(c.1,c.2.1,())=c from rfl,show(m.1,m.2.1,m.2.2.1,m.2.2.2.1,m.2.2.2.2.1,m.2.2.2.2.2.1,())=m from rfl];refine OK.pure (U6 (by omega) (by omega) hm.sU) ?_
  dsimp only[jE];exact OK.cond (fun hb=>ih (k+1) _ _ _ Ge (by omega) (by omega) (jf hc n_ hb)) (fun _=>ih (k+1) _ _ m Ge (by omega) (by omega) hm)
theorem l9{T:Int}(hT:T≤100){z1 z2:Int}{z3:Bool}{x3:AAD}{x4:List AJ}{x5:List AAD}:∀(n k:Nat) (i hh:Int) (m:A0),Be code i→(k:Int)≤max T 0→(T-k).toNat+20≤n→aa c m→
  OK code (fun x y=>aa c (pt x y)) (BL n T k code i hh c.1 c.2.1 z1 z2 z3 x3 x4 x5 m.1 m.2.1 m.2.2.2.2.1 m.2.2.1 m.2.2.2.1 m.2.2.2.2.2.1):=by
 have Vp:=(DQ n_).2.1;intro n
 induction n with
 |zero=>intro k i hh m _ _ h;omega
 |succ n ih=>
  intro k i hh m hi hk hn hm;have hmw:=hm.w;have AK4:=KZ (m:=m) (by omega);have hsl:=FE hm.sld;simp only[BL,I4];rw[show(c.1,c.2.1,())=c from rfl,show(m.1,m.2.1,m.2.2.1,m.2.2.2.1,m.2.2.2.2.1,m.2.2.2.2.2.1,())=m from rfl];refine OK.K3 (fun Dl=> ?_) (fun _=> ?_)
  ·rw[AG (x:=(k:Int)+1) (by omega) (by omega),show((k:Int)+1)=((k+1:Nat):Int)by omega]
   refine OK.bind (BB hc hi (by omega)) fun x i1 h1 y Hc hq=> ?_
   dsimp only at*;refine OK.bind (cv hc Hc) fun x2 i2 h2 y2 FB eu=> ?_
   dsimp only at*;obtain⟨q1,q2,q3,q4,q5⟩:=eu;have sq:=Yt hc (s:=(y2.1,y2.2.1,x2.1.2.2.1,())) q1 (by show y2.1.length≤_;omega) (by show y2.2.1.length≤_;omega) q4 q5;refine OK.pure (To (s:=(y2.1,y2.2.1,x2.1.2.2.1,())) (by omega) q1) ?_
   dsimp only;have hes:(JK (y2.1,y2.2.1,x2.1.2.2.1,()) m.2.1).length≤300∧Yu (JK (y2.1,y2.2.1,x2.1.2.2.1,()) m.2.1)∧AW Aa (JK (y2.1,y2.2.1,x2.1.2.2.1,()) m.2.1)≤40000:=by
    unfold JK;split
    ·refine⟨AIx (AJC _ _) q2,fun e he=>q1.1 e (ALZ.1 he).1,AIx Z0 ?_⟩
     have h2:=sq.2;unfold Ao at h2;dsimp only at h2⊢;omega
    ·exact⟨by simp,fun e he=>(by simp at he),by simp[AW]⟩
   refine OK.pure (Tr (by omega) (by omega) hm.sU (by omega) hes.2.1 (by omega)) ?_
   dsimp only[jE];exact OK.cond (fun hb=>ih (k+1) _ _ _ FB (by omega) (by omega) (aZ hb).2.1) (fun _=>ih (k+1) _ _ m FB (by omega) (by omega) hm)
  ·refine OK.bind (Kq hc hi (by omega)) fun x i1 h1 y Hc hq=> ?_
   dsimp only;refine OK.cond (fun _=>OK.some Hc hm) (fun _=> ?_);obtain⟨l',e,ql⟩:=sM hc n_ (l:=[]) (by simp) (m:=m) (by omega);refine OK.pure e ?_
   dsimp only;refine OK.pure (T4 (by omega) (by omega) hm.sU (by omega)) ?_
   dsimp only[jE];exact OK.cond (fun hb=>aW hc n_ n 0 i1 h1 _ Hc (by omega) (by omega) (aY hb).2.1) (fun _=>aW hc n_ n 0 i1 h1 m Hc (by omega) (by omega) hm)
theorem jR{i hh:Int}(hi:Be code i):OK code (fun x y=>aa c (pt x y)) (IC c code i hh):=by
 unfold IC I6;refine OK.bind (BB hc hi (by omega)) fun x i1 h1 y Hc hq=> ?_
 dsimp only at*;rw[AG (by omega) (by omega)];unfold Iu;simp only[AK];refine OK.bind (BB hc Hc (by omega)) fun x2 i2 h2 y2 FB eu=> ?_
 dsimp only at*;exact l9 hc n_ (T:=x2.1) (by omega) Ac 0 i2 h2 (4,1+x.1,[],[],false,[],()) FB (by omega) (ALN (Ae (by omega))) ⟨n_,by show 1≤1+x.1∧1+x.1≤30;omega,by show 1+x.1+1≤4∧(4:Int)≤30;omega,SN n_,List.Pairwise.nil,fun e he=>(by cases he),fun l hl=>(by cases hl),rfl⟩
abbrev AHy:AFR×Unit→List Int×(List AJ)×List AAD×Unit→Prop:=fun x y=>CK (pt x y)≤20000∧Yu y.2.1
theorem lb{i hh:Int}(hi:Be code i):OK code AHy (On c code i hh):=by
 have Vp:=(DQ n_).2.1;unfold On;rw[show(c.1,c.2.1,())=c from rfl];refine OK.bind (jR hc n_ hi) fun x i1 h1 y Hc hq=> ?_
 dsimp only at*;have hw:=hq.w;have he:Yu y.2.1:=hq.sU;have hu:CK (pt x y)=y.1.length+AW Aa y.2.1+AW C9 y.2.2.1:=rfl;have hl1:=AR (f:=C9) (l:=y.2.2.1);have r7:=AR (f:=Aa) (l:=y.2.1);have mk:∀{x':ADd} {a:AAD} {b:List AJ} {d:List AAD},a.length+AW Aa b+AW C9 d≤20000→Yu b→AHy x' (a,b,d,()):=fun h1 h2=>⟨h1,h2⟩
 refine OK.bind (BB hc Hc (by omega)) fun x2 i2 h2 y2 FB eu=> ?_
 dsimp only at*;refine OK.C5 (fun _=> ?_) (fun _=> ?_)
 ·refine OK.bind (L2 hc FB (by simp) (by simp)) fun x3 i3 h3 y3 Ge Ni=> ?_
  exact OK.some Ge (mk (by omega) he)
 refine OK.C5 (fun _=>OK.some FB (mk (by omega) he)) (fun _=> ?_);refine OK.C5 (fun _=> ?_) (fun _=> ?_)
 ·refine OK.bind (NN hc (by omega) FB) fun x3 i3 h3 y3 Ge Ni=> ?_
  dsimp only;refine OK.ite (by rw[Ax];omega) ?_
  refine OK.some Ge (mk ?_ he);rw[Ii];have:C9 y3.1=y3.1.length:=rfl;simp only[AW];omega
 refine OK.C5 (fun _=> ?_) (fun _=> ?_)
 ·refine OK.bind (Xz hc FB) fun x3 i3 h3 y3 Ge Ni=> ?_
  dsimp only;refine OK.ite (by rw[Ax];omega) ?_
  refine OK.some Ge (mk ?_ (fun e he' => ?_))
  ·rw[Ii]
   have:Aa (x3.1.1,x3.1.2.1,x3.1.2.2.1,x3.1.2.2.2.1,())=x3.1.2.2.2.1.length:=rfl;simp only[AW];have:=Ni.2;omega
  ·rcases AHp.1 he' with he'|he'
   ·exact he e he'
   ·rw[AIX.1 he'];exact Ni.1
 refine OK.C5 (fun _=> ?_) (fun _=>OK.some FB (mk (by omega) he));refine OK.bind (NN hc (by omega) FB) fun x3 i3 h3 y3 Ge Ni=> ?_
 dsimp only at*;exact OK.some Ge (mk (by omega) he)
end
end Go.M
end
section
set_option maxRecDepth 8000
namespace Go.M
open Go.M.H (AJ AO A0 A3 AA CU AN BF AQ Al BX BS B4 Ao CK AW AR AY Aa Bv A9 Av BE EL BZ Cg C9)
abbrev AGz:ADs→((List BX)×Unit)→Prop:=fun x y=>y.1.length≤130∧ ∀e∈y.1,BZ e≤40∧Cb e.2.1
section
variable{code:AAD} (hc:code.length≤2^30)
include hc
theorem pP{z1 z2 e o:Int}{x3:List BX}:∀(n k:Nat) (i hh:Int) (b:List BX),Be code i→k≤4→4-k<n→b.length≤k→(∀e∈b,BZ e≤40∧Cb e.2.1)→
  OK code AGz (Ej n k code i hh z1 z2 x3 e o b):=by
 intro n
 induction n with
 |zero=>intro k i hh b _ _ h;omega
 |succ n ih=>
  intro k i hh b hi hk hn hb kv;simp only[Ej,LR];refine OK.bind (BB hc hi (by omega)) fun x i1 h1 y Hc hq=> ?_
  dsimp only at*;have base:b.length≤130∧ ∀e∈b,BZ e≤40∧Cb e.2.1:=⟨by omega,kv⟩;refine OK.K3 (fun Dl=> ?_) (fun _=> ?_)
  ·refine OK.bind (BB hc Hc (by omega)) fun x2 i2 h2 y2 FB eu=> ?_
   dsimp only at*;refine OK.bind (Kn hc FB) fun x3 i3 h3 y3 Ge Ni=> ?_
   dsimp only;refine OK.ite (by rw[Ax];omega) ?_
   rw[AG (x:=(k:Int)+1) (by omega) (by omega),show((k:Int)+1)=((k+1:Nat):Int)by omega];refine ih (k+1) _ _ _ Ge (by omega) (by omega) (by simp;omega) (fun e he=> ?_);rcases AHp.1 he with he|he
   ·exact kv e he
   ·rw[AIX.1 he];exact⟨by show 0≤40;omega,Ni⟩
  ·refine OK.bind (BB hc Hc (by omega)) fun x2 i2 h2 y2 FB eu=> ?_
   dsimp only at*;refine OK.C5 (fun _=> ?_) (fun _=> ?_)
   ·refine OK.bind (L2 hc FB (by simp) (by simp)) fun x3 i3 h3 y3 Ge Ni=> ?_
    exact OK.some Ge base
   refine OK.C5 (fun _=> ?_) (fun _=> ?_)
   ·refine OK.bind (L2 hc FB (by simp) (by simp)) fun x3 i3 h3 y3 Ge Ni=> ?_
    exact OK.some Ge base
   refine OK.C5 (fun _=> ?_) (fun _=>OK.some FB base);refine OK.bind (BB hc FB (by omega)) fun x3 i3 h3 y3 Ge Ni=> ?_
   dsimp only at*;rw[AG (by omega) (by omega)];refine OK.ite (by rw[Ax];omega) ?_
   refine OK.some Ge ⟨by show(List.replicate _ _).length≤130;rw[AKR];omega,fun e he=> ?_⟩;rw[(List.mem_replicate.1 he).2];exact⟨by show 0≤40;omega,Lj (by show-1000≤(0:Int)∧(0:Int)≤1000;omega)⟩
theorem lB{i hh:Int}(hi:Be code i):OK code AGz (Gk code i hh):=by
 unfold Gk LU;refine OK.bind (BB hc hi (by omega)) fun x i1 h1 y Hc hq=> ?_
 dsimp only at*;refine OK.bind (BB hc Hc (by omega)) fun x2 i2 h2 y2 FB eu=> ?_
 exact pP hc Ac 0 _ _ [] FB (by omega) (Ae (by omega)) (by simp) (fun e he=>by simp at he)
theorem om{c:Bz}(Vp:c.1.length≤2^10){i hh:Int}(hi:Be code i):OK code (fun(x:AEw) (y:(List BF)×Unit)=>AW A9 y.1≤4000) (KJ c code i hh):=by
 obtain⟨w',i1,h1,e,hw,Hc⟩:=ou hc (c:=c) (by omega) (h:=hh) hi;exact⟨_,i1,h1,_,e,Hc,hw⟩
theorem lg{i hh:Int}(hi:Be code i):OK code (fun(x:ACh) (y:AAD×Unit)=>y.1.length≤9) (MU code i hh):=by
 obtain⟨l,c',i1,h1,e,hl,Hc⟩:=oP hc (h:=hh) hi;exact⟨_,i1,h1,(l,()),e,Hc,hl⟩
abbrev sS(x:AD1)(y:List Int×(List AO)×List Int×(List CU)×(List AQ)×(List A0)×(List Al)×(List A3)×Unit):AA:=
 (y.1,x.1.2.1,y.2.1,y.2.2.1,y.2.2.2.1,x.1.2.2.2.2.2.1,y.2.2.2.2.1,y.2.2.2.2.2.1,y.2.2.2.2.2.2.1,y.2.2.2.2.2.2.2.1,x.1.2.2.2.2.2.2.2.2.2.2.1,())
def AFF(w:AA):Prop:=(gq w∧Rq w)∧Cg w≤730000∧AW BE w.2.2.2.2.2.2.2.2.1≤50000
omit hc in
theorem we{c:AAD}{m tr:Int}{st:List AO}{lo:AAD}{er:List CU}{wr:List AQ}{md:List A0}{rd:List Al}{se:List A3}{to:Bool}
  (h1:c.length≤100) (h2:AW Ao st≤200000) (h3:lo.length≤5000) (h4:AW Bv er≤300000) (h5:AW Av wr≤50000) (h6:AW CK md≤100000) (h7:AW BE rd≤50000) (h8:AW EL se≤20000)
  (k1:∀s∈st,hY s) (k2:Cb tr) (k3:∀m∈md,Yu m.2.2.2.1) (k4:∀s∈se,Cb s.1) (k5:∀r∈rd,∀e∈r.2.2.1,Cb e.2.1):AFF (c,m,st,lo,er,tr,wr,md,rd,se,to,()):=
 ⟨⟨⟨by unfold Cg;dsimp only;omega,k1,k2,k3,k4⟩,k5⟩,by unfold Cg;dsimp only;omega,h7⟩
theorem iA{i hh:Int}(hi:Be code i){p:AAD}(hp:p.length≤2^30):OK code (fun x y=>AFF (sS x y)) (Fb p code i hh):=by
 unfold Fb;dsimp only;have rk:∃T,Ov p 40 90=some ((T,()),())∧0≤T∧T≤500:=by
  unfold Ov;dsimp only;have hd:(p.length:Int).tdiv 4=(p.length:Int)/4:=AIl (by omega);rw[hd,AG (x:=(p.length:Int)/4) (by omega) (by omega),AG (by omega) (by omega),AB];split
  ·exact⟨90,rfl,by omega⟩
  ·exact⟨_,rfl,by omega⟩
 obtain⟨T,hT,hT2⟩:=rk;refine OK.pure hT ?_
 dsimp only;refine OK.bind (mD hc hT2 hi) fun x i1 h1 y Hc hq=> ?_
 dsimp only;obtain⟨hw,hr,hv⟩:=hq
 generalize eP:Wp x y=w at hw hr hv
 have k:=hw.nums;have e0:y.2.2.2.2.2.2.2.2.2.1=w.1:=by rw[←eP];rfl
 have e1:y.2.2.2.2.2.2.2.2.2.2.1=w.2.2.1:=by rw[←eP];rfl
 have e2:y.2.2.2.2.2.2.2.2.2.2.2.1=w.2.2.2.1:=by rw[←eP];rfl
 have e3:y.2.2.2.2.2.2.2.2.2.2.2.2.1=w.2.2.2.2.1:=by rw[←eP];rfl
 have e4:y.2.2.2.2.2.2.2.2.2.2.2.2.2.1=w.2.2.2.2.2.2.1:=by rw[←eP];rfl
 have e5:y.2.2.2.2.2.2.2.2.2.2.2.2.2.2.1=w.2.2.2.2.2.2.2.1:=by rw[←eP];rfl
 have e6:y.2.2.2.2.2.2.2.2.2.2.2.2.2.2.2.1=w.2.2.2.2.2.2.2.2.1:=by rw[←eP];rfl
 have e7:y.2.2.2.2.2.2.2.2.2.2.2.2.2.2.2.2.1=w.2.2.2.2.2.2.2.2.2.1:=by rw[←eP];rfl
 have e8:x.1.2.2.1.2.1=w.2.1:=by rw[←eP];rfl
 have e9:x.1.2.2.1.2.2.2.2.2.1=w.2.2.2.2.2.1:=by rw[←eP];rfl
 have e10:x.1.2.2.1.2.2.2.2.2.2.2.2.2.2.1=w.2.2.2.2.2.2.2.2.2.2.1:=by rw[←eP];rfl
 rw[e0,e1,e2,e3,e4,e5,e6,e7,e8,e9,e10];have XT:=hw.VP hr;have k1:=k.c;have k2:=k.ws;have k3:=k.lost;have k4:=k.era;have k5:=k.ww;have k9:=k.st;have k10:=k.rd;have k6:AW CK w.2.2.2.2.2.2.2.1≤5001:=by
  have:=Dc (f:=CK) (B:=5000) hw.ku fun x hx=>(hw.BT x hx).1.w
  exact this
 have k7:AW BE w.2.2.2.2.2.2.2.2.1≤10002:=by
  have:=Dc (f:=BE) (B:=5000) (N:=2) (l:=w.Ab) (by rw[hw.dw];omega) fun r hx=>by
   have:=Dc (f:=BZ) (B:=40) (hw.Ab r hx).n (hr r hx);unfold BE;omega
  exact this
 have k8:AW EL w.2.2.2.2.2.2.2.2.2.1≤4920:=by
  have:=Dc (f:=EL) (B:=40) hw.MB fun s hs=>(hw.BM s hs).2.2
  exact this
 have j1:=XT.Ag;have j2:=XT.trim;have j3:=XT.BT;have j4:=XT.nf;have yN:=(DQ hw.cfg).1;have ANJ:1≤w.1.length:=yN;refine OK.bind (BB hc Hc (by omega)) fun x2 i2 h2 y2 FB eu=> ?_
 dsimp only at*;have base:∀{to:Bool},AFF (w.1,w.2.1,w.2.2.1,w.2.2.2.1,w.2.2.2.2.1,w.2.2.2.2.2.1,w.2.2.2.2.2.2.1,w.2.2.2.2.2.2.2.1,w.2.2.2.2.2.2.2.2.1,w.2.2.2.2.2.2.2.2.2.1,to,()):=we (by omega) (by omega) (by omega) (by omega) (by omega) (by omega) (by omega) (by omega) j1 j2 j3 j4 hv;refine OK.C5 (fun _=> ?_) (fun _=> ?_)
 ·refine OK.bind (NN hc (c:=(w.1,w.2.1,())) (by show w.1.length≤_;omega) FB) fun x3 i3 h3 y3 Ge Ni=> ?_
  dsimp only at*;refine OK.some Ge ?_
  dsimp only[sS];exact we (by omega) (by omega) (by omega) (by omega) (by omega) (by omega) (by omega) (by omega) j1 j2 j3 j4 hv
 refine OK.C5 (fun _=> ?_) (fun _=> ?_)
 ·refine OK.bind (nT hc FB) fun x3 i3 h3 y3 Ge Ni=> ?_
  dsimp only at*;refine OK.ite (by omega) ?_
  have:=Tn (f:=Ao) (x:=(y3.1,y3.2.1,x3.1.2.2.1,())) (l:=w.2.2.1) (i:=0);refine OK.some Ge ?_
  dsimp only[sS];refine we (by omega) (by omega) (by omega) (by omega) (by omega) (by omega) (by omega) (by omega) (fun s hs=> ?_) j2 j3 j4 hv;rcases AIj hs with hs|rfl
  ·exact j1 s hs
  ·exact Ni.1
 refine OK.C5 (fun _=> ?_) (fun _=> ?_)
 ·refine OK.bind (mA hc (c:=(w.1,w.2.1,())) (by show w.1.length≤_;omega) FB) fun x3 i3 h3 y3 Ge Ni=> ?_
  dsimp only at*;refine OK.some Ge ?_
  dsimp only[sS];exact we (by omega) (by omega) (by omega) Ni.1 (by omega) (by omega) (by omega) (by omega) j1 Ni.2 j3 j4 hv
 refine OK.C5 (fun _=> ?_) (fun _=> ?_)
 ·refine OK.bind (om hc (c:=(w.1,w.2.1,())) (by show w.1.length≤_;omega) FB) fun x3 i3 h3 y3 Ge Ni=> ?_
  dsimp only at*;have hk:=k.wr;refine OK.ite (by rw[Ax];omega) ?_
  refine OK.some Ge ?_
  dsimp only[sS];refine we (by omega) (by omega) (by omega) (by omega) ?_ (by omega) (by omega) (by omega) j1 j2 j3 j4 hv
  rw[Ii];have:Av (x3.1.1,y3.1,())=AW A9 y3.1:=rfl;simp only[AW];omega
 refine OK.C5 (fun _=> ?_) (fun _=> ?_)
 ·refine OK.bind (lb hc (c:=(w.1,w.2.1,())) hw.cfg FB) fun x3 i3 h3 y3 Ge Ni=> ?_
  dsimp only at*;have hk:=k.md;refine OK.ite (by rw[Ax];omega) ?_
  refine OK.some Ge ?_
  dsimp only[sS];refine we (by omega) (by omega) (by omega) (by omega) (by omega) ?_ (by omega) (by omega) j1 j2 (fun m hm=> ?_) j4 hv
  ·rw[Ii]
   have h8:CK (x3.1.1,x3.1.2.1,y3.1,y3.2.1,x3.1.2.2.2.2.1,y3.2.2.1,())≤20000:=Ni.1;simp only[AW];omega
  ·rcases AHp.1 hm with hm|hm
   ·exact j3 m hm
   ·rw[AIX.1 hm];exact Ni.2
 refine OK.C5 (fun _=> ?_) (fun _=> ?_)
 ·refine OK.bind (lB hc FB) fun x3 i3 h3 y3 Ge Ni=> ?_
  dsimp only at*;refine OK.ite (by omega) ?_
  have:=Tn (f:=BE) (x:=(x3.1.1,x3.1.2.1,y3.1,())) (l:=w.2.2.2.2.2.2.2.2.1) (i:=0);have h9:=Dc (f:=BZ) (B:=40) Ni.1 (fun e he=>(Ni.2 e he).1);have:BE (x3.1.1,x3.1.2.1,y3.1,())=AW BZ y3.1:=rfl;refine OK.some Ge ?_
  dsimp only[sS];refine we (by omega) (by omega) (by omega) (by omega) (by omega) (by omega) (by omega) (by omega) j1 j2 j3 j4 (fun r sT=> ?_);rcases AIj sT with sT|rfl
  ·exact hv r sT
  ·exact fun e he=>(Ni.2 e he).2
 refine OK.C5 (fun _=> ?_) (fun _=> ?_)
 ·refine OK.bind (Kn hc FB) fun x3 i3 h3 y3 Ge Ni=> ?_
  dsimp only at*;have hk:=k.se;refine OK.ite (by rw[Ax];omega) ?_
  refine OK.some Ge ?_
  dsimp only[sS];refine we (by omega) (by omega) (by omega) (by omega) (by omega) (by omega) (by omega) ?_ j1 j2 j3 (fun s hs=> ?_) hv
  ·rw[Ii]
   have:EL (x3.1,[],false,())=0:=rfl;simp only[AW];omega
  ·rcases AHp.1 hs with hs|hs
   ·exact j4 s hs
   ·rw[AIX.1 hs];exact Ni
 refine OK.C5 (fun _=>OK.some FB base) (fun _=> ?_);refine OK.C5 (fun _=> ?_) (fun _=>OK.some FB base);refine OK.bind (lg hc FB) fun x3 i3 h3 y3 Ge Ni=> ?_
 dsimp only at*;refine OK.some Ge ?_
 dsimp only[sS];exact we (by omega) (by omega) (by omega) (by omega) (by omega) (by omega) (by omega) (by omega) j1 j2 j3 j4 hv
theorem fz{w:AA}(h1:w.2.2.2.2.2.2.2.2.2.1.length≤2^20)(h2:∀s∈w.2.2.2.2.2.2.2.2.2.1,Cb s.1){i hh:Int}(hi:Be code i):OK code (fun(x:AAl) (_:Unit)=>Cb x.1) (Jm w code i hh):=by
 unfold Jm;refine OK.K3 (fun Dl=> ?_) (fun _=> ?_)
 ·refine OK.bind (Kq hc hi (by omega)) fun x i1 pV y Hc hq=> ?_
  dsimp only;refine OK.cond (fun _=> ?_) (fun _=> ?_)
  ·refine OK.bind (BB hc Hc (by omega)) fun x2 i2 ux y2 FB eu=> ?_
   dsimp only at*;refine OK.ite (by omega) ?_
   exact OK.some FB (h2 _ (A8 (d:=E4) (by omega)))
  ·refine OK.bind (Kn hc Hc) fun x3 i3 h3 y3 Ge Ni=> ?_
   exact OK.some Ge Ni
 ·refine OK.bind (Kn hc hi) fun x3 i3 h3 y3 Ge Ni=> ?_
  exact OK.some Ge Ni
def pkw(w:AA):IM:=((((),w.2.1,(),(),(),w.2.2.2.2.2.1,(),(),(),(),w.2.2.2.2.2.2.2.2.2.2.1,()),()),(w.1,w.2.2.1,w.2.2.2.1,w.2.2.2.2.1,w.2.2.2.2.2.2.1,w.2.2.2.2.2.2.2.1,w.2.2.2.2.2.2.2.2.1,w.2.2.2.2.2.2.2.2.2.1,()))
def WU(o:Option IM):Prop:= ∃w,o=some (pkw w)∧gq w∧Rq w
omit hc in
theorem WU.bind{X Y:Type}{Q:X→Y→Prop}{o:Option (X×(AA8×Y))}{f:X×(AA8×Y)→Option IM}
  (ho:OK code Q o) (hf:∀x i h y,Be code i→Q x y→WU (f (x,((code,i,h,()),y)))):WU (o.bind f):=by
 obtain⟨x,i,h,y,e,hi,hq⟩:=ho;rw[e];exact hf x i h y hi hq
omit hc in
theorem WU.ite{p:Prop}[Decidable p]{x y:Option IM}(hp:p)(h1:WU x):WU (if p then x else y):=by
 rw[AGH hp];exact h1
omit hc in
theorem WU.C5{a b:Int}{x y:Option IM}(h1:a=b→WU x)(h2:a≠b→WU y):WU (_root_.cond (a==b) x y):=by
 rw[FH];by_cases hp:a=b
 ·rw[AGH hp];exact h1 hp
 ·rw[AGU hp];exact h2 hp
theorem lT:WU (Qj code):=by
 unfold Qj;dsimp only;obtain⟨h0,e0⟩:=kZ hc;rw[e0];simp only[AK];refine WU.bind (iA hc (i:=0) (hh:=h0) ⟨by omega,by omega⟩ hc) fun x i1 h1 y Hc hq=> ?_
 dsimp only
 generalize eP:sS x y=w at hq
 obtain⟨⟨XT,hvin⟩,hwt,hwr⟩:=hq;have e0:y.1=w.1:=by rw[←eP]
 have e1:y.2.1=w.2.2.1:=by rw[←eP]
 have e2:y.2.2.1=w.2.2.2.1:=by rw[←eP]
 have e3:y.2.2.2.1=w.2.2.2.2.1:=by rw[←eP]
 have e4:y.2.2.2.2.1=w.2.2.2.2.2.2.1:=by rw[←eP]
 have e5:y.2.2.2.2.2.1=w.2.2.2.2.2.2.2.1:=by rw[←eP]
 have e6:y.2.2.2.2.2.2.1=w.2.2.2.2.2.2.2.2.1:=by rw[←eP]
 have e7:y.2.2.2.2.2.2.2.1=w.2.2.2.2.2.2.2.2.2.1:=by rw[←eP]
 have e8:x.1.2.1=w.2.1:=by rw[←eP]
 have e9:x.1.2.2.2.2.2.1=w.2.2.2.2.2.1:=by rw[←eP]
 have e10:x.1.2.2.2.2.2.2.2.2.2.2.1=w.2.2.2.2.2.2.2.2.2.2.1:=by rw[←eP]
 rw[e0,e1,e2,e3,e4,e5,e6,e7,e8,e9,e10];rw[show(w.1,w.2.1,w.2.2.1,w.2.2.2.1,w.2.2.2.2.1,w.2.2.2.2.2.1,w.2.2.2.2.2.2.1,w.2.2.2.2.2.2.2.1,w.2.2.2.2.2.2.2.2.1,w.2.2.2.2.2.2.2.2.2.1,w.2.2.2.2.2.2.2.2.2.2.1,())=w from rfl,Ll XT];simp only[AK,B_];have stay:WU (some (pkw w)):=⟨w,rfl,XT,hvin⟩;rcases AGB (Ff w)with G3|G3
 rotate_left
 ·rw[G3]
  exact stay
 rw[G3,AIO];have hw:=PO.1 G3;have hrl:w.2.2.2.2.2.2.2.2.1.length=2:=hw.dw;refine WU.bind (BB hc Hc (by omega)) fun x5 i5 h5 y5 rf hq5=> ?_
 dsimp only at*;refine WU.ite (by omega) ?_
 have Dl:x5.1.toNat<w.2.2.2.2.2.2.2.2.1.length:=by omega
 generalize hgr:w.2.2.2.2.2.2.2.2.1.getD x5.1.toNat (0,0,[],())=r
 have AFt:w.2.2.2.2.2.2.2.2.1.getD x5.1.toNat Bd=r:=hgr;have hrm:BE r≤AW BE w.2.2.2.2.2.2.2.2.1:=by
  rw[←AFt];exact AY (f:=BE) (A8 (d:=Bd) Dl)
 have hrw:BE r=AW BZ r.2.2.1:=rfl;have hrn:=AR (f:=BZ) (l:=r.2.2.1);have alt:∀r':Al,BE r'≤200000→(∀e∈r'.2.2.1,Cb e.2.1)→WU (some (pkw (w.1,w.2.1,w.2.2.1,w.2.2.2.1,w.2.2.2.2.1,w.2.2.2.2.2.1,w.2.2.2.2.2.2.1,w.2.2.2.2.2.2.2.1,w.2.2.2.2.2.2.2.2.1.set x5.1.toNat r',w.2.2.2.2.2.2.2.2.2.1,w.2.2.2.2.2.2.2.2.2.2.1,()))):=fun r' sT hr2=>by
  refine⟨_,rfl,⟨?_,XT.Ag,XT.trim,XT.BT,XT.nf⟩,fun q hq=>by
   rcases AIj hq with hq|rfl
   ·exact hvin q hq
   ·exact hr2⟩
  have:=Tn (f:=BE) (x:=r') (l:=w.2.2.2.2.2.2.2.2.1) (i:=x5.1.toNat);unfold Cg at hwt⊢;dsimp only;omega
 have evs:∀(j:Nat) (e:BX),BZ e≤50001→BE (r.1,r.2.1,r.2.2.1.set j e,())≤200000:=fun j e he=>by
  have:=Tn (f:=BZ) (x:=e) (l:=r.2.2.1) (i:=j)
  show AW BZ (r.2.2.1.set j e)≤_
  omega
 have rin:∀e∈r.2.2.1,Cb e.2.1:=by
  rw[←AFt];exact hvin _ (A8 (d:=Bd) Dl)
 have ADO:∀(j:Nat) (e:BX),Cb e.2.1→ ∀x∈r.2.2.1.set j e,Cb x.2.1:=fun j e he x hx=>by
  rcases AIj hx with hx|rfl
  ·exact rin x hx
  ·exact he
 refine WU.C5 (fun _=>stay) (fun YU=> ?_);refine WU.bind (BB hc rf (by omega)) fun x7 i7 h7 y7 hi7 hq7=> ?_
 dsimp only at*;have AGi:x7.1.toNat<r.2.2.1.length:=by omega
 have AHo:Cb (r.2.2.1.getD x7.1.toNat (0,0,[],())).2.1:=rin _ (A8 AGi);have pZ:BZ (r.2.2.1.getD x7.1.toNat (0,0,[],()))≤50000:=by
  have:BZ (r.2.2.1.getD x7.1.toNat (0,0,[],()))≤AW BZ r.2.2.1:=AY (f:=BZ) (A8 AGi);omega
 refine WU.bind (BB hc hi7 (by omega)) fun x8 i8 h8 y8 hi8 hq8=> ?_
 dsimp only at*;refine WU.C5 (fun _=> ?_) (fun _=> ?_)
 ·refine WU.ite (by omega) ?_
  refine WU.bind (BB hc hi8 (by omega)) fun x9 i9 h9 y9 hi9 hq9=> ?_
  dsimp only at*;refine WU.ite (by omega) ?_
  exact alt _ (evs _ _ (by show BZ (r.2.2.1.getD x7.1.toNat (0,0,[],()))≤_;omega)) (ADO _ _ AHo)
 refine WU.C5 (fun _=> ?_) (fun _=> ?_)
 ·refine WU.ite (by omega) ?_
  refine WU.ite (by omega) ?_
  exact alt _ (evs _ _ (by show 1≤50001;omega)) (ADO _ _ AHo)
 refine WU.C5 (fun _=> ?_) (fun _=> ?_)
 ·refine WU.ite (by omega) ?_
  rw[AG (by omega) (by omega)];refine WU.ite (by omega) ?_
  refine WU.ite (by omega) ?_
  refine alt _ ?_ (fun e he=>rin e (ALq (ALp he)))
  show AW BZ ((r.2.2.1.drop 0).take _)≤200000
  rw[AIc];have:∀(l:List BX) (n:Nat),AW BZ (l.take n)≤AW BZ l:=fun l=>by
   induction l with
   |nil=>intro n;simp[AW]
   |cons a l ih=>
    intro n;cases n with
    |zero=>simp[AW]
    |succ n=>have:=ih n;simp only[List.take_succ_cons,AW];omega
  have:=this r.2.2.1 (((r.2.2.1.length:Int)-1).toNat-0);omega
 refine WU.C5 (fun _=> ?_) (fun _=>stay);refine WU.ite (by omega) ?_
 refine WU.bind (fz hc (w:=w) (by have:=hw.MB;show w.BM.length≤_;omega) XT.nf hi8) fun x9 i9 h9 y9 hi9 hq9=> ?_
 dsimp only at*;refine WU.ite (by omega) ?_
 exact alt _ (evs _ _ (by show BZ (r.2.2.1.getD x7.1.toNat (0,0,[],()))≤_;omega)) (ADO _ _ hq9)
end
end Go.M
end
section
set_option maxRecDepth 8000
namespace Go.M
open Go.M.H (AJ AO A0 A3 AA CU AN BF AQ Al BX BS B4 Ao CK AW AR AY Aa Bv A9 Av BE EL BZ Cg C9)
theorem Xd{x:AAD}(hc:x.length≤2^30):∃w p,gq w∧Rq w∧Cb p∧Lc x=some (((((),w.2.1,(),(),(),w.2.2.2.2.2.1,(),(),(),(),w.2.2.2.2.2.2.2.2.2.2.1,()),p,()),()),(w.1,w.2.2.1,w.2.2.2.1,w.2.2.2.2.1,w.2.2.2.2.2.2.1,w.2.2.2.2.2.2.2.1,w.2.2.2.2.2.2.2.2.1,w.2.2.2.2.2.2.2.2.2.1,())):=by
 obtain⟨w,e1,h,pZ⟩:=lT hc;obtain⟨h0,e0⟩:=kZ hc;unfold Lc;rw[e1,e0];simp only[AGR,pkw];obtain⟨x3,i3,h3,y3,e3,Ge,Ni⟩:=BB hc (code:=x) (n:=3) (i:=0) (h:=h0) ⟨by omega,by omega⟩ (by omega);rw[e3];simp only[AGR];obtain⟨x4,i4,h4,y4,e4,iG,hq4⟩:=BB hc (n:=20) Ge (h:=h3) (by omega);rw[e4];simp only[AGR];have b4:0≤x4.1.tdiv 19∧x4.1.tdiv 19≤1:=by
  obtain⟨p1,p2,_⟩:=hq4;have:=p2 (by omega);rw[AIl p1];omega
 have b3:=Ni.2.1 (by omega);refine⟨w,AX (x3.1-AX (x4.1.tdiv 19)),h,pZ,?_,rfl⟩;rw[AG (x:=x4.1.tdiv 19) (by omega) (by omega),AG (by omega) (by omega)];unfold Cb;omega
theorem jr{x:AAD}(hv:Go.Fw.Vd (.sl (.int .u8)) x):O0 x=some ((true,()),()):=by
 unfold O0 SD cg;simp only[AGR,AB];by_cases hs:(x.length:Int)>1048576
 ·rw[AGH hs]
 rw[AGU hs];have hc:x.length≤2^30:=by omega
 obtain⟨w,p,h,pZ,hp,e1⟩:=Xd hc;rw[e1];simp only[AGR];rw[show(w.1,w.2.1,w.2.2.1,w.2.2.2.1,w.2.2.2.2.1,w.2.2.2.2.2.1,w.2.2.2.2.2.2.1,w.2.2.2.2.2.2.2.1,w.2.2.2.2.2.2.2.2.1,w.2.2.2.2.2.2.2.2.2.1,w.2.2.2.2.2.2.2.2.2.2.1,())=w from rfl];rw[Uz h,Ll h,dO h,dg h];simp only[AGR,bne_self_eq_false,AG6];unfold eF;rcases AGB (Ff w)with G3|G3
 rotate_left
 ·rw[G3];rfl
 rw[G3];simp only[AIO,AIQ,BG];by_cases h0:p≥0
 rotate_left
 ·rw[AGU h0,AH_ (by omega)];rfl
 rw[AGH h0];by_cases h1:p≤1
 rotate_left
 ·rw[AGU h1,AH_ (by omega)];rfl
 rw[AGH h1,AIR (by omega),AIO];have h2:=PV G3;have ho:=h.out (i:=p.toNat) (by omega);have hb:(0:Int)≤p∧p<(w.2.2.2.2.2.2.2.2.1.length:Int):=by omega
 have hd:w.2.2.2.2.2.2.2.2.1.getD p.toNat (0,0,[],())=w.2.2.2.2.2.2.2.2.1.getD p.toNat Bd:=rfl
 generalize hl:(w.2.2.2.2.2.2.2.2.1.getD p.toNat Bd).2.2.1=l at ho
 have ql:(w.2.2.2.2.2.2.2.2.1.getD p.toNat (0,0,[],())).2.2.1=l:=hl;have key:∀(n i:Nat) (pre:List A3),i≤l.length→l.length-i<n→pre.length≤i→
   JE n p pre.length i w.2.1 w.2.2.2.2.2.1 w.2.2.2.2.2.2.2.2.2.2.1 w.1 w.2.2.1 w.2.2.2.1 w.2.2.2.2.1 w.2.2.2.2.2.2.1 w.2.2.2.2.2.2.2.1 w.2.2.2.2.2.2.2.2.1 w.2.2.2.2.2.2.2.2.2.1 (pre++NP (l.drop i))=some ((true,()),()):=by
  intro n
  induction n with
  |zero=>intro i _ _ hn;omega
  |succ n ih=>
   intro i pre hi hn ha;simp only[JE,RX,AB,AGH hb,ql];by_cases hci:i<l.length
   ·have hb2:(0:Int)≤(i:Int)∧(i:Int)<(l.length:Int):=by omega
    rw[AGH hb2.2,AGH hb2,AG (x:=(i:Int)+1) (by omega) (by omega),show((i:Int)+1)=((i+1:Nat):Int)by omega,BA hci,drop_cons hci];rcases AGB (l[i].1==1)with hk|hk
    ·have et:NP (l[i]::l.drop (i+1))=(l[i].2.1,l[i].2.2.1,true,())::NP (l.drop (i+1)):=by simp only[NP,hk,AIO]
     rw[hk,et];simp only[AIO];have hlen:((pre.length:Nat):Int)<((pre++(l[i].2.1,l[i].2.2.1,true,())::NP (l.drop (i+1))).length:Int):=by simp;omega
     have hg:(pre++(l[i].2.1,l[i].2.2.1,true,())::NP (l.drop (i+1))).getD ((pre.length:Int).toNat) (0,[],false,())=(l[i].2.1,l[i].2.2.1,true,()):=by
      rw[AIP];simp[AKg]
     rw[AGU (by omega),AGH (by omega),hg];simp only[bne_self_eq_false,beq_self_eq_true,AHK,AG6];rw[AG (by omega) (by omega),show((pre.length:Int)+1)=(((pre++[(l[i].2.1,l[i].2.2.1,true,())]).length:Nat):Int)by simp];have:=ih (i+1) (pre++[(l[i].2.1,l[i].2.2.1,true,())]) (by omega) (by omega) (by simp;omega);simp at this⊢;exact⟨by omega,this⟩
    ·have et:NP (l[i]::l.drop (i+1))=NP (l.drop (i+1)):=by simp only[NP,hk,AG6]
     rw[hk,et];simp only[AG6];exact ih (i+1) pre (by omega) (by omega) (by omega)
   ·rw[AGU (by omega),AHV (by omega)]
    simp[NP]
 have:=key Ac 0 [] (by omega) (Ae (by omega)) (by simp);simpa using this
end Go.M
end
section
set_option maxRecDepth 8000
namespace Go.M
open Go.M.H (AJ AO A0 A3 AA CU AN BF AQ Al BX BS B4 Ao CK AW AR AY Aa Bv A9 Av BE EL BZ Cg C9)
structure ALc {α:Type} (f:α→Int) (p:Int) (l:List α) (q:Nat):Prop where
 le:q≤l.length
 lt:∀(i:Nat) (h:i<l.length),i<q→f l[i]<p
 ge:∀(i:Nat) (h:i<l.length),q≤i→p≤f l[i]
end Go.M
end
section
set_option maxRecDepth 8000
namespace Go.M
open Go.M.H (AJ AO A0 A3 AA CU AN BF AQ Al BX BS B4 Ao CK AW AR AY Aa Bv A9 Av BE EL BZ Cg C9)
def uX(w:AA)(a:Int):Nat:=(w.Ab.getD a.toNat Bd).2.2.1.length
structure HR (w v:AA) (a m:Int):Prop where
 ok:Nh v
 VP:gq v
 stop:(PT v a 255).2≠0
 cnt:0≤m∧m≤120
 len:(uX v a:Int)=uX w a+m
 T7:uX v (1-a)=uX w (1-a)
end Go.M
end
section
set_option maxRecDepth 8000
namespace Go.M
open Go.M.H (AJ AO A0 A3 AA CU AN BF AQ Al BX BS B4 Ao CK AW AR AY Aa Bv A9 Av BE EL BZ Cg C9)
def ww(w:AA)(SS:List AO)(ws:List AQ)(ms:List A0)(se:List A3):AA:=(((w.A4 SS).Af ws).BN se).BJ ms
section
variable{w:AA} (h:Nh w) {st:AO} {SS:List AO} {n:Int} (hs:VS st) (hn:0≤n∧n<(AZ w).1.length) (hnS:n<(SS.length:Int)) (gW:SS.getD n.toNat Cf=st)
include h hs hn hnS gW
end
section
variable{w:AA} (h:Nh w)
include h
end
end Go.M
end
section
set_option maxRecDepth 8000
namespace Go.M
open Go.M.H (AJ AO A0 A3 AA CU AN BF AQ Al BX BS B4 Ao CK AW AR AY Aa Bv A9 Av BE EL BZ Cg C9)
def bare(se:List A3):List (Int×List UInt8):=se.map fun s=>(s.1,s.2.1)
section
variable{w:AA} {se:List A3}
end
theorem qI{l m:List A3}(h:bare l=bare m):l.length=m.length:=by
 have:=congrArg List.length h;simpa[bare]using this
section
variable{w:AA}
end
theorem sF{l m:List A3}(h:bare l=bare m){s:A3}(hs:s∈l):∃t∈m,t.1=s.1∧t.2.1=s.2.1:=by
 have h1:(s.1,s.2.1)∈bare m:=by rw[←h];exact AK3.2 ⟨s,hs,rfl⟩
 obtain⟨t,ht,e⟩:=AK3.1 h1;simp only[AIh]at e;exact⟨t,ht,e.1,e.2⟩
theorem rL{l m:List A3}(h:bare l=bare m)(ha:S4 (fun s:A3=>s.1) l):S4 (fun s:A3=>s.1) m:=by
 have e:∀l:List A3,S4 (fun s:A3=>s.1) l↔(bare l).Pairwise fun x y=>x.1<y.1:=fun l=>by
  unfold bare S4;rw[ALb]
 rw[e]at ha⊢
 rwa [←h]
theorem Nh.BN{w:AA}{se:List A3}(hw:Nh w)(h:bare se=bare w.BM):Nh (w.BN se) where
 cfg:=hw.cfg
 e_:=hw.e_
 lost:=hw.lost
 EE:=hw.EE
 Ag:=hw.Ag
 ez:=hw.ez
 gm:=hw.gm
 ku:=hw.ku
 AM:=hw.AM
 Wu:=hw.Wu
 BT:=hw.BT
 dw:=hw.dw
 Ab:=hw.Ab
 MB:=by
  have:=hw.MB;rw[←qI h]at this;exact this
 BM:=fun s hs=>by
  obtain⟨t,ht,e1,e2⟩:=sF h (show s∈se from hs);have:=hw.BM t ht;rw[e1,e2]at this;exact this
 Wg:=rL h.symm hw.Wg
end Go.M
end
section
set_option maxRecDepth 8000
namespace Go.M
open Go.M.H (AJ AO A0 A3 AA CU AN BF AQ Al BX BS B4 Ao CK AW AR AY Aa Bv A9 Av BE EL BZ Cg C9)
structure Up (w v:AA):Prop where
 rd:∀k,k<2→OD (w.Ab.getD k Bd).1 (w.Ab.getD k Bd).2.1≤OD (v.Ab.getD k Bd).1 (v.Ab.getD k Bd).2.1∧(w.Ab.getD k Bd).2.2.1.length≤(v.Ab.getD k Bd).2.2.1.length
 er:w.Ay.length≤v.Ay.length∧ ∀i,i<w.Ay.length→(w.Ay.getD i Dd).2.1=true→(v.Ay.getD i Dd).2.1=true∧(v.Ay.getD i Dd).2.2.1=(w.Ay.getD i Dd).2.2.1
 EE:w.EE=true→v.EE=true
 se:w.BM.length≤v.BM.length
theorem Up.of{w v:AA}(h1:v.Ab=w.Ab)(h2:v.Ay=w.Ay)(h3:w.EE=true→v.EE=true)(h4:w.BM.length≤v.BM.length):Up w v:=
 ⟨fun k _=>by rw[h1];exact⟨Int.le_refl _,AIi _⟩,by rw[h2];exact⟨AIi _,fun _ _ h=>⟨h,rfl⟩⟩,h3,h4⟩
section
variable{w:AA} (hw:Nh w)
end
end Go.M
end
