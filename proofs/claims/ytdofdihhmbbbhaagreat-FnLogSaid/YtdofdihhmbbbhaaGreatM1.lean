/- Plain facts on what the functions compute. -/
import Derived.Test.YtdofdihhmbbbhaaGreatM0
set_option linter.unusedVariables false
set_option linter.unusedSimpArgs false
set_option linter.unusedSectionVars false
section
namespace Go.M
def At(b:AAg)(a:Nat)(w:AAg)(a':Nat):Prop:=a' =a+w.length∧b.drop a=w++b.drop a'
theorem At.nil{b:AAg}{a:Nat}:At b a [] a:=⟨by simp,by simp⟩
theorem At.split{b w w':AAg}{a a2:Nat}(ha:a≤b.length)(h:At b a (w++w') a2):At b a w (a+w.length)∧At b (a+w.length) w' a2∧a+w.length≤b.length:=by
 obtain⟨h1,h2⟩:=h;have e1:b.drop (a+w.length)=w'++b.drop a2:=by
  rw[←List.drop_drop,h2,AHH];simp
 refine⟨⟨rfl,by rw[h2,e1,AHH]⟩,⟨by simp only[AIj]at h1;omega,e1⟩,?_⟩;have:=congrArg List.length h2;simp only[AIj,List.length_drop]at this;omega
theorem At.all{b w:AAg}(h:At b 0 w b.length):b=w:=by
 have:=h.2;simpa using this
section
variable{b:AAg} (hb:Bytes b)
include hb
end
section
variable{code:AAg} (hc:code.length≤2^30)
include hc
theorem hZ{i h:Int}{l:List AA_}(hi:Bd code i)(hl:l≠[])(hn:l.length≤2^30):∃v i' h',Eg l code i h=some ((v,()),((code,i',h',()),()))∧v∈l∧Bd code i':=by
 unfold Eg;have hp:=AMQ.2 hl;obtain⟨v,i1,h1,e,v0,v1,_,HQ⟩:=DA hc (h:=h) (n:=l.length) hi (by omega);rw[e];simp only[AHE];have:=v1 (by omega);rw[AG5 ⟨v0,this⟩];obtain⟨k,rfl⟩:∃k:Nat,v=(k:Int):=⟨v.toNat,by omega⟩;exact⟨_,i1,h1,rfl,by rw[Ay (by omega)];exact AIu _,HQ⟩
theorem ei{i h:Int}(hi:Bd code i):∃v i' h',CV code i h=some ((v,()),((code,i',h',()),()))∧v<2^63∧ -2^63≤v∧Bd code i':=by
 unfold CV Bl;obtain⟨v1,i1,h1,e1,a1,b1,_,HQ⟩:=DA hc (h:=h) (n:=3) hi (by omega);rw[e1];simp only[AHE];obtain⟨v2,i2,h2,e2,a2,b2,_,FE⟩:=DA hc (h:=h1) (n:=6) HQ (by omega);rw[e2];simp only[AHE];obtain⟨v3,i3,h3,e3,a3,b3,_,G3⟩:=DA hc (h:=h2) (n:=15) FE (by omega);rw[e3];simp only[AHE];have:=b1 (by omega);have:=b2 (by omega);cases v3==0 with
 |true=>
  simp only[AIz];obtain⟨p,i4,h4,e4,hp,jc⟩:=Hc hc (h:=h3) (l:=[0,(-1),4294967296,4294967297,9223372036854775807,(-9223372036854775808)]) G3 (by simp) (by simp);rw[e4];simp at hp;exact⟨p,i4,h4,rfl,by omega,by omega,jc⟩
 |false=>
  simp only[AHe];cases v3==1 with
  |true=>
   simp only[AIz];obtain⟨p,i4,h4,e4,hp,jc⟩:=Hc hc (h:=h3) (l:=[0,30,31]) G3 (by simp) (by simp);rw[e4];simp only[AHE];obtain⟨q,i5,h5,e5,hq,sR⟩:=Hc hc (h:=h4) (l:=[0,60,61]) jc (by simp) (by simp);rw[e5];simp only[AHE];simp at hp hq;rw[AG (x:=4294967296*p) (by omega) (by omega),AG (by omega) (by omega)];exact⟨_,i5,h5,rfl,by omega,by omega,sR⟩
  |false=>
   simp only[AHe];rw[AG (x:=1+v1) (by omega) (by omega),AG (x:=1+v2) (by omega) (by omega),AG (x:=4294967296*_) (by omega) (by omega),AG (by omega) (by omega)];exact⟨_,i3,h3,rfl,by omega,by omega,G3⟩
end
end Go.M
end
section
namespace Go.M
open Go.M.H (CR AN BE AQ AW AU AZ Bt A_ Aw lD eu Vq)
section
variable{b:AAg} (hb:Bytes b) (hl:b.length≤2^30)
include hb hl
end
theorem j9{o:Int}{l:List BE}{x:Int}{y:List BE}{z:Int}(hl:AW A_ l≤2^30):∀(n i:Nat) (acc:List BE),i≤l.length→l.length-i<n→acc.length=i→
  Gy n i o l x y z acc=some (((z,(),()),()),(acc++l.drop i,()))
 |0,i,_,_,h,_=>by omega
 |n+1,i,acc,hi,h,ha=>by
  have uq:=AU (f:=A_) (l:=l);simp only[Gy,M4,AB];by_cases hc:i<l.length
  ·have hm:=AZ (f:=A_) (AIu hc)
   rw[AG5 (by omega),AG5 (by omega),Ay hc,drop_cons hc];simp only[A_]at hm;rw[AG5 (by rw[Ax];omega),AG5 (by rw[Ax];omega),AG (by omega) (by omega),show((i:Int)+1)=((i+1:Nat):Int)by omega];rw[j9 hl n (i+1) _ (by omega) (by omega) (by simp[ha])];simp only[AHH,AKv,AJF]
  ·rw[AHA (by omega)]
   have:i=l.length:=by omega
   subst this;simp
theorem g_{w:AQ}(hl:AW A_ w.2.1≤2^30):Cl w=some (((w.1,(),()),()),(w.2.1,())):=by
 have uq:=AU (f:=A_) (l:=w.2.1);unfold Cl M_;have:=j9 (o:=w.1) (l:=w.2.1) (x:=0) (y:=[]) (z:=w.1) hl Aa 0 [] (by omega) (Ab (by omega)) rfl;simpa using this
theorem qn{l:AAg}{x:Int}(hl:l.length≤2^30):∃r,B4 l x=some ((r,()),()):=by
 have key:∀(n i:Nat),i≤l.length→l.length-i<n→ ∃r,Hl n l x i=some ((r,()),()):=by
  intro n
  induction n with
  |zero=>intro i _ h;omega
  |succ n ih=>
   intro i hi h;simp only[Hl,Nz,AB];by_cases hc:i<l.length
   ·rw[AG5 (by omega),AG5 (by omega),AG (by omega) (by omega),show((i:Int)+1)=((i+1:Nat):Int)by omega]
    cases(l.getD ((i:Int).toNat) 0==x)with
    |true=>exact⟨true,rfl⟩
    |false=>exact ih (i+1) (by omega) (by omega)
   ·rw[AHA (by omega)]
    exact⟨false,rfl⟩
 unfold B4 N5;have:=key Aa 0 (by omega) (Ab (by omega));simpa using this
theorem cK{l:AAg}{x:Int}(hl:l.length≤2^30):∀(n i:Nat) (t:Bool) (b:AAg),i≤l.length→l.length-i<n→b.length≤i+cond t 1 0→ ∃l',FC n l x t i b=some (((),()),(l',()))∧l'.length≤l.length+1
 |0,i,_,_,_,h,_=>by omega
 |n+1,i,t,b,hi,h,lQ=>by
  simp only[FC,Kp,AB];have hb2:b.length≤i+1:=by cases t<;>simp at lQ<;>omega
  by_cases hc:i<l.length
  ·have hc2:(0:Int)≤(i:Int)∧(i:Int)<(l.length:Int):=by omega
   have Wt:b.length+1≤DH:=by rw[Ax];omega
   rw[AG5 hc2.2,AG (by omega) (by omega),show((i:Int)+1)=((i+1:Nat):Int)by omega];simp only[AG5 hc2,AG5 Wt];cases t with
   |true=>
    simp only[AIQ,AHe];exact cK hl n (i+1) true _ (by omega) (by omega) (by simp at lQ⊢;omega)
   |false=>
    simp only[AKg,AIz];simp at lQ;by_cases hg:l.getD ((i:Int).toNat) 0>x
    ·rw[AG5 hg,AG5 (by rw[Ax];simp;omega)]
     exact cK hl n (i+1) true _ (by omega) (by omega) (by simp;omega)
    ·rw[AHA hg]
     exact cK hl n (i+1) false _ (by omega) (by omega) (by simp;omega)
  ·rw[AHA (by omega),AG5 (by rw[Ax];omega)]
   cases t with
   |true=>exact⟨b,rfl,by omega⟩
   |false=>exact⟨_,rfl,by simp at lQ⊢;omega⟩
theorem qi{l:AAg}{x:Int}(hl:l.length≤2^30):∃l',Fj l x=some (((),()),(l',()))∧l'.length≤l.length+1:=by
 unfold Fj N_;obtain⟨r,h⟩:=qn (x:=x) hl;rw[h];exact cK hl Aa 0 r [] (by omega) (Ab (by omega)) (by cases r<;>simp)
def WI(l:List BE):Prop:=l.length≤61∧ ∀e∈l,e.1.length≤41∧e.2.1.length≤9
theorem WI.w{l:List BE}(h:WI l):AW A_ l≤4000:=by
 have key:∀l:List BE,(∀e∈l,e.1.length≤41∧e.2.1.length≤9)→AW A_ l≤60*l.length:=by
  intro l
  induction l with
  |nil=>intro _;simp[AW]
  |cons e l ih=>
   intro hh;have:=hh e (by simp);have:=ih (fun e he=>hh e (by simp[he]));simp only[AW,A_,AIK]at this⊢;omega
 have:=key l h.2;have:=h.1;omega
theorem WI.of{c:Bw}{w:AQ}(h:DG c w=true):WI w.2.1:=by
 obtain⟨h1,h2,h3,h4⟩:=TG h;exact⟨by omega,fun e he=>by have:=YV (h4 e he);omega⟩
theorem ij{c:Bw}{w:AQ}{s:AA_}(hc:c.1.length≤2^40)(hw:WI w.2.1)(hs:s.length≤41):
  ∃w':AQ,∃off ok,ER c w s=some ((((w'.1,(),()),off,ok,()),()),(w'.2.1,()))∧WI w'.2.1:=by
 unfold ER;have hww:=hw.w;rw[show(c.1,c.2.1,())=c from rfl,show(w.1,w.2.1,())=w from rfl,Dy hc (by omega),g_ (by omega)];simp only[AHE];cases DG c w with
 |false=>exact⟨(0,[],()),0,false,rfl,by simp[WI]⟩
 |true=>
  have h1:=hw.1;simp only[AIQ,AHe];rw[AG5 (by rw[Ax];omega)];have rI:AW A_ (w.2.1++[(s,[],false,())])≤2^30:=by
   rw[dX];simp only[A_,AI4];omega
  rw[Dy (w:=(w.1,w.2.1++[(s,[],false,())],())) hc rI];simp only[AHE];rcases AG4 (DG c (w.1,w.2.1++[(s,[],false,())],()))with hf|hf
  ·rw[hf]
   exact⟨(w.1,w.2.1++[(s,[],false,())],()),_,true,rfl,WI.of hf⟩
  ·rw[hf]
   exact⟨w,0,false,rfl,hw⟩
theorem jC{c:Bw}{w:AQ}{p q:Int}(hc:c.1.length≤2^40)(hw:WI w.2.1):
  ∃w':AQ,∃ok,CX c w p q=some ((((w'.1,(),()),ok,()),()),(w'.2.1,()))∧WI w'.2.1:=by
 unfold CX;have hww:=hw.w;rw[show(c.1,c.2.1,())=c from rfl,show(w.1,w.2.1,())=w from rfl,Dy hc (by omega),g_ (by omega),Av,Av];simp only[AHE];rcases AG4 (DG c w)with F6|F6
 rotate_left
 ·rw[F6]
  exact⟨(0,[],()),false,rfl,by simp[WI]⟩
 have h1:=hw.1;rw[F6];simp only[AIQ,AHe];rcases AG4 (BK p 1 (w.2.1.length:Int))with hp|hp
 rotate_left
 ·rw[hp]
  exact⟨w,false,rfl,hw⟩
 rw[hp];simp only[AIQ,AHe];cases BK q 0 (AX ((c.1.length:Int)-1))with
 |false=>exact⟨w,false,rfl,hw⟩
 |true=>
  simp only[BK,AHl]at hp;rw[AG (x:=p-1) (by omega) (by omega)];obtain⟨k,hk⟩:∃k:Nat,p-1=(k:Int):=⟨(p-1).toNat,by omega⟩;rw[hk];have hkl:k<w.2.1.length:=by omega
  have hb:(0:Int)≤(k:Int)∧(k:Int)<(w.2.1.length:Int):=by omega
  simp only[AIQ,AHe,AKr];rw[AG5 hb,AG5 hb,Ay hkl];have he:=hw.2 _ (AIu hkl);have he2:=YV ((TG F6).2.2.2 _ (AIu hkl))
  generalize qK:w.2.1[k]=e at he he2
  cases e.2.2.1 with
  |true=>exact⟨w,false,rfl,hw⟩
  |false=>
   simp only[AHe];obtain⟨l',hl1,rN⟩:=qi (l:=e.2.1) (x:=q) (by omega);rw[hl1];simp only[AHE];rw[AG5 hb,AG5 hb,AI0];have hg:(w.2.1.set k (e.1,l',false,())).getD k ([],[],false,())=(e.1,l',false,()):=by
    simp[List.getD,hkl]
   rw[hg];simp only;rw[Ca hc (by omega)];simp only[AHE];rw[AG5 hb];refine⟨(w.1,(w.2.1.set k (e.1,l',false,())).set k (e.1,l',holds c l',()),()),true,rfl,by simp only[AKr];exact h1,?_⟩;intro y hy;simp only[AMF]at hy;rcases AJJ hy with hy|rfl
   ·exact hw.2 y hy
   ·exact⟨he.1,by simp only;omega⟩
section
variable{code:AAg} (hc:code.length≤2^30)
include hc
theorem LF{c:Bw}(Vm:c.1.length≤2^20){x:Int}{y:List BE}:∀(n k:Nat) (i h:Int) (w:AQ),Bd code i→k≤14→14-k<n→WI w.2.1→
  ∃(w':AQ) (i' h':Int),Fv n k code i h c.1 c.2.1 x y w.1 w.2.1=some (((w'.1,(),()),()),((code,i',h',()),w'.2.1,()))∧WI w'.2.1∧Bd code i'
 |0,_,_,_,_,_,_,h,_=>by omega
 |n+1,k,i,h,w,hi,hk,hn,hw=>by
  simp only[Fv,NH,AB];obtain⟨v,i1,h1,e1,a1,b1,_,HQ⟩:=DA hc (h:=h) (n:=14) hi (by omega);rw[e1];simp only[AHE];have:=b1 (by omega);by_cases Dl:(k:Int)<v
  ·rw[AG5 Dl]
   obtain⟨s,i2,h2,e2,hs,FE⟩:=hZ hc (h:=h1) (l:=[[],[97],[98,99]]) HQ (by simp) (by simp);rw[e2];simp only[AHE];have hsl:s.length≤41:=by
    simp at hs;rcases hs with rfl|rfl|rfl<;>simp
   obtain⟨w1,off,ok,e3,hw1⟩:=ij (c:=c) (w:=w) (s:=s) (by omega) hw hsl;rw[show(c.1,c.2.1,())=c from rfl,show(w.1,w.2.1,())=w from rfl,e3];simp only[AHE];obtain⟨o,i3,h3,e4,G3⟩:=Zg hc (h:=h2) (n:=2) FE (by omega);rw[e4];simp only[AHE];rw[AG (x:=(k:Int)+1) (by omega) (by omega),show((k:Int)+1)=((k+1:Nat):Int)by omega];cases o with
   |true=>
    simp only[AIz];have h61:=hw.1;obtain⟨m,em,hm⟩:∃m:Int,DR (w.2.1.length:Int) 1=some ((m,()),())∧m≤2^40:=by
     unfold DR;rw[AB];split
     ·exact⟨_,rfl,by omega⟩
     ·exact⟨1,rfl,by omega⟩
    rw[em];simp only[AHE];obtain⟨v4,i4,h4,e5,a5,b5,_,jc⟩:=DA hc (h:=h3) (n:=m) G3 hm;rw[e5];simp only[AHE];obtain⟨v5,i5,h5,e6,a6,b6,_,sR⟩:=DA hc (h:=h4) (n:=(c.1.length:Int)) jc (by omega);rw[e6];simp only[AHE];obtain⟨w2,ok2,e7,hw2⟩:=jC (c:=c) (w:=w) (p:=AX (1+v4)) (q:=v5) (by omega) hw;rw[e7];simp only[AHE];cases ok2 with
    |true=>exact LF Vm n (k+1) i5 h5 w2 sR (by omega) (by omega) hw2
    |false=>exact LF Vm n (k+1) i5 h5 w sR (by omega) (by omega) hw
   |false=>
    simp only[AHe];cases ok with
    |true=>exact LF Vm n (k+1) i3 h3 w1 G3 (by omega) (by omega) hw1
    |false=>exact LF Vm n (k+1) i3 h3 w G3 (by omega) (by omega) hw
  ·rw[AHA Dl]
   exact⟨w,i1,h1,rfl,hw,HQ⟩
theorem ed{c:Bw}(Vm:c.1.length≤2^20){i h:Int}(hi:Bd code i):
  ∃(w':AQ) (i' h':Int),Kk c code i h=some (((w'.1,(),()),()),((code,i',h',()),w'.2.1,()))∧WI w'.2.1∧Bd code i':=by
 unfold Kk Ms;obtain⟨v,i1,h1,e1,a1,b1,_,HQ⟩:=DA hc (h:=h) (n:=4) hi (by omega);rw[e1];exact LF hc Vm Aa 0 i1 h1 (AX (1+v),[],()) HQ (by omega) (Ab (by omega)) (by simp[WI])
omit hc in
theorem j8{x:Int}{y:List BE}{z:Int}{i h:Int}(hi:Bd code i):∀(n:Nat) (l:List BE),61-l.length<n→WI l→
  ∃l',Ef n code i h x y z l=some (((z,(),()),()),((code,i,h,()),l',()))∧WI l'
 |0,_,h,_=>by omega
 |n+1,l,hn,hw=>by
  simp only[Ef,L2,AB];have h1:=hw.1;by_cases h60:l.length<60
  ·rw[AG5 (by omega)]
   by_cases h0:0<l.length
   ·rw[AG5 (by omega),AG5 (by omega),AG5 (by rw[Ax];omega)]
    refine j8 hi n _ (by simp;omega) ⟨by simp;omega,fun e he=> ?_⟩;rcases AIf.1 he with he|he
    ·exact hw.2 e he
    ·simp only[AI8]at he
     have hm:l.getD 0 ([],[],false,())∈l:=by
      have:=Ay (l:=l) (i:=0) (d:=([],[],false,())) h0;simp only[Int.ofNat_zero,Int.toNat_zero]at this;rw[this];exact AIu _
     rw[he];exact hw.2 _ hm
   ·rw[AHA (by omega)]
    exact⟨l,rfl,hw⟩
  ·rw[AHA (by omega)]
   exact⟨l,rfl,hw⟩
theorem pS{c:Bw}(Vm:c.1.length≤2^20){i h:Int}(hi:Bd code i):
  ∃(w':AQ) (i' h':Int),J0 c code i h=some (((w'.1,(),()),()),((code,i',h',()),w'.2.1,()))∧AW A_ w'.2.1≤4000∧Bd code i':=by
 unfold J0 Jt;obtain⟨w,i1,h1,e1,hw,HQ⟩:=ed hc Vm (h:=h) hi;rw[show(c.1,c.2.1,())=c from rfl,e1];simp only[AHE];obtain⟨v,i2,h2,e2,a2,b2,_,FE⟩:=DA hc (h:=h1) (n:=25) HQ (by omega);rw[e2];simp only[AHE];have h61:=hw.1;cases v==0 with
 |true=>
  simp only[AIz];obtain⟨p,i3,h3,e3,hp,G3⟩:=Hc hc (h:=h2) (l:=[0,30,31]) FE (by simp) (by simp);rw[e3];exact⟨(p,w.2.1,()),i3,h3,rfl,hw.w,G3⟩
 |false=>
  simp only[AHe];cases v==1 with
  |true=>
   simp only[AIz,AB];by_cases h0:0<w.2.1.length
   ·rw[AG5 (by omega),AG5 (by omega),AG5 (by omega)]
    refine⟨(w.1,w.2.1.set 0 ((w.2.1.getD 0 ([],[],false,())).1,(w.2.1.getD 0 ([],[],false,())).2.1,!(w.2.1.getD 0 ([],[],false,())).2.2.1,()),()),i2,h2,rfl,WI.w ⟨by simp;omega,fun e he=> ?_⟩,FE⟩;rcases AJJ he with he|rfl
    ·exact hw.2 e he
    ·have hm:w.2.1.getD 0 ([],[],false,())∈w.2.1:=by
      have:=Ay (l:=w.2.1) (i:=0) (d:=([],[],false,())) h0;simp only[Int.ofNat_zero,Int.toNat_zero]at this;rw[this];exact AIu _
     have:=hw.2 _ hm;exact this
   ·rw[AHA (by omega)]
    exact⟨w,i2,h2,rfl,hw.w,FE⟩
  |false=>
   simp only[AHe];cases v==2 with
   |true=>
    simp only[AIz];obtain⟨p,i3,h3,e3,a3,b3,_,G3⟩:=DA hc (h:=h2) (n:=2) FE (by omega);rw[e3];simp only[AHE];have:=b3 (by omega);rw[AG (by omega) (by omega),AG5 (by rw[Ax];omega),AG5 (by rw[Ax];omega)];refine⟨(w.1,w.2.1++[(List.map (fun n:Int=>UInt8.ofNat n.toNat) (List.replicate (40+p).toNat 0),[],false,())],()),i3,h3,rfl,?_,G3⟩;have hww:=hw.w;have key:=dX (l:=w.2.1) (e:=(List.map (fun n:Int=>UInt8.ofNat n.toNat) (List.replicate (40+p).toNat 0),[],false,()));have hws:AW A_ w.2.1≤60*61:=by
     have AKf:∀l:List BE,(∀e∈l,e.1.length≤41∧e.2.1.length≤9)→AW A_ l≤60*l.length:=by
      intro l
      induction l with
      |nil=>intro _;simp[AW]
      |cons e l ih=>
       intro hh;have:=hh e (by simp);have:=ih (fun e he=>hh e (by simp[he]));simp only[AW,A_,AIK]at this⊢;omega
     have:=AKf _ hw.2;omega
    simp only;rw[key];simp only[A_,AMA,AK9,AI4];omega
   |false=>
    simp only[AHe];cases v==3 with
    |true=>
     simp only[AIz];obtain⟨l',e4,hw4⟩:=j8 (x:=0) (y:=[]) (z:=w.1) (h:=h2) FE Aa w.2.1 (Ab (by omega)) hw;rw[e4];exact⟨(w.1,l',()),i2,h2,rfl,hw4.w,FE⟩
    |false=>exact⟨w,i2,h2,rfl,hw.w,FE⟩
end
end Go.M
end
section
set_option maxRecDepth 8000
namespace Go.M
open Go.M.H (AK AO A4 Au AA CR AN BE AQ Ah Bb BQ Bz Ao CJ AW AU AZ Ac Bt A_ Aw BG EL Bh Cg C6)
def OK(code:AAg){X Y:Type}(Q:X→Y→Prop)(o:Option (X×(ABP×Y))):Prop:=
 ∃x i h y,o=some (x,((code,i,h,()),y))∧Bd code i∧Q x y
section
variable{code:AAg} {X Y Z W:Type} {Q:X→Y→Prop} {R:Z→W→Prop}
theorem OK.bind{o:Option (X×(ABP×Y))}{f:X×(ABP×Y)→Option (Z×(ABP×W))}
  (ho:OK code Q o) (hf:∀x i h y,Bd code i→Q x y→OK code R (f (x,((code,i,h,()),y)))):OK code R (o.bind f):=by
 obtain⟨x,i,h,y,e,hi,hq⟩:=ho;rw[e];exact hf x i h y hi hq
theorem OK.pure{A:Type}{o:Option A}{a:A}{f:A→Option (Z×(ABP×W))}(ho:o=some a)(hf:OK code R (f a)):OK code R (o.bind f):=by
 rw[ho];exact hf
theorem OK.some{x:X}{i h:Int}{y:Y}(hi:Bd code i)(hq:Q x y):OK code Q (some (x,((code,i,h,()),y))):=⟨x,i,h,y,rfl,hi,hq⟩
theorem OK.cond{b:Bool}{x y:Option (X×(ABP×Y))}(h1:b=true→OK code Q x)(h2:b=false→OK code Q y):OK code Q (cond b x y):=by
 cases b
 ·exact h2 rfl
 ·exact h1 rfl
theorem OK.Kz{p:Prop}[Decidable p]{x y:Option (X×(ABP×Y))}(h1:p→OK code Q x)(h2: ¬p→OK code Q y):OK code Q (_root_.cond (decide p) x y):=by
 by_cases hp:p
 ·rw[AI3 hp];exact h1 hp
 ·rw[AIy hp];exact h2 hp
theorem OK.DB{a b:Int}{x y:Option (X×(ABP×Y))}(h1:a=b→OK code Q x)(h2:a≠b→OK code Q y):OK code Q (_root_.cond (a==b) x y):=by
 rw[FT];by_cases hp:a=b
 ·rw[AG5 hp];exact h1 hp
 ·rw[AHA hp];exact h2 hp
theorem OK.ite{p:Prop}[Decidable p]{x y:Option (X×(ABP×Y))}(hp:p)(h1:OK code Q x):OK code Q (if p then x else y):=by
 rw[AG5 hp];exact h1
end
section
variable{code:AAg} (hc:code.length≤2^30)
include hc
theorem BC{i h n:Int}(hi:Bd code i)(hn:n≤2^40):OK code (fun(x:ABD) (y:Unit)=>0≤x.1∧(0<n→x.1<n)∧(n≤0→x.1=0)) (AF n code i h):=by
 obtain⟨v,i',h',e,v0,v1,v2,DW⟩:=DA hc (h:=h) hi hn;exact⟨(v,()),i',h',(),e,DW,v0,v1,v2⟩
theorem Kj{i h n:Int}(hi:Bd code i)(hn:n≤2^40):OK code (fun(x:AA4) (y:Unit)=>True) (Aj n code i h):=by
 obtain⟨v,i',h',e,DW⟩:=Zg hc (h:=h) hi hn;exact⟨(v,()),i',h',(),e,DW,trivial⟩
theorem Lr{i h:Int}{l:AAg}(hi:Bd code i)(hl:l≠[])(hn:l.length≤2^30):OK code (fun(x:ABD) (y:Unit)=>x.1∈l) (Ba l code i h):=by
 obtain⟨v,i',h',e,hv,DW⟩:=Hc hc (h:=h) hi hl hn;exact⟨(v,()),i',h',(),e,DW,hv⟩
theorem cW{i h:Int}{l:List AA_}(hi:Bd code i)(hl:l≠[])(hn:l.length≤2^30):OK code (fun(x:List UInt8×Unit) (y:Unit)=>x.1∈l) (Eg l code i h):=by
 obtain⟨v,i',h',e,hv,DW⟩:=hZ hc (h:=h) hi hl hn;exact⟨(v,()),i',h',(),e,DW,hv⟩
theorem Mn{c:Bw}(Vm:c.1.length≤2^10){i h:Int}(hi:Bd code i):OK code (fun(x:ABK) (y:ABL)=>y.1.length≤2^12) (DK c code i h):=by
 have key:∀(n k N:Nat) (i h:Int) (b:AAg),Bd code i→k≤N→N-k<n→N≤2^11→b.length≤k→
   OK code (fun(x:ABK) (y:ABL)=>y.1.length≤2^12) (F5 n N k code i h c.1 c.2.1 b):=by
  intro n
  induction n with
  |zero=>intro k N i h b _ _ h;omega
  |succ n ih=>
   intro k N i h b hi hk hn hN hb;simp only[F5,NA];refine OK.Kz (fun Dl=> ?_) (fun qK=> ?_)
   ·refine OK.pure GN ?_
    dsimp only;refine OK.bind (BC hc hi (by omega)) fun x i' h' y DW hq=> ?_
    dsimp only;refine OK.pure (Hk (by omega)) ?_
    dsimp only;rw[AG (by omega) (by omega),show((k:Int)+1)=((k+1:Nat):Int)by omega];have:=Tv (n:=x.1) (l:=b);exact ih (k+1) N _ _ _ DW (by omega) (by omega) hN (by omega)
   ·refine OK.bind (Kj hc hi (by omega)) fun x i' h' y DW hq=> ?_
    dsimp only;refine OK.cond (fun _=> ?_) (fun _=> ?_)
    ·refine OK.bind (Lr hc DW (by simp) (by simp)) fun x i' h' y DW hq=> ?_
     dsimp only;refine OK.ite (by rw[Ax];omega) ?_
     exact OK.some DW (by simp;omega)
    ·exact OK.some DW (by show b.length≤_;omega)
 unfold DK NX;rw[AG (by omega) (by omega)];refine OK.bind (BC hc hi (by omega)) fun x i' h' y DW hq=> ?_
 dsimp only;obtain⟨N,hN⟩:∃N:Nat,x.1=N:=⟨x.1.toNat,by omega⟩;rw[hN];exact key Aa 0 N i' h' [] DW (by omega) (Ab (by omega)) (by omega) (by simp)
theorem Xy{c:Bw}(Vm:c.1.length≤2^10){i h:Int}(hi:Bd code i):OK code (fun(x:ABK) (y:ABL)=>y.1.length≤2^13) (FF c code i h):=by
 have key:∀(n k:Nat) (i h:Int) (b:AAg),Bd code i→k≤c.1.length→c.1.length-k<n→b.length≤2^12+k→
   OK code (fun(x:ABK) (y:ABL)=>y.1.length≤2^13) (HV n k code i h c.1 c.2.1 b):=by
  intro n
  induction n with
  |zero=>intro k i h b _ _ h;omega
  |succ n ih=>
   intro k i h b hi hk hn hb;simp only[HV,PF];refine OK.Kz (fun Dl=> ?_) (fun qK=>OK.some hi (by show b.length≤_;omega));refine OK.pure (Ca (c:=(c.1,c.2.1,())) (by show c.1.length≤_;omega) (by omega)) ?_
   dsimp only;refine OK.cond (fun _=> ?_) (fun _=>OK.some hi (by show b.length≤_;omega));refine OK.pure (Hk (by omega)) ?_
   dsimp only;rw[AG (by omega) (by omega),show((k:Int)+1)=((k+1:Nat):Int)by omega];have:=Tv (n:=(k:Int)) (l:=b);exact ih (k+1) _ _ _ hi (by omega) (by omega) (by omega)
 unfold FF PH;refine OK.bind (Mn hc (c:=(c.1,c.2.1,())) Vm hi) fun x i' h' y DW hq=> ?_
 dsimp only;exact key Aa 0 i' h' y.1 DW (by omega) (Ab (by omega)) (by omega)
end
theorem vJ{x:Int}:Cc (IntKind.wrap .i64 x):=by
 unfold Cc IntKind.wrap;simp[IntKind.bits,IntKind.signed];split<;>omega
theorem ADR{a b:Int}:Cc (bOr .i64 a b):=by
 unfold bOr;exact vJ
theorem im{l:AAg}(hl:l.length≤2^20):∃r,H7 l=some ((r,()),())∧Cc r:=by
 have key:∀(n k:Nat) (t:Int),(∀x∈l,0≤x)→Cc t→k≤l.length→l.length-k<n→ ∃r,HY n l t k=some ((r,()),())∧Cc r:=by
  intro n
  induction n with
  |zero=>intro k t _ _ _ h;omega
  |succ n ih=>
   intro k t hp ht hk hn;simp only[HY,Ou,AB];by_cases Dl:k<l.length
   ·rw[AG5 (by omega),AG5 (by omega),Ay Dl,AHA (by have:=hp _ (AIu Dl);omega),AG (x:=(k:Int)+1) (by omega) (by omega),show((k:Int)+1)=((k+1:Nat):Int)by omega]
    exact ih (k+1) _ hp ADR (by omega) (by omega)
   ·rw[AHA (by omega)]
    exact⟨t,rfl,ht⟩
 unfold H7 PT;rw[XM (by omega)];simp only[AL,B9];rcases AG4 (dR l 7)with ha|ha
 ·rw[ha]
  exact key Aa 0 0 (fun x hx=>((js.1 ha).1 x hx).1) (by unfold Cc;omega) (by omega) (Ab (by omega))
 ·rw[ha]
  exact⟨-1,rfl,by unfold Cc;omega⟩
end Go.M
end
section
set_option maxRecDepth 8000
namespace Go.M
open Go.M.H (AK AO A4 Au AA CR AN BE AQ Ah Bb BQ Bz Ao CJ AW AU AZ Ac Bt A_ Aw BG EL Bh Cg C6)
abbrev YL:Bz×Unit→Unit→Prop:=fun x _=>Cc x.1.2.1
theorem La{x:Int}(h: -1000≤x∧x≤1000):Cc x:=by unfold Cc;omega
section
variable{code:AAg} (hc:code.length≤2^30) {w:AA} (h:Nk w)
include hc h
theorem Nk.qu{e:Int}(he:1≤e∧e≤w.A3.length):0<(B7 w.A3 e).length∧(B7 w.A3 e).length≤8∧ ∀x∈B7 w.A3 e,0≤x∧x<8:=by
 have hh:=(h.fV.A3 _ (BA (d:=Dg) (show(e-1).toNat<(B8 w).1.length by show _<w.A3.length;omega))).1;have hn:=PM hh;have Vm:=(DS h.cfg).2.1;unfold B7;rw[BN.2 he,AG5 rfl];refine⟨?_,FR hn,fun x hx=> ?_⟩
 ·rcases Nat.eq_zero_or_pos (w.A3.getD (e-1).toNat Dg).1.length with h0|h0
  ·have jQ:=AI6 h0
   have hh':holds (AY w) (w.A3.getD (e-1).toNat Dg).1=true:=hh;rw[jQ,h_]at hh';cases hh'
  ·exact h0
 ·have:=(Hf.1 hn).2.1 x hx
  omega
theorem jY(hw:0<w.AM.length){i hh:Int}(hi:Bd code i):OK code YL (EW w code i hh):=by
 have k:=h.nums;have k2:=k.wr;have k5:=k.era;have hw':0<w.2.2.2.2.2.2.1.length:=hw;have tail:∀(j:Int),0≤j→j<(w.2.2.2.2.2.2.1.length:Int)→ ∀i hh,Bd code i→OK code YL (
   (Bk (w.2.2.2.2.1,w.2.2.2.2.2.1,()) ((w.2.2.2.2.2.2.1.getD (j.toNat) (0,[],())).1)).bind fun Ru=>
   (AF (Ru.2.1.length:Int) code i hh).bind fun Ot=>
   if(0:Int)≤Ot.1.1∧Ot.1.1<(Ru.2.1.length:Int)then(
   cond ((((w.2.2.2.2.2.2.1.getD (j.toNat) (0,[],())).2.1).length:Int)==0)
    ((Eg [[],[97],[98,99],[100]] Ot.2.1.1 Ot.2.1.2.1 Ot.2.1.2.2.1).bind fun S7=>
    some (((2,j,0,0,S7.1.1,()),()),((S7.2.1.1,S7.2.1.2.1,S7.2.1.2.2.1,()),())))
   ((Aj 7 Ot.2.1.1 Ot.2.1.2.1 Ot.2.1.2.2.1).bind fun I_=>
   cond (I_.1.1)
    ((Eg [[],[97],[98,99],[100]] I_.2.1.1 I_.2.1.2.1 I_.2.1.2.2.1).bind fun Yf=>
    some (((2,j,0,0,Yf.1.1,()),()),((Yf.2.1.1,Yf.2.1.2.1,Yf.2.1.2.2.1,()),())))
   ((Aj 3 I_.2.1.1 I_.2.1.2.1 I_.2.1.2.2.1).bind fun YI=>
   cond (YI.1.1)
    (some (((4,(Ru.2.1.getD (Ot.1.1.toNat) 0),0,0,[],()),()),((YI.2.1.1,YI.2.1.2.1,YI.2.1.2.2.1,()),())))
   ((OB (((w.2.2.2.2.2.2.1.getD (j.toNat) (0,[],())).2.1).length:Int) 3).bind fun Yx=>
   (AF Yx.1.1 YI.2.1.1 YI.2.1.2.1 YI.2.1.2.2.1).bind fun OH=>
   some (((3,j,AX ((((w.2.2.2.2.2.2.1.getD (j.toNat) (0,[],())).2.1).length:Int)-OH.1.1),(Ru.2.1.getD (Ot.1.1.toNat) 0),[],()),()),((OH.2.1.1,OH.2.1.2.1,OH.2.1.2.2.1,()),()))))))else none):=by
  intro j hj0 hj1 i hh hi;have hx:=h.AM _ (BA (d:=BR) (show j.toNat<w.AM.length by show j.toNat<w.2.2.2.2.2.2.1.length;omega));have he:=hx.1.ep;obtain⟨e1,e2,e3⟩:=h.qu hc (e:=(w.AM.getD j.toNat BR).1) ⟨he.1,hx.2⟩;refine OK.pure (DM (r:=B8 w) (by show AW Bt w.2.2.2.2.1≤_;omega)) ?_
  dsimp only
  generalize hns:B7 (B8 w).1 (w.2.2.2.2.2.2.1.getD j.toNat (0,[],())).1=ns
  have AFj:B7 w.A3 (w.AM.getD j.toNat BR).1=ns:=hns;rw[AFj]at e1 e2 e3;refine OK.bind (BC hc hi (by omega)) fun x i1 h1 y HQ hq=> ?_
  dsimp only at*;refine OK.ite (by omega) ?_
  have ABJ:Cc (ns.getD x.1.toNat 0):=La (by have:=e3 _ (BA (l:=ns) (i:=x.1.toNat) (d:=0) (by omega));omega);have hjj:Cc j:=La (by omega)
  repeat' (first|refine OK.some (by assumption) ?_|refine OK.Kz (fun _=> ?_) (fun _=> ?_)|refine OK.DB (fun _=> ?_) (fun _=> ?_)|refine OK.cond (fun _=> ?_) (fun _=> ?_)|refine OK.ite (by omega) ?_|(refine OK.bind (Kj (by assumption) (by assumption) (by omega)) fun x i h y hi hq=> ?_;dsimp only)|(refine OK.bind (BC (by assumption) (by assumption) (by omega)) fun x i h y hi hq=> ?_;dsimp only at*)|(refine OK.bind (cW (by assumption) (by assumption) (by simp) (by simp)) fun x i h y hi hq=> ?_;dsimp only)|(refine OK.pure TL ?_;dsimp only)|(refine OK.pure GN ?_;dsimp only))
  all_goals assumption
 unfold EW;dsimp only;have e1:AX ((w.2.2.2.2.2.2.1.length:Int)-1)=(w.2.2.2.2.2.2.1.length:Int)-1:=AG (by omega) (by omega);simp only[e1];refine OK.bind (BC hc hi (by omega)) fun x i1 h1 y HQ hq=> ?_
 dsimp only at*;refine OK.bind (Kj hc HQ (by omega)) fun x2 i2 h2 y2 FE fS=> ?_
 dsimp only at*;refine OK.cond (fun _=> ?_) (fun _=> ?_)
 ·refine OK.ite (by omega) ?_
  exact tail _ (by omega) (by omega) _ _ FE
 ·refine OK.ite (by omega) ?_
  exact tail _ (by omega) (by omega) _ _ FE
end
end Go.M
end
section
set_option maxRecDepth 8000
namespace Go.M
open Go.M.H (AK AO A4 Au AA CR AN BE AQ Ah Bb BQ Bz Ao CJ AW AU AZ Ac Bt A_ Aw BG EL Bh Cg C6)
section
variable{code:AAg} (hc:code.length≤2^30) {w:AA} (h:Nk w)
include hc h
theorem kf{m:A4}(hm:aY (AY w) m){t7:Int}:∀(n k:Nat) (t8 i hh:Int),Bd code i→k≤m.2.2.2.2.2.1.length→m.2.2.2.2.2.1.length-k<n→
  OK code YL (D6 n t7 t8 k code i hh w.1 w.2.1 w.2.2.1 w.2.2.2.1 w.2.2.2.2.1 w.2.2.2.2.2.1 w.2.2.2.2.2.2.1 w.2.2.2.2.2.2.2.1 w.2.2.2.2.2.2.2.2.1 w.2.2.2.2.2.2.2.2.2.1 w.2.2.2.2.2.2.2.2.2.2.1 0 0 0 0 [] m.1 m.2.1 m.2.2.1 m.2.2.2.1 m.2.2.2.2.1 m.2.2.2.2.2.1):=by
 have k1:=h.nums.c;have qO:m.2.2.2.2.2.1.length≤60:=by
  have:=hm.n;have hb:=Iz (l:=m.2.2.2.1);split at this<;>omega
 intro n
 induction n with
 |zero=>intro k t8 i hh _ _ h;omega
 |succ n ih=>
  intro k t8 i hh hi hk hn;simp only[D6,MN];refine OK.Kz (fun Dl=> ?_) (fun qK=>OK.some hi (La (by show-1000≤(0:Int)∧(0:Int)≤1000;omega)));have AK7:k<m.2.2.2.2.2.1.length:=by omega
  refine OK.ite (by omega) ?_
  rw[AG (x:=(k:Int)+1) (by omega) (by omega),show((k:Int)+1)=((k+1:Nat):Int)by omega];have jd:=FR (hm.wrote _ (BA (d:=[]) AK7));refine OK.pure (Ca (c:=AY w) (by show w.1.length≤_;omega) (by show(m.2.2.2.2.2.1.getD k []).length≤_;omega)) ?_
  dsimp only;refine OK.cond (fun _=> ?_) (fun _=>ih (k+1) _ _ _ hi (by omega) (by omega));refine OK.bind (Kj hc hi (by omega)) fun x2 i2 h2 y2 FE fS=> ?_
  dsimp only;exact OK.cond (fun _=>ih (k+1) _ _ _ FE (by omega) (by omega)) (fun _=>ih (k+1) _ _ _ FE (by omega) (by omega))
theorem ks{i hh:Int}(hi:Bd code i):OK code YL (IK w code i hh):=by
 have k:=h.nums;have k5:=k.era;unfold IK M3;have z:Cc 0:=La (by omega);refine OK.DB (fun _=>OK.some hi z) (fun YT=> ?_);have hlen:0<w.BS.length:=by show 0<w.2.2.2.2.2.2.2.1.length;omega
 refine OK.ite (by omega) ?_
 have hmm:=h.BS _ (BA (d:=IU) hlen)
 generalize hg:w.2.2.2.2.2.2.2.1.getD 0 (0,0,[],[],false,[],())=m
 have jn:w.BS.getD 0 IU=m:=hg;rw[jn]at hmm;obtain⟨hm,hm2,hm3⟩:=hmm;have he:=hm.ep;have hb:=hm.b;obtain⟨e1,e2,e3⟩:=h.qu hc (e:=m.2.1) ⟨he.1,by omega⟩;have qO:m.2.2.2.2.2.1.length≤60:=by
  have:=hm.n;have hb:=Iz (l:=m.2.2.2.1);split at this<;>omega
 refine OK.pure (DM (r:=B8 w) (by show AW Bt w.2.2.2.2.1≤_;omega)) ?_
 dsimp only
 generalize hns:B7 (B8 w).1 m.2.1=ns
 have AFj:B7 w.A3 m.2.1=ns:=hns;rw[AFj]at e1 e2 e3;refine OK.bind (BC hc hi (by omega)) fun x i1 h1 y HQ hq=> ?_
 dsimp only at*;refine OK.ite (by omega) ?_
 have ABJ:Cc (ns.getD x.1.toNat 0):=La (by have:=e3 _ (BA (l:=ns) (i:=x.1.toNat) (d:=0) (by omega));omega);have fin:∀t8 i hh,Bd code i→OK code YL (D6 Aa (ns.getD x.1.toNat 0) t8 0 code i hh w.1 w.2.1 w.2.2.1 w.2.2.2.1 w.2.2.2.2.1 w.2.2.2.2.2.1 w.2.2.2.2.2.2.1 w.2.2.2.2.2.2.2.1 w.2.2.2.2.2.2.2.2.1 w.2.2.2.2.2.2.2.2.2.1 w.2.2.2.2.2.2.2.2.2.2.1 0 0 0 0 [] m.1 m.2.1 m.2.2.1 m.2.2.2.1 m.2.2.2.2.1 m.2.2.2.2.2.1):=fun t8 i hh hi=>
  kf hc h hm Aa 0 t8 i hh hi (by omega) (Ab (by omega))
 repeat' (first|refine OK.some (by assumption) ?_|refine OK.Kz (fun _=> ?_) (fun _=> ?_)|refine OK.DB (fun _=> ?_) (fun _=> ?_)|refine OK.cond (fun _=> ?_) (fun _=> ?_)|refine OK.ite (by omega) ?_|(refine OK.bind (Kj (by assumption) (by assumption) (by omega)) fun x i h y hi hq=> ?_;dsimp only)|(refine OK.bind (BC (by assumption) (by assumption) (by omega)) fun x i h y hi hq=> ?_;dsimp only at*)|(refine OK.bind (cW (by assumption) (by assumption) (by simp) (by simp)) fun x i h y hi hq=> ?_;dsimp only)|(refine OK.pure TL ?_;dsimp only)|(refine OK.pure GN ?_;dsimp only))
 all_goals first
  |exact fin _ _ _ (by assumption)
  |exact z
  |exact ABJ
theorem lF{i hh:Int}(hi:Bd code i):OK code YL (Ku w code i hh):=by
 have k:=h.nums;have k1:=k.c;have k2:=k.wr;have k3:=k.lost;have k4:=k.st;have k5:=k.era;have k6:=k.se;have k7:=k.zT;have ACp:=(DS h.cfg).1;have AMT:1≤w.1.length:=ACp;have z:Cc 0:=La (by omega);have Pd:∀i hh,Bd code i→OK code YL ((FF (w.1,w.2.1,()) code i hh).bind fun u3=>
   (H7 u3.2.2.1).bind fun u4=>
   some (((1,u4.1.1,0,0,[],()),()),((u3.2.1.1,u3.2.1.2.1,u3.2.1.2.2.1,()),()))):=fun i hh hi=>by
  refine OK.bind (Xy hc (c:=(w.1,w.2.1,())) (by show w.1.length≤_;omega) hi) fun x i1 h1 y HQ hq=> ?_
  dsimp only;obtain⟨r,hr,hr2⟩:=im (l:=y.1) (by omega);refine OK.pure hr ?_
  exact OK.some HQ hr2
 have AHT:∀j:Nat,Cc (w.2.2.2.2.2.2.2.2.2.1.getD j (0,[],false,())).1:=fun j=>by
  by_cases hj:j<w.2.2.2.2.2.2.2.2.2.1.length
  ·exact Gi (h.BM _ (BA (d:=E5) hj)).1
  ·rw[List.getD,AK5 (by omega)];exact z
 have AHI:Cc (w.2.2.2.1.getD 0 0):=by
  by_cases hj:0<w.2.2.2.1.length
  ·have:=(Hf.1 h.lost).2.1 _ (BA (d:=0) hj)
   have hc8:(AY w).1.length≤8:=k1;have AMf:0≤w.2.2.2.1.getD 0 0∧w.2.2.2.1.getD 0 0<(AY w).1.length:=this;exact La (by omega)
  ·rw[List.getD,AK5 (by omega)];exact z
 unfold Ku;refine OK.DB (fun _=>Pd _ _ hi) (fun YT=> ?_);have hw0:0<w.AM.length:=by show 0<w.2.2.2.2.2.2.1.length;omega
 have hwr:∀i hh,Bd code i→OK code YL ((EW w code i hh).bind fun bC=>
   some (((bC.1.1.1,bC.1.1.2.1,bC.1.1.2.2.1,bC.1.1.2.2.2.1,bC.1.1.2.2.2.2.1,()),()),((bC.2.1.1,bC.2.1.2.1,bC.2.1.2.2.1,()),()))):=fun i hh hi=>
  OK.bind (jY hc h hw0 hi) fun x i1 h1 y HQ hq=>OK.some HQ hq
 have hmd:∀i hh,Bd code i→OK code YL ((IK w code i hh).bind fun bC=>
   some (((bC.1.1.1,bC.1.1.2.1,bC.1.1.2.2.1,bC.1.1.2.2.2.1,bC.1.1.2.2.2.2.1,()),()),((bC.2.1.1,bC.2.1.2.1,bC.2.1.2.2.1,()),()))):=fun i hh hi=>
  OK.bind (ks hc h hi) fun x i1 h1 y HQ hq=>OK.some HQ hq
 rw[show(w.1,w.2.1,w.2.2.1,w.2.2.2.1,w.2.2.2.2.1,w.2.2.2.2.2.1,w.2.2.2.2.2.2.1,w.2.2.2.2.2.2.2.1,w.2.2.2.2.2.2.2.2.1,w.2.2.2.2.2.2.2.2.2.1,w.2.2.2.2.2.2.2.2.2.2.1,())=w from rfl];refine OK.bind (Kj hc hi (by omega)) fun x2 i2 h2 y2 FE fS=> ?_
 dsimp only;refine OK.cond (fun _=>Pd _ _ FE) (fun _=> ?_);refine OK.bind (BC hc FE (by omega)) fun x3 i3 h3 y3 G3 Nl=> ?_
 dsimp only at*;have hx3:Cc x3.1:=La (by omega)
 repeat' first
  |exact hwr _ _ (by assumption)
  |exact hmd _ _ (by assumption)
  |(refine OK.pure (Jg (r:=B8 w) (by show w.2.2.2.2.1.length≤_;omega)) ?_;dsimp only)
  |(first|refine OK.some (by assumption) ?_|refine OK.Kz (fun _=> ?_) (fun _=> ?_)|refine OK.DB (fun _=> ?_) (fun _=> ?_)|refine OK.cond (fun _=> ?_) (fun _=> ?_)|refine OK.ite (by omega) ?_|(refine OK.bind (Kj (by assumption) (by assumption) (by omega)) fun x i h y hi hq=> ?_;dsimp only)|(refine OK.bind (BC (by assumption) (by assumption) (by omega)) fun x i h y hi hq=> ?_;dsimp only at*)|(refine OK.bind (cW (by assumption) (by assumption) (by simp) (by simp)) fun x i h y hi hq=> ?_;dsimp only)|(refine OK.pure TL ?_;dsimp only)|(refine OK.pure GN ?_;dsimp only))
 all_goals first
  |exact z
  |exact hx3
  |exact AHT _
  |exact AHI
  |(refine La ?_;dsimp only;omega)
end
end Go.M
end
section
set_option maxRecDepth 8000
namespace Go.M
open Go.M.H (AK AO A4 Au AA CR AN BE AQ Ah Bb BQ Bz Ao CJ AW AU AZ Ac Bt A_ Aw BG EL Bh Cg C6)
theorem ZU{s:AAg}{p:Int}:∀{l:List BQ} {b:Option AK},(∀x,b=some x→DN x=true)→ ∀x,PY s p b l=some x→DN x=true
 |[],b,hb,x,h=>hb x h
 |a::l,b,hb,x,h=>by
  simp only[PY]at h;split at h
  ·rename_i hc
   simp only[AHN]at hc;refine ZU (l:=l) ?_ x h
   intro z hz;split at hz
   ·rename_i z' hz'
    unfold better at hz;split at hz
    ·rw[←AL9 hz];exact hc.2.2.1
    ·rw[←AL9 hz];exact hb _ rfl
   ·rw[←AL9 hz];exact hc.2.2.1
  ·exact ZU (l:=l) hb x h
theorem Zq{c:Bw}{g:AN}{sure:Int}{r:Ah}{l:List BQ}(h:∀e∈r.2.2.1,e.2.2.1.length≤40)(h0:(Ex c g sure r l).2=0):∀e∈(Ex c g sure r l).1.2.2.1,e.2.2.1.length≤40:=by
 have app:∀(ev:Bb),ev.2.2.1.length≤40→ ∀e∈r.2.2.1++[ev],e.2.2.1.length≤40:=fun ev qG e he=>by
  rcases AIf.1 he with he|he
  ·exact h e he
  ·rw[AI8.1 he];exact qG
 have hf:∀p,(Uw p (PY (g.1.getD (r.1-1).toNat Dg).1 p none l)).2.2.1.length≤40:=fun p=>by
  cases hb:PY (g.1.getD (r.1-1).toNat Dg).1 p none l with
  |none=>show 0≤40;omega
  |some x=>
   have:=(FQ.1 (ZU (b:=none) (fun x hx=>by cases hx) x hb)).len;unfold Uw;dsimp only;split
   ·show 0≤40;omega
   ·exact this
 revert h0
 unfold Ex;dsimp only;split
 ·intro h0;cases h0
 split
 ·intro h0;cases h0
 split
 ·intro _;exact app _ (by show 0≤40;omega)
 split
 ·intro _;exact app _ (by show 0≤40;omega)
 split
 ·intro h0;cases h0
 split
 ·intro h0;cases h0
 intro _;exact app _ (hf _)
theorem Ap{w:AA}{n:Int}{q:AO×Bool}:(putAt w n q).1.Ae=w.Ae:=by
 unfold putAt;split<;>rfl
theorem jB{w:AA}{a k:Int}(h:kP w):kP (PV w a k).1:=by
 unfold PV;split
 ·exact h
 dsimp only;split
 ·exact h
 rename_i h2;intro r hr;rcases AJJ hr with hr|rfl
 ·exact h r hr
 ·refine Zq ?_ (by simpa using h2)
  by_cases hl:a.toNat<w.Ae.length
  ·exact h _ (BA hl)
  ·rw[List.getD,AK5 (by omega)]
   intro e he;exact absurd he (by simp)
theorem CO{w w':AA}(h:kP w)(e:w'.Ae=w.Ae):kP w':=by
 unfold kP;rw[e];exact h
theorem lk{all:Bool}{w:AA}{d:Bz}(h:kP w):kP (Rw all w d).1:=by
 unfold Rw;by_cases c:d.1=1
 ·rw[AG5 c]
  clear c
  refine CO h ?_
  unfold Ux
  try dsimp only
  repeat' split
  all_goals first|rfl|exact Ap
 rw[AHA c];clear c;by_cases c:d.1=2
 ·rw[AG5 c]
  clear c
  refine CO h ?_
  unfold doAdd
  try dsimp only
  repeat' split
  all_goals first|rfl|exact Ap
 rw[AHA c];clear c;by_cases c:d.1=3
 ·rw[AG5 c]
  clear c
  refine CO h ?_
  unfold QW
  try dsimp only
  repeat' split
  all_goals first|rfl|exact Ap
 rw[AHA c];clear c;by_cases c:d.1=4
 ·rw[AG5 c]
  clear c
  refine CO h ?_
  unfold Uj
  try dsimp only
  repeat' split
  all_goals first|rfl|exact Ap
 rw[AHA c];clear c;by_cases c:d.1=5
 ·rw[AG5 c]
  clear c
  refine CO h ?_
  unfold QQ
  try dsimp only
  repeat' split
  all_goals first|rfl|exact Ap
 rw[AHA c];clear c;by_cases c:d.1=6
 ·rw[AG5 c]
  clear c
  refine CO h ?_
  unfold Uo
  try dsimp only
  repeat' split
  all_goals first|rfl|exact Ap
 rw[AHA c];clear c;by_cases c:d.1=7
 ·rw[AG5 c]
  clear c
  refine CO h ?_
  unfold U_
  try dsimp only
  repeat' split
  all_goals first|rfl|exact Ap
 rw[AHA c];clear c;by_cases c:d.1=8
 ·rw[AG5 c]
  clear c
  refine CO h ?_
  unfold Ud
  try dsimp only
  repeat' split
  all_goals first|rfl|exact Ap
 rw[AHA c];clear c;by_cases c:d.1=9
 ·rw[AG5 c]
  clear c
  refine CO h ?_
  unfold Ue
  try dsimp only
  repeat' split
  all_goals first|rfl|exact Ap
 rw[AHA c];clear c;by_cases c:d.1=10
 ·rw[AG5 c]
  clear c
  refine CO h ?_
  unfold U9
  try dsimp only
  repeat' split
  all_goals first|rfl|exact Ap
 rw[AHA c];clear c;by_cases c:d.1=11
 ·rw[AG5 c]
  clear c
  refine CO h ?_
  unfold ZI
  try dsimp only
  repeat' split
  all_goals first|rfl|exact Ap
 rw[AHA c];clear c;by_cases c:d.1=12
 ·rw[AG5 c]
  clear c
  refine CO h ?_
  unfold P9
  try dsimp only
  repeat' split
  all_goals first|rfl|exact Ap
 rw[AHA c];clear c;by_cases c:d.1=13
 ·rw[AG5 c]
  clear c
  refine CO h ?_
  unfold Vl
  try dsimp only
  repeat' split
  all_goals first|rfl|exact Ap
 rw[AHA c];clear c;by_cases c:d.1=14
 ·rw[AG5 c];exact jB h
 rw[AHA c];clear c;by_cases c:d.1=15
 ·rw[AG5 c]
  clear c
  refine CO h ?_
  unfold U1
  try dsimp only
  repeat' split
  all_goals first|rfl|exact Ap
 rw[AHA c];clear c;refine CO h ?_
 unfold QN;split
 ·rfl
 ·exact Ap
theorem gI{c:Bw}{g:AN}{sure:Int}{r:Ah}{l:List BQ}(h:∀e∈r.2.2.1,Cc e.2.1)(h0:(Ex c g sure r l).2=0):∀e∈(Ex c g sure r l).1.2.2.1,Cc e.2.1:=by
 have app:∀(ev:Bb),Cc ev.2.1→ ∀e∈r.2.2.1++[ev],Cc e.2.1:=fun ev qG e he=>by
  rcases AIf.1 he with he|he
  ·exact h e he
  ·rw[AI8.1 he];exact qG
 have hf:∀p b,(Uw p b).2.1=p:=fun p b=>by
  cases b with
  |none=>rfl
  |some x=>unfold Uw;dsimp only;split<;>rfl
 revert h0
 unfold Ex;dsimp only;split
 ·intro h0;cases h0
 rename_i F6;have AIb:Ky c g=true∧PO r=true:=by
  rcases AG4 (Ky c g)with h1|h1
  ·rcases AG4 (PO r)with h2|h2
   ·exact⟨h1,h2⟩
   ·rw[h1,h2]at F6;exact absurd rfl F6
  ·rw[h1]at F6;exact absurd rfl F6
 have hrg:=(MV.1 AIb.1).tin;have Rv:=Wb.1 AIb.2;have hre:=Rv.ep;have hro:=Rv.off;split
 ·intro h0;cases h0
 split
 ·intro _;exact app _ hrg
 split
 ·intro _;exact app _ (La (by show-1000≤r.1+1∧r.1+1≤1000;omega))
 split
 ·intro h0;cases h0
 split
 ·intro h0;cases h0
 intro _;refine app _ ?_
 rw[hf];unfold Cc OD;omega
theorem o4{w:AA}{a k:Int}(h:Ry w):Ry (PV w a k).1:=by
 unfold PV;split
 ·exact h
 dsimp only;split
 ·exact h
 rename_i h2;intro r hr;rcases AJJ hr with hr|rfl
 ·exact h r hr
 ·refine gI ?_ (by simpa using h2)
  by_cases hl:a.toNat<w.Ae.length
  ·exact h _ (BA hl)
  ·rw[List.getD,AK5 (by omega)]
   intro e he;exact absurd he (by simp)
theorem Dt{w w':AA}(h:Ry w)(e:w'.Ae=w.Ae):Ry w':=by
 unfold Ry;rw[show w'.2.2.2.2.2.2.2.2.1=w.2.2.2.2.2.2.2.2.1 from e];exact h
theorem yd{all:Bool}{w:AA}{d:Bz}(h:Ry w):Ry (Rw all w d).1:=by
 unfold Rw;by_cases c:d.1=1
 ·rw[AG5 c]
  clear c
  refine Dt h ?_
  unfold Ux
  try dsimp only
  repeat' split
  all_goals first|rfl|exact Ap
 rw[AHA c];clear c;by_cases c:d.1=2
 ·rw[AG5 c]
  clear c
  refine Dt h ?_
  unfold doAdd
  try dsimp only
  repeat' split
  all_goals first|rfl|exact Ap
 rw[AHA c];clear c;by_cases c:d.1=3
 ·rw[AG5 c]
  clear c
  refine Dt h ?_
  unfold QW
  try dsimp only
  repeat' split
  all_goals first|rfl|exact Ap
 rw[AHA c];clear c;by_cases c:d.1=4
 ·rw[AG5 c]
  clear c
  refine Dt h ?_
  unfold Uj
  try dsimp only
  repeat' split
  all_goals first|rfl|exact Ap
 rw[AHA c];clear c;by_cases c:d.1=5
 ·rw[AG5 c]
  clear c
  refine Dt h ?_
  unfold QQ
  try dsimp only
  repeat' split
  all_goals first|rfl|exact Ap
 rw[AHA c];clear c;by_cases c:d.1=6
 ·rw[AG5 c]
  clear c
  refine Dt h ?_
  unfold Uo
  try dsimp only
  repeat' split
  all_goals first|rfl|exact Ap
 rw[AHA c];clear c;by_cases c:d.1=7
 ·rw[AG5 c]
  clear c
  refine Dt h ?_
  unfold U_
  try dsimp only
  repeat' split
  all_goals first|rfl|exact Ap
 rw[AHA c];clear c;by_cases c:d.1=8
 ·rw[AG5 c]
  clear c
  refine Dt h ?_
  unfold Ud
  try dsimp only
  repeat' split
  all_goals first|rfl|exact Ap
 rw[AHA c];clear c;by_cases c:d.1=9
 ·rw[AG5 c]
  clear c
  refine Dt h ?_
  unfold Ue
  try dsimp only
  repeat' split
  all_goals first|rfl|exact Ap
 rw[AHA c];clear c;by_cases c:d.1=10
 ·rw[AG5 c]
  clear c
  refine Dt h ?_
  unfold U9
  try dsimp only
  repeat' split
  all_goals first|rfl|exact Ap
 rw[AHA c];clear c;by_cases c:d.1=11
 ·rw[AG5 c]
  clear c
  refine Dt h ?_
  unfold ZI
  try dsimp only
  repeat' split
  all_goals first|rfl|exact Ap
 rw[AHA c];clear c;by_cases c:d.1=12
 ·rw[AG5 c]
  clear c
  refine Dt h ?_
  unfold P9
  try dsimp only
  repeat' split
  all_goals first|rfl|exact Ap
 rw[AHA c];clear c;by_cases c:d.1=13
 ·rw[AG5 c]
  clear c
  refine Dt h ?_
  unfold Vl
  try dsimp only
  repeat' split
  all_goals first|rfl|exact Ap
 rw[AHA c];clear c;by_cases c:d.1=14
 ·rw[AG5 c];exact o4 h
 rw[AHA c];clear c;by_cases c:d.1=15
 ·rw[AG5 c]
  clear c
  refine Dt h ?_
  unfold U1
  try dsimp only
  repeat' split
  all_goals first|rfl|exact Ap
 rw[AHA c];clear c;refine Dt h ?_
 unfold QN;split
 ·rfl
 ·exact Ap
theorem mX{all:Bool}{w:AA}{d:Bz}(h:Ry w)(e:(Kc all w d).2=0):Ry (Kc all w d).1:=by
 unfold Kc at*;by_cases hc:(!E7 w|| !RQ d)=true
 ·rw[AG5 hc]at e;cases e
 ·rw[AHA hc];exact yd h
theorem jz{c:Bw}:Ry (Tj c):=fun r hr=>by
 have:r=(1,1,[],()):=by
  have tD:r∈([(1,1,[],()),(1,1,[],())]:List Ah):=hr;simpa using tD
 subst this;intro e he;cases he
theorem fl{all:Bool}{w:AA}{d:Bz}(h:kP w)(e:(Kc all w d).2=0):kP (Kc all w d).1:=by
 unfold Kc at*;by_cases hc:(!E7 w|| !RQ d)=true
 ·rw[AG5 hc]at e;cases e
 ·rw[AHA hc];exact lk h
theorem km{c:Bw}(hc:Cn c=true):Nk (Tj c)∧kP (Tj c):=by
 refine⟨⟨hc,by simp[Tj,H.AA.Ag],Sm hc,.inr h_,fun i hi=> ?_,⟨hc,by show 0≤30;omega,.inl rfl,fun e he=>(by cases he),fun i hi=>by exact absurd hi (by show¬i<0;omega)⟩,by show 0≤4;omega,by show 0≤1;omega,fun x hx=>(by cases hx),List.Pairwise.nil,fun x hx=>(by cases hx),rfl,fun r hr=> ?_,by show 0≤120;omega,fun x hx=>(by cases hx),List.Pairwise.nil⟩,fun r hr=> ?_⟩
 ·have:(Tj c).Ag.getD i Ce=Ce:=by
   show(List.replicate c.1.length Ce).getD i Ce=Ce
   rw[List.getD,AL6];split<;>rfl
  rw[this];exact⟨Vf.nil,fun _=>rfl⟩
 ·have:r=(1,1,[],()):=by
   have tD:r∈([(1,1,[],()),(1,1,[],())]:List Ah):=hr;simpa using tD
  subst this;exact⟨by show(1:Int)≤1∧(1:Int)≤31;omega,by show(1:Int)≤1∧(1:Int)≤61;omega,by show 0≤120;omega⟩
 ·have:r=(1,1,[],()):=by
   have tD:r∈([(1,1,[],()),(1,1,[],())]:List Ah):=hr;simpa using tD
  subst this;intro e he;cases he
theorem Z1{c:Bw}(hc:Cn c=true):FA c=some (((((),c.2.1,(),(),(),0,(),(),(),(),false,()),true,()),()),(c.1,List.replicate c.1.length Ce,[],[],[],[],[(1,1,[],()),(1,1,[],())],[],())):=by
 have hl:=(DS hc).2.1;unfold FA;rw[show(c.1,c.2.1,())=c from rfl,Eu (by omega),hc];simp only[AL,AIQ,AHe];rw[AG5 (by rw[Ax];omega),AG5 ⟨by omega,by omega,by rw[Ax];omega⟩];rfl
def Wv(x:(AF3×Unit))(y:Unit×Unit×Unit×Unit×Unit×Unit×Unit×Unit×(List Bz)×List Int×(List AO)×List Int×(List CR)×(List AQ)×(List A4)×(List Ah)×(List Au)×Unit):AA:=
 (y.2.2.2.2.2.2.2.2.2.1,x.1.2.2.1.2.1,y.2.2.2.2.2.2.2.2.2.2.1,y.2.2.2.2.2.2.2.2.2.2.2.1,y.2.2.2.2.2.2.2.2.2.2.2.2.1,x.1.2.2.1.2.2.2.2.2.1,y.2.2.2.2.2.2.2.2.2.2.2.2.2.1,y.2.2.2.2.2.2.2.2.2.2.2.2.2.2.1,y.2.2.2.2.2.2.2.2.2.2.2.2.2.2.2.1,y.2.2.2.2.2.2.2.2.2.2.2.2.2.2.2.2.1,x.1.2.2.1.2.2.2.2.2.2.2.2.2.2.1,())
section
variable{code:AAg} (hc:code.length≤2^30)
include hc
theorem ADh{T:Int}(hT:T≤1000){z1 z2:Int}{z3:Bool}:∀(n k:Nat) (i hh:Int) (w:AA) (acc:List Bz),Bd code i→(k:Int)≤max T 0→(T-k).toNat<n→acc.length≤k→Nk w→kP w→Ry w→
  OK code (fun x y=>Nk (Wv x y)∧kP (Wv x y)∧Ry (Wv x y)) (CT n T k code i hh 0 0 false [] [] [] [] [] [] [] [] 0 0 false [] [] [] [] [] [] [] [] z1 z2 z3 w.2.1 w.2.2.2.2.2.1 w.2.2.2.2.2.2.2.2.2.2.1 w.1 w.2.2.1 w.2.2.2.1 w.2.2.2.2.1 w.2.2.2.2.2.2.1 w.2.2.2.2.2.2.2.1 w.2.2.2.2.2.2.2.2.1 w.2.2.2.2.2.2.2.2.2.1 acc):=by
 intro n
 induction n with
 |zero=>intro k i hh w acc _ _ h;omega
 |succ n ih=>
  intro k i hh w acc hi hk hn hb hw hr hv;simp only[CT,LK];refine OK.Kz (fun Dl=> ?_) (fun qK=>OK.some hi ⟨hw,hr,hv⟩);rw[show(w.1,w.2.1,w.2.2.1,w.2.2.2.1,w.2.2.2.2.1,w.2.2.2.2.2.1,w.2.2.2.2.2.2.1,w.2.2.2.2.2.2.2.1,w.2.2.2.2.2.2.2.2.1,w.2.2.2.2.2.2.2.2.2.1,w.2.2.2.2.2.2.2.2.2.2.1,())=w from rfl];refine OK.bind (lF hc hw hi) fun x i1 h1 y HQ hq=> ?_
  dsimp only;refine OK.ite (by rw[Ax];omega) ?_
  refine OK.pure (bP (d:=x.1) (hw.win hr) hq) ?_
  rw[AG (by omega) (by omega),show((k:Int)+1)=((k+1:Nat):Int)by omega];refine OK.DB (fun h0=> ?_) (fun h0=> ?_)
  ·have h0':(Kc true w x.1).2=0:=h0
   exact ih (k+1) i1 h1 (Kc true w x.1).1 (acc++[x.1]) HQ (by omega) (by omega) (by simp;omega) (L9.1 (mo h0')) (fl hr h0') (mX hv h0')
  ·exact ih (k+1) i1 h1 w (acc++[x.1]) HQ (by omega) (by omega) (by simp;omega) hw hr hv
theorem AIZ{T:Int}(hT:0≤T∧T≤500){sA:AAg}{wj:AAg}(lQ:wj.length≤100)(hd:VA sA 1):∀(n:Nat) (c i hh:Int),Bd code i→1≤c∧c≤3→c.toNat+1000≤n→
  OK code (fun x y=>Nk (Wv x y)∧kP (Wv x y)∧Ry (Wv x y)) (DE n T code i hh 0 0 false [] [] [] [] [] [] [] [] 0 0 false [] [] [] [] [] [] [] [] c sA wj):=by
 intro n
 induction n with
 |zero=>intro c i hh _ _ h;omega
 |succ n ih=>
  intro c i hh hi ja hn;have hg:VA sA c:=⟨hd.1,hd.2.1,ja.1,ja.2,hd.2.2.2.2⟩;have hdl:=hd.2.1;simp only[DE,MF];have fin:OK code (fun x y=>Nk (Wv x y)∧kP (Wv x y)∧Ry (Wv x y)) ((FA (sA,c,())).bind fun u6=>
    (AF (AX (T+1)) code i hh).bind fun u7=>
    CT n u7.1.1 0 u7.2.1.1 u7.2.1.2.1 u7.2.1.2.2.1 0 0 false [] [] [] [] [] [] [] [] 0 0 false [] [] [] [] [] [] [] [] u6.1.1.1.2.1 u6.1.1.1.2.2.2.2.2.1 u6.1.1.1.2.2.2.2.2.2.2.2.2.2.1 u6.1.1.1.2.1 u6.1.1.1.2.2.2.2.2.1 u6.1.1.1.2.2.2.2.2.2.2.2.2.2.1 u6.2.1 u6.2.2.1 u6.2.2.2.1 u6.2.2.2.2.1 u6.2.2.2.2.2.1 u6.2.2.2.2.2.2.1 u6.2.2.2.2.2.2.2.1 u6.2.2.2.2.2.2.2.2.1 []):=by
   refine OK.pure (Z1 hg.ok) ?_
   rw[AG (by omega) (by omega)];refine OK.bind (BC hc hi (by omega)) fun x i1 h1 y HQ hq=> ?_
   have hwn:=km hg.ok;exact ADh hc (T:=x.1) (by omega) n 0 i1 h1 (Tj (sA,c,())) [] HQ (by omega) (by omega) (by simp) hwn.1 hwn.2 jz
  refine OK.Kz (fun Dl=> ?_) (fun qK=>fin);refine OK.pure (Ca (by show sA.length≤_;omega) (by omega)) ?_
  refine OK.cond (fun _=> ?_) (fun _=>fin);rw[AG (by omega) (by omega)];exact ih (c-1) i hh hi (by omega) (by omega)
theorem AIm{T:Int}(hT:0≤T∧T≤500){sA:AAg}{c:Int}(hd:VA sA c):∀(n k:Nat) (i hh:Int) (b:AAg),Bd code i→k≤sA.length→sA.length-k+1010≤n→b.length≤k→
  OK code (fun x y=>Nk (Wv x y)∧kP (Wv x y)∧Ry (Wv x y)) (C9 n T k code i hh 0 0 false [] [] [] [] [] [] [] [] 0 0 false [] [] [] [] [] [] [] [] c sA b):=by
 have hdl:=hd.2.1;intro n
 induction n with
 |zero=>intro k i hh b _ _ h;omega
 |succ n ih=>
  intro k i hh b hi hk hn hb;simp only[C9,MH];refine OK.Kz (fun Dl=> ?_) (fun qK=> ?_)
  ·refine OK.ite (by rw[Ax];omega) ?_
   rw[AG (by omega) (by omega),show((k:Int)+1)=((k+1:Nat):Int)by omega];exact ih (k+1) i hh _ hi (by omega) (by omega) (by simp;omega)
  ·exact AIZ hc hT (by omega) ⟨hd.1,hd.2.1,by omega,by omega,hd.2.2.2.2⟩ n c i hh hi ⟨hd.2.2.1,hd.2.2.2.1⟩ (by have:=hd.2.2.2.1;omega)
theorem lj{T:Int}(hT:0≤T∧T≤500){i hh:Int}(hi:Bd code i):OK code (fun x y=>Nk (Wv x y)∧kP (Wv x y)∧Ry (Wv x y)) (HM T code i hh):=by
 unfold HM MQ;obtain⟨l,c,i1,h1,e,hg,HQ⟩:=WL hc (h:=hh) hi;rw[e];have hgl:=hg.2.1;exact AIm hc hT hg Aa 0 i1 h1 [] HQ (by omega) (AL0 (Ab (by omega))) (by simp)
end
end Go.M
end
section
set_option maxRecDepth 8000
namespace Go.M
open Go.M.H (AK AO A4 Au AA CR AN BE AQ Ah Bb BQ Bz Ao CJ AW AU AZ Ac Bt A_ Aw BG EL Bh Cg C6)
abbrev AGa:AK×Unit→Unit→Prop:=fun x _=>Cc x.1.1∧x.1.2.2.2.1.length≤41
section
variable{code:AAg} (hc:code.length≤2^30)
include hc
theorem KZ{i hh:Int}(hi:Bd code i):OK code (fun(x:ABD) (_:Unit)=>Cc x.1) (CV code i hh):=by
 obtain⟨v,i1,h1,e,a,b,HQ⟩:=ei hc (h:=hh) hi;exact⟨(v,()),i1,h1,(),e,HQ,by unfold Cc;omega⟩
theorem aw{i hh:Int}(hi:Bd code i):OK code AGa (Ia code i hh):=by
 unfold Ia;dsimp only;refine OK.bind (BC hc hi (by omega)) fun x1 i1 h1 y1 HQ hq1=> ?_
 dsimp only at*;refine OK.bind (BC hc HQ (by omega)) fun x2 i2 h2 y2 FE fS=> ?_
 dsimp only at*;rw[AG (by omega) (by omega),AG (x:=1+x2.1) (by omega) (by omega)];refine OK.pure (Dk (by omega) (by omega)) ?_
 dsimp only;have hp:=OC (e:=1+x1.1) (o:=1+x2.1) (by omega) (by omega);have hpi:=Gi hp.1;refine OK.bind (cW hc FE (by simp) (by simp)) fun x3 i3 h3 y3 G3 Nl=> ?_
 dsimp only at*;have hl:x3.1.length≤41:=by
  simp only[AI5,List.not_mem_nil,or_false]at Nl;rcases Nl with h|h|h|h|h<;>rw[h]<;>simp
 refine OK.bind (Kj hc G3 (by omega)) fun x4 i4 h4 y4 jc hq4=> ?_
 dsimp only;refine OK.cond (fun _=> ?_) (fun _=>OK.some jc ⟨hpi,hl⟩);refine OK.pure (Ci hpi) ?_
 dsimp only;refine OK.bind (BC hc jc (by omega)) fun x5 i5 h5 y5 sR hq5=> ?_
 dsimp only;refine OK.bind (Kj hc sR (by omega)) fun x6 i6 h6 y6 hi6 hq6=> ?_
 dsimp only;exact OK.cond (fun _=>OK.some hi6 ⟨hpi,by show 0≤41;omega⟩) (fun _=>OK.some hi6 ⟨hpi,hl⟩)
theorem Xv{i hh:Int}(hi:Bd code i):OK code AGa (MY code i hh):=by
 unfold MY;refine OK.bind (aw hc hi) fun x i h y hi hq=> ?_
 dsimp only at*;refine OK.bind (BC hc hi (by omega)) fun x2 i2 h2 y2 FE fS=> ?_
 dsimp only at*;refine OK.DB (fun _=> ?_) (fun _=> ?_)
 ·refine OK.bind (KZ hc FE) fun x3 i3 h3 y3 G3 Nl=> ?_
  exact OK.some G3 ⟨Nl,hq.2⟩
 refine OK.DB (fun _=> ?_) (fun _=> ?_)
 ·refine OK.bind (Lr hc FE (by simp) (by simp)) fun x3 i3 h3 y3 G3 Nl=> ?_
  exact OK.some G3 hq
 refine OK.DB (fun _=>OK.some FE hq) (fun _=> ?_);refine OK.DB (fun _=> ?_) (fun _=>OK.some FE hq);refine OK.bind (BC hc FE (by omega)) fun x3 i3 h3 y3 G3 Nl=> ?_
 dsimp only at*;rw[AG (by omega) (by omega)];refine OK.ite (by rw[Ax];omega) ?_
 refine OK.some G3 ⟨hq.1,?_⟩;simp only[AMA,AK9];omega
abbrev StQ:ADt→((List AK)×(List AK)×Unit)→Prop:=fun x y=>iX (y.1,y.2.1,x.1.2.2.1,())∧y.1.length≤300∧y.2.1.length≤300∧(∀e∈y.1,Ac e≤41)∧(∀e∈y.2.1,Ac e≤41)
theorem ADS{s:AO}(h:Vf s):iX s∧s.1.length≤200∧s.2.1.length≤20∧(∀e∈s.1,Ac e≤41)∧(∀e∈s.2.1,Ac e≤41):=
 ⟨h.sin,h.nk,h.nl,fun e he=>by have:=(FQ.1 (h.kept e he)).len;unfold Ac;omega,fun e he=>by have:=(FQ.1 (h.late e he)).len;unfold Ac;omega⟩
theorem mN{x2 x3:List AK}{z:Int}{sl:Int}{l6:List AK}{i hh:Int}(hi:Bd code i)(h6:YY l6∧l6.length≤20∧ ∀e∈l6,Ac e≤41):∀n:Nat,
  (∀(k:Nat) (b:List AK),1≤k→k≤5→(5-k)*60+1≤n→b.length≤(k-1)*50→YY b→(∀e∈b,Ac e≤41)→OK code StQ (C5 n k code i hh z x2 x3 sl b l6))∧
  (∀(k j:Nat) (b:List AK),1≤k→k≤4→1≤j→j≤51→(4-k)*60+1+(51-j)+1≤n→b.length≤(k-1)*50+(j-1)→YY b→(∀e∈b,Ac e≤41)→OK code StQ (DC n k j code i hh z x2 x3 sl b l6)):=by
 intro n
 induction n with
 |zero=>exact⟨fun k b _ _ h=>by omega,fun k j b _ _ _ _ h=>by omega⟩
 |succ n ih=>
  refine⟨fun k b h1 h2 hn hb nD lO=> ?_,fun k j b h1 h2 h3 h4 hn hb nD lO=> ?_⟩
  ·simp only[C5,L7]
   refine OK.Kz (fun Dl=>ih.2 k 1 b h1 (by omega) (by omega) (by omega) (by omega) (by omega) nD lO) (fun qK=> ?_);exact OK.some hi ⟨⟨nD,h6.1⟩,by show b.length≤300;omega,by show l6.length≤300;omega,lO,h6.2.2⟩
  ·simp only[DC,MK]
   refine OK.Kz (fun Dl=> ?_) (fun qK=> ?_)
   ·refine OK.pure (Dk (by omega) (by omega)) ?_
    dsimp only;refine OK.ite (by rw[Ax];omega) ?_
    rw[AG (by omega) (by omega),show((j:Int)+1)=((j+1:Nat):Int)by omega];have hp:=Gi (OC (e:=(k:Int)) (o:=(j:Int)) (by omega) (by omega)).1;refine ih.2 k (j+1) _ h1 h2 (by omega) (by omega) (by omega) (by simp;omega) (fun e he=> ?_) (fun e he=> ?_)
    ·rcases AIf.1 he with he|he
     ·exact nD e he
     ·rw[AI8.1 he];exact hp
    ·rcases AIf.1 he with he|he
     ·exact lO e he
     ·rw[AI8.1 he];show 0≤41;omega
   ·rw[AG (by omega) (by omega),show((k:Int)+1)=((k+1:Nat):Int)by omega]
    exact ih.1 (k+1) b (by omega) (by omega) (by omega) (by omega) nD lO
theorem oY{x2 x3:List AK}{z:Int}{T:Int}(hT:T≤100):∀(n k:Nat) (i hh:Int) (s:AO),Bd code i→(k:Int)≤max T 0→(T-k).toNat+400≤n→Vf s→
  OK code StQ (Cm n T k code i hh z x2 x3 s.2.2.1 s.1 s.2.1):=by
 intro n
 induction n with
 |zero=>intro k i hh s _ _ h;omega
 |succ n ih=>
  intro k i hh s hi hk hn hs;have hsw:=hs.w;simp only[Cm,NQ];refine OK.Kz (fun Dl=> ?_) (fun qK=> ?_)
  ·rw[AG (x:=(k:Int)+1) (by omega) (by omega),show((k:Int)+1)=((k+1:Nat):Int)by omega]
   have next:∀(i hh:Int) (s:AO),Bd code i→Vf s→OK code StQ (Cm n T ((k+1:Nat):Int) code i hh z x2 x3 s.2.2.1 s.1 s.2.1):=fun i hh s hi hs=>ih (k+1) i hh s hi (by omega) (by omega) hs
   refine OK.bind (aw hc hi) fun x i1 h1 y HQ hq=> ?_
   dsimp only at*;rw[show(s.1,s.2.1,s.2.2.1,())=s from rfl,show(x.1.1,x.1.2.1,x.1.2.2.1,x.1.2.2.2.1,())=x.1 from rfl];refine OK.pure (N4 (by omega) hs.sin hq.1) ?_
   dsimp only[je];have q8:Vf (HW s x.1).1:=by
    rcases AG4 (HW s x.1).2 with h2|h2
    ·exact(V2 h2).1
    ·unfold HW at h2⊢
     rw[GO.2 hs]at h2⊢;simp only[AIQ,AIB,AJU]at h2⊢;split at h2
     ·cases h2
     ·rename_i hn;rw[AHA hn];exact hs
   have AMa:=q8.w;have AAr:∀s:AO,Vf s→(CP s).2=true→Vf (CP s).1:=fun s hs h2=>(LI h2).2.1
   refine OK.bind (BC hc HQ (by omega)) fun x2' i2 h2 y2 FE fS=> ?_
   dsimp only at*;refine OK.DB (fun _=> ?_) (fun _=> ?_)
   ·refine OK.pure (Js (by omega) hs.sin) ?_
    dsimp only[je];exact OK.cond (fun hb=>next _ _ _ FE (AAr s hs hb)) (fun _=>next _ _ _ FE hs)
   refine OK.DB (fun _=> ?_) (fun _=> ?_)
   ·refine OK.pure (Js (s:=(HW s x.1).1) (by omega) q8.sin) ?_
    dsimp only[je];exact OK.cond (fun hb=>next _ _ _ FE (AAr _ q8 hb)) (fun _=>next _ _ _ FE hs)
   refine OK.DB (fun _=> ?_) (fun _=> ?_)
   ·refine OK.bind (Kj hc FE (by omega)) fun x3 i3 h3 y3 G3 Nl=> ?_
    dsimp only;refine OK.cond (fun _=> ?_) (fun _=> ?_)
    ·refine OK.bind (BC hc G3 (by omega)) fun x4 i4 h4 y4 jc hq4=> ?_
     dsimp only at*;refine OK.pure (Sj (by omega) hs.sin) ?_
     dsimp only[je];exact OK.cond (fun hb=>next _ _ _ jc (ki hs)) (fun _=>next _ _ _ jc hs)
    ·exact OK.cond (fun hb=>next _ _ _ G3 q8) (fun _=>next _ _ _ G3 hs)
   ·exact OK.cond (fun hb=>next _ _ _ FE q8) (fun _=>next _ _ _ FE hs)
  ·refine OK.bind (Kj hc hi (by omega)) fun x3 i3 h3 y3 G3 Nl=> ?_
   dsimp only;have hq:=ADS hc hs;refine OK.cond (fun _=> ?_) (fun _=>OK.some G3 ⟨hq.1,by have:=hq.2.1;show s.1.length≤300;omega,by have:=hq.2.2.1;show s.2.1.length≤300;omega,hq.2.2.2.1,hq.2.2.2.2⟩);exact(mN hc G3 ⟨hq.1.2,hq.2.2.1,hq.2.2.2.2⟩ n).1 1 [] (by omega) (by omega) (by omega) (by simp) (fun e he=>by simp at he) (fun e he=>by simp at he)
theorem fF{i hh:Int}(hi:Bd code i):OK code StQ (D4 code i hh):=by
 unfold D4 Mi;refine OK.bind (BC hc hi (by omega)) fun x2' i2 h2 y2 FE fS=> ?_
 dsimp only at*;exact oY hc (T:=x2'.1) (by omega) Aa 0 i2 h2 Ce FE (by omega) (AL0 (Ab (by omega))) Vf.nil
abbrev AGK:ADt→((List AK)×(List AK)×Unit)→Prop:=fun x y=>iX (y.1,y.2.1,x.1.2.2.1,())∧Ao (y.1,y.2.1,x.1.2.2.1,())≤40000
theorem ZM{s:AO}(h1:iX s)(h2:s.1.length≤310)(h3:s.2.1.length≤330)(h4:∀e∈s.1,Ac e≤41)(h5:∀e∈s.2.1,Ac e≤41):iX s∧Ao s≤40000:=by
 have a:=Di (f:=Ac) (B:=41) h2 h4;have b:=Di (f:=Ac) (B:=41) h3 h5;refine⟨h1,?_⟩;unfold Ao;omega
theorem qF{x2 x3:List AK}{z sl:Int}{l5:List AK}(h5:YY l5∧l5.length≤300∧ ∀e∈l5,Ac e≤41):∀(n:Nat) (i hh:Int) (b:List AK),Bd code i→330-b.length<n→b.length≤310→YY b→(∀e∈b,Ac e≤41)→
  OK code AGK (JE n code i hh z x2 x3 sl l5 b):=by
 intro n
 induction n with
 |zero=>intro i hh b _ h;omega
 |succ n ih=>
  intro i hh b hi hn hb nD lO;simp only[JE,RE];refine OK.bind (BC hc hi (by omega)) fun x i2 h2 y2 FE fS=> ?_
  dsimp only at*;rw[AG (by omega) (by omega)];refine OK.Kz (fun Dl=> ?_) (fun _=>OK.some FE (ZM hc ⟨h5.1,nD⟩ (by show l5.length≤_;omega) (by show b.length≤_;omega) h5.2.2 lO));refine OK.pure (Dk (by omega) (by omega)) ?_
  dsimp only;refine OK.ite (by rw[Ax];omega) ?_
  have hp:=Gi (OC (e:=5) (o:=1) (by omega) (by omega)).1;refine ih i2 h2 _ FE (by simp;omega) (by simp;omega) (fun e he=> ?_) (fun e he=> ?_)
  ·rcases AIf.1 he with he|he
   ·exact nD e he
   ·rw[AI8.1 he];exact hp
  ·rcases AIf.1 he with he|he
   ·exact lO e he
   ·rw[AI8.1 he];show 0≤41;omega
theorem pX{i hh:Int}(hi:Bd code i):OK code AGK (PD code i hh):=by
 unfold PD Sf;refine OK.bind (fF hc hi) fun x i1 h1 y HQ hq=> ?_
 dsimp only at*;obtain⟨q1,q2,q3,q4,q5⟩:=hq;have base:iX (y.1,y.2.1,x.1.2.2.1,())∧Ao (y.1,y.2.1,x.1.2.2.1,())≤40000:=ZM hc q1 (by show y.1.length≤_;omega) (by show y.2.1.length≤_;omega) q4 q5;have add:∀{l:List AK} {e:AK},(∀x∈l,Ac x≤41)→Ac e≤41→ ∀x∈l++[e],Ac x≤41:=fun h1 h2 x hx=>by
  rcases AIf.1 hx with hx|hx
  ·exact h1 x hx
  ·rw[AI8.1 hx];exact h2
 have AHd:∀{l:List AK} {e:AK},YY l→Cc e.1→YY (l++[e]):=fun h1 h2 x hx=>by
  rcases AIf.1 hx with hx|hx
  ·exact h1 x hx
  ·rw[AI8.1 hx];exact h2
 refine OK.bind (BC hc HQ (by omega)) fun x2 i2 h2 y2 FE fS=> ?_
 dsimp only at*;refine OK.DB (fun _=> ?_) (fun _=> ?_)
 ·refine OK.bind (Lr hc FE (by simp) (by simp)) fun x3 i3 h3 y3 G3 Nl=> ?_
  exact OK.some G3 base
 refine OK.DB (fun _=> ?_) (fun _=> ?_)
 ·refine OK.bind (Xv hc FE) fun x3 i3 h3 y3 G3 Nl=> ?_
  dsimp only;refine OK.ite (by rw[Ax];omega) ?_
  exact OK.some G3 (ZM hc ⟨AHd q1.1 Nl.1,q1.2⟩ (by show(y.1++[_]).length≤_;simp;omega) (by show y.2.1.length≤_;omega) (add q4 Nl.2) q5)
 refine OK.DB (fun _=> ?_) (fun _=> ?_)
 ·refine OK.bind (Xv hc FE) fun x3 i3 h3 y3 G3 Nl=> ?_
  dsimp only;refine OK.ite (by rw[Ax];omega) ?_
  exact OK.some G3 (ZM hc ⟨q1.1,AHd q1.2 Nl.1⟩ (by show y.1.length≤_;omega) (by show(y.2.1++[_]).length≤_;simp;omega) q4 (add q5 Nl.2))
 refine OK.DB (fun _=> ?_) (fun _=>OK.some FE base);exact qF hc ⟨q1.1,q2,q4⟩ Aa i2 h2 y.2.1 FE (Ab (by omega)) (by omega) q1.2 q5
end
end Go.M
end
section
set_option maxRecDepth 8000
namespace Go.M
open Go.M.H (AK AO A4 Au AA CR AN BE AQ Ah Bb BQ Bz Ao CJ AW AU AZ Ac Bt A_ Aw BG EL Bh Cg C6)
theorem UD{α:Type}{f:α→Nat}{x:α}:∀{l:List α} {i:Nat},AW f (l.set i x)≤AW f l+f x
 |[],i=>by simp[AW]
 |y::l,0=>by simp only[ALw,AW];omega
 |y::l,i+1=>by
  have:=UD (f:=f) (x:=x) (l:=l) (i:=i);simp only[List.set_cons_succ,AW];omega
abbrev AHb:ACj→((List CR)×Unit)→Prop:=fun x y=>AW Bt y.1≤300000∧Cc x.1.2.1
def cq(c:Bw)(r:AN):Prop:=nt c r∨r=([],0,())
theorem cq.w{c:Bw}{r:AN}(h:cq c r):AW Bt r.1≤270:=by
 rcases h with h|rfl
 ·exact h.w
 ·show 0≤270;omega
theorem cq.n{c:Bw}{r:AN}(h:cq c r):r.1.length≤30:=by
 rcases h with h|rfl
 ·exact h.n
 ·show 0≤30;omega
theorem cq.tin{c:Bw}{r:AN}(h:cq c r):Cc r.2.1:=by
 rcases h with h|rfl
 ·exact h.tin
 ·exact La (by show-1000≤(0:Int)∧(0:Int)≤1000;omega)
section
variable{code:AAg} (hc:code.length≤2^30) {c:Bw} (Vm:c.1.length≤2^10)
include hc Vm
theorem mf{z:Int}{x3:List CR}:∀(n k:Nat) (i hh:Int) (r:AN),Bd code i→k≤7→7-k<n→cq c r→
  OK code (fun(x:ACj) (y:List CR×Unit)=>cq c (y.1,x.1.2.1,())) (EZ n k code i hh c.1 c.2.1 z x3 r.2.1 r.1):=by
 intro n
 induction n with
 |zero=>intro k i hh r _ _ h;omega
 |succ n ih=>
  intro k i hh r hi hk hn hr;have hrw:=hr.w;have vt:=hr.tin;simp only[EZ,Mo];refine OK.bind (BC hc hi (by omega)) fun x i1 h1 y HQ hq=> ?_
  dsimp only at*;refine OK.Kz (fun Dl=> ?_) (fun _=>OK.some HQ hr);rw[AG (x:=(k:Int)+1) (by omega) (by omega),show((k:Int)+1)=((k+1:Nat):Int)by omega];have next:∀(i hh:Int) (r:AN),Bd code i→cq c r→OK code (fun(x:ACj) (y:List CR×Unit)=>cq c (y.1,x.1.2.1,())) (EZ n ((k+1:Nat):Int) code i hh c.1 c.2.1 z x3 r.2.1 r.1):=fun i hh r hi hr=>ih (k+1) i hh r hi (by omega) (by omega) hr
  rw[show(c.1,c.2.1,())=c from rfl,show(r.1,r.2.1,())=r from rfl];refine OK.bind (Xy hc (by omega) HQ) fun x2 i2 h2 y2 FE fS=> ?_
  dsimp only at*;refine OK.pure (VP (by omega) (by omega) vt (by omega)) ?_
  dsimp only;refine OK.bind (BC hc FE (by omega)) fun x3 i3 h3 y3 G3 Nl=> ?_
  dsimp only at*;refine OK.DB (fun _=> ?_) (fun _=> ?_)
  ·refine OK.bind (BC hc G3 (by omega)) fun x4 i4 h4 y4 jc hq4=> ?_
   dsimp only at*;refine OK.pure (Tu (by omega) (by omega) vt) ?_
   dsimp only[pkR];exact OK.cond (fun hb=>next _ _ (NJ c r _ _).1 jc (.inl (bA hb).2.1)) (fun _=>next _ _ r jc hr)
  refine OK.DB (fun _=> ?_) (fun _=> ?_)
  ·refine OK.bind (BC hc G3 (by omega)) fun x4 i4 h4 y4 jc hq4=> ?_
   dsimp only at*;refine OK.bind (BC hc jc (by omega)) fun x5 i5 h5 y5 sR hq5=> ?_
   dsimp only at*;rw[AG (by omega) (by omega),AG (x:=1+x5.1) (by omega) (by omega)];refine OK.pure (Dk (by omega) (by omega)) ?_
   dsimp only;have hp:=Gi (OC (e:=1+x4.1) (o:=1+x5.1) (by omega) (by omega)).1;refine OK.pure (VO (by omega) (by omega) vt hp) ?_
   dsimp only[pkR];exact OK.cond (fun hb=>next _ _ (QK c r _).1 sR (.inl (dF hb).2.1)) (fun _=>next _ _ r sR hr)
  ·exact OK.cond (fun hb=>next _ _ (Kf c r _).1 G3 (.inl (cu hb).2.1)) (fun _=>next _ _ r G3 hr)
theorem kE{i hh:Int}(hi:Bd code i):OK code (fun(x:ACj) (y:List CR×Unit)=>cq c (y.1,x.1.2.1,())) (Ke c code i hh):=by
 unfold Ke M6;exact mf hc Vm Aa 0 i hh ([],0,()) hi (by omega) (Ab (by omega)) (.inr rfl)
omit Vm in
theorem mQ{ns:AAg}(hns:ns.length≤2^13){z t:Int}{x2:List CR}(ht:Cc t):∀(n:Nat) (i hh:Int) (b:List CR),Bd code i→40-b.length<n→b.length≤31→AW Bt b≤300+b.length*(2^13+1)→
  OK code AHb (JA n ns code i hh z x2 t b):=by
 intro n
 induction n with
 |zero=>intro i hh b _ h;omega
 |succ n ih=>
  intro i hh b hi hn hb hw;simp only[JA,Rl];refine OK.bind (BC hc hi (by omega)) fun x i1 h1 y HQ hq=> ?_
  dsimp only at*;rw[AG (by omega) (by omega)];refine OK.Kz (fun Dl=> ?_) (fun _=>OK.some HQ ⟨by show AW Bt b≤_;omega,ht⟩);refine OK.ite (by rw[Ax];omega) ?_
  refine ih i1 h1 _ HQ (by simp;omega) (by simp;omega) ?_
  have:Bt (ns,false,0,())=ns.length:=rfl;rw[Ih];simp only[AW,AIj,AIK,AI4];omega
theorem mu{i hh:Int}(hi:Bd code i):OK code AHb (O7 c code i hh):=by
 unfold O7 SY;rw[show(c.1,c.2.1,())=c from rfl];refine OK.bind (kE hc Vm hi) fun x i1 h1 y HQ hq=> ?_
 dsimp only at*;have hrw:AW Bt y.1≤270:=hq.w;have hrn:y.1.length≤30:=hq.n;have vt:Cc x.1.2.1:=hq.tin;have Pd:∀{i:Nat} {e:CR},Bt e≤2^13→AW Bt (y.1.set i e)≤300000:=fun he=>by
  have:=UD (f:=Bt) (x:= ‹CR›) (l:=y.1) (i:= ‹Nat›);omega
 have AGj:∀i,i<y.1.length→Bt (y.1.getD i ([],false,0,()))≤270:=fun i hi=>by
  have:=AZ (f:=Bt) (BA (d:=Dg) hi);have h2:Bt (y.1.getD i Dg)≤270:=by omega
  exact h2
 have base:AW Bt y.1≤300000∧Cc x.1.2.1:=⟨by omega,vt⟩;refine OK.bind (BC hc HQ (by omega)) fun x2 i2 h2 y2 FE fS=> ?_
 dsimp only at*;refine OK.DB (fun _=> ?_) (fun _=> ?_)
 ·refine OK.bind (KZ hc FE) fun x3 i3 h3 y3 G3 Nl=> ?_
  exact OK.some G3 ⟨by show AW Bt y.1≤_;omega,Nl⟩
 refine OK.DB (fun _=> ?_) (fun _=> ?_)
 ·refine OK.Kz (fun Dl=> ?_) (fun _=>OK.some FE base)
  rw[AG (by omega) (by omega)];refine OK.ite (by omega) ?_
  refine OK.some FE ⟨Pd ?_,vt⟩;have:=AGj ((y.1.length:Int)-1).toNat (by omega);have h3:Bt ((y.1.getD ((y.1.length:Int)-1).toNat ([],false,0,())).1,true,(y.1.getD ((y.1.length:Int)-1).toNat ([],false,0,())).2.2.1,())=Bt (y.1.getD ((y.1.length:Int)-1).toNat ([],false,0,())):=rfl;rw[h3];omega
 refine OK.DB (fun _=> ?_) (fun _=> ?_)
 ·refine OK.Kz (fun Dl=> ?_) (fun _=>OK.some FE base)
  refine OK.bind (Lr hc FE (by simp) (by simp)) fun x3 i3 h3 y3 G3 Nl=> ?_
  dsimp only;refine OK.ite (by omega) ?_
  refine OK.some G3 ⟨Pd ?_,vt⟩;have:=AGj 0 (by omega);have h4:Bt ((y.1.getD 0 ([],false,0,())).1,(y.1.getD 0 ([],false,0,())).2.1,x3.1,())=Bt (y.1.getD 0 ([],false,0,())):=rfl;rw[h4];omega
 refine OK.DB (fun _=> ?_) (fun _=> ?_)
 ·refine OK.Kz (fun Dl=> ?_) (fun _=>OK.some FE base)
  refine OK.bind (Mn hc (by omega) FE) fun x3 i3 h3 y3 G3 Nl=> ?_
  dsimp only;refine OK.ite (by omega) ?_
  refine OK.some G3 ⟨Pd ?_,vt⟩
  show y3.1.length≤_
  omega
 refine OK.DB (fun _=> ?_) (fun _=>OK.some FE base);refine OK.bind (Xy hc (by omega) FE) fun x3 i3 h3 y3 G3 Nl=> ?_
 dsimp only;exact mQ hc Nl vt Aa i3 h3 y.1 G3 (Ab (by omega)) (by omega) (by omega)
end
section
variable{code:AAg} (hc:code.length≤2^30) {c:Bw} (oO:Cn c=true)
include hc oO
theorem sX{l:AAg}(hl:l.length≤100){m:A4}(hm:m.2.2.1.length≤100):∃l',Is c m=some (((),()),(l',()))∧l'.length≤1000:=by
 have Vm:=(DS oO).2.1;have key:∀(n k:Nat) (b:AAg),k≤c.1.length→c.1.length-k<n→b.length≤100+k→ ∃l',JG n k c.1 c.2.1 b=some (((),()),(l',()))∧l'.length≤1000:=by
  intro n
  induction n with
  |zero=>intro k b _ h;omega
  |succ n ih=>
   intro k b hk hn hb;simp only[JG,Ro,AB,B9];by_cases Dl:(k:Int)<(c.1.length:Int)
   ·rw[AG5 Dl,show(c.1,c.2.1,())=c from rfl,Ca (by omega) (by omega),Hk (by omega)]
    simp only[AL];rw[AG (by omega) (by omega),show((k:Int)+1)=((k+1:Nat):Int)by omega];have:=Tv (n:=(k:Int)) (l:=b);obtain⟨l',e,h'⟩:=ih (k+1) (Ma (k:Int) b) (by omega) (by omega) (by omega);rw[e];cases holds c b with
    |true=>exact⟨b,rfl,by omega⟩
    |false=>exact⟨l',rfl,h'⟩
   ·rw[AHA Dl]
    exact⟨b,rfl,by omega⟩
 unfold Is Q2;rw[AG5 (by rw[Ax];omega)];exact key Aa 0 m.2.2.1 (by omega) (Ab (by omega)) (by omega)
theorem lI{m:A4}{o n:Int}(h:(Uy c m o n).2=true):aY c (Uy c m o n).1:=by
 unfold Uy at*;rcases AG4 (Gu c m)with hm|hm
 rotate_left
 ·rw[hm]at h;cases h
 rw[hm]at h⊢;simp only[AIQ,AIB,AJU]at h⊢;split at h
 ·rename_i hq
  rw[AG5 hq];have UL:=Iw.1 hm;rw[AHN,BN,BN]at hq;refine⟨UL.cfg,UL.ep,UL.b,UL.sld,UL.o0,UL.seen,fun l hl=> ?_,by simp only[AKr];exact UL.n⟩;rcases AJJ hl with hl|rfl
  ·exact UL.wrote l hl
  ·exact Kl (UL.wrote _ (BA (by omega))) (by omega)
 ·cases h
abbrev sQ(x:ADY)(y:List Int×(List AK)×List AAg×Unit):A4:=(x.1.1,x.1.2.1,y.1,y.2.1,x.1.2.2.2.2.1,y.2.2.1,())
theorem ak{z1 z2:Int}{z3:Bool}{x3:AAg}{x4:List AK}{x5:List AAg}:∀(n k:Nat) (i hh:Int) (m:A4),Bd code i→k≤9→9-k<n→aY c m→
  OK code (fun x y=>aY c (sQ x y)) (Ar n k code i hh c.1 c.2.1 z1 z2 z3 x3 x4 x5 m.1 m.2.1 m.2.2.2.2.1 m.2.2.1 m.2.2.2.1 m.2.2.2.2.2.1):=by
 have Vm:=(DS oO).2.1;intro n
 induction n with
 |zero=>intro k i hh m _ _ h;omega
 |succ n ih=>
  intro k i hh m hi hk hn hm;have hmw:=hm.w;have AJV:=(Ki (m:=m) (by omega)).2.2.1;simp only[Ar,IY];refine OK.bind (BC hc hi (by omega)) fun x i1 h1 y HQ hq=> ?_
  dsimp only at*;refine OK.Kz (fun Dl=> ?_) (fun _=>OK.some HQ hm);rw[AG (x:=(k:Int)+1) (by omega) (by omega),show((k:Int)+1)=((k+1:Nat):Int)by omega];refine OK.pure GN ?_
  dsimp only;refine OK.bind (BC hc HQ (by omega)) fun x2 i2 h2 y2 FE fS=> ?_
  dsimp only at*;refine OK.bind (BC hc FE (by omega)) fun x3 i3 h3 y3 G3 Nl=> ?_
  dsimp only at*;rw[show(c.1,c.2.1,())=c from rfl,show(m.1,m.2.1,m.2.2.1,m.2.2.2.1,m.2.2.2.2.1,m.2.2.2.2.2.1,())=m from rfl];refine OK.pure (VG (by omega) (by omega) hm.tA) ?_
  dsimp only[jb];exact OK.cond (fun hb=>ih (k+1) _ _ _ G3 (by omega) (by omega) (lI hc oO hb)) (fun _=>ih (k+1) _ _ m G3 (by omega) (by omega) hm)
theorem mI{T:Int}(hT:T≤100){z1 z2:Int}{z3:Bool}{x3:AAg}{x4:List AK}{x5:List AAg}:∀(n k:Nat) (i hh:Int) (m:A4),Bd code i→(k:Int)≤max T 0→(T-k).toNat+20≤n→aY c m→
  OK code (fun x y=>aY c (sQ x y)) (BL n T k code i hh c.1 c.2.1 z1 z2 z3 x3 x4 x5 m.1 m.2.1 m.2.2.2.2.1 m.2.2.1 m.2.2.2.1 m.2.2.2.2.2.1):=by
 have Vm:=(DS oO).2.1;intro n
 induction n with
 |zero=>intro k i hh m _ _ h;omega
 |succ n ih=>
  intro k i hh m hi hk hn hm;have hmw:=hm.w;have AJV:=Ki (m:=m) (by omega);have hsl:=FR hm.sld;simp only[BL,Ip];rw[show(c.1,c.2.1,())=c from rfl,show(m.1,m.2.1,m.2.2.1,m.2.2.2.1,m.2.2.2.2.1,m.2.2.2.2.2.1,())=m from rfl];refine OK.Kz (fun Dl=> ?_) (fun _=> ?_)
  ·rw[AG (x:=(k:Int)+1) (by omega) (by omega),show((k:Int)+1)=((k+1:Nat):Int)by omega]
   refine OK.bind (BC hc hi (by omega)) fun x i1 h1 y HQ hq=> ?_
   dsimp only at*;refine OK.bind (fF hc HQ) fun x2 i2 h2 y2 FE fS=> ?_
   dsimp only at*;obtain⟨q1,q2,q3,q4,q5⟩:=fS;have sq:=ZM hc (s:=(y2.1,y2.2.1,x2.1.2.2.1,())) q1 (by show y2.1.length≤_;omega) (by show y2.2.1.length≤_;omega) q4 q5;refine OK.pure (T7 (s:=(y2.1,y2.2.1,x2.1.2.2.1,())) (by omega) q1) ?_
   dsimp only;have hes:(JH (y2.1,y2.2.1,x2.1.2.2.1,()) m.2.1).length≤300∧YY (JH (y2.1,y2.2.1,x2.1.2.2.1,()) m.2.1)∧AW Ac (JH (y2.1,y2.2.1,x2.1.2.2.1,()) m.2.1)≤40000:=by
    unfold JH;split
    ·refine⟨AJe (AJl _ _) q2,fun e he=>q1.1 e (ALz.1 he).1,AJe Z0 ?_⟩
     have h2:=sq.2;unfold Ao at h2;dsimp only at h2⊢;omega
    ·exact⟨by simp,fun e he=>(by simp at he),by simp[AW]⟩
   refine OK.pure (Tp (by omega) (by omega) hm.tA (by omega) hes.2.1 (by omega)) ?_
   dsimp only[jb];exact OK.cond (fun hb=>ih (k+1) _ _ _ FE (by omega) (by omega) (ay hb).2.1) (fun _=>ih (k+1) _ _ m FE (by omega) (by omega) hm)
  ·refine OK.bind (Kj hc hi (by omega)) fun x i1 h1 y HQ hq=> ?_
   dsimp only;refine OK.cond (fun _=>OK.some HQ hm) (fun _=> ?_);obtain⟨l',e,vN⟩:=sX hc oO (l:=[]) (by simp) (m:=m) (by omega);refine OK.pure e ?_
   dsimp only;refine OK.pure (Tk (by omega) (by omega) hm.tA (by omega)) ?_
   dsimp only[jb];exact OK.cond (fun hb=>ak hc oO n 0 i1 h1 _ HQ (by omega) (by omega) (av hb).2.1) (fun _=>ak hc oO n 0 i1 h1 m HQ (by omega) (by omega) hm)
theorem kN{i hh:Int}(hi:Bd code i):OK code (fun x y=>aY c (sQ x y)) (IE c code i hh):=by
 unfold IE I6;refine OK.bind (BC hc hi (by omega)) fun x i1 h1 y HQ hq=> ?_
 dsimp only at*;rw[AG (by omega) (by omega)];unfold I2;simp only[AL];refine OK.bind (BC hc HQ (by omega)) fun x2 i2 h2 y2 FE fS=> ?_
 dsimp only at*;exact mI hc oO (T:=x2.1) (by omega) Aa 0 i2 h2 (4,1+x.1,[],[],false,[],()) FE (by omega) (AL0 (Ab (by omega))) ⟨oO,by show 1≤1+x.1∧1+x.1≤30;omega,by show 1+x.1+1≤4∧(4:Int)≤30;omega,Sm oO,List.Pairwise.nil,fun e he=>(by cases he),fun l hl=>(by cases hl),rfl⟩
abbrev AIM:AFz×Unit→List Int×(List AK)×List AAg×Unit→Prop:=fun x y=>CJ (sQ x y)≤20000∧YY y.2.1
theorem mC{i hh:Int}(hi:Bd code i):OK code AIM (Ox c code i hh):=by
 have Vm:=(DS oO).2.1;unfold Ox;rw[show(c.1,c.2.1,())=c from rfl];refine OK.bind (kN hc oO hi) fun x i1 h1 y HQ hq=> ?_
 dsimp only at*;have hw:=hq.w;have he:YY y.2.1:=hq.tA;have hu:CJ (sQ x y)=y.1.length+AW Ac y.2.1+AW C6 y.2.2.1:=rfl;have hl1:=AU (f:=C6) (l:=y.2.2.1);have rN:=AU (f:=Ac) (l:=y.2.1);have mk:∀{x':ADY} {a:AAg} {b:List AK} {d:List AAg},a.length+AW Ac b+AW C6 d≤20000→YY b→AIM x' (a,b,d,()):=fun h1 h2=>⟨h1,h2⟩
 refine OK.bind (BC hc HQ (by omega)) fun x2 i2 h2 y2 FE fS=> ?_
 dsimp only at*;refine OK.DB (fun _=> ?_) (fun _=> ?_)
 ·refine OK.bind (Lr hc FE (by simp) (by simp)) fun x3 i3 h3 y3 G3 Nl=> ?_
  exact OK.some G3 (mk (by omega) he)
 refine OK.DB (fun _=>OK.some FE (mk (by omega) he)) (fun _=> ?_);refine OK.DB (fun _=> ?_) (fun _=> ?_)
 ·refine OK.bind (Mn hc (by omega) FE) fun x3 i3 h3 y3 G3 Nl=> ?_
  dsimp only;refine OK.ite (by rw[Ax];omega) ?_
  refine OK.some G3 (mk ?_ he);rw[Ih];have:C6 y3.1=y3.1.length:=rfl;simp only[AW];omega
 refine OK.DB (fun _=> ?_) (fun _=> ?_)
 ·refine OK.bind (Xv hc FE) fun x3 i3 h3 y3 G3 Nl=> ?_
  dsimp only;refine OK.ite (by rw[Ax];omega) ?_
  refine OK.some G3 (mk ?_ (fun e he' => ?_))
  ·rw[Ih]
   have:Ac (x3.1.1,x3.1.2.1,x3.1.2.2.1,x3.1.2.2.2.1,())=x3.1.2.2.2.1.length:=rfl;simp only[AW];have:=Nl.2;omega
  ·rcases AIf.1 he' with he'|he'
   ·exact he e he'
   ·rw[AI8.1 he'];exact Nl.1
 refine OK.DB (fun _=> ?_) (fun _=>OK.some FE (mk (by omega) he));refine OK.bind (Mn hc (by omega) FE) fun x3 i3 h3 y3 G3 Nl=> ?_
 dsimp only at*;exact OK.some G3 (mk (by omega) he)
end
end Go.M
end
section
set_option maxRecDepth 8000
namespace Go.M
open Go.M.H (AK AO A4 Au AA CR AN BE AQ Ah Bb BQ Bz Ao CJ AW AU AZ Ac Bt A_ Aw BG EL Bh Cg C6)
abbrev AIY:ADj→((List Bb)×Unit)→Prop:=fun x y=>y.1.length≤130∧ ∀e∈y.1,Bh e≤40∧Cc e.2.1
section
variable{code:AAg} (hc:code.length≤2^30)
include hc
theorem o9{z1 z2 e o:Int}{x3:List Bb}:∀(n k:Nat) (i hh:Int) (b:List Bb),Bd code i→k≤4→4-k<n→b.length≤k→(∀e∈b,Bh e≤40∧Cc e.2.1)→
  OK code AIY (El n k code i hh z1 z2 x3 e o b):=by
 intro n
 induction n with
 |zero=>intro k i hh b _ _ h;omega
 |succ n ih=>
  intro k i hh b hi hk hn hb lO;simp only[El,LN];refine OK.bind (BC hc hi (by omega)) fun x i1 h1 y HQ hq=> ?_
  dsimp only at*;have base:b.length≤130∧ ∀e∈b,Bh e≤40∧Cc e.2.1:=⟨by omega,lO⟩;refine OK.Kz (fun Dl=> ?_) (fun _=> ?_)
  ·refine OK.bind (BC hc HQ (by omega)) fun x2 i2 h2 y2 FE fS=> ?_
   dsimp only at*;refine OK.bind (KZ hc FE) fun x3 i3 h3 y3 G3 Nl=> ?_
   dsimp only;refine OK.ite (by rw[Ax];omega) ?_
   rw[AG (x:=(k:Int)+1) (by omega) (by omega),show((k:Int)+1)=((k+1:Nat):Int)by omega];refine ih (k+1) _ _ _ G3 (by omega) (by omega) (by simp;omega) (fun e he=> ?_);rcases AIf.1 he with he|he
   ·exact lO e he
   ·rw[AI8.1 he];exact⟨by show 0≤40;omega,Nl⟩
  ·refine OK.bind (BC hc HQ (by omega)) fun x2 i2 h2 y2 FE fS=> ?_
   dsimp only at*;refine OK.DB (fun _=> ?_) (fun _=> ?_)
   ·refine OK.bind (Lr hc FE (by simp) (by simp)) fun x3 i3 h3 y3 G3 Nl=> ?_
    exact OK.some G3 base
   refine OK.DB (fun _=> ?_) (fun _=> ?_)
   ·refine OK.bind (Lr hc FE (by simp) (by simp)) fun x3 i3 h3 y3 G3 Nl=> ?_
    exact OK.some G3 base
   refine OK.DB (fun _=> ?_) (fun _=>OK.some FE base);refine OK.bind (BC hc FE (by omega)) fun x3 i3 h3 y3 G3 Nl=> ?_
   dsimp only at*;rw[AG (by omega) (by omega)];refine OK.ite (by rw[Ax];omega) ?_
   refine OK.some G3 ⟨by show(List.replicate _ _).length≤130;rw[AK9];omega,fun e he=> ?_⟩;rw[(List.mem_replicate.1 he).2];exact⟨by show 0≤40;omega,La (by show-1000≤(0:Int)∧(0:Int)≤1000;omega)⟩
theorem mc{i hh:Int}(hi:Bd code i):OK code AIY (Ga code i hh):=by
 unfold Ga LH;refine OK.bind (BC hc hi (by omega)) fun x i1 h1 y HQ hq=> ?_
 dsimp only at*;refine OK.bind (BC hc HQ (by omega)) fun x2 i2 h2 y2 FE fS=> ?_
 exact o9 hc Aa 0 _ _ [] FE (by omega) (Ab (by omega)) (by simp) (fun e he=>by simp at he)
theorem qA{c:Bw}(Vm:c.1.length≤2^10){i hh:Int}(hi:Bd code i):OK code (fun(x:AFR) (y:(List BE)×Unit)=>AW A_ y.1≤4000) (J0 c code i hh):=by
 obtain⟨w',i1,h1,e,hw,HQ⟩:=pS hc (c:=c) (by omega) (h:=hh) hi;exact⟨_,i1,h1,_,e,HQ,hw⟩
theorem lr{i hh:Int}(hi:Bd code i):OK code (fun(x:ACj) (y:AAg×Unit)=>y.1.length≤9) (MT code i hh):=by
 obtain⟨l,c',i1,h1,e,hl,HQ⟩:=pf hc (h:=hh) hi;exact⟨_,i1,h1,(l,()),e,HQ,hl⟩
abbrev tC(x:AD1)(y:List Int×(List AO)×List Int×(List CR)×(List AQ)×(List A4)×(List Ah)×(List Au)×Unit):AA:=
 (y.1,x.1.2.1,y.2.1,y.2.2.1,y.2.2.2.1,x.1.2.2.2.2.2.1,y.2.2.2.2.1,y.2.2.2.2.2.1,y.2.2.2.2.2.2.1,y.2.2.2.2.2.2.2.1,x.1.2.2.2.2.2.2.2.2.2.2.1,())
def ABu(w:AA):Prop:=(gY w∧Ry w)∧Cg w≤730000∧AW BG w.2.2.2.2.2.2.2.2.1≤50000
omit hc in
theorem zp{c:AAg}{m tr:Int}{st:List AO}{lo:AAg}{er:List CR}{wr:List AQ}{md:List A4}{rd:List Ah}{se:List Au}{to:Bool}
  (h1:c.length≤100) (h2:AW Ao st≤200000) (h3:lo.length≤5000) (h4:AW Bt er≤300000) (h5:AW Aw wr≤50000) (h6:AW CJ md≤100000) (h7:AW BG rd≤50000) (h8:AW EL se≤20000)
  (k1:∀s∈st,iX s) (k2:Cc tr) (k3:∀m∈md,YY m.2.2.2.1) (k4:∀s∈se,Cc s.1) (k5:∀r∈rd,∀e∈r.2.2.1,Cc e.2.1):ABu (c,m,st,lo,er,tr,wr,md,rd,se,to,()):=
 ⟨⟨⟨by unfold Cg;dsimp only;omega,k1,k2,k3,k4⟩,k5⟩,by unfold Cg;dsimp only;omega,h7⟩
theorem jM{i hh:Int}(hi:Bd code i){p:AAg}(hp:p.length≤2^30):OK code (fun x y=>ABu (tC x y)) (Fc p code i hh):=by
 unfold Fc;dsimp only;have rI:∃T,O8 p 40 90=some ((T,()),())∧0≤T∧T≤500:=by
  unfold O8;dsimp only;have hd:(p.length:Int).tdiv 4=(p.length:Int)/4:=AJb (by omega);rw[hd,AG (x:=(p.length:Int)/4) (by omega) (by omega),AG (by omega) (by omega),AB];split
  ·exact⟨90,rfl,by omega⟩
  ·exact⟨_,rfl,by omega⟩
 obtain⟨T,hT,hT2⟩:=rI;refine OK.pure hT ?_
 dsimp only;refine OK.bind (lj hc hT2 hi) fun x i1 h1 y HQ hq=> ?_
 dsimp only;obtain⟨hw,hr,hv⟩:=hq
 generalize eZ:Wv x y=w at hw hr hv
 have k:=hw.nums;have e0:y.2.2.2.2.2.2.2.2.2.1=w.1:=by rw[←eZ];rfl
 have e1:y.2.2.2.2.2.2.2.2.2.2.1=w.2.2.1:=by rw[←eZ];rfl
 have e2:y.2.2.2.2.2.2.2.2.2.2.2.1=w.2.2.2.1:=by rw[←eZ];rfl
 have e3:y.2.2.2.2.2.2.2.2.2.2.2.2.1=w.2.2.2.2.1:=by rw[←eZ];rfl
 have e4:y.2.2.2.2.2.2.2.2.2.2.2.2.2.1=w.2.2.2.2.2.2.1:=by rw[←eZ];rfl
 have e5:y.2.2.2.2.2.2.2.2.2.2.2.2.2.2.1=w.2.2.2.2.2.2.2.1:=by rw[←eZ];rfl
 have e6:y.2.2.2.2.2.2.2.2.2.2.2.2.2.2.2.1=w.2.2.2.2.2.2.2.2.1:=by rw[←eZ];rfl
 have e7:y.2.2.2.2.2.2.2.2.2.2.2.2.2.2.2.2.1=w.2.2.2.2.2.2.2.2.2.1:=by rw[←eZ];rfl
 have e8:x.1.2.2.1.2.1=w.2.1:=by rw[←eZ];rfl
 have e9:x.1.2.2.1.2.2.2.2.2.1=w.2.2.2.2.2.1:=by rw[←eZ];rfl
 have e10:x.1.2.2.1.2.2.2.2.2.2.2.2.2.2.1=w.2.2.2.2.2.2.2.2.2.2.1:=by rw[←eZ];rfl
 rw[e0,e1,e2,e3,e4,e5,e6,e7,e8,e9,e10];have Xc:=hw.win hr;have k1:=k.c;have k2:=k.ws;have k3:=k.lost;have k4:=k.era;have k5:=k.ww;have k9:=k.st;have k10:=k.rd;have k6:AW CJ w.2.2.2.2.2.2.2.1≤5001:=by
  have:=Di (f:=CJ) (B:=5000) hw.lR fun x hx=>(hw.BS x hx).1.w
  exact this
 have k7:AW BG w.2.2.2.2.2.2.2.2.1≤10002:=by
  have:=Di (f:=BG) (B:=5000) (N:=2) (l:=w.Ae) (by rw[hw.dz];omega) fun r hx=>by
   have:=Di (f:=Bh) (B:=40) (hw.Ae r hx).n (hr r hx);unfold BG;omega
  exact this
 have k8:AW EL w.2.2.2.2.2.2.2.2.2.1≤4920:=by
  have:=Di (f:=EL) (B:=40) hw.MG fun s hs=>(hw.BM s hs).2.2
  exact this
 have j1:=Xc.Ag;have j2:=Xc.trim;have j3:=Xc.BS;have j4:=Xc.ld;have uA:=(DS hw.cfg).1;have ANM:1≤w.1.length:=uA;refine OK.bind (BC hc HQ (by omega)) fun x2 i2 h2 y2 FE fS=> ?_
 dsimp only at*;have base:∀{to:Bool},ABu (w.1,w.2.1,w.2.2.1,w.2.2.2.1,w.2.2.2.2.1,w.2.2.2.2.2.1,w.2.2.2.2.2.2.1,w.2.2.2.2.2.2.2.1,w.2.2.2.2.2.2.2.2.1,w.2.2.2.2.2.2.2.2.2.1,to,()):=zp (by omega) (by omega) (by omega) (by omega) (by omega) (by omega) (by omega) (by omega) j1 j2 j3 j4 hv;refine OK.DB (fun _=> ?_) (fun _=> ?_)
 ·refine OK.bind (Mn hc (c:=(w.1,w.2.1,())) (by show w.1.length≤_;omega) FE) fun x3 i3 h3 y3 G3 Nl=> ?_
  dsimp only at*;refine OK.some G3 ?_
  dsimp only[tC];exact zp (by omega) (by omega) (by omega) (by omega) (by omega) (by omega) (by omega) (by omega) j1 j2 j3 j4 hv
 refine OK.DB (fun _=> ?_) (fun _=> ?_)
 ·refine OK.bind (pX hc FE) fun x3 i3 h3 y3 G3 Nl=> ?_
  dsimp only at*;refine OK.ite (by omega) ?_
  have:=UD (f:=Ao) (x:=(y3.1,y3.2.1,x3.1.2.2.1,())) (l:=w.2.2.1) (i:=0);refine OK.some G3 ?_
  dsimp only[tC];refine zp (by omega) (by omega) (by omega) (by omega) (by omega) (by omega) (by omega) (by omega) (fun s hs=> ?_) j2 j3 j4 hv;rcases AJJ hs with hs|rfl
  ·exact j1 s hs
  ·exact Nl.1
 refine OK.DB (fun _=> ?_) (fun _=> ?_)
 ·refine OK.bind (mu hc (c:=(w.1,w.2.1,())) (by show w.1.length≤_;omega) FE) fun x3 i3 h3 y3 G3 Nl=> ?_
  dsimp only at*;refine OK.some G3 ?_
  dsimp only[tC];exact zp (by omega) (by omega) (by omega) Nl.1 (by omega) (by omega) (by omega) (by omega) j1 Nl.2 j3 j4 hv
 refine OK.DB (fun _=> ?_) (fun _=> ?_)
 ·refine OK.bind (qA hc (c:=(w.1,w.2.1,())) (by show w.1.length≤_;omega) FE) fun x3 i3 h3 y3 G3 Nl=> ?_
  dsimp only at*;have hk:=k.wr;refine OK.ite (by rw[Ax];omega) ?_
  refine OK.some G3 ?_
  dsimp only[tC];refine zp (by omega) (by omega) (by omega) (by omega) ?_ (by omega) (by omega) (by omega) j1 j2 j3 j4 hv
  rw[Ih];have:Aw (x3.1.1,y3.1,())=AW A_ y3.1:=rfl;simp only[AW];omega
 refine OK.DB (fun _=> ?_) (fun _=> ?_)
 ·refine OK.bind (mC hc (c:=(w.1,w.2.1,())) hw.cfg FE) fun x3 i3 h3 y3 G3 Nl=> ?_
  dsimp only at*;have hk:=k.md;refine OK.ite (by rw[Ax];omega) ?_
  refine OK.some G3 ?_
  dsimp only[tC];refine zp (by omega) (by omega) (by omega) (by omega) (by omega) ?_ (by omega) (by omega) j1 j2 (fun m hm=> ?_) j4 hv
  ·rw[Ih]
   have h8:CJ (x3.1.1,x3.1.2.1,y3.1,y3.2.1,x3.1.2.2.2.2.1,y3.2.2.1,())≤20000:=Nl.1;simp only[AW];omega
  ·rcases AIf.1 hm with hm|hm
   ·exact j3 m hm
   ·rw[AI8.1 hm];exact Nl.2
 refine OK.DB (fun _=> ?_) (fun _=> ?_)
 ·refine OK.bind (mc hc FE) fun x3 i3 h3 y3 G3 Nl=> ?_
  dsimp only at*;refine OK.ite (by omega) ?_
  have:=UD (f:=BG) (x:=(x3.1.1,x3.1.2.1,y3.1,())) (l:=w.2.2.2.2.2.2.2.2.1) (i:=0);have h9:=Di (f:=Bh) (B:=40) Nl.1 (fun e he=>(Nl.2 e he).1);have:BG (x3.1.1,x3.1.2.1,y3.1,())=AW Bh y3.1:=rfl;refine OK.some G3 ?_
  dsimp only[tC];refine zp (by omega) (by omega) (by omega) (by omega) (by omega) (by omega) (by omega) (by omega) j1 j2 j3 j4 (fun r tD=> ?_);rcases AJJ tD with tD|rfl
  ·exact hv r tD
  ·exact fun e he=>(Nl.2 e he).2
 refine OK.DB (fun _=> ?_) (fun _=> ?_)
 ·refine OK.bind (KZ hc FE) fun x3 i3 h3 y3 G3 Nl=> ?_
  dsimp only at*;have hk:=k.se;refine OK.ite (by rw[Ax];omega) ?_
  refine OK.some G3 ?_
  dsimp only[tC];refine zp (by omega) (by omega) (by omega) (by omega) (by omega) (by omega) (by omega) ?_ j1 j2 j3 (fun s hs=> ?_) hv
  ·rw[Ih]
   have:EL (x3.1,[],false,())=0:=rfl;simp only[AW];omega
  ·rcases AIf.1 hs with hs|hs
   ·exact j4 s hs
   ·rw[AI8.1 hs];exact Nl
 refine OK.DB (fun _=>OK.some FE base) (fun _=> ?_);refine OK.DB (fun _=> ?_) (fun _=>OK.some FE base);refine OK.bind (lr hc FE) fun x3 i3 h3 y3 G3 Nl=> ?_
 dsimp only at*;refine OK.some G3 ?_
 dsimp only[tC];exact zp (by omega) (by omega) (by omega) (by omega) (by omega) (by omega) (by omega) (by omega) j1 j2 j3 j4 hv
theorem XD{w:AA}(h1:w.2.2.2.2.2.2.2.2.2.1.length≤2^20)(h2:∀s∈w.2.2.2.2.2.2.2.2.2.1,Cc s.1){i hh:Int}(hi:Bd code i):OK code (fun(x:ABD) (_:Unit)=>Cc x.1) (HT w code i hh):=by
 unfold HT;refine OK.Kz (fun Dl=> ?_) (fun _=> ?_)
 ·refine OK.bind (Kj hc hi (by omega)) fun x i1 p_ y HQ hq=> ?_
  dsimp only;refine OK.cond (fun _=> ?_) (fun _=> ?_)
  ·refine OK.bind (BC hc HQ (by omega)) fun x2 i2 yM y2 FE fS=> ?_
   dsimp only at*;refine OK.ite (by omega) ?_
   exact OK.some FE (h2 _ (BA (d:=E5) (by omega)))
  ·refine OK.bind (KZ hc HQ) fun x3 i3 h3 y3 G3 Nl=> ?_
   exact OK.some G3 Nl
 ·refine OK.bind (KZ hc hi) fun x3 i3 h3 y3 G3 Nl=> ?_
  exact OK.some G3 Nl
def pkw(w:AA):H8:=((((),w.2.1,(),(),(),w.2.2.2.2.2.1,(),(),(),(),w.2.2.2.2.2.2.2.2.2.2.1,()),()),(w.1,w.2.2.1,w.2.2.2.1,w.2.2.2.2.1,w.2.2.2.2.2.2.1,w.2.2.2.2.2.2.2.1,w.2.2.2.2.2.2.2.2.1,w.2.2.2.2.2.2.2.2.2.1,()))
def Wo(o:Option H8):Prop:= ∃w,o=some (pkw w)∧gY w∧Ry w
omit hc in
theorem Wo.bind{X Y:Type}{Q:X→Y→Prop}{o:Option (X×(ABP×Y))}{f:X×(ABP×Y)→Option H8}
  (ho:OK code Q o) (hf:∀x i h y,Bd code i→Q x y→Wo (f (x,((code,i,h,()),y)))):Wo (o.bind f):=by
 obtain⟨x,i,h,y,e,hi,hq⟩:=ho;rw[e];exact hf x i h y hi hq
omit hc in
theorem Wo.ite{p:Prop}[Decidable p]{x y:Option H8}(hp:p)(h1:Wo x):Wo (if p then x else y):=by
 rw[AG5 hp];exact h1
omit hc in
theorem Wo.DB{a b:Int}{x y:Option H8}(h1:a=b→Wo x)(h2:a≠b→Wo y):Wo (_root_.cond (a==b) x y):=by
 rw[FT];by_cases hp:a=b
 ·rw[AG5 hp];exact h1 hp
 ·rw[AHA hp];exact h2 hp
theorem mM:Wo (QO code):=by
 unfold QO;dsimp only;obtain⟨h0,e0⟩:=k_ hc;rw[e0];simp only[AL];refine Wo.bind (jM hc (i:=0) (hh:=h0) ⟨by omega,by omega⟩ hc) fun x i1 h1 y HQ hq=> ?_
 dsimp only
 generalize eZ:tC x y=w at hq
 obtain⟨⟨Xc,hvin⟩,hwt,hwr⟩:=hq;have e0:y.1=w.1:=by rw[←eZ]
 have e1:y.2.1=w.2.2.1:=by rw[←eZ]
 have e2:y.2.2.1=w.2.2.2.1:=by rw[←eZ]
 have e3:y.2.2.2.1=w.2.2.2.2.1:=by rw[←eZ]
 have e4:y.2.2.2.2.1=w.2.2.2.2.2.2.1:=by rw[←eZ]
 have e5:y.2.2.2.2.2.1=w.2.2.2.2.2.2.2.1:=by rw[←eZ]
 have e6:y.2.2.2.2.2.2.1=w.2.2.2.2.2.2.2.2.1:=by rw[←eZ]
 have e7:y.2.2.2.2.2.2.2.1=w.2.2.2.2.2.2.2.2.2.1:=by rw[←eZ]
 have e8:x.1.2.1=w.2.1:=by rw[←eZ]
 have e9:x.1.2.2.2.2.2.1=w.2.2.2.2.2.1:=by rw[←eZ]
 have e10:x.1.2.2.2.2.2.2.2.2.2.2.1=w.2.2.2.2.2.2.2.2.2.2.1:=by rw[←eZ]
 rw[e0,e1,e2,e3,e4,e5,e6,e7,e8,e9,e10];rw[show(w.1,w.2.1,w.2.2.1,w.2.2.2.1,w.2.2.2.2.1,w.2.2.2.2.2.1,w.2.2.2.2.2.2.1,w.2.2.2.2.2.2.2.1,w.2.2.2.2.2.2.2.2.1,w.2.2.2.2.2.2.2.2.2.1,w.2.2.2.2.2.2.2.2.2.2.1,())=w from rfl,Lf Xc];simp only[AL,B9];have stay:Wo (some (pkw w)):=⟨w,rfl,Xc,hvin⟩;rcases AG4 (E7 w)with F6|F6
 rotate_left
 ·rw[F6]
  exact stay
 rw[F6,AIz];have hw:=L9.1 F6;have hrl:w.2.2.2.2.2.2.2.2.1.length=2:=hw.dz;refine Wo.bind (BC hc HQ (by omega)) fun x5 i5 h5 y5 sR hq5=> ?_
 dsimp only at*;refine Wo.ite (by omega) ?_
 have Dl:x5.1.toNat<w.2.2.2.2.2.2.2.2.1.length:=by omega
 generalize hgr:w.2.2.2.2.2.2.2.2.1.getD x5.1.toNat (0,0,[],())=r
 have AHC:w.2.2.2.2.2.2.2.2.1.getD x5.1.toNat EA=r:=hgr;have hrm:BG r≤AW BG w.2.2.2.2.2.2.2.2.1:=by
  rw[←AHC];exact AZ (f:=BG) (BA (d:=EA) Dl)
 have hrw:BG r=AW Bh r.2.2.1:=rfl;have hrn:=AU (f:=Bh) (l:=r.2.2.1);have alt:∀r':Ah,BG r'≤200000→(∀e∈r'.2.2.1,Cc e.2.1)→Wo (some (pkw (w.1,w.2.1,w.2.2.1,w.2.2.2.1,w.2.2.2.2.1,w.2.2.2.2.2.1,w.2.2.2.2.2.2.1,w.2.2.2.2.2.2.2.1,w.2.2.2.2.2.2.2.2.1.set x5.1.toNat r',w.2.2.2.2.2.2.2.2.2.1,w.2.2.2.2.2.2.2.2.2.2.1,()))):=fun r' tD hr2=>by
  refine⟨_,rfl,⟨?_,Xc.Ag,Xc.trim,Xc.BS,Xc.ld⟩,fun q hq=>by
   rcases AJJ hq with hq|rfl
   ·exact hvin q hq
   ·exact hr2⟩
  have:=UD (f:=BG) (x:=r') (l:=w.2.2.2.2.2.2.2.2.1) (i:=x5.1.toNat);unfold Cg at hwt⊢;dsimp only;omega
 have evs:∀(j:Nat) (e:Bb),Bh e≤50001→BG (r.1,r.2.1,r.2.2.1.set j e,())≤200000:=fun j e he=>by
  have:=UD (f:=Bh) (x:=e) (l:=r.2.2.1) (i:=j)
  show AW Bh (r.2.2.1.set j e)≤_
  omega
 have rin:∀e∈r.2.2.1,Cc e.2.1:=by
  rw[←AHC];exact hvin _ (BA (d:=EA) Dl)
 have AEZ:∀(j:Nat) (e:Bb),Cc e.2.1→ ∀x∈r.2.2.1.set j e,Cc x.2.1:=fun j e he x hx=>by
  rcases AJJ hx with hx|rfl
  ·exact rin x hx
  ·exact he
 refine Wo.DB (fun _=>stay) (fun YT=> ?_);refine Wo.bind (BC hc sR (by omega)) fun x7 i7 h7 y7 hi7 hq7=> ?_
 dsimp only at*;have AIk:x7.1.toNat<r.2.2.1.length:=by omega
 have AHG:Cc (r.2.2.1.getD x7.1.toNat (0,0,[],())).2.1:=rin _ (BA AIk);have qG:Bh (r.2.2.1.getD x7.1.toNat (0,0,[],()))≤50000:=by
  have:Bh (r.2.2.1.getD x7.1.toNat (0,0,[],()))≤AW Bh r.2.2.1:=AZ (f:=Bh) (BA AIk);omega
 refine Wo.bind (BC hc hi7 (by omega)) fun x8 i8 h8 y8 hi8 hq8=> ?_
 dsimp only at*;refine Wo.DB (fun _=> ?_) (fun _=> ?_)
 ·refine Wo.ite (by omega) ?_
  refine Wo.bind (BC hc hi8 (by omega)) fun x9 i9 h9 y9 hi9 hq9=> ?_
  dsimp only at*;refine Wo.ite (by omega) ?_
  exact alt _ (evs _ _ (by show Bh (r.2.2.1.getD x7.1.toNat (0,0,[],()))≤_;omega)) (AEZ _ _ AHG)
 refine Wo.DB (fun _=> ?_) (fun _=> ?_)
 ·refine Wo.ite (by omega) ?_
  refine Wo.ite (by omega) ?_
  exact alt _ (evs _ _ (by show 1≤50001;omega)) (AEZ _ _ AHG)
 refine Wo.DB (fun _=> ?_) (fun _=> ?_)
 ·refine Wo.ite (by omega) ?_
  rw[AG (by omega) (by omega)];refine Wo.ite (by omega) ?_
  refine Wo.ite (by omega) ?_
  refine alt _ ?_ (fun e he=>rin e (AMO (AMN he)))
  show AW Bh ((r.2.2.1.drop 0).take _)≤200000
  rw[AJC];have:∀(l:List Bb) (n:Nat),AW Bh (l.take n)≤AW Bh l:=fun l=>by
   induction l with
   |nil=>intro n;simp[AW]
   |cons a l ih=>
    intro n;cases n with
    |zero=>simp[AW]
    |succ n=>have:=ih n;simp only[List.take_succ_cons,AW];omega
  have:=this r.2.2.1 (((r.2.2.1.length:Int)-1).toNat-0);omega
 refine Wo.DB (fun _=> ?_) (fun _=>stay);refine Wo.ite (by omega) ?_
 refine Wo.bind (XD hc (w:=w) (by have:=hw.MG;show w.BM.length≤_;omega) Xc.ld hi8) fun x9 i9 h9 y9 hi9 hq9=> ?_
 dsimp only at*;refine Wo.ite (by omega) ?_
 exact alt _ (evs _ _ (by show Bh (r.2.2.1.getD x7.1.toNat (0,0,[],()))≤_;omega)) (AEZ _ _ hq9)
end
end Go.M
end
section
set_option maxRecDepth 8000
namespace Go.M
open Go.M.H (AK AO A4 Au AA CR AN BE AQ Ah Bb BQ Bz Ao CJ AW AU AZ Ac Bt A_ Aw BG EL Bh Cg C6)
theorem gD{w:AA}(h:gY w)(p:Int):U2 w p=some ((((dt p (O3 w)).1,(dt p (O3 w)).2,()),()),()):=by
 unfold U2 UE;rw[show(w.1,w.2.1,w.2.2.1,w.2.2.2.1,w.2.2.2.2.1,w.2.2.2.2.2.1,w.2.2.2.2.2.2.1,w.2.2.2.2.2.2.2.1,w.2.2.2.2.2.2.2.2.1,w.2.2.2.2.2.2.2.2.2.1,w.2.2.2.2.2.2.2.2.2.2.1,())=w from rfl,XC h];have k:=aH h;have:=YS (p:=p) (l:=O3 w) (by omega) Aa 0 (by omega) (Ab (by omega));simpa using this
theorem XH{w:AA}(h:gY w)(p:Int):Qy w p=some ((((dt p (O3 w)).1,(dt p (O3 w)).2,()),()),()):=by
 unfold Qy T_;rw[show(w.1,w.2.1,w.2.2.1,w.2.2.2.1,w.2.2.2.2.1,w.2.2.2.2.2.1,w.2.2.2.2.2.2.1,w.2.2.2.2.2.2.2.1,w.2.2.2.2.2.2.2.2.1,w.2.2.2.2.2.2.2.2.2.1,w.2.2.2.2.2.2.2.2.2.2.1,())=w from rfl,XF h];have k:=aH h;have:=Yd (p:=p) (l:=O3 w) (by omega) Aa 0 (by omega) (Ab (by omega));simpa using this
theorem AEY{l:List Au}(ha:l.Pairwise fun a b=>a.1<b.1):∀{i:Nat} (hi:i<l.length),dt l[i].1 l=(l[i].2.1,true):=by
 induction l with
 |nil=>intro i hi;simp at hi
 |cons s l ih=>
  intro i hi;obtain⟨h1,h2⟩:=AJr.1 ha;cases i with
  |zero=>simp[dt]
  |succ i=>
   have DW:i<l.length:=by simpa using hi
   have:=h1 l[i] (AIu DW);simp only[List.getElem_cons_succ,dt];rw[AJ6.2 (by omega),AHe];exact ih h2 DW
theorem nq{p:Int}:∀{l:List Au},(dt p l).2=true→(l.any fun s=>s.1==p&&s.2.1==(dt p l).1)=true
 |[],h=>by simp[dt]at h
 |s::l,h=>by
  simp only[dt]at h⊢;rcases AG4 (s.1==p)with hp|hp
  ·rw[hp]at h⊢
   simp[hp]
  ·rw[hp]at h⊢
   simp only[AHe]at h⊢;have:=nq h;simp only[List.any_cons,hp,ALT,AKF];exact this
theorem qo{p:Int}:∀{l:List Au},(dt p l).2=false→(dt p l).1=[]∧ ∀s∈l,(s.1==p)=false
 |[],h=>by simp[dt]
 |s::l,h=>by
  simp only[dt]at h⊢;rcases AG4 (s.1==p)with hp|hp
  ·rw[hp]at h
   simp at h
  ·rw[hp]at h⊢
   simp only[AHe]at h⊢;obtain⟨a,b⟩:=qo h;refine⟨a,fun x hx=> ?_⟩;rcases AI5.1 hx with rfl|hx
   ·exact hp
   ·exact b x hx
theorem Yh{x:AAg}(hc:x.length≤2^30):∃w p,gY w∧Ry w∧NY x=some (((((),w.2.1,(),(),(),w.2.2.2.2.2.1,(),(),(),(),w.2.2.2.2.2.2.2.2.2.2.1,()),p,()),()),(w.1,w.2.2.1,w.2.2.2.1,w.2.2.2.2.1,w.2.2.2.2.2.2.1,w.2.2.2.2.2.2.2.1,w.2.2.2.2.2.2.2.2.1,w.2.2.2.2.2.2.2.2.2.1,())):=by
 obtain⟨w,e1,h,qG⟩:=mM hc;obtain⟨h0,e0⟩:=k_ hc;unfold NY;rw[e1,e0];simp only[AHE,pkw];rw[show(w.1,w.2.1,w.2.2.1,w.2.2.2.1,w.2.2.2.2.1,w.2.2.2.2.2.1,w.2.2.2.2.2.2.1,w.2.2.2.2.2.2.2.1,w.2.2.2.2.2.2.2.2.1,w.2.2.2.2.2.2.2.2.2.1,w.2.2.2.2.2.2.2.2.2.2.1,())=w from rfl];have k2:=h.NF;obtain⟨x3,i3,h3,y3,e3,G3,Nl⟩:=XD hc (w:=w) (by omega) h.ld (i:=0) (hh:=h0) ⟨by omega,by omega⟩;rw[e3];exact⟨w,x3.1,h,qG,rfl⟩
theorem mO{x:AAg}(hv:Go.Fw.Vd (.sl (.int .u8)) x):RD x=some ((true,()),()):=by
 unfold RD UA cY;simp only[AHE,AB];by_cases hs:(x.length:Int)>1048576
 ·rw[AG5 hs]
 rw[AHA hs];have hc:x.length≤2^30:=by omega
 obtain⟨w,p,h,qG,e1⟩:=Yh hc;rw[e1];simp only[AHE];rw[show(w.1,w.2.1,w.2.2.1,w.2.2.2.1,w.2.2.2.2.1,w.2.2.2.2.2.1,w.2.2.2.2.2.2.1,w.2.2.2.2.2.2.2.1,w.2.2.2.2.2.2.2.2.1,w.2.2.2.2.2.2.2.2.2.1,w.2.2.2.2.2.2.2.2.2.2.1,())=w from rfl];rw[XF h,XH h,gD h,XC h];simp only[AHE,bne_self_eq_false,AHe];have hlen:=aH h;have AHo:(O3 w).Pairwise fun a b=>a.1<b.1:=by
  unfold O3;rcases AG4 (E7 w)with F6|F6
  ·rw[F6,AIz]
   have:=(L9.1 F6).Vz;exact List.Pairwise.filter _ this
  ·rw[F6];exact List.Pairwise.nil
 have Wn:∀s∈O3 w,s.2.2.1=true∧w.2.2.2.2.2.1<s.1:=by
  intro s hs;unfold O3 at hs;rcases AG4 (E7 w)with F6|F6
  ·rw[F6,AIz]at hs
   have:=(ALz.1 hs).2;simpa[dG]using this
  ·rw[F6]at hs;simp at hs
 have Lq:=fun q=>XH h q
 generalize hl:O3 w=l at*
 generalize hD:dt p l=D
 have key:∀(n i:Nat),i≤l.length→l.length-i<n→
   KE n p D.1 D.2 ((l.take i).any fun s=>s.1==p&&s.2.1==D.1) i w.2.1 w.2.2.2.2.2.1 w.2.2.2.2.2.2.2.2.2.2.1 w.1 w.2.2.1 w.2.2.2.1 w.2.2.2.2.1 w.2.2.2.2.2.2.1 w.2.2.2.2.2.2.2.1 w.2.2.2.2.2.2.2.2.1 w.2.2.2.2.2.2.2.2.2.1 l=some ((true,()),()):=by
  intro n
  induction n with
  |zero=>intro i _ hn;omega
  |succ n ih=>
   intro i hi hn;have ih':=ih (i+1);simp only[KE,SW,AB];by_cases hci:i<l.length
   ·have hb2:(0:Int)≤(i:Int)∧(i:Int)<(l.length:Int):=by omega
    have et:((l.take (i+1)).any fun s=>s.1==p&&s.2.1==D.1)=(((l.take i).any fun s=>s.1==p&&s.2.1==D.1)||(l[i].1==p&&l[i].2.1==D.1)):=by
     rw[ALH hci,List.any_append];simp
    have n1:=ih' (by omega) (by omega);rw[et]at n1;obtain⟨s1,s2⟩:=Wn l[i] (AIu hci);simp only[AG5 hb2];rw[AG5 hb2.2,show(w.1,w.2.1,w.2.2.1,w.2.2.2.1,w.2.2.2.2.1,w.2.2.2.2.2.1,w.2.2.2.2.2.2.1,w.2.2.2.2.2.2.2.1,w.2.2.2.2.2.2.2.2.1,w.2.2.2.2.2.2.2.2.2.1,w.2.2.2.2.2.2.2.2.2.2.1,())=w from rfl,Lq,Ay hci,AEY AHo hci];simp only[AHE,AIQ,AHe,s1,beq_self_eq_true];simp only[AHA (show¬(l[i].1≤w.2.2.2.2.2.1)by omega)];rw[AG (x:=(i:Int)+1) (by omega) (by omega),show((i:Int)+1)=((i+1:Nat):Int)by omega];have AH8:∀X:Option Mt,(if(i:Int)>0 then if(0:Int)≤AX ((i:Int)-1)∧AX ((i:Int)-1)<(l.length:Int)then(if((l.getD ((AX ((i:Int)-1)).toNat) (0,[],false,())).1)≥l[i].1 then some ((false,()),())else X)else none else X)=X:=by
     intro X;by_cases hz:(i:Int)>0
     ·rw[AG5 hz,AG (by omega) (by omega),AG5 (by omega),show((i:Int)-1)=((i-1:Nat):Int)by omega,Ay (show i-1<l.length by omega),AHA]
      have:=ALx.1 AHo (i-1) i (by omega) hci (by omega);omega
     ·rw[AHA hz]
    simp only[AH8];cases hfo:(l.take i).any fun s=>s.1==p&&s.2.1==D.1 with
    |true=>
     rw[hfo]at n1;simpa using n1
    |false=>
     rw[hfo]at n1;simp only[AKF]at n1;simp only[AHe];cases hk:l[i].1==p with
     |true=>rw[hk]at n1;simpa using n1
     |false=>rw[hk]at n1;simpa using n1
   ·have:i=l.length:=by omega
    subst this;rw[AHA (by omega),List.take_length];cases F6:D.2 with
    |true=>
     have:=nq (p:=p) (l:=l) (by rw[hD];exact F6);rw[hD]at this;rw[this];rfl
    |false=>
     obtain⟨a,b⟩:=qo (p:=p) (l:=l) (by rw[hD];exact F6);rw[hD]at a;have:(l.any fun s=>s.1==p&&s.2.1==D.1)=false:=by
      rw[List.any_eq_false];intro s hs;rw[b s hs];simp
     rw[this,a];rfl
 have:=key Aa 0 (by omega) (Ab (by omega));simpa using this
end Go.M
end
section
set_option maxRecDepth 8000
namespace Go.M
open Go.M.H (AK AO A4 Au AA CR AN BE AQ Ah Bb BQ Bz Ao CJ AW AU AZ Ac Bt A_ Aw BG EL Bh Cg C6)
structure AL1 {α:Type} (f:α→Int) (p:Int) (l:List α) (q:Nat):Prop where
 le:q≤l.length
 lt:∀(i:Nat) (h:i<l.length),i<q→f l[i]<p
 ge:∀(i:Nat) (h:i<l.length),q≤i→p≤f l[i]
end Go.M
end
section
set_option maxRecDepth 8000
namespace Go.M
open Go.M.H (AK AO A4 Au AA CR AN BE AQ Ah Bb BQ Bz Ao CJ AW AU AZ Ac Bt A_ Aw BG EL Bh Cg C6)
def vU(w:AA)(a:Int):Nat:=(w.Ae.getD a.toNat EA).2.2.1.length
structure HR (w v:AA) (a m:Int):Prop where
 ok:Nk v
 win:gY v
 stop:(PV v a 255).2≠0
 cnt:0≤m∧m≤120
 len:(vU v a:Int)=vU w a+m
 UJ:vU v (1-a)=vU w (1-a)
end Go.M
end
section
set_option maxRecDepth 8000
namespace Go.M
open Go.M.H (AK AO A4 Au AA CR AN BE AQ Ah Bb BQ Bz Ao CJ AW AU AZ Ac Bt A_ Aw BG EL Bh Cg C6)
def ww(w:AA)(SS:List AO)(ws:List AQ)(ms:List A4)(se:List Au):AA:=(((w.A5 SS).Af ws).BO se).BI ms
section
variable{w:AA} (h:Nk w) {st:AO} {SS:List AO} {n:Int} (hs:Vf st) (hn:0≤n∧n<(AY w).1.length) (hnS:n<(SS.length:Int)) (gq:SS.getD n.toNat Ce=st)
include h hs hn hnS gq
end
section
variable{w:AA} (h:Nk w)
include h
end
end Go.M
end
section
set_option maxRecDepth 8000
namespace Go.M
open Go.M.H (AK AO A4 Au AA CR AN BE AQ Ah Bb BQ Bz Ao CJ AW AU AZ Ac Bt A_ Aw BG EL Bh Cg C6)
def bare(se:List Au):List (Int×List UInt8):=se.map fun s=>(s.1,s.2.1)
section
variable{w:AA} {se:List Au}
end
theorem rM{l m:List Au}(h:bare l=bare m):l.length=m.length:=by
 have:=congrArg List.length h;simpa[bare]using this
section
variable{w:AA}
end
theorem si{l m:List Au}(h:bare l=bare m){s:Au}(hs:s∈l):∃t∈m,t.1=s.1∧t.2.1=s.2.1:=by
 have h1:(s.1,s.2.1)∈bare m:=by rw[←h];exact ALc.2 ⟨s,hs,rfl⟩
 obtain⟨t,ht,e⟩:=ALc.1 h1;simp only[AJH]at e;exact⟨t,ht,e.1,e.2⟩
theorem r9{l m:List Au}(h:bare l=bare m)(ha:TK (fun s:Au=>s.1) l):TK (fun s:Au=>s.1) m:=by
 have e:∀l:List Au,TK (fun s:Au=>s.1) l↔(bare l).Pairwise fun x y=>x.1<y.1:=fun l=>by
  unfold bare TK;rw[AMC]
 rw[e]at ha⊢
 rwa [←h]
theorem Nk.BO{w:AA}{se:List Au}(hw:Nk w)(h:bare se=bare w.BM):Nk (w.BO se) where
 cfg:=hw.cfg
 fU:=hw.fU
 lost:=hw.lost
 EG:=hw.EG
 Ag:=hw.Ag
 fV:=hw.fV
 hE:=hw.hE
 lR:=hw.lR
 AM:=hw.AM
 W7:=hw.W7
 BS:=hw.BS
 dz:=hw.dz
 Ae:=hw.Ae
 MG:=by
  have:=hw.MG;rw[←rM h]at this;exact this
 BM:=fun s hs=>by
  obtain⟨t,ht,e1,e2⟩:=si h (show s∈se from hs);have:=hw.BM t ht;rw[e1,e2]at this;exact this
 Vz:=r9 h.symm hw.Vz
end Go.M
end
section
set_option maxRecDepth 8000
namespace Go.M
open Go.M.H (AK AO A4 Au AA CR AN BE AQ Ah Bb BQ Bz Ao CJ AW AU AZ Ac Bt A_ Aw BG EL Bh Cg C6)
structure Up (w v:AA):Prop where
 rd:∀k,k<2→OD (w.Ae.getD k EA).1 (w.Ae.getD k EA).2.1≤OD (v.Ae.getD k EA).1 (v.Ae.getD k EA).2.1∧(w.Ae.getD k EA).2.2.1.length≤(v.Ae.getD k EA).2.2.1.length
 er:w.A3.length≤v.A3.length∧ ∀i,i<w.A3.length→(w.A3.getD i Dg).2.1=true→(v.A3.getD i Dg).2.1=true∧(v.A3.getD i Dg).2.2.1=(w.A3.getD i Dg).2.2.1
 EG:w.EG=true→v.EG=true
 se:w.BM.length≤v.BM.length
theorem Up.of{w v:AA}(h1:v.Ae=w.Ae)(h2:v.A3=w.A3)(h3:w.EG=true→v.EG=true)(h4:w.BM.length≤v.BM.length):Up w v:=
 ⟨fun k _=>by rw[h1];exact⟨Int.le_refl _,AJI _⟩,by rw[h2];exact⟨AJI _,fun _ _ h=>⟨h,rfl⟩⟩,h3,h4⟩
section
variable{w:AA} (hw:Nk w)
end
end Go.M
end
