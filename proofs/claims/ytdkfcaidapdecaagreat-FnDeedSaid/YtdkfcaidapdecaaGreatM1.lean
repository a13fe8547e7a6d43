/- Plain facts on what the functions compute. -/
import Derived.Test.YtdkfcaidapdecaaGreatM0
set_option linter.unusedVariables false
set_option linter.unusedSimpArgs false
set_option linter.unusedSectionVars false
section
namespace Go.M
open Go.M.H (Cj AQ BC AR AW AS AZ Bi Ay Aq uM nz ct)
section
variable{b:AAF} (hb:Bytes b) (hl:b.length≤2^30)
include hb hl
end
theorem uO{o:Int}{l:List BC}{x:Int}{y:List BC}{z:Int}(hl:AW Ay l≤2^30):∀(n i:Nat) (acc:List BC),i≤l.length→l.length-i<n→acc.length=i→
  Jv n i o l x y z acc=some (((z,(),()),()),(acc++l.drop i,()))
 |0,i,_,_,h,_=>by omega
 |n+1,i,acc,hi,h,ha=>by
  have wb:=AS (f:=Ay) (l:=l);simp only[Jv,Su,AB];by_cases hc:i<l.length
  ·have hm:=AZ (f:=Ay) (AM3 hc)
   rw[AME (by omega),AME (by omega),Ah hc,drop_cons hc];simp only[Ay]at hm;rw[AME (by rw[As];omega),AME (by rw[As];omega),AH (by omega) (by omega),show((i:Int)+1)=((i+1:Nat):Int)by omega];rw[uO hl n (i+1) _ (by omega) (by omega) (by simp[ha])];simp only[AOT,AR6,AQU]
  ·rw[AMG (by omega)]
   have:i=l.length:=by omega
   subst this;simp
theorem rf{w:AR}(hl:AW Ay w.2.1≤2^30):EO w=some (((w.1,(),()),()),(w.2.1,())):=by
 have wb:=AS (f:=Ay) (l:=w.2.1);unfold EO Sv;have:=uO (o:=w.1) (l:=w.2.1) (x:=0) (y:=[]) (z:=w.1) hl Ab 0 [] (by omega) (Ae (by omega)) rfl;simpa using this
theorem AB7{l:AAF}{x:Int}(hl:l.length≤2^30):∃r,Cv l x=some ((r,()),()):=by
 have key:∀(n i:Nat),i≤l.length→l.length-i<n→ ∃r,K3 n l x i=some ((r,()),()):=by
  intro n
  induction n with
  |zero=>intro i _ h;omega
  |succ n ih=>
   intro i hi h;simp only[K3,UA,AB];by_cases hc:i<l.length
   ·rw[AME (by omega),AME (by omega),AH (by omega) (by omega),show((i:Int)+1)=((i+1:Nat):Int)by omega]
    cases(l.getD ((i:Int).toNat) 0==x)with
    |true=>exact⟨true,rfl⟩
    |false=>exact ih (i+1) (by omega) (by omega)
   ·rw[AMG (by omega)]
    exact⟨false,rfl⟩
 unfold Cv Tn;have:=key Ab 0 (by omega) (Ae (by omega));simpa using this
theorem nC{l:AAF}{x:Int}(hl:l.length≤2^30):∀(n i:Nat) (t:Bool) (b:AAF),i≤l.length→l.length-i<n→b.length≤i+cond t 1 0→ ∃l',Ho n l x t i b=some (((),()),(l',()))∧l'.length≤l.length+1
 |0,i,_,_,_,h,_=>by omega
 |n+1,i,t,b,hi,h,hbl=>by
  simp only[Ho,PT,AB];have hb2:b.length≤i+1:=by cases t<;>simp at hbl<;>omega
  by_cases hc:i<l.length
  ·have hc2:(0:Int)≤(i:Int)∧(i:Int)<(l.length:Int):=by omega
   have X9:b.length+1≤DF:=by rw[As];omega
   rw[AME hc2.2,AH (by omega) (by omega),show((i:Int)+1)=((i+1:Nat):Int)by omega];simp only[AME hc2,AME X9];cases t with
   |true=>
    simp only[AMc,AMW];exact nC hl n (i+1) true _ (by omega) (by omega) (by simp at hbl⊢;omega)
   |false=>
    simp only[ARb,AOK];simp at hbl;by_cases hg:l.getD ((i:Int).toNat) 0>x
    ·rw[AME hg,AME (by rw[As];simp;omega)]
     exact nC hl n (i+1) true _ (by omega) (by omega) (by simp;omega)
    ·rw[AMG hg]
     exact nC hl n (i+1) false _ (by omega) (by omega) (by simp;omega)
  ·rw[AMG (by omega),AME (by rw[As];omega)]
   cases t with
   |true=>exact⟨b,rfl,by omega⟩
   |false=>exact⟨_,rfl,by simp at hbl⊢;omega⟩
theorem AEL{l:AAF}{x:Int}(hl:l.length≤2^30):∃l',IZ l x=some (((),()),(l',()))∧l'.length≤l.length+1:=by
 unfold IZ T4;obtain⟨r,h⟩:=AB7 (x:=x) hl;rw[h];exact nC hl Ab 0 r [] (by omega) (Ae (by omega)) (by cases r<;>simp)
def WI(l:List BC):Prop:=l.length≤61∧ ∀e∈l,e.1.length≤41∧e.2.1.length≤9
theorem WI.w{l:List BC}(h:WI l):AW Ay l≤4000:=by
 have key:∀l:List BC,(∀e∈l,e.1.length≤41∧e.2.1.length≤9)→AW Ay l≤60*l.length:=by
  intro l
  induction l with
  |nil=>intro _;simp[AW]
  |cons e l ih=>
   intro hh;have:=hh e (by simp);have:=ih (fun e he=>hh e (by simp[he]));simp only[AW,Ay,AN0]at this⊢;omega
 have:=key l h.2;have:=h.1;omega
theorem WI.of{c:CH}{w:AR}(h:DR c w=true):WI w.2.1:=by
 obtain⟨h1,h2,h3,h4⟩:=Zm h;exact⟨by omega,fun e he=>by have:=iJ (h4 e he);omega⟩
theorem tC{c:CH}{w:AR}{s:ABY}(hc:c.1.length≤2^40)(hw:WI w.2.1)(hs:s.length≤41):
  ∃w':AR,∃off ok,Gp c w s=some ((((w'.1,(),()),off,ok,()),()),(w'.2.1,()))∧WI w'.2.1:=by
 unfold Gp;have hww:=hw.w;rw[show(c.1,c.2.1,())=c from rfl,show(w.1,w.2.1,())=w from rfl,GN hc (by omega),rf (by omega)];simp only[AMP];cases DR c w with
 |false=>exact⟨(0,[],()),0,false,rfl,by simp[WI]⟩
 |true=>
  have h1:=hw.1;simp only[AMc,AMW];rw[AME (by rw[As];omega)];have ADU:AW Ay (w.2.1++[(s,[],false,())])≤2^30:=by
   rw[pf];simp only[Ay,APv];omega
  rw[GN (w:=(w.1,w.2.1++[(s,[],false,())],())) hc ADU];simp only[AMP];rcases AMA (DR c (w.1,w.2.1++[(s,[],false,())],()))with hf|hf
  ·rw[hf]
   exact⟨(w.1,w.2.1++[(s,[],false,())],()),_,true,rfl,WI.of hf⟩
  ·rw[hf]
   exact⟨w,0,false,rfl,hw⟩
theorem tY{c:CH}{w:AR}{p q:Int}(hc:c.1.length≤2^40)(hw:WI w.2.1):
  ∃w':AR,∃ok,Dk c w p q=some ((((w'.1,(),()),ok,()),()),(w'.2.1,()))∧WI w'.2.1:=by
 unfold Dk;have hww:=hw.w;rw[show(c.1,c.2.1,())=c from rfl,show(w.1,w.2.1,())=w from rfl,GN hc (by omega),rf (by omega),BV,BV];simp only[AMP];rcases AMA (DR c w)with Fj|Fj
 rotate_left
 ·rw[Fj]
  exact⟨(0,[],()),false,rfl,by simp[WI]⟩
 have h1:=hw.1;rw[Fj];simp only[AMc,AMW];rcases AMA (BD p 1 (w.2.1.length:Int))with hp|hp
 rotate_left
 ·rw[hp]
  exact⟨w,false,rfl,hw⟩
 rw[hp];simp only[AMc,AMW];cases BD q 0 (AU ((c.1.length:Int)-1))with
 |false=>exact⟨w,false,rfl,hw⟩
 |true=>
  simp only[BD,AOV]at hp;rw[AH (x:=p-1) (by omega) (by omega)];obtain⟨k,hk⟩:∃k:Nat,p-1=(k:Int):=⟨(p-1).toNat,by omega⟩;rw[hk];have hkl:k<w.2.1.length:=by omega
  have hb:(0:Int)≤(k:Int)∧(k:Int)<(w.2.1.length:Int):=by omega
  simp only[AMc,AMW,ARh];rw[AME hb,AME hb,Ah hkl];have he:=hw.2 _ (AM3 hkl);have he2:=iJ ((Zm Fj).2.2.2 _ (AM3 hkl))
  generalize wP:w.2.1[k]=e at he he2
  cases e.2.2.1 with
  |true=>exact⟨w,false,rfl,hw⟩
  |false=>
   simp only[AMW];obtain⟨l',hl1,uF⟩:=AEL (l:=e.2.1) (x:=q) (by omega);rw[hl1];simp only[AMP];rw[AME hb,AME hb,ANW];have hg:(w.2.1.set k (e.1,l',false,())).getD k ([],[],false,())=(e.1,l',false,()):=by
    simp[List.getD,hkl]
   rw[hg];simp only;rw[Ds hc (by omega)];simp only[AMP];rw[AME hb];refine⟨(w.1,(w.2.1.set k (e.1,l',false,())).set k (e.1,l',holds c l',()),()),true,rfl,by simp only[ARh];exact h1,?_⟩;intro y hy;simp only[AVm]at hy;rcases ARn hy with hy|rfl
   ·exact hw.2 y hy
   ·exact⟨he.1,by simp only;omega⟩
section
variable{code:AAF} (hc:code.length≤2^30)
include hc
theorem QE{c:CH}(ZF:c.1.length≤2^20){x:Int}{y:List BC}:∀(n k:Nat) (i h:Int) (w:AR),CR code i→k≤14→14-k<n→WI w.2.1→
  ∃(w':AR) (i' h':Int),Il n k code i h c.1 c.2.1 x y w.1 w.2.1=some (((w'.1,(),()),()),((code,i',h',()),w'.2.1,()))∧WI w'.2.1∧CR code i'
 |0,_,_,_,_,_,_,h,_=>by omega
 |n+1,k,i,h,w,hi,hk,hn,hw=>by
  simp only[Il,Rs,AB];obtain⟨v,i1,h1,e1,a1,b1,_,J6⟩:=El hc (h:=h) (n:=14) hi (by omega);rw[e1];simp only[AMP];have:=b1 (by omega);by_cases FW:(k:Int)<v
  ·rw[AME FW]
   obtain⟨s,i2,h2,e2,hs,G7⟩:=sF hc (h:=h1) (l:=[[],[97],[98,99]]) J6 (by simp) (by simp);rw[e2];simp only[AMP];have hsl:s.length≤41:=by
    simp at hs;rcases hs with rfl|rfl|rfl<;>simp
   obtain⟨w1,off,ok,e3,hw1⟩:=tC (c:=c) (w:=w) (s:=s) (by omega) hw hsl;rw[show(c.1,c.2.1,())=c from rfl,show(w.1,w.2.1,())=w from rfl,e3];simp only[AMP];obtain⟨o,i3,h3,e4,KJ⟩:=jf hc (h:=h2) (n:=2) G7 (by omega);rw[e4];simp only[AMP];rw[AH (x:=(k:Int)+1) (by omega) (by omega),show((k:Int)+1)=((k+1:Nat):Int)by omega];cases o with
   |true=>
    simp only[AOK];have h61:=hw.1;obtain⟨m,em,hm⟩:∃m:Int,FQ (w.2.1.length:Int) 1=some ((m,()),())∧m≤2^40:=by
     unfold FQ;rw[AB];split
     ·exact⟨_,rfl,by omega⟩
     ·exact⟨1,rfl,by omega⟩
    rw[em];simp only[AMP];obtain⟨v4,i4,h4,e5,a5,b5,_,uA⟩:=El hc (h:=h3) (n:=m) KJ hm;rw[e5];simp only[AMP];obtain⟨v5,i5,h5,e6,a6,b6,_,hi5⟩:=El hc (h:=h4) (n:=(c.1.length:Int)) uA (by omega);rw[e6];simp only[AMP];obtain⟨w2,ok2,e7,hw2⟩:=tY (c:=c) (w:=w) (p:=AU (1+v4)) (q:=v5) (by omega) hw;rw[e7];simp only[AMP];cases ok2 with
    |true=>exact QE ZF n (k+1) i5 h5 w2 hi5 (by omega) (by omega) hw2
    |false=>exact QE ZF n (k+1) i5 h5 w hi5 (by omega) (by omega) hw
   |false=>
    simp only[AMW];cases ok with
    |true=>exact QE ZF n (k+1) i3 h3 w1 KJ (by omega) (by omega) hw1
    |false=>exact QE ZF n (k+1) i3 h3 w KJ (by omega) (by omega) hw
  ·rw[AMG FW]
   exact⟨w,i1,h1,rfl,hw,J6⟩
theorem n_{c:CH}(ZF:c.1.length≤2^20){i h:Int}(hi:CR code i):
  ∃(w':AR) (i' h':Int),PQ c code i h=some (((w'.1,(),()),()),((code,i',h',()),w'.2.1,()))∧WI w'.2.1∧CR code i':=by
 unfold PQ SM;obtain⟨v,i1,h1,e1,a1,b1,_,J6⟩:=El hc (h:=h) (n:=4) hi (by omega);rw[e1];exact QE hc ZF Ab 0 i1 h1 (AU (1+v),[],()) J6 (by omega) (Ae (by omega)) (by simp[WI])
omit hc in
theorem vB{x:Int}{y:List BC}{z:Int}{i h:Int}(hi:CR code i):∀(n:Nat) (l:List BC),61-l.length<n→WI l→
  ∃l',G_ n code i h x y z l=some (((z,(),()),()),((code,i,h,()),l',()))∧WI l'
 |0,_,h,_=>by omega
 |n+1,l,hn,hw=>by
  simp only[G_,Qv,AB];have h1:=hw.1;by_cases h60:l.length<60
  ·rw[AME (by omega)]
   by_cases h0:0<l.length
   ·rw[AME (by omega),AME (by omega),AME (by rw[As];omega)]
    refine vB hi n _ (by simp;omega) ⟨by simp;omega,fun e he=> ?_⟩;rcases APr.1 he with he|he
    ·exact hw.2 e he
    ·simp only[AQ6]at he
     have hm:l.getD 0 ([],[],false,())∈l:=by
      have:=Ah (l:=l) (i:=0) (d:=([],[],false,())) h0;simp only[Int.ofNat_zero,Int.toNat_zero]at this;rw[this];exact AM3 _
     rw[he];exact hw.2 _ hm
   ·rw[AMG (by omega)]
    exact⟨l,rfl,hw⟩
  ·rw[AMG (by omega)]
   exact⟨l,rfl,hw⟩
theorem AA8{c:CH}(ZF:c.1.length≤2^20){i h:Int}(hi:CR code i):
  ∃(w':AR) (i' h':Int),OJ c code i h=some (((w'.1,(),()),()),((code,i',h',()),w'.2.1,()))∧AW Ay w'.2.1≤4000∧CR code i':=by
 unfold OJ OB;obtain⟨w,i1,h1,e1,hw,J6⟩:=n_ hc ZF (h:=h) hi;rw[show(c.1,c.2.1,())=c from rfl,e1];simp only[AMP];obtain⟨v,i2,h2,e2,a2,b2,_,G7⟩:=El hc (h:=h1) (n:=25) J6 (by omega);rw[e2];simp only[AMP];have h61:=hw.1;cases v==0 with
 |true=>
  simp only[AOK];obtain⟨p,i3,h3,e3,hp,KJ⟩:=Kg hc (h:=h2) (l:=[0,30,31]) G7 (by simp) (by simp);rw[e3];exact⟨(p,w.2.1,()),i3,h3,rfl,hw.w,KJ⟩
 |false=>
  simp only[AMW];cases v==1 with
  |true=>
   simp only[AOK,AB];by_cases h0:0<w.2.1.length
   ·rw[AME (by omega),AME (by omega),AME (by omega)]
    refine⟨(w.1,w.2.1.set 0 ((w.2.1.getD 0 ([],[],false,())).1,(w.2.1.getD 0 ([],[],false,())).2.1,!(w.2.1.getD 0 ([],[],false,())).2.2.1,()),()),i2,h2,rfl,WI.w ⟨by simp;omega,fun e he=> ?_⟩,G7⟩;rcases ARn he with he|rfl
    ·exact hw.2 e he
    ·have hm:w.2.1.getD 0 ([],[],false,())∈w.2.1:=by
      have:=Ah (l:=w.2.1) (i:=0) (d:=([],[],false,())) h0;simp only[Int.ofNat_zero,Int.toNat_zero]at this;rw[this];exact AM3 _
     have:=hw.2 _ hm;exact this
   ·rw[AMG (by omega)]
    exact⟨w,i2,h2,rfl,hw.w,G7⟩
  |false=>
   simp only[AMW];cases v==2 with
   |true=>
    simp only[AOK];obtain⟨p,i3,h3,e3,a3,b3,_,KJ⟩:=El hc (h:=h2) (n:=2) G7 (by omega);rw[e3];simp only[AMP];have:=b3 (by omega);rw[AH (by omega) (by omega),AME (by rw[As];omega),AME (by rw[As];omega)];refine⟨(w.1,w.2.1++[(List.map (fun n:Int=>UInt8.ofNat n.toNat) (List.replicate (40+p).toNat 0),[],false,())],()),i3,h3,rfl,?_,KJ⟩;have hww:=hw.w;have key:=pf (l:=w.2.1) (e:=(List.map (fun n:Int=>UInt8.ofNat n.toNat) (List.replicate (40+p).toNat 0),[],false,()));have hws:AW Ay w.2.1≤60*61:=by
     have AYB:∀l:List BC,(∀e∈l,e.1.length≤41∧e.2.1.length≤9)→AW Ay l≤60*l.length:=by
      intro l
      induction l with
      |nil=>intro _;simp[AW]
      |cons e l ih=>
       intro hh;have:=hh e (by simp);have:=ih (fun e he=>hh e (by simp[he]));simp only[AW,Ay,AN0]at this⊢;omega
     have:=AYB _ hw.2;omega
    simp only;rw[key];simp only[Ay,ASL,ASC,APv];omega
   |false=>
    simp only[AMW];cases v==3 with
    |true=>
     simp only[AOK];obtain⟨l',e4,hw4⟩:=vB (x:=0) (y:=[]) (z:=w.1) (h:=h2) G7 Ab w.2.1 (Ae (by omega)) hw;rw[e4];exact⟨(w.1,l',()),i2,h2,rfl,hw4.w,G7⟩
    |false=>exact⟨w,i2,h2,rfl,hw.w,G7⟩
end
end Go.M
end
section
set_option maxRecDepth 8000
namespace Go.M
open Go.M.H (AK AO A5 Aj AA Cj AQ BC AR Am Bk BA Bh Ak CG AW AS AZ Ag Bi Ay Aq BB EB CP Cx C_)
def OK(code:AAF){X Y:Type}(Q:X→Y→Prop)(o:Option (X×(ABj×Y))):Prop:=
 ∃x i h y,o=some (x,((code,i,h,()),y))∧CR code i∧Q x y
section
variable{code:AAF} {X Y Z W:Type} {Q:X→Y→Prop} {R:Z→W→Prop}
theorem OK.bind{o:Option (X×(ABj×Y))}{f:X×(ABj×Y)→Option (Z×(ABj×W))}
  (ho:OK code Q o) (hf:∀x i h y,CR code i→Q x y→OK code R (f (x,((code,i,h,()),y)))):OK code R (o.bind f):=by
 obtain⟨x,i,h,y,e,hi,hq⟩:=ho;rw[e];exact hf x i h y hi hq
theorem OK.pure{A:Type}{o:Option A}{a:A}{f:A→Option (Z×(ABj×W))}(ho:o=some a)(hf:OK code R (f a)):OK code R (o.bind f):=by
 rw[ho];exact hf
theorem OK.some{x:X}{i h:Int}{y:Y}(hi:CR code i)(hq:Q x y):OK code Q (some (x,((code,i,h,()),y))):=⟨x,i,h,y,rfl,hi,hq⟩
theorem OK.cond{b:Bool}{x y:Option (X×(ABj×Y))}(h1:b=true→OK code Q x)(h2:b=false→OK code Q y):OK code Q (cond b x y):=by
 cases b
 ·exact h2 rfl
 ·exact h1 rfl
theorem OK.P9{p:Prop}[Decidable p]{x y:Option (X×(ABj×Y))}(h1:p→OK code Q x)(h2: ¬p→OK code Q y):OK code Q (_root_.cond (decide p) x y):=by
 by_cases hp:p
 ·rw[AO0 hp];exact h1 hp
 ·rw[AOS hp];exact h2 hp
theorem OK.E4{a b:Int}{x y:Option (X×(ABj×Y))}(h1:a=b→OK code Q x)(h2:a≠b→OK code Q y):OK code Q (_root_.cond (a==b) x y):=by
 rw[C8];by_cases hp:a=b
 ·rw[AME hp];exact h1 hp
 ·rw[AMG hp];exact h2 hp
theorem OK.ite{p:Prop}[Decidable p]{x y:Option (X×(ABj×Y))}(hp:p)(h1:OK code Q x):OK code Q (if p then x else y):=by
 rw[AME hp];exact h1
end
section
variable{code:AAF} (hc:code.length≤2^30)
include hc
theorem Bu{i h n:Int}(hi:CR code i)(hn:n≤2^40):OK code (fun(x:ABW) (y:Unit)=>0≤x.1∧(0<n→x.1<n)∧(n≤0→x.1=0)) (AJ n code i h):=by
 obtain⟨v,i',h',e,v0,v1,v2,DE⟩:=El hc (h:=h) hi hn;exact⟨(v,()),i',h',(),e,DE,v0,v1,v2⟩
theorem Qg{i h n:Int}(hi:CR code i)(hn:n≤2^40):OK code (fun(x:ABU) (y:Unit)=>True) (BF n code i h):=by
 obtain⟨v,i',h',e,DE⟩:=jf hc (h:=h) hi hn;exact⟨(v,()),i',h',(),e,DE,trivial⟩
theorem Mf{i h:Int}{l:AAF}(hi:CR code i)(hl:l≠[])(hn:l.length≤2^30):OK code (fun(x:ABW) (y:Unit)=>x.1∈l) (CB l code i h):=by
 obtain⟨v,i',h',e,hv,DE⟩:=Kg hc (h:=h) hi hl hn;exact⟨(v,()),i',h',(),e,DE,hv⟩
theorem nE{i h:Int}{l:List ABY}(hi:CR code i)(hl:l≠[])(hn:l.length≤2^30):OK code (fun(x:AGj) (y:Unit)=>x.1∈l) (G6 l code i h):=by
 obtain⟨v,i',h',e,hv,DE⟩:=sF hc (h:=h) hi hl hn;exact⟨(v,()),i',h',(),e,DE,hv⟩
theorem Rm{c:CH}(ZF:c.1.length≤2^10){i h:Int}(hi:CR code i):OK code (fun(x:ABc) (y:ABd)=>y.1.length≤2^12) (FH c code i h):=by
 have key:∀(n k N:Nat) (i h:Int) (b:AAF),CR code i→k≤N→N-k<n→N≤2^11→b.length≤k→
   OK code (fun(x:ABc) (y:ABd)=>y.1.length≤2^12) (Io n N k code i h c.1 c.2.1 b):=by
  intro n
  induction n with
  |zero=>intro k N i h b _ _ h;omega
  |succ n ih=>
   intro k N i h b hi hk hn hN hb;simp only[Io,Sw];refine OK.P9 (fun FW=> ?_) (fun wP=> ?_)
   ·refine OK.pure I6 ?_
    dsimp only;refine OK.bind (Bu hc hi (by omega)) fun x i' h' y DE hq=> ?_
    dsimp only;refine OK.pure (K7 (by omega)) ?_
    dsimp only;rw[AH (by omega) (by omega),show((k:Int)+1)=((k+1:Nat):Int)by omega];have:=S8 (n:=x.1) (l:=b);exact ih (k+1) N _ _ _ DE (by omega) (by omega) hN (by omega)
   ·refine OK.bind (Qg hc hi (by omega)) fun x i' h' y DE hq=> ?_
    dsimp only;refine OK.cond (fun _=> ?_) (fun _=> ?_)
    ·refine OK.bind (Mf hc DE (by simp) (by simp)) fun x i' h' y DE hq=> ?_
     dsimp only;refine OK.ite (by rw[As];omega) ?_
     exact OK.some DE (by simp;omega)
    ·exact OK.some DE (by show b.length≤_;omega)
 unfold FH SL;rw[AH (by omega) (by omega)];refine OK.bind (Bu hc hi (by omega)) fun x i' h' y DE hq=> ?_
 dsimp only;obtain⟨N,hN⟩:∃N:Nat,x.1=N:=⟨x.1.toNat,by omega⟩;rw[hN];exact key Ab 0 N i' h' [] DE (by omega) (Ae (by omega)) (by omega) (by simp)
theorem fY{c:CH}(ZF:c.1.length≤2^10){i h:Int}(hi:CR code i):OK code (fun(x:ABc) (y:ABd)=>y.1.length≤2^13) (Hv c code i h):=by
 have key:∀(n k:Nat) (i h:Int) (b:AAF),CR code i→k≤c.1.length→c.1.length-k<n→b.length≤2^12+k→
   OK code (fun(x:ABc) (y:ABd)=>y.1.length≤2^13) (Kl n k code i h c.1 c.2.1 b):=by
  intro n
  induction n with
  |zero=>intro k i h b _ _ h;omega
  |succ n ih=>
   intro k i h b hi hk hn hb;simp only[Kl,VH];refine OK.P9 (fun FW=> ?_) (fun wP=>OK.some hi (by show b.length≤_;omega));refine OK.pure (Ds (c:=(c.1,c.2.1,())) (by show c.1.length≤_;omega) (by omega)) ?_
   dsimp only;refine OK.cond (fun _=> ?_) (fun _=>OK.some hi (by show b.length≤_;omega));refine OK.pure (K7 (by omega)) ?_
   dsimp only;rw[AH (by omega) (by omega),show((k:Int)+1)=((k+1:Nat):Int)by omega];have:=S8 (n:=(k:Int)) (l:=b);exact ih (k+1) _ _ _ hi (by omega) (by omega) (by omega)
 unfold Hv VD;refine OK.bind (Rm hc (c:=(c.1,c.2.1,())) ZF hi) fun x i' h' y DE hq=> ?_
 dsimp only;exact key Ab 0 i' h' y.1 DE (by omega) (Ae (by omega)) (by omega)
end
theorem AJ8{x:Int}:C6 (IntKind.wrap .i64 x):=by
 unfold C6 IntKind.wrap;simp[IntKind.bits,IntKind.signed];split<;>omega
theorem AMl{a b:Int}:C6 (bOr .i64 a b):=by
 unfold bOr;exact AJ8
theorem tM{l:AAF}(hl:l.length≤2^20):∃r,MB l=some ((r,()),())∧C6 r:=by
 have key:∀(n k:Nat) (t:Int),(∀x∈l,0≤x)→C6 t→k≤l.length→l.length-k<n→ ∃r,Kz n l t k=some ((r,()),())∧C6 r:=by
  intro n
  induction n with
  |zero=>intro k t _ _ _ h;omega
  |succ n ih=>
   intro k t hp ht hk hn;simp only[Kz,VE,AB];by_cases FW:k<l.length
   ·rw[AME (by omega),AME (by omega),Ah FW,AMG (by have:=hp _ (AM3 FW);omega),AH (x:=(k:Int)+1) (by omega) (by omega),show((k:Int)+1)=((k+1:Nat):Int)by omega]
    exact ih (k+1) _ hp AMl (by omega) (by omega)
   ·rw[AMG (by omega)]
    exact⟨t,rfl,ht⟩
 unfold MB Uo;rw[fH (by omega)];simp only[AD,Aw];rcases AMA (nf l 7)with ha|ha
 ·rw[ha]
  exact key Ab 0 0 (fun x hx=>((uZ.1 ha).1 x hx).1) (by unfold C6;omega) (by omega) (Ae (by omega))
 ·rw[ha]
  exact⟨-1,rfl,by unfold C6;omega⟩
end Go.M
end
section
set_option maxRecDepth 8000
namespace Go.M
open Go.M.H (AK AO A5 Aj AA Cj AQ BC AR Am Bk BA Bh Ak CG AW AS AZ Ag Bi Ay Aq BB EB CP Cx C_)
abbrev ia:Bh×Unit→Unit→Prop:=fun x _=>C6 x.1.2.1
theorem QP{x:Int}(h: -1000≤x∧x≤1000):C6 x:=by unfold C6;omega
section
variable{code:AAF} (hc:code.length≤2^30) {w:AA} (h:On w)
include hc h
theorem On.AEb{e:Int}(he:1≤e∧e≤w.Al.length):0<(Bl w.Al e).length∧(Bl w.Al e).length≤8∧ ∀x∈Bl w.Al e,0≤x∧x<8:=by
 have hh:=(h.lB.Al _ (Ba (d:=C9) (show(e-1).toNat<(Bj w).1.length by show _<w.Al.length;omega))).1;have hn:=Uy hh;have ZF:=(D2 h.cfg).2.1;unfold Bl;rw[Ao.2 he,AME rfl];refine⟨?_,HA hn,fun x hx=> ?_⟩
 ·rcases AWM (w.Al.getD (e-1).toNat C9).1.length with h0|h0
  ·have vv:=ARH h0
   have hh':holds (AX w) (w.Al.getD (e-1).toNat C9).1=true:=hh;rw[vv,holds_nil]at hh';cases hh'
  ·exact h0
 ·have:=(Er.1 hn).2.1 x hx
  omega
theorem sk(hw:0<w.AL.length){i hh:Int}(hi:CR code i):OK code ia (Gq w code i hh):=by
 have k:=h.nums;have k2:=k.wr;have k5:=k.era;have qc:0<w.2.2.2.2.2.2.1.length:=hw;have tail:∀(j:Int),0≤j→j<(w.2.2.2.2.2.2.1.length:Int)→ ∀i hh,CR code i→OK code ia (
   (Cb (w.2.2.2.2.1,w.2.2.2.2.2.1,()) ((w.2.2.2.2.2.2.1.getD (j.toNat) (0,[],())).1)).bind fun Vu=>
   (AJ (Vu.2.1.length:Int) code i hh).bind fun MU=>
   if(0:Int)≤MU.1.1∧MU.1.1<(Vu.2.1.length:Int)then(
   cond ((((w.2.2.2.2.2.2.1.getD (j.toNat) (0,[],())).2.1).length:Int)==0)
    ((G6 [[],[97],[98,99],[100]] MU.2.1.1 MU.2.1.2.1 MU.2.1.2.2.1).bind fun Zk=>
    some (((2,j,0,0,Zk.1.1,()),()),((Zk.2.1.1,Zk.2.1.2.1,Zk.2.1.2.2.1,()),())))
   ((BF 7 MU.2.1.1 MU.2.1.2.1 MU.2.1.2.2.1).bind fun Ip=>
   cond (Ip.1.1)
    ((G6 [[],[97],[98,99],[100]] Ip.2.1.1 Ip.2.1.2.1 Ip.2.1.2.2.1).bind fun aV=>
    some (((2,j,0,0,aV.1.1,()),()),((aV.2.1.1,aV.2.1.2.1,aV.2.1.2.2.1,()),())))
   ((BF 3 Ip.2.1.1 Ip.2.1.2.1 Ip.2.1.2.2.1).bind fun fK=>
   cond (fK.1.1)
    (some (((4,(Vu.2.1.getD (MU.1.1.toNat) 0),0,0,[],()),()),((fK.2.1.1,fK.2.1.2.1,fK.2.1.2.2.1,()),())))
   ((T1 (((w.2.2.2.2.2.2.1.getD (j.toNat) (0,[],())).2.1).length:Int) 3).bind fun ec=>
   (AJ ec.1.1 fK.2.1.1 fK.2.1.2.1 fK.2.1.2.2.1).bind fun O4=>
   some (((3,j,AU ((((w.2.2.2.2.2.2.1.getD (j.toNat) (0,[],())).2.1).length:Int)-O4.1.1),(Vu.2.1.getD (MU.1.1.toNat) 0),[],()),()),((O4.2.1.1,O4.2.1.2.1,O4.2.1.2.2.1,()),()))))))else none):=by
  intro j hj0 hj1 i hh hi;have hx:=h.AL _ (Ba (d:=BX) (show j.toNat<w.AL.length by show j.toNat<w.2.2.2.2.2.2.1.length;omega));have he:=hx.1.ep;obtain⟨e1,e2,e3⟩:=h.AEb hc (e:=(w.AL.getD j.toNat BX).1) ⟨he.1,hx.2⟩;refine OK.pure (FF (r:=Bj w) (by show AW Bi w.2.2.2.2.1≤_;omega)) ?_
  dsimp only
  generalize hns:Bl (Bj w).1 (w.2.2.2.2.2.2.1.getD j.toNat (0,[],())).1=ns
  have AO7:Bl w.Al (w.AL.getD j.toNat BX).1=ns:=hns;rw[AO7]at e1 e2 e3;refine OK.bind (Bu hc hi (by omega)) fun x i1 h1 y J6 hq=> ?_
  dsimp only at*;refine OK.ite (by omega) ?_
  have ALe:C6 (ns.getD x.1.toNat 0):=QP (by have:=e3 _ (Ba (l:=ns) (i:=x.1.toNat) (d:=0) (by omega));omega);have hjj:C6 j:=QP (by omega)
  repeat' (first|refine OK.some (by assumption) ?_|refine OK.P9 (fun _=> ?_) (fun _=> ?_)|refine OK.E4 (fun _=> ?_) (fun _=> ?_)|refine OK.cond (fun _=> ?_) (fun _=> ?_)|refine OK.ite (by omega) ?_|(refine OK.bind (Qg (by assumption) (by assumption) (by omega)) fun x i h y hi hq=> ?_;dsimp only)|(refine OK.bind (Bu (by assumption) (by assumption) (by omega)) fun x i h y hi hq=> ?_;dsimp only at*)|(refine OK.bind (nE (by assumption) (by assumption) (by simp) (by simp)) fun x i h y hi hq=> ?_;dsimp only)|(refine OK.pure ZR ?_;dsimp only)|(refine OK.pure I6 ?_;dsimp only))
  all_goals assumption
 unfold Gq;dsimp only;have e1:AU ((w.2.2.2.2.2.2.1.length:Int)-1)=(w.2.2.2.2.2.2.1.length:Int)-1:=AH (by omega) (by omega);simp only[e1];refine OK.bind (Bu hc hi (by omega)) fun x i1 h1 y J6 hq=> ?_
 dsimp only at*;refine OK.bind (Qg hc J6 (by omega)) fun x2 i2 h2 y2 G7 gy=> ?_
 dsimp only at*;refine OK.cond (fun _=> ?_) (fun _=> ?_)
 ·refine OK.ite (by omega) ?_
  exact tail _ (by omega) (by omega) _ _ G7
 ·refine OK.ite (by omega) ?_
  exact tail _ (by omega) (by omega) _ _ G7
end
end Go.M
end
section
set_option maxRecDepth 8000
namespace Go.M
open Go.M.H (AK AO A5 Aj AA Cj AQ BC AR Am Bk BA Bh Ak CG AW AS AZ Ag Bi Ay Aq BB EB CP Cx C_)
section
variable{code:AAF} (hc:code.length≤2^30) {w:AA} (h:On w)
include hc h
theorem wJ{m:A5}(hm:jY (AX w) m){t7:Int}:∀(n k:Nat) (t8 i hh:Int),CR code i→k≤m.2.2.2.2.2.1.length→m.2.2.2.2.2.1.length-k<n→
  OK code ia (GL n t7 t8 k code i hh w.1 w.2.1 w.2.2.1 w.2.2.2.1 w.2.2.2.2.1 w.2.2.2.2.2.1 w.2.2.2.2.2.2.1 w.2.2.2.2.2.2.2.1 w.2.2.2.2.2.2.2.2.1 w.2.2.2.2.2.2.2.2.2.1 w.2.2.2.2.2.2.2.2.2.2.1 0 0 0 0 [] m.1 m.2.1 m.2.2.1 m.2.2.2.1 m.2.2.2.2.1 m.2.2.2.2.2.1):=by
 have k1:=h.nums.c;have wV:m.2.2.2.2.2.1.length≤60:=by
  have:=hm.n;have hb:=Hg (l:=m.2.2.2.1);split at this<;>omega
 intro n
 induction n with
 |zero=>intro k t8 i hh _ _ h;omega
 |succ n ih=>
  intro k t8 i hh hi hk hn;simp only[GL,RE];refine OK.P9 (fun FW=> ?_) (fun wP=>OK.some hi (QP (by show-1000≤(0:Int)∧(0:Int)≤1000;omega)));have AZj:k<m.2.2.2.2.2.1.length:=by omega
  refine OK.ite (by omega) ?_
  rw[AH (x:=(k:Int)+1) (by omega) (by omega),show((k:Int)+1)=((k+1:Nat):Int)by omega];have v7:=HA (hm.wrote _ (Ba (d:=[]) AZj));refine OK.pure (Ds (c:=AX w) (by show w.1.length≤_;omega) (by show(m.2.2.2.2.2.1.getD k []).length≤_;omega)) ?_
  dsimp only;refine OK.cond (fun _=> ?_) (fun _=>ih (k+1) _ _ _ hi (by omega) (by omega));refine OK.bind (Qg hc hi (by omega)) fun x2 i2 h2 y2 G7 gy=> ?_
  dsimp only;exact OK.cond (fun _=>ih (k+1) _ _ _ G7 (by omega) (by omega)) (fun _=>ih (k+1) _ _ _ G7 (by omega) (by omega))
theorem vx{i hh:Int}(hi:CR code i):OK code ia (L9 w code i hh):=by
 have k:=h.nums;have k5:=k.era;unfold L9 Sh;have z:C6 0:=QP (by omega);refine OK.E4 (fun _=>OK.some hi z) (fun ax=> ?_);have hlen:0<w.Bo.length:=by show 0<w.2.2.2.2.2.2.2.1.length;omega
 refine OK.ite (by omega) ?_
 have hmm:=h.Bo _ (Ba (d:=J_) hlen)
 generalize hg:w.2.2.2.2.2.2.2.1.getD 0 (0,0,[],[],false,[],())=m
 have vW:w.Bo.getD 0 J_=m:=hg;rw[vW]at hmm;obtain⟨hm,hm2,hm3⟩:=hmm;have he:=hm.ep;have hb:=hm.b;obtain⟨e1,e2,e3⟩:=h.AEb hc (e:=m.2.1) ⟨he.1,by omega⟩;have wV:m.2.2.2.2.2.1.length≤60:=by
  have:=hm.n;have hb:=Hg (l:=m.2.2.2.1);split at this<;>omega
 refine OK.pure (FF (r:=Bj w) (by show AW Bi w.2.2.2.2.1≤_;omega)) ?_
 dsimp only
 generalize hns:Bl (Bj w).1 m.2.1=ns
 have AO7:Bl w.Al m.2.1=ns:=hns;rw[AO7]at e1 e2 e3;refine OK.bind (Bu hc hi (by omega)) fun x i1 h1 y J6 hq=> ?_
 dsimp only at*;refine OK.ite (by omega) ?_
 have ALe:C6 (ns.getD x.1.toNat 0):=QP (by have:=e3 _ (Ba (l:=ns) (i:=x.1.toNat) (d:=0) (by omega));omega);have fin:∀t8 i hh,CR code i→OK code ia (GL Ab (ns.getD x.1.toNat 0) t8 0 code i hh w.1 w.2.1 w.2.2.1 w.2.2.2.1 w.2.2.2.2.1 w.2.2.2.2.2.1 w.2.2.2.2.2.2.1 w.2.2.2.2.2.2.2.1 w.2.2.2.2.2.2.2.2.1 w.2.2.2.2.2.2.2.2.2.1 w.2.2.2.2.2.2.2.2.2.2.1 0 0 0 0 [] m.1 m.2.1 m.2.2.1 m.2.2.2.1 m.2.2.2.2.1 m.2.2.2.2.2.1):=fun t8 i hh hi=>
  wJ hc h hm Ab 0 t8 i hh hi (by omega) (Ae (by omega))
 repeat' (first|refine OK.some (by assumption) ?_|refine OK.P9 (fun _=> ?_) (fun _=> ?_)|refine OK.E4 (fun _=> ?_) (fun _=> ?_)|refine OK.cond (fun _=> ?_) (fun _=> ?_)|refine OK.ite (by omega) ?_|(refine OK.bind (Qg (by assumption) (by assumption) (by omega)) fun x i h y hi hq=> ?_;dsimp only)|(refine OK.bind (Bu (by assumption) (by assumption) (by omega)) fun x i h y hi hq=> ?_;dsimp only at*)|(refine OK.bind (nE (by assumption) (by assumption) (by simp) (by simp)) fun x i h y hi hq=> ?_;dsimp only)|(refine OK.pure ZR ?_;dsimp only)|(refine OK.pure I6 ?_;dsimp only))
 all_goals first
  |exact fin _ _ _ (by assumption)
  |exact z
  |exact ALe
theorem lD{i hh:Int}(hi:CR code i):OK code ia (Lj w code i hh):=by
 have k:=h.nums;have k1:=k.c;have k2:=k.wr;have k3:=k.lost;have k4:=k.st;have k5:=k.era;have k6:=k.se;have k7:=k.ah;have xi:=(D2 h.cfg).1;have Aaw:1≤w.1.length:=xi;have z:C6 0:=QP (by omega);have Tk:∀i hh,CR code i→OK code ia ((Hv (w.1,w.2.1,()) code i hh).bind fun u3=>
   (MB u3.2.2.1).bind fun u4=>
   some (((1,u4.1.1,0,0,[],()),()),((u3.2.1.1,u3.2.1.2.1,u3.2.1.2.2.1,()),()))):=fun i hh hi=>by
  refine OK.bind (fY hc (c:=(w.1,w.2.1,())) (by show w.1.length≤_;omega) hi) fun x i1 h1 y J6 hq=> ?_
  dsimp only;obtain⟨r,hr,hr2⟩:=tM (l:=y.1) (by omega);refine OK.pure hr ?_
  exact OK.some J6 hr2
 have AV6:∀j:Nat,C6 (w.2.2.2.2.2.2.2.2.2.1.getD j (0,[],false,())).1:=fun j=>by
  by_cases hj:j<w.2.2.2.2.2.2.2.2.2.1.length
  ·exact Gl (h.Ai _ (Ba (d:=H_) hj)).1
  ·rw[List.getD,ARo (by omega)];exact z
 have AVN:C6 (w.2.2.2.1.getD 0 0):=by
  by_cases hj:0<w.2.2.2.1.length
  ·have:=(Er.1 h.lost).2.1 _ (Ba (d:=0) hj)
   have hc8:(AX w).1.length≤8:=k1;have AbF:0≤w.2.2.2.1.getD 0 0∧w.2.2.2.1.getD 0 0<(AX w).1.length:=this;exact QP (by omega)
  ·rw[List.getD,ARo (by omega)];exact z
 unfold Lj;refine OK.E4 (fun _=>Tk _ _ hi) (fun ax=> ?_);have hw0:0<w.AL.length:=by show 0<w.2.2.2.2.2.2.1.length;omega
 have hwr:∀i hh,CR code i→OK code ia ((Gq w code i hh).bind fun lF=>
   some (((lF.1.1.1,lF.1.1.2.1,lF.1.1.2.2.1,lF.1.1.2.2.2.1,lF.1.1.2.2.2.2.1,()),()),((lF.2.1.1,lF.2.1.2.1,lF.2.1.2.2.1,()),()))):=fun i hh hi=>
  OK.bind (sk hc h hw0 hi) fun x i1 h1 y J6 hq=>OK.some J6 hq
 have hmd:∀i hh,CR code i→OK code ia ((L9 w code i hh).bind fun lF=>
   some (((lF.1.1.1,lF.1.1.2.1,lF.1.1.2.2.1,lF.1.1.2.2.2.1,lF.1.1.2.2.2.2.1,()),()),((lF.2.1.1,lF.2.1.2.1,lF.2.1.2.2.1,()),()))):=fun i hh hi=>
  OK.bind (vx hc h hi) fun x i1 h1 y J6 hq=>OK.some J6 hq
 rw[show(w.1,w.2.1,w.2.2.1,w.2.2.2.1,w.2.2.2.2.1,w.2.2.2.2.2.1,w.2.2.2.2.2.2.1,w.2.2.2.2.2.2.2.1,w.2.2.2.2.2.2.2.2.1,w.2.2.2.2.2.2.2.2.2.1,w.2.2.2.2.2.2.2.2.2.2.1,())=w from rfl];refine OK.bind (Qg hc hi (by omega)) fun x2 i2 h2 y2 G7 gy=> ?_
 dsimp only;refine OK.cond (fun _=>Tk _ _ G7) (fun _=> ?_);refine OK.bind (Bu hc G7 (by omega)) fun x3 i3 h3 y3 KJ Ua=> ?_
 dsimp only at*;have hx3:C6 x3.1:=QP (by omega)
 repeat' first
  |exact hwr _ _ (by assumption)
  |exact hmd _ _ (by assumption)
  |(refine OK.pure (N5 (r:=Bj w) (by show w.2.2.2.2.1.length≤_;omega)) ?_;dsimp only)
  |(first|refine OK.some (by assumption) ?_|refine OK.P9 (fun _=> ?_) (fun _=> ?_)|refine OK.E4 (fun _=> ?_) (fun _=> ?_)|refine OK.cond (fun _=> ?_) (fun _=> ?_)|refine OK.ite (by omega) ?_|(refine OK.bind (Qg (by assumption) (by assumption) (by omega)) fun x i h y hi hq=> ?_;dsimp only)|(refine OK.bind (Bu (by assumption) (by assumption) (by omega)) fun x i h y hi hq=> ?_;dsimp only at*)|(refine OK.bind (nE (by assumption) (by assumption) (by simp) (by simp)) fun x i h y hi hq=> ?_;dsimp only)|(refine OK.pure ZR ?_;dsimp only)|(refine OK.pure I6 ?_;dsimp only))
 all_goals first
  |exact z
  |exact hx3
  |exact AV6 _
  |exact AVN
  |(refine QP ?_;dsimp only;omega)
end
end Go.M
end
section
set_option maxRecDepth 8000
namespace Go.M
open Go.M.H (AK AO A5 Aj AA Cj AQ BC AR Am Bk BA Bh Ak CG AW AS AZ Ag Bi Ay Aq BB EB CP Cx C_)
theorem eD{s:AAF}{p:Int}:∀{l:List BA} {b:Option AK},(∀x,b=some x→EY x=true)→ ∀x,Hc s p b l=some x→EY x=true
 |[],b,hb,x,h=>hb x h
 |a::l,b,hb,x,h=>by
  simp only[Hc]at h;split at h
  ·rename_i hc
   simp only[AMY]at hc;refine eD (l:=l) ?_ x h
   intro z hz;split at hz
   ·rename_i z' hz'
    unfold better at hz;split at hz
    ·rw[←AWK hz];exact hc.2.2.1
    ·rw[←AWK hz];exact hb _ rfl
   ·rw[←AWK hz];exact hc.2.2.1
  ·exact eD (l:=l) hb x h
theorem ky{c:CH}{g:AQ}{sure:Int}{r:Am}{l:List BA}(h:∀e∈r.2.2.1,e.2.2.1.length≤40)(h0:(CE c g sure r l).2=0):∀e∈(CE c g sure r l).1.2.2.1,e.2.2.1.length≤40:=by
 have app:∀(ev:Bk),ev.2.2.1.length≤40→ ∀e∈r.2.2.1++[ev],e.2.2.1.length≤40:=fun ev hev e he=>by
  rcases APr.1 he with he|he
  ·exact h e he
  ·rw[AQ6.1 he];exact hev
 have hf:∀p,(Q1 p (Hc (g.1.getD (r.1-1).toNat C9).1 p none l)).2.2.1.length≤40:=fun p=>by
  cases hb:Hc (g.1.getD (r.1-1).toNat C9).1 p none l with
  |none=>show 0≤40;omega
  |some x=>
   have:=(FT.1 (eD (b:=none) (fun x hx=>by cases hx) x hb)).len;unfold Q1;dsimp only;split
   ·show 0≤40;omega
   ·exact this
 revert h0
 unfold CE;dsimp only;split
 ·intro h0;cases h0
 split
 ·intro h0;cases h0
 split
 ·intro _;exact app _ (by show 0≤40;omega)
 split
 ·intro _;exact app _ (by show 0≤40;omega)
 split
 ·intro h0;cases h0
 split
 ·intro h0;cases h0
 intro _;exact app _ (hf _)
theorem BH{w:AA}{n:Int}{q:AO×Bool}:(putAt w n q).1.AY=w.AY:=by
 unfold putAt;split<;>rfl
theorem tP{w:AA}{a k:Int}(h:wN w):wN (FO w a k).1:=by
 unfold FO;split
 ·exact h
 dsimp only;split
 ·exact h
 rename_i h2;intro r hr;rcases ARn hr with hr|rfl
 ·exact h r hr
 ·refine ky ?_ (by simpa using h2)
  by_cases hl:a.toNat<w.AY.length
  ·exact h _ (Ba hl)
  ·rw[List.getD,ARo (by omega)]
   intro e he;exact absurd he (by simp)
theorem Da{w w':AA}(h:wN w)(e:w'.AY=w.AY):wN w':=by
 unfold wN;rw[e];exact h
theorem wo{all:Bool}{w:AA}{d:Bh}(h:wN w):wN (He all w d).1:=by
 unfold He;by_cases c:d.1=1
 ·rw[AME c]
  clear c
  refine Da h ?_
  unfold KE
  try dsimp only
  repeat' split
  all_goals first|rfl|exact BH
 rw[AMG c];clear c;by_cases c:d.1=2
 ·rw[AME c]
  clear c
  refine Da h ?_
  unfold doAdd
  try dsimp only
  repeat' split
  all_goals first|rfl|exact BH
 rw[AMG c];clear c;by_cases c:d.1=3
 ·rw[AME c]
  clear c
  refine Da h ?_
  unfold Hh
  try dsimp only
  repeat' split
  all_goals first|rfl|exact BH
 rw[AMG c];clear c;by_cases c:d.1=4
 ·rw[AME c]
  clear c
  refine Da h ?_
  unfold MH
  try dsimp only
  repeat' split
  all_goals first|rfl|exact BH
 rw[AMG c];clear c;by_cases c:d.1=5
 ·rw[AME c]
  clear c
  refine Da h ?_
  unfold Hn
  try dsimp only
  repeat' split
  all_goals first|rfl|exact BH
 rw[AMG c];clear c;by_cases c:d.1=6
 ·rw[AME c]
  clear c
  refine Da h ?_
  unfold LF
  try dsimp only
  repeat' split
  all_goals first|rfl|exact BH
 rw[AMG c];clear c;by_cases c:d.1=7
 ·rw[AME c]
  clear c
  refine Da h ?_
  unfold LG
  try dsimp only
  repeat' split
  all_goals first|rfl|exact BH
 rw[AMG c];clear c;by_cases c:d.1=8
 ·rw[AME c]
  clear c
  refine Da h ?_
  unfold K8
  try dsimp only
  repeat' split
  all_goals first|rfl|exact BH
 rw[AMG c];clear c;by_cases c:d.1=9
 ·rw[AME c]
  clear c
  refine Da h ?_
  unfold K5
  try dsimp only
  repeat' split
  all_goals first|rfl|exact BH
 rw[AMG c];clear c;by_cases c:d.1=10
 ·rw[AME c]
  clear c
  refine Da h ?_
  unfold K4
  try dsimp only
  repeat' split
  all_goals first|rfl|exact BH
 rw[AMG c];clear c;by_cases c:d.1=11
 ·rw[AME c]
  clear c
  refine Da h ?_
  unfold Pz
  try dsimp only
  repeat' split
  all_goals first|rfl|exact BH
 rw[AMG c];clear c;by_cases c:d.1=12
 ·rw[AME c]
  clear c
  refine Da h ?_
  unfold Hm
  try dsimp only
  repeat' split
  all_goals first|rfl|exact BH
 rw[AMG c];clear c;by_cases c:d.1=13
 ·rw[AME c]
  clear c
  refine Da h ?_
  unfold Mu
  try dsimp only
  repeat' split
  all_goals first|rfl|exact BH
 rw[AMG c];clear c;by_cases c:d.1=14
 ·rw[AME c];exact tP h
 rw[AMG c];clear c;by_cases c:d.1=15
 ·rw[AME c]
  clear c
  refine Da h ?_
  unfold Lh
  try dsimp only
  repeat' split
  all_goals first|rfl|exact BH
 rw[AMG c];clear c;refine Da h ?_
 unfold Hp;split
 ·rfl
 ·exact BH
theorem q8{c:CH}{g:AQ}{sure:Int}{r:Am}{l:List BA}(h:∀e∈r.2.2.1,C6 e.2.1)(h0:(CE c g sure r l).2=0):∀e∈(CE c g sure r l).1.2.2.1,C6 e.2.1:=by
 have app:∀(ev:Bk),C6 ev.2.1→ ∀e∈r.2.2.1++[ev],C6 e.2.1:=fun ev hev e he=>by
  rcases APr.1 he with he|he
  ·exact h e he
  ·rw[AQ6.1 he];exact hev
 have hf:∀p b,(Q1 p b).2.1=p:=fun p b=>by
  cases b with
  |none=>rfl
  |some x=>unfold Q1;dsimp only;split<;>rfl
 revert h0
 unfold CE;dsimp only;split
 ·intro h0;cases h0
 rename_i Fj;have ATi:Jb c g=true∧P0 r=true:=by
  rcases AMA (Jb c g)with h1|h1
  ·rcases AMA (P0 r)with h2|h2
   ·exact⟨h1,h2⟩
   ·rw[h1,h2]at Fj;exact absurd rfl Fj
  ·rw[h1]at Fj;exact absurd rfl Fj
 have hrg:=(JP.1 ATi.1).tin;have X5:=RY.1 ATi.2;have hre:=X5.ep;have hro:=X5.off;split
 ·intro h0;cases h0
 split
 ·intro _;exact app _ hrg
 split
 ·intro _;exact app _ (QP (by show-1000≤r.1+1∧r.1+1≤1000;omega))
 split
 ·intro h0;cases h0
 split
 ·intro h0;cases h0
 intro _;refine app _ ?_
 rw[hf];unfold C6 FN;omega
theorem AAe{w:AA}{a k:Int}(h:ZL w):ZL (FO w a k).1:=by
 unfold FO;split
 ·exact h
 dsimp only;split
 ·exact h
 rename_i h2;intro r hr;rcases ARn hr with hr|rfl
 ·exact h r hr
 ·refine q8 ?_ (by simpa using h2)
  by_cases hl:a.toNat<w.AY.length
  ·exact h _ (Ba hl)
  ·rw[List.getD,ARo (by omega)]
   intro e he;exact absurd he (by simp)
theorem F9{w w':AA}(h:ZL w)(e:w'.AY=w.AY):ZL w':=by
 unfold ZL;rw[show w'.2.2.2.2.2.2.2.2.1=w.2.2.2.2.2.2.2.2.1 from e];exact h
theorem AHq{all:Bool}{w:AA}{d:Bh}(h:ZL w):ZL (He all w d).1:=by
 unfold He;by_cases c:d.1=1
 ·rw[AME c]
  clear c
  refine F9 h ?_
  unfold KE
  try dsimp only
  repeat' split
  all_goals first|rfl|exact BH
 rw[AMG c];clear c;by_cases c:d.1=2
 ·rw[AME c]
  clear c
  refine F9 h ?_
  unfold doAdd
  try dsimp only
  repeat' split
  all_goals first|rfl|exact BH
 rw[AMG c];clear c;by_cases c:d.1=3
 ·rw[AME c]
  clear c
  refine F9 h ?_
  unfold Hh
  try dsimp only
  repeat' split
  all_goals first|rfl|exact BH
 rw[AMG c];clear c;by_cases c:d.1=4
 ·rw[AME c]
  clear c
  refine F9 h ?_
  unfold MH
  try dsimp only
  repeat' split
  all_goals first|rfl|exact BH
 rw[AMG c];clear c;by_cases c:d.1=5
 ·rw[AME c]
  clear c
  refine F9 h ?_
  unfold Hn
  try dsimp only
  repeat' split
  all_goals first|rfl|exact BH
 rw[AMG c];clear c;by_cases c:d.1=6
 ·rw[AME c]
  clear c
  refine F9 h ?_
  unfold LF
  try dsimp only
  repeat' split
  all_goals first|rfl|exact BH
 rw[AMG c];clear c;by_cases c:d.1=7
 ·rw[AME c]
  clear c
  refine F9 h ?_
  unfold LG
  try dsimp only
  repeat' split
  all_goals first|rfl|exact BH
 rw[AMG c];clear c;by_cases c:d.1=8
 ·rw[AME c]
  clear c
  refine F9 h ?_
  unfold K8
  try dsimp only
  repeat' split
  all_goals first|rfl|exact BH
 rw[AMG c];clear c;by_cases c:d.1=9
 ·rw[AME c]
  clear c
  refine F9 h ?_
  unfold K5
  try dsimp only
  repeat' split
  all_goals first|rfl|exact BH
 rw[AMG c];clear c;by_cases c:d.1=10
 ·rw[AME c]
  clear c
  refine F9 h ?_
  unfold K4
  try dsimp only
  repeat' split
  all_goals first|rfl|exact BH
 rw[AMG c];clear c;by_cases c:d.1=11
 ·rw[AME c]
  clear c
  refine F9 h ?_
  unfold Pz
  try dsimp only
  repeat' split
  all_goals first|rfl|exact BH
 rw[AMG c];clear c;by_cases c:d.1=12
 ·rw[AME c]
  clear c
  refine F9 h ?_
  unfold Hm
  try dsimp only
  repeat' split
  all_goals first|rfl|exact BH
 rw[AMG c];clear c;by_cases c:d.1=13
 ·rw[AME c]
  clear c
  refine F9 h ?_
  unfold Mu
  try dsimp only
  repeat' split
  all_goals first|rfl|exact BH
 rw[AMG c];clear c;by_cases c:d.1=14
 ·rw[AME c];exact AAe h
 rw[AMG c];clear c;by_cases c:d.1=15
 ·rw[AME c]
  clear c
  refine F9 h ?_
  unfold Lh
  try dsimp only
  repeat' split
  all_goals first|rfl|exact BH
 rw[AMG c];clear c;refine F9 h ?_
 unfold Hp;split
 ·rfl
 ·exact BH
theorem yO{all:Bool}{w:AA}{d:Bh}(h:ZL w)(e:(D4 all w d).2=0):ZL (D4 all w d).1:=by
 unfold D4 at*;by_cases hc:(!Fv w|| !Mw d)=true
 ·rw[AME hc]at e;cases e
 ·rw[AMG hc];exact AHq h
theorem ux{c:CH}:ZL (Z5 c):=fun r hr=>by
 have:r=(1,1,[],()):=by
  have hr':r∈([(1,1,[],()),(1,1,[],())]:List Am):=hr;simpa using hr'
 subst this;intro e he;cases he
theorem q6{all:Bool}{w:AA}{d:Bh}(h:wN w)(e:(D4 all w d).2=0):wN (D4 all w d).1:=by
 unfold D4 at*;by_cases hc:(!Fv w|| !Mw d)=true
 ·rw[AME hc]at e;cases e
 ·rw[AMG hc];exact wo h
theorem uj{c:CH}(hc:D6 c=true):On (Z5 c)∧wN (Z5 c):=by
 refine⟨⟨hc,by simp[Z5,H.AA.A4],YU hc,.inr holds_nil,fun i hi=> ?_,⟨hc,by show 0≤30;omega,.inl rfl,fun e he=>(by cases he),fun i hi=>by exact absurd hi (by show¬i<0;omega)⟩,by show 0≤4;omega,by show 0≤1;omega,fun x hx=>(by cases hx),List.Pairwise.nil,fun x hx=>(by cases hx),rfl,fun r hr=> ?_,by show 0≤120;omega,fun x hx=>(by cases hx),List.Pairwise.nil⟩,fun r hr=> ?_⟩
 ·have:(Z5 c).A4.getD i Dm=Dm:=by
   show(List.replicate c.1.length Dm).getD i Dm=Dm
   rw[List.getD,AVy];split<;>rfl
  rw[this];exact⟨af.nil,fun _=>rfl⟩
 ·have:r=(1,1,[],()):=by
   have hr':r∈([(1,1,[],()),(1,1,[],())]:List Am):=hr;simpa using hr'
  subst this;exact⟨by show(1:Int)≤1∧(1:Int)≤31;omega,by show(1:Int)≤1∧(1:Int)≤61;omega,by show 0≤120;omega⟩
 ·have:r=(1,1,[],()):=by
   have hr':r∈([(1,1,[],()),(1,1,[],())]:List Am):=hr;simpa using hr'
  subst this;intro e he;cases he
theorem j7{c:CH}(hc:D6 c=true):Hr c=some (((((),c.2.1,(),(),(),0,(),(),(),(),false,()),true,()),()),(c.1,List.replicate c.1.length Dm,[],[],[],[],[(1,1,[],()),(1,1,[],())],[],())):=by
 have hl:=(D2 hc).2.1;unfold Hr;rw[show(c.1,c.2.1,())=c from rfl,HN (by omega),hc];simp only[AD,AMc,AMW];rw[AME (by rw[As];omega),AME ⟨by omega,by omega,by rw[As];omega⟩];rfl
def ez(x:(AKW×Unit))(y:Unit×Unit×Unit×Unit×Unit×Unit×Unit×Unit×(List Bh)×List Int×(List AO)×List Int×(List Cj)×(List AR)×(List A5)×(List Am)×(List Aj)×Unit):AA:=
 (y.2.2.2.2.2.2.2.2.2.1,x.1.2.2.1.2.1,y.2.2.2.2.2.2.2.2.2.2.1,y.2.2.2.2.2.2.2.2.2.2.2.1,y.2.2.2.2.2.2.2.2.2.2.2.2.1,x.1.2.2.1.2.2.2.2.2.1,y.2.2.2.2.2.2.2.2.2.2.2.2.2.1,y.2.2.2.2.2.2.2.2.2.2.2.2.2.2.1,y.2.2.2.2.2.2.2.2.2.2.2.2.2.2.2.1,y.2.2.2.2.2.2.2.2.2.2.2.2.2.2.2.2.1,x.1.2.2.1.2.2.2.2.2.2.2.2.2.2.1,())
section
variable{code:AAF} (hc:code.length≤2^30)
include hc
theorem ANC{T:Int}(hT:T≤1000){z1 z2:Int}{z3:Bool}:∀(n k:Nat) (i hh:Int) (w:AA) (acc:List Bh),CR code i→(k:Int)≤max T 0→(T-k).toNat<n→acc.length≤k→On w→wN w→ZL w→
  OK code (fun x y=>On (ez x y)∧wN (ez x y)∧ZL (ez x y)) (Dd n T k code i hh 0 0 false [] [] [] [] [] [] [] [] 0 0 false [] [] [] [] [] [] [] [] z1 z2 z3 w.2.1 w.2.2.2.2.2.1 w.2.2.2.2.2.2.2.2.2.2.1 w.1 w.2.2.1 w.2.2.2.1 w.2.2.2.2.1 w.2.2.2.2.2.2.1 w.2.2.2.2.2.2.2.1 w.2.2.2.2.2.2.2.2.1 w.2.2.2.2.2.2.2.2.2.1 acc):=by
 intro n
 induction n with
 |zero=>intro k i hh w acc _ _ h;omega
 |succ n ih=>
  intro k i hh w acc hi hk hn hb hw hr hv;simp only[Dd,P1];refine OK.P9 (fun FW=> ?_) (fun wP=>OK.some hi ⟨hw,hr,hv⟩);rw[show(w.1,w.2.1,w.2.2.1,w.2.2.2.1,w.2.2.2.2.1,w.2.2.2.2.2.1,w.2.2.2.2.2.2.1,w.2.2.2.2.2.2.2.1,w.2.2.2.2.2.2.2.2.1,w.2.2.2.2.2.2.2.2.2.1,w.2.2.2.2.2.2.2.2.2.2.1,())=w from rfl];refine OK.bind (lD hc hw hi) fun x i1 h1 y J6 hq=> ?_
  dsimp only;refine OK.ite (by rw[As];omega) ?_
  refine OK.pure (bp (d:=x.1) (hw.win hr) hq) ?_
  rw[AH (by omega) (by omega),show((k:Int)+1)=((k+1:Nat):Int)by omega];refine OK.E4 (fun h0=> ?_) (fun h0=> ?_)
  ·have h0':(D4 true w x.1).2=0:=h0
   exact ih (k+1) i1 h1 (D4 true w x.1).1 (acc++[x.1]) J6 (by omega) (by omega) (by simp;omega) (HB.1 (qA h0')) (q6 hr h0') (yO hv h0')
  ·exact ih (k+1) i1 h1 w (acc++[x.1]) J6 (by omega) (by omega) (by simp;omega) hw hr hv
theorem ATV{T:Int}(hT:0≤T∧T≤500){dom:AAF}{b21:AAF}(hbl:b21.length≤100)(hd:al dom 1):∀(n:Nat) (c i hh:Int),CR code i→1≤c∧c≤3→c.toNat+1000≤n→
  OK code (fun x y=>On (ez x y)∧wN (ez x y)∧ZL (ez x y)) (Ey n T code i hh 0 0 false [] [] [] [] [] [] [] [] 0 0 false [] [] [] [] [] [] [] [] c dom b21):=by
 intro n
 induction n with
 |zero=>intro c i hh _ _ h;omega
 |succ n ih=>
  intro c i hh hi th hn;have hg:al dom c:=⟨hd.1,hd.2.1,th.1,th.2,hd.2.2.2.2⟩;have zu:=hd.2.1;simp only[Ey,RT];have fin:OK code (fun x y=>On (ez x y)∧wN (ez x y)∧ZL (ez x y)) ((Hr (dom,c,())).bind fun u6=>
    (AJ (AU (T+1)) code i hh).bind fun u7=>
    Dd n u7.1.1 0 u7.2.1.1 u7.2.1.2.1 u7.2.1.2.2.1 0 0 false [] [] [] [] [] [] [] [] 0 0 false [] [] [] [] [] [] [] [] u6.1.1.1.2.1 u6.1.1.1.2.2.2.2.2.1 u6.1.1.1.2.2.2.2.2.2.2.2.2.2.1 u6.1.1.1.2.1 u6.1.1.1.2.2.2.2.2.1 u6.1.1.1.2.2.2.2.2.2.2.2.2.2.1 u6.2.1 u6.2.2.1 u6.2.2.2.1 u6.2.2.2.2.1 u6.2.2.2.2.2.1 u6.2.2.2.2.2.2.1 u6.2.2.2.2.2.2.2.1 u6.2.2.2.2.2.2.2.2.1 []):=by
   refine OK.pure (j7 hg.ok) ?_
   rw[AH (by omega) (by omega)];refine OK.bind (Bu hc hi (by omega)) fun x i1 h1 y J6 hq=> ?_
   have hwn:=uj hg.ok;exact ANC hc (T:=x.1) (by omega) n 0 i1 h1 (Z5 (dom,c,())) [] J6 (by omega) (by omega) (by simp) hwn.1 hwn.2 ux
  refine OK.P9 (fun FW=> ?_) (fun wP=>fin);refine OK.pure (Ds (by show dom.length≤_;omega) (by omega)) ?_
  refine OK.cond (fun _=> ?_) (fun _=>fin);rw[AH (by omega) (by omega)];exact ih (c-1) i hh hi (by omega) (by omega)
theorem ATT{T:Int}(hT:0≤T∧T≤500){dom:AAF}{c:Int}(hd:al dom c):∀(n k:Nat) (i hh:Int) (b:AAF),CR code i→k≤dom.length→dom.length-k+1010≤n→b.length≤k→
  OK code (fun x y=>On (ez x y)∧wN (ez x y)∧ZL (ez x y)) (Eu n T k code i hh 0 0 false [] [] [] [] [] [] [] [] 0 0 false [] [] [] [] [] [] [] [] c dom b):=by
 have zu:=hd.2.1;intro n
 induction n with
 |zero=>intro k i hh b _ _ h;omega
 |succ n ih=>
  intro k i hh b hi hk hn hb;simp only[Eu,RR];refine OK.P9 (fun FW=> ?_) (fun wP=> ?_)
  ·refine OK.ite (by rw[As];omega) ?_
   rw[AH (by omega) (by omega),show((k:Int)+1)=((k+1:Nat):Int)by omega];exact ih (k+1) i hh _ hi (by omega) (by omega) (by simp;omega)
  ·exact ATV hc hT (by omega) ⟨hd.1,hd.2.1,by omega,by omega,hd.2.2.2.2⟩ n c i hh hi ⟨hd.2.2.1,hd.2.2.2.1⟩ (by have:=hd.2.2.2.1;omega)
theorem yI{T:Int}(hT:0≤T∧T≤500){i hh:Int}(hi:CR code i):OK code (fun x y=>On (ez x y)∧wN (ez x y)∧ZL (ez x y)) (Kx T code i hh):=by
 unfold Kx Re;obtain⟨l,c,i1,h1,e,hg,J6⟩:=dJ hc (h:=hh) hi;rw[e];have hgl:=hg.2.1;exact ATT hc hT hg Ab 0 i1 h1 [] J6 (by omega) (ASa (Ae (by omega))) (by simp)
end
end Go.M
end
section
set_option maxRecDepth 8000
namespace Go.M
open Go.M.H (AK AO A5 Aj AA Cj AQ BC AR Am Bk BA Bh Ak CG AW AS AZ Ag Bi Ay Aq BB EB CP Cx C_)
abbrev ASi:AK×Unit→Unit→Prop:=fun x _=>C6 x.1.1∧x.1.2.2.2.1.length≤41
section
variable{code:AAF} (hc:code.length≤2^30)
include hc
theorem Wn{i hh:Int}(hi:CR code i):OK code (fun(x:ABW) (_:Unit)=>C6 x.1) (FG code i hh):=by
 obtain⟨v,i1,h1,e,a,b,J6⟩:=nO hc (h:=hh) hi;exact⟨(v,()),i1,h1,(),e,J6,by unfold C6;omega⟩
theorem lT{i hh:Int}(hi:CR code i):OK code ASi (Lt code i hh):=by
 unfold Lt;dsimp only;refine OK.bind (Bu hc hi (by omega)) fun x1 i1 h1 y1 J6 hq1=> ?_
 dsimp only at*;refine OK.bind (Bu hc J6 (by omega)) fun x2 i2 h2 y2 G7 gy=> ?_
 dsimp only at*;rw[AH (by omega) (by omega),AH (x:=1+x2.1) (by omega) (by omega)];refine OK.pure (Ft (by omega) (by omega)) ?_
 dsimp only;have hp:=JL (e:=1+x1.1) (o:=1+x2.1) (by omega) (by omega);have hpi:=Gl hp.1;refine OK.bind (nE hc G7 (by simp) (by simp)) fun x3 i3 h3 y3 KJ Ua=> ?_
 dsimp only at*;have hl:x3.1.length≤41:=by
  simp only[AQw,List.not_mem_nil,or_false]at Ua;rcases Ua with h|h|h|h|h<;>rw[h]<;>simp
 refine OK.bind (Qg hc KJ (by omega)) fun x4 i4 h4 y4 uA hq4=> ?_
 dsimp only;refine OK.cond (fun _=> ?_) (fun _=>OK.some uA ⟨hpi,hl⟩);refine OK.pure (ED hpi) ?_
 dsimp only;refine OK.bind (Bu hc uA (by omega)) fun x5 i5 h5 y5 hi5 hq5=> ?_
 dsimp only;refine OK.bind (Qg hc hi5 (by omega)) fun x6 i6 h6 y6 hi6 hq6=> ?_
 dsimp only;exact OK.cond (fun _=>OK.some hi6 ⟨hpi,by show 0≤41;omega⟩) (fun _=>OK.some hi6 ⟨hpi,hl⟩)
theorem fy{i hh:Int}(hi:CR code i):OK code ASi (RJ code i hh):=by
 unfold RJ;refine OK.bind (lT hc hi) fun x i h y hi hq=> ?_
 dsimp only at*;refine OK.bind (Bu hc hi (by omega)) fun x2 i2 h2 y2 G7 gy=> ?_
 dsimp only at*;refine OK.E4 (fun _=> ?_) (fun _=> ?_)
 ·refine OK.bind (Wn hc G7) fun x3 i3 h3 y3 KJ Ua=> ?_
  exact OK.some KJ ⟨Ua,hq.2⟩
 refine OK.E4 (fun _=> ?_) (fun _=> ?_)
 ·refine OK.bind (Mf hc G7 (by simp) (by simp)) fun x3 i3 h3 y3 KJ Ua=> ?_
  exact OK.some KJ hq
 refine OK.E4 (fun _=>OK.some G7 hq) (fun _=> ?_);refine OK.E4 (fun _=> ?_) (fun _=>OK.some G7 hq);refine OK.bind (Bu hc G7 (by omega)) fun x3 i3 h3 y3 KJ Ua=> ?_
 dsimp only at*;rw[AH (by omega) (by omega)];refine OK.ite (by rw[As];omega) ?_
 refine OK.some KJ ⟨hq.1,?_⟩;simp only[ASL,ASC];omega
abbrev StQ:AEf→((List AK)×(List AK)×Unit)→Prop:=fun x y=>iP (y.1,y.2.1,x.1.2.2.1,())∧y.1.length≤300∧y.2.1.length≤300∧(∀e∈y.1,Ag e≤41)∧(∀e∈y.2.1,Ag e≤41)
theorem ANH{s:AO}(h:af s):iP s∧s.1.length≤200∧s.2.1.length≤20∧(∀e∈s.1,Ag e≤41)∧(∀e∈s.2.1,Ag e≤41):=
 ⟨h.sin,h.nk,h.nl,fun e he=>by have:=(FT.1 (h.kept e he)).len;unfold Ag;omega,fun e he=>by have:=(FT.1 (h.late e he)).len;unfold Ag;omega⟩
theorem xc{x2 x3:List AK}{z:Int}{sl:Int}{l6:List AK}{i hh:Int}(hi:CR code i)(h6:eu l6∧l6.length≤20∧ ∀e∈l6,Ag e≤41):∀n:Nat,
  (∀(k:Nat) (b:List AK),1≤k→k≤5→(5-k)*60+1≤n→b.length≤(k-1)*50→eu b→(∀e∈b,Ag e≤41)→OK code StQ (Ep n k code i hh z x2 x3 sl b l6))∧
  (∀(k j:Nat) (b:List AK),1≤k→k≤4→1≤j→j≤51→(4-k)*60+1+(51-j)+1≤n→b.length≤(k-1)*50+(j-1)→eu b→(∀e∈b,Ag e≤41)→OK code StQ (Eg n k j code i hh z x2 x3 sl b l6)):=by
 intro n
 induction n with
 |zero=>exact⟨fun k b _ _ h=>by omega,fun k j b _ _ _ _ h=>by omega⟩
 |succ n ih=>
  refine⟨fun k b h1 h2 hn hb wQ pM=> ?_,fun k j b h1 h2 h3 h4 hn hb wQ pM=> ?_⟩
  ·simp only[Ep,RP]
   refine OK.P9 (fun FW=>ih.2 k 1 b h1 (by omega) (by omega) (by omega) (by omega) (by omega) wQ pM) (fun wP=> ?_);exact OK.some hi ⟨⟨wQ,h6.1⟩,by show b.length≤300;omega,by show l6.length≤300;omega,pM,h6.2.2⟩
  ·simp only[Eg,Q_]
   refine OK.P9 (fun FW=> ?_) (fun wP=> ?_)
   ·refine OK.pure (Ft (by omega) (by omega)) ?_
    dsimp only;refine OK.ite (by rw[As];omega) ?_
    rw[AH (by omega) (by omega),show((j:Int)+1)=((j+1:Nat):Int)by omega];have hp:=Gl (JL (e:=(k:Int)) (o:=(j:Int)) (by omega) (by omega)).1;refine ih.2 k (j+1) _ h1 h2 (by omega) (by omega) (by omega) (by simp;omega) (fun e he=> ?_) (fun e he=> ?_)
    ·rcases APr.1 he with he|he
     ·exact wQ e he
     ·rw[AQ6.1 he];exact hp
    ·rcases APr.1 he with he|he
     ·exact pM e he
     ·rw[AQ6.1 he];show 0≤41;omega
   ·rw[AH (by omega) (by omega),show((k:Int)+1)=((k+1:Nat):Int)by omega]
    exact ih.1 (k+1) b (by omega) (by omega) (by omega) (by omega) wQ pM
theorem AAy{x2 x3:List AK}{z:Int}{T:Int}(hT:T≤100):∀(n k:Nat) (i hh:Int) (s:AO),CR code i→(k:Int)≤max T 0→(T-k).toNat+400≤n→af s→
  OK code StQ (EN n T k code i hh z x2 x3 s.2.2.1 s.1 s.2.1):=by
 intro n
 induction n with
 |zero=>intro k i hh s _ _ h;omega
 |succ n ih=>
  intro k i hh s hi hk hn hs;have hsw:=hs.w;simp only[EN,Ru];refine OK.P9 (fun FW=> ?_) (fun wP=> ?_)
  ·rw[AH (x:=(k:Int)+1) (by omega) (by omega),show((k:Int)+1)=((k+1:Nat):Int)by omega]
   have next:∀(i hh:Int) (s:AO),CR code i→af s→OK code StQ (EN n T ((k+1:Nat):Int) code i hh z x2 x3 s.2.2.1 s.1 s.2.1):=fun i hh s hi hs=>ih (k+1) i hh s hi (by omega) (by omega) hs
   refine OK.bind (lT hc hi) fun x i1 h1 y J6 hq=> ?_
   dsimp only at*;rw[show(s.1,s.2.1,s.2.2.1,())=s from rfl,show(x.1.1,x.1.2.1,x.1.2.2.1,x.1.2.2.2.1,())=x.1 from rfl];refine OK.pure (T_ (by omega) hs.sin hq.1) ?_
   dsimp only[gv];have AC3:af (HG s x.1).1:=by
    rcases AMA (HG s x.1).2 with h2|h2
    ·exact(du h2).1
    ·unfold HG at h2⊢
     rw[DO.2 hs]at h2⊢;simp only[AMc,AMZ,AQb]at h2⊢;split at h2
     ·cases h2
     ·rename_i hn;rw[AMG hn];exact hs
   have Aap:=AC3.w;have ALF:∀s:AO,af s→(Bc s).2=true→af (Bc s).1:=fun s hs h2=>(Nd h2).2.1
   refine OK.bind (Bu hc J6 (by omega)) fun x2' i2 h2 y2 G7 gy=> ?_
   dsimp only at*;refine OK.E4 (fun _=> ?_) (fun _=> ?_)
   ·refine OK.pure (Nz (by omega) hs.sin) ?_
    dsimp only[gv];exact OK.cond (fun hb=>next _ _ _ G7 (ALF s hs hb)) (fun _=>next _ _ _ G7 hs)
   refine OK.E4 (fun _=> ?_) (fun _=> ?_)
   ·refine OK.pure (Nz (s:=(HG s x.1).1) (by omega) AC3.sin) ?_
    dsimp only[gv];exact OK.cond (fun hb=>next _ _ _ G7 (ALF _ AC3 hb)) (fun _=>next _ _ _ G7 hs)
   refine OK.E4 (fun _=> ?_) (fun _=> ?_)
   ·refine OK.bind (Qg hc G7 (by omega)) fun x3 i3 h3 y3 KJ Ua=> ?_
    dsimp only;refine OK.cond (fun _=> ?_) (fun _=> ?_)
    ·refine OK.bind (Bu hc KJ (by omega)) fun x4 i4 h4 y4 uA hq4=> ?_
     dsimp only at*;refine OK.pure (YD (by omega) hs.sin) ?_
     dsimp only[gv];exact OK.cond (fun hb=>next _ _ _ uA (p8 hs)) (fun _=>next _ _ _ uA hs)
    ·exact OK.cond (fun hb=>next _ _ _ KJ AC3) (fun _=>next _ _ _ KJ hs)
   ·exact OK.cond (fun hb=>next _ _ _ G7 AC3) (fun _=>next _ _ _ G7 hs)
  ·refine OK.bind (Qg hc hi (by omega)) fun x3 i3 h3 y3 KJ Ua=> ?_
   dsimp only;have hq:=ANH hc hs;refine OK.cond (fun _=> ?_) (fun _=>OK.some KJ ⟨hq.1,by have:=hq.2.1;show s.1.length≤300;omega,by have:=hq.2.2.1;show s.2.1.length≤300;omega,hq.2.2.2.1,hq.2.2.2.2⟩);exact(xc hc KJ ⟨hq.1.2,hq.2.2.1,hq.2.2.2.2⟩ n).1 1 [] (by omega) (by omega) (by omega) (by simp) (fun e he=>by simp at he) (fun e he=>by simp at he)
theorem oe{i hh:Int}(hi:CR code i):OK code StQ (GD code i hh):=by
 unfold GD Sn;refine OK.bind (Bu hc hi (by omega)) fun x2' i2 h2 y2 G7 gy=> ?_
 dsimp only at*;exact AAy hc (T:=x2'.1) (by omega) Ab 0 i2 h2 Dm G7 (by omega) (ASa (Ae (by omega))) af.nil
abbrev AV7:AEf→((List AK)×(List AK)×Unit)→Prop:=fun x y=>iP (y.1,y.2.1,x.1.2.2.1,())∧Ak (y.1,y.2.1,x.1.2.2.1,())≤40000
theorem i7{s:AO}(h1:iP s)(h2:s.1.length≤310)(h3:s.2.1.length≤330)(h4:∀e∈s.1,Ag e≤41)(h5:∀e∈s.2.1,Ag e≤41):iP s∧Ak s≤40000:=by
 have a:=EA (f:=Ag) (B:=41) h2 h4;have b:=EA (f:=Ag) (B:=41) h3 h5;refine⟨h1,?_⟩;unfold Ak;omega
theorem zf{x2 x3:List AK}{z sl:Int}{l5:List AK}(h5:eu l5∧l5.length≤300∧ ∀e∈l5,Ag e≤41):∀(n:Nat) (i hh:Int) (b:List AK),CR code i→330-b.length<n→b.length≤310→eu b→(∀e∈b,Ag e≤41)→
  OK code AV7 (M8 n code i hh z x2 x3 sl l5 b):=by
 intro n
 induction n with
 |zero=>intro i hh b _ h;omega
 |succ n ih=>
  intro i hh b hi hn hb wQ pM;simp only[M8,XQ];refine OK.bind (Bu hc hi (by omega)) fun x i2 h2 y2 G7 gy=> ?_
  dsimp only at*;rw[AH (by omega) (by omega)];refine OK.P9 (fun FW=> ?_) (fun _=>OK.some G7 (i7 hc ⟨h5.1,wQ⟩ (by show l5.length≤_;omega) (by show b.length≤_;omega) h5.2.2 pM));refine OK.pure (Ft (by omega) (by omega)) ?_
  dsimp only;refine OK.ite (by rw[As];omega) ?_
  have hp:=Gl (JL (e:=5) (o:=1) (by omega) (by omega)).1;refine ih i2 h2 _ G7 (by simp;omega) (by simp;omega) (fun e he=> ?_) (fun e he=> ?_)
  ·rcases APr.1 he with he|he
   ·exact wQ e he
   ·rw[AQ6.1 he];exact hp
  ·rcases APr.1 he with he|he
   ·exact pM e he
   ·rw[AQ6.1 he];show 0≤41;omega
theorem ABG{i hh:Int}(hi:CR code i):OK code AV7 (U0 code i hh):=by
 unfold U0 Yz;refine OK.bind (oe hc hi) fun x i1 h1 y J6 hq=> ?_
 dsimp only at*;obtain⟨q1,q2,q3,q4,q5⟩:=hq;have base:iP (y.1,y.2.1,x.1.2.2.1,())∧Ak (y.1,y.2.1,x.1.2.2.1,())≤40000:=i7 hc q1 (by show y.1.length≤_;omega) (by show y.2.1.length≤_;omega) q4 q5;have add:∀{l:List AK} {e:AK},(∀x∈l,Ag x≤41)→Ag e≤41→ ∀x∈l++[e],Ag x≤41:=fun h1 h2 x hx=>by
  rcases APr.1 hx with hx|hx
  ·exact h1 x hx
  ·rw[AQ6.1 hx];exact h2
 have AUX:∀{l:List AK} {e:AK},eu l→C6 e.1→eu (l++[e]):=fun h1 h2 x hx=>by
  rcases APr.1 hx with hx|hx
  ·exact h1 x hx
  ·rw[AQ6.1 hx];exact h2
 refine OK.bind (Bu hc J6 (by omega)) fun x2 i2 h2 y2 G7 gy=> ?_
 dsimp only at*;refine OK.E4 (fun _=> ?_) (fun _=> ?_)
 ·refine OK.bind (Mf hc G7 (by simp) (by simp)) fun x3 i3 h3 y3 KJ Ua=> ?_
  exact OK.some KJ base
 refine OK.E4 (fun _=> ?_) (fun _=> ?_)
 ·refine OK.bind (fy hc G7) fun x3 i3 h3 y3 KJ Ua=> ?_
  dsimp only;refine OK.ite (by rw[As];omega) ?_
  exact OK.some KJ (i7 hc ⟨AUX q1.1 Ua.1,q1.2⟩ (by show(y.1++[_]).length≤_;simp;omega) (by show y.2.1.length≤_;omega) (add q4 Ua.2) q5)
 refine OK.E4 (fun _=> ?_) (fun _=> ?_)
 ·refine OK.bind (fy hc G7) fun x3 i3 h3 y3 KJ Ua=> ?_
  dsimp only;refine OK.ite (by rw[As];omega) ?_
  exact OK.some KJ (i7 hc ⟨q1.1,AUX q1.2 Ua.1⟩ (by show y.1.length≤_;omega) (by show(y.2.1++[_]).length≤_;simp;omega) q4 (add q5 Ua.2))
 refine OK.E4 (fun _=> ?_) (fun _=>OK.some G7 base);exact zf hc ⟨q1.1,q2,q4⟩ Ab i2 h2 y.2.1 G7 (Ae (by omega)) (by omega) q1.2 q5
end
end Go.M
end
section
set_option maxRecDepth 8000
namespace Go.M
open Go.M.H (AK AO A5 Aj AA Cj AQ BC AR Am Bk BA Bh Ak CG AW AS AZ Ag Bi Ay Aq BB EB CP Cx C_)
theorem iU{α:Type}{f:α→Nat}{x:α}:∀{l:List α} {i:Nat},AW f (l.set i x)≤AW f l+f x
 |[],i=>by simp[AW]
 |y::l,0=>by simp only[AR7,AW];omega
 |y::l,i+1=>by
  have:=iU (f:=f) (x:=x) (l:=l) (i:=i);simp only[List.set_cons_succ,AW];omega
abbrev AVi:ACq→((List Cj)×Unit)→Prop:=fun x y=>AW Bi y.1≤300000∧C6 x.1.2.1
def nS(c:CH)(r:AQ):Prop:=yt c r∨r=([],0,())
theorem nS.w{c:CH}{r:AQ}(h:nS c r):AW Bi r.1≤270:=by
 rcases h with h|rfl
 ·exact h.w
 ·show 0≤270;omega
theorem nS.n{c:CH}{r:AQ}(h:nS c r):r.1.length≤30:=by
 rcases h with h|rfl
 ·exact h.n
 ·show 0≤30;omega
theorem nS.tin{c:CH}{r:AQ}(h:nS c r):C6 r.2.1:=by
 rcases h with h|rfl
 ·exact h.tin
 ·exact QP (by show-1000≤(0:Int)∧(0:Int)≤1000;omega)
section
variable{code:AAF} (hc:code.length≤2^30) {c:CH} (ZF:c.1.length≤2^10)
include hc ZF
theorem xy{z:Int}{x3:List Cj}:∀(n k:Nat) (i hh:Int) (r:AQ),CR code i→k≤7→7-k<n→nS c r→
  OK code (fun(x:ACq) (y:List Cj×Unit)=>nS c (y.1,x.1.2.1,())) (Gy n k code i hh c.1 c.2.1 z x3 r.2.1 r.1):=by
 intro n
 induction n with
 |zero=>intro k i hh r _ _ h;omega
 |succ n ih=>
  intro k i hh r hi hk hn hr;have hrw:=hr.w;have hrt:=hr.tin;simp only[Gy,Sl];refine OK.bind (Bu hc hi (by omega)) fun x i1 h1 y J6 hq=> ?_
  dsimp only at*;refine OK.P9 (fun FW=> ?_) (fun _=>OK.some J6 hr);rw[AH (x:=(k:Int)+1) (by omega) (by omega),show((k:Int)+1)=((k+1:Nat):Int)by omega];have next:∀(i hh:Int) (r:AQ),CR code i→nS c r→OK code (fun(x:ACq) (y:List Cj×Unit)=>nS c (y.1,x.1.2.1,())) (Gy n ((k+1:Nat):Int) code i hh c.1 c.2.1 z x3 r.2.1 r.1):=fun i hh r hi hr=>ih (k+1) i hh r hi (by omega) (by omega) hr
  rw[show(c.1,c.2.1,())=c from rfl,show(r.1,r.2.1,())=r from rfl];refine OK.bind (fY hc (by omega) J6) fun x2 i2 h2 y2 G7 gy=> ?_
  dsimp only at*;refine OK.pure (bX (by omega) (by omega) hrt (by omega)) ?_
  dsimp only;refine OK.bind (Bu hc G7 (by omega)) fun x3 i3 h3 y3 KJ Ua=> ?_
  dsimp only at*;refine OK.E4 (fun _=> ?_) (fun _=> ?_)
  ·refine OK.bind (Bu hc KJ (by omega)) fun x4 i4 h4 y4 uA hq4=> ?_
   dsimp only at*;refine OK.pure (Z3 (by omega) (by omega) hrt) ?_
   dsimp only[pkR];exact OK.cond (fun hb=>next _ _ (Ih c r _ _).1 uA (.inl (dN hb).2.1)) (fun _=>next _ _ r uA hr)
  refine OK.E4 (fun _=> ?_) (fun _=> ?_)
  ·refine OK.bind (Bu hc KJ (by omega)) fun x4 i4 h4 y4 uA hq4=> ?_
   dsimp only at*;refine OK.bind (Bu hc uA (by omega)) fun x5 i5 h5 y5 hi5 hq5=> ?_
   dsimp only at*;rw[AH (by omega) (by omega),AH (x:=1+x5.1) (by omega) (by omega)];refine OK.pure (Ft (by omega) (by omega)) ?_
   dsimp only;have hp:=Gl (JL (e:=1+x4.1) (o:=1+x5.1) (by omega) (by omega)).1;refine OK.pure (cG (by omega) (by omega) hrt hp) ?_
   dsimp only[pkR];exact OK.cond (fun hb=>next _ _ (LR c r _).1 hi5 (.inl (gY hb).2.1)) (fun _=>next _ _ r hi5 hr)
  ·exact OK.cond (fun hb=>next _ _ (GR c r _).1 KJ (.inl (gT hb).2.1)) (fun _=>next _ _ r KJ hr)
theorem wE{i hh:Int}(hi:CR code i):OK code (fun(x:ACq) (y:List Cj×Unit)=>nS c (y.1,x.1.2.1,())) (PS c code i hh):=by
 unfold PS S1;exact xy hc ZF Ab 0 i hh ([],0,()) hi (by omega) (Ae (by omega)) (.inr rfl)
omit ZF in
theorem xE{ns:AAF}(hns:ns.length≤2^13){z t:Int}{x2:List Cj}(ht:C6 t):∀(n:Nat) (i hh:Int) (b:List Cj),CR code i→40-b.length<n→b.length≤31→AW Bi b≤300+b.length*(2^13+1)→
  OK code AVi (NJ n ns code i hh z x2 t b):=by
 intro n
 induction n with
 |zero=>intro i hh b _ h;omega
 |succ n ih=>
  intro i hh b hi hn hb hw;simp only[NJ,X0];refine OK.bind (Bu hc hi (by omega)) fun x i1 h1 y J6 hq=> ?_
  dsimp only at*;rw[AH (by omega) (by omega)];refine OK.P9 (fun FW=> ?_) (fun _=>OK.some J6 ⟨by show AW Bi b≤_;omega,ht⟩);refine OK.ite (by rw[As];omega) ?_
  refine ih i1 h1 _ J6 (by simp;omega) (by simp;omega) ?_
  have:Bi (ns,false,0,())=ns.length:=rfl;rw[I8];simp only[AW,AOq,AN0,APv];omega
theorem wc{i hh:Int}(hi:CR code i):OK code AVi (VB c code i hh):=by
 unfold VB YS;rw[show(c.1,c.2.1,())=c from rfl];refine OK.bind (wE hc ZF hi) fun x i1 h1 y J6 hq=> ?_
 dsimp only at*;have hrw:AW Bi y.1≤270:=hq.w;have hrn:y.1.length≤30:=hq.n;have hrt:C6 x.1.2.1:=hq.tin;have Tk:∀{i:Nat} {e:Cj},Bi e≤2^13→AW Bi (y.1.set i e)≤300000:=fun he=>by
  have:=iU (f:=Bi) (x:= ‹Cj›) (l:=y.1) (i:= ‹Nat›);omega
 have uQ:∀i,i<y.1.length→Bi (y.1.getD i ([],false,0,()))≤270:=fun i hi=>by
  have:=AZ (f:=Bi) (Ba (d:=C9) hi);have h2:Bi (y.1.getD i C9)≤270:=by omega
  exact h2
 have base:AW Bi y.1≤300000∧C6 x.1.2.1:=⟨by omega,hrt⟩;refine OK.bind (Bu hc J6 (by omega)) fun x2 i2 h2 y2 G7 gy=> ?_
 dsimp only at*;refine OK.E4 (fun _=> ?_) (fun _=> ?_)
 ·refine OK.bind (Wn hc G7) fun x3 i3 h3 y3 KJ Ua=> ?_
  exact OK.some KJ ⟨by show AW Bi y.1≤_;omega,Ua⟩
 refine OK.E4 (fun _=> ?_) (fun _=> ?_)
 ·refine OK.P9 (fun FW=> ?_) (fun _=>OK.some G7 base)
  rw[AH (by omega) (by omega)];refine OK.ite (by omega) ?_
  refine OK.some G7 ⟨Tk ?_,hrt⟩;have:=uQ ((y.1.length:Int)-1).toNat (by omega);have h3:Bi ((y.1.getD ((y.1.length:Int)-1).toNat ([],false,0,())).1,true,(y.1.getD ((y.1.length:Int)-1).toNat ([],false,0,())).2.2.1,())=Bi (y.1.getD ((y.1.length:Int)-1).toNat ([],false,0,())):=rfl;rw[h3];omega
 refine OK.E4 (fun _=> ?_) (fun _=> ?_)
 ·refine OK.P9 (fun FW=> ?_) (fun _=>OK.some G7 base)
  refine OK.bind (Mf hc G7 (by simp) (by simp)) fun x3 i3 h3 y3 KJ Ua=> ?_
  dsimp only;refine OK.ite (by omega) ?_
  refine OK.some KJ ⟨Tk ?_,hrt⟩;have:=uQ 0 (by omega);have h4:Bi ((y.1.getD 0 ([],false,0,())).1,(y.1.getD 0 ([],false,0,())).2.1,x3.1,())=Bi (y.1.getD 0 ([],false,0,())):=rfl;rw[h4];omega
 refine OK.E4 (fun _=> ?_) (fun _=> ?_)
 ·refine OK.P9 (fun FW=> ?_) (fun _=>OK.some G7 base)
  refine OK.bind (Rm hc (by omega) G7) fun x3 i3 h3 y3 KJ Ua=> ?_
  dsimp only;refine OK.ite (by omega) ?_
  refine OK.some KJ ⟨Tk ?_,hrt⟩
  show y3.1.length≤_
  omega
 refine OK.E4 (fun _=> ?_) (fun _=>OK.some G7 base);refine OK.bind (fY hc (by omega) G7) fun x3 i3 h3 y3 KJ Ua=> ?_
 dsimp only;exact xE hc Ua hrt Ab i3 h3 y.1 KJ (Ae (by omega)) (by omega) (by omega)
end
section
variable{code:AAF} (hc:code.length≤2^30) {c:CH} (hcf:D6 c=true)
include hc hcf
theorem AC8{l:AAF}(hl:l.length≤100){m:A5}(hm:m.2.2.1.length≤100):∃l',Mn c m=some (((),()),(l',()))∧l'.length≤1000:=by
 have ZF:=(D2 hcf).2.1;have key:∀(n k:Nat) (b:AAF),k≤c.1.length→c.1.length-k<n→b.length≤100+k→ ∃l',M_ n k c.1 c.2.1 b=some (((),()),(l',()))∧l'.length≤1000:=by
  intro n
  induction n with
  |zero=>intro k b _ h;omega
  |succ n ih=>
   intro k b hk hn hb;simp only[M_,Xs,AB,Aw];by_cases FW:(k:Int)<(c.1.length:Int)
   ·rw[AME FW,show(c.1,c.2.1,())=c from rfl,Ds (by omega) (by omega),K7 (by omega)]
    simp only[AD];rw[AH (by omega) (by omega),show((k:Int)+1)=((k+1:Nat):Int)by omega];have:=S8 (n:=(k:Int)) (l:=b);obtain⟨l',e,h'⟩:=ih (k+1) (LA (k:Int) b) (by omega) (by omega) (by omega);rw[e];cases holds c b with
    |true=>exact⟨b,rfl,by omega⟩
    |false=>exact⟨l',rfl,h'⟩
   ·rw[AMG FW]
    exact⟨b,rfl,by omega⟩
 unfold Mn Xt;rw[AME (by rw[As];omega)];exact key Ab 0 m.2.2.1 (by omega) (Ae (by omega)) (by omega)
theorem uH{m:A5}{o n:Int}(h:(SX c m o n).2=true):jY c (SX c m o n).1:=by
 unfold SX at*;rcases AMA (Fb c m)with hm|hm
 rotate_left
 ·rw[hm]at h;cases h
 rw[hm]at h⊢;simp only[AMc,AMZ,AQb]at h⊢;split at h
 ·rename_i hq
  rw[AME hq];have Pu:=Gj.1 hm;rw[AMY,Ao,Ao]at hq;refine⟨Pu.cfg,Pu.ep,Pu.b,Pu.sld,Pu.uE,Pu.seen,fun l hl=> ?_,by simp only[ARh];exact Pu.n⟩;rcases ARn hl with hl|rfl
  ·exact Pu.wrote l hl
  ·exact Kq (Pu.wrote _ (Ba (by omega))) (by omega)
 ·cases h
abbrev ACB(x:AED)(y:List Int×(List AK)×List AAF×Unit):A5:=(x.1.1,x.1.2.1,y.1,y.2.1,x.1.2.2.2.2.1,y.2.2.1,())
theorem ln{z1 z2:Int}{z3:Bool}{x3:AAF}{x4:List AK}{x5:List AAF}:∀(n k:Nat) (i hh:Int) (m:A5),CR code i→k≤9→9-k<n→jY c m→
  OK code (fun x y=>jY c (ACB x y)) (BO n k code i hh c.1 c.2.1 z1 z2 z3 x3 x4 x5 m.1 m.2.1 m.2.2.2.2.1 m.2.2.1 m.2.2.2.1 m.2.2.2.2.2.1):=by
 have ZF:=(D2 hcf).2.1;intro n
 induction n with
 |zero=>intro k i hh m _ _ h;omega
 |succ n ih=>
  intro k i hh m hi hk hn hm;have wh:=hm.w;have Aae:=(Hb (m:=m) (by omega)).2.2.1;simp only[BO,Lf];refine OK.bind (Bu hc hi (by omega)) fun x i1 h1 y J6 hq=> ?_
  dsimp only at*;refine OK.P9 (fun FW=> ?_) (fun _=>OK.some J6 hm);rw[AH (x:=(k:Int)+1) (by omega) (by omega),show((k:Int)+1)=((k+1:Nat):Int)by omega];refine OK.pure I6 ?_
  dsimp only;refine OK.bind (Bu hc J6 (by omega)) fun x2 i2 h2 y2 G7 gy=> ?_
  dsimp only at*;refine OK.bind (Bu hc G7 (by omega)) fun x3 i3 h3 y3 KJ Ua=> ?_
  dsimp only at*;rw[show(c.1,c.2.1,())=c from rfl,show(m.1,m.2.1,m.2.2.1,m.2.2.2.1,m.2.2.2.2.1,m.2.2.2.2.2.1,())=m from rfl];refine OK.pure (cB (by omega) (by omega) hm.wX) ?_
  dsimp only[fU];exact OK.cond (fun hb=>ih (k+1) _ _ _ KJ (by omega) (by omega) (uH hc hcf hb)) (fun _=>ih (k+1) _ _ m KJ (by omega) (by omega) hm)
theorem yC{T:Int}(hT:T≤100){z1 z2:Int}{z3:Bool}{x3:AAF}{x4:List AK}{x5:List AAF}:∀(n k:Nat) (i hh:Int) (m:A5),CR code i→(k:Int)≤max T 0→(T-k).toNat+20≤n→jY c m→
  OK code (fun x y=>jY c (ACB x y)) (B9 n T k code i hh c.1 c.2.1 z1 z2 z3 x3 x4 x5 m.1 m.2.1 m.2.2.2.2.1 m.2.2.1 m.2.2.2.1 m.2.2.2.2.2.1):=by
 have ZF:=(D2 hcf).2.1;intro n
 induction n with
 |zero=>intro k i hh m _ _ h;omega
 |succ n ih=>
  intro k i hh m hi hk hn hm;have wh:=hm.w;have Aae:=Hb (m:=m) (by omega);have hsl:=HA hm.sld;simp only[B9,Md];rw[show(c.1,c.2.1,())=c from rfl,show(m.1,m.2.1,m.2.2.1,m.2.2.2.1,m.2.2.2.2.1,m.2.2.2.2.2.1,())=m from rfl];refine OK.P9 (fun FW=> ?_) (fun _=> ?_)
  ·rw[AH (x:=(k:Int)+1) (by omega) (by omega),show((k:Int)+1)=((k+1:Nat):Int)by omega]
   refine OK.bind (Bu hc hi (by omega)) fun x i1 h1 y J6 hq=> ?_
   dsimp only at*;refine OK.bind (oe hc J6) fun x2 i2 h2 y2 G7 gy=> ?_
   dsimp only at*;obtain⟨q1,q2,q3,q4,q5⟩:=gy;have sq:=i7 hc (s:=(y2.1,y2.2.1,x2.1.2.2.1,())) q1 (by show y2.1.length≤_;omega) (by show y2.2.1.length≤_;omega) q4 q5;refine OK.pure (Z9 (s:=(y2.1,y2.2.1,x2.1.2.2.1,())) (by omega) q1) ?_
   dsimp only;have hes:(Gk (y2.1,y2.2.1,x2.1.2.2.1,()) m.2.1).length≤300∧eu (Gk (y2.1,y2.2.1,x2.1.2.2.1,()) m.2.1)∧AW Ag (Gk (y2.1,y2.2.1,x2.1.2.2.1,()) m.2.1)≤40000:=by
    unfold Gk;split
    ·refine⟨ARV (ARZ _ _) q2,fun e he=>q1.1 e (ASH.1 he).1,ARV eW ?_⟩
     have h2:=sq.2;unfold Ak at h2;dsimp only at h2⊢;omega
    ·exact⟨by simp,fun e he=>(by simp at he),by simp[AW]⟩
   refine OK.pure (aM (by omega) (by omega) hm.wX (by omega) hes.2.1 (by omega)) ?_
   dsimp only[fU];exact OK.cond (fun hb=>ih (k+1) _ _ _ G7 (by omega) (by omega) (lR hb).2.1) (fun _=>ih (k+1) _ _ m G7 (by omega) (by omega) hm)
  ·refine OK.bind (Qg hc hi (by omega)) fun x i1 h1 y J6 hq=> ?_
   dsimp only;refine OK.cond (fun _=>OK.some J6 hm) (fun _=> ?_);obtain⟨l',e,i_⟩:=AC8 hc hcf (l:=[]) (by simp) (m:=m) (by omega);refine OK.pure e ?_
   dsimp only;refine OK.pure (Z2 (by omega) (by omega) hm.wX (by omega)) ?_
   dsimp only[fU];exact OK.cond (fun hb=>ln hc hcf n 0 i1 h1 _ J6 (by omega) (by omega) (lL hb).2.1) (fun _=>ln hc hcf n 0 i1 h1 m J6 (by omega) (by omega) hm)
theorem uT{i hh:Int}(hi:CR code i):OK code (fun x y=>jY c (ACB x y)) (ME c code i hh):=by
 unfold ME Mb;refine OK.bind (Bu hc hi (by omega)) fun x i1 h1 y J6 hq=> ?_
 dsimp only at*;rw[AH (by omega) (by omega)];unfold Mk;simp only[AD];refine OK.bind (Bu hc J6 (by omega)) fun x2 i2 h2 y2 G7 gy=> ?_
 dsimp only at*;exact yC hc hcf (T:=x2.1) (by omega) Ab 0 i2 h2 (4,1+x.1,[],[],false,[],()) G7 (by omega) (ASa (Ae (by omega))) ⟨hcf,by show 1≤1+x.1∧1+x.1≤30;omega,by show 1+x.1+1≤4∧(4:Int)≤30;omega,YU hcf,List.Pairwise.nil,fun e he=>(by cases he),fun l hl=>(by cases hl),rfl⟩
abbrev AWC:AHZ×Unit→List Int×(List AK)×List AAF×Unit→Prop:=fun x y=>CG (ACB x y)≤20000∧eu y.2.1
theorem yL{i hh:Int}(hi:CR code i):OK code AWC (Uq c code i hh):=by
 have ZF:=(D2 hcf).2.1;unfold Uq;rw[show(c.1,c.2.1,())=c from rfl];refine OK.bind (uT hc hcf hi) fun x i1 h1 y J6 hq=> ?_
 dsimp only at*;have hw:=hq.w;have he:eu y.2.1:=hq.wX;have hu:CG (ACB x y)=y.1.length+AW Ag y.2.1+AW C_ y.2.2.1:=rfl;have hl1:=AS (f:=C_) (l:=y.2.2.1);have uF:=AS (f:=Ag) (l:=y.2.1);have mk:∀{x':AED} {a:AAF} {b:List AK} {d:List AAF},a.length+AW Ag b+AW C_ d≤20000→eu b→AWC x' (a,b,d,()):=fun h1 h2=>⟨h1,h2⟩
 refine OK.bind (Bu hc J6 (by omega)) fun x2 i2 h2 y2 G7 gy=> ?_
 dsimp only at*;refine OK.E4 (fun _=> ?_) (fun _=> ?_)
 ·refine OK.bind (Mf hc G7 (by simp) (by simp)) fun x3 i3 h3 y3 KJ Ua=> ?_
  exact OK.some KJ (mk (by omega) he)
 refine OK.E4 (fun _=>OK.some G7 (mk (by omega) he)) (fun _=> ?_);refine OK.E4 (fun _=> ?_) (fun _=> ?_)
 ·refine OK.bind (Rm hc (by omega) G7) fun x3 i3 h3 y3 KJ Ua=> ?_
  dsimp only;refine OK.ite (by rw[As];omega) ?_
  refine OK.some KJ (mk ?_ he);rw[I8];have:C_ y3.1=y3.1.length:=rfl;simp only[AW];omega
 refine OK.E4 (fun _=> ?_) (fun _=> ?_)
 ·refine OK.bind (fy hc G7) fun x3 i3 h3 y3 KJ Ua=> ?_
  dsimp only;refine OK.ite (by rw[As];omega) ?_
  refine OK.some KJ (mk ?_ (fun e he' => ?_))
  ·rw[I8]
   have:Ag (x3.1.1,x3.1.2.1,x3.1.2.2.1,x3.1.2.2.2.1,())=x3.1.2.2.2.1.length:=rfl;simp only[AW];have:=Ua.2;omega
  ·rcases APr.1 he' with he'|he'
   ·exact he e he'
   ·rw[AQ6.1 he'];exact Ua.1
 refine OK.E4 (fun _=> ?_) (fun _=>OK.some G7 (mk (by omega) he));refine OK.bind (Rm hc (by omega) G7) fun x3 i3 h3 y3 KJ Ua=> ?_
 dsimp only at*;exact OK.some KJ (mk (by omega) he)
end
end Go.M
end
section
set_option maxRecDepth 8000
namespace Go.M
open Go.M.H (AK AO A5 Aj AA Cj AQ BC AR Am Bk BA Bh Ak CG AW AS AZ Ag Bi Ay Aq BB EB CP Cx C_)
abbrev AWD:AEj→((List Bk)×Unit)→Prop:=fun x y=>y.1.length≤130∧ ∀e∈y.1,CP e≤40∧C6 e.2.1
section
variable{code:AAF} (hc:code.length≤2^30)
include hc
theorem AA5{z1 z2 e o:Int}{x3:List Bk}:∀(n k:Nat) (i hh:Int) (b:List Bk),CR code i→k≤4→4-k<n→b.length≤k→(∀e∈b,CP e≤40∧C6 e.2.1)→
  OK code AWD (HJ n k code i hh z1 z2 x3 e o b):=by
 intro n
 induction n with
 |zero=>intro k i hh b _ _ h;omega
 |succ n ih=>
  intro k i hh b hi hk hn hb pM;simp only[HJ,P_];refine OK.bind (Bu hc hi (by omega)) fun x i1 h1 y J6 hq=> ?_
  dsimp only at*;have base:b.length≤130∧ ∀e∈b,CP e≤40∧C6 e.2.1:=⟨by omega,pM⟩;refine OK.P9 (fun FW=> ?_) (fun _=> ?_)
  ·refine OK.bind (Bu hc J6 (by omega)) fun x2 i2 h2 y2 G7 gy=> ?_
   dsimp only at*;refine OK.bind (Wn hc G7) fun x3 i3 h3 y3 KJ Ua=> ?_
   dsimp only;refine OK.ite (by rw[As];omega) ?_
   rw[AH (x:=(k:Int)+1) (by omega) (by omega),show((k:Int)+1)=((k+1:Nat):Int)by omega];refine ih (k+1) _ _ _ KJ (by omega) (by omega) (by simp;omega) (fun e he=> ?_);rcases APr.1 he with he|he
   ·exact pM e he
   ·rw[AQ6.1 he];exact⟨by show 0≤40;omega,Ua⟩
  ·refine OK.bind (Bu hc J6 (by omega)) fun x2 i2 h2 y2 G7 gy=> ?_
   dsimp only at*;refine OK.E4 (fun _=> ?_) (fun _=> ?_)
   ·refine OK.bind (Mf hc G7 (by simp) (by simp)) fun x3 i3 h3 y3 KJ Ua=> ?_
    exact OK.some KJ base
   refine OK.E4 (fun _=> ?_) (fun _=> ?_)
   ·refine OK.bind (Mf hc G7 (by simp) (by simp)) fun x3 i3 h3 y3 KJ Ua=> ?_
    exact OK.some KJ base
   refine OK.E4 (fun _=> ?_) (fun _=>OK.some G7 base);refine OK.bind (Bu hc G7 (by omega)) fun x3 i3 h3 y3 KJ Ua=> ?_
   dsimp only at*;rw[AH (by omega) (by omega)];refine OK.ite (by rw[As];omega) ?_
   refine OK.some KJ ⟨by show(List.replicate _ _).length≤130;rw[ASC];omega,fun e he=> ?_⟩;rw[(List.mem_replicate.1 he).2];exact⟨by show 0≤40;omega,QP (by show-1000≤(0:Int)∧(0:Int)≤1000;omega)⟩
theorem yP{i hh:Int}(hi:CR code i):OK code AWD (Jq code i hh):=by
 unfold Jq QD;refine OK.bind (Bu hc hi (by omega)) fun x i1 h1 y J6 hq=> ?_
 dsimp only at*;refine OK.bind (Bu hc J6 (by omega)) fun x2 i2 h2 y2 G7 gy=> ?_
 exact AA5 hc Ab 0 _ _ [] G7 (by omega) (Ae (by omega)) (by simp) (fun e he=>by simp at he)
theorem AA4{c:CH}(ZF:c.1.length≤2^10){i hh:Int}(hi:CR code i):OK code (fun(x:AEi) (y:(List BC)×Unit)=>AW Ay y.1≤4000) (OJ c code i hh):=by
 obtain⟨w',i1,h1,e,hw,J6⟩:=AA8 hc (c:=c) (by omega) (h:=hh) hi;exact⟨_,i1,h1,_,e,J6,hw⟩
theorem wv{i hh:Int}(hi:CR code i):OK code (fun(x:ACq) (y:AAF×Unit)=>y.1.length≤9) (Q9 code i hh):=by
 obtain⟨l,c',i1,h1,e,hl,J6⟩:=zo hc (h:=hh) hi;exact⟨_,i1,h1,(l,()),e,J6,hl⟩
abbrev dwW(x:AEl)(y:List Int×(List AO)×List Int×(List Cj)×(List AR)×(List A5)×(List Am)×(List Aj)×Unit):AA:=
 (y.1,x.1.2.1,y.2.1,y.2.2.1,y.2.2.2.1,x.1.2.2.2.2.2.1,y.2.2.2.2.1,y.2.2.2.2.2.1,y.2.2.2.2.2.2.1,y.2.2.2.2.2.2.2.1,x.1.2.2.2.2.2.2.2.2.2.2.1,())
def AOQ(w:AA):Prop:=(lH w∧ZL w)∧Cx w≤730000∧AW BB w.2.2.2.2.2.2.2.2.1≤50000
omit hc in
theorem mkW{c:AAF}{m tr:Int}{st:List AO}{lo:AAF}{er:List Cj}{wr:List AR}{md:List A5}{rd:List Am}{se:List Aj}{to:Bool}
  (h1:c.length≤100) (h2:AW Ak st≤200000) (h3:lo.length≤5000) (h4:AW Bi er≤300000) (h5:AW Aq wr≤50000) (h6:AW CG md≤100000) (h7:AW BB rd≤50000) (h8:AW EB se≤20000)
  (k1:∀s∈st,iP s) (k2:C6 tr) (k3:∀m∈md,eu m.2.2.2.1) (k4:∀s∈se,C6 s.1) (k5:∀r∈rd,∀e∈r.2.2.1,C6 e.2.1):AOQ (c,m,st,lo,er,tr,wr,md,rd,se,to,()):=
 ⟨⟨⟨by unfold Cx;dsimp only;omega,k1,k2,k3,k4⟩,k5⟩,by unfold Cx;dsimp only;omega,h7⟩
theorem tz{i hh:Int}(hi:CR code i){p:AAF}(hp:p.length≤2^30):OK code (fun x y=>AOQ (dwW x y)) (IP p code i hh):=by
 unfold IP;dsimp only;have ADU:∃T,Uz p 40 90=some ((T,()),())∧0≤T∧T≤500:=by
  unfold Uz;dsimp only;have hd:(p.length:Int).tdiv 4=(p.length:Int)/4:=ARp (by omega);rw[hd,AH (x:=(p.length:Int)/4) (by omega) (by omega),AH (by omega) (by omega),AB];split
  ·exact⟨90,rfl,by omega⟩
  ·exact⟨_,rfl,by omega⟩
 obtain⟨T,hT,hT2⟩:=ADU;refine OK.pure hT ?_
 dsimp only;refine OK.bind (yI hc hT2 hi) fun x i1 h1 y J6 hq=> ?_
 dsimp only;obtain⟨hw,hr,hv⟩:=hq
 generalize qC:ez x y=w at hw hr hv
 have k:=hw.nums;have e0:y.2.2.2.2.2.2.2.2.2.1=w.1:=by rw[←qC];rfl
 have e1:y.2.2.2.2.2.2.2.2.2.2.1=w.2.2.1:=by rw[←qC];rfl
 have e2:y.2.2.2.2.2.2.2.2.2.2.2.1=w.2.2.2.1:=by rw[←qC];rfl
 have e3:y.2.2.2.2.2.2.2.2.2.2.2.2.1=w.2.2.2.2.1:=by rw[←qC];rfl
 have e4:y.2.2.2.2.2.2.2.2.2.2.2.2.2.1=w.2.2.2.2.2.2.1:=by rw[←qC];rfl
 have e5:y.2.2.2.2.2.2.2.2.2.2.2.2.2.2.1=w.2.2.2.2.2.2.2.1:=by rw[←qC];rfl
 have e6:y.2.2.2.2.2.2.2.2.2.2.2.2.2.2.2.1=w.2.2.2.2.2.2.2.2.1:=by rw[←qC];rfl
 have e7:y.2.2.2.2.2.2.2.2.2.2.2.2.2.2.2.2.1=w.2.2.2.2.2.2.2.2.2.1:=by rw[←qC];rfl
 have e8:x.1.2.2.1.2.1=w.2.1:=by rw[←qC];rfl
 have e9:x.1.2.2.1.2.2.2.2.2.1=w.2.2.2.2.2.1:=by rw[←qC];rfl
 have e10:x.1.2.2.1.2.2.2.2.2.2.2.2.2.2.1=w.2.2.2.2.2.2.2.2.2.2.1:=by rw[←qC];rfl
 rw[e0,e1,e2,e3,e4,e5,e6,e7,e8,e9,e10];have Qj:=hw.win hr;have k1:=k.c;have k2:=k.ws;have k3:=k.lost;have k4:=k.era;have k5:=k.ww;have k9:=k.st;have k10:=k.rd;have k6:AW CG w.2.2.2.2.2.2.2.1≤5001:=by
  have:=EA (f:=CG) (B:=5000) hw.wK fun x hx=>(hw.Bo x hx).1.w
  exact this
 have k7:AW BB w.2.2.2.2.2.2.2.2.1≤10002:=by
  have:=EA (f:=BB) (B:=5000) (N:=2) (l:=w.AY) (by rw[hw.kq];omega) fun r hx=>by
   have:=EA (f:=CP) (B:=40) (hw.AY r hx).n (hr r hx);unfold BB;omega
  exact this
 have k8:AW EB w.2.2.2.2.2.2.2.2.2.1≤4920:=by
  have:=EA (f:=EB) (B:=40) hw.Rc fun s hs=>(hw.Ai s hs).2.2
  exact this
 have j1:=Qj.A4;have j2:=Qj.trim;have j3:=Qj.Bo;have j4:=Qj.AJ3;have hc1:=(D2 hw.cfg).1;have AcN:1≤w.1.length:=hc1;refine OK.bind (Bu hc J6 (by omega)) fun x2 i2 h2 y2 G7 gy=> ?_
 dsimp only at*;have base:∀{to:Bool},AOQ (w.1,w.2.1,w.2.2.1,w.2.2.2.1,w.2.2.2.2.1,w.2.2.2.2.2.1,w.2.2.2.2.2.2.1,w.2.2.2.2.2.2.2.1,w.2.2.2.2.2.2.2.2.1,w.2.2.2.2.2.2.2.2.2.1,to,()):=mkW (by omega) (by omega) (by omega) (by omega) (by omega) (by omega) (by omega) (by omega) j1 j2 j3 j4 hv;refine OK.E4 (fun _=> ?_) (fun _=> ?_)
 ·refine OK.bind (Rm hc (c:=(w.1,w.2.1,())) (by show w.1.length≤_;omega) G7) fun x3 i3 h3 y3 KJ Ua=> ?_
  dsimp only at*;refine OK.some KJ ?_
  dsimp only[dwW];exact mkW (by omega) (by omega) (by omega) (by omega) (by omega) (by omega) (by omega) (by omega) j1 j2 j3 j4 hv
 refine OK.E4 (fun _=> ?_) (fun _=> ?_)
 ·refine OK.bind (ABG hc G7) fun x3 i3 h3 y3 KJ Ua=> ?_
  dsimp only at*;refine OK.ite (by omega) ?_
  have:=iU (f:=Ak) (x:=(y3.1,y3.2.1,x3.1.2.2.1,())) (l:=w.2.2.1) (i:=0);refine OK.some KJ ?_
  dsimp only[dwW];refine mkW (by omega) (by omega) (by omega) (by omega) (by omega) (by omega) (by omega) (by omega) (fun s hs=> ?_) j2 j3 j4 hv;rcases ARn hs with hs|rfl
  ·exact j1 s hs
  ·exact Ua.1
 refine OK.E4 (fun _=> ?_) (fun _=> ?_)
 ·refine OK.bind (wc hc (c:=(w.1,w.2.1,())) (by show w.1.length≤_;omega) G7) fun x3 i3 h3 y3 KJ Ua=> ?_
  dsimp only at*;refine OK.some KJ ?_
  dsimp only[dwW];exact mkW (by omega) (by omega) (by omega) Ua.1 (by omega) (by omega) (by omega) (by omega) j1 Ua.2 j3 j4 hv
 refine OK.E4 (fun _=> ?_) (fun _=> ?_)
 ·refine OK.bind (AA4 hc (c:=(w.1,w.2.1,())) (by show w.1.length≤_;omega) G7) fun x3 i3 h3 y3 KJ Ua=> ?_
  dsimp only at*;have hk:=k.wr;refine OK.ite (by rw[As];omega) ?_
  refine OK.some KJ ?_
  dsimp only[dwW];refine mkW (by omega) (by omega) (by omega) (by omega) ?_ (by omega) (by omega) (by omega) j1 j2 j3 j4 hv
  rw[I8];have:Aq (x3.1.1,y3.1,())=AW Ay y3.1:=rfl;simp only[AW];omega
 refine OK.E4 (fun _=> ?_) (fun _=> ?_)
 ·refine OK.bind (yL hc (c:=(w.1,w.2.1,())) hw.cfg G7) fun x3 i3 h3 y3 KJ Ua=> ?_
  dsimp only at*;have hk:=k.md;refine OK.ite (by rw[As];omega) ?_
  refine OK.some KJ ?_
  dsimp only[dwW];refine mkW (by omega) (by omega) (by omega) (by omega) (by omega) ?_ (by omega) (by omega) j1 j2 (fun m hm=> ?_) j4 hv
  ·rw[I8]
   have h8:CG (x3.1.1,x3.1.2.1,y3.1,y3.2.1,x3.1.2.2.2.2.1,y3.2.2.1,())≤20000:=Ua.1;simp only[AW];omega
  ·rcases APr.1 hm with hm|hm
   ·exact j3 m hm
   ·rw[AQ6.1 hm];exact Ua.2
 refine OK.E4 (fun _=> ?_) (fun _=> ?_)
 ·refine OK.bind (yP hc G7) fun x3 i3 h3 y3 KJ Ua=> ?_
  dsimp only at*;refine OK.ite (by omega) ?_
  have:=iU (f:=BB) (x:=(x3.1.1,x3.1.2.1,y3.1,())) (l:=w.2.2.2.2.2.2.2.2.1) (i:=0);have h9:=EA (f:=CP) (B:=40) Ua.1 (fun e he=>(Ua.2 e he).1);have:BB (x3.1.1,x3.1.2.1,y3.1,())=AW CP y3.1:=rfl;refine OK.some KJ ?_
  dsimp only[dwW];refine mkW (by omega) (by omega) (by omega) (by omega) (by omega) (by omega) (by omega) (by omega) j1 j2 j3 j4 (fun r hr' => ?_);rcases ARn hr' with hr'|rfl
  ·exact hv r hr'
  ·exact fun e he=>(Ua.2 e he).2
 refine OK.E4 (fun _=> ?_) (fun _=> ?_)
 ·refine OK.bind (Wn hc G7) fun x3 i3 h3 y3 KJ Ua=> ?_
  dsimp only at*;have hk:=k.se;refine OK.ite (by rw[As];omega) ?_
  refine OK.some KJ ?_
  dsimp only[dwW];refine mkW (by omega) (by omega) (by omega) (by omega) (by omega) (by omega) (by omega) ?_ j1 j2 j3 (fun s hs=> ?_) hv
  ·rw[I8]
   have:EB (x3.1,[],false,())=0:=rfl;simp only[AW];omega
  ·rcases APr.1 hs with hs|hs
   ·exact j4 s hs
   ·rw[AQ6.1 hs];exact Ua
 refine OK.E4 (fun _=>OK.some G7 base) (fun _=> ?_);refine OK.E4 (fun _=> ?_) (fun _=>OK.some G7 base);refine OK.bind (wv hc G7) fun x3 i3 h3 y3 KJ Ua=> ?_
 dsimp only at*;refine OK.some KJ ?_
 dsimp only[dwW];exact mkW (by omega) (by omega) (by omega) (by omega) (by omega) (by omega) (by omega) (by omega) j1 j2 j3 j4 hv
def pkw(w:AA):OZ:=((((),w.2.1,(),(),(),w.2.2.2.2.2.1,(),(),(),(),w.2.2.2.2.2.2.2.2.2.2.1,()),()),(w.1,w.2.2.1,w.2.2.2.1,w.2.2.2.2.1,w.2.2.2.2.2.2.1,w.2.2.2.2.2.2.2.1,w.2.2.2.2.2.2.2.2.1,w.2.2.2.2.2.2.2.2.2.1,()))
def OKW(o:Option OZ):Prop:= ∃w,o=some (pkw w)∧lH w∧ZL w
omit hc in
theorem OKW.bind{X Y:Type}{Q:X→Y→Prop}{o:Option (X×(ABj×Y))}{f:X×(ABj×Y)→Option OZ}
  (ho:OK code Q o) (hf:∀x i h y,CR code i→Q x y→OKW (f (x,((code,i,h,()),y)))):OKW (o.bind f):=by
 obtain⟨x,i,h,y,e,hi,hq⟩:=ho;rw[e];exact hf x i h y hi hq
omit hc in
theorem OKW.ite{p:Prop}[Decidable p]{x y:Option OZ}(hp:p)(h1:OKW x):OKW (if p then x else y):=by
 rw[AME hp];exact h1
omit hc in
theorem OKW.E4{a b:Int}{x y:Option OZ}(h1:a=b→OKW x)(h2:a≠b→OKW y):OKW (_root_.cond (a==b) x y):=by
 rw[C8];by_cases hp:a=b
 ·rw[AME hp];exact h1 hp
 ·rw[AMG hp];exact h2 hp
end
end Go.M
end
section
set_option maxRecDepth 8000
namespace Go.M
open Go.M.H (AK AO A5 Aj AA Cj AQ BC AR Am Bk BA Bh Ak CG AW AS AZ Ag Bi Ay Aq BB EB CP Cx C_)
theorem Dl{l:AAF}(h:l.length≤2^30):DI l=some (((),()),(l,())):=by
 unfold DI;rw[AME (by rw[As];omega)]
theorem Pj{l:List AK}(h:l.length≤2^30):JK l=some (((),()),(l,())):=by
 unfold JK;rw[AME (by rw[As];omega)]
theorem XZ{r:Am}(h:r.2.2.1.length≤2^30):NI r=some (((r.1,r.2.1,(),()),()),(r.2.2.1,())):=by
 unfold NI;rw[AME (by rw[As];omega)]
theorem gh{c:CH}(h:c.1.length≤2^30):QX c=some ((((),c.2.1,()),()),(c.1,())):=by
 unfold QX;rw[Dl h];rfl
theorem IH{s:AO}(h1:s.1.length≤2^30)(h2:s.2.1.length≤2^30):DA s=some ((((),(),s.2.2.1,()),()),(s.1,s.2.1,())):=by
 unfold DA;rw[Pj h1,Pj h2];rfl
theorem IA{r:AQ}(h:AW Bi r.1≤2^30):EW r=some ((((),r.2.1,()),()),(r.1,())):=by
 have hl:=AS (f:=Bi) (l:=r.1);have key:∀(n i:Nat) (acc:List Cj),i≤r.1.length→r.1.length-i<n→acc.length≤i→H6 n r.1 r.1.length i 0 [] r.2.1 acc=some ((((),r.2.1,()),()),(acc++r.1.drop i,())):=by
  intro n
  induction n with
  |zero=>intro i _ _ h;omega
  |succ n ih=>
   intro i acc hi hn ha;simp only[H6,RU,AB];by_cases hc:i<r.1.length
   ·have hm:=AZ (f:=Bi) (AM3 hc)
    have hw:Bi r.1[i]=r.1[i].1.length:=rfl;rw[AME (by omega),AME (by omega),Ah hc,Dl (by omega),AH (by omega) (by omega),show((i:Int)+1)=((i+1:Nat):Int)by omega];simp only[AD];rw[AME (by rw[As];omega),ih (i+1) _ (by omega) (by omega) (by simp;omega),drop_cons hc,AOT];rfl
   ·rw[AMG (by omega),AMS (by omega),AN8]
 unfold EW Q8;have:=key Ab 0 [] (by omega) (Ae (by omega)) (by simp);simpa using this
theorem Jj{x:AR}(h:Aq x≤2^30):Fz x=some (((x.1,(),()),()),(x.2.1,())):=by
 have h':AW Ay x.2.1≤2^30:=h;have hl:=AS (f:=Ay) (l:=x.2.1);have key:∀(n i:Nat) (acc:List BC),i≤x.2.1.length→x.2.1.length-i<n→acc.length≤i→Je n x.2.1 x.2.1.length i 0 [] x.1 acc=some (((x.1,(),()),()),(acc++x.2.1.drop i,())):=by
  intro n
  induction n with
  |zero=>intro i _ _ h;omega
  |succ n ih=>
   intro i acc hi hn ha;simp only[Je,TK,AB];by_cases hc:i<x.2.1.length
   ·have hm:=AZ (f:=Ay) (AM3 hc)
    have hw:Ay x.2.1[i]=x.2.1[i].1.length+x.2.1[i].2.1.length:=rfl;rw[AME (by omega),AME (by omega),Ah hc,Dl (by omega),AH (by omega) (by omega),show((i:Int)+1)=((i+1:Nat):Int)by omega];simp only[AD];rw[AME (by rw[As];omega),ih (i+1) _ (by omega) (by omega) (by simp;omega),drop_cons hc,AOT];rfl
   ·rw[AMG (by omega),AMS (by omega),AN8]
 unfold Fz TU;have:=key Ab 0 [] (by omega) (Ae (by omega)) (by simp);simpa using this
theorem HX{m:A5}(h:CG m≤2^30):GZ m=some (((m.1,m.2.1,(),(),m.2.2.2.2.1,(),()),()),(m.2.2.1,m.2.2.2.1,m.2.2.2.2.2.1,())):=by
 have h':m.2.2.1.length+AW Ag m.2.2.2.1+AW C_ m.2.2.2.2.2.1≤2^30:=h;have hl:=AS (f:=C_) (l:=m.2.2.2.2.2.1);have uF:=AS (f:=Ag) (l:=m.2.2.2.1);have key:∀(n i:Nat) (acc:List AAF),i≤m.2.2.2.2.2.1.length→m.2.2.2.2.2.1.length-i<n→acc.length≤i→Ln n m.2.2.2.2.2.1 m.2.2.2.2.2.1.length i 0 0 false [] [] [] m.1 m.2.1 m.2.2.2.2.1 m.2.2.1 m.2.2.2.1 acc=some (((m.1,m.2.1,(),(),m.2.2.2.2.1,(),()),()),(m.2.2.1,m.2.2.2.1,acc++m.2.2.2.2.2.1.drop i,())):=by
  intro n
  induction n with
  |zero=>intro i _ _ h;omega
  |succ n ih=>
   intro i acc hi hn ha;simp only[Ln,Vl,AB];by_cases hc:i<m.2.2.2.2.2.1.length
   ·have hm:=AZ (f:=C_) (AM3 hc)
    have hw:C_ m.2.2.2.2.2.1[i]=m.2.2.2.2.2.1[i].length:=rfl;rw[AME (by omega),AME (by omega),Ah hc,Dl (by omega),AH (by omega) (by omega),show((i:Int)+1)=((i+1:Nat):Int)by omega];simp only[AD];rw[AME (by rw[As];omega),ih (i+1) _ (by omega) (by omega) (by simp;omega),drop_cons hc,AOT];rfl
   ·rw[AMG (by omega),AMS (by omega),AN8]
 unfold GZ Vx;rw[Dl (by omega),Pj (by omega)];simp only[AD];have:=key Ab 0 [] (by omega) (Ae (by omega)) (by simp);simpa using this
section
variable{w:AA} (h:lH w)
include h
theorem ACl:∀(n i:Nat) (DX:List AO) (Dv:List AR) (D_:List A5) (E8:List Am),i≤w.2.2.2.2.2.2.2.2.1.length→w.2.2.2.2.2.2.2.2.1.length-i+1≤n→E8.length≤i→
  Ef n w.2.2.2.2.2.2.2.2.1 w.2.2.2.2.2.2.2.2.1.length i w.1 w.2.1 w.2.2.1 w.2.2.2.1 w.2.2.2.2.1 w.2.2.2.2.2.1 w.2.2.2.2.2.2.1 w.2.2.2.2.2.2.2.1 w.2.2.2.2.2.2.2.2.1 w.2.2.2.2.2.2.2.2.2.1 w.2.2.2.2.2.2.2.2.2.2.1 0 0 false [] [] [] [] [] [] [] [] w.2.1 w.2.2.2.2.2.1 w.2.2.2.2.2.2.2.2.2.2.1 w.1 DX w.2.2.2.1 w.2.2.2.2.1 Dv D_ E8 []=some ((((),w.2.1,(),(),(),w.2.2.2.2.2.1,(),(),(),(),w.2.2.2.2.2.2.2.2.2.2.1,()),()),(w.1,DX,w.2.2.2.1,w.2.2.2.2.1,Dv,D_,(E8++w.2.2.2.2.2.2.2.2.1.drop i),w.2.2.2.2.2.2.2.2.2.1,())):=by
 have uF:=h.SW;have hl:=h.lens;intro n
 induction n with
 |zero=>intro i DX Dv D_ E8 _ h;omega
 |succ n ih=>
  intro i DX Dv D_ E8 hi hn hb;simp only[Ef,TY,AB];by_cases DE:i<w.2.2.2.2.2.2.2.2.1.length
  ·have hm:=AZ (f:=BB) (AM3 DE)
   have hw:BB w.2.2.2.2.2.2.2.2.1[i]=AW CP w.2.2.2.2.2.2.2.2.1[i].2.2.1:=rfl;have hlw:=AS (f:=CP) (l:=w.2.2.2.2.2.2.2.2.1[i].2.2.1);rw[AME (by omega),AME (by omega),Ah DE,AH (by omega) (by omega),show((i:Int)+1)=((i+1:Nat):Int)by omega,drop_cons DE];rw[show(w.2.2.2.2.2.2.2.2.1[i].1,w.2.2.2.2.2.2.2.2.1[i].2.1,w.2.2.2.2.2.2.2.2.1[i].2.2.1,())=w.2.2.2.2.2.2.2.2.1[i]from rfl,XZ (by omega)];simp only[AD];rw[AME (by rw[As];omega),ih (i+1) _ _ _ _ (by omega) (by omega) (by simp;omega),AOT];rfl
  ·rw[AMG (by omega),AME (by rw[As];omega),AMS (by omega),AN8]
theorem ABt:∀(n i:Nat) (DX:List AO) (Dv:List AR) (D_:List A5),i≤w.2.2.2.2.2.2.2.1.length→(w.2.2.2.2.2.2.2.1.length-i)+w.2.2.2.2.2.2.2.2.1.length+2≤n→D_.length≤i→
  En n w.2.2.2.2.2.2.2.1 w.2.2.2.2.2.2.2.1.length i w.1 w.2.1 w.2.2.1 w.2.2.2.1 w.2.2.2.2.1 w.2.2.2.2.2.1 w.2.2.2.2.2.2.1 w.2.2.2.2.2.2.2.1 w.2.2.2.2.2.2.2.2.1 w.2.2.2.2.2.2.2.2.2.1 w.2.2.2.2.2.2.2.2.2.2.1 0 0 false [] [] [] [] [] [] [] [] w.2.1 w.2.2.2.2.2.1 w.2.2.2.2.2.2.2.2.2.2.1 w.1 DX w.2.2.2.1 w.2.2.2.2.1 Dv D_ [] []=some ((((),w.2.1,(),(),(),w.2.2.2.2.2.1,(),(),(),(),w.2.2.2.2.2.2.2.2.2.2.1,()),()),(w.1,DX,w.2.2.2.1,w.2.2.2.2.1,Dv,(D_++w.2.2.2.2.2.2.2.1.drop i),w.2.2.2.2.2.2.2.2.1,w.2.2.2.2.2.2.2.2.2.1,())):=by
 have uF:=h.SW;have hl:=h.lens;intro n
 induction n with
 |zero=>intro i DX Dv D_ _ h;omega
 |succ n ih=>
  intro i DX Dv D_ hi hn hb;simp only[En,TN,AB];by_cases DE:i<w.2.2.2.2.2.2.2.1.length
  ·have hm:=AZ (f:=CG) (AM3 DE)
   rw[AME (by omega),AME (by omega),Ah DE,AH (by omega) (by omega),show((i:Int)+1)=((i+1:Nat):Int)by omega,drop_cons DE];rw[show(w.2.2.2.2.2.2.2.1[i].1,w.2.2.2.2.2.2.2.1[i].2.1,w.2.2.2.2.2.2.2.1[i].2.2.1,w.2.2.2.2.2.2.2.1[i].2.2.2.1,w.2.2.2.2.2.2.2.1[i].2.2.2.2.1,w.2.2.2.2.2.2.2.1[i].2.2.2.2.2.1,())=w.2.2.2.2.2.2.2.1[i]from rfl,HX (by omega)];simp only[AD];rw[AME (by rw[As];omega),ih (i+1) _ _ _ (by omega) (by omega) (by simp;omega),AOT];rfl
  ·have:=ACl h n 0 DX Dv D_ [] (by omega) (by omega) (by simp)
   rw[show((0:Nat):Int)=0 from rfl,AQU,APS]at this;rw[AMG (by omega),AMS (by omega),AN8,this]
theorem AEu:∀(n i:Nat) (DX:List AO) (Dv:List AR),i≤w.2.2.2.2.2.2.1.length→(w.2.2.2.2.2.2.1.length-i)+w.2.2.2.2.2.2.2.1.length+w.2.2.2.2.2.2.2.2.1.length+3≤n→Dv.length≤i→
  FU n w.2.2.2.2.2.2.1 w.2.2.2.2.2.2.1.length i w.1 w.2.1 w.2.2.1 w.2.2.2.1 w.2.2.2.2.1 w.2.2.2.2.2.1 w.2.2.2.2.2.2.1 w.2.2.2.2.2.2.2.1 w.2.2.2.2.2.2.2.2.1 w.2.2.2.2.2.2.2.2.2.1 w.2.2.2.2.2.2.2.2.2.2.1 0 0 false [] [] [] [] [] [] [] [] w.2.1 w.2.2.2.2.2.1 w.2.2.2.2.2.2.2.2.2.2.1 w.1 DX w.2.2.2.1 w.2.2.2.2.1 Dv [] [] []=some ((((),w.2.1,(),(),(),w.2.2.2.2.2.1,(),(),(),(),w.2.2.2.2.2.2.2.2.2.2.1,()),()),(w.1,DX,w.2.2.2.1,w.2.2.2.2.1,(Dv++w.2.2.2.2.2.2.1.drop i),w.2.2.2.2.2.2.2.1,w.2.2.2.2.2.2.2.2.1,w.2.2.2.2.2.2.2.2.2.1,())):=by
 have uF:=h.SW;have hl:=h.lens;intro n
 induction n with
 |zero=>intro i DX Dv _ h;omega
 |succ n ih=>
  intro i DX Dv hi hn hb;simp only[FU,U3,AB];by_cases DE:i<w.2.2.2.2.2.2.1.length
  ·have hm:=AZ (f:=Aq) (AM3 DE)
   rw[AME (by omega),AME (by omega),Ah DE,AH (by omega) (by omega),show((i:Int)+1)=((i+1:Nat):Int)by omega,drop_cons DE];rw[show(w.2.2.2.2.2.2.1[i].1,w.2.2.2.2.2.2.1[i].2.1,())=w.2.2.2.2.2.2.1[i]from rfl,Jj (by omega)];simp only[AD];rw[AME (by rw[As];omega),ih (i+1) _ _ (by omega) (by omega) (by simp;omega),AOT];rfl
  ·have:=ABt h n 0 DX Dv [] (by omega) (by omega) (by simp)
   rw[show((0:Nat):Int)=0 from rfl,AQU,APS]at this;rw[AMG (by omega),AMS (by omega),AN8,this]
theorem AIU:∀(n i:Nat) (DX:List AO),i≤w.2.2.1.length→(w.2.2.1.length-i)+w.2.2.2.2.2.2.1.length+w.2.2.2.2.2.2.2.1.length+w.2.2.2.2.2.2.2.2.1.length+4≤n→DX.length≤i→
  FV n w.2.2.1 w.2.2.1.length i w.1 w.2.1 w.2.2.1 w.2.2.2.1 w.2.2.2.2.1 w.2.2.2.2.2.1 w.2.2.2.2.2.2.1 w.2.2.2.2.2.2.2.1 w.2.2.2.2.2.2.2.2.1 w.2.2.2.2.2.2.2.2.2.1 w.2.2.2.2.2.2.2.2.2.2.1 0 0 false [] [] [] [] [] [] [] [] w.2.1 w.2.2.2.2.2.1 w.2.2.2.2.2.2.2.2.2.2.1 w.1 DX w.2.2.2.1 w.2.2.2.2.1 [] [] [] []=some ((((),w.2.1,(),(),(),w.2.2.2.2.2.1,(),(),(),(),w.2.2.2.2.2.2.2.2.2.2.1,()),()),(w.1,(DX++w.2.2.1.drop i),w.2.2.2.1,w.2.2.2.2.1,w.2.2.2.2.2.2.1,w.2.2.2.2.2.2.2.1,w.2.2.2.2.2.2.2.2.1,w.2.2.2.2.2.2.2.2.2.1,())):=by
 have uF:=h.SW;have hl:=h.lens;intro n
 induction n with
 |zero=>intro i DX _ h;omega
 |succ n ih=>
  intro i DX hi hn hb;simp only[FV,VM,AB];by_cases DE:i<w.2.2.1.length
  ·have hm:=AZ (f:=Ak) (AM3 DE)
   have hw:=F_ (s:=w.2.2.1[i]) (by omega);rw[AME (by omega),AME (by omega),Ah DE,AH (by omega) (by omega),show((i:Int)+1)=((i+1:Nat):Int)by omega,drop_cons DE];rw[show(w.2.2.1[i].1,w.2.2.1[i].2.1,w.2.2.1[i].2.2.1,())=w.2.2.1[i]from rfl,IH hw.1 hw.2];simp only[AD];rw[AME (by rw[As];omega),ih (i+1) _ (by omega) (by omega) (by simp;omega),AOT];rfl
  ·have:=AEu h n 0 DX [] (by omega) (by omega) (by simp)
   rw[show((0:Nat):Int)=0 from rfl,AQU,APS]at this;rw[AMG (by omega),AMS (by omega),AN8,this]
theorem jC:Oa w=some ((((),w.2.1,(),(),(),w.2.2.2.2.2.1,(),(),(),(),w.2.2.2.2.2.2.2.2.2.2.1,()),()),(w.1,w.2.2.1,w.2.2.2.1,w.2.2.2.2.1,w.2.2.2.2.2.2.1,w.2.2.2.2.2.2.2.1,w.2.2.2.2.2.2.2.2.1,w.2.2.2.2.2.2.2.2.2.1,())):=by
 have uF:=h.SW;have hl:=h.lens;unfold Oa Uk;have:=AIU h Ab 0 [] (by omega) (ASa (Ae (by omega))) (by simp);rw[show((0:Nat):Int)=0 from rfl,AQU,APS]at this;rw[show(w.1,w.2.1,())=AX w from rfl,gh (by show w.1.length≤_;omega),Dl (by omega),show(w.2.2.2.2.1,w.2.2.2.2.2.1,())=(Bj w)from rfl,IA (by show AW Bi w.2.2.2.2.1≤_;omega)];simp only[AD];exact this
end
end Go.M
end
section
set_option maxRecDepth 8000
namespace Go.M
open Go.M.H (AK AO A5 Aj AA Cj AQ BC AR Am Bk BA Bh Ak CG AW AS AZ Ag Bi Ay Aq BB EB CP Cx C_)
theorem sR{a b:Nat}(h:a+b<2^40):AU ((IntKind.wrap .u64 (AU ((a:Int)+(b:Int)))).fdiv (2^1))=(((a+b)/2:Nat):Int):=by
 rw[AH (x:=(a:Int)+(b:Int)) (by omega) (by omega),show IntKind.wrap .u64 ((a:Int)+(b:Int))=(a:Int)+b by simp only[IntKind.wrap,IntKind.bits,IntKind.signed];simp;omega,Int.fdiv_eq_ediv_of_nonneg _ (by omega),AH (by omega) (by omega)];omega
structure il {α:Type} (f:α→Int) (p:Int) (l:List α) (q:Nat):Prop where
 le:q≤l.length
 lt:∀(i:Nat) (h:i<l.length),i<q→f l[i]<p
 ge:∀(i:Nat) (h:i<l.length),q≤i→p≤f l[i]
theorem ay{α:Type}{f:α→Int}{l:List α}(h:Vp f l){i j:Nat}(hi:i<l.length)(hj:j<l.length)(hij:i≤j):f l[i]≤f l[j]:=by
 by_cases e:i=j
 ·subst e;omega
 ·exact Int.le_of_lt (ATX.1 h i j hi hj (by omega))
theorem dB{l:List AK}(ha:eZ l)(hl:l.length≤2^30)(p:Int):∃q,il (fun e:AK=>e.1) p l q∧
  SJ l p=some ((((q:Int),(match l[q]? with|some e=>e.1==p|none=>false),()),()),()):=by
 have key:∀(n a b:Nat),a≤b→b≤l.length→b-a<n→(∀(i:Nat) (h:i<l.length),i<a→l[i].1<p)→(∀(i:Nat) (h:i<l.length),b≤i→p≤l[i].1)→
   ∃q,il (fun e:AK=>e.1) p l q∧A3 n l p l.length a b=some ((((q:Int),(match l[q]? with|some e=>e.1==p|none=>false),()),()),()):=by
  intro n
  induction n with
  |zero=>intro a b _ _ h;omega
  |succ n ih=>
   intro a b ll hb hn h1 h2;simp only[A3,Cs,AB,Sx];by_cases FW:a<b
   ·have hm:(a+b)/2<l.length:=by omega
    rw[AME (by omega),sR (by omega),AME (by omega),Ah hm];by_cases hc:l[(a+b)/2].1<p
    ·rw[AME hc]
     simp only[AD];rw[AME (by omega),AH (by omega) (by omega),show((((a+b)/2:Nat):Int)+1)=(((a+b)/2+1:Nat):Int)by omega];refine ih _ b (by omega) hb (by omega) (fun i h hi=> ?_) h2;exact Int.lt_of_le_of_lt (ay (f:=fun e:AK=>e.1) ha h hm (by omega)) hc
    ·rw[AMG hc]
     have wP:∀(i:Nat) (h:i<l.length),(a+b)/2≤i→p≤l[i].1:=fun i h hi=>Int.le_trans (by omega) (ay (f:=fun e:AK=>e.1) ha hm h hi)
     by_cases hd:l[(a+b)/2].1>p
     ·rw[AME hd]
      simp only[AD];rw[AMG (by omega)];exact ih a _ (by omega) (by omega) (by omega) h1 wP
     ·rw[AMG hd]
      simp only[AD];rw[AMG (by omega)];exact ih a _ (by omega) (by omega) (by omega) h1 wP
   ·have ACs:a=b:=by omega
    subst ACs;refine⟨a,⟨hb,h1,h2⟩,?_⟩;rw[AMG (by omega)];by_cases ha':a<l.length
    ·have:=h2 a ha' (AP3 _)
     rw[AME (by omega),AME (by omega),Ah ha',AMJ ha',AMG (by omega)];by_cases hd:l[a].1>p
     ·rw[AME hd]
      dsimp only;rw[APV.2 (by omega:l[a].1≠p)];rfl
     ·rw[AMG hd]
      dsimp only;rw[ARe.2 (by omega:l[a].1=p)];rfl
    ·rw[AMG (by omega),ARo (by omega)]
 obtain⟨q,hq,e⟩:=key Ab 0 l.length (by omega) (by omega) (Ae (by omega)) (fun i h hi=>by omega) (fun i h hi=>by omega);refine⟨q,hq,?_⟩;unfold SJ CF Cr;rw[show((0:Nat):Int)=0 from rfl]at e;rw[e];rfl
theorem il.get_eq{p:Int}{l:List AK}{q:Nat}(h:il (fun e:AK=>e.1) p l q)(ha:eZ l):Ou p l=match l[q]? with|some e=>if e.1=p then some e else none|none=>none:=by
 by_cases hq:q<l.length
 ·rw[AMJ hq]
  dsimp only;by_cases he:l[q].1=p
  ·rw[AME he,←he]
   exact lk ha (AM3 hq)
  ·rw[AMG he]
   cases hg:Ou p l with
   |none=>rfl
   |some x=>
    obtain⟨hm,hx⟩:=rp hg;obtain⟨i,hi,rfl⟩:=ARg hm;exfalso;have h2:=h.ge q hq (AP3 _);rcases Nat.lt_or_ge i q with xY|xY
    ·have:=h.lt i hi xY
     omega
    ·have:=ay (f:=fun e:AK=>e.1) ha hq hi xY
     omega
 ·rw[ARo (by omega)]
  dsimp only;cases hg:Ou p l with
  |none=>rfl
  |some x=>
   obtain⟨hm,hx⟩:=rp hg;obtain⟨i,hi,rfl⟩:=ARg hm;have:=h.lt i hi (by have:=h.le;omega);omega
theorem T8{s:AO}(h0:Ak s≤2^30)(h1:iP s)(p:Int):Ga s p=some (((match Xj s p with|some e=>(e,true,())|none=>((0,0,false,[],()),false,())),()),()):=by
 unfold Ga Xj;rw[show(s.1,s.2.1,s.2.2.1,())=s from rfl,E6 h0 h1];simp only[AD];rcases AMA (B_ s)with Fj|Fj
 rotate_left
 ·rw[Fj];rfl
 have hs:=DO.1 Fj;have hn:=hs.nk;obtain⟨q,hq,e⟩:=dB hs.uE (by omega) p;rw[Fj,e,AME rfl,hq.get_eq hs.uE];simp only[AD,AMc,AMW];by_cases hc:q<s.1.length
 ·rw[AMJ hc]
  dsimp only;by_cases he:s.1[q].1=p
  ·rw[AME he,ARe.2 he]
   simp only[AMc,AMW];rw[AME (by omega),Ah hc]
  ·rw[AMG he,APV.2 he]
   rfl
 ·rw[ARo (by omega)]
  rfl
theorem IV{e o:Int}:Dn e o=some (((Gr e o,BD e 1 30&&BD o 1 60,()),()),()):=by
 unfold Dn Hk Xc Gr;rw[A0,A0];simp only[AD];rcases AMA (BD e 1 30)with he|he
 rotate_left
 ·rw[he];rfl
 rcases AMA (BD o 1 60)with ho|ho
 rotate_left
 ·rw[he,ho];rfl
 rw[he,ho];have h1:=Ao.1 he;have h2:=Ao.1 ho;simp only[AMc,AMW,Bool.and_self,ARj];rw[AH (x:=4294967296*e) (by omega) (by omega),AH (by omega) (by omega)];rfl
theorem Yk{k:Int}:Hs k=some (((),()),(A7 k,())):=by
 unfold Hs U2 A7;rw[A0];simp only[AD];rcases AMA (BD k 0 255)with hk|hk
 rotate_left
 ·rw[hk];rfl
 rw[hk,AME rfl];have hk':=Ao.1 hk;have key:∀(n i:Nat) (b:AAF),i≤8→8-i<n→b.length≤i→
   Kj n k i b=some (((),()),(b++(([0,1,2,3,4,5,6,7]:AAF).drop i).filter (fun i=>(k/2^i.toNat)%2==1),())):=by
  intro n
  induction n with
  |zero=>intro i b _ h;omega
  |succ n ih=>
   intro i b hi h hb;simp only[Kj,U1,AB];by_cases DE:i<8
   ·have qU:=tX (k:=k) (i:=i) (by omega) (by omega)
    rw[AME (show(i:Int)<8 by omega),AMG (by omega),ANW,rK i DE,AQ8,ANW,AH (by omega) (by omega),show((i:Int)+1)=((i+1:Nat):Int)by omega];rw[qU];simp only[AB];have c2:b.length+1≤DF:=by rw[As];omega
    by_cases rT:(k/2^i)%2=1
    ·rw[AME rT,AME c2,AME (by rw[ARe];exact rT),ih (i+1) _ (by omega) (by omega) (by simp;omega),AOT]
     rfl
    ·rw[AMG rT,AMG (by rw[ARe];exact rT),ih (i+1) _ (by omega) (by omega) (by omega)]
   ·have:i=8:=by omega
    subst this;rw[AMG (by omega)];simp
 have:=key Ab 0 [] (by omega) (Ae (by omega)) (by simp);simpa using this
theorem PR{r:AQ}(h:AW Bi r.1≤2^30){e:Int}(he:C6 e):I9 r e=some (((),()),(Bl r.1 e,())):=by
 unfold I9 Bl;have hl:=AS (f:=Bi) (l:=r.1);rw[A0];simp only[AD];rcases AMA (BD e 1 r.1.length)with hk|hk
 rotate_left
 ·rw[hk];rfl
 rw[hk,AME rfl];have hk':=Ao.1 hk;have hm:=AZ (f:=Bi) (Ba (d:=C9) (i:=(e-1).toNat) (by omega:(e-1).toNat<r.1.length));have hw:Bi (r.1.getD (e-1).toNat C9)=(r.1.getD (e-1).toNat C9).1.length:=rfl;rw[AH (by omega) (by omega)];simp only[AMc,AMW];rw[AME (by omega),show(r.1.getD (e-1).toNat ([],false,0,()))=r.1.getD (e-1).toNat C9 from rfl,Dl (by omega)];rfl
theorem L1{w:AA}(h1:w.A4.length≤2^30)(h2:w.lost.length≤2^30){n:Int}:EP w n=some ((Au w n,()),()):=by
 unfold EP Au;have r_:w.2.2.1.length≤2^30:=h1;rw[AH (by omega) (by omega),A0,Z8 (by show w.lost.length≤_;omega)];simp only[AD];rcases AMA (BD n 0 ((w.A4.length:Int)-1))with hk|hk
 rotate_left
 ·rw[show BD n 0 ((w.2.2.1.length:Int)-1)=false from hk];rfl
 rw[show BD n 0 ((w.2.2.1.length:Int)-1)=true from hk];rcases AMA (w.lost.contains n)with hc|hc
 ·rw[show w.2.2.2.1.contains n=true from hc];rfl
 ·rw[show w.2.2.2.1.contains n=false from hc];rfl
theorem Pc{b:Bool}:KS b=some ((if b then 0 else 4,()),()):=by cases b<;>rfl
theorem gb{x:AR}(h:x.2.1.length≤2^30):Qb x=some (((Ta x.2.1:Int),()),()):=by
 have key:∀(n i:Nat),i≤x.2.1.length→x.2.1.length-i<n→i+Ta (x.2.1.drop i)=Ta x.2.1→JZ n x.2.1 x.2.1.length i x.1 x.2.1=some (((Ta x.2.1:Int),()),()):=by
  intro n
  induction n with
  |zero=>intro i _ h;omega
  |succ n ih=>
   intro i hi hn hs;simp only[JZ,TG,AB];by_cases hc:i<x.2.1.length
   ·rw[drop_cons hc]at hs
    simp only[Ta]at hs;rw[AME (by omega),AME (by omega),Ah hc,AH (by omega) (by omega),show((i:Int)+1)=((i+1:Nat):Int)by omega];cases hd:x.2.1[i].2.2.1 with
    |true=>
     rw[hd,AME rfl]at hs;simp only[AMc,AMW];exact ih (i+1) (by omega) (by omega) (by omega)
    |false=>
     rw[hd,AMG (by simp)]at hs;simp only[ARb,AOK];rw[show(i:Int)=(Ta x.2.1:Int)by omega]
   ·rw[AMS (by omega)]at hs
    simp only[Ta]at hs;rw[AMG (by omega),show((x.2.1.length:Nat):Int)=(Ta x.2.1:Int)by omega]
 unfold Qb TW;exact key Ab 0 (by omega) (Ae (by omega)) (by simp)
theorem nt{w:AA}(h:lH w)(e:Int):RW w e=some ((bQ w e,()),()):=by
 have uF:=h.SW;have hl:=h.lens;have key:∀(n i:Nat),i≤w.AL.length→w.AL.length-i<n→Oc n e w.AL w.AL.length i=some (((match(w.AL.drop i).find? (fun x=>x.1==e)with|some x=>(Ta x.2.1:Int)|none=>0),()),()):=by
  intro n
  induction n with
  |zero=>intro i _ h;omega
  |succ n ih=>
   intro i hi hn;simp only[Oc,Yh,AB];by_cases hc:i<w.AL.length
   ·have cV:i<w.2.2.2.2.2.2.1.length:=hc
    have hm:Aq w.AL[i]≤AW Aq w.2.2.2.2.2.2.1:=AZ (f:=Aq) (AM3 hc);have hw:Aq w.AL[i]=AW Ay w.AL[i].2.1:=rfl;have hlw:=AS (f:=Ay) (l:=w.AL[i].2.1);rw[AME (by omega),AME (by omega),Ah hc,AH (by omega) (by omega),show((i:Int)+1)=((i+1:Nat):Int)by omega,drop_cons hc,AWL,show(w.AL[i].1,w.AL[i].2.1,())=w.AL[i]from rfl,gb (by omega),ih (i+1) (by omega) (by omega)];cases w.AL[i].1==e<;>rfl
   ·rw[AMG (by omega),AMS (by omega)]
    rfl
 unfold RW Yt bQ;have:=key Ab 0 (by omega) (Ae (by show w.2.2.2.2.2.2.1.length-0<_;omega));rw[APS]at this;exact this
end Go.M
end
section
set_option maxRecDepth 8000
namespace Go.M
open Go.M.H (AK AO A5 Aj AA Cj AQ BC AR Am Bk BA Bh Ak CG AW AS AZ Ag Bi Ay Aq BB EB CP Cx C_)
theorem vf{x:Int}{t:ABd}(h:t.1.length≤2^30):RC x t=some ((!t.1.contains x,()),()):=by
 unfold RC;rw[I3 (by omega)];rfl
theorem lE{x:Int}{t:ABW}:M5 x t=some ((x==t.1,()),()):=rfl
theorem mo{t:ABd×Unit}(h:t.1.1.length≤2^30){l:AAF}(hl:l.length≤2^30):Co t l=some (((),()),((),l.filter (fun x=> !(!t.1.1.contains x)),())):=by
 have key:∀(n i j:Nat) (b:AAF),i≤j→j≤b.length→b.length≤2^30→b.length-j<n→B4 n t i j b=some (((),()),((),b.take i++(b.drop j).filter (fun x=> !(!t.1.1.contains x)),())):=by
  intro n
  induction n with
  |zero=>intro i j b _ _ _ h;omega
  |succ n ih=>
   intro i j b hij hj hb hn;simp only[B4,Dt,AB];by_cases hc:j<b.length
   ·rw[AME (by omega),AME (by omega),Ah hc,vf h]
    simp only[AD];rw[AH (x:=(j:Int)+1) (by omega) (by omega),AH (x:=(i:Int)+1) (by omega) (by omega),show((j:Int)+1)=((j+1:Nat):Int)by omega,show((i:Int)+1)=((i+1:Nat):Int)by omega,drop_cons hc,AQ8];have n1:=ih (i+1) (j+1) (b.set i b[j]) (by omega) (by simp;omega) (by simp;omega) (by simp;omega);have n2:=ih i (j+1) b (by omega) (by omega) hb (by omega);rw[show(t.1,())=t from rfl,n2];rw[AWZ (by omega),ARq (by simp;omega),AWa (AP3 _),AWT,AOT,AQs]at n1;rw[AME (by omega),ANW,n1]
    generalize hx:b[j]=x
    cases(!t.1.1.contains x)<;>rfl
   ·rw[AMG (by omega),AMS (i:=j) (by omega),ANW,ANW]
    have h1:((b.take i++List.replicate (b.length-i) 0++b.drop (i+(b.length-i))).length:Int)=b.length:=by simp;omega
    rw[AME (by omega),AME (by rw[h1];omega)];rw[APS,Nat.sub_zero,AOT,AUL (by simp;omega),List.take_take,Nat.min_self,ATn,AN8]
 have fnd:∀(n i:Nat),i≤l.length→l.length-i<n→ ∃r:Int,B8 n l t l.length i=some ((r,()),())∧((r= -1∧(l.drop i).filter (fun x=> !(!t.1.1.contains x))=l.drop i)∨ ∃q:Nat,r=q∧i≤q∧q<l.length∧((l.take q).drop i).filter (fun x=> !(!t.1.1.contains x))=(l.take q).drop i∧ ∀(h:q<l.length) x,x=l[q]→(!t.1.1.contains x)=true):=by
  intro n
  induction n with
  |zero=>intro i _ h;omega
  |succ n ih=>
   intro i hi hn;simp only[B8,D3,AB];by_cases hc:i<l.length
   ·rw[AME (by omega),AME (by omega),Ah hc,vf h]
    simp only[AD];rw[AH (x:=(i:Int)+1) (by omega) (by omega),show((i:Int)+1)=((i+1:Nat):Int)by omega,show(t.1,())=t from rfl];obtain⟨r,e,hr⟩:=ih (i+1) (by omega) (by omega);rw[e]
    generalize hx:l[i]=x
    cases hp:(!t.1.1.contains x)with
    |true=>
     refine⟨i,rfl,.inr ⟨i,rfl,AP3 _,hc,?_,fun h y hy=> ?_⟩⟩
     ·rw[AMS (by simp;omega)];rfl
     ·rw[hy,hx];exact hp
    |false=>
     refine⟨r,rfl,?_⟩;rcases hr with⟨h1,h2⟩|⟨q,h1,h2,h3,h4,h5⟩
     ·refine .inl ⟨h1,?_⟩
      rw[drop_cons hc,AQ8,h2,hx,hp];rfl
     ·refine .inr ⟨q,h1,by omega,h3,?_,h5⟩
      have FW:i<(l.take q).length:=by simp;omega
      rw[drop_cons FW,AQ8,h4,List.getElem_take,hx,hp];rfl
   ·refine⟨-1,by rw[AMG (by omega)],.inl ⟨rfl,?_⟩⟩
    rw[AMS (by omega)];rfl
 obtain⟨r,e,hr⟩:=fnd Ab 0 (by omega) (Ae (by omega));rw[show((0:Nat):Int)=0 from rfl]at e;unfold Co Du De Dx;rw[show(t.1,())=t from rfl,e];simp only[AD];rcases hr with⟨h1,h2⟩|⟨q,h1,h2,h3,h4,h5⟩
 ·rw[h1]
  rw[APS]at h2;rw[h2];rfl
 ·rw[h1,APV.2 (by omega),AMW,AH (by omega) (by omega),show((q:Int)+1)=((q+1:Nat):Int)by omega,key Ab q (q+1) l (by omega) (by omega) hl (Ae (by omega))]
  rw[APS]at h4;have hd:=h5 h3 _ rfl;congr 3
  conv=>rhs;rw[←AVG q l,AUx,h4,drop_cons h3,AQ8]
  rw[hd];rfl
theorem bI{t:AB6}{l:AAF}(hl:l.length≤2^30):Cm t l=some (((),()),((),l.filter (fun x=> !(x==t.1.1)),())):=by
 have key:∀(n i j:Nat) (b:AAF),i≤j→j≤b.length→b.length≤2^30→b.length-j<n→Bv n t i j b=some (((),()),((),b.take i++(b.drop j).filter (fun x=> !(x==t.1.1)),())):=by
  intro n
  induction n with
  |zero=>intro i j b _ _ _ h;omega
  |succ n ih=>
   intro i j b hij hj hb hn;simp only[Bv,Eh,AB];by_cases hc:j<b.length
   ·rw[AME (by omega),AME (by omega),Ah hc,lE]
    simp only[AD];rw[AH (x:=(j:Int)+1) (by omega) (by omega),AH (x:=(i:Int)+1) (by omega) (by omega),show((j:Int)+1)=((j+1:Nat):Int)by omega,show((i:Int)+1)=((i+1:Nat):Int)by omega,drop_cons hc,AQ8];have n1:=ih (i+1) (j+1) (b.set i b[j]) (by omega) (by simp;omega) (by simp;omega) (by simp;omega);have n2:=ih i (j+1) b (by omega) (by omega) hb (by omega);rw[show(t.1,())=t from rfl,n2];rw[AWZ (by omega),ARq (by simp;omega),AWa (AP3 _),AWT,AOT,AQs]at n1;rw[AME (by omega),ANW,n1]
    generalize hx:b[j]=x
    cases(x==t.1.1)<;>rfl
   ·rw[AMG (by omega),AMS (i:=j) (by omega),ANW,ANW]
    have h1:((b.take i++List.replicate (b.length-i) 0++b.drop (i+(b.length-i))).length:Int)=b.length:=by simp;omega
    rw[AME (by omega),AME (by rw[h1];omega)];rw[APS,Nat.sub_zero,AOT,AUL (by simp;omega),List.take_take,Nat.min_self,ATn,AN8]
 have fnd:∀(n i:Nat),i≤l.length→l.length-i<n→ ∃r:Int,B6 n l t l.length i=some ((r,()),())∧((r= -1∧(l.drop i).filter (fun x=> !(x==t.1.1))=l.drop i)∨ ∃q:Nat,r=q∧i≤q∧q<l.length∧((l.take q).drop i).filter (fun x=> !(x==t.1.1))=(l.take q).drop i∧ ∀(h:q<l.length) x,x=l[q]→(x==t.1.1)=true):=by
  intro n
  induction n with
  |zero=>intro i _ h;omega
  |succ n ih=>
   intro i hi hn;simp only[B6,E_,AB];by_cases hc:i<l.length
   ·rw[AME (by omega),AME (by omega),Ah hc,lE]
    simp only[AD];rw[AH (x:=(i:Int)+1) (by omega) (by omega),show((i:Int)+1)=((i+1:Nat):Int)by omega,show(t.1,())=t from rfl];obtain⟨r,e,hr⟩:=ih (i+1) (by omega) (by omega);rw[e]
    generalize hx:l[i]=x
    cases hp:(x==t.1.1)with
    |true=>
     refine⟨i,rfl,.inr ⟨i,rfl,AP3 _,hc,?_,fun h y hy=> ?_⟩⟩
     ·rw[AMS (by simp;omega)];rfl
     ·rw[hy,hx];exact hp
    |false=>
     refine⟨r,rfl,?_⟩;rcases hr with⟨h1,h2⟩|⟨q,h1,h2,h3,h4,h5⟩
     ·refine .inl ⟨h1,?_⟩
      rw[drop_cons hc,AQ8,h2,hx,hp];rfl
     ·refine .inr ⟨q,h1,by omega,h3,?_,h5⟩
      have FW:i<(l.take q).length:=by simp;omega
      rw[drop_cons FW,AQ8,h4,List.getElem_take,hx,hp];rfl
   ·refine⟨-1,by rw[AMG (by omega)],.inl ⟨rfl,?_⟩⟩
    rw[AMS (by omega)];rfl
 obtain⟨r,e,hr⟩:=fnd Ab 0 (by omega) (Ae (by omega));rw[show((0:Nat):Int)=0 from rfl]at e;unfold Cm Es Dw FA;rw[show(t.1,())=t from rfl,e];simp only[AD];rcases hr with⟨h1,h2⟩|⟨q,h1,h2,h3,h4,h5⟩
 ·rw[h1]
  rw[APS]at h2;rw[h2];rfl
 ·rw[h1,APV.2 (by omega),AMW,AH (by omega) (by omega),show((q:Int)+1)=((q+1:Nat):Int)by omega,key Ab q (q+1) l (by omega) (by omega) hl (Ae (by omega))]
  rw[APS]at h4;have hd:=h5 h3 _ rfl;congr 3
  conv=>rhs;rw[←AVG q l,AUx,h4,drop_cons h3,AQ8]
  rw[hd];rfl
theorem bT{a b:AAF}(ha:a.length≤2^30)(hb:b.length≤2^30):NM a b=some (((),()),(a.filter b.contains,())):=by
 unfold NM;rw[Dl ha];simp only[AD];rw[mo hb ha];simp only[AD,Bool.not_not]
theorem Pn{a:AAF}{x:Int}(ha:a.length≤2^30):HS a x=some (((),()),(less a [x],())):=by
 unfold HS less;rw[Dl ha];simp only[AD];rw[bI ha];simp only[AD];congr 3;congr 1;funext y;simp only[List.contains_cons,List.contains_nil,AWX]
theorem dE{d:Bh}:VN d=some ((Mw d,()),()):=by
 obtain⟨k,a,b,n,t,⟨⟩⟩:=d;obtain⟨m,hm⟩:∃m,Ab=m+4:=⟨Ab-4,by have:=eH;omega⟩;have fin:∀(a' b' n':Int) (t':ABY),(((A6 k 1 16).bind fun u4=>cond (u4.1.1) (cond ((((0:Int)==0)&&((a' ==0)&&((b' ==0)&&((n' ==0)&&((t' ==[])&&true))))) ) ((GC t).bind fun u6=>some ((u6.1.1,()),())) (some ((false,()),()))) (some ((false,()),()))):Option P5)=some ((BD k 1 16&&((a' ==0)&&((b' ==0)&&((n' ==0)&&((t' ==[])&&decide (t.length≤40))))),()),()):=by
  intro a' b' n' t';rw[A0];simp only[AD,GC,beq_self_eq_true,APB,AR1];have e:decide ((t.length:Int)≤40)=decide (t.length≤40):=by rw[AWV];omega
  rw[e];cases BD k 1 16<;>cases a' ==0<;>cases b' ==0<;>cases n' ==0<;>cases t' ==[]<;>rfl
 unfold VN YW aW Mw bG;rw[hm];have h1:((1:Nat):Int)=1:=rfl;have w1:AU (1:Int)=1:=AH (by omega) (by omega);have w2:AU (2:Int)=2:=AH (by omega) (by omega);have w3:AU (3:Int)=3:=AH (by omega) (by omega);have lim:(3:Nat)≤DF:=by rw[As];omega
 have l0:(0:Nat)≤DF:=by omega
 have l1:(1:Nat)≤DF:=by rw[As];omega
 have l2:(2:Nat)≤DF:=by rw[As];omega
 dsimp only;by_cases k8:k=8
 ·subst k8
  simpa[Di,DP]using fin a b n t
 by_cases k10:k=10
 ·subst k10
  simpa[Di,DP]using fin a b n t
 by_cases k12:k=12
 ·subst k12
  simpa[Di,DP]using fin a b n t
 by_cases k2:k=2
 ·subst k2
  simpa[Di,DP,l2,w1,w2]using fin 0 b n []
 by_cases k3:k=3
 ·subst k3
  simpa[Di,DP,lim,w1,w2,w3]using fin 0 0 0 t
 by_cases k5:k=5
 ·subst k5
  simpa[Di,DP,l2,w1,w2]using fin 0 0 n t
 by_cases k14:k=14
 ·subst k14
  simpa[Di,DP,l2,w1,w2]using fin 0 0 n t
 by_cases k11:k=11
 ·subst k11
  simpa[Di,DP,l2,w1,w2]using fin a 0 0 t
 by_cases k13:k=13
 ·subst k13
  simpa[Di,DP,l1,w1]using fin 0 b n t
 have e8:(k==8)=false:=APV.2 k8;have e10:(k==10)=false:=APV.2 k10;have e12:(k==12)=false:=APV.2 k12;have e2:(k==2)=false:=APV.2 k2;have e3:(k==3)=false:=APV.2 k3;have e5:(k==5)=false:=APV.2 k5;have e14:(k==14)=false:=APV.2 k14;have e11:(k==11)=false:=APV.2 k11;have e13:(k==13)=false:=APV.2 k13;simpa[k8,k10,k12,k2,k3,k5,k14,k11,k13,e8,e10,e12,e2,e3,e5,e14,e11,e13,Di,DP,l1,w1]using fin 0 b n t
end Go.M
end
section
set_option maxRecDepth 8000
namespace Go.M
open Go.M.H (AK AO A5 Aj AA Cj AQ BC AR Am Bk BA Bh Ak CG AW AS AZ Ag Bi Ay Aq BB EB CP Cx C_)
theorem mW{l:List BA}(hl:l.length≤2^20):PN l=some (((),()),(l.map (fun a=>a.1),())):=by
 have key:∀(n i:Nat) (b:AAF),i≤l.length→l.length-i<n→b.length=i→NH n l l.length i b=some (((),()),(b++(l.drop i).map (fun a=>a.1),())):=by
  intro n
  induction n with
  |zero=>intro i b _ h;omega
  |succ n ih=>
   intro i b hi h hb;simp only[NH,XN,AB];by_cases cV:i<l.length
   ·have c1:(0:Int)≤(i:Int)∧(i:Int)<(l.length:Int):=by omega
    have c2:b.length+1≤DF:=by rw[As];omega
    rw[AME c1.2,AME c1,AME c2,AH (by omega) (by omega),show((i:Int)+1)=((i+1:Nat):Int)by omega,Ah cV,ih (i+1) _ (by omega) (by omega) (by simp;omega),drop_cons cV];simp only[AOT,AQs,AR9]
   ·rw[AMG (by omega),AMS (by omega),AU6,AN8]
 unfold PN X1;have:=key Ab 0 [] (by omega) (Ae (by omega)) rfl;rw[show((0:Nat):Int)=0 from rfl,APS,AQU]at this;exact this
theorem sf{c:CH}{s l:AAF}(hc:c.1.length≤2^40)(hl:l.length≤2^20)(hs:s.length≤2^20):eS c s l=some (((),()),(if Ar c s&&Ar c l then less s l else[],())):=by
 have key:∀(n i:Nat) (b:AAF),i≤s.length→s.length-i<n→b.length≤i→S2 n l s s.length i b=some (((),()),(b++less (s.drop i) l,())):=by
  intro n
  induction n with
  |zero=>intro i b _ h;omega
  |succ n ih=>
   intro i b hi h hb;simp only[S2,cI,AB,Aw];by_cases cV:i<s.length
   ·have c1:(0:Int)≤(i:Int)∧(i:Int)<(s.length:Int):=by omega
    have c2:b.length+1≤DF:=by rw[As];omega
    rw[AME c1.2,AME c1,Ah cV,I3 (by omega),AH (by omega) (by omega),show((i:Int)+1)=((i+1:Nat):Int)by omega,drop_cons cV];simp only[AD,AME c2];rw[ih (i+1) b (by omega) (by omega) (by omega),ih (i+1) (b++[s[i]]) (by omega) (by omega) (by simp;omega)];unfold less;rw[AQ8];cases l.contains s[i]with
    |true=>rfl
    |false=>simp
   ·rw[AMG (by omega),AMS (by omega)]
    simp[less]
 unfold eS cJ;rw[show(c.1,c.2.1,())=c from rfl,EC hc (by omega),EC hc (by omega)];simp only[AD];cases Ar c s with
 |false=>rfl
 |true=>
  cases Ar c l with
  |false=>rfl
  |true=>
   have:=key Ab 0 [] (by omega) (Ae (by omega)) (by simp);rw[show((0:Nat):Int)=0 from rfl,APS,AQU]at this;exact this
theorem filter_all{l:AAF}{p:Int→Bool}:((((l.filter p).length:Nat):Int) !=(l.length:Int))= !l.all p:=by
 rw[AWN];simp only[bne_iff_ne,ne_eq,AR3,AR4];constructor
 ·intro h ha
  exact h (by rw[List.filter_eq_self.2 (ARv.1 ha)])
 ·intro h ha
  refine h (ARv.2 ?_);exact List.length_filter_eq_length_iff.1 (by omega)
theorem dG{c:CH}{s l:AAF}(hc:c.1.length≤2^40)(hl:l.length≤2^20)(hs:s.length≤2^20):HD c s l=some ((Q2 c s l,()),()):=by
 unfold HD Q2;rw[show(c.1,c.2.1,())=c from rfl,EC hc (by omega),GY hc (by omega),bT (by omega) (by omega),sf hc hl hs];simp only[AD,Aw,filter_all];have hh:holds c s=true→Ar c s=true:=fun h=>by
  unfold holds at h;simp only[AMY]at h;exact h.1
 cases h1:Ar c l with
 |false=>simp
 |true=>
  cases h2:holds c s with
  |false=>rfl
  |true=>
   cases h3:l.all s.contains with
   |false=>rfl
   |true=>
    have h4:(less s l).length≤2^20:=ARV (ARZ _ _) hs;rw[hh h2];simp only[AOK,Bool.and_self,ARj,AMc,AMW,APB];rw[GY hc (by omega)];rfl
theorem XH{a b:AK}:RF a b=some ((better a b,()),()):=by
 unfold RF better;rw[AB];split<;>rfl
theorem oW{s:AAF}{p:Int}{l:List BA}(hs:s.length≤2^20)(hl:l.length≤2^20)(UI:∀a∈l,C6 a.2.2.1):
  Ye l s p=some (((((Hc s p none l).getD CJ),(Hc s p none l).isSome,()),()),()):=by
 have key:∀(n i:Nat) (b:Option AK),i≤l.length→l.length-i<n→
   Oq n s p b.isSome l l.length i 0 0 false [] (b.getD CJ).1 (b.getD CJ).2.1 (b.getD CJ).2.2.1 (b.getD CJ).2.2.2.1=some (((((Hc s p b (l.drop i)).getD CJ),(Hc s p b (l.drop i)).isSome,()),()),()):=by
  intro n
  induction n with
  |zero=>intro i b _ h;omega
  |succ n ih=>
   intro i b hi h;simp only[Oq,Yn,AB,Aw];by_cases cV:i<l.length
   ·have c1:(0:Int)≤(i:Int)∧(i:Int)<(l.length:Int):=by omega
    rw[AME c1.2,AME c1,AH (by omega) (by omega),show((i:Int)+1)=((i+1:Nat):Int)by omega,Ah cV,drop_cons cV];have ih':=fun b=>ih (i+1) b (by omega) (by omega)
    simp only[ih'];rw[I3 (by omega),show(l[i].2.2.1,l[i].2.2.2.1,l[i].2.2.2.2.1,l[i].2.2.2.2.2.1,())=WJ l[i]from rfl];rw[Qh (e:=WJ l[i]) (UI _ (AM3 cV))];simp only[AD,Hc];cases h1:l[i].2.1 with
    |false=>simp
    |true=>
     cases h2:s.contains l[i].1 with
     |false=>simp
     |true=>
      cases h3:EY (WJ l[i])with
      |false=>simp
      |true=>
       simp only[AOK,APB];by_cases h4:l[i].2.2.1=p
       ·rw[Cq,AME h4,AME (by show((WJ l[i]).1==p)=true;rw[ARe];exact h4)]
        cases b with
        |none=>
         simp only[AR0,AMW,XH,AD,Option.getD_none];have:=ih' (some (WJ l[i]));simp only[ARs,ARw]at this;have hb:better (WJ l[i]) (WJ l[i])=WJ l[i]:=by unfold better;rw[AMG (by omega)]
         rw[hb];exact this
        |some x=>
         simp only[ARs,AOK,ARw];rw[show(x.1,x.2.1,x.2.2.1,x.2.2.2.1,())=x from rfl];simp only[XH,AD];have:=ih' (some (better x (WJ l[i])));simp only[ARs,ARw]at this;exact this
       ·rw[Cq,AMG h4,AMG (by show¬((WJ l[i]).1==p)=true;rw[ARe];exact h4)]
   ·rw[AMG (by omega),AMS (by omega)]
    simp only[Hc]
 unfold Ye YP;exact key Ab 0 none (by omega) (Ae (by omega))
theorem bU{s t:AAF}{p:Int}:∀{l:List BA} {b:Option AK},(∀a∈l,s.contains a.1=t.contains a.1)→Hc s p b l=Hc t p b l
 |[],b,_=>rfl
 |a::l,b,h=>by
  simp only[Hc];rw[h a (by simp),bU (fun x hx=>h x (by simp[hx])),bU (fun x hx=>h x (by simp[hx]))]
theorem Vq{e:Bk}{a b:Int}{l:List Bk}(h:l.length≤2^30):FB e a b l=some (((),()),((a,b,(),()),(),l++[e],())):=by
 unfold FB;rw[AME (by rw[As];omega)]
theorem cg{s:AAF}{l:List BA}{a b:Int}{o:List Bk}(ha:1≤a∧a≤30)(hb:1≤b∧b≤60)(ho:o.length≤2^20)(hs:s.length≤2^20)(hl:l.length≤2^20)(UI:∀a∈l,C6 a.2.2.1):
  C2 l s a b o=some (((),()),((a,b+1,(),()),(),o++[Q1 (FN a b) (Hc s (FN a b) none l)],())):=by
 unfold C2;rw[IV];have hp:Gr a b=FN a b:=by
  unfold Gr;rw[AME (by rw[AMY,Ao,Ao];omega)]
 simp only[AD];rw[hp,oW hs hl UI];simp only[AD,Vq (ARV ho (by omega))];rw[AH (by omega) (by omega)];cases Hc s (FN a b) none l with
 |none=>rfl
 |some x=>
  simp only[ARs,AMc,AMW,ARw,Q1];cases x.2.2.1<;>rfl
theorem xl{x e o:Int}(hx:x=0∨BT x=true)(he:1≤e∧e≤31)(ho:1≤o∧o≤61):
  decide (x≥FN e o)=(decide (x>0)&& !(decide (An x<e)||((An x==e)&&decide (DU x<o)))):=by
 rcases hx with rfl|hx
 ·rw[AOS (by unfold FN;omega)]
  rfl
 ·have h:=GF hx
  rw[AWN];simp only[AMY,AR3,Bool.or_eq_false_iff,AOV,ARr,AWS,APV];have h3:=h.2.2;unfold FN at h3⊢;omega
theorem mL{x:Int}{r:Am}(hx:C6 x):We x r=some ((decide (An x<r.1)||((An x==r.1)&&decide (DU x<r.2.1)),()),()):=by
 unfold We;rw[E5 hx,ZT hx];simp only[AD];cases decide (An x<r.1)with
 |true=>rfl
 |false=>cases An x==r.1<;>rfl
end Go.M
end
section
set_option maxRecDepth 8000
namespace Go.M
open Go.M.H (AK AO A5 Aj AA Cj AQ BC AR Am Bk BA Bh Ak CG AW AS AZ Ag Bi Ay Aq BB EB CP Cx C_)
theorem gl{c:CH}{g:AQ}{sure:Int}{r:Am}{l:List BA}(hc:c.1.length≤2^20)(hg:AW Bi g.1≤2^20)(ht:C6 g.2.1)(hl:l.length≤2^20)(UI:∀a∈l,C6 a.2.2.1):
  KV c g sure r l=some (xr (CE c g sure r l)):=by
 unfold KV CE;rw[show(c.1,c.2.1,())=c from rfl,show(g.1,g.2.1,())=g from rfl,show(r.1,r.2.1,r.2.2.1,())=r from rfl,mW hl,NV (by omega) (by omega) ht,Z1];simp only[AD,Aw,AB];rw[EC (by omega) (by simp;omega)];simp only[AD];cases h1:Jb c g with
 |false=>rfl
 |true=>
 cases h2:P0 r with
 |false=>rfl
 |true=>
 cases h3:Ar c (l.map fun a=>a.1)with
 |false=>rfl
 |true=>
 have hr:=RY.1 h2;have hre:=hr.ep;have hro:=hr.off;have hrn:=hr.n;have hR:=JP.1 h1;have hRn:=hR.n;simp only[AOK,APB,AMc,AMZ,AQb];rw[XZ (by omega)];simp only[AD];by_cases h4:r.1>(g.1.length:Int)
 ·rw[AME h4,AO0 h4];rfl
 rw[AMG h4,AOS h4];by_cases h5:r.2.2.1.length=120
 ·rw[show(((r.2.2.1.length:Nat):Int)==120)=true by rw[ARe];omega,AO0 h5];rfl
 rw[show(((r.2.2.1.length:Nat):Int)==120)=false by rw[APV];omega,AOS h5];simp only[AMW,ARf,AMZ,AQb];rw[AH (x:=r.1-1) (by omega) (by omega),mL ht,E5 ht,ZT ht];simp only[AD];have hto:=iw (x:=g.2.1);rw[AH (x:=DU g.2.1+1) (by omega) (by omega),AH (x:=r.1+1) (by omega) (by omega)];simp only[Vq (l:=r.2.2.1) (by omega),AD];have hta:=xl (x:=g.2.1) (e:=r.1) (o:=r.2.1) (hR.trim.imp id fun h=>h.1) hre hro
 generalize ADK:g.1.getD (r.1-1).toNat C9=era
 have FW:(r.1-1).toNat<g.1.length:=by omega
 have Us:era.1.length≤2^20:=by
  have h7:=AZ (f:=Bi) (Ba (d:=C9) FW);rw[ADK]at h7;have:Bi era=era.1.length:=rfl;omega
 have hd:g.1.getD (r.1-1).toNat ([],false,0,())=era:=ADK;rw[hd];have hf:((l.map fun a=>a.1).filter era.1.contains).length≤2^20:=ARV (ARZ _ _) (by simpa using hl);rw[bT (by simp;omega) (by omega)];simp only[AD];rw[dG (by omega) hf Us];simp only[AD];have AZA:(0:Int)≤r.1-1∧r.1-1<(g.1.length:Int):=by omega
 simp only[AME AZA]
 generalize hT:(cond (era.2.1) _ _:Option Ke)=T
 have wS:T=some (xr (if era.2.1&&decide (r.2.1>era.2.2.1)then((r.1+1,1,r.2.2.1++[(4,r.1+1,[],())],()),0)else
   if(!era.2.1&&decide (r.2.1>sure))||decide (r.2.1>60)then(r,2)else
   if !Q2 c era.1 ((l.map fun a=>a.1).filter era.1.contains)then(r,3)else
   ((r.1,r.2.1+1,r.2.2.1++[Q1 (FN r.1 r.2.1) (Hc era.1 (FN r.1 r.2.1) none l)],()),0))):=by
  rw[←hT];clear hT;have tail:r.2.1≤60→(cond (Q2 c era.1 ((l.map fun a=>a.1).filter era.1.contains))
    ((C2 l ((l.map fun a=>a.1).filter era.1.contains) r.1 r.2.1 r.2.2.1).bind fun MU=>some ((((MU.2.1.1,MU.2.1.2.1,(),()),0,()),()),(MU.2.2.2.1,())))
    (some ((((r.1,r.2.1,(),()),3,()),()),(r.2.2.1,()))):Option Ke)=some (xr (if !Q2 c era.1 ((l.map fun a=>a.1).filter era.1.contains)then(r,3)else
    ((r.1,r.2.1+1,r.2.2.1++[Q1 (FN r.1 r.2.1) (Hc era.1 (FN r.1 r.2.1) none l)],()),0))):=by
   intro h60;rw[cg (by omega) (by omega) (by omega) hf hl UI];rw[bU (s:=(l.map fun a=>a.1).filter era.1.contains) (t:=era.1) (fun a ha=>by
    rw[AWN,ASE,ASH];exact⟨fun h=>by simpa using h.2,fun h=>⟨List.mem_map_of_mem ha,by simpa using h⟩⟩)]
   cases Q2 c era.1 ((l.map fun a=>a.1).filter era.1.contains)<;>rfl
  cases h7:era.2.1 with
  |true=>
   simp only[AOK,AMW,APB,AMc,ARm,ARf,AOV];by_cases h8:r.2.1>era.2.2.1
   ·rw[AME h8,AME h8];rfl
   rw[AMG h8,AMG h8];by_cases h9:r.2.1>60
   ·rw[AME h9,AME h9];rfl
   rw[AMG h9,AMG h9];exact tail (by omega)
  |false=>
   simp only[AOK,AMW,APB,ARb,ARm,AMZ,AQb,ARt,AOV];by_cases h8:r.2.1>sure
   ·rw[AME h8,AME (.inl h8)];rfl
   rw[AMG h8];by_cases h9:r.2.1>60
   ·rw[AME h9,AME (.inr h9)];rfl
   rw[AMG h9,AMG (show¬(r.2.1>sure∨r.2.1>60)by omega)];exact tail (by omega)
 rw[wS];clear hT wS
 generalize (decide (An g.2.1<r.1)||((An g.2.1==r.1)&&decide (DU g.2.1<r.2.1)))=B at hta⊢
 by_cases h6:g.2.1≥FN r.1 r.2.1
 ·rw[AO0 h6]at hta
  rw[AME h6];by_cases h0:g.2.1>0
  ·rw[AME h0]
   cases B with
   |true=>rw[AMc,ATb]at hta;cases hta
   |false=>rfl
  ·rw[AOS h0]at hta;cases hta
 ·rw[AMG h6]
  rw[AOS h6]at hta;by_cases h0:g.2.1>0
  ·rw[AME h0]
   cases B with
   |true=>rfl
   |false=>rw[AO0 h0]at hta;cases hta
  ·rw[AMG h0]
end Go.M
end
section
set_option maxRecDepth 8000
namespace Go.M
open Go.M.H (AK AO A5 Aj AA Cj AQ BC AR Am Bk BA Bh Ak CG AW AS AZ Ag Bi Ay Aq BB EB CP Cx C_)
theorem zw{w:AA}{p n:Int}:(answer w p n).1=n:=by
 unfold answer;split<;>rfl
theorem pX{w:AA}{p:Int}{ns:AAF}:(answers w p ns).map (fun a=>a.1)=ns.filter fun n=>Au w n==0:=by
 unfold answers;rw[ATK]
 conv=>rhs;rw[←AWd (ns.filter fun n=>Au w n==0)]
 exact ASA fun n _=>zw
theorem jt{c:CH}{g:AQ}{s:Int}{r:Am}{w:AA}{ns:AAF}:
  CE c g s r (answers w (Gr r.1 r.2.1) ns)=CE c g s r (answers w (FN r.1 r.2.1) ns):=by
 unfold CE;rw[pX,pX];cases h1:Jb c g with
 |false=>rfl
 |true=>
 cases h2:P0 r with
 |false=>rfl
 |true=>
 have hr:=RY.1 h2;have hre:=hr.ep;have hro:=hr.off;have hRn:=(JP.1 h1).n;by_cases h3:r.1≤30∧r.2.1≤60
 ·have:Gr r.1 r.2.1=FN r.1 r.2.1:=by
   unfold Gr;rw[AME (by rw[AMY,Ao,Ao];omega)]
  rw[this]
 ·by_cases h4:r.1>(g.1.length:Int)
  ·rw[AO0 h4];rfl
  ·have h5:r.2.1>60:=by omega
   rw[AO0 h5];simp only[Bool.or_true,ARj]
def kM(q:AA×Int):Kt:=((q.2,()),(((),q.1.2.1,(),(),(),q.1.2.2.2.2.2.1,(),(),(),(),q.1.2.2.2.2.2.2.2.2.2.2.1,()),q.1.1,q.1.2.2.1,q.1.2.2.2.1,q.1.2.2.2.2.1,q.1.2.2.2.2.2.2.1,q.1.2.2.2.2.2.2.2.1,q.1.2.2.2.2.2.2.2.2.1,q.1.2.2.2.2.2.2.2.2.2.1,()))
theorem AFB{k n:Int}(h:n∈A7 k):0≤n∧n≤7:=by
 unfold A7 at h;split at h
 ·have:=(ASH.1 h).1
  simp at this;omega
 ·simp at h
theorem uh{k:Int}:(A7 k).length≤8:=by
 unfold A7;split
 ·exact ARV (ARZ _ _) (by simp)
 ·simp
section
variable{w:AA} (h:On w) (Qj:lH w)
include h Qj
omit Qj in
theorem xd{p:Int}{ns:AAF}:∀a∈answers w p ns,C6 a.2.2.1:=fun a ha=>by
 unfold answers at ha;obtain⟨n,hn,rfl⟩:=AR8.1 ha;have hn':Au w n=0:=by have:=(ASH.1 hn).2;rwa [ARe]at this
 unfold answer;split
 ·rename_i e he
  have:=(h.store hn').kept e (ATW he);exact Gl (FT.1 this).pl
 ·exact⟨by show-9223372036854775808≤(0:Int);omega,by show(0:Int)<9223372036854775808;omega⟩
theorem gg{a k:Int}:ND a k w.2.1 w.2.2.2.2.2.1 w.2.2.2.2.2.2.2.2.2.2.1 w.1 w.2.2.1 w.2.2.2.1 w.2.2.2.2.1 w.2.2.2.2.2.2.1 w.2.2.2.2.2.2.2.1 w.2.2.2.2.2.2.2.2.1 w.2.2.2.2.2.2.2.2.2.1=some (kM (FO w a k)):=by
 have kn:=h.nums;have k1:=kn.c;have k3:=kn.lost;have k4:=kn.st;have gw:=kn.J8;have jW:=kn.gq;have k5:=kn.era;have k6:=kn.ws;have k6':AW Ak w.A4≤80008:=kn.ws;have k8:=kn.rd;unfold ND Ni FO;rw[AH (by omega) (by omega),show((w.2.2.2.2.2.2.2.2.1.length:Int)-1)=1 by omega,A0];simp only[AD,Aw];rcases AMA (BD a 0 1)with h1|h1
 rotate_left
 ·rw[h1];rfl
 have r_:=Ao.1 h1;have hb:0≤a∧a<(w.2.2.2.2.2.2.2.2.1.length:Int):=by omega
 have FW:a.toNat<w.AY.length:=by
  have:w.AY.length=2:=h.kq;omega
 have X5:=h.AY _ (Ba (d:=Ca) FW);rw[h1,Fi,AOK,AME hb,Yk];simp only[show w.2.2.2.2.2.2.2.2.1.getD a.toNat (0,0,[],())=w.AY.getD a.toNat Ca from rfl]
 generalize hx:w.AY.getD a.toNat Ca=r at X5⊢
 have hre:=X5.ep;have hro:=X5.off;rw[IV];simp only[AD];have wV:=uh (k:=k);have hmi:=fun n=>AFB (k:=k) (n:=n)
 rw[←jt]
 generalize hp:Gr r.1 r.2.1=p
 have UI:=fun ns=>xd h (p:=p) (ns:=ns)
 generalize A7 k=ms at wV hmi
 have key:∀(n i:Nat) (b:List BA),i≤ms.length→ms.length-i<n→b.length≤i→b=answers w p (ms.take i)→
   DD n a p ms.length i w.2.1 w.2.2.2.2.2.1 w.2.2.2.2.2.2.2.2.2.2.1 w.1 w.2.2.1 w.2.2.2.1 w.2.2.2.2.1 w.2.2.2.2.2.2.1 w.2.2.2.2.2.2.2.1 w.2.2.2.2.2.2.2.2.1 w.2.2.2.2.2.2.2.2.2.1 r.1 r.2.1 r.2.2.1 b ms=
    some (kM (if(CE (AX w) (Bj w) (bQ w r.1) r (answers w p ms)).2≠0 then(w,5)else(w.Bg (w.AY.set a.toNat (CE (AX w) (Bj w) (bQ w r.1) r (answers w p ms)).1),0))):=by
  intro n
  induction n with
  |zero=>intro i b _ h;omega
  |succ n ih=>
   intro i b hi hn rT he;simp only[DD,Nj,AB,Aw];by_cases DE:i<ms.length
   ·have c1:(0:Int)≤(i:Int)∧(i:Int)<(ms.length:Int):=by omega
    have c2:b.length+1≤DF:=by rw[As];omega
    have ht:ms.take (i+1)=ms.take i++[ms[i]]:=ARq DE;rw[AME c1.2,AME c1,Ah DE,AH (by omega) (by omega),show((i:Int)+1)=((i+1:Nat):Int)by omega,show(w.1,w.2.1,w.2.2.1,w.2.2.2.1,w.2.2.2.2.1,w.2.2.2.2.2.1,w.2.2.2.2.2.2.1,w.2.2.2.2.2.2.2.1,w.2.2.2.2.2.2.2.2.1,w.2.2.2.2.2.2.2.2.2.1,w.2.2.2.2.2.2.2.2.2.2.1,())=w from rfl,Z8 (by omega)];simp only[AD];have hm:=hmi _ (AM3 DE);by_cases hn0:Au w ms[i]=0
    ·obtain⟨n1,n2,n3⟩:=QF hn0
     have n2':ms[i]<(w.2.2.1.length:Int):=n2;have n3':w.2.2.2.1.contains ms[i]=false:=by
      rw[AR4,ne_eq,ASE];exact n3
     have hs1:(ms[i]).toNat<w.2.2.1.length:=by omega
     have Zn:w.2.2.1.getD (ms[i]).toNat ([],[],0,())=storeAt w ms[i]:=rfl;have hsm:Ak (storeAt w ms[i])≤2^30:=ARV (AZ (f:=Ak) (Ba (d:=Dm) hs1)) (by omega);have AXy:B_ (storeAt w ms[i])=true:=DO.2 (h.store hn0);rw[AME n2',n3',AMW,AME ⟨n1,n2'⟩,Zn,show((storeAt w ms[i]).1,(storeAt w ms[i]).2.1,(storeAt w ms[i]).2.2.1,())=storeAt w ms[i]from rfl,T8 hsm (h.store hn0).sin];simp only[AD];rw[AME c2];refine ih (i+1) _ (by omega) (by omega) (by simp;omega) ?_
     rw[ht,he];unfold answers;rw[AUx,List.map_append];congr 1;rw[AQ8,AME (by rw[ARe];exact hn0),ATn,AR9,AU6];congr 1;unfold answer Xj;rw[AME AXy];cases Ou p (storeAt w ms[i]).1<;>rfl
    ·have n1:=ih (i+1) b (by omega) (by omega) (by omega) (by
      rw[ht,he];unfold answers;rw[AUx,List.map_append,AQ8,AMG (by rw[ARe];exact hn0),ATn,AU6,AN8])
     by_cases hl:ms[i]<(w.2.2.1.length:Int)
     ·rw[AME hl]
      have AQR:w.2.2.2.1.contains ms[i]=true:=by
       cases hc:w.2.2.2.1.contains ms[i]with
       |true=>rfl
       |false=>
        exfalso
        apply hn0;unfold Au;have e1:BD ms[i] 0 ((w.A4.length:Int)-1)=true:=Ao.2 (by have:(w.A4.length:Int)=w.2.2.1.length:=rfl;omega);have e2:w.lost.contains ms[i]=false:=hc;rw[e1,e2];rfl
      rw[AQR,AOK,n1]
     ·rw[AMG hl,n1]
   ·have e0:ms.take i=ms:=ARk (by omega)
    rw[e0]at he;subst he;have z_:(answers w p ms).length≤8:=by omega
    rw[AMG (by omega),show(w.1,w.2.1,w.2.2.1,w.2.2.2.1,w.2.2.2.2.1,w.2.2.2.2.2.1,w.2.2.2.2.2.2.1,w.2.2.2.2.2.2.2.1,w.2.2.2.2.2.2.2.2.1,w.2.2.2.2.2.2.2.2.2.1,w.2.2.2.2.2.2.2.2.2.2.1,())=w from rfl,nt Qj,show(r.1,r.2.1,r.2.2.1,())=r from rfl,show(w.1,w.2.1,())=AX w from rfl,show(w.2.2.2.2.1,w.2.2.2.2.2.1,())=Bj w from rfl];simp only[AD];rw[gl (c:=AX w) (g:=Bj w) (by show w.1.length≤_;omega) (by show AW Bi w.2.2.2.2.1≤_;omega) kn.trim (by omega) (UI ms)];simp only[AD,xr,Cq];by_cases h2:(CE (AX w) (Bj w) (bQ w r.1) r (answers w p ms)).2=0
    ·rw[AME h2,AME hb,AMG (fun hh=>hh h2)];rfl
    ·rw[AMG h2,AME h2];rfl
 exact key Ab 0 [] (by omega) (Ae (by omega)) (by simp) (by simp[answers])
end
end Go.M
end
section
set_option maxRecDepth 8000
namespace Go.M
open Go.M.H (AK AO A5 Aj AA Cj AQ BC AR Am Bk BA Bh Ak CG AW AS AZ Ag Bi Ay Aq BB EB CP Cx C_)
theorem oQ{c:CH}{g:AQ}{sure:Int}{r:Am}{l:List BA}(h0:(CE c g sure r l).2=0):
  (∃e:Bk,(CE c g sure r l).1.2.2.1=r.2.2.1++[e]∧e.2.2.1.length≤40)∧r.2.2.1.length<120:=by
 have hf:∀p,(Q1 p (Hc (g.1.getD (r.1-1).toNat C9).1 p none l)).2.2.1.length≤40:=fun p=>by
  cases hb:Hc (g.1.getD (r.1-1).toNat C9).1 p none l with
  |none=>show 0≤40;omega
  |some x=>
   have:=(FT.1 (eD (b:=none) (fun x hx=>by cases hx) x hb)).len;unfold Q1;dsimp only;split
   ·show 0≤40;omega
   ·exact this
 revert h0
 unfold CE;dsimp only;split
 ·intro h0;cases h0
 rename_i hs;simp only[AQv,AQ5,AMY,RY]at hs;have r3:=hs.2.1.n;split
 ·intro h0;cases h0
 rename_i h1;simp only[ARt,AOV,not_or]at h1;have FW:r.2.2.1.length<120:=by omega
 split
 ·intro _;exact⟨⟨_,rfl,by show 0≤40;omega⟩,FW⟩
 split
 ·intro _;exact⟨⟨_,rfl,by show 0≤40;omega⟩,FW⟩
 split
 ·intro h0;cases h0
 split
 ·intro h0;cases h0
 intro _;exact⟨⟨_,rfl,hf _⟩,FW⟩
theorem On.AXj{w:AA}(h:On w)(hr:AW BB w.AY≤900000):lH w:=by
 have hc:=(D2 h.cfg).2.1;have cV:w.1.length≤8:=hc;have a1:=EA (f:=Ak) (B:=10000) (N:=8) (l:=w.A4) (by rw[h.nc];exact hc) fun s hs=>(h.Ux hs).w
 have a2:=HA h.lost;have a3:=h.lB.w;have a4:=EA (f:=Aq) (B:=3000) h.qV fun x hx=>(h.AL x hx).1.w
 have a5:=EA (f:=CG) (B:=5000) h.wK fun x hx=>(h.Bo x hx).1.w
 have a7:=EA (f:=EB) (B:=40) h.Rc fun s hs=>(h.Ai s hs).2.2
 refine⟨?_,fun s hs=>(h.Ux hs).sin,h.lB.tin,fun m hm=>(h.Bo m hm).1.wX,fun s hs=>Gl (h.Ai s hs).1⟩;have a3':AW Bi w.Al≤270:=a3;have hr':AW BB w.2.2.2.2.2.2.2.2.1≤900000:=hr;have b1:AW Ak w.2.2.1≤8*(1+10000):=a1;have b2:w.2.2.2.1.length≤8:=a2;have b3:AW Bi w.2.2.2.2.1≤270:=a3;have b4:AW Aq w.2.2.2.2.2.2.1≤4*(1+3000):=a4;have b5:AW CG w.2.2.2.2.2.2.2.1≤1*(1+5000):=a5;have b7:AW EB w.2.2.2.2.2.2.2.2.2.1≤120*(1+40):=a7;unfold Cx;omega
def qS(w:AA)(a:Int):Nat:=(w.AY.getD a.toNat Ca).2.2.1.length
theorem ry{α:Type}{f:α→Nat}{x:α}:∀{l:List α} {i:Nat} (h:i<l.length),AW f (l.set i x)+f l[i]=AW f l+f x
 |y::l,0,_=>by simp[AW];omega
 |y::l,i+1,h=>by
  have:=ry (f:=f) (x:=x) (l:=l) (i:=i) (by simpa using h);simp only[List.set_cons_succ,AW,List.getElem_cons_succ];omega
theorem rR{α:Type}{f:α→Nat}{x:α}:∀{l:List α},AW f (l++[x])=AW f l+(1+f x)
 |[]=>by simp[AW]
 |y::l=>by
  have:=rR (f:=f) (x:=x) (l:=l);simp only[AR6,AW,this];omega
theorem vG{w:AA}{a k:Int}(h:On w)(e:(FO w a k).2=0):BD a 0 1=true∧On (FO w a k).1∧qS (FO w a k).1 a=qS w a+1∧qS w a<120∧
  qS (FO w a k).1 (1-a)=qS w (1-a)∧AW BB (FO w a k).1.AY≤AW BB w.AY+41:=by
 have Fj:=zC h e;unfold FO at e Fj⊢;split at e
 ·cases e
 rename_i h1;rw[AMG h1]at Fj;rw[AMG h1];dsimp only at e Fj⊢;split at e
 ·cases e
 rename_i h2;rw[AMG h2]at Fj;rw[AMG h2];simp only[ne_eq,AVT]at h2;simp only[AQv,AQ5]at h1;have r_:=Ao.1 h1;have hl:a.toNat<w.AY.length:=by rw[h.kq];omega
 obtain⟨⟨ev,q1,q2⟩,q3⟩:=oQ h2
 generalize hq:(CE (AX w) (Bj w) (bQ w (w.AY.getD a.toNat Ca).1) (w.AY.getD a.toNat Ca) (answers w (FN (w.AY.getD a.toNat Ca).1 (w.AY.getD a.toNat Ca).2.1) (A7 k))).1=q at q1 Fj
 have hg:(w.AY.set a.toNat q).getD a.toNat Ca=q:=by simp[List.getD,hl]
 have ax:(1-a).toNat≠a.toNat:=by omega
 refine⟨h1,Fj,?_,q3,?_,?_⟩
 ·show((w.AY.set a.toNat q).getD a.toNat Ca).2.2.1.length=_
  rw[hg,q1];simp[qS]
 ·show((w.AY.set a.toNat q).getD (1-a).toNat Ca).2.2.1.length=_
  simp only[List.getD,ARd (Ne.symm ax)];rfl
 ·show AW BB (w.AY.set a.toNat q)≤_
  have:=ry (f:=BB) (x:=q) hl;have e1:BB q=AW CP q.2.2.1:=rfl;have e2:BB w.AY[a.toNat]=AW CP w.AY[a.toNat].2.2.1:=rfl;rw[q1,rR,QH hl]at e1;have e3:CP ev=ev.2.2.1.length:=rfl;omega
structure HR (w v:AA) (a m:Int):Prop where
 ok:On v
 win:lH v
 stop:(FO v a 255).2≠0
 cnt:0≤m∧m≤120
 len:(qS v a:Int)=qS w a+m
 dX:qS v (1-a)=qS w (1-a)
end Go.M
end
section
set_option maxRecDepth 8000
namespace Go.M
open Go.M.H (AK AO A5 Aj AA Cj AQ BC AR Am Bk BA Bh Ak CG AW AS AZ Ag Bi Ay Aq BB EB CP Cx C_)
theorem iY{α:Type}{q:Nat}{v l:List α}(hq:q≤l.length)(hl:l.length+v.length≤2^30):uo (q:Int) v l=some (l.take q++v++l.drop q):=by
 unfold uo;rw[AME ⟨by omega,by omega,by rw[As];omega⟩,ANW]
theorem vd{l:AAF}(ha:Vp id l)(hl:l.length≤2^30)(p:Int):∃q,il id p l q∧
  GS l p=some ((((q:Int),(match l[q]? with|some e=>e==p|none=>false),()),()),()):=by
 have key:∀(n a b:Nat),a≤b→b≤l.length→b-a<n→(∀(i:Nat) (h:i<l.length),i<a→l[i]<p)→(∀(i:Nat) (h:i<l.length),b≤i→p≤l[i])→
   ∃q,il id p l q∧Dg n l p l.length a b=some ((((q:Int),(match l[q]? with|some e=>e==p|none=>false),()),()),()):=by
  intro n
  induction n with
  |zero=>intro a b _ _ h;omega
  |succ n ih=>
   intro a b ll hb hn h1 h2;simp only[Dg,J7,AB,cmp_Less_int,cmp_isNaN_int,PU,bne_self_eq_false,AD,AMW];by_cases FW:a<b
   ·have hm:(a+b)/2<l.length:=by omega
    rw[AME (by omega),sR (by omega),AME (by omega),Ah hm];by_cases hc:l[(a+b)/2]<p
    ·rw[AME hc,AH (by omega) (by omega),show((((a+b)/2:Nat):Int)+1)=(((a+b)/2+1:Nat):Int)by omega]
     refine ih _ b (by omega) hb (by omega) (fun i h hi=> ?_) h2;have:=ay (f:=id) ha h hm (by omega);simp only[id]at this;omega
    ·have wP:∀(i:Nat) (h:i<l.length),(a+b)/2≤i→p≤l[i]:=fun i h hi=>by
      have:=ay (f:=id) ha hm h hi;simp only[id]at this;omega
     rw[AMG hc];exact ih a _ (by omega) (by omega) (by omega) h1 wP
   ·have ACs:a=b:=by omega
    subst ACs;refine⟨a,⟨hb,h1,h2⟩,?_⟩;rw[AMG (by omega)];by_cases ha':a<l.length
    ·rw[AME (by omega),AME (by omega),Ah ha',AMJ ha']
     dsimp only;cases l[a]==p<;>simp[ha']
    ·rw[AMG (by omega),ARo (by omega)]
 obtain⟨q,hq,e⟩:=key Ab 0 l.length (by omega) (by omega) (Ae (by omega)) (fun i h hi=>by omega) (fun i h hi=>by omega);refine⟨q,hq,?_⟩;unfold GS J9;rw[show((0:Nat):Int)=0 from rfl]at e;exact e
theorem qG{x:Int}:∀{l:AAF} {q:Nat},il id x l q→(∀h:q<l.length,l[q]≠x)→gL x l=l.take q++[x]++l.drop q
 |[],q,h,_=>by
  have:=h.le;have:q=0:=by simpa using this
  subst this;rfl
 |y::l,0,h,hn=>by
  have h1:=h.ge 0 (by simp) (AP3 _);have h2:=hn (by simp);simp only[ATH,id]at h1 h2;simp only[gL];rw[AME (by omega)];rfl
 |y::l,q+1,h,hn=>by
  have h1:=h.lt 0 (by simp) (by omega);simp only[ATH,id]at h1;simp only[gL];rw[AMG (by omega),qG (l:=l) (q:=q) ⟨by have:=h.le;simp at this;omega,fun i hi xY=>by have:=h.lt (i+1) (by simp;omega) (by omega);simpa using this,fun i hi xY=>by have:=h.ge (i+1) (by simp;omega) (by omega);simpa using this⟩ (fun hq=>by have:=hn (by simp;omega);simpa using this)];rfl
theorem PI{l:AAF}{x:Int}(ha:Vp id l)(hl:l.length≤2^29):LH l x=some (((),()),(LA x l,())):=by
 unfold LH LA;rw[Dl (by omega)];simp only[AD];obtain⟨q,hq,e⟩:=vd ha (by omega) x;rw[e];simp only[AD,Aw];by_cases hc:q<l.length
 ·rw[AMJ hc]
  dsimp only;by_cases he:l[q]=x
  ·rw[ARe.2 he,AOK,AME (by rw[ASE,←he];exact AM3 hc)]
  ·rw[APV.2 he,AMW]
   have hn:l.contains x=false:=by
    rw[AR4,ne_eq,ASE];intro hm;obtain⟨i,hi,rfl⟩:=ARg hm;rcases Nat.lt_or_ge i q with xY|xY
    ·have:=hq.lt i hi xY;simp only[id]at this;omega
    ·have h1:=ay (f:=id) ha hc hi xY
     have h2:=hq.ge q hc (AP3 _);simp only[id]at h1 h2;omega
   rw[hn,AMG (by simp)];unfold J4;rw[iY (by omega) (by simp;omega),qG hq (fun _=>he)];rfl
 ·rw[ARo (by omega)]
  dsimp only;rw[AMW];have hn:l.contains x=false:=by
   rw[AR4,ne_eq,ASE];intro hm;obtain⟨i,hi,rfl⟩:=ARg hm;have:=hq.lt i hi (by have:=hq.le;omega);simp only[id]at this;omega
  rw[hn,AMG (by simp)];unfold J4;rw[iY hq.le (by simp;omega),qG hq (fun h=>absurd h hc)];rfl
theorem ud{e:AK}:∀{l:List AK} {q:Nat},il (fun x:AK=>x.1) e.1 l q→eZ l→
  keep e l=if h:q<l.length then(if l[q].1=e.1 then l.set q (better l[q] e)else l.take q++[e]++l.drop q)else l++[e]
 |[],q,h,_=>by
  have:=h.le;have:q=0:=by simpa using this
  subst this;rfl
 |y::l,0,h,_=>by
  have h1:=h.ge 0 (by simp) (AP3 _);simp only[ATH]at h1;simp only[keep,AN0,Nat.zero_lt_succ,AWR,ATH];by_cases he:y.1=e.1
  ·rw[AME he,AME he];rfl
  ·rw[AMG he,AMG he,AME (by omega)];rfl
 |y::l,q+1,h,ha=>by
  have h1:=h.lt 0 (by simp) (by omega);simp only[ATH]at h1;have ih:=ud (e:=e) (l:=l) (q:=q) ⟨by have:=h.le;simp at this;omega,fun i hi xY=>by have:=h.lt (i+1) (by simp;omega) (by omega);simpa using this,fun i hi xY=>by have:=h.ge (i+1) (by simp;omega) (by omega);simpa using this⟩ (ARi.1 ha).2;simp only[keep];rw[AMG (by omega),AMG (by omega),ih];by_cases hq:q<l.length
  ·rw[dif_pos hq,dif_pos (by simp;omega)]
   simp only[List.getElem_cons_succ];by_cases he:l[q].1=e.1
   ·rw[AME he,AME he];rfl
   ·rw[AMG he,AMG he];rfl
  ·rw[dif_neg hq,dif_neg (by simp;omega)]
   rfl
theorem bV{e:AK}{l:List AK}(ha:eZ l)(hl:l.length≤2^29):Wr e l=some (((),()),((),keep e l,())):=by
 unfold Wr;obtain⟨q,hq,hs⟩:=dB ha (by omega) e.1;rw[hs,ud hq ha];simp only[AD,Aw];by_cases hc:q<l.length
 ·rw[dif_pos hc,AMJ hc]
  dsimp only;have hb:(0:Int)≤(q:Int)∧(q:Int)<(l.length:Int):=by omega
  by_cases he:l[q].1=e.1
  ·rw[ARe.2 he,AOK,AME he,AME hb,Ah hc,show(l[q].1,l[q].2.1,l[q].2.2.1,l[q].2.2.2.1,())=l[q]from rfl,show(e.1,e.2.1,e.2.2.1,e.2.2.2.1,())=e from rfl,XH]
   simp only[AD];rw[AME hb,ANW]
  ·rw[APV.2 he,AMW,AMG he]
   unfold Dr;rw[iY (by omega) (by simp;omega)];rfl
 ·have hql:q=l.length:=by have:=hq.le;omega
  rw[dif_neg hc,ARo (by omega)];dsimp only;rw[AMW];unfold Dr;rw[iY (by omega) (by simp;omega),hql,AWU,AR2,AN8];rfl
theorem Mp{s:AO}(hw:Ak s≤2^30)(hs:iP s):Df s=some (if B_ s then((((),(),s.2.2.1,()),()),(s.1,s.2.1,()))else((((),(),0,()),()),([],[],()))):=by
 obtain⟨l1,l2⟩:=F_ hw;unfold Df;rw[show(s.1,s.2.1,s.2.2.1,())=s from rfl,E6 hw hs,IH l1 l2];simp only[AD];cases B_ s<;>rfl
theorem j_{s:AO}{e:AK}(hw:Ak s≤2^30)(hs:iP s)(he:C6 e.1):UL s e=some (gv (HG s e)):=by
 obtain⟨l1,l2⟩:=F_ hw;unfold UL HG;rw[show(s.1,s.2.1,s.2.2.1,())=s from rfl,show(e.1,e.2.1,e.2.2.1,e.2.2.2.1,())=e from rfl,E6 hw hs,Mp hw hs,IH l1 l2,Qh he,E5 he];simp only[AD,Aw,AB,C8];cases h1:B_ s with
 |false=>rfl
 |true=>
  have Fj:=DO.1 h1;have v7:=Fj.nl;cases h2:EY e with
  |false=>rfl
  |true=>
   have hE:=(FT.1 h2).w0;simp only[AOK,APB,AMc,AMZ,AQb,ARj];have lim:s.2.1.length+1≤DF:=by rw[As];omega
   by_cases h3:s.2.1.length=20
   ·rw[AME (by omega),AOS (fun h=>h h3),ATb]
    rfl
   ·rw[AMG (by omega),AO0 (show s.2.1.length≠20 from h3),AR1]
    unfold takes;by_cases h4:e.2.1=0
    ·rw[AME h4,AME h4]
     by_cases h5:An e.1≤s.2.2.1
     ·rw[AME h5,AOS (by omega)];rfl
     ·rw[AMG h5,AMG (by omega),AME lim,AO0 (by omega)];rfl
    ·rw[AMG h4,AMG h4,AME (by omega)]
     by_cases h5:e.2.1≤s.2.2.1
     ·rw[AME h5,AOS (by omega)];rfl
     ·rw[AMG h5,AME lim,AO0 (by omega)];rfl
theorem Wv{s:AO}{k:Int}(hw:Ak s≤2^30)(hs:iP s):NG s k=some (gv (F8 s k)):=by
 obtain⟨l1,l2⟩:=F_ hw;unfold NG TX F8;rw[show(s.1,s.2.1,s.2.2.1,())=s from rfl,E6 hw hs,Mp hw hs,IH l1 l2,A0];simp only[AD,Aw];cases h1:B_ s with
 |false=>rfl
 |true=>
  have Fj:=DO.1 h1;have v7:=Fj.nl;have hnk:=Fj.nk;simp only[AOK,AMc,AMZ,AQb,ARj];cases h2:BD k 0 1048575 with
  |false=>rfl
  |true=>
   have hk:=Ao.1 h2;have AXe:0≤k∧k<2^63:=by omega
   simp only[AOK,APB];have key:∀(n i:Nat) (b:List AK),i≤s.2.1.length→s.2.1.length-i<n→b.length≤200+i→eZ b→
     JX n k s.2.1 s.2.1.length i s.1 s.2.1 s.2.2.1 0 [] [] s.2.2.1 b []=
      some (gv (if decide ((EE b (M3 k i (s.2.1.drop i))).length≤200)then((EE b (M3 k i (s.2.1.drop i)),[],s.2.2.1,()),true)else(s,false))):=by
    intro n
    induction n with
    |zero=>intro i b _ h;omega
    |succ n ih=>
     intro i b hi hn hb ll;simp only[JX,TJ,AB];by_cases hc:i<s.2.1.length
     ·have qU:=tX AXe (i:=i) (by omega)
      rw[AME (by omega),AME (by omega),AMG (by omega),ANW,qU,AB,QH hc,AH (by omega) (by omega),show((i:Int)+1)=((i+1:Nat):Int)by omega,drop_cons hc];rw[show(s.2.1[i].1,s.2.1[i].2.1,s.2.1[i].2.2.1,s.2.1[i].2.2.2.1,())=s.2.1[i]from rfl,bV ll (by omega)];simp only[AD];rw[show M3 k i (s.2.1[i]::s.2.1.drop (i+1))=if(k/2^i)%2=1 then s.2.1[i]::M3 k (i+1) (s.2.1.drop (i+1))else M3 k (i+1) (s.2.1.drop (i+1))from rfl];by_cases hbt:(k/2^i)%2=1
      ·rw[AME hbt,AME hbt,ih (i+1) _ (by omega) (by omega) (by have:=(W3 (e:=s.2.1[i]) (l:=b)).1;omega) (dp ll)]
       rfl
      ·rw[AMG hbt,AMG hbt,ih (i+1) _ (by omega) (by omega) (by omega) ll]
     ·rw[AMG (by omega),AMS (by omega),show(s.1,s.2.1,s.2.2.1,())=s from rfl,IH l1 l2]
      simp only[AD,M3,EE];by_cases hg:b.length≤200
      ·rw[AMG (by omega),AME (AO0 hg)];rfl
      ·rw[AME (by omega),AMG (by simpa using hg)];rfl
   have:=key Ab 0 s.1 (by omega) (Ae (by omega)) (by omega) Fj.uE;rw[APS]at this;exact this
theorem YC{s:AO}(hw:Ak s≤2^30)(hs:iP s):Oj s=some (gv (Bc s)):=by
 unfold Oj Bc;rw[show(s.1,s.2.1,s.2.2.1,())=s from rfl,Wv hw hs];rfl
theorem iR{s:AO}{u:Int}(hw:Ak s≤2^30)(hs:iP s):OX s u=some (gv (B3 s u)):=by
 unfold OX B3;rw[show(s.1,s.2.1,s.2.2.1,())=s from rfl,YC hw hs,Mp hw hs,A0];simp only[AD,Aw,gv];cases h1:B_ s with
 |false=>
  have:(Bc s).2=false:=by unfold Bc F8;rw[h1];rfl
  rw[this];rfl
 |true=>
  simp only[AMc,AMZ,AQb,ARj];cases h2:(Bc s).2 with
  |false=>rfl
  |true=>
   cases h3:BD u 0 30 with
   |false=>rfl
   |true=>
    simp only[AOK,Bool.and_self,ARj];rw[show(if u>(Bc s).1.2.2.1 then u else(Bc s).1.2.2.1)=max (Bc s).1.2.2.1 u by rw[Int.max_def];split<;>split<;>omega]
theorem kt{s:AO}{ep:Int}(hw:Ak s≤2^30)(hs:iP s):QA s ep=some (((),()),(Gk s ep,())):=by
 obtain⟨l1,l2⟩:=F_ hw;unfold QA V2 Gk;rw[show(s.1,s.2.1,s.2.2.1,())=s from rfl,E6 hw hs];simp only[AD,Aw];cases h1:B_ s with
 |false=>rfl
 |true=>
  have key:∀(n i:Nat) (b:List AK),i≤s.1.length→s.1.length-i<n→b.length≤i→
    L3 n ep s.1 s.1.length i b=some (((),()),(b++(s.1.drop i).filter (fun e=>An e.1==ep),())):=by
   intro n
   induction n with
   |zero=>intro i b _ h;omega
   |succ n ih=>
    intro i b hi hn hb;simp only[L3,Vr,AB];by_cases hc:i<s.1.length
    ·rw[AME (by omega),AME (by omega),Ah hc,E5 (hs.1 _ (AM3 hc)),AH (by omega) (by omega),show((i:Int)+1)=((i+1:Nat):Int)by omega,drop_cons hc,AQ8]
     simp only[AD];rw[AME (by rw[As];omega),show(s.1[i].1,s.1[i].2.1,s.1[i].2.2.1,s.1[i].2.2.2.1,())=s.1[i]from rfl,ih (i+1) _ (by omega) (by omega) (by simp;omega),ih (i+1) b (by omega) (by omega) (by omega)];cases An s.1[i].1==ep with
     |true=>simp
     |false=>rfl
    ·rw[AMG (by omega),AMS (by omega)]
     simp
  have:=key Ab 0 [] (by omega) (Ae (by omega)) (by simp);rw[show((0:Nat):Int)=0 from rfl,APS,AQU]at this;simp only[AOK,ARj];exact this
end Go.M
end
section
set_option maxRecDepth 8000
namespace Go.M
open Go.M.H (AK AO A5 Aj AA Cj AQ BC AR Am Bk BA Bh Ak CG AW AS AZ Ag Bi Ay Aq BB EB CP Cx C_)
theorem wD{x:AK}{t:ABW}:PV (x.1,x.2.1,x.2.2.1,x.2.2.2.1,()) t=some ((decide (x.1≤t.1),()),()):=rfl
theorem dx{t:AB6}{l:List AK}(hl:l.length≤2^30):Bw t l=some (((),()),((),l.filter (fun x=> !(decide (x.1≤t.1.1))),())):=by
 have key:∀(n i j:Nat) (b:List AK),i≤j→j≤b.length→b.length≤2^30→b.length-j<n→BG n t i j b=some (((),()),((),b.take i++(b.drop j).filter (fun x=> !(decide (x.1≤t.1.1))),())):=by
  intro n
  induction n with
  |zero=>intro i j b _ _ _ h;omega
  |succ n ih=>
   intro i j b hij hj hb hn;simp only[BG,DL,AB];by_cases hc:j<b.length
   ·rw[AME (by omega),AME (by omega),Ah hc,wD]
    simp only[AD];rw[AH (x:=(j:Int)+1) (by omega) (by omega),AH (x:=(i:Int)+1) (by omega) (by omega),show((j:Int)+1)=((j+1:Nat):Int)by omega,show((i:Int)+1)=((i+1:Nat):Int)by omega,drop_cons hc,AQ8];have n1:=ih (i+1) (j+1) (b.set i b[j]) (by omega) (by simp;omega) (by simp;omega) (by simp;omega);have n2:=ih i (j+1) b (by omega) (by omega) hb (by omega);rw[show(t.1,())=t from rfl,n2];rw[AWZ (by omega),ARq (by simp;omega),AWa (AP3 _),AWT,AOT,AQs]at n1;rw[AME (by omega),ANW,n1]
    generalize hx:b[j]=x
    cases(decide (x.1≤t.1.1))<;>rfl
   ·rw[AMG (by omega),AMS (i:=j) (by omega),ANW,ANW]
    have h1:((b.take i++List.replicate (b.length-i) (0,0,false,[],())++b.drop (i+(b.length-i))).length:Int)=b.length:=by simp;omega
    rw[AME (by omega),AME (by rw[h1];omega)];rw[APS,Nat.sub_zero,AOT,AUL (by simp;omega),List.take_take,Nat.min_self,ATn,AN8]
 have fnd:∀(n i:Nat),i≤l.length→l.length-i<n→ ∃r:Int,BJ n l t l.length i=some ((r,()),())∧((r= -1∧(l.drop i).filter (fun x=> !(decide (x.1≤t.1.1)))=l.drop i)∨ ∃q:Nat,r=q∧i≤q∧q<l.length∧((l.take q).drop i).filter (fun x=> !(decide (x.1≤t.1.1)))=(l.take q).drop i∧ ∀(h:q<l.length) x,x=l[q]→(decide (x.1≤t.1.1))=true):=by
  intro n
  induction n with
  |zero=>intro i _ h;omega
  |succ n ih=>
   intro i hi hn;simp only[BJ,DV,AB];by_cases hc:i<l.length
   ·rw[AME (by omega),AME (by omega),Ah hc,wD]
    simp only[AD];rw[AH (x:=(i:Int)+1) (by omega) (by omega),show((i:Int)+1)=((i+1:Nat):Int)by omega,show(t.1,())=t from rfl];obtain⟨r,e,hr⟩:=ih (i+1) (by omega) (by omega);rw[e]
    generalize hx:l[i]=x
    cases hp:(decide (x.1≤t.1.1))with
    |true=>
     refine⟨i,rfl,.inr ⟨i,rfl,AP3 _,hc,?_,fun h y hy=> ?_⟩⟩
     ·rw[AMS (by simp;omega)];rfl
     ·rw[hy,hx];exact hp
    |false=>
     refine⟨r,rfl,?_⟩;rcases hr with⟨h1,h2⟩|⟨q,h1,h2,h3,h4,h5⟩
     ·refine .inl ⟨h1,?_⟩
      rw[drop_cons hc,AQ8,h2,hx,hp];rfl
     ·refine .inr ⟨q,h1,by omega,h3,?_,h5⟩
      have FW:i<(l.take q).length:=by simp;omega
      rw[drop_cons FW,AQ8,h4,List.getElem_take,hx,hp];rfl
   ·refine⟨-1,by rw[AMG (by omega)],.inl ⟨rfl,?_⟩⟩
    rw[AMS (by omega)];rfl
 obtain⟨r,e,hr⟩:=fnd Ab 0 (by omega) (Ae (by omega));rw[show((0:Nat):Int)=0 from rfl]at e;unfold Bw DM Ck DW;rw[show(t.1,())=t from rfl,e];simp only[AD];rcases hr with⟨h1,h2⟩|⟨q,h1,h2,h3,h4,h5⟩
 ·rw[h1]
  rw[APS]at h2;rw[h2];rfl
 ·rw[h1,APV.2 (by omega),AMW,AH (by omega) (by omega),show((q:Int)+1)=((q+1:Nat):Int)by omega,key Ab q (q+1) l (by omega) (by omega) hl (Ae (by omega))]
  rw[APS]at h4;have hd:=h5 h3 _ rfl;congr 3
  conv=>rhs;rw[←AVG q l,AUx,h4,drop_cons h3,AQ8]
  rw[hd];rfl
theorem iE{s:AO}{u:Int}(hw:Ak s≤2^30)(hs:iP s)(hu:C6 u):SA s u=some (gv (JI s u)):=by
 obtain⟨l1,l2⟩:=F_ hw;unfold SA JI;rw[show(s.1,s.2.1,s.2.2.1,())=s from rfl,E6 hw hs,Mp hw hs,IH l1 l2,QW hu];simp only[AD];cases B_ s with
 |false=>rfl
 |true=>
  cases BT u with
  |false=>rfl
  |true=>
   rw[dx l1];simp only[AD,AMc,AMW,AMZ,AQb,ARj];rw[show(fun x:AK=> !decide (x.1≤(((u,()),()):AB6).1.1))=fun e=>decide (e.1>u)from funext fun x=>by
    rw[←decide_not,AWV]
    show¬x.1≤u↔x.1>u
    omega]
   rfl
theorem xf{p:Int}{n:Nat}:BD (An p) 1 n=(BT p&&decide (An p≤n)):=by
 cases h:BT p with
 |false=>
  unfold An;rw[h];rfl
 |true=>
  obtain⟨⟨h1,h2⟩,_⟩:=GF h;unfold BD;rw[APB,AWV];omega
section
variable{c:CH} {r:AQ} (hc:c.1.length≤2^40) (hl:AW Bi r.1≤2^30) (ht:C6 r.2.1)
include hc hl ht
theorem Ts:EI c r=some (if Jb c r then((((),r.2.1,()),()),(r.1,()))else((((),0,()),()),([],()))):=by
 unfold EI;rw[show(c.1,c.2.1,())=c from rfl,show(r.1,r.2.1,())=r from rfl,NV hc hl ht,IA hl];simp only[AD];cases Jb c r<;>rfl
theorem mu{ns:AAF}(hn:ns.length≤2^30):Mj c r ns=some (((((),(GR c r ns).1.2.1,()),(GR c r ns).2.1,(GR c r ns).2.2,()),()),((GR c r ns).1.1,())):=by
 have l1:=AS (f:=Bi) (l:=r.1);unfold Mj GR;rw[show(c.1,c.2.1,())=c from rfl,show(r.1,r.2.1,())=r from rfl,NV hc hl ht,Ts hc hl ht,IA hl,GY hc (by omega),Dl hn];simp only[AD];cases Jb c r with
 |false=>rfl
 |true=>
  cases holds c ns with
  |false=>rfl
  |true=>
   simp only[AMc,AMW,AMZ,AQb,APB,ARj];by_cases h30:r.1.length=30
   ·rw[show((r.1.length:Int)==30)=true by simp[h30],show decide (r.1.length≠30)=false by simp[h30]]
    rfl
   ·rw[show((r.1.length:Int)==30)=false by rw[APV];omega,show decide (r.1.length≠30)=true by simp[h30],AMW,AME (by rw[As];omega)]
    simp
theorem kE{b last:Int}:QG c r b last=some (pkR (Ih c r b last)):=by
 have l1:=AS (f:=Bi) (l:=r.1);unfold QG Ih;rw[show(c.1,c.2.1,())=c from rfl,show(r.1,r.2.1,())=r from rfl,NV hc hl ht,Ts hc hl ht,IA hl,SO (by omega)];simp only[AD];rcases AMA (Jb c r)with hr|hr
 rotate_left
 ·rw[hr];rfl
 have Fj:=JP.1 hr;rw[hr];simp only[AMc,AMW,AMZ,AQb,ARj];by_cases h1:b=r.1.length
 rotate_left
 ·rw[show(b !=(r.1.length:Int))=true by simpa using h1,show decide (b=(r.1.length:Int))=false by simpa using h1]
  rfl
 rw[show(b !=(r.1.length:Int))=false by simpa using h1,show decide (b=(r.1.length:Int))=true by simpa using h1];simp only[AMW,APB];by_cases h3:b=A8 r.1
 ·rw[show(A8 r.1==b)=true by simpa using h3.symm,show decide (b≠A8 r.1)=false by simpa using h3,ARm,ATb]
  rfl
 have AIV:0<r.1.length:=by
  rcases AWM r.1.length with hz|hz
  ·exact absurd (by rw[h1,hz];unfold A8;rw[hz];rfl) h3
  ·exact hz
 obtain⟨k,k1,k2,k3,k4⟩:=SV Fj AIV;rw[show(A8 r.1==b)=false by simpa using fun h=>h3 h.symm,show decide (b≠A8 r.1)=true by simpa using h3,show decide (A8 r.1≠0)=true by rw[k2];exact AO0 (by omega),A0];simp only[AMW,APB,AD];cases BD last 0 60 with
 |false=>rfl
 |true=>
  simp only[AMc,AMW,ARj];rw[k2,AH (by omega) (by omega),show((k:Int)+1-1)=(k:Int)by omega,AME (by omega),AME (by rw[ARh];omega),ANW];unfold pkR Jd;simp[List.getD,k1]
theorem mU{p:Int}(hp:C6 p):WN c r p=some (pkR (LR c r p)):=by
 unfold WN LR;rw[show(c.1,c.2.1,())=c from rfl,show(r.1,r.2.1,())=r from rfl,NV hc hl ht,Ts hc hl ht,IA hl,E5 hp];simp only[AD];rw[A0,xf];simp only[AD];cases Jb c r with
 |false=>rfl
 |true=>
  cases BT p&&decide (An p≤(r.1.length:Int))with
  |false=>rfl
  |true=>
   simp only[AMc,AMW,AMZ,AQb,ARj];rw[show(if p>r.2.1 then p else r.2.1)=max r.2.1 p by rw[Int.max_def];split<;>split<;>omega];rfl
end
section
variable{c:CH} {w:AR} (hc:c.1.length≤2^40) (hl:AW Ay w.2.1≤2^20)
include hc hl
theorem Vo:EG c w=some (if DR c w then(((w.1,(),()),()),(w.2.1,()))else(((0,(),()),()),([],()))):=by
 unfold EG;rw[show(c.1,c.2.1,())=c from rfl,show(w.1,w.2.1,())=w from rfl,JG hc (by omega),Jj (by show AW Ay w.2.1≤2^30;omega)];simp only[AD];cases DR c w<;>rfl
theorem iq{d:ABY}(hd:d.length≤2^20):Jh c w d=some (((((Bz c w d).1.1,(),()),(Bz c w d).2.1,(Bz c w d).2.2,()),()),((Bz c w d).1.2.1,())):=by
 have l1:=AS (f:=Ay) (l:=w.2.1);unfold Jh Bz;rw[show(c.1,c.2.1,())=c from rfl,show(w.1,w.2.1,())=w from rfl,Jj (by show AW Ay w.2.1≤2^30;omega),Vo hc hl];simp only[AD];rw[AME (by rw[As];omega),JG hc (by omega),JG hc (by
   show AW Ay (w.2.1++[(d,[],false,())])≤2^30
   rw[I8];simp only[AW,Ay,APv];omega)]
 simp only[AD];cases DR c w with
 |false=>rfl
 |true=>
  simp only[AMc,AMW,AMZ,AQb];cases DR c (w.1,w.2.1++[(d,[],false,())],())with
  |false=>rfl
  |true=>simp
theorem ib{o n:Int}:S6 c w o n=some (pkW (Ra c w o n)):=by
 have l1:=AS (f:=Ay) (l:=w.2.1);unfold S6 Ra;rw[show(c.1,c.2.1,())=c from rfl,show(w.1,w.2.1,())=w from rfl,JG hc (by omega),Vo hc hl,Jj (by show AW Ay w.2.1≤2^30;omega),A0,A0];simp only[AD];rcases AMA (DR c w)with hw|hw
 rotate_left
 ·rw[hw];rfl
 have Fj:=It.1 hw;have xi:=D2 Fj.cfg;rw[hw,AH (x:=(c.1.length:Int)-1) (by omega) (by omega)];simp only[AMc,AMW,AMZ,AQb,ARj];rcases AMA (BD o 1 (w.2.1.length:Int))with ho|ho
 rotate_left
 ·rw[ho];rfl
 have wW:=Ao.1 ho;rw[ho];have hi:(o-1).toNat<w.2.1.length:=by omega
 have uQ:w.2.1.getD (o-1).toNat MY∈w.2.1:=Ba (d:=MY) hi;have hm:(w.2.1.getD (o-1).toNat MY).1.length+(w.2.1.getD (o-1).toNat MY).2.1.length≤AW Ay w.2.1:=AZ (f:=Ay) uQ;have ADt:=(Er.1 (Fj.words _ uQ).2.1).2.2;simp only[AMc,AMW,APB];rw[AH (x:=o-1) (by omega) (by omega),AME (by omega)]
 show cond (w.2.1.getD (o-1).toNat MY).2.2.1 _ _=_
 cases(w.2.1.getD (o-1).toNat MY).2.2.1 with
 |true=>
  cases BD n 0 ((c.1.length:Int)-1)<;>rfl
 |false=>
  cases BD n 0 ((c.1.length:Int)-1)with
  |false=>rfl
  |true=>
   simp only[AMW,ARb,ARj,AMc,Bool.and_self];rw[AME (by omega),show(w.2.1.getD (o-1).toNat ([],[],false,())).2.1=(w.2.1.getD (o-1).toNat MY).2.1 from rfl,PI ADt (by omega)];simp only[AD];have hg:∀x:BC,(w.2.1.set (o-1).toNat x).getD (o-1).toNat ([],[],false,())=x:=fun x=>NS hi
   rw[hg,GY hc (by
    simp only;have:=S8 (n:=n) (l:=(w.2.1.getD (o-1).toNat MY).2.1);omega)]
   simp only[AD];rw[AVm];rfl
theorem cq{n:Int}:N6 c w n=some (pkW (CI c w n)):=by
 have l1:=AS (f:=Ay) (l:=w.2.1);unfold N6 Q7 CI;rw[show(c.1,c.2.1,())=c from rfl,show(w.1,w.2.1,())=w from rfl,JG hc (by omega),Jj (by show AW Ay w.2.1≤2^30;omega)];simp only[AD];cases DR c w with
 |false=>rfl
 |true=>
  simp only[AMc,AMW,AMZ,AQb];have key:∀(k i:Nat),i≤w.2.1.length→w.2.1.length-i<k→H7 k n w.2.1 w.2.1.length i 0 [] w.1 ((w.2.1.map (Ex n)).take i++w.2.1.drop i)=some (pkW ((w.1,w.2.1.map (Ex n),()),true)):=by
   intro k
   induction k with
   |zero=>intro i _ h;omega
   |succ k ih=>
    intro i hi hk;have hlen:((w.2.1.map (Ex n)).take i++w.2.1.drop i).length=w.2.1.length:=KX hi;simp only[H7,Rb,AB,hlen];by_cases DE:i<w.2.1.length
    ·have c1:(0:Int)≤(i:Int)∧(i:Int)<(w.2.1.length:Int):=by omega
     have hm:w.2.1[i].1.length+w.2.1[i].2.1.length≤AW Ay w.2.1:=AZ (f:=Ay) (AM3 DE);have hg:((w.2.1.map (Ex n)).take i++w.2.1.drop i).getD ((i:Int).toNat) ([],[],false,())=w.2.1[i]:=Lu DE;rw[AME c1.2];simp only[AME c1,hg];rw[Ah DE,AH (by omega) (by omega),show((i:Int)+1)=((i+1:Nat):Int)by omega];rcases AMA (w.2.1[i].2.2.1)with hd|hd
     ·rw[hd]
      simp only[AMc,AMW];have:=ih (i+1) (by omega) (by omega);rw[←jB DE (lU hd)]at this;exact this
     ·rw[hd]
      simp only[ARb,AOK];rw[Pn (by omega)];simp only[AD];have:=ih (i+1) (by omega) (by omega);rw[ANW,QT DE (by simp[Ex,hd])];exact this
    ·rw[AMG (by omega),AMS (by omega)]
     have:i=w.2.1.length:=by omega
     subst this;rw[AN8,ARk (by simp)];rfl
  have:=key Ab 0 (by omega) (Ae (by omega));simpa using this
end
end Go.M
end
section
set_option maxRecDepth 8000
namespace Go.M
open Go.M.H (AK AO A5 Aj AA Cj AQ BC AR Am Bk BA Bh Ak AW AS AZ Ag Bi Ay Aq CG C_)
section
variable{c:CH} {m:A5} (hc:c.1.length≤2^40) (hm:CG m≤2^20) (h:eu m.2.2.2.1)
include hc hm h
theorem R_:Ez c m=some (if Fb c m then(((m.1,m.2.1,(),(),m.2.2.2.2.1,(),()),()),(m.2.2.1,m.2.2.2.1,m.2.2.2.2.2.1,()))else(((0,0,(),(),false,(),()),()),([],[],[],()))):=by
 unfold Ez;rw[show(c.1,c.2.1,())=c from rfl,show(m.1,m.2.1,m.2.2.1,m.2.2.2.1,m.2.2.2.2.1,m.2.2.2.2.2.1,())=m from rfl,Hz hc (by omega) h,HX (by omega)];simp only[AD];cases Fb c m<;>rfl
theorem mB{o n:Int}:PL c m o n=some (fU (SX c m o n)):=by
 obtain⟨h1,h2,h3,h4⟩:=Hb hm;unfold PL SX;rw[show(c.1,c.2.1,())=c from rfl,show(m.1,m.2.1,m.2.2.1,m.2.2.2.1,m.2.2.2.2.1,m.2.2.2.2.2.1,())=m from rfl,Hz hc (by omega) h,R_ hc hm h,HX (by omega),A0,A0];simp only[AD];rcases AMA (Fb c m)with hw|hw
 rotate_left
 ·rw[hw];rfl
 have Fj:=Gj.1 hw;have xi:=D2 Fj.cfg;rw[hw,AH (x:=(c.1.length:Int)-1) (by omega) (by omega)];simp only[AMc,AMW,AMZ,AQb,ARj];rcases AMA (BD o 1 (m.2.2.2.2.2.1.length:Int))with ho|ho
 rotate_left
 ·rw[ho];rfl
 have wW:=Ao.1 ho;rw[ho];cases BD n 0 ((c.1.length:Int)-1)with
 |false=>rfl
 |true=>
  have hi:(o-1).toNat<m.2.2.2.2.2.1.length:=by omega
  have uQ:=Ba (d:=([]:AAF)) hi;have hq:=h4 _ uQ;have ADt:=(Er.1 (Fj.wrote _ uQ)).2.2;simp only[AMc,AMW,APB,ARj];rw[AH (by omega) (by omega),AME (by omega),PI ADt (by omega)];simp only[AD];rw[AME (by omega)];rfl
theorem gf{n:Int}:QZ c m n=some (fU (CC c m n)):=by
 obtain⟨h1,h2,h3,h4⟩:=Hb hm;unfold QZ TZ CC;rw[show(c.1,c.2.1,())=c from rfl,show(m.1,m.2.1,m.2.2.1,m.2.2.2.1,m.2.2.2.2.1,m.2.2.2.2.2.1,())=m from rfl,Hz hc (by omega) h,HX (by omega)];simp only[AD];cases Fb c m with
 |false=>rfl
 |true=>
  simp only[AMc,AMW,AMZ,AQb];have key:∀(k i:Nat),i≤m.2.2.2.2.2.1.length→m.2.2.2.2.2.1.length-i<k→JS k n m.2.2.2.2.2.1 m.2.2.2.2.2.1.length i 0 0 false [] [] [] m.1 m.2.1 m.2.2.2.2.1 m.2.2.1 m.2.2.2.1 ((m.2.2.2.2.2.1.map (fun l=>less l [n])).take i++m.2.2.2.2.2.1.drop i)=
    some (fU ((m.1,m.2.1,m.2.2.1,m.2.2.2.1,m.2.2.2.2.1,m.2.2.2.2.2.1.map (fun l=>less l [n]),()),true)):=by
   intro k
   induction k with
   |zero=>intro i _ h;omega
   |succ k ih=>
    intro i hi hk;have hlen:=KX (f:=fun l=>less l [n]) hi;simp only[JS,TM,AB,hlen];by_cases DE:i<m.2.2.2.2.2.1.length
    ·have c1:(0:Int)≤(i:Int)∧(i:Int)<(m.2.2.2.2.2.1.length:Int):=by omega
     have hq:=h4 _ (AM3 DE);rw[AME c1.2];simp only[AME c1];rw[Ah DE,AH (by omega) (by omega),show((i:Int)+1)=((i+1:Nat):Int)by omega,Pn (by omega)];simp only[AD];rw[ANW,QT DE rfl];exact ih (i+1) (by omega) (by omega)
    ·rw[AMG (by omega),AMS (by omega)]
     have:i=m.2.2.2.2.2.1.length:=by omega
     subst this;rw[AN8,ARk (by simp)];rfl
  have:=key Ab 0 (by omega) (Ae (by omega));simpa using this
theorem jU:Og c m=some ((T9 c m,()),()):=by
 obtain⟨h1,h2,h3,h4⟩:=Hb hm;unfold Og Ui T9;rw[show(c.1,c.2.1,())=c from rfl,show(m.1,m.2.1,m.2.2.1,m.2.2.2.1,m.2.2.2.2.1,m.2.2.2.2.2.1,())=m from rfl,Hz hc (by omega) h];simp only[AD];cases Fb c m with
 |false=>rfl
 |true=>
  rcases AMA m.2.2.2.2.1 with hp|hp
  rotate_left
  ·rw[hp];rfl
  have key:∀(k i:Nat),i≤m.2.2.2.2.2.1.length→m.2.2.2.2.2.1.length-i<k→KY k m.2.2.2.2.2.1 m.2.2.2.2.2.1.length i c.1 c.2.1=some (((m.2.2.2.2.2.1.drop i).all (holds c),()),()):=by
   intro k
   induction k with
   |zero=>intro i _ h;omega
   |succ k ih=>
    intro i hi hk;simp only[KY,Ug,AB];by_cases DE:i<m.2.2.2.2.2.1.length
    ·have c1:(0:Int)≤(i:Int)∧(i:Int)<(m.2.2.2.2.2.1.length:Int):=by omega
     have hq:=h4 _ (AM3 DE);rw[AME c1.2,AME c1,AH (by omega) (by omega),show((i:Int)+1)=((i+1:Nat):Int)by omega,Ah DE,drop_cons DE,show(c.1,c.2.1,())=c from rfl,GY hc (by omega),ih (i+1) (by omega) (by omega)];simp only[AD,AR_];cases holds c m.2.2.2.2.2.1[i]<;>rfl
    ·rw[AMG (by omega),AMS (by omega)]
     rfl
  have:=key Ab 0 (by omega) (Ae (by omega));rw[show((0:Nat):Int)=0 from rfl,APS]at this;rw[this,hp];rfl
omit hc h in
theorem ZE{o:Int}:Ji m o=some ((((EK m o).getD CJ,(EK m o).isSome,()),()),()):=by
 obtain⟨h1,h2,h3,h4⟩:=Hb hm;unfold Ji Um EK;rw[IV];simp only[AD];cases m.2.2.2.2.1 with
 |false=>
  simp only[ARm,AMZ,AQb,ARb,AOK];cases(BD m.2.1 1 30&&BD o 1 60)<;>rfl
 |true=>
  simp only[AMc,AMW,APB];rcases AMA (BD m.2.1 1 30)with he|he
  rotate_left
  ·rw[he];rfl
  rcases AMA (BD o 1 60)with ho|ho
  rotate_left
  ·rw[he,ho];rfl
  have hp:Gr m.2.1 o=FN m.2.1 o:=by unfold Gr;rw[he,ho];rfl
  rw[he,ho,hp];simp only[AR1,AMc,AMW,APB];by_cases hl:o≤m.2.2.2.2.2.1.length
  ·rw[show decide (o>(m.2.2.2.2.2.1.length:Int))=false by simpa using hl,show decide (o≤(m.2.2.2.2.2.1.length:Int))=true by simpa using hl]
   simp only[AMW,ARj];have key:∀(k i:Nat),i≤m.2.2.2.1.length→m.2.2.2.1.length-i<k→K0 k (FN m.2.1 o) m.2.2.2.1 m.2.2.2.1.length i m.1 m.2.1 m.2.2.1 m.2.2.2.1 true m.2.2.2.2.2.1 0 0 false []=
     some ((((match Ou (FN m.2.1 o) (m.2.2.2.1.drop i)with
      |some x=>(FN m.2.1 o,m.1,x.2.2.1,x.2.2.2.1,())
      |none=>(FN m.2.1 o,m.1,true,[],())),true,()),()),()):=by
    intro k
    induction k with
    |zero=>intro i _ h;omega
    |succ k ih=>
     intro i hi hk;simp only[K0,VA,AB];by_cases DE:i<m.2.2.2.1.length
     ·have c1:(0:Int)≤(i:Int)∧(i:Int)<(m.2.2.2.1.length:Int):=by omega
      rw[AME c1.2,AME c1,AH (by omega) (by omega),show((i:Int)+1)=((i+1:Nat):Int)by omega,Ah DE,drop_cons DE,ih (i+1) (by omega) (by omega)];unfold Ou;rw[AWL];cases hx:m.2.2.2.1[i].1==FN m.2.1 o<;>rfl
     ·rw[AMG (by omega),AMS (by omega)]
      rfl
   have:=key Ab 0 (by omega) (Ae (by omega));rw[show((0:Nat):Int)=0 from rfl,APS]at this;rw[this];cases Ou (FN m.2.1 o) m.2.2.2.1<;>rfl
  ·rw[show decide (o>(m.2.2.2.2.2.1.length:Int))=true by simp;omega,show decide (o≤(m.2.2.2.2.2.1.length:Int))=false by simp;omega]
   rfl
theorem ki{s:AAF}(hs:s.length≤2^20):P7 c m s=some (fU (MM c m s)):=by
 obtain⟨h1,h2,h3,h4⟩:=Hb hm;unfold P7 MM;rw[show(c.1,c.2.1,())=c from rfl,show(m.1,m.2.1,m.2.2.1,m.2.2.2.1,m.2.2.2.2.1,m.2.2.2.2.2.1,())=m from rfl,Hz hc (by omega) h,R_ hc hm h,HX (by omega),bd (by omega) h];simp only[AD];rcases AMA (Fb c m)with Fj|Fj
 rotate_left
 ·rw[Fj];rfl
 have hmo:=Gj.1 Fj;rw[Fj];simp only[ARj];rcases AMA m.2.2.2.2.1 with hp|hp
 ·rw[hp]
  simp only[AMc,AMW,AOK,ARm,AMZ,AQb,fU,hp]
 have wa:(m.2.2.1.filter s.contains).length≤m.2.2.1.length:=ARZ _ _;rw[hp];simp only[AMc,ARb,AMW,AMZ,AQb,APB];rw[bT (by omega) (by omega)];simp only[AD];rw[dG hc (by omega) hs];simp only[AD];cases Q2 c s (m.2.2.1.filter s.contains)with
 |false=>simp[fU,hp]
 |true=>
  simp only[AMc,AMW,ARj];have hlb:=Hg (l:=m.2.2.2.1);rw[AME ⟨hlb.1,AWQ _,by rw[As];omega⟩];rfl
theorem kR{n:Int}{l:List AK}(hl:l.length≤2^20)(UI:eu l)(hw:AW Ag l≤2^20):Px c m n l=some (fU (OP c m n l)):=by
 obtain⟨h1,h2,h3,h4⟩:=Hb hm;unfold Px WB OP;rw[show(c.1,c.2.1,())=c from rfl,show(m.1,m.2.1,m.2.2.1,m.2.2.2.1,m.2.2.2.2.1,m.2.2.2.2.2.1,())=m from rfl,Hz hc (by omega) h,R_ hc hm h,HX (by omega)];simp only[AD];rcases AMA (Fb c m)with Fj|Fj
 rotate_left
 ·rw[Fj];rfl
 have hmo:=Gj.1 Fj;have ADt:=(Er.1 hmo.sld).2.2;rw[Fj];simp only[AMc,AMW,AMZ,AQb,ARj];rcases AMA m.2.2.2.2.1 with hp|hp
 ·rw[hp]
  simp[fU,hp]
 rw[hp,PI ADt (by omega)];simp only[AD,AMW,ARb,APB];have key:∀(k i:Nat) (b:List AK),i≤l.length→l.length-i<k→b.length≤2^20+i→eZ b→eu b→AW Ag b+AW Ag (l.drop i)≤2^21→
   L6 k l l.length i c.1 c.2.1 m.1 m.2.1 m.2.2.1 m.2.2.2.1 false m.2.2.2.2.2.1 0 0 false [] [] [] m.1 m.2.1 false (LA n m.2.2.1) b m.2.2.2.2.2.1=
   some (fU (if Fb c (m.1,m.2.1,LA n m.2.2.1,EE b ((l.drop i).filter fun e=>An e.1==m.2.1),false,m.2.2.2.2.2.1,())then
    ((m.1,m.2.1,LA n m.2.2.1,EE b ((l.drop i).filter fun e=>An e.1==m.2.1),false,m.2.2.2.2.2.1,()),true)else(m,false))):=by
  intro k
  induction k with
  |zero=>intro i b _ h;omega
  |succ k ih=>
   intro i b hi hk hb ll wQ pM;simp only[L6,V9,AB];by_cases DE:i<l.length
   ·have c1:(0:Int)≤(i:Int)∧(i:Int)<(l.length:Int):=by omega
    rw[AME c1.2];simp only[AME c1];rw[AH (by omega) (by omega),show((i:Int)+1)=((i+1:Nat):Int)by omega,Ah DE,drop_cons DE,show(l[i].1,l[i].2.1,l[i].2.2.1,l[i].2.2.2.1,())=l[i]from rfl,E5 (UI _ (AM3 DE)),bV ll (by omega)];rw[drop_cons DE]at pM;simp only[AW]at pM;simp only[AD,AQ8];rcases AMA (An l[i].1==m.2.1)with he|he
    ·simp only[he,AOK,ARj,EE]
     have:=W3 (e:=l[i]) (l:=b);have hwk:=xA l[i] b;exact ih (i+1) _ (by omega) (by omega) (by omega) (dp ll) (fun x hx=>by
      rcases dQ hx with rfl|hx
      ·exact UI _ (AM3 DE)
      ·exact wQ x hx) (by omega)
    ·simp only[he,AMW,AMZ,AQb]
     exact ih (i+1) _ (by omega) (by omega) (by omega) ll wQ (by omega)
   ·rw[AMG (by omega),AMS (by omega),show(c.1,c.2.1,())=c from rfl,HX (m:=(m.1,m.2.1,m.2.2.1,m.2.2.2.1,false,m.2.2.2.2.2.1,())) (by
     have:CG (m.1,m.2.1,m.2.2.1,m.2.2.2.1,false,m.2.2.2.2.2.1,())=CG m:=rfl;omega)]
    simp only[ATn,EE];rw[AMS (by omega)]at pM;simp only[AW]at pM;have wG:=S8 (n:=n) (l:=m.2.2.1);have hb2:=AS (f:=Ag) (l:=b);rw[Hz (m:=(m.1,m.2.1,LA n m.2.2.1,b,false,m.2.2.2.2.2.1,())) hc (by
     have Pu:=hm;unfold CG at Pu⊢;simp only at Pu⊢;omega) wQ]
    simp only[AD];cases Fb c (m.1,m.2.1,LA n m.2.2.1,b,false,m.2.2.2.2.2.1,())with
    |false=>simp[fU,hp]
    |true=>rfl
 have hsw:AW Ag m.2.2.2.1≤2^20:=by
  have Pu:=hm;unfold CG at Pu;omega
 have:=key Ab 0 m.2.2.2.1 (by omega) (Ae (by omega)) (by omega) hmo.uE h (by rw[APS];omega);rw[show((0:Nat):Int)=0 from rfl,APS]at this;exact this
end
end Go.M
end
section
set_option maxRecDepth 8000
namespace Go.M
open Go.M.H (AK AO A5 Aj AA Cj AQ BC AR Am Bk BA Bh Ak AW AS AZ Ag Bi Ay Aq CG C_)
theorem py{c:CH}{l:AAF}(hc:c.1.length≤2^20)(hl:l.length≤2^20):Yd c l=some ((Ar c l&& !holds c l,()),()):=by
 unfold Yd;rw[show(c.1,c.2.1,())=c from rfl,EC (by omega) (by omega),GY (by omega) (by omega)];simp only[AD];cases Ar c l<;>cases holds c l<;>rfl
theorem qj{ss:List AO}(hs:ss.length≤1024)(h:∀s∈ss,s.1.length≤1024)(hw:∀s∈ss,Ak s≤2^30)(UI:∀s∈ss,iP s)(Fj:∀s∈ss,B_ s=true):gB ss=some (((),()),(Gi [] ss,())):=by
 have key:∀n:Nat,
   (∀(i:Nat) (b:List AK),i≤ss.length→(ss.length-i)*1026+1≤n→b.length≤i*1024→eZ b→
    NY n ss ss.length i b=some (((),()),(Gi b (ss.drop i),())))∧
   (∀(i j:Nat) (b:List AK),(hi:i<ss.length)→j≤ss[i].1.length→(ss.length-i-1)*1026+1+(ss[i].1.length-j)+1≤n→b.length≤i*1024+j→eZ b→
    NQ n ss ss.length i ss[i].1 ss[i].1.length j b=some (((),()),(Gi (EE b (ss[i].1.drop j)) (ss.drop (i+1)),()))):=by
  intro n
  induction n with
  |zero=>exact⟨fun i b _ h=>by omega,fun i j b _ _ h=>by omega⟩
  |succ n ih=>
   refine⟨fun i b hi h' hb ll=> ?_,fun i j b hi hj h' hb ll=> ?_⟩
   ·simp only[NY,aF,AB]
    by_cases hc:i<ss.length
    ·have hmm:=AM3 hc
     have hm:=h _ hmm;rw[AME (by omega),AME (by omega),Ah hc,show(ss[i].1,ss[i].2.1,ss[i].2.2.1,())=ss[i]from rfl,E6 (hw _ hmm) (UI _ hmm),Fj _ hmm];have e1:(ss.length-i)*1026=(ss.length-i-1)*1026+1026:=by
      rw[show ss.length-i=(ss.length-i-1)+1 by omega,ARz];simp
     have:=ih.2 i 0 b hc (by omega) (by omega) (by omega) ll;rw[show((0:Nat):Int)=0 from rfl,APS]at this;simp only[AD,AMc,AMW];rw[this,drop_cons hc];rfl
    ·rw[AMG (by omega),AMS (by omega)]
     rfl
   ·have hm:=h _ (AM3 hi)
    simp only[NQ,Zp,AB];have hbb:i*1024≤2^20:=by
     have:i*1024≤1024*1024:=AQY _ (by omega);omega
    by_cases hc:j<ss[i].1.length
    ·have c2:(0:Int)≤(j:Int)∧(j:Int)<(ss[i].1.length:Int):=by omega
     rw[AME c2.2,AME c2,Ah hc,show(ss[i].1[j].1,ss[i].1[j].2.1,ss[i].1[j].2.2.1,ss[i].1[j].2.2.2.1,())=ss[i].1[j]from rfl,bV ll (by omega)];simp only[AD];rw[AH (by omega) (by omega),show((j:Int)+1)=((j+1:Nat):Int)by omega,drop_cons hc];have hk:=W3 (e:=ss[i].1[j]) (l:=b);exact ih.2 i (j+1) _ hi (by omega) (by omega) (by omega) (dp ll)
    ·rw[AMG (by omega),AH (by omega) (by omega),show((i:Int)+1)=((i+1:Nat):Int)by omega,AMS (by omega)]
     exact ih.1 (i+1) b (by omega) (by rw[show ss.length-(i+1)=ss.length-i-1 by omega];omega) (by rw[ARz];omega) ll
 have hf:(ss.length-0)*1026+1≤Ab:=by
  have:ss.length*1026≤1024*1026:=AQY _ hs;exact ASa (Ae (by omega))
 exact(key Ab).1 0 [] (by omega) hf (by simp) List.Pairwise.nil
theorem sd{c:CH}{ss:List AO}{lost:AAF}{n upto:Int}(hc:c.1.length≤2^20)(hs:ss.length≤1024)(hn:∀s∈ss,s.1.length≤1024)(hw:AW Ak ss≤2^24)(UI:∀s∈ss,iP s)(hl:lost.length≤2^20):
  Zt c lost n upto ss=some (pkF ss (aL c ss lost n upto)):=by
 have hfs:aL c ss lost n upto=uG (D6 c&&(decide (ss.length=c.1.length)&&(Ar c lost&&(!holds c lost&&(lost.contains n&&((others lost 0 ss).all B_&&B_ (Gi [] (others lost 0 ss),[],upto,()))))))) (Gi [] (others lost 0 ss),[],upto,()):=rfl;rw[hfs];unfold Zt cH;rw[show(c.1,c.2.1,())=c from rfl,py hc hl,I3 (by omega)];simp only[AD,Aw,Cq];have key:∀(k i:Nat) (o:List AO),(∀s∈o,s∈ss)→(∀s∈o,B_ s=true)→i≤ss.length→ss.length-i<k→o.length≤i→AW Ak o+AW Ak (ss.drop i)≤2^24→
   SB k lost upto ss.length i ss 0 [] [] o=some (pkF ss (uG ((others lost i (ss.drop i)).all B_&&B_ (Gi [] (o++others lost i (ss.drop i)),[],upto,())) (Gi [] (o++others lost i (ss.drop i)),[],upto,()))):=by
  intro k
  induction k with
  |zero=>intro i o _ _ _ h;omega
  |succ k ih=>
   intro i o ho Fj hi h hol how;simp only[SB,bq,AB,Aw];by_cases DE:i<ss.length
   ·have c1:(0:Int)≤(i:Int)∧(i:Int)<(ss.length:Int):=by omega
    have c2:o.length+1≤DF:=by rw[As];omega
    have hmm:=AM3 DE;have AcE:=AZ (f:=Ak) hmm;rw[drop_cons DE]at how;simp only[AW]at how;rw[AME c1.2,AME c1,I3 (by omega),Ah DE,show(ss[i].1,ss[i].2.1,ss[i].2.2.1,())=ss[i]from rfl,E6 (by omega) (UI _ hmm),AH (by omega) (by omega),show((i:Int)+1)=((i+1:Nat):Int)by omega];simp only[AD];rw[drop_cons DE];simp only[others];rcases AMA (lost.contains (i:Int))with hb|hb
    ·rw[hb]
     simp only[AOK,ARj];exact ih (i+1) o ho Fj (by omega) (by omega) (by omega) (by omega)
    ·rw[hb]
     simp only[AMW,AMZ,AQb];rcases AMA (B_ ss[i])with hg|hg
     ·rw[hg]
      simp only[AOK,AR_,hg,APB];rw[AME c2,ih (i+1) (o++[ss[i]]) (fun s hs=>by
       rcases APr.1 hs with hs|hs
       ·exact ho s hs
       ·rw[AQ6.1 hs];exact hmm) (fun s hs=>by
       rcases APr.1 hs with hs|hs
       ·exact Fj s hs
       ·rw[AQ6.1 hs];exact hg) (by omega) (by omega) (by simp;omega) (by rw[I8];simp only[AW];omega)]
      simp only[AOT,AQs]
     ·rw[hg]
      simp only[AMW,AR_,hg,ARm];rfl
   ·have hu:=x_ (l:=o) (k:=[])
    simp only[AW]at hu;have AdW:AW Ak o≤2^24:=by omega
    rw[AMG (by omega),AMS (by omega),qj (by omega) (fun s hs=>hn s (ho s hs)) (fun s hs=>by have:=AZ (f:=Ak) hs;omega) (fun s hs=>UI s (ho s hs)) Fj];simp only[AD,others,AN8,List.all_nil,APB];rw[E6 (s:=(Gi [] o,[],upto,())) (by show AW Ag (Gi [] o)+AW Ag []≤_;simp only[AW];omega) ⟨fun e he=>by
     rcases kS he with he|⟨t,ht,he⟩
     ·simp at he
     ·exact(UI t (ho t ht)).1 e he,fun e he=>by simp at he⟩]
    simp only[AD];rcases AMA (B_ (Gi [] o,[],upto,()))with hb|hb<;>rw[hb]<;>rfl
 have:=key Ab 0 [] (by simp) (by simp) (by omega) (Ae (by omega)) (by simp) (by simpa[AW]using hw);rw[show((0:Nat):Int)=0 from rfl,APS,AQU]at this;rw[this];rcases AMA (Ar c lost)with h1|h1
 rotate_left
 ·rw[h1]
  by_cases h2:ss.length=c.1.length
  ·rw[AME (by omega)]
   simp only[ARm,ATb,AMW];rfl
  ·rw[AMG (by omega)]
   simp only[ARm,ATb];rfl
 have xi:D6 c=true:=(Er.1 h1).1;rw[h1,xi];simp only[APB];by_cases h2:ss.length=c.1.length
 rotate_left
 ·rw[AMG (by omega),AOS h2]
  rfl
 rw[AME (by omega),AO0 h2];simp only[APB];cases holds c lost with
 |true=>rfl
 |false=>
  cases lost.contains n with
  |false=>rfl
  |true=>rfl
end Go.M
end
section
set_option maxRecDepth 8000
namespace Go.M
open Go.M.H (AK AO A5 Aj AA Cj AQ BC AR Am Bk BA Bh Ak CG AW AS AZ Ag Bi Ay Aq BB EB CP Cx C_)
def AZl(q:AA×Int):Yf:=((q.2,()),(((),q.1.2.1,(),(),(),q.1.2.2.2.2.2.1,(),(),(),(),q.1.2.2.2.2.2.2.2.2.2.2.1,()),q.1.1,q.1.2.2.1,q.1.2.2.2.1,(),(),(),q.1.2.2.2.2.2.2.2.2.1,q.1.2.2.2.2.2.2.2.2.2.1,q.1.2.2.2.2.1,q.1.2.2.2.2.2.2.1,q.1.2.2.2.2.2.2.2.1,()))
def AUh(q:AA×Int):Zv:=((q.2,()),(((),q.1.2.1,(),(),(),q.1.2.2.2.2.2.1,(),(),(),(),q.1.2.2.2.2.2.2.2.2.2.2.1,()),q.1.1,q.1.2.2.1,q.1.2.2.2.1,q.1.2.2.2.2.1,q.1.2.2.2.2.2.2.1,q.1.2.2.2.2.2.2.2.1,q.1.2.2.2.2.2.2.2.2.1,(),q.1.2.2.2.2.2.2.2.2.2.1,()))
def AIS(q:AA×Int):Gh:=((q.2,()),(((),q.1.2.1,(),(),(),q.1.2.2.2.2.2.1,(),(),(),(),q.1.2.2.2.2.2.2.2.2.2.2.1,()),q.1.1,q.1.2.2.1,(),q.1.2.2.2.2.1,q.1.2.2.2.2.2.2.1,q.1.2.2.2.2.2.2.2.1,q.1.2.2.2.2.2.2.2.2.1,q.1.2.2.2.2.2.2.2.2.2.1,q.1.2.2.2.1,()))
def AYC(q:AA×Int):YT:=((q.2,()),(((),q.1.2.1,(),(),(),q.1.2.2.2.2.2.1,(),(),(),(),q.1.2.2.2.2.2.2.2.2.2.2.1,()),q.1.1,q.1.2.2.1,q.1.2.2.2.1,q.1.2.2.2.2.1,q.1.2.2.2.2.2.2.1,(),q.1.2.2.2.2.2.2.2.2.1,q.1.2.2.2.2.2.2.2.2.2.1,q.1.2.2.2.2.2.2.2.1,()))
def AaV(q:AA×Int):XB:=((q.2,()),(((),q.1.2.1,(),(),(),q.1.2.2.2.2.2.1,(),(),(),(),q.1.2.2.2.2.2.2.2.2.2.2.1,()),q.1.1,q.1.2.2.1,q.1.2.2.2.1,(),q.1.2.2.2.2.2.2.1,(),q.1.2.2.2.2.2.2.2.2.1,q.1.2.2.2.2.2.2.2.2.2.1,q.1.2.2.2.2.1,q.1.2.2.2.2.2.2.2.1,()))
theorem tb{m:A5}{b:Int}{e:AK}(h:EK m b=some e):C6 e.1:=by
 unfold EK at h;split at h
 ·rename_i hc
  simp only[AMY,Ao]at hc;have hp:=(JL (e:=m.2.1) (o:=b) hc.2.1 hc.2.2.1).1;split at h<;>cases h<;>exact Gl hp
 ·cases h
theorem iB{α:Type}{l:List α}{i:Nat}{d:α}:l.set i (l.getD i d)=l:=by
 by_cases h:i<l.length
 ·simp[List.getD,h]
 ·rw[List.set_eq_of_length_le (by omega)]
def qI(w:AA)(n ep:Int):Int:=if Au w n=0 then if(Bl w.Al ep).contains n then 0 else 2 else Au w n
section
variable{w:AA} (h:On w)
include h
theorem Q0{n ep:Int}(he:C6 ep):Dc w n ep=some ((qI w n ep,()),()):=by
 have k:=h.nums;have k1:=k.c;have k2:=k.wr;have k3:=k.lost;have k4:=k.st;have aN:=k.hI;have gw:=k.J8;have jW:=k.gq;have k5:=k.era;have k7:=k.ah;unfold Dc qI;rw[L1 (by omega) (by omega),show(w.2.2.2.2.1,w.2.2.2.2.2.1,())=Bj w from rfl,PR (r:=Bj w) (by show AW Bi w.2.2.2.2.1≤_;omega) he];have Us:(Bl w.Al ep).length≤8:=Gx h;rw[show(Bj w).1=w.Al from rfl];simp only[AD,C8];rw[I3 (by omega)];simp only[AD];by_cases h0:Au w n=0
 ·rw[AME h0,AME h0,h0]
  cases(Bl w.Al ep).contains n<;>rfl
 ·rw[AMG h0,AMG h0]
theorem Yx{n:Int}{e:AK}(hn:Au w n=0)(he:C6 e.1):L5 n e w.2.1 w.2.2.2.2.2.1 w.2.2.2.2.2.2.2.2.2.2.1 w.1 w.2.2.1 w.2.2.2.1 w.2.2.2.2.1 w.2.2.2.2.2.2.1 w.2.2.2.2.2.2.2.1 w.2.2.2.2.2.2.2.2.1 w.2.2.2.2.2.2.2.2.2.1=some (kM (putAt w n (HG (storeAt w n) e))):=by
 obtain⟨hr,s1,s2,s3⟩:=h.Ly hn;have Zn:w.2.2.1.getD n.toNat ([],[],0,())=storeAt w n:=rfl;unfold L5 putAt;simp only[AME hr,Zn];rw[show((storeAt w n).1,(storeAt w n).2.1,(storeAt w n).2.2.1,())=storeAt w n from rfl,show(e.1,e.2.1,e.2.2.1,e.2.2.2.1,())=e from rfl,j_ s1 s2 he];simp only[AD,gv,Pc];cases(HG (storeAt w n) e).2<;>rfl
theorem fZ{a:Int}:KO a w.2.1 w.2.2.2.2.2.1 w.2.2.2.2.2.2.2.2.2.2.1 w.1 w.2.2.1 w.2.2.2.1 w.2.2.2.2.1 w.2.2.2.2.2.2.1 w.2.2.2.2.2.2.2.1 w.2.2.2.2.2.2.2.2.1 w.2.2.2.2.2.2.2.2.2.1=some (AZl (KE w a)):=by
 have k:=h.nums;have k1:=k.c;have k2:=k.wr;have k3:=k.lost;have k4:=k.st;have aN:=k.hI;have gw:=k.J8;have jW:=k.gq;have k5:=k.era;have k7:=k.ah;unfold KO KE;rw[C8];by_cases h4:w.2.2.2.2.2.2.1.length=4
 ·rw[AME (by omega),AME h4];rfl
 have hm:(A7 a).length≤8:=uh;rw[AMG (by omega),AMG h4,Yk];simp only[AD];rw[show(w.1,w.2.1,())=AX w from rfl,show(w.2.2.2.2.1,w.2.2.2.2.2.1,())=Bj w from rfl,mu (c:=AX w) (r:=Bj w) (by show w.1.length≤_;omega) (by show AW Bi w.2.2.2.2.1≤_;omega) k.trim (by omega)];simp only[AD,Aw];rcases AMA (GR (AX w) (Bj w) (A7 a)).2.2 with hq|hq
 ·rw[hq,AME (by rw[As];omega),Fi];rfl
 ·rw[hq,Iv];rfl
theorem eg{d:Bh}:JC d w.2.1 w.2.2.2.2.2.1 w.2.2.2.2.2.2.2.2.2.2.1 w.1 w.2.2.1 w.2.2.2.1 w.2.2.2.2.1 w.2.2.2.2.2.2.1 w.2.2.2.2.2.2.2.1 w.2.2.2.2.2.2.2.2.1 w.2.2.2.2.2.2.2.2.2.1=some (kM (Hh w d.2.1 d.2.2.1 d.2.2.2.1)):=by
 have k:=h.nums;have k1:=k.c;have k2:=k.wr;have k3:=k.lost;have k4:=k.st;have aN:=k.hI;have gw:=k.J8;have jW:=k.gq;have k5:=k.era;have k7:=k.ah;unfold JC Hh;rw[show(w.1,w.2.1,w.2.2.1,w.2.2.2.1,w.2.2.2.2.1,w.2.2.2.2.2.1,w.2.2.2.2.2.2.1,w.2.2.2.2.2.2.2.1,w.2.2.2.2.2.2.2.2.1,w.2.2.2.2.2.2.2.2.2.1,w.2.2.2.2.2.2.2.2.2.2.1,())=w from rfl,AH (x:=(w.2.2.2.2.2.2.1.length:Int)-1) (by omega) (by omega),A0];simp only[AD,Aw,Cq];rw[show BD d.2.1 0 ((w.2.2.2.2.2.2.1.length:Int)-1)=BD d.2.1 0 ((w.AL.length:Int)-1)from rfl];rcases AMA (BD d.2.1 0 ((w.AL.length:Int)-1))with h1|h1
 rotate_left
 ·rw[h1,Iv];rfl
 obtain⟨x1,x2,x3⟩:=h.dC h1;rw[h1,AOK,Fi,AME x1,A0];simp only[AD];rw[show w.2.2.2.2.2.2.1.getD d.2.1.toNat (0,[],())=w.AL.getD d.2.1.toNat BX from rfl]
 generalize hx:w.AL.getD d.2.1.toNat BX=x at*
 rcases AMA (BD d.2.2.1 1 (x.2.1.length:Int))with h2|h2
 rotate_left
 ·rw[h2,Iv];rfl
 have h2':=Ao.1 h2;have hxl:=x2.n;have hxe:=x2.ep;have wG:=JL (e:=x.1) (o:=d.2.2.1) hxe (by omega);have hpm:Gr x.1 d.2.2.1=FN x.1 d.2.2.1:=by
  unfold Gr;rw[Ao.2 ⟨hxe.1,hxe.2⟩,Ao.2 ⟨h2'.1,by omega⟩];rfl
 rw[h2,AOK,Fi,Q0 h ⟨by omega,by omega⟩,IV,hpm,AH (by omega) (by omega)];simp only[AD,AME (show(0:Int)≤d.2.2.1-1∧d.2.2.1-1<(x.2.1.length:Int)by omega)];unfold qI;by_cases h3:Au w d.2.2.2.1=0
 rotate_left
 ·rw[AMG h3,AMG h3,AME h3];rfl
 rw[AME h3,AMG (show¬(Au w d.2.2.2.1≠0)from fun hh=>hh h3)];rcases AMA ((Bl w.Al x.1).contains d.2.2.2.1)with h5|h5
 rotate_left
 ·rw[h5,Iv];rfl
 rw[h5,Fi,AME rfl,AME rfl,Yx h h3 (Gl wG.1)];rfl
theorem fD{n k:Int}:PH n k w.2.1 w.2.2.2.2.2.1 w.2.2.2.2.2.2.2.2.2.2.1 w.1 w.2.2.1 w.2.2.2.1 w.2.2.2.2.1 w.2.2.2.2.2.2.1 w.2.2.2.2.2.2.2.1 w.2.2.2.2.2.2.2.2.1 w.2.2.2.2.2.2.2.2.2.1=some (kM (Hn w n k)):=by
 have kk:=h.nums;have k1:=kk.c;have k2:=kk.wr;have k3:=kk.lost;have k4:=kk.st;have aN:=kk.hI;have gw:=kk.J8;have jW:=kk.gq;have k5:=kk.era;have k7:=kk.ah;unfold PH Hn;rw[show(w.1,w.2.1,w.2.2.1,w.2.2.2.1,w.2.2.2.2.1,w.2.2.2.2.2.1,w.2.2.2.2.2.2.1,w.2.2.2.2.2.2.2.1,w.2.2.2.2.2.2.2.2.1,w.2.2.2.2.2.2.2.2.2.1,w.2.2.2.2.2.2.2.2.2.2.1,())=w from rfl,L1 (by omega) (by omega)];simp only[AD,Cq];by_cases h3:Au w n=0
 rotate_left
 ·rw[AMG h3,AME h3];rfl
 obtain⟨hr,s1,s2,s3⟩:=h.Ly h3;have Zn:w.2.2.1.getD n.toNat ([],[],0,())=storeAt w n:=rfl;rw[AME h3,AMG (show¬(Au w n≠0)from fun hh=>hh h3)];simp only[AME hr,Zn];rw[show((storeAt w n).1,(storeAt w n).2.1,(storeAt w n).2.2.1,())=storeAt w n from rfl,Wv s1 s2];simp only[AD,gv,Pc];unfold putAt;rcases AMA (F8 (storeAt w n) k).2 with hq|hq
 ·rw[hq];rfl
 ·have e:(F8 (storeAt w n) k).1=storeAt w n:=by
   unfold F8 at hq⊢;rw[DO.2 s3]at hq⊢;simp only[AMc,AMZ,AQb]at hq⊢;split at hq
   ·cases hq
   ·rename_i hn;rw[AMG hn]
  rw[hq,e];have:w.2.2.1.set n.toNat ((storeAt w n).1,(storeAt w n).2.1,(storeAt w n).2.2.1,())=w.2.2.1:=iB;rw[this];rfl
theorem et{n:Int}:O9 n w.2.1 w.2.2.2.2.2.1 w.2.2.2.2.2.2.2.2.2.2.1 w.1 w.2.2.1 w.2.2.2.1 w.2.2.2.2.1 w.2.2.2.2.2.2.1 w.2.2.2.2.2.2.2.1 w.2.2.2.2.2.2.2.2.1 w.2.2.2.2.2.2.2.2.2.1=some (kM (Hp w n)):=by
 have k:=h.nums;have k1:=k.c;have k2:=k.wr;have k3:=k.lost;have k4:=k.st;have aN:=k.hI;have gw:=k.J8;have jW:=k.gq;have k5:=k.era;have k7:=k.ah;unfold O9 Hp;rw[show(w.1,w.2.1,w.2.2.1,w.2.2.2.1,w.2.2.2.2.1,w.2.2.2.2.2.1,w.2.2.2.2.2.2.1,w.2.2.2.2.2.2.2.1,w.2.2.2.2.2.2.2.2.1,w.2.2.2.2.2.2.2.2.2.1,w.2.2.2.2.2.2.2.2.2.2.1,())=w from rfl,L1 (by omega) (by omega)];simp only[AD,Cq];by_cases h3:Au w n=0
 rotate_left
 ·rw[AMG h3,AME h3];rfl
 obtain⟨hr,s1,s2,s3⟩:=h.Ly h3;have Zn:w.2.2.1.getD n.toNat ([],[],0,())=storeAt w n:=rfl;rw[AME h3,AMG (show¬(Au w n≠0)from fun hh=>hh h3)];simp only[AME hr,Zn];rw[show((storeAt w n).1,(storeAt w n).2.1,(storeAt w n).2.2.1,())=storeAt w n from rfl,iE s1 s2 k.trim];simp only[AD,gv,Pc];unfold putAt;rw[show w.trim=w.2.2.2.2.2.1 from rfl];rcases AMA (JI (storeAt w n) w.2.2.2.2.2.1).2 with hq|hq
 ·rw[hq];rfl
 ·have e:(JI (storeAt w n) w.2.2.2.2.2.1).1=storeAt w n:=by
   unfold JI at hq⊢;rw[DO.2 s3]at hq⊢;simp only[AMc,AMZ,AQb]at hq⊢;split at hq
   ·cases hq
   ·rename_i hn;rw[AMG hn]
  rw[hq,e];have:w.2.2.1.set n.toNat ((storeAt w n).1,(storeAt w n).2.1,(storeAt w n).2.2.1,())=w.2.2.1:=iB;rw[this];rfl
theorem fo:QQ w.2.1 w.2.2.2.2.2.1 w.2.2.2.2.2.2.2.2.2.2.1 w.1 w.2.2.1 w.2.2.2.1 w.2.2.2.2.1 w.2.2.2.2.2.2.1 w.2.2.2.2.2.2.2.1 w.2.2.2.2.2.2.2.2.1 w.2.2.2.2.2.2.2.2.2.1=some (AYC (K8 w)):=by
 have k:=h.nums;have k1:=k.c;have k2:=k.wr;have k3:=k.lost;have k4:=k.st;have aN:=k.hI;have gw:=k.J8;have jW:=k.gq;have k5:=k.era;have k7:=k.ah;unfold QQ K8;rw[show(w.2.2.2.2.1,w.2.2.2.2.2.1,())=Bj w from rfl,SO (r:=Bj w) (by show w.2.2.2.2.1.length≤_;omega)];simp only[AD,C8,AB];rw[show(Bj w).1=w.Al from rfl];by_cases h1:(w.2.2.2.2.1.length:Int)<2
 ·rw[AME h1,show(decide ((w.2.2.2.2.1.length:Int)<2)||decide (A8 w.2.2.2.2.1=(w.2.2.2.2.1.length:Int)))=true by rw[AO0 h1];rfl];rfl
 rw[AMG h1];by_cases h2:A8 w.2.2.2.2.1=(w.2.2.2.2.1.length:Int)
 ·rw[AME h2,show(decide ((w.2.2.2.2.1.length:Int)<2)||decide (A8 w.2.2.2.2.1=(w.2.2.2.2.1.length:Int)))=true by rw[AO0 h2,Bool.or_true]];rfl
 rw[AMG h2,show(decide ((w.2.2.2.2.1.length:Int)<2)||decide (A8 w.2.2.2.2.1=(w.2.2.2.2.1.length:Int)))=false by rw[AOS h1,AOS h2];rfl];rw[AMG (show¬(false=true)by simp)];by_cases h3:w.2.2.2.2.2.2.2.1.length>0
 ·rw[AME (by omega),AME h3];rfl
 ·rw[AMG (by omega),AMG h3];rfl
theorem fl{n:Int}:KF n w.2.1 w.2.2.2.2.2.1 w.2.2.2.2.2.2.2.2.2.2.1 w.1 w.2.2.1 w.2.2.2.1 w.2.2.2.2.1 w.2.2.2.2.2.2.1 w.2.2.2.2.2.2.2.1 w.2.2.2.2.2.2.2.2.1 w.2.2.2.2.2.2.2.2.2.1=some (AIS (LG w n)):=by
 have k:=h.nums;have k1:=k.c;have k2:=k.wr;have k3:=k.lost;have k4:=k.st;have aN:=k.hI;have gw:=k.J8;have jW:=k.gq;have k5:=k.era;have k7:=k.ah;have k6:=k.ws;unfold KF LG;rw[show(w.1,w.2.1,w.2.2.1,w.2.2.2.1,w.2.2.2.2.1,w.2.2.2.2.2.1,w.2.2.2.2.2.2.1,w.2.2.2.2.2.2.2.1,w.2.2.2.2.2.2.2.2.1,w.2.2.2.2.2.2.2.2.2.1,w.2.2.2.2.2.2.2.2.2.2.1,())=w from rfl,AH (x:=(w.2.2.1.length:Int)-1) (by omega) (by omega),AH (x:=(w.2.2.2.2.1.length:Int)-1) (by omega) (by omega),A0];simp only[AD,Aw];rcases AMA (w.lost.contains n)with hl|hl
 rotate_left
 ·rw[hl]
  have e:C3 w n=some ((w.lost.contains n,()),()):=Z8 (by omega);rw[e,hl];cases BD n 0 ((w.2.2.1.length:Int)-1)<;>rfl
 have UI:=(Er.1 h.lost).2.1 n (by simpa using hl);have hn1:BD n 0 ((w.2.2.1.length:Int)-1)=true:=Ao.2 ⟨UI.1,by
  have:n<(w.1.length:Int):=UI.2;omega⟩
 have Adk:=Ao.1 hn1;rw[hn1,show C3 w n=some ((w.lost.contains n,()),())from Z8 (by omega),hl,Fi];simp only[AD,AOK];rw[show(if(0:Int)>(w.2.2.2.2.1.length:Int)-1 then 0 else(w.2.2.2.2.1.length:Int)-1)=max ((w.Al.length:Int)-1) 0 by
  show _=max ((w.2.2.2.2.1.length:Int)-1) 0
  rw[Int.max_def];split<;>split<;>omega]
 have ATm:∀s∈w.2.2.1,af s:=fun s hs=>h.Ux hs
 rw[show(w.1,w.2.1,())=AX w from rfl,sd (c:=AX w) (by show w.1.length≤_;omega) (by omega) (fun s hs=>by have:=(ATm s hs).nk;omega) (by omega) (fun s hs=>(ATm s hs).sin) (by omega)];simp only[AD,pkF];rw[show aL (AX w) w.A4 w.lost n (max ((w.Al.length:Int)-1) 0)=aL (AX w) w.2.2.1 w.2.2.2.1 n (max ((w.Al.length:Int)-1) 0)from rfl];rcases AMA (aL (AX w) w.2.2.1 w.2.2.2.1 n (max ((w.Al.length:Int)-1) 0)).2 with hq|hq
 rotate_left
 ·rw[hq,Iv];rfl
 rw[hq,AOK,Fi,AME (by omega),Pn (by omega)];rfl
theorem fh{n:Int}:KH n w.2.1 w.2.2.2.2.2.1 w.2.2.2.2.2.2.2.2.2.2.1 w.1 w.2.2.1 w.2.2.2.1 w.2.2.2.2.1 w.2.2.2.2.2.2.1 w.2.2.2.2.2.2.2.1 w.2.2.2.2.2.2.2.2.1 w.2.2.2.2.2.2.2.2.2.1=some (kM (K5 w n)):=by
 have k:=h.nums;have k1:=k.c;have k2:=k.wr;have k3:=k.lost;have k4:=k.st;have aN:=k.hI;have gw:=k.J8;have jW:=k.gq;have k5:=k.era;have k7:=k.ah;unfold KH K5;rcases hm:w.Bo with _|⟨m,ms⟩
 ·rw[C8,AME (by have Pu:w.2.2.2.2.2.2.2.1=[]:=hm;rw[Pu];rfl)];rfl
 have Pu:w.2.2.2.2.2.2.2.1=m::ms:=hm;have wV:w.2.2.2.2.2.2.2.1.length=ms.length+1:=by rw[Pu];rfl
 have g0:w.2.2.2.2.2.2.2.1.getD 0 (0,0,[],[],false,[],())=m:=by rw[Pu];rfl
 have wk:(0:Int)≤(0:Int)∧(0:Int)<(w.2.2.2.2.2.2.2.1.length:Int):=by omega
 have Zf:=(h.Bo m (by rw[hm];simp)).1;have wh:=Zf.w;have hme:=Zf.ep;have hmb:=Zf.b;simp only[C8,Aw,Cq,AME wk,g0];rw[AMG (by omega)];rw[show(w.1,w.2.1,w.2.2.1,w.2.2.2.1,w.2.2.2.2.1,w.2.2.2.2.2.1,w.2.2.2.2.2.2.1,w.2.2.2.2.2.2.2.1,w.2.2.2.2.2.2.2.2.1,w.2.2.2.2.2.2.2.2.2.1,w.2.2.2.2.2.2.2.2.2.2.1,())=w from rfl,Q0 h ⟨by omega,by omega⟩];simp only[AD];unfold qI;by_cases h3:Au w n=0
 rotate_left
 ·rw[AMG h3,AMG h3,AME h3];rfl
 obtain⟨hr,s1,s2,s3⟩:=h.Ly h3;have Zn:w.2.2.1.getD n.toNat ([],[],0,())=storeAt w n:=rfl;have hn3: ¬(Au w n≠0):=fun hh=>hh h3
 rw[AME h3,AMG hn3];simp only[AME hr,Zn];rcases AMA ((Bl w.Al m.2.1).contains n)with h5|h5
 rotate_left
 ·rw[h5,Iv];rfl
 rw[h5,Fi,AME rfl,AME rfl,AH (by omega) (by omega),show((storeAt w n).1,(storeAt w n).2.1,(storeAt w n).2.2.1,())=storeAt w n from rfl,iR s1 s2];have hq:=p8 (u:=m.1-1) s3;have hqw:=hq.w;simp only[AD,gv];rw[show((B3 (storeAt w n) (m.1-1)).1.1,(B3 (storeAt w n) (m.1-1)).1.2.1,(B3 (storeAt w n) (m.1-1)).1.2.2.1,())=(B3 (storeAt w n) (m.1-1)).1 from rfl,kt (by omega) hq.sin];simp only[AD];have hes:(Gk (B3 (storeAt w n) (m.1-1)).1 m.2.1).length≤200∧eu (Gk (B3 (storeAt w n) (m.1-1)).1 m.2.1)∧AW Ag (Gk (B3 (storeAt w n) (m.1-1)).1 m.2.1)≤10000:=by
  unfold Gk;rw[DO.2 hq,AME rfl];refine⟨ARV (ARZ _ _) hq.nk,fun e he=>hq.sin.1 e (ASH.1 he).1,ARV eW ?_⟩;have:Ak (B3 (storeAt w n) (m.1-1)).1=AW Ag (B3 (storeAt w n) (m.1-1)).1.1+AW Ag (B3 (storeAt w n) (m.1-1)).1.2.1:=rfl;omega
 rw[show(m.1,m.2.1,m.2.2.1,m.2.2.2.1,m.2.2.2.2.1,m.2.2.2.2.2.1,())=m from rfl,show(w.1,w.2.1,())=AX w from rfl,kR (c:=AX w) (by show w.1.length≤_;omega) (by omega) Zf.wX (by omega) hes.2.1 (by omega)];simp only[AD,fU];rcases AMA (B3 (storeAt w n) (m.1-1)).2 with h6|h6
 rotate_left
 ·rw[h6,ARb,AVr,AME rfl];rfl
 rw[h6,AMc,ARf];rcases AMA (OP (AX w) m n (Gk (B3 (storeAt w n) (m.1-1)).1 m.2.1)).2 with h7|h7
 rotate_left
 ·rw[h7,Iv];rfl
 rw[h7,Fi,AOK,AOK,Pu];rfl
theorem gN:KL w.2.1 w.2.2.2.2.2.1 w.2.2.2.2.2.2.2.2.2.2.1 w.1 w.2.2.1 w.2.2.2.1 w.2.2.2.2.1 w.2.2.2.2.2.2.1 w.2.2.2.2.2.2.2.1 w.2.2.2.2.2.2.2.2.1 w.2.2.2.2.2.2.2.2.2.1=some (kM (K4 w)):=by
 have k:=h.nums;have k1:=k.c;have k2:=k.wr;have k3:=k.lost;have k4:=k.st;have aN:=k.hI;have gw:=k.J8;have jW:=k.gq;have k5:=k.era;have k7:=k.ah;unfold KL K4;rcases hm:w.Bo with _|⟨m,ms⟩
 ·rw[C8,AME (by have Pu:w.2.2.2.2.2.2.2.1=[]:=hm;rw[Pu];rfl)];rfl
 have Pu:w.2.2.2.2.2.2.2.1=m::ms:=hm;have wV:w.2.2.2.2.2.2.2.1.length=ms.length+1:=by rw[Pu];rfl
 have g0:w.2.2.2.2.2.2.2.1.getD 0 (0,0,[],[],false,[],())=m:=by rw[Pu];rfl
 have wk:(0:Int)≤(0:Int)∧(0:Int)<(w.2.2.2.2.2.2.2.1.length:Int):=by omega
 have Zf:=(h.Bo m (by rw[hm];simp)).1;have wh:=Zf.w;have hme:=Zf.ep;simp only[C8,Aw,Cq,AME wk,g0];rw[AMG (by omega)];rw[show(w.2.2.2.2.1,w.2.2.2.2.2.1,())=Bj w from rfl,PR (r:=Bj w) (by show AW Bi w.2.2.2.2.1≤_;omega) ⟨by omega,by omega⟩];have Us:(Bl w.Al m.2.1).length≤8:=Gx h;rw[show(Bj w).1=w.Al from rfl];simp only[AD];rw[show(m.1,m.2.1,m.2.2.1,m.2.2.2.1,m.2.2.2.2.1,m.2.2.2.2.2.1,())=m from rfl,show(w.1,w.2.1,())=AX w from rfl,ki (c:=AX w) (by show w.1.length≤_;omega) (by omega) Zf.wX (by omega)];simp only[AD,fU,Pc];rcases AMA (MM (AX w) m (Bl w.Al m.2.1)).2 with h6|h6
 ·rw[h6,Fi,Pu];rfl
 ·have e:(MM (AX w) m (Bl w.Al m.2.1)).1=m:=by
   unfold MM at h6⊢;rw[Gj.2 Zf]at h6⊢;simp only[AMc,AMZ,AQb]at h6⊢;split at h6
   ·cases h6
   ·rename_i hn;rw[AMG hn]
  rw[h6,Iv,e,Pu]
  show some ((4,()),_,_,_,_,_,_,(m::ms),_)=some ((4,()),_,_,_,_,_,_,w.2.2.2.2.2.2.2.1,_)
  rw[Pu]
theorem jP{b n:Int}:Sq b n w.2.1 w.2.2.2.2.2.1 w.2.2.2.2.2.2.2.2.2.2.1 w.1 w.2.2.1 w.2.2.2.1 w.2.2.2.2.1 w.2.2.2.2.2.2.1 w.2.2.2.2.2.2.2.1 w.2.2.2.2.2.2.2.2.1 w.2.2.2.2.2.2.2.2.2.1=some (kM (Pz w b n)):=by
 have k:=h.nums;have k1:=k.c;have k2:=k.wr;have k3:=k.lost;have k4:=k.st;have aN:=k.hI;have gw:=k.J8;have jW:=k.gq;have k5:=k.era;have k7:=k.ah;unfold Sq Pz;rcases hm:w.Bo with _|⟨m,ms⟩
 ·rw[C8,AME (by have Pu:w.2.2.2.2.2.2.2.1=[]:=hm;rw[Pu];rfl)];rfl
 have Pu:w.2.2.2.2.2.2.2.1=m::ms:=hm;have wV:w.2.2.2.2.2.2.2.1.length=ms.length+1:=by rw[Pu];rfl
 have g0:w.2.2.2.2.2.2.2.1.getD 0 (0,0,[],[],false,[],())=m:=by rw[Pu];rfl
 have wk:(0:Int)≤(0:Int)∧(0:Int)<(w.2.2.2.2.2.2.2.1.length:Int):=by omega
 have Zf:=(h.Bo m (by rw[hm];simp)).1;have wh:=Zf.w;have hme:=Zf.ep;simp only[C8,Aw,Cq,AME wk,g0];rw[AMG (by omega),show(m.1,m.2.1,m.2.2.1,m.2.2.2.1,m.2.2.2.2.1,m.2.2.2.2.2.1,())=m from rfl,ZE (by omega)];simp only[AD];rcases he:EK m b with _|e
 ·rfl
 simp only[ARw,ARs,AOK];rw[show(w.1,w.2.1,w.2.2.1,w.2.2.2.1,w.2.2.2.2.1,w.2.2.2.2.2.1,w.2.2.2.2.2.2.1,w.2.2.2.2.2.2.2.1,w.2.2.2.2.2.2.2.2.1,w.2.2.2.2.2.2.2.2.2.1,w.2.2.2.2.2.2.2.2.2.2.1,())=w from rfl,Q0 h ⟨by omega,by omega⟩];simp only[AD];unfold qI;by_cases h3:Au w n=0
 rotate_left
 ·rw[AMG h3,AMG h3,AME h3];rfl
 rw[AME h3,AMG (show¬(Au w n≠0)from fun hh=>hh h3)];rcases AMA ((Bl w.Al m.2.1).contains n)with h5|h5
 rotate_left
 ·rw[h5,Iv];rfl
 rw[h5,Fi,AME rfl,AME rfl,show(e.1,e.2.1,e.2.2.1,e.2.2.2.1,())=e from rfl,Yx h h3 (tb he)];rfl
theorem fB:JJ w.2.1 w.2.2.2.2.2.1 w.2.2.2.2.2.2.2.2.2.2.1 w.1 w.2.2.1 w.2.2.2.1 w.2.2.2.2.1 w.2.2.2.2.2.2.1 w.2.2.2.2.2.2.2.1 w.2.2.2.2.2.2.2.2.1 w.2.2.2.2.2.2.2.2.2.1=some (AaV (Hm w)):=by
 have k:=h.nums;have k1:=k.c;have k2:=k.wr;have k3:=k.lost;have k4:=k.st;have aN:=k.hI;have gw:=k.J8;have jW:=k.gq;have k5:=k.era;have k7:=k.ah;unfold JJ Hm;rcases hm:w.Bo with _|⟨m,ms⟩
 ·rw[C8,AME (by have Pu:w.2.2.2.2.2.2.2.1=[]:=hm;rw[Pu];rfl)];rfl
 have Pu:w.2.2.2.2.2.2.2.1=m::ms:=hm;have wV:w.2.2.2.2.2.2.2.1.length=ms.length+1:=by rw[Pu];rfl
 have g0:w.2.2.2.2.2.2.2.1.getD 0 (0,0,[],[],false,[],())=m:=by rw[Pu];rfl
 have wk:(0:Int)≤(0:Int)∧(0:Int)<(w.2.2.2.2.2.2.2.1.length:Int):=by omega
 have Zf:=(h.Bo m (by rw[hm];simp)).1;have wh:=Zf.w;simp only[C8,Aw,Cq,AME wk,g0];rw[AMG (by omega),show(m.1,m.2.1,m.2.2.1,m.2.2.2.1,m.2.2.2.2.1,m.2.2.2.2.2.1,())=m from rfl,show(w.1,w.2.1,())=AX w from rfl,show(w.2.2.2.2.1,w.2.2.2.2.2.1,())=Bj w from rfl,jU (c:=AX w) (by show w.1.length≤_;omega) (by omega) Zf.wX];simp only[AD];rcases AMA (T9 (AX w) m)with h6|h6
 rotate_left
 ·rw[h6,Iv];rfl
 rw[h6,Fi,AOK,kE (c:=AX w) (r:=Bj w) (by show w.1.length≤_;omega) (by show AW Bi w.2.2.2.2.1≤_;omega) k.trim];simp only[AD,pkR,Pc];rcases AMA (Ih (AX w) (Bj w) m.1 (m.2.2.2.2.2.1.length:Int)).2 with h7|h7
 ·rw[h7,AOK,Fi];rfl
 ·rw[h7,AMW,Iv];rfl
end
end Go.M
end
section
set_option maxRecDepth 8000
namespace Go.M
open Go.M.H (AK AO A5 Aj AA Cj AQ BC AR Am Bk BA Bh Ak CG AW AS AZ Ag Bi Ay Aq BB EB CP Cx C_)
abbrev lz(l:List Aj):Prop:=Vp (fun s:Aj=>s.1) l
abbrev AAp(p:Int)(l:List Aj)(q:Nat):Prop:=il (fun s:Aj=>s.1) p l q
def Z_(p:Int)(l:List Aj)(q:Nat):Bool:=match l[q]? with|some e=>e.1==p|none=>false
theorem lY{l:List Aj}(ha:lz l)(hl:l.length≤2^30)(hp:∀s∈l,0≤s.1∧s.1<2^40){p:Int}(hpp:0≤p∧p<2^40):∃q,AAp p l q∧
  BL l p=some ((((q:Int),Z_ p l q,()),()),()):=by
 have key:∀(n a b:Nat),a≤b→b≤l.length→b-a<n→(∀(i:Nat) (h:i<l.length),i<a→l[i].1<p)→(∀(i:Nat) (h:i<l.length),b≤i→p≤l[i].1)→
   ∃q,AAp p l q∧Av n l p l.length a b=some ((((q:Int),Z_ p l q,()),()),()):=by
  intro n
  induction n with
  |zero=>intro a b _ _ h;omega
  |succ n ih=>
   intro a b ll hb hn h1 h2;simp only[Av,Cf,AB,Lc,AD];by_cases FW:a<b
   ·have hm:(a+b)/2<l.length:=by omega
    have hq:=hp _ (AM3 hm);rw[AME (by omega),sR (by omega),AME (by omega),Ah hm,AH (by omega) (by omega)];by_cases hc:l[(a+b)/2].1<p
    ·rw[AME (by omega),AH (by omega) (by omega),show((((a+b)/2:Nat):Int)+1)=(((a+b)/2+1:Nat):Int)by omega]
     refine ih _ b (by omega) hb (by omega) (fun i h hi=> ?_) h2;exact Int.lt_of_le_of_lt (ay (f:=fun s:Aj=>s.1) ha h hm (by omega)) hc
    ·rw[AMG (by omega)]
     exact ih a _ (by omega) (by omega) (by omega) h1 fun i h hi=>Int.le_trans (by omega) (ay (f:=fun s:Aj=>s.1) ha hm h hi)
   ·have ACs:a=b:=by omega
    subst ACs;refine⟨a,⟨hb,h1,h2⟩,?_⟩;rw[AMG (by omega)];unfold Z_;by_cases ha':a<l.length
    ·have hq:=hp _ (AM3 ha')
     rw[AME (by omega),AME (by omega),Ah ha',AMJ ha',AH (by omega) (by omega)];dsimp only;by_cases hd:l[a].1=p
     ·rw[ARe.2 hd,ARe.2 (by omega:l[a].1-p=0)]
     ·rw[APV.2 hd,APV.2 (by omega:l[a].1-p≠0)]
    ·rw[AMG (by omega),ARo (by omega)]
 obtain⟨q,hq,e⟩:=key Ab 0 l.length (by omega) (by omega) (Ae (by omega)) (fun i h hi=>by omega) (fun i h hi=>by omega);refine⟨q,hq,?_⟩;unfold BL Ci;rw[show((0:Nat):Int)=0 from rfl]at e;exact e
theorem vS{p:Int}{l:List Aj}{q:Nat}(h:Z_ p l q=true):∃hq:q<l.length,l[q].1=p:=by
 unfold Z_ at h;by_cases hq:q<l.length
 ·rw[AMJ hq]at h
  exact⟨hq,ARe.1 h⟩
 ·rw[ARo (by omega)]at h
  cases h
theorem rM{p:Int}{l:List Aj}{q:Nat}(hp:AAp p l q)(ha:lz l)(h:Z_ p l q=false):∀s∈l,s.1≠p:=by
 intro s hs e;obtain⟨i,hi,rfl⟩:=List.mem_iff_getElem.1 hs;have h1:=hp.lt i hi;by_cases xY:i<q
 ·have:l[i].1<p:=h1 xY
  omega
 ·have hq:q<l.length:=by omega
  have h3:p≤l[q].1:=hp.ge q hq (AP3 _);have h4:=ay (f:=fun s:Aj=>s.1) ha hq hi (by omega);unfold Z_ at h;rw[AMJ hq]at h;have h5:=APV.1 h;have h4':l[q].1≤l[i].1:=h4;omega
theorem AJg{p:Int}{l:List Aj}{q:Nat}(hp:AAp p l q)(ha:lz l):(l.any fun s=>s.1==p)=Z_ p l q:=by
 rcases AMA (Z_ p l q)with h|h
 ·obtain⟨hq,e⟩:=vS h
  rw[h,List.any_eq_true];exact⟨_,AM3 hq,ARe.2 e⟩
 ·rw[h,List.any_eq_false]
  intro s hs;simpa using rM hp ha h s hs
def Q5(p:Int)(l:List Aj):List Aj:=l.map fun s=>if s.1=p then(s.1,s.2.1,true,())else s
theorem yl{p:Int}{l:List Aj}(h:∀s∈l,s.1≠p):Q5 p l=l:=by
 unfold Q5
 conv=>rhs;rw[←AWd l]
 refine ASA fun s hs=> ?_
 rw[AMG (h s hs)];rfl
theorem ADP{p:Int}:∀{l:List Aj} {q:Nat} (hq:q<l.length),lz l→l[q].1=p→l.set q (l[q].1,l[q].2.1,true,())=Q5 p l
 |[],q,hq,_,_=>by simp at hq
 |s::l,0,_,ha,e=>by
  have h1:=ARi.1 ha;have e':s.1=p:=e;have h2:Q5 p l=l:=yl fun y hy=>by have:s.1<y.1:=h1.1 y hy;omega
  show(s.1,s.2.1,true,())::l=(if s.1=p then(s.1,s.2.1,true,())else s)::Q5 p l
  rw[AME e',h2]
 |s::l,q+1,hq,ha,e=>by
  have h1:=ARi.1 ha;have hq':q<l.length:=by simpa using hq
  have e':l[q].1=p:=e;have h3:s.1<l[q].1:=h1.1 _ (AM3 hq');have h4:s.1≠p:=by omega
  have:=ADP hq' h1.2 e'
  show s::l.set q (l[q].1,l[q].2.1,true,())=(if s.1=p then(s.1,s.2.1,true,())else s)::Q5 p l
  rw[AMG h4,this]
theorem sm_at{p:Int}{l:List Aj}:∀{s:Aj},s∈Q5 p l→ ∃t∈l,t.1=s.1:=by
 intro s hs;obtain⟨t,ht,rfl⟩:=AR8.1 hs;exact⟨t,ht,by split<;>rfl⟩
theorem AQB{p:Int}{l:List Aj}(h:lz l):lz (Q5 p l):=by
 unfold Q5 lz Vp;rw[ATA];refine List.Pairwise.imp (fun{a b} ll=> ?_) h;have e:∀s:Aj,(if s.1=p then((s.1,s.2.1,true,()):Aj)else s).1=s.1:=fun s=>by split<;>rfl
 show(if a.1=p then((a.1,a.2.1,true,()):Aj)else a).1<(if b.1=p then((b.1,b.2.1,true,()):Aj)else b).1
 rw[e,e];exact ll
theorem AQM{p:Int}{l:List Aj}:(Q5 p l).length=l.length:=by unfold Q5;rw[ASL]
theorem uL{s:Aj}:∀{l:List Aj} {q:Nat},AAp s.1 l q→Z_ s.1 l q=false→X_ s l=l.take q++[s]++l.drop q
 |[],q,h,_=>by
  have:=h.le;have:q=0:=by simpa using this
  subst this;rfl
 |y::l,0,h,hn=>by
  have h1:=h.ge 0 (by simp) (AP3 _);have h2:(y.1==s.1)=false:=hn;have h2':=APV.1 h2;have r_:s.1≤y.1:=h1;simp only[X_];rw[AME (by omega)];rfl
 |y::l,q+1,h,hn=>by
  have h1:y.1<s.1:=h.lt 0 (by simp) (by omega);have hp:AAp s.1 l q:=⟨by have:=h.le;simpa using this,fun i hi xY=>h.lt (i+1) (by simpa using hi) (by omega),fun i hi xY=>h.ge (i+1) (by simpa using hi) (by omega)⟩;simp only[X_];rw[AMG (by omega),uL hp hn];rfl
section
variable{w:AA} (h:On w)
include h
theorem On.APp:∀s∈w.2.2.2.2.2.2.2.2.2.1,0≤s.1∧s.1<2^40:=fun s hs=>by
 have hp:=(h.Ai s hs).1;have h1:=GF hp;have h2:FN (An s.1) (DU s.1)=s.1:=h1.2.2;unfold FN at h2;omega
theorem iN{a:Int}{d:ABY}(hd:d.length≤40):MF a d w.2.1 w.2.2.2.2.2.1 w.2.2.2.2.2.2.2.2.2.2.1 w.1 w.2.2.1 w.2.2.2.1 w.2.2.2.2.1 w.2.2.2.2.2.2.1 w.2.2.2.2.2.2.2.1 w.2.2.2.2.2.2.2.2.1 w.2.2.2.2.2.2.2.2.2.1=some (AUh (doAdd w a d)):=by
 have k:=h.nums;have k1:=k.c;have k2:=k.wr;have k3:=k.lost;have k4:=k.st;have aN:=k.hI;have gw:=k.J8;have jW:=k.gq;have k5:=k.era;have k7:=k.ah;have k6:=k.se;unfold MF doAdd;rw[AH (x:=(w.2.2.2.2.2.2.1.length:Int)-1) (by omega) (by omega),A0];simp only[AD,Aw,Cq,C8];rw[show BD a 0 ((w.2.2.2.2.2.2.1.length:Int)-1)=BD a 0 ((w.AL.length:Int)-1)from rfl];rcases AMA (BD a 0 ((w.AL.length:Int)-1))with h1|h1
 rotate_left
 ·rw[h1,Iv];rfl
 obtain⟨x1,x2,x3⟩:=h.dC h1;rw[h1,AOK,Fi];simp only[AME x1];rw[show w.2.2.2.2.2.2.1.getD a.toNat (0,[],())=w.AL.getD a.toNat BX from rfl]
 generalize hx:w.AL.getD a.toNat BX=x at*
 rw[show(x.1,x.2.1,())=x from rfl,show(w.1,w.2.1,())=AX w from rfl,iq (c:=AX w) (by show w.1.length≤_;omega) (by omega) (by omega)];simp only[AD];rw[IV];simp only[AD];have hxl:=x2.n;have hxe:=x2.ep;have hq1:(Bz (AX w) x d).1.1=x.1:=by
  unfold Bz;rw[It.2 x2];simp only[AMc,AMZ,AQb];split<;>rfl
 have hpm:0≤Gr (Bz (AX w) x d).1.1 (Bz (AX w) x d).2.1∧Gr (Bz (AX w) x d).1.1 (Bz (AX w) x d).2.1<2^40:=by
  unfold Gr FN;split
  ·rename_i hc
   rw[AMY,Ao,Ao]at hc;omega
  ·omega
 obtain⟨q,hq,es⟩:=lY (l:=w.2.2.2.2.2.2.2.2.2.1) h.bR (by omega) h.APp hpm;unfold IU;rw[es];simp only[AD];rcases AMA (Bz (AX w) x d).2.2 with h2|h2
 rotate_left
 ·rw[h2,ARb,AVr,AME rfl,AMW];rfl
 obtain⟨y1,y2,y3,y4⟩:=aX h2;have hyl:=y2.n;rw[y3]at hyl;simp only[AOq,AN0,APv]at hyl;have wG:=JL (e:=x.1) (o:=(Bz (AX w) x d).2.1) hxe (by omega);have hpe:Gr (Bz (AX w) x d).1.1 (Bz (AX w) x d).2.1=FN x.1 (Bz (AX w) x d).2.1:=by
  unfold Gr;rw[hq1,Ao.2 ⟨hxe.1,hxe.2⟩,Ao.2 (by omega)];rfl
 rw[hpe]at hq⊢;rw[h2,AOK];simp only[AMc,ARf];have AZ4:(w.Ai.any fun s=>s.1==FN x.1 (Bz (AX w) x d).2.1)=Z_ (FN x.1 (Bz (AX w) x d).2.1) w.2.2.2.2.2.2.2.2.2.1 q:=AJg hq h.bR;rw[AZ4];by_cases h3:w.2.2.2.2.2.2.2.2.2.1.length=120
 ·rw[AME (by omega),show decide (w.Ai.length=120)=true from AO0 h3,AVr,AME rfl]
  rfl
 rw[AMG (by omega),show decide (w.Ai.length=120)=false from AOS h3];simp only[ARf];rcases AMA (Z_ (FN x.1 (Bz (AX w) x d).2.1) w.2.2.2.2.2.2.2.2.2.1 q)with h4|h4
 ·rw[h4,AOK,AME rfl];rfl
 rw[h4,AMW,AMG (by simp)];have hql:=hq.le;unfold EF;rw[iY hql (by simp;omega)];have hi:=uL (s:=(FN x.1 (Bz (AX w) x d).2.1,d,false,())) hq h4
 show some _=some _
 unfold AUh;simp only[AOT]at hi⊢;rw[show X_ (FN x.1 (Bz (AX w) x d).2.1,d,false,()) w.Ai=_ from hi]
end
end Go.M
end
section
set_option maxRecDepth 8000
namespace Go.M
open Go.M.H (AK AO A5 Aj AA Cj AQ BC AR Am Bk BA Bh Ak CG AW AS AZ Ag Bi Ay Aq BB EB CP Cx C_)
def fN(c:CH)(s:AO)(ep n:Int):Int→List BC→List Aj→List Aj
 |_,[],se=>se
 |o,x::l,se=>fN c s ep n (o+1) l (if !x.2.2.1&&Ll s (FN ep o)&&(Fu c n x).2.2.1 then Q5 (FN ep o) se else se)
def pkT(c0:AAF)(c1 tr:Int)(tn:Bool)(ss:List AO)(lo:AAF)(er:List Cj)(ws:List AR)(ms:List A5)(rs:List Am)(se:List Aj):GQ:=
 (((()),()),(((),c1,(),(),(),tr,(),(),(),(),tn,()),c0,ss,lo,er,ws,ms,rs,se,()))
section
variable{c:CH} {st:AO} {SS:List AO} {n:Int} (hc:c.1.length≤8) (hs:af st) (hn:0≤n∧n<c.1.length) (hnS:n<(SS.length:Int)) (Zn:SS.getD n.toNat Dm=st)
include hc hs hn hnS Zn
theorem wx{tr:Int}{tn:Bool}{lo:AAF}{er:List Cj}{ms:List A5}{rs:List Am}{a:Nat}{ep:Int}:∀(rest dn:List BC) (ws:List AR) (se:List Aj) (f:Nat),a<ws.length→a≤4→ws.getD a BX=(ep,dn++rest,())→bH c (ep,dn++rest,())→
  lz se→(∀s∈se,0≤s.1∧s.1<2^40)→se.length≤120→rest.length<f→
  C0 f (a:Int) n ((dn.length:Int)+1) c.2.1 tr tn c.1 SS lo er ws ms rs se=some (pkT c.1 c.2.1 tr tn SS lo er (ws.set a (ep,dn++Br c st ep n ((dn.length:Int)+1) rest,())) ms rs (fN c st ep n ((dn.length:Int)+1) rest se)):=by
 have qM:=hs.w;intro rest
 induction rest with
 |nil=>
  intro dn ws se f ha ha4 hw Fj uz AA1 ADI hf;obtain⟨f,rfl⟩:∃f',f=f'+1:=⟨f-1,by omega⟩;have qc:ws.getD a (0,[],())=(ep,dn++[],()):=hw;simp only[C0,Iu,AB,ANW,qc,AN8];rw[AME (by omega),AMG (by omega)];unfold Br fN pkT;rw[show((ep,dn++[],()):AR)=ws.getD a BX from hw.symm,iB]
 |cons x rest ih=>
  intro dn ws se f ha ha4 hw Fj uz AA1 ADI hf;obtain⟨f,rfl⟩:∃f',f=f'+1:=⟨f-1,by omega⟩;simp only[AN0]at hf;have qc:ws.getD a (0,[],())=(ep,dn++x::rest,()):=hw;have hwe:1≤ep∧ep≤30:=Fj.ep;have hwn:(dn++x::rest).length≤60:=Fj.n;have hww:AW Ay (dn++x::rest)≤3000:=Fj.w;have hwl:=hwn;simp only[AOq,AN0]at hwl;have ca:(0:Int)≤(a:Int)∧(a:Int)<(ws.length:Int):=by omega
  have cn:(0:Int)≤n∧n<(SS.length:Int):=⟨hn.1,hnS⟩;have wG:=JL (e:=ep) (o:=(dn.length:Int)+1) hwe (by omega);have hpm:Gr ep ((dn.length:Int)+1)=FN ep ((dn.length:Int)+1):=by
   unfold Gr;rw[Ao.2 ⟨hwe.1,hwe.2⟩,Ao.2 (by omega)];rfl
  have cd:(0:Int)≤(dn.length:Int)+1-1∧(dn.length:Int)+1-1<((dn++x::rest).length:Int):=by
   simp only[AOq,AN0];omega
  have e1:((dn.length:Int)+1-1).toNat=dn.length:=by omega
  have e2:(dn++x::rest).getD dn.length ([],[],false,())=x:=by simp[List.getD]
  have ANa:SS.getD n.toNat ([],[],0,())=st:=Zn;simp only[C0,Iu,AB,Aw,Cq,ANW,qc,AME ca,AME cn];rw[AME (by simp only[AOq,AN0];omega),IV,hpm];simp only[AD,ANa];rw[show(st.1,st.2.1,st.2.2.1,())=st from rfl,T8 (by omega) hs.sin];simp only[AD];rw[AH (x:=(dn.length:Int)+1+1) (by omega) (by omega),AH (x:=(dn.length:Int)+1-1) (by omega) (by omega)];simp only[AME cd,e1,e2];have go:∀(y:BC) (ws':List AR) (cc:List Aj),ws'.length=ws.length→ws'.getD a BX=(ep,dn++y::rest,())→(∀z,ws'.set a z=ws.set a z)→bH c (ep,dn++y::rest,())→lz cc→(∀s∈cc,0≤s.1∧s.1<2^40)→cc.length≤120→
    (if !x.2.2.1&&Ll st (FN ep ((dn.length:Int)+1))then Fu c n x else x)=y→(if !x.2.2.1&&Ll st (FN ep ((dn.length:Int)+1))&&(Fu c n x).2.2.1 then Q5 (FN ep ((dn.length:Int)+1)) se else se)=cc→
    C0 f (a:Int) n ((dn.length:Int)+1+1) c.2.1 tr tn c.1 SS lo er ws' ms rs cc=some (pkT c.1 c.2.1 tr tn SS lo er (ws.set a (ep,dn++Br c st ep n ((dn.length:Int)+1) (x::rest),())) ms rs (fN c st ep n ((dn.length:Int)+1) (x::rest) se)):=fun y ws' cc g1 g2 g3 g4 g5 g6 g7 g8 g9=>by
   have:=ih (dn++[y]) ws' cc f (by omega) ha4 (by simpa using g2) (by simpa using g4) g5 g6 g7 (by omega);simp only[AOq,AN0,APv,AOT,AQs]at this;rw[show(((dn.length+(0+1):Nat):Int)+1)=(dn.length:Int)+1+1 by omega,g3]at this;rw[this];simp only[Br,fN];rw[g8,g9]
  have stay:(if !x.2.2.1&&Ll st (FN ep ((dn.length:Int)+1))then Fu c n x else x)=x→(if !x.2.2.1&&Ll st (FN ep ((dn.length:Int)+1))&&(Fu c n x).2.2.1 then Q5 (FN ep ((dn.length:Int)+1)) se else se)=se→
    C0 f (a:Int) n ((dn.length:Int)+1+1) c.2.1 tr tn c.1 SS lo er ws ms rs se=some (pkT c.1 c.2.1 tr tn SS lo er (ws.set a (ep,dn++Br c st ep n ((dn.length:Int)+1) (x::rest),())) ms rs (fN c st ep n ((dn.length:Int)+1) (x::rest) se)):=fun g8 g9=>go x ws se rfl hw (fun _=>rfl) Fj uz AA1 ADI g8 g9
  have hsg:Xj st (FN ep ((dn.length:Int)+1))=Ou (FN ep ((dn.length:Int)+1)) st.1:=by unfold Xj;rw[DO.2 hs,AME rfl]
  rw[hsg];cases hxd:x.2.2.1 with
  |true=>
   rw[AOK];exact stay (by rw[hxd];simp) (by rw[hxd];simp)
  |false=>
   rw[AMW];cases hg:Ou (FN ep ((dn.length:Int)+1)) st.1 with
   |none=>
    have hh:Ll st (FN ep ((dn.length:Int)+1))=false:=by unfold Ll;rw[hg]
    exact stay (by rw[hh];simp) (by rw[hh];simp)
   |some e=>
    simp only[AOK];by_cases he0:e.2.1=0
    rotate_left
    ·have hh:Ll st (FN ep ((dn.length:Int)+1))=false:=by unfold Ll;rw[hg];simp[he0]
     rw[AMG he0];exact stay (by rw[hh];simp) (by rw[hh];simp)
    have hh:Ll st (FN ep ((dn.length:Int)+1))=true:=by unfold Ll;rw[hg];simp[he0]
    rw[AME he0];have hx:=Fj.words x (by simp);have hb:bH c (ep,dn++Fu c n x::rest,()):=⟨Fj.cfg,Fj.ep,by simpa using hwn,fun b hb=>by
     simp only[APr,AQw]at hb;rcases hb with hb|rfl|hb
     ·exact Fj.words b (by simp[hb])
     ·exact⟨hx.1,Kq hx.2.1 hn,rfl⟩
     ·exact Fj.words b (by simp[hb]),ARV (kz hxd) Fj.opn⟩
    rw[show(c.1,c.2.1,())=c from rfl,ib (c:=c) (w:=(ep,dn++x::rest,())) (by omega) (by show AW Ay (dn++x::rest)≤_;omega)];have w8:Ra c (ep,dn++x::rest,()) ((dn.length:Int)+1) n=((ep,dn++Fu c n x::rest,()),true):=by
     unfold Ra;rw[It.2 Fj];simp only[AMc,AMZ,AQb];rw[e1,show(dn++x::rest).getD dn.length MY=x from e2,hxd];rw[AME (by
      rw[AMY,AMY,Ao,Ao];simp only[AOq,AN0];refine⟨by omega,by omega,rfl⟩)]
     rw[ASF _ _ (by omega),ATw,AR7]
    rw[w8];simp only[AD,pkW];have hx7:(ws.set a (ep,dn++Fu c n x::rest,())).getD a (0,[],())=(ep,dn++Fu c n x::rest,()):=NS ha;have ca7:(0:Int)≤(a:Int)∧(a:Int)<((ws.set a (ep,dn++Fu c n x::rest,())).length:Int):=by rw[ARh];exact ca
    have cd7:(0:Int)≤(dn.length:Int)+1-1∧(dn.length:Int)+1-1<((dn++Fu c n x::rest).length:Int):=by
     simp only[AOq,AN0];omega
    have e27:(dn++Fu c n x::rest).getD dn.length ([],[],false,())=Fu c n x:=by simp[List.getD]
    have hpr:0≤FN ep ((dn.length:Int)+1)∧FN ep ((dn.length:Int)+1)<2^40:=by unfold FN;omega
    obtain⟨q,hq,es⟩:=lY uz (by omega) AA1 hpr;unfold IU;rw[es];simp only[AD,hx7,AME ca7,AME cd7,e27];have Tk:∀z,(ws.set a (ep,dn++Fu c n x::rest,())).set a z=ws.set a z:=fun z=>AVm ..
    have AEX:(if !x.2.2.1&&Ll st (FN ep ((dn.length:Int)+1))then Fu c n x else x)=Fu c n x:=by rw[hxd,hh];rfl
    rcases AMA (Z_ (FN ep ((dn.length:Int)+1)) se q)with hf|hf
    rotate_left
    ·rw[hf,AMW]
     refine go _ _ se (ARh ..) hx7 Tk hb uz AA1 ADI AEX ?_
     rw[yl (rM hq uz hf)];split<;>rfl
    obtain⟨hql,hqe⟩:=vS hf;rw[hf,AOK];cases hd:(Fu c n x).2.2.1 with
    |false=>
     rw[AMW];exact go _ _ se (ARh ..) hx7 Tk hb uz AA1 ADI AEX (by rw[hd,ATb];rfl)
    |true=>
     rw[AOK,AME (by omega),ANW,show se.getD q (0,[],false,())=se[q]from QH hql,ADP hql uz hqe];refine go _ _ _ (ARh ..) hx7 Tk hb (AQB uz) (fun s y7=> ?_) (by rw[AQM];exact ADI) AEX (by rw[hd,hxd,hh];rfl);obtain⟨t,ht,e⟩:=sm_at y7;rw[←e];exact AA1 t ht
theorem w7{tr:Int}{tn:Bool}{lo:AAF}{er:List Cj}{ws:List AR}{rs:List Am}{se:List Aj}{a:Nat}{m:A5}(hm:jY c m):∀(rest dn:List AAF) (ms:List A5) (f:Nat),a<ms.length→a≤4→ms.getD a J_=(m.1,m.2.1,m.2.2.1,m.2.2.2.1,m.2.2.2.2.1,dn++rest,())→(dn++rest).length=m.2.2.2.2.2.1.length→(∀l∈dn++rest,Ar c l=true)→
  rest.length<f→
  BS f (a:Int) n ((dn.length:Int)+1) c.2.1 tr tn c.1 SS lo er ws ms rs se=some (pkT c.1 c.2.1 tr tn SS lo er ws (ms.set a (m.1,m.2.1,m.2.2.1,m.2.2.2.1,m.2.2.2.2.1,dn++FY m st n ((dn.length:Int)+1) rest,())) rs se):=by
 have qM:=hs.w;have hmn:m.2.2.2.2.2.1.length≤60:=by
  have:=hm.n;have hb:=Hg (l:=m.2.2.2.1);split at this<;>omega
 intro rest
 induction rest with
 |nil=>
  intro dn ms f ha ha4 hw hl ho hf;obtain⟨f,rfl⟩:∃f',f=f'+1:=⟨f-1,by omega⟩;have qc:ms.getD a (0,0,[],[],false,[],())=(m.1,m.2.1,m.2.2.1,m.2.2.2.1,m.2.2.2.2.1,dn++[],()):=hw;simp only[BS,HF,AB,ANW,qc,AN8];rw[AME (by omega),AMG (by omega)];unfold FY pkT;rw[show((m.1,m.2.1,m.2.2.1,m.2.2.2.1,m.2.2.2.2.1,dn++[],()):A5)=ms.getD a J_ from hw.symm,iB]
 |cons x rest ih=>
  intro dn ms f ha ha4 hw hl ho hf;obtain⟨f,rfl⟩:∃f',f=f'+1:=⟨f-1,by omega⟩;simp only[AN0]at hf;have qc:ms.getD a (0,0,[],[],false,[],())=(m.1,m.2.1,m.2.2.1,m.2.2.2.1,m.2.2.2.2.1,dn++x::rest,()):=hw;have i_:=hl;simp only[AOq,AN0]at i_;have ca:(0:Int)≤(a:Int)∧(a:Int)<(ms.length:Int):=by omega
  have cn:(0:Int)≤n∧n<(SS.length:Int):=⟨hn.1,hnS⟩;have ANa:SS.getD n.toNat ([],[],0,())=st:=Zn;have Zf:jY c (m.1,m.2.1,m.2.2.1,m.2.2.2.1,m.2.2.2.2.1,dn++x::rest,()):=⟨hm.cfg,hm.ep,hm.b,hm.sld,hm.uE,hm.seen,ho,by show((dn++x::rest).length:Int)=_;rw[hl];exact hm.n⟩;have wh:=Zf.w;simp only[BS,HF,AB,Aw,Cq,ANW,qc,AME ca,AME cn];rw[AME (by simp only[AOq,AN0];omega),ZE (m:=(m.1,m.2.1,m.2.2.1,m.2.2.2.1,m.2.2.2.2.1,dn++x::rest,())) (by omega),cM hl];simp only[AD,ANa];rw[show(st.1,st.2.1,st.2.2.1,())=st from rfl,T8 (by omega) hs.sin];simp only[AD];rw[AH (x:=(dn.length:Int)+1+1) (by omega) (by omega)];have go:∀(y:AAF) (ms':List A5),ms'.length=ms.length→ms'.getD a J_=(m.1,m.2.1,m.2.2.1,m.2.2.2.1,m.2.2.2.2.1,dn++y::rest,())→(∀z,ms'.set a z=ms.set a z)→Ar c y=true→
    (if US m st ((dn.length:Int)+1)then LA n x else x)=y→
    BS f (a:Int) n ((dn.length:Int)+1+1) c.2.1 tr tn c.1 SS lo er ws ms' rs se=some (pkT c.1 c.2.1 tr tn SS lo er ws (ms.set a (m.1,m.2.1,m.2.2.1,m.2.2.2.1,m.2.2.2.2.1,dn++FY m st n ((dn.length:Int)+1) (x::rest),())) rs se):=fun y ms' g1 g2 g3 g4 g5=>by
   have:=ih (dn++[y]) ms' f (by omega) ha4 (by simpa using g2) (by simpa using hl) (fun l hl=>by
    simp only[AOT,AQs,APr,AQw]at hl;rcases hl with hl|rfl|hl
    ·exact ho l (by simp[hl])
    ·exact g4
    ·exact ho l (by simp[hl])) (by omega)
   simp only[AOq,AN0,APv,AOT,AQs]at this;rw[show(((dn.length+(0+1):Nat):Int)+1)=(dn.length:Int)+1+1 by omega,g3]at this;rw[this];simp only[FY];rw[g5]
  have hx:=ho x (by simp);have stay:US m st ((dn.length:Int)+1)=false→BS f (a:Int) n ((dn.length:Int)+1+1) c.2.1 tr tn c.1 SS lo er ws ms rs se=some (pkT c.1 c.2.1 tr tn SS lo er ws (ms.set a (m.1,m.2.1,m.2.2.1,m.2.2.2.1,m.2.2.2.2.1,dn++FY m st n ((dn.length:Int)+1) (x::rest),())) rs se):=fun g=>go x ms rfl hw (fun _=>rfl) hx (by rw[g];rfl)
  have hsg:∀p,Xj st p=Ou p st.1:=fun p=>by unfold Xj;rw[DO.2 hs,AME rfl]
  rw[hsg];cases he:EK m ((dn.length:Int)+1)with
  |none=>
   simp only[AR0,AMW];exact stay (by unfold US;rw[he])
  |some e=>
   simp only[ARs,AOK,ARw];cases hg:Ou e.1 st.1 with
   |none=>
    exact stay (by unfold US;rw[he];simp[hg])
   |some y=>
    simp only[AOK,eqE,AB];by_cases hye:y=e
    rotate_left
    ·rw[AMG hye]
     exact stay (by unfold US;rw[he];simp[hg,hye])
    have hh:US m st ((dn.length:Int)+1)=true:=by unfold US;rw[he];simp[hg,hye]
    rw[AME hye,show(c.1,c.2.1,())=c from rfl,mB (c:=c) (m:=(m.1,m.2.1,m.2.2.1,m.2.2.2.1,m.2.2.2.2.1,dn++x::rest,())) (by omega) (by omega) Zf.wX];have w8:SX c (m.1,m.2.1,m.2.2.1,m.2.2.2.1,m.2.2.2.2.1,dn++x::rest,()) ((dn.length:Int)+1) n=((m.1,m.2.1,m.2.2.1,m.2.2.2.1,m.2.2.2.2.1,dn++LA n x::rest,()),true):=by
     unfold SX;rw[Gj.2 Zf];have hq:(BD ((dn.length:Int)+1) 1 ((dn++x::rest).length:Int)&&BD n 0 ((c.1.length:Int)-1))=true:=by
      rw[AMY,Ao,Ao];simp only[AOq,AN0];omega
     simp only[AMc,AMZ,AQb];rw[AME hq];have e1:((dn.length:Int)+1-1).toNat=dn.length:=by omega
     rw[e1];have e2:(dn++x::rest).getD dn.length []=x:=by simp[List.getD]
     have e3:(dn++x::rest).set dn.length (LA n x)=dn++LA n x::rest:=by
      rw[ASF _ _ (by omega),ATw,AR7]
     rw[e2,e3]
    rw[w8];simp only[AD,fU];exact go (LA n x) _ (ARh ..) (NS ha) (fun z=>AVm ..) (Kq hx hn) (by rw[hh];rfl)
end
def gH(c:CH)(s:AO)(ep n:Int):Int→List BC→Int→Bool
 |_,[],_=>false
 |o,x::l,p=>(decide (p=FN ep o)&&(!x.2.2.1&&Ll s (FN ep o)&&(Fu c n x).2.2.1))||gH c s ep n (o+1) l p
theorem rN{c:CH}{st:AO}{ep n:Int}:∀{l:List BC} {o:Int} {se:List Aj},fN c st ep n o l se=se.map fun s=>(s.1,s.2.1,s.2.2.1||gH c st ep n o l s.1,())
 |[],o,se=>by
  simp only[fN,gH,AWX]
  conv=>lhs;rw[←AWd se]
  rfl
 |x::l,o,se=>by
  simp only[fN];rw[rN];rcases AMA (!x.2.2.1&&Ll st (FN ep o)&&(Fu c n x).2.2.1)with hb|hb
  ·rw[hb,AME rfl]
   unfold Q5;rw[ATK];refine ASA fun s _=> ?_
   simp only[Function.comp_apply,gH,hb,AR1];by_cases hp:s.1=FN ep o
   ·rw[AME hp,AO0 hp,AVr,Bool.or_true]
   ·rw[AMG hp,AOS hp,ARf]
  ·rw[hb]
   simp only[AMZ,AQb];refine ASA fun s _=> ?_
   simp only[gH,hb,ATb,ARf]
theorem ru{c:CH}{st:AO}{ep n p:Int}(hep:1≤ep∧ep≤30)(hp:BT p=true):∀{l:List BC} {o:Int},1≤o→o+l.length≤61→
  gH c st ep n o l p=(An p==ep&&(decide (o≤DU p)&&(decide (DU p<o+l.length)&&(((Br c st ep n o l).getD (DU p-o).toNat MY).2.2.1&& !(l.getD (DU p-o).toNat MY).2.2.1))))
 |[],o,_,_=>by
  have:(decide (o≤DU p)&&decide (DU p<o+(([]:List BC).length:Int)))=false:=by
   rw[AWS,ARr,ARr];simp only[APv];omega
  rw[←Bool.and_assoc (decide (o≤DU p)),this,ARm,ATb];rfl
 |x::l,o,ho,hl=>by
  simp only[AN0]at hl;have hf:=GF hp;simp only[gH];rw[ru hep hp (l:=l) (o:=o+1) (by omega) (by omega)];by_cases he:An p=ep
  rotate_left
  ·have ax:p≠FN ep o:=fun e=>he (by rw[e];exact(JL hep (by omega)).2.1)
   rw[APV.2 he,AOS ax];rfl
  rw[ARe.2 he];simp only[APB,AN0];by_cases h1:DU p=o
  ·have hpe:p=FN ep o:=by rw[←hf.2.2,he,h1]
   have e0:(DU p-o).toNat=0:=by omega
   rw[AO0 hpe,AOS (show¬o+1≤DU p by omega),AO0 (show o≤DU p by omega),AO0 (show DU p<o+((l.length+1:Nat):Int)by omega),e0];simp only[APB,ARm,AWX,Br,List.getD_cons_zero];cases hx:x.2.2.1 with
   |true=>simp
   |false=>
    cases hh:Ll st (FN ep o)with
    |true=>simp
    |false=>simp[hx]
  ·have ax:p≠FN ep o:=fun e=>h1 (by rw[e];exact(JL hep (by omega)).2.2)
   rw[AOS ax,ARm,ARf];by_cases h2:o≤DU p
   ·rw[AO0 h2,AO0 (show o+1≤DU p by omega)]
    have e1:(DU p-o).toNat=(DU p-(o+1)).toNat+1:=by omega
    rw[e1];simp only[Br,List.getD_cons_succ];rw[show decide (DU p<o+1+(l.length:Int))=decide (DU p<o+((l.length+1:Nat):Int))by rw[AWV];omega]
   ·rw[AOS h2,AOS (show¬o+1≤DU p by omega)]
    rfl
theorem fW{c:CH}{st:AO}{ep n:Int}:∀{l:List BC} {o:Int},(Br c st ep n o l).length=l.length
 |[],_=>rfl
 |x::l,o=>by simp only[Br,AN0,fW]
theorem yG{c:CH}{st:AO}{ep n:Int}(hep:1≤ep∧ep≤30){l:List BC}(hl:l.length≤60){se:List Aj}(hs:∀s∈se,BT s.1=true):fN c st ep n 1 l se=se.map (P4 false ep l (Br c st ep n 1 l)):=by
 rw[rN];refine ASA fun s hm=> ?_
 have hf:=GF (hs s hm);unfold P4 dj;rw[ru hep (hs s hm) (by omega) (by omega),fW];by_cases h1:DU s.1≤l.length
 ·have:BD (DU s.1) 1 (l.length:Int)=true:=Ao.2 (by omega)
  rw[this,AO0 (show 1≤DU s.1 by omega),AO0 (show DU s.1<1+(l.length:Int)by omega)];simp only[APB,ARf]
 ·have:BD (DU s.1) 1 (l.length:Int)=false:=by
   rw[←AQv,Ao];omega
  rw[this,AOS (show¬DU s.1<1+(l.length:Int)by omega)];simp
end Go.M
end
section
set_option maxRecDepth 8000
namespace Go.M
open Go.M.H (AK AO A5 Aj AA Cj AQ BC AR Am Bk BA Bh Ak CG AW AS AZ Ag Bi Ay Aq BB EB CP Cx C_)
def AC6(q:AA×Int):cA:=((q.2,()),(((),q.1.2.1,(),(),(),q.1.2.2.2.2.2.1,(),(),(),(),q.1.2.2.2.2.2.2.2.2.2.2.1,()),q.1.1,q.1.2.2.1,(),(),(),(),q.1.2.2.2.2.2.2.2.2.1,(),q.1.2.2.2.1,q.1.2.2.2.2.1,q.1.2.2.2.2.2.2.1,q.1.2.2.2.2.2.2.2.1,q.1.2.2.2.2.2.2.2.2.2.1,()))
def ww(w:AA)(SS:List AO)(ws:List AR)(ms:List A5)(se:List Aj):AA:=(((w.BR SS).Ax ws).Ap se).Bm ms
section
variable{w:AA} (h:On w) {st:AO} {SS:List AO} {n:Int} (hs:af st) (hn:0≤n∧n<(AX w).1.length) (hnS:n<(SS.length:Int)) (Zn:SS.getD n.toNat Dm=st)
include h hs hn hnS Zn
theorem AB3{ws:List AR}{se:List Aj}:∀(k i:Nat),w.2.2.2.2.2.2.2.1.length-i=k→i≤w.2.2.2.2.2.2.2.1.length→ ∀f,k<f→
  FP f n w.2.2.2.2.2.2.2.1.length i w.2.1 w.2.2.2.2.2.1 w.2.2.2.2.2.2.2.2.2.2.1 w.1 SS w.2.2.2.1 w.2.2.2.2.1 ws ((w.2.2.2.2.2.2.2.1.map (MP st w.Al n)).take i++w.2.2.2.2.2.2.2.1.drop i) w.2.2.2.2.2.2.2.2.1 se=some (kM (ww w SS ws (w.2.2.2.2.2.2.2.1.map (MP st w.Al n)) se,0)):=by
 have k:=h.nums;have k1:=k.c;have k5:=k.era;have k6:=k.md;intro k
 induction k with
 |zero=>
  intro i hk hi f hf;obtain⟨f,rfl⟩:∃f',f=f'+1:=⟨f-1,by omega⟩;have:i=w.2.2.2.2.2.2.2.1.length:=by omega
  simp only[FP,Mg,AB];rw[AMG (by omega),this,AR2,AN8,ARk (by simp)];rfl
 |succ k ih=>
  intro i hk hi f hf;obtain⟨f,rfl⟩:∃f',f=f'+1:=⟨f-1,by omega⟩;have DE:i<w.2.2.2.2.2.2.2.1.length:=by omega
  have hm:=(h.Bo _ (AM3 DE)).1;have hme:=hm.ep;have Us:(Bl w.Al w.2.2.2.2.2.2.2.1[i].2.1).length≤8:=Gx h;simp only[FP,Mg,AB];rw[KX hi,AME (by omega),AME (by omega),ANW,Lu DE,show(w.2.2.2.2.1,w.2.2.2.2.2.1,())=Bj w from rfl,PR (r:=Bj w) (by show AW Bi w.2.2.2.2.1≤_;omega) ⟨by omega,by omega⟩];rw[show(Bj w).1=w.Al from rfl];simp only[AD];rw[I3 (by omega),AH (x:=(i:Int)+1) (by omega) (by omega),show((i:Int)+1)=((i+1:Nat):Int)by omega];simp only[AD];have nx:=ih (i+1) (by omega) (by omega) f (by omega);rcases AMA ((Bl w.Al w.2.2.2.2.2.2.2.1[i].2.1).contains n)with hc|hc
  ·have hT:MP st w.Al n w.2.2.2.2.2.2.2.1[i]=(w.2.2.2.2.2.2.2.1[i].1,w.2.2.2.2.2.2.2.1[i].2.1,w.2.2.2.2.2.2.2.1[i].2.2.1,w.2.2.2.2.2.2.2.1[i].2.2.2.1,w.2.2.2.2.2.2.2.1[i].2.2.2.2.1,FY w.2.2.2.2.2.2.2.1[i] st n 1 w.2.2.2.2.2.2.2.1[i].2.2.2.2.2.1,()):=by
    unfold MP;rw[AME hc]
   have hmn:w.2.2.2.2.2.2.2.1[i].2.2.2.2.2.1.length≤60:=by
    have:=hm.n;have hb:=Hg (l:=w.2.2.2.2.2.2.2.1[i].2.2.2.1);split at this<;>omega
   have:=w7 (c:=AX w) (tr:=w.2.2.2.2.2.1) (tn:=w.2.2.2.2.2.2.2.2.2.2.1) (lo:=w.2.2.2.1) (er:=w.2.2.2.2.1) (ws:=ws) (rs:=w.2.2.2.2.2.2.2.2.1) (se:=se) (a:=i) k1 hs hn hnS Zn hm w.2.2.2.2.2.2.2.1[i].2.2.2.2.2.1 [] ((w.2.2.2.2.2.2.2.1.map (MP st w.Al n)).take i++w.2.2.2.2.2.2.2.1.drop i) Ab (by rw[KX hi];exact DE) (by omega) (Lu DE) rfl (by simpa using hm.wrote) (Ae (by omega));rw[hc,AOK];unfold La KC;simp only[APv,AQU]at this;have e1:(((0:Nat):Int)+1)=1:=rfl;rw[e1]at this;rw[show(w.2.1:Int)=(AX w).2.1 from rfl,show w.1=(AX w).1 from rfl,this];simp only[AD,pkT];rw[QT DE hT.symm];exact nx
  ·have hT:MP st w.Al n w.2.2.2.2.2.2.2.1[i]=w.2.2.2.2.2.2.2.1[i]:=by
    unfold MP;rw[AMG (by rw[hc];simp)]
   rw[hc,AMW,jB DE hT];exact nx
theorem AGn:∀(rest pre:List AR) (se:List Aj) (f:Nat),pre.length+rest.length=w.2.2.2.2.2.2.1.length→(∀x∈rest,bH (AX w) x)→lz se→(∀s∈se,BT s.1=true)→se.length≤120→rest.length+w.2.2.2.2.2.2.2.1.length+1<f→
  Ew f n w.2.2.2.2.2.2.1.length pre.length w.2.1 w.2.2.2.2.2.1 w.2.2.2.2.2.2.2.2.2.2.1 w.1 SS w.2.2.2.1 w.2.2.2.2.1 (pre++rest) w.2.2.2.2.2.2.2.1 w.2.2.2.2.2.2.2.2.1 se st.2.2.1=
   some (kM (ww w SS (pre++(ES false (AX w) st w.Al n rest se).1) (w.2.2.2.2.2.2.2.1.map (MP st w.Al n)) (ES false (AX w) st w.Al n rest se).2,0)):=by
 have k:=h.nums;have k1:=k.c;have k2:=k.wr;have k5:=k.era;have k6:=k.md;have hb:∀{p:Int},BT p=true→0≤p∧p<2^40:=fun{p} hp=>by
  have h1:=GF hp;have h2:=h1.2.2;unfold FN at h2;omega
 intro rest
 induction rest with
 |nil=>
  intro pre se f hl hw ha hp hsl hf;obtain⟨f,rfl⟩:∃f',f=f'+1:=⟨f-1,by omega⟩;simp only[APv]at hl hf;simp only[Ew,Nh,AB,AN8];rw[AMG (by omega)];have:=AB3 h hs hn hnS Zn (ws:=pre) (se:=se) w.2.2.2.2.2.2.2.1.length 0 (by omega) (by omega) f (by omega);rw[show((0:Nat):Int)=0 from rfl,APS,AUT,AQU]at this;rw[this];simp only[ES,AN8]
 |cons x rest ih=>
  intro pre se f hl hw ha hp hsl hf;obtain⟨f,rfl⟩:∃f',f=f'+1:=⟨f-1,by omega⟩;simp only[AN0]at hl hf;have hx:=hw x (by simp);have hxe:=hx.ep;have hxn:=hx.n;have wG:(pre++x::rest).length=pre.length+(rest.length+1):=by simp
  have cp:(0:Int)≤(pre.length:Int)∧(pre.length:Int)<((pre++x::rest).length:Int):=by omega
  have e2:(pre++x::rest).getD pre.length (0,[],())=x:=by simp[List.getD]
  have Us:(Bl w.Al x.1).length≤8:=Gx h;simp only[Ew,Nh,AB,ANW,AME cp,e2];rw[AME (by omega),show(w.2.2.2.2.1,w.2.2.2.2.2.1,())=Bj w from rfl,PR (r:=Bj w) (by show AW Bi w.2.2.2.2.1≤_;omega) ⟨by omega,by omega⟩];rw[show(Bj w).1=w.Al from rfl];simp only[AD];rw[I3 (by omega),AH (x:=(pre.length:Int)+1) (by omega) (by omega),show((pre.length:Int)+1)=((pre.length+1:Nat):Int)by omega];simp only[AD];have next:∀(b:AR) (cc:List Aj),lz cc→(∀s∈cc,BT s.1=true)→cc.length≤120→
    Ew f n w.2.2.2.2.2.2.1.length ((pre.length+1:Nat):Int) w.2.1 w.2.2.2.2.2.1 w.2.2.2.2.2.2.2.2.2.2.1 w.1 SS w.2.2.2.1 w.2.2.2.2.1 (pre++b::rest) w.2.2.2.2.2.2.2.1 w.2.2.2.2.2.2.2.2.1 cc st.2.2.1=
     some (kM (ww w SS (pre++b::(ES false (AX w) st w.Al n rest cc).1) (w.2.2.2.2.2.2.2.1.map (MP st w.Al n)) (ES false (AX w) st w.Al n rest cc).2,0)):=fun b cc h1 h2 h3=>by
   have:=ih (pre++[b]) cc f (by simp only[AOq,AN0,APv];omega) (fun x hx=>hw x (by simp[hx])) h1 h2 h3 (by omega);simp only[AOq,AN0,APv,AOT,AQs]at this;exact this
  simp only[ES];rcases AMA (au st w.Al n x)with ht|ht
  rotate_left
  ·rw[ht]
   simp only[AMZ,AQb];unfold au at ht;by_cases FW:x.1>st.2.2.1
   ·rw[AO0 (show st.2.2.1<x.1 from FW),AR1]at ht
    rw[AME FW,ht,AMW];exact next x se ha hp hsl
   ·rw[AMG FW]
    exact next x se ha hp hsl
  ·rw[ht]
   simp only[ARj];unfold au at ht;rw[AMY,AOV]at ht;rw[AME (show x.1>st.2.2.1 from ht.2),ht.1,AOK];have:=wx (c:=AX w) (tr:=w.2.2.2.2.2.1) (tn:=w.2.2.2.2.2.2.2.2.2.2.1) (lo:=w.2.2.2.1) (er:=w.2.2.2.2.1) (ms:=w.2.2.2.2.2.2.2.1) (rs:=w.2.2.2.2.2.2.2.2.1) (a:=pre.length) (ep:=x.1) k1 hs hn hnS Zn x.2.1 [] (pre++x::rest) se Ab (by omega) (by omega) (show(pre++x::rest).getD pre.length (0,[],())=x from e2) hx ha (fun s y7=>hb (hp s y7)) hsl (Ae (by omega));unfold Nt N3;simp only[APv,AQU]at this;have e1:(((0:Nat):Int)+1)=1:=rfl;rw[e1,yG hxe hxn hp,ASF _ _ (by omega),ATw,AR7]at this;rw[show(w.2.1:Int)=(AX w).2.1 from rfl,show w.1=(AX w).1 from rfl,this];simp only[AD,pkT];refine next _ _ ?_ (fun s y7=> ?_) (by rw[ASL];exact hsl)
   ·unfold lz Vp
    rw[ATA];exact List.Pairwise.imp (fun{a b} ll=>ll) ha
   ·obtain⟨s',h1,rfl⟩:=AR8.1 y7
    exact hp s' h1
end
section
variable{w:AA} (h:On w)
include h
theorem gd{n:Int}:QN n w.2.1 w.2.2.2.2.2.1 w.2.2.2.2.2.2.2.2.2.2.1 w.1 w.2.2.1 w.2.2.2.1 w.2.2.2.2.1 w.2.2.2.2.2.2.1 w.2.2.2.2.2.2.2.1 w.2.2.2.2.2.2.2.2.1 w.2.2.2.2.2.2.2.2.2.1=some (kM (MH false w n)):=by
 have k:=h.nums;have k1:=k.c;have k2:=k.wr;have k3:=k.lost;have k4:=k.st;have aN:=k.hI;have gw:=k.J8;have jW:=k.gq;have k5:=k.era;have k7:=k.ah;unfold QN TT MH;rw[show(w.1,w.2.1,w.2.2.1,w.2.2.2.1,w.2.2.2.2.1,w.2.2.2.2.2.1,w.2.2.2.2.2.2.1,w.2.2.2.2.2.2.2.1,w.2.2.2.2.2.2.2.2.1,w.2.2.2.2.2.2.2.2.2.1,w.2.2.2.2.2.2.2.2.2.2.1,())=w from rfl,L1 (by omega) (by omega)];simp only[AD,Cq,Aw];by_cases h3:Au w n=0
 rotate_left
 ·rw[AMG h3,AME h3];rfl
 obtain⟨hr,s1,s2,s3⟩:=h.Ly h3;have Zn:w.2.2.1.getD n.toNat ([],[],0,())=storeAt w n:=rfl;rw[AME h3,AMG (show¬(Au w n≠0)from fun hh=>hh h3)];simp only[AME hr,Zn];rw[show((storeAt w n).1,(storeAt w n).2.1,(storeAt w n).2.2.1,())=storeAt w n from rfl,YC s1 s2];simp only[AD,gv];rcases AMA (Bc (storeAt w n)).2 with hq|hq
 rotate_left
 ·rw[hq,Iv];rfl
 rw[hq,Fi,AOK];have Fj:af (Bc (storeAt w n)).1:=(Nd hq).2.1;have AYU:n.toNat<w.2.2.1.length:=by omega
 have:=AGn h (st:=(Bc (storeAt w n)).1) (SS:=w.2.2.1.set n.toNat (Bc (storeAt w n)).1) (n:=n) Fj (h.node h3).1 (by rw[ARh];exact hr.2) (NS AYU) w.2.2.2.2.2.2.1 [] w.2.2.2.2.2.2.2.2.2.1 Ab (by simp) (fun x hx=>(h.AL x hx).1) h.bR (fun s hs=>(h.Ai s hs).1) k.se (Ae (by have:=k.md;omega));simp only[APv,AQU]at this;rw[show((0:Nat):Int)=0 from rfl]at this;exact this
theorem ADa{n:Int}{ss:List AO}{ls:AAF}{ws:List AR}(hls:ls.length≤2^20):∀(f i:Nat),i≤w.2.2.2.2.2.2.2.1.length→w.2.2.2.2.2.2.2.1.length-i<f→
  G2 f n w.2.2.2.2.2.2.2.1.length i w.2.1 w.2.2.2.2.2.1 w.2.2.2.2.2.2.2.2.2.2.1 w.1 ss w.2.2.2.1 w.2.2.2.2.1 ws ((w.2.2.2.2.2.2.2.1.map fun m=>(CC (AX w) m n).1).take i++w.2.2.2.2.2.2.2.1.drop i) w.2.2.2.2.2.2.2.2.1 w.2.2.2.2.2.2.2.2.2.1 ls=
   some (AIS (((((w.BR ss).Cw ls).Ax ws).Bm (w.2.2.2.2.2.2.2.1.map fun m=>(CC (AX w) m n).1)).C5 (w.FX||holds (AX w) ls),0)):=by
 have k:=h.nums;have k1:=k.c;have k6:=k.md;intro f
 induction f with
 |zero=>intro i _ h;omega
 |succ f ih=>
  intro i hi hn;have hlen:=KX (f:=fun m:A5=>(CC (AX w) m n).1) hi;simp only[G2,SD,AB,Aw,hlen];by_cases DE:i<w.2.2.2.2.2.2.2.1.length
  ·have c1:(0:Int)≤(i:Int)∧(i:Int)<(w.2.2.2.2.2.2.2.1.length:Int):=by omega
   have hm:=(h.Bo _ (AM3 DE)).1;have wh:=hm.w;have hg:((w.2.2.2.2.2.2.2.1.map fun m=>(CC (AX w) m n).1).take i++w.2.2.2.2.2.2.2.1.drop i).getD i (0,0,[],[],false,[],())=w.2.2.2.2.2.2.2.1[i]:=Lu DE;simp only[AME c1,AME c1.2,ANW,hg];rw[AH (by omega) (by omega),show((i:Int)+1)=((i+1:Nat):Int)by omega,show(w.2.2.2.2.2.2.2.1[i].1,w.2.2.2.2.2.2.2.1[i].2.1,w.2.2.2.2.2.2.2.1[i].2.2.1,w.2.2.2.2.2.2.2.1[i].2.2.2.1,w.2.2.2.2.2.2.2.1[i].2.2.2.2.1,w.2.2.2.2.2.2.2.1[i].2.2.2.2.2.1,())=w.2.2.2.2.2.2.2.1[i]from rfl,show(w.1,w.2.1,())=AX w from rfl,gf (c:=AX w) (by show w.1.length≤_;omega) (by omega) hm.wX];simp only[AD,fU];rw[show((CC (AX w) w.2.2.2.2.2.2.2.1[i] n).1.1,(CC (AX w) w.2.2.2.2.2.2.2.1[i] n).1.2.1,(CC (AX w) w.2.2.2.2.2.2.2.1[i] n).1.2.2.1,(CC (AX w) w.2.2.2.2.2.2.2.1[i] n).1.2.2.2.1,(CC (AX w) w.2.2.2.2.2.2.2.1[i] n).1.2.2.2.2.1,(CC (AX w) w.2.2.2.2.2.2.2.1[i] n).1.2.2.2.2.2.1,())=(CC (AX w) w.2.2.2.2.2.2.2.1[i] n).1 from rfl,QT DE rfl];exact ih (i+1) (by omega) (by omega)
  ·have:i=w.2.2.2.2.2.2.2.1.length:=by omega
   rw[AMG (by omega),this,AR2,AN8,ARk (by simp),show(w.1,w.2.1,())=AX w from rfl,GY (by show w.1.length≤_;omega) (by omega)];simp only[AD];cases ht:w.2.2.2.2.2.2.2.2.2.2.1 with
   |true=>
    have ht':w.FX=true:=ht;rw[ht'];rfl
   |false=>
    have ht':w.FX=false:=ht;rw[ht'];rfl
theorem AHH{n:Int}{ss:List AO}{ls:AAF}(hls:ls.length≤2^20):∀(f i:Nat),i≤w.2.2.2.2.2.2.1.length→(w.2.2.2.2.2.2.1.length-i)+w.2.2.2.2.2.2.2.1.length+2≤f→
  HV f n w.2.2.2.2.2.2.1.length i w.2.1 w.2.2.2.2.2.1 w.2.2.2.2.2.2.2.2.2.2.1 w.1 ss w.2.2.2.1 w.2.2.2.2.1 ((w.2.2.2.2.2.2.1.map fun x=>(CI (AX w) x n).1).take i++w.2.2.2.2.2.2.1.drop i) w.2.2.2.2.2.2.2.1 w.2.2.2.2.2.2.2.2.1 w.2.2.2.2.2.2.2.2.2.1 ls=
   some (AIS (((((w.BR ss).Cw ls).Ax (w.2.2.2.2.2.2.1.map fun x=>(CI (AX w) x n).1)).Bm (w.2.2.2.2.2.2.2.1.map fun m=>(CC (AX w) m n).1)).C5 (w.FX||holds (AX w) ls),0)):=by
 have k:=h.nums;have k1:=k.c;have k6:=k.wr;intro f
 induction f with
 |zero=>intro i _ h;omega
 |succ f ih=>
  intro i hi hn;have hlen:=KX (f:=fun x:AR=>(CI (AX w) x n).1) hi;simp only[HV,Tb,AB,Aw,hlen];by_cases DE:i<w.2.2.2.2.2.2.1.length
  ·have c1:(0:Int)≤(i:Int)∧(i:Int)<(w.2.2.2.2.2.2.1.length:Int):=by omega
   have hm:=(h.AL _ (AM3 DE)).1;have wh:=hm.w;have hg:((w.2.2.2.2.2.2.1.map fun x=>(CI (AX w) x n).1).take i++w.2.2.2.2.2.2.1.drop i).getD i (0,[],())=w.2.2.2.2.2.2.1[i]:=Lu DE;simp only[AME c1,AME c1.2,ANW,hg];rw[AH (by omega) (by omega),show((i:Int)+1)=((i+1:Nat):Int)by omega,show(w.2.2.2.2.2.2.1[i].1,w.2.2.2.2.2.2.1[i].2.1,())=w.2.2.2.2.2.2.1[i]from rfl,show(w.1,w.2.1,())=AX w from rfl,cq (c:=AX w) (by show w.1.length≤_;omega) (by have:Aq w.2.2.2.2.2.2.1[i]=AW Ay w.2.2.2.2.2.2.1[i].2.1:=rfl;omega)];simp only[AD,pkW];rw[show((CI (AX w) w.2.2.2.2.2.2.1[i] n).1.1,(CI (AX w) w.2.2.2.2.2.2.1[i] n).1.2.1,())=(CI (AX w) w.2.2.2.2.2.2.1[i] n).1 from rfl,QT DE rfl];exact ih (i+1) (by omega) (by omega)
  ·have:i=w.2.2.2.2.2.2.1.length:=by omega
   have k12:=ADa h (n:=n) (ss:=ss) (ws:=w.2.2.2.2.2.2.1.map fun x=>(CI (AX w) x n).1) hls f 0 (by omega) (by omega);rw[show((0:Nat):Int)=0 from rfl,APS,AUT,AQU]at k12;rw[AMG (by omega),this,AR2,AN8,ARk (by simp),k12]
theorem gj{n:Int}:Qa n w.2.1 w.2.2.2.2.2.1 w.2.2.2.2.2.2.2.2.2.2.1 w.1 w.2.2.1 w.2.2.2.1 w.2.2.2.2.1 w.2.2.2.2.2.2.1 w.2.2.2.2.2.2.2.1 w.2.2.2.2.2.2.2.2.1 w.2.2.2.2.2.2.2.2.2.1=some (AIS (LF w n)):=by
 have k:=h.nums;have k1:=k.c;have k2:=k.wr;have k3:=k.lost;have k4:=k.st;have aN:=k.hI;have gw:=k.J8;have jW:=k.gq;have k5:=k.era;have k7:=k.ah;have k6:=k.md;unfold Qa TQ LF;rw[show(w.1,w.2.1,w.2.2.1,w.2.2.2.1,w.2.2.2.2.1,w.2.2.2.2.2.1,w.2.2.2.2.2.2.1,w.2.2.2.2.2.2.2.1,w.2.2.2.2.2.2.2.2.1,w.2.2.2.2.2.2.2.2.2.1,w.2.2.2.2.2.2.2.2.2.2.1,())=w from rfl,L1 (by omega) (by omega)];simp only[AD,Cq];by_cases h3:Au w n=0
 rotate_left
 ·rw[AMG h3,AME h3];rfl
 obtain⟨hr,s1,s2,s3⟩:=h.Ly h3;rw[AME h3,AMG (show¬(Au w n≠0)from fun hh=>hh h3),AME hr,PI (Er.1 h.lost).2.2 (by omega)];simp only[AD];have hp:=S8 (n:=n) (l:=w.2.2.2.1);have:=AHH h (n:=n) (ss:=w.2.2.1.set n.toNat ([],[],0,())) (ls:=LA n w.2.2.2.1) (by omega) Ab 0 (by omega) (ASa (Ae (by omega)));rw[show((0:Nat):Int)=0 from rfl,APS,AUT,AQU]at this;exact this
theorem jb{d:Bh}(Qj:lH w)(h64:C6 d.2.1)(hd:d.2.2.2.2.1.length≤40)(hk:1≤d.1∧d.1≤16):Ue d w.2.1 w.2.2.2.2.2.1 w.2.2.2.2.2.2.2.2.2.2.1 w.1 w.2.2.1 w.2.2.2.1 w.2.2.2.2.1 w.2.2.2.2.2.2.1 w.2.2.2.2.2.2.2.1 w.2.2.2.2.2.2.2.2.1 w.2.2.2.2.2.2.2.2.2.1=some (AC6 (He false w d)):=by
 have k:=h.nums;have k1:=k.c;have k2:=k.wr;have k3:=k.lost;have k4:=k.st;have aN:=k.hI;have gw:=k.J8;have jW:=k.gq;have k5:=k.era;have k7:=k.ah;unfold Ue He;rw[show(d.1,d.2.1,d.2.2.1,d.2.2.2.1,d.2.2.2.2.1,())=d from rfl];simp only[C8];by_cases c1:d.1=1
 ·rw[AME c1,AME c1,fZ h];rfl
 rw[AMG c1,AMG c1];by_cases c2:d.1=2
 ·rw[AME c2,AME c2,iN h hd];rfl
 rw[AMG c2,AMG c2];by_cases c3:d.1=3
 ·rw[AME c3,AME c3,eg h];rfl
 rw[AMG c3,AMG c3];by_cases c4:d.1=4
 ·rw[AME c4,AME c4,gd h];rfl
 rw[AMG c4,AMG c4];by_cases c5:d.1=5
 ·rw[AME c5,AME c5,fD h];rfl
 rw[AMG c5,AMG c5];by_cases c6:d.1=6
 ·rw[AME c6,AME c6,gj h];rfl
 rw[AMG c6,AMG c6];by_cases c7:d.1=7
 ·rw[AME c7,AME c7,fl h];rfl
 rw[AMG c7,AMG c7];by_cases c8:d.1=8
 ·rw[AME c8,AME c8,fo h];rfl
 rw[AMG c8,AMG c8];by_cases c9:d.1=9
 ·rw[AME c9,AME c9,fh h];rfl
 rw[AMG c9,AMG c9];by_cases c10:d.1=10
 ·rw[AME c10,AME c10,gN h];rfl
 rw[AMG c10,AMG c10];by_cases c11:d.1=11
 ·rw[AME c11,AME c11,jP h];rfl
 rw[AMG c11,AMG c11];by_cases c12:d.1=12
 ·rw[AME c12,AME c12,fB h];rfl
 rw[AMG c12,AMG c12];by_cases c13:d.1=13
 ·rw[AME c13,AME c13,show(w.1,w.2.1,())=AX w from rfl,show(w.2.2.2.2.1,w.2.2.2.2.2.1,())=Bj w from rfl,mU (c:=AX w) (r:=Bj w) (by show w.1.length≤_;omega) (by show AW Bi w.2.2.2.2.1≤_;omega) k.trim h64]
  simp only[AD,pkR,Pc];unfold Mu;dsimp only;rcases AMA (LR (AX w) (Bj w) d.2.1).2 with hq|hq
  ·rw[hq,Fi];rfl
  ·have e:(LR (AX w) (Bj w) d.2.1).1=Bj w:=by
    unfold LR at hq⊢;rw[JP.2 h.lB]at hq⊢;simp only[AMc,AMZ,AQb]at hq⊢;split at hq
    ·cases hq
    ·rename_i hn;rw[AMG hn]
   rw[hq,e,Iv];rfl
 rw[AMG c13,AMG c13];by_cases c14:d.1=14
 ·rw[AME c14,AME c14,gg h Qj];rfl
 rw[AMG c14,AMG c14];by_cases c16:d.1=16
 ·rw[AME c16,AMG (show¬d.1=15 by omega),et h];rfl
 rw[AMG c16,AME (show d.1=15 by omega),AH (x:=(w.2.2.2.2.2.2.1.length:Int)-1) (by omega) (by omega),A0];simp only[AD,Aw];unfold Lh;rw[show BD d.2.1 0 ((w.2.2.2.2.2.2.1.length:Int)-1)=BD d.2.1 0 ((w.AL.length:Int)-1)from rfl];rcases AMA (BD d.2.1 0 ((w.AL.length:Int)-1))with h1|h1
 rotate_left
 ·rw[h1,Iv];rfl
 obtain⟨x1,x2,x3⟩:=h.dC h1;rw[h1,AOK,Fi,AH (x:=d.2.1+1) (by omega) (by omega)];unfold FI ACI;rw[AME (by omega)];simp only[Option.map_some,AD];rw[show(d.2.1+1).toNat=d.2.1.toNat+1 by omega,←List.eraseIdx_eq_take_drop_succ];rfl
theorem je{d:Bh}(Qj:lH w)(h64:C6 d.2.1):PB w d=some (wY (D4 false w d)):=by
 unfold PB D4;rw[show(w.1,w.2.1,w.2.2.1,w.2.2.2.1,w.2.2.2.2.1,w.2.2.2.2.2.1,w.2.2.2.2.2.2.1,w.2.2.2.2.2.2.2.1,w.2.2.2.2.2.2.2.2.1,w.2.2.2.2.2.2.2.2.2.1,w.2.2.2.2.2.2.2.2.2.2.1,())=w from rfl,show(d.1,d.2.1,d.2.2.1,d.2.2.2.1,d.2.2.2.2.1,())=d from rfl,Vb Qj,dE,jC Qj];simp only[AD,Aw,Cq];rw[HB.2 h];rcases AMA (Mw d)with hd|hd
 rotate_left
 ·rw[hd];rfl
 have hk:1≤d.1∧d.1≤16:=by
  unfold Mw at hd;exact Ao.1 (AMY _ _▸hd).1
 rw[hd,AOK,AOK,jb h Qj h64 (gA hd) hk];simp only[AD,AMc,AWX,AMZ,AQb];by_cases hc:(He false w d).2=0
 ·rw[AME (show(AC6 (He false w d)).1.1=0 from hc)]
  generalize hg:He false w d=q at hc⊢
  obtain⟨v,co⟩:=q;dsimp only at hc;subst hc;rfl
 ·rw[AMG (show¬(AC6 (He false w d)).1.1=0 from hc)]
  have:=vj hc;rw[show He false w d=(w,(He false w d).2)by rw[←Prod.eta (He false w d)];simp only[this]];rfl
end
theorem l9{w:AA}{d:Bh}(Qj:lH w)(h64:C6 d.2.1):PB w d=some (wY (D4 false w d)):=by
 rcases AMA (Fv w)with hw|hw
 ·exact je (HB.1 hw) Qj h64
 ·unfold PB D4
  rw[show(w.1,w.2.1,w.2.2.1,w.2.2.2.1,w.2.2.2.2.1,w.2.2.2.2.2.1,w.2.2.2.2.2.2.1,w.2.2.2.2.2.2.2.1,w.2.2.2.2.2.2.2.2.1,w.2.2.2.2.2.2.2.2.2.1,w.2.2.2.2.2.2.2.2.2.2.1,())=w from rfl,Vb Qj,hw];rfl
end Go.M
end
section
set_option maxRecDepth 8000
namespace Go.M
open Go.M.H (AK AO A5 Aj AA Cj AQ BC AR Am Bk BA Bh Ak CG AW AS AZ Ag Bi Ay Aq BB EB CP Cx C_)
def bare(se:List Aj):List (Int×List UInt8):=se.map fun s=>(s.1,s.2.1)
def XA(se:List Aj)(q:Xv):Xv:=(q.1.Ap se,q.2)
section
variable{w:AA} {se:List Aj}
theorem zS{a:Int}:KE (w.Ap se) a=XA se (KE w a):=by
 unfold KE;simp only[ATq (XA se)];rfl
theorem yS{n:Int}:LF (w.Ap se) n=XA se (LF w n):=by
 unfold LF;simp only[ATq (XA se)];rfl
theorem zH{n:Int}:LG (w.Ap se) n=XA se (LG w n):=by
 unfold LG;simp only[ATq (XA se)];rfl
theorem yw:K8 (w.Ap se)=XA se (K8 w):=by
 unfold K8;simp only[ATq (XA se)];rfl
theorem yn{a:Int}:Mu (w.Ap se) a=XA se (Mu w a):=by
 unfold Mu;simp only[ATq (XA se)];rfl
theorem zX{a k:Int}:FO (w.Ap se) a k=XA se (FO w a k):=by
 unfold FO;simp only[ATq (XA se)];rfl
theorem yd{a:Int}:Lh (w.Ap se) a=XA se (Lh w a):=by
 unfold Lh;simp only[ATq (XA se)];rfl
theorem v8{a b n:Int}:Hh (w.Ap se) a b n=XA se (Hh w a b n):=by
 unfold Hh putAt;simp only[ATq (XA se)];rfl
theorem vt{n k:Int}:Hn (w.Ap se) n k=XA se (Hn w n k):=by
 unfold Hn putAt;simp only[ATq (XA se)];rfl
theorem vH{n:Int}:Hp (w.Ap se) n=XA se (Hp w n):=by
 unfold Hp putAt;simp only[ATq (XA se)];rfl
theorem yr{n:Int}:K5 (w.Ap se) n=XA se (K5 w n):=by
 obtain⟨c,k,st,lo,er,tr,wr,md,rd,s0,tn,u⟩:=w;unfold K5;cases md with
 |nil=>rfl
 |cons m ms=>
  dsimp only;simp only[ATq (XA se)];rfl
theorem zW:K4 (w.Ap se)=XA se (K4 w):=by
 obtain⟨c,k,st,lo,er,tr,wr,md,rd,s0,tn,u⟩:=w;unfold K4;cases md with
 |nil=>rfl
 |cons m ms=>
  dsimp only;simp only[ATq (XA se)];rfl
theorem uw:Hm (w.Ap se)=XA se (Hm w):=by
 obtain⟨c,k,st,lo,er,tr,wr,md,rd,s0,tn,u⟩:=w;unfold Hm;cases md with
 |nil=>rfl
 |cons m ms=>
  dsimp only;simp only[ATq (XA se)];rfl
theorem ADs{b n:Int}:Pz (w.Ap se) b n=XA se (Pz w b n):=by
 obtain⟨c,k,st,lo,er,tr,wr,md,rd,s0,tn,u⟩:=w;unfold Pz putAt;cases md with
 |nil=>rfl
 |cons m ms=>
  dsimp only;cases EK m b with
  |none=>rfl
  |some e=>
   dsimp only;simp only[ATq (XA se)];rfl
end
theorem ADg{l m:List Aj}(h:bare l=bare m)(p:Int):(l.any fun s=>s.1==p)=m.any fun s=>s.1==p:=by
 have e:∀l:List Aj,(l.any fun s=>s.1==p)=(bare l).any fun s=>s.1==p:=fun l=>by
  unfold bare;rw[List.any_map];rfl
 rw[e,e,h]
theorem ua{l m:List Aj}(h:bare l=bare m):l.length=m.length:=by
 have:=congrArg List.length h;simpa[bare]using this
theorem ue{p:Int}{d:ABY}{b:Bool}:∀{l m:List Aj},bare l=bare m→bare (X_ (p,d,b,()) l)=bare (X_ (p,d,b,()) m)
 |[],[],_=>rfl
 |[],_::_,h=>by simp[bare]at h
 |_::_,[],h=>by simp[bare]at h
 |x::l,y::m,h=>by
  simp only[bare,AR9,ARF,ARK]at h;obtain⟨⟨h1,h2⟩,h3⟩:=h;have h3':bare l=bare m:=h3;simp only[X_,h1];split
  ·simp only[bare,AR9,h1,h2]at h3⊢
   rw[h3]
  ·have:=ue (p:=p) (d:=d) (b:=b) h3'
   simp only[bare,AR9,h1,h2]at this⊢;rw[this]
theorem ARW{w:AA}{se:List Aj}(h:bare se=bare w.Ai){a:Int}{d:ABY}:∃cc,bare cc=bare (doAdd w a d).1.Ai∧doAdd (w.Ap se) a d=XA cc (doAdd w a d):=by
 have e1:doAdd (w.Ap se) a d=if(!BD a 0 ((w.AL.length:Int)-1))=true then(w.Ap se,2)else
   if(!(Bz (AX w) (w.AL.getD a.toNat BX) d).2.2||(decide (se.length=120)||se.any fun s=>s.1==FN (w.AL.getD a.toNat BX).1 (Bz (AX w) (w.AL.getD a.toNat BX) d).2.1))=true then(w.Ap se,4)else
   (((w.Ap se).Ax (w.AL.set a.toNat (Bz (AX w) (w.AL.getD a.toNat BX) d).1)).Ap (X_ (FN (w.AL.getD a.toNat BX).1 (Bz (AX w) (w.AL.getD a.toNat BX) d).2.1,d,false,()) se),0):=rfl
 rw[e1,ADg h,ua h];unfold doAdd;dsimp only;split
 ·exact⟨se,h,rfl⟩
 split
 ·exact⟨se,h,rfl⟩
 ·exact⟨_,ue h,rfl⟩
theorem rJ{all:Bool}{ep:Int}{old new:List BC}{l:List Aj}:bare (l.map (P4 all ep old new))=bare l:=by
 unfold bare;rw[ATK];rfl
theorem kG{a b:Bool}{c:CH}{s:AO}{l:List Cj}{n:Int}:∀{ws:List AR} {x y:List Aj},bare x=bare y→(ES a c s l n ws x).1=(ES b c s l n ws y).1∧bare (ES a c s l n ws x).2=bare (ES b c s l n ws y).2
 |[],x,y,h=>⟨rfl,h⟩
 |w::ws,x,y,h=>by
  simp only[ES];split
  ·have:=kG (a:=a) (b:=b) (c:=c) (s:=s) (l:=l) (n:=n) (ws:=ws) (x:=x.map (P4 a w.1 w.2.1 (Br c s w.1 n 1 w.2.1))) (y:=y.map (P4 b w.1 w.2.1 (Br c s w.1 n 1 w.2.1))) (by rw[rJ,rJ];exact h)
   exact⟨by rw[this.1],this.2⟩
  ·have:=kG (a:=a) (b:=b) (c:=c) (s:=s) (l:=l) (n:=n) (ws:=ws) h
   exact⟨by rw[this.1],this.2⟩
theorem AIg{a b:Bool}{w:AA}{se:List Aj}(h:bare se=bare w.Ai){n:Int}:∃cc,bare cc=bare (MH b w n).1.Ai∧MH a (w.Ap se) n=XA cc (MH b w n):=by
 have e1:MH a (w.Ap se) n=if Au w n≠0 then(w.Ap se,Au w n)else if(!(Bc (storeAt w n)).2)=true then(w.Ap se,4)else
   (((((w.Ap se).BR (w.A4.set n.toNat (Bc (storeAt w n)).1)).Ax (ES a (AX w) (Bc (storeAt w n)).1 w.Al n w.AL se).1).Ap (ES a (AX w) (Bc (storeAt w n)).1 w.Al n w.AL se).2).Bm (w.Bo.map (MP (Bc (storeAt w n)).1 w.Al n)),0):=rfl
 have ht:=kG (a:=a) (b:=b) (c:=AX w) (s:=(Bc (storeAt w n)).1) (l:=w.Al) (n:=n) (ws:=w.AL) h;rw[e1,ht.1];unfold MH;dsimp only;split
 ·exact⟨se,h,rfl⟩
 split
 ·exact⟨se,h,rfl⟩
 ·exact⟨_,ht.2,rfl⟩
theorem Kw{f:Xv}{se:List Aj}(h:f=XA se f):f.1.Ai=se:=by rw[h];rfl
section
variable{w:AA}
theorem AF9{a:Int}:(KE w a).1.Ai=w.Ai:=Kw (show KE w a=XA w.Ai (KE w a)from zS (w:=w) (se:=w.Ai))
theorem AEV{a b n:Int}:(Hh w a b n).1.Ai=w.Ai:=Kw (show Hh w a b n=XA w.Ai (Hh w a b n)from v8 (w:=w) (se:=w.Ai))
theorem ABr{n k:Int}:(Hn w n k).1.Ai=w.Ai:=Kw (show Hn w n k=XA w.Ai (Hn w n k)from vt (w:=w) (se:=w.Ai))
theorem AJB{n:Int}:(LF w n).1.Ai=w.Ai:=Kw (show LF w n=XA w.Ai (LF w n)from yS (w:=w) (se:=w.Ai))
theorem AFC{n:Int}:(LG w n).1.Ai=w.Ai:=Kw (show LG w n=XA w.Ai (LG w n)from zH (w:=w) (se:=w.Ai))
theorem AKa:(K8 w).1.Ai=w.Ai:=Kw (show K8 w=XA w.Ai (K8 w)from yw (w:=w) (se:=w.Ai))
theorem AJm{n:Int}:(K5 w n).1.Ai=w.Ai:=Kw (show K5 w n=XA w.Ai (K5 w n)from yr (w:=w) (se:=w.Ai))
theorem AJk:(K4 w).1.Ai=w.Ai:=Kw (show K4 w=XA w.Ai (K4 w)from zW (w:=w) (se:=w.Ai))
theorem AMv{b n:Int}:(Pz w b n).1.Ai=w.Ai:=Kw (show Pz w b n=XA w.Ai (Pz w b n)from ADs (w:=w) (se:=w.Ai))
theorem AEZ:(Hm w).1.Ai=w.Ai:=Kw (show Hm w=XA w.Ai (Hm w)from uw (w:=w) (se:=w.Ai))
theorem AGs{a:Int}:(Mu w a).1.Ai=w.Ai:=Kw (show Mu w a=XA w.Ai (Mu w a)from yn (w:=w) (se:=w.Ai))
theorem AG2{a k:Int}:(FO w a k).1.Ai=w.Ai:=Kw (show FO w a k=XA w.Ai (FO w a k)from zX (w:=w) (se:=w.Ai))
theorem AHC{a:Int}:(Lh w a).1.Ai=w.Ai:=Kw (show Lh w a=XA w.Ai (Lh w a)from yd (w:=w) (se:=w.Ai))
theorem ACJ{n:Int}:(Hp w n).1.Ai=w.Ai:=Kw (show Hp w n=XA w.Ai (Hp w n)from vH (w:=w) (se:=w.Ai))
end
theorem AIr{a b:Bool}{w:AA}{se:List Aj}(h:bare se=bare w.Ai){d:Bh}:∃cc,bare cc=bare (He b w d).1.Ai∧He a (w.Ap se) d=XA cc (He b w d):=by
 unfold He;by_cases c1:d.1=1
 ·rw[AME c1,AME c1]
  exact⟨se,h.trans (congrArg bare AF9.symm),zS⟩
 rw[AMG c1,AMG c1];by_cases c2:d.1=2
 ·rw[AME c2,AME c2]
  exact ARW h
 rw[AMG c2,AMG c2];by_cases c3:d.1=3
 ·rw[AME c3,AME c3]
  exact⟨se,h.trans (congrArg bare AEV.symm),v8⟩
 rw[AMG c3,AMG c3];by_cases c4:d.1=4
 ·rw[AME c4,AME c4]
  exact AIg h
 rw[AMG c4,AMG c4];by_cases c5:d.1=5
 ·rw[AME c5,AME c5]
  exact⟨se,h.trans (congrArg bare ABr.symm),vt⟩
 rw[AMG c5,AMG c5];by_cases c6:d.1=6
 ·rw[AME c6,AME c6]
  exact⟨se,h.trans (congrArg bare AJB.symm),yS⟩
 rw[AMG c6,AMG c6];by_cases c7:d.1=7
 ·rw[AME c7,AME c7]
  exact⟨se,h.trans (congrArg bare AFC.symm),zH⟩
 rw[AMG c7,AMG c7];by_cases c8:d.1=8
 ·rw[AME c8,AME c8]
  exact⟨se,h.trans (congrArg bare AKa.symm),yw⟩
 rw[AMG c8,AMG c8];by_cases c9:d.1=9
 ·rw[AME c9,AME c9]
  exact⟨se,h.trans (congrArg bare AJm.symm),yr⟩
 rw[AMG c9,AMG c9];by_cases c10:d.1=10
 ·rw[AME c10,AME c10]
  exact⟨se,h.trans (congrArg bare AJk.symm),zW⟩
 rw[AMG c10,AMG c10];by_cases c11:d.1=11
 ·rw[AME c11,AME c11]
  exact⟨se,h.trans (congrArg bare AMv.symm),ADs⟩
 rw[AMG c11,AMG c11];by_cases c12:d.1=12
 ·rw[AME c12,AME c12]
  exact⟨se,h.trans (congrArg bare AEZ.symm),uw⟩
 rw[AMG c12,AMG c12];by_cases c13:d.1=13
 ·rw[AME c13,AME c13]
  exact⟨se,h.trans (congrArg bare AGs.symm),yn⟩
 rw[AMG c13,AMG c13];by_cases c14:d.1=14
 ·rw[AME c14,AME c14]
  exact⟨se,h.trans (congrArg bare AG2.symm),zX⟩
 rw[AMG c14,AMG c14];by_cases c15:d.1=15
 ·rw[AME c15,AME c15]
  exact⟨se,h.trans (congrArg bare AHC.symm),yd⟩
 rw[AMG c15,AMG c15];exact⟨se,h.trans (congrArg bare ACJ.symm),vH⟩
theorem AEY{l m:List Aj}(h:bare l=bare m){s:Aj}(hs:s∈l):∃t∈m,t.1=s.1∧t.2.1=s.2.1:=by
 have h1:(s.1,s.2.1)∈bare m:=by rw[←h];exact AR8.2 ⟨s,hs,rfl⟩
 obtain⟨t,ht,e⟩:=AR8.1 h1;simp only[ARK]at e;exact⟨t,ht,e.1,e.2⟩
theorem ADC{l m:List Aj}(h:bare l=bare m)(ha:Vp (fun s:Aj=>s.1) l):Vp (fun s:Aj=>s.1) m:=by
 have e:∀l:List Aj,Vp (fun s:Aj=>s.1) l↔(bare l).Pairwise fun x y=>x.1<y.1:=fun l=>by
  unfold bare Vp;rw[ATA]
 rw[e]at ha⊢
 rwa [←h]
theorem On.Ap{w:AA}{se:List Aj}(hw:On w)(h:bare se=bare w.Ai):On (w.Ap se) where
 cfg:=hw.cfg
 nc:=hw.nc
 lost:=hw.lost
 FX:=hw.FX
 A4:=hw.A4
 lB:=hw.lB
 qV:=hw.qV
 wK:=hw.wK
 AL:=hw.AL
 eX:=hw.eX
 Bo:=hw.Bo
 kq:=hw.kq
 AY:=hw.AY
 Rc:=by
  have:=hw.Rc;rw[←ua h]at this;exact this
 Ai:=fun s hs=>by
  obtain⟨t,ht,e1,e2⟩:=AEY h (show s∈se from hs);have:=hw.Ai t ht;rw[e1,e2]at this;exact this
 bR:=ADC h.symm hw.bR
theorem xw{w:AA}{se:List Aj}(h:bare se=bare w.Ai):Fv (w.Ap se)=Fv w:=by
 rw[AWN,HB,HB];refine⟨fun hw=> ?_,fun hw=>hw.Ap h⟩;exact hw.Ap (se:=w.Ai) h.symm
theorem wg{a b:Bool}{w:AA}{se:List Aj}(h:bare se=bare w.Ai){d:Bh}:∃cc,bare cc=bare (D4 b w d).1.Ai∧D4 a (w.Ap se) d=XA cc (D4 b w d):=by
 unfold D4;rw[xw h];by_cases hc:(!Fv w|| !Mw d)=true
 ·rw[AME hc,AME hc]
  exact⟨[],rfl,rfl⟩
 ·rw[AMG hc,AMG hc]
  exact AIr h
end Go.M
end
section
set_option maxRecDepth 8000
namespace Go.M
open Go.M.H (AK AO A5 Aj AA Cj AQ BC AR Am Bk BA Bh Ak CG AW AS AZ Ag Bi Ay Aq BB EB CP Cx C_)
theorem qt{c:CH}{g:AQ}{s:Int}{r:Am}{l:List BA}(h:(CE c g s r l).2=0):FN r.1 r.2.1<FN (CE c g s r l).1.1 (CE c g s r l).1.2.1∧(CE c g s r l).1.2.2.1.length=r.2.2.1.length+1:=by
 unfold CE at h⊢;by_cases c1:(!(Jb c g&&(P0 r&&Ar c (l.map fun a=>a.1))))=true
 ·rw[AME c1]at h
  exact absurd h (by simp)
 rw[AMG c1]at h⊢;have c1':Jb c g=true∧P0 r=true:=by
  simp only[AR3,Bool.not_eq_false,AMY]at c1;exact⟨c1.1,c1.2.1⟩
 have hg:=JP.1 c1'.1;have hr:=RY.1 c1'.2;have hr1:=hr.ep;have hr2:=hr.off;by_cases c2:(decide (r.1>g.1.length)||decide (r.2.2.1.length=120))=true
 ·rw[AME c2]at h
  exact absurd h (by simp)
 rw[AMG c2]at h⊢;dsimp only at h⊢;by_cases c3:g.2.1≥FN r.1 r.2.1
 ·rw[AME c3]at h⊢
  have hp:0<FN r.1 r.2.1:=by unfold FN;omega
  have ht:BT g.2.1=true:=by
   rcases hg.trim with h0|h0
   ·omega
   ·exact h0.1
  have hf:=(GF ht).2.2;refine⟨?_,by simp⟩
  show FN r.1 r.2.1<FN (An g.2.1) (DU g.2.1+1)
  unfold FN at*;omega
 rw[AMG c3]at h⊢;by_cases c4:((g.1.getD (r.1-1).toNat C9).2.1&&decide (r.2.1>(g.1.getD (r.1-1).toNat C9).2.2.1))=true
 ·rw[AME c4]at h⊢
  refine⟨?_,by simp⟩
  show FN r.1 r.2.1<FN (r.1+1) 1
  unfold FN;omega
 rw[AMG c4]at h⊢;by_cases c5:(!(g.1.getD (r.1-1).toNat C9).2.1&&decide (r.2.1>s)||decide (r.2.1>60))=true
 ·rw[AME c5]at h
  exact absurd h (by simp)
 rw[AMG c5]at h⊢;split at h
 ·exact absurd h (by simp)
 ·rename_i c6
  rw[AMG c6];refine⟨?_,by simp⟩
  show FN r.1 r.2.1<FN r.1 (r.2.1+1)
  unfold FN;omega
structure Up (w v:AA):Prop where
 rd:∀k,k<2→FN (w.AY.getD k Ca).1 (w.AY.getD k Ca).2.1≤FN (v.AY.getD k Ca).1 (v.AY.getD k Ca).2.1∧(w.AY.getD k Ca).2.2.1.length≤(v.AY.getD k Ca).2.2.1.length
 er:w.Al.length≤v.Al.length∧ ∀i,i<w.Al.length→(w.Al.getD i C9).2.1=true→(v.Al.getD i C9).2.1=true∧(v.Al.getD i C9).2.2.1=(w.Al.getD i C9).2.2.1
 FX:w.FX=true→v.FX=true
 se:w.Ai.length≤v.Ai.length
theorem Up.refl(w:AA):Up w w:=⟨fun _ _=>⟨AWQ _,AP3 _⟩,⟨AP3 _,fun _ _ h=>⟨h,rfl⟩⟩,id,AP3 _⟩
theorem Up.of{w v:AA}(h1:v.AY=w.AY)(h2:v.Al=w.Al)(h3:w.FX=true→v.FX=true)(h4:w.Ai.length≤v.Ai.length):Up w v:=
 ⟨fun k _=>by rw[h1];exact⟨AWQ _,AP3 _⟩,by rw[h2];exact⟨AP3 _,fun _ _ h=>⟨h,rfl⟩⟩,h3,h4⟩
section
variable{w:AA} (hw:On w)
theorem jF{n:Int}{q:AO×Bool}:Up w (putAt w n q).1:=by
 unfold putAt;split
 ·exact Up.of rfl rfl id (AP3 _)
 ·exact Up.refl w
theorem AFl{a:Int}(e:(KE w a).2=0):Up w (KE w a).1:=by
 unfold KE at e⊢;by_cases c1:w.AL.length=4
 ·rw[AME c1]at e
  exact absurd e (by simp)
 rw[AMG c1]at e⊢;dsimp only at e⊢;by_cases c2:(!(GR (AX w) (Bj w) (A7 a)).2.2)=true
 ·rw[AME c2]at e
  exact absurd e (by simp)
 rw[AMG c2];have hq:(GR (AX w) (Bj w) (A7 a)).2.2=true:=by simpa using c2
 obtain⟨_,_,h3,_⟩:=gT hq;refine⟨fun k _=>⟨AWQ _,AP3 _⟩,?_,id,AP3 _⟩
 show w.Al.length≤(GR (AX w) (Bj w) (A7 a)).1.1.length∧ ∀i,i<w.Al.length→(w.Al.getD i C9).2.1=true→((GR (AX w) (Bj w) (A7 a)).1.1.getD i C9).2.1=true∧((GR (AX w) (Bj w) (A7 a)).1.1.getD i C9).2.2.1=(w.Al.getD i C9).2.2.1
 have key:∀x:Cj,w.Al.length≤(w.Al++[x]).length∧ ∀i,i<w.Al.length→(w.Al.getD i C9).2.1=true→((w.Al++[x]).getD i C9).2.1=true∧((w.Al++[x]).getD i C9).2.2.1=(w.Al.getD i C9).2.2.1:=fun x=>by
  refine⟨by simp,fun i hi hc=> ?_⟩;have:(w.Al++[x]).getD i C9=w.Al.getD i C9:=by
   simp only[List.getD,AQS hi]
  rw[this];exact⟨hc,rfl⟩
 rw[h3];exact key _
theorem AOJ{a:Int}{d:ABY}(e:(doAdd w a d).2=0):Up w (doAdd w a d).1:=by
 unfold doAdd at e⊢;split at e
 ·exact absurd e (by simp)
 rename_i c1;rw[AMG c1];dsimp only at e⊢;split at e
 ·exact absurd e (by simp)
 rename_i c2;rw[AMG c2];refine Up.of rfl rfl id ?_
 show w.Ai.length≤(X_ _ w.Ai).length
 rw[pQ];omega
theorem gZ{all:Bool}{c:CH}{s:AO}{l:List Cj}{n:Int}:∀{ws:List AR} {ss:List Aj},(ES all c s l n ws ss).2.length=ss.length
 |[],ss=>rfl
 |x::ws,ss=>by
  simp only[ES];split
  ·dsimp only
   rw[gZ,ASL]
  ·dsimp only
   rw[gZ]
theorem AGA{all:Bool}{n:Int}:Up w (MH all w n).1:=by
 unfold MH;split
 ·exact Up.refl w
 dsimp only;split
 ·exact Up.refl w
 ·refine Up.of rfl rfl id ?_
  show w.Ai.length≤(ES all (AX w) _ w.Al n w.AL w.Ai).2.length
  rw[gZ];exact AP3 _
theorem ACr{a b n:Int}:Up w (Hh w a b n).1:=by
 unfold Hh;split
 ·exact Up.refl w
 dsimp only;split
 ·exact Up.refl w
 split
 ·exact Up.refl w
 split
 ·exact Up.refl w
 ·exact jF
theorem ACR{n k:Int}:Up w (Hn w n k).1:=by
 unfold Hn;split
 ·exact Up.refl w
 ·exact jF
theorem ADj{n:Int}:Up w (Hp w n).1:=by
 unfold Hp;split
 ·exact Up.refl w
 ·exact jF
theorem AE_{n:Int}:Up w (LF w n).1:=by
 unfold LF;split
 ·exact Up.refl w
 ·refine Up.of rfl rfl (fun h=> ?_) (AP3 _)
  show(w.FX||_)=true
  rw[h];rfl
theorem AHu{n:Int}:Up w (LG w n).1:=by
 unfold LG;split
 ·exact Up.refl w
 dsimp only;split
 ·exact Up.refl w
 ·exact Up.of rfl rfl id (AP3 _)
theorem AJf:Up w (K8 w).1:=by
 unfold K8;split
 ·exact Up.refl w
 split
 ·exact Up.refl w
 ·exact Up.of rfl rfl id (AP3 _)
theorem AGc{n:Int}:Up w (K5 w n).1:=by
 unfold K5;split
 ·exact Up.refl w
 split
 ·exact Up.refl w
 split
 ·exact Up.refl w
 dsimp only;split
 ·exact Up.refl w
 ·exact Up.of rfl rfl id (AP3 _)
theorem AFM:Up w (K4 w).1:=by
 unfold K4;split
 ·exact Up.refl w
 dsimp only;split
 ·exact Up.refl w
 ·exact Up.of rfl rfl id (AP3 _)
theorem ANk{b n:Int}:Up w (Pz w b n).1:=by
 unfold Pz;split
 ·exact Up.refl w
 split
 ·exact Up.refl w
 split
 ·exact Up.refl w
 split
 ·exact Up.refl w
 ·exact jF
theorem AHJ{a:Int}:Up w (Mu w a).1:=by
 unfold Mu;dsimp only;split
 ·exact Up.refl w
 ·rename_i c
  have hq:(LR (AX w) (Bj w) a).2=true:=by simpa using c
  obtain⟨_,_,h3⟩:=gY hq;refine Up.of rfl ?_ id (AP3 _)
  show(LR (AX w) (Bj w) a).1.1=w.Al
  rw[h3];rfl
theorem AF4{a:Int}:Up w (Lh w a).1:=by
 unfold Lh;split
 ·exact Up.refl w
 ·exact Up.of rfl rfl id (AP3 _)
theorem AEz(hw:On w){a k:Int}:Up w (FO w a k).1:=by
 unfold FO;by_cases c1:(!BD a 0 1)=true
 ·rw[AME c1]
  exact Up.refl w
 rw[AMG c1];dsimp only;split
 ·exact Up.refl w
 rename_i c2;have h0:=qt (Decidable.of_not_not c2);have ha:0≤a∧a≤1:=Ao.1 (by simpa using c1);have X5:=hw.kq;refine⟨fun j hj=> ?_,⟨AP3 _,fun _ _ h=>⟨h,rfl⟩⟩,id,AP3 _⟩
 show FN (w.AY.getD j Ca).1 (w.AY.getD j Ca).2.1≤FN ((w.AY.set a.toNat _).getD j Ca).1 ((w.AY.set a.toNat _).getD j Ca).2.1∧(w.AY.getD j Ca).2.2.1.length≤((w.AY.set a.toNat _).getD j Ca).2.2.1.length
 have hi:a.toNat<w.AY.length:=by
  have:w.AY.length=2:=X5;omega
 rw[iG hi];by_cases hja:a.toNat=j
 ·rw[AME hja,←hja]
  exact⟨Int.le_of_lt h0.1,by rw[h0.2];omega⟩
 ·rw[AMG hja]
  exact⟨AWQ _,AP3 _⟩
theorem ACA:Up w (Hm w).1:=by
 unfold Hm;split
 ·exact Up.refl w
 split
 ·exact Up.refl w
 dsimp only;split
 ·exact Up.refl w
 rename_i m ms hm c1 c2;have hq:(Ih (AX w) (Bj w) m.1 (m.2.2.2.2.2.1.length:Int)).2=true:=by simpa using c2
 obtain⟨_,_,k,k1,k2,k3,k4,k5,k6,k7,k8⟩:=dN hq;refine⟨fun _ _=>⟨AWQ _,AP3 _⟩,?_,id,AP3 _⟩
 show w.Al.length≤(Ih (AX w) (Bj w) m.1 (m.2.2.2.2.2.1.length:Int)).1.1.length∧ ∀i,i<w.Al.length→(w.Al.getD i C9).2.1=true→((Ih (AX w) (Bj w) m.1 (m.2.2.2.2.2.1.length:Int)).1.1.getD i C9).2.1=true∧((Ih (AX w) (Bj w) m.1 (m.2.2.2.2.2.1.length:Int)).1.1.getD i C9).2.2.1=(w.Al.getD i C9).2.2.1
 rw[k6];refine⟨?_,fun i hi hc=> ?_⟩
 ·show w.Al.length≤(Jd w.Al k _).length
  unfold Jd;rw[ARh];exact AP3 _
 ·show((Jd w.Al k _).getD i C9).2.1=true∧((Jd w.Al k _).getD i C9).2.2.1=(w.Al.getD i C9).2.2.1
  have ax:k≠i:=fun e=>by
   have h7:(w.Al.getD k C9).2.1=false:=k7;rw[e,hc]at h7;cases h7
  rw[Wb (l:=w.Al) (i:=k) (j:=i) k1,AMG ax];exact⟨hc,rfl⟩
theorem AKV(hw:On w){all:Bool}{d:Bh}(e:(He all w d).2=0):Up w (He all w d).1:=by
 unfold He at e⊢;by_cases c1:d.1=1
 ·rw[AME c1]at e⊢
  exact AFl e
 rw[AMG c1]at e⊢;by_cases c2:d.1=2
 ·rw[AME c2]at e⊢
  exact AOJ e
 rw[AMG c2]at e⊢;by_cases c3:d.1=3
 ·rw[AME c3]at e⊢
  exact ACr
 rw[AMG c3]at e⊢;by_cases c4:d.1=4
 ·rw[AME c4]at e⊢
  exact AGA
 rw[AMG c4]at e⊢;by_cases c5:d.1=5
 ·rw[AME c5]at e⊢
  exact ACR
 rw[AMG c5]at e⊢;by_cases c6:d.1=6
 ·rw[AME c6]at e⊢
  exact AE_
 rw[AMG c6]at e⊢;by_cases c7:d.1=7
 ·rw[AME c7]at e⊢
  exact AHu
 rw[AMG c7]at e⊢;by_cases c8:d.1=8
 ·rw[AME c8]at e⊢
  exact AJf
 rw[AMG c8]at e⊢;by_cases c9:d.1=9
 ·rw[AME c9]at e⊢
  exact AGc
 rw[AMG c9]at e⊢;by_cases c10:d.1=10
 ·rw[AME c10]at e⊢
  exact AFM
 rw[AMG c10]at e⊢;by_cases c11:d.1=11
 ·rw[AME c11]at e⊢
  exact ANk
 rw[AMG c11]at e⊢;by_cases c12:d.1=12
 ·rw[AME c12]at e⊢
  exact ACA
 rw[AMG c12]at e⊢;by_cases c13:d.1=13
 ·rw[AME c13]at e⊢
  exact AHJ
 rw[AMG c13]at e⊢;by_cases c14:d.1=14
 ·rw[AME c14]at e⊢
  exact AEz hw
 rw[AMG c14]at e⊢;by_cases c15:d.1=15
 ·rw[AME c15]at e⊢
  exact AF4
 rw[AMG c15]at e⊢;exact ADj
end
end Go.M
end
section
namespace Go.M
open Go.M.H (AK AO A5 Aj AA Cj AQ BC AR Am Bk BA Bh AW BB)
structure Wo (w:AA) (q:Xv):Prop where
 code:q.2≠1
 keep:q.2≠0→q.1=w
 rd:q.1.AY=w.AY
theorem Wo.no{w:AA}{k:Int}(h:k≠1):Wo w (w,k):=⟨h,fun _=>rfl,rfl⟩
theorem Wo.yes{w v:AA}(h:v.AY=w.AY):Wo w (v,0):=⟨by simp,fun h=>absurd rfl h,h⟩
section
variable{w:AA}
theorem OI{n:Int}:Au w n≠1:=by
 unfold Au;split
 ·decide
 ·split<;>decide
theorem eG{n:Int}{q:AO×Bool}:Wo w (putAt w n q):=by
 unfold putAt;split
 ·exact .yes rfl
 ·exact .no (by decide)
theorem AEP{a:Int}:Wo w (KE w a):=by
 unfold KE;split
 ·exact .no (by decide)
 dsimp only;split
 ·exact .no (by decide)
 ·exact .yes rfl
theorem AGt{a:Int}{d:ABY}:Wo w (doAdd w a d):=by
 unfold doAdd;split
 ·exact .no (by decide)
 dsimp only;split
 ·exact .no (by decide)
 ·exact .yes rfl
theorem AAJ{a b n:Int}:Wo w (Hh w a b n):=by
 unfold Hh;split
 ·exact .no (by decide)
 dsimp only;split
 ·exact .no (by decide)
 split
 ·exact .no OI
 split
 ·exact .no (by decide)
 ·exact eG
theorem ACj{all:Bool}{n:Int}:Wo w (MH all w n):=by
 unfold MH;split
 ·exact .no OI
 dsimp only;split
 ·exact .no (by decide)
 ·exact .yes rfl
theorem zz{n k:Int}:Wo w (Hn w n k):=by
 unfold Hn;split
 ·exact .no OI
 ·exact eG
theorem ADL{n:Int}:Wo w (LF w n):=by
 unfold LF;split
 ·exact .no OI
 ·exact .yes rfl
theorem AC0{n:Int}:Wo w (LG w n):=by
 unfold LG;split
 ·exact .no (by decide)
 dsimp only;split
 ·exact .no (by decide)
 ·exact .yes rfl
theorem ACS:Wo w (K8 w):=by
 unfold K8;split
 ·exact .no (by decide)
 split
 ·exact .no (by decide)
 ·exact .yes rfl
theorem ABy{n:Int}:Wo w (K5 w n):=by
 unfold K5;split
 ·exact .no (by decide)
 split
 ·exact .no OI
 split
 ·exact .no (by decide)
 dsimp only;split
 ·exact .no (by decide)
 ·exact .yes rfl
theorem ABx:Wo w (K4 w):=by
 unfold K4;split
 ·exact .no (by decide)
 dsimp only;split
 ·exact .no (by decide)
 ·exact .yes rfl
theorem AIM{b n:Int}:Wo w (Pz w b n):=by
 unfold Pz;split
 ·exact .no (by decide)
 split
 ·exact .no (by decide)
 split
 ·exact .no OI
 split
 ·exact .no (by decide)
 ·exact eG
theorem ABR:Wo w (Hm w):=by
 unfold Hm;split
 ·exact .no (by decide)
 split
 ·exact .no (by decide)
 dsimp only;split
 ·exact .no (by decide)
 ·exact .yes rfl
theorem AB9{a:Int}:Wo w (Mu w a):=by
 unfold Mu;dsimp only;split
 ·exact .no (by decide)
 ·exact .yes rfl
theorem ACe{a:Int}:Wo w (Lh w a):=by
 unfold Lh;split
 ·exact .no (by decide)
 ·exact .yes rfl
theorem AAr{n:Int}:Wo w (Hp w n):=by
 unfold Hp;split
 ·exact .no OI
 ·exact eG
theorem AAh{a k:Int}:(FO w a k).2≠1∧((FO w a k).2≠0→(FO w a k).1=w):=by
 unfold FO;split
 ·exact⟨by simp,fun _=>rfl⟩
 dsimp only;split
 ·exact⟨by simp,fun _=>rfl⟩
 ·exact⟨by simp,fun h=>absurd rfl h⟩
theorem pV{all:Bool}{d:Bh}(h:d.1≠14):Wo w (He all w d):=by
 unfold He;by_cases c1:d.1=1
 ·rw[AME c1];exact AEP
 rw[AMG c1];by_cases c2:d.1=2
 ·rw[AME c2];exact AGt
 rw[AMG c2];by_cases c3:d.1=3
 ·rw[AME c3];exact AAJ
 rw[AMG c3];by_cases c4:d.1=4
 ·rw[AME c4];exact ACj
 rw[AMG c4];by_cases c5:d.1=5
 ·rw[AME c5];exact zz
 rw[AMG c5];by_cases c6:d.1=6
 ·rw[AME c6];exact ADL
 rw[AMG c6];by_cases c7:d.1=7
 ·rw[AME c7];exact AC0
 rw[AMG c7];by_cases c8:d.1=8
 ·rw[AME c8];exact ACS
 rw[AMG c8];by_cases c9:d.1=9
 ·rw[AME c9];exact ABy
 rw[AMG c9];by_cases c10:d.1=10
 ·rw[AME c10];exact ABx
 rw[AMG c10];by_cases c11:d.1=11
 ·rw[AME c11];exact AIM
 rw[AMG c11];by_cases c12:d.1=12
 ·rw[AME c12];exact ABR
 rw[AMG c12];by_cases c13:d.1=13
 ·rw[AME c13];exact AB9
 rw[AMG c13,AMG h];by_cases c15:d.1=15
 ·rw[AME c15];exact ACe
 rw[AMG c15];exact AAr
theorem yo{all:Bool}{d:Bh}(h:d.1=14):He all w d=FO w d.2.1 d.2.2.1:=by
 unfold He;rw[h];simp
theorem AAc{all:Bool}{d:Bh}:(He all w d).2≠1∧((He all w d).2≠0→(He all w d).1=w):=by
 by_cases h:d.1=14
 ·rw[yo h];exact AAh
 ·exact⟨(pV h).code,(pV h).keep⟩
theorem AIW(hw:On w){all:Bool}{d:Bh}(e:(He all w d).2=0):AW BB (He all w d).1.AY≤AW BB w.AY+41:=by
 by_cases h:d.1=14
 ·rw[yo h]at e⊢
  exact(vG hw e).2.2.2.2.2
 ·rw[(pV h).rd];omega
end
end Go.M
end
section
set_option maxRecDepth 8000
namespace Go.M
open Go.M.H (AK AO A5 Aj AA Cj AQ BC AR Am Bk BA Bh Ak CG AW AS AZ Ag Bi Ay Aq BB EB CP Cx C_)
section
variable{code:AAF} (hc:code.length≤2^30)
include hc
theorem ACt{d:Bh}(hd:C6 d.2.1){i h:Int}(hi:CR code i):OK code (fun(x:Bh×Unit) (y:Unit)=>C6 x.1.2.1) (UF d code i h):=by
 unfold UF;refine OK.bind (Bu hc hi (by omega)) fun x i1 h1 y J6 hq=> ?_
 dsimp only;refine OK.E4 (fun _=> ?_) (fun _=> ?_)
 ·refine OK.bind (Bu hc J6 (by omega)) fun x2 i2 h2 y2 G7 gy=> ?_
  exact OK.some G7 hd
 refine OK.E4 (fun _=> ?_) (fun _=> ?_)
 ·refine OK.bind (Mf hc J6 (by simp) (by simp)) fun x2 i2 h2 y2 G7 gy=> ?_
  refine OK.some G7 ?_
  show C6 x2.1
  simp only[AQw,List.not_mem_nil,or_false]at gy;unfold C6;omega
 refine OK.E4 (fun _=> ?_) (fun _=> ?_)
 ·refine OK.bind (Mf hc J6 (by simp) (by simp)) fun x2 i2 h2 y2 G7 gy=> ?_
  exact OK.some G7 hd
 refine OK.E4 (fun _=> ?_) (fun _=> ?_)
 ·exact OK.some J6 hd
 refine OK.E4 (fun _=> ?_) (fun _=> ?_)
 ·refine OK.bind (Bu hc J6 (by omega)) fun x2 i2 h2 y2 G7 gy=> ?_
  have b:=gy.2.1 (by omega);have b0:=gy.1;dsimp only;rw[AH (x:=40+x2.1) (by omega) (by omega)];refine OK.ite (by rw[As];omega) ?_
  exact OK.some G7 hd
 ·exact OK.some J6 hd
end
def ASP(w:AA)(d:Bh):Wy:=(((((),w.2.1,(),(),(),w.2.2.2.2.2.1,(),(),(),(),w.2.2.2.2.2.2.2.2.2.2.1,()),d,()),()),(w.1,w.2.2.1,w.2.2.2.1,w.2.2.2.2.1,w.2.2.2.2.2.2.1,w.2.2.2.2.2.2.2.1,w.2.2.2.2.2.2.2.2.1,w.2.2.2.2.2.2.2.2.2.1,()))
theorem AAE{x:AAF}(hc:x.length≤2^30):∃w d,PZ x=some (ASP w d)∧lH w∧AW BB w.AY≤50000∧C6 d.2.1:=by
 obtain⟨h0,e0⟩:=ADH hc;unfold PZ;rw[e0];simp only[AD];obtain⟨q,i1,h1,y,e1,J6,hq⟩:=tz hc (i:=0) (hh:=h0) ⟨by omega,by omega⟩ hc;rw[e1];simp only[AD]
 generalize qC:dwW q y=w at hq
 obtain⟨⟨Qj,AUf⟩,hwt,hwr⟩:=hq;have a0:y.1=w.1:=by rw[←qC]
 have a1:y.2.1=w.2.2.1:=by rw[←qC]
 have a2:y.2.2.1=w.2.2.2.1:=by rw[←qC]
 have a3:y.2.2.2.1=w.2.2.2.2.1:=by rw[←qC]
 have a4:y.2.2.2.2.1=w.2.2.2.2.2.2.1:=by rw[←qC]
 have a5:y.2.2.2.2.2.1=w.2.2.2.2.2.2.2.1:=by rw[←qC]
 have a6:y.2.2.2.2.2.2.1=w.2.2.2.2.2.2.2.2.1:=by rw[←qC]
 have a7:y.2.2.2.2.2.2.2.1=w.2.2.2.2.2.2.2.2.2.1:=by rw[←qC]
 have a8:q.1.2.1=w.2.1:=by rw[←qC]
 have a9:q.1.2.2.2.2.2.1=w.2.2.2.2.2.1:=by rw[←qC]
 have a10:q.1.2.2.2.2.2.2.2.2.2.2.1=w.2.2.2.2.2.2.2.2.2.2.1:=by rw[←qC]
 rw[a0,a1,a2,a3,a4,a5,a6,a7,a8,a9,a10];rw[show(w.1,w.2.1,w.2.2.1,w.2.2.2.1,w.2.2.2.2.1,w.2.2.2.2.2.1,w.2.2.2.2.2.2.1,w.2.2.2.2.2.2.2.1,w.2.2.2.2.2.2.2.2.1,w.2.2.2.2.2.2.2.2.2.1,w.2.2.2.2.2.2.2.2.2.2.1,())=w from rfl,Vj Qj];simp only[AD,Aw];rcases AMA (Fv w)with hw|hw
 rotate_left
 ·rw[hw]
  exact⟨w,(8,0,0,0,[],()),rfl,Qj,hwr,by unfold C6;simp⟩
 rw[hw,AOK];obtain⟨d,i2,h2,y2,e2,G7,gy⟩:=lD hc (HB.1 hw) (hh:=h1) J6;rw[e2];simp only[AD];obtain⟨d',i3,h3,y3,e3,KJ,Ua⟩:=ACt hc (d:=d.1) gy (h:=h2) G7;rw[show(d.1.1,d.1.2.1,d.1.2.2.1,d.1.2.2.2.1,d.1.2.2.2.2.1,())=d.1 from rfl,e3];simp only[AD];exact⟨w,d'.1,rfl,Qj,hwr,Ua⟩
section
variable{w v:AA} (hw:On w) (hv:On v) (Qj:lH v) (hup:Up w v)
include hw hv Qj hup
theorem vF:∀(l:List Cj) (i f:Nat),w.Al.drop i=l→i≤w.Al.length→l.length<f→
  Fq f (i:Int) w.2.1 w.2.2.2.2.2.1 w.2.2.2.2.2.2.2.2.2.2.1 w.1 w.2.2.1 w.2.2.2.1 w.2.2.2.2.1 w.2.2.2.2.2.2.1 w.2.2.2.2.2.2.2.1 w.2.2.2.2.2.2.2.2.1 w.2.2.2.2.2.2.2.2.2.1
   v.2.1 v.2.2.2.2.2.1 v.2.2.2.2.2.2.2.2.2.2.1 v.1 v.2.2.1 v.2.2.2.1 v.2.2.2.2.1 v.2.2.2.2.2.2.1 v.2.2.2.2.2.2.2.1 v.2.2.2.2.2.2.2.2.1 v.2.2.2.2.2.2.2.2.2.1=some ((true,()),())
 |l,i,0,_,_,hf=>by omega
 |[],i,f+1,hd,hi,hf=>by
  have:w.Al.length≤i:=by simpa using hd
  show Jw (Fy f) (Fq f) _ _ _ _ _ _ _ _ _ _ _ _ _ _ _ _ _ _ _ _ _ _ _=_
  unfold Jw;rw[AB,AMG (by show¬((i:Int)<(w.Al.length:Int));omega)];rw[show(v.1,v.2.1,v.2.2.1,v.2.2.2.1,v.2.2.2.2.1,v.2.2.2.2.2.1,v.2.2.2.2.2.2.1,v.2.2.2.2.2.2.2.1,v.2.2.2.2.2.2.2.2.1,v.2.2.2.2.2.2.2.2.2.1,v.2.2.2.2.2.2.2.2.2.2.1,())=v from rfl,Vb Qj,HB.2 hv];simp only[AD,AOK,Aw];have hs:decide ((v.2.2.2.2.2.2.2.2.2.1.length:Int)≥(w.2.2.2.2.2.2.2.2.2.1.length:Int))=true:=AO0 (by
   have:w.2.2.2.2.2.2.2.2.2.1.length≤v.2.2.2.2.2.2.2.2.2.1.length:=hup.se;omega)
  rw[hs];have ht:=hup.FX;rcases AMA w.2.2.2.2.2.2.2.2.2.2.1 with h1|h1
  ·rw[show v.2.2.2.2.2.2.2.2.2.2.1=true from ht h1];rfl
  ·rw[h1]
   cases v.2.2.2.2.2.2.2.2.2.2.1<;>rfl
 |c::l,i,f+1,hd,hi,hf=>by
  have FW:i<w.Al.length:=by
   by_cases hh:i<w.Al.length
   ·exact hh
   ·rw[AMS (by omega)]at hd;cases hd
  rw[List.drop_eq_getElem_cons FW]at hd;have hl:w.Al.drop (i+1)=l:=(List.cons.inj hd).2;have her:=hup.er;have hlv:i<v.Al.length:=ARl FW her.1
  show Jw (Fy f) (Fq f) _ _ _ _ _ _ _ _ _ _ _ _ _ _ _ _ _ _ _ _ _ _ _=_
  unfold Jw;have cw:(0:Int)≤(i:Int)∧(i:Int)<(w.2.2.2.2.1.length:Int):=⟨by omega,by exact_mod_cast FW⟩;have cv:(0:Int)≤(i:Int)∧(i:Int)<(v.2.2.2.2.1.length:Int):=⟨by omega,by exact_mod_cast hlv⟩;rw[AO0 cw.2,AOK];simp only[AME cw,AME cv,show((i:Int)).toNat=i by omega];simp only[AN0]at hf;have ih:=vF l (i+1) f hl (by omega) (by omega);rw[show((i+1:Nat):Int)=(i:Int)+1 by omega]at ih;have AYk:w.Al.length≤30:=hw.lB.n;rw[AH (x:=(i:Int)+1) (by omega) (by omega)];rcases AMA (w.Al.getD i C9).2.1 with h1|h1
  ·obtain⟨k1,k2⟩:=her.2 i FW h1
   have r_:(w.2.2.2.2.1.getD i ([],false,0,())).2.1=true:=h1;have k1':(v.2.2.2.2.1.getD i ([],false,0,())).2.1=true:=k1;have aN:(v.2.2.2.2.1.getD i ([],false,0,())).2.2.1=(w.2.2.2.2.1.getD i ([],false,0,())).2.2.1:=k2;rw[r_,k1',aN];simp only[AOK,AMc,AMW,bne_self_eq_false];exact ih
  ·have r_:(w.2.2.2.2.1.getD i ([],false,0,())).2.1=false:=h1
   rw[r_,AMW];exact ih
theorem uJ:∀(n i f:Nat),i+n=2→n+100<f→
  Fy f (i:Int) w.2.1 w.2.2.2.2.2.1 w.2.2.2.2.2.2.2.2.2.2.1 w.1 w.2.2.1 w.2.2.2.1 w.2.2.2.2.1 w.2.2.2.2.2.2.1 w.2.2.2.2.2.2.2.1 w.2.2.2.2.2.2.2.2.1 w.2.2.2.2.2.2.2.2.2.1
   v.2.1 v.2.2.2.2.2.1 v.2.2.2.2.2.2.2.2.2.2.1 v.1 v.2.2.1 v.2.2.2.1 v.2.2.2.2.1 v.2.2.2.2.2.2.1 v.2.2.2.2.2.2.2.1 v.2.2.2.2.2.2.2.2.1 v.2.2.2.2.2.2.2.2.2.1=some ((true,()),())
 |n,i,0,_,hf=>by omega
 |0,i,f+1,hn,hf=>by
  show Jm (Fy f) (Fq f) _ _ _ _ _ _ _ _ _ _ _ _ _ _ _ _ _ _ _ _ _ _ _=_
  unfold Jm;rw[AOS (by omega),AMW];have AYk:w.Al.length≤30:=hw.lB.n;exact vF hw hv Qj hup w.Al 0 f rfl (by omega) (by omega)
 |n+1,i,f+1,hn,hf=>by
  show Jm (Fy f) (Fq f) _ _ _ _ _ _ _ _ _ _ _ _ _ _ _ _ _ _ _ _ _ _ _=_
  unfold Jm;have ih:=uJ n (i+1) f (by omega) (by omega);rw[show((i+1:Nat):Int)=(i:Int)+1 by omega]at ih;have hwr:=hw.kq;have hvr:=hv.kq;have cw:(0:Int)≤(i:Int)∧(i:Int)<(w.2.2.2.2.2.2.2.2.1.length:Int):=by
   have:w.2.2.2.2.2.2.2.2.1.length=2:=hwr;omega
  have cv:(0:Int)≤(i:Int)∧(i:Int)<(v.2.2.2.2.2.2.2.2.1.length:Int):=by
   have:v.2.2.2.2.2.2.2.2.1.length=2:=hvr;omega
  obtain⟨g1,g2⟩:=hup.rd i (by omega);have ow:=hw.AY _ (Ba (d:=Ca) (l:=w.AY) (i:=i) (by omega));have ov:=hv.AY _ (Ba (d:=Ca) (l:=v.AY) (i:=i) (by omega));have o1:=ow.ep;have o2:=ow.off;have o3:=ov.ep;have o4:=ov.off;rw[AO0 (show(i:Int)<2 by omega),AOK];simp only[AME cw,AME cv,show((i:Int)).toNat=i by omega];have ew:w.2.2.2.2.2.2.2.2.1.getD i (0,0,[],())=w.AY.getD i Ca:=rfl;have ev:v.2.2.2.2.2.2.2.2.1.getD i (0,0,[],())=v.AY.getD i Ca:=rfl;rw[ew,ev]
  generalize w.AY.getD i Ca=x at*
  generalize v.AY.getD i Ca=y at*
  unfold FN at g1;rw[AH (x:=4294967296*y.1) (by omega) (by omega),AH (x:=4294967296*x.1) (by omega) (by omega),AH (x:=4294967296*y.1+y.2.1) (by omega) (by omega),AH (x:=4294967296*x.1+x.2.1) (by omega) (by omega),AH (x:=(i:Int)+1) (by omega) (by omega)];rw[AOS (show¬(4294967296*y.1+y.2.1<4294967296*x.1+x.2.1)by omega),AMW,AOS (show¬((y.2.2.1.length:Int)<(x.2.2.1.length:Int))by omega),AMW];exact ih
end
theorem v_{x:AAF}(hx:Go.Fw.Vd (.sl (.int .u8)) x):Uj x=some ((true,()),()):=by
 unfold Uj YL nT;simp only[AMP,AB];by_cases hs:(x.length:Int)>1048576
 ·rw[AME hs]
 rw[AMG hs];obtain⟨w,d,e1,Qj,X5,h64⟩:=AAE (x:=x) (by omega);rw[e1];simp only[AMP,ASP];rw[show(w.1,w.2.1,w.2.2.1,w.2.2.2.1,w.2.2.2.2.1,w.2.2.2.2.2.1,w.2.2.2.2.2.2.1,w.2.2.2.2.2.2.2.1,w.2.2.2.2.2.2.2.2.1,w.2.2.2.2.2.2.2.2.2.1,w.2.2.2.2.2.2.2.2.2.2.1,())=w from rfl,show(d.1,d.2.1,d.2.2.1,d.2.2.2.1,d.2.2.2.2.1,())=d from rfl,l9 Qj h64,bp Qj h64,Vj Qj,dE];simp only[AMP];obtain⟨cc,_,Zn⟩:=wg (a:=true) (b:=false) (w:=w) (se:=w.Ai) rfl (d:=d);have AVA:(D4 true w d).2=(D4 false w d).2:=by
  rw[show w.Ap w.Ai=w from rfl]at Zn;rw[Zn];rfl
 have AU1:(Fv w=true∧Mw d=true∧D4 false w d=He false w d)∨((Fv w=false∨Mw d=false)∧D4 false w d=(AEd,1)):=by
  unfold D4;cases Fv w<;>cases Mw d<;>simp
 rw[show(wY (D4 true w d)).1.1.2.1=(D4 true w d).2 from rfl,show(wY (D4 false w d)).1.1.2.1=(D4 false w d).2 from rfl,AVA,bne_self_eq_false,AMW];rcases AU1 with⟨hw,hd,hq⟩|⟨hno,hq⟩
 rotate_left
 ·rw[hq]
  rcases hno with h|h
  ·rw[h];rfl
  ·rw[h];cases Fv w<;>rfl
 have hwo:=HB.1 hw;obtain⟨c1,c2⟩:=AAc (w:=w) (all:=false) (d:=d);have hwd:D4 false w d=He false w d:=hq;rw[hq];rw[APV.2 c1,AMW];by_cases c0:(He false w d).2=0
 rotate_left
 ·have hk:=c2 c0
  have hb:((He false w d).2 !=0)=true:=by simpa using c0
  rw[hb,AOK];have hr:w.2.2.2.2.2.2.2.2.1.length=2:=mC hw;have e:wY (He false w d)=wY (w,(He false w d).2):=by
   rw[←hk];rw[hk];exact congrArg wY (Prod.ext hk rfl)
  rw[e];simp only[wY,beq_self_eq_true,AOK];rw[AME (by omega),AME (by omega)]
 ·have hb:((He false w d).2 !=0)=false:=by rw[c0];rfl
  rw[hb,AMW];have hv:Fv (He false w d).1=true:=by
   rw[←hq];exact qA (by rw[hq];exact c0)
  have hvo:=HB.1 hv;have hvr:=AIW hwo (all:=false) (d:=d) c0;have AUf:=hvo.AXj (by omega);have hup:=AKV hwo (all:=false) (d:=d) c0;exact uJ hwo hvo AUf hup 2 0 Ab rfl (Ae (by omega))
end Go.M
end
