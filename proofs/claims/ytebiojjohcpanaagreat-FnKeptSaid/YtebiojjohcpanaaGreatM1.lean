/- Plain facts on what the functions compute. -/
import Derived.Test.YtebiojjohcpanaaGreatM0
set_option linter.unusedVariables false
set_option linter.unusedSimpArgs false
set_option linter.unusedSectionVars false
section
set_option maxRecDepth 8000
namespace Go.M
open Go.M.H (AJ AO As Ab AA CO AN A4 AM AY Az Av BS Ak CL Af AX Aa Aq CB BF Ar A7 EC CM Cs C9)
theorem Ds{l:AAH}(h:l.length≤2^30):DG l=some (((),()),(l,())):=by
 unfold DG;rw[ALP (by rw[BX];omega)]
theorem Vj{l:List AJ}(h:l.length≤2^30):I9 l=some (((),()),(l,())):=by
 unfold I9;rw[ALP (by rw[BX];omega)]
theorem XM{r:AY}(h:r.2.2.1.length≤2^30):Mv r=some (((r.1,r.2.1,(),()),()),(r.2.2.1,())):=by
 unfold Mv;rw[ALP (by rw[BX];omega)]
theorem gd{c:CD}(h:c.1.length≤2^30):QF c=some ((((),c.2.1,()),()),(c.1,())):=by
 grind[QF,Ds]
theorem H9{s:AO}(h1:s.1.length≤2^30)(h2:s.2.1.length≤2^30):DB s=some ((((),(),s.2.2.1,()),()),(s.1,s.2.1,())):=by
 grind[DB,Vj]
theorem Ho{r:AN}(h:Af CB r.1≤2^30):Ed r=some ((((),r.2.1,()),()),(r.1,())):=by
 have hl:=AX (f:=CB) (l:=r.1);have key:∀(n i:Nat) (acc:List CO),i≤r.1.length→r.1.length-i<n→acc.length≤i→Ht n r.1 r.1.length i 0 [] r.2.1 acc=some ((((),r.2.1,()),()),(acc++r.1.drop i,())):=by
  intro n
  induction n with
  |zero=>omega
  |succ n ih=>
   intro i acc hi hn ha;simp only[Ht,RH,AB];by_cases hc:i<r.1.length
   ·have hm:=Aa (f:=CB) (AMk hc)
    have hw:CB r.1[i]=r.1[i].1.length:=rfl;rw[ALP (by omega),ALP (by omega),Aj hc,Ds (by omega),AL (by omega) (by omega),show((i:Int)+1)=((i+1:Nat):Int)by omega];simp only[AD];rw[ALP (by rw[BX];omega),ih (i+1) _ (by omega) (by omega) (by simp_all),drop_cons hc,AM_];rfl
   grind
 grind[Ed,Qm,Ae,Ag]
theorem Jj{x:AM}(h:Ar x≤2^30):Ft x=some (((x.1,(),()),()),(x.2.1,())):=by
 have h':Af BF x.2.1≤2^30:=h;have hl:=AX (f:=BF) (l:=x.2.1);have key:∀(n i:Nat) (acc:List A4),i≤x.2.1.length→x.2.1.length-i<n→acc.length≤i→JV n x.2.1 x.2.1.length i 0 [] x.1 acc=some (((x.1,(),()),()),(acc++x.2.1.drop i,())):=by
  intro n
  induction n with
  |zero=>omega
  |succ n ih=>
   intro i acc hi hn ha;simp only[JV,S4,AB];by_cases hc:i<x.2.1.length
   ·have hm:=Aa (f:=BF) (AMk hc)
    have hw:BF x.2.1[i]=x.2.1[i].1.length+x.2.1[i].2.1.length:=rfl;rw[ALP (by omega),ALP (by omega),Aj hc,Ds (by omega),AL (by omega) (by omega),show((i:Int)+1)=((i+1:Nat):Int)by omega];simp only[AD];rw[ALP (by rw[BX];omega),ih (i+1) _ (by omega) (by omega) (by simp_all),drop_cons hc,AM_];rfl
   grind
 grind[Ft,Sk,Ae,Ag]
theorem HX{m:As}(h:CL m≤2^30):GX m=some (((m.1,m.2.1,(),(),m.2.2.2.2.1,(),()),()),(m.2.2.1,m.2.2.2.1,m.2.2.2.2.2.1,())):=by
 have h':m.2.2.1.length+Af Aq m.2.2.2.1+Af C9 m.2.2.2.2.2.1≤2^30:=h;have hl:=AX (f:=C9) (l:=m.2.2.2.2.2.1);have xz:=AX (f:=Aq) (l:=m.2.2.2.1);have key:∀(n i:Nat) (acc:List AAH),i≤m.2.2.2.2.2.1.length→m.2.2.2.2.2.1.length-i<n→acc.length≤i→LJ n m.2.2.2.2.2.1 m.2.2.2.2.2.1.length i 0 0 false [] [] [] m.1 m.2.1 m.2.2.2.2.1 m.2.2.1 m.2.2.2.1 acc=some (((m.1,m.2.1,(),(),m.2.2.2.2.1,(),()),()),(m.2.2.1,m.2.2.2.1,acc++m.2.2.2.2.2.1.drop i,())):=by
  intro n
  induction n with
  |zero=>omega
  |succ n ih=>
   intro i acc hi hn ha;simp only[LJ,Vg,AB];by_cases hc:i<m.2.2.2.2.2.1.length
   ·have hm:=Aa (f:=C9) (AMk hc)
    have hw:C9 m.2.2.2.2.2.1[i]=m.2.2.2.2.2.1[i].length:=rfl;rw[ALP (by omega),ALP (by omega),Aj hc,Ds (by omega),AL (by omega) (by omega),show((i:Int)+1)=((i+1:Nat):Int)by omega];simp only[AD];rw[ALP (by rw[BX];omega),ih (i+1) _ (by omega) (by omega) (by simp_all),drop_cons hc,AM_];rfl
   grind
 grind[GX,VI,Ds,Vj,AD,Ae,Ag]
section
variable{w:AA} (h:fa w)
include h
theorem AF1:∀(n i:Nat) (D5:List AO) (EV:List AM) (FA:List As) (Fl:List AY),i≤w.2.2.2.2.2.2.2.2.1.length→w.2.2.2.2.2.2.2.2.1.length-i+1≤n→Fl.length≤i→
  Ek n w.2.2.2.2.2.2.2.2.1 w.2.2.2.2.2.2.2.2.1.length i w.1 w.2.1 w.2.2.1 w.2.2.2.1 w.2.2.2.2.1 w.2.2.2.2.2.1 w.2.2.2.2.2.2.1 w.2.2.2.2.2.2.2.1 w.2.2.2.2.2.2.2.2.1 w.2.2.2.2.2.2.2.2.2.1 w.2.2.2.2.2.2.2.2.2.2.1 0 0 false [] [] [] [] [] [] [] [] w.2.1 w.2.2.2.2.2.1 w.2.2.2.2.2.2.2.2.2.2.1 w.1 D5 w.2.2.2.1 w.2.2.2.2.1 EV FA Fl []=some ((((),w.2.1,(),(),(),w.2.2.2.2.2.1,(),(),(),(),w.2.2.2.2.2.2.2.2.2.2.1,()),()),(w.1,D5,w.2.2.2.1,w.2.2.2.2.1,EV,FA,(Fl++w.2.2.2.2.2.2.2.2.1.drop i),w.2.2.2.2.2.2.2.2.2.1,())):=by
 have xz:=h.Nz;have hl:=h.lens;intro n
 induction n with
 |zero=>omega
 |succ n ih=>
  intro i D5 EV FA Fl hi hn hb;simp only[Ek,S9,AB];by_cases Dh:i<w.2.2.2.2.2.2.2.2.1.length
  ·have hm:=Aa (f:=A7) (AMk Dh)
   have hw:A7 w.2.2.2.2.2.2.2.2.1[i]=Af CM w.2.2.2.2.2.2.2.2.1[i].2.2.1:=rfl;have hlw:=AX (f:=CM) (l:=w.2.2.2.2.2.2.2.2.1[i].2.2.1);rw[ALP (by omega),ALP (by omega),Aj Dh,AL (by omega) (by omega),show((i:Int)+1)=((i+1:Nat):Int)by omega,drop_cons Dh];rw[show(w.2.2.2.2.2.2.2.2.1[i].1,w.2.2.2.2.2.2.2.2.1[i].2.1,w.2.2.2.2.2.2.2.2.1[i].2.2.1,())=w.2.2.2.2.2.2.2.2.1[i]from rfl,XM (by omega)];simp only[AD];rw[ALP (by rw[BX];omega),ih (i+1) _ _ _ _ (by omega) (by omega) (by simp_all),AM_];rfl
  ·rw[ALo (by omega),ALP (by rw[BX];omega),AMo (by omega),AM3]
theorem AFt:∀(n i:Nat) (D5:List AO) (EV:List AM) (FA:List As),i≤w.2.2.2.2.2.2.2.1.length→(w.2.2.2.2.2.2.2.1.length-i)+w.2.2.2.2.2.2.2.2.1.length+2≤n→FA.length≤i→
  En n w.2.2.2.2.2.2.2.1 w.2.2.2.2.2.2.2.1.length i w.1 w.2.1 w.2.2.1 w.2.2.2.1 w.2.2.2.2.1 w.2.2.2.2.2.1 w.2.2.2.2.2.2.1 w.2.2.2.2.2.2.2.1 w.2.2.2.2.2.2.2.2.1 w.2.2.2.2.2.2.2.2.2.1 w.2.2.2.2.2.2.2.2.2.2.1 0 0 false [] [] [] [] [] [] [] [] w.2.1 w.2.2.2.2.2.1 w.2.2.2.2.2.2.2.2.2.2.1 w.1 D5 w.2.2.2.1 w.2.2.2.2.1 EV FA [] []=some ((((),w.2.1,(),(),(),w.2.2.2.2.2.1,(),(),(),(),w.2.2.2.2.2.2.2.2.2.2.1,()),()),(w.1,D5,w.2.2.2.1,w.2.2.2.2.1,EV,(FA++w.2.2.2.2.2.2.2.1.drop i),w.2.2.2.2.2.2.2.2.1,w.2.2.2.2.2.2.2.2.2.1,())):=by
 have xz:=h.Nz;have hl:=h.lens;intro n
 induction n with
 |zero=>omega
 |succ n ih=>
  intro i D5 EV FA hi hn hb;simp only[En,Si,AB];by_cases Dh:i<w.2.2.2.2.2.2.2.1.length
  ·have hm:=Aa (f:=CL) (AMk Dh)
   rw[ALP (by omega),ALP (by omega),Aj Dh,AL (by omega) (by omega),show((i:Int)+1)=((i+1:Nat):Int)by omega,drop_cons Dh];rw[show(w.2.2.2.2.2.2.2.1[i].1,w.2.2.2.2.2.2.2.1[i].2.1,w.2.2.2.2.2.2.2.1[i].2.2.1,w.2.2.2.2.2.2.2.1[i].2.2.2.1,w.2.2.2.2.2.2.2.1[i].2.2.2.2.1,w.2.2.2.2.2.2.2.1[i].2.2.2.2.2.1,())=w.2.2.2.2.2.2.2.1[i]from rfl,HX (by omega)];simp only[AD];rw[ALP (by rw[BX];omega),ih (i+1) _ _ _ (by omega) (by omega) (by simp_all),AM_];rfl
  ·have:=AF1 h n 0 D5 EV FA [] (by omega) (by omega) (by simp)
   grind
theorem AKF:∀(n i:Nat) (D5:List AO) (EV:List AM),i≤w.2.2.2.2.2.2.1.length→(w.2.2.2.2.2.2.1.length-i)+w.2.2.2.2.2.2.2.1.length+w.2.2.2.2.2.2.2.2.1.length+3≤n→EV.length≤i→
  FV n w.2.2.2.2.2.2.1 w.2.2.2.2.2.2.1.length i w.1 w.2.1 w.2.2.1 w.2.2.2.1 w.2.2.2.2.1 w.2.2.2.2.2.1 w.2.2.2.2.2.2.1 w.2.2.2.2.2.2.2.1 w.2.2.2.2.2.2.2.2.1 w.2.2.2.2.2.2.2.2.2.1 w.2.2.2.2.2.2.2.2.2.2.1 0 0 false [] [] [] [] [] [] [] [] w.2.1 w.2.2.2.2.2.1 w.2.2.2.2.2.2.2.2.2.2.1 w.1 D5 w.2.2.2.1 w.2.2.2.2.1 EV [] [] []=some ((((),w.2.1,(),(),(),w.2.2.2.2.2.1,(),(),(),(),w.2.2.2.2.2.2.2.2.2.2.1,()),()),(w.1,D5,w.2.2.2.1,w.2.2.2.2.1,(EV++w.2.2.2.2.2.2.1.drop i),w.2.2.2.2.2.2.2.1,w.2.2.2.2.2.2.2.2.1,w.2.2.2.2.2.2.2.2.2.1,())):=by
 have xz:=h.Nz;have hl:=h.lens;intro n
 induction n with
 |zero=>omega
 |succ n ih=>
  intro i D5 EV hi hn hb;simp only[FV,Uq,AB];by_cases Dh:i<w.2.2.2.2.2.2.1.length
  ·have hm:=Aa (f:=Ar) (AMk Dh)
   rw[ALP (by omega),ALP (by omega),Aj Dh,AL (by omega) (by omega),show((i:Int)+1)=((i+1:Nat):Int)by omega,drop_cons Dh];rw[show(w.2.2.2.2.2.2.1[i].1,w.2.2.2.2.2.2.1[i].2.1,())=w.2.2.2.2.2.2.1[i]from rfl,Jj (by omega)];simp only[AD];rw[ALP (by rw[BX];omega),ih (i+1) _ _ (by omega) (by omega) (by simp_all),AM_];rfl
  ·have:=AFt h n 0 D5 EV [] (by omega) (by omega) (by simp)
   grind
theorem ALq:∀(n i:Nat) (D5:List AO),i≤w.2.2.1.length→(w.2.2.1.length-i)+w.2.2.2.2.2.2.1.length+w.2.2.2.2.2.2.2.1.length+w.2.2.2.2.2.2.2.2.1.length+4≤n→D5.length≤i→
  FW n w.2.2.1 w.2.2.1.length i w.1 w.2.1 w.2.2.1 w.2.2.2.1 w.2.2.2.2.1 w.2.2.2.2.2.1 w.2.2.2.2.2.2.1 w.2.2.2.2.2.2.2.1 w.2.2.2.2.2.2.2.2.1 w.2.2.2.2.2.2.2.2.2.1 w.2.2.2.2.2.2.2.2.2.2.1 0 0 false [] [] [] [] [] [] [] [] w.2.1 w.2.2.2.2.2.1 w.2.2.2.2.2.2.2.2.2.2.1 w.1 D5 w.2.2.2.1 w.2.2.2.2.1 [] [] [] []=some ((((),w.2.1,(),(),(),w.2.2.2.2.2.1,(),(),(),(),w.2.2.2.2.2.2.2.2.2.2.1,()),()),(w.1,(D5++w.2.2.1.drop i),w.2.2.2.1,w.2.2.2.2.1,w.2.2.2.2.2.2.1,w.2.2.2.2.2.2.2.1,w.2.2.2.2.2.2.2.2.1,w.2.2.2.2.2.2.2.2.2.1,())):=by
 have xz:=h.Nz;have hl:=h.lens;intro n
 induction n with
 |zero=>omega
 |succ n ih=>
  intro i D5 hi hn hb;simp only[FW,UE,AB];by_cases Dh:i<w.2.2.1.length
  ·have hm:=Aa (f:=Ak) (AMk Dh)
   have hw:=Fz (s:=w.2.2.1[i]) (by omega);rw[ALP (by omega),ALP (by omega),Aj Dh,AL (by omega) (by omega),show((i:Int)+1)=((i+1:Nat):Int)by omega,drop_cons Dh];rw[show(w.2.2.1[i].1,w.2.2.1[i].2.1,w.2.2.1[i].2.2.1,())=w.2.2.1[i]from rfl,H9 hw.1 hw.2];simp only[AD];rw[ALP (by rw[BX];omega),ih (i+1) _ (by omega) (by omega) (by simp_all),AM_];rfl
  ·have:=AKF h n 0 D5 [] (by omega) (by omega) (by simp)
   grind
theorem iW:OA w=some ((((),w.2.1,(),(),(),w.2.2.2.2.2.1,(),(),(),(),w.2.2.2.2.2.2.2.2.2.2.1,()),()),(w.1,w.2.2.1,w.2.2.2.1,w.2.2.2.2.1,w.2.2.2.2.2.2.1,w.2.2.2.2.2.2.2.1,w.2.2.2.2.2.2.2.2.1,w.2.2.2.2.2.2.2.2.2.1,())):=by
 have xz:=h.Nz;have hl:=h.lens;unfold OA UO;have:=ALq h Ae 0 [] (by omega) (ATy (Ag (by omega))) (by simp);rw[show((0:Nat):Int)=0 from rfl,ATL,ATN]at this;rw[show(w.1,w.2.1,())=AS w from rfl,gd (by show w.1.length≤_;omega),Ds (by omega),show(w.2.2.2.2.1,w.2.2.2.2.2.1,())=(B5 w)from rfl,Ho (by show Af CB w.2.2.2.2.1≤_;omega)];simp only[AD];exact this
end
end Go.M
end
section
set_option maxRecDepth 8000
namespace Go.M
open Go.M.H (AJ AO As Ab AA CO AN A4 AM AY Az Av BS Ak CL Af AX Aa Aq CB BF Ar A7 EC CM Cs C9)
theorem tw{a b:Nat}(h:a+b<2^40):AZ ((IntKind.wrap .u64 (AZ ((a:Int)+(b:Int)))).fdiv (2^1))=(((a+b)/2:Nat):Int):=by
 grind[AL,IntKind.wrap,IntKind.bits,IntKind.signed,Int.fdiv_eq_ediv_of_nonneg]
structure jh {α:Type} (f:α→Int) (p:Int) (l:List α) (q:Nat):Prop where
 le:q≤l.length
 lt:∀(i:Nat) (h:i<l.length),i<q→f l[i]<p
 ge:∀(i:Nat) (h:i<l.length),q≤i→p≤f l[i]
theorem bF{α:Type}{f:α→Int}{l:List α}(h:Tf f l){i j:Nat}(hi:i<l.length)(hj:j<l.length)(zU:i≤j):f l[i]≤f l[j]:=by
 grind[Int.le_of_lt,List.pairwise_iff_getElem]
theorem dv{l:List AJ}(ha:Wr l)(hl:l.length≤2^30)(p:Int):∃q,jh (fun e:AJ=>e.1) p l q∧
  SD l p=some ((((q:Int),(match l[q]? with|some e=>e.1==p|none=>false),()),()),()):=by
 have key:∀(n a b:Nat),a≤b→b≤l.length→b-a<n→(∀(i:Nat) (h:i<l.length),i<a→l[i].1<p)→(∀(i:Nat) (h:i<l.length),b≤i→p≤l[i].1)→
   ∃q,jh (fun e:AJ=>e.1) p l q∧A0 n l p l.length a b=some ((((q:Int),(match l[q]? with|some e=>e.1==p|none=>false),()),()),()):=by
  intro n
  induction n with
  |zero=>omega
  |succ n ih=>
   intro a b rh hb hn h1 h2;simp only[A0,Ct,AB,Rg];by_cases Lu:a<b
   ·have hm:(a+b)/2<l.length:=by omega
    rw[ALP (by omega),tw (by omega),ALP (by omega),Aj hm];by_cases hc:l[(a+b)/2].1<p
    ·rw[ALP hc]
     simp only[AD];rw[ALP (by omega),AL (by omega) (by omega),show((((a+b)/2:Nat):Int)+1)=(((a+b)/2+1:Nat):Int)by omega];refine ih _ b (by omega) hb (by omega) (fun i h hi=> ?_) h2;exact Int.lt_of_le_of_lt (bF (f:=fun e:AJ=>e.1) ha h hm (by omega)) hc
    ·rw[ALo hc]
     have hge:∀(i:Nat) (h:i<l.length),(a+b)/2≤i→p≤l[i].1:=fun i h hi=>Int.le_trans (by omega) (bF (f:=fun e:AJ=>e.1) ha hm h hi)
     by_cases hd:l[(a+b)/2].1>p
     ·rw[ALP hd]
      simp only[AD];rw[ALo (by omega)];exact ih a _ (by omega) (by omega) (by omega) h1 hge
     ·rw[ALo hd]
      simp only[AD];rw[ALo (by omega)];exact ih a _ (by omega) (by omega) (by omega) h1 hge
   ·have ADd:a=b:=by omega
    subst ADd;refine⟨a,⟨hb,h1,h2⟩,?_⟩;rw[ALo (by omega)];by_cases ha':a<l.length
    ·have:=h2 a ha' (AQE _)
     rw[ALP (by omega),ALP (by omega),Aj ha',ALR ha',ALo (by omega)];by_cases hd:l[a].1>p
     ·simp_all;omega
     grind
    grind
 obtain⟨q,hq,e⟩:=key Ae 0 l.length (by omega) (by omega) (Ag (by omega)) (fun i h hi=>by omega) (fun i h hi=>by omega);refine⟨q,hq,?_⟩;unfold SD CG Cw;simp_all
theorem jh.get_eq{p:Int}{l:List AJ}{q:Nat}(h:jh (fun e:AJ=>e.1) p l q)(ha:Wr l):Ep p l=match l[q]? with|some e=>if e.1=p then some e else none|none=>none:=by
 by_cases hq:q<l.length
 ·rw[ALR hq]
  dsimp only;by_cases he:l[q].1=p
  ·rw[ALP he,←he]
   exact Lw ha (AMk hq)
  ·rw[ALo he]
   cases hg:Ep p l with
   |none=>rfl
   |some x=>
    obtain⟨hm,hx⟩:=Gv hg;obtain⟨i,hi,rfl⟩:=AQQ hm;exfalso;have h2:=h.ge q hq (AQE _);rcases Nat.lt_or_ge i q with hiq|hiq
    ·have:=h.lt i hi hiq
     omega
    ·have:=bF (f:=fun e:AJ=>e.1) ha hq hi hiq
     omega
 ·rw[ATZ (by omega)]
  dsimp only;cases hg:Ep p l with
  |none=>rfl
  |some x=>
   obtain⟨hm,hx⟩:=Gv hg;obtain⟨i,hi,rfl⟩:=AQQ hm;have:=h.lt i hi (by omega);omega
theorem Te{s:AO}(h0:Ak s≤2^30)(h1:qw s)(p:Int):GS s p=some (((match Xe s p with|some e=>(e,true,())|none=>((0,0,false,[],()),false,())),()),()):=by
 unfold GS Xe;rw[show(s.1,s.2.1,s.2.2.1,())=s from rfl,E6 h0 h1];simp only[AD];rcases AKr (CF s)with Bq|Bq
 rotate_left
 ·simp_all
 have hs:=DL.1 Bq;have hn:=hs.nk;obtain⟨q,hq,e⟩:=dv hs.gM (by omega) p;rw[Bq,e,ALP rfl,hq.get_eq hs.gM];grind
theorem H8{e o:Int}:Dq e o=some (((Gd e o,BN e 1 30&&BN o 1 60,()),()),()):=by
 unfold Dq Hb XU Gd;rw[Ax,Ax];simp only[AD];rcases AKr (BN e 1 30)with he|he
 rotate_left
 ·simp_all
 rcases AKr (BN o 1 60)with ho|ho
 rotate_left
 ·simp_all
 rw[he,ho];have h1:=Ah.1 he;have h2:=Ah.1 ho;simp only[AMO,AMh,Bool.and_self,ATK];rw[AL (x:=4294967296*e) (by omega) (by omega),AL (by omega) (by omega)];rfl
theorem YU{k:Int}:Hm k=some (((),()),(Ao k,())):=by
 unfold Hm UN Ao;rw[Ax];simp only[AD];rcases AKr (BN k 0 255)with hk|hk
 rotate_left
 ·simp_all
 rw[hk,ALP rfl];have hk':=Ah.1 hk;have key:∀(n i:Nat) (b:AAH),i≤8→8-i<n→b.length≤i→
   KK n k i b=some (((),()),(b++(([0,1,2,3,4,5,6,7]:AAH).drop i).filter (fun i=>(k/2^i.toNat)%2==1),())):=by
  intro n
  induction n with
  |zero=>omega
  |succ n ih=>
   intro i b hi h hb;simp only[KK,Ut,AB];by_cases Dh:i<8
   ·have AC_:=uV (k:=k) (i:=i) (by omega) (by omega)
    rw[ALP (show(i:Int)<8 by omega),ALo (by omega),AMZ,sF i Dh,ATQ,AMZ,AL (by omega) (by omega),show((i:Int)+1)=((i+1:Nat):Int)by omega];rw[AC_];simp only[AB];have c2:b.length+1≤Dw:=by rw[BX];omega
    by_cases hb':(k/2^i)%2=1
    ·rw[ALP hb',ALP c2,ALP (by simp_all),ih (i+1) _ (by omega) (by omega) (by simp_all),AM_]
     rfl
    grind
   ·have:i=8:=by omega
    simp_all
 have:=key Ae 0 [] (by omega) (Ag (by omega)) (by simp);simp_all
theorem O5{r:AN}(h:Af CB r.1≤2^30){e:Int}(he:DH e):Iq r e=some (((),()),(Ap r.1 e,())):=by
 unfold Iq Ap;have hl:=AX (f:=CB) (l:=r.1);rw[Ax];simp only[AD];rcases AKr (BN e 1 r.1.length)with hk|hk
 rotate_left
 ·simp_all
 rw[hk,ALP rfl];have hk':=Ah.1 hk;have hm:=Aa (f:=CB) (BJ (d:=GP) (i:=(e-1).toNat) (by omega:(e-1).toNat<r.1.length));have hw:CB (r.1.getD (e-1).toNat GP)=(r.1.getD (e-1).toNat GP).1.length:=rfl;rw[AL (by omega) (by omega)];simp only[AMO,AMh];rw[ALP (by omega),show(r.1.getD (e-1).toNat ([],false,0,()))=r.1.getD (e-1).toNat GP from rfl,Ds (by omega)];rfl
theorem LI{w:AA}(h1:w.An.length≤2^30)(h2:w.lost.length≤2^30){n:Int}:EP w n=some ((Al w n,()),()):=by
 unfold EP Al;have h1':w.2.2.1.length≤2^30:=h1;rw[AL (by omega) (by omega),Ax,Zj (by grind)];grind
theorem PE{b:Bool}:J1 b=some ((if b then 0 else 4,()),()):=by cases b<;>rfl
theorem gE{x:AM}(h:x.2.1.length≤2^30):P_ x=some (((Vh x.2.1:Int),()),()):=by
 have key:∀(n i:Nat),i≤x.2.1.length→x.2.1.length-i<n→i+Vh (x.2.1.drop i)=Vh x.2.1→JX n x.2.1 x.2.1.length i x.1 x.2.1=some (((Vh x.2.1:Int),()),()):=by
  intro n
  induction n with
  |zero=>omega
  |succ n ih=>
   intro i hi hn hs;simp only[JX,Su,AB];by_cases hc:i<x.2.1.length
   ·rw[drop_cons hc]at hs
    simp only[Vh]at hs;rw[ALP (by omega),ALP (by omega),Aj hc,AL (by omega) (by omega),show((i:Int)+1)=((i+1:Nat):Int)by omega];cases hd:x.2.1[i].2.2.1 with
    |true=>
     grind
    |false=>
     simp_all
   ·rw[AMo (by omega)]at hs
    simp only[Vh]at hs;grind
 grind[P_,S2,Ae,Ag]
theorem p8{w:AA}(h:fa w)(e:Int):Q4 w e=some ((U0 w e,()),()):=by
 have xz:=h.Nz;have hl:=h.lens;have key:∀(n i:Nat),i≤w.AH.length→w.AH.length-i<n→Nt n e w.AH w.AH.length i=some (((match(w.AH.drop i).find? (fun x=>x.1==e)with|some x=>(Vh x.2.1:Int)|none=>0),()),()):=by
  intro n
  induction n with
  |zero=>omega
  |succ n ih=>
   intro i hi hn;simp only[Nt,Yh,AB];by_cases hc:i<w.AH.length
   ·have Zf:i<w.2.2.2.2.2.2.1.length:=hc
    have hm:Ar w.AH[i]≤Af Ar w.2.2.2.2.2.2.1:=Aa (f:=Ar) (AMk hc);have hw:Ar w.AH[i]=Af BF w.AH[i].2.1:=rfl;have hlw:=AX (f:=BF) (l:=w.AH[i].2.1);rw[ALP (by omega),ALP (by omega),Aj hc,AL (by omega) (by omega),show((i:Int)+1)=((i+1:Nat):Int)by omega,drop_cons hc,ATw,show(w.AH[i].1,w.AH[i].2.1,())=w.AH[i]from rfl,gE (by omega),ih (i+1) (by omega) (by omega)];cases w.AH[i].1==e<;>rfl
   grind
 grind[Q4,YD,U0,Ae,Ag]
end Go.M
end
section
set_option maxRecDepth 8000
namespace Go.M
open Go.M.H (AJ AO As Ab AA CO AN A4 AM AY Az Av BS Ak CL Af AX Aa Aq CB BF Ar A7 EC CM Cs C9)
theorem w5{x:Int}{t:ACr}(h:t.1.length≤2^30):Q7 x t=some ((!t.1.contains x,()),()):=by
 grind[Q7,Iv]
theorem l_{x:Int}{t:ABg}:MP x t=some ((x==t.1,()),()):=rfl
theorem nB{t:ACr×Unit}(h:t.1.1.length≤2^30){l:AAH}(hl:l.length≤2^30):Co t l=some (((),()),((),l.filter (fun x=> !(!t.1.1.contains x)),())):=by
 have key:∀(n i j:Nat) (b:AAH),i≤j→j≤b.length→b.length≤2^30→b.length-j<n→Bu n t i j b=some (((),()),((),b.take i++(b.drop j).filter (fun x=> !(!t.1.1.contains x)),())):=by
  intro n
  induction n with
  |zero=>omega
  |succ n ih=>
   intro i j b zU hj hb hn;simp only[Bu,D2,AB];by_cases hc:j<b.length
   ·rw[ALP (by omega),ALP (by omega),Aj hc,w5 h]
    simp only[AD];rw[AL (x:=(j:Int)+1) (by omega) (by omega),AL (x:=(i:Int)+1) (by omega) (by omega),show((j:Int)+1)=((j+1:Nat):Int)by omega,show((i:Int)+1)=((i+1:Nat):Int)by omega,drop_cons hc,ATQ];have n1:=ih (i+1) (j+1) (b.set i b[j]) (by omega) (by grind) (by simp_all) (by grind);have n2:=ih i (j+1) b (by omega) (by omega) hb (by omega);rw[show(t.1,())=t from rfl,n2];rw[AXn (by omega),ATV (by grind),AXo (AQE _),AWp,AM_,ATp]at n1;rw[ALP (by omega),AMZ,n1]
    generalize hx:b[j]=x
    cases(!t.1.1.contains x)<;>rfl
   ·rw[ALo (by omega),AMo (i:=j) (by omega),AMZ,AMZ]
    simp_all;omega
 have fnd:∀(n i:Nat),i≤l.length→l.length-i<n→ ∃r:Int,B8 n l t l.length i=some ((r,()),())∧((r= -1∧(l.drop i).filter (fun x=> !(!t.1.1.contains x))=l.drop i)∨ ∃q:Nat,r=q∧i≤q∧q<l.length∧((l.take q).drop i).filter (fun x=> !(!t.1.1.contains x))=(l.take q).drop i∧ ∀(h:q<l.length) x,x=l[q]→(!t.1.1.contains x)=true):=by
  intro n
  induction n with
  |zero=>omega
  |succ n ih=>
   intro i hi hn;simp only[B8,D_,AB];by_cases hc:i<l.length
   ·rw[ALP (by omega),ALP (by omega),Aj hc,w5 h]
    simp only[AD];rw[AL (x:=(i:Int)+1) (by omega) (by omega),show((i:Int)+1)=((i+1:Nat):Int)by omega,show(t.1,())=t from rfl];obtain⟨r,e,hr⟩:=ih (i+1) (by omega) (by omega);rw[e]
    generalize hx:l[i]=x
    cases hp:(!t.1.1.contains x)with
    |true=>
     grind
    |false=>
     refine⟨r,rfl,?_⟩;rcases hr with⟨h1,h2⟩|⟨q,h1,h2,h3,h4,h5⟩
     ·grind[drop_cons]
     ·refine .inr ⟨q,h1,by omega,h3,?_,h5⟩
      grind[drop_cons]
   grind
 obtain⟨r,e,hr⟩:=fnd Ae 0 (by omega) (Ag (by omega));rw[show((0:Nat):Int)=0 from rfl]at e;unfold Co Dz Dk D8;rw[show(t.1,())=t from rfl,e];simp only[AD];rcases hr with⟨h1,h2⟩|⟨q,h1,h2,h3,h4,h5⟩
 ·grind
 ·rw[h1,APh.2 (by omega),AMh,AL (by omega) (by omega),show((q:Int)+1)=((q+1:Nat):Int)by omega,key Ae q (q+1) l (by omega) (by omega) hl (Ag (by omega))]
  rw[ATN]at h4;have hd:=h5 h3 _ rfl;grind[List.take_append_drop,drop_cons]
theorem aa{t:ADI}{l:AAH}(hl:l.length≤2^30):Cp t l=some (((),()),((),l.filter (fun x=> !(x==t.1.1)),())):=by
 have key:∀(n i j:Nat) (b:AAH),i≤j→j≤b.length→b.length≤2^30→b.length-j<n→Br n t i j b=some (((),()),((),b.take i++(b.drop j).filter (fun x=> !(x==t.1.1)),())):=by
  intro n
  induction n with
  |zero=>omega
  |succ n ih=>
   intro i j b zU hj hb hn;simp only[Br,El,AB];by_cases hc:j<b.length
   ·rw[ALP (by omega),ALP (by omega),Aj hc,l_]
    simp only[AD];rw[AL (x:=(j:Int)+1) (by omega) (by omega),AL (x:=(i:Int)+1) (by omega) (by omega),show((j:Int)+1)=((j+1:Nat):Int)by omega,show((i:Int)+1)=((i+1:Nat):Int)by omega,drop_cons hc,ATQ];have n1:=ih (i+1) (j+1) (b.set i b[j]) (by omega) (by grind) (by simp_all) (by grind);have n2:=ih i (j+1) b (by omega) (by omega) hb (by omega);rw[show(t.1,())=t from rfl,n2];rw[AXn (by omega),ATV (by grind),AXo (AQE _),AWp,AM_,ATp]at n1;rw[ALP (by omega),AMZ,n1]
    generalize hx:b[j]=x
    cases(x==t.1.1)<;>rfl
   ·rw[ALo (by omega),AMo (i:=j) (by omega),AMZ,AMZ]
    simp_all;omega
 have fnd:∀(n i:Nat),i≤l.length→l.length-i<n→ ∃r:Int,Bw n l t l.length i=some ((r,()),())∧((r= -1∧(l.drop i).filter (fun x=> !(x==t.1.1))=l.drop i)∨ ∃q:Nat,r=q∧i≤q∧q<l.length∧((l.take q).drop i).filter (fun x=> !(x==t.1.1))=(l.take q).drop i∧ ∀(h:q<l.length) x,x=l[q]→(x==t.1.1)=true):=by
  intro n
  induction n with
  |zero=>omega
  |succ n ih=>
   intro i hi hn;simp only[Bw,E9,AB];by_cases hc:i<l.length
   ·rw[ALP (by omega),ALP (by omega),Aj hc,l_]
    simp only[AD];rw[AL (x:=(i:Int)+1) (by omega) (by omega),show((i:Int)+1)=((i+1:Nat):Int)by omega,show(t.1,())=t from rfl];obtain⟨r,e,hr⟩:=ih (i+1) (by omega) (by omega);rw[e]
    generalize hx:l[i]=x
    cases hp:(x==t.1.1)with
    |true=>
     grind
    |false=>
     refine⟨r,rfl,?_⟩;rcases hr with⟨h1,h2⟩|⟨q,h1,h2,h3,h4,h5⟩
     ·grind[drop_cons]
     ·refine .inr ⟨q,h1,by omega,h3,?_,h5⟩
      grind[drop_cons]
   grind
 obtain⟨r,e,hr⟩:=fnd Ae 0 (by omega) (Ag (by omega));rw[show((0:Nat):Int)=0 from rfl]at e;unfold Cp Ey D1 E_;rw[show(t.1,())=t from rfl,e];simp only[AD];rcases hr with⟨h1,h2⟩|⟨q,h1,h2,h3,h4,h5⟩
 ·grind
 ·rw[h1,APh.2 (by omega),AMh,AL (by omega) (by omega),show((q:Int)+1)=((q+1:Nat):Int)by omega,key Ae q (q+1) l (by omega) (by omega) hl (Ag (by omega))]
  rw[ATN]at h4;have hd:=h5 h3 _ rfl;grind[List.take_append_drop,drop_cons]
theorem bM{a b:AAH}(ha:a.length≤2^30)(hb:b.length≤2^30):M9 a b=some (((),()),(a.filter b.contains,())):=by
 unfold M9;rw[Ds ha];simp only[AD];rw[nB hb ha];grind
theorem PS{a:AAH}{x:Int}(ha:a.length≤2^30):HH a x=some (((),()),(less a [x],())):=by
 unfold HH less;rw[Ds ha];simp only[AD];rw[aa ha];grind
theorem qp{d:BS}:Yt d=some ((PW d,()),()):=by
 obtain⟨k,a,b,n,t,⟨⟩⟩:=d;obtain⟨m,hm⟩:∃m,Ae=m+4:=⟨Ae-4,by have:=bV;omega⟩;have fin:∀(a' b' n':Int) (t':ACD),(((A3 k 1 16).bind fun u4=>cond (u4.1.1) (cond ((((0:Int)==0)&&((a' ==0)&&((b' ==0)&&((n' ==0)&&((t' ==[])&&true))))) ) ((GK t).bind fun u6=>some ((u6.1.1,()),())) (some ((false,()),()))) (some ((false,()),()))):Option Pv)=some ((BN k 1 16&&((a' ==0)&&((b' ==0)&&((n' ==0)&&((t' ==[])&&decide (t.length≤40))))),()),()):=by
  intro a' b' n' t';rw[Ax];simp only[AD,GK,AXh,AMn,ATh];have e:decide ((t.length:Int)≤40)=decide (t.length≤40):=by grind
  grind
 unfold Yt YF bJ PW eV;rw[hm];have h1:((1:Nat):Int)=1:=rfl;have w1:AZ (1:Int)=1:=AL (by omega) (by omega);have w2:AZ (2:Int)=2:=AL (by omega) (by omega);have w3:AZ (3:Int)=3:=AL (by omega) (by omega);have lim:(3:Nat)≤Dw:=by rw[BX];omega
 have l0:(0:Nat)≤Dw:=by omega
 have l1:(1:Nat)≤Dw:=by omega
 have l2:(2:Nat)≤Dw:=by omega
 dsimp only;by_cases k8:k=8
 ·subst k8
  simpa[Dp,DT]using fin a b n t
 by_cases k10:k=10
 ·subst k10
  simpa[Dp,DT]using fin a b n t
 by_cases k12:k=12
 ·subst k12
  simpa[Dp,DT]using fin a b n t
 by_cases k2:k=2
 ·subst k2
  simpa[Dp,DT,l2,w1,w2]using fin 0 b n []
 by_cases k3:k=3
 ·subst k3
  simpa[Dp,DT,lim,w1,w2,w3]using fin 0 0 0 t
 by_cases k5:k=5
 ·subst k5
  simpa[Dp,DT,l2,w1,w2]using fin 0 0 n t
 by_cases k14:k=14
 ·subst k14
  simpa[Dp,DT,l2,w1,w2]using fin 0 0 n t
 by_cases k11:k=11
 ·subst k11
  simpa[Dp,DT,l2,w1,w2]using fin a 0 0 t
 by_cases k13:k=13
 ·subst k13
  simpa[Dp,DT,l1,w1]using fin 0 b n t
 have e8:(k==8)=false:=APh.2 k8;have e10:(k==10)=false:=APh.2 k10;have e12:(k==12)=false:=APh.2 k12;have e2:(k==2)=false:=APh.2 k2;have e3:(k==3)=false:=APh.2 k3;have e5:(k==5)=false:=APh.2 k5;have e14:(k==14)=false:=APh.2 k14;have e11:(k==11)=false:=APh.2 k11;have e13:(k==13)=false:=APh.2 k13;simpa[k8,k10,k12,k2,k3,k5,k14,k11,k13,e8,e10,e12,e2,e3,e5,e14,e11,e13,Dp,DT,l1,w1]using fin 0 b n t
end Go.M
end
section
set_option maxRecDepth 8000
namespace Go.M
open Go.M.H (AJ AO As Ab AA CO AN A4 AM AY Az Av BS Ak CL Af AX Aa Aq CB BF Ar A7 EC CM Cs C9)
theorem mo{l:List Av}(hl:l.length≤2^20):PI l=some (((),()),(l.map (fun a=>a.1),())):=by
 have key:∀(n i:Nat) (b:AAH),i≤l.length→l.length-i<n→b.length=i→Mn n l l.length i b=some (((),()),(b++(l.drop i).map (fun a=>a.1),())):=by
  intro n
  induction n with
  |zero=>omega
  |succ n ih=>
   intro i b hi h hb;simp only[Mn,XK,AB];by_cases Zf:i<l.length
   ·have c1:(0:Int)≤(i:Int)∧(i:Int)<(l.length:Int):=by omega
    have c2:b.length+1≤Dw:=by rw[BX];omega
    rw[ALP c1.2,ALP c1,ALP c2,AL (by omega) (by omega),show((i:Int)+1)=((i+1:Nat):Int)by omega,Aj Zf,ih (i+1) _ (by omega) (by omega) (by simp_all),drop_cons Zf];grind
   grind
 unfold PI Xd;have:=key Ae 0 [] (by omega) (Ag (by omega)) rfl;simp_all
theorem vT{c:CD}{s l:AAH}(hc:c.1.length≤2^40)(hl:l.length≤2^20)(hs:s.length≤2^20):eE c s l=some (((),()),(if Ay c s&&Ay c l then less s l else[],())):=by
 have key:∀(n i:Nat) (b:AAH),i≤s.length→s.length-i<n→b.length≤i→RQ n l s s.length i b=some (((),()),(b++less (s.drop i) l,())):=by
  intro n
  induction n with
  |zero=>omega
  |succ n ih=>
   intro i b hi h hb;simp only[RQ,cB,AB,A5];by_cases Zf:i<s.length
   ·have c1:(0:Int)≤(i:Int)∧(i:Int)<(s.length:Int):=by omega
    have c2:b.length+1≤Dw:=by rw[BX];omega
    rw[ALP c1.2,ALP c1,Aj Zf,Iv (by omega),AL (by omega) (by omega),show((i:Int)+1)=((i+1:Nat):Int)by omega,drop_cons Zf];simp only[AD,ALP c2];rw[ih (i+1) b (by omega) (by omega) (by omega),ih (i+1) (b++[s[i]]) (by omega) (by omega) (by simp_all)];grind[less]
   ·rw[ALo (by omega),AMo (by omega)]
    simp[less]
 unfold eE cD;rw[show(c.1,c.2.1,())=c from rfl,EH hc (by omega),EH hc (by omega)];simp only[AD];cases Ay c s with
 |false=>rfl
 |true=>
  cases Ay c l with
  |false=>rfl
  |true=>
   have:=key Ae 0 [] (by omega) (Ag (by omega)) (by simp);simp_all
theorem filter_all{l:AAH}{p:Int→Bool}:((((l.filter p).length:Nat):Int) !=(l.length:Int))= !l.all p:=by
 rw[Bool.eq_iff_iff];simp only[bne_iff_ne,ne_eq,ATJ,ATi];grind[List.filter_eq_self,List.all_eq_true,List.length_filter_eq_length_iff]
theorem cu{c:CD}{s l:AAH}(hc:c.1.length≤2^40)(hl:l.length≤2^20)(hs:s.length≤2^20):G3 c s l=some ((Ji c s l,()),()):=by
 unfold G3 Ji;rw[show(c.1,c.2.1,())=c from rfl,EH hc (by omega),GY hc (by omega),bM (by omega) (by omega),vT hc hl hs];simp only[AD,A5,filter_all];have hh:holds c s=true→Ay c s=true:=fun h=>by
  unfold holds at h;simp_all
 cases h1:Ay c l with
 |false=>simp
 |true=>
  cases h2:holds c s with
  |false=>rfl
  |true=>
   cases h3:l.all s.contains with
   |false=>rfl
   |true=>
    have h4:(less s l).length≤2^20:=AQ4 (ASR _ _) hs;rw[hh h2];simp only[AMy,Bool.and_self,ATK,AMO,AMh,AMn];grind[GY]
theorem XL{a b:AJ}:Q1 a b=some ((better a b,()),()):=by
 unfold Q1 better;grind
theorem qU{s:AAH}{p:Int}{l:List Av}(hs:s.length≤2^20)(hl:l.length≤2^20)(PY:∀a∈l,DH a.2.2.1):
  Yi l s p=some (((((Fb s p none l).getD Dt),(Fb s p none l).isSome,()),()),()):=by
 have key:∀(n i:Nat) (b:Option AJ),i≤l.length→l.length-i<n→
   OV n s p b.isSome l l.length i 0 0 false [] (b.getD Dt).1 (b.getD Dt).2.1 (b.getD Dt).2.2.1 (b.getD Dt).2.2.2.1=some (((((Fb s p b (l.drop i)).getD Dt),(Fb s p b (l.drop i)).isSome,()),()),()):=by
  intro n
  induction n with
  |zero=>omega
  |succ n ih=>
   intro i b hi h;simp only[OV,Yj,AB,A5];by_cases Zf:i<l.length
   ·have c1:(0:Int)≤(i:Int)∧(i:Int)<(l.length:Int):=by omega
    rw[ALP c1.2,ALP c1,AL (by omega) (by omega),show((i:Int)+1)=((i+1:Nat):Int)by omega,Aj Zf,drop_cons Zf];have ih':=fun b=>ih (i+1) b (by omega) (by omega)
    simp only[ih'];rw[Iv (by omega),show(l[i].2.2.1,l[i].2.2.2.1,l[i].2.2.2.2.1,l[i].2.2.2.2.2.1,())=U_ l[i]from rfl];rw[QG (e:=U_ l[i]) (PY _ (AMk Zf))];simp only[AD,Fb];cases h1:l[i].2.1 with
    |false=>simp
    |true=>
     cases h2:s.contains l[i].1 with
     |false=>simp
     |true=>
      cases h3:EZ (U_ l[i])with
      |false=>simp
      |true=>
       simp only[AMy,AMn];by_cases h4:l[i].2.2.1=p
       ·rw[Cv,ALP h4,ALP (by show((U_ l[i]).1==p)=true;rw[ATa];exact h4)]
        cases b with
        |none=>
         simp only[ATX,AMh,XL,AD,Option.getD_none];have:=ih' (some (U_ l[i]));simp only[ATY,ATb]at this;have hb:better (U_ l[i]) (U_ l[i])=U_ l[i]:=by unfold better;simp_all
         simp_all
        |some x=>
         simp only[ATY,AMy,ATb];rw[show(x.1,x.2.1,x.2.2.1,x.2.2.2.1,())=x from rfl];grind[XL,AD,better,U_,Option.isSome_some]
       ·rw[Cv,ALo h4,ALo (by show¬((U_ l[i]).1==p)=true;rw[ATa];exact h4)]
   ·rw[ALo (by omega),AMo (by omega)]
    rfl
 unfold Yi Yb;exact key Ae 0 none (by omega) (Ag (by omega))
theorem bW{s t:AAH}{p:Int}:∀{l:List Av} {b:Option AJ},(∀a∈l,s.contains a.1=t.contains a.1)→Fb s p b l=Fb t p b l
 |[],b,_=>rfl
 |a::l,b,h=>by
  simp only[Fb];rw[h a (by simp),bW (fun x hx=>h x (by simp[hx])),bW (fun x hx=>h x (by simp[hx]))]
theorem VZ{e:Az}{a b:Int}{l:List Az}(h:l.length≤2^30):FG e a b l=some (((),()),((a,b,(),()),(),l++[e],())):=by
 unfold FG;rw[ALP (by rw[BX];omega)]
theorem dy{s:AAH}{l:List Av}{a b:Int}{o:List Az}(ha:1≤a∧a≤30)(hb:1≤b∧b≤60)(ho:o.length≤2^20)(hs:s.length≤2^20)(hl:l.length≤2^20)(PY:∀a∈l,DH a.2.2.1):
  C_ l s a b o=some (((),()),((a,b+1,(),()),(),o++[HP (D6 a b) (Fb s (D6 a b) none l)],())):=by
 unfold C_;rw[H8];have hp:Gd a b=D6 a b:=by
  unfold Gd;rw[ALP (by rw[AMC,Ah,Ah];omega)]
 simp only[AD];rw[hp,qU hs hl PY];simp only[AD,VZ (AQ4 ho (by omega))];rw[AL (by omega) (by omega)];cases Fb s (D6 a b) none l with
 |none=>rfl
 |some x=>
  simp only[ATY,AMO,AMh,ATb,HP];grind
theorem yY{x e o:Int}(hx:x=0∨BR x=true)(he:1≤e∧e≤31)(ho:1≤o∧o≤61):
  decide (x≥D6 e o)=(decide (x>0)&& !(decide (AQ x<e)||((AQ x==e)&&decide (A6 x<o)))):=by
 rcases hx with rfl|hx
 ·grind[decide_eq_false,D6]
 ·have h:=CJ hx
  rw[Bool.eq_iff_iff];simp only[AMC,ATJ,Bool.or_eq_false_iff,AMi,ATr,Bool.and_eq_false_iff,APh];grind[D6]
theorem nD{x:Int}{r:AY}(hx:DH x):MU x r=some ((decide (AQ x<r.1)||((AQ x==r.1)&&decide (A6 x<r.2.1)),()),()):=by
 grind[MU,EI,Tm,AD,decide,AQ]
end Go.M
end
section
set_option maxRecDepth 8000
namespace Go.M
open Go.M.H (AJ AO As Ab AA CO AN A4 AM AY Az Av BS Ak CL Af AX Aa Aq CB BF Ar A7 EC CM Cs C9)
theorem gR{c:CD}{g:AN}{sure:Int}{r:AY}{l:List Av}(hc:c.1.length≤2^20)(hg:Af CB g.1≤2^20)(ht:DH g.2.1)(hl:l.length≤2^20)(PY:∀a∈l,DH a.2.2.1):
  J4 c g sure r l=some (zm (B3 c g sure r l)):=by
 unfold J4 B3;rw[show(c.1,c.2.1,())=c from rfl,show(g.1,g.2.1,())=g from rfl,show(r.1,r.2.1,r.2.2.1,())=r from rfl,mo hl,M1 (by omega) (by omega) ht,Z_];simp only[AD,A5,AB];rw[EH (by omega) (by grind)];simp only[AD];cases h1:Mk c g with
 |false=>rfl
 |true=>
 cases h2:W6 r with
 |false=>rfl
 |true=>
 cases h3:Ay c (l.map fun a=>a.1)with
 |false=>rfl
 |true=>
 have hr:=RE.1 h2;have hre:=hr.ep;have hro:=hr.off;have hrn:=hr.n;have hR:=JE.1 h1;have hRn:=hR.n;simp only[AMy,AMn,AMO,AMH,AON];rw[XM (by omega)];simp only[AD];by_cases h4:r.1>(g.1.length:Int)
 ·rw[ALP h4,AR7 h4];rfl
 rw[ALo h4,ATW h4];by_cases h5:r.2.2.1.length=120
 ·rw[show(((r.2.2.1.length:Nat):Int)==120)=true by simp_all,AR7 h5];rfl
 rw[show(((r.2.2.1.length:Nat):Int)==120)=false by grind,ATW h5];simp only[AMh,ASZ,AMH,AON];rw[AL (x:=r.1-1) (by omega) (by omega),nD ht,EI ht,Tm ht];simp only[AD];have hto:=iV (x:=g.2.1);rw[AL (x:=A6 g.2.1+1) (by omega) (by omega),AL (x:=r.1+1) (by omega) (by omega)];simp only[VZ (l:=r.2.2.1) (by omega),AD];have hta:=yY (x:=g.2.1) (e:=r.1) (o:=r.2.1) (hR.trim.imp id fun h=>h.1) hre hro
 generalize ABs:g.1.getD (r.1-1).toNat GP=era
 have Lu:(r.1-1).toNat<g.1.length:=by omega
 have UR:era.1.length≤2^20:=by
  have h7:=Aa (f:=CB) (BJ (d:=GP) Lu);rw[ABs]at h7;have:CB era=era.1.length:=rfl;omega
 have hd:g.1.getD (r.1-1).toNat ([],false,0,())=era:=ABs;rw[hd];have hf:((l.map fun a=>a.1).filter era.1.contains).length≤2^20:=AQ4 (ASR _ _) (by simp_all);rw[bM (by grind) (by omega)];simp only[AD];rw[cu (by omega) hf UR];simp only[AD];have Aa6:(0:Int)≤r.1-1∧r.1-1<(g.1.length:Int):=by omega
 simp only[ALP Aa6]
 generalize hT:(cond (era.2.1) _ _:Option KV)=T
 have x_:T=some (zm (if era.2.1&&decide (r.2.1>era.2.2.1)then((r.1+1,1,r.2.2.1++[(4,r.1+1,[],())],()),0)else
   if(!era.2.1&&decide (r.2.1>sure))||decide (r.2.1>60)then(r,2)else
   if !Ji c era.1 ((l.map fun a=>a.1).filter era.1.contains)then(r,3)else
   ((r.1,r.2.1+1,r.2.2.1++[HP (D6 r.1 r.2.1) (Fb era.1 (D6 r.1 r.2.1) none l)],()),0))):=by
  rw[←hT];clear hT;have tail:r.2.1≤60→(cond (Ji c era.1 ((l.map fun a=>a.1).filter era.1.contains))
    ((C_ l ((l.map fun a=>a.1).filter era.1.contains) r.1 r.2.1 r.2.2.1).bind fun P2=>some ((((P2.2.1.1,P2.2.1.2.1,(),()),0,()),()),(P2.2.2.2.1,())))
    (some ((((r.1,r.2.1,(),()),3,()),()),(r.2.2.1,()))):Option KV)=some (zm (if !Ji c era.1 ((l.map fun a=>a.1).filter era.1.contains)then(r,3)else
    ((r.1,r.2.1+1,r.2.2.1++[HP (D6 r.1 r.2.1) (Fb era.1 (D6 r.1 r.2.1) none l)],()),0))):=by
   intro h60;rw[dy (by omega) (by omega) (by omega) hf hl PY];rw[bW (s:=(l.map fun a=>a.1).filter era.1.contains) (t:=era.1) (fun a ha=>by
    rw[Bool.eq_iff_iff,AUs,ATU];exact⟨fun h=>by simp_all,fun h=>⟨List.mem_map_of_mem ha,by omega⟩⟩)]
   cases Ji c era.1 ((l.map fun a=>a.1).filter era.1.contains)<;>rfl
  cases h7:era.2.1 with
  |true=>
   simp only[AMy,AMh,AMn,AMO,ATP,ASZ,AMi];by_cases h8:r.2.1>era.2.2.1
   ·rw[ALP h8,ALP h8];rfl
   rw[ALo h8,ALo h8];by_cases h9:r.2.1>60
   ·rw[ALP h9,ALP h9];rfl
   grind
  |false=>
   simp only[AMy,AMh,AMn,ATH,ATP,AMH,AON,ATI,AMi];by_cases h8:r.2.1>sure
   ·rw[ALP h8,ALP (.inl h8)];rfl
   rw[ALo h8];by_cases h9:r.2.1>60
   ·rw[ALP h9,ALP (.inr h9)];rfl
   grind
 rw[x_];clear hT x_
 generalize (decide (AQ g.2.1<r.1)||((AQ g.2.1==r.1)&&decide (A6 g.2.1<r.2.1)))=B at hta⊢
 by_cases h6:g.2.1≥D6 r.1 r.2.1
 ·rw[AR7 h6]at hta
  rw[ALP h6];by_cases h0:g.2.1>0
  ·rw[ALP h0]
   cases B with
   |true=>grind
   |false=>rfl
  simp_all
 ·rw[ALo h6]
  simp_all
end Go.M
end
section
set_option maxRecDepth 8000
namespace Go.M
open Go.M.H (AJ AO As Ab AA CO AN A4 AM AY Az Av BS Ak CL Af AX Aa Aq CB BF Ar A7 EC CM Cs C9)
theorem ACn{w:AA}{p n:Int}:(answer w p n).1=n:=by
 grind[answer]
theorem qj{w:AA}{p:Int}{ns:AAH}:(answers w p ns).map (fun a=>a.1)=ns.filter fun n=>Al w n==0:=by
 unfold answers;rw[ATx]
 conv=>rhs;rw[←List.map_id (ns.filter fun n=>Al w n==0)]
 grind[List.map_congr_left,ACn]
theorem kf{c:CD}{g:AN}{s:Int}{r:AY}{w:AA}{ns:AAH}:
  B3 c g s r (answers w (Gd r.1 r.2.1) ns)=B3 c g s r (answers w (D6 r.1 r.2.1) ns):=by
 unfold B3;rw[qj,qj];cases h1:Mk c g with
 |false=>rfl
 |true=>
 cases h2:W6 r with
 |false=>rfl
 |true=>
 have hr:=RE.1 h2;have hre:=hr.ep;have hro:=hr.off;have hRn:=(JE.1 h1).n;by_cases h3:r.1≤30∧r.2.1≤60
 ·have:Gd r.1 r.2.1=D6 r.1 r.2.1:=by
   unfold Gd;rw[ALP (by rw[AMC,Ah,Ah];omega)]
  rw[this]
 ·by_cases h4:r.1>(g.1.length:Int)
  ·simp_all
  ·have h5:r.2.1>60:=by omega
   simp_all
def j5(q:AA×Int):KY:=((q.2,()),(((),q.1.2.1,(),(),(),q.1.2.2.2.2.2.1,(),(),(),(),q.1.2.2.2.2.2.2.2.2.2.2.1,()),q.1.1,q.1.2.2.1,q.1.2.2.2.1,q.1.2.2.2.2.1,q.1.2.2.2.2.2.2.1,q.1.2.2.2.2.2.2.2.1,q.1.2.2.2.2.2.2.2.2.1,q.1.2.2.2.2.2.2.2.2.2.1,()))
theorem AG6{k n:Int}(h:n∈Ao k):0≤n∧n≤7:=by
 unfold Ao at h;simp_all;omega
theorem wh{k:Int}:(Ao k).length≤8:=by
 unfold Ao;split
 ·exact AQ4 (ASR _ _) (by simp)
 ·simp
section
variable{w:AA} (h:Nn w) (WH:fa w)
include h WH
omit WH in
theorem zJ{p:Int}{ns:AAH}:∀a∈answers w p ns,DH a.2.2.1:=fun a ha=>by
 unfold answers at ha;obtain⟨n,hn,rfl⟩:=ATd.1 ha;have hn':Al w n=0:=by have:=(ATU.1 hn).2;rwa [ATa]at this
 unfold answer;split
 ·rename_i e he
  have:=(h.store hn').kept e (ATk he);exact Jb (FX.1 this).pl
 ·exact⟨by show-9223372036854775808≤(0:Int);omega,by show(0:Int)<9223372036854775808;omega⟩
theorem gB{a k:Int}:Mp a k w.2.1 w.2.2.2.2.2.1 w.2.2.2.2.2.2.2.2.2.2.1 w.1 w.2.2.1 w.2.2.2.1 w.2.2.2.2.1 w.2.2.2.2.2.2.1 w.2.2.2.2.2.2.2.1 w.2.2.2.2.2.2.2.2.1 w.2.2.2.2.2.2.2.2.2.1=some (j5 (IK w a k)):=by
 have kn:=h.nums;have k1:=kn.c;have k3:=kn.lost;have k4:=kn.st;have iI:=kn.Js;have js:=kn.iH;have k5:=kn.era;have k6:=kn.ws;have k6':Af Ak w.An≤80008:=kn.ws;have k8:=kn.rd;unfold Mp NI IK;rw[AL (by omega) (by omega),show((w.2.2.2.2.2.2.2.2.1.length:Int)-1)=1 by omega,Ax];simp only[AD,A5];rcases AKr (BN a 0 1)with h1|h1
 rotate_left
 ·rw[h1];rfl
 have h1':=Ah.1 h1;have hb:0≤a∧a<(w.2.2.2.2.2.2.2.2.1.length:Int):=by omega
 have Lu:a.toNat<w.AW.length:=by
  simp_all
 have ZG:=h.AW _ (BJ (d:=Au) Lu);rw[h1,F4,AMy,ALP hb,YU];simp only[show w.2.2.2.2.2.2.2.2.1.getD a.toNat (0,0,[],())=w.AW.getD a.toNat Au from rfl]
 generalize hx:w.AW.getD a.toNat Au=r at ZG⊢
 have hre:=ZG.ep;have hro:=ZG.off;rw[H8];simp only[AD];have vf:=wh (k:=k);have hmi:=fun n=>AG6 (k:=k) (n:=n)
 rw[←kf]
 generalize hp:Gd r.1 r.2.1=p
 have PY:=fun ns=>zJ h (p:=p) (ns:=ns)
 generalize Ao k=ms at vf hmi
 have key:∀(n i:Nat) (b:List Av),i≤ms.length→ms.length-i<n→b.length≤i→b=answers w p (ms.take i)→
   DC n a p ms.length i w.2.1 w.2.2.2.2.2.1 w.2.2.2.2.2.2.2.2.2.2.1 w.1 w.2.2.1 w.2.2.2.1 w.2.2.2.2.1 w.2.2.2.2.2.2.1 w.2.2.2.2.2.2.2.1 w.2.2.2.2.2.2.2.2.1 w.2.2.2.2.2.2.2.2.2.1 r.1 r.2.1 r.2.2.1 b ms=
    some (j5 (if(B3 (AS w) (B5 w) (U0 w r.1) r (answers w p ms)).2≠0 then(w,5)else(w.Cy (w.AW.set a.toNat (B3 (AS w) (B5 w) (U0 w r.1) r (answers w p ms)).1),0))):=by
  intro n
  induction n with
  |zero=>omega
  |succ n ih=>
   intro i b hi hn hb' he;simp only[DC,NK,AB,A5];by_cases Dh:i<ms.length
   ·have c1:(0:Int)≤(i:Int)∧(i:Int)<(ms.length:Int):=by omega
    have c2:b.length+1≤Dw:=by rw[BX];omega
    have ht:ms.take (i+1)=ms.take i++[ms[i]]:=ATV Dh;rw[ALP c1.2,ALP c1,Aj Dh,AL (by omega) (by omega),show((i:Int)+1)=((i+1:Nat):Int)by omega,show(w.1,w.2.1,w.2.2.1,w.2.2.2.1,w.2.2.2.2.1,w.2.2.2.2.2.1,w.2.2.2.2.2.2.1,w.2.2.2.2.2.2.2.1,w.2.2.2.2.2.2.2.2.1,w.2.2.2.2.2.2.2.2.2.1,w.2.2.2.2.2.2.2.2.2.2.1,())=w from rfl,Zj (by omega)];simp only[AD];have hm:=hmi _ (AMk Dh);by_cases hn0:Al w ms[i]=0
    ·obtain⟨n1,n2,n3⟩:=EK hn0
     have n2':ms[i]<(w.2.2.1.length:Int):=n2;have n3':w.2.2.2.1.contains ms[i]=false:=by
      simp_all
     have hs1:(ms[i]).toNat<w.2.2.1.length:=by omega
     have Ze:w.2.2.1.getD (ms[i]).toNat ([],[],0,())=storeAt w ms[i]:=rfl;have hsm:Ak (storeAt w ms[i])≤2^30:=AQ4 (Aa (f:=Ak) (BJ (d:=Cr) hs1)) (by omega);have Aah:CF (storeAt w ms[i])=true:=DL.2 (h.store hn0);rw[ALP n2',n3',AMh,ALP ⟨n1,n2'⟩,Ze,show((storeAt w ms[i]).1,(storeAt w ms[i]).2.1,(storeAt w ms[i]).2.2.1,())=storeAt w ms[i]from rfl,Te hsm (h.store hn0).sin];simp only[AD];rw[ALP c2];refine ih (i+1) _ (by omega) (by omega) (by simp_all) ?_
     rw[ht,he];unfold answers;rw[List.filter_append,List.map_append];congr 1;rw[ATQ,ALP (by simp_all),AXm,AUm,AXU];congr 1;unfold answer Xe;rw[ALP Aah];cases Ep p (storeAt w ms[i]).1<;>rfl
    ·have n1:=ih (i+1) b (by omega) (by omega) (by omega) (by
      rw[ht,he];unfold answers;rw[List.filter_append,List.map_append,ATQ,ALo (by simp_all),AXm,AXU,AM3])
     by_cases hl:ms[i]<(w.2.2.1.length:Int)
     ·rw[ALP hl]
      have AUK:w.2.2.2.1.contains ms[i]=true:=by
       cases hc:w.2.2.2.1.contains ms[i]with
       |true=>rfl
       |false=>
        exfalso
        apply hn0;unfold Al;have e1:BN ms[i] 0 ((w.An.length:Int)-1)=true:=Ah.2 (by omega);simp_all
      simp_all
     grind
   ·have e0:ms.take i=ms:=ATT (by omega)
    rw[e0]at he;subst he;have hal:(answers w p ms).length≤8:=by omega
    rw[ALo (by omega),show(w.1,w.2.1,w.2.2.1,w.2.2.2.1,w.2.2.2.2.1,w.2.2.2.2.2.1,w.2.2.2.2.2.2.1,w.2.2.2.2.2.2.2.1,w.2.2.2.2.2.2.2.2.1,w.2.2.2.2.2.2.2.2.2.1,w.2.2.2.2.2.2.2.2.2.2.1,())=w from rfl,p8 WH,show(r.1,r.2.1,r.2.2.1,())=r from rfl,show(w.1,w.2.1,())=AS w from rfl,show(w.2.2.2.2.1,w.2.2.2.2.2.1,())=B5 w from rfl];simp only[AD];rw[gR (c:=AS w) (g:=B5 w) (by show w.1.length≤_;omega) (by show Af CB w.2.2.2.2.1≤_;omega) kn.trim (by omega) (PY ms)];simp only[AD,zm,Cv];by_cases h2:(B3 (AS w) (B5 w) (U0 w r.1) r (answers w p ms)).2=0
    ·rw[ALP h2,ALP hb,ALo (fun hh=>hh h2)];rfl
    ·rw[ALo h2,ALP h2];rfl
 grind[Ae,Ag,answers]
end
end Go.M
end
section
set_option maxRecDepth 8000
namespace Go.M
open Go.M.H (AJ AO As Ab AA CO AN A4 AM AY Az Av BS Ak CL Af AX Aa Aq CB BF Ar A7 EC CM Cs C9)
theorem qX{c:CD}{g:AN}{sure:Int}{r:AY}{l:List Av}(h0:(B3 c g sure r l).2=0):
  (∃e:Az,(B3 c g sure r l).1.2.2.1=r.2.2.1++[e]∧e.2.2.1.length≤40)∧r.2.2.1.length<120:=by
 have hf:∀p,(HP p (Fb (g.1.getD (r.1-1).toNat GP).1 p none l)).2.2.1.length≤40:=fun p=>by
  cases hb:Fb (g.1.getD (r.1-1).toNat GP).1 p none l with
  |none=>show 0≤40;omega
  |some x=>
   have:=(FX.1 (eJ (b:=none) (fun x hx=>by cases hx) x hb)).len;unfold HP;dsimp only;split
   all_goals simp_all
 revert h0
 unfold B3;dsimp only;split
 ·omega
 rename_i hs;simp only[APN,APU,AMC,RE]at hs;have r3:=hs.2.1.n;split
 ·omega
 rename_i h1;simp only[ATI,AMi,AXv]at h1;have Lu:r.2.2.1.length<120:=by omega
 split
 ·simp_all
 split
 ·simp_all
 split
 ·omega
 split
 all_goals simp_all
theorem Nn.AYV{w:AA}(h:Nn w)(hr:Af A7 w.AW≤900000):fa w:=by
 have hc:=(Gh h.cfg).2.1;have Zf:w.1.length≤8:=hc;have a1:=GG (f:=Ak) (B:=10000) (N:=8) (l:=w.An) (by rw[h.qh];omega) fun s hs=>(h.Ux hs).w
 have a2:=Hq h.lost;have a3:=h.lj.w;have a4:=GG (f:=Ar) (B:=3000) h.rJ fun x hx=>(h.AH x hx).1.w
 have a5:=GG (f:=CL) (B:=5000) h.yC fun x hx=>(h.BW x hx).1.w
 have a7:=GG (f:=EC) (B:=40) h.Qp fun s hs=>(h.BK s hs).2.2
 refine⟨?_,fun s hs=>(h.Ux hs).sin,h.lj.tin,fun m hm=>(h.BW m hm).1.ein,fun s hs=>Jb (h.BK s hs).1⟩;have a3':Af CB w.Ac≤270:=a3;grind[Af,A7,Ak,CB,Ar,CL,EC,Cs]
def rA(w:AA)(a:Int):Nat:=(w.AW.getD a.toNat Au).2.2.1.length
theorem so{α:Type}{f:α→Nat}{x:α}:∀{l:List α} {i:Nat} (h:i<l.length),Af f (l.set i x)+f l[i]=Af f l+f x
 |y::l,0,_=>by simp[Af];omega
 |y::l,i+1,h=>by
  have:=so (f:=f) (x:=x) (l:=l) (i:=i) (by simp_all);grind[Af]
theorem sa{α:Type}{f:α→Nat}{x:α}:∀{l:List α},Af f (l++[x])=Af f l+(1+f x)
 |[]=>by simp[Af]
 |y::l=>by
  have:=sa (f:=f) (x:=x) (l:=l);grind[Af]
theorem wy{w:AA}{a k:Int}(h:Nn w)(e:(IK w a k).2=0):BN a 0 1=true∧Nn (IK w a k).1∧rA (IK w a k).1 a=rA w a+1∧rA w a<120∧
  rA (IK w a k).1 (1-a)=rA w (1-a)∧Af A7 (IK w a k).1.AW≤Af A7 w.AW+41:=by
 have Bq:=uk h e;unfold IK at e Bq⊢;split at e
 ·omega
 rename_i h1;rw[ALo h1]at Bq;rw[ALo h1];dsimp only at e Bq⊢;split at e
 ·omega
 rename_i h2;rw[ALo h2]at Bq;rw[ALo h2];simp only[ne_eq,AWt]at h2;simp only[APN,APU]at h1;have h1':=Ah.1 h1;have hl:a.toNat<w.AW.length:=by rw[h.mf];omega
 obtain⟨⟨ev,q1,q2⟩,q3⟩:=qX h2
 generalize hq:(B3 (AS w) (B5 w) (U0 w (w.AW.getD a.toNat Au).1) (w.AW.getD a.toNat Au) (answers w (D6 (w.AW.getD a.toNat Au).1 (w.AW.getD a.toNat Au).2.1) (Ao k))).1=q at q1 Bq
 have hg:(w.AW.set a.toNat q).getD a.toNat Au=q:=by simp_all
 have bd:(1-a).toNat≠a.toNat:=by omega
 refine⟨h1,Bq,?_,q3,?_,?_⟩
 ·show((w.AW.set a.toNat q).getD a.toNat Au).2.2.1.length=_
  grind[rA]
 ·show((w.AW.set a.toNat q).getD (1-a).toNat Au).2.2.1.length=_
  simp only[List.getD,ASj (Ne.symm bd)];rfl
 ·show Af A7 (w.AW.set a.toNat q)≤_
  have:=so (f:=A7) (x:=q) hl;have e1:A7 q=Af CM q.2.2.1:=rfl;have e2:A7 w.AW[a.toNat]=Af CM w.AW[a.toNat].2.2.1:=rfl;rw[q1,sa,OJ hl]at e1;have e3:CM ev=ev.2.2.1.length:=rfl;omega
structure HR (w v:AA) (a m:Int):Prop where
 ok:Nn v
 win:fa v
 stop:(IK v a 255).2≠0
 cnt:0≤m∧m≤120
 len:(rA v a:Int)=rA w a+m
 dZ:rA v (1-a)=rA w (1-a)
end Go.M
end
section
set_option maxRecDepth 8000
namespace Go.M
open Go.M.H (AJ AO As Ab AA CO AN A4 AM AY Az Av BS Ak CL Af AX Aa Aq CB BF Ar A7 EC CM Cs C9)
theorem iz{α:Type}{q:Nat}{v l:List α}(hq:q≤l.length)(hl:l.length+v.length≤2^30):xD (q:Int) v l=some (l.take q++v++l.drop q):=by
 unfold xD;rw[ALP ⟨by omega,by omega,by rw[BX];omega⟩,AMZ]
theorem xT{l:AAH}(ha:Tf id l)(hl:l.length≤2^30)(p:Int):∃q,jh id p l q∧
  GN l p=some ((((q:Int),(match l[q]? with|some e=>e==p|none=>false),()),()),()):=by
 have key:∀(n a b:Nat),a≤b→b≤l.length→b-a<n→(∀(i:Nat) (h:i<l.length),i<a→l[i]<p)→(∀(i:Nat) (h:i<l.length),b≤i→p≤l[i])→
   ∃q,jh id p l q∧Dm n l p l.length a b=some ((((q:Int),(match l[q]? with|some e=>e==p|none=>false),()),()),()):=by
  intro n
  induction n with
  |zero=>omega
  |succ n ih=>
   intro a b rh hb hn h1 h2;simp only[Dm,Jq,AB,cmp_Less_int,cmp_isNaN_int,Oy,bne_self_eq_false,AD,AMh];by_cases Lu:a<b
   ·have hm:(a+b)/2<l.length:=by omega
    rw[ALP (by omega),tw (by omega),ALP (by omega),Aj hm];by_cases hc:l[(a+b)/2]<p
    ·rw[ALP hc,AL (by omega) (by omega),show((((a+b)/2:Nat):Int)+1)=(((a+b)/2+1:Nat):Int)by omega]
     refine ih _ b (by omega) hb (by omega) (fun i h hi=> ?_) h2;have:=bF (f:=id) ha h hm (by omega);grind
    ·have hge:∀(i:Nat) (h:i<l.length),(a+b)/2≤i→p≤l[i]:=fun i h hi=>by
      have:=bF (f:=id) ha hm h hi;grind
     rw[ALo hc];exact ih a _ (by omega) (by omega) (by omega) h1 hge
   ·have ADd:a=b:=by omega
    subst ADd;refine⟨a,⟨hb,h1,h2⟩,?_⟩;rw[ALo (by omega)];by_cases ha':a<l.length
    ·rw[ALP (by omega),ALP (by omega),Aj ha',ALR ha']
     dsimp only;cases l[a]==p<;>simp[ha']
    grind
 obtain⟨q,hq,e⟩:=key Ae 0 l.length (by omega) (by omega) (Ag (by omega)) (fun i h hi=>by omega) (fun i h hi=>by omega);refine⟨q,hq,?_⟩;unfold GN Jr;omega
theorem pQ{x:Int}:∀{l:AAH} {q:Nat},jh id x l q→(∀h:q<l.length,l[q]≠x)→gS x l=l.take q++[x]++l.drop q
 |[],q,h,_=>by
  have:=h.le;have:q=0:=by simp_all
  subst this;rfl
 |y::l,0,h,hn=>by
  have h1:=h.ge 0 (by simp) (AQE _);have h2:=hn (by simp);simp only[AUM,id]at h1 h2;simp only[gS];grind
 |y::l,q+1,h,hn=>by
  have h1:=h.lt 0 (by simp) (by omega);simp only[AUM,id]at h1;simp only[gS];rw[ALo (by omega),pQ (l:=l) (q:=q) ⟨by have:=h.le;simp_all,fun i hi hiq=>by have:=h.lt (i+1) (by simp_all) (by omega);simp_all,fun i hi hiq=>by have:=h.ge (i+1) (by simp_all) (by omega);simp_all⟩ (fun hq=>by simp_all)];rfl
theorem Oq{l:AAH}{x:Int}(ha:Tf id l)(hl:l.length≤2^29):Kk l x=some (((),()),(JM x l,())):=by
 unfold Kk JM;rw[Ds (by omega)];simp only[AD];obtain⟨q,hq,e⟩:=xT ha (by omega) x;rw[e];simp only[AD,A5];by_cases hc:q<l.length
 ·rw[ALR hc]
  dsimp only;by_cases he:l[q]=x
  ·grind
  ·rw[APh.2 he,AMh]
   have hn:l.contains x=false:=by
    rw[ATi,ne_eq,AUs];intro hm;obtain⟨i,hi,rfl⟩:=AQQ hm;rcases Nat.lt_or_ge i q with hiq|hiq
    ·have:=hq.lt i hi hiq;simp_all
    ·have h1:=bF (f:=id) ha hc hi hiq
     have h2:=hq.ge q hc (AQE _);grind
   rw[hn,ALo (by simp)];grind[Jn,iz,pQ]
 ·rw[ATZ (by omega)]
  dsimp only;rw[AMh];have hn:l.contains x=false:=by
   rw[ATi,ne_eq,AUs];intro hm;obtain⟨i,hi,rfl⟩:=AQQ hm;have:=hq.lt i hi (by omega);simp_all
  rw[hn,ALo (by simp)];unfold Jn;rw[iz hq.le (by grind),pQ hq (fun h=>absurd h hc)];rfl
theorem wj{e:AJ}:∀{l:List AJ} {q:Nat},jh (fun x:AJ=>x.1) e.1 l q→Wr l→
  keep e l=if h:q<l.length then(if l[q].1=e.1 then l.set q (better l[q] e)else l.take q++[e]++l.drop q)else l++[e]
 |[],q,h,_=>by
  rfl
 |y::l,0,h,_=>by
  have h1:=h.ge 0 (by simp) (AQE _);simp only[AUM]at h1;simp only[keep,ANL,Nat.zero_lt_succ,AXe,AUM];grind
 |y::l,q+1,h,ha=>by
  have h1:=h.lt 0 (by simp) (by omega);simp only[AUM]at h1;have ih:=wj (e:=e) (l:=l) (q:=q) ⟨by have:=h.le;simp_all,fun i hi hiq=>by have:=h.lt (i+1) (by simp_all) (by omega);simp_all,fun i hi hiq=>by have:=h.ge (i+1) (by simp_all) (by omega);simp_all⟩ (AQb.1 ha).2;simp only[keep];grind
theorem bD{e:AJ}{l:List AJ}(ha:Wr l)(hl:l.length≤2^29):WS e l=some (((),()),((),keep e l,())):=by
 unfold WS;obtain⟨q,hq,hs⟩:=dv ha (by omega) e.1;rw[hs,wj hq ha];simp only[AD,A5];by_cases hc:q<l.length
 ·rw[dif_pos hc,ALR hc]
  dsimp only;have hb:(0:Int)≤(q:Int)∧(q:Int)<(l.length:Int):=by omega
  by_cases he:l[q].1=e.1
  ·rw[ATa.2 he,AMy,ALP he,ALP hb,Aj hc,show(l[q].1,l[q].2.1,l[q].2.2.1,l[q].2.2.2.1,())=l[q]from rfl,show(e.1,e.2.1,e.2.2.1,e.2.2.2.1,())=e from rfl,XL]
   simp_all
  ·rw[APh.2 he,AMh,ALo he]
   grind[Dx,iz]
 ·have hql:q=l.length:=by have:=hq.le;omega
  rw[dif_neg hc,ATZ (by omega)];dsimp only;rw[AMh];grind[Dx,iz,List.take_length,List.drop_length]
theorem MY{s:AO}(hw:Ak s≤2^30)(hs:qw s):Dl s=some (if CF s then((((),(),s.2.2.1,()),()),(s.1,s.2.1,()))else((((),(),0,()),()),([],[],()))):=by
 obtain⟨l1,l2⟩:=Fz hw;unfold Dl;rw[show(s.1,s.2.1,s.2.2.1,())=s from rfl,E6 hw hs,H9 l1 l2];grind
theorem lQ{s:AO}{e:AJ}(hw:Ak s≤2^30)(hs:qw s)(he:DH e.1):T7 s e=some (mP (GB s e)):=by
 obtain⟨l1,l2⟩:=Fz hw;unfold T7 GB;rw[show(s.1,s.2.1,s.2.2.1,())=s from rfl,show(e.1,e.2.1,e.2.2.1,e.2.2.2.1,())=e from rfl,E6 hw hs,MY hw hs,H9 l1 l2,QG he,EI he];simp only[AD,A5,AB,DI];cases h1:CF s with
 |false=>rfl
 |true=>
  have Bq:=DL.1 h1;have wC:=Bq.nl;cases h2:EZ e with
  |false=>rfl
  |true=>
   have hE:=(FX.1 h2).w0;simp only[AMy,AMn,AMO,AMH,AON,ATK];have lim:s.2.1.length+1≤Dw:=by rw[BX];omega
   by_cases h3:s.2.1.length=20
   ·rw[ALP (by omega),ATW (fun h=>h h3),AXH]
    rfl
   ·rw[ALo (by omega),AR7 (show s.2.1.length≠20 from h3),ATh]
    unfold takes;by_cases h4:e.2.1=0
    ·rw[ALP h4,ALP h4]
     by_cases h5:AQ e.1≤s.2.2.1
     ·rw[ALP h5,ATW (by omega)];rfl
     ·rw[ALo h5,ALo (by omega),ALP lim,AR7 (by omega)];rfl
    ·rw[ALo h4,ALo h4,ALP (by omega)]
     by_cases h5:e.2.1≤s.2.2.1
     ·rw[ALP h5,ATW (by omega)];rfl
     ·rw[ALo h5,ALP lim,AR7 (by omega)];rfl
theorem Xn{s:AO}{k:Int}(hw:Ak s≤2^30)(hs:qw s):Mj s k=some (mP (D9 s k)):=by
 obtain⟨l1,l2⟩:=Fz hw;unfold Mj TA D9;rw[show(s.1,s.2.1,s.2.2.1,())=s from rfl,E6 hw hs,MY hw hs,H9 l1 l2,Ax];simp only[AD,A5];cases h1:CF s with
 |false=>rfl
 |true=>
  have Bq:=DL.1 h1;have wC:=Bq.nl;have hnk:=Bq.nk;simp only[AMy,AMO,AMH,AON,ATK];cases h2:BN k 0 1048575 with
  |false=>rfl
  |true=>
   have hk:=Ah.1 h2;have AYj:0≤k∧k<2^63:=by omega
   simp only[AMy,AMn];have key:∀(n i:Nat) (b:List AJ),i≤s.2.1.length→s.2.1.length-i<n→b.length≤200+i→Wr b→
     Jc n k s.2.1 s.2.1.length i s.1 s.2.1 s.2.2.1 0 [] [] s.2.2.1 b []=
      some (mP (if decide ((Dd b (Ma k i (s.2.1.drop i))).length≤200)then((Dd b (Ma k i (s.2.1.drop i)),[],s.2.2.1,()),true)else(s,false))):=by
    intro n
    induction n with
    |zero=>omega
    |succ n ih=>
     intro i b hi hn hb rh;simp only[Jc,S8,AB];by_cases hc:i<s.2.1.length
     ·have AC_:=uV AYj (i:=i) (by omega)
      rw[ALP (by omega),ALP (by omega),ALo (by omega),AMZ,AC_,AB,OJ hc,AL (by omega) (by omega),show((i:Int)+1)=((i+1:Nat):Int)by omega,drop_cons hc];rw[show(s.2.1[i].1,s.2.1[i].2.1,s.2.1[i].2.2.1,s.2.1[i].2.2.2.1,())=s.2.1[i]from rfl,bD rh (by omega)];simp only[AD];rw[show Ma k i (s.2.1[i]::s.2.1.drop (i+1))=if(k/2^i)%2=1 then s.2.1[i]::Ma k (i+1) (s.2.1.drop (i+1))else Ma k (i+1) (s.2.1.drop (i+1))from rfl];by_cases hbt:(k/2^i)%2=1
      ·rw[ALP hbt,ALP hbt,ih (i+1) _ (by omega) (by omega) (by grind[Wp]) (UK rh)]
       rfl
      ·rw[ALo hbt,ALo hbt,ih (i+1) _ (by omega) (by omega) (by omega) rh]
     ·rw[ALo (by omega),AMo (by omega),show(s.1,s.2.1,s.2.2.1,())=s from rfl,H9 l1 l2]
      simp only[AD,Ma,Dd];by_cases hg:b.length≤200
      ·rw[ALo (by omega),ALP (AR7 hg)];rfl
      ·rw[ALP (by omega),ALo (by simp_all)];rfl
   have:=key Ae 0 s.1 (by omega) (Ag (by omega)) (by omega) Bq.gM;simp_all
theorem Ys{s:AO}(hw:Ak s≤2^30)(hs:qw s):Od s=some (mP (Cg s)):=by
 unfold Od Cg;rw[show(s.1,s.2.1,s.2.2.1,())=s from rfl,Xn hw hs];rfl
theorem jB{s:AO}{u:Int}(hw:Ak s≤2^30)(hs:qw s):N5 s u=some (mP (Bi s u)):=by
 unfold N5 Bi;rw[show(s.1,s.2.1,s.2.2.1,())=s from rfl,Ys hw hs,MY hw hs,Ax];simp only[AD,A5,mP];cases h1:CF s with
 |false=>
  grind[Cg,D9]
 |true=>
  grind
theorem ko{s:AO}{ep:Int}(hw:Ak s≤2^30)(hs:qw s):Pk s ep=some (((),()),(F8 s ep,())):=by
 obtain⟨l1,l2⟩:=Fz hw;unfold Pk VU F8;rw[show(s.1,s.2.1,s.2.2.1,())=s from rfl,E6 hw hs];simp only[AD,A5];cases h1:CF s with
 |false=>rfl
 |true=>
  have key:∀(n i:Nat) (b:List AJ),i≤s.1.length→s.1.length-i<n→b.length≤i→
    LV n ep s.1 s.1.length i b=some (((),()),(b++(s.1.drop i).filter (fun e=>AQ e.1==ep),())):=by
   intro n
   induction n with
   |zero=>omega
   |succ n ih=>
    intro i b hi hn hb;simp only[LV,Vl,AB];by_cases hc:i<s.1.length
    ·rw[ALP (by omega),ALP (by omega),Aj hc,EI (hs.1 _ (AMk hc)),AL (by omega) (by omega),show((i:Int)+1)=((i+1:Nat):Int)by omega,drop_cons hc,ATQ]
     simp only[AD];rw[ALP (by rw[BX];omega),show(s.1[i].1,s.1[i].2.1,s.1[i].2.2.1,s.1[i].2.2.2.1,())=s.1[i]from rfl,ih (i+1) _ (by omega) (by omega) (by simp_all),ih (i+1) b (by omega) (by omega) (by omega)];grind
    grind
  have:=key Ae 0 [] (by omega) (Ag (by omega)) (by simp);simp_all
end Go.M
end
section
set_option maxRecDepth 8000
namespace Go.M
open Go.M.H (AJ AO As Ab AA CO AN A4 AM AY Az Av BS Ak CL Af AX Aa Aq CB BF Ar A7 EC CM Cs C9)
theorem wE{x:AJ}{t:ABg}:PB (x.1,x.2.1,x.2.2.1,x.2.2.2.1,()) t=some ((decide (x.1≤t.1),()),()):=rfl
theorem dU{t:ADI}{l:List AJ}(hl:l.length≤2^30):Bt t l=some (((),()),((),l.filter (fun x=> !(decide (x.1≤t.1.1))),())):=by
 have key:∀(n i j:Nat) (b:List AJ),i≤j→j≤b.length→b.length≤2^30→b.length-j<n→BG n t i j b=some (((),()),((),b.take i++(b.drop j).filter (fun x=> !(decide (x.1≤t.1.1))),())):=by
  intro n
  induction n with
  |zero=>omega
  |succ n ih=>
   intro i j b zU hj hb hn;simp only[BG,DM,AB];by_cases hc:j<b.length
   ·rw[ALP (by omega),ALP (by omega),Aj hc,wE]
    simp only[AD];rw[AL (x:=(j:Int)+1) (by omega) (by omega),AL (x:=(i:Int)+1) (by omega) (by omega),show((j:Int)+1)=((j+1:Nat):Int)by omega,show((i:Int)+1)=((i+1:Nat):Int)by omega,drop_cons hc,ATQ];have n1:=ih (i+1) (j+1) (b.set i b[j]) (by omega) (by grind) (by simp_all) (by grind);have n2:=ih i (j+1) b (by omega) (by omega) hb (by omega);rw[show(t.1,())=t from rfl,n2];rw[AXn (by omega),ATV (by grind),AXo (AQE _),AWp,AM_,ATp]at n1;rw[ALP (by omega),AMZ,n1]
    generalize hx:b[j]=x
    cases(decide (x.1≤t.1.1))<;>rfl
   ·rw[ALo (by omega),AMo (i:=j) (by omega),AMZ,AMZ]
    simp_all;omega
 have fnd:∀(n i:Nat),i≤l.length→l.length-i<n→ ∃r:Int,BL n l t l.length i=some ((r,()),())∧((r= -1∧(l.drop i).filter (fun x=> !(decide (x.1≤t.1.1)))=l.drop i)∨ ∃q:Nat,r=q∧i≤q∧q<l.length∧((l.take q).drop i).filter (fun x=> !(decide (x.1≤t.1.1)))=(l.take q).drop i∧ ∀(h:q<l.length) x,x=l[q]→(decide (x.1≤t.1.1))=true):=by
  intro n
  induction n with
  |zero=>omega
  |succ n ih=>
   intro i hi hn;simp only[BL,DY,AB];by_cases hc:i<l.length
   ·rw[ALP (by omega),ALP (by omega),Aj hc,wE]
    simp only[AD];rw[AL (x:=(i:Int)+1) (by omega) (by omega),show((i:Int)+1)=((i+1:Nat):Int)by omega,show(t.1,())=t from rfl];obtain⟨r,e,hr⟩:=ih (i+1) (by omega) (by omega);rw[e]
    generalize hx:l[i]=x
    cases hp:(decide (x.1≤t.1.1))with
    |true=>
     grind
    |false=>
     refine⟨r,rfl,?_⟩;rcases hr with⟨h1,h2⟩|⟨q,h1,h2,h3,h4,h5⟩
     ·grind[drop_cons]
     ·refine .inr ⟨q,h1,by omega,h3,?_,h5⟩
      grind[drop_cons]
   grind
 obtain⟨r,e,hr⟩:=fnd Ae 0 (by omega) (Ag (by omega));rw[show((0:Nat):Int)=0 from rfl]at e;unfold Bt DU Cn DV;rw[show(t.1,())=t from rfl,e];simp only[AD];rcases hr with⟨h1,h2⟩|⟨q,h1,h2,h3,h4,h5⟩
 ·grind
 ·rw[h1,APh.2 (by omega),AMh,AL (by omega) (by omega),show((q:Int)+1)=((q+1:Nat):Int)by omega,key Ae q (q+1) l (by omega) (by omega) hl (Ag (by omega))]
  rw[ATN]at h4;have hd:=h5 h3 _ rfl;grind[List.take_append_drop,drop_cons]
theorem je{s:AO}{u:Int}(hw:Ak s≤2^30)(hs:qw s)(hu:DH u):RZ s u=some (mP (GI s u)):=by
 obtain⟨l1,l2⟩:=Fz hw;unfold RZ GI;rw[show(s.1,s.2.1,s.2.2.1,())=s from rfl,E6 hw hs,MY hw hs,H9 l1 l2,P1 hu];simp only[AD];cases CF s with
 |false=>rfl
 |true=>
  cases BR u with
  |false=>rfl
  |true=>
   rw[dU l1];simp only[AD,AMO,AMh,AMH,AON,ATK];rw[show(fun x:AJ=> !decide (x.1≤(((u,()),()):ADI).1.1))=fun e=>decide (e.1>u)from funext fun x=>by
    grind]
   rfl
theorem yV{p:Int}{n:Nat}:BN (AQ p) 1 n=(BR p&&decide (AQ p≤n)):=by
 cases h:BR p with
 |false=>
  unfold AQ;rw[h];rfl
 |true=>
  obtain⟨⟨h1,h2⟩,_⟩:=CJ h;unfold BN;simp_all
section
variable{c:CD} {r:AN} (hc:c.1.length≤2^40) (hl:Af CB r.1≤2^30) (ht:DH r.2.1)
include hc hl ht
theorem TW:EL c r=some (if Mk c r then((((),r.2.1,()),()),(r.1,()))else((((),0,()),()),([],()))):=by
 unfold EL;rw[show(c.1,c.2.1,())=c from rfl,show(r.1,r.2.1,())=r from rfl,M1 hc hl ht,Ho hl];grind
theorem nP{ns:AAH}(hn:ns.length≤2^30):L6 c r ns=some (((((),(Ig c r ns).1.2.1,()),(Ig c r ns).2.1,(Ig c r ns).2.2,()),()),((Ig c r ns).1.1,())):=by
 have l1:=AX (f:=CB) (l:=r.1);unfold L6 Ig;rw[show(c.1,c.2.1,())=c from rfl,show(r.1,r.2.1,())=r from rfl,M1 hc hl ht,TW hc hl ht,Ho hl,GY hc (by omega),Ds hn];simp only[AD];cases Mk c r with
 |false=>rfl
 |true=>
  cases holds c ns with
  |false=>rfl
  |true=>
   simp only[AMO,AMh,AMH,AON,AMn,ATK];by_cases h30:r.1.length=30
   ·simp_all
   ·rw[show((r.1.length:Int)==30)=false by grind,show decide (r.1.length≠30)=true by simp[h30],AMh,ALP (by rw[BX];omega)]
    simp
theorem jw{b last:Int}:Pj c r b last=some (pkR (Mo c r b last)):=by
 have l1:=AX (f:=CB) (l:=r.1);unfold Pj Mo;rw[show(c.1,c.2.1,())=c from rfl,show(r.1,r.2.1,())=r from rfl,M1 hc hl ht,TW hc hl ht,Ho hl,SL (by omega)];simp only[AD];rcases AKr (Mk c r)with hr|hr
 rotate_left
 ·rw[hr];rfl
 have Bq:=JE.1 hr;rw[hr];simp only[AMO,AMh,AMH,AON,ATK];by_cases h1:b=r.1.length
 rotate_left
 ·rw[show(b !=(r.1.length:Int))=true by simp_all,show decide (b=(r.1.length:Int))=false by simp_all]
  rfl
 rw[show(b !=(r.1.length:Int))=false by simp_all,show decide (b=(r.1.length:Int))=true by simp_all];simp only[AMh,AMn];by_cases h3:b=A8 r.1
 ·rw[show(A8 r.1==b)=true by simp_all,show decide (b≠A8 r.1)=false by simp_all,ATP,AXH]
  rfl
 have AK2:0<r.1.length:=by
  rcases AXa r.1.length with hz|hz
  ·exact absurd (by rw[h1,hz];unfold A8;rw[hz];rfl) h3
  omega
 obtain⟨k,k1,k2,k3,k4⟩:=Nu Bq AK2;rw[show(A8 r.1==b)=false by grind,show decide (b≠A8 r.1)=true by simp_all,show decide (A8 r.1≠0)=true by grind,Ax];simp only[AMh,AMn,AD];cases BN last 0 60 with
 |false=>rfl
 |true=>
  simp only[AMO,AMh,ATK];rw[k2,AL (by omega) (by omega),show((k:Int)+1-1)=(k:Int)by omega,ALP (by omega),ALP (by simp_all),AMZ];unfold pkR Ga;simp_all
theorem mU{p:Int}(hp:DH p):Vt c r p=some (pkR (MV c r p)):=by
 unfold Vt MV;rw[show(c.1,c.2.1,())=c from rfl,show(r.1,r.2.1,())=r from rfl,M1 hc hl ht,TW hc hl ht,Ho hl,EI hp];simp only[AD];rw[Ax,yV];simp only[AD];cases Mk c r with
 |false=>rfl
 |true=>
  cases BR p&&decide (AQ p≤(r.1.length:Int))with
  |false=>rfl
  |true=>
   simp only[AMO,AMh,AMH,AON,ATK];rw[show(if p>r.2.1 then p else r.2.1)=max r.2.1 p by omega];rfl
end
section
variable{c:CD} {w:AM} (hc:c.1.length≤2^40) (hl:Af BF w.2.1≤2^20)
include hc hl
theorem VT:EO c w=some (if FK c w then(((w.1,(),()),()),(w.2.1,()))else(((0,(),()),()),([],()))):=by
 unfold EO;rw[show(c.1,c.2.1,())=c from rfl,show(w.1,w.2.1,())=w from rfl,I7 hc (by omega),Jj (by show Af BF w.2.1≤2^30;omega)];grind
theorem iY{d:ACD}(hd:d.length≤2^20):Jh c w d=some (((((CI c w d).1.1,(),()),(CI c w d).2.1,(CI c w d).2.2,()),()),((CI c w d).1.2.1,())):=by
 have l1:=AX (f:=BF) (l:=w.2.1);unfold Jh CI;rw[show(c.1,c.2.1,())=c from rfl,show(w.1,w.2.1,())=w from rfl,Jj (by show Af BF w.2.1≤2^30;omega),VT hc hl];simp only[AD];rw[ALP (by rw[BX];omega),I7 hc (by omega),I7 hc (by
  grind[Af,BF,YH,List.length_nil])]
 grind
theorem iS{o n:Int}:Sa c w o n=some (pkW (RI c w o n)):=by
 have l1:=AX (f:=BF) (l:=w.2.1);unfold Sa RI;rw[show(c.1,c.2.1,())=c from rfl,show(w.1,w.2.1,())=w from rfl,I7 hc (by omega),VT hc hl,Jj (by show Af BF w.2.1≤2^30;omega),Ax,Ax];simp only[AD];rcases AKr (FK c w)with hw|hw
 rotate_left
 ·rw[hw];rfl
 have Bq:=IX.1 hw;have zt:=Gh Bq.cfg;rw[hw,AL (x:=(c.1.length:Int)-1) (by omega) (by omega)];simp only[AMO,AMh,AMH,AON,ATK];rcases AKr (BN o 1 (w.2.1.length:Int))with ho|ho
 rotate_left
 ·rw[ho];rfl
 have xG:=Ah.1 ho;rw[ho];have hi:(o-1).toNat<w.2.1.length:=by omega
 have AF6:w.2.1.getD (o-1).toNat LR∈w.2.1:=BJ (d:=LR) hi;have hm:(w.2.1.getD (o-1).toNat LR).1.length+(w.2.1.getD (o-1).toNat LR).2.1.length≤Af BF w.2.1:=Aa (f:=BF) AF6;have AFn:=(ER.1 (Bq.words _ AF6).2.1).2.2;simp only[AMO,AMh,AMn];rw[AL (x:=o-1) (by omega) (by omega),ALP (by omega)]
 show cond (w.2.1.getD (o-1).toNat LR).2.2.1 _ _=_
 cases(w.2.1.getD (o-1).toNat LR).2.2.1 with
 |true=>
  cases BN n 0 ((c.1.length:Int)-1)<;>rfl
 |false=>
  cases BN n 0 ((c.1.length:Int)-1)with
  |false=>rfl
  |true=>
   simp only[AMh,ATH,ATK,AMO,Bool.and_self];rw[ALP (by omega),show(w.2.1.getD (o-1).toNat ([],[],false,())).2.1=(w.2.1.getD (o-1).toNat LR).2.1 from rfl,Oq AFn (by omega)];simp only[AD];have hg:∀x:A4,(w.2.1.set (o-1).toNat x).getD (o-1).toNat ([],[],false,())=x:=fun x=>M0 hi
   rw[hg,GY hc (by
    grind[UZ,LR])]
   simp only[AD];rw[AXp];rfl
theorem ct{n:Int}:Ng c w n=some (pkW (CE c w n)):=by
 have l1:=AX (f:=BF) (l:=w.2.1);unfold Ng Q6 CE;rw[show(c.1,c.2.1,())=c from rfl,show(w.1,w.2.1,())=w from rfl,I7 hc (by omega),Jj (by show Af BF w.2.1≤2^30;omega)];simp only[AD];cases FK c w with
 |false=>rfl
 |true=>
  simp only[AMO,AMh,AMH,AON];have key:∀(k i:Nat),i≤w.2.1.length→w.2.1.length-i<k→Hj k n w.2.1 w.2.1.length i 0 [] w.1 ((w.2.1.map (Cx n)).take i++w.2.1.drop i)=some (pkW ((w.1,w.2.1.map (Cx n),()),true)):=by
   intro k
   induction k with
   |zero=>omega
   |succ k ih=>
    intro i hi hk;have hlen:((w.2.1.map (Cx n)).take i++w.2.1.drop i).length=w.2.1.length:=O6 hi;simp only[Hj,Qw,AB,hlen];by_cases Dh:i<w.2.1.length
    ·have c1:(0:Int)≤(i:Int)∧(i:Int)<(w.2.1.length:Int):=by omega
     have hm:w.2.1[i].1.length+w.2.1[i].2.1.length≤Af BF w.2.1:=Aa (f:=BF) (AMk Dh);have hg:((w.2.1.map (Cx n)).take i++w.2.1.drop i).getD ((i:Int).toNat) ([],[],false,())=w.2.1[i]:=Mt Dh;rw[ALP c1.2];simp only[ALP c1,hg];rw[Aj Dh,AL (by omega) (by omega),show((i:Int)+1)=((i+1:Nat):Int)by omega];rcases AKr (w.2.1[i].2.2.1)with hd|hd
     ·rw[hd]
      simp only[AMO,AMh];grind[jH,mR]
     ·rw[hd]
      simp only[ATH,AMy];rw[PS (by omega)];grind[AD,Int.toNat_natCast,P4,Cx]
    ·rw[ALo (by omega),AMo (by omega)]
     have:i=w.2.1.length:=by omega
     subst this;rw[AM3,ATT (by simp)];rfl
  have:=key Ae 0 (by omega) (Ag (by omega));simp_all
end
end Go.M
end
section
set_option maxRecDepth 8000
namespace Go.M
open Go.M.H (AJ AO As Ab AA CO AN A4 AM AY Az Av BS Ak Af AX Aa Aq CB BF Ar CL C9)
section
variable{c:CD} {m:As} (hc:c.1.length≤2^40) (hm:CL m≤2^20) (h:rE m.2.2.2.1)
include hc hm h
theorem Sb:Es c m=some (if G9 c m then(((m.1,m.2.1,(),(),m.2.2.2.2.1,(),()),()),(m.2.2.1,m.2.2.2.1,m.2.2.2.2.2.1,()))else(((0,0,(),(),false,(),()),()),([],[],[],()))):=by
 unfold Es;rw[show(c.1,c.2.1,())=c from rfl,show(m.1,m.2.1,m.2.2.1,m.2.2.2.1,m.2.2.2.2.1,m.2.2.2.2.2.1,())=m from rfl,Hn hc (by omega) h,HX (by omega)];grind
theorem nR{o n:Int}:O_ c m o n=some (ij (YV c m o n)):=by
 obtain⟨h1,h2,h3,h4⟩:=I2 hm;unfold O_ YV;rw[show(c.1,c.2.1,())=c from rfl,show(m.1,m.2.1,m.2.2.1,m.2.2.2.1,m.2.2.2.2.1,m.2.2.2.2.2.1,())=m from rfl,Hn hc (by omega) h,Sb hc hm h,HX (by omega),Ax,Ax];simp only[AD];rcases AKr (G9 c m)with hw|hw
 rotate_left
 ·rw[hw];rfl
 have Bq:=HS.1 hw;have zt:=Gh Bq.cfg;rw[hw,AL (x:=(c.1.length:Int)-1) (by omega) (by omega)];simp only[AMO,AMh,AMH,AON,ATK];rcases AKr (BN o 1 (m.2.2.2.2.2.1.length:Int))with ho|ho
 rotate_left
 ·rw[ho];rfl
 have xG:=Ah.1 ho;rw[ho];cases BN n 0 ((c.1.length:Int)-1)with
 |false=>rfl
 |true=>
  have hi:(o-1).toNat<m.2.2.2.2.2.1.length:=by omega
  have AF6:=BJ (d:=([]:AAH)) hi;have hq:=h4 _ AF6;have AFn:=(ER.1 (Bq.wrote _ AF6)).2.2;simp only[AMO,AMh,AMn,ATK];rw[AL (by omega) (by omega),ALP (by omega),Oq AFn (by omega)];simp only[AD];rw[ALP (by omega)];rfl
theorem gC{n:Int}:P5 c m n=some (ij (CA c m n)):=by
 obtain⟨h1,h2,h3,h4⟩:=I2 hm;unfold P5 S5 CA;rw[show(c.1,c.2.1,())=c from rfl,show(m.1,m.2.1,m.2.2.1,m.2.2.2.1,m.2.2.2.2.1,m.2.2.2.2.2.1,())=m from rfl,Hn hc (by omega) h,HX (by omega)];simp only[AD];cases G9 c m with
 |false=>rfl
 |true=>
  simp only[AMO,AMh,AMH,AON];have key:∀(k i:Nat),i≤m.2.2.2.2.2.1.length→m.2.2.2.2.2.1.length-i<k→JY k n m.2.2.2.2.2.1 m.2.2.2.2.2.1.length i 0 0 false [] [] [] m.1 m.2.1 m.2.2.2.2.1 m.2.2.1 m.2.2.2.1 ((m.2.2.2.2.2.1.map (fun l=>less l [n])).take i++m.2.2.2.2.2.1.drop i)=
    some (ij ((m.1,m.2.1,m.2.2.1,m.2.2.2.1,m.2.2.2.2.1,m.2.2.2.2.2.1.map (fun l=>less l [n]),()),true)):=by
   intro k
   induction k with
   |zero=>omega
   |succ k ih=>
    intro i hi hk;have hlen:=O6 (f:=fun l=>less l [n]) hi;simp only[JY,Sl,AB,hlen];by_cases Dh:i<m.2.2.2.2.2.1.length
    ·have c1:(0:Int)≤(i:Int)∧(i:Int)<(m.2.2.2.2.2.1.length:Int):=by omega
     have hq:=h4 _ (AMk Dh);rw[ALP c1.2];simp only[ALP c1];rw[Aj Dh,AL (by omega) (by omega),show((i:Int)+1)=((i+1:Nat):Int)by omega,PS (by omega)];simp only[AD];rw[AMZ,P4 Dh rfl];grind
    ·rw[ALo (by omega),AMo (by omega)]
     have:i=m.2.2.2.2.2.1.length:=by omega
     subst this;rw[AM3,ATT (by simp)];rfl
  have:=key Ae 0 (by omega) (Ag (by omega));simp_all
theorem jL:OX c m=some ((PF c m,()),()):=by
 obtain⟨h1,h2,h3,h4⟩:=I2 hm;unfold OX UU PF;rw[show(c.1,c.2.1,())=c from rfl,show(m.1,m.2.1,m.2.2.1,m.2.2.2.1,m.2.2.2.2.1,m.2.2.2.2.2.1,())=m from rfl,Hn hc (by omega) h];simp only[AD];cases G9 c m with
 |false=>rfl
 |true=>
  rcases AKr m.2.2.2.2.1 with hp|hp
  rotate_left
  ·simp_all
  have key:∀(k i:Nat),i≤m.2.2.2.2.2.1.length→m.2.2.2.2.2.1.length-i<k→KJ k m.2.2.2.2.2.1 m.2.2.2.2.2.1.length i c.1 c.2.1=some (((m.2.2.2.2.2.1.drop i).all (holds c),()),()):=by
   intro k
   induction k with
   |zero=>omega
   |succ k ih=>
    intro i hi hk;simp only[KJ,UP,AB];by_cases Dh:i<m.2.2.2.2.2.1.length
    ·have c1:(0:Int)≤(i:Int)∧(i:Int)<(m.2.2.2.2.2.1.length:Int):=by omega
     have hq:=h4 _ (AMk Dh);rw[ALP c1.2,ALP c1,AL (by omega) (by omega),show((i:Int)+1)=((i+1:Nat):Int)by omega,Aj Dh,drop_cons Dh,show(c.1,c.2.1,())=c from rfl,GY hc (by omega),ih (i+1) (by omega) (by omega)];simp only[AD,ATl];cases holds c m.2.2.2.2.2.1[i]<;>rfl
    grind
  have:=key Ae 0 (by omega) (Ag (by omega));simp_all
omit hc h in
theorem YO{o:Int}:Je m o=some ((((De m o).getD Dt,(De m o).isSome,()),()),()):=by
 obtain⟨h1,h2,h3,h4⟩:=I2 hm;unfold Je Um De;rw[H8];simp only[AD];cases m.2.2.2.2.1 with
 |false=>
  simp only[ATP,AMH,AON,ATH,AMy];cases(BN m.2.1 1 30&&BN o 1 60)<;>rfl
 |true=>
  simp only[AMO,AMh,AMn];rcases AKr (BN m.2.1 1 30)with he|he
  rotate_left
  ·rw[he];rfl
  rcases AKr (BN o 1 60)with ho|ho
  rotate_left
  ·rw[he,ho];rfl
  have hp:Gd m.2.1 o=D6 m.2.1 o:=by unfold Gd;rw[he,ho];rfl
  rw[he,ho,hp];simp only[ATh,AMO,AMh,AMn];by_cases hl:o≤m.2.2.2.2.2.1.length
  ·rw[show decide (o>(m.2.2.2.2.2.1.length:Int))=false by simpa using hl,show decide (o≤(m.2.2.2.2.2.1.length:Int))=true by simpa using hl]
   simp only[AMh,ATK];have key:∀(k i:Nat),i≤m.2.2.2.1.length→m.2.2.2.1.length-i<k→KT k (D6 m.2.1 o) m.2.2.2.1 m.2.2.2.1.length i m.1 m.2.1 m.2.2.1 m.2.2.2.1 true m.2.2.2.2.2.1 0 0 false []=
     some ((((match Ep (D6 m.2.1 o) (m.2.2.2.1.drop i)with
      |some x=>(D6 m.2.1 o,m.1,x.2.2.1,x.2.2.2.1,())
      |none=>(D6 m.2.1 o,m.1,true,[],())),true,()),()),()):=by
    intro k
    induction k with
    |zero=>intro i _ h;omega
    |succ k ih=>
     intro i hi hk;simp only[KT,Uh,AB];by_cases Dh:i<m.2.2.2.1.length
     ·have c1:(0:Int)≤(i:Int)∧(i:Int)<(m.2.2.2.1.length:Int):=by omega
      rw[ALP c1.2,ALP c1,AL (by omega) (by omega),show((i:Int)+1)=((i+1:Nat):Int)by omega,Aj Dh,drop_cons Dh,ih (i+1) (by omega) (by omega)];unfold Ep;rw[ATw];cases hx:m.2.2.2.1[i].1==D6 m.2.1 o<;>rfl
     ·rw[ALo (by omega),AMo (by omega)]
      rfl
   have:=key Ae 0 (by omega) (Ag (by omega));rw[show((0:Nat):Int)=0 from rfl,ATN]at this;rw[this];cases Ep (D6 m.2.1 o) m.2.2.2.1<;>rfl
  ·rw[show decide (o>(m.2.2.2.2.2.1.length:Int))=true by simp;omega,show decide (o≤(m.2.2.2.2.2.1.length:Int))=false by simp;omega]
   rfl
theorem lf{s:AAH}(hs:s.length≤2^20):Pw c m s=some (ij (IP c m s)):=by
 obtain⟨h1,h2,h3,h4⟩:=I2 hm;unfold Pw IP;rw[show(c.1,c.2.1,())=c from rfl,show(m.1,m.2.1,m.2.2.1,m.2.2.2.1,m.2.2.2.2.1,m.2.2.2.2.2.1,())=m from rfl,Hn hc (by omega) h,Sb hc hm h,HX (by omega),cO (by omega) h];simp only[AD];rcases AKr (G9 c m)with Bq|Bq
 rotate_left
 ·rw[Bq];rfl
 have hmo:=HS.1 Bq;rw[Bq];simp only[ATK];rcases AKr m.2.2.2.2.1 with hp|hp
 ·rw[hp]
  simp only[AMO,AMh,AMy,ATP,AMH,AON,ij,hp]
 have xw:(m.2.2.1.filter s.contains).length≤m.2.2.1.length:=ASR _ _;rw[hp];simp only[AMO,ATH,AMh,AMH,AON,AMn];rw[bM (by omega) (by omega)];simp only[AD];rw[cu hc (by omega) hs];simp only[AD];cases Ji c s (m.2.2.1.filter s.contains)with
 |false=>simp[ij,hp]
 |true=>
  simp only[AMO,AMh,ATK];have hlb:=Gj (l:=m.2.2.2.1);rw[ALP ⟨hlb.1,ATO _,by rw[BX];omega⟩];rfl
theorem kV{n:Int}{l:List AJ}(hl:l.length≤2^20)(PY:rE l)(hw:Af Aq l≤2^20):Px c m n l=some (ij (K3 c m n l)):=by
 obtain⟨h1,h2,h3,h4⟩:=I2 hm;unfold Px VV K3;rw[show(c.1,c.2.1,())=c from rfl,show(m.1,m.2.1,m.2.2.1,m.2.2.2.1,m.2.2.2.2.1,m.2.2.2.2.2.1,())=m from rfl,Hn hc (by omega) h,Sb hc hm h,HX (by omega)];simp only[AD];rcases AKr (G9 c m)with Bq|Bq
 rotate_left
 ·rw[Bq];rfl
 have hmo:=HS.1 Bq;have AFn:=(ER.1 hmo.fK).2.2;rw[Bq];simp only[AMO,AMh,AMH,AON,ATK];rcases AKr m.2.2.2.2.1 with hp|hp
 ·grind[ij]
 rw[hp,Oq AFn (by omega)];simp only[AD,AMh,ATH,AMn];have key:∀(k i:Nat) (b:List AJ),i≤l.length→l.length-i<k→b.length≤2^20+i→Wr b→rE b→Af Aq b+Af Aq (l.drop i)≤2^21→
   Lk k l l.length i c.1 c.2.1 m.1 m.2.1 m.2.2.1 m.2.2.2.1 false m.2.2.2.2.2.1 0 0 false [] [] [] m.1 m.2.1 false (JM n m.2.2.1) b m.2.2.2.2.2.1=
   some (ij (if G9 c (m.1,m.2.1,JM n m.2.2.1,Dd b ((l.drop i).filter fun e=>AQ e.1==m.2.1),false,m.2.2.2.2.2.1,())then
    ((m.1,m.2.1,JM n m.2.2.1,Dd b ((l.drop i).filter fun e=>AQ e.1==m.2.1),false,m.2.2.2.2.2.1,()),true)else(m,false))):=by
  intro k
  induction k with
  |zero=>omega
  |succ k ih=>
   intro i b hi hk hb rh hbi hbw;simp only[Lk,VW,AB];by_cases Dh:i<l.length
   ·have c1:(0:Int)≤(i:Int)∧(i:Int)<(l.length:Int):=by omega
    rw[ALP c1.2];simp only[ALP c1];rw[AL (by omega) (by omega),show((i:Int)+1)=((i+1:Nat):Int)by omega,Aj Dh,drop_cons Dh,show(l[i].1,l[i].2.1,l[i].2.2.1,l[i].2.2.2.1,())=l[i]from rfl,EI (PY _ (AMk Dh)),bD rh (by omega)];rw[drop_cons Dh]at hbw;simp only[Af]at hbw;simp only[AD,ATQ];rcases AKr (AQ l[i].1==m.2.1)with he|he
    ·simp only[he,AMy,ATK,Dd]
     have:=Wp (e:=l[i]) (l:=b);have hwk:=yN l[i] b;exact ih (i+1) _ (by omega) (by omega) (by omega) (UK rh) (fun x hx=>by
      rcases dt hx with rfl|hx
      ·exact PY _ (AMk Dh)
      ·exact hbi x hx) (by omega)
    grind
   ·rw[ALo (by omega),AMo (by omega),show(c.1,c.2.1,())=c from rfl,HX (m:=(m.1,m.2.1,m.2.2.1,m.2.2.2.1,false,m.2.2.2.2.2.1,())) (by
     grind)]
    simp only[AXm,Dd];rw[AMo (by omega)]at hbw;simp only[Af]at hbw;have lR:=UZ (n:=n) (l:=m.2.2.1);have hb2:=AX (f:=Aq) (l:=b);rw[Hn (m:=(m.1,m.2.1,JM n m.2.2.1,b,false,m.2.2.2.2.2.1,())) hc (by
     grind[CL]) hbi]
    grind[AD,G9,JM,ij]
 have hsw:Af Aq m.2.2.2.1≤2^20:=by
  grind[CL]
 have:=key Ae 0 m.2.2.2.1 (by omega) (Ag (by omega)) (by omega) hmo.gM h (by grind);simp_all
end
end Go.M
end
section
set_option maxRecDepth 8000
namespace Go.M
open Go.M.H (AJ AO As Ab AA CO AN A4 AM AY Az Av BS Ak Af AX Aa Aq CB BF Ar CL C9)
theorem qD{c:CD}{l:AAH}(hc:c.1.length≤2^20)(hl:l.length≤2^20):X7 c l=some ((Ay c l&& !holds c l,()),()):=by
 unfold X7;rw[show(c.1,c.2.1,())=c from rfl,EH (by omega) (by omega),GY (by omega) (by omega)];grind
theorem rF{ss:List AO}(hs:ss.length≤1024)(h:∀s∈ss,s.1.length≤1024)(hw:∀s∈ss,Ak s≤2^30)(PY:∀s∈ss,qw s)(Bq:∀s∈ss,CF s=true):gg ss=some (((),()),(Ff [] ss,())):=by
 have key:∀n:Nat,
   (∀(i:Nat) (b:List AJ),i≤ss.length→(ss.length-i)*1026+1≤n→b.length≤i*1024→Wr b→
    M5 n ss ss.length i b=some (((),()),(Ff b (ss.drop i),())))∧
   (∀(i j:Nat) (b:List AJ),(hi:i<ss.length)→j≤ss[i].1.length→(ss.length-i-1)*1026+1+(ss[i].1.length-j)+1≤n→b.length≤i*1024+j→Wr b→
    M6 n ss ss.length i ss[i].1 ss[i].1.length j b=some (((),()),(Ff (Dd b (ss[i].1.drop j)) (ss.drop (i+1)),()))):=by
  intro n
  induction n with
  |zero=>simp_all
  |succ n ih=>
   refine⟨fun i b hi h' hb rh=> ?_,fun i j b hi hj h' hb rh=> ?_⟩
   ·simp only[M5,Zo,AB]
    by_cases hc:i<ss.length
    ·have hmm:=AMk hc
     have hm:=h _ hmm;rw[ALP (by omega),ALP (by omega),Aj hc,show(ss[i].1,ss[i].2.1,ss[i].2.2.1,())=ss[i]from rfl,E6 (hw _ hmm) (PY _ hmm),Bq _ hmm];have e1:(ss.length-i)*1026=(ss.length-i-1)*1026+1026:=by
      omega
     have:=ih.2 i 0 b hc (by omega) (by omega) (by omega) rh;rw[show((0:Nat):Int)=0 from rfl,ATN]at this;simp only[AD,AMO,AMh];rw[this,drop_cons hc];rfl
    ·rw[ALo (by omega),AMo (by omega)]
     rfl
   ·have hm:=h _ (AMk hi)
    simp only[M6,Zr,AB];have hbb:i*1024≤2^20:=by
     omega
    by_cases hc:j<ss[i].1.length
    ·have c2:(0:Int)≤(j:Int)∧(j:Int)<(ss[i].1.length:Int):=by omega
     rw[ALP c2.2,ALP c2,Aj hc,show(ss[i].1[j].1,ss[i].1[j].2.1,ss[i].1[j].2.2.1,ss[i].1[j].2.2.2.1,())=ss[i].1[j]from rfl,bD rh (by omega)];simp only[AD];rw[AL (by omega) (by omega),show((j:Int)+1)=((j+1:Nat):Int)by omega,drop_cons hc];have hk:=Wp (e:=ss[i].1[j]) (l:=b);exact ih.2 i (j+1) _ hi (by omega) (by omega) (by omega) (UK rh)
    ·rw[ALo (by omega),AL (by omega) (by omega),show((i:Int)+1)=((i+1:Nat):Int)by omega,AMo (by omega)]
     exact ih.1 (i+1) b (by omega) (by grind) (by omega) rh
 have hf:(ss.length-0)*1026+1≤Ae:=by
  have:ss.length*1026≤1024*1026:=AOi _ hs;exact ATy (Ag (by omega))
 exact(key Ae).1 0 [] (by omega) hf (by simp) List.Pairwise.nil
theorem uY{c:CD}{ss:List AO}{lost:AAH}{n upto:Int}(hc:c.1.length≤2^20)(hs:ss.length≤1024)(hn:∀s∈ss,s.1.length≤1024)(hw:Af Ak ss≤2^24)(PY:∀s∈ss,qw s)(hl:lost.length≤2^20):
  Zm c lost n upto ss=some (pkF ss (Xf c ss lost n upto)):=by
 have hfs:Xf c ss lost n upto=xU (Ej c&&(decide (ss.length=c.1.length)&&(Ay c lost&&(!holds c lost&&(lost.contains n&&((others lost 0 ss).all CF&&CF (Ff [] (others lost 0 ss),[],upto,()))))))) (Ff [] (others lost 0 ss),[],upto,()):=rfl;rw[hfs];unfold Zm cF;rw[show(c.1,c.2.1,())=c from rfl,qD hc hl,Iv (by omega)];simp only[AD,A5,Cv];have key:∀(k i:Nat) (o:List AO),(∀s∈o,s∈ss)→(∀s∈o,CF s=true)→i≤ss.length→ss.length-i<k→o.length≤i→Af Ak o+Af Ak (ss.drop i)≤2^24→
   Ru k lost upto ss.length i ss 0 [] [] o=some (pkF ss (xU ((others lost i (ss.drop i)).all CF&&CF (Ff [] (o++others lost i (ss.drop i)),[],upto,())) (Ff [] (o++others lost i (ss.drop i)),[],upto,()))):=by
  intro k
  induction k with
  |zero=>omega
  |succ k ih=>
   intro i o ho Bq hi h hol how;simp only[Ru,bq,AB,A5];by_cases Dh:i<ss.length
   ·have c1:(0:Int)≤(i:Int)∧(i:Int)<(ss.length:Int):=by omega
    have c2:o.length+1≤Dw:=by rw[BX];omega
    have hmm:=AMk Dh;have Ade:=Aa (f:=Ak) hmm;rw[drop_cons Dh]at how;simp only[Af]at how;rw[ALP c1.2,ALP c1,Iv (by omega),Aj Dh,show(ss[i].1,ss[i].2.1,ss[i].2.2.1,())=ss[i]from rfl,E6 (by omega) (PY _ hmm),AL (by omega) (by omega),show((i:Int)+1)=((i+1:Nat):Int)by omega];simp only[AD];rw[drop_cons Dh];simp only[others];rcases AKr (lost.contains (i:Int))with hb|hb
    ·rw[hb]
     simp only[AMy,ATK];exact ih (i+1) o ho Bq (by omega) (by omega) (by omega) (by omega)
    ·rw[hb]
     simp only[AMh,AMH,AON];rcases AKr (CF ss[i])with hg|hg
     ·rw[hg]
      simp only[AMy,ATl,hg,AMn];rw[ALP c2,ih (i+1) (o++[ss[i]]) (fun s hs=>by
       grind) (fun s hs=>by
       grind) (by omega) (by omega) (by simp_all) (by grind[YH,Af])]
      simp_all
     ·rw[hg]
      simp only[AMh,ATl,hg,ATP];rfl
   ·have hu:=zd (l:=o) (k:=[])
    simp only[Af]at hu;have Ada:Af Ak o≤2^24:=by omega
    rw[ALo (by omega),AMo (by omega),rF (by omega) (fun s hs=>hn s (ho s hs)) (fun s hs=>by grind[Aa,Ak]) (fun s hs=>PY s (ho s hs)) Bq];simp only[AD,others,AM3,List.all_nil,AMn];rw[E6 (s:=(Ff [] o,[],upto,())) (by show Af Aq (Ff [] o)+Af Aq []≤_;grind[Af]) ⟨fun e he=>by
     rcases lS he with he|⟨t,ht,he⟩
     ·simp_all
     ·exact(PY t (ho t ht)).1 e he,fun e he=>by simp_all⟩]
    simp only[AD];rcases AKr (CF (Ff [] o,[],upto,()))with hb|hb<;>rw[hb]<;>rfl
 have:=key Ae 0 [] (by simp) (by simp) (by omega) (Ag (by omega)) (by simp) (by grind[Af]);rw[show((0:Nat):Int)=0 from rfl,ATN,ATL]at this;rw[this];rcases AKr (Ay c lost)with h1|h1
 rotate_left
 ·rw[h1]
  by_cases h2:ss.length=c.1.length
  ·rw[ALP (by omega)]
   simp only[ATP,AXH,AMh];rfl
  ·rw[ALo (by omega)]
   simp only[ATP,AXH];rfl
 have zt:Ej c=true:=(ER.1 h1).1;rw[h1,zt];simp only[AMn];by_cases h2:ss.length=c.1.length
 rotate_left
 ·rw[ALo (by omega),ATW h2]
  rfl
 rw[ALP (by omega),AR7 h2];simp only[AMn];cases holds c lost with
 |true=>rfl
 |false=>
  cases lost.contains n with
  |false=>rfl
  |true=>rfl
end Go.M
end
section
set_option maxRecDepth 8000
namespace Go.M
open Go.M.H (AJ AO As Ab AA CO AN A4 AM AY Az Av BS Ak CL Af AX Aa Aq CB BF Ar A7 EC CM Cs C9)
def AYz(q:AA×Int):YY:=((q.2,()),(((),q.1.2.1,(),(),(),q.1.2.2.2.2.2.1,(),(),(),(),q.1.2.2.2.2.2.2.2.2.2.2.1,()),q.1.1,q.1.2.2.1,q.1.2.2.2.1,(),(),(),q.1.2.2.2.2.2.2.2.2.1,q.1.2.2.2.2.2.2.2.2.2.1,q.1.2.2.2.2.1,q.1.2.2.2.2.2.2.1,q.1.2.2.2.2.2.2.2.1,()))
def AT7(q:AA×Int):aA:=((q.2,()),(((),q.1.2.1,(),(),(),q.1.2.2.2.2.2.1,(),(),(),(),q.1.2.2.2.2.2.2.2.2.2.2.1,()),q.1.1,q.1.2.2.1,q.1.2.2.2.1,q.1.2.2.2.2.1,q.1.2.2.2.2.2.2.1,q.1.2.2.2.2.2.2.2.1,q.1.2.2.2.2.2.2.2.2.1,(),q.1.2.2.2.2.2.2.2.2.2.1,()))
def AIL(q:AA×Int):Gl:=((q.2,()),(((),q.1.2.1,(),(),(),q.1.2.2.2.2.2.1,(),(),(),(),q.1.2.2.2.2.2.2.2.2.2.2.1,()),q.1.1,q.1.2.2.1,(),q.1.2.2.2.2.1,q.1.2.2.2.2.2.2.1,q.1.2.2.2.2.2.2.2.1,q.1.2.2.2.2.2.2.2.2.1,q.1.2.2.2.2.2.2.2.2.2.1,q.1.2.2.2.1,()))
def AZ5(q:AA×Int):YR:=((q.2,()),(((),q.1.2.1,(),(),(),q.1.2.2.2.2.2.1,(),(),(),(),q.1.2.2.2.2.2.2.2.2.2.2.1,()),q.1.1,q.1.2.2.1,q.1.2.2.2.1,q.1.2.2.2.2.1,q.1.2.2.2.2.2.2.1,(),q.1.2.2.2.2.2.2.2.2.1,q.1.2.2.2.2.2.2.2.2.2.1,q.1.2.2.2.2.2.2.2.1,()))
def AZW(q:AA×Int):Wj:=((q.2,()),(((),q.1.2.1,(),(),(),q.1.2.2.2.2.2.1,(),(),(),(),q.1.2.2.2.2.2.2.2.2.2.2.1,()),q.1.1,q.1.2.2.1,q.1.2.2.2.1,(),q.1.2.2.2.2.2.2.1,(),q.1.2.2.2.2.2.2.2.2.1,q.1.2.2.2.2.2.2.2.2.2.1,q.1.2.2.2.2.1,q.1.2.2.2.2.2.2.2.1,()))
theorem vH{m:As}{b:Int}{e:AJ}(h:De m b=some e):DH e.1:=by
 unfold De at h;split at h
 ·rename_i hc
  simp only[AMC,Ah]at hc;grind[I5,Jb]
 simp_all
theorem jX{α:Type}{l:List α}{i:Nat}{d:α}:l.set i (l.getD i d)=l:=by
 by_cases h:i<l.length
 ·simp_all
 grind[List.set_eq_of_length_le]
def pz(w:AA)(n ep:Int):Int:=if Al w n=0 then if(Ap w.Ac ep).contains n then 0 else 2 else Al w n
section
variable{w:AA} (h:Nn w)
include h
theorem Qa{n ep:Int}(he:DH ep):Dj w n ep=some ((pz w n ep,()),()):=by
 have k:=h.nums;have k1:=k.c;have k2:=k.wr;have k3:=k.lost;have k4:=k.st;have Z6:=k.aN;have iI:=k.Js;have js:=k.iH;have k5:=k.era;have k7:=k.aX;unfold Dj pz;rw[LI (by omega) (by omega),show(w.2.2.2.2.1,w.2.2.2.2.2.1,())=B5 w from rfl,O5 (r:=B5 w) (by show Af CB w.2.2.2.2.1≤_;omega) he];have UR:(Ap w.Ac ep).length≤8:=Gk h;rw[show(B5 w).1=w.Ac from rfl];simp only[AD,DI];rw[Iv (by omega)];grind
theorem X0{n:Int}{e:AJ}(hn:Al w n=0)(he:DH e.1):Lc n e w.2.1 w.2.2.2.2.2.1 w.2.2.2.2.2.2.2.2.2.2.1 w.1 w.2.2.1 w.2.2.2.1 w.2.2.2.2.1 w.2.2.2.2.2.2.1 w.2.2.2.2.2.2.2.1 w.2.2.2.2.2.2.2.2.1 w.2.2.2.2.2.2.2.2.2.1=some (j5 (putAt w n (GB (storeAt w n) e))):=by
 obtain⟨hr,s1,s2,s3⟩:=h.LX hn;have Ze:w.2.2.1.getD n.toNat ([],[],0,())=storeAt w n:=rfl;unfold Lc putAt;simp only[ALP hr,Ze];rw[show((storeAt w n).1,(storeAt w n).2.1,(storeAt w n).2.2.1,())=storeAt w n from rfl,show(e.1,e.2.1,e.2.2.1,e.2.2.2.1,())=e from rfl,lQ s1 s2 he];simp only[AD,mP,PE];cases(GB (storeAt w n) e).2<;>rfl
theorem gI{a:Int}:KC a w.2.1 w.2.2.2.2.2.1 w.2.2.2.2.2.2.2.2.2.2.1 w.1 w.2.2.1 w.2.2.2.1 w.2.2.2.2.1 w.2.2.2.2.2.2.1 w.2.2.2.2.2.2.2.1 w.2.2.2.2.2.2.2.2.1 w.2.2.2.2.2.2.2.2.2.1=some (AYz (MD w a)):=by
 have k:=h.nums;have k1:=k.c;have k2:=k.wr;have k3:=k.lost;have k4:=k.st;have Z6:=k.aN;have iI:=k.Js;have js:=k.iH;have k5:=k.era;have k7:=k.aX;unfold KC MD;rw[DI];by_cases h4:w.2.2.2.2.2.2.1.length=4
 ·rw[ALP (by omega),ALP h4];rfl
 have hm:(Ao a).length≤8:=wh;rw[ALo (by omega),ALo h4,YU];simp only[AD];rw[show(w.1,w.2.1,())=AS w from rfl,show(w.2.2.2.2.1,w.2.2.2.2.2.1,())=B5 w from rfl,nP (c:=AS w) (r:=B5 w) (by show w.1.length≤_;omega) (by show Af CB w.2.2.2.2.1≤_;omega) k.trim (by omega)];simp only[AD,A5];rcases AKr (Ig (AS w) (B5 w) (Ao a)).2.2 with hq|hq
 ·rw[hq,ALP (by rw[BX];omega),F4];rfl
 ·rw[hq,Im];rfl
theorem fA{d:BS}:I6 d w.2.1 w.2.2.2.2.2.1 w.2.2.2.2.2.2.2.2.2.2.1 w.1 w.2.2.1 w.2.2.2.1 w.2.2.2.2.1 w.2.2.2.2.2.2.1 w.2.2.2.2.2.2.2.1 w.2.2.2.2.2.2.2.2.1 w.2.2.2.2.2.2.2.2.2.1=some (j5 (Ih w d.2.1 d.2.2.1 d.2.2.2.1)):=by
 have k:=h.nums;have k1:=k.c;have k2:=k.wr;have k3:=k.lost;have k4:=k.st;have Z6:=k.aN;have iI:=k.Js;have js:=k.iH;have k5:=k.era;have k7:=k.aX;unfold I6 Ih;rw[show(w.1,w.2.1,w.2.2.1,w.2.2.2.1,w.2.2.2.2.1,w.2.2.2.2.2.1,w.2.2.2.2.2.2.1,w.2.2.2.2.2.2.2.1,w.2.2.2.2.2.2.2.2.1,w.2.2.2.2.2.2.2.2.2.1,w.2.2.2.2.2.2.2.2.2.2.1,())=w from rfl,AL (x:=(w.2.2.2.2.2.2.1.length:Int)-1) (by omega) (by omega),Ax];simp only[AD,A5,Cv];rw[show BN d.2.1 0 ((w.2.2.2.2.2.2.1.length:Int)-1)=BN d.2.1 0 ((w.AH.length:Int)-1)from rfl];rcases AKr (BN d.2.1 0 ((w.AH.length:Int)-1))with h1|h1
 rotate_left
 ·rw[h1,Im];rfl
 obtain⟨x1,x2,x3⟩:=h.de h1;rw[h1,AMy,F4,ALP x1,Ax];simp only[AD];rw[show w.2.2.2.2.2.2.1.getD d.2.1.toNat (0,[],())=w.AH.getD d.2.1.toNat Bv from rfl]
 generalize hx:w.AH.getD d.2.1.toNat Bv=x at*
 rcases AKr (BN d.2.2.1 1 (x.2.1.length:Int))with h2|h2
 rotate_left
 ·rw[h2,Im];rfl
 have h2':=Ah.1 h2;have hxl:=x2.n;have hxe:=x2.ep;have lR:=I5 (e:=x.1) (o:=d.2.2.1) hxe (by omega);have hpm:Gd x.1 d.2.2.1=D6 x.1 d.2.2.1:=by
  grind[Gd,Ah]
 rw[h2,AMy,F4,Qa h ⟨by omega,by omega⟩,H8,hpm,AL (by omega) (by omega)];simp only[AD,ALP (show(0:Int)≤d.2.2.1-1∧d.2.2.1-1<(x.2.1.length:Int)by omega)];unfold pz;by_cases h3:Al w d.2.2.2.1=0
 rotate_left
 ·rw[ALo h3,ALo h3,ALP h3];rfl
 rw[ALP h3,ALo (show¬(Al w d.2.2.2.1≠0)from fun hh=>hh h3)];rcases AKr ((Ap w.Ac x.1).contains d.2.2.2.1)with h5|h5
 rotate_left
 ·rw[h5,Im];rfl
 rw[h5,F4,ALP rfl,ALP rfl,X0 h h3 (Jb lR.1)];rfl
theorem fB{n k:Int}:On n k w.2.1 w.2.2.2.2.2.1 w.2.2.2.2.2.2.2.2.2.2.1 w.1 w.2.2.1 w.2.2.2.1 w.2.2.2.2.1 w.2.2.2.2.2.2.1 w.2.2.2.2.2.2.2.1 w.2.2.2.2.2.2.2.2.1 w.2.2.2.2.2.2.2.2.2.1=some (j5 (IY w n k)):=by
 have kk:=h.nums;have k1:=kk.c;have k2:=kk.wr;have k3:=kk.lost;have k4:=kk.st;have Z6:=kk.aN;have iI:=kk.Js;have js:=kk.iH;have k5:=kk.era;have k7:=kk.aX;unfold On IY;rw[show(w.1,w.2.1,w.2.2.1,w.2.2.2.1,w.2.2.2.2.1,w.2.2.2.2.2.1,w.2.2.2.2.2.2.1,w.2.2.2.2.2.2.2.1,w.2.2.2.2.2.2.2.2.1,w.2.2.2.2.2.2.2.2.2.1,w.2.2.2.2.2.2.2.2.2.2.1,())=w from rfl,LI (by omega) (by omega)];simp only[AD,Cv];by_cases h3:Al w n=0
 rotate_left
 ·rw[ALo h3,ALP h3];rfl
 obtain⟨hr,s1,s2,s3⟩:=h.LX h3;have Ze:w.2.2.1.getD n.toNat ([],[],0,())=storeAt w n:=rfl;rw[ALP h3,ALo (show¬(Al w n≠0)from fun hh=>hh h3)];simp only[ALP hr,Ze];rw[show((storeAt w n).1,(storeAt w n).2.1,(storeAt w n).2.2.1,())=storeAt w n from rfl,Xn s1 s2];simp only[AD,mP,PE];unfold putAt;rcases AKr (D9 (storeAt w n) k).2 with hq|hq
 ·rw[hq];rfl
 ·have e:(D9 (storeAt w n) k).1=storeAt w n:=by
   unfold D9 at hq⊢;rw[DL.2 s3]at hq⊢;grind
  rw[hq,e];have:w.2.2.1.set n.toNat ((storeAt w n).1,(storeAt w n).2.1,(storeAt w n).2.2.1,())=w.2.2.1:=jX;rw[this];rfl
theorem eZ{n:Int}:Ol n w.2.1 w.2.2.2.2.2.1 w.2.2.2.2.2.2.2.2.2.2.1 w.1 w.2.2.1 w.2.2.2.1 w.2.2.2.2.1 w.2.2.2.2.2.2.1 w.2.2.2.2.2.2.2.1 w.2.2.2.2.2.2.2.2.1 w.2.2.2.2.2.2.2.2.2.1=some (j5 (Ie w n)):=by
 have k:=h.nums;have k1:=k.c;have k2:=k.wr;have k3:=k.lost;have k4:=k.st;have Z6:=k.aN;have iI:=k.Js;have js:=k.iH;have k5:=k.era;have k7:=k.aX;unfold Ol Ie;rw[show(w.1,w.2.1,w.2.2.1,w.2.2.2.1,w.2.2.2.2.1,w.2.2.2.2.2.1,w.2.2.2.2.2.2.1,w.2.2.2.2.2.2.2.1,w.2.2.2.2.2.2.2.2.1,w.2.2.2.2.2.2.2.2.2.1,w.2.2.2.2.2.2.2.2.2.2.1,())=w from rfl,LI (by omega) (by omega)];simp only[AD,Cv];by_cases h3:Al w n=0
 rotate_left
 ·rw[ALo h3,ALP h3];rfl
 obtain⟨hr,s1,s2,s3⟩:=h.LX h3;have Ze:w.2.2.1.getD n.toNat ([],[],0,())=storeAt w n:=rfl;rw[ALP h3,ALo (show¬(Al w n≠0)from fun hh=>hh h3)];simp only[ALP hr,Ze];rw[show((storeAt w n).1,(storeAt w n).2.1,(storeAt w n).2.2.1,())=storeAt w n from rfl,je s1 s2 k.trim];simp only[AD,mP,PE];unfold putAt;rw[show w.trim=w.2.2.2.2.2.1 from rfl];rcases AKr (GI (storeAt w n) w.2.2.2.2.2.1).2 with hq|hq
 ·rw[hq];rfl
 ·have e:(GI (storeAt w n) w.2.2.2.2.2.1).1=storeAt w n:=by
   unfold GI at hq⊢;rw[DL.2 s3]at hq⊢;grind
  rw[hq,e];have:w.2.2.1.set n.toNat ((storeAt w n).1,(storeAt w n).2.1,(storeAt w n).2.2.1,())=w.2.2.1:=jX;rw[this];rfl
theorem gu:P7 w.2.1 w.2.2.2.2.2.1 w.2.2.2.2.2.2.2.2.2.2.1 w.1 w.2.2.1 w.2.2.2.1 w.2.2.2.2.1 w.2.2.2.2.2.2.1 w.2.2.2.2.2.2.2.1 w.2.2.2.2.2.2.2.2.1 w.2.2.2.2.2.2.2.2.2.1=some (AZ5 (MN w)):=by
 have k:=h.nums;have k1:=k.c;have k2:=k.wr;have k3:=k.lost;have k4:=k.st;have Z6:=k.aN;have iI:=k.Js;have js:=k.iH;have k5:=k.era;have k7:=k.aX;unfold P7 MN;rw[show(w.2.2.2.2.1,w.2.2.2.2.2.1,())=B5 w from rfl,SL (r:=B5 w) (by show w.2.2.2.2.1.length≤_;omega)];simp only[AD,DI,AB];rw[show(B5 w).1=w.Ac from rfl];by_cases h1:(w.2.2.2.2.1.length:Int)<2
 ·rw[ALP h1,show(decide ((w.2.2.2.2.1.length:Int)<2)||decide (A8 w.2.2.2.2.1=(w.2.2.2.2.1.length:Int)))=true by simp_all];rfl
 rw[ALo h1];by_cases h2:A8 w.2.2.2.2.1=(w.2.2.2.2.1.length:Int)
 ·rw[ALP h2,show(decide ((w.2.2.2.2.1.length:Int)<2)||decide (A8 w.2.2.2.2.1=(w.2.2.2.2.1.length:Int)))=true by simp_all];rfl
 rw[ALo h2,show(decide ((w.2.2.2.2.1.length:Int)<2)||decide (A8 w.2.2.2.2.1=(w.2.2.2.2.1.length:Int)))=false by simp_all];rw[ALo (show¬(false=true)by simp)];by_cases h3:w.2.2.2.2.2.2.2.1.length>0
 ·rw[ALP (by omega),ALP h3];rfl
 ·rw[ALo (by omega),ALo h3];rfl
theorem gh{n:Int}:J5 n w.2.1 w.2.2.2.2.2.1 w.2.2.2.2.2.2.2.2.2.2.1 w.1 w.2.2.1 w.2.2.2.1 w.2.2.2.2.1 w.2.2.2.2.2.2.1 w.2.2.2.2.2.2.2.1 w.2.2.2.2.2.2.2.2.1 w.2.2.2.2.2.2.2.2.2.1=some (AIL (MW w n)):=by
 have k:=h.nums;have k1:=k.c;have k2:=k.wr;have k3:=k.lost;have k4:=k.st;have Z6:=k.aN;have iI:=k.Js;have js:=k.iH;have k5:=k.era;have k7:=k.aX;have k6:=k.ws;unfold J5 MW;rw[show(w.1,w.2.1,w.2.2.1,w.2.2.2.1,w.2.2.2.2.1,w.2.2.2.2.2.1,w.2.2.2.2.2.2.1,w.2.2.2.2.2.2.2.1,w.2.2.2.2.2.2.2.2.1,w.2.2.2.2.2.2.2.2.2.1,w.2.2.2.2.2.2.2.2.2.2.1,())=w from rfl,AL (x:=(w.2.2.1.length:Int)-1) (by omega) (by omega),AL (x:=(w.2.2.2.2.1.length:Int)-1) (by omega) (by omega),Ax];simp only[AD,A5];rcases AKr (w.lost.contains n)with hl|hl
 rotate_left
 ·rw[hl]
  have e:C6 w n=some ((w.lost.contains n,()),()):=Zj (by omega);rw[e,hl];cases BN n 0 ((w.2.2.1.length:Int)-1)<;>rfl
 have PY:=(ER.1 h.lost).2.1 n (by simp_all);have hn1:BN n 0 ((w.2.2.1.length:Int)-1)=true:=Ah.2 ⟨PY.1,by
  have:n<(w.1.length:Int):=PY.2;omega⟩
 have Afa:=Ah.1 hn1;rw[hn1,show C6 w n=some ((w.lost.contains n,()),())from Zj (by omega),hl,F4];simp only[AD,AMy];rw[show(if(0:Int)>(w.2.2.2.2.1.length:Int)-1 then 0 else(w.2.2.2.2.1.length:Int)-1)=max ((w.Ac.length:Int)-1) 0 by
  grind]
 have AVg:∀s∈w.2.2.1,fg s:=fun s hs=>h.Ux hs
 rw[show(w.1,w.2.1,())=AS w from rfl,uY (c:=AS w) (by show w.1.length≤_;omega) (by omega) (fun s hs=>by have:=(AVg s hs).nk;omega) (by omega) (fun s hs=>(AVg s hs).sin) (by omega)];simp only[AD,pkF];rw[show Xf (AS w) w.An w.lost n (max ((w.Ac.length:Int)-1) 0)=Xf (AS w) w.2.2.1 w.2.2.2.1 n (max ((w.Ac.length:Int)-1) 0)from rfl];rcases AKr (Xf (AS w) w.2.2.1 w.2.2.2.1 n (max ((w.Ac.length:Int)-1) 0)).2 with hq|hq
 rotate_left
 ·rw[hq,Im];rfl
 rw[hq,AMy,F4,ALP (by omega),PS (by omega)];rfl
theorem fk{n:Int}:Jx n w.2.1 w.2.2.2.2.2.1 w.2.2.2.2.2.2.2.2.2.2.1 w.1 w.2.2.1 w.2.2.2.1 w.2.2.2.2.1 w.2.2.2.2.2.2.1 w.2.2.2.2.2.2.2.1 w.2.2.2.2.2.2.2.2.1 w.2.2.2.2.2.2.2.2.2.1=some (j5 (MX w n)):=by
 have k:=h.nums;have k1:=k.c;have k2:=k.wr;have k3:=k.lost;have k4:=k.st;have Z6:=k.aN;have iI:=k.Js;have js:=k.iH;have k5:=k.era;have k7:=k.aX;unfold Jx MX;rcases hm:w.BW with _|⟨m,ms⟩
 ·rw[DI,ALP (by simp_all)];rfl
 have oH:w.2.2.2.2.2.2.2.1=m::ms:=hm;have vf:w.2.2.2.2.2.2.2.1.length=ms.length+1:=by simp_all
 have g0:w.2.2.2.2.2.2.2.1.getD 0 (0,0,[],[],false,[],())=m:=by simp_all
 have zD:(0:Int)≤(0:Int)∧(0:Int)<(w.2.2.2.2.2.2.2.1.length:Int):=by omega
 have ZM:=(h.BW m (by simp_all)).1;have hmw:=ZM.w;have oh:=ZM.ep;have hmb:=ZM.b;simp only[DI,A5,Cv,ALP zD,g0];rw[ALo (by omega)];rw[show(w.1,w.2.1,w.2.2.1,w.2.2.2.1,w.2.2.2.2.1,w.2.2.2.2.2.1,w.2.2.2.2.2.2.1,w.2.2.2.2.2.2.2.1,w.2.2.2.2.2.2.2.2.1,w.2.2.2.2.2.2.2.2.2.1,w.2.2.2.2.2.2.2.2.2.2.1,())=w from rfl,Qa h ⟨by omega,by omega⟩];simp only[AD];unfold pz;by_cases h3:Al w n=0
 rotate_left
 ·rw[ALo h3,ALo h3,ALP h3];rfl
 obtain⟨hr,s1,s2,s3⟩:=h.LX h3;have Ze:w.2.2.1.getD n.toNat ([],[],0,())=storeAt w n:=rfl;have hn3: ¬(Al w n≠0):=fun hh=>hh h3
 rw[ALP h3,ALo hn3];simp only[ALP hr,Ze];rcases AKr ((Ap w.Ac m.2.1).contains n)with h5|h5
 rotate_left
 ·rw[h5,Im];rfl
 rw[h5,F4,ALP rfl,ALP rfl,AL (by omega) (by omega),show((storeAt w n).1,(storeAt w n).2.1,(storeAt w n).2.2.1,())=storeAt w n from rfl,jB s1 s2];have hq:=xl (u:=m.1-1) s3;have hqw:=hq.w;simp only[AD,mP];rw[show((Bi (storeAt w n) (m.1-1)).1.1,(Bi (storeAt w n) (m.1-1)).1.2.1,(Bi (storeAt w n) (m.1-1)).1.2.2.1,())=(Bi (storeAt w n) (m.1-1)).1 from rfl,ko (by omega) hq.sin];simp only[AD];have hes:(F8 (Bi (storeAt w n) (m.1-1)).1 m.2.1).length≤200∧rE (F8 (Bi (storeAt w n) (m.1-1)).1 m.2.1)∧Af Aq (F8 (Bi (storeAt w n) (m.1-1)).1 m.2.1)≤10000:=by
  unfold F8;rw[DL.2 hq,ALP rfl];refine⟨AQ4 (ASR _ _) hq.nk,fun e he=>hq.sin.1 e (ATU.1 he).1,AQ4 kQ ?_⟩;have:Ak (Bi (storeAt w n) (m.1-1)).1=Af Aq (Bi (storeAt w n) (m.1-1)).1.1+Af Aq (Bi (storeAt w n) (m.1-1)).1.2.1:=rfl;omega
 rw[show(m.1,m.2.1,m.2.2.1,m.2.2.2.1,m.2.2.2.2.1,m.2.2.2.2.2.1,())=m from rfl,show(w.1,w.2.1,())=AS w from rfl,kV (c:=AS w) (by show w.1.length≤_;omega) (by omega) ZM.ein (by omega) hes.2.1 (by omega)];simp only[AD,ij];rcases AKr (Bi (storeAt w n) (m.1-1)).2 with h6|h6
 rotate_left
 ·rw[h6,ATH,AXg,ALP rfl];rfl
 rw[h6,AMO,ASZ];rcases AKr (K3 (AS w) m n (F8 (Bi (storeAt w n) (m.1-1)).1 m.2.1)).2 with h7|h7
 rotate_left
 ·rw[h7,Im];rfl
 rw[h7,F4,AMy,AMy,oH];rfl
theorem gH:KA w.2.1 w.2.2.2.2.2.1 w.2.2.2.2.2.2.2.2.2.2.1 w.1 w.2.2.1 w.2.2.2.1 w.2.2.2.2.1 w.2.2.2.2.2.2.1 w.2.2.2.2.2.2.2.1 w.2.2.2.2.2.2.2.2.1 w.2.2.2.2.2.2.2.2.2.1=some (j5 (L4 w)):=by
 have k:=h.nums;have k1:=k.c;have k2:=k.wr;have k3:=k.lost;have k4:=k.st;have Z6:=k.aN;have iI:=k.Js;have js:=k.iH;have k5:=k.era;have k7:=k.aX;unfold KA L4;rcases hm:w.BW with _|⟨m,ms⟩
 ·rw[DI,ALP (by simp_all)];rfl
 have oH:w.2.2.2.2.2.2.2.1=m::ms:=hm;have vf:w.2.2.2.2.2.2.2.1.length=ms.length+1:=by simp_all
 have g0:w.2.2.2.2.2.2.2.1.getD 0 (0,0,[],[],false,[],())=m:=by simp_all
 have zD:(0:Int)≤(0:Int)∧(0:Int)<(w.2.2.2.2.2.2.2.1.length:Int):=by omega
 have ZM:=(h.BW m (by simp_all)).1;have hmw:=ZM.w;have oh:=ZM.ep;simp only[DI,A5,Cv,ALP zD,g0];rw[ALo (by omega)];rw[show(w.2.2.2.2.1,w.2.2.2.2.2.1,())=B5 w from rfl,O5 (r:=B5 w) (by show Af CB w.2.2.2.2.1≤_;omega) ⟨by omega,by omega⟩];have UR:(Ap w.Ac m.2.1).length≤8:=Gk h;rw[show(B5 w).1=w.Ac from rfl];simp only[AD];rw[show(m.1,m.2.1,m.2.2.1,m.2.2.2.1,m.2.2.2.2.1,m.2.2.2.2.2.1,())=m from rfl,show(w.1,w.2.1,())=AS w from rfl,lf (c:=AS w) (by show w.1.length≤_;omega) (by omega) ZM.ein (by omega)];simp only[AD,ij,PE];rcases AKr (IP (AS w) m (Ap w.Ac m.2.1)).2 with h6|h6
 ·rw[h6,F4,oH];rfl
 ·have e:(IP (AS w) m (Ap w.Ac m.2.1)).1=m:=by
   unfold IP at h6⊢;rw[HS.2 ZM]at h6⊢;grind
  rw[h6,Im,e,oH]
  show some ((4,()),_,_,_,_,_,_,(m::ms),_)=some ((4,()),_,_,_,_,_,_,w.2.2.2.2.2.2.2.1,_)
  rw[oH]
theorem jj{b n:Int}:R0 b n w.2.1 w.2.2.2.2.2.1 w.2.2.2.2.2.2.2.2.2.2.1 w.1 w.2.2.1 w.2.2.2.1 w.2.2.2.2.1 w.2.2.2.2.2.2.1 w.2.2.2.2.2.2.2.1 w.2.2.2.2.2.2.2.2.1 w.2.2.2.2.2.2.2.2.2.1=some (j5 (SV w b n)):=by
 have k:=h.nums;have k1:=k.c;have k2:=k.wr;have k3:=k.lost;have k4:=k.st;have Z6:=k.aN;have iI:=k.Js;have js:=k.iH;have k5:=k.era;have k7:=k.aX;unfold R0 SV;rcases hm:w.BW with _|⟨m,ms⟩
 ·rw[DI,ALP (by simp_all)];rfl
 have oH:w.2.2.2.2.2.2.2.1=m::ms:=hm;have vf:w.2.2.2.2.2.2.2.1.length=ms.length+1:=by simp_all
 have g0:w.2.2.2.2.2.2.2.1.getD 0 (0,0,[],[],false,[],())=m:=by simp_all
 have zD:(0:Int)≤(0:Int)∧(0:Int)<(w.2.2.2.2.2.2.2.1.length:Int):=by omega
 have ZM:=(h.BW m (by simp_all)).1;have hmw:=ZM.w;have oh:=ZM.ep;simp only[DI,A5,Cv,ALP zD,g0];rw[ALo (by omega),show(m.1,m.2.1,m.2.2.1,m.2.2.2.1,m.2.2.2.2.1,m.2.2.2.2.2.1,())=m from rfl,YO (by omega)];simp only[AD];rcases he:De m b with _|e
 ·rfl
 simp only[ATb,ATY,AMy];rw[show(w.1,w.2.1,w.2.2.1,w.2.2.2.1,w.2.2.2.2.1,w.2.2.2.2.2.1,w.2.2.2.2.2.2.1,w.2.2.2.2.2.2.2.1,w.2.2.2.2.2.2.2.2.1,w.2.2.2.2.2.2.2.2.2.1,w.2.2.2.2.2.2.2.2.2.2.1,())=w from rfl,Qa h ⟨by omega,by omega⟩];simp only[AD];unfold pz;by_cases h3:Al w n=0
 rotate_left
 ·rw[ALo h3,ALo h3,ALP h3];rfl
 rw[ALP h3,ALo (show¬(Al w n≠0)from fun hh=>hh h3)];rcases AKr ((Ap w.Ac m.2.1).contains n)with h5|h5
 rotate_left
 ·rw[h5,Im];rfl
 rw[h5,F4,ALP rfl,ALP rfl,show(e.1,e.2.1,e.2.2.1,e.2.2.2.1,())=e from rfl,X0 h h3 (vH he)];rfl
theorem ed:I4 w.2.1 w.2.2.2.2.2.1 w.2.2.2.2.2.2.2.2.2.2.1 w.1 w.2.2.1 w.2.2.2.1 w.2.2.2.2.1 w.2.2.2.2.2.2.1 w.2.2.2.2.2.2.2.1 w.2.2.2.2.2.2.2.2.1 w.2.2.2.2.2.2.2.2.2.1=some (AZW (Ik w)):=by
 have k:=h.nums;have k1:=k.c;have k2:=k.wr;have k3:=k.lost;have k4:=k.st;have Z6:=k.aN;have iI:=k.Js;have js:=k.iH;have k5:=k.era;have k7:=k.aX;unfold I4 Ik;rcases hm:w.BW with _|⟨m,ms⟩
 ·rw[DI,ALP (by simp_all)];rfl
 have oH:w.2.2.2.2.2.2.2.1=m::ms:=hm;have vf:w.2.2.2.2.2.2.2.1.length=ms.length+1:=by simp_all
 have g0:w.2.2.2.2.2.2.2.1.getD 0 (0,0,[],[],false,[],())=m:=by simp_all
 have zD:(0:Int)≤(0:Int)∧(0:Int)<(w.2.2.2.2.2.2.2.1.length:Int):=by omega
 have ZM:=(h.BW m (by simp_all)).1;have hmw:=ZM.w;simp only[DI,A5,Cv,ALP zD,g0];rw[ALo (by omega),show(m.1,m.2.1,m.2.2.1,m.2.2.2.1,m.2.2.2.2.1,m.2.2.2.2.2.1,())=m from rfl,show(w.1,w.2.1,())=AS w from rfl,show(w.2.2.2.2.1,w.2.2.2.2.2.1,())=B5 w from rfl,jL (c:=AS w) (by show w.1.length≤_;omega) (by omega) ZM.ein];simp only[AD];rcases AKr (PF (AS w) m)with h6|h6
 rotate_left
 ·rw[h6,Im];rfl
 rw[h6,F4,AMy,jw (c:=AS w) (r:=B5 w) (by show w.1.length≤_;omega) (by show Af CB w.2.2.2.2.1≤_;omega) k.trim];simp only[AD,pkR,PE];rcases AKr (Mo (AS w) (B5 w) m.1 (m.2.2.2.2.2.1.length:Int)).2 with h7|h7
 ·rw[h7,AMy,F4];rfl
 ·rw[h7,AMh,Im];rfl
end
end Go.M
end
section
set_option maxRecDepth 8000
namespace Go.M
open Go.M.H (AJ AO As Ab AA CO AN A4 AM AY Az Av BS Ak CL Af AX Aa Aq CB BF Ar A7 EC CM Cs C9)
abbrev nS(l:List Ab):Prop:=Tf (fun s:Ab=>s.1) l
abbrev ACB(p:Int)(l:List Ab)(q:Nat):Prop:=jh (fun s:Ab=>s.1) p l q
def Z2(p:Int)(l:List Ab)(q:Nat):Bool:=match l[q]? with|some e=>e.1==p|none=>false
theorem lx{l:List Ab}(ha:nS l)(hl:l.length≤2^30)(hp:∀s∈l,0≤s.1∧s.1<2^40){p:Int}(hpp:0≤p∧p<2^40):∃q,ACB p l q∧
  BQ l p=some ((((q:Int),Z2 p l q,()),()),()):=by
 have key:∀(n a b:Nat),a≤b→b≤l.length→b-a<n→(∀(i:Nat) (h:i<l.length),i<a→l[i].1<p)→(∀(i:Nat) (h:i<l.length),b≤i→p≤l[i].1)→
   ∃q,ACB p l q∧Aw n l p l.length a b=some ((((q:Int),Z2 p l q,()),()),()):=by
  intro n
  induction n with
  |zero=>omega
  |succ n ih=>
   intro a b rh hb hn h1 h2;simp only[Aw,Cm,AB,Kw,AD];by_cases Lu:a<b
   ·have hm:(a+b)/2<l.length:=by omega
    have hq:=hp _ (AMk hm);rw[ALP (by omega),tw (by omega),ALP (by omega),Aj hm,AL (by omega) (by omega)];by_cases hc:l[(a+b)/2].1<p
    ·rw[ALP (by omega),AL (by omega) (by omega),show((((a+b)/2:Nat):Int)+1)=(((a+b)/2+1:Nat):Int)by omega]
     refine ih _ b (by omega) hb (by omega) (fun i h hi=> ?_) h2;exact Int.lt_of_le_of_lt (bF (f:=fun s:Ab=>s.1) ha h hm (by omega)) hc
    ·rw[ALo (by omega)]
     exact ih a _ (by omega) (by omega) (by omega) h1 fun i h hi=>Int.le_trans (by omega) (bF (f:=fun s:Ab=>s.1) ha hm h hi)
   ·have ADd:a=b:=by omega
    subst ADd;refine⟨a,⟨hb,h1,h2⟩,?_⟩;rw[ALo (by omega)];unfold Z2;by_cases ha':a<l.length
    ·have hq:=hp _ (AMk ha')
     rw[ALP (by omega),ALP (by omega),Aj ha',ALR ha',AL (by omega) (by omega)];dsimp only;by_cases hd:l[a].1=p
     ·simp_all
     ·rw[APh.2 hd,APh.2 (by omega:l[a].1-p≠0)]
    grind
 obtain⟨q,hq,e⟩:=key Ae 0 l.length (by omega) (by omega) (Ag (by omega)) (fun i h hi=>by omega) (fun i h hi=>by omega);refine⟨q,hq,?_⟩;unfold BQ Ck;omega
theorem xV{p:Int}{l:List Ab}{q:Nat}(h:Z2 p l q=true):∃hq:q<l.length,l[q].1=p:=by
 unfold Z2 at h;grind
theorem tT{p:Int}{l:List Ab}{q:Nat}(hp:ACB p l q)(ha:nS l)(h:Z2 p l q=false):∀s∈l,s.1≠p:=by
 intro s hs e;obtain⟨i,hi,rfl⟩:=List.mem_iff_getElem.1 hs;have h1:=hp.lt i hi;by_cases hiq:i<q
 ·omega
 ·have hq:q<l.length:=by omega
  have h3:p≤l[q].1:=hp.ge q hq (AQE _);have h4:=bF (f:=fun s:Ab=>s.1) ha hq hi (by omega);grind[Z2,List.getElem?_eq_getElem,beq_eq_false_iff_ne]
theorem AHw{p:Int}{l:List Ab}{q:Nat}(hp:ACB p l q)(ha:nS l):(l.any fun s=>s.1==p)=Z2 p l q:=by
 rcases AKr (Z2 p l q)with h|h
 ·obtain⟨hq,e⟩:=xV h
  grind
 ·rw[h,List.any_eq_false]
  intro s hs;grind[tT]
def Qb(p:Int)(l:List Ab):List Ab:=l.map fun s=>if s.1=p then(s.1,s.2.1,true,())else s
theorem AAg{p:Int}{l:List Ab}(h:∀s∈l,s.1≠p):Qb p l=l:=by
 unfold Qb
 conv=>rhs;rw[←List.map_id l]
 refine ATR fun s hs=> ?_
 grind
theorem AFw{p:Int}:∀{l:List Ab} {q:Nat} (hq:q<l.length),nS l→l[q].1=p→l.set q (l[q].1,l[q].2.1,true,())=Qb p l
 |[],q,hq,_,_=>by rfl
 |s::l,0,_,ha,e=>by
  have h1:=AQb.1 ha;have e':s.1=p:=e;have h2:Qb p l=l:=AAg fun y hy=>by grind
  show(s.1,s.2.1,true,())::l=(if s.1=p then(s.1,s.2.1,true,())else s)::Qb p l
  simp_all
 |s::l,q+1,hq,ha,e=>by
  have h1:=AQb.1 ha;have hq':q<l.length:=by grind
  have e':l[q].1=p:=e;have h3:s.1<l[q].1:=h1.1 _ (AMk hq');have h4:s.1≠p:=by omega
  have:=AFw hq' h1.2 e'
  show s::l.set q (l[q].1,l[q].2.1,true,())=(if s.1=p then(s.1,s.2.1,true,())else s)::Qb p l
  simp_all
theorem sm_at{p:Int}{l:List Ab}:∀{s:Ab},s∈Qb p l→ ∃t∈l,t.1=s.1:=by
 intro s hs;obtain⟨t,ht,rfl⟩:=ATd.1 hs;grind
theorem APw{p:Int}{l:List Ab}(h:nS l):nS (Qb p l):=by
 unfold Qb nS Tf;grind
theorem ASv{p:Int}{l:List Ab}:(Qb p l).length=l.length:=by unfold Qb;rw[AXX]
theorem wF{s:Ab}:∀{l:List Ab} {q:Nat},ACB s.1 l q→Z2 s.1 l q=false→Xy s l=l.take q++[s]++l.drop q
 |[],q,h,_=>by
  have:=h.le;have:q=0:=by simp_all
  subst this;rfl
 |y::l,0,h,hn=>by
  have h1:=h.ge 0 (by simp) (AQE _);have h2:(y.1==s.1)=false:=hn;have h2':=APh.1 h2;have h1':s.1≤y.1:=h1;simp only[Xy];grind
 |y::l,q+1,h,hn=>by
  have h1:y.1<s.1:=h.lt 0 (by simp) (by omega);have hp:ACB s.1 l q:=⟨by have:=h.le;simp_all,fun i hi hiq=>h.lt (i+1) (by simp_all) (by omega),fun i hi hiq=>h.ge (i+1) (by simp_all) (by omega)⟩;simp only[Xy];rw[ALo (by omega),wF hp hn];rfl
section
variable{w:AA} (h:Nn w)
include h
theorem Nn.ASP:∀s∈w.2.2.2.2.2.2.2.2.2.1,0≤s.1∧s.1<2^40:=fun s hs=>by
 have hp:=(h.BK s hs).1;have h1:=CJ hp;grind[D6,AQ,A6]
theorem ig{a:Int}{d:ACD}(hd:d.length≤40):Ld a d w.2.1 w.2.2.2.2.2.1 w.2.2.2.2.2.2.2.2.2.2.1 w.1 w.2.2.1 w.2.2.2.1 w.2.2.2.2.1 w.2.2.2.2.2.2.1 w.2.2.2.2.2.2.2.1 w.2.2.2.2.2.2.2.2.1 w.2.2.2.2.2.2.2.2.2.1=some (AT7 (doAdd w a d)):=by
 have k:=h.nums;have k1:=k.c;have k2:=k.wr;have k3:=k.lost;have k4:=k.st;have Z6:=k.aN;have iI:=k.Js;have js:=k.iH;have k5:=k.era;have k7:=k.aX;have k6:=k.se;unfold Ld doAdd;rw[AL (x:=(w.2.2.2.2.2.2.1.length:Int)-1) (by omega) (by omega),Ax];simp only[AD,A5,Cv,DI];rw[show BN a 0 ((w.2.2.2.2.2.2.1.length:Int)-1)=BN a 0 ((w.AH.length:Int)-1)from rfl];rcases AKr (BN a 0 ((w.AH.length:Int)-1))with h1|h1
 rotate_left
 ·rw[h1,Im];rfl
 obtain⟨x1,x2,x3⟩:=h.de h1;rw[h1,AMy,F4];simp only[ALP x1];rw[show w.2.2.2.2.2.2.1.getD a.toNat (0,[],())=w.AH.getD a.toNat Bv from rfl]
 generalize hx:w.AH.getD a.toNat Bv=x at*
 rw[show(x.1,x.2.1,())=x from rfl,show(w.1,w.2.1,())=AS w from rfl,iY (c:=AS w) (by show w.1.length≤_;omega) (by omega) (by omega)];simp only[AD];rw[H8];simp only[AD];have hxl:=x2.n;have hxe:=x2.ep;have hq1:(CI (AS w) x d).1.1=x.1:=by
  unfold CI;rw[IX.2 x2];grind
 have hpm:0≤Gd (CI (AS w) x d).1.1 (CI (AS w) x d).2.1∧Gd (CI (AS w) x d).1.1 (CI (AS w) x d).2.1<2^40:=by
  unfold Gd D6;split
  ·rename_i hc
   rw[AMC,Ah,Ah]at hc;omega
  omega
 obtain⟨q,hq,es⟩:=lx (l:=w.2.2.2.2.2.2.2.2.2.1) h.WO (by omega) h.ASP hpm;unfold H6;rw[es];simp only[AD];rcases AKr (CI (AS w) x d).2.2 with h2|h2
 rotate_left
 ·rw[h2,ATH,AXg,ALP rfl,AMh];rfl
 obtain⟨y1,y2,y3,y4⟩:=WJ h2;have hyl:=y2.n;rw[y3]at hyl;simp only[AOs,ANL,AQO]at hyl;have lR:=I5 (e:=x.1) (o:=(CI (AS w) x d).2.1) hxe (by omega);have hpe:Gd (CI (AS w) x d).1.1 (CI (AS w) x d).2.1=D6 x.1 (CI (AS w) x d).2.1:=by
  grind[Gd,Ah]
 rw[hpe]at hq⊢;rw[h2,AMy];simp only[AMO,ASZ];have AaO:(w.BK.any fun s=>s.1==D6 x.1 (CI (AS w) x d).2.1)=Z2 (D6 x.1 (CI (AS w) x d).2.1) w.2.2.2.2.2.2.2.2.2.1 q:=AHw hq h.WO;rw[AaO];by_cases h3:w.2.2.2.2.2.2.2.2.2.1.length=120
 ·rw[ALP (by omega),show decide (w.BK.length=120)=true from AR7 h3,AXg,ALP rfl]
  rfl
 rw[ALo (by omega),show decide (w.BK.length=120)=false from ATW h3];simp only[ASZ];rcases AKr (Z2 (D6 x.1 (CI (AS w) x d).2.1) w.2.2.2.2.2.2.2.2.2.1 q)with h4|h4
 ·rw[h4,AMy,ALP rfl];rfl
 rw[h4,AMh,ALo (by simp)];have hql:=hq.le;grind[EJ,iz,wF,D6,CI,AS,AT7,List.append_assoc,Xy]
end
end Go.M
end
section
set_option maxRecDepth 8000
namespace Go.M
open Go.M.H (AJ AO As Ab AA CO AN A4 AM AY Az Av BS Ak CL Af AX Aa Aq CB BF Ar A7 EC CM Cs C9)
def fU(c:CD)(s:AO)(ep n:Int):Int→List A4→List Ab→List Ab
 |_,[],se=>se
 |o,x::l,se=>fU c s ep n (o+1) l (if !x.2.2.1&&JP s (D6 ep o)&&(EX c n x).2.2.1 then Qb (D6 ep o) se else se)
def pkT(c0:AAH)(c1 tr:Int)(tn:Bool)(ss:List AO)(lo:AAH)(er:List CO)(ws:List AM)(ms:List As)(rs:List AY)(se:List Ab):GC:=
 (((()),()),(((),c1,(),(),(),tr,(),(),(),(),tn,()),c0,ss,lo,er,ws,ms,rs,se,()))
section
variable{c:CD} {st:AO} {SS:List AO} {n:Int} (hc:c.1.length≤8) (hs:fg st) (hn:0≤n∧n<c.1.length) (hnS:n<(SS.length:Int)) (Ze:SS.getD n.toNat Cr=st)
include hc hs hn hnS Ze
theorem yv{tr:Int}{tn:Bool}{lo:AAH}{er:List CO}{ms:List As}{rs:List AY}{a:Nat}{ep:Int}:∀(rest dn:List A4) (ws:List AM) (se:List Ab) (f:Nat),a<ws.length→a≤4→ws.getD a Bv=(ep,dn++rest,())→bG c (ep,dn++rest,())→
  nS se→(∀s∈se,0≤s.1∧s.1<2^40)→se.length≤120→rest.length<f→
  C3 f (a:Int) n ((dn.length:Int)+1) c.2.1 tr tn c.1 SS lo er ws ms rs se=some (pkT c.1 c.2.1 tr tn SS lo er (ws.set a (ep,dn++BB c st ep n ((dn.length:Int)+1) rest,())) ms rs (fU c st ep n ((dn.length:Int)+1) rest se)):=by
 have fO:=hs.w;intro rest
 induction rest with
 |nil=>
  intro dn ws se f ha ha4 hw Bq zF AII AN5 hf;obtain⟨f,rfl⟩:∃f',f=f'+1:=⟨f-1,by omega⟩;have rC:ws.getD a (0,[],())=(ep,dn++[],()):=hw;simp only[C3,Io,AB,AMZ,rC,AM3];rw[ALP (by omega),ALo (by omega)];unfold BB fU pkT;rw[show((ep,dn++[],()):AM)=ws.getD a Bv from hw.symm,jX]
 |cons x rest ih=>
  intro dn ws se f ha ha4 hw Bq zF AII AN5 hf;obtain⟨f,rfl⟩:∃f',f=f'+1:=⟨f-1,by omega⟩;simp only[ANL]at hf;have rC:ws.getD a (0,[],())=(ep,dn++x::rest,()):=hw;have hwe:1≤ep∧ep≤30:=Bq.ep;have hwn:(dn++x::rest).length≤60:=Bq.n;have hww:Af BF (dn++x::rest)≤3000:=Bq.w;have hwl:=hwn;simp only[AOs,ANL]at hwl;have ca:(0:Int)≤(a:Int)∧(a:Int)<(ws.length:Int):=by omega
  have cn:(0:Int)≤n∧n<(SS.length:Int):=⟨hn.1,hnS⟩;have lR:=I5 (e:=ep) (o:=(dn.length:Int)+1) hwe (by omega);have hpm:Gd ep ((dn.length:Int)+1)=D6 ep ((dn.length:Int)+1):=by
   grind[Gd,Ah]
  have cd:(0:Int)≤(dn.length:Int)+1-1∧(dn.length:Int)+1-1<((dn++x::rest).length:Int):=by
   grind
  have e1:((dn.length:Int)+1-1).toNat=dn.length:=by omega
  have e2:(dn++x::rest).getD dn.length ([],[],false,())=x:=by simp[List.getD]
  have ARo:SS.getD n.toNat ([],[],0,())=st:=Ze;simp only[C3,Io,AB,A5,Cv,AMZ,rC,ALP ca,ALP cn];rw[ALP (by omega),H8,hpm];simp only[AD,ARo];rw[show(st.1,st.2.1,st.2.2.1,())=st from rfl,Te (by omega) hs.sin];simp only[AD];rw[AL (x:=(dn.length:Int)+1+1) (by omega) (by omega),AL (x:=(dn.length:Int)+1-1) (by omega) (by omega)];simp only[ALP cd,e1,e2];have go:∀(y:A4) (ws':List AM) (ny:List Ab),ws'.length=ws.length→ws'.getD a Bv=(ep,dn++y::rest,())→(∀z,ws'.set a z=ws.set a z)→bG c (ep,dn++y::rest,())→nS ny→(∀s∈ny,0≤s.1∧s.1<2^40)→ny.length≤120→
    (if !x.2.2.1&&JP st (D6 ep ((dn.length:Int)+1))then EX c n x else x)=y→(if !x.2.2.1&&JP st (D6 ep ((dn.length:Int)+1))&&(EX c n x).2.2.1 then Qb (D6 ep ((dn.length:Int)+1)) se else se)=ny→
    C3 f (a:Int) n ((dn.length:Int)+1+1) c.2.1 tr tn c.1 SS lo er ws' ms rs ny=some (pkT c.1 c.2.1 tr tn SS lo er (ws.set a (ep,dn++BB c st ep n ((dn.length:Int)+1) (x::rest),())) ms rs (fU c st ep n ((dn.length:Int)+1) (x::rest) se)):=fun y ws' ny g1 g2 g3 g4 g5 g6 g7 g8 g9=>by
   have:=ih (dn++[y]) ws' ny f (by omega) ha4 (by simp_all) (by simp_all) g5 g6 g7 (by omega);simp only[AOs,ANL,AQO,AM_,ATp]at this;grind[BB,fU]
  have stay:(if !x.2.2.1&&JP st (D6 ep ((dn.length:Int)+1))then EX c n x else x)=x→(if !x.2.2.1&&JP st (D6 ep ((dn.length:Int)+1))&&(EX c n x).2.2.1 then Qb (D6 ep ((dn.length:Int)+1)) se else se)=se→
    C3 f (a:Int) n ((dn.length:Int)+1+1) c.2.1 tr tn c.1 SS lo er ws ms rs se=some (pkT c.1 c.2.1 tr tn SS lo er (ws.set a (ep,dn++BB c st ep n ((dn.length:Int)+1) (x::rest),())) ms rs (fU c st ep n ((dn.length:Int)+1) (x::rest) se)):=fun g8 g9=>go x ws se rfl hw (fun _=>rfl) Bq zF AII AN5 g8 g9
  have hsg:Xe st (D6 ep ((dn.length:Int)+1))=Ep (D6 ep ((dn.length:Int)+1)) st.1:=by unfold Xe;rw[DL.2 hs,ALP rfl]
  rw[hsg];cases hxd:x.2.2.1 with
  |true=>
   grind
  |false=>
   rw[AMh];cases hg:Ep (D6 ep ((dn.length:Int)+1)) st.1 with
   |none=>
    grind[JP,D6]
   |some e=>
    simp only[AMy];by_cases he0:e.2.1=0
    rotate_left
    ·have hh:JP st (D6 ep ((dn.length:Int)+1))=false:=by grind[JP]
     simp_all
    have hh:JP st (D6 ep ((dn.length:Int)+1))=true:=by grind[JP]
    rw[ALP he0];have hx:=Bq.words x (by simp);have hb:bG c (ep,dn++EX c n x::rest,()):=⟨Bq.cfg,Bq.ep,by grind,fun b hb=>by
     simp only[AOl,AOJ]at hb;rcases hb with hb|rfl|hb
     ·exact Bq.words b (by simp[hb])
     ·exact⟨hx.1,Ib hx.2.1 hn,rfl⟩
     ·exact Bq.words b (by simp[hb]),AQ4 (kY hxd) Bq.opn⟩
    rw[show(c.1,c.2.1,())=c from rfl,iS (c:=c) (w:=(ep,dn++x::rest,())) (by omega) (by grind)];have AEj:RI c (ep,dn++x::rest,()) ((dn.length:Int)+1) n=((ep,dn++EX c n x::rest,()),true):=by
     unfold RI;rw[IX.2 Bq];simp only[AMO,AMH,AON];rw[e1,show(dn++x::rest).getD dn.length LR=x from e2,hxd];rw[ALP (by
      rw[AMC,AMC,Ah,Ah];grind)]
     grind
    rw[AEj];simp only[AD,pkW];have hx7:(ws.set a (ep,dn++EX c n x::rest,())).getD a (0,[],())=(ep,dn++EX c n x::rest,()):=M0 ha;have ca7:(0:Int)≤(a:Int)∧(a:Int)<((ws.set a (ep,dn++EX c n x::rest,())).length:Int):=by grind
    have cd7:(0:Int)≤(dn.length:Int)+1-1∧(dn.length:Int)+1-1<((dn++EX c n x::rest).length:Int):=by
     grind
    have e27:(dn++EX c n x::rest).getD dn.length ([],[],false,())=EX c n x:=by simp[List.getD]
    have hpr:0≤D6 ep ((dn.length:Int)+1)∧D6 ep ((dn.length:Int)+1)<2^40:=by unfold D6;omega
    obtain⟨q,hq,es⟩:=lx zF (by omega) AII hpr;unfold H6;rw[es];simp only[AD,hx7,ALP ca7,ALP cd7,e27];have W8:∀z,(ws.set a (ep,dn++EX c n x::rest,())).set a z=ws.set a z:=fun z=>AXp ..
    have ANF:(if !x.2.2.1&&JP st (D6 ep ((dn.length:Int)+1))then EX c n x else x)=EX c n x:=by grind
    rcases AKr (Z2 (D6 ep ((dn.length:Int)+1)) se q)with hf|hf
    rotate_left
    ·rw[hf,AMh]
     refine go _ _ se (ATv ..) hx7 W8 hb zF AII AN5 ANF ?_
     rw[AAg (tT hq zF hf)];grind
    obtain⟨hql,hqe⟩:=xV hf;rw[hf,AMy];cases hd:(EX c n x).2.2.1 with
    |false=>
     grind
    |true=>
     rw[AMy,ALP (by omega),AMZ,show se.getD q (0,[],false,())=se[q]from OJ hql,AFw hql zF hqe];refine go _ _ _ (ATv ..) hx7 W8 hb (APw zF) (fun s xm=> ?_) (by rw[ASv];omega) ANF (by grind);grind[sm_at]
theorem zw{tr:Int}{tn:Bool}{lo:AAH}{er:List CO}{ws:List AM}{rs:List AY}{se:List Ab}{a:Nat}{m:As}(hm:qG c m):∀(rest dn:List AAH) (ms:List As) (f:Nat),a<ms.length→a≤4→ms.getD a Qs=(m.1,m.2.1,m.2.2.1,m.2.2.2.1,m.2.2.2.2.1,dn++rest,())→(dn++rest).length=m.2.2.2.2.2.1.length→(∀l∈dn++rest,Ay c l=true)→
  rest.length<f→
  BU f (a:Int) n ((dn.length:Int)+1) c.2.1 tr tn c.1 SS lo er ws ms rs se=some (pkT c.1 c.2.1 tr tn SS lo er ws (ms.set a (m.1,m.2.1,m.2.2.1,m.2.2.2.1,m.2.2.2.2.1,dn++D4 m st n ((dn.length:Int)+1) rest,())) rs se):=by
 have fO:=hs.w;have hmn:m.2.2.2.2.2.1.length≤60:=by
  have:=hm.n;have hb:=Gj (l:=m.2.2.2.1);omega
 intro rest
 induction rest with
 |nil=>
  intro dn ms f ha ha4 hw hl ho hf;obtain⟨f,rfl⟩:∃f',f=f'+1:=⟨f-1,by omega⟩;have rC:ms.getD a (0,0,[],[],false,[],())=(m.1,m.2.1,m.2.2.1,m.2.2.2.1,m.2.2.2.2.1,dn++[],()):=hw;simp only[BU,HA,AB,AMZ,rC,AM3];rw[ALP (by omega),ALo (by omega)];unfold D4 pkT;rw[show((m.1,m.2.1,m.2.2.1,m.2.2.2.1,m.2.2.2.2.1,dn++[],()):As)=ms.getD a Qs from hw.symm,jX]
 |cons x rest ih=>
  intro dn ms f ha ha4 hw hl ho hf;obtain⟨f,rfl⟩:∃f',f=f'+1:=⟨f-1,by omega⟩;simp only[ANL]at hf;have rC:ms.getD a (0,0,[],[],false,[],())=(m.1,m.2.1,m.2.2.1,m.2.2.2.1,m.2.2.2.2.1,dn++x::rest,()):=hw;have jP:=hl;simp only[AOs,ANL]at jP;have ca:(0:Int)≤(a:Int)∧(a:Int)<(ms.length:Int):=by omega
  have cn:(0:Int)≤n∧n<(SS.length:Int):=⟨hn.1,hnS⟩;have ARo:SS.getD n.toNat ([],[],0,())=st:=Ze;have ZM:qG c (m.1,m.2.1,m.2.2.1,m.2.2.2.1,m.2.2.2.2.1,dn++x::rest,()):=⟨hm.cfg,hm.ep,hm.b,hm.fK,hm.gM,hm.seen,ho,by show((dn++x::rest).length:Int)=_;rw[hl];exact hm.n⟩;have hmw:=ZM.w;simp only[BU,HA,AB,A5,Cv,AMZ,rC,ALP ca,ALP cn];rw[ALP (by omega),YO (m:=(m.1,m.2.1,m.2.2.1,m.2.2.2.1,m.2.2.2.2.1,dn++x::rest,())) (by omega),b_ hl];simp only[AD,ARo];rw[show(st.1,st.2.1,st.2.2.1,())=st from rfl,Te (by omega) hs.sin];simp only[AD];rw[AL (x:=(dn.length:Int)+1+1) (by omega) (by omega)];have go:∀(y:AAH) (ms':List As),ms'.length=ms.length→ms'.getD a Qs=(m.1,m.2.1,m.2.2.1,m.2.2.2.1,m.2.2.2.2.1,dn++y::rest,())→(∀z,ms'.set a z=ms.set a z)→Ay c y=true→
    (if NR m st ((dn.length:Int)+1)then JM n x else x)=y→
    BU f (a:Int) n ((dn.length:Int)+1+1) c.2.1 tr tn c.1 SS lo er ws ms' rs se=some (pkT c.1 c.2.1 tr tn SS lo er ws (ms.set a (m.1,m.2.1,m.2.2.1,m.2.2.2.1,m.2.2.2.2.1,dn++D4 m st n ((dn.length:Int)+1) (x::rest),())) rs se):=fun y ms' g1 g2 g3 g4 g5=>by
   have:=ih (dn++[y]) ms' f (by omega) ha4 (by simp_all) (by simp_all) (fun l hl=>by
    grind) (by omega)
   simp only[AOs,ANL,AQO,AM_,ATp]at this;grind[D4]
  have hx:=ho x (by simp);have stay:NR m st ((dn.length:Int)+1)=false→BU f (a:Int) n ((dn.length:Int)+1+1) c.2.1 tr tn c.1 SS lo er ws ms rs se=some (pkT c.1 c.2.1 tr tn SS lo er ws (ms.set a (m.1,m.2.1,m.2.2.1,m.2.2.2.1,m.2.2.2.2.1,dn++D4 m st n ((dn.length:Int)+1) (x::rest),())) rs se):=fun g=>go x ms rfl hw (fun _=>rfl) hx (by simp_all)
  have hsg:∀p,Xe st p=Ep p st.1:=fun p=>by unfold Xe;rw[DL.2 hs,ALP rfl]
  rw[hsg];cases he:De m ((dn.length:Int)+1)with
  |none=>
   simp only[ATX,AMh];grind[NR]
  |some e=>
   simp only[ATY,AMy,ATb];cases hg:Ep e.1 st.1 with
   |none=>
    grind[NR]
   |some y=>
    simp only[AMy,eqE,AB];by_cases hye:y=e
    rotate_left
    ·rw[ALo hye]
     grind[NR]
    have hh:NR m st ((dn.length:Int)+1)=true:=by grind[NR]
    rw[ALP hye,show(c.1,c.2.1,())=c from rfl,nR (c:=c) (m:=(m.1,m.2.1,m.2.2.1,m.2.2.2.1,m.2.2.2.2.1,dn++x::rest,())) (by omega) (by omega) ZM.ein];have AEj:YV c (m.1,m.2.1,m.2.2.1,m.2.2.2.1,m.2.2.2.2.1,dn++x::rest,()) ((dn.length:Int)+1) n=((m.1,m.2.1,m.2.2.1,m.2.2.2.1,m.2.2.2.2.1,dn++JM n x::rest,()),true):=by
     unfold YV;rw[HS.2 ZM];have hq:(BN ((dn.length:Int)+1) 1 ((dn++x::rest).length:Int)&&BN n 0 ((c.1.length:Int)-1))=true:=by
      rw[AMC,Ah,Ah];omega
     grind
    grind[AD,ij,JM,List.length_set,M0,List.set_set,Ib]
end
def iB(c:CD)(s:AO)(ep n:Int):Int→List A4→Int→Bool
 |_,[],_=>false
 |o,x::l,p=>(decide (p=D6 ep o)&&(!x.2.2.1&&JP s (D6 ep o)&&(EX c n x).2.2.1))||iB c s ep n (o+1) l p
theorem tC{c:CD}{st:AO}{ep n:Int}:∀{l:List A4} {o:Int} {se:List Ab},fU c st ep n o l se=se.map fun s=>(s.1,s.2.1,s.2.2.1||iB c st ep n o l s.1,())
 |[],o,se=>by
  simp only[fU,iB,AXj];simp_all
 |x::l,o,se=>by
  simp only[fU];rw[tC];rcases AKr (!x.2.2.1&&JP st (D6 ep o)&&(EX c n x).2.2.1)with hb|hb
  ·rw[hb,ALP rfl]
   unfold Qb;rw[ATx];refine ATR fun s _=> ?_
   simp only[Function.comp_apply,iB,hb,ATh];grind
  ·rw[hb]
   simp only[AMH,AON];refine ATR fun s _=> ?_
   simp only[iB,hb,AXH,ASZ]
theorem sZ{c:CD}{st:AO}{ep n p:Int}(hep:1≤ep∧ep≤30)(hp:BR p=true):∀{l:List A4} {o:Int},1≤o→o+l.length≤61→
  iB c st ep n o l p=(AQ p==ep&&(decide (o≤A6 p)&&(decide (A6 p<o+l.length)&&(((BB c st ep n o l).getD (A6 p-o).toNat LR).2.2.1&& !(l.getD (A6 p-o).toNat LR).2.2.1))))
 |[],o,_,_=>by
  have:(decide (o≤A6 p)&&decide (A6 p<o+(([]:List A4).length:Int)))=false:=by
   simp_all
  rw[←Bool.and_assoc (decide (o≤A6 p)),this,ATP,AXH];rfl
 |x::l,o,ho,hl=>by
  simp only[ANL]at hl;have hf:=CJ hp;simp only[iB];rw[sZ hep hp (l:=l) (o:=o+1) (by omega) (by omega)];by_cases he:AQ p=ep
  rotate_left
  ·grind[D6,I5,beq_eq_false_iff_ne,decide_eq_false]
  rw[ATa.2 he];simp only[AMn,ANL];by_cases h1:A6 p=o
  ·have hpe:p=D6 ep o:=by simp_all
   have e0:(A6 p-o).toNat=0:=by omega
   rw[AR7 hpe,ATW (show¬o+1≤A6 p by omega),AR7 (show o≤A6 p by omega),AR7 (show A6 p<o+((l.length+1:Nat):Int)by omega),e0];simp only[AMn,ATP,AXj,BB,List.getD_cons_zero];grind
  ·have bd:p≠D6 ep o:=fun e=>h1 (by grind[I5])
   rw[ATW bd,ATP,ASZ];by_cases h2:o≤A6 p
   ·rw[AR7 h2,AR7 (show o+1≤A6 p by omega)]
    have e1:(A6 p-o).toNat=(A6 p-(o+1)).toNat+1:=by omega
    rw[e1];simp only[BB,List.getD_cons_succ];grind
   grind
theorem fF{c:CD}{st:AO}{ep n:Int}:∀{l:List A4} {o:Int},(BB c st ep n o l).length=l.length
 |[],_=>rfl
 |x::l,o=>by simp only[BB,ANL,fF]
theorem zu{c:CD}{st:AO}{ep n:Int}(hep:1≤ep∧ep≤30){l:List A4}(hl:l.length≤60){se:List Ab}(hs:∀s∈se,BR s.1=true):fU c st ep n 1 l se=se.map (OW false ep l (BB c st ep n 1 l)):=by
 rw[tC];refine ATR fun s hm=> ?_
 have hf:=CJ (hs s hm);unfold OW QP;rw[sZ hep (hs s hm) (by omega) (by omega),fF];by_cases h1:A6 s.1≤l.length
 ·have:BN (A6 s.1) 1 (l.length:Int)=true:=Ah.2 (by omega)
  grind
 ·have:BN (A6 s.1) 1 (l.length:Int)=false:=by
   rw[←APN,Ah];omega
  grind
end Go.M
end
section
set_option maxRecDepth 8000
namespace Go.M
open Go.M.H (AJ AO As Ab AA CO AN A4 AM AY Az Av BS Ak CL Af AX Aa Aq CB BF Ar A7 EC CM Cs C9)
def AFR(q:AA×Int):cA:=((q.2,()),(((),q.1.2.1,(),(),(),q.1.2.2.2.2.2.1,(),(),(),(),q.1.2.2.2.2.2.2.2.2.2.2.1,()),q.1.1,q.1.2.2.1,(),(),(),(),q.1.2.2.2.2.2.2.2.2.1,(),q.1.2.2.2.1,q.1.2.2.2.2.1,q.1.2.2.2.2.2.2.1,q.1.2.2.2.2.2.2.2.1,q.1.2.2.2.2.2.2.2.2.2.1,()))
def ww(w:AA)(SS:List AO)(ws:List AM)(ms:List As)(se:List Ab):AA:=(((w.BA SS).A9 ws).C2 se).Bj ms
section
variable{w:AA} (h:Nn w) {st:AO} {SS:List AO} {n:Int} (hs:fg st) (hn:0≤n∧n<(AS w).1.length) (hnS:n<(SS.length:Int)) (Ze:SS.getD n.toNat Cr=st)
include h hs hn hnS Ze
theorem ADa{ws:List AM}{se:List Ab}:∀(k i:Nat),w.2.2.2.2.2.2.2.1.length-i=k→i≤w.2.2.2.2.2.2.2.1.length→ ∀f,k<f→
  FP f n w.2.2.2.2.2.2.2.1.length i w.2.1 w.2.2.2.2.2.1 w.2.2.2.2.2.2.2.2.2.2.1 w.1 SS w.2.2.2.1 w.2.2.2.2.1 ws ((w.2.2.2.2.2.2.2.1.map (HG st w.Ac n)).take i++w.2.2.2.2.2.2.2.1.drop i) w.2.2.2.2.2.2.2.2.1 se=some (j5 (ww w SS ws (w.2.2.2.2.2.2.2.1.map (HG st w.Ac n)) se,0)):=by
 have k:=h.nums;have k1:=k.c;have k5:=k.era;have k6:=k.md;intro k
 induction k with
 |zero=>
  intro i hk hi f hf;obtain⟨f,rfl⟩:∃f',f=f'+1:=⟨f-1,by omega⟩;have:i=w.2.2.2.2.2.2.2.1.length:=by omega
  simp only[FP,MT,AB];rw[ALo (by omega),this,ATs,AM3,ATT (by simp)];rfl
 |succ k ih=>
  intro i hk hi f hf;obtain⟨f,rfl⟩:∃f',f=f'+1:=⟨f-1,by omega⟩;have Dh:i<w.2.2.2.2.2.2.2.1.length:=by omega
  have hm:=(h.BW _ (AMk Dh)).1;have oh:=hm.ep;have UR:(Ap w.Ac w.2.2.2.2.2.2.2.1[i].2.1).length≤8:=Gk h;simp only[FP,MT,AB];rw[O6 hi,ALP (by omega),ALP (by omega),AMZ,Mt Dh,show(w.2.2.2.2.1,w.2.2.2.2.2.1,())=B5 w from rfl,O5 (r:=B5 w) (by show Af CB w.2.2.2.2.1≤_;omega) ⟨by omega,by omega⟩];rw[show(B5 w).1=w.Ac from rfl];simp only[AD];rw[Iv (by omega),AL (x:=(i:Int)+1) (by omega) (by omega),show((i:Int)+1)=((i+1:Nat):Int)by omega];simp only[AD];have nx:=ih (i+1) (by omega) (by omega) f (by omega);rcases AKr ((Ap w.Ac w.2.2.2.2.2.2.2.1[i].2.1).contains n)with hc|hc
  ·have hT:HG st w.Ac n w.2.2.2.2.2.2.2.1[i]=(w.2.2.2.2.2.2.2.1[i].1,w.2.2.2.2.2.2.2.1[i].2.1,w.2.2.2.2.2.2.2.1[i].2.2.1,w.2.2.2.2.2.2.2.1[i].2.2.2.1,w.2.2.2.2.2.2.2.1[i].2.2.2.2.1,D4 w.2.2.2.2.2.2.2.1[i] st n 1 w.2.2.2.2.2.2.2.1[i].2.2.2.2.2.1,()):=by
    unfold HG;simp_all
   have hmn:w.2.2.2.2.2.2.2.1[i].2.2.2.2.2.1.length≤60:=by
    have:=hm.n;have hb:=Gj (l:=w.2.2.2.2.2.2.2.1[i].2.2.2.1);omega
   have:=zw (c:=AS w) (tr:=w.2.2.2.2.2.1) (tn:=w.2.2.2.2.2.2.2.2.2.2.1) (lo:=w.2.2.2.1) (er:=w.2.2.2.2.1) (ws:=ws) (rs:=w.2.2.2.2.2.2.2.2.1) (se:=se) (a:=i) k1 hs hn hnS Ze hm w.2.2.2.2.2.2.2.1[i].2.2.2.2.2.1 [] ((w.2.2.2.2.2.2.2.1.map (HG st w.Ac n)).take i++w.2.2.2.2.2.2.2.1.drop i) Ae (by simp_all) (by omega) (Mt Dh) rfl (by simpa using hm.wrote) (Ag (by omega));rw[hc,AMy];unfold K0 Ju;simp only[AQO,ATL]at this;have e1:(((0:Nat):Int)+1)=1:=rfl;rw[e1]at this;rw[show(w.2.1:Int)=(AS w).2.1 from rfl,show w.1=(AS w).1 from rfl,this];simp only[AD,pkT];rw[P4 Dh hT.symm];exact nx
  ·have hT:HG st w.Ac n w.2.2.2.2.2.2.2.1[i]=w.2.2.2.2.2.2.2.1[i]:=by
    unfold HG;simp_all
   rw[hc,AMh,jH Dh hT];omega
theorem AGn:∀(rest pre:List AM) (se:List Ab) (f:Nat),pre.length+rest.length=w.2.2.2.2.2.2.1.length→(∀x∈rest,bG (AS w) x)→nS se→(∀s∈se,BR s.1=true)→se.length≤120→rest.length+w.2.2.2.2.2.2.2.1.length+1<f→
  Ez f n w.2.2.2.2.2.2.1.length pre.length w.2.1 w.2.2.2.2.2.1 w.2.2.2.2.2.2.2.2.2.2.1 w.1 SS w.2.2.2.1 w.2.2.2.2.1 (pre++rest) w.2.2.2.2.2.2.2.1 w.2.2.2.2.2.2.2.2.1 se st.2.2.1=
   some (j5 (ww w SS (pre++(FO false (AS w) st w.Ac n rest se).1) (w.2.2.2.2.2.2.2.1.map (HG st w.Ac n)) (FO false (AS w) st w.Ac n rest se).2,0)):=by
 have k:=h.nums;have k1:=k.c;have k2:=k.wr;have k5:=k.era;have k6:=k.md;have hb:∀{p:Int},BR p=true→0≤p∧p<2^40:=fun{p} hp=>by
  have h1:=CJ hp;grind[D6]
 intro rest
 induction rest with
 |nil=>
  intro pre se f hl hw ha hp hsl hf;obtain⟨f,rfl⟩:∃f',f=f'+1:=⟨f-1,by omega⟩;simp only[AQO]at hl hf;simp only[Ez,NJ,AB,AM3];rw[ALo (by omega)];have:=ADa h hs hn hnS Ze (ws:=pre) (se:=se) w.2.2.2.2.2.2.2.1.length 0 (by omega) (by omega) f (by omega);rw[show((0:Nat):Int)=0 from rfl,ATN,AXu,ATL]at this;grind[FO]
 |cons x rest ih=>
  intro pre se f hl hw ha hp hsl hf;obtain⟨f,rfl⟩:∃f',f=f'+1:=⟨f-1,by omega⟩;simp only[ANL]at hl hf;have hx:=hw x (by simp);have hxe:=hx.ep;have hxn:=hx.n;have lR:(pre++x::rest).length=pre.length+(rest.length+1):=by simp
  have cp:(0:Int)≤(pre.length:Int)∧(pre.length:Int)<((pre++x::rest).length:Int):=by omega
  have e2:(pre++x::rest).getD pre.length (0,[],())=x:=by simp[List.getD]
  have UR:(Ap w.Ac x.1).length≤8:=Gk h;simp only[Ez,NJ,AB,AMZ,ALP cp,e2];rw[ALP (by omega),show(w.2.2.2.2.1,w.2.2.2.2.2.1,())=B5 w from rfl,O5 (r:=B5 w) (by show Af CB w.2.2.2.2.1≤_;omega) ⟨by omega,by omega⟩];rw[show(B5 w).1=w.Ac from rfl];simp only[AD];rw[Iv (by omega),AL (x:=(pre.length:Int)+1) (by omega) (by omega),show((pre.length:Int)+1)=((pre.length+1:Nat):Int)by omega];simp only[AD];have next:∀(b:AM) (ny:List Ab),nS ny→(∀s∈ny,BR s.1=true)→ny.length≤120→
    Ez f n w.2.2.2.2.2.2.1.length ((pre.length+1:Nat):Int) w.2.1 w.2.2.2.2.2.1 w.2.2.2.2.2.2.2.2.2.2.1 w.1 SS w.2.2.2.1 w.2.2.2.2.1 (pre++b::rest) w.2.2.2.2.2.2.2.1 w.2.2.2.2.2.2.2.2.1 ny st.2.2.1=
     some (j5 (ww w SS (pre++b::(FO false (AS w) st w.Ac n rest ny).1) (w.2.2.2.2.2.2.2.1.map (HG st w.Ac n)) (FO false (AS w) st w.Ac n rest ny).2,0)):=fun b ny h1 h2 h3=>by
   have:=ih (pre++[b]) ny f (by grind) (fun x hx=>hw x (by simp[hx])) h1 h2 h3 (by omega);simp_all
  simp only[FO];rcases AKr (LL st w.Ac n x)with ht|ht
  rotate_left
  ·rw[ht]
   simp only[AMH,AON];unfold LL at ht;by_cases Lu:x.1>st.2.2.1
   ·grind
   grind
  ·rw[ht]
   simp only[ATK];unfold LL at ht;rw[AMC,AMi]at ht;rw[ALP (show x.1>st.2.2.1 from ht.2),ht.1,AMy];have:=yv (c:=AS w) (tr:=w.2.2.2.2.2.1) (tn:=w.2.2.2.2.2.2.2.2.2.2.1) (lo:=w.2.2.2.1) (er:=w.2.2.2.2.1) (ms:=w.2.2.2.2.2.2.2.1) (rs:=w.2.2.2.2.2.2.2.2.1) (a:=pre.length) (ep:=x.1) k1 hs hn hnS Ze x.2.1 [] (pre++x::rest) se Ae (by omega) (by omega) (show(pre++x::rest).getD pre.length (0,[],())=x from e2) hx ha (fun s xm=>hb (hp s xm)) hsl (Ag (by omega));unfold NL NU;simp only[AQO,ATL]at this;have e1:(((0:Nat):Int)+1)=1:=rfl;rw[e1,zu hxe hxn hp,AXf _ _ (by omega),AXq,AXW]at this;rw[show(w.2.1:Int)=(AS w).2.1 from rfl,show w.1=(AS w).1 from rfl,this];simp only[AD,pkT];refine next _ _ ?_ (fun s xm=> ?_) (by simp_all)
   ·unfold nS Tf
    rw[AWw];exact List.Pairwise.imp (fun{a b} rh=>rh) ha
   ·obtain⟨s',h1,rfl⟩:=ATd.1 xm
    exact hp s' h1
end
section
variable{w:AA} (h:Nn w)
include h
theorem gX{n:Int}:QK n w.2.1 w.2.2.2.2.2.1 w.2.2.2.2.2.2.2.2.2.2.1 w.1 w.2.2.1 w.2.2.2.1 w.2.2.2.2.1 w.2.2.2.2.2.2.1 w.2.2.2.2.2.2.2.1 w.2.2.2.2.2.2.2.2.1 w.2.2.2.2.2.2.2.2.2.1=some (j5 (Jv false w n)):=by
 have k:=h.nums;have k1:=k.c;have k2:=k.wr;have k3:=k.lost;have k4:=k.st;have Z6:=k.aN;have iI:=k.Js;have js:=k.iH;have k5:=k.era;have k7:=k.aX;unfold QK S3 Jv;rw[show(w.1,w.2.1,w.2.2.1,w.2.2.2.1,w.2.2.2.2.1,w.2.2.2.2.2.1,w.2.2.2.2.2.2.1,w.2.2.2.2.2.2.2.1,w.2.2.2.2.2.2.2.2.1,w.2.2.2.2.2.2.2.2.2.1,w.2.2.2.2.2.2.2.2.2.2.1,())=w from rfl,LI (by omega) (by omega)];simp only[AD,Cv,A5];by_cases h3:Al w n=0
 rotate_left
 ·rw[ALo h3,ALP h3];rfl
 obtain⟨hr,s1,s2,s3⟩:=h.LX h3;have Ze:w.2.2.1.getD n.toNat ([],[],0,())=storeAt w n:=rfl;rw[ALP h3,ALo (show¬(Al w n≠0)from fun hh=>hh h3)];simp only[ALP hr,Ze];rw[show((storeAt w n).1,(storeAt w n).2.1,(storeAt w n).2.2.1,())=storeAt w n from rfl,Ys s1 s2];simp only[AD,mP];rcases AKr (Cg (storeAt w n)).2 with hq|hq
 rotate_left
 ·rw[hq,Im];rfl
 rw[hq,F4,AMy];have Bq:fg (Cg (storeAt w n)).1:=(Kf hq).2.1;have Abu:n.toNat<w.2.2.1.length:=by omega
 have:=AGn h (st:=(Cg (storeAt w n)).1) (SS:=w.2.2.1.set n.toNat (Cg (storeAt w n)).1) (n:=n) Bq (h.node h3).1 (by simp_all) (M0 Abu) w.2.2.2.2.2.2.1 [] w.2.2.2.2.2.2.2.2.2.1 Ae (by simp) (fun x hx=>(h.AH x hx).1) h.WO (fun s hs=>(h.BK s hs).1) k.se (Ag (by have:=k.md;omega));simp only[AQO,ATL]at this;rw[show((0:Nat):Int)=0 from rfl]at this;exact this
theorem AFu{n:Int}{ss:List AO}{ls:AAH}{ws:List AM}(hls:ls.length≤2^20):∀(f i:Nat),i≤w.2.2.2.2.2.2.2.1.length→w.2.2.2.2.2.2.2.1.length-i<f→
  Gx f n w.2.2.2.2.2.2.2.1.length i w.2.1 w.2.2.2.2.2.1 w.2.2.2.2.2.2.2.2.2.2.1 w.1 ss w.2.2.2.1 w.2.2.2.2.1 ws ((w.2.2.2.2.2.2.2.1.map fun m=>(CA (AS w) m n).1).take i++w.2.2.2.2.2.2.2.1.drop i) w.2.2.2.2.2.2.2.2.1 w.2.2.2.2.2.2.2.2.2.1 ls=
   some (AIL (((((w.BA ss).EW ls).A9 ws).Bj (w.2.2.2.2.2.2.2.1.map fun m=>(CA (AS w) m n).1)).FE (w.ED||holds (AS w) ls),0)):=by
 have k:=h.nums;have k1:=k.c;have k6:=k.md;intro f
 induction f with
 |zero=>omega
 |succ f ih=>
  intro i hi hn;have hlen:=O6 (f:=fun m:As=>(CA (AS w) m n).1) hi;simp only[Gx,RW,AB,A5,hlen];by_cases Dh:i<w.2.2.2.2.2.2.2.1.length
  ·have c1:(0:Int)≤(i:Int)∧(i:Int)<(w.2.2.2.2.2.2.2.1.length:Int):=by omega
   have hm:=(h.BW _ (AMk Dh)).1;have hmw:=hm.w;have hg:((w.2.2.2.2.2.2.2.1.map fun m=>(CA (AS w) m n).1).take i++w.2.2.2.2.2.2.2.1.drop i).getD i (0,0,[],[],false,[],())=w.2.2.2.2.2.2.2.1[i]:=Mt Dh;simp only[ALP c1,ALP c1.2,AMZ,hg];rw[AL (by omega) (by omega),show((i:Int)+1)=((i+1:Nat):Int)by omega,show(w.2.2.2.2.2.2.2.1[i].1,w.2.2.2.2.2.2.2.1[i].2.1,w.2.2.2.2.2.2.2.1[i].2.2.1,w.2.2.2.2.2.2.2.1[i].2.2.2.1,w.2.2.2.2.2.2.2.1[i].2.2.2.2.1,w.2.2.2.2.2.2.2.1[i].2.2.2.2.2.1,())=w.2.2.2.2.2.2.2.1[i]from rfl,show(w.1,w.2.1,())=AS w from rfl,gC (c:=AS w) (by show w.1.length≤_;omega) (by omega) hm.ein];simp only[AD,ij];rw[show((CA (AS w) w.2.2.2.2.2.2.2.1[i] n).1.1,(CA (AS w) w.2.2.2.2.2.2.2.1[i] n).1.2.1,(CA (AS w) w.2.2.2.2.2.2.2.1[i] n).1.2.2.1,(CA (AS w) w.2.2.2.2.2.2.2.1[i] n).1.2.2.2.1,(CA (AS w) w.2.2.2.2.2.2.2.1[i] n).1.2.2.2.2.1,(CA (AS w) w.2.2.2.2.2.2.2.1[i] n).1.2.2.2.2.2.1,())=(CA (AS w) w.2.2.2.2.2.2.2.1[i] n).1 from rfl,P4 Dh rfl];grind
  ·have:i=w.2.2.2.2.2.2.2.1.length:=by omega
   rw[ALo (by omega),this,ATs,AM3,ATT (by simp),show(w.1,w.2.1,())=AS w from rfl,GY (by show w.1.length≤_;omega) (by omega)];simp only[AD];cases ht:w.2.2.2.2.2.2.2.2.2.2.1 with
   |true=>
    have ht':w.ED=true:=ht;rw[ht'];rfl
   |false=>
    have ht':w.ED=false:=ht;rw[ht'];rfl
theorem AK6{n:Int}{ss:List AO}{ls:AAH}(hls:ls.length≤2^20):∀(f i:Nat),i≤w.2.2.2.2.2.2.1.length→(w.2.2.2.2.2.2.1.length-i)+w.2.2.2.2.2.2.2.1.length+2≤f→
  HU f n w.2.2.2.2.2.2.1.length i w.2.1 w.2.2.2.2.2.1 w.2.2.2.2.2.2.2.2.2.2.1 w.1 ss w.2.2.2.1 w.2.2.2.2.1 ((w.2.2.2.2.2.2.1.map fun x=>(CE (AS w) x n).1).take i++w.2.2.2.2.2.2.1.drop i) w.2.2.2.2.2.2.2.1 w.2.2.2.2.2.2.2.2.1 w.2.2.2.2.2.2.2.2.2.1 ls=
   some (AIL (((((w.BA ss).EW ls).A9 (w.2.2.2.2.2.2.1.map fun x=>(CE (AS w) x n).1)).Bj (w.2.2.2.2.2.2.2.1.map fun m=>(CA (AS w) m n).1)).FE (w.ED||holds (AS w) ls),0)):=by
 have k:=h.nums;have k1:=k.c;have k6:=k.wr;intro f
 induction f with
 |zero=>omega
 |succ f ih=>
  intro i hi hn;have hlen:=O6 (f:=fun x:AM=>(CE (AS w) x n).1) hi;simp only[HU,Sn,AB,A5,hlen];by_cases Dh:i<w.2.2.2.2.2.2.1.length
  ·have c1:(0:Int)≤(i:Int)∧(i:Int)<(w.2.2.2.2.2.2.1.length:Int):=by omega
   have hm:=(h.AH _ (AMk Dh)).1;have hmw:=hm.w;have hg:((w.2.2.2.2.2.2.1.map fun x=>(CE (AS w) x n).1).take i++w.2.2.2.2.2.2.1.drop i).getD i (0,[],())=w.2.2.2.2.2.2.1[i]:=Mt Dh;simp only[ALP c1,ALP c1.2,AMZ,hg];rw[AL (by omega) (by omega),show((i:Int)+1)=((i+1:Nat):Int)by omega,show(w.2.2.2.2.2.2.1[i].1,w.2.2.2.2.2.2.1[i].2.1,())=w.2.2.2.2.2.2.1[i]from rfl,show(w.1,w.2.1,())=AS w from rfl,ct (c:=AS w) (by show w.1.length≤_;omega) (by have:Ar w.2.2.2.2.2.2.1[i]=Af BF w.2.2.2.2.2.2.1[i].2.1:=rfl;omega)];simp only[AD,pkW];rw[show((CE (AS w) w.2.2.2.2.2.2.1[i] n).1.1,(CE (AS w) w.2.2.2.2.2.2.1[i] n).1.2.1,())=(CE (AS w) w.2.2.2.2.2.2.1[i] n).1 from rfl,P4 Dh rfl];grind
  ·have:i=w.2.2.2.2.2.2.1.length:=by omega
   have k12:=AFu h (n:=n) (ss:=ss) (ws:=w.2.2.2.2.2.2.1.map fun x=>(CE (AS w) x n).1) hls f 0 (by omega) (by omega);grind
theorem fl{n:Int}:QB n w.2.1 w.2.2.2.2.2.1 w.2.2.2.2.2.2.2.2.2.2.1 w.1 w.2.2.1 w.2.2.2.1 w.2.2.2.2.1 w.2.2.2.2.2.2.1 w.2.2.2.2.2.2.2.1 w.2.2.2.2.2.2.2.2.1 w.2.2.2.2.2.2.2.2.2.1=some (AIL (MZ w n)):=by
 have k:=h.nums;have k1:=k.c;have k2:=k.wr;have k3:=k.lost;have k4:=k.st;have Z6:=k.aN;have iI:=k.Js;have js:=k.iH;have k5:=k.era;have k7:=k.aX;have k6:=k.md;unfold QB Sr MZ;rw[show(w.1,w.2.1,w.2.2.1,w.2.2.2.1,w.2.2.2.2.1,w.2.2.2.2.2.1,w.2.2.2.2.2.2.1,w.2.2.2.2.2.2.2.1,w.2.2.2.2.2.2.2.2.1,w.2.2.2.2.2.2.2.2.2.1,w.2.2.2.2.2.2.2.2.2.2.1,())=w from rfl,LI (by omega) (by omega)];simp only[AD,Cv];by_cases h3:Al w n=0
 rotate_left
 ·rw[ALo h3,ALP h3];rfl
 obtain⟨hr,s1,s2,s3⟩:=h.LX h3;rw[ALP h3,ALo (show¬(Al w n≠0)from fun hh=>hh h3),ALP hr,Oq (ER.1 h.lost).2.2 (by omega)];simp only[AD];have hp:=UZ (n:=n) (l:=w.2.2.2.1);have:=AK6 h (n:=n) (ss:=w.2.2.1.set n.toNat ([],[],0,())) (ls:=JM n w.2.2.2.1) (by omega) Ae 0 (by omega) (ATy (Ag (by omega)));simp_all
theorem j9{d:BS}(WH:fa w)(h64:DH d.2.1)(hd:d.2.2.2.2.1.length≤40)(hk:1≤d.1∧d.1≤16):T9 d w.2.1 w.2.2.2.2.2.1 w.2.2.2.2.2.2.2.2.2.2.1 w.1 w.2.2.1 w.2.2.2.1 w.2.2.2.2.1 w.2.2.2.2.2.2.1 w.2.2.2.2.2.2.2.1 w.2.2.2.2.2.2.2.2.1 w.2.2.2.2.2.2.2.2.2.1=some (AFR (Lh false w d)):=by
 have k:=h.nums;have k1:=k.c;have k2:=k.wr;have k3:=k.lost;have k4:=k.st;have Z6:=k.aN;have iI:=k.Js;have js:=k.iH;have k5:=k.era;have k7:=k.aX;unfold T9 Lh;rw[show(d.1,d.2.1,d.2.2.1,d.2.2.2.1,d.2.2.2.2.1,())=d from rfl];simp only[DI];by_cases c1:d.1=1
 ·rw[ALP c1,ALP c1,gI h];rfl
 rw[ALo c1,ALo c1];by_cases c2:d.1=2
 ·rw[ALP c2,ALP c2,ig h hd];rfl
 rw[ALo c2,ALo c2];by_cases c3:d.1=3
 ·rw[ALP c3,ALP c3,fA h];rfl
 rw[ALo c3,ALo c3];by_cases c4:d.1=4
 ·rw[ALP c4,ALP c4,gX h];rfl
 rw[ALo c4,ALo c4];by_cases c5:d.1=5
 ·rw[ALP c5,ALP c5,fB h];rfl
 rw[ALo c5,ALo c5];by_cases c6:d.1=6
 ·rw[ALP c6,ALP c6,fl h];rfl
 rw[ALo c6,ALo c6];by_cases c7:d.1=7
 ·rw[ALP c7,ALP c7,gh h];rfl
 rw[ALo c7,ALo c7];by_cases c8:d.1=8
 ·rw[ALP c8,ALP c8,gu h];rfl
 rw[ALo c8,ALo c8];by_cases c9:d.1=9
 ·rw[ALP c9,ALP c9,fk h];rfl
 rw[ALo c9,ALo c9];by_cases c10:d.1=10
 ·rw[ALP c10,ALP c10,gH h];rfl
 rw[ALo c10,ALo c10];by_cases c11:d.1=11
 ·rw[ALP c11,ALP c11,jj h];rfl
 rw[ALo c11,ALo c11];by_cases c12:d.1=12
 ·rw[ALP c12,ALP c12,ed h];rfl
 rw[ALo c12,ALo c12];by_cases c13:d.1=13
 ·rw[ALP c13,ALP c13,show(w.1,w.2.1,())=AS w from rfl,show(w.2.2.2.2.1,w.2.2.2.2.2.1,())=B5 w from rfl,mU (c:=AS w) (r:=B5 w) (by show w.1.length≤_;omega) (by show Af CB w.2.2.2.2.1≤_;omega) k.trim h64]
  simp only[AD,pkR,PE];unfold OC;dsimp only;rcases AKr (MV (AS w) (B5 w) d.2.1).2 with hq|hq
  ·rw[hq,F4];rfl
  ·have e:(MV (AS w) (B5 w) d.2.1).1=B5 w:=by
    unfold MV at hq⊢;rw[JE.2 h.lj]at hq⊢;grind
   rw[hq,e,Im];rfl
 rw[ALo c13,ALo c13];by_cases c14:d.1=14
 ·rw[ALP c14,ALP c14,gB h WH];rfl
 rw[ALo c14,ALo c14];by_cases c16:d.1=16
 ·rw[ALP c16,ALo (show¬d.1=15 by omega),eZ h];rfl
 rw[ALo c16,ALP (show d.1=15 by omega),AL (x:=(w.2.2.2.2.2.2.1.length:Int)-1) (by omega) (by omega),Ax];simp only[AD,A5];unfold NB;rw[show BN d.2.1 0 ((w.2.2.2.2.2.2.1.length:Int)-1)=BN d.2.1 0 ((w.AH.length:Int)-1)from rfl];rcases AKr (BN d.2.1 0 ((w.AH.length:Int)-1))with h1|h1
 rotate_left
 ·rw[h1,Im];rfl
 obtain⟨x1,x2,x3⟩:=h.de h1;rw[h1,AMy,F4,AL (x:=d.2.1+1) (by omega) (by omega)];unfold FC AEo;rw[ALP (by omega)];simp only[AT4,AD];rw[show(d.2.1+1).toNat=d.2.1.toNat+1 by omega,←List.eraseIdx_eq_take_drop_succ];rfl
theorem lZ{d:BS}(WH:fa w)(h64:DH d.2.1):Ha w d=some (pkD (Df false w d)):=by
 unfold Ha Df;rw[show(w.1,w.2.1,w.2.2.1,w.2.2.2.1,w.2.2.2.2.1,w.2.2.2.2.2.1,w.2.2.2.2.2.2.1,w.2.2.2.2.2.2.2.1,w.2.2.2.2.2.2.2.2.1,w.2.2.2.2.2.2.2.2.2.1,w.2.2.2.2.2.2.2.2.2.2.1,())=w from rfl,show(d.1,d.2.1,d.2.2.1,d.2.2.2.1,d.2.2.2.2.1,())=d from rfl,Jw WH,qp,iW WH];simp only[AD,A5,Cv];rw[Iu.2 h];rcases AKr (PW d)with hd|hd
 rotate_left
 ·rw[hd];rfl
 have hk:1≤d.1∧d.1≤16:=by
  unfold PW at hd;exact Ah.1 (AMC _ _▸hd).1
 rw[hd,AMy,AMy,j9 h WH h64 (bT hd) hk];simp only[AD,AMO,AXj,AMH,AON];by_cases hc:(Lh false w d).2=0
 ·rw[ALP (show(AFR (Lh false w d)).1.1=0 from hc)]
  generalize hg:Lh false w d=q at hc⊢
  obtain⟨v,co⟩:=q;dsimp only at hc;subst hc;rfl
 ·rw[ALo (show¬(AFR (Lh false w d)).1.1=0 from hc)]
  have:=vv hc;rw[show Lh false w d=(w,(Lh false w d).2)by grind];rfl
end
theorem nJ{w:AA}{d:BS}(WH:fa w)(h64:DH d.2.1):Ha w d=some (pkD (Df false w d)):=by
 rcases AKr (Fm w)with hw|hw
 ·grind[lZ,Iu]
 ·unfold Ha Df
  rw[show(w.1,w.2.1,w.2.2.1,w.2.2.2.1,w.2.2.2.2.1,w.2.2.2.2.2.1,w.2.2.2.2.2.2.1,w.2.2.2.2.2.2.2.1,w.2.2.2.2.2.2.2.2.1,w.2.2.2.2.2.2.2.2.2.1,w.2.2.2.2.2.2.2.2.2.2.1,())=w from rfl,Jw WH,hw];rfl
end Go.M
end
section
set_option maxRecDepth 8000
namespace Go.M
open Go.M.H (AJ AO As Ab AA CO AN A4 AM AY Az Av BS Ak CL Af AX Aa Aq CB BF Ar A7 EC CM Cs C9)
def bare(se:List Ab):List (Int×List UInt8):=se.map fun s=>(s.1,s.2.1)
section
variable{w:AA} {se:List Ab}
end
theorem AF3{l m:List Ab}(h:bare l=bare m):l.length=m.length:=by
 have:=congrArg List.length h;grind[bare]
section
variable{w:AA}
end
theorem ADU{l m:List Ab}(h:bare l=bare m){s:Ab}(hs:s∈l):∃t∈m,t.1=s.1∧t.2.1=s.2.1:=by
 have h1:(s.1,s.2.1)∈bare m:=by rw[←h];exact ATd.2 ⟨s,hs,rfl⟩
 obtain⟨t,ht,e⟩:=ATd.1 h1;grind
theorem ADc{l m:List Ab}(h:bare l=bare m)(ha:Tf (fun s:Ab=>s.1) l):Tf (fun s:Ab=>s.1) m:=by
 have e:∀l:List Ab,Tf (fun s:Ab=>s.1) l↔(bare l).Pairwise fun x y=>x.1<y.1:=fun l=>by
  unfold bare Tf;rw[AWw]
 simp_all
theorem Nn.C2{w:AA}{se:List Ab}(hw:Nn w)(h:bare se=bare w.BK):Nn (w.C2 se) where
 cfg:=hw.cfg
 qh:=hw.qh
 lost:=hw.lost
 ED:=hw.ED
 An:=hw.An
 lj:=hw.lj
 rJ:=hw.rJ
 yC:=hw.yC
 AH:=hw.AH
 Xw:=hw.Xw
 BW:=hw.BW
 mf:=hw.mf
 AW:=hw.AW
 Qp:=by
  have:=hw.Qp;grind[AF3]
 BK:=fun s hs=>by
  obtain⟨t,ht,e1,e2⟩:=ADU h (show s∈se from hs);have:=hw.BK t ht;simp_all
 WO:=ADc h.symm hw.WO
end Go.M
end
section
set_option maxRecDepth 8000
namespace Go.M
open Go.M.H (AJ AO As Ab AA CO AN A4 AM AY Az Av BS Ak CL Af AX Aa Aq CB BF Ar A7 EC CM Cs C9)
structure Up (w v:AA):Prop where
 rd:∀k,k<2→D6 (w.AW.getD k Au).1 (w.AW.getD k Au).2.1≤D6 (v.AW.getD k Au).1 (v.AW.getD k Au).2.1∧(w.AW.getD k Au).2.2.1.length≤(v.AW.getD k Au).2.2.1.length
 er:w.Ac.length≤v.Ac.length∧ ∀i,i<w.Ac.length→(w.Ac.getD i GP).2.1=true→(v.Ac.getD i GP).2.1=true∧(v.Ac.getD i GP).2.2.1=(w.Ac.getD i GP).2.2.1
 ED:w.ED=true→v.ED=true
 se:w.BK.length≤v.BK.length
theorem Up.of{w v:AA}(h1:v.AW=w.AW)(h2:v.Ac=w.Ac)(h3:w.ED=true→v.ED=true)(h4:w.BK.length≤v.BK.length):Up w v:=
 ⟨fun k _=>by simp_all,by simp_all,h3,h4⟩
section
variable{w:AA} (hw:Nn w)
end
end Go.M
end
section
namespace Go.M
open Go.M.H (AJ AO As Ab AA CO AN A4 AM AY Az Av BS)
def runM(all:Bool):AA→List BS→AA×List Int
 |w,[]=>(w,[])
 |w,d::l=>
  let q:=Df all w d
  let r:=runM all (if q.2=0 then q.1 else w) l
  (r.1,q.2::r.2)
end Go.M
end
section
namespace Go.M
open Go.M.H (AJ AO As Ab AA CO AN A4 AM AY Az Av BS Af A7)
structure WR (w:AA) (q:aO):Prop where
 code:q.2≠1
 keep:q.2≠0→q.1=w
 rd:q.1.AW=w.AW
theorem WR.no{w:AA}{k:Int}(h:k≠1):WR w (w,k):=⟨h,fun _=>rfl,rfl⟩
theorem WR.yes{w v:AA}(h:v.AW=w.AW):WR w (v,0):=⟨by simp,fun h=>absurd rfl h,h⟩
section
variable{w:AA}
theorem N4{n:Int}:Al w n≠1:=by
 unfold Al;split
 ·decide
 ·split<;>decide
theorem eR{n:Int}{q:AO×Bool}:WR w (putAt w n q):=by
 unfold putAt;split
 ·exact .yes rfl
 ·exact .no (by decide)
theorem ADY{a:Int}:WR w (MD w a):=by
 unfold MD;split
 ·exact .no (by decide)
 dsimp only;split
 ·exact .no (by decide)
 ·exact .yes rfl
theorem AKM{a:Int}{d:ACD}:WR w (doAdd w a d):=by
 unfold doAdd;split
 ·exact .no (by decide)
 dsimp only;split
 ·exact .no (by decide)
 ·exact .yes rfl
theorem AB0{a b n:Int}:WR w (Ih w a b n):=by
 unfold Ih;split
 ·exact .no (by decide)
 dsimp only;split
 ·exact .no (by decide)
 split
 ·exact .no N4
 split
 ·exact .no (by decide)
 ·exact eR
theorem AFp{all:Bool}{n:Int}:WR w (Jv all w n):=by
 unfold Jv;split
 ·exact .no N4
 dsimp only;split
 ·exact .no (by decide)
 ·exact .yes rfl
theorem ACj{n k:Int}:WR w (IY w n k):=by
 unfold IY;split
 ·exact .no N4
 ·exact eR
theorem AFP{n:Int}:WR w (MZ w n):=by
 unfold MZ;split
 ·exact .no N4
 ·exact .yes rfl
theorem AEF{n:Int}:WR w (MW w n):=by
 unfold MW;split
 ·exact .no (by decide)
 dsimp only;split
 ·exact .no (by decide)
 ·exact .yes rfl
theorem AED:WR w (MN w):=by
 unfold MN;split
 ·exact .no (by decide)
 split
 ·exact .no (by decide)
 ·exact .yes rfl
theorem AEu{n:Int}:WR w (MX w n):=by
 unfold MX;split
 ·exact .no (by decide)
 split
 ·exact .no N4
 split
 ·exact .no (by decide)
 dsimp only;split
 ·exact .no (by decide)
 ·exact .yes rfl
theorem AGA:WR w (L4 w):=by
 unfold L4;split
 ·exact .no (by decide)
 dsimp only;split
 ·exact .no (by decide)
 ·exact .yes rfl
theorem AHU{b n:Int}:WR w (SV w b n):=by
 unfold SV;split
 ·exact .no (by decide)
 split
 ·exact .no (by decide)
 split
 ·exact .no N4
 split
 ·exact .no (by decide)
 ·exact eR
theorem ACR:WR w (Ik w):=by
 unfold Ik;split
 ·exact .no (by decide)
 split
 ·exact .no (by decide)
 dsimp only;split
 ·exact .no (by decide)
 ·exact .yes rfl
theorem ADb{a:Int}:WR w (OC w a):=by
 unfold OC;dsimp only;split
 ·exact .no (by decide)
 ·exact .yes rfl
theorem AFh{a:Int}:WR w (NB w a):=by
 unfold NB;split
 ·exact .no (by decide)
 ·exact .yes rfl
theorem ABb{n:Int}:WR w (Ie w n):=by
 unfold Ie;split
 ·exact .no N4
 ·exact eR
theorem AEl{all:Bool}{d:BS}(h:d.1≠14):WR w (Lh all w d):=by
 unfold Lh;by_cases c1:d.1=1
 ·rw[ALP c1];exact ADY
 rw[ALo c1];by_cases c2:d.1=2
 ·rw[ALP c2];exact AKM
 rw[ALo c2];by_cases c3:d.1=3
 ·rw[ALP c3];exact AB0
 rw[ALo c3];by_cases c4:d.1=4
 ·rw[ALP c4];exact AFp
 rw[ALo c4];by_cases c5:d.1=5
 ·rw[ALP c5];exact ACj
 rw[ALo c5];by_cases c6:d.1=6
 ·rw[ALP c6];exact AFP
 rw[ALo c6];by_cases c7:d.1=7
 ·rw[ALP c7];exact AEF
 rw[ALo c7];by_cases c8:d.1=8
 ·rw[ALP c8];exact AED
 rw[ALo c8];by_cases c9:d.1=9
 ·rw[ALP c9];exact AEu
 rw[ALo c9];by_cases c10:d.1=10
 ·rw[ALP c10];exact AGA
 rw[ALo c10];by_cases c11:d.1=11
 ·rw[ALP c11];exact AHU
 rw[ALo c11];by_cases c12:d.1=12
 ·rw[ALP c12];exact ACR
 rw[ALo c12];by_cases c13:d.1=13
 ·rw[ALP c13];exact ADb
 rw[ALo c13,ALo h];by_cases c15:d.1=15
 ·rw[ALP c15];exact AFh
 rw[ALo c15];exact ABb
theorem AJ9{all:Bool}{d:BS}(h:d.1=14):Lh all w d=IK w d.2.1 d.2.2.1:=by
 unfold Lh;rw[h];simp
theorem AGk(hw:Nn w){all:Bool}{d:BS}(e:(Lh all w d).2=0):Af A7 (Lh all w d).1.AW≤Af A7 w.AW+41:=by
 by_cases h:d.1=14
 ·rw[AJ9 h]at e⊢
  exact(wy hw e).2.2.2.2.2
 ·rw[(AEl h).rd];omega
end
end Go.M
end
section
set_option maxRecDepth 8000
namespace Go.M
open Go.M.H (AJ AO As Ab AA CO AN A4 AM AY Az Av BS Ak CL Af AX Aa Aq CB BF Ar A7 EC CM Cs C9)
abbrev ADs(N:Nat):((AA×Unit×AA×Unit)×Unit)→(List BS×Unit)→Prop:=fun x y=>(∃c,Ej c=true∧x.1.1=Eu c)∧y.1.length≤N∧ ∀d∈y.1,DH d.2.1
section
variable{code:AAH} (hc:code.length≤2^30)
include hc
theorem AKu{T:Int}{N:Nat}(hT:T≤N∧N≤1000){s:AA}(hs:∃c,Ej c=true∧s=Eu c):∀(n k:Nat) (i hh:Int) (w:AA) (acc:List BS),Gf code i→(k:Int)≤max T 0→(T-k).toNat<n→acc.length≤k→(∀d∈acc,DH d.2.1)→Nn w→RdS w→
  OK code (ADs N) (Di n T k code i hh 0 0 false [] [] [] [] [] [] [] [] 0 0 false [] [] [] [] [] [] [] [] s.1 s.2.1 s.2.2.1 s.2.2.2.1 s.2.2.2.2.1 s.2.2.2.2.2.1 s.2.2.2.2.2.2.1 s.2.2.2.2.2.2.2.1 s.2.2.2.2.2.2.2.2.1 s.2.2.2.2.2.2.2.2.2.1 s.2.2.2.2.2.2.2.2.2.2.1
   w.1 w.2.1 w.2.2.1 w.2.2.2.1 w.2.2.2.2.1 w.2.2.2.2.2.1 w.2.2.2.2.2.2.1 w.2.2.2.2.2.2.2.1 w.2.2.2.2.2.2.2.2.1 w.2.2.2.2.2.2.2.2.2.1 w.2.2.2.2.2.2.2.2.2.2.1 acc):=by
 intro n
 induction n with
 |zero=>intro k i hh w acc _ _ h;omega
 |succ n ih=>
  intro k i hh w acc hi hk hn hb hd hw hr;simp only[Di,Pq];refine OK.jU (fun Lu=> ?_) (fun hge=>OK.some hi ⟨hs,by show acc.length≤N;omega,hd⟩);rw[show(w.1,w.2.1,w.2.2.1,w.2.2.2.1,w.2.2.2.2.1,w.2.2.2.2.2.1,w.2.2.2.2.2.2.1,w.2.2.2.2.2.2.2.1,w.2.2.2.2.2.2.2.2.1,w.2.2.2.2.2.2.2.2.2.1,w.2.2.2.2.2.2.2.2.2.2.1,())=w from rfl];refine OK.bind (wb hc hw hi) fun x i1 h1 y eo hq=> ?_
  dsimp only;refine OK.ite (by rw[BX];omega) ?_
  refine OK.pure (bh (d:=x.1) (hw.win hr) hq.1) ?_
  rw[AL (by omega) (by omega),show((k:Int)+1)=((k+1:Nat):Int)by omega];have hd2:∀d∈acc++[x.1],DH d.2.1:=fun d hdm=>by
   rcases AOl.1 hdm with h|h
   ·exact hd d h
   ·rw[ATj.1 h];exact hq.1
  refine OK.oc (fun h0=> ?_) (fun h0=> ?_)
  ·have h0':(Df true w x.1).2=0:=h0
   exact ih (k+1) i1 h1 (Df true w x.1).1 (acc++[x.1]) eo (by omega) (by omega) (by simp;omega) hd2 (Iu.1 (zM h0')) (rW hr h0')
  ·exact ih (k+1) i1 h1 w (acc++[x.1]) eo (by omega) (by omega) (by simp;omega) hd2 hw hr
theorem AOf{T:Int}{N:Nat}(hT:(0≤T∧T≤500)∧T≤N∧N≤1000){dom:AAH}{b21:AAH}(hbl:b21.length≤100)(hd:ay dom 1):∀(n:Nat) (c i hh:Int),Gf code i→1≤c∧c≤3→c.toNat+1000≤n→
  OK code (ADs N) (Ei n T b21 code i hh 0 0 false [] [] [] [] [] [] [] [] 0 0 false [] [] [] [] [] [] [] [] dom c):=by
 intro n
 induction n with
 |zero=>intro c i hh _ _ h;omega
 |succ n ih=>
  intro c i hh hi q7 hn;have hg:ay dom c:=⟨hd.1,hd.2.1,q7.1,q7.2,hd.2.2.2.2⟩;have hdl:=hd.2.1;simp only[Ei,Qx];have fin:OK code (ADs N) ((Hc (dom,c,())).bind fun u6=>
    (Am (AZ (T+1)) code i hh).bind fun u7=>
    Di n u7.1.1 0 u7.2.1.1 u7.2.1.2.1 u7.2.1.2.2.1 0 0 false [] [] [] [] [] [] [] [] 0 0 false [] [] [] [] [] [] [] []
     u6.2.1 u6.1.1.1.2.1 u6.2.2.1 u6.2.2.2.1 u6.2.2.2.2.1 u6.1.1.1.2.2.2.2.2.1 u6.2.2.2.2.2.1 u6.2.2.2.2.2.2.1 u6.2.2.2.2.2.2.2.1 u6.2.2.2.2.2.2.2.2.1 u6.1.1.1.2.2.2.2.2.2.2.2.2.2.1
     u6.2.1 u6.1.1.1.2.1 u6.2.2.1 u6.2.2.2.1 u6.2.2.2.2.1 u6.1.1.1.2.2.2.2.2.1 u6.2.2.2.2.2.1 u6.2.2.2.2.2.2.1 u6.2.2.2.2.2.2.2.1 u6.2.2.2.2.2.2.2.2.1 u6.1.1.1.2.2.2.2.2.2.2.2.2.2.1 []):=by
   refine OK.pure (ki hg.ok) ?_
   rw[AL (by omega) (by omega)];refine OK.bind (Ph hc hi (by omega)) fun x i1 h1 y eo hq=> ?_
   have hwn:=dk hg.ok;exact AKu hc (T:=x.1) (by omega) (N:=N) (s:=Eu (dom,c,())) ⟨_,hg.ok,rfl⟩ n 0 i1 h1 (Eu (dom,c,())) [] eo (by omega) (by omega) (by simp) (by simp) hwn.1 hwn.2
  refine OK.jU (fun Lu=> ?_) (fun hge=>fin);refine OK.pure (E5 (by show dom.length≤_;omega) (by omega)) ?_
  refine OK.cond (fun _=> ?_) (fun _=>fin);rw[AL (by omega) (by omega)];exact ih (c-1) i hh hi (by omega) (by omega)
theorem APX{T:Int}{N:Nat}(hT:(0≤T∧T≤500)∧T≤N∧N≤1000){dom:AAH}{c:Int}(hd:ay dom c):∀(n k:Nat) (i hh:Int) (b:AAH),Gf code i→k≤dom.length→dom.length-k+1010≤n→b.length≤k→
  OK code (ADs N) (Eo n T k code i hh 0 0 false [] [] [] [] [] [] [] [] 0 0 false [] [] [] [] [] [] [] [] c dom b):=by
 have hdl:=hd.2.1;intro n
 induction n with
 |zero=>intro k i hh b _ _ h;omega
 |succ n ih=>
  intro k i hh b hi hk hn hb;simp only[Eo,Q2];refine OK.jU (fun Lu=> ?_) (fun hge=> ?_)
  ·refine OK.ite (by rw[BX];omega) ?_
   rw[AL (by omega) (by omega),show((k:Int)+1)=((k+1:Nat):Int)by omega];exact ih (k+1) i hh _ hi (by omega) (by omega) (by simp;omega)
  ·exact AOf hc hT (by omega) ⟨hd.1,hd.2.1,by omega,by omega,hd.2.2.2.2⟩ n c i hh hi ⟨hd.2.2.1,hd.2.2.2.1⟩ (by have:=hd.2.2.2.1;omega)
theorem xF{T:Int}{N:Nat}(hT:(0≤T∧T≤500)∧T≤N∧N≤1000){i hh:Int}(hi:Gf code i):OK code (ADs N) (NW T code i hh):=by
 unfold NW Q3;obtain⟨l,c,i1,h1,e,hg,eo⟩:=pK hc (h:=hh) hi;rw[e];have hgl:=hg.2.1;exact APX hc hT hg Ae 0 i1 h1 [] eo (by omega) (ATy (Ag (by omega))) (by simp)
omit hc in
theorem AI4{w:AA}(hw:Nn w)(hr:RdS w):Af A7 w.AW≤10002:=
 GG (
  f:=A7) (B:=5000) (N:=2) (l:=w.AW) (by rw[hw.mf];omega) fun r hx=>by
  have:=GG (f:=CM) (B:=40) (hw.AW r hx).n (hr r hx);unfold A7;omega
end
theorem zp{p:AAH}(hp:p.length≤2^30):∃T,YA p 100 190=some ((T,()),())∧0≤T∧T≤190:=by
 unfold YA;dsimp only;have hd:(p.length:Int).tdiv 4=(p.length:Int)/4:=Int.tdiv_eq_ediv_of_nonneg (by omega);rw[hd,AL (x:=(p.length:Int)/4) (by omega) (by omega),AL (by omega) (by omega),AB];split
 ·exact⟨190,rfl,by omega⟩
 ·exact⟨_,rfl,by omega⟩
theorem yw{w:AA}{d:BS}{all:Bool}(hw:Nn w)(h0:(Df all w d).2=0):Af A7 (Df all w d).1.AW≤Af A7 w.AW+41:=by
 have:Df all w d=Lh all w d:=by
  revert h0
  unfold Df;cases Fm w<;>cases PW d<;>simp
 rw[this]at h0⊢;exact AGk hw h0
end Go.M
end
section
namespace Go.Sf
abbrev uB:=List UInt8
structure Nv where
 at_:Int
 PR:Int
 hole:Bool
 data:uB
structure Wd where
 data:uB
 nw:Int→Prop
 done:Prop
structure Md where
 ep:Int
 fK:Int→Prop
 seen:Int→Option Nv
 pl:Prop
 n:Int
 wrote:Int→Int→Prop
structure St where
 len:Int
 nodes:Int→Int→Prop
 cl:Int→Prop
 last:Int→Int
 trim:Int
 lost:Int→Prop
 ED:Prop
 kept:Int→Int→Option Nv
 late:Int→Nv→Prop
 sl:Int→Int
 vg:Int→Prop
 wd:Int→Option Wd
 md:Option Md
 HF:Int→Option (uB×Prop)
section
variable(H:(Int→Prop)→Prop) (ep off:Int→Int) (Pl:Int→Prop)
def VC(len:Int)(m:Md)(p:Int):Nv:=
 match m.seen p with
 |some x=>⟨p,len,x.hole,x.data⟩
 |none=>⟨p,len,true,[]⟩
def EG(s:St)(x:Nv):Prop:=(∃n,s.kept n x.at_=some x)∨(∃n,s.late n x)∨(∃m,s.md=some m∧m.seen x.at_=some x)
def AIy(s:St)(p n:Int):Prop:= ∃w,s.wd p=some w∧w.nw n
def cj(s:St)(p:Int):Prop:= ∃d q,s.HF p=some (d,q)∧q
def Lv(s:St)(p:Int):Prop:= ¬cj s p∧ep p<s.len∧(s.vg (ep p)→ ¬H (fun n=>s.nodes (ep p) n∧(¬(s.lost n∨ep p≤s.sl n)∨AIy s p n)))
def Have(s:St)(p n:Int):Prop:=(∃x,s.kept n p=some x)∨s.lost n
structure GR (s:St):Prop where
 nY:0≤s.len
 ZP:∀e,1≤e→e≤s.len→H (s.nodes e)
 oe:∀e,s.cl e→1≤e∧e<s.len
 ZY:∀e f,s.cl e→1≤f→f<e→s.cl f
 md1:∀m,s.md=some m→1≤m.ep∧m.ep<s.len∧ ¬s.cl m.ep∧ ∀e,1≤e→e<m.ep→s.cl e
 wr1:∀e,s.vg e→1≤e∧e≤s.len
 vz:∀p w,s.wd p=some w→Pl p∧s.vg (ep p)∧(∃q,s.HF p=some (w.data,q)∧(w.done→q))∧(w.done↔H w.nw)∧(∀n,w.nw n→s.nodes (ep p) n)
 dj:∀p d,s.HF p=some d→Pl p∧ep p≤s.len
 UW:∀n p x,s.kept n p=some x→x.at_=p
 jF:∀m p x,s.md=some m→m.seen p=some x→x.at_=p∧ep p=m.ep∧x.PR<s.len
 hY:∀x,EG s x→Pl x.at_∧0≤x.PR∧x.PR≤s.len∧ep x.at_≤s.len∧(0<x.PR→ep x.at_<x.PR)∧(x.PR=0→x.hole=false)∧(x.hole=true→x.data=[])
 fu:∀x,EG s x→x.hole=false→ ∃q,s.HF x.at_=some (x.data,q)
 pP:∀x,EG s x→x.PR=s.len→ ¬s.cl (ep x.at_)→ ∃m,s.md=some m∧m.pl∧m.ep=ep x.at_∧x=VC s.len m x.at_
 rG:∀x y,EG s x→EG s y→x.at_=y.at_→x.PR=y.PR→x=y
structure HJ (s:St) (fin:Int→Nv):Prop where
 XH: ¬H s.lost
 sure:∀p,cj s p→s.trim<p→H (fun n=>s.nodes (ep p) n∧Have s p n)∧ ∀m,s.md=some m→m.ep=ep p→(∃x,m.seen p=some x)∨H (fun n=>s.nodes (ep p) n∧ ¬m.fK n∧Have s p n)
 Se:∀p w n,s.wd p=some w→ ¬w.done→w.nw n→ ¬s.lost n∧(s.trim<p→(∃x,s.kept n p=some x)∧ ∀m,s.md=some m→m.ep=ep p→m.fK n→ ∃x,m.seen p=some x)
 fK:∀m n,s.md=some m→m.fK n→s.lost n∨s.len-1≤s.sl n
 Sy:∀x,EG s x→x.hole=true→s.trim<x.at_→Lv H ep s x.at_
 ZH:∀m p,s.md=some m→m.pl→Pl p→ep p=m.ep→s.trim<p→m.seen p=none→Lv H ep s p
 past:∀p,Pl p→s.cl (ep p)→s.last (ep p)<off p→s.trim<p→Lv H ep s p
 wrote:∀m p n,s.md=some m→m.wrote p n→s.nodes m.ep n∧ ¬s.lost n∧m.pl∧(s.trim<p→s.kept n p=some (VC s.len m p))
 dM:∀m p x,s.md=some m→m.pl→m.seen p=some x→off p≤m.n
 closed:∀p,Pl p→s.cl (ep p)→off p≤s.last (ep p)→s.trim<p→(fin p).at_=p∧0<(fin p).PR∧(∀x,EG s x→x.at_=p→x.PR≤(fin p).PR∧(x.PR=(fin p).PR→x=fin p))∧
  H (fun n=>s.nodes (ep p) n∧(s.lost n∨s.kept n p=some (fin p)))
end
end Go.Sf
end
section
namespace Go.Sf
section
variable{H:(Int→Prop)→Prop} (hm:∀S T:Int→Prop,(∀n,S n→T n)→H S→H T) {ep off:Int→Int} {Pl:Int→Prop} {s:St} {fin:Int→Nv}
def Pg(k k':Int→Option Nv)(L:Nv→Prop):Prop:=
 (∀p x,k p=some x→ ∃y,k' p=some y∧(y=x∨x.PR<y.PR))∧ ∀p y,k' p=some y→k p=some y∨(L y∧y.at_=p)
def St.settle(s:St)(n:Int)(k':Int→Option Nv):St:={ s with kept:=fun m=>if m=n then k' else s.kept m,late:=fun m x=>m≠n∧s.late m x }
theorem mE{n:Int}{k':Int→Option Nv}(hk:Pg (s.kept n) k' (s.late n)){x:Nv}(h:EG (s.settle n k') x):EG s x:=by
 unfold EG St.settle at*;obtain⟨h1,h2⟩:=hk;grind
theorem om{n:Int}{k':Int→Option Nv}(hk:Pg (s.kept n) k' (s.late n))(h:GR H ep Pl s):GR H ep Pl (s.settle n k'):=by
 have hi:∀x,EG (s.settle n k') x→EG s x:=fun x=>mE hk
 obtain⟨a1,a2,a3,a4,a5,a6,a7,a8,a9,a10,a11,a12,a13,a14⟩:=h;refine⟨a1,a2,a3,a4,a5,a6,a7,a8,?_,a10,fun x h=>a11 x (hi x h),fun x h=>a12 x (hi x h),fun x h=>a13 x (hi x h),fun x y h k=>a14 x y (hi x h) (hi y k)⟩;grind[Pg,St.settle]
theorem wt{n:Int}{k':Int→Option Nv}(hk:Pg (s.kept n) k' (s.late n)){p m:Int}(h:Have s p m):Have (s.settle n k') p m:=by
 unfold Have St.settle Pg at*;grind
include hm in
theorem oO{n:Int}{k':Int→Option Nv}(hk:Pg (s.kept n) k' (s.late n))(hA:GR H ep Pl s)(h:HJ H ep off Pl s fin):HJ H ep off Pl (s.settle n k') fin:=by
 have hi:∀x,EG (s.settle n k') x→EG s x:=fun x=>mE hk
 have hh:=fun p m=>wt (s:=s) (n:=n) hk (p:=p) (m:=m)
 refine⟨h.XH,fun p hs ht=> ?_,fun p w m h1 h2 h3=> ?_,h.fK,fun x h1 h2 h3=>h.Sy x (hi x h1) h2 h3,h.ZH,h.past,fun m p k h1 h2=> ?_,h.dM,fun p h1 h2 h3 h4=> ?_⟩
 ·obtain⟨h1,h2⟩:=h.sure p hs ht
  refine⟨hm _ _ (fun m h=>⟨h.1,hh p m h.2⟩) h1,fun m hm1 hm2=>(h2 m hm1 hm2).imp id fun h=>hm _ _ (fun k h=>⟨h.1,h.2.1,hh p k h.2.2⟩) h⟩
 ·have:=h.Se p w m h1 h2 h3
  unfold Pg at hk;simp only[St.settle];grind
 ·have h3:=h.wrote m p k h1 h2
  refine⟨h3.1,h3.2.1,h3.2.2.1,fun ht=> ?_⟩;have h4:=h3.2.2.2 ht;obtain⟨k1,k2⟩:=hk;simp only[St.settle];split
  ·rename_i e
   subst e;obtain⟨y,h5,h6⟩:=k1 p _ h4;have i1:=hA.hY y (hi y (.inl ⟨k,by simp[St.settle];grind[hA.UW]⟩));grind[VC]
  ·exact h4
 ·obtain⟨h5,h50,h6,h7⟩:=h.closed p h1 h2 h3 h4
  refine⟨h5,h50,fun x hx=>h6 x (hi x hx),hm _ _ (fun m h=>⟨h.1,h.2.imp id fun hq=> ?_⟩) h7⟩;obtain⟨k1,k2⟩:=hk;simp only[St.settle];split
  ·rename_i e
   subst e;obtain⟨y,h8,h9⟩:=k1 p _ hq;have i1:=h6 y (hi y (.inl ⟨m,by simp[St.settle];grind[hA.UW]⟩));grind[hA.UW]
  ·exact hq
theorem Lv.of{s s':St}{p:Int}(hn:Lv H ep s p)(h1:cj s' p→cj s p)(h2:s.len≤s'.len)(h3:s'.vg (ep p)→s.vg (ep p))
  (h4:s'.vg (ep p)→ ∀n,s'.nodes (ep p) n→(¬(s'.lost n∨ep p≤s'.sl n)∨AIy s' p n)→s.nodes (ep p) n∧(¬(s.lost n∨ep p≤s.sl n)∨AIy s p n))
  (hm:∀S T:Int→Prop,(∀n,S n→T n)→H S→H T):Lv H ep s' p:=
 ⟨fun h=>hn.1 (h1 h),Int.lt_of_lt_of_le hn.2.1 h2,fun hw h=>hn.2.2 (h3 hw) (hm _ _ (fun n hq=>h4 hw n hq.1 hq.2) h)⟩
def St.dJ(H:(Int→Prop)→Prop)(s:St)(p n:Int)(w:Wd):St:=
 { s with wd:=fun q=>if q=p then some ⟨w.data,fun k=>w.nw k∨k=n,H (fun k=>w.nw k∨k=n)⟩else s.wd q,HF:=fun q=>if q=p then(s.HF p).map (fun d=>(d.1,d.2∨H (fun k=>w.nw k∨k=n)))else s.HF q }
structure AAZ (ep:Int→Int) (s:St) (p n:Int) (w:Wd):Prop where
 wd:s.wd p=some w
 open_: ¬w.done
 node:s.nodes (ep p) n
 there: ¬s.lost n
 free:s.sl n<ep p
 has:∃x,s.kept n p=some x
theorem AUu{p n:Int}{w:Wd}(k:AAZ ep s p n w)(h:GR H ep Pl s):GR H ep Pl (s.dJ H p n w):=by
 obtain⟨a1,a2,a3,a4,a5,a6,a7,a8,a9,a10,a11,a12,a13,a14⟩:=h;refine⟨a1,a2,a3,a4,a5,a6,fun q v hq=> ?_,fun q d hq=> ?_,a9,a10,a11,fun x hx hh=> ?_,a13,a14⟩
 ·have:=a7 p w k.wd
  have:=k.node;simp only[St.dJ]at*;grind
 ·simp only[St.dJ]at hq
  split at hq
  ·rename_i e
   cases hp:s.HF p with
   |none=>simp_all
   |some z=>rw[e];exact a8 p z hp
  ·exact a8 q d hq
 ·obtain⟨z,hz⟩:=a12 x hx hh
  simp only[St.dJ];grind
theorem sU{p n:Int}{w:Wd}{q:Int}(h:cj (s.dJ H p n w) q):cj s q∨(q=p∧H (fun k=>w.nw k∨k=n)):=by
 obtain⟨d,z,h1,h2⟩:=h;simp only[St.dJ]at h1;split at h1
 ·rename_i e
  cases hp:s.HF p with
  |none=>simp_all
  |some y=>
   rw[hp]at h1;cases h1;rcases h2 with h2|h2
   ·exact .inl ⟨y.1,y.2,by rw[e,hp],h2⟩
   simp_all
 ·exact .inl ⟨d,z,h1,h2⟩
include hm in
theorem AUy{p n:Int}{w:Wd}(k:AAZ ep s p n w)(hA:GR H ep Pl s)(h:HJ H ep off Pl s fin):HJ H ep off Pl (s.dJ H p n w) fin:=by
 have hk:=k.wd;have ho:=k.open_;have ht:=k.there;have hf:=k.free;have AWe:=k.has;have AMx:∀m,s.md=some m→m.ep=ep p→ ¬m.fK n:=fun m h1 h2 h3=>by
  have:=h.fK m n h1 h3;have:=hA.md1 m h1;grind
 have hN:∀q,Lv H ep s q→Lv H ep (s.dJ H p n w) q:=fun q hn=>by
  refine hn.of (fun hs=> ?_) (ATO _) (fun h=>h) (fun hw m hn hd=> ?_) hm
  ·rcases sU hs with h'|⟨hq,hH⟩
   ·exact h'
   ·subst hq
    refine absurd (hm _ _ (fun m oH=>⟨?_,?_⟩) hH) (hn.2.2 (hA.vz q w hk).2.1)
    ·have:=k.node
     have:=(hA.vz q w hk).2.2.2.2 m;grind
    ·rcases oH with h'|rfl
     ·exact .inr ⟨w,hk,h'⟩
     ·exact .inl (by grind)
  ·refine⟨hn,?_⟩
   simp only[AIy,St.dJ]at*;grind
 refine⟨h.XH,fun q hs hq=> ?_,fun q v m h1 h2 h3=> ?_,h.fK,fun x h1 h2 h3=>hN _ (h.Sy x h1 h2 h3),fun m q h1 h2 h3 h4 h5 h6=>hN _ (h.ZH m q h1 h2 h3 h4 h5 h6),fun q h1 h2 h3 h4=>hN _ (h.past q h1 h2 h3 h4),h.wrote,h.dM,h.closed⟩
 ·by_cases hqs:cj s q
  ·exact h.sure q hqs hq
  ·obtain⟨hqp,hH⟩:=(sU hs).resolve_left hqs
   subst hqp;have h1:=hA.vz q w hk;have h2:∀m,(w.nw m∨m=n)→s.nodes (ep q) m∧Have s q m:=fun m oH=>by
    rcases oH with h'|rfl
    ·exact⟨h1.2.2.2.2 m h',.inl ((h.Se q w m hk ho h').2 hq).1⟩
    ·exact⟨k.node,.inl AWe⟩
   refine⟨hm _ _ h2 hH,fun m Sd oh=> ?_⟩;by_cases hseen:∃x,m.seen q=some x
   ·exact .inl hseen
   ·refine .inr (hm _ _ (fun j hj=>⟨(h2 j hj).1,fun hsl=> ?_,(h2 j hj).2⟩) hH)
    rcases hj with h'|rfl
    ·exact hseen (((h.Se q w j hk ho h').2 hq).2 m Sd oh hsl)
    ·exact AMx m Sd oh hsl
 ·by_cases hq:q=p
  ·subst hq
   have h4:=fun j=>h.Se q w j hk ho
   simp only[St.dJ,ATK,ALt]at h1;subst h1;rcases h3 with h3|rfl
   ·exact h4 m h3
   ·exact⟨ht,fun _=>⟨AWe,fun m' a b c=>absurd c (AMx m' a b)⟩⟩
  ·simp only[St.dJ,ALo hq]at h1
   exact h.Se q v m h1 h2 h3
def St.wrt(s:St)(m:Md)(p n:Int):St:={ s with md:=some { m with wrote:=fun q k=>m.wrote q k∨(q=p∧k=n) } }
theorem w9{m:Md}{p n:Int}(Sd:s.md=some m){x:Nv}(h:EG (s.wrt m p n) x):EG s x:=by
 rcases h with h|h|⟨m',h1,h2⟩
 ·exact .inl h
 ·exact .inr (.inl h)
 ·cases h1
  exact .inr (.inr ⟨m,Sd,h2⟩)
theorem AUj{m:Md}{p n:Int}(Sd:s.md=some m)(h:GR H ep Pl s):GR H ep Pl (s.wrt m p n):=by
 have hi:∀x,EG (s.wrt m p n) x→EG s x:=fun x=>w9 Sd
 obtain⟨a1,a2,a3,a4,a5,a6,a7,a8,a9,a10,a11,a12,a13,a14⟩:=h;refine⟨a1,a2,a3,a4,?_,a6,a7,a8,a9,?_,fun x h=>a11 x (hi x h),fun x h=>a12 x (hi x h),fun x h h1 h2=> ?_,fun x y h k=>a14 x y (hi x h) (hi y k)⟩
 ·intro m' e;cases e;exact a5 m Sd
 ·intro m' q x e;cases e;exact a10 m q x Sd
 ·obtain⟨m',e,h3,h4,h5⟩:=a13 x (hi x h) h1 h2
  rw[Sd]at e;cases e;exact⟨_,rfl,h3,h4,h5⟩
theorem AW2{m:Md}{p n:Int}(Sd:s.md=some m)(lR:m.pl)(h1:s.nodes m.ep n)(h2: ¬s.lost n)(h3:s.kept n p=some (VC s.len m p))(h:HJ H ep off Pl s fin):HJ H ep off Pl (s.wrt m p n) fin:=by
 have hi:∀x,EG (s.wrt m p n) x→EG s x:=fun x=>w9 Sd
 obtain⟨b1,b2,b3,b4,b5,b6,b7,b8,b9,MG⟩:=h;refine⟨b1,fun q a b=>⟨(b2 q a b).1,?_⟩,fun q w j a b c=>⟨(b3 q w j a b c).1,fun d=>⟨((b3 q w j a b c).2 d).1,?_⟩⟩,?_,fun x a=>b5 x (hi x a),?_,b7,?_,?_,fun q a b c d=>⟨(MG q a b c d).1,(MG q a b c d).2.1,fun x e=>(MG q a b c d).2.2.1 x (hi x e),(MG q a b c d).2.2.2⟩⟩
 ·have:=(b2 q a b).2
  simp only[St.wrt];intro m' e;cases e;exact this m Sd
 ·have:=((b3 q w j a b c).2 d).2
  simp only[St.wrt];simp_all
 ·simp only[St.wrt];intro m' j e;cases e;simp_all
 ·simp only[St.wrt];intro m' q e;cases e;exact b6 m q Sd
 ·intro m' q k e hq
  cases e;rcases hq with hq|⟨rfl,rfl⟩
  ·exact b8 m q k Sd hq
  ·exact⟨h1,h2,lR,fun _=>h3⟩
 grind[St.wrt]
end
end Go.Sf
end
section
namespace Go.Sf
section
variable{H:(Int→Prop)→Prop} (hm:∀S T:Int→Prop,(∀n,S n→T n)→H S→H T) (h0: ¬H (fun _=>False)) {ep off:Int→Int} {Pl:Int→Prop} {s:St} {fin:Int→Nv}
def St.add(s:St)(p:Int)(d:uB):St:=
 { s with wd:=fun q=>if q=p then some ⟨d,fun _=>False,False⟩else s.wd q,HF:=fun q=>if q=p then some (d,False)else s.HF q }
structure AME (ep:Int→Int) (Pl:Int→Prop) (s:St) (p:Int):Prop where
 pl:Pl p
 wr:s.vg (ep p)
 wd:s.wd p=none
 HF:s.HF p=none
include h0 in
theorem AUD{p:Int}{d:uB}(k:AME ep Pl s p)(h:GR H ep Pl s):GR H ep Pl (s.add p d):=by
 obtain⟨a1,a2,a3,a4,a5,a6,a7,a8,a9,a10,a11,a12,a13,a14⟩:=h;refine⟨a1,a2,a3,a4,a5,a6,fun q v hq=> ?_,fun q d' hq=> ?_,a9,a10,a11,fun x hx hh=> ?_,a13,a14⟩
 ·simp only[St.add]at*
  split at hq
  ·cases hq
   rename_i e;subst e;exact⟨k.pl,k.wr,⟨_,by simp,fun h=>h⟩,⟨fun h=>h.elim,fun h=>h0 h⟩,fun _ h=>h.elim⟩
  ·rename_i e
   obtain⟨b1,b2,b3,b4⟩:=a7 q v hq;exact⟨b1,b2,by simpa[e]using b3,b4⟩
 ·simp only[St.add]at hq
  split at hq
  ·rename_i e
   subst e;exact⟨k.pl,(a6 _ k.wr).2⟩
  ·exact a8 q d' hq
 ·obtain⟨z,hz⟩:=a12 x hx hh
  have:x.at_≠p:=fun e=>by rw[e,k.HF]at hz;cases hz
  exact⟨z,by simpa[St.add,this]using hz⟩
theorem xd{p:Int}{d:uB}{q:Int}(h:cj (s.add p d) q):cj s q:=by
 obtain⟨a,z,h1,h2⟩:=h;simp only[St.add]at h1;split at h1
 ·simp_all
 ·exact⟨a,z,h1,h2⟩
include hm in
theorem AUL{p:Int}{d:uB}(h:HJ H ep off Pl s fin):HJ H ep off Pl (s.add p d) fin:=by
 have hN:∀q,Lv H ep s q→Lv H ep (s.add p d) q:=fun q hn=>by
  refine hn.of xd (ATO _) (fun h=>h) (fun hw m hn hd=>⟨hn,hd.imp id ?_⟩) hm
  rintro⟨w,h1,h2⟩
  simp only[St.add]at h1;split at h1
  ·cases h1;exact h2.elim
  ·exact⟨w,h1,h2⟩
 refine⟨h.XH,fun q hs hq=>h.sure q (xd hs) hq,fun q v m h1 h2 h3=> ?_,h.fK,fun x h1 h2 h3=>hN _ (h.Sy x h1 h2 h3),fun m q h1 h2 h3 h4 h5 h6=>hN _ (h.ZH m q h1 h2 h3 h4 h5 h6),fun q h1 h2 h3 h4=>hN _ (h.past q h1 h2 h3 h4),h.wrote,h.dM,h.closed⟩;simp only[St.add]at h1;split at h1
 ·cases h1;exact h3.elim
 ·exact h.Se q v m h1 h2 h3
def St.put(s:St)(n:Int)(x:Nv):St:={ s with late:=fun m y=>s.late m y∨(m=n∧y=x) }
theorem XN{n:Int}{x y:Nv}(h:EG (s.put n x) y):EG s y∨y=x:=by
 rcases h with h|⟨m,h|⟨_,h⟩⟩|h
 ·exact .inl (.inl h)
 ·exact .inl (.inr (.inl ⟨m,h⟩))
 ·simp_all
 ·exact .inl (.inr (.inr h))
structure AAu (ep:Int→Int) (Pl:Int→Prop) (s:St) (x:Nv):Prop where
 pl:Pl x.at_
 w0:0≤x.PR
 w1:x.PR≤s.len
 e1:ep x.at_≤s.len
 w2:0<x.PR→ep x.at_<x.PR
 h1:x.PR=0→x.hole=false
 h2:x.hole=true→x.data=[]
 HF:x.hole=false→ ∃q,s.HF x.at_=some (x.data,q)
 last:x.PR=s.len→ ¬s.cl (ep x.at_)→ ∃m,s.md=some m∧m.pl∧m.ep=ep x.at_∧x=VC s.len m x.at_
 one:∀y,EG s y→x.at_=y.at_→x.PR=y.PR→x=y
theorem AVu{n:Int}{x:Nv}(k:AAu ep Pl s x)(h:GR H ep Pl s):GR H ep Pl (s.put n x):=by
 obtain⟨a1,a2,a3,a4,a5,a6,a7,a8,a9,a10,a11,a12,a13,a14⟩:=h;refine⟨a1,a2,a3,a4,a5,a6,a7,a8,a9,a10,fun y hy=> ?_,fun y hy=> ?_,fun y hy=> ?_,fun y z hy hz e1 e2=> ?_⟩
 ·rcases XN hy with hy|rfl
  ·exact a11 y hy
  ·exact⟨k.pl,k.w0,k.w1,k.e1,k.w2,k.h1,k.h2⟩
 ·rcases XN hy with hy|rfl
  ·exact a12 y hy
  ·exact k.HF
 ·rcases XN hy with hy|rfl
  ·exact a13 y hy
  ·exact k.last
 ·rcases XN hy with yE|ey<;>rcases XN hz with hz'|ez
  ·grind
  ·rw[ez]at e1 e2⊢
   exact(k.one y yE e1.symm e2.symm).symm
  ·rw[ey]at e1 e2⊢
   exact k.one z hz' e1 e2
  simp_all
theorem AU7{n:Int}{x:Nv}(hh:x.hole=true→s.trim<x.at_→Lv H ep s x.at_)
  (hc:s.cl (ep x.at_)→x.PR=0) (h:HJ H ep off Pl s fin):HJ H ep off Pl (s.put n x) fin:=by
 refine⟨h.XH,h.sure,h.Se,h.fK,fun y h1 h2 h3=> ?_,h.ZH,h.past,h.wrote,h.dM,fun p h1 h2 h3 h4=> ?_⟩
 ·rcases XN h1 with hy|rfl
  ·exact h.Sy y hy h2 h3
  ·exact hh h2 h3
 ·obtain⟨c1,c2,c3,c4⟩:=h.closed p h1 h2 h3 h4
  refine⟨c1,c2,fun y hy hyp=> ?_,c4⟩;rcases XN hy with hy|rfl
  ·grind
  ·have:=hc (by rw[hyp];exact h2)
   grind
theorem yQ{p:Int}{w:Wd}(h:GR H ep Pl s)(hw:s.wd p=some w):AAu ep Pl s ⟨p,0,false,w.data⟩:=by
 have h1:=h.vz p w hw;have h2:=h.wr1 _ h1.2.1;refine⟨h1.1,ATO _,h.nY,h2.2,fun h=>absurd h (Int.lt_irrefl _),fun _=>rfl,fun h=>(by cases h),fun _=> ?_,fun e=> ?_,fun y hy e1 e2=> ?_⟩
 ·grind
 ·grind
 ·simp only at e1 e2
  have h3:=(h.hY y hy).2.2.2.2.2.1 e2.symm;obtain⟨q,hq⟩:=h.fu y hy h3;obtain⟨q',hq',_⟩:=h1.2.2.1;rw[←e1,hq']at hq;simp only[ALt,APo]at hq;cases y;simp_all
theorem zj{p:Int}{m:Md}(h:GR H ep Pl s)(Sd:s.md=some m)(lR:m.pl)(he:ep p=m.ep)(hp:Pl p):AAu ep Pl s (VC s.len m p):=by
 have h1:=h.md1 m Sd;have Oj:(VC s.len m p).at_=p:=by grind[VC]
 have hwv:(VC s.len m p).PR=s.len:=by grind[VC]
 have hs:∀x,m.seen p=some x→EG s x∧x.at_=p:=fun x hx=>by
  have:=(h.jF m p x Sd hx).1;exact⟨.inr (.inr ⟨m,Sd,by simp_all⟩),this⟩
 refine⟨by simp_all,by omega,by omega,by grind,fun _=>by simp_all,fun e=>by omega,fun e=> ?_,fun e=> ?_,fun _ _=>⟨m,Sd,lR,by simp_all,by rw[Oj]⟩,fun y hy e1 e2=> ?_⟩
 ·unfold VC at e⊢
  split at e
  ·rename_i x hx
   exact(h.hY x (hs x hx).1).2.2.2.2.2.2 e
  rfl
 ·rw[Oj]
  unfold VC at e⊢;split at e
  ·rename_i x hx
   have:=h.fu x (hs x hx).1 e;simp_all
  simp_all
 ·rw[Oj]at e1
  rw[hwv]at e2;obtain⟨m',k1,k2,k3,k4⟩:=h.pP y hy e2.symm (by simp_all);grind
end
end Go.Sf
end
section
namespace Go.Sf
section
variable{H:(Int→Prop)→Prop} (hm:∀S T:Int→Prop,(∀n,S n→T n)→H S→H T) (h0: ¬H (fun _=>False)) {ep off:Int→Int} {Pl:Int→Prop} {s:St} {fin:Int→Nv}
def St.V8(H:(Int→Prop)→Prop)(s:St)(n:Int):St:=
 { s with kept:=fun m=>if m=n then fun _=>none else s.kept m,late:=fun m x=>m≠n∧s.late m x,sl:=fun m=>if m=n then 0 else s.sl m,lost:=fun m=>s.lost m∨m=n,wd:=fun p=>(s.wd p).map fun w=>⟨w.data,fun k=>w.nw k∧(w.done∨k≠n),w.done⟩,md:=s.md.map fun m=>{ m with wrote:=fun p k=>m.wrote p k∧k≠n },ED:=s.ED∨H (fun m=>s.lost m∨m=n) }
theorem r9{n:Int}{x:Nv}(h:EG (s.V8 H n) x):EG s x:=by
 rcases h with⟨m,h⟩|⟨m,h⟩|⟨m,h1,h2⟩
 ·simp only[St.V8]at h
  split at h
  ·cases h
  ·exact .inl ⟨m,h⟩
 ·exact .inr (.inl ⟨m,h.2⟩)
 ·simp only[St.V8,AL9]at h1
  obtain⟨m',h1,rfl⟩:=h1;exact .inr (.inr ⟨m',h1,h2⟩)
theorem Yw{n:Int}{m:Md}(h:(s.V8 H n).md=some m):∃m',s.md=some m'∧m={ m' with wrote:=fun p k=>m'.wrote p k∧k≠n }:=by
 simp only[St.V8,AL9]at h;grind
theorem tZ{n p:Int}{w:Wd}(h:(s.V8 H n).wd p=some w):∃w',s.wd p=some w'∧w=⟨w'.data,fun k=>w'.nw k∧(w'.done∨k≠n),w'.done⟩:=by
 simp only[St.V8,AL9]at h;grind
include hm in
theorem AR1{n:Int}(h:GR H ep Pl s):GR H ep Pl (s.V8 H n):=by
 have hi:∀x,EG (s.V8 H n) x→EG s x:=fun x=>r9
 refine⟨h.nY,h.ZP,h.oe,h.ZY,fun m e=> ?_,h.wr1,fun p w e=> ?_,h.dj,fun k p x e=> ?_,fun m p x e=> ?_,fun x e=>h.hY x (hi x e),fun x e=>h.fu x (hi x e),fun x e e1 e2=> ?_,fun x y e e1=>h.rG x y (hi x e) (hi y e1)⟩
 ·obtain⟨m',e',rfl⟩:=Yw e
  replace e:=e'
  exact h.md1 m' e
 ·obtain⟨w',e',rfl⟩:=tZ e
  clear e;have e:=e'
  obtain⟨b1,b2,b3,b4,b5⟩:=h.vz p w' e;refine⟨b1,b2,b3,⟨fun hd=>hm _ _ (fun k hk=>⟨hk,.inl hd⟩) (b4.1 hd),fun hH=>b4.2 (hm _ _ (fun k hk=>hk.1) hH)⟩,fun k hk=>b5 k hk.1⟩
 ·simp only[St.V8]at e
  split at e
  ·cases e
  ·exact h.UW k p x e
 ·obtain⟨m',e',rfl⟩:=Yw e
  replace e:=e'
  exact h.jF m' p x e
 ·obtain⟨m,c1,c2,c3,c4⟩:=h.pP x (hi x e) e1 e2
  exact⟨{ m with wrote:=fun p k=>m.wrote p k∧k≠n },by simp[St.V8,c1],c2,c3,c4⟩
theorem ABx{n p m:Int}(h:Have s p m):Have (s.V8 H n) p m:=by
 simp only[Have,St.V8]at*;grind
include hm in
theorem APq{n:Int}(hl: ¬H (fun m=>s.lost m∨m=n))(hA:GR H ep Pl s)(h:HJ H ep off Pl s fin):HJ H ep off Pl (s.V8 H n) fin:=by
 have hi:∀x,EG (s.V8 H n) x→EG s x:=fun x=>r9
 have hh:=fun p m=>ABx (H:=H) (s:=s) (n:=n) (p:=p) (m:=m)
 have hN:∀q,Lv H ep s q→Lv H ep (s.V8 H n) q:=fun q hn=>by
  refine hn.of (fun h=>h) (ATO _) (fun h=>h) (fun hw m sj hd=>⟨sj,?_⟩) hm;rcases hd with hd|⟨w,h1,h2⟩
  ·simp only[St.V8]at hd
   by_cases e:m=n
   ·simp[e]at hd
   ·simp only[e,or_false,AON]at hd
    exact .inl hd
  ·obtain⟨w',e,rfl⟩:=tZ h1
   exact .inr ⟨w',e,h2.1⟩
 refine⟨hl,fun p hs ht=> ?_,fun p w m e1 e2 e3=> ?_,fun m k e1 e2=> ?_,fun x a b c=>hN _ (h.Sy x (hi x a) b c),fun m p e a b c d f=> ?_,fun p a b c d=>hN _ (h.past p a b c d),fun m p k e e2=> ?_,fun m p x e=> ?_,fun p a b c d=> ?_⟩
 ·obtain⟨b1,b2⟩:=h.sure p hs ht
  refine⟨hm _ _ (fun m hq=>⟨hq.1,hh p m hq.2⟩) b1,fun m e1 e2=> ?_⟩;obtain⟨m',e1',rfl⟩:=Yw e1
  replace e1:=e1'
  exact(b2 m' e1 e2).imp id fun hq=>hm _ _ (fun k hk=>⟨hk.1,hk.2.1,hh p k hk.2.2⟩) hq
 ·obtain⟨w',e,rfl⟩:=tZ e1
  obtain⟨b1,b2⟩:=h.Se p w' m e e2 e3.1;have hmn:m≠n:=e3.2.resolve_left e2;refine⟨by simp[St.V8,hmn,b1],fun ht=>⟨by simpa[St.V8,hmn]using(b2 ht).1,fun m1 f1=> ?_⟩⟩;obtain⟨m',f1',rfl⟩:=Yw f1
  replace f1:=f1'
  exact(b2 ht).2 m' f1
 ·obtain⟨m',e1',rfl⟩:=Yw e1
  replace e1:=e1'
  have:=h.fK m' k e1 e2;simp only[St.V8];by_cases e:k=n
  ·exact .inl (.inr e)
  ·simpa[e]using this
 ·obtain⟨m',e',rfl⟩:=Yw e
  replace e:=e'
  exact hN _ (h.ZH m' p e a b c d f)
 ·obtain⟨m',e',rfl⟩:=Yw e
  replace e:=e'
  obtain⟨b1,b2,b3,b4⟩:=h.wrote m' p k e e2.1;refine⟨b1,by simp[St.V8,e2.2,b2],b3,fun ht=> ?_⟩;simp only[St.V8,e2.2,AON];exact b4 ht
 ·obtain⟨m',e',rfl⟩:=Yw e
  replace e:=e'
  exact h.dM m' p x e
 ·obtain⟨c1,c2,c3,c4⟩:=h.closed p a b c d
  refine⟨c1,c2,fun x hx=>c3 x (hi x hx),hm _ _ (fun m hq=>⟨hq.1,?_⟩) c4⟩;simp only[St.V8];by_cases e:m=n
  ·exact .inl (.inr e)
  ·simpa[e]using hq.2
def St.fill(s:St)(n:Int)(k':Int→Option Nv)(v:Int):St:=
 { s with kept:=fun m=>if m=n then k' else s.kept m,late:=fun m x=>m≠n∧s.late m x,sl:=fun m=>if m=n then v else s.sl m,lost:=fun m=>s.lost m∧m≠n }
structure vC (s:St) (n:Int) (k':Int→Option Nv) (v:Int):Prop where
 lost:s.lost n
 v1:s.len-1≤v
 of_:∀p y,k' p=some y→ ∃m,¬s.lost m∧s.kept m p=some y
 AHS:∀m p x,¬s.lost m→s.kept m p=some x→ ∃y,k' p=some y∧x.PR≤y.PR
theorem sK{n:Int}{k':Int→Option Nv}{v:Int}(k:vC s n k' v){x:Nv}(h:EG (s.fill n k' v) x):EG s x:=by
 rcases h with⟨m,h⟩|⟨m,h⟩|h
 ·simp only[St.fill]at h
  split at h
  ·obtain⟨m,_,h⟩:=k.of_ _ _ h
   exact .inl ⟨m,h⟩
  ·exact .inl ⟨m,h⟩
 ·exact .inr (.inl ⟨m,h.2⟩)
 ·exact .inr (.inr h)
theorem APZ{n:Int}{k':Int→Option Nv}{v:Int}(k:vC s n k' v)(h:GR H ep Pl s):GR H ep Pl (s.fill n k' v):=by
 have hi:∀x,EG (s.fill n k' v) x→EG s x:=fun x=>sK k
 refine⟨h.nY,h.ZP,h.oe,h.ZY,h.md1,h.wr1,h.vz,h.dj,fun m p x e=> ?_,h.jF,fun x e=>h.hY x (hi x e),fun x e=>h.fu x (hi x e),fun x e=>h.pP x (hi x e),fun x y e e1=>h.rG x y (hi x e) (hi y e1)⟩;simp only[St.fill]at e;split at e
 ·obtain⟨m,_,e⟩:=k.of_ _ _ e
  exact h.UW m p x e
 ·exact h.UW m p x e
include hm in
theorem ARg{n:Int}{k':Int→Option Nv}{v:Int}(k:vC s n k' v)(hA:GR H ep Pl s)(h:HJ H ep off Pl s fin):HJ H ep off Pl (s.fill n k' v) fin:=by
 have hi:∀x,EG (s.fill n k' v) x→EG s x:=fun x=>sK k
 have some_:∀S:Int→Prop,H S→ ∃m,S m∧ ¬s.lost m:=fun S hS=>AUz fun hn=>h.XH (hm _ _ (fun m oH=>AUz fun hl=>hn ⟨m,oH,hl⟩) hS)
 have hN:∀q,Lv H ep s q→Lv H ep (s.fill n k' v) q:=fun q hn=>by
  refine hn.of (fun h=>h) (ATO _) (fun h=>h) (fun hw m sj hd=>⟨sj,hd.imp (fun hd=> ?_) id⟩) hm;simp only[St.fill]at hd;by_cases e:m=n
  ·have:=hn.2.1
   have:=k.v1;simp only[e,ne_eq,not_true,and_false,ATK,false_or]at hd;omega
  ·simpa[e]using hd
 have hh:∀p,cj s p→s.trim<p→ ∀m,Have s p m→Have (s.fill n k' v) p m:=fun p hs ht m hv=>by
  simp only[Have,St.fill]at*;by_cases e:m=n
  ·obtain⟨j,hj,qq⟩:=some_ _ (h.sure p hs ht).1
   obtain⟨x,hx⟩:=hj.2.resolve_right qq;obtain⟨y,hy,_⟩:=k.AHS j p x qq hx;exact .inl ⟨y,by simp[e,hy]⟩
  ·simpa[e]using hv
 refine⟨fun hl=>h.XH (hm _ _ (fun m hq=>hq.1) hl),fun p hs ht=> ?_,fun p w m e1 e2 e3=> ?_,fun m j e1 e2=> ?_,fun x a b c=>hN _ (h.Sy x (hi x a) b c),fun m p a b c d e f=>hN _ (h.ZH m p a b c d e f),fun p a b c d=>hN _ (h.past p a b c d),fun m p j e e2=> ?_,h.dM,fun p a b c d=> ?_⟩
 ·obtain⟨b1,b2⟩:=h.sure p hs ht
  exact⟨hm _ _ (fun m hq=>⟨hq.1,hh p hs ht m hq.2⟩) b1,fun m e1 e2=>(b2 m e1 e2).imp id fun hq=>hm _ _ (fun j hj=>⟨hj.1,hj.2.1,hh p hs ht j hj.2.2⟩) hq⟩
 ·obtain⟨b1,b2⟩:=h.Se p w m e1 e2 e3
  have hmn:m≠n:=fun e=>b1 (e▸k.lost)
  exact⟨fun hq=>b1 hq.1,fun ht=>⟨by simpa[St.fill,hmn]using(b2 ht).1,(b2 ht).2⟩⟩
 ·have:=h.fK m j e1 e2
  simp only[St.fill];by_cases e:j=n
  ·simpa[e]using k.v1
  ·simpa[e]using this
 ·obtain⟨b1,b2,b3,b4⟩:=h.wrote m p j e e2
  have hmn:j≠n:=fun e=>b2 (e▸k.lost)
  exact⟨b1,fun hq=>b2 hq.1,b3,fun ht=>by simpa[St.fill,hmn]using b4 ht⟩
 ·obtain⟨c1,c2,c3,c4⟩:=h.closed p a b c d
  refine⟨c1,c2,fun x hx=>c3 x (hi x hx),hm _ _ (fun m hq=>⟨hq.1,?_⟩) c4⟩;simp only[St.fill];by_cases e:m=n
  ·obtain⟨j,hj,qq⟩:=some_ _ c4
   have hx:=hj.2.resolve_left qq;obtain⟨y,hy,hyw⟩:=k.AHS j p _ qq hx;obtain⟨m2,_,hk2⟩:=k.of_ p y hy;have AVj:=hA.UW m2 p y hk2;have h3:=c3 y (.inl ⟨m2,by rw[AVj];exact hk2⟩) AVj;have:y=fin p:=h3.2 (by omega);exact .inr (by simp[e,hy,this])
  ·simpa[e]using hq.2
end
end Go.Sf
end
section
namespace Go.Sf
section
variable{H:(Int→Prop)→Prop} (hm:∀S T:Int→Prop,(∀n,S n→T n)→H S→H T) {ep off:Int→Int} {Pl:Int→Prop} {s:St} {fin:Int→Nv}
def St.kW(s:St)(e:Int):St:={ s with md:=some ⟨e,fun _=>False,fun _=>none,False,0,fun _ _=>False⟩ }
theorem oL{e:Int}{x:Nv}(h:EG (s.kW e) x):EG s x:=by
 rcases h with h|h|⟨m,h1,h2⟩
 ·exact .inl h
 ·exact .inr (.inl h)
 ·cases h1;cases h2
theorem AIj{e:Int}(Sd:s.md=none)(h1:1≤e)(h2:e<s.len)(h3: ¬s.cl e)(h4:∀f,1≤f→f<e→s.cl f)(h:GR H ep Pl s):GR H ep Pl (s.kW e):=by
 have hi:∀x,EG (s.kW e) x→EG s x:=fun x=>oL
 refine⟨h.nY,h.ZP,h.oe,h.ZY,fun m' a=> ?_,h.wr1,h.vz,h.dj,h.UW,fun m' p x a b=> ?_,fun x e=>h.hY x (hi x e),fun x e=>h.fu x (hi x e),fun x e e1 e2=> ?_,fun x y e e1=>h.rG x y (hi x e) (hi y e1)⟩
 ·cases a;exact⟨h1,h2,h3,h4⟩
 ·cases a;cases b
 ·obtain⟨m,c,_⟩:=h.pP x (hi x e) e1 e2
  simp_all
include hm in
theorem AJd{e:Int}(Sd:s.md=none)(h:HJ H ep off Pl s fin):HJ H ep off Pl (s.kW e) fin:=by
 have hi:∀x,EG (s.kW e) x→EG s x:=fun x=>oL
 refine⟨h.XH,fun p hs ht=>⟨(h.sure p hs ht).1,fun m a b=> .inr ?_⟩,fun p w n a b c=>⟨(h.Se p w n a b c).1,fun d=>⟨((h.Se p w n a b c).2 d).1,fun m f g k=> ?_⟩⟩,fun m n a b=> ?_,fun x a=>h.Sy x (hi x a),fun m p a b=> ?_,h.past,fun m p n a b=> ?_,fun m p x a b=> ?_,fun p a b c d=> ?_⟩
 ·cases a
  exact hm _ _ (fun n hn=>⟨hn.1,fun h=>h,hn.2⟩) (h.sure p hs ht).1
 ·cases f;exact k.elim
 ·cases a;exact b.elim
 ·cases a;exact b.elim
 ·cases a;exact b.elim
 ·cases a;exact b.elim
 ·obtain⟨c1,c2,c3,c4⟩:=h.closed p a b c d
  exact⟨c1,c2,fun x hx=>c3 x (hi x hx),c4⟩
def St.jd(s:St)(m:Md)(n:Int)(Ra:Int→Option Nv)(v:Int):St:=
 { s with sl:=fun k=>if k=n then v else s.sl k,md:=some { m with fK:=fun k=>m.fK k∨k=n,seen:=Ra } }
structure vG (ep:Int→Int) (s:St) (m:Md) (n:Int) (Ra:Int→Option Nv) (v:Int):Prop where
 md:s.md=some m
 there: ¬s.lost n
 pl: ¬m.pl
 v0:s.sl n≤v
 v1:s.len-1≤v
 s1:∀p x,m.seen p=some x→ ∃y,Ra p=some y
 s2:∀p y,Ra p=some y→m.seen p=some y∨s.kept n p=some y
 s3:∀p x,s.kept n p=some x→ep p=m.ep→ ∃y,Ra p=some y
 s4:∀p y,Ra p=some y→y.at_=p∧ep p=m.ep∧y.PR<s.len
theorem qS{m:Md}{n v:Int}{Ra:Int→Option Nv}(k:vG ep s m n Ra v){x:Nv}(h:EG (s.jd m n Ra v) x):EG s x:=by
 rcases h with h|h|⟨m',h1,h2⟩
 ·exact .inl h
 ·exact .inr (.inl h)
 ·cases h1
  rcases k.s2 _ _ h2 with h|h
  ·exact .inr (.inr ⟨m,k.md,h⟩)
  ·exact .inl ⟨n,h⟩
theorem AHL{m:Md}{n v:Int}{Ra:Int→Option Nv}(k:vG ep s m n Ra v)(h:GR H ep Pl s):GR H ep Pl (s.jd m n Ra v):=by
 have hi:∀x,EG (s.jd m n Ra v) x→EG s x:=fun x=>qS k
 refine⟨h.nY,h.ZP,h.oe,h.ZY,fun m' a=> ?_,h.wr1,h.vz,h.dj,h.UW,fun m' p x a b=> ?_,fun x e=>h.hY x (hi x e),fun x e=>h.fu x (hi x e),fun x e e1 e2=> ?_,fun x y e e1=>h.rG x y (hi x e) (hi y e1)⟩
 ·cases a;exact h.md1 m k.md
 ·cases a;exact k.s4 p x b
 ·obtain⟨m',c1,c2,_⟩:=h.pP x (hi x e) e1 e2
  rw[k.md]at c1;cases c1;exact absurd c2 k.pl
include hm in
theorem ALU{m:Md}{n v:Int}{Ra:Int→Option Nv}(k:vG ep s m n Ra v)(hA:GR H ep Pl s)(h:HJ H ep off Pl s fin):HJ H ep off Pl (s.jd m n Ra v) fin:=by
 have hi:∀x,EG (s.jd m n Ra v) x→EG s x:=fun x=>qS k
 have hN:∀q,Lv H ep s q→Lv H ep (s.jd m n Ra v) q:=fun q hn=>by
  refine hn.of (fun h=>h) (ATO _) (fun h=>h) (fun hw j hnj hd=>⟨hnj,hd.imp (fun hd=> ?_) id⟩) hm;simp only[St.jd]at hd;by_cases e:j=n
  ·subst e
   have:=k.v0;simp only[ATK]at hd;intro hc;exact hd (hc.imp id fun hc=>by omega)
  ·simpa[e]using hd
 refine⟨h.XH,fun p hs ht=>⟨(h.sure p hs ht).1,fun m' a b=> ?_⟩,fun p w j a b c=>⟨(h.Se p w j a b c).1,fun d=>⟨((h.Se p w j a b c).2 d).1,fun m' f g hk=> ?_⟩⟩,fun m' j a b=> ?_,fun x a b c=>hN _ (h.Sy x (hi x a) b c),fun m' p a b=> ?_,fun p a b c d=>hN _ (h.past p a b c d),fun m' p j a b=> ?_,fun m' p x a b=> ?_,fun p a b c d=> ?_⟩
 ·cases a
  by_cases xm:∃x,Ra p=some x
  ·exact .inl xm
  ·refine .inr ?_
   have:=((h.sure p hs ht).2 m k.md b).resolve_left fun⟨x,hx⟩=>xm (k.s1 p x hx)
   refine hm _ _ (fun j hj=>⟨hj.1,fun hq=> ?_,hj.2.2⟩) this;rcases hq with hq|rfl
   ·exact hj.2.1 hq
   ·rcases hj.2.2 with⟨x,hx⟩|hl
    ·exact xm (k.s3 p x hx b.symm)
    ·exact k.there hl
 ·cases f
  rcases hk with hk|rfl
  ·obtain⟨x,hx⟩:=((h.Se p w j a b c).2 d).2 m k.md g hk
   exact k.s1 p x hx
  ·obtain⟨x,hx⟩:=((h.Se p w j a b c).2 d).1
   exact k.s3 p x hx g.symm
 ·cases a
  simp only[St.jd];by_cases e:j=n
  ·simp[e,k.v1]
  ·have:=h.fK m j k.md (b.resolve_right e)
   simpa[e]using this
 ·cases a;exact absurd b k.pl
 ·cases a
  exact absurd (h.wrote m p j k.md b).2.2.1 k.pl
 ·cases a;exact absurd b k.pl
 ·obtain⟨c1,c2,c3,c4⟩:=h.closed p a b c d
  exact⟨c1,c2,fun x hx=>c3 x (hi x hx),c4⟩
def St.ZH(s:St)(m:Md)(L:Int):St:={ s with md:=some { m with pl:=True,n:=L } }
structure uS (H:(Int→Prop)→Prop) (off:Int→Int) (s:St) (m:Md) (L:Int):Prop where
 md:s.md=some m
 pl: ¬m.pl
 Ji: ¬H (fun k=>s.nodes m.ep k∧ ¬m.fK k)
 last:∀p x,m.seen p=some x→off p≤L
theorem r_{m:Md}{L:Int}(k:uS H off s m L){x:Nv}(h:EG (s.ZH m L) x):EG s x:=by
 rcases h with h|h|⟨m',h1,h2⟩
 ·exact .inl h
 ·exact .inr (.inl h)
 ·cases h1;exact .inr (.inr ⟨m,k.md,h2⟩)
theorem AOx{m:Md}{L:Int}(k:uS H off s m L)(h:GR H ep Pl s):GR H ep Pl (s.ZH m L):=by
 have hi:∀x,EG (s.ZH m L) x→EG s x:=fun x=>r_ k
 refine⟨h.nY,h.ZP,h.oe,h.ZY,fun m' a=> ?_,h.wr1,h.vz,h.dj,h.UW,fun m' p x a b=> ?_,fun x e=>h.hY x (hi x e),fun x e=>h.fu x (hi x e),fun x e e1 e2=> ?_,fun x y e e1=>h.rG x y (hi x e) (hi y e1)⟩
 ·cases a;exact h.md1 m k.md
 ·cases a;exact h.jF m p x k.md b
 ·obtain⟨m',c1,c2,_⟩:=h.pP x (hi x e) e1 e2
  rw[k.md]at c1;cases c1;exact absurd c2 k.pl
include hm in
theorem APY{m:Md}{L:Int}(k:uS H off s m L)(hA:GR H ep Pl s)(h:HJ H ep off Pl s fin):HJ H ep off Pl (s.ZH m L) fin:=by
 have hi:∀x,EG (s.ZH m L) x→EG s x:=fun x=>r_ k
 have hN:∀q,Lv H ep s q→Lv H ep (s.ZH m L) q:=fun q hn=>hn
 refine⟨h.XH,fun p hs ht=>⟨(h.sure p hs ht).1,fun m' a b=> ?_⟩,fun p w j a b c=>⟨(h.Se p w j a b c).1,fun d=>⟨((h.Se p w j a b c).2 d).1,fun m' f g hk=> ?_⟩⟩,fun m' j a b=> ?_,fun x a b c=>hN _ (h.Sy x (hi x a) b c),fun m' p a b hp he ht hn=> ?_,fun p a b c d=>hN _ (h.past p a b c d),fun m' p j a b=> ?_,fun m' p x a b=> ?_,fun p a b c d=> ?_⟩
 ·cases a;exact(h.sure p hs ht).2 m k.md b
 ·cases f;exact((h.Se p w j a b c).2 d).2 m k.md g hk
 ·cases a;exact h.fK m j k.md b
 ·cases a
  have Sd:=hA.md1 m k.md;simp only at he hn;have ns: ¬cj s p:=fun hs=>by
   rcases(h.sure p hs ht).2 m k.md he.symm with⟨x,hx⟩|hh
   ·rw[hn]at hx;cases hx
   ·exact k.Ji (hm _ _ (fun j hj=>⟨by rw[←he];exact hj.1,hj.2.1⟩) hh)
  refine⟨ns,by rw[he];exact Sd.2.1,fun hw hH=>k.Ji (hm _ _ (fun j hj=>⟨by rw[←he];exact hj.1,fun hsl=> ?_⟩) hH)⟩;rcases hj.2 with hd|⟨w,h1,h2⟩
  ·refine hd ((h.fK m j k.md hsl).imp id fun h' => ?_)
   simp only[St.ZH]at*;omega
  ·have hw1:=hA.vz p w h1
   have qt: ¬w.done:=fun hd=>by
    obtain⟨q,hq,hq2⟩:=hw1.2.2.1;exact ns ⟨_,q,hq,hq2 hd⟩
   obtain⟨x,hx⟩:=((h.Se p w j h1 qt h2).2 ht).2 m k.md he.symm hsl;rw[hn]at hx;cases hx
 ·cases a
  exact absurd (h.wrote m p j k.md b).2.2.1 k.pl
 ·cases a;exact fun hx=>k.last p x hx
 ·obtain⟨c1,c2,c3,c4⟩:=h.closed p a b c d
  exact⟨c1,c2,fun x hx=>c3 x (hi x hx),c4⟩
def St.close(s:St)(m:Md):St:={ s with cl:=fun e=>s.cl e∨e=m.ep,last:=fun e=>if e=m.ep then m.n else s.last e,md:=none }
structure nj (H:(Int→Prop)→Prop) (ep off:Int→Int) (Pl:Int→Prop) (s:St) (m:Md):Prop where
 md:s.md=some m
 pl:m.pl
 wrote:∀p,Pl p→ep p=m.ep→off p≤m.n→H (m.wrote p)
theorem pw{m:Md}{x:Nv}(h:EG (s.close m) x):EG s x:=by
 rcases h with h|h|⟨m',h1,h2⟩
 ·exact .inl h
 ·exact .inr (.inl h)
 ·cases h1
theorem AKS{m:Md}(k:nj H ep off Pl s m)(h:GR H ep Pl s):GR H ep Pl (s.close m):=by
 have hi:∀x,EG (s.close m) x→EG s x:=fun x=>pw
 have Sd:=h.md1 m k.md;refine⟨h.nY,h.ZP,fun e a=> ?_,fun e f a b c=> ?_,fun m a=> ?_,h.wr1,h.vz,h.dj,h.UW,fun m p x a b=> ?_,fun x e=>h.hY x (hi x e),fun x e=>h.fu x (hi x e),fun x e e1 e2=> ?_,fun x y e e1=>h.rG x y (hi x e) (hi y e1)⟩
 ·rcases a with a|rfl
  ·exact h.oe e a
  ·exact⟨Sd.1,Sd.2.1⟩
 ·rcases a with a|rfl
  ·exact .inl (h.ZY e f a b c)
  ·exact .inl (Sd.2.2.2 f b c)
 ·cases a
 ·cases a
 ·have e2': ¬s.cl (ep x.at_):=fun c=>e2 (.inl c)
  obtain⟨m',c1,c2,c3,c4⟩:=h.pP x (hi x e) e1 e2';rw[k.md]at c1;cases c1;exact absurd (.inr c3.symm) e2
theorem AJz{m:Md}(k:nj H ep off Pl s m)(hA:GR H ep Pl s)(h:HJ H ep off Pl s fin)(hm:∀S T:Int→Prop,(∀n,S n→T n)→H S→H T)(hr:∀p,Pl p→ep p=m.ep→s.trim<p→cj s p→True):
  HJ H ep off Pl (s.close m) (fun p=>open Classical in if ep p=m.ep then VC s.len m p else fin p):=by
 have hi:∀x,EG (s.close m) x→EG s x:=fun x=>pw
 have Sd:=hA.md1 m k.md;have hN:∀q,Lv H ep s q→Lv H ep (s.close m) q:=fun q hn=>hn
 refine⟨h.XH,fun p hs ht=>⟨(h.sure p hs ht).1,fun m' a=>by cases a⟩,fun p w j a b c=>⟨(h.Se p w j a b c).1,fun d=>⟨((h.Se p w j a b c).2 d).1,fun m' f=>by cases f⟩⟩,fun m' j a=>(by cases a),fun x a b c=>hN _ (h.Sy x (hi x a) b c),fun m' p a=>(by cases a),fun p a b c d=>hN _ ?_,fun m' p j a=>(by cases a),fun m' p x a=>(by cases a),fun p a b c d=> ?_⟩
 ·simp only[St.close]at c
  by_cases e:ep p=m.ep
  ·refine h.ZH m p k.md k.pl a e d ?_
   cases hseen:m.seen p with
   |none=>rfl
   |some x=>
    have:=h.dM m p x k.md k.pl hseen;omega
  ·rw[ALo e]at c
   exact h.past p a (b.resolve_right e) c d
 ·simp only[St.close]at c
  by_cases e:ep p=m.ep
  ·rw[ALP e]at c⊢
   have Oj:(VC s.len m p).at_=p:=by grind[VC]
   have hwv:(VC s.len m p).PR=s.len:=by grind[VC]
   refine⟨Oj,by omega,fun x hx hxp=>⟨by rw[hwv];exact(hA.hY x (hi x hx)).2.2.1,fun hw=> ?_⟩,hm _ _ (fun j hj=> ?_) (k.wrote p a e c)⟩
   ·rw[hwv]at hw
    obtain⟨m',c1,c2,c3,c4⟩:=hA.pP x (hi x hx) hw (by simp_all);rw[k.md]at c1;grind
   ·obtain⟨d1,d2,d3,d4⟩:=h.wrote m p j k.md hj
    exact⟨by rw[e];exact d1,.inr (d4 d)⟩
  ·rw[ALo e]at c⊢
   obtain⟨c1,c2,c3,c4⟩:=h.closed p a (b.resolve_right e) c d;exact⟨c1,c2,fun x hx=>c3 x (hi x hx),c4⟩
theorem AS4{t:Int}(h:GR H ep Pl s):GR H ep Pl { s with trim:=t }:=
 ⟨h.nY,h.ZP,h.oe,h.ZY,h.md1,h.wr1,h.vz,h.dj,h.UW,h.jF,h.hY,h.fu,h.pP,h.rG⟩
theorem AOu{t:Int}(ht:s.trim≤t)(h:HJ H ep off Pl s fin):HJ H ep off Pl { s with trim:=t } fin:=
 have l:∀{p:Int},t<p→s.trim<p:=fun h=>Int.lt_of_le_of_lt ht h
 ⟨h.XH,fun p a b=>h.sure p a (l b),fun p w n a b c=>⟨(h.Se p w n a b c).1,fun d=>(h.Se p w n a b c).2 (l d)⟩,h.fK,fun x a b c=>h.Sy x a b (l c),fun m p a b c d e f=>h.ZH m p a b c d (l e) f,
  fun p a b c d=>h.past p a b c (l d),fun m p n a b=>⟨(h.wrote m p n a b).1,(h.wrote m p n a b).2.1,(h.wrote m p n a b).2.2.1,fun d=>(h.wrote m p n a b).2.2.2 (l d)⟩,h.dM,fun p a b c d=>h.closed p a b c (l d)⟩
def St.drop(s:St)(aN:Int→Prop)(wd':Int→Option Wd):St:={ s with vg:=aN,wd:=wd' }
structure zf (ep:Int→Int) (s:St) (aN:Int→Prop) (wd':Int→Option Wd):Prop where
 wr:∀e,aN e→s.vg e
 wd:∀p w,wd' p=some w→s.wd p=some w∧aN (ep p)
theorem AS7{aN:Int→Prop}{wd':Int→Option Wd}(k:zf ep s aN wd')(h:GR H ep Pl s):GR H ep Pl (s.drop aN wd'):=by
 refine⟨h.nY,h.ZP,h.oe,h.ZY,h.md1,fun e a=>h.wr1 e (k.wr e a),fun p w a=> ?_,h.dj,h.UW,h.jF,h.hY,h.fu,h.pP,h.rG⟩;obtain⟨b1,b2⟩:=k.wd p w a;obtain⟨c1,c2,c3⟩:=h.vz p w b1;exact⟨c1,b2,c3⟩
include hm in
theorem AR0{aN:Int→Prop}{wd':Int→Option Wd}(k:zf ep s aN wd')(h:HJ H ep off Pl s fin):HJ H ep off Pl (s.drop aN wd') fin:=by
 have hN:∀q,Lv H ep s q→Lv H ep (s.drop aN wd') q:=fun q hn=>
  hn.of (fun h=>h) (ATO _) (fun h=>k.wr _ h) (fun hw m sj hd=>⟨sj,hd.imp id fun⟨w,h1,h2⟩=>⟨w,(k.wd _ w h1).1,h2⟩⟩) hm
 exact⟨h.XH,h.sure,fun p w n a=>h.Se p w n (k.wd p w a).1,h.fK,fun x a b c=>hN _ (h.Sy x a b c),fun m p a b c d e f=>hN _ (h.ZH m p a b c d e f),fun p a b c d=>hN _ (h.past p a b c d),h.wrote,h.dM,h.closed⟩
def St.prune(s:St)(n:Int)(k':Int→Option Nv):St:={ s with kept:=fun m=>if m=n then k' else s.kept m }
structure nr (s:St) (n:Int) (k':Int→Option Nv):Prop where
 of_:∀p x,k' p=some x→s.kept n p=some x
 AHS:∀p,s.trim<p→k' p=s.kept n p
theorem qb{n:Int}{k':Int→Option Nv}(k:nr s n k'){x:Nv}(h:EG (s.prune n k') x):EG s x:=by
 rcases h with⟨m,h⟩|h|h
 ·simp only[St.prune]at h
  split at h
  ·exact .inl ⟨n,k.of_ _ _ h⟩
  ·exact .inl ⟨m,h⟩
 ·exact .inr (.inl h)
 ·exact .inr (.inr h)
theorem AKE{n:Int}{k':Int→Option Nv}(k:nr s n k')(h:GR H ep Pl s):GR H ep Pl (s.prune n k'):=by
 have hi:∀x,EG (s.prune n k') x→EG s x:=fun x=>qb k
 refine⟨h.nY,h.ZP,h.oe,h.ZY,h.md1,h.wr1,h.vz,h.dj,fun m p x e=> ?_,h.jF,fun x e=>h.hY x (hi x e),fun x e=>h.fu x (hi x e),fun x e=>h.pP x (hi x e),fun x y e e1=>h.rG x y (hi x e) (hi y e1)⟩;simp only[St.prune]at e;split at e
 ·exact h.UW n p x (k.of_ _ _ e)
 ·exact h.UW m p x e
theorem AJJ{n:Int}{k':Int→Option Nv}(k:nr s n k')(h:HJ H ep off Pl s fin):HJ H ep off Pl (s.prune n k') fin:=by
 have hi:∀x,EG (s.prune n k') x→EG s x:=fun x=>qb k
 have hk:∀p,s.trim<p→ ∀m,(s.prune n k').kept m p=s.kept m p:=fun p ht m=>by
  simp only[St.prune];split
  ·rename_i e;rw[k.AHS p ht,e]
  ·rfl
 have hh:∀p,s.trim<p→Have (s.prune n k') p=Have s p:=fun p ht=>by
  funext m
  simp only[Have];rw[hk p ht m];rfl
 refine⟨h.XH,fun p a b=> ?_,fun p w m a b c=>⟨(h.Se p w m a b c).1,fun d=> ?_⟩,h.fK,fun x a=>h.Sy x (hi x a),h.ZH,h.past,fun m p j a b=>⟨(h.wrote m p j a b).1,(h.wrote m p j a b).2.1,(h.wrote m p j a b).2.2.1,fun d=> ?_⟩,h.dM,fun p a b c d=> ?_⟩
 ·rw[hh p b];exact h.sure p a b
 ·rw[hk p d];exact(h.Se p w m a b c).2 d
 ·rw[hk p d];exact(h.wrote m p j a b).2.2.2 d
 ·obtain⟨c1,c2,c3,c4⟩:=h.closed p a b c d
  refine⟨c1,c2,fun x hx=>c3 x (hi x hx),?_⟩;simp only[hk p d];exact c4
def St.open_(s:St)(ns:Int→Prop):St:={ s with len:=s.len+1,nodes:=fun e=>if e=s.len+1 then ns else s.nodes e,vg:=fun e=>s.vg e∨e=s.len+1,md:=none }
theorem sB{ns:Int→Prop}{x:Nv}(h:EG (s.open_ ns) x):EG s x:=by
 rcases h with h|h|⟨m,h1,h2⟩
 ·exact .inl h
 ·exact .inr (.inl h)
 ·cases h1
theorem AQr{ns:Int→Prop}(hns:H ns)(h:GR H ep Pl s):GR H ep Pl (s.open_ ns):=by
 have hi:∀x,EG (s.open_ ns) x→EG s x:=fun x=>sB
 have h0:=h.nY;refine⟨by grind[St.open_],fun e a b=> ?_,fun e a=> ?_,h.ZY,fun m a=>(by cases a),fun e a=> ?_,fun p w a=> ?_,fun p d a=> ?_,h.UW,fun m p x a=>(by cases a),fun x a=> ?_,fun x e=>h.fu x (hi x e),fun x e e1 e2=> ?_,fun x y e e1=>h.rG x y (hi x e) (hi y e1)⟩
 ·simp only[St.open_]at*
  split
  ·omega
  ·exact h.ZP e a (by omega)
 ·have:=h.oe e a
  grind[St.open_]
 ·simp only[St.open_]at*
  rcases a with a|rfl
  ·have:=h.wr1 e a
   omega
  omega
 ·obtain⟨b1,b2,b3,b4,b5⟩:=h.vz p w a
  refine⟨b1,.inl b2,b3,b4,fun n hn=> ?_⟩;have:=h.wr1 _ b2;simp only[St.open_];grind
 ·have:=h.dj p d a
  grind[St.open_]
 ·obtain⟨b1,b2,b3,b4,b5⟩:=h.hY x (hi x a)
  grind[St.open_]
 ·have:=(h.hY x (hi x e)).2.2.1
  grind[St.open_]
theorem AOQ{ns:Int→Prop}(hA:GR H ep Pl s)(h:HJ H ep off Pl s fin)(hm:∀S T:Int→Prop,(∀n,S n→T n)→H S→H T):HJ H ep off Pl (s.open_ ns) fin:=by
 have hi:∀x,EG (s.open_ ns) x→EG s x:=fun x=>sB
 have qt:∀e,e≤s.len→(s.open_ ns).nodes e=s.nodes e:=fun e he=>by simp only[St.open_];grind
 have hN:∀q,Lv H ep s q→Lv H ep (s.open_ ns) q:=fun q hn=>by
  have h1:=hn.2.1;refine hn.of (fun h=>h) (by grind[St.open_]) (fun h=>h.resolve_right (by omega)) (fun hw m sj hd=>⟨?_,hd⟩) hm;grind
 refine⟨h.XH,fun p hs ht=>⟨?_,fun m' a=>by cases a⟩,fun p w j a b c=>⟨(h.Se p w j a b c).1,fun d=>⟨((h.Se p w j a b c).2 d).1,fun m' f=>by cases f⟩⟩,fun m' j a=>(by cases a),fun x a b c=>hN _ (h.Sy x (hi x a) b c),fun m' p a=>(by cases a),fun p a b c d=>hN _ (h.past p a b c d),fun m' p j a=>(by cases a),fun m' p x a=>(by cases a),fun p a b c d=> ?_⟩
 ·obtain⟨d,q,h1,h2⟩:=id hs
  rw[qt _ (hA.dj p _ h1).2];exact(h.sure p hs ht).1
 ·obtain⟨c1,c2,c3,c4⟩:=h.closed p a b c d
  refine⟨c1,c2,fun x hx=>c3 x (hi x hx),?_⟩;have:=hA.oe _ b;rw[qt _ (by omega)];exact c4
end
end Go.Sf
end
section
namespace Go.Sf
structure Rd where
 e:Int
 o:Int
 told:Int→Option uB
section
variable{H:(Int→Prop)→Prop} (hm:∀S T:Int→Prop,(∀n,S n→T n)→H S→H T) {ep off:Int→Int} {Pl:Int→Prop} {s:St} {fin:Int→Nv}
def PZ(ep off:Int→Int)(r:Rd)(p:Int):Prop:=ep p<r.e∨(ep p=r.e∧off p<r.o)
structure V6 (ep off:Int→Int) (Pl:Int→Prop) (s:St) (fin:Int→Nv) (r:Rd):Prop where
 e1:1≤r.e
 left:∀p,Pl p→ep p<r.e→s.trim<p→s.cl (ep p)
 data:∀p,Pl p→PZ ep off r p→s.trim<p→
  (s.cl (ep p)→off p≤s.last (ep p)→r.told p=if(fin p).hole then none else some (fin p).data)∧
  (s.cl (ep p)→s.last (ep p)<off p→r.told p=none)∧
  (¬s.cl (ep p)→ ∃d q,s.HF p=some (d,q)∧q∧r.told p=some d)
 told:∀p d,r.told p=some d→PZ ep off r p
theorem V6.of{s':St}{r:Rd}(h:V6 ep off Pl s fin r)(h1:s'.cl=s.cl)(h2:s'.last=s.last)(h3:s.trim≤s'.trim)
  (h4:∀p d q,s.HF p=some (d,q)→q→ ∃q',s'.HF p=some (d,q')∧q'):V6 ep off Pl s' fin r:=by
 refine⟨h.e1,fun p a b c=> ?_,fun p a b c=> ?_,h.told⟩
 ·rw[h1];exact h.left p a b (by omega)
 ·obtain⟨b1,b2,b3⟩:=h.data p a b (by omega)
  grind
theorem V6.close{m:Md}{r:Rd}(k:nj H ep off Pl s m)(hA:GR H ep Pl s)(hB:HJ H ep off Pl s fin)(h:V6 ep off Pl s fin r):
  V6 ep off Pl (s.close m) (fun p=>open Classical in if ep p=m.ep then VC s.len m p else fin p) r:=by
 have Sd:=hA.md1 m k.md;refine⟨h.e1,fun p a b c=> .inl (h.left p a b c),fun p a b c=> ?_,h.told⟩;obtain⟨b1,b2,b3⟩:=h.data p a b c;by_cases e:ep p=m.ep
 ·obtain⟨d,q,c1,c2,c3⟩:=b3 (by simp_all)
  have hs:cj s p:=⟨d,q,c1,c2⟩;cases hx:m.seen p with
  |none=>exact absurd hs (hB.ZH m p k.md k.pl a e c hx).1
  |some x=>
   have hxp:=(hA.jF m p x k.md hx).1;have hi:EG s x:= .inr (.inr ⟨m,k.md,by simp_all⟩);have hn:=hB.dM m p x k.md k.pl hx;have hh:x.hole=false:=by
    cases hh:x.hole with
    |false=>rfl
    |true=>exact absurd (by simp_all) (hB.Sy x hi hh (by rw[hxp];exact c)).1
   obtain⟨q',hq'⟩:=hA.fu x hi hh;rw[hxp,c1]at hq';simp only[ALt,APo]at hq';refine⟨fun _ _=> ?_,fun _ hl=> ?_,fun hc=>absurd (.inr e) hc⟩
   ·simp only[ALP e,VC,hx,hh]
    simp_all
   ·simp only[St.close,ALP e]at hl
    omega
 ·refine⟨fun hc hl=> ?_,fun hc hl=> ?_,fun hc=>b3 fun Zf=>hc (.inl Zf)⟩
  ·simp only[St.close,ALo e]at hl⊢
   exact b1 (hc.resolve_right e) hl
  ·simp only[St.close,ALo e]at hl
   exact b2 (hc.resolve_right e) hl
structure yp (H:(Int→Prop)→Prop) (ep off:Int→Int) (Pl:Int→Prop) (s:St) (p:Int) (R:Int→Prop) (aw:Option Nv):Prop where
 pl:Pl p
 trim:s.trim<p
 open_: ¬s.cl (ep p)→cj s p
 last:s.cl (ep p)→off p≤s.last (ep p)
 there:∀n,R n→ ¬s.lost n∧s.nodes (ep p) n
 Ji: ¬H (fun n=>s.nodes (ep p) n∧ ¬R n)
 none_:aw=none→ ∀n,R n→s.kept n p=none
 some_:∀x,aw=some x→(∃n,R n∧s.kept n p=some x)∧ ∀n y,R n→s.kept n p=some y→y.PR≤x.PR
include hm in
theorem pC{p:Int}{R:Int→Prop}{aw:Option Nv}(k:yp H ep off Pl s p R aw)(hA:GR H ep Pl s)(hB:HJ H ep off Pl s fin):
  ∃x,aw=some x∧(s.cl (ep p)→x=fin p)∧(¬s.cl (ep p)→x.hole=false∧ ∃q,s.HF p=some (x.data,q)∧q):=by
 have meet:∀S:Int→Prop,H (fun n=>s.nodes (ep p) n∧S n)→ ∃n,R n∧S n:=fun S hS=>AUz fun hn=>
  k.Ji (hm _ _ (fun n hq=>⟨hq.1,fun hr=>hn ⟨n,hr,hq.2⟩⟩) hS)
 have AML:∀n x,s.kept n p=some x→EG s x∧x.at_=p:=fun n x hx=>by
  have:=hA.UW n p x hx;exact⟨.inl ⟨n,by rw[this];exact hx⟩,this⟩
 by_cases hc:s.cl (ep p)
 ·obtain⟨c1,c2,c3,c4⟩:=hB.closed p k.pl hc (k.last hc) k.trim
  obtain⟨n,hR,hn⟩:=meet _ c4;have hk:=hn.resolve_left (k.there n hR).1;cases hb:aw with
  |none=>rw[k.none_ hb n hR]at hk;cases hk
  |some x=>
   obtain⟨⟨j,hjR,hj⟩,hmax⟩:=k.some_ x hb;have hw:=hmax n _ hR hk;obtain⟨i1,i2⟩:=AML j x hj;have:=c3 x i1 i2;exact⟨x,rfl,fun _=>this.2 (by omega),fun h=>absurd hc h⟩
 ·have hs:=k.open_ hc
  obtain⟨n,hR,hn⟩:=meet _ (hB.sure p hs k.trim).1;obtain⟨y,hk⟩:=hn.resolve_right (k.there n hR).1;cases hb:aw with
  |none=>rw[k.none_ hb n hR]at hk;cases hk
  |some x=>
   obtain⟨⟨j,hjR,hj⟩,hmax⟩:=k.some_ x hb;obtain⟨i1,i2⟩:=AML j x hj;have hh:x.hole=false:=by
    cases hh:x.hole with
    |false=>rfl
    |true=>exact absurd (by rw[i2];exact hs) (hB.Sy x i1 hh (by rw[i2];exact k.trim)).1
   obtain⟨q,hq⟩:=hA.fu x i1 hh;rw[i2]at hq;obtain⟨d,q',h1,h2⟩:=hs;rw[hq]at h1;simp only[ALt,APo]at h1;exact⟨x,rfl,fun h=>absurd h hc,fun _=>⟨hh,q,hq,by rw[h1.2];exact h2⟩⟩
def Rd.read(r:Rd)(p:Int)(x:Nv):Rd:={ r with o:=r.o+1,told:=fun q=>if q=p then(if x.hole then none else some x.data)else r.told q }
include hm in
theorem ASO{p:Int}{R:Int→Prop}{aw:Option Nv}(k:yp H ep off Pl s p R aw)(hA:GR H ep Pl s)(hB:HJ H ep off Pl s fin){r:Rd}(he:ep p=r.e)(ho:off p=r.o)
  (inj:∀p q,Pl p→Pl q→ep p=ep q→off p=off q→p=q) (h:V6 ep off Pl s fin r) {x:Nv} (hx:aw=some x):V6 ep off Pl s fin (r.read p x):=by
 obtain⟨x',ym,f1,f2⟩:=pC hm k hA hB;rw[hx]at ym;cases ym;have np: ¬PZ ep off r p:=by unfold PZ;omega
 have tn:r.told p=none:=by
  cases ht:r.told p with
  |none=>rfl
  |some d=>exact absurd (h.told p d ht) np
 refine⟨h.e1,h.left,fun q a b c=> ?_,fun q d hd=> ?_⟩
 ·by_cases e:q=p
  ·subst e
   simp only[Rd.read,ATK];refine⟨fun hc hl=>by rw[f1 hc],fun hc hl=> ?_,fun hc=> ?_⟩
   ·have:=k.last hc;omega
   ·obtain⟨g1,q',g2,g3⟩:=f2 hc
    exact⟨x.data,q',g2,g3,by rw[g1];rfl⟩
  ·have hp:PZ ep off r q:=by
    rcases b with b|⟨b1,b2⟩
    ·exact .inl b
    ·refine .inr ⟨b1,?_⟩
     simp only[Rd.read]at b1 b2;rcases Int.lt_or_le (off q) r.o with b3|b3
     ·exact b3
     ·exact absurd (inj q p a k.pl (by omega) (by omega)) e
   simp only[Rd.read,ALo e];exact h.data q a hp c
 ·simp only[Rd.read]at hd
  split at hd
  ·rename_i e
   subst e;exact .inr ⟨he,by simp only[Rd.read];omega⟩
  ·rcases h.told q d hd with t|⟨t1,t2⟩
   ·exact .inl t
   ·exact .inr ⟨t1,by simp only[Rd.read];omega⟩
theorem AUW{r:Rd}(hc:s.cl r.e)(hl:s.last r.e<r.o)(qk:∀p,Pl p→1≤off p)(h:V6 ep off Pl s fin r):V6 ep off Pl s fin { r with e:=r.e+1,o:=1 }:=by
 have h1:=h.e1;refine⟨by grind,fun p a b c=> ?_,fun p a b c=> ?_,fun p d hd=> ?_⟩
 ·simp only at b
  rcases Int.lt_or_le (ep p) r.e with b1|b1
  ·exact h.left p a b1 c
  grind
 ·have o1:=qk p a
  by_cases hp:PZ ep off r p
  ·exact h.data p a hp c
  ·have hep:ep p=r.e∧r.o≤off p:=by
    grind[PZ]
   have tn:r.told p=none:=by
    cases ht:r.told p with
    |none=>rfl
    |some d=>exact absurd (h.told p d ht) hp
   grind
 ·rcases h.told p d hd with t|⟨t1,t2⟩
  ·exact .inl (by grind)
  ·exact .inl (by grind)
theorem AOw{r:Rd}(ht:Pl s.trim)(hn: ¬PZ ep off r s.trim)(ep1:∀p,Pl p→1≤ep p)(lex:∀p q,Pl p→Pl q→(ep p<ep q∨(ep p=ep q∧off p≤off q))→p≤q)(h:V6 ep off Pl s fin r):
  V6 ep off Pl s fin { r with e:=ep s.trim,o:=off s.trim+1 }:=by
 refine⟨ep1 _ ht,fun p a b c=> ?_,fun p a b c=> ?_,fun p d hd=> ?_⟩
 ·grind
 ·have:=lex p _ a ht (by
   rcases b with b|⟨b1,b2⟩
   all_goals grind)
  omega
 ·have:=h.told p d hd
  grind[PZ]
include hm in
theorem ACz{r:Rd}(hA:GR H ep Pl s)(hB:HJ H ep off Pl s fin)(h:V6 ep off Pl s fin r){p:Int}(hp:Pl p)(hs:cj s p)(ht:s.trim<p)(hps:PZ ep off r p):∃d,r.told p=some d:=by
 obtain⟨b1,b2,b3⟩:=h.data p hp hps ht;by_cases hc:s.cl (ep p)
 ·rcases Int.lt_or_le (s.last (ep p)) (off p)with hl|hl
  ·exact absurd hs (hB.past p hp hc hl ht).1
  ·obtain⟨c1,c2,c3,c4⟩:=hB.closed p hp hc hl ht
   obtain⟨n,hn⟩:∃n,s.kept n p=some (fin p):=AUz fun hn=>hB.XH (hm _ _ (fun n hq=>hq.2.resolve_right fun hk=>hn ⟨n,hk⟩) c4)
   have hi:EG s (fin p):= .inl ⟨n,by rw[c1];exact hn⟩;have hh:(fin p).hole=false:=by
    cases hh:(fin p).hole with
    |false=>rfl
    |true=>exact absurd (by rw[c1];exact hs) (hB.Sy _ hi hh (by rw[c1];exact ht)).1
   exact⟨_,by rw[b1 hc hl,hh];rfl⟩
 ·obtain⟨d,q,_,_,hd⟩:=b3 hc
  exact⟨d,hd⟩
end
end Go.Sf
end
section
namespace Go.M
open Go.M.H (AJ AO As Ab AA CO AN A4 AM AY Az Av BS)
open Go.Sf (Nv Wd Md St Rd uB Pg GR HJ V6)
def Pl(p:Int):Prop:=BR p=true
def U9(e:AJ):Nv:=⟨e.1,e.2.1,e.2.2.1,e.2.2.2.1⟩
def kS(l:List AJ)(p:Int):Option Nv:=(Ep p l).map U9
theorem Rz{l:List AJ}{p:Int}{x:Nv}(h:kS l p=some x):∃e,Ep p l=some e∧U9 e=x:=by
 grind[kS,Option.map_eq_some_iff]
theorem Zz{l:List AJ}{p:Int}{e:AJ}(h:Ep p l=some e):kS l p=some (U9 e):=by
 grind[kS]
def S6(l:List AJ)(x:Nv):Prop:= ∃e∈l,U9 e=x
theorem AEM{l m t:List AJ}(h:Wr l)(hs:∀e∈m,e∈t):Pg (kS l) (kS (Dd l m)) (S6 t):=by
 refine⟨fun p x hx=> ?_,fun p y hy=> ?_⟩
 ·obtain⟨e,he,rfl⟩:=Rz hx
  obtain⟨y,hy,hw⟩:=XJ (l:=m) h he;refine⟨U9 y,Zz hy,hw.imp (fun e=>by rw[e]) (fun h=>h)⟩
 ·obtain⟨e,he,rfl⟩:=Rz hy
  obtain⟨h1,h2⟩:=Gv he;rcases Qr h1 with h3|h3
  ·grind[Zz,Lw]
  ·exact .inr ⟨⟨e,hs e h3,rfl⟩,h2⟩
def aV(x:A4):Wd:=⟨x.1,fun n=>n∈x.2.1,x.2.2.1=true⟩
def Xg(ws:List AM)(e:Int):Option AM:=ws.find? fun x=>x.1==e
def FN(ws:List AM)(p:Int):Option A4:=
 if BR p then(Xg ws (AQ p)).bind fun x=>x.2.1[(A6 p-1).toNat]? else none
def eg(m:As):Md:=
 ⟨m.2.1,fun n=>n∈m.2.2.1,kS m.2.2.2.1,m.2.2.2.2.1=true,m.2.2.2.2.2.1.length,fun p n=>Pl p∧AQ p=m.2.1∧ ∃l,m.2.2.2.2.2.1[(A6 p-1).toNat]? =some l∧n∈l⟩
def JS(l:List Ab)(p:Int):Option Ab:=l.find? fun s=>s.1==p
def seS(s:Ab):uB×Prop:=(s.2.1,s.2.2.1=true)
def A_(w:AA)(n:Int):AO:=if 0≤n∧n<(w.An.length:Int)then storeAt w n else Cr
def Gu(l:List CO)(e:Int):CO:=l.getD (e-1).toNat GP
def Bm(w:AA):St where
 len:=w.Ac.length
 nodes e n:=n∈Ap w.Ac e
 cl e:=(1≤e∧e≤(w.Ac.length:Int))∧(Gu w.Ac e).2.1=true
 last e:=if 1≤e then(Gu w.Ac e).2.2.1 else 0
 trim:=w.trim
 lost n:=n∈w.lost
 ED:=w.ED=true
 kept n:=kS (A_ w n).1
 late n:=S6 (A_ w n).2.1
 sl n:=(A_ w n).2.2.1
 vg e:= ∃x∈w.AH,x.1=e
 wd p:=(FN w.AH p).map aV
 md:=w.BW.head?.map eg
 HF p:=(JS w.BK p).map seS
def uM(l:List Az)(p:Int):Option uB:=(l.find? fun e=>e.1==1&&e.2.1==p).map fun e=>e.2.2.1
def vY(r:AY):Rd:=⟨r.1,r.2.1,uM r.2.2.1⟩
theorem St.eq{s t:St}(h1:s.len=t.len)(h2:s.nodes=t.nodes)(h3:s.cl=t.cl)(h4:s.last=t.last)(h5:s.trim=t.trim)(h6:s.lost=t.lost)(h7:s.ED=t.ED)(h8:s.kept=t.kept)(h9:s.late=t.late)
  (h10:s.sl=t.sl) (h11:s.vg=t.vg) (h12:s.wd=t.wd) (h13:s.md=t.md) (h14:s.HF=t.HF):s=t:=by
 cases s;simp_all
theorem Wd.eq{a b:Wd}(h1:a.data=b.data)(h2:a.nw=b.nw)(h3:a.done=b.done):a=b:=by
 cases a;simp_all
theorem Md.eq{a b:Md}(h1:a.ep=b.ep)(h2:a.fK=b.fK)(h3:a.seen=b.seen)(h4:a.pl=b.pl)(h5:a.n=b.n)(h6:a.wrote=b.wrote):a=b:=by
 cases a;simp_all
theorem Tb{w:AA}{n:Int}(h:Al w n=0):A_ w n=storeAt w n:=by
 obtain⟨h1,h2,_⟩:=EK h;unfold A_;simp_all
theorem GJ{w:AA}{n m:Int}{s:AO}(h:0≤n∧n<(w.An.length:Int)):A_ (w.BA (w.An.set n.toNat s)) m=if m=n then s else A_ w m:=by
 unfold A_ storeAt;grind
structure Safe (w:AA):Prop where
 ok:Nn w
 a:GR (GQ (AS w)) AQ Pl (Bm w)
 b:w.ED=false→ ∃fin,HJ (GQ (AS w)) AQ A6 Pl (Bm w) fin∧ ∀r∈w.AW,V6 AQ A6 Pl (Bm w) fin (vY r)
def Grow(w v:AA):Prop:= ∀p d q,(Bm w).HF p=some (d,q)→ ∃q',(Bm v).HF p=some (d,q')∧(q→q')
theorem Safe.step{w v:AA}(h:Safe w)(Bq:Nn v)(hc:AS v=AS w)(hr:v.AW=w.AW)(ht:v.ED=false→w.ED=false)
  (ha:GR (GQ (AS w)) AQ Pl (Bm v))
  (hb:w.ED=false→v.ED=false→ ∀fin,HJ (GQ (AS w)) AQ A6 Pl (Bm w) fin→HJ (GQ (AS w)) AQ A6 Pl (Bm v) fin)
  (h1:(Bm v).cl=(Bm w).cl) (h2:(Bm v).last=(Bm w).last) (h3:(Bm w).trim≤(Bm v).trim)
  (h4:Grow w v):Safe v∧Grow w v:=by
 refine⟨⟨Bq,by simp_all,fun hv=> ?_⟩,h4⟩;obtain⟨fin,b1,b2⟩:=h.b (ht hv);rw[hc,hr];exact⟨fin,hb (ht hv) hv fin b1,fun r hr=>(b2 r hr).of h1 h2 h3 fun p d q a b=>(h4 p d q a).imp fun _ k=>⟨k.1,k.2 b⟩⟩
theorem ep1{p:Int}(h:Pl p):1≤AQ p:=(CJ h).1.1
theorem qk{p:Int}(h:Pl p):1≤A6 p:=(CJ h).2.1.1
theorem gx{w:AA}{n:Int}{s:AO}(h:0≤n∧n<(w.An.length:Int))(h2:s.2.1=[])(h3:s.2.2.1=(A_ w n).2.2.1):Bm (w.BA (w.An.set n.toNat s))=(Bm w).settle n (kS s.1):=by
 refine St.eq rfl rfl rfl rfl rfl rfl rfl ?_ ?_ ?_ rfl rfl rfl rfl
 ·funext m
  show kS (A_ _ m).1=if m=n then kS s.1 else kS (A_ w m).1
  rw[GJ h];grind
 ·funext m x
  show S6 (A_ _ m).2.1 x=(m≠n∧S6 (A_ w m).2.1 x)
  rw[GJ h];by_cases e:m=n
  ·rw[ALP e,h2]
   exact propext ⟨fun⟨e,he,_⟩=>by simp_all,fun hh=>absurd e hh.1⟩
  simp_all
 ·funext m
  show(A_ _ m).2.2.1=(A_ w m).2.2.1
  rw[GJ h];grind
theorem ALe{w:AA}{n:Int}{e:AJ}(h:0≤n∧n<(w.An.length:Int)):Bm (w.BA (w.An.set n.toNat ((A_ w n).1,(A_ w n).2.1++[e],(A_ w n).2.2.1,())))=(Bm w).put n (U9 e):=by
 refine St.eq rfl rfl rfl rfl rfl rfl rfl ?_ ?_ ?_ rfl rfl rfl rfl
 ·funext m
  show kS (A_ _ m).1=kS (A_ w m).1
  rw[GJ h];grind
 ·funext m x
  show S6 (A_ _ m).2.1 x=(S6 (A_ w m).2.1 x∨(m=n∧x=U9 e))
  rw[GJ h];by_cases em:m=n
  ·rw[ALP em,em]
   refine propext ⟨fun⟨y,hy,hx⟩=> ?_,fun hh=> ?_⟩
   ·rcases AOl.1 hy with hy|hy
    ·exact .inl ⟨y,hy,hx⟩
    simp_all
   ·rcases hh with⟨y,hy,hx⟩|⟨_,hx⟩
    ·exact⟨y,AOl.2 (.inl hy),hx⟩
    ·exact⟨e,by simp,hx.symm⟩
  simp_all
 ·funext m
  show(A_ _ m).2.2.1=(A_ w m).2.2.1
  rw[GJ h];grind
section
variable{w:AA} (h:Safe w)
include h
theorem yS{n k:Int}(e:(IY w n k).2=0):Safe (IY w n k).1∧Grow w (IY w n k).1:=by
 have Bq:=wg h.ok e;unfold IY at e Bq⊢
 try dsimp only at e Bq⊢
 by_cases hn:Al w n=0
 rotate_left
 ·simp_all
 rw[ALo (by omega)]at e Bq⊢;unfold putAt at e Bq⊢;by_cases hq:(D9 (storeAt w n) k).2=true
 rotate_left
 ·simp_all
 rw[ALP hq]at Bq⊢;obtain⟨s1,s2,s3⟩:=Kf hq;obtain⟨n1,n2,n3⟩:=EK hn;have hs:=Tb hn;have ea:=gx (w:=w) (n:=n) (s:=(D9 (storeAt w n) k).1) ⟨n1,n2⟩ (by rw[s3]) (by simp_all);have hk:Pg ((Bm w).kept n) (kS (D9 (storeAt w n) k).1.1) ((Bm w).late n):=by
  show Pg (kS (A_ w n).1) _ (S6 (A_ w n).2.1)
  rw[hs,s3];exact AEM s1.gM fun e=>Q9
 refine h.step Bq rfl rfl (fun t=>t) ?_ (fun _ _ fin hb=> ?_) rfl rfl (ATO _) fun p d q a=>⟨q,a,id⟩
 ·rw[ea];exact Sf.om hk h.a
 ·rw[ea];exact Sf.oO GQ.mono hk h.a hb
theorem yg{n:Int}(e:(Ie w n).2=0):Safe (Ie w n).1∧Grow w (Ie w n).1:=by
 have Bq:=v_ h.ok e;unfold Ie at e Bq⊢
 try dsimp only at e Bq⊢
 by_cases hn:Al w n=0
 rotate_left
 ·simp_all
 rw[ALo (by omega)]at e Bq⊢;unfold putAt at e Bq⊢;by_cases hq:(GI (storeAt w n) w.trim).2=true
 rotate_left
 ·simp_all
 rw[ALP hq]at Bq⊢;obtain⟨s1,s2,s3⟩:=jN hq;obtain⟨n1,n2,n3⟩:=EK hn;have hs:=Tb hn;have ea:Bm (w.BA (w.An.set n.toNat (GI (storeAt w n) w.trim).1))=(Bm w).prune n (kS (GI (storeAt w n) w.trim).1.1):=by
  refine St.eq rfl rfl rfl rfl rfl rfl rfl ?_ ?_ ?_ rfl rfl rfl rfl
  ·funext m
   show kS (A_ _ m).1=if m=n then _ else kS (A_ w m).1
   rw[GJ ⟨n1,n2⟩];grind
  ·funext m x
   show S6 (A_ _ m).2.1 x=S6 (A_ w m).2.1 x
   rw[GJ ⟨n1,n2⟩];grind
  ·funext m
   show(A_ _ m).2.2.1=(A_ w m).2.2.1
   rw[GJ ⟨n1,n2⟩];grind
 have hk:Sf.nr (Bm w) n (kS (GI (storeAt w n) w.trim).1.1):=by
  have ak:(Bm w).kept n=kS (storeAt w n).1:=by show kS (A_ w n).1=_;rw[hs]
  rw[s3];refine⟨fun p x hx=> ?_,fun p hp=> ?_⟩
  ·obtain⟨y,hy,rfl⟩:=Rz hx
   obtain⟨y1,y2⟩:=Gv hy;rw[ak,←y2];exact Zz (Lw s1.gM (ATU.1 y1).1)
  ·rw[ak]
   have hp':w.trim<p:=hp;grind[Ep,storeAt,decide,Gv,absurd,ABW,kS,Lw,decide_eq_true]
 refine h.step Bq rfl rfl (fun t=>t) ?_ (fun _ _ fin hb=> ?_) rfl rfl (ATO _) fun p d q a=>⟨q,a,id⟩
 ·rw[ea];exact Sf.AKE hk h.a
 grind[Sf.AJJ]
theorem ACb{a:Int}(e:(OC w a).2=0):Safe (OC w a).1∧Grow w (OC w a).1:=by
 have Bq:=wP h.ok e;unfold OC at e Bq⊢
 try dsimp only at e Bq⊢
 by_cases hq:(MV (AS w) (B5 w) a).2=true
 rotate_left
 ·simp_all
 rw[hq]at Bq⊢;obtain⟨r1,r2,r3⟩:=ou hq;simp only[AMO,AMH,AON]at Bq⊢;have ea:Bm (w.HO (MV (AS w) (B5 w) a).1)={ Bm w with trim:=max w.trim a }:=by
  rw[r3];rfl
 have hle:w.trim≤max w.trim a:=Int.le_max_left _ _;refine h.step Bq rfl rfl (fun t=>t) ?_ (fun _ _ fin hb=> ?_) ?_ ?_ ?_ ?_
 ·rw[ea];exact Sf.AS4 h.a
 ·rw[ea];exact Sf.AOu hle hb
 ·rw[ea]
 ·rw[ea]
 ·rw[ea];exact hle
 ·exact fun p d q a=>⟨q,by simp_all,id⟩
end
end Go.M
end
section
namespace Go.M
open Go.M.H (AJ AO As Ab AA CO AN A4 AM AY Az Av BS)
open Go.Sf (Nv Wd Md St Rd uB Pg GR HJ V6)
theorem AFC{w:AA}(h:w.BW=[]):(Bm w).md=none:=by
 show w.BW.head?.map eg=none
 simp_all
theorem dD{w:AA}{m:As}{ms:List As}(h:w.BW=m::ms):(Bm w).md=some (eg m):=by
 show w.BW.head?.map eg=some (eg m)
 simp_all
theorem AB6{l:List CO}{k:Nat}:Gu l ((k:Int)+1)=l.getD k GP:=by
 grind[Gu]
theorem AFG{w:AA}{k:Nat}(hk:k<w.Ac.length):(Bm w).cl ((k:Int)+1)↔(w.Ac.getD k GP).2.1=true:=by
 show((1≤(k:Int)+1∧(k:Int)+1≤(w.Ac.length:Int))∧(Gu w.Ac ((k:Int)+1)).2.1=true)↔_
 grind[AB6]
theorem AFW{c:CD}{m:As}(hm:qG c m){p:Int}{x:Nv}(hx:kS m.2.2.2.1 p=some x):A6 p≤LF m.2.2.2.1:=by
 obtain⟨e,he,_⟩:=Rz hx;obtain⟨e1,e2⟩:=Gv he;obtain⟨i,hi,hie⟩:=AQQ e1;have hl:0<m.2.2.2.1.length:=by omega
 unfold LF;rw[show(m.2.2.2.1.length==0)=false from by grind,AMh,OJ (by omega)];have hle:p≤(m.2.2.2.1[m.2.2.2.1.length-1]).1:=by
  by_cases hj:i=m.2.2.2.1.length-1
  ·simp_all
  ·have:=AUt.1 hm.gM i (m.2.2.2.1.length-1) hi (by omega) (by omega)
   grind
 have a1:=hm.seen e e1;have a2:=hm.seen _ (AMk (show m.2.2.2.1.length-1<m.2.2.2.1.length by omega));have p1:=(FX.1 a1.1).pl;have p2:=(FX.1 a2.1).pl;grind[sL]
section
variable{w:AA} (h:Safe w)
include h
theorem ACp(e:(MN w).2=0):Safe (MN w).1∧Grow w (MN w).1:=by
 have Bq:=AAa h.ok e;unfold MN at e Bq⊢
 try dsimp only at e Bq⊢
 by_cases h1:(decide ((w.Ac.length:Int)<2)||decide (A8 w.Ac=w.Ac.length))=true
 ·simp_all
 rw[ALo h1]at e Bq⊢;by_cases h2:w.BW.length>0
 ·simp_all
 rw[ALo h2]at Bq⊢;simp only[ATI,AMi,AXv]at h1;have uc:w.BW=[]:=APu (by omega);obtain⟨k,k1,k2,k3,k4⟩:=Nu (r:=B5 w) h.ok.lj (by show 0<w.Ac.length;omega);have k1':k<w.Ac.length:=k1;have Z6:A8 w.Ac=(k:Int)+1:=k2;have ea:Bm (w.Bj [WK (A8 w.Ac) w.Ac.length])=(Bm w).kW (A8 w.Ac):=by
  refine St.eq rfl rfl rfl rfl rfl rfl rfl rfl rfl rfl rfl rfl ?_ rfl
  show some (eg (WK (A8 w.Ac) w.Ac.length))=some _
  refine congrArg some (Md.eq rfl ?_ rfl ?_ rfl ?_)
  ·funext n;exact propext ⟨fun hh=>by simp[eg,WK]at hh,fun hh=>hh.elim⟩
  ·exact propext ⟨fun hh=>by simp[eg,WK]at hh,fun hh=>hh.elim⟩
  ·funext p n;exact propext ⟨fun⟨_,_,l,hl,_⟩=>by simp[WK]at hl,fun hh=>hh.elim⟩
 have Sd:=AFC uc;refine h.step Bq rfl rfl (fun t=>t) ?_ (fun _ _ fin hb=> ?_) rfl rfl (ATO _) fun p d q a=>⟨q,a,id⟩
 ·rw[ea]
  refine Sf.AIj Sd (by omega) (by show A8 w.Ac<(w.Ac.length:Int);omega) ?_ ?_ h.a
  ·rw[Z6,AFG k1']
   have:(w.Ac.getD k GP).2.1=false:=k3;simp_all
  ·intro f f1 f2
   rw[show f=((f-1).toNat:Int)+1 by omega,AFG (by omega)];exact k4 _ (by omega)
 grind[Sf.AJd,GQ.mono]
theorem ABU(e:(L4 w).2=0):Safe (L4 w).1∧Grow w (L4 w).1:=by
 have Bq:=AA4 h.ok e;unfold L4 at e Bq⊢
 try dsimp only at e Bq⊢
 cases hms:w.BW with
 |nil=>simp_all
 |cons m ms=>
 rw[hms]at e Bq;simp only at e Bq⊢;by_cases hq:(IP (AS w) m (Ap w.Ac m.2.1)).2=true
 rotate_left
 ·simp_all
 rw[hq]at Bq⊢;simp only[AMO,AMH,AON]at Bq⊢;obtain⟨m1,m2,m3,m4,m5⟩:=mF hq;have Sd:=dD hms;have ea:Bm (w.Bj ((IP (AS w) m (Ap w.Ac m.2.1)).1::ms))=(Bm w).ZH (eg m) (LF m.2.2.2.1):=by
  refine St.eq rfl rfl rfl rfl rfl rfl rfl rfl rfl rfl rfl rfl ?_ rfl
  show some (eg (IP (AS w) m (Ap w.Ac m.2.1)).1)=some _
  rw[m5];have hlb:=(Gj (l:=m.2.2.2.1)).1;refine congrArg some (Md.eq rfl rfl rfl (by simp[eg]) (by simp[eg];omega) ?_);funext p n;refine propext ⟨fun⟨_,_,l,hl,hn⟩=> ?_,fun⟨_,_,l,hl,hn⟩=> ?_⟩
  ·have:=ANe hl
   simp_all
  ·have:=m1.n
   simp_all
 have k:Sf.uS (GQ (AS w)) A6 (Bm w) (eg m) (LF m.2.2.2.1):=by
  refine⟨Sd,by simp[eg,m3],?_,fun p x hx=>AFW m1 hx⟩;unfold Ji at m4;simp only[AMC,ATJ]at m4;obtain⟨g1,g2,g3,g4⟩:=m4;intro hH;have qt:Ay (AS w) (less (Ap w.Ac m.2.1) (m.2.2.1.filter (Ap w.Ac m.2.1).contains))=true:=K5 _ (N7 g1);have:GQ (AS w) (fun n=>n∈less (Ap w.Ac m.2.1) (m.2.2.1.filter (Ap w.Ac m.2.1).contains)):=by
   refine GQ.mono _ _ (fun n hn=> ?_) hH;rw[SZ];refine⟨hn.1,fun hh=>hn.2 ?_⟩;exact(ATU.1 hh).1
  grind[GQ.list]
 refine h.step Bq rfl rfl (fun t=>t) ?_ (fun _ _ fin hb=> ?_) rfl rfl (ATO _) fun p d q a=>⟨q,a,id⟩
 ·rw[ea];exact Sf.AOx k h.a
 ·rw[ea];exact Sf.APY GQ.mono k h.a hb
theorem ABm{n:Int}(e:(MX w n).2=0):Safe (MX w n).1∧Grow w (MX w n).1:=by
 have Bq:=AA9 h.ok e;unfold MX at e Bq⊢
 try dsimp only at e Bq⊢
 cases hms:w.BW with
 |nil=>simp_all
 |cons m ms=>
 rw[hms]at e Bq;simp only at e Bq⊢;by_cases hn:Al w n=0
 rotate_left
 ·simp_all
 rw[ALo (by omega)]at e Bq⊢;by_cases PY:(Ap w.Ac m.2.1).contains n=true
 rotate_left
 ·simp_all
 rw[PY]at e Bq⊢;simp only[AMO,AMH,AON]at e Bq⊢;by_cases hq:(!(Bi (storeAt w n) (m.1-1)).2|| !(K3 (AS w) m n (F8 (Bi (storeAt w n) (m.1-1)).1 m.2.1)).2)=true
 ·simp_all
 rw[ALo hq]at Bq⊢;simp only[ATI,ATJ,AXv,Bool.not_eq_false]at hq;obtain⟨q1,q2⟩:=hq;obtain⟨s1,s2,s3,s4,s5⟩:=ag q1;obtain⟨m1,m2,m3,m4⟩:=ly q2;obtain⟨n1,n2,n3⟩:=EK hn;have hs:=Tb hn;have Sd:=dD hms;have hm0:=h.ok.BW m (by simp_all)
 generalize hT:(K3 (AS w) m n (F8 (Bi (storeAt w n) (m.1-1)).1 m.2.1)).1=T at m2 m4 Bq⊢
 generalize hS:(Bi (storeAt w n) (m.1-1)).1=S at s2 s3 Bq m4⊢
 let s':AO:=(S.1,[],(storeAt w n).2.2.1,())
 let w1:AA:=w.BA (w.An.set n.toNat s')
 have hk:Pg ((Bm w).kept n) (kS S.1) ((Bm w).late n):=by
  show Pg (kS (A_ w n).1) _ (S6 (A_ w n).2.1)
  rw[hs,s3];exact AEM s1.gM fun e=>Q9
 have wk:Bm w1=(Bm w).settle n (kS S.1):=gx (s:=s') ⟨n1,n2⟩ rfl (by rw[hs]);have hl1:(w.An.set n.toNat s').length=w.An.length:=ATv;have ABs:F8 S m.2.1=S.1.filter fun e=>AQ e.1==m.2.1:=by unfold F8;rw[DL.2 s2,ALP rfl]
 have AYl:(F8 S m.2.1).filter (fun e=>AQ e.1==m.2.1)=S.1.filter fun e=>AQ e.1==m.2.1:=by
  simp_all
 rw[AYl]at m4;have ea:Bm ((w.BA (w.An.set n.toNat S)).Bj (T::ms))=(Bm w1).jd (eg m) n (kS T.2.2.2.1) (max (storeAt w n).2.2.1 (m.1-1)):=by
  have h1:∀k,A_ ((w.BA (w.An.set n.toNat S)).Bj (T::ms)) k=if k=n then S else A_ w k:=fun k=>GJ ⟨n1,n2⟩
  have h2:∀k,A_ w1 k=if k=n then s' else A_ w k:=fun k=>GJ ⟨n1,n2⟩
  refine St.eq rfl rfl rfl rfl rfl rfl rfl ?_ ?_ ?_ rfl rfl ?_ rfl
  ·funext k
   show kS (A_ _ k).1=kS (A_ w1 k).1
   grind
  ·funext k
   show S6 (A_ _ k).2.1=S6 (A_ w1 k).2.1
   grind
  ·funext k
   show(A_ _ k).2.2.1=if k=n then max (storeAt w n).2.2.1 (m.1-1)else(A_ w1 k).2.2.1
   grind
  ·show some (eg T)=some _
   rw[m4];refine congrArg some (Md.eq rfl ?_ rfl rfl rfl rfl);funext k;exact propext ⟨fun hh=>(OT.1 hh).symm,fun hh=>OT.2 hh.symm⟩
 have hA1:GR (GQ (AS w)) AQ Pl (Bm w1):=by rw[wk];exact Sf.om hk h.a
 have ek1:(Bm w1).kept n=kS S.1:=by rw[wk];show(if n=n then kS S.1 else _)=_;simp_all
 have k:Sf.vG AQ (Bm w1) (eg m) n (kS T.2.2.2.1) (max (storeAt w n).2.2.1 (m.1-1)):=by
  refine⟨Sd,n3,by simp[eg,m3],?_,?_,fun p x hx=> ?_,fun p y hy=> ?_,fun p x hx he=> ?_,fun p y hy=> ?_⟩
  ·rw[wk]
   show(A_ w n).2.2.1≤_
   grind
  ·show(w.Ac.length:Int)-1≤_
   omega
  ·obtain⟨e,he,rfl⟩:=Rz hx
   obtain⟨y,hy,_⟩:=XJ (l:=S.1.filter fun e=>AQ e.1==m.2.1) m1.gM he;rw[m4];exact⟨_,Zz hy⟩
  ·rw[m4]at hy
   obtain⟨e,he,rfl⟩:=Rz hy;obtain⟨e1,e2⟩:=Gv he;rcases Qr e1 with e3|e3
   ·left
    show kS m.2.2.2.1 p=_
    rw[←e2];exact Zz (Lw m1.gM e3)
   ·right
    rw[ek1,←e2];exact Zz (Lw s2.gM (ATU.1 e3).1)
  ·rw[ek1]at hx
   obtain⟨e,he',rfl⟩:=Rz hx;obtain⟨e1,e2⟩:=Gv he';obtain⟨y,hy,_⟩:=gT (e:=e) (l:=S.1.filter fun e=>AQ e.1==m.2.1) m1.gM (ATU.2 ⟨e1,by rw[e2];exact ATa.2 he⟩);rw[m4,←e2];exact⟨_,Zz hy⟩
  ·obtain⟨e,he,rfl⟩:=Rz hy
   obtain⟨e1,e2⟩:=Gv he;have:=m2.seen e e1;rw[m4]at this;refine⟨e2,?_,?_⟩
   ·rw[←e2];exact this.2.1
   ·show e.2.1<(w.Ac.length:Int)
    omega
 refine h.step Bq rfl rfl (fun t=>t) ?_ (fun _ _ fin hb=> ?_) rfl rfl (ATO _) fun p d q a=>⟨q,a,id⟩
 ·grind[Sf.AHL]
 ·rw[ea]
  refine Sf.ALU GQ.mono k hA1 ?_
  rw[wk];exact Sf.oO GQ.mono hk h.a hb
end
end Go.M
end
section
namespace Go.M
open Go.M.H (AJ AO As Ab AA CO AN A4 AM AY Az Av BS)
open Go.Sf (Nv Wd Md St Rd uB Pg GR HJ V6)
theorem XS{x:AM}:∀{ws:List AM},Tf (fun x:AM=>x.1) ws→x∈ws→Xg ws x.1=some x
 |[],_,h=>by simp at h
 |y::ws,ha,h=>by
  simp only[Tf,AQb]at ha;unfold Xg;rw[ATw];rcases AOJ.1 h with rfl|h
  ·rw[AXh]
  ·rw[APh.2 (fun e=>by grind)]
   exact XS ha.2 h
theorem aC{ws:List AM}{e:Int}{x:AM}(h:Xg ws e=some x):x∈ws∧x.1=e:=
 ⟨ATk h,by simpa using AXl h⟩
theorem ll{e:Int}{y:AM}(hy:y.1≠e):∀{ws:List AM} {i:Nat},(∀hi:i<ws.length,(ws[i]).1≠e)→Xg (ws.set i y) e=Xg ws e
 |[],i,_=>rfl
 |x::ws,0,h=>by
  grind[Xg,beq_eq_false_iff_ne]
 |x::ws,i+1,h=>by
  have ih:=ll hy (ws:=ws) (i:=i) fun hi=>h (Nat.succ_lt_succ hi)
  grind[Xg]
theorem xo{ws:List AM}{p:Int}{x:A4}(h:FN ws p=some x):Pl p∧ ∃y,Xg ws (AQ p)=some y∧y.2.1[(A6 p-1).toNat]? =some x:=by
 unfold FN at h;split at h
 ·rename_i hp
  refine⟨hp,?_⟩;grind[Option.bind_eq_some_iff]
 simp_all
theorem J_{ws:List AM}{p:Int}{y:AM}(hp:Pl p)(h:Xg ws (AQ p)=some y):FN ws p=y.2.1[(A6 p-1).toNat]?:=by
 unfold FN;rw[ALP (show BR p=true from hp),h];rfl
theorem sv{ws:List AM}{p:Int}(h:Xg ws (AQ p)=none):FN ws p=none:=by
 grind[FN]
theorem kc{ws:List AM}{p:Int}(h: ¬Pl p):FN ws p=none:=by
 unfold FN;rw[ALo (show¬BR p=true from h)]
theorem zP{ws:List AM}{e p:Int}:FN (ws++[(e,[],())]) p=FN ws p:=by
 unfold FN Xg;split
 ·rw[List.find?_append]
  cases ws.find? (fun x=>x.1==AQ p)with
  |some y=>rfl
  |none=>
   simp_all
 ·rfl
theorem YL{l:List Ab}{p:Int}{s:Ab}(h:JS l p=some s):s∈l∧s.1=p:=
 ⟨ATk h,by simpa using AXl h⟩
theorem mI{s:Ab}{q:Int}:∀{l:List Ab},(∀x∈l,x.1≠s.1)→JS (Xy s l) q=if q=s.1 then some s else JS l q
 |[],_=>by
  unfold JS Xy;grind
 |x::l,h=>by
  have ih:=mI (q:=q) (l:=l) fun y hy=>h y (by simp[hy])
  have hx:=h x (by simp);unfold JS at*;rw[Xy];grind
theorem uZ{l:List CO}{x:CO}{e:Int}:Ap (l++[x]) e=if e=(l.length:Int)+1 then x.1 else Ap l e:=by
 unfold Ap;simp only[AOs,ANL,AQO];by_cases h:e=(l.length:Int)+1
 ·rw[ALP h,Ah.2 (by omega),ALP rfl,show(e-1).toNat=l.length by omega]
  simp[List.getD]
 ·rw[ALo h]
  by_cases h2:1≤e∧e≤(l.length:Int)
  ·rw[Ah.2 (by omega),Ah.2 h2,ALP rfl,ALP rfl]
   simp only[List.getD];rw[AND (by omega)]
  ·rw[ALo (fun hh=>by grind[Ah]),ALo (fun hh=>h2 (Ah.1 hh))]
theorem kh{l:List CO}{ns:AAH}{e:Int}(h1:1≤e):(Gu (l++[(ns,false,0,())]) e).2=(Gu l e).2:=by
 unfold Gu;simp only[List.getD];by_cases h:(e-1).toNat<l.length
 ·rw[AND h]
 ·rw[ANg (by omega),ATZ (l:=l) (by omega)]
  cases(e-1).toNat-l.length<;>rfl
section
variable{w:AA} (h:Safe w)
include h
theorem ABy{a:Int}(e:(MD w a).2=0):Safe (MD w a).1∧Grow w (MD w a).1:=by
 have Bq:=AAD h.ok e;unfold MD at e Bq⊢
 try dsimp only at e Bq⊢
 by_cases h4:w.AH.length=4
 ·simp_all
 rw[ALo h4]at e Bq⊢;by_cases hq:(Ig (AS w) (B5 w) (Ao a)).2.2=true
 rotate_left
 ·simp_all
 simp only[hq,AMO,AMH,AON]at Bq⊢;obtain⟨_,r1,r2,r3,r4,r5⟩:=od hq;rw[r2,r3]at Bq⊢;have er:(B5 w).1=w.Ac:=rfl;have ea:Bm (((w.HO ((B5 w).1++[(Ao a,false,0,())],(B5 w).2.1,())).A9 (w.AH++[(((B5 w).1.length:Int)+1,[],())])).Bj [])=(Bm w).open_ (fun n=>n∈Ao a):=by
  refine St.eq ?_ ?_ ?_ ?_ rfl rfl rfl rfl rfl rfl ?_ ?_ rfl rfl
  ·show((w.Ac++[(Ao a,false,0,())]).length:Int)=(w.Ac.length:Int)+1
   simp
  ·funext x n
   show(n∈Ap (w.Ac++[(Ao a,false,0,())]) x)=(if x=(w.Ac.length:Int)+1 then fun n=>n∈Ao a else(Bm w).nodes x) n
   rw[uZ];by_cases hx:x=(w.Ac.length:Int)+1
   ·simp_all
   ·rw[ALo hx,ALo hx];rfl
  ·funext x
   show((1≤x∧x≤((w.Ac++[(Ao a,false,0,())]).length:Int))∧(Gu (w.Ac++[(Ao a,false,0,())]) x).2.1=true)=((1≤x∧x≤(w.Ac.length:Int))∧(Gu w.Ac x).2.1=true)
   simp only[AOs,ANL,AQO];refine propext ⟨fun⟨⟨h1,h2⟩,h3⟩=> ?_,fun⟨⟨h1,h2⟩,h3⟩=>⟨⟨h1,by omega⟩,by grind[kh]⟩⟩;rw[kh h1]at h3;refine⟨⟨h1,?_⟩,h3⟩;by_cases hh:x≤(w.Ac.length:Int)
   ·omega
   ·unfold Gu at h3
    rw[List.getD,ATZ (by omega)]at h3;cases h3
  ·funext x
   show(if 1≤x then(Gu (w.Ac++[(Ao a,false,0,())]) x).2.2.1 else 0)=if 1≤x then(Gu w.Ac x).2.2.1 else 0
   by_cases hx:1≤x
   ·rw[ALP hx,ALP hx,kh hx]
   omega
  ·funext x
   show(∃y∈w.AH++[((w.Ac.length:Int)+1,[],())],y.1=x)=((∃y∈w.AH,y.1=x)∨x=(w.Ac.length:Int)+1)
   refine propext ⟨fun⟨y,hy,hx⟩=> ?_,fun hh=> ?_⟩
   ·grind
   ·rcases hh with⟨y,hy,hx⟩|hx
    ·grind
    simp_all
  ·funext p
   show(FN (w.AH++[((w.Ac.length:Int)+1,[],())]) p).map aV=(FN w.AH p).map aV
   rw[zP]
 have hns:GQ (AS w) (fun n=>n∈Ao a):=⟨_,r4,fun _ hn=>hn⟩;refine h.step Bq rfl rfl (fun t=>t) ?_ (fun _ _ fin hb=> ?_) ?_ ?_ ?_ ?_
 ·rw[ea];exact Sf.AQr hns h.a
 ·rw[ea];exact Sf.AOQ h.a hb GQ.mono
 ·rw[ea];rfl
 ·rw[ea];rfl
 ·rw[ea];exact ATO _
 ·exact fun p d q a=>⟨q,by rw[ea];exact a,id⟩
theorem zC(e:(Ik w).2=0):Safe (Ik w).1∧Grow w (Ik w).1:=by
 have Bq:=w6 h.ok e;unfold Ik at e Bq⊢
 try dsimp only at e Bq⊢
 cases hms:w.BW with
 |nil=>simp_all
 |cons m ms=>
 rw[hms]at e Bq;simp only at e Bq⊢;by_cases hr:PF (AS w) m=true
 rotate_left
 ·simp_all
 rw[hr]at e Bq⊢;simp only[AMO,AMH,AON]at e Bq⊢;by_cases hq:(Mo (AS w) (B5 w) m.1 (m.2.2.2.2.2.1.length:Int)).2=true
 rotate_left
 ·simp_all
 rw[hq]at Bq⊢;simp only[AMO,AMH,AON]at Bq⊢;obtain⟨r0,r1,k,k1,k2,k3,k4,k5,k6,k7,k8⟩:=mA hq;rw[k6]at Bq⊢;have k1':k<w.Ac.length:=k1;have Sd:=dD hms;have hm0:=h.ok.BW m (by simp_all);have hep:m.2.1=(k:Int)+1:=by rw[hm0.2.2];exact k2
 have hlen:(Ga w.Ac k (m.2.2.2.2.2.1.length:Int)).length=w.Ac.length:=by simp[Ga]
 have hg:=fun j=>WD (l:=w.Ac) (i:=k) (j:=j) (last:=(m.2.2.2.2.2.1.length:Int)) k1'
 have ea:Bm ((w.HO (Ga (B5 w).1 k (m.2.2.2.2.2.1.length:Int),(B5 w).2.1,())).Bj [])=(Bm w).close (eg m):=by
  refine St.eq ?_ ?_ ?_ ?_ rfl rfl rfl rfl rfl rfl rfl rfl rfl rfl
  ·show((Ga w.Ac k (m.2.2.2.2.2.1.length:Int)).length:Int)=(w.Ac.length:Int)
   omega
  ·funext x n
   show(n∈Ap (Ga w.Ac k (m.2.2.2.2.2.1.length:Int)) x)=(n∈Ap w.Ac x)
   unfold Ap;rw[hlen,hg];by_cases hx:k=(x-1).toNat
   all_goals simp_all
  ·funext x
   show((1≤x∧x≤((Ga w.Ac k (m.2.2.2.2.2.1.length:Int)).length:Int))∧(Gu (Ga w.Ac k (m.2.2.2.2.2.1.length:Int)) x).2.1=true)=(((1≤x∧x≤(w.Ac.length:Int))∧(Gu w.Ac x).2.1=true)∨x=m.2.1)
   unfold Gu;rw[hlen,hg,hep];by_cases hx:k=(x-1).toNat
   all_goals (simp_all;omega)
  ·funext x
   show(if 1≤x then(Gu (Ga w.Ac k (m.2.2.2.2.2.1.length:Int)) x).2.2.1 else 0)=if x=m.2.1 then(m.2.2.2.2.2.1.length:Int)else if 1≤x then(Gu w.Ac x).2.2.1 else 0
   unfold Gu;rw[hg,hep];by_cases h1:1≤x
   ·rw[ALP h1]
    by_cases hx:k=(x-1).toNat
    all_goals (simp_all;omega)
   omega
 unfold PF at hr;simp only[AMC,ATg]at hr;have kk:Sf.nj (GQ (AS w)) AQ A6 Pl (Bm w) (eg m):=by
  refine⟨Sd,hr.2.1,fun p hp he ho=> ?_⟩;have o1:=qk hp;have xG:A6 p≤(m.2.2.2.2.2.1.length:Int):=ho;have hi:(A6 p-1).toNat<m.2.2.2.2.2.1.length:=by omega
  exact⟨_,hr.2.2 _ (AMk hi),fun n hn=>⟨hp,he,_,ALR hi,hn⟩⟩
 refine⟨⟨Bq,?_,fun hv=> ?_⟩,fun p d q a=>⟨q,by rw[ea];exact a,id⟩⟩
 ·rw[ea];exact Sf.AKS kk h.a
 ·obtain⟨fin,b1,b2⟩:=h.b hv
  rw[ea];exact⟨_,Sf.AJz kk h.a b1 GQ.mono fun _ _ _ _ _=>trivial,fun r hr=>Sf.V6.close kk h.a b1 (b2 r hr)⟩
theorem AE0{a:Int}{d:ACD}(hd:d.length≤40)(e:(doAdd w a d).2=0):Safe (doAdd w a d).1∧Grow w (doAdd w a d).1:=by
 have Bq:=AEn h.ok hd e;unfold doAdd at e Bq⊢
 try dsimp only at e Bq⊢
 by_cases ha:BN a 0 ((w.AH.length:Int)-1)=true
 rotate_left
 ·simp_all
 rw[ha]at e Bq⊢;simp only[AMO,AMH,AON]at e Bq⊢;by_cases hq:(!(CI (AS w) (w.AH.getD a.toNat Bv) d).2.2||(decide (w.BK.length=120)||w.BK.any fun s=>s.1==D6 (w.AH.getD a.toNat Bv).1 (CI (AS w) (w.AH.getD a.toNat Bv) d).2.1))=true
 ·simp_all
 rw[ALo hq]at Bq⊢;simp only[ATI,AXv,APN,APU,ATr,List.any_eq_false,ATa]at hq;obtain⟨hq,h120,hno⟩:=hq;rw[Ah]at ha;have hi:a.toNat<w.AH.length:=by omega
 have hxm:=BJ (d:=Bv) hi;obtain⟨_,r1,r2,r3⟩:=WJ hq;rw[r2]at r1;rw[r2,r3]at Bq⊢;rw[r3]at hno;have hxw:=h.ok.AH _ hxm;have hgx:w.AH[a.toNat]=w.AH.getD a.toNat Bv:=(OJ hi).symm
 generalize w.AH.getD a.toNat Bv=x at*
 have yr:=r1.n;simp only[AOs,ANL,AQO]at yr;obtain⟨p1,p2,p3⟩:=I5 (e:=x.1) (o:=(x.2.1.length:Int)+1) hxw.1.ep (by omega)
 generalize hp:D6 x.1 ((x.2.1.length:Int)+1)=p at*
 have hwx:=XS h.ok.Xw hxm;have Aaz:=Bq.Xw;have W8:Xg (w.AH.set a.toNat (x.1,x.2.1++[(d,[],false,())],())) x.1=some (x.1,x.2.1++[(d,[],false,())],()):=
  XS (x:=(x.1,x.2.1++[(d,[],false,())],())) Aaz (List.mem_iff_getElem.2 ⟨a.toNat,by simp_all,by rw[AWp]⟩)
 have bd:∀q,AQ q≠x.1→Xg (w.AH.set a.toNat (x.1,x.2.1++[(d,[],false,())],())) (AQ q)=Xg w.AH (AQ q):=fun q hq=>
  ll (y:=(x.1,x.2.1++[(d,[],false,())],())) (fun e=>hq e.symm) fun Dh=>by grind
 have ea:Bm ((w.A9 (w.AH.set a.toNat (x.1,x.2.1++[(d,[],false,())],()))).C2 (Xy (p,d,false,()) w.BK))=(Bm w).add p d:=by
  refine St.eq rfl rfl rfl rfl rfl rfl rfl rfl rfl rfl ?_ ?_ rfl ?_
  ·funext q
   show(∃y∈w.AH.set a.toNat (x.1,x.2.1++[(d,[],false,())],()),y.1=q)=(∃y∈w.AH,y.1=q)
   refine propext ⟨fun⟨y,hy,hq⟩=> ?_,fun⟨y,hy,hq⟩=> ?_⟩
   ·grind
   ·by_cases hyx:q=x.1
    ·grind[aC]
    ·obtain⟨i,Dh,rfl⟩:=AQQ hy
     grind[List.mem_iff_getElem,List.length_set,List.getElem_set_ne]
  ·funext q
   show(FN _ q).map aV=if q=p then some ⟨d,fun _=>False,False⟩else(FN w.AH q).map aV
   by_cases hpq:Pl q
   rotate_left
   ·rw[kc hpq,kc hpq,ALo (fun e=>hpq (by rw[e];exact p1))]
   by_cases hqx:AQ q=x.1
   ·rw[J_ hpq (by rw[hqx];omega),J_ hpq (by rw[hqx];omega)]
    have o1:=qk hpq;by_cases hqp:q=p
    ·rw[ALP hqp,hqp,p3,show((x.2.1.length:Int)+1-1).toNat=x.2.1.length by omega]
     show((x.2.1++[(d,[],false,())])[x.2.1.length]?).map aV=_
     rw[ANg (by omega)];simp only[AXq,List.getElem?_cons_zero,AT4];refine congrArg some (Wd.eq rfl ?_ ?_)
     ·funext n;exact propext ⟨fun hh=>by simp[aV]at hh,fun hh=>hh.elim⟩
     ·exact propext ⟨fun hh=>by simp[aV]at hh,fun hh=>hh.elim⟩
    ·rw[ALo hqp]
     have hof:A6 q≠(x.2.1.length:Int)+1:=fun e=>hqp (sW hpq p1 (by omega) (by omega))
     show((x.2.1++[(d,[],false,())])[(A6 q-1).toNat]?).map aV=_
     by_cases Lu:(A6 q-1).toNat<x.2.1.length
     ·grind
     simp_all;omega
   ·rw[ALo (fun e=>hqx (by simp_all))]
    grind[FN]
  ·funext q
   show(JS (Xy (p,d,false,()) w.BK) q).map seS=if q=p then some (d,False)else(JS w.BK q).map seS
   rw[mI (s:=(p,d,false,())) fun y hy=>by grind];by_cases hq:q=p
   ·rw[ALP hq,ALP hq]
    show some (d,false=true)=some (d,False)
    simp
   simp_all
 have ks:(Bm w).HF p=none:=by
  show(JS w.BK p).map seS=none
  grind[JS,YL,absurd]
 have k:Sf.AME AQ Pl (Bm w) p:=by
  refine⟨p1,⟨x,hxm,p2.symm⟩,?_,ks⟩
  show(FN w.AH p).map aV=none
  rw[J_ p1 (by rw[p2];omega),p3,ATZ (by omega)];rfl
 refine h.step Bq rfl rfl (fun t=>t) ?_ (fun _ _ fin hb=> ?_) ?_ ?_ ?_ ?_
 ·rw[ea];exact Sf.AUD GQ.empty k h.a
 ·grind[Sf.AUL,GQ.mono]
 ·rfl
 ·rfl
 ·rw[ea];exact ATO _
 ·intro q d' z a1
  rw[ea];refine⟨z,?_,id⟩
  show(if q=p then some (d,False)else(Bm w).HF q)=_
  grind
end
end Go.M
end
section
namespace Go.M
open Go.M.H (AJ AO As Ab AA CO AN A4 AM AY Az Av BS)
open Go.Sf (Nv Wd Md St Rd uB Pg GR HJ V6)
theorem tf{n:Int}{x:A4}:aV (Cx n x)=⟨(aV x).data,fun k=>(aV x).nw k∧((aV x).done∨k≠n),(aV x).done⟩:=by
 refine Wd.eq rfl ?_ rfl
 funext k
 show(k∈(if x.2.2.1 then x.2.1 else less x.2.1 [n]))=(k∈x.2.1∧(x.2.2.1=true∨k≠n))
 by_cases hd:x.2.2.1=true
 ·simp_all
 ·rw[ALo hd,SZ,ATj]
  simp_all
theorem yZ{f:AM→AM}{g:A4→A4}(hf:∀x,(f x).1=x.1)(hg:∀x,(f x).2.1=x.2.1.map g){ws:List AM}{p:Int}:FN (ws.map f) p=(FN ws p).map g:=by
 unfold FN Xg;split
 ·rw[List.find?_map]
  have:((fun x:AM=>x.1==AQ p)∘f)=fun x=>x.1==AQ p:=by grind
  rw[this];cases ws.find? (fun x=>x.1==AQ p)with
  |none=>rfl
  |some y=>
   simp_all
 ·rfl
theorem iC{lost:AAH}{s:AO}:∀{l:List AO} {i:Nat},s∈others lost i l↔ ∃j,∃hj:j<l.length,l[j]=s∧((i+j:Nat):Int)∉lost
 |[],i=>by simp[others]
 |x::l,i=>by
  unfold others;have ih:=iC (lost:=lost) (s:=s) (l:=l) (i:=i+1);have tail:(∃j,∃hj:j<l.length,l[j]=s∧((i+1+j:Nat):Int)∉lost)→ ∃j,∃hj:j<(x::l).length,(x::l)[j]=s∧((i+j:Nat):Int)∉lost:=fun⟨j,hj,h1,h2⟩=>
   ⟨j+1,by simp_all,by simp_all,by grind⟩
  split
  ·rename_i hc
   rw[ih];refine⟨tail,fun⟨j,hj,h1,h2⟩=> ?_⟩;grind
  grind
theorem oD{y:AJ}:∀{ss:List AO} {k:List AJ},y∈Ff k ss→y∈k∨ ∃s∈ss,y∈s.1
 |[],k,h=> .inl h
 |s::ss,k,h=>by
  rcases oD (ss:=ss) h with h|⟨t,h1,h2⟩
  all_goals grind[Qr]
theorem tF{p:Int}:∀{ss:List AO} {k:List AJ} {x:AJ},Wr k→Ep p k=some x→ ∃y,Ep p (Ff k ss)=some y∧x.2.1≤y.2.1
 |[],k,x,h,hx=>⟨x,hx,ATO _⟩
 |s::ss,k,x,h,hx=>by
  obtain⟨y,h1,h2⟩:=XJ (l:=s.1) h hx;obtain⟨z,h3,h4⟩:=tF (ss:=ss) (Qt h) h1;exact⟨z,h3,by grind⟩
theorem sC{e:AJ}:∀{ss:List AO} {k:List AJ} {s:AO},Wr k→s∈ss→e∈s.1→ ∃y,Ep e.1 (Ff k ss)=some y∧e.2.1≤y.2.1
 |s::ss,k,t,h,ht,he=>by
  rcases AOJ.1 ht with rfl|ht
  ·obtain⟨y,h1,h2⟩:=gT h he
   obtain⟨z,h3,h4⟩:=tF (ss:=ss) (Qt h) h1;exact⟨z,h3,by omega⟩
  ·exact sC (ss:=ss) (k:=Dd k s.1) (Qt h) ht he
theorem lr{m:As}{b len:Int}{en:AJ}(hl:m.1=len)(oh:De m b=some en):
  (m.2.2.2.2.1=true∧(1≤m.2.1∧m.2.1≤30)∧(1≤b∧b≤60)∧b≤m.2.2.2.2.2.1.length)∧U9 en=Sf.VC len (eg m) (D6 m.2.1 b)∧en.1=D6 m.2.1 b:=by
 unfold De at oh;by_cases hc:(m.2.2.2.2.1&&(BN m.2.1 1 30&&(BN b 1 60&&decide (b≤m.2.2.2.2.2.1.length))))=true
 rotate_left
 ·simp_all
 rw[ALP hc]at oh;simp only[AMC,Ah,AMi]at hc;refine⟨hc,?_⟩;unfold Sf.VC
 show(U9 en=match kS m.2.2.2.1 (D6 m.2.1 b)with|some x=>_|none=>_)∧_
 unfold kS;cases hg:Ep (D6 m.2.1 b) m.2.2.2.1 with
 |none=>
  rw[hg]at oh;cases oh;refine⟨?_,rfl⟩
  show(⟨_,m.1,true,[]⟩:Nv)=⟨_,len,true,[]⟩
  rw[hl]
 |some x=>
  rw[hg]at oh;cases oh;refine⟨?_,rfl⟩
  show(⟨_,m.1,x.2.2.1,x.2.2.2.1⟩:Nv)=⟨_,len,x.2.2.1,x.2.2.2.1⟩
  rw[hl]
section
variable{w:AA} (h:Safe w)
include h
theorem xX{n:Int}{en:AJ}(hn:Al w n=0)(Bq:Nn (putAt w n (GB (storeAt w n) en)).1)(e:(putAt w n (GB (storeAt w n) en)).2=0)(k:Sf.AAu AQ Pl (Bm w) (U9 en))
  (hh:∀fin,HJ (GQ (AS w)) AQ A6 Pl (Bm w) fin→(U9 en).hole=true→(Bm w).trim<(U9 en).at_→Sf.Lv (GQ (AS w)) AQ (Bm w) (U9 en).at_)
  (hc:(Bm w).cl (AQ (U9 en).at_)→(U9 en).PR=0):Safe (putAt w n (GB (storeAt w n) en)).1∧Grow w (putAt w n (GB (storeAt w n) en)).1:=by
 unfold putAt at e Bq⊢;by_cases hq:(GB (storeAt w n) en).2=true
 rotate_left
 ·simp_all
 rw[ALP hq]at Bq⊢;obtain⟨s1,s2,s3,s4⟩:=dY hq;obtain⟨n1,n2,n3⟩:=EK hn;have ea:Bm (w.BA (w.An.set n.toNat (GB (storeAt w n) en).1))=(Bm w).put n (U9 en):=by
  grind[ALe,Tb]
 refine h.step Bq rfl rfl (fun t=>t) ?_ (fun _ _ fin hb=> ?_) ?_ ?_ ?_ ?_
 ·rw[ea];exact Sf.AVu k h.a
 ·grind[Sf.AU7]
 ·rfl
 ·rfl
 ·rw[ea];exact ATO _
 ·exact fun p d q a=>⟨q,by rw[ea];exact a,id⟩
theorem zc{a b n:Int}(e:(Ih w a b n).2=0):Safe (Ih w a b n).1∧Grow w (Ih w a b n).1:=by
 have Bq:=xg h.ok e;unfold Ih at e Bq⊢
 try dsimp only at e Bq⊢
 by_cases ha:BN a 0 ((w.AH.length:Int)-1)=true
 rotate_left
 ·simp_all
 rw[ha]at e Bq⊢;simp only[AMO,AMH,AON]at e Bq⊢;rw[Ah]at ha;have hi:a.toNat<w.AH.length:=by omega
 have hxm:=BJ (d:=Bv) hi;have hxw:=h.ok.AH _ hxm;have hwx:=XS h.ok.Xw hxm
 generalize w.AH.getD a.toNat Bv=x at*
 by_cases hb:BN b 1 (x.2.1.length:Int)=true
 rotate_left
 ·simp_all
 rw[hb]at e Bq⊢;simp only[AMO,AMH,AON]at e Bq⊢;rw[Ah]at hb;by_cases hn:Al w n=0
 rotate_left
 ·simp_all
 rw[ALo (by omega)]at e Bq⊢;by_cases PY:(Ap w.Ac x.1).contains n=true
 rotate_left
 ·simp_all
 rw[PY]at e Bq⊢;simp only[AMO,AMH,AON]at e Bq⊢;have Adp:=hxw.1.n;obtain⟨p1,p2,p3⟩:=I5 (e:=x.1) (o:=b) hxw.1.ep (by omega);have hwd:(Bm w).wd (D6 x.1 b)=some (aV (x.2.1.getD (b-1).toNat LR)):=by
  show(FN w.AH (D6 x.1 b)).map aV=_
  rw[J_ p1 (by rw[p2];omega),p3,ALR (by omega),OJ (by omega)];rfl
 have kp:=Sf.yQ h.a hwd;refine xX h hn Bq e kp (fun fin hb hh=>by cases hh) fun _=>rfl
theorem AF8{b n:Int}(e:(SV w b n).2=0):Safe (SV w b n).1∧Grow w (SV w b n).1:=by
 have Bq:=AFF h.ok e;unfold SV at e Bq⊢
 try dsimp only at e Bq⊢
 cases hms:w.BW with
 |nil=>simp_all
 |cons m ms=>
 rw[hms]at e Bq;simp only at e Bq⊢;cases oh:De m b with
 |none=>simp_all
 |some en=>
 rw[oh]at e Bq;simp only at e Bq⊢;by_cases hn:Al w n=0
 rotate_left
 ·simp_all
 rw[ALo (by omega)]at e Bq⊢;by_cases PY:(Ap w.Ac m.2.1).contains n=true
 rotate_left
 ·simp_all
 rw[PY]at e Bq⊢;simp only[AMO,AMH,AON]at e Bq⊢;have Sd:=dD hms;have hm0:=h.ok.BW m (by simp_all);obtain⟨⟨c1,c2,c3,c4⟩,hen,_⟩:=lr hm0.2.1 oh;obtain⟨p1,p2,p3⟩:=I5 c2 c3
 replace hen:U9 en=Sf.VC (Bm w).len (eg m) (D6 m.2.1 b):=hen
 have Oj:(U9 en).at_=D6 m.2.1 b:=by grind[Sf.VC]
 have kp:=Sf.zj h.a Sd c1 (p:=D6 m.2.1 b) p2 p1;rw[←hen]at kp;refine xX h hn Bq e kp (fun fin hb hh ht=> ?_) fun cX=> ?_
 ·rw[Oj]at ht⊢
  cases hs:(eg m).seen (D6 m.2.1 b)with
  |none=>exact hb.ZH _ _ Sd c1 p1 p2 ht hs
  |some x=>
   have hx:=h.a.jF _ _ _ Sd hs;have hxh:x.hole=true:=by
    grind[Sf.VC]
   have:=hb.Sy x (.inr (.inr ⟨_,Sd,by simp_all⟩)) hxh (by omega);simp_all
 ·rw[Oj,p2]at cX
  exact absurd cX (h.a.md1 _ Sd).2.2.1
theorem ABp{a:Int}(e:(NB w a).2=0):Safe (NB w a).1∧Grow w (NB w a).1:=by
 have Bq:=ABH h.ok e;unfold NB at e Bq⊢
 try dsimp only at e Bq⊢
 by_cases ha:BN a 0 ((w.AH.length:Int)-1)=true
 rotate_left
 ·simp_all
 rw[ha]at Bq⊢;simp only[AMO,AMH,AON]at Bq⊢;have ABq:∀x∈w.AH.eraseIdx a.toNat,x∈w.AH:=fun x hx=>(List.eraseIdx_sublist _ _).subset hx
 have ea:Bm (w.A9 (w.AH.eraseIdx a.toNat))=(Bm w).drop (Bm (w.A9 (w.AH.eraseIdx a.toNat))).vg (Bm (w.A9 (w.AH.eraseIdx a.toNat))).wd:=rfl;have k:Sf.zf AQ (Bm w) (Bm (w.A9 (w.AH.eraseIdx a.toNat))).vg (Bm (w.A9 (w.AH.eraseIdx a.toNat))).wd:=by
  refine⟨fun e ⟨x,hx,he⟩=>⟨x,ABq x hx,he⟩,fun p v hv=> ?_⟩
  replace hv:(FN (w.AH.eraseIdx a.toNat) p).map aV=some v:=hv
  rw[AL9]at hv;obtain⟨x,hx,rfl⟩:=hv;obtain⟨hp,y,hy,hyx⟩:=xo hx;obtain⟨y1,y2⟩:=aC hy;refine⟨?_,y,y1,y2⟩
  show(FN w.AH p).map aV=_
  rw[J_ hp (y:=y) (by rw[←y2];exact XS h.ok.Xw (ABq y y1)),hyx];rfl
 refine h.step Bq rfl rfl (fun t=>t) ?_ (fun _ _ fin hb=> ?_) rfl rfl (ATO _) fun p d q a=>⟨q,a,id⟩
 ·rw[ea];exact Sf.AS7 k h.a
 grind[Sf.AR0,GQ.mono]
theorem ABY{n:Int}(e:(MZ w n).2=0):Safe (MZ w n).1∧Grow w (MZ w n).1:=by
 have Bq:=AAy h.ok e;unfold MZ at e Bq⊢
 try dsimp only at e Bq⊢
 by_cases hn:Al w n=0
 rotate_left
 ·simp_all
 rw[ALo (by omega)]at e Bq⊢;simp only at e Bq⊢;obtain⟨n1,n2,n3⟩:=EK hn;have i_:=(h.ok.node hn).1;have AAq:GQ (AS w) (fun m=>m∈JM n w.lost)↔holds (AS w) (JM n w.lost)=true:=GQ.list (Ib h.ok.lost i_);have hor:(fun m=>m∈JM n w.lost)=fun m=>(m∈w.lost∨m=n):=by funext m;exact propext ⟨fun hh=>(OT.1 hh).symm,fun hh=>OT.2 hh.symm⟩
 rw[hor]at AAq;have fw:w.AH.map (fun x=>(CE (AS w) x n).1)=w.AH.map fun x=>(x.1,x.2.1.map (Cx n),()):=ATR fun x hx=>(U8 (h.ok.AH x hx).1).2
 have fm:w.BW.map (fun m=>(CA (AS w) m n).1)=w.BW.map fun m=>(m.1,m.2.1,m.2.2.1,m.2.2.2.1,m.2.2.2.2.1,m.2.2.2.2.2.1.map fun l=>less l [n],()):=ATR fun m hm=>(fW (h.ok.BW m hm).1).2
 rw[fw,fm]at Bq⊢;have fO:∀m,A_ (w.BA (w.An.set n.toNat Cr)) m=if m=n then Cr else A_ w m:=fun m=>GJ ⟨n1,n2⟩
 generalize hv:((((w.BA (w.An.set n.toNat Cr)).EW (JM n w.lost)).A9 (w.AH.map fun x=>(x.1,x.2.1.map (Cx n),()))).Bj (w.BW.map fun m=>(m.1,m.2.1,m.2.2.1,m.2.2.2.1,m.2.2.2.2.1,m.2.2.2.2.2.1.map fun l=>less l [n],()))).FE (w.ED||holds (AS w) (JM n w.lost))=v at Bq⊢
 have ea:Bm v=(Bm w).V8 (GQ (AS w)) n:=by
  subst hv;refine St.eq rfl rfl rfl rfl rfl hor ?_ ?_ ?_ ?_ ?_ ?_ ?_ rfl
  ·show((w.ED||holds (AS w) (JM n w.lost))=true)=(w.ED=true∨GQ (AS w) fun m=>m∈w.lost∨m=n)
   simp_all
  ·funext m
   show kS (A_ (w.BA (w.An.set n.toNat Cr)) m).1=if m=n then fun _=>none else kS (A_ w m).1
   rw[fO];by_cases em:m=n
   ·rw[ALP em,ALP em];rfl
   simp_all
  ·funext m x
   show S6 (A_ (w.BA (w.An.set n.toNat Cr)) m).2.1 x=(m≠n∧S6 (A_ w m).2.1 x)
   rw[fO];by_cases em:m=n
   ·rw[ALP em]
    exact propext ⟨fun⟨y,hy,_⟩=>by simp_all,fun hh=>absurd em hh.1⟩
   simp_all
  ·funext m
   show(A_ (w.BA (w.An.set n.toNat Cr)) m).2.2.1=if m=n then 0 else(A_ w m).2.2.1
   grind
  ·funext x
   show(∃y∈w.AH.map fun x=>(x.1,x.2.1.map (Cx n),()),y.1=x)=(∃y∈w.AH,y.1=x)
   refine propext ⟨fun⟨y,hy,hx⟩=> ?_,fun⟨y,hy,hx⟩=>⟨_,ATd.2 ⟨y,hy,rfl⟩,hx⟩⟩;grind
  ·funext p
   show(FN (w.AH.map fun x=>(x.1,x.2.1.map (Cx n),())) p).map aV=((FN w.AH p).map aV).map _
   rw[yZ (f:=fun x:AM=>(x.1,x.2.1.map (Cx n),())) (g:=Cx n) (fun _=>rfl) (fun _=>rfl)];cases FN w.AH p with
   |none=>rfl
   |some x=>exact congrArg some tf
  ·show(w.BW.map _).head?.map eg=(w.BW.head?.map eg).map _
   cases w.BW with
   |nil=>rfl
   |cons m ms=>
    show some (eg (m.1,m.2.1,m.2.2.1,m.2.2.2.1,m.2.2.2.2.1,m.2.2.2.2.2.1.map fun l=>less l [n],()))=some _
    refine congrArg some (Md.eq rfl rfl rfl rfl (by simp[eg]) ?_);funext p k;refine propext ⟨fun⟨a1,a2,l,hl,hk⟩=> ?_,fun⟨⟨a1,a2,l,hl,hk⟩,bd⟩=> ?_⟩
    ·replace hl:(m.2.2.2.2.2.1.map fun l=>less l [n])[(A6 p-1).toNat]? =some l:=hl
     rw[AQt,AL9]at hl;obtain⟨l',jP,rfl⟩:=hl;obtain⟨k1,k2⟩:=SZ.1 hk;exact⟨⟨a1,a2,l',jP,k1⟩,by simp_all⟩
    ·refine⟨a1,a2,less l [n],?_,SZ.2 ⟨hk,by simp_all⟩⟩
     simp_all
 have et:v.ED=(w.ED||holds (AS w) (JM n w.lost)):=by grind
 refine h.step Bq (by rw[←hv];rfl) (by grind) (fun t=> ?_) ?_ (fun _ t fin hb=> ?_) ?_ ?_ ?_ ?_
 ·simp_all
 ·rw[ea];exact Sf.AR1 GQ.mono h.a
 ·rw[ea]
  refine Sf.APq GQ.mono (fun hh=> ?_) h.a hb;rw[et,AAq.1 hh,Bool.or_true]at t;cases t
 ·rw[ea];rfl
 ·rw[ea];rfl
 ·rw[ea];exact ATO _
 ·exact fun p d q a=>⟨q,by rw[ea];exact a,id⟩
theorem ACU{n:Int}(e:(MW w n).2=0):Safe (MW w n).1∧Grow w (MW w n).1:=by
 have Bq:=AAp h.ok e;unfold MW at e Bq⊢
 try dsimp only at e Bq⊢
 by_cases h1:w.lost.contains n=true
 rotate_left
 ·simp_all
 rw[h1]at e Bq⊢;simp only[AMO,AMH,AON]at e Bq⊢;by_cases hq:(Xf (AS w) w.An w.lost n (max ((w.Ac.length:Int)-1) 0)).2=true
 rotate_left
 ·simp_all
 rw[hq]at Bq⊢;simp only[AMO,AMH,AON]at Bq⊢;obtain⟨s1,s2,s3,s4⟩:=xZ hq;rw[List.contains_eq_mem,AMi]at h1;have yr:0≤n∧n<(w.1.length:Int):=(ER.1 h.ok.lost).2.1 n h1;have hns:=h.ok.qh;have PY:0≤n∧n<(w.An.length:Int):=by omega
 generalize (Xf (AS w) w.An w.lost n (max ((w.Ac.length:Int)-1) 0)).1=S at*
 have fO:∀m,A_ (w.BA (w.An.set n.toNat S)) m=if m=n then S else A_ w m:=fun m=>GJ PY
 have ea:Bm ((w.BA (w.An.set n.toNat S)).EW (less w.lost [n]))=(Bm w).fill n (kS S.1) (max ((w.Ac.length:Int)-1) 0):=by
  refine St.eq rfl rfl rfl rfl rfl ?_ rfl ?_ ?_ ?_ rfl rfl rfl rfl
  ·funext m
   show(m∈less w.lost [n])=(m∈w.lost∧m≠n)
   rw[SZ,ATj]
  ·funext m
   show kS (A_ (w.BA (w.An.set n.toNat S)) m).1=if m=n then kS S.1 else kS (A_ w m).1
   grind
  ·funext m x
   show S6 (A_ (w.BA (w.An.set n.toNat S)) m).2.1 x=(m≠n∧S6 (A_ w m).2.1 x)
   rw[fO];by_cases em:m=n
   ·rw[ALP em,s2]
    exact propext ⟨fun⟨y,hy,_⟩=>by simp_all,fun hh=>absurd em hh.1⟩
   simp_all
  ·funext m
   show(A_ (w.BA (w.An.set n.toNat S)) m).2.2.1=if m=n then max ((w.Ac.length:Int)-1) 0 else(A_ w m).2.2.1
   grind
 have k:Sf.vC (Bm w) n (kS S.1) (max ((w.Ac.length:Int)-1) 0):=by
  refine⟨h1,Int.le_max_left _ _,fun p y hy=> ?_,fun m p x hm hx=> ?_⟩
  ·rw[s2]at hy
   obtain⟨e,he,rfl⟩:=Rz hy;obtain⟨e1,e2⟩:=Gv he;rcases oD e1 with e3|⟨s,e3,e4⟩
   ·simp_all
   ·obtain⟨j,hj,j1,j2⟩:=iC.1 e3
    rw[ATf]at j2;refine⟨(j:Int),j2,?_⟩
    show kS (A_ w (j:Int)).1 p=_
    unfold A_ storeAt;rw[ALP ⟨by omega,by omega⟩,AMZ,OJ hj,j1,←e2];exact Zz (Lw (s4 s e3).gM e4)
  ·replace hx:kS (A_ w m).1 p=some x:=hx
   obtain⟨e,he,rfl⟩:=Rz hx;obtain⟨e1,e2⟩:=Gv he;unfold A_ at e1;by_cases hmn:0≤m∧m<(w.An.length:Int)
   rotate_left
   ·grind
   rw[ALP hmn]at e1;have vf:m.toNat<w.An.length:=by omega
   obtain⟨y,y1,y2⟩:=sC (ss:=others w.lost 0 w.An) (k:=[]) (s:=storeAt w m) (e:=e) List.Pairwise.nil (iC.2 ⟨m.toNat,vf,by grind[storeAt,OJ],by rw[ATf,AUC hmn.1];exact hm⟩) e1;rw[s2,←e2];exact⟨_,Zz y1,y2⟩
 refine h.step Bq rfl rfl (fun t=>t) ?_ (fun _ _ fin hb=> ?_) ?_ ?_ ?_ ?_
 ·rw[ea];exact Sf.APZ k h.a
 ·rw[ea];exact Sf.ARg GQ.mono k h.a hb
 ·rfl
 ·rfl
 ·rw[ea];exact ATO _
 ·exact fun p d q a=>⟨q,by rw[ea];exact a,id⟩
end
end Go.M
end
section
namespace Go.Sf
section
variable{H:(Int→Prop)→Prop} (hm:∀S T:Int→Prop,(∀n,S n→T n)→H S→H T) {ep off:Int→Int} {Pl:Int→Prop} {fin:Int→Nv}
open Classical in
noncomputable def St.tell (H:(Int→Prop)→Prop) (s:St) (n:Int) (D:Int→Prop):St:=
 { s with wd:=fun q=>(s.wd q).map fun w=>if D q then⟨w.data,fun k=>w.nw k∨k=n,H (fun k=>w.nw k∨k=n)⟩else w,HF:=fun q=>(s.HF q).map fun d=>(d.1,d.2∨(D q∧ ∃w,s.wd q=some w∧H (fun k=>w.nw k∨k=n))) }
theorem ABf{s:St}{n:Int}{D:Int→Prop}(h:∀q,¬D q):s.tell H n D=s:=by
 have h1:(s.tell H n D).wd=s.wd:=by
  funext q
  show(s.wd q).map _=_
  simp_all
 have h2:(s.tell H n D).HF=s.HF:=by
  funext q
  show(s.HF q).map _=_
  simp_all
 unfold St.tell at*;simp_all
theorem AD_{s:St}{p n:Int}{w:Wd}{D:Int→Prop}(hp:D p)(hw:s.wd p=some w):s.tell H n D=(s.dJ H p n w).tell H n (fun q=>D q∧q≠p):=by
 have h1:(s.tell H n D).wd=((s.dJ H p n w).tell H n (fun q=>D q∧q≠p)).wd:=by
  funext q
  show(s.wd q).map _=(if q=p then some (⟨w.data,fun k=>w.nw k∨k=n,H (fun k=>w.nw k∨k=n)⟩:Wd)else s.wd q).map _
  grind
 have h2:(s.tell H n D).HF=((s.dJ H p n w).tell H n (fun q=>D q∧q≠p)).HF:=by
  funext q
  show(s.HF q).map _=(if q=p then(s.HF p).map (fun d=>(d.1,d.2∨H (fun k=>w.nw k∨k=n)))else s.HF q).map _
  by_cases e:q=p
  ·subst e
   rw[ALP rfl];cases s.HF q with
   |none=>rfl
   |some v=>simp_all
  ·rw[ALo e]
   cases s.HF q with
   |none=>rfl
   |some v=>simp[e,St.dJ]
 grind[St.tell,St.dJ]
include hm in
theorem oV{n:Int}{T:Prop}:∀(L:AAH) {s:St} {D:Int→Prop},(∀q,D q→q∈L)→(∀p,D p→ ∃w,AAZ ep s p n w)→GR H ep Pl s→(T→HJ H ep off Pl s fin)→
  GR H ep Pl (s.tell H n D)∧(T→HJ H ep off Pl (s.tell H n D) fin)
 |[],s,D,hD,_,ha,hb=>by
  rw[ABf fun q hq=>by simpa using hD q hq];exact⟨ha,hb⟩
 |p::L,s,D,hD,hk,ha,hb=>by
  by_cases hp:D p
  ·obtain⟨w,kw⟩:=hk p hp
   rw[AD_ hp kw.wd];refine oV L (fun q hq=> ?_) (fun q hq=> ?_) (AUu kw ha) fun t=>AUy hm kw ha (hb t)
   ·rcases AOJ.1 (hD q hq.1)with e|e
    ·exact absurd e hq.2
    ·exact e
   ·obtain⟨v,kv⟩:=hk q hq.1
    exact⟨v,by simp only[St.dJ];rw[ALo hq.2];exact kv.wd,kv.open_,kv.node,kv.there,kv.free,kv.has⟩
  ·exact oV L (fun q hq=>by
    rcases AOJ.1 (hD q hq)with e|e
    ·exact absurd hq (e▸hp)
    ·exact e) hk ha hb
def St.vh(s:St)(m:Md)(n:Int)(D:Int→Prop):St:={ s with md:=some { m with wrote:=fun q k=>m.wrote q k∨(D q∧k=n) } }
theorem pN{n:Int}{T:Prop}:∀(L:AAH) {s:St} {m:Md} {D:Int→Prop},(∀q,D q→q∈L)→s.md=some m→(∀p,D p→m.pl∧s.nodes m.ep n∧ ¬s.lost n∧s.kept n p=some (VC s.len m p))→GR H ep Pl s→(T→HJ H ep off Pl s fin)→
  GR H ep Pl (s.vh m n D)∧(T→HJ H ep off Pl (s.vh m n D) fin)
 |[],s,m,D,hD,Sd,_,ha,hb=>by
  have e:s.vh m n D=s:=by
   have:(fun q k=>m.wrote q k∨(D q∧k=n))=m.wrote:=by
    simp_all
   unfold St.vh;rw[this];cases s;simp_all
  simp_all
 |p::L,s,m,D,hD,Sd,hk,ha,hb=>by
  by_cases hp:D p
  ·obtain⟨k1,k2,k3,k4⟩:=hk p hp
   have e:s.vh m n D=(s.wrt m p n).vh { m with wrote:=fun q k=>m.wrote q k∨(q=p∧k=n) } n (fun q=>D q∧q≠p):=by
    grind[St.vh,St.wrt]
   rw[e];refine pN L (fun q hq=> ?_) rfl (fun q hq=> ?_) (AUj Sd ha) fun t=>AW2 Sd k1 k2 k3 k4 (hb t)
   ·grind
   ·exact hk q hq.1
  ·exact pN L (fun q hq=>by
    grind) Sd hk ha hb
end
end Go.Sf
namespace Go.M
open Go.M.H (AJ AO As Ab AA CO AN A4 AM AY Az Av BS)
open Go.Sf (Nv Wd Md St Rd uB Pg GR HJ V6)
def wX:AAH:=(List.range 31).flatMap fun e:Nat=>(List.range 61).map fun o:Nat=>D6 (e:Int) (o:Int)
theorem sd{p:Int}(h:Pl p):p∈wX:=by
 obtain⟨h1,h2,h3⟩:=CJ h;unfold wX;rw[List.mem_flatMap];refine⟨(AQ p).toNat,List.mem_range.2 (by omega),ATd.2 ⟨(A6 p).toNat,List.mem_range.2 (by omega),?_⟩⟩;grind
theorem T8{c:CD}{s:AO}{ep n:Int}:∀{l:List A4} {o:Int} {i:Nat},(BB c s ep n o l)[i]? =(l[i]?).map fun x=>if !x.2.2.1&&JP s (D6 ep (o+i))then EX c n x else x
 |[],o,i=>by rfl
 |x::l,o,0=>by simp[BB]
 |x::l,o,i+1=>by
  simp only[BB,AVn];rw[T8 (l:=l),show o+1+(i:Int)=o+((i+1:Nat):Int)by omega]
theorem fb{m:As}{s:AO}{n:Int}:∀{l:List AAH} {o:Int} {i:Nat},(D4 m s n o l)[i]? =(l[i]?).map fun x=>if NR m s (o+i)then JM n x else x
 |[],o,i=>by rfl
 |x::l,o,0=>by simp[D4]
 |x::l,o,i+1=>by
  simp only[D4,AVn];rw[fb (l:=l),show o+1+(i:Int)=o+((i+1:Nat):Int)by omega]
def turns(c:CD)(s:AO)(l:List CO)(n:Int)(ws:List AM)(p:Int):Bool:=
 ws.any fun x=>LL s l n x&&(AQ p==x.1&&(QP (BB c s x.1 n 1 x.2.1) (A6 p)&& !QP x.2.1 (A6 p)))
theorem bB{c:CD}{s:AO}{l:List CO}{n:Int}:∀{ws:List AM} {ss:List Ab},
  (FO false c s l n ws ss).2=ss.map fun t=>(t.1,t.2.1,t.2.2.1||turns c s l n ws t.1,())
 |[],ss=>by
  simp only[FO,turns,List.any_nil,AXj];simp_all
 |x::ws,ss=>by
  simp only[FO];split
  ·rename_i ht
   simp only;rw[bB,ATx];refine ATR fun t _=> ?_
   simp only[Function.comp,OW,turns,List.any_cons,ht,AMn,ASZ,Bool.or_assoc]
  ·rename_i ht
   simp only;rw[bB];refine ATR fun t _=> ?_
   have ht':LL s l n x=false:=by simp_all
   simp only[turns,List.any_cons,ht',ATP,ASZ]
theorem zV{g:Ab→Ab}(hg:∀t,(g t).1=t.1){l:List Ab}{q:Int}:JS (l.map g) q=(JS l q).map g:=by
 unfold JS;rw[List.find?_map];have:((fun s:Ab=>s.1==q)∘g)=fun s=>s.1==q:=by grind
 rw[this]
theorem Wo{l:List A4}{o:Int}(h:1≤o):QP l o=true↔ ∃x,l[(o-1).toNat]? =some x∧x.2.2.1=true:=by
 unfold QP;by_cases hl:o≤(l.length:Int)
 ·rw[Ah.2 ⟨h,hl⟩,AMn,List.getD,ALR (by omega)]
  simp
 ·rw[ATi.2 (fun hh:BN o 1 (l.length:Int)=true=>hl (Ah.1 hh).2),ATP,ATZ (by omega)]
  simp
theorem kX{c:CD}{n:Int}{x:A4}(h:Ay c (JM n x.2.1)=true):aV (EX c n x)=⟨(aV x).data,fun k=>(aV x).nw k∨k=n,GQ c fun k=>(aV x).nw k∨k=n⟩:=by
 have e:(fun k=>k∈JM n x.2.1)=fun k=>(aV x).nw k∨k=n:=by funext k;exact propext ⟨fun hh=>(OT.1 hh).symm,fun hh=>OT.2 hh.symm⟩
 refine Wd.eq rfl e ?_
 rw[←e];exact propext (GQ.list h).symm
section
variable{w:AA} (h:Safe w)
include h
theorem ABd{n:Int}(e:(Jv false w n).2=0):Safe (Jv false w n).1∧Grow w (Jv false w n).1:=by
 have Bq:=AAt h.ok e;unfold Jv at e Bq⊢
 try dsimp only at e Bq⊢
 by_cases hn:Al w n=0
 rotate_left
 ·simp_all
 rw[ALo (by omega)]at e Bq⊢;by_cases hq:(Cg (storeAt w n)).2=true
 rotate_left
 ·simp_all
 simp only[hq,AMO,AMH,AON]at Bq⊢;obtain⟨s1,s2,s3⟩:=Kf (k:=1048575) hq;obtain⟨n1,n2,n3⟩:=EK hn;have i_:=(h.ok.node hn).1;have hs:=Tb hn;have hsy:(Cg (storeAt w n)).1=(D9 (storeAt w n) 1048575).1:=rfl;rw[←hsy]at s2 s3
 generalize (Cg (storeAt w n)).1=S at*
 have hk:Pg ((Bm w).kept n) (kS S.1) ((Bm w).late n):=by
  show Pg (kS (A_ w n).1) _ (S6 (A_ w n).2.1)
  rw[hs,s3];exact AEM s1.gM fun e=>Q9
 have wk:=gx (w:=w) (n:=n) (s:=S) ⟨n1,n2⟩ (by rw[s3]) (by simp_all)
 generalize hw1:w.BA (w.An.set n.toNat S)=w1 at wk
 obtain⟨t1,_⟩:=eK h.ok (all:=false) (s:=S) i_ (ws:=w.AH) (ss:=w.BK);rw[t1,bB]at Bq⊢;have wds:∀x∈w.AH,∀y∈x.2.1,Ay (AS w) (JM n y.2.1)=true∧y.2.2.1=holds (AS w) y.2.1:=fun x hx y hy=>
  ⟨Ib ((h.ok.AH x hx).1.words y hy).2.1 i_,((h.ok.AH x hx).1.words y hy).2.2⟩
 have sq:(Bm w1).kept n=kS S.1:=by rw[wk];show(if n=n then kS S.1 else _)=_;simp_all
 have hsl:(Bm w1).sl n=S.2.2.1:=by
  rw[wk]
  show(A_ w n).2.2.1=_
  simp_all
 let D:Int→Prop:=fun p=> ∃x y,Pl p∧Xg w.AH (AQ p)=some x∧LL S w.Ac n x=true∧x.2.1[(A6 p-1).toNat]? =some y∧y.2.2.1=false∧JP S p=true
 have hDk:∀p,D p→ ∃v,Sf.AAZ AQ (Bm w1) p n v:=fun p ⟨x,y,d1,d2,d3,d4,d5,d6⟩=>by
  unfold LL at d3;simp only[AMC,AMi]at d3;obtain⟨g1,g2⟩:=aC d2;refine⟨aV y,?_,?_,?_,?_,?_,?_⟩
  ·rw[wk]
   show(FN w.AH p).map aV=_
   rw[J_ d1 d2,d4];rfl
  ·show¬(y.2.2.1=true)
   simp_all
  ·rw[wk]
   show n∈Ap w.Ac (AQ p)
   simp_all
  ·rw[wk];exact n3
  ·omega
  ·rw[sq]
   unfold JP at d6;cases hg:Ep p S.1 with
   |none=>simp_all
   |some z=>exact⟨_,Zz hg⟩
 have ea2:Bm ((w1.A9 (w.AH.map fun x=>if LL S w.Ac n x then(x.1,BB (AS w) S x.1 n 1 x.2.1,())else x)).C2 (w.BK.map fun t=>(t.1,t.2.1,t.2.2.1||turns (AS w) S w.Ac n w.AH t.1,())))=(Bm w1).tell (GQ (AS w)) n D:=by
  have e1:∀p,(Bm w1).wd p=(FN w.AH p).map aV:=fun p=>by rw[wk];rfl
  have e2:∀p,(Bm w1).HF p=(JS w.BK p).map seS:=fun p=>by rw[wk];rfl
  refine St.eq rfl rfl rfl rfl rfl rfl rfl rfl rfl rfl ?_ ?_ rfl ?_
  ·rw[show((Bm w1).tell (GQ (AS w)) n D).vg=(Bm w1).vg from rfl,wk]
   funext q
   show(∃y∈w.AH.map fun x=>if LL S w.Ac n x then(x.1,BB (AS w) S x.1 n 1 x.2.1,())else x,y.1=q)=(∃y∈w.AH,y.1=q)
   refine propext ⟨fun⟨y,hy,hx⟩=> ?_,fun⟨y,hy,hx⟩=>⟨_,ATd.2 ⟨y,hy,rfl⟩,?_⟩⟩
   all_goals grind
  ·funext p
   show(FN (w.AH.map fun x=>if LL S w.Ac n x then(x.1,BB (AS w) S x.1 n 1 x.2.1,())else x) p).map aV=((Bm w1).wd p).map _
   rw[e1];by_cases hp:Pl p
   rotate_left
   ·grind[kc]
   have AAk:Xg (w.AH.map fun x=>if LL S w.Ac n x then(x.1,BB (AS w) S x.1 n 1 x.2.1,())else x) (AQ p)=(Xg w.AH (AQ p)).map fun x=>if LL S w.Ac n x then(x.1,BB (AS w) S x.1 n 1 x.2.1,())else x:=by
    unfold Xg;rw[List.find?_map];congr 2;grind
   cases hx:Xg w.AH (AQ p)with
   |none=>
    grind[sv]
   |some x=>
    rw[hx]at AAk;rw[J_ hp hx,J_ hp AAk];obtain⟨g1,g2⟩:=aC hx;have o1:=qk hp;dsimp only;by_cases ht:LL S w.Ac n x=true
    ·rw[ALP ht]
     show((BB (AS w) S x.1 n 1 x.2.1)[(A6 p-1).toNat]?).map aV=_
     rw[T8];have lR:D6 x.1 (1+(((A6 p-1).toNat:Nat):Int))=p:=by
      rw[AUC (by omega),g2,show 1+(A6 p-1)=A6 p by omega];exact(CJ hp).2.2
     rw[lR];cases hy:x.2.1[(A6 p-1).toNat]? with
     |none=>rfl
     |some y=>
      simp only[AT4];refine congrArg some ?_
      by_cases hd:(!y.2.2.1&&JP S p)=true
      ·rw[ALP hd]
       simp only[AMC,ATJ]at hd;rw[ALP (show D p from⟨x,y,hp,hx,ht,hy,hd.1,hd.2⟩)];exact kX (wds x g1 y (ANe hy)).1
      ·rw[ALo hd,ALo]
       grind
    ·rw[ALo ht]
     cases hy:x.2.1[(A6 p-1).toNat]? with
     |none=>rfl
     |some y=>
      simp only[AT4];rw[ALo];grind
  ·funext p
   show(JS (w.BK.map fun t=>(t.1,t.2.1,t.2.2.1||turns (AS w) S w.Ac n w.AH t.1,())) p).map seS=((Bm w1).HF p).map _
   rw[e2,zV (g:=fun t:Ab=>(t.1,t.2.1,t.2.2.1||turns (AS w) S w.Ac n w.AH t.1,())) (fun _=>rfl)];cases fO:JS w.BK p with
   |none=>rfl
   |some t=>
    obtain⟨g1,g2⟩:=YL fO;have hp:Pl p:=by rw[←g2];exact(h.ok.BK t g1).1
    have o1:=qk hp;simp only[AT4];refine congrArg some ?_
    show(t.2.1,(t.2.2.1||turns (AS w) S w.Ac n w.AH t.1)=true)=(t.2.1,t.2.2.1=true∨(D p∧ ∃v,(Bm w1).wd p=some v∧GQ (AS w) fun k=>v.nw k∨k=n))
    refine congrArg (Prod.mk t.2.1) ?_
    rw[ATI,g2];refine propext (or_congr Iff.rfl ⟨fun ht=> ?_,fun⟨⟨x,y,d1,d2,d3,d4,d5,d6⟩,v,v1,v2⟩=> ?_⟩)
    ·unfold turns at ht
     rw[List.any_eq_true]at ht;obtain⟨x,hx,hh⟩:=ht;simp only[AMC,ATa,ATJ]at hh;obtain⟨k1,k2,k3,k4⟩:=hh;rw[Wo o1]at k3;obtain⟨z,z1,z2⟩:=k3;rw[T8]at z1;rw[AL9]at z1;obtain⟨y,y1,y2⟩:=z1;have lR:D6 x.1 (1+(((A6 p-1).toNat:Nat):Int))=p:=by
      rw[AUC (by omega),←k2,show 1+(A6 p-1)=A6 p by omega];exact(CJ hp).2.2
     rw[lR]at y2;have hy0:y.2.2.1=false:=by
      cases hy0:y.2.2.1 with
      |false=>rfl
      |true=>
       have:QP x.2.1 (A6 p)=true:=(Wo o1).2 ⟨y,y1,hy0⟩;simp_all
     have hwx:Xg w.AH (AQ p)=some x:=by rw[k2];exact XS h.ok.Xw hx
     by_cases hnw:JP S p=true
     ·rw[hy0,hnw]at y2
      simp only[ATH,AMn,ATK]at y2;refine⟨⟨x,y,hp,hwx,k1,y1,hy0,hnw⟩,aV y,?_,?_⟩
      ·rw[e1,J_ hp hwx,y1];rfl
      ·have hS:=kX (c:=AS w) (n:=n) (x:=y) (wds x hx y (ANe y1)).1
       have hd:(aV (EX (AS w) n y)).done:=by rw[y2];exact z2
       simp_all
     simp_all
    ·obtain⟨g3,g4⟩:=aC d2
     have lR:D6 x.1 (1+(((A6 p-1).toNat:Nat):Int))=p:=by
      rw[AUC (by omega),g4,show 1+(A6 p-1)=A6 p by omega];exact(CJ hp).2.2
     rw[e1,J_ d1 d2,d4]at v1;cases v1;have hS:=kX (c:=AS w) (n:=n) (x:=y) (wds x g3 y (ANe d4)).1;unfold turns;rw[List.any_eq_true];refine⟨x,g3,?_⟩;rw[d3,g4];simp only[AMn,AXh,AMC,ATJ];refine⟨(Wo o1).2 ⟨EX (AS w) n y,?_,?_⟩,?_⟩
     ·rw[T8,d4,←g4,lR,AT4,d5,d6]
      rfl
     ·show(aV (EX (AS w) n y)).done
      simp_all
     ·rw[ATi]
      intro hd;obtain⟨y',y1,y2⟩:=(Wo o1).1 hd;simp_all
 have hDl:∀q,D q→q∈wX:=fun q ⟨_,_,d1,_⟩=>sd d1
 generalize hw2:(w1.A9 (w.AH.map fun x=>if LL S w.Ac n x then(x.1,BB (AS w) S x.1 n 1 x.2.1,())else x)).C2 (w.BK.map fun t=>(t.1,t.2.1,t.2.2.1||turns (AS w) S w.Ac n w.AH t.1,()))=w2 at ea2
 have i2:∀(T:Prop) (fin:Int→Nv),(T→HJ (GQ (AS w)) AQ A6 Pl (Bm w) fin)→GR (GQ (AS w)) AQ Pl (Bm w2)∧(T→HJ (GQ (AS w)) AQ A6 Pl (Bm w2) fin):=fun T fin hb=>by
  rw[ea2];refine Sf.oV GQ.mono wX hDl hDk ?_ fun t=> ?_
  ·rw[wk];exact Sf.om hk h.a
  ·rw[wk];exact Sf.oO GQ.mono hk h.a (hb t)
 have em:w2.BW=w.BW:=by grind
 have hf:(Bm w2).len=(w.Ac.length:Int)∧(Bm w2).nodes=(Bm w).nodes∧(Bm w2).lost=(Bm w).lost∧(Bm w2).kept n=kS S.1:=by
  refine⟨by rw[←hw2,←hw1];rfl,by rw[←hw2,←hw1];rfl,by rw[←hw2,←hw1];rfl,?_⟩;rw[ea2];exact sq
 have i3:∀(T:Prop) (fin:Int→Nv),(T→HJ (GQ (AS w)) AQ A6 Pl (Bm w) fin)→GR (GQ (AS w)) AQ Pl (Bm (w2.Bj (w.BW.map (HG S w.Ac n))))∧(T→HJ (GQ (AS w)) AQ A6 Pl (Bm (w2.Bj (w.BW.map (HG S w.Ac n)))) fin):=fun T fin hb=>by
  obtain⟨ia,ib⟩:=i2 T fin hb;cases hms:w.BW with
  |nil=>
   grind
  |cons m ms=>
   have Sd:(Bm w2).md=some (eg m):=dD (ms:=ms) (by simp_all);have hm0:=h.ok.BW m (by simp_all);by_cases hc:(Ap w.Ac m.2.1).contains n=true
   rotate_left
   ·have e3:Bm (w2.Bj ((m::ms).map (HG S w.Ac n)))=Bm w2:=by
     refine St.eq rfl rfl rfl rfl rfl rfl rfl rfl rfl rfl rfl rfl ?_ rfl
     rw[Sd]
     show some (eg (HG S w.Ac n m))=some (eg m)
     unfold HG;simp_all
    simp_all
   let E:Int→Prop:=fun p=>Pl p∧AQ p=m.2.1∧(A6 p-1).toNat<m.2.2.2.2.2.1.length∧NR m S (A6 p)=true
   have e3:Bm (w2.Bj ((m::ms).map (HG S w.Ac n)))=(Bm w2).vh (eg m) n E:=by
    refine St.eq rfl rfl rfl rfl rfl rfl rfl rfl rfl rfl rfl rfl ?_ rfl
    show some (eg (HG S w.Ac n m))=some _
    unfold HG;rw[ALP hc];have hl:=(bA (c:=AS w) (m:=m) (s:=S) i_ (l:=m.2.2.2.2.2.1) (o:=1) hm0.1.wrote).2;refine congrArg some (Md.eq rfl rfl rfl rfl (by grind[eg]) ?_);funext p k
    show(Pl p∧AQ p=m.2.1∧ ∃l,(D4 m S n 1 m.2.2.2.2.2.1)[(A6 p-1).toNat]? =some l∧k∈l)=((Pl p∧AQ p=m.2.1∧ ∃l,m.2.2.2.2.2.1[(A6 p-1).toNat]? =some l∧k∈l)∨(E p∧k=n))
    rw[fb];refine propext ⟨fun⟨a1,a2,l,hl,hk⟩=> ?_,fun hh=> ?_⟩
    ·have o1:=qk a1
     rw[AL9]at hl;obtain⟨l',jP,e'⟩:=hl;rw[AUC (by omega),show 1+(A6 p-1)=A6 p by omega]at e';by_cases oH:NR m S (A6 p)=true
     ·rw[ALP oH]at e'
      subst e';rcases OT.1 hk with rfl|hk
      ·grind
      simp_all
     simp_all
    ·rcases hh with⟨a1,a2,l,hl,hk⟩|⟨⟨a1,a2,a3,a4⟩,rfl⟩
     ·refine⟨a1,a2,_,by rw[hl];rfl,?_⟩
      split
      ·exact OT.2 (.inr hk)
      omega
     ·have o1:=qk a1
      refine⟨a1,a2,_,by rw[ALR a3];rfl,?_⟩;rw[AUC (by omega),show 1+(A6 p-1)=A6 p by omega];dsimp only;rw[ALP a4];exact OT.2 (.inl rfl)
   rw[e3];refine Sf.pN wX (fun q hq=>sd hq.1) Sd (fun p ⟨a1,a2,a3,a4⟩=> ?_) ia ib;unfold NR at a4;cases oh:De m (A6 p)with
   |none=>simp_all
   |some en=>
    rw[oh]at a4;simp only[ATa]at a4;obtain⟨⟨c1,_⟩,c2,c3⟩:=lr hm0.2.1 oh;have lR:D6 m.2.1 (A6 p)=p:=by rw[←a2];exact(CJ a1).2.2
    rw[lR]at c2 c3;rw[hf.1,hf.2.1,hf.2.2.1,hf.2.2.2];refine⟨c1,by show n∈Ap w.Ac m.2.1;simp_all,n3,?_⟩;grind[Zz]
 have ev:((w1.A9 (w.AH.map fun x=>if LL S w.Ac n x then(x.1,BB (AS w) S x.1 n 1 x.2.1,())else x)).C2 (w.BK.map fun t=>(t.1,t.2.1,t.2.2.1||turns (AS w) S w.Ac n w.AH t.1,()))).Bj (w.BW.map (HG S w.Ac n))=w2.Bj (w.BW.map (HG S w.Ac n)):=by rw[hw2]
 rw[hw1,ev]at Bq;refine h.step Bq (by rw[←hw2,←hw1];rfl) (by grind) (fun t=>by grind) (i3 False (fun _=>⟨0,0,true,[]⟩) fun f=>f.elim).1 (fun _ _ fin hb=>(i3 True fin fun _=>hb).2 trivial) (by rw[←hw2,←hw1];rfl) (by rw[←hw2,←hw1];rfl) (by rw[←hw2,←hw1];exact ATO _) ?_
 intro p d q a1;have:(Bm (w2.Bj (w.BW.map (HG S w.Ac n)))).HF p=(Bm w2).HF p:=rfl;rw[this,ea2]
 show∃q',((Bm w1).HF p).map _=some (d,q')∧(q→q')
 rw[wk]
 show∃q',((Bm w).HF p).map _=some (d,q')∧(q→q')
 grind
end
end Go.M
end
section
namespace Go.M
open Go.M.H (AJ AO As Ab AA CO AN A4 AM AY Az Av BS)
open Go.Sf (Nv Wd Md St Rd uB Pg GR HJ V6)
theorem AHn{p:Int}{l:List AJ}{e:AJ}(h:Ep p l=some e):e.1=p:=(Gv h).2
theorem ABv{w:AA}{p n:Int}{e:AJ}(h:Ep p (storeAt w n).1=some e):answer w p n=(n,true,e.1,e.2.1,e.2.2.1,e.2.2.2.1,()):=by
 unfold answer;rw[h]
theorem ACs{w:AA}{p n:Int}(h:Ep p (storeAt w n).1=none):answer w p n=(n,false,0,0,false,[],()):=by
 unfold answer;rw[h]
theorem Yq{w:AA}{s:AAH}{p:Int}(hp:∀n e,Ep p (storeAt w n).1=some e→EZ e=true):∀(ns:AAH) (b:Option AJ),
  (∀x,Fb s p b (ns.map (answer w p))=some x→(b=some x∨ ∃n∈ns,n∈s∧Ep p (storeAt w n).1=some x))∧
  (∀x,b=some x→ ∃y,Fb s p b (ns.map (answer w p))=some y∧x.2.1≤y.2.1)∧
  ∀n x,n∈ns→n∈s→Ep p (storeAt w n).1=some x→ ∃y,Fb s p b (ns.map (answer w p))=some y∧x.2.1≤y.2.1
 |[],b=>⟨fun x h=> .inl h,fun x h=>⟨x,h,ATO _⟩,fun n x h=>by simp at h⟩
 |n::ns,b=>by
  simp only[AUm,Fb];cases hg:Ep p (storeAt w n).1 with
  |none=>
   rw[ACs hg];simp only[ATP,AMH,AON];obtain⟨h1,h2,h3⟩:=Yq (s:=s) hp ns b;grind
  |some e=>
   have he:U_ (n,true,e.1,e.2.1,e.2.2.1,e.2.2.2.1,())=e:=rfl;rw[ABv hg,he];have Oj:=AHn hg;by_cases hs:n∈s
   ·rw[show(true&&(s.contains n&&(EZ e&&e.1==p)))=true by grind,ALP rfl]
    obtain⟨h1,h2,h3⟩:=Yq (s:=s) hp ns (some (match b with|some x=>better x e|none=>e));refine⟨fun x hx=> ?_,fun x hx=> ?_,fun m x hm hsm hx=> ?_⟩
    ·grind[Option.some.injEq,better]
    ·subst hx
     obtain⟨y,y1,y2⟩:=h2 _ rfl;grind[better]
    ·rcases AOJ.1 hm with rfl|hm
     ·rw[hg]at hx;cases hx
      obtain⟨y,y1,y2⟩:=h2 _ rfl;grind[better]
     grind
   ·rw[show(true&&(s.contains n&&(EZ e&&e.1==p)))=false by simp[hs],ALo (by simp)]
    obtain⟨h1,h2,h3⟩:=Yq (s:=s) hp ns b;grind
def pH(e:Az):Bool:=BN e.1 1 3
structure fY (ss:List Ab) (r:AY):Prop where
 gM:(r.2.2.1.filter pH).Pairwise fun a b=>a.2.1<b.2.1
 below:∀e∈r.2.2.1,pH e=true→Pl e.2.1∧e.2.1<D6 r.1 r.2.1
 HF:∀e∈r.2.2.1,e.1=1→ ∃s∈ss,s.1=e.2.1∧s.2.1=e.2.2.1
def AAm(r:AY):Prop:= ∀e∈r.2.2.1,e.1≠3
theorem vI{l:List Az}{ev:Az}{p:Int}(h:uM l p=none∨ev.2.1≠p∨ev.1≠1):uM (l++[ev]) p=if ev.1=1∧ev.2.1=p then some ev.2.2.1 else uM l p:=by
 unfold uM at*;grind
theorem AFv{p:Int}{e o:Int}(hp:Pl p)(ho:1≤o∧o≤100):p<D6 e o↔AQ p<e∨(AQ p=e∧A6 p<o):=by
 obtain⟨h1,h2,h3⟩:=CJ hp;grind[D6]
theorem km{c:CD}{g:AN}{sure:Int}{r:AY}{l:List Av}(h:(B3 c g sure r l).2=0):
  yk c g∧AD2 r∧Ay c (l.map fun a=>a.1)=true∧r.1≤g.1.length∧
  (
   (g.2.1≥D6 r.1 r.2.1∧(B3 c g sure r l).1=(AQ g.2.1,A6 g.2.1+1,r.2.2.1++[(5,g.2.1,[],())],()))∨
   (g.2.1<D6 r.1 r.2.1∧(Gu g.1 r.1).2.1=true∧r.2.1>(Gu g.1 r.1).2.2.1∧(B3 c g sure r l).1=(r.1+1,1,r.2.2.1++[(4,r.1+1,[],())],()))∨
   (g.2.1<D6 r.1 r.2.1∧((Gu g.1 r.1).2.1=true→r.2.1≤(Gu g.1 r.1).2.2.1)∧((Gu g.1 r.1).2.1=false→r.2.1≤sure)∧r.2.1≤60∧Ji c (Gu g.1 r.1).1 ((l.map fun a=>a.1).filter (Gu g.1 r.1).1.contains)=true∧
    (B3 c g sure r l).1=(r.1,r.2.1+1,r.2.2.1++[HP (D6 r.1 r.2.1) (Fb (Gu g.1 r.1).1 (D6 r.1 r.2.1) none l)],()))):=by
 unfold B3 at h⊢;by_cases c1:(!(Mk c g&&(W6 r&&Ay c (l.map fun a=>a.1))))=true
 ·simp_all
 rw[ALo c1]at h⊢;have c1':Mk c g=true∧W6 r=true∧Ay c (l.map fun a=>a.1)=true:=by
  simp_all
 by_cases c2:(decide (r.1>g.1.length)||decide (r.2.2.1.length=120))=true
 ·simp_all
 rw[ALo c2]at h⊢;have hle:r.1≤g.1.length:=by
  simp_all
 refine⟨JE.1 c1'.1,RE.1 c1'.2.1,c1'.2.2,hle,?_⟩;dsimp only at h⊢;by_cases c3:g.2.1≥D6 r.1 r.2.1
 ·simp_all
 rw[ALo c3]at h⊢
 right
 have c3':g.2.1<D6 r.1 r.2.1:=by omega
 rw[show g.1.getD (r.1-1).toNat GP=Gu g.1 r.1 from rfl]at h⊢;grind
theorem px:∀(l:List A4) (i:Nat),i<Vh l→ ∃x,l[i]? =some x∧x.2.2.1=true
 |[],i,h=>by simp[Vh]at h
 |x::l,i,h=>by
  unfold Vh at h;split at h
  ·rename_i hx
   cases i with
   |zero=>simp_all
   |succ i=>exact px l i (by omega)
  omega
structure Reached (w:AA):Prop where
 safe:Safe w
 out:∀r∈w.AW,fY w.BK r
 whole:w.ED=false→ ∀r∈w.AW,AAm r
theorem TL{s:Ab}:∀{l:List Ab},Tf (fun s:Ab=>s.1) l→s∈l→JS l s.1=some s
 |[],_,h=>by simp at h
 |y::l,ha,h=>by
  simp only[Tf,AQb]at ha;unfold JS;rw[ATw];rcases AOJ.1 h with rfl|h
  ·rw[AXh]
  ·rw[APh.2 (fun e=>by grind)]
   exact TL ha.2 h
theorem Grow.mem{w v:AA}(h:Grow w v)(hw:Nn w){s:Ab}(hs:s∈w.BK):∃t∈v.BK,t.1=s.1∧t.2.1=s.2.1∧(s.2.2.1=true→t.2.2.1=true):=by
 obtain⟨q',e,h2⟩:=h s.1 s.2.1 (s.2.2.1=true) (by
  show(JS w.BK s.1).map seS=_
  rw[TL hw.WO hs];rfl)
 replace e:(JS v.BK s.1).map seS=some (s.2.1,q'):=e
 rw[AL9]at e;obtain⟨t,e1,e2⟩:=e;grind[YL,seS,Prod.mk.injEq]
theorem fY.grow{w v:AA}(h:Grow w v)(hw:Nn w){r:AY}(k:fY w.BK r):fY v.BK r:=
 ⟨k.gM,k.below,fun e he h1=>by
  obtain⟨s,s1,s2,s3⟩:=k.HF e he h1;obtain⟨t,t1,t2,t3,_⟩:=h.mem hw s1;grind⟩
theorem Reached.of{w v:AA}(h:Reached w)(k:Safe v∧Grow w v)(hr:v.AW=w.AW)(ht:v.ED=false→w.ED=false):Reached v:=
 ⟨k.1,fun r hm=>(h.out r (by simp_all)).grow k.2 h.safe.ok,fun hv r hm=>h.whole (ht hv) r (by simp_all)⟩
theorem wH{ss:List Ab}{r:AY}(k:fY ss r){p:Int}(hp:D6 r.1 r.2.1≤p):uM r.2.2.1 p=none:=by
 unfold uM;rw[AV1,List.find?_eq_none];intro e he hh;simp only[AMC,ATa]at hh;have:=(k.below e he (by unfold pH;rw[hh.1];rfl)).2;omega
theorem fY.app{ss:List Ab}{r:AY}(k:fY ss r){e o:Int}{ev:Az}(h1:D6 r.1 r.2.1≤D6 e o)(h2:pH ev=true→D6 r.1 r.2.1≤ev.2.1∧Pl ev.2.1∧ev.2.1<D6 e o)(h3:ev.1=1→ ∃s∈ss,s.1=ev.2.1∧s.2.1=ev.2.2.1):
  fY ss (e,o,r.2.2.1++[ev],()):=by
 refine⟨?_,fun x hx hp=> ?_,fun x hx h1=> ?_⟩
 ·show((r.2.2.1++[ev]).filter pH).Pairwise _
  rw[List.filter_append,List.pairwise_append];refine⟨k.gM,?_,fun a ha b hb=> ?_⟩
  ·grind
  ·obtain⟨b1,b2⟩:=ATU.1 hb
   rw[ATj.1 b1]at b2⊢;obtain⟨a1,a2⟩:=ATU.1 ha;have:=(k.below a a1 a2).2;grind
 ·show Pl x.2.1∧x.2.1<D6 e o
  rcases AOl.1 hx with hx|hx
  ·have:=k.below x hx hp
   grind
  simp_all
 ·rcases AOl.1 hx with hx|hx
  ·exact k.HF x hx h1
  simp_all
theorem mD{l:List CO}{e:Int}(h:1≤e∧e≤(l.length:Int)):Ap l e=(Gu l e).1:=by
 unfold Ap;rw[Ah.2 h,ALP rfl];rfl
def Sm(w v:AA):Prop:=v.AW=w.AW∧(v.ED=false→w.ED=false)
theorem AQK{w:AA}(a:Int):Sm w (MD w a).1:=by
 unfold MD
 try dsimp only
 repeat' split
 all_goals exact⟨rfl,id⟩
theorem AWO{w:AA}(a:Int)(d:ACD):Sm w (doAdd w a d).1:=by
 unfold doAdd
 try dsimp only
 repeat' split
 all_goals exact⟨rfl,id⟩
theorem AJI{w:AA}(a b n:Int):Sm w (Ih w a b n).1:=by
 unfold Ih;unfold putAt
 try dsimp only
 repeat' split
 all_goals exact⟨rfl,id⟩
theorem ALw{w:AA}(n k:Int):Sm w (IY w n k).1:=by
 unfold IY;unfold putAt
 try dsimp only
 repeat' split
 all_goals exact⟨rfl,id⟩
theorem AQd{w:AA}(n:Int):Sm w (MW w n).1:=by
 unfold MW
 try dsimp only
 repeat' split
 all_goals exact⟨rfl,id⟩
theorem ARX{w:AA}:Sm w (MN w ).1:=by
 unfold MN
 try dsimp only
 repeat' split
 all_goals exact⟨rfl,id⟩
theorem APg{w:AA}(n:Int):Sm w (MX w n).1:=by
 unfold MX
 try dsimp only
 repeat' split
 all_goals exact⟨rfl,id⟩
theorem AOE{w:AA}:Sm w (L4 w ).1:=by
 unfold L4
 try dsimp only
 repeat' split
 all_goals exact⟨rfl,id⟩
theorem AWE{w:AA}(b n:Int):Sm w (SV w b n).1:=by
 unfold SV;unfold putAt
 try dsimp only
 repeat' split
 all_goals exact⟨rfl,id⟩
theorem AIC{w:AA}:Sm w (Ik w ).1:=by
 unfold Ik
 try dsimp only
 repeat' split
 all_goals exact⟨rfl,id⟩
theorem ANv{w:AA}(a:Int):Sm w (OC w a).1:=by
 unfold OC
 try dsimp only
 repeat' split
 all_goals exact⟨rfl,id⟩
theorem AO_{w:AA}(a:Int):Sm w (NB w a).1:=by
 unfold NB
 try dsimp only
 repeat' split
 all_goals exact⟨rfl,id⟩
theorem AH4{w:AA}(n:Int):Sm w (Ie w n).1:=by
 unfold Ie;unfold putAt
 try dsimp only
 repeat' split
 all_goals exact⟨rfl,id⟩
theorem AQs{w:AA}(n:Int):Sm w (Jv false w n).1:=by
 unfold Jv;dsimp only
 repeat' split
 all_goals exact⟨rfl,id⟩
theorem APF{w:AA}(n:Int):Sm w (MZ w n).1:=by
 unfold MZ;dsimp only;split
 ·exact⟨rfl,id⟩
 ·refine⟨rfl,fun h=> ?_⟩
  grind
theorem Rd.eq{a b:Rd}(h1:a.e=b.e)(h2:a.o=b.o)(h3:a.told=b.told):a=b:=by
 cases a;simp_all
section
variable{w:AA} (h:Reached w)
include h
theorem zh{a k:Int}(e:(IK w a k).2=0):Reached (IK w a k).1∧Grow w (IK w a k).1:=by
 have Bq:=uk h.safe.ok e;unfold IK at e Bq⊢
 try dsimp only at e Bq⊢
 by_cases h1:BN a 0 1=true
 rotate_left
 ·simp_all
 rw[h1]at e Bq⊢;simp only[AMO,AMH,AON]at e Bq⊢;rw[Ah]at h1;have hnr:=h.safe.ok.mf;have hrm:=BJ (d:=Au) (l:=w.AW) (i:=a.toNat) (by omega)
 generalize w.AW.getD a.toNat Au=r at*
 by_cases h2:(B3 (AS w) (B5 w) (U0 w r.1) r (answers w (D6 r.1 r.2.1) (Ao k))).2=0
 rotate_left
 ·simp_all
 rw[ALo (by omega)]at Bq⊢;obtain⟨rg,ro,rn,rl,cases_⟩:=km h2;have rl':r.1≤(w.Ac.length:Int):=rl;have rgn:w.Ac.length≤30:=rg.n;have re:=ro.ep;have rof:=ro.off;have AEe:=h.out r hrm
 generalize hq:(B3 (AS w) (B5 w) (U0 w r.1) r (answers w (D6 r.1 r.2.1) (Ao k))).1=q at Bq cases_⊢
 have cX:(Bm w).cl r.1↔(Gu w.Ac r.1).2.1=true:=⟨fun hh=>hh.2,fun hh=>⟨⟨re.1,rl'⟩,hh⟩⟩;have hla:(Bm w).last r.1=(Gu w.Ac r.1).2.2.1:=ALP re.1;have ea:Bm (w.Cy (w.AW.set a.toNat q))=Bm w:=rfl
 suffices hs:fY w.BK q∧(w.ED=false→AAm q∧ ∀fin,HJ (GQ (AS w)) AQ A6 Pl (Bm w) fin→V6 AQ A6 Pl (Bm w) fin (vY r)→V6 AQ A6 Pl (Bm w) fin (vY q))by
  refine⟨⟨⟨Bq,by rw[ea];exact h.safe.a,fun hv=> ?_⟩,fun x hx=> ?_,fun hv x hx=> ?_⟩,fun p d q a=>⟨q,a,id⟩⟩
  ·obtain⟨fin,b1,b2⟩:=h.safe.b hv
   refine⟨fin,b1,fun x hx=> ?_⟩;grind
  ·rcases ATc hx with hx|rfl
   ·exact h.out x hx
   simp_all
  ·rcases ATc hx with hx|rfl
   ·exact h.whole hv x hx
   grind
 have AWy:∀(kd:Int) (x:Int),kd≠1→ ∀p,uM (r.2.2.1++[(kd,x,[],())]) p=uM r.2.2.1 p:=fun kd x hk p=>by
  rw[vI (.inr (.inr hk)),ALo (fun hh=>hk hh.1)]
 have AMJ:∀(kd:Int) (x:Int),kd≠3→w.ED=false→ ∀e∈r.2.2.1++[(kd,x,[],())],e.1≠3:=fun kd x hk ht e he=>by
  rcases AOl.1 he with he|he
  ·exact h.whole ht r hrm e he
  simp_all
 rcases cases_ with⟨c1,rfl⟩|⟨c1,c2,c3,rfl⟩|⟨c1,c2,c3,c4,c5,rfl⟩
 ·
  have c1':w.trim≥D6 r.1 r.2.1:=c1;have ht:Pl w.trim:=by
   rcases rg.trim with h0|h0
   ·grind[D6]
   ·exact h0.1
  have htr:=(CJ ht).2.2;have hof:=(CJ ht).2.1;refine⟨AEe.app (by show D6 r.1 r.2.1≤D6 (AQ w.trim) (A6 w.trim+1);grind[D6]) (fun hp=>by cases hp) (fun hh=>by omega),fun hv=>⟨AMJ 5 _ (by decide) hv,fun fin hB hR=> ?_⟩⟩;have hn: ¬Sf.PZ AQ A6 (vY r) (Bm w).trim:=fun hh=>by
   have:=(AFv (e:=r.1) (o:=r.2.1) ht (by omega)).2 hh;omega
  have:=Sf.AOw (s:=Bm w) ht hn (fun p hp=>ep1 hp) (fun p q hp hq hh=>(sL hp hq).2 hh) hR;have er:vY (AQ (B5 w).2.1,A6 (B5 w).2.1+1,r.2.2.1++[(5,(B5 w).2.1,[],())],())={ vY r with e:=AQ (Bm w).trim,o:=A6 (Bm w).trim+1 }:=by
   exact Rd.eq rfl rfl (funext (AWy 5 _ (by decide)))
  simp_all
 ·refine⟨AEe.app (by unfold D6;omega) (fun hp=>by cases hp) (fun hh=>by omega),fun hv=>⟨AMJ 4 _ (by decide) hv,fun fin hB hR=> ?_⟩⟩
  have:=Sf.AUW (s:=Bm w) (r:=vY r) (cX.2 c2) (by rw[show(vY r).e=r.1 from rfl,hla];exact c3) (fun p hp=>qk hp) hR;have er:vY (r.1+1,1,r.2.2.1++[(4,r.1+1,[],())],())={ vY r with e:=(vY r).e+1,o:=1 }:=by
   exact Rd.eq rfl rfl (funext (AWy 4 _ (by decide)))
  simp_all
 ·
  obtain⟨p1,p2,p3⟩:=I5 (e:=r.1) (o:=r.2.1) ⟨re.1,by omega⟩ ⟨rof.1,c4⟩;have Lu:D6 r.1 r.2.1<D6 r.1 (r.2.1+1):=by unfold D6;omega
  generalize hp:D6 r.1 r.2.1=p at*
  have AbL:∀n e,Ep p (storeAt w n).1=some e→EZ e=true:=fun n e he=>by
   obtain⟨e1,_⟩:=Gv he;unfold storeAt at e1;by_cases hn:n.toNat<w.An.length
   ·exact(h.safe.ok.An _ hn).1.kept e e1
   simp_all
  have AU2:answers w p (Ao k)=((Ao k).filter fun n=>Al w n==0).map (answer w p):=rfl;have AY_:(answers w p (Ao k)).map (fun a=>a.1)=(Ao k).filter fun n=>Al w n==0:=by
   rw[AU2,ATx];have:((fun a:Av=>a.1)∘answer w p)=id:=by
    funext n
    simp only[Function.comp,answer];grind
   simp_all
  have hwe:(B5 w).1=w.Ac:=rfl;rw[hwe]at c2 c3 c5⊢;rw[AY_]at c5;rw[AU2]
  generalize hns:(Ao k).filter (fun n=>Al w n==0)=ns at*
  have hn0:∀n∈ns,Al w n=0:=fun n hn=>by
   grind
  obtain⟨b1,b2,b3⟩:=Yq (w:=w) (s:=(Gu w.Ac r.1).1) AbL ns none
  generalize AfE:Fb (Gu w.Ac r.1).1 p none (ns.map (answer w p))=aw at*
  have PY:∀x,aw=some x→ ∃n∈ns,n∈(Gu w.Ac r.1).1∧Ep p (storeAt w n).1=some x:=fun x hx=>(b1 x hx).resolve_left (by simp)
  have sq:∀n∈ns,(Bm w).kept n p=kS (storeAt w n).1 p:=fun n hn=>by
   show kS (A_ w n).1 p=_
   rw[Tb (hn0 n hn)]
  have hfe:(HP p aw).2.1=p:=by
   unfold HP;cases aw with
   |none=>rfl
   |some x=>grind
  have AD3:(HP p aw).1=1→ ∃s∈w.BK,s.1=(HP p aw).2.1∧s.2.1=(HP p aw).2.2.1:=fun hk1=>by
   cases hb:aw with
   |none=>rw[hb]at hk1;cases hk1
   |some x=>
    rw[hb]at hk1;obtain⟨n,n1,n2,n3⟩:=PY x hb;cases hx:x.2.2.1 with
    |true=>grind[HP]
    |false=>
     have hi:Sf.EG (Bm w) (U9 x):= .inl ⟨n,by
      show(Bm w).kept n x.1=_
      rw[(Gv n3).2,sq n n1];exact Zz n3⟩
     obtain⟨z,hz⟩:=h.safe.a.fu _ hi hx
     replace hz:(JS w.BK x.1).map seS=some (x.2.2.2.1,z):=hz
     rw[AL9]at hz;obtain⟨t,t1,t2⟩:=hz;obtain⟨t3,t4⟩:=YL t1;unfold seS at t2;simp only[APo]at t2;refine⟨t,t3,?_,?_⟩
     ·rw[t4,(Gv n3).2];simp_all
     grind[HP]
  refine⟨AEe.app (by omega) (fun _=>by rw[hfe,hp];exact⟨ATO _,p1,Lu⟩) AD3,fun hv=> ?_⟩;have kk:∀fin,HJ (GQ (AS w)) AQ A6 Pl (Bm w) fin→Sf.yp (GQ (AS w)) AQ A6 Pl (Bm w) p (fun n=>n∈ns∧n∈(Gu w.Ac r.1).1) (aw.map U9):=fun fin hB=>by
   refine⟨p1,c1,fun hc=> ?_,fun hc=> ?_,fun n hn=>⟨?_,?_⟩,fun hH=> ?_,fun hb n hn=> ?_,fun x hb=> ?_⟩
   ·rw[p2,cX]at hc
    have AGK:=c3 (by simp_all);unfold U0 at AGK;cases hf:w.AH.find? (fun x=>x.1==r.1)with
    |none=>grind
    |some x=>
     rw[hf]at AGK;simp only at AGK;obtain⟨y,y1,y2⟩:=px x.2.1 (r.2.1-1).toNat (by omega);have hwd:(Bm w).wd p=some (aV y):=by
      show(FN w.AH p).map aV=_
      rw[J_ p1 (y:=x) (by rw[p2];exact hf),p3,y1];rfl
     obtain⟨z,z1,z2⟩:=(h.safe.a.vz p _ hwd).2.2.1;exact⟨_,z,z1,z2 y2⟩
   ·simp_all
   ·exact(EK (hn0 n hn.1)).2.2
   ·show n∈Ap w.Ac (AQ p)
    grind[mD]
   ·unfold Ji at c5
    simp only[AMC,ATJ]at c5;obtain⟨g1,g2,g3,g4⟩:=c5;have qt:Ay (AS w) (less (Gu w.Ac r.1).1 (ns.filter (Gu w.Ac r.1).1.contains))=true:=K5 _ (N7 g1);have:GQ (AS w) (fun n=>n∈less (Gu w.Ac r.1).1 (ns.filter (Gu w.Ac r.1).1.contains)):=by
     refine GQ.mono _ _ (fun n hn=> ?_) hH;have hn1:n∈Ap w.Ac (AQ p):=hn.1;grind[mD,SZ]
    grind[GQ.list]
   ·rw[AV1]at hb
    rw[sq n hn.1];unfold kS;rw[AV1];cases hg:Ep p (storeAt w n).1 with
    |none=>rfl
    |some x=>
     grind
   ·rw[AL9]at hb
    obtain⟨y,y1,rfl⟩:=hb;obtain⟨n,n1,n2,n3⟩:=PY y y1;refine⟨⟨n,⟨n1,n2⟩,by grind[Zz]⟩,fun m z hm hz=> ?_⟩;rw[sq m hm.1]at hz;obtain⟨u,u1,rfl⟩:=Rz hz;obtain⟨v,v1,v2⟩:=b3 m u hm.1 hm.2 u1;rw[y1]at v1;cases v1;exact v2
  obtain⟨fin0,hB0,_⟩:=h.safe.b hv;obtain⟨x0,hx0,_⟩:=Sf.pC GQ.mono (kk fin0 hB0) h.safe.a hB0;rw[AL9]at hx0;obtain⟨y,hy,rfl⟩:=hx0;subst hy;refine⟨fun ev yB=> ?_,fun fin hB hR=> ?_⟩
  ·rcases AOl.1 yB with yB|yB
   ·exact h.whole hv r hrm ev yB
   grind[List.mem_singleton,HP]
  ·have:=Sf.ASO GQ.mono (kk fin hB) h.safe.a hB (r:=vY r) p2 p3 (fun p q hp hq h1 h2=>sW hp hq h1 h2) hR (x:=U9 y) rfl
   have er:vY (r.1,r.2.1+1,r.2.2.1++[HP p (some y)],())=(vY r).read p (U9 y):=by
    refine Rd.eq rfl rfl ?_
    funext x
    show uM (r.2.2.1++[HP p (some y)]) x=if x=p then(if(U9 y).hole then none else some (U9 y).data)else uM r.2.2.1 x
    by_cases ex:x=p
    ·subst ex
     rw[ALP rfl,vI (.inl (wH AEe (by omega)))];have hno:=wH AEe (p:=x) (by omega);grind[HP,U9]
    ·rw[ALo ex,vI (.inr (.inl (by omega))),ALo (by omega)]
   simp_all
theorem AFg{d:BS}(hd:d.2.2.2.2.1.length≤40)(e:(Lh false w d).2=0):Reached (Lh false w d).1∧Grow w (Lh false w d).1:=by
 have hs:=h.safe;have mk:∀{v:AA},Safe v∧Grow w v→Sm w v→Reached v∧Grow w v:=fun k hm=>⟨h.of k hm.1 hm.2,k.2⟩
 unfold Lh at e⊢;by_cases hc:d.1=1
 ·rw[ALP hc]at e⊢;grind[ABy,AQK]
 rw[ALo hc]at e⊢;clear hc;by_cases hc:d.1=2
 ·rw[ALP hc]at e⊢;grind[AE0,AWO]
 rw[ALo hc]at e⊢;clear hc;by_cases hc:d.1=3
 ·rw[ALP hc]at e⊢;grind[zc,AJI]
 rw[ALo hc]at e⊢;clear hc;by_cases hc:d.1=4
 ·rw[ALP hc]at e⊢;grind[ABd,AQs]
 rw[ALo hc]at e⊢;clear hc;by_cases hc:d.1=5
 ·rw[ALP hc]at e⊢;grind[yS,ALw]
 rw[ALo hc]at e⊢;clear hc;by_cases hc:d.1=6
 ·rw[ALP hc]at e⊢;grind[ABY,APF]
 rw[ALo hc]at e⊢;clear hc;by_cases hc:d.1=7
 ·rw[ALP hc]at e⊢;grind[ACU,AQd]
 rw[ALo hc]at e⊢;clear hc;by_cases hc:d.1=8
 ·rw[ALP hc]at e⊢;grind[ACp,ARX]
 rw[ALo hc]at e⊢;clear hc;by_cases hc:d.1=9
 ·rw[ALP hc]at e⊢;grind[ABm,APg]
 rw[ALo hc]at e⊢;clear hc;by_cases hc:d.1=10
 ·rw[ALP hc]at e⊢;grind[ABU,AOE]
 rw[ALo hc]at e⊢;clear hc;by_cases hc:d.1=11
 ·rw[ALP hc]at e⊢;grind[AF8,AWE]
 rw[ALo hc]at e⊢;clear hc;by_cases hc:d.1=12
 ·rw[ALP hc]at e⊢;grind[zC,AIC]
 rw[ALo hc]at e⊢;clear hc;by_cases hc:d.1=13
 ·rw[ALP hc]at e⊢;grind[ACb,ANv]
 rw[ALo hc]at e⊢;clear hc;by_cases hc:d.1=14
 ·rw[ALP hc]at e⊢;exact zh h e
 rw[ALo hc]at e⊢;by_cases Zf:d.1=15
 ·rw[ALP Zf]at e⊢;grind[ABp,AO_]
 rw[ALo Zf]at e⊢;grind[yg,AH4]
end
end Go.M
end
section
namespace Go.M
open Go.M.H (AJ AO As Ab AA CO AN A4 AM AY Az Av BS)
open Go.Sf (Nv Wd Md St Rd uB Pg GR HJ V6)
theorem rD{w:AA}{d:BS}(h:Reached w)(e:(Df false w d).2=0):Reached (Df false w d).1∧Grow w (Df false w d).1:=by
 unfold Df at e⊢;by_cases hc:(!Fm w|| !PW d)=true
 ·rw[ALP hc]at e;cases e
 rw[ALo hc]at e⊢;simp only[ATI,ATJ,AXv,Bool.not_eq_false]at hc;exact AFg h (bT hc.2) e
theorem ACw{c:CD}(hc:Ej c=true):Reached (Eu c):=by
 have hw:=(dk hc).1;have fO:∀n,A_ (Eu c) n=Cr:=fun n=>by
  unfold A_ storeAt;split
  ·rename_i hn
   have hl:n.toNat<(List.replicate c.1.length Cr).length:=by
    have:n<((List.replicate c.1.length Cr).length:Int):=hn.2;omega
   show(List.replicate c.1.length Cr).getD n.toNat Cr=Cr
   rw[OJ hl,List.getElem_replicate]
  ·rfl
 have hk:∀n p,(Bm (Eu c)).kept n p=none:=fun n p=>by
  show kS (A_ _ n).1 p=none
  rw[fO];rfl
 have hl:∀n x,¬(Bm (Eu c)).late n x:=fun n x hh=>by
  have:S6 (A_ (Eu c) n).2.1 x:=hh;rw[fO]at this;obtain⟨e,he,_⟩:=this;simp[Cr]at he
 have hi:∀x,¬Sf.EG (Bm (Eu c)) x:=fun x hh=>by
  rcases hh with⟨n,hn⟩|⟨n,hn⟩|⟨m,hm,_⟩
  ·rw[hk]at hn;cases hn
  ·exact hl n x hn
  ·cases hm
 have hwd:∀p v,(Bm (Eu c)).wd p≠some v:=fun p v hh=>by
  replace hh:(FN [] p).map aV=some v:=hh
  rw[sv (ws:=[]) rfl]at hh;cases hh
 have Ze:∀p v,(Bm (Eu c)).HF p≠some v:=fun p v hh=>by cases hh
 have cX:∀e,¬(Bm (Eu c)).cl e:=fun e hh=>by
  have h1:1≤e∧e≤((([]:List CO).length:Nat):Int):=hh.1;simp only[AQO]at h1;omega
 have hno:∀e n,¬(Bm (Eu c)).nodes e n:=fun e n hh=>by
  have:n∈Ap [] e:=hh;unfold Ap at this;split at this
  ·rename_i h1
   have:=Ah.1 h1;simp only[AQO]at this;omega
  ·simp at this
 have hsu:∀p,¬Sf.cj (Bm (Eu c)) p:=fun p ⟨d,q,h1,_⟩=>Ze p _ h1
 refine⟨⟨hw,⟨ATO _,fun e a b=> ?_,fun e a=>absurd a (cX e),fun e f a=>absurd a (cX e),fun m a=>(by cases a),fun e ⟨x,hx,_⟩=>(by cases(show x∈([]:List AM)from hx)),fun p v a=>absurd a (hwd p v),fun p v a=>absurd a (Ze p v),fun n p x a=>(by rw[hk]at a;cases a),fun m p x a=>(by cases a),fun x a=>absurd a (hi x),fun x a=>absurd a (hi x),fun x a=>absurd a (hi x),fun x y a=>absurd a (hi x)⟩,fun _=>⟨fun _=>⟨0,0,true,[]⟩,⟨fun hh=> ?_,fun p a=>absurd a (hsu p),fun p v n a=>absurd a (hwd p v),fun m n a=>(by cases a),fun x a=>absurd a (hi x),fun m p a=>(by cases a),fun p a b=>absurd b (cX _),fun m p n a=>(by cases a),fun m p x a=>(by cases a),fun p a b=>absurd b (cX _)⟩,fun r hr=> ?_⟩⟩,fun r hr=> ?_,fun _ r hr=> ?_⟩
 ·have:e≤((([]:List CO).length:Nat):Int):=b
  simp only[AQO]at this;omega
 ·obtain⟨l,l1,l2⟩:=hh
  cases l with
  |nil=>rw[holds_nil]at l1;cases l1
  |cons a l=>exact absurd (l2 a (by simp)) (by show¬a∈([]:AAH);simp)
 ·replace hr:r∈[((1,1,[],()):AY),(1,1,[],())]:=hr
  have e:r=(1,1,[],()):=by simpa using hr
  subst e;have np:∀p,Pl p→ ¬Sf.PZ AQ A6 (vY (1,1,[],())) p:=fun p hp hh=>by
   have h1:=ep1 hp;have h2:=qk hp;rcases hh with hh|⟨_,hh⟩
   ·have:AQ p<1:=hh;omega
   ·have:A6 p<1:=hh;omega
  exact⟨ATO _,fun p hp Lu=>by have h1:=ep1 hp;have:AQ p<1:=Lu;omega,fun p hp hps=>absurd hps (np p hp),fun p d a=>by cases a⟩
 ·replace hr:r∈[((1,1,[],()):AY),(1,1,[],())]:=hr
  have e:r=(1,1,[],()):=by simpa using hr
  subst e;exact⟨List.Pairwise.nil,fun e he=>by simp at he,fun e he=>by simp at he⟩
 ·replace hr:r∈[((1,1,[],()):AY),(1,1,[],())]:=hr
  have e:r=(1,1,[],()):=by simpa using hr
  subst e;exact fun e he=>by simp at he
theorem ADZ{l:List Az}{p:Int}{d:uB}(h:uM l p=some d):(1,p,d,())∈l:=by
 unfold uM at h;rw[AL9]at h;obtain⟨e,h1,rfl⟩:=h;have h2:=AXl h1;simp only[AMC,ATa]at h2;have:=ATk h1;obtain⟨a,b,c,⟨⟩⟩:=e;simp only at h2;rw[h2.1,h2.2]at this;exact this
theorem AGz{l:List Az}(h:l.Pairwise fun a b=>a.2.1<b.2.1){a b:Az}(ha:a∈l)(hb:b∈l)(he:a.2.1=b.2.1):a=b:=by
 obtain⟨i,hi,rfl⟩:=AQQ ha;obtain⟨j,hj,rfl⟩:=AQQ hb;rw[AUt]at h;rcases Nat.lt_trichotomy i j with zU|rfl|zU
 ·have:=h i j hi hj zU;omega
 ·rfl
 ·have:=h j i hj hi zU;omega
theorem ARf{ss:List Ab}{r:AY}(k:fY ss r){p:Int}{d:uB}(h:(1,p,d,())∈r.2.2.1):uM r.2.2.1 p=some d:=by
 cases ht:uM r.2.2.1 p with
 |none=>
  unfold uM at ht;rw[AV1,List.find?_eq_none]at ht;exact absurd (by simp) (ht _ h)
 |some d' =>
  have:=ADZ ht;have:=AGz k.gM (ATU.2 ⟨this,rfl⟩) (ATU.2 ⟨h,rfl⟩) rfl;simp only[APo]at this;rw[this.2.2.1]
theorem AEh{w:AA}(hw:Nn w){s t:Ab}(hs:s∈w.BK)(ht:t∈w.BK)(e:s.1=t.1):s=t:=by
 have h1:=TL hw.WO hs;have h2:=TL hw.WO ht;rw[e,h2]at h1;exact(Option.some.inj h1).symm
section
variable{w:AA} (h:Reached w)
include h
theorem Reached.sure{s:Ab}(hs:s∈w.BK)(hq:s.2.2.1=true):Pl s.1∧Sf.cj (Bm w) s.1:=by
 refine⟨(h.safe.ok.BK s hs).1,s.2.1,s.2.2.1=true,?_,hq⟩
 show(JS w.BK s.1).map seS=_
 rw[TL h.safe.ok.WO hs];rfl
theorem tM(ht:w.ED=false){r:AY}(hr:r∈w.AW){s:Ab}(hs:s∈w.BK)(hq:s.2.2.1=true)(hg:w.trim<s.1)(hp:Sf.PZ AQ A6 (vY r) s.1):(1,s.1,s.2.1,())∈r.2.2.1:=by
 obtain⟨fin,b1,b2⟩:=h.safe.b ht;obtain⟨p1,p2⟩:=h.sure hs hq;obtain⟨d,hd⟩:=Sf.ACz GQ.mono h.safe.a b1 (b2 r hr) p1 p2 hg hp;have hm:=ADZ hd;obtain⟨t,t1,t2,t3⟩:=(h.out r hr).HF _ hm rfl;have:=AEh h.safe.ok t1 hs t2;rw[this]at t3;rw[t3];exact hm
end
theorem AE3{p:Int}:∀{l:List Az},tld p l=((uM l p).getD [],(uM l p).isSome)
 |[]=>rfl
 |e::l=>by
  have ih:=AE3 (p:=p) (l:=l);unfold uM at*;rw[tld,ATw];cases e.1==1&&e.2.1==p with
  |true=>rfl
  |false=>exact ih
theorem ABS{p:Int}{r:AY}:ahead p r=true↔Sf.PZ AQ A6 (vY r) p:=by
 unfold ahead Sf.PZ
 show _↔AQ p<r.1∨(AQ p=r.1∧A6 p<r.2.1)
 by_cases h1:AQ p<r.1
 ·simp[h1]
 ·by_cases h2:AQ p=r.1
  ·simp[h2]
  ·have:(AQ p==r.1)=false:=by simp[h2]
   simp[h1,h2,this]
section
variable{w:AA} (h:Reached w)
include h
theorem Reached.reader{i:Nat}(hi:i<2):w.AW.getD i Au∈w.AW:=BJ (by have:=h.safe.ok.mf;omega)
theorem ri:bI w=true:=by
 unfold bI;rw[Iu.2 h.safe.ok];cases ht:w.2.2.2.2.2.2.2.2.2.2.1 with
 |true=>rfl
 |false=>
  have k:∀i,i<2→ke (w.AW.getD i Au).2.2.1=true:=fun i hi=>Lx.2 fun j hj=>by
   have:=h.whole ht _ (h.reader hi) _ (BJ (d:=zY) hj);simpa using this
  rw[show ke (w.2.2.2.2.2.2.2.2.1.getD 0 Au).2.2.1=true from k 0 (by omega),show ke (w.2.2.2.2.2.2.2.2.1.getD 1 Au).2.2.1=true from k 1 (by omega)];rfl
theorem tV:eM w=true:=by
 unfold eM;rw[Iu.2 h.safe.ok];cases ht:w.2.2.2.2.2.2.2.2.2.2.1 with
 |true=>rfl
 |false=>
  have k:∀i,i<2→sM w.trim w.BK (w.AW.getD i Au)=true:=fun i hi=>Lx.2 fun j hj=>by
   have hm:=BJ (d:=JF) hj
   generalize w.BK.getD j JF=s at hm
   unfold AAM;by_cases hc:(s.2.2.1&&(decide (w.trim<s.1)&&ahead s.1 (w.AW.getD i Au)))=true
   ·simp only[AMC,AMi]at hc
    have:=tM h ht (h.reader hi) hm hc.1 hc.2.1 (ABS.1 hc.2.2);rw[AE3,ARf (h.out _ (h.reader hi)) this];simp
   ·rw[APN]at hc
    rw[hc];rfl
  rw[show sM w.2.2.2.2.2.1 w.2.2.2.2.2.2.2.2.2.1 (w.2.2.2.2.2.2.2.2.1.getD 0 Au)=true from k 0 (by omega),show sM w.2.2.2.2.2.1 w.2.2.2.2.2.2.2.2.2.1 (w.2.2.2.2.2.2.2.2.1.getD 1 Au)=true from k 1 (by omega)];rfl
end
end Go.M
end
section
namespace Go.M
open Go.M.H (AJ AO As Ab AA CO AN A4 AM AY Az Av BS)
def xj(ws:List AM)(ss:List Ab):Prop:= ∀t∈ss,∀x∈ws,AQ t.1=x.1→QP x.2.1 (A6 t.1)=true→t.2.2.1=true
theorem cg{c:CD}{s:AO}{l:List CO}{n:Int}:∀{ws:List AM} {ss:List Ab},xj ws ss→FO true c s l n ws ss=FO false c s l n ws ss
 |[],ss,_=>rfl
 |x::ws,ss,h=>by
  simp only[FO];have hm:ss.map (OW true x.1 x.2.1 (BB c s x.1 n 1 x.2.1))=ss.map (OW false x.1 x.2.1 (BB c s x.1 n 1 x.2.1)):=ATR fun t ht=>by
   have k:=h t ht x (by simp);unfold OW;by_cases he:AQ t.1=x.1
   ·cases hd:QP x.2.1 (A6 t.1)with
    |true=>rw[k he hd];simp
    |false=>simp
   ·rw[APh.2 he];simp
  rw[hm,cg (ws:=ws) (ss:=ss.map (OW false x.1 x.2.1 (BB c s x.1 n 1 x.2.1))) fun t ht y hy he hd=>by
   obtain⟨u,hu,rfl⟩:=ATd.1 ht;have:=h u hu y (by simp[hy]) he hd
   show(u.2.2.1||_)=true
   rw[this];rfl,
   cg (ws:=ws) (ss:=ss) fun t ht y hy=>h t ht y (by simp[hy])]
theorem uI{w:AA}(h:Reached w):xj w.AH w.BK:=fun t ht x hx he hd=>by
 have hp:Pl t.1:=(h.safe.ok.BK t ht).1;obtain⟨y,y1,y2⟩:=(Wo (qk hp)).1 hd;have hwx:Xg w.AH (AQ t.1)=some x:=by rw[he];exact XS h.safe.ok.Xw hx
 have hwd:(Bm w).wd t.1=some (aV y):=by
  show(FN w.AH t.1).map aV=_
  rw[J_ hp hwx,y1];rfl
 obtain⟨q,q1,q2⟩:=(h.safe.a.vz _ _ hwd).2.2.1
 replace q1:(JS w.BK t.1).map seS=some ((aV y).data,q):=q1
 rw[TL h.safe.ok.WO ht]at q1;simp only[AT4,seS,ALt,APo]at q1;rw[q1.2];exact q2 y2
theorem AHJ{w:AA}{d:BS}(h:Reached w):Df true w d=Df false w d:=by
 have key:∀n,Jv true w n=Jv false w n:=fun n=>by
  unfold Jv;simp only[cg (uI h)]
 unfold Df Lh;simp only[key]
end Go.M
end
section
namespace Go.M
open Go.M.H (AJ AO As Ab AA CO AN A4 AM AY Az Av BS)
theorem sD{s:Ab}:∀{l:List Az},s∈br l↔s.2.2.1=true∧(1,s.1,s.2.1,())∈l
 |[]=>by simp[br]
 |e::l=>by
  have ih:=sD (s:=s) (l:=l);obtain⟨a,b,c,⟨⟩⟩:=e;obtain⟨x,y,z,⟨⟩⟩:=s;unfold br;by_cases h:a=1
  ·rw[ATa.2 h,AMy,AOJ,ih,AOJ]
   simp only[APo,ATS];constructor
   ·rintro(⟨rfl,rfl,rfl⟩|h')
    ·exact⟨rfl,.inl ⟨h.symm,rfl,rfl⟩⟩
    ·exact⟨h'.1,.inr h'.2⟩
   ·rintro⟨h1,⟨_,h2,h3⟩|h'⟩
    ·exact .inl ⟨h2,h3,h1⟩
    ·exact .inr ⟨h1,h'⟩
  ·rw[APh.2 h,AMh,ih,AOJ]
   simp only[APo,ATS];exact⟨fun h' =>⟨h'.1,.inr h'.2⟩,fun h' =>⟨h'.1,h'.2.resolve_left fun hh=>h hh.1.symm⟩⟩
section
variable{w:AA} (h:Reached w)
include h
theorem AA2{k:Nat}(hk:k<2):gj w k=br (w.AW.getD k Au).2.2.1:=by
 unfold gj;rw[Iu.2 h.safe.ok,Ah.2 (by omega:(0:Int)≤(k:Int)∧(k:Int)≤1)];rfl
theorem ABh{k:Nat}(hk:k<2){p:Int}(hp:Pl p)(hl:p<D6 (w.AW.getD k Au).1 (w.AW.getD k Au).2.1):Sf.PZ AQ A6 (vY (w.AW.getD k Au)) p:=by
 have:=(h.safe.ok.AW _ (h.reader hk)).off;exact(AFv (e:=(w.AW.getD k Au).1) (o:=(w.AW.getD k Au).2.1) hp (by omega)).1 hl
theorem AG9{s:Ab}(hs:s∈WZ w):s∈w.BK∧s.2.2.1=true∧w.trim<s.1:=by
 unfold WZ at hs;rw[Iu.2 h.safe.ok,AMy]at hs;obtain⟨h1,h2⟩:=ATU.1 hs;unfold AAL at h2;simp only[AMC,AMi]at h2;exact⟨h1,h2⟩
theorem ADn(ht:w.ED=false){k:Nat}(hk:k<2){s:Ab}(hs:s∈WZ w)(hl:s.1<D6 (w.AW.getD k Au).1 (w.AW.getD k Au).2.1):s∈gj w k:=by
 obtain⟨h1,h2,h3⟩:=AG9 h hs;rw[AA2 h hk];exact sD.2 ⟨h2,tM h ht (h.reader hk) h1 h2 h3 (ABh h hk (h.safe.ok.BK s h1).1 hl)⟩
end
end Go.M
end
section
set_option maxRecDepth 8000
namespace Go.M
open Go.M.H (AJ AO As Ab AA CO AN A4 AM AY Az Av BS Ak CL Af AX Aa Aq CB BF Ar A7 EC CM Cs C9)
def AXV(w:AA)(l:List BS):Gm:=(((w,(),()),()),(l,()))
theorem ACm{x:AAH}(hc:x.length≤2^30):∃c l,Ej c=true∧G2 x=some (AXV (Eu c) l)∧l.length≤190∧ ∀d∈l,DH d.2.1:=by
 obtain⟨h0,e0⟩:=AEa hc;unfold G2;rw[e0];obtain⟨T,hT,hT2⟩:=zp hc;simp only[AD];rw[hT];simp only[AD];obtain⟨q,i1,h1,y,e1,eo,⟨cc,q7,hcw⟩,hl,hd⟩:=xF hc (T:=T) (N:=190) ⟨by omega,by omega,by omega⟩ (i:=0) (hh:=h0) ⟨by omega,by omega⟩;rw[e1];simp only[AD];refine⟨cc,y.1,q7,?_,hl,hd⟩;rw[←hcw];rfl
structure AaI (w v:AA) (l:List BS):Prop where
 ok:Nn w
 win:fa w
 rd:Af A7 w.AW≤10002
 re:Reached v
 vin:fa v
 ev:c_ v
 run:runM false w l=(v,(runM false w l).2)
 same:runM true w l=runM false w l
theorem o6{l:List Ab}{s:Ab}(hs:s∈l)(hl:l.length≤2^40):G1 l s=some ((true,()),()):=by
 have key:∀(n i j:Nat),i≤j→(hj:j<l.length)→l[j]=s→l.length-i<n→Jg n l i s.1 s.2.1 s.2.2.1=some ((true,()),()):=by
  intro n
  induction n with
  |zero=>intro i j _ _ _ h;omega
  |succ n ih=>
   intro i j zU hj hjs h;simp only[Jg,S7,AB];have hi:i<l.length:=by omega
   rw[ALP (by omega),ALP (by omega),AMZ,OJ hi];by_cases he:i=j
   ·subst he
    rw[hjs];simp
   ·rw[AL (by omega) (by omega),show((i:Int)+1)=((i+1:Nat):Int)by omega,ih (i+1) j (by omega) hj hjs (by omega)]
    cases(l[i].1==s.1&&(l[i].2.1==s.2.1&&(l[i].2.2.1==s.2.2.1&&true)))<;>rfl
 obtain⟨j,hj,hjs⟩:=AQQ hs;unfold G1 Sv;exact key Ae 0 j (by omega) hj hjs (Ag (by omega))
theorem s7:∀{l:List Az},(br l).length≤l.length
 |[]=>AQE _
 |e::l=>by
  have:=s7 (l:=l);unfold br;cases e.1==1<;>simp only[AMy,AMh,ANL]<;>omega
theorem Reached.AEi{w:AA}(h:Reached w){k:Nat}(hk:k<2):(gj w k).length≤120:=by
 rw[AA2 h hk];exact AQ4 s7 (h.safe.ok.AW _ (h.reader hk)).n
end Go.M
end
section
set_option maxRecDepth 8000
namespace Go.M
open Go.M.H (AJ AO As Ab AA CO AN A4 AM AY Az Av BS Ak CL Af AX Aa Aq CB BF Ar A7 EC CM Cs C9)
structure fZ (w:AA) (i:Nat):Prop where
 re:Reached w
 rd:Af A7 w.AW≤10002+41*i
 ev:c_ w
theorem fZ.win{w:AA}{i:Nat}(h:fZ w i)(hi:i≤1000):fa w:=h.re.safe.ok.AYV (by have:=h.rd;omega)
theorem fZ.more{w:AA}{i:Nat}(h:fZ w i):fZ w (i+1):=⟨h.re,by have:=h.rd;omega,h.ev⟩
theorem fZ.step{w:AA}{i:Nat}{d:BS}(h:fZ w i)(e:(Df false w d).2=0):fZ (Df false w d).1 (i+1):=
 ⟨(rD h.re e).1,by have:=yw h.re.safe.ok e;have:=h.rd;omega,yP h.ev e⟩
theorem ACE{c:CD}(hc:Ej c=true):fZ (Eu c) 0:=by
 obtain⟨h1,h2⟩:=dk hc;exact⟨ACw hc,by have:=AI4 h1 h2;omega,xk⟩
theorem Reached.AAn{w:AA}(h:Reached w):(WZ w).length≤120:=by
 unfold WZ;rw[Iu.2 h.safe.ok,AMy];exact AQ4 (ASR _ _) h.safe.ok.Qp
section
variable{w:AA} (h:Reached w) (WH:fa w) (yB:c_ w)
include h WH yB
theorem wm:((Fc (w.1,w.2.1,w.2.2.1,w.2.2.2.1,w.2.2.2.2.1,w.2.2.2.2.2.1,w.2.2.2.2.2.2.1,w.2.2.2.2.2.2.2.1,w.2.2.2.2.2.2.2.2.1,w.2.2.2.2.2.2.2.2.2.1,w.2.2.2.2.2.2.2.2.2.2.1,())).bind fun P2=>
 cond (P2.1.1)
  ((E8 (w.1,w.2.1,w.2.2.1,w.2.2.2.1,w.2.2.2.2.1,w.2.2.2.2.2.1,w.2.2.2.2.2.2.1,w.2.2.2.2.2.2.2.1,w.2.2.2.2.2.2.2.2.1,w.2.2.2.2.2.2.2.2.2.1,w.2.2.2.2.2.2.2.2.2.2.1,())).bind fun fX=>
  some ((fX.1.1,()),()))
 (some ((false,()),())))=(some ((true,()),()):Option Hg):=by
 rw[show(w.1,w.2.1,w.2.2.1,w.2.2.2.1,w.2.2.2.2.1,w.2.2.2.2.2.1,w.2.2.2.2.2.2.1,w.2.2.2.2.2.2.2.1,w.2.2.2.2.2.2.2.2.1,w.2.2.2.2.2.2.2.2.2.1,w.2.2.2.2.2.2.2.2.2.2.1,())=w from rfl,jI WH,tV h,gn WH,ri h];rfl
theorem vn{k:Nat}(hk:k<2)(ht:w.ED=false){B:Nat}(hB:∀n,B≤n→Cb n ((k:Int)+1) w.1 w.2.1 w.2.2.1 w.2.2.2.1 w.2.2.2.2.1 w.2.2.2.2.2.1 w.2.2.2.2.2.2.1 w.2.2.2.2.2.2.2.1 w.2.2.2.2.2.2.2.2.1 w.2.2.2.2.2.2.2.2.2.1 w.2.2.2.2.2.2.2.2.2.2.1 (WZ w)=some ((true,()),())):∀(n i:Nat),i≤(WZ w).length→(WZ w).length-i+B+1≤n→
  C7 n (k:Int) (i:Int) false (!false) w.1 w.2.1 w.2.2.1 w.2.2.2.1 w.2.2.2.2.1 w.2.2.2.2.2.1 w.2.2.2.2.2.2.1 w.2.2.2.2.2.2.2.1 w.2.2.2.2.2.2.2.2.1 w.2.2.2.2.2.2.2.2.2.1 w.2.2.2.2.2.2.2.2.2.2.1 (WZ w) (gj w k) (w.AW.getD k Au).1 (w.AW.getD k Au).2.1 (w.AW.getD k Au).2.2.1=some ((true,()),())
 |0,i,_,hn=>by omega
 |n+1,i,hi,hn=>by
  have hl:=h.AAn;have vW:=h.AEi hk;have r:=h.safe.ok.AW _ (h.reader hk);have r1:=r.ep;have r2:=r.off;have tb:=fun s hs hp=>ADn h ht hk (s:=s) hs hp
  have ih:=vn hk ht hB n (i+1)
  generalize w.AW.getD k Au=x at*
  simp only[C7,QU,AB];by_cases Lu:i<(WZ w).length
  rotate_left
  ·rw[ALo (by omega),AL (x:=(k:Int)+1) (by omega) (by omega)]
   exact hB n (by omega)
  rw[ALP (by omega)];have g:(0:Int)≤(i:Int)∧(i:Int)<((WZ w).length:Int):=by omega
  replace ih:=ih (by omega) (by omega)
  rw[show((i+1:Nat):Int)=(i:Int)+1 by omega]at ih;rw[AL (x:=(i:Int)+1) (by omega) (by omega)];simp only[ALP g,AMZ];have hm:=BJ (d:=((0,[],false,()):Ab)) Lu
  generalize (WZ w).getD i (0,[],false,())=s at hm⊢
  rw[AL (x:=4294967296*x.1) (by omega) (by omega),AL (x:=4294967296*x.1+x.2.1) (by omega) (by omega)];by_cases hp:4294967296*x.1+x.2.1>s.1
  rotate_left
  ·rw[ALo hp];exact ih
  rw[ALP hp,show(s.1,s.2.1,s.2.2.1,())=s from rfl,o6 (tb s hm hp) (by omega)];simp only[AD,AMO,AMh];exact ih
theorem xC:∀(m k n:Nat),k+m=2→m*130+1≤n→Cb n (k:Int) w.1 w.2.1 w.2.2.1 w.2.2.2.1 w.2.2.2.2.1 w.2.2.2.2.2.1 w.2.2.2.2.2.2.1 w.2.2.2.2.2.2.2.1 w.2.2.2.2.2.2.2.2.1 w.2.2.2.2.2.2.2.2.2.1 w.2.2.2.2.2.2.2.2.2.2.1 (WZ w)=some ((true,()),())
 |m,k,0,_,hn=>by omega
 |0,k,n+1,hk,hn=>by
  simp only[Cb,MM,AB];rw[ALo (by omega)];exact wm h WH yB
 |m+1,k,n+1,hk,hn=>by
  have hl:=h.AAn;have ih:=xC m (k+1);simp only[Cb,MM,AB];rw[ALP (by omega)];cases ht:w.2.2.2.2.2.2.2.2.2.2.1 with
  |true=>
   have:=wm h WH yB;rw[ht]at this;exact this
  |false=>
   have hnr:w.2.2.2.2.2.2.2.2.1.length=2:=h.safe.ok.mf;have e:(w.1,w.2.1,w.2.2.1,w.2.2.2.1,w.2.2.2.2.1,w.2.2.2.2.2.1,w.2.2.2.2.2.2.1,w.2.2.2.2.2.2.2.1,w.2.2.2.2.2.2.2.2.1,w.2.2.2.2.2.2.2.2.2.1,false,())=w:=by rw[←ht]
   rw[ATH,AMy,e,pZ WH];simp only[AD];rw[ALP (by omega),AMZ];have:=vn h WH yB (k:=k) (by omega) ht (B:=m*130+1) (fun n hn=>by
    have:=ih n (by omega) hn;rw[show((k+1:Nat):Int)=(k:Int)+1 by omega]at this;exact this) n 0 (by omega) (by omega)
   rw[ht]at this;exact this
end
theorem AAA{l:List BS}(hl:l.length≤190)(h64:∀d∈l,DH d.2.1):∀(m i n:Nat) (w:AA),i+m=l.length→m+300≤n→fZ w i→
  Ci n (i:Int) w.1 w.2.1 w.2.2.1 w.2.2.2.1 w.2.2.2.2.1 w.2.2.2.2.2.1 w.2.2.2.2.2.2.1 w.2.2.2.2.2.2.2.1 w.2.2.2.2.2.2.2.2.1 w.2.2.2.2.2.2.2.2.2.1 w.2.2.2.2.2.2.2.2.2.2.1 l=some ((true,()),())
 |m,i,0,w,_,hn,_=>by omega
 |0,i,n+1,w,hi,hn,h=>by
  simp only[Ci,Nh,AB];rw[ALo (by omega),show(w.1,w.2.1,w.2.2.1,w.2.2.2.1,w.2.2.2.2.1,w.2.2.2.2.2.1,w.2.2.2.2.2.2.1,w.2.2.2.2.2.2.2.1,w.2.2.2.2.2.2.2.2.1,w.2.2.2.2.2.2.2.2.2.1,w.2.2.2.2.2.2.2.2.2.2.1,())=w from rfl,rQ (h.win (by omega))];simp only[AD];exact xC h.re (h.win (by omega)) h.ev 2 0 n (by omega) (by omega)
 |m+1,i,n+1,w,hi,hn,h=>by
  have WH:=h.win (by omega);have Lu:i<l.length:=by omega
  have ih:=fun w h=>AAA hl h64 m (i+1) n w (by omega) (by omega) h
  simp only[Ci,Nh,AB];have g:(0:Int)≤(i:Int)∧(i:Int)<(l.length:Int):=by omega
  rw[ALP g.2];simp only[ALP g,AMZ];have hm:DH (l.getD i (0,0,0,0,[],())).2.1:=h64 _ (BJ Lu)
  generalize l.getD i (0,0,0,0,[],())=d at hm⊢
  rw[show(w.1,w.2.1,w.2.2.1,w.2.2.2.1,w.2.2.2.2.1,w.2.2.2.2.2.1,w.2.2.2.2.2.2.1,w.2.2.2.2.2.2.2.1,w.2.2.2.2.2.2.2.2.1,w.2.2.2.2.2.2.2.2.2.1,w.2.2.2.2.2.2.2.2.2.2.1,())=w from rfl,show(d.1,d.2.1,d.2.2.1,d.2.2.2.1,d.2.2.2.2.1,())=d from rfl,nJ WH hm,bh WH hm,AHJ h.re];simp only[AD,bne_self_eq_false,AMh];rw[AL (x:=(i:Int)+1) (by omega) (by omega),show((i:Int)+1)=((i+1:Nat):Int)by omega,show(pkD (Df false w d)).1.1.2.1=(Df false w d).2 from rfl];by_cases h0:(Df false w d).2=0
  ·rw[ATa.2 h0,AMy]
   exact ih _ (h.step h0)
  ·rw[APh.2 h0,AMh]
   exact ih _ h.more
theorem w_{x:AAH}(hx:Go.Fw.Vd (.sl (.int .u8)) x):Ql x=some ((true,()),()):=by
 unfold Ql Rr XG;simp only[AM0,AB];by_cases hs:(x.length:Int)>1048576
 ·rw[ALP hs]
 rw[ALo hs];obtain⟨c,l,hc,e1,hl,h64⟩:=ACm (x:=x) (by omega);rw[e1];simp only[AM0,AXV];exact AAA hl h64 l.length 0 Ae (Eu c) (by omega) (ATy (Ag (by omega))) (ACE hc)
end Go.M
end
