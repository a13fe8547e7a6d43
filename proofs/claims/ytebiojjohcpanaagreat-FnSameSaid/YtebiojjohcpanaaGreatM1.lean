/- Plain facts on what the functions compute. -/
import Derived.Test.YtebiojjohcpanaaGreatM0
set_option linter.unusedVariables false
set_option linter.unusedSimpArgs false
set_option linter.unusedSectionVars false
section
set_option maxRecDepth 8000
namespace Go.M
open Go.M.H (AJ AO As Ac AA CN AQ A7 AM AY A3 Ax BC Al CJ Af AX Aa Ap B8 BJ Ar A0 EO CO Cv C_)
theorem Dp{l:AAO}(h:l.length≤2^30):DB l=some (((),()),(l,())):=by
 unfold DB;rw[ALy (by rw[BT];omega)]
theorem Vh{l:List AJ}(h:l.length≤2^30):Iv l=some (((),()),(l,())):=by
 unfold Iv;rw[ALy (by rw[BT];omega)]
theorem XM{r:AY}(h:r.2.2.1.length≤2^30):MU r=some (((r.1,r.2.1,(),()),()),(r.2.2.1,())):=by
 unfold MU;rw[ALy (by rw[BT];omega)]
theorem fX{c:B9}(h:c.1.length≤2^30):Po c=some ((((),c.2.1,()),()),(c.1,())):=by
 grind[Po,Dp]
theorem Hp{s:AO}(h1:s.1.length≤2^30)(h2:s.2.1.length≤2^30):C7 s=some ((((),(),s.2.2.1,()),()),(s.1,s.2.1,())):=by
 grind[C7,Vh]
theorem HY{r:AQ}(h:Af B8 r.1≤2^30):EW r=some ((((),r.2.1,()),()),(r.1,())):=by
 have hl:=AX (f:=B8) (l:=r.1);have key:∀(n i:Nat) (acc:List CN),i≤r.1.length→r.1.length-i<n→acc.length≤i→Hj n r.1 r.1.length i 0 [] r.2.1 acc=some ((((),r.2.1,()),()),(acc++r.1.drop i,())):=by
  intro n
  induction n with
  |zero=>omega
  |succ n ih=>
   intro i acc hi hn ha;simp only[Hj,Qe,AB];by_cases hc:i<r.1.length
   ·have hm:=Aa (f:=B8) (AMh hc)
    have hw:B8 r.1[i]=r.1[i].1.length:=rfl;rw[ALy (by omega),ALy (by omega),Ai hc,Dp (by omega),AK (by omega) (by omega),show((i:Int)+1)=((i+1:Nat):Int)by omega];simp only[AD];rw[ALy (by rw[BT];omega),ih (i+1) _ (by omega) (by omega) (by simp_all),drop_cons hc,AM8];rfl
   grind
 grind[EW,Qb,Ae,Ag]
theorem JM{x:AM}(h:Ar x≤2^30):Fh x=some (((x.1,(),()),()),(x.2.1,())):=by
 have h':Af BJ x.2.1≤2^30:=h;have hl:=AX (f:=BJ) (l:=x.2.1);have key:∀(n i:Nat) (acc:List A7),i≤x.2.1.length→x.2.1.length-i<n→acc.length≤i→JK n x.2.1 x.2.1.length i 0 [] x.1 acc=some (((x.1,(),()),()),(acc++x.2.1.drop i,())):=by
  intro n
  induction n with
  |zero=>omega
  |succ n ih=>
   intro i acc hi hn ha;simp only[JK,Su,AB];by_cases hc:i<x.2.1.length
   ·have hm:=Aa (f:=BJ) (AMh hc)
    have hw:BJ x.2.1[i]=x.2.1[i].1.length+x.2.1[i].2.1.length:=rfl;rw[ALy (by omega),ALy (by omega),Ai hc,Dp (by omega),AK (by omega) (by omega),show((i:Int)+1)=((i+1:Nat):Int)by omega];simp only[AD];rw[ALy (by rw[BT];omega),ih (i+1) _ (by omega) (by omega) (by simp_all),drop_cons hc,AM8];rfl
   grind
 grind[Fh,Sp,Ae,Ag]
theorem HF{m:As}(h:CJ m≤2^30):GN m=some (((m.1,m.2.1,(),(),m.2.2.2.2.1,(),()),()),(m.2.2.1,m.2.2.2.1,m.2.2.2.2.2.1,())):=by
 have h':m.2.2.1.length+Af Ap m.2.2.2.1+Af C_ m.2.2.2.2.2.1≤2^30:=h;have hl:=AX (f:=C_) (l:=m.2.2.2.2.2.1);have xr:=AX (f:=Ap) (l:=m.2.2.2.1);have key:∀(n i:Nat) (acc:List AAO),i≤m.2.2.2.2.2.1.length→m.2.2.2.2.2.1.length-i<n→acc.length≤i→Lc n m.2.2.2.2.2.1 m.2.2.2.2.2.1.length i 0 0 false [] [] [] m.1 m.2.1 m.2.2.2.2.1 m.2.2.1 m.2.2.2.1 acc=some (((m.1,m.2.1,(),(),m.2.2.2.2.1,(),()),()),(m.2.2.1,m.2.2.2.1,acc++m.2.2.2.2.2.1.drop i,())):=by
  intro n
  induction n with
  |zero=>omega
  |succ n ih=>
   intro i acc hi hn ha;simp only[Lc,Ve,AB];by_cases hc:i<m.2.2.2.2.2.1.length
   ·have hm:=Aa (f:=C_) (AMh hc)
    have hw:C_ m.2.2.2.2.2.1[i]=m.2.2.2.2.2.1[i].length:=rfl;rw[ALy (by omega),ALy (by omega),Ai hc,Dp (by omega),AK (by omega) (by omega),show((i:Int)+1)=((i+1:Nat):Int)by omega];simp only[AD];rw[ALy (by rw[BT];omega),ih (i+1) _ (by omega) (by omega) (by simp_all),drop_cons hc,AM8];rfl
   grind
 grind[GN,Vc,Dp,Vh,AD,Ae,Ag]
section
variable{w:AA} (h:gf w)
include h
theorem ADo:∀(n i:Nat) (Di:List AO) (D8:List AM) (EZ:List As) (FD:List AY),i≤w.2.2.2.2.2.2.2.2.1.length→w.2.2.2.2.2.2.2.2.1.length-i+1≤n→FD.length≤i→
  Ej n w.2.2.2.2.2.2.2.2.1 w.2.2.2.2.2.2.2.2.1.length i w.1 w.2.1 w.2.2.1 w.2.2.2.1 w.2.2.2.2.1 w.2.2.2.2.2.1 w.2.2.2.2.2.2.1 w.2.2.2.2.2.2.2.1 w.2.2.2.2.2.2.2.2.1 w.2.2.2.2.2.2.2.2.2.1 w.2.2.2.2.2.2.2.2.2.2.1 0 0 false [] [] [] [] [] [] [] [] w.2.1 w.2.2.2.2.2.1 w.2.2.2.2.2.2.2.2.2.2.1 w.1 Di w.2.2.2.1 w.2.2.2.2.1 D8 EZ FD []=some ((((),w.2.1,(),(),(),w.2.2.2.2.2.1,(),(),(),(),w.2.2.2.2.2.2.2.2.2.2.1,()),()),(w.1,Di,w.2.2.2.1,w.2.2.2.2.1,D8,EZ,(FD++w.2.2.2.2.2.2.2.2.1.drop i),w.2.2.2.2.2.2.2.2.2.1,())):=by
 have xr:=h.Qp;have hl:=h.lens;intro n
 induction n with
 |zero=>omega
 |succ n ih=>
  intro i Di D8 EZ FD hi hn hb;simp only[Ej,Sq,AB];by_cases Dd:i<w.2.2.2.2.2.2.2.2.1.length
  ·have hm:=Aa (f:=A0) (AMh Dd)
   have hw:A0 w.2.2.2.2.2.2.2.2.1[i]=Af CO w.2.2.2.2.2.2.2.2.1[i].2.2.1:=rfl;have hlw:=AX (f:=CO) (l:=w.2.2.2.2.2.2.2.2.1[i].2.2.1);rw[ALy (by omega),ALy (by omega),Ai Dd,AK (by omega) (by omega),show((i:Int)+1)=((i+1:Nat):Int)by omega,drop_cons Dd];rw[show(w.2.2.2.2.2.2.2.2.1[i].1,w.2.2.2.2.2.2.2.2.1[i].2.1,w.2.2.2.2.2.2.2.2.1[i].2.2.1,())=w.2.2.2.2.2.2.2.2.1[i]from rfl,XM (by omega)];simp only[AD];rw[ALy (by rw[BT];omega),ih (i+1) _ _ _ _ (by omega) (by omega) (by simp_all),AM8];rfl
  ·rw[AMD (by omega),ALy (by rw[BT];omega),AMj (by omega),AM5]
theorem AFL:∀(n i:Nat) (Di:List AO) (D8:List AM) (EZ:List As),i≤w.2.2.2.2.2.2.2.1.length→(w.2.2.2.2.2.2.2.1.length-i)+w.2.2.2.2.2.2.2.2.1.length+2≤n→EZ.length≤i→
  Eu n w.2.2.2.2.2.2.2.1 w.2.2.2.2.2.2.2.1.length i w.1 w.2.1 w.2.2.1 w.2.2.2.1 w.2.2.2.2.1 w.2.2.2.2.2.1 w.2.2.2.2.2.2.1 w.2.2.2.2.2.2.2.1 w.2.2.2.2.2.2.2.2.1 w.2.2.2.2.2.2.2.2.2.1 w.2.2.2.2.2.2.2.2.2.2.1 0 0 false [] [] [] [] [] [] [] [] w.2.1 w.2.2.2.2.2.1 w.2.2.2.2.2.2.2.2.2.2.1 w.1 Di w.2.2.2.1 w.2.2.2.2.1 D8 EZ [] []=some ((((),w.2.1,(),(),(),w.2.2.2.2.2.1,(),(),(),(),w.2.2.2.2.2.2.2.2.2.2.1,()),()),(w.1,Di,w.2.2.2.1,w.2.2.2.2.1,D8,(EZ++w.2.2.2.2.2.2.2.1.drop i),w.2.2.2.2.2.2.2.2.1,w.2.2.2.2.2.2.2.2.2.1,())):=by
 have xr:=h.Qp;have hl:=h.lens;intro n
 induction n with
 |zero=>omega
 |succ n ih=>
  intro i Di D8 EZ hi hn hb;simp only[Eu,Sz,AB];by_cases Dd:i<w.2.2.2.2.2.2.2.1.length
  ·have hm:=Aa (f:=CJ) (AMh Dd)
   rw[ALy (by omega),ALy (by omega),Ai Dd,AK (by omega) (by omega),show((i:Int)+1)=((i+1:Nat):Int)by omega,drop_cons Dd];rw[show(w.2.2.2.2.2.2.2.1[i].1,w.2.2.2.2.2.2.2.1[i].2.1,w.2.2.2.2.2.2.2.1[i].2.2.1,w.2.2.2.2.2.2.2.1[i].2.2.2.1,w.2.2.2.2.2.2.2.1[i].2.2.2.2.1,w.2.2.2.2.2.2.2.1[i].2.2.2.2.2.1,())=w.2.2.2.2.2.2.2.1[i]from rfl,HF (by omega)];simp only[AD];rw[ALy (by rw[BT];omega),ih (i+1) _ _ _ (by omega) (by omega) (by simp_all),AM8];rfl
  ·have:=ADo h n 0 Di D8 EZ [] (by omega) (by omega) (by simp)
   grind
theorem AJr:∀(n i:Nat) (Di:List AO) (D8:List AM),i≤w.2.2.2.2.2.2.1.length→(w.2.2.2.2.2.2.1.length-i)+w.2.2.2.2.2.2.2.1.length+w.2.2.2.2.2.2.2.2.1.length+3≤n→D8.length≤i→
  FN n w.2.2.2.2.2.2.1 w.2.2.2.2.2.2.1.length i w.1 w.2.1 w.2.2.1 w.2.2.2.1 w.2.2.2.2.1 w.2.2.2.2.2.1 w.2.2.2.2.2.2.1 w.2.2.2.2.2.2.2.1 w.2.2.2.2.2.2.2.2.1 w.2.2.2.2.2.2.2.2.2.1 w.2.2.2.2.2.2.2.2.2.2.1 0 0 false [] [] [] [] [] [] [] [] w.2.1 w.2.2.2.2.2.1 w.2.2.2.2.2.2.2.2.2.2.1 w.1 Di w.2.2.2.1 w.2.2.2.2.1 D8 [] [] []=some ((((),w.2.1,(),(),(),w.2.2.2.2.2.1,(),(),(),(),w.2.2.2.2.2.2.2.2.2.2.1,()),()),(w.1,Di,w.2.2.2.1,w.2.2.2.2.1,(D8++w.2.2.2.2.2.2.1.drop i),w.2.2.2.2.2.2.2.1,w.2.2.2.2.2.2.2.2.1,w.2.2.2.2.2.2.2.2.2.1,())):=by
 have xr:=h.Qp;have hl:=h.lens;intro n
 induction n with
 |zero=>omega
 |succ n ih=>
  intro i Di D8 hi hn hb;simp only[FN,Ud,AB];by_cases Dd:i<w.2.2.2.2.2.2.1.length
  ·have hm:=Aa (f:=Ar) (AMh Dd)
   rw[ALy (by omega),ALy (by omega),Ai Dd,AK (by omega) (by omega),show((i:Int)+1)=((i+1:Nat):Int)by omega,drop_cons Dd];rw[show(w.2.2.2.2.2.2.1[i].1,w.2.2.2.2.2.2.1[i].2.1,())=w.2.2.2.2.2.2.1[i]from rfl,JM (by omega)];simp only[AD];rw[ALy (by rw[BT];omega),ih (i+1) _ _ (by omega) (by omega) (by simp_all),AM8];rfl
  ·have:=AFL h n 0 Di D8 [] (by omega) (by omega) (by simp)
   grind
theorem AKO:∀(n i:Nat) (Di:List AO),i≤w.2.2.1.length→(w.2.2.1.length-i)+w.2.2.2.2.2.2.1.length+w.2.2.2.2.2.2.2.1.length+w.2.2.2.2.2.2.2.2.1.length+4≤n→Di.length≤i→
  FQ n w.2.2.1 w.2.2.1.length i w.1 w.2.1 w.2.2.1 w.2.2.2.1 w.2.2.2.2.1 w.2.2.2.2.2.1 w.2.2.2.2.2.2.1 w.2.2.2.2.2.2.2.1 w.2.2.2.2.2.2.2.2.1 w.2.2.2.2.2.2.2.2.2.1 w.2.2.2.2.2.2.2.2.2.2.1 0 0 false [] [] [] [] [] [] [] [] w.2.1 w.2.2.2.2.2.1 w.2.2.2.2.2.2.2.2.2.2.1 w.1 Di w.2.2.2.1 w.2.2.2.2.1 [] [] [] []=some ((((),w.2.1,(),(),(),w.2.2.2.2.2.1,(),(),(),(),w.2.2.2.2.2.2.2.2.2.2.1,()),()),(w.1,(Di++w.2.2.1.drop i),w.2.2.2.1,w.2.2.2.2.1,w.2.2.2.2.2.2.1,w.2.2.2.2.2.2.2.1,w.2.2.2.2.2.2.2.2.1,w.2.2.2.2.2.2.2.2.2.1,())):=by
 have xr:=h.Qp;have hl:=h.lens;intro n
 induction n with
 |zero=>omega
 |succ n ih=>
  intro i Di hi hn hb;simp only[FQ,UN,AB];by_cases Dd:i<w.2.2.1.length
  ·have hm:=Aa (f:=Al) (AMh Dd)
   have hw:=Fm (s:=w.2.2.1[i]) (by omega);rw[ALy (by omega),ALy (by omega),Ai Dd,AK (by omega) (by omega),show((i:Int)+1)=((i+1:Nat):Int)by omega,drop_cons Dd];rw[show(w.2.2.1[i].1,w.2.2.1[i].2.1,w.2.2.1[i].2.2.1,())=w.2.2.1[i]from rfl,Hp hw.1 hw.2];simp only[AD];rw[ALy (by rw[BT];omega),ih (i+1) _ (by omega) (by omega) (by simp_all),AM8];rfl
  ·have:=AJr h n 0 Di [] (by omega) (by omega) (by simp)
   grind
theorem YG:LI w=some ((((),w.2.1,(),(),(),w.2.2.2.2.2.1,(),(),(),(),w.2.2.2.2.2.2.2.2.2.2.1,()),()),(w.1,w.2.2.1,w.2.2.2.1,w.2.2.2.2.1,w.2.2.2.2.2.2.1,w.2.2.2.2.2.2.2.1,w.2.2.2.2.2.2.2.2.1,w.2.2.2.2.2.2.2.2.2.1,())):=by
 have xr:=h.Qp;have hl:=h.lens;unfold LI UK;have:=AKO h Ae 0 [] (by omega) (AVi (Ag (by omega))) (by simp);rw[show((0:Nat):Int)=0 from rfl,ATA,ATC]at this;rw[show(w.1,w.2.1,())=AS w from rfl,fX (by show w.1.length≤_;omega),Dp (by omega),show(w.2.2.2.2.1,w.2.2.2.2.2.1,())=(B3 w)from rfl,HY (by show Af B8 w.2.2.2.2.1≤_;omega)];simp only[AD];exact this
end
end Go.M
end
section
set_option maxRecDepth 8000
namespace Go.M
open Go.M.H (AJ AO As Ac AA CN AQ A7 AM AY A3 Ax BC Al CJ Af AX Aa Ap B8 BJ Ar A0 EO CO Cv C_)
theorem uZ{a b:Nat}(h:a+b<2^40):AZ ((IntKind.wrap .u64 (AZ ((a:Int)+(b:Int)))).fdiv (2^1))=(((a+b)/2:Nat):Int):=by
 grind[AK,IntKind.wrap,IntKind.bits,IntKind.signed,Int.fdiv_eq_ediv_of_nonneg]
structure jR {α:Type} (f:α→Int) (p:Int) (l:List α) (q:Nat):Prop where
 le:q≤l.length
 lt:∀(i:Nat) (h:i<l.length),i<q→f l[i]<p
 ge:∀(i:Nat) (h:i<l.length),q≤i→p≤f l[i]
theorem ar{α:Type}{f:α→Int}{l:List α}(h:S8 f l){i j:Nat}(hi:i<l.length)(hj:j<l.length)(zF:i≤j):f l[i]≤f l[j]:=by
 grind[Int.le_of_lt,List.pairwise_iff_getElem]
theorem dt{l:List AJ}(ha:Wq l)(hl:l.length≤2^30)(p:Int):∃q,jR (fun e:AJ=>e.1) p l q∧
  SU l p=some ((((q:Int),(match l[q]? with|some e=>e.1==p|none=>false),()),()),()):=by
 have key:∀(n a b:Nat),a≤b→b≤l.length→b-a<n→(∀(i:Nat) (h:i<l.length),i<a→l[i].1<p)→(∀(i:Nat) (h:i<l.length),b≤i→p≤l[i].1)→
   ∃q,jR (fun e:AJ=>e.1) p l q∧A4 n l p l.length a b=some ((((q:Int),(match l[q]? with|some e=>e.1==p|none=>false),()),()),()):=by
  intro n
  induction n with
  |zero=>omega
  |succ n ih=>
   intro a b rV hb hn h1 h2;simp only[A4,Co,AB,SJ];by_cases Kg:a<b
   ·have hm:(a+b)/2<l.length:=by omega
    rw[ALy (by omega),uZ (by omega),ALy (by omega),Ai hm];by_cases hc:l[(a+b)/2].1<p
    ·rw[ALy hc]
     simp only[AD];rw[ALy (by omega),AK (by omega) (by omega),show((((a+b)/2:Nat):Int)+1)=(((a+b)/2+1:Nat):Int)by omega];refine ih _ b (by omega) hb (by omega) (fun i h hi=> ?_) h2;exact Int.lt_of_le_of_lt (ar (f:=fun e:AJ=>e.1) ha h hm (by omega)) hc
    ·rw[AMD hc]
     have hge:∀(i:Nat) (h:i<l.length),(a+b)/2≤i→p≤l[i].1:=fun i h hi=>Int.le_trans (by omega) (ar (f:=fun e:AJ=>e.1) ha hm h hi)
     by_cases hd:l[(a+b)/2].1>p
     ·rw[ALy hd]
      simp only[AD];rw[AMD (by omega)];exact ih a _ (by omega) (by omega) (by omega) h1 hge
     ·rw[AMD hd]
      simp only[AD];rw[AMD (by omega)];exact ih a _ (by omega) (by omega) (by omega) h1 hge
   ·have AEE:a=b:=by omega
    subst AEE;refine⟨a,⟨hb,h1,h2⟩,?_⟩;rw[AMD (by omega)];by_cases ha':a<l.length
    ·have:=h2 a ha' (AQW _)
     rw[ALy (by omega),ALy (by omega),Ai ha',AL5 ha',AMD (by omega)];by_cases hd:l[a].1>p
     ·simp_all;omega
     grind
    grind
 obtain⟨q,hq,e⟩:=key Ae 0 l.length (by omega) (by omega) (Ag (by omega)) (fun i h hi=>by omega) (fun i h hi=>by omega);refine⟨q,hq,?_⟩;unfold SU CC Cn;simp_all
theorem jR.get_eq{p:Int}{l:List AJ}{q:Nat}(h:jR (fun e:AJ=>e.1) p l q)(ha:Wq l):Ek p l=match l[q]? with|some e=>if e.1=p then some e else none|none=>none:=by
 by_cases hq:q<l.length
 ·rw[AL5 hq]
  dsimp only;by_cases he:l[q].1=p
  ·rw[ALy he,←he]
   exact Ls ha (AMh hq)
  ·rw[AMD he]
   cases hg:Ek p l with
   |none=>rfl
   |some x=>
    obtain⟨hm,hx⟩:=Gn hg;obtain⟨i,hi,rfl⟩:=AQa hm;exfalso;have h2:=h.ge q hq (AQW _);rcases Nat.lt_or_ge i q with hiq|hiq
    ·have:=h.lt i hi hiq
     omega
    ·have:=ar (f:=fun e:AJ=>e.1) ha hq hi hiq
     omega
 ·rw[ATP (by omega)]
  dsimp only;cases hg:Ek p l with
  |none=>rfl
  |some x=>
   obtain⟨hm,hx⟩:=Gn hg;obtain⟨i,hi,rfl⟩:=AQa hm;have:=h.lt i hi (by omega);omega
theorem TN{s:AO}(h0:Al s≤2^30)(h1:qq s)(p:Int):GQ s p=some (((match Xc s p with|some e=>(e,true,())|none=>((0,0,false,[],()),false,())),()),()):=by
 unfold GQ Xc;rw[show(s.1,s.2.1,s.2.2.1,())=s from rfl,Ez h0 h1];simp only[AD];rcases AKU (CB s)with Br|Br
 rotate_left
 ·simp_all
 have hs:=DN.1 Br;have hn:=hs.nk;obtain⟨q,hq,e⟩:=dt hs.fo (by omega) p;rw[Br,e,ALy rfl,hq.get_eq hs.fo];grind
theorem Hw{e o:Int}:Dl e o=some (((Gd e o,BM e 1 30&&BM o 1 60,()),()),()):=by
 unfold Dl HT Wf Gd;rw[Av,Av];simp only[AD];rcases AKU (BM e 1 30)with he|he
 rotate_left
 ·simp_all
 rcases AKU (BM o 1 60)with ho|ho
 rotate_left
 ·simp_all
 rw[he,ho];have h1:=Ah.1 he;have h2:=Ah.1 ho;simp only[AMP,AMU,Bool.and_self,AS_];rw[AK (x:=4294967296*e) (by omega) (by omega),AK (by omega) (by omega)];rfl
theorem YJ{k:Int}:Hc k=some (((),()),(An k,())):=by
 unfold Hc Uk An;rw[Av];simp only[AD];rcases AKU (BM k 0 255)with hk|hk
 rotate_left
 ·simp_all
 rw[hk,ALy rfl];have hk':=Ah.1 hk;have key:∀(n i:Nat) (b:AAO),i≤8→8-i<n→b.length≤i→
   KF n k i b=some (((),()),(b++(([0,1,2,3,4,5,6,7]:AAO).drop i).filter (fun i=>(k/2^i.toNat)%2==1),())):=by
  intro n
  induction n with
  |zero=>omega
  |succ n ih=>
   intro i b hi h hb;simp only[KF,UI,AB];by_cases Dd:i<8
   ·have ABW:=ua (k:=k) (i:=i) (by omega) (by omega)
    rw[ALy (show(i:Int)<8 by omega),AMD (by omega),AMV,sx i Dd,ATI,AMV,AK (by omega) (by omega),show((i:Int)+1)=((i+1:Nat):Int)by omega];rw[ABW];simp only[AB];have c2:b.length+1≤Dr:=by rw[BT];omega
    by_cases hb':(k/2^i)%2=1
    ·rw[ALy hb',ALy c2,ALy (by simp_all),ih (i+1) _ (by omega) (by omega) (by simp_all),AM8]
     rfl
    grind
   ·have:i=8:=by omega
    simp_all
 have:=key Ae 0 [] (by omega) (Ag (by omega)) (by simp);simp_all
theorem O4{r:AQ}(h:Af B8 r.1≤2^30){e:Int}(he:C0 e):Ik r e=some (((),()),(Ao r.1 e,())):=by
 unfold Ik Ao;have hl:=AX (f:=B8) (l:=r.1);rw[Av];simp only[AD];rcases AKU (BM e 1 r.1.length)with hk|hk
 rotate_left
 ·simp_all
 rw[hk,ALy rfl];have hk':=Ah.1 hk;have hm:=Aa (f:=B8) (BG (d:=GJ) (i:=(e-1).toNat) (by omega:(e-1).toNat<r.1.length));have hw:B8 (r.1.getD (e-1).toNat GJ)=(r.1.getD (e-1).toNat GJ).1.length:=rfl;rw[AK (by omega) (by omega)];simp only[AMP,AMU];rw[ALy (by omega),show(r.1.getD (e-1).toNat ([],false,0,()))=r.1.getD (e-1).toNat GJ from rfl,Dp (by omega)];rfl
theorem LM{w:AA}(h1:w.Am.length≤2^30)(h2:w.lost.length≤2^30){n:Int}:EN w n=some ((Aj w n,()),()):=by
 unfold EN Aj;have h1':w.2.2.1.length≤2^30:=h1;rw[AK (by omega) (by omega),Av,Z7 (by grind)];grind
theorem Ov{b:Bool}:Jw b=some ((if b then 0 else 4,()),()):=by cases b<;>rfl
theorem gr{x:AM}(h:x.2.1.length≤2^30):Pm x=some (((U_ x.2.1:Int),()),()):=by
 have key:∀(n i:Nat),i≤x.2.1.length→x.2.1.length-i<n→i+U_ (x.2.1.drop i)=U_ x.2.1→JF n x.2.1 x.2.1.length i x.1 x.2.1=some (((U_ x.2.1:Int),()),()):=by
  intro n
  induction n with
  |zero=>omega
  |succ n ih=>
   intro i hi hn hs;simp only[JF,Sa,AB];by_cases hc:i<x.2.1.length
   ·rw[drop_cons hc]at hs
    simp only[U_]at hs;rw[ALy (by omega),ALy (by omega),Ai hc,AK (by omega) (by omega),show((i:Int)+1)=((i+1:Nat):Int)by omega];cases hd:x.2.1[i].2.2.1 with
    |true=>
     grind
    |false=>
     simp_all
   ·rw[AMj (by omega)]at hs
    simp only[U_]at hs;grind
 grind[Pm,Sg,Ae,Ag]
theorem pM{w:AA}(h:gf w)(e:Int):Qi w e=some ((U3 w e,()),()):=by
 have xr:=h.Qp;have hl:=h.lens;have key:∀(n i:Nat),i≤w.AH.length→w.AH.length-i<n→OS n e w.AH w.AH.length i=some (((match(w.AH.drop i).find? (fun x=>x.1==e)with|some x=>(U_ x.2.1:Int)|none=>0),()),()):=by
  intro n
  induction n with
  |zero=>omega
  |succ n ih=>
   intro i hi hn;simp only[OS,Ys,AB];by_cases hc:i<w.AH.length
   ·have Zb:i<w.2.2.2.2.2.2.1.length:=hc
    have hm:Ar w.AH[i]≤Af Ar w.2.2.2.2.2.2.1:=Aa (f:=Ar) (AMh hc);have hw:Ar w.AH[i]=Af BJ w.AH[i].2.1:=rfl;have hlw:=AX (f:=BJ) (l:=w.AH[i].2.1);rw[ALy (by omega),ALy (by omega),Ai hc,AK (by omega) (by omega),show((i:Int)+1)=((i+1:Nat):Int)by omega,drop_cons hc,AUh,show(w.AH[i].1,w.AH[i].2.1,())=w.AH[i]from rfl,gr (by omega),ih (i+1) (by omega) (by omega)];cases w.AH[i].1==e<;>rfl
   grind
 grind[Qi,X9,U3,Ae,Ag]
end Go.M
end
section
set_option maxRecDepth 8000
namespace Go.M
open Go.M.H (AJ AO As Ac AA CN AQ A7 AM AY A3 Ax BC Al CJ Af AX Aa Ap B8 BJ Ar A0 EO CO Cv C_)
theorem wX{x:Int}{t:ACj}(h:t.1.length≤2^30):Qo x t=some ((!t.1.contains x,()),()):=by
 grind[Qo,Ib]
theorem l_{x:Int}{t:ABN}:MN x t=some ((x==t.1,()),()):=rfl
theorem mg{t:ACj×Unit}(h:t.1.1.length≤2^30){l:AAO}(hl:l.length≤2^30):Ch t l=some (((),()),((),l.filter (fun x=> !(!t.1.1.contains x)),())):=by
 have key:∀(n i j:Nat) (b:AAO),i≤j→j≤b.length→b.length≤2^30→b.length-j<n→Bt n t i j b=some (((),()),((),b.take i++(b.drop j).filter (fun x=> !(!t.1.1.contains x)),())):=by
  intro n
  induction n with
  |zero=>omega
  |succ n ih=>
   intro i j b zF hj hb hn;simp only[Bt,Du,AB];by_cases hc:j<b.length
   ·rw[ALy (by omega),ALy (by omega),Ai hc,wX h]
    simp only[AD];rw[AK (x:=(j:Int)+1) (by omega) (by omega),AK (x:=(i:Int)+1) (by omega) (by omega),show((j:Int)+1)=((j+1:Nat):Int)by omega,show((i:Int)+1)=((i+1:Nat):Int)by omega,drop_cons hc,ATI];have n1:=ih (i+1) (j+1) (b.set i b[j]) (by omega) (by grind) (by simp_all) (by grind);have n2:=ih i (j+1) b (by omega) (by omega) hb (by omega);rw[show(t.1,())=t from rfl,n2];rw[AXa (by omega),ATJ (by grind),AXb (AQW _),AXB,AM8,ATy]at n1;rw[ALy (by omega),AMV,n1]
    generalize hx:b[j]=x
    cases(!t.1.1.contains x)<;>rfl
   ·rw[AMD (by omega),AMj (i:=j) (by omega),AMV,AMV]
    simp_all;omega
 have fnd:∀(n i:Nat),i≤l.length→l.length-i<n→ ∃r:Int,B6 n l t l.length i=some ((r,()),())∧((r= -1∧(l.drop i).filter (fun x=> !(!t.1.1.contains x))=l.drop i)∨ ∃q:Nat,r=q∧i≤q∧q<l.length∧((l.take q).drop i).filter (fun x=> !(!t.1.1.contains x))=(l.take q).drop i∧ ∀(h:q<l.length) x,x=l[q]→(!t.1.1.contains x)=true):=by
  intro n
  induction n with
  |zero=>omega
  |succ n ih=>
   intro i hi hn;simp only[B6,D4,AB];by_cases hc:i<l.length
   ·rw[ALy (by omega),ALy (by omega),Ai hc,wX h]
    simp only[AD];rw[AK (x:=(i:Int)+1) (by omega) (by omega),show((i:Int)+1)=((i+1:Nat):Int)by omega,show(t.1,())=t from rfl];obtain⟨r,e,hr⟩:=ih (i+1) (by omega) (by omega);rw[e]
    generalize hx:l[i]=x
    cases hp:(!t.1.1.contains x)with
    |true=>
     grind
    |false=>
     refine⟨r,rfl,?_⟩;rcases hr with⟨h1,h2⟩|⟨q,h1,h2,h3,h4,h5⟩
     ·grind[drop_cons]
     ·refine .inr ⟨q,h1,by omega,h3,?_,h5⟩
      grind[drop_cons]
   grind
 obtain⟨r,e,hr⟩:=fnd Ae 0 (by omega) (Ag (by omega));rw[show((0:Nat):Int)=0 from rfl]at e;unfold Ch Dw Dg D2;rw[show(t.1,())=t from rfl,e];simp only[AD];rcases hr with⟨h1,h2⟩|⟨q,h1,h2,h3,h4,h5⟩
 ·grind
 ·rw[h1,AQJ.2 (by omega),AMU,AK (by omega) (by omega),show((q:Int)+1)=((q+1:Nat):Int)by omega,key Ae q (q+1) l (by omega) (by omega) hl (Ag (by omega))]
  rw[ATC]at h4;have hd:=h5 h3 _ rfl;grind[List.take_append_drop,drop_cons]
theorem aX{t:AC_}{l:AAO}(hl:l.length≤2^30):Ci t l=some (((),()),((),l.filter (fun x=> !(x==t.1.1)),())):=by
 have key:∀(n i j:Nat) (b:AAO),i≤j→j≤b.length→b.length≤2^30→b.length-j<n→Bp n t i j b=some (((),()),((),b.take i++(b.drop j).filter (fun x=> !(x==t.1.1)),())):=by
  intro n
  induction n with
  |zero=>omega
  |succ n ih=>
   intro i j b zF hj hb hn;simp only[Bp,Eh,AB];by_cases hc:j<b.length
   ·rw[ALy (by omega),ALy (by omega),Ai hc,l_]
    simp only[AD];rw[AK (x:=(j:Int)+1) (by omega) (by omega),AK (x:=(i:Int)+1) (by omega) (by omega),show((j:Int)+1)=((j+1:Nat):Int)by omega,show((i:Int)+1)=((i+1:Nat):Int)by omega,drop_cons hc,ATI];have n1:=ih (i+1) (j+1) (b.set i b[j]) (by omega) (by grind) (by simp_all) (by grind);have n2:=ih i (j+1) b (by omega) (by omega) hb (by omega);rw[show(t.1,())=t from rfl,n2];rw[AXa (by omega),ATJ (by grind),AXb (AQW _),AXB,AM8,ATy]at n1;rw[ALy (by omega),AMV,n1]
    generalize hx:b[j]=x
    cases(x==t.1.1)<;>rfl
   ·rw[AMD (by omega),AMj (i:=j) (by omega),AMV,AMV]
    simp_all;omega
 have fnd:∀(n i:Nat),i≤l.length→l.length-i<n→ ∃r:Int,Bv n l t l.length i=some ((r,()),())∧((r= -1∧(l.drop i).filter (fun x=> !(x==t.1.1))=l.drop i)∨ ∃q:Nat,r=q∧i≤q∧q<l.length∧((l.take q).drop i).filter (fun x=> !(x==t.1.1))=(l.take q).drop i∧ ∀(h:q<l.length) x,x=l[q]→(x==t.1.1)=true):=by
  intro n
  induction n with
  |zero=>omega
  |succ n ih=>
   intro i hi hn;simp only[Bv,E6,AB];by_cases hc:i<l.length
   ·rw[ALy (by omega),ALy (by omega),Ai hc,l_]
    simp only[AD];rw[AK (x:=(i:Int)+1) (by omega) (by omega),show((i:Int)+1)=((i+1:Nat):Int)by omega,show(t.1,())=t from rfl];obtain⟨r,e,hr⟩:=ih (i+1) (by omega) (by omega);rw[e]
    generalize hx:l[i]=x
    cases hp:(x==t.1.1)with
    |true=>
     grind
    |false=>
     refine⟨r,rfl,?_⟩;rcases hr with⟨h1,h2⟩|⟨q,h1,h2,h3,h4,h5⟩
     ·grind[drop_cons]
     ·refine .inr ⟨q,h1,by omega,h3,?_,h5⟩
      grind[drop_cons]
   grind
 obtain⟨r,e,hr⟩:=fnd Ae 0 (by omega) (Ag (by omega));rw[show((0:Nat):Int)=0 from rfl]at e;unfold Ci Ed Dv E4;rw[show(t.1,())=t from rfl,e];simp only[AD];rcases hr with⟨h1,h2⟩|⟨q,h1,h2,h3,h4,h5⟩
 ·grind
 ·rw[h1,AQJ.2 (by omega),AMU,AK (by omega) (by omega),show((q:Int)+1)=((q+1:Nat):Int)by omega,key Ae q (q+1) l (by omega) (by omega) hl (Ag (by omega))]
  rw[ATC]at h4;have hd:=h5 h3 _ rfl;grind[List.take_append_drop,drop_cons]
theorem aP{a b:AAO}(ha:a.length≤2^30)(hb:b.length≤2^30):Mp a b=some (((),()),(a.filter b.contains,())):=by
 unfold Mp;rw[Dp ha];simp only[AD];rw[mg hb ha];grind
theorem PN{a:AAO}{x:Int}(ha:a.length≤2^30):HK a x=some (((),()),(less a [x],())):=by
 unfold HK less;rw[Dp ha];simp only[AD];rw[aX ha];grind
theorem o7{d:BC}:Yh d=some ((PM d,()),()):=by
 obtain⟨k,a,b,n,t,⟨⟩⟩:=d;obtain⟨m,hm⟩:∃m,Ae=m+4:=⟨Ae-4,by have:=dw;omega⟩;have fin:∀(a' b' n':Int) (t':ACC),(((A5 k 1 16).bind fun u4=>cond (u4.1.1) (cond ((((0:Int)==0)&&((a' ==0)&&((b' ==0)&&((n' ==0)&&((t' ==[])&&true))))) ) ((F4 t).bind fun u6=>some ((u6.1.1,()),())) (some ((false,()),()))) (some ((false,()),()))):Option PX)=some ((BM k 1 16&&((a' ==0)&&((b' ==0)&&((n' ==0)&&((t' ==[])&&decide (t.length≤40))))),()),()):=by
  intro a' b' n' t';rw[Av];simp only[AD,F4,AXU,AMk,ATW];have e:decide ((t.length:Int)≤40)=decide (t.length≤40):=by grind
  grind
 unfold Yh X0 bB PM eC;rw[hm];have h1:((1:Nat):Int)=1:=rfl;have w1:AZ (1:Int)=1:=AK (by omega) (by omega);have w2:AZ (2:Int)=2:=AK (by omega) (by omega);have w3:AZ (3:Int)=3:=AK (by omega) (by omega);have lim:(3:Nat)≤Dr:=by rw[BT];omega
 have l0:(0:Nat)≤Dr:=by omega
 have l1:(1:Nat)≤Dr:=by omega
 have l2:(2:Nat)≤Dr:=by omega
 dsimp only;by_cases k8:k=8
 ·subst k8
  simpa[Dk,DI]using fin a b n t
 by_cases k10:k=10
 ·subst k10
  simpa[Dk,DI]using fin a b n t
 by_cases k12:k=12
 ·subst k12
  simpa[Dk,DI]using fin a b n t
 by_cases k2:k=2
 ·subst k2
  simpa[Dk,DI,l2,w1,w2]using fin 0 b n []
 by_cases k3:k=3
 ·subst k3
  simpa[Dk,DI,lim,w1,w2,w3]using fin 0 0 0 t
 by_cases k5:k=5
 ·subst k5
  simpa[Dk,DI,l2,w1,w2]using fin 0 0 n t
 by_cases k14:k=14
 ·subst k14
  simpa[Dk,DI,l2,w1,w2]using fin 0 0 n t
 by_cases k11:k=11
 ·subst k11
  simpa[Dk,DI,l2,w1,w2]using fin a 0 0 t
 by_cases k13:k=13
 ·subst k13
  simpa[Dk,DI,l1,w1]using fin 0 b n t
 have e8:(k==8)=false:=AQJ.2 k8;have e10:(k==10)=false:=AQJ.2 k10;have e12:(k==12)=false:=AQJ.2 k12;have e2:(k==2)=false:=AQJ.2 k2;have e3:(k==3)=false:=AQJ.2 k3;have e5:(k==5)=false:=AQJ.2 k5;have e14:(k==14)=false:=AQJ.2 k14;have e11:(k==11)=false:=AQJ.2 k11;have e13:(k==13)=false:=AQJ.2 k13;simpa[k8,k10,k12,k2,k3,k5,k14,k11,k13,e8,e10,e12,e2,e3,e5,e14,e11,e13,Dk,DI,l1,w1]using fin 0 b n t
end Go.M
end
section
set_option maxRecDepth 8000
namespace Go.M
open Go.M.H (AJ AO As Ac AA CN AQ A7 AM AY A3 Ax BC Al CJ Af AX Aa Ap B8 BJ Ar A0 EO CO Cv C_)
theorem nO{l:List Ax}(hl:l.length≤2^20):Od l=some (((),()),(l.map (fun a=>a.1),())):=by
 have key:∀(n i:Nat) (b:AAO),i≤l.length→l.length-i<n→b.length=i→Mj n l l.length i b=some (((),()),(b++(l.drop i).map (fun a=>a.1),())):=by
  intro n
  induction n with
  |zero=>omega
  |succ n ih=>
   intro i b hi h hb;simp only[Mj,XI,AB];by_cases Zb:i<l.length
   ·have c1:(0:Int)≤(i:Int)∧(i:Int)<(l.length:Int):=by omega
    have c2:b.length+1≤Dr:=by rw[BT];omega
    rw[ALy c1.2,ALy c1,ALy c2,AK (by omega) (by omega),show((i:Int)+1)=((i+1:Nat):Int)by omega,Ai Zb,ih (i+1) _ (by omega) (by omega) (by simp_all),drop_cons Zb];grind
   grind
 unfold Od Xd;have:=key Ae 0 [] (by omega) (Ag (by omega)) rfl;simp_all
theorem th{c:B9}{s l:AAO}(hc:c.1.length≤2^40)(hl:l.length≤2^20)(hs:s.length≤2^20):eF c s l=some (((),()),(if Ay c s&&Ay c l then less s l else[],())):=by
 have key:∀(n i:Nat) (b:AAO),i≤s.length→s.length-i<n→b.length≤i→RH n l s s.length i b=some (((),()),(b++less (s.drop i) l,())):=by
  intro n
  induction n with
  |zero=>omega
  |succ n ih=>
   intro i b hi h hb;simp only[RH,cA,AB,Az];by_cases Zb:i<s.length
   ·have c1:(0:Int)≤(i:Int)∧(i:Int)<(s.length:Int):=by omega
    have c2:b.length+1≤Dr:=by rw[BT];omega
    rw[ALy c1.2,ALy c1,Ai Zb,Ib (by omega),AK (by omega) (by omega),show((i:Int)+1)=((i+1:Nat):Int)by omega,drop_cons Zb];simp only[AD,ALy c2];rw[ih (i+1) b (by omega) (by omega) (by omega),ih (i+1) (b++[s[i]]) (by omega) (by omega) (by simp_all)];grind[less]
   ·rw[AMD (by omega),AMj (by omega)]
    simp[less]
 unfold eF bh;rw[show(c.1,c.2.1,())=c from rfl,EA hc (by omega),EA hc (by omega)];simp only[AD];cases Ay c s with
 |false=>rfl
 |true=>
  cases Ay c l with
  |false=>rfl
  |true=>
   have:=key Ae 0 [] (by omega) (Ag (by omega)) (by simp);simp_all
theorem filter_all{l:AAO}{p:Int→Bool}:((((l.filter p).length:Nat):Int) !=(l.length:Int))= !l.all p:=by
 rw[Bool.eq_iff_iff];simp only[bne_iff_ne,ne_eq,AS9,ATX];grind[List.filter_eq_self,List.all_eq_true,List.length_filter_eq_length_iff]
theorem cW{c:B9}{s l:AAO}(hc:c.1.length≤2^40)(hl:l.length≤2^20)(hs:s.length≤2^20):Gw c s l=some ((JT c s l,()),()):=by
 unfold Gw JT;rw[show(c.1,c.2.1,())=c from rfl,EA hc (by omega),GK hc (by omega),aP (by omega) (by omega),th hc hl hs];simp only[AD,Az,filter_all];have hh:holds c s=true→Ay c s=true:=fun h=>by
  unfold holds at h;simp_all
 cases h1:Ay c l with
 |false=>simp
 |true=>
  cases h2:holds c s with
  |false=>rfl
  |true=>
   cases h3:l.all s.contains with
   |false=>rfl
   |true=>
    have h4:(less s l).length≤2^20:=ASs (AS6 _ _) hs;rw[hh h2];simp only[AMp,Bool.and_self,AS_,AMP,AMU,AMk];grind[GK]
theorem XK{a b:AJ}:Qq a b=some ((better a b,()),()):=by
 unfold Qq better;grind
theorem pO{s:AAO}{p:Int}{l:List Ax}(hs:s.length≤2^20)(hl:l.length≤2^20)(PY:∀a∈l,C0 a.2.2.1):
  X3 l s p=some (((((FX s p none l).getD Dn),(FX s p none l).isSome,()),()),()):=by
 have key:∀(n i:Nat) (b:Option AJ),i≤l.length→l.length-i<n→
   N7 n s p b.isSome l l.length i 0 0 false [] (b.getD Dn).1 (b.getD Dn).2.1 (b.getD Dn).2.2.1 (b.getD Dn).2.2.2.1=some (((((FX s p b (l.drop i)).getD Dn),(FX s p b (l.drop i)).isSome,()),()),()):=by
  intro n
  induction n with
  |zero=>omega
  |succ n ih=>
   intro i b hi h;simp only[N7,Yp,AB,Az];by_cases Zb:i<l.length
   ·have c1:(0:Int)≤(i:Int)∧(i:Int)<(l.length:Int):=by omega
    rw[ALy c1.2,ALy c1,AK (by omega) (by omega),show((i:Int)+1)=((i+1:Nat):Int)by omega,Ai Zb,drop_cons Zb];have ih':=fun b=>ih (i+1) b (by omega) (by omega)
    simp only[ih'];rw[Ib (by omega),show(l[i].2.2.1,l[i].2.2.2.1,l[i].2.2.2.2.1,l[i].2.2.2.2.2.1,())=Uv l[i]from rfl];rw[Pw (e:=Uv l[i]) (PY _ (AMh Zb))];simp only[AD,FX];cases h1:l[i].2.1 with
    |false=>simp
    |true=>
     cases h2:s.contains l[i].1 with
     |false=>simp
     |true=>
      cases h3:ET (Uv l[i])with
      |false=>simp
      |true=>
       simp only[AMp,AMk];by_cases h4:l[i].2.2.1=p
       ·rw[Cp,ALy h4,ALy (by show((Uv l[i]).1==p)=true;rw[ATQ];exact h4)]
        cases b with
        |none=>
         simp only[ATN,AMU,XK,AD,Option.getD_none];have:=ih' (some (Uv l[i]));simp only[ATO,ATK]at this;have hb:better (Uv l[i]) (Uv l[i])=Uv l[i]:=by unfold better;simp_all
         simp_all
        |some x=>
         simp only[ATO,AMp,ATK];rw[show(x.1,x.2.1,x.2.2.1,x.2.2.2.1,())=x from rfl];grind[XK,AD,better,Uv,Option.isSome_some]
       ·rw[Cp,AMD h4,AMD (by show¬((Uv l[i]).1==p)=true;rw[ATQ];exact h4)]
   ·rw[AMD (by omega),AMj (by omega)]
    rfl
 unfold X3 Yw;exact key Ae 0 none (by omega) (Ag (by omega))
theorem bN{s t:AAO}{p:Int}:∀{l:List Ax} {b:Option AJ},(∀a∈l,s.contains a.1=t.contains a.1)→FX s p b l=FX t p b l
 |[],b,_=>rfl
 |a::l,b,h=>by
  simp only[FX];rw[h a (by simp),bN (fun x hx=>h x (by simp[hx])),bN (fun x hx=>h x (by simp[hx]))]
theorem VA{e:A3}{a b:Int}{l:List A3}(h:l.length≤2^30):E9 e a b l=some (((),()),((a,b,(),()),(),l++[e],())):=by
 unfold E9;rw[ALy (by rw[BT];omega)]
theorem dD{s:AAO}{l:List Ax}{a b:Int}{o:List A3}(ha:1≤a∧a≤30)(hb:1≤b∧b≤60)(ho:o.length≤2^20)(hs:s.length≤2^20)(hl:l.length≤2^20)(PY:∀a∈l,C0 a.2.2.1):
  C1 l s a b o=some (((),()),((a,b+1,(),()),(),o++[HC (D1 a b) (FX s (D1 a b) none l)],())):=by
 unfold C1;rw[Hw];have hp:Gd a b=D1 a b:=by
  unfold Gd;rw[ALy (by rw[AML,Ah,Ah];omega)]
 simp only[AD];rw[hp,pO hs hl PY];simp only[AD,VA (ASs ho (by omega))];rw[AK (by omega) (by omega)];cases FX s (D1 a b) none l with
 |none=>rfl
 |some x=>
  simp only[ATO,AMP,AMU,ATK,HC];grind
theorem zq{x e o:Int}(hx:x=0∨BN x=true)(he:1≤e∧e≤31)(ho:1≤o∧o≤61):
  decide (x≥D1 e o)=(decide (x>0)&& !(decide (AN x<e)||((AN x==e)&&decide (A6 x<o)))):=by
 rcases hx with rfl|hx
 ·grind[decide_eq_false,D1]
 ·have h:=CF hx
  rw[Bool.eq_iff_iff];simp only[AML,AS9,Bool.or_eq_false_iff,AMc,AUA,Bool.and_eq_false_iff,AQJ];grind[D1]
theorem mf{x:Int}{r:AY}(hx:C0 x):KQ x r=some ((decide (AN x<r.1)||((AN x==r.1)&&decide (A6 x<r.2.1)),()),()):=by
 grind[KQ,EB,Tg,AD,decide,AN]
end Go.M
end
section
set_option maxRecDepth 8000
namespace Go.M
open Go.M.H (AJ AO As Ac AA CN AQ A7 AM AY A3 Ax BC Al CJ Af AX Aa Ap B8 BJ Ar A0 EO CO Cv C_)
theorem gv{c:B9}{g:AQ}{sure:Int}{r:AY}{l:List Ax}(hc:c.1.length≤2^20)(hg:Af B8 g.1≤2^20)(ht:C0 g.2.1)(hl:l.length≤2^20)(PY:∀a∈l,C0 a.2.2.1):
  Jp c g sure r l=some (yH (Bz c g sure r l)):=by
 unfold Jp Bz;rw[show(c.1,c.2.1,())=c from rfl,show(g.1,g.2.1,())=g from rfl,show(r.1,r.2.1,r.2.2.1,())=r from rfl,nO hl,Mn (by omega) (by omega) ht,aJ];simp only[AD,Az,AB];rw[EA (by omega) (by grind)];simp only[AD];cases h1:Mc c g with
 |false=>rfl
 |true=>
 cases h2:XF r with
 |false=>rfl
 |true=>
 cases h3:Ay c (l.map fun a=>a.1)with
 |false=>rfl
 |true=>
 have hr:=Qs.1 h2;have hre:=hr.ep;have hro:=hr.off;have hrn:=hr.n;have hR:=Iz.1 h1;have hRn:=hR.n;simp only[AMp,AMk,AMP,AMO,AOR];rw[XM (by omega)];simp only[AD];by_cases h4:r.1>(g.1.length:Int)
 ·rw[ALy h4,ASn h4];rfl
 rw[AMD h4,ATM h4];by_cases h5:r.2.2.1.length=120
 ·rw[show(((r.2.2.1.length:Nat):Int)==120)=true by simp_all,ASn h5];rfl
 rw[show(((r.2.2.1.length:Nat):Int)==120)=false by grind,ATM h5];simp only[AMU,AS7,AMO,AOR];rw[AK (x:=r.1-1) (by omega) (by omega),mf ht,EB ht,Tg ht];simp only[AD];have hto:=iX (x:=g.2.1);rw[AK (x:=A6 g.2.1+1) (by omega) (by omega),AK (x:=r.1+1) (by omega) (by omega)];simp only[VA (l:=r.2.2.1) (by omega),AD];have hta:=zq (x:=g.2.1) (e:=r.1) (o:=r.2.1) (hR.trim.imp id fun h=>h.1) hre hro
 generalize AC2:g.1.getD (r.1-1).toNat GJ=era
 have Kg:(r.1-1).toNat<g.1.length:=by omega
 have T7:era.1.length≤2^20:=by
  have h7:=Aa (f:=B8) (BG (d:=GJ) Kg);rw[AC2]at h7;have:B8 era=era.1.length:=rfl;omega
 have hd:g.1.getD (r.1-1).toNat ([],false,0,())=era:=AC2;rw[hd];have hf:((l.map fun a=>a.1).filter era.1.contains).length≤2^20:=ASs (AS6 _ _) (by simp_all);rw[aP (by grind) (by omega)];simp only[AD];rw[cW (by omega) hf T7];simp only[AD];have AaL:(0:Int)≤r.1-1∧r.1-1<(g.1.length:Int):=by omega
 simp only[ALy AaL]
 generalize hT:(cond (era.2.1) _ _:Option J_)=T
 have x_:T=some (yH (if era.2.1&&decide (r.2.1>era.2.2.1)then((r.1+1,1,r.2.2.1++[(4,r.1+1,[],())],()),0)else
   if(!era.2.1&&decide (r.2.1>sure))||decide (r.2.1>60)then(r,2)else
   if !JT c era.1 ((l.map fun a=>a.1).filter era.1.contains)then(r,3)else
   ((r.1,r.2.1+1,r.2.2.1++[HC (D1 r.1 r.2.1) (FX era.1 (D1 r.1 r.2.1) none l)],()),0))):=by
  rw[←hT];clear hT;have tail:r.2.1≤60→(cond (JT c era.1 ((l.map fun a=>a.1).filter era.1.contains))
    ((C1 l ((l.map fun a=>a.1).filter era.1.contains) r.1 r.2.1 r.2.2.1).bind fun SV=>some ((((SV.2.1.1,SV.2.1.2.1,(),()),0,()),()),(SV.2.2.2.1,())))
    (some ((((r.1,r.2.1,(),()),3,()),()),(r.2.2.1,()))):Option J_)=some (yH (if !JT c era.1 ((l.map fun a=>a.1).filter era.1.contains)then(r,3)else
    ((r.1,r.2.1+1,r.2.2.1++[HC (D1 r.1 r.2.1) (FX era.1 (D1 r.1 r.2.1) none l)],()),0))):=by
   intro h60;rw[dD (by omega) (by omega) (by omega) hf hl PY];rw[bN (s:=(l.map fun a=>a.1).filter era.1.contains) (t:=era.1) (fun a ha=>by
    rw[Bool.eq_iff_iff,AVf,ATL];exact⟨fun h=>by simp_all,fun h=>⟨List.mem_map_of_mem ha,by omega⟩⟩)]
   cases JT c era.1 ((l.map fun a=>a.1).filter era.1.contains)<;>rfl
  cases h7:era.2.1 with
  |true=>
   simp only[AMp,AMU,AMk,AMP,ATE,AS7,AMc];by_cases h8:r.2.1>era.2.2.1
   ·rw[ALy h8,ALy h8];rfl
   rw[AMD h8,AMD h8];by_cases h9:r.2.1>60
   ·rw[ALy h9,ALy h9];rfl
   grind
  |false=>
   simp only[AMp,AMU,AMk,AS5,ATE,AMO,AOR,AS8,AMc];by_cases h8:r.2.1>sure
   ·rw[ALy h8,ALy (.inl h8)];rfl
   rw[AMD h8];by_cases h9:r.2.1>60
   ·rw[ALy h9,ALy (.inr h9)];rfl
   grind
 rw[x_];clear hT x_
 generalize (decide (AN g.2.1<r.1)||((AN g.2.1==r.1)&&decide (A6 g.2.1<r.2.1)))=B at hta⊢
 by_cases h6:g.2.1≥D1 r.1 r.2.1
 ·rw[ASn h6]at hta
  rw[ALy h6];by_cases h0:g.2.1>0
  ·rw[ALy h0]
   cases B with
   |true=>grind
   |false=>rfl
  simp_all
 ·rw[AMD h6]
  simp_all
end Go.M
end
section
set_option maxRecDepth 8000
namespace Go.M
open Go.M.H (AJ AO As Ac AA CN AQ A7 AM AY A3 Ax BC Al CJ Af AX Aa Ap B8 BJ Ar A0 EO CO Cv C_)
theorem ABT{w:AA}{p n:Int}:(answer w p n).1=n:=by
 grind[answer]
theorem pA{w:AA}{p:Int}{ns:AAO}:(answers w p ns).map (fun a=>a.1)=ns.filter fun n=>Aj w n==0:=by
 unfold answers;rw[AUo]
 conv=>rhs;rw[←List.map_id (ns.filter fun n=>Aj w n==0)]
 grind[List.map_congr_left,ABT]
theorem lS{c:B9}{g:AQ}{s:Int}{r:AY}{w:AA}{ns:AAO}:
  Bz c g s r (answers w (Gd r.1 r.2.1) ns)=Bz c g s r (answers w (D1 r.1 r.2.1) ns):=by
 unfold Bz;rw[pA,pA];cases h1:Mc c g with
 |false=>rfl
 |true=>
 cases h2:XF r with
 |false=>rfl
 |true=>
 have hr:=Qs.1 h2;have hre:=hr.ep;have hro:=hr.off;have hRn:=(Iz.1 h1).n;by_cases h3:r.1≤30∧r.2.1≤60
 ·have:Gd r.1 r.2.1=D1 r.1 r.2.1:=by
   unfold Gd;rw[ALy (by rw[AML,Ah,Ah];omega)]
  rw[this]
 ·by_cases h4:r.1>(g.1.length:Int)
  ·simp_all
  ·have h5:r.2.1>60:=by omega
   simp_all
def jn(q:AA×Int):KC:=((q.2,()),(((),q.1.2.1,(),(),(),q.1.2.2.2.2.2.1,(),(),(),(),q.1.2.2.2.2.2.2.2.2.2.2.1,()),q.1.1,q.1.2.2.1,q.1.2.2.2.1,q.1.2.2.2.2.1,q.1.2.2.2.2.2.2.1,q.1.2.2.2.2.2.2.2.1,q.1.2.2.2.2.2.2.2.2.1,q.1.2.2.2.2.2.2.2.2.2.1,()))
theorem AII{k n:Int}(h:n∈An k):0≤n∧n≤7:=by
 unfold An at h;simp_all;omega
theorem vk{k:Int}:(An k).length≤8:=by
 unfold An;split
 ·exact ASs (AS6 _ _) (by simp)
 ·simp
section
variable{w:AA} (h:NN w) (Xq:gf w)
include h Xq
omit Xq in
theorem zk{p:Int}{ns:AAO}:∀a∈answers w p ns,C0 a.2.2.1:=fun a ha=>by
 unfold answers at ha;obtain⟨n,hn,rfl⟩:=ATS.1 ha;have hn':Aj w n=0:=by have:=(ATL.1 hn).2;rwa [ATQ]at this
 unfold answer;split
 ·rename_i e he
  have:=(h.store hn').kept e (ATZ he);exact JS (FM.1 this).pl
 ·exact⟨by show-9223372036854775808≤(0:Int);omega,by show(0:Int)<9223372036854775808;omega⟩
theorem gz{a k:Int}:MW a k w.2.1 w.2.2.2.2.2.1 w.2.2.2.2.2.2.2.2.2.2.1 w.1 w.2.2.1 w.2.2.2.1 w.2.2.2.2.1 w.2.2.2.2.2.2.1 w.2.2.2.2.2.2.2.1 w.2.2.2.2.2.2.2.2.1 w.2.2.2.2.2.2.2.2.2.1=some (jn (H8 w a k)):=by
 have kn:=h.nums;have k1:=kn.c;have k3:=kn.lost;have k4:=kn.st;have hY:=kn.Jd;have jh:=kn.hU;have k5:=kn.era;have k6:=kn.ws;have k6':Af Al w.Am≤80008:=kn.ws;have k8:=kn.rd;unfold MW M5 H8;rw[AK (by omega) (by omega),show((w.2.2.2.2.2.2.2.2.1.length:Int)-1)=1 by omega,Av];simp only[AD,Az];rcases AKU (BM a 0 1)with h1|h1
 rotate_left
 ·rw[h1];rfl
 have h1':=Ah.1 h1;have hb:0≤a∧a<(w.2.2.2.2.2.2.2.2.1.length:Int):=by omega
 have Kg:a.toNat<w.AR.length:=by
  simp_all
 have Xn:=h.AR _ (BG (d:=Au) Kg);rw[h1,Fl,AMp,ALy hb,YJ];simp only[show w.2.2.2.2.2.2.2.2.1.getD a.toNat (0,0,[],())=w.AR.getD a.toNat Au from rfl]
 generalize hx:w.AR.getD a.toNat Au=r at Xn⊢
 have hre:=Xn.ep;have hro:=Xn.off;rw[Hw];simp only[AD];have vT:=vk (k:=k);have hmi:=fun n=>AII (k:=k) (n:=n)
 rw[←lS]
 generalize hp:Gd r.1 r.2.1=p
 have PY:=fun ns=>zk h (p:=p) (ns:=ns)
 generalize An k=ms at vT hmi
 have key:∀(n i:Nat) (b:List Ax),i≤ms.length→ms.length-i<n→b.length≤i→b=answers w p (ms.take i)→
   C5 n a p ms.length i w.2.1 w.2.2.2.2.2.1 w.2.2.2.2.2.2.2.2.2.2.1 w.1 w.2.2.1 w.2.2.2.1 w.2.2.2.2.1 w.2.2.2.2.2.2.1 w.2.2.2.2.2.2.2.1 w.2.2.2.2.2.2.2.2.1 w.2.2.2.2.2.2.2.2.2.1 r.1 r.2.1 r.2.2.1 b ms=
    some (jn (if(Bz (AS w) (B3 w) (U3 w r.1) r (answers w p ms)).2≠0 then(w,5)else(w.Cw (w.AR.set a.toNat (Bz (AS w) (B3 w) (U3 w r.1) r (answers w p ms)).1),0))):=by
  intro n
  induction n with
  |zero=>omega
  |succ n ih=>
   intro i b hi hn hb' he;simp only[C5,NA,AB,Az];by_cases Dd:i<ms.length
   ·have c1:(0:Int)≤(i:Int)∧(i:Int)<(ms.length:Int):=by omega
    have c2:b.length+1≤Dr:=by rw[BT];omega
    have ht:ms.take (i+1)=ms.take i++[ms[i]]:=ATJ Dd;rw[ALy c1.2,ALy c1,Ai Dd,AK (by omega) (by omega),show((i:Int)+1)=((i+1:Nat):Int)by omega,show(w.1,w.2.1,w.2.2.1,w.2.2.2.1,w.2.2.2.2.1,w.2.2.2.2.2.1,w.2.2.2.2.2.2.1,w.2.2.2.2.2.2.2.1,w.2.2.2.2.2.2.2.2.1,w.2.2.2.2.2.2.2.2.2.1,w.2.2.2.2.2.2.2.2.2.2.1,())=w from rfl,Z7 (by omega)];simp only[AD];have hm:=hmi _ (AMh Dd);by_cases hn0:Aj w ms[i]=0
    ·obtain⟨n1,n2,n3⟩:=EG hn0
     have n2':ms[i]<(w.2.2.1.length:Int):=n2;have n3':w.2.2.2.1.contains ms[i]=false:=by
      simp_all
     have hs1:(ms[i]).toNat<w.2.2.1.length:=by omega
     have Za:w.2.2.1.getD (ms[i]).toNat ([],[],0,())=storeAt w ms[i]:=rfl;have hsm:Al (storeAt w ms[i])≤2^30:=ASs (Aa (f:=Al) (BG (d:=Cl) hs1)) (by omega);have Aas:CB (storeAt w ms[i])=true:=DN.2 (h.store hn0);rw[ALy n2',n3',AMU,ALy ⟨n1,n2'⟩,Za,show((storeAt w ms[i]).1,(storeAt w ms[i]).2.1,(storeAt w ms[i]).2.2.1,())=storeAt w ms[i]from rfl,TN hsm (h.store hn0).sin];simp only[AD];rw[ALy c2];refine ih (i+1) _ (by omega) (by omega) (by simp_all) ?_
     rw[ht,he];unfold answers;rw[List.filter_append,List.map_append];congr 1;rw[ATI,ALy (by simp_all),AXZ,AVJ,AXI];congr 1;unfold answer Xc;rw[ALy Aas];cases Ek p (storeAt w ms[i]).1<;>rfl
    ·have n1:=ih (i+1) b (by omega) (by omega) (by omega) (by
      rw[ht,he];unfold answers;rw[List.filter_append,List.map_append,ATI,AMD (by simp_all),AXZ,AXI,AM5])
     by_cases hl:ms[i]<(w.2.2.1.length:Int)
     ·rw[ALy hl]
      have AVt:w.2.2.2.1.contains ms[i]=true:=by
       cases hc:w.2.2.2.1.contains ms[i]with
       |true=>rfl
       |false=>
        exfalso
        apply hn0;unfold Aj;have e1:BM ms[i] 0 ((w.Am.length:Int)-1)=true:=Ah.2 (by omega);simp_all
      simp_all
     grind
   ·have e0:ms.take i=ms:=ATH (by omega)
    rw[e0]at he;subst he;have hal:(answers w p ms).length≤8:=by omega
    rw[AMD (by omega),show(w.1,w.2.1,w.2.2.1,w.2.2.2.1,w.2.2.2.2.1,w.2.2.2.2.2.1,w.2.2.2.2.2.2.1,w.2.2.2.2.2.2.2.1,w.2.2.2.2.2.2.2.2.1,w.2.2.2.2.2.2.2.2.2.1,w.2.2.2.2.2.2.2.2.2.2.1,())=w from rfl,pM Xq,show(r.1,r.2.1,r.2.2.1,())=r from rfl,show(w.1,w.2.1,())=AS w from rfl,show(w.2.2.2.2.1,w.2.2.2.2.2.1,())=B3 w from rfl];simp only[AD];rw[gv (c:=AS w) (g:=B3 w) (by show w.1.length≤_;omega) (by show Af B8 w.2.2.2.2.1≤_;omega) kn.trim (by omega) (PY ms)];simp only[AD,yH,Cp];by_cases h2:(Bz (AS w) (B3 w) (U3 w r.1) r (answers w p ms)).2=0
    ·rw[ALy h2,ALy hb,AMD (fun hh=>hh h2)];rfl
    ·rw[AMD h2,ALy h2];rfl
 grind[Ae,Ag,answers]
end
end Go.M
end
section
set_option maxRecDepth 8000
namespace Go.M
open Go.M.H (AJ AO As Ac AA CN AQ A7 AM AY A3 Ax BC Al CJ Af AX Aa Ap B8 BJ Ar A0 EO CO Cv C_)
theorem pr{c:B9}{g:AQ}{sure:Int}{r:AY}{l:List Ax}(h0:(Bz c g sure r l).2=0):
  (∃e:A3,(Bz c g sure r l).1.2.2.1=r.2.2.1++[e]∧e.2.2.1.length≤40)∧r.2.2.1.length<120:=by
 have hf:∀p,(HC p (FX (g.1.getD (r.1-1).toNat GJ).1 p none l)).2.2.1.length≤40:=fun p=>by
  cases hb:FX (g.1.getD (r.1-1).toNat GJ).1 p none l with
  |none=>show 0≤40;omega
  |some x=>
   have:=(FM.1 (eJ (b:=none) (fun x hx=>by cases hx) x hb)).len;unfold HC;dsimp only;split
   all_goals simp_all
 revert h0
 unfold Bz;dsimp only;split
 ·omega
 rename_i hs;simp only[APC,APY,AML,Qs]at hs;have r3:=hs.2.1.n;split
 ·omega
 rename_i h1;simp only[AS8,AMc,AXi]at h1;have Kg:r.2.2.1.length<120:=by omega
 split
 ·simp_all
 split
 ·simp_all
 split
 ·omega
 split
 all_goals simp_all
theorem NN.ANX{w:AA}(h:NN w)(hr:Af A0 w.AR≤900000):gf w:=by
 have hc:=(GW h.cfg).2.1;have Zb:w.1.length≤8:=hc;have a1:=Fu (f:=Al) (B:=10000) (N:=8) (l:=w.Am) (by rw[h.oR];omega) fun s hs=>(h.UE hs).w
 have a2:=HX h.lost;have a3:=h.lZ.w;have a4:=Fu (f:=Ar) (B:=3000) h.rN fun x hx=>(h.AH x hx).1.w
 have a5:=Fu (f:=CJ) (B:=5000) h.xz fun x hx=>(h.BW x hx).1.w
 have a7:=Fu (f:=EO) (B:=40) h.RG fun s hs=>(h.BX s hs).2.2
 refine⟨?_,fun s hs=>(h.UE hs).sin,h.lZ.tin,fun m hm=>(h.BW m hm).1.ein,fun s hs=>JS (h.BX s hs).1⟩;have a3':Af B8 w.Ab≤270:=a3;grind[Af,A0,Al,B8,Ar,CJ,EO,Cv]
def q7(w:AA)(a:Int):Nat:=(w.AR.getD a.toNat Au).2.2.1.length
theorem r9{α:Type}{f:α→Nat}{x:α}:∀{l:List α} {i:Nat} (h:i<l.length),Af f (l.set i x)+f l[i]=Af f l+f x
 |y::l,0,_=>by simp[Af];omega
 |y::l,i+1,h=>by
  have:=r9 (f:=f) (x:=x) (l:=l) (i:=i) (by simp_all);grind[Af]
theorem sn{α:Type}{f:α→Nat}{x:α}:∀{l:List α},Af f (l++[x])=Af f l+(1+f x)
 |[]=>by simp[Af]
 |y::l=>by
  have:=sn (f:=f) (x:=x) (l:=l);grind[Af]
theorem wx{w:AA}{a k:Int}(h:NN w)(e:(H8 w a k).2=0):BM a 0 1=true∧NN (H8 w a k).1∧q7 (H8 w a k).1 a=q7 w a+1∧q7 w a<120∧
  q7 (H8 w a k).1 (1-a)=q7 w (1-a)∧Af A0 (H8 w a k).1.AR≤Af A0 w.AR+41:=by
 have Br:=vQ h e;unfold H8 at e Br⊢;split at e
 ·omega
 rename_i h1;rw[AMD h1]at Br;rw[AMD h1];dsimp only at e Br⊢;split at e
 ·omega
 rename_i h2;rw[AMD h2]at Br;rw[AMD h2];simp only[ne_eq,AXC]at h2;simp only[APC,APY]at h1;have h1':=Ah.1 h1;have hl:a.toNat<w.AR.length:=by rw[h.mu];omega
 obtain⟨⟨ev,q1,q2⟩,q3⟩:=pr h2
 generalize hq:(Bz (AS w) (B3 w) (U3 w (w.AR.getD a.toNat Au).1) (w.AR.getD a.toNat Au) (answers w (D1 (w.AR.getD a.toNat Au).1 (w.AR.getD a.toNat Au).2.1) (An k))).1=q at q1 Br
 have hg:(w.AR.set a.toNat q).getD a.toNat Au=q:=by simp_all
 have cF:(1-a).toNat≠a.toNat:=by omega
 refine⟨h1,Br,?_,q3,?_,?_⟩
 ·show((w.AR.set a.toNat q).getD a.toNat Au).2.2.1.length=_
  grind[q7]
 ·show((w.AR.set a.toNat q).getD (1-a).toNat Au).2.2.1.length=_
  simp only[List.getD,AS4 (Ne.symm cF)];rfl
 ·show Af A0 (w.AR.set a.toNat q)≤_
  have:=r9 (f:=A0) (x:=q) hl;have e1:A0 q=Af CO q.2.2.1:=rfl;have e2:A0 w.AR[a.toNat]=Af CO w.AR[a.toNat].2.2.1:=rfl;rw[q1,sn,Ny hl]at e1;have e3:CO ev=ev.2.2.1.length:=rfl;omega
structure HR (w v:AA) (a m:Int):Prop where
 ok:NN v
 win:gf v
 stop:(H8 v a 255).2≠0
 cnt:0≤m∧m≤120
 len:(q7 v a:Int)=q7 w a+m
 cy:q7 v (1-a)=q7 w (1-a)
end Go.M
end
section
set_option maxRecDepth 8000
namespace Go.M
open Go.M.H (AJ AO As Ac AA CN AQ A7 AM AY A3 Ax BC Al CJ Af AX Aa Ap B8 BJ Ar A0 EO CO Cv C_)
theorem jZ{α:Type}{q:Nat}{v l:List α}(hq:q≤l.length)(hl:l.length+v.length≤2^30):vY (q:Int) v l=some (l.take q++v++l.drop q):=by
 unfold vY;rw[ALy ⟨by omega,by omega,by rw[BT];omega⟩,AMV]
theorem v8{l:AAO}(ha:S8 id l)(hl:l.length≤2^30)(p:Int):∃q,jR id p l q∧
  GI l p=some ((((q:Int),(match l[q]? with|some e=>e==p|none=>false),()),()),()):=by
 have key:∀(n a b:Nat),a≤b→b≤l.length→b-a<n→(∀(i:Nat) (h:i<l.length),i<a→l[i]<p)→(∀(i:Nat) (h:i<l.length),b≤i→p≤l[i])→
   ∃q,jR id p l q∧Dm n l p l.length a b=some ((((q:Int),(match l[q]? with|some e=>e==p|none=>false),()),()),()):=by
  intro n
  induction n with
  |zero=>omega
  |succ n ih=>
   intro a b rV hb hn h1 h2;simp only[Dm,Jf,AB,cmp_Less_int,cmp_isNaN_int,Ou,bne_self_eq_false,AD,AMU];by_cases Kg:a<b
   ·have hm:(a+b)/2<l.length:=by omega
    rw[ALy (by omega),uZ (by omega),ALy (by omega),Ai hm];by_cases hc:l[(a+b)/2]<p
    ·rw[ALy hc,AK (by omega) (by omega),show((((a+b)/2:Nat):Int)+1)=(((a+b)/2+1:Nat):Int)by omega]
     refine ih _ b (by omega) hb (by omega) (fun i h hi=> ?_) h2;have:=ar (f:=id) ha h hm (by omega);grind
    ·have hge:∀(i:Nat) (h:i<l.length),(a+b)/2≤i→p≤l[i]:=fun i h hi=>by
      have:=ar (f:=id) ha hm h hi;grind
     rw[AMD hc];exact ih a _ (by omega) (by omega) (by omega) h1 hge
   ·have AEE:a=b:=by omega
    subst AEE;refine⟨a,⟨hb,h1,h2⟩,?_⟩;rw[AMD (by omega)];by_cases ha':a<l.length
    ·rw[ALy (by omega),ALy (by omega),Ai ha',AL5 ha']
     dsimp only;cases l[a]==p<;>simp[ha']
    grind
 obtain⟨q,hq,e⟩:=key Ae 0 l.length (by omega) (by omega) (Ag (by omega)) (fun i h hi=>by omega) (fun i h hi=>by omega);refine⟨q,hq,?_⟩;unfold GI Je;omega
theorem oE{x:Int}:∀{l:AAO} {q:Nat},jR id x l q→(∀h:q<l.length,l[q]≠x)→gd x l=l.take q++[x]++l.drop q
 |[],q,h,_=>by
  have:=h.le;have:q=0:=by simp_all
  subst this;rfl
 |y::l,0,h,hn=>by
  have h1:=h.ge 0 (by simp) (AQW _);have h2:=hn (by simp);simp only[AU5,id]at h1 h2;simp only[gd];grind
 |y::l,q+1,h,hn=>by
  have h1:=h.lt 0 (by simp) (by omega);simp only[AU5,id]at h1;simp only[gd];rw[AMD (by omega),oE (l:=l) (q:=q) ⟨by have:=h.le;simp_all,fun i hi hiq=>by have:=h.lt (i+1) (by simp_all) (by omega);simp_all,fun i hi hiq=>by have:=h.ge (i+1) (by simp_all) (by omega);simp_all⟩ (fun hq=>by simp_all)];rfl
theorem O6{l:AAO}{x:Int}(ha:S8 id l)(hl:l.length≤2^29):KU l x=some (((),()),(JG x l,())):=by
 unfold KU JG;rw[Dp (by omega)];simp only[AD];obtain⟨q,hq,e⟩:=v8 ha (by omega) x;rw[e];simp only[AD,Az];by_cases hc:q<l.length
 ·rw[AL5 hc]
  dsimp only;by_cases he:l[q]=x
  ·grind
  ·rw[AQJ.2 he,AMU]
   have hn:l.contains x=false:=by
    rw[ATX,ne_eq,AVf];intro hm;obtain⟨i,hi,rfl⟩:=AQa hm;rcases Nat.lt_or_ge i q with hiq|hiq
    ·have:=hq.lt i hi hiq;simp_all
    ·have h1:=ar (f:=id) ha hc hi hiq
     have h2:=hq.ge q hc (AQW _);grind
   rw[hn,AMD (by simp)];grind[JW,jZ,oE]
 ·rw[ATP (by omega)]
  dsimp only;rw[AMU];have hn:l.contains x=false:=by
   rw[ATX,ne_eq,AVf];intro hm;obtain⟨i,hi,rfl⟩:=AQa hm;have:=hq.lt i hi (by omega);simp_all
  rw[hn,AMD (by simp)];unfold JW;rw[jZ hq.le (by grind),oE hq (fun h=>absurd h hc)];rfl
theorem wy{e:AJ}:∀{l:List AJ} {q:Nat},jR (fun x:AJ=>x.1) e.1 l q→Wq l→
  keep e l=if h:q<l.length then(if l[q].1=e.1 then l.set q (better l[q] e)else l.take q++[e]++l.drop q)else l++[e]
 |[],q,h,_=>by
  rfl
 |y::l,0,h,_=>by
  have h1:=h.ge 0 (by simp) (AQW _);simp only[AU5]at h1;simp only[keep,ANZ,Nat.zero_lt_succ,AXR,AU5];grind
 |y::l,q+1,h,ha=>by
  have h1:=h.lt 0 (by simp) (by omega);simp only[AU5]at h1;have ih:=wy (e:=e) (l:=l) (q:=q) ⟨by have:=h.le;simp_all,fun i hi hiq=>by have:=h.lt (i+1) (by simp_all) (by omega);simp_all,fun i hi hiq=>by have:=h.ge (i+1) (by simp_all) (by omega);simp_all⟩ (ARf.1 ha).2;simp only[keep];grind
theorem aR{e:AJ}{l:List AJ}(ha:Wq l)(hl:l.length≤2^29):WK e l=some (((),()),((),keep e l,())):=by
 unfold WK;obtain⟨q,hq,hs⟩:=dt ha (by omega) e.1;rw[hs,wy hq ha];simp only[AD,Az];by_cases hc:q<l.length
 ·rw[dif_pos hc,AL5 hc]
  dsimp only;have hb:(0:Int)≤(q:Int)∧(q:Int)<(l.length:Int):=by omega
  by_cases he:l[q].1=e.1
  ·rw[ATQ.2 he,AMp,ALy he,ALy hb,Ai hc,show(l[q].1,l[q].2.1,l[q].2.2.1,l[q].2.2.2.1,())=l[q]from rfl,show(e.1,e.2.1,e.2.2.1,e.2.2.2.1,())=e from rfl,XK]
   simp_all
  ·rw[AQJ.2 he,AMU,AMD he]
   grind[Ds,jZ]
 ·have hql:q=l.length:=by have:=hq.le;omega
  rw[dif_neg hc,ATP (by omega)];dsimp only;rw[AMU];grind[Ds,jZ,List.take_length,List.drop_length]
theorem Lv{s:AO}(hw:Al s≤2^30)(hs:qq s):Dj s=some (if CB s then((((),(),s.2.2.1,()),()),(s.1,s.2.1,()))else((((),(),0,()),()),([],[],()))):=by
 obtain⟨l1,l2⟩:=Fm hw;unfold Dj;rw[show(s.1,s.2.1,s.2.2.1,())=s from rfl,Ez hw hs,Hp l1 l2];grind
theorem kO{s:AO}{e:AJ}(hw:Al s≤2^30)(hs:qq s)(he:C0 e.1):T5 s e=some (lq (Fv s e)):=by
 obtain⟨l1,l2⟩:=Fm hw;unfold T5 Fv;rw[show(s.1,s.2.1,s.2.2.1,())=s from rfl,show(e.1,e.2.1,e.2.2.1,e.2.2.2.1,())=e from rfl,Ez hw hs,Lv hw hs,Hp l1 l2,Pw he,EB he];simp only[AD,Az,AB,DE];cases h1:CB s with
 |false=>rfl
 |true=>
  have Br:=DN.1 h1;have vd:=Br.nl;cases h2:ET e with
  |false=>rfl
  |true=>
   have hE:=(FM.1 h2).w0;simp only[AMp,AMk,AMP,AMO,AOR,AS_];have lim:s.2.1.length+1≤Dr:=by rw[BT];omega
   by_cases h3:s.2.1.length=20
   ·rw[ALy (by omega),ATM (fun h=>h h3),AXG]
    rfl
   ·rw[AMD (by omega),ASn (show s.2.1.length≠20 from h3),ATW]
    unfold takes;by_cases h4:e.2.1=0
    ·rw[ALy h4,ALy h4]
     by_cases h5:AN e.1≤s.2.2.1
     ·rw[ALy h5,ATM (by omega)];rfl
     ·rw[AMD h5,AMD (by omega),ALy lim,ASn (by omega)];rfl
    ·rw[AMD h4,AMD h4,ALy (by omega)]
     by_cases h5:e.2.1≤s.2.2.1
     ·rw[ALy h5,ATM (by omega)];rfl
     ·rw[AMD h5,ALy lim,ASn (by omega)];rfl
theorem Wr{s:AO}{k:Int}(hw:Al s≤2^30)(hs:qq s):Ma s k=some (lq (D5 s k)):=by
 obtain⟨l1,l2⟩:=Fm hw;unfold Ma Si D5;rw[show(s.1,s.2.1,s.2.2.1,())=s from rfl,Ez hw hs,Lv hw hs,Hp l1 l2,Av];simp only[AD,Az];cases h1:CB s with
 |false=>rfl
 |true=>
  have Br:=DN.1 h1;have vd:=Br.nl;have hnk:=Br.nk;simp only[AMp,AMP,AMO,AOR,AS_];cases h2:BM k 0 1048575 with
  |false=>rfl
  |true=>
   have hk:=Ah.1 h2;have AXo:0≤k∧k<2^63:=by omega
   simp only[AMp,AMk];have key:∀(n i:Nat) (b:List AJ),i≤s.2.1.length→s.2.1.length-i<n→b.length≤200+i→Wq b→
     I_ n k s.2.1 s.2.1.length i s.1 s.2.1 s.2.2.1 0 [] [] s.2.2.1 b []=
      some (lq (if decide ((Db b (MI k i (s.2.1.drop i))).length≤200)then((Db b (MI k i (s.2.1.drop i)),[],s.2.2.1,()),true)else(s,false))):=by
    intro n
    induction n with
    |zero=>omega
    |succ n ih=>
     intro i b hi hn hb rV;simp only[I_,S2,AB];by_cases hc:i<s.2.1.length
     ·have ABW:=ua AXo (i:=i) (by omega)
      rw[ALy (by omega),ALy (by omega),AMD (by omega),AMV,ABW,AB,Ny hc,AK (by omega) (by omega),show((i:Int)+1)=((i+1:Nat):Int)by omega,drop_cons hc];rw[show(s.2.1[i].1,s.2.1[i].2.1,s.2.1[i].2.2.1,s.2.1[i].2.2.2.1,())=s.2.1[i]from rfl,aR rV (by omega)];simp only[AD];rw[show MI k i (s.2.1[i]::s.2.1.drop (i+1))=if(k/2^i)%2=1 then s.2.1[i]::MI k (i+1) (s.2.1.drop (i+1))else MI k (i+1) (s.2.1.drop (i+1))from rfl];by_cases hbt:(k/2^i)%2=1
      ·rw[ALy hbt,ALy hbt,ih (i+1) _ (by omega) (by omega) (by grind[W0]) (Ug rV)]
       rfl
      ·rw[AMD hbt,AMD hbt,ih (i+1) _ (by omega) (by omega) (by omega) rV]
     ·rw[AMD (by omega),AMj (by omega),show(s.1,s.2.1,s.2.2.1,())=s from rfl,Hp l1 l2]
      simp only[AD,MI,Db];by_cases hg:b.length≤200
      ·rw[AMD (by omega),ALy (ASn hg)];rfl
      ·rw[ALy (by omega),AMD (by simp_all)];rfl
   have:=key Ae 0 s.1 (by omega) (Ag (by omega)) (by omega) Br.fo;simp_all
theorem YI{s:AO}(hw:Al s≤2^30)(hs:qq s):Nj s=some (lq (CZ s)):=by
 unfold Nj CZ;rw[show(s.1,s.2.1,s.2.2.1,())=s from rfl,Wr hw hs];rfl
theorem jG{s:AO}{u:Int}(hw:Al s≤2^30)(hs:qq s):N5 s u=some (lq (Bh s u)):=by
 unfold N5 Bh;rw[show(s.1,s.2.1,s.2.2.1,())=s from rfl,YI hw hs,Lv hw hs,Av];simp only[AD,Az,lq];cases h1:CB s with
 |false=>
  grind[CZ,D5]
 |true=>
  grind
theorem js{s:AO}{ep:Int}(hw:Al s≤2^30)(hs:qq s):PU s ep=some (((),()),(GD s ep,())):=by
 obtain⟨l1,l2⟩:=Fm hw;unfold PU VU GD;rw[show(s.1,s.2.1,s.2.2.1,())=s from rfl,Ez hw hs];simp only[AD,Az];cases h1:CB s with
 |false=>rfl
 |true=>
  have key:∀(n i:Nat) (b:List AJ),i≤s.1.length→s.1.length-i<n→b.length≤i→
    Kv n ep s.1 s.1.length i b=some (((),()),(b++(s.1.drop i).filter (fun e=>AN e.1==ep),())):=by
   intro n
   induction n with
   |zero=>omega
   |succ n ih=>
    intro i b hi hn hb;simp only[Kv,Vg,AB];by_cases hc:i<s.1.length
    ·rw[ALy (by omega),ALy (by omega),Ai hc,EB (hs.1 _ (AMh hc)),AK (by omega) (by omega),show((i:Int)+1)=((i+1:Nat):Int)by omega,drop_cons hc,ATI]
     simp only[AD];rw[ALy (by rw[BT];omega),show(s.1[i].1,s.1[i].2.1,s.1[i].2.2.1,s.1[i].2.2.2.1,())=s.1[i]from rfl,ih (i+1) _ (by omega) (by omega) (by simp_all),ih (i+1) b (by omega) (by omega) (by omega)];grind
    grind
  have:=key Ae 0 [] (by omega) (Ag (by omega)) (by simp);simp_all
end Go.M
end
section
set_option maxRecDepth 8000
namespace Go.M
open Go.M.H (AJ AO As Ac AA CN AQ A7 AM AY A3 Ax BC Al CJ Af AX Aa Ap B8 BJ Ar A0 EO CO Cv C_)
theorem xV{x:AJ}{t:ABN}:O3 (x.1,x.2.1,x.2.2.1,x.2.2.2.1,()) t=some ((decide (x.1≤t.1),()),()):=rfl
theorem cz{t:AC_}{l:List AJ}(hl:l.length≤2^30):Bq t l=some (((),()),((),l.filter (fun x=> !(decide (x.1≤t.1.1))),())):=by
 have key:∀(n i j:Nat) (b:List AJ),i≤j→j≤b.length→b.length≤2^30→b.length-j<n→BH n t i j b=some (((),()),((),b.take i++(b.drop j).filter (fun x=> !(decide (x.1≤t.1.1))),())):=by
  intro n
  induction n with
  |zero=>omega
  |succ n ih=>
   intro i j b zF hj hb hn;simp only[BH,DL,AB];by_cases hc:j<b.length
   ·rw[ALy (by omega),ALy (by omega),Ai hc,xV]
    simp only[AD];rw[AK (x:=(j:Int)+1) (by omega) (by omega),AK (x:=(i:Int)+1) (by omega) (by omega),show((j:Int)+1)=((j+1:Nat):Int)by omega,show((i:Int)+1)=((i+1:Nat):Int)by omega,drop_cons hc,ATI];have n1:=ih (i+1) (j+1) (b.set i b[j]) (by omega) (by grind) (by simp_all) (by grind);have n2:=ih i (j+1) b (by omega) (by omega) hb (by omega);rw[show(t.1,())=t from rfl,n2];rw[AXa (by omega),ATJ (by grind),AXb (AQW _),AXB,AM8,ATy]at n1;rw[ALy (by omega),AMV,n1]
    generalize hx:b[j]=x
    cases(decide (x.1≤t.1.1))<;>rfl
   ·rw[AMD (by omega),AMj (i:=j) (by omega),AMV,AMV]
    simp_all;omega
 have fnd:∀(n i:Nat),i≤l.length→l.length-i<n→ ∃r:Int,BK n l t l.length i=some ((r,()),())∧((r= -1∧(l.drop i).filter (fun x=> !(decide (x.1≤t.1.1)))=l.drop i)∨ ∃q:Nat,r=q∧i≤q∧q<l.length∧((l.take q).drop i).filter (fun x=> !(decide (x.1≤t.1.1)))=(l.take q).drop i∧ ∀(h:q<l.length) x,x=l[q]→(decide (x.1≤t.1.1))=true):=by
  intro n
  induction n with
  |zero=>omega
  |succ n ih=>
   intro i hi hn;simp only[BK,DU,AB];by_cases hc:i<l.length
   ·rw[ALy (by omega),ALy (by omega),Ai hc,xV]
    simp only[AD];rw[AK (x:=(i:Int)+1) (by omega) (by omega),show((i:Int)+1)=((i+1:Nat):Int)by omega,show(t.1,())=t from rfl];obtain⟨r,e,hr⟩:=ih (i+1) (by omega) (by omega);rw[e]
    generalize hx:l[i]=x
    cases hp:(decide (x.1≤t.1.1))with
    |true=>
     grind
    |false=>
     refine⟨r,rfl,?_⟩;rcases hr with⟨h1,h2⟩|⟨q,h1,h2,h3,h4,h5⟩
     ·grind[drop_cons]
     ·refine .inr ⟨q,h1,by omega,h3,?_,h5⟩
      grind[drop_cons]
   grind
 obtain⟨r,e,hr⟩:=fnd Ae 0 (by omega) (Ag (by omega));rw[show((0:Nat):Int)=0 from rfl]at e;unfold Bq DO Cg DV;rw[show(t.1,())=t from rfl,e];simp only[AD];rcases hr with⟨h1,h2⟩|⟨q,h1,h2,h3,h4,h5⟩
 ·grind
 ·rw[h1,AQJ.2 (by omega),AMU,AK (by omega) (by omega),show((q:Int)+1)=((q+1:Nat):Int)by omega,key Ae q (q+1) l (by omega) (by omega) hl (Ag (by omega))]
  rw[ATC]at h4;have hd:=h5 h3 _ rfl;grind[List.take_append_drop,drop_cons]
theorem jV{s:AO}{u:Int}(hw:Al s≤2^30)(hs:qq s)(hu:C0 u):SI s u=some (lq (Fy s u)):=by
 obtain⟨l1,l2⟩:=Fm hw;unfold SI Fy;rw[show(s.1,s.2.1,s.2.2.1,())=s from rfl,Ez hw hs,Lv hw hs,Hp l1 l2,MT hu];simp only[AD];cases CB s with
 |false=>rfl
 |true=>
  cases BN u with
  |false=>rfl
  |true=>
   rw[cz l1];simp only[AD,AMP,AMU,AMO,AOR,AS_];rw[show(fun x:AJ=> !decide (x.1≤(((u,()),()):AC_).1.1))=fun e=>decide (e.1>u)from funext fun x=>by
    grind]
   rfl
theorem zE{p:Int}{n:Nat}:BM (AN p) 1 n=(BN p&&decide (AN p≤n)):=by
 cases h:BN p with
 |false=>
  unfold AN;rw[h];rfl
 |true=>
  obtain⟨⟨h1,h2⟩,_⟩:=CF h;unfold BM;simp_all
section
variable{c:B9} {r:AQ} (hc:c.1.length≤2^40) (hl:Af B8 r.1≤2^30) (ht:C0 r.2.1)
include hc hl ht
theorem TP:EF c r=some (if Mc c r then((((),r.2.1,()),()),(r.1,()))else((((),0,()),()),([],()))):=by
 unfold EF;rw[show(c.1,c.2.1,())=c from rfl,show(r.1,r.2.1,())=r from rfl,Mn hc hl ht,HY hl];grind
theorem mZ{ns:AAO}(hn:ns.length≤2^30):MG c r ns=some (((((),(IM c r ns).1.2.1,()),(IM c r ns).2.1,(IM c r ns).2.2,()),()),((IM c r ns).1.1,())):=by
 have l1:=AX (f:=B8) (l:=r.1);unfold MG IM;rw[show(c.1,c.2.1,())=c from rfl,show(r.1,r.2.1,())=r from rfl,Mn hc hl ht,TP hc hl ht,HY hl,GK hc (by omega),Dp hn];simp only[AD];cases Mc c r with
 |false=>rfl
 |true=>
  cases holds c ns with
  |false=>rfl
  |true=>
   simp only[AMP,AMU,AMO,AOR,AMk,AS_];by_cases h30:r.1.length=30
   ·simp_all
   ·rw[show((r.1.length:Int)==30)=false by grind,show decide (r.1.length≠30)=true by simp[h30],AMU,ALy (by rw[BT];omega)]
    simp
theorem jy{b last:Int}:Pk c r b last=some (pkR (Mi c r b last)):=by
 have l1:=AX (f:=B8) (l:=r.1);unfold Pk Mi;rw[show(c.1,c.2.1,())=c from rfl,show(r.1,r.2.1,())=r from rfl,Mn hc hl ht,TP hc hl ht,HY hl,Rx (by omega)];simp only[AD];rcases AKU (Mc c r)with hr|hr
 rotate_left
 ·rw[hr];rfl
 have Br:=Iz.1 hr;rw[hr];simp only[AMP,AMU,AMO,AOR,AS_];by_cases h1:b=r.1.length
 rotate_left
 ·rw[show(b !=(r.1.length:Int))=true by simp_all,show decide (b=(r.1.length:Int))=false by simp_all]
  rfl
 rw[show(b !=(r.1.length:Int))=false by simp_all,show decide (b=(r.1.length:Int))=true by simp_all];simp only[AMU,AMk];by_cases h3:b=A8 r.1
 ·rw[show(A8 r.1==b)=true by simp_all,show decide (b≠A8 r.1)=false by simp_all,ATE,AXG]
  rfl
 have AH9:0<r.1.length:=by
  rcases AXN r.1.length with hz|hz
  ·exact absurd (by rw[h1,hz];unfold A8;rw[hz];rfl) h3
  omega
 obtain⟨k,k1,k2,k3,k4⟩:=Nq Br AH9;rw[show(A8 r.1==b)=false by grind,show decide (b≠A8 r.1)=true by simp_all,show decide (A8 r.1≠0)=true by grind,Av];simp only[AMU,AMk,AD];cases BM last 0 60 with
 |false=>rfl
 |true=>
  simp only[AMP,AMU,AS_];rw[k2,AK (by omega) (by omega),show((k:Int)+1-1)=(k:Int)by omega,ALy (by omega),ALy (by simp_all),AMV];unfold pkR Gi;simp_all
theorem nR{p:Int}(hp:C0 p):Vx c r p=some (pkR (Lx c r p)):=by
 unfold Vx Lx;rw[show(c.1,c.2.1,())=c from rfl,show(r.1,r.2.1,())=r from rfl,Mn hc hl ht,TP hc hl ht,HY hl,EB hp];simp only[AD];rw[Av,zE];simp only[AD];cases Mc c r with
 |false=>rfl
 |true=>
  cases BN p&&decide (AN p≤(r.1.length:Int))with
  |false=>rfl
  |true=>
   simp only[AMP,AMU,AMO,AOR,AS_];rw[show(if p>r.2.1 then p else r.2.1)=max r.2.1 p by omega];rfl
end
section
variable{c:B9} {w:AM} (hc:c.1.length≤2^40) (hl:Af BJ w.2.1≤2^20)
include hc hl
theorem VN:EJ c w=some (if FF c w then(((w.1,(),()),()),(w.2.1,()))else(((0,(),()),()),([],()))):=by
 unfold EJ;rw[show(c.1,c.2.1,())=c from rfl,show(w.1,w.2.1,())=w from rfl,Il hc (by omega),JM (by show Af BJ w.2.1≤2^30;omega)];grind
theorem jC{d:ACC}(hd:d.length≤2^20):I9 c w d=some (((((CE c w d).1.1,(),()),(CE c w d).2.1,(CE c w d).2.2,()),()),((CE c w d).1.2.1,())):=by
 have l1:=AX (f:=BJ) (l:=w.2.1);unfold I9 CE;rw[show(c.1,c.2.1,())=c from rfl,show(w.1,w.2.1,())=w from rfl,JM (by show Af BJ w.2.1≤2^30;omega),VN hc hl];simp only[AD];rw[ALy (by rw[BT];omega),Il hc (by omega),Il hc (by
  grind[Af,BJ,Yl,List.length_nil])]
 grind
theorem iH{o n:Int}:SO c w o n=some (pkW (QZ c w o n)):=by
 have l1:=AX (f:=BJ) (l:=w.2.1);unfold SO QZ;rw[show(c.1,c.2.1,())=c from rfl,show(w.1,w.2.1,())=w from rfl,Il hc (by omega),VN hc hl,JM (by show Af BJ w.2.1≤2^30;omega),Av,Av];simp only[AD];rcases AKU (FF c w)with hw|hw
 rotate_left
 ·rw[hw];rfl
 have Br:=IW.1 hw;have yQ:=GW Br.cfg;rw[hw,AK (x:=(c.1.length:Int)-1) (by omega) (by omega)];simp only[AMP,AMU,AMO,AOR,AS_];rcases AKU (BM o 1 (w.2.1.length:Int))with ho|ho
 rotate_left
 ·rw[ho];rfl
 have vZ:=Ah.1 ho;rw[ho];have hi:(o-1).toNat<w.2.1.length:=by omega
 have AE9:w.2.1.getD (o-1).toNat Kw∈w.2.1:=BG (d:=Kw) hi;have hm:(w.2.1.getD (o-1).toNat Kw).1.length+(w.2.1.getD (o-1).toNat Kw).2.1.length≤Af BJ w.2.1:=Aa (f:=BJ) AE9;have AF2:=(EK.1 (Br.words _ AE9).2.1).2.2;simp only[AMP,AMU,AMk];rw[AK (x:=o-1) (by omega) (by omega),ALy (by omega)]
 show cond (w.2.1.getD (o-1).toNat Kw).2.2.1 _ _=_
 cases(w.2.1.getD (o-1).toNat Kw).2.2.1 with
 |true=>
  cases BM n 0 ((c.1.length:Int)-1)<;>rfl
 |false=>
  cases BM n 0 ((c.1.length:Int)-1)with
  |false=>rfl
  |true=>
   simp only[AMU,AS5,AS_,AMP,Bool.and_self];rw[ALy (by omega),show(w.2.1.getD (o-1).toNat ([],[],false,())).2.1=(w.2.1.getD (o-1).toNat Kw).2.1 from rfl,O6 AF2 (by omega)];simp only[AD];have hg:∀x:A7,(w.2.1.set (o-1).toNat x).getD (o-1).toNat ([],[],false,())=x:=fun x=>Mo hi
   rw[hg,GK hc (by
    grind[Uj,Kw])]
   simp only[AD];rw[AXc];rfl
theorem cZ{n:Int}:NI c w n=some (pkW (CA c w n)):=by
 have l1:=AX (f:=BJ) (l:=w.2.1);unfold NI Qt CA;rw[show(c.1,c.2.1,())=c from rfl,show(w.1,w.2.1,())=w from rfl,Il hc (by omega),JM (by show Af BJ w.2.1≤2^30;omega)];simp only[AD];cases FF c w with
 |false=>rfl
 |true=>
  simp only[AMP,AMU,AMO,AOR];have key:∀(k i:Nat),i≤w.2.1.length→w.2.1.length-i<k→Hf k n w.2.1 w.2.1.length i 0 [] w.1 ((w.2.1.map (Cs n)).take i++w.2.1.drop i)=some (pkW ((w.1,w.2.1.map (Cs n),()),true)):=by
   intro k
   induction k with
   |zero=>omega
   |succ k ih=>
    intro i hi hk;have hlen:((w.2.1.map (Cs n)).take i++w.2.1.drop i).length=w.2.1.length:=Oy hi;simp only[Hf,QW,AB,hlen];by_cases Dd:i<w.2.1.length
    ·have c1:(0:Int)≤(i:Int)∧(i:Int)<(w.2.1.length:Int):=by omega
     have hm:w.2.1[i].1.length+w.2.1[i].2.1.length≤Af BJ w.2.1:=Aa (f:=BJ) (AMh Dd);have hg:((w.2.1.map (Cs n)).take i++w.2.1.drop i).getD ((i:Int).toNat) ([],[],false,())=w.2.1[i]:=MZ Dd;rw[ALy c1.2];simp only[ALy c1,hg];rw[Ai Dd,AK (by omega) (by omega),show((i:Int)+1)=((i+1:Nat):Int)by omega];rcases AKU (w.2.1[i].2.2.1)with hd|hd
     ·rw[hd]
      simp only[AMP,AMU];grind[iF,l7]
     ·rw[hd]
      simp only[AS5,AMp];rw[PN (by omega)];grind[AD,Int.toNat_natCast,Px,Cs]
    ·rw[AMD (by omega),AMj (by omega)]
     have:i=w.2.1.length:=by omega
     subst this;rw[AM5,ATH (by simp)];rfl
  have:=key Ae 0 (by omega) (Ag (by omega));simp_all
end
end Go.M
end
section
set_option maxRecDepth 8000
namespace Go.M
open Go.M.H (AJ AO As Ac AA CN AQ A7 AM AY A3 Ax BC Al Af AX Aa Ap B8 BJ Ar CJ C_)
section
variable{c:B9} {m:As} (hc:c.1.length≤2^40) (hm:CJ m≤2^20) (h:rm m.2.2.2.1)
include hc hm h
theorem RC:Ep c m=some (if Gx c m then(((m.1,m.2.1,(),(),m.2.2.2.2.1,(),()),()),(m.2.2.1,m.2.2.2.1,m.2.2.2.2.2.1,()))else(((0,0,(),(),false,(),()),()),([],[],[],()))):=by
 unfold Ep;rw[show(c.1,c.2.1,())=c from rfl,show(m.1,m.2.1,m.2.2.1,m.2.2.2.1,m.2.2.2.2.1,m.2.2.2.2.2.1,())=m from rfl,HV hc (by omega) h,HF (by omega)];grind
theorem m_{o n:Int}:Oh c m o n=some (jL (Yd c m o n)):=by
 obtain⟨h1,h2,h3,h4⟩:=Io hm;unfold Oh Yd;rw[show(c.1,c.2.1,())=c from rfl,show(m.1,m.2.1,m.2.2.1,m.2.2.2.1,m.2.2.2.2.1,m.2.2.2.2.2.1,())=m from rfl,HV hc (by omega) h,RC hc hm h,HF (by omega),Av,Av];simp only[AD];rcases AKU (Gx c m)with hw|hw
 rotate_left
 ·rw[hw];rfl
 have Br:=HI.1 hw;have yQ:=GW Br.cfg;rw[hw,AK (x:=(c.1.length:Int)-1) (by omega) (by omega)];simp only[AMP,AMU,AMO,AOR,AS_];rcases AKU (BM o 1 (m.2.2.2.2.2.1.length:Int))with ho|ho
 rotate_left
 ·rw[ho];rfl
 have vZ:=Ah.1 ho;rw[ho];cases BM n 0 ((c.1.length:Int)-1)with
 |false=>rfl
 |true=>
  have hi:(o-1).toNat<m.2.2.2.2.2.1.length:=by omega
  have AE9:=BG (d:=([]:AAO)) hi;have hq:=h4 _ AE9;have AF2:=(EK.1 (Br.wrote _ AE9)).2.2;simp only[AMP,AMU,AMk,AS_];rw[AK (by omega) (by omega),ALy (by omega),O6 AF2 (by omega)];simp only[AD];rw[ALy (by omega)];rfl
theorem gy{n:Int}:Ps c m n=some (jL (B7 c m n)):=by
 obtain⟨h1,h2,h3,h4⟩:=Io hm;unfold Ps Sr B7;rw[show(c.1,c.2.1,())=c from rfl,show(m.1,m.2.1,m.2.2.1,m.2.2.2.1,m.2.2.2.2.1,m.2.2.2.2.2.1,())=m from rfl,HV hc (by omega) h,HF (by omega)];simp only[AD];cases Gx c m with
 |false=>rfl
 |true=>
  simp only[AMP,AMU,AMO,AOR];have key:∀(k i:Nat),i≤m.2.2.2.2.2.1.length→m.2.2.2.2.2.1.length-i<k→JA k n m.2.2.2.2.2.1 m.2.2.2.2.2.1.length i 0 0 false [] [] [] m.1 m.2.1 m.2.2.2.2.1 m.2.2.1 m.2.2.2.1 ((m.2.2.2.2.2.1.map (fun l=>less l [n])).take i++m.2.2.2.2.2.1.drop i)=
    some (jL ((m.1,m.2.1,m.2.2.1,m.2.2.2.1,m.2.2.2.2.1,m.2.2.2.2.2.1.map (fun l=>less l [n]),()),true)):=by
   intro k
   induction k with
   |zero=>omega
   |succ k ih=>
    intro i hi hk;have hlen:=Oy (f:=fun l=>less l [n]) hi;simp only[JA,Ss,AB,hlen];by_cases Dd:i<m.2.2.2.2.2.1.length
    ·have c1:(0:Int)≤(i:Int)∧(i:Int)<(m.2.2.2.2.2.1.length:Int):=by omega
     have hq:=h4 _ (AMh Dd);rw[ALy c1.2];simp only[ALy c1];rw[Ai Dd,AK (by omega) (by omega),show((i:Int)+1)=((i+1:Nat):Int)by omega,PN (by omega)];simp only[AD];rw[AMV,Px Dd rfl];grind
    ·rw[AMD (by omega),AMj (by omega)]
     have:i=m.2.2.2.2.2.1.length:=by omega
     subst this;rw[AM5,ATH (by simp)];rfl
  have:=key Ae 0 (by omega) (Ag (by omega));simp_all
theorem jA:OL c m=some ((O0 c m,()),()):=by
 obtain⟨h1,h2,h3,h4⟩:=Io hm;unfold OL Ue O0;rw[show(c.1,c.2.1,())=c from rfl,show(m.1,m.2.1,m.2.2.1,m.2.2.2.1,m.2.2.2.2.1,m.2.2.2.2.2.1,())=m from rfl,HV hc (by omega) h];simp only[AD];cases Gx c m with
 |false=>rfl
 |true=>
  rcases AKU m.2.2.2.2.1 with hp|hp
  rotate_left
  ·simp_all
  have key:∀(k i:Nat),i≤m.2.2.2.2.2.1.length→m.2.2.2.2.2.1.length-i<k→KL k m.2.2.2.2.2.1 m.2.2.2.2.2.1.length i c.1 c.2.1=some (((m.2.2.2.2.2.1.drop i).all (holds c),()),()):=by
   intro k
   induction k with
   |zero=>omega
   |succ k ih=>
    intro i hi hk;simp only[KL,Uc,AB];by_cases Dd:i<m.2.2.2.2.2.1.length
    ·have c1:(0:Int)≤(i:Int)∧(i:Int)<(m.2.2.2.2.2.1.length:Int):=by omega
     have hq:=h4 _ (AMh Dd);rw[ALy c1.2,ALy c1,AK (by omega) (by omega),show((i:Int)+1)=((i+1:Nat):Int)by omega,Ai Dd,drop_cons Dd,show(c.1,c.2.1,())=c from rfl,GK hc (by omega),ih (i+1) (by omega) (by omega)];simp only[AD,ATa];cases holds c m.2.2.2.2.2.1[i]<;>rfl
    grind
  have:=key Ae 0 (by omega) (Ag (by omega));simp_all
omit hc h in
theorem X_{o:Int}:I6 m o=some ((((Da m o).getD Dn,(Da m o).isSome,()),()),()):=by
 obtain⟨h1,h2,h3,h4⟩:=Io hm;unfold I6 Ub Da;rw[Hw];simp only[AD];cases m.2.2.2.2.1 with
 |false=>
  simp only[ATE,AMO,AOR,AS5,AMp];cases(BM m.2.1 1 30&&BM o 1 60)<;>rfl
 |true=>
  simp only[AMP,AMU,AMk];rcases AKU (BM m.2.1 1 30)with he|he
  rotate_left
  ·rw[he];rfl
  rcases AKU (BM o 1 60)with ho|ho
  rotate_left
  ·rw[he,ho];rfl
  have hp:Gd m.2.1 o=D1 m.2.1 o:=by unfold Gd;rw[he,ho];rfl
  rw[he,ho,hp];simp only[ATW,AMP,AMU,AMk];by_cases hl:o≤m.2.2.2.2.2.1.length
  ·rw[show decide (o>(m.2.2.2.2.2.1.length:Int))=false by simpa using hl,show decide (o≤(m.2.2.2.2.2.1.length:Int))=true by simpa using hl]
   simp only[AMU,AS_];have key:∀(k i:Nat),i≤m.2.2.2.1.length→m.2.2.2.1.length-i<k→KA k (D1 m.2.1 o) m.2.2.2.1 m.2.2.2.1.length i m.1 m.2.1 m.2.2.1 m.2.2.2.1 true m.2.2.2.2.2.1 0 0 false []=
     some ((((match Ek (D1 m.2.1 o) (m.2.2.2.1.drop i)with
      |some x=>(D1 m.2.1 o,m.1,x.2.2.1,x.2.2.2.1,())
      |none=>(D1 m.2.1 o,m.1,true,[],())),true,()),()),()):=by
    intro k
    induction k with
    |zero=>intro i _ h;omega
    |succ k ih=>
     intro i hi hk;simp only[KA,Uf,AB];by_cases Dd:i<m.2.2.2.1.length
     ·have c1:(0:Int)≤(i:Int)∧(i:Int)<(m.2.2.2.1.length:Int):=by omega
      rw[ALy c1.2,ALy c1,AK (by omega) (by omega),show((i:Int)+1)=((i+1:Nat):Int)by omega,Ai Dd,drop_cons Dd,ih (i+1) (by omega) (by omega)];unfold Ek;rw[AUh];cases hx:m.2.2.2.1[i].1==D1 m.2.1 o<;>rfl
     ·rw[AMD (by omega),AMj (by omega)]
      rfl
   have:=key Ae 0 (by omega) (Ag (by omega));rw[show((0:Nat):Int)=0 from rfl,ATC]at this;rw[this];cases Ek (D1 m.2.1 o) m.2.2.2.1<;>rfl
  ·rw[show decide (o>(m.2.2.2.2.2.1.length:Int))=true by simp;omega,show decide (o≤(m.2.2.2.2.2.1.length:Int))=false by simp;omega]
   rfl
theorem kC{s:AAO}(hs:s.length≤2^20):PV c m s=some (jL (IA c m s)):=by
 obtain⟨h1,h2,h3,h4⟩:=Io hm;unfold PV IA;rw[show(c.1,c.2.1,())=c from rfl,show(m.1,m.2.1,m.2.2.1,m.2.2.2.1,m.2.2.2.2.1,m.2.2.2.2.2.1,())=m from rfl,HV hc (by omega) h,RC hc hm h,HF (by omega),bp (by omega) h];simp only[AD];rcases AKU (Gx c m)with Br|Br
 rotate_left
 ·rw[Br];rfl
 have hmo:=HI.1 Br;rw[Br];simp only[AS_];rcases AKU m.2.2.2.2.1 with hp|hp
 ·rw[hp]
  simp only[AMP,AMU,AMp,ATE,AMO,AOR,jL,hp]
 have xy:(m.2.2.1.filter s.contains).length≤m.2.2.1.length:=AS6 _ _;rw[hp];simp only[AMP,AS5,AMU,AMO,AOR,AMk];rw[aP (by omega) (by omega)];simp only[AD];rw[cW hc (by omega) hs];simp only[AD];cases JT c s (m.2.2.1.filter s.contains)with
 |false=>simp[jL,hp]
 |true=>
  simp only[AMP,AMU,AS_];have hlb:=GR (l:=m.2.2.2.1);rw[ALy ⟨hlb.1,ATD _,by rw[BT];omega⟩];rfl
theorem lB{n:Int}{l:List AJ}(hl:l.length≤2^20)(PY:rm l)(hw:Af Ap l≤2^20):Pc c m n l=some (jL (Ln c m n l)):=by
 obtain⟨h1,h2,h3,h4⟩:=Io hm;unfold Pc Vj Ln;rw[show(c.1,c.2.1,())=c from rfl,show(m.1,m.2.1,m.2.2.1,m.2.2.2.1,m.2.2.2.2.1,m.2.2.2.2.2.1,())=m from rfl,HV hc (by omega) h,RC hc hm h,HF (by omega)];simp only[AD];rcases AKU (Gx c m)with Br|Br
 rotate_left
 ·rw[Br];rfl
 have hmo:=HI.1 Br;have AF2:=(EK.1 hmo.ew).2.2;rw[Br];simp only[AMP,AMU,AMO,AOR,AS_];rcases AKU m.2.2.2.2.1 with hp|hp
 ·grind[jL]
 rw[hp,O6 AF2 (by omega)];simp only[AD,AMU,AS5,AMk];have key:∀(k i:Nat) (b:List AJ),i≤l.length→l.length-i<k→b.length≤2^20+i→Wq b→rm b→Af Ap b+Af Ap (l.drop i)≤2^21→
   LD k l l.length i c.1 c.2.1 m.1 m.2.1 m.2.2.1 m.2.2.2.1 false m.2.2.2.2.2.1 0 0 false [] [] [] m.1 m.2.1 false (JG n m.2.2.1) b m.2.2.2.2.2.1=
   some (jL (if Gx c (m.1,m.2.1,JG n m.2.2.1,Db b ((l.drop i).filter fun e=>AN e.1==m.2.1),false,m.2.2.2.2.2.1,())then
    ((m.1,m.2.1,JG n m.2.2.1,Db b ((l.drop i).filter fun e=>AN e.1==m.2.1),false,m.2.2.2.2.2.1,()),true)else(m,false))):=by
  intro k
  induction k with
  |zero=>omega
  |succ k ih=>
   intro i b hi hk hb rV hbi hbw;simp only[LD,VQ,AB];by_cases Dd:i<l.length
   ·have c1:(0:Int)≤(i:Int)∧(i:Int)<(l.length:Int):=by omega
    rw[ALy c1.2];simp only[ALy c1];rw[AK (by omega) (by omega),show((i:Int)+1)=((i+1:Nat):Int)by omega,Ai Dd,drop_cons Dd,show(l[i].1,l[i].2.1,l[i].2.2.1,l[i].2.2.2.1,())=l[i]from rfl,EB (PY _ (AMh Dd)),aR rV (by omega)];rw[drop_cons Dd]at hbw;simp only[Af]at hbw;simp only[AD,ATI];rcases AKU (AN l[i].1==m.2.1)with he|he
    ·simp only[he,AMp,AS_,Db]
     have:=W0 (e:=l[i]) (l:=b);have hwk:=yF l[i] b;exact ih (i+1) _ (by omega) (by omega) (by omega) (Ug rV) (fun x hx=>by
      rcases dd hx with rfl|hx
      ·exact PY _ (AMh Dd)
      ·exact hbi x hx) (by omega)
    grind
   ·rw[AMD (by omega),AMj (by omega),show(c.1,c.2.1,())=c from rfl,HF (m:=(m.1,m.2.1,m.2.2.1,m.2.2.2.1,false,m.2.2.2.2.2.1,())) (by
     grind)]
    simp only[AXZ,Db];rw[AMj (by omega)]at hbw;simp only[Af]at hbw;have km:=Uj (n:=n) (l:=m.2.2.1);have hb2:=AX (f:=Ap) (l:=b);rw[HV (m:=(m.1,m.2.1,JG n m.2.2.1,b,false,m.2.2.2.2.2.1,())) hc (by
     grind[CJ]) hbi]
    grind[AD,Gx,JG,jL]
 have hsw:Af Ap m.2.2.2.1≤2^20:=by
  grind[CJ]
 have:=key Ae 0 m.2.2.2.1 (by omega) (Ag (by omega)) (by omega) hmo.fo h (by grind);simp_all
end
end Go.M
end
section
set_option maxRecDepth 8000
namespace Go.M
open Go.M.H (AJ AO As Ac AA CN AQ A7 AM AY A3 Ax BC Al Af AX Aa Ap B8 BJ Ar CJ C_)
theorem pE{c:B9}{l:AAO}(hc:c.1.length≤2^20)(hl:l.length≤2^20):Xx c l=some ((Ay c l&& !holds c l,()),()):=by
 unfold Xx;rw[show(c.1,c.2.1,())=c from rfl,EA (by omega) (by omega),GK (by omega) (by omega)];grind
theorem rT{ss:List AO}(hs:ss.length≤1024)(h:∀s∈ss,s.1.length≤1024)(hw:∀s∈ss,Al s≤2^30)(PY:∀s∈ss,qq s)(Br:∀s∈ss,CB s=true):gL ss=some (((),()),(FW [] ss,())):=by
 have key:∀n:Nat,
   (∀(i:Nat) (b:List AJ),i≤ss.length→(ss.length-i)*1026+1≤n→b.length≤i*1024→Wq b→
    M0 n ss ss.length i b=some (((),()),(FW b (ss.drop i),())))∧
   (∀(i j:Nat) (b:List AJ),(hi:i<ss.length)→j≤ss[i].1.length→(ss.length-i-1)*1026+1+(ss[i].1.length-j)+1≤n→b.length≤i*1024+j→Wq b→
    Mm n ss ss.length i ss[i].1 ss[i].1.length j b=some (((),()),(FW (Db b (ss[i].1.drop j)) (ss.drop (i+1)),()))):=by
  intro n
  induction n with
  |zero=>simp_all
  |succ n ih=>
   refine⟨fun i b hi h' hb rV=> ?_,fun i j b hi hj h' hb rV=> ?_⟩
   ·simp only[M0,Z5,AB]
    by_cases hc:i<ss.length
    ·have hmm:=AMh hc
     have hm:=h _ hmm;rw[ALy (by omega),ALy (by omega),Ai hc,show(ss[i].1,ss[i].2.1,ss[i].2.2.1,())=ss[i]from rfl,Ez (hw _ hmm) (PY _ hmm),Br _ hmm];have e1:(ss.length-i)*1026=(ss.length-i-1)*1026+1026:=by
      omega
     have:=ih.2 i 0 b hc (by omega) (by omega) (by omega) rV;rw[show((0:Nat):Int)=0 from rfl,ATC]at this;simp only[AD,AMP,AMU];rw[this,drop_cons hc];rfl
    ·rw[AMD (by omega),AMj (by omega)]
     rfl
   ·have hm:=h _ (AMh hi)
    simp only[Mm,Zx,AB];have hbb:i*1024≤2^20:=by
     omega
    by_cases hc:j<ss[i].1.length
    ·have c2:(0:Int)≤(j:Int)∧(j:Int)<(ss[i].1.length:Int):=by omega
     rw[ALy c2.2,ALy c2,Ai hc,show(ss[i].1[j].1,ss[i].1[j].2.1,ss[i].1[j].2.2.1,ss[i].1[j].2.2.2.1,())=ss[i].1[j]from rfl,aR rV (by omega)];simp only[AD];rw[AK (by omega) (by omega),show((j:Int)+1)=((j+1:Nat):Int)by omega,drop_cons hc];have hk:=W0 (e:=ss[i].1[j]) (l:=b);exact ih.2 i (j+1) _ hi (by omega) (by omega) (by omega) (Ug rV)
    ·rw[AMD (by omega),AK (by omega) (by omega),show((i:Int)+1)=((i+1:Nat):Int)by omega,AMj (by omega)]
     exact ih.1 (i+1) b (by omega) (by grind) (by omega) rV
 have hf:(ss.length-0)*1026+1≤Ae:=by
  have:ss.length*1026≤1024*1026:=AOr _ hs;exact AVi (Ag (by omega))
 exact(key Ae).1 0 [] (by omega) hf (by simp) List.Pairwise.nil
theorem uD{c:B9}{ss:List AO}{lost:AAO}{n upto:Int}(hc:c.1.length≤2^20)(hs:ss.length≤1024)(hn:∀s∈ss,s.1.length≤1024)(hw:Af Al ss≤2^24)(PY:∀s∈ss,qq s)(hl:lost.length≤2^20):
  Z3 c lost n upto ss=some (pkF ss (W9 c ss lost n upto)):=by
 have hfs:W9 c ss lost n upto=wT (Ee c&&(decide (ss.length=c.1.length)&&(Ay c lost&&(!holds c lost&&(lost.contains n&&((others lost 0 ss).all CB&&CB (FW [] (others lost 0 ss),[],upto,()))))))) (FW [] (others lost 0 ss),[],upto,()):=rfl;rw[hfs];unfold Z3 cH;rw[show(c.1,c.2.1,())=c from rfl,pE hc hl,Ib (by omega)];simp only[AD,Az,Cp];have key:∀(k i:Nat) (o:List AO),(∀s∈o,s∈ss)→(∀s∈o,CB s=true)→i≤ss.length→ss.length-i<k→o.length≤i→Af Al o+Af Al (ss.drop i)≤2^24→
   RR k lost upto ss.length i ss 0 [] [] o=some (pkF ss (wT ((others lost i (ss.drop i)).all CB&&CB (FW [] (o++others lost i (ss.drop i)),[],upto,())) (FW [] (o++others lost i (ss.drop i)),[],upto,()))):=by
  intro k
  induction k with
  |zero=>omega
  |succ k ih=>
   intro i o ho Br hi h hol how;simp only[RR,bc,AB,Az];by_cases Dd:i<ss.length
   ·have c1:(0:Int)≤(i:Int)∧(i:Int)<(ss.length:Int):=by omega
    have c2:o.length+1≤Dr:=by rw[BT];omega
    have hmm:=AMh Dd;have Adg:=Aa (f:=Al) hmm;rw[drop_cons Dd]at how;simp only[Af]at how;rw[ALy c1.2,ALy c1,Ib (by omega),Ai Dd,show(ss[i].1,ss[i].2.1,ss[i].2.2.1,())=ss[i]from rfl,Ez (by omega) (PY _ hmm),AK (by omega) (by omega),show((i:Int)+1)=((i+1:Nat):Int)by omega];simp only[AD];rw[drop_cons Dd];simp only[others];rcases AKU (lost.contains (i:Int))with hb|hb
    ·rw[hb]
     simp only[AMp,AS_];exact ih (i+1) o ho Br (by omega) (by omega) (by omega) (by omega)
    ·rw[hb]
     simp only[AMU,AMO,AOR];rcases AKU (CB ss[i])with hg|hg
     ·rw[hg]
      simp only[AMp,ATa,hg,AMk];rw[ALy c2,ih (i+1) (o++[ss[i]]) (fun s hs=>by
       grind) (fun s hs=>by
       grind) (by omega) (by omega) (by simp_all) (by grind[Yl,Af])]
      simp_all
     ·rw[hg]
      simp only[AMU,ATa,hg,ATE];rfl
   ·have hu:=yZ (l:=o) (k:=[])
    simp only[Af]at hu;have Ae9:Af Al o≤2^24:=by omega
    rw[AMD (by omega),AMj (by omega),rT (by omega) (fun s hs=>hn s (ho s hs)) (fun s hs=>by grind[Aa,Al]) (fun s hs=>PY s (ho s hs)) Br];simp only[AD,others,AM5,List.all_nil,AMk];rw[Ez (s:=(FW [] o,[],upto,())) (by show Af Ap (FW [] o)+Af Ap []≤_;grind[Af]) ⟨fun e he=>by
     rcases kb he with he|⟨t,ht,he⟩
     ·simp_all
     ·exact(PY t (ho t ht)).1 e he,fun e he=>by simp_all⟩]
    simp only[AD];rcases AKU (CB (FW [] o,[],upto,()))with hb|hb<;>rw[hb]<;>rfl
 have:=key Ae 0 [] (by simp) (by simp) (by omega) (Ag (by omega)) (by simp) (by grind[Af]);rw[show((0:Nat):Int)=0 from rfl,ATC,ATA]at this;rw[this];rcases AKU (Ay c lost)with h1|h1
 rotate_left
 ·rw[h1]
  by_cases h2:ss.length=c.1.length
  ·rw[ALy (by omega)]
   simp only[ATE,AXG,AMU];rfl
  ·rw[AMD (by omega)]
   simp only[ATE,AXG];rfl
 have yQ:Ee c=true:=(EK.1 h1).1;rw[h1,yQ];simp only[AMk];by_cases h2:ss.length=c.1.length
 rotate_left
 ·rw[AMD (by omega),ATM h2]
  rfl
 rw[ALy (by omega),ASn h2];simp only[AMk];cases holds c lost with
 |true=>rfl
 |false=>
  cases lost.contains n with
  |false=>rfl
  |true=>rfl
end Go.M
end
section
set_option maxRecDepth 8000
namespace Go.M
open Go.M.H (AJ AO As Ac AA CN AQ A7 AM AY A3 Ax BC Al CJ Af AX Aa Ap B8 BJ Ar A0 EO CO Cv C_)
def Aap(q:AA×Int):YP:=((q.2,()),(((),q.1.2.1,(),(),(),q.1.2.2.2.2.2.1,(),(),(),(),q.1.2.2.2.2.2.2.2.2.2.2.1,()),q.1.1,q.1.2.2.1,q.1.2.2.2.1,(),(),(),q.1.2.2.2.2.2.2.2.2.1,q.1.2.2.2.2.2.2.2.2.2.1,q.1.2.2.2.2.1,q.1.2.2.2.2.2.2.1,q.1.2.2.2.2.2.2.2.1,()))
def AUV(q:AA×Int):Zl:=((q.2,()),(((),q.1.2.1,(),(),(),q.1.2.2.2.2.2.1,(),(),(),(),q.1.2.2.2.2.2.2.2.2.2.2.1,()),q.1.1,q.1.2.2.1,q.1.2.2.2.1,q.1.2.2.2.2.1,q.1.2.2.2.2.2.2.1,q.1.2.2.2.2.2.2.2.1,q.1.2.2.2.2.2.2.2.2.1,(),q.1.2.2.2.2.2.2.2.2.2.1,()))
def AIs(q:AA×Int):Ge:=((q.2,()),(((),q.1.2.1,(),(),(),q.1.2.2.2.2.2.1,(),(),(),(),q.1.2.2.2.2.2.2.2.2.2.2.1,()),q.1.1,q.1.2.2.1,(),q.1.2.2.2.2.1,q.1.2.2.2.2.2.2.1,q.1.2.2.2.2.2.2.2.1,q.1.2.2.2.2.2.2.2.2.1,q.1.2.2.2.2.2.2.2.2.2.1,q.1.2.2.2.1,()))
def AX9(q:AA×Int):YY:=((q.2,()),(((),q.1.2.1,(),(),(),q.1.2.2.2.2.2.1,(),(),(),(),q.1.2.2.2.2.2.2.2.2.2.2.1,()),q.1.1,q.1.2.2.1,q.1.2.2.2.1,q.1.2.2.2.2.1,q.1.2.2.2.2.2.2.1,(),q.1.2.2.2.2.2.2.2.2.1,q.1.2.2.2.2.2.2.2.2.2.1,q.1.2.2.2.2.2.2.2.1,()))
def Aba(q:AA×Int):We:=((q.2,()),(((),q.1.2.1,(),(),(),q.1.2.2.2.2.2.1,(),(),(),(),q.1.2.2.2.2.2.2.2.2.2.2.1,()),q.1.1,q.1.2.2.1,q.1.2.2.2.1,(),q.1.2.2.2.2.2.2.1,(),q.1.2.2.2.2.2.2.2.2.1,q.1.2.2.2.2.2.2.2.2.2.1,q.1.2.2.2.2.1,q.1.2.2.2.2.2.2.2.1,()))
theorem uw{m:As}{b:Int}{e:AJ}(h:Da m b=some e):C0 e.1:=by
 unfold Da at h;split at h
 ·rename_i hc
  simp only[AML,Ah]at hc;grind[Iu,JS]
 simp_all
theorem jK{α:Type}{l:List α}{i:Nat}{d:α}:l.set i (l.getD i d)=l:=by
 by_cases h:i<l.length
 ·simp_all
 grind[List.set_eq_of_length_le]
def o3(w:AA)(n ep:Int):Int:=if Aj w n=0 then if(Ao w.Ab ep).contains n then 0 else 2 else Aj w n
section
variable{w:AA} (h:NN w)
include h
theorem QC{n ep:Int}(he:C0 ep):De w n ep=some ((o3 w n ep,()),()):=by
 have k:=h.nums;have k1:=k.c;have k2:=k.wr;have k3:=k.lost;have k4:=k.st;have Zp:=k.aI;have hY:=k.Jd;have jh:=k.hU;have k5:=k.era;have k7:=k.bC;unfold De o3;rw[LM (by omega) (by omega),show(w.2.2.2.2.1,w.2.2.2.2.2.1,())=B3 w from rfl,O4 (r:=B3 w) (by show Af B8 w.2.2.2.2.1≤_;omega) he];have T7:(Ao w.Ab ep).length≤8:=GV h;rw[show(B3 w).1=w.Ab from rfl];simp only[AD,DE];rw[Ib (by omega)];grind
theorem Ym{n:Int}{e:AJ}(hn:Aj w n=0)(he:C0 e.1):LU n e w.2.1 w.2.2.2.2.2.1 w.2.2.2.2.2.2.2.2.2.2.1 w.1 w.2.2.1 w.2.2.2.1 w.2.2.2.2.1 w.2.2.2.2.2.2.1 w.2.2.2.2.2.2.2.1 w.2.2.2.2.2.2.2.2.1 w.2.2.2.2.2.2.2.2.2.1=some (jn (putAt w n (Fv (storeAt w n) e))):=by
 obtain⟨hr,s1,s2,s3⟩:=h.LG hn;have Za:w.2.2.1.getD n.toNat ([],[],0,())=storeAt w n:=rfl;unfold LU putAt;simp only[ALy hr,Za];rw[show((storeAt w n).1,(storeAt w n).2.1,(storeAt w n).2.2.1,())=storeAt w n from rfl,show(e.1,e.2.1,e.2.2.1,e.2.2.2.1,())=e from rfl,kO s1 s2 he];simp only[AD,lq,Ov];cases(Fv (storeAt w n) e).2<;>rfl
theorem gO{a:Int}:Jy a w.2.1 w.2.2.2.2.2.1 w.2.2.2.2.2.2.2.2.2.2.1 w.1 w.2.2.1 w.2.2.2.1 w.2.2.2.2.1 w.2.2.2.2.2.2.1 w.2.2.2.2.2.2.2.1 w.2.2.2.2.2.2.2.2.1 w.2.2.2.2.2.2.2.2.2.1=some (Aap (L5 w a)):=by
 have k:=h.nums;have k1:=k.c;have k2:=k.wr;have k3:=k.lost;have k4:=k.st;have Zp:=k.aI;have hY:=k.Jd;have jh:=k.hU;have k5:=k.era;have k7:=k.bC;unfold Jy L5;rw[DE];by_cases h4:w.2.2.2.2.2.2.1.length=4
 ·rw[ALy (by omega),ALy h4];rfl
 have hm:(An a).length≤8:=vk;rw[AMD (by omega),AMD h4,YJ];simp only[AD];rw[show(w.1,w.2.1,())=AS w from rfl,show(w.2.2.2.2.1,w.2.2.2.2.2.1,())=B3 w from rfl,mZ (c:=AS w) (r:=B3 w) (by show w.1.length≤_;omega) (by show Af B8 w.2.2.2.2.1≤_;omega) k.trim (by omega)];simp only[AD,Az];rcases AKU (IM (AS w) (B3 w) (An a)).2.2 with hq|hq
 ·rw[hq,ALy (by rw[BT];omega),Fl];rfl
 ·rw[hq,IL];rfl
theorem eo{d:BC}:I0 d w.2.1 w.2.2.2.2.2.1 w.2.2.2.2.2.2.2.2.2.2.1 w.1 w.2.2.1 w.2.2.2.1 w.2.2.2.2.1 w.2.2.2.2.2.2.1 w.2.2.2.2.2.2.2.1 w.2.2.2.2.2.2.2.2.1 w.2.2.2.2.2.2.2.2.2.1=some (jn (IJ w d.2.1 d.2.2.1 d.2.2.2.1)):=by
 have k:=h.nums;have k1:=k.c;have k2:=k.wr;have k3:=k.lost;have k4:=k.st;have Zp:=k.aI;have hY:=k.Jd;have jh:=k.hU;have k5:=k.era;have k7:=k.bC;unfold I0 IJ;rw[show(w.1,w.2.1,w.2.2.1,w.2.2.2.1,w.2.2.2.2.1,w.2.2.2.2.2.1,w.2.2.2.2.2.2.1,w.2.2.2.2.2.2.2.1,w.2.2.2.2.2.2.2.2.1,w.2.2.2.2.2.2.2.2.2.1,w.2.2.2.2.2.2.2.2.2.2.1,())=w from rfl,AK (x:=(w.2.2.2.2.2.2.1.length:Int)-1) (by omega) (by omega),Av];simp only[AD,Az,Cp];rw[show BM d.2.1 0 ((w.2.2.2.2.2.2.1.length:Int)-1)=BM d.2.1 0 ((w.AH.length:Int)-1)from rfl];rcases AKU (BM d.2.1 0 ((w.AH.length:Int)-1))with h1|h1
 rotate_left
 ·rw[h1,IL];rfl
 obtain⟨x1,x2,x3⟩:=h.cw h1;rw[h1,AMp,Fl,ALy x1,Av];simp only[AD];rw[show w.2.2.2.2.2.2.1.getD d.2.1.toNat (0,[],())=w.AH.getD d.2.1.toNat Bu from rfl]
 generalize hx:w.AH.getD d.2.1.toNat Bu=x at*
 rcases AKU (BM d.2.2.1 1 (x.2.1.length:Int))with h2|h2
 rotate_left
 ·rw[h2,IL];rfl
 have h2':=Ah.1 h2;have hxl:=x2.n;have hxe:=x2.ep;have km:=Iu (e:=x.1) (o:=d.2.2.1) hxe (by omega);have hpm:Gd x.1 d.2.2.1=D1 x.1 d.2.2.1:=by
  grind[Gd,Ah]
 rw[h2,AMp,Fl,QC h ⟨by omega,by omega⟩,Hw,hpm,AK (by omega) (by omega)];simp only[AD,ALy (show(0:Int)≤d.2.2.1-1∧d.2.2.1-1<(x.2.1.length:Int)by omega)];unfold o3;by_cases h3:Aj w d.2.2.2.1=0
 rotate_left
 ·rw[AMD h3,AMD h3,ALy h3];rfl
 rw[ALy h3,AMD (show¬(Aj w d.2.2.2.1≠0)from fun hh=>hh h3)];rcases AKU ((Ao w.Ab x.1).contains d.2.2.2.1)with h5|h5
 rotate_left
 ·rw[h5,IL];rfl
 rw[h5,Fl,ALy rfl,ALy rfl,Ym h h3 (JS km.1)];rfl
theorem eY{n k:Int}:Oc n k w.2.1 w.2.2.2.2.2.1 w.2.2.2.2.2.2.2.2.2.2.1 w.1 w.2.2.1 w.2.2.2.1 w.2.2.2.2.1 w.2.2.2.2.2.2.1 w.2.2.2.2.2.2.2.1 w.2.2.2.2.2.2.2.2.1 w.2.2.2.2.2.2.2.2.2.1=some (jn (IQ w n k)):=by
 have kk:=h.nums;have k1:=kk.c;have k2:=kk.wr;have k3:=kk.lost;have k4:=kk.st;have Zp:=kk.aI;have hY:=kk.Jd;have jh:=kk.hU;have k5:=kk.era;have k7:=kk.bC;unfold Oc IQ;rw[show(w.1,w.2.1,w.2.2.1,w.2.2.2.1,w.2.2.2.2.1,w.2.2.2.2.2.1,w.2.2.2.2.2.2.1,w.2.2.2.2.2.2.2.1,w.2.2.2.2.2.2.2.2.1,w.2.2.2.2.2.2.2.2.2.1,w.2.2.2.2.2.2.2.2.2.2.1,())=w from rfl,LM (by omega) (by omega)];simp only[AD,Cp];by_cases h3:Aj w n=0
 rotate_left
 ·rw[AMD h3,ALy h3];rfl
 obtain⟨hr,s1,s2,s3⟩:=h.LG h3;have Za:w.2.2.1.getD n.toNat ([],[],0,())=storeAt w n:=rfl;rw[ALy h3,AMD (show¬(Aj w n≠0)from fun hh=>hh h3)];simp only[ALy hr,Za];rw[show((storeAt w n).1,(storeAt w n).2.1,(storeAt w n).2.2.1,())=storeAt w n from rfl,Wr s1 s2];simp only[AD,lq,Ov];unfold putAt;rcases AKU (D5 (storeAt w n) k).2 with hq|hq
 ·rw[hq];rfl
 ·have e:(D5 (storeAt w n) k).1=storeAt w n:=by
   unfold D5 at hq⊢;rw[DN.2 s3]at hq⊢;grind
  rw[hq,e];have:w.2.2.1.set n.toNat ((storeAt w n).1,(storeAt w n).2.1,(storeAt w n).2.2.1,())=w.2.2.1:=jK;rw[this];rfl
theorem eu{n:Int}:Oj n w.2.1 w.2.2.2.2.2.1 w.2.2.2.2.2.2.2.2.2.2.1 w.1 w.2.2.1 w.2.2.2.1 w.2.2.2.2.1 w.2.2.2.2.2.2.1 w.2.2.2.2.2.2.2.1 w.2.2.2.2.2.2.2.2.1 w.2.2.2.2.2.2.2.2.2.1=some (jn (IV w n)):=by
 have k:=h.nums;have k1:=k.c;have k2:=k.wr;have k3:=k.lost;have k4:=k.st;have Zp:=k.aI;have hY:=k.Jd;have jh:=k.hU;have k5:=k.era;have k7:=k.bC;unfold Oj IV;rw[show(w.1,w.2.1,w.2.2.1,w.2.2.2.1,w.2.2.2.2.1,w.2.2.2.2.2.1,w.2.2.2.2.2.2.1,w.2.2.2.2.2.2.2.1,w.2.2.2.2.2.2.2.2.1,w.2.2.2.2.2.2.2.2.2.1,w.2.2.2.2.2.2.2.2.2.2.1,())=w from rfl,LM (by omega) (by omega)];simp only[AD,Cp];by_cases h3:Aj w n=0
 rotate_left
 ·rw[AMD h3,ALy h3];rfl
 obtain⟨hr,s1,s2,s3⟩:=h.LG h3;have Za:w.2.2.1.getD n.toNat ([],[],0,())=storeAt w n:=rfl;rw[ALy h3,AMD (show¬(Aj w n≠0)from fun hh=>hh h3)];simp only[ALy hr,Za];rw[show((storeAt w n).1,(storeAt w n).2.1,(storeAt w n).2.2.1,())=storeAt w n from rfl,jV s1 s2 k.trim];simp only[AD,lq,Ov];unfold putAt;rw[show w.trim=w.2.2.2.2.2.1 from rfl];rcases AKU (Fy (storeAt w n) w.2.2.2.2.2.1).2 with hq|hq
 ·rw[hq];rfl
 ·have e:(Fy (storeAt w n) w.2.2.2.2.2.1).1=storeAt w n:=by
   unfold Fy at hq⊢;rw[DN.2 s3]at hq⊢;grind
  rw[hq,e];have:w.2.2.1.set n.toNat ((storeAt w n).1,(storeAt w n).2.1,(storeAt w n).2.2.1,())=w.2.2.1:=jK;rw[this];rfl
theorem fu:Py w.2.1 w.2.2.2.2.2.1 w.2.2.2.2.2.2.2.2.2.2.1 w.1 w.2.2.1 w.2.2.2.1 w.2.2.2.2.1 w.2.2.2.2.2.2.1 w.2.2.2.2.2.2.2.1 w.2.2.2.2.2.2.2.2.1 w.2.2.2.2.2.2.2.2.2.1=some (AX9 (MC w)):=by
 have k:=h.nums;have k1:=k.c;have k2:=k.wr;have k3:=k.lost;have k4:=k.st;have Zp:=k.aI;have hY:=k.Jd;have jh:=k.hU;have k5:=k.era;have k7:=k.bC;unfold Py MC;rw[show(w.2.2.2.2.1,w.2.2.2.2.2.1,())=B3 w from rfl,Rx (r:=B3 w) (by show w.2.2.2.2.1.length≤_;omega)];simp only[AD,DE,AB];rw[show(B3 w).1=w.Ab from rfl];by_cases h1:(w.2.2.2.2.1.length:Int)<2
 ·rw[ALy h1,show(decide ((w.2.2.2.2.1.length:Int)<2)||decide (A8 w.2.2.2.2.1=(w.2.2.2.2.1.length:Int)))=true by simp_all];rfl
 rw[AMD h1];by_cases h2:A8 w.2.2.2.2.1=(w.2.2.2.2.1.length:Int)
 ·rw[ALy h2,show(decide ((w.2.2.2.2.1.length:Int)<2)||decide (A8 w.2.2.2.2.1=(w.2.2.2.2.1.length:Int)))=true by simp_all];rfl
 rw[AMD h2,show(decide ((w.2.2.2.2.1.length:Int)<2)||decide (A8 w.2.2.2.2.1=(w.2.2.2.2.1.length:Int)))=false by simp_all];rw[AMD (show¬(false=true)by simp)];by_cases h3:w.2.2.2.2.2.2.2.1.length>0
 ·rw[ALy (by omega),ALy h3];rfl
 ·rw[AMD (by omega),AMD h3];rfl
theorem gD{n:Int}:J0 n w.2.1 w.2.2.2.2.2.1 w.2.2.2.2.2.2.2.2.2.2.1 w.1 w.2.2.1 w.2.2.2.1 w.2.2.2.2.1 w.2.2.2.2.2.2.1 w.2.2.2.2.2.2.2.1 w.2.2.2.2.2.2.2.2.1 w.2.2.2.2.2.2.2.2.2.1=some (AIs (Lt w n)):=by
 have k:=h.nums;have k1:=k.c;have k2:=k.wr;have k3:=k.lost;have k4:=k.st;have Zp:=k.aI;have hY:=k.Jd;have jh:=k.hU;have k5:=k.era;have k7:=k.bC;have k6:=k.ws;unfold J0 Lt;rw[show(w.1,w.2.1,w.2.2.1,w.2.2.2.1,w.2.2.2.2.1,w.2.2.2.2.2.1,w.2.2.2.2.2.2.1,w.2.2.2.2.2.2.2.1,w.2.2.2.2.2.2.2.2.1,w.2.2.2.2.2.2.2.2.2.1,w.2.2.2.2.2.2.2.2.2.2.1,())=w from rfl,AK (x:=(w.2.2.1.length:Int)-1) (by omega) (by omega),AK (x:=(w.2.2.2.2.1.length:Int)-1) (by omega) (by omega),Av];simp only[AD,Az];rcases AKU (w.lost.contains n)with hl|hl
 rotate_left
 ·rw[hl]
  have e:C3 w n=some ((w.lost.contains n,()),()):=Z7 (by omega);rw[e,hl];cases BM n 0 ((w.2.2.1.length:Int)-1)<;>rfl
 have PY:=(EK.1 h.lost).2.1 n (by simp_all);have hn1:BM n 0 ((w.2.2.1.length:Int)-1)=true:=Ah.2 ⟨PY.1,by
  have:n<(w.1.length:Int):=PY.2;omega⟩
 have Aeb:=Ah.1 hn1;rw[hn1,show C3 w n=some ((w.lost.contains n,()),())from Z7 (by omega),hl,Fl];simp only[AD,AMp];rw[show(if(0:Int)>(w.2.2.2.2.1.length:Int)-1 then 0 else(w.2.2.2.2.1.length:Int)-1)=max ((w.Ab.length:Int)-1) 0 by
  grind]
 have AWV:∀s∈w.2.2.1,fV s:=fun s hs=>h.UE hs
 rw[show(w.1,w.2.1,())=AS w from rfl,uD (c:=AS w) (by show w.1.length≤_;omega) (by omega) (fun s hs=>by have:=(AWV s hs).nk;omega) (by omega) (fun s hs=>(AWV s hs).sin) (by omega)];simp only[AD,pkF];rw[show W9 (AS w) w.Am w.lost n (max ((w.Ab.length:Int)-1) 0)=W9 (AS w) w.2.2.1 w.2.2.2.1 n (max ((w.Ab.length:Int)-1) 0)from rfl];rcases AKU (W9 (AS w) w.2.2.1 w.2.2.2.1 n (max ((w.Ab.length:Int)-1) 0)).2 with hq|hq
 rotate_left
 ·rw[hq,IL];rfl
 rw[hq,AMp,Fl,ALy (by omega),PN (by omega)];rfl
theorem fp{n:Int}:Jv n w.2.1 w.2.2.2.2.2.1 w.2.2.2.2.2.2.2.2.2.2.1 w.1 w.2.2.1 w.2.2.2.1 w.2.2.2.2.1 w.2.2.2.2.2.2.1 w.2.2.2.2.2.2.2.1 w.2.2.2.2.2.2.2.2.1 w.2.2.2.2.2.2.2.2.2.1=some (jn (MJ w n)):=by
 have k:=h.nums;have k1:=k.c;have k2:=k.wr;have k3:=k.lost;have k4:=k.st;have Zp:=k.aI;have hY:=k.Jd;have jh:=k.hU;have k5:=k.era;have k7:=k.bC;unfold Jv MJ;rcases hm:w.BW with _|⟨m,ms⟩
 ·rw[DE,ALy (by simp_all)];rfl
 have qX:w.2.2.2.2.2.2.2.1=m::ms:=hm;have vT:w.2.2.2.2.2.2.2.1.length=ms.length+1:=by simp_all
 have g0:w.2.2.2.2.2.2.2.1.getD 0 (0,0,[],[],false,[],())=m:=by simp_all
 have yk:(0:Int)≤(0:Int)∧(0:Int)<(w.2.2.2.2.2.2.2.1.length:Int):=by omega
 have ZL:=(h.BW m (by simp_all)).1;have hmw:=ZL.w;have pV:=ZL.ep;have hmb:=ZL.b;simp only[DE,Az,Cp,ALy yk,g0];rw[AMD (by omega)];rw[show(w.1,w.2.1,w.2.2.1,w.2.2.2.1,w.2.2.2.2.1,w.2.2.2.2.2.1,w.2.2.2.2.2.2.1,w.2.2.2.2.2.2.2.1,w.2.2.2.2.2.2.2.2.1,w.2.2.2.2.2.2.2.2.2.1,w.2.2.2.2.2.2.2.2.2.2.1,())=w from rfl,QC h ⟨by omega,by omega⟩];simp only[AD];unfold o3;by_cases h3:Aj w n=0
 rotate_left
 ·rw[AMD h3,AMD h3,ALy h3];rfl
 obtain⟨hr,s1,s2,s3⟩:=h.LG h3;have Za:w.2.2.1.getD n.toNat ([],[],0,())=storeAt w n:=rfl;have hn3: ¬(Aj w n≠0):=fun hh=>hh h3
 rw[ALy h3,AMD hn3];simp only[ALy hr,Za];rcases AKU ((Ao w.Ab m.2.1).contains n)with h5|h5
 rotate_left
 ·rw[h5,IL];rfl
 rw[h5,Fl,ALy rfl,ALy rfl,AK (by omega) (by omega),show((storeAt w n).1,(storeAt w n).2.1,(storeAt w n).2.2.1,())=storeAt w n from rfl,jG s1 s2];have hq:=xL (u:=m.1-1) s3;have hqw:=hq.w;simp only[AD,lq];rw[show((Bh (storeAt w n) (m.1-1)).1.1,(Bh (storeAt w n) (m.1-1)).1.2.1,(Bh (storeAt w n) (m.1-1)).1.2.2.1,())=(Bh (storeAt w n) (m.1-1)).1 from rfl,js (by omega) hq.sin];simp only[AD];have hes:(GD (Bh (storeAt w n) (m.1-1)).1 m.2.1).length≤200∧rm (GD (Bh (storeAt w n) (m.1-1)).1 m.2.1)∧Af Ap (GD (Bh (storeAt w n) (m.1-1)).1 m.2.1)≤10000:=by
  unfold GD;rw[DN.2 hq,ALy rfl];refine⟨ASs (AS6 _ _) hq.nk,fun e he=>hq.sin.1 e (ATL.1 he).1,ASs jw ?_⟩;have:Al (Bh (storeAt w n) (m.1-1)).1=Af Ap (Bh (storeAt w n) (m.1-1)).1.1+Af Ap (Bh (storeAt w n) (m.1-1)).1.2.1:=rfl;omega
 rw[show(m.1,m.2.1,m.2.2.1,m.2.2.2.1,m.2.2.2.2.1,m.2.2.2.2.2.1,())=m from rfl,show(w.1,w.2.1,())=AS w from rfl,lB (c:=AS w) (by show w.1.length≤_;omega) (by omega) ZL.ein (by omega) hes.2.1 (by omega)];simp only[AD,jL];rcases AKU (Bh (storeAt w n) (m.1-1)).2 with h6|h6
 rotate_left
 ·rw[h6,AS5,AXT,ALy rfl];rfl
 rw[h6,AMP,AS7];rcases AKU (Ln (AS w) m n (GD (Bh (storeAt w n) (m.1-1)).1 m.2.1)).2 with h7|h7
 rotate_left
 ·rw[h7,IL];rfl
 rw[h7,Fl,AMp,AMp,qX];rfl
theorem gh:Ju w.2.1 w.2.2.2.2.2.1 w.2.2.2.2.2.2.2.2.2.2.1 w.1 w.2.2.1 w.2.2.2.1 w.2.2.2.2.1 w.2.2.2.2.2.2.1 w.2.2.2.2.2.2.2.1 w.2.2.2.2.2.2.2.2.1 w.2.2.2.2.2.2.2.2.2.1=some (jn (MO w)):=by
 have k:=h.nums;have k1:=k.c;have k2:=k.wr;have k3:=k.lost;have k4:=k.st;have Zp:=k.aI;have hY:=k.Jd;have jh:=k.hU;have k5:=k.era;have k7:=k.bC;unfold Ju MO;rcases hm:w.BW with _|⟨m,ms⟩
 ·rw[DE,ALy (by simp_all)];rfl
 have qX:w.2.2.2.2.2.2.2.1=m::ms:=hm;have vT:w.2.2.2.2.2.2.2.1.length=ms.length+1:=by simp_all
 have g0:w.2.2.2.2.2.2.2.1.getD 0 (0,0,[],[],false,[],())=m:=by simp_all
 have yk:(0:Int)≤(0:Int)∧(0:Int)<(w.2.2.2.2.2.2.2.1.length:Int):=by omega
 have ZL:=(h.BW m (by simp_all)).1;have hmw:=ZL.w;have pV:=ZL.ep;simp only[DE,Az,Cp,ALy yk,g0];rw[AMD (by omega)];rw[show(w.2.2.2.2.1,w.2.2.2.2.2.1,())=B3 w from rfl,O4 (r:=B3 w) (by show Af B8 w.2.2.2.2.1≤_;omega) ⟨by omega,by omega⟩];have T7:(Ao w.Ab m.2.1).length≤8:=GV h;rw[show(B3 w).1=w.Ab from rfl];simp only[AD];rw[show(m.1,m.2.1,m.2.2.1,m.2.2.2.1,m.2.2.2.2.1,m.2.2.2.2.2.1,())=m from rfl,show(w.1,w.2.1,())=AS w from rfl,kC (c:=AS w) (by show w.1.length≤_;omega) (by omega) ZL.ein (by omega)];simp only[AD,jL,Ov];rcases AKU (IA (AS w) m (Ao w.Ab m.2.1)).2 with h6|h6
 ·rw[h6,Fl,qX];rfl
 ·have e:(IA (AS w) m (Ao w.Ab m.2.1)).1=m:=by
   unfold IA at h6⊢;rw[HI.2 ZL]at h6⊢;grind
  rw[h6,IL,e,qX]
  show some ((4,()),_,_,_,_,_,_,(m::ms),_)=some ((4,()),_,_,_,_,_,_,w.2.2.2.2.2.2.2.1,_)
  rw[qX]
theorem il{b n:Int}:SR b n w.2.1 w.2.2.2.2.2.1 w.2.2.2.2.2.2.2.2.2.2.1 w.1 w.2.2.1 w.2.2.2.1 w.2.2.2.2.1 w.2.2.2.2.2.2.1 w.2.2.2.2.2.2.2.1 w.2.2.2.2.2.2.2.2.1 w.2.2.2.2.2.2.2.2.2.1=some (jn (SN w b n)):=by
 have k:=h.nums;have k1:=k.c;have k2:=k.wr;have k3:=k.lost;have k4:=k.st;have Zp:=k.aI;have hY:=k.Jd;have jh:=k.hU;have k5:=k.era;have k7:=k.bC;unfold SR SN;rcases hm:w.BW with _|⟨m,ms⟩
 ·rw[DE,ALy (by simp_all)];rfl
 have qX:w.2.2.2.2.2.2.2.1=m::ms:=hm;have vT:w.2.2.2.2.2.2.2.1.length=ms.length+1:=by simp_all
 have g0:w.2.2.2.2.2.2.2.1.getD 0 (0,0,[],[],false,[],())=m:=by simp_all
 have yk:(0:Int)≤(0:Int)∧(0:Int)<(w.2.2.2.2.2.2.2.1.length:Int):=by omega
 have ZL:=(h.BW m (by simp_all)).1;have hmw:=ZL.w;have pV:=ZL.ep;simp only[DE,Az,Cp,ALy yk,g0];rw[AMD (by omega),show(m.1,m.2.1,m.2.2.1,m.2.2.2.1,m.2.2.2.2.1,m.2.2.2.2.2.1,())=m from rfl,X_ (by omega)];simp only[AD];rcases he:Da m b with _|e
 ·rfl
 simp only[ATK,ATO,AMp];rw[show(w.1,w.2.1,w.2.2.1,w.2.2.2.1,w.2.2.2.2.1,w.2.2.2.2.2.1,w.2.2.2.2.2.2.1,w.2.2.2.2.2.2.2.1,w.2.2.2.2.2.2.2.2.1,w.2.2.2.2.2.2.2.2.2.1,w.2.2.2.2.2.2.2.2.2.2.1,())=w from rfl,QC h ⟨by omega,by omega⟩];simp only[AD];unfold o3;by_cases h3:Aj w n=0
 rotate_left
 ·rw[AMD h3,AMD h3,ALy h3];rfl
 rw[ALy h3,AMD (show¬(Aj w n≠0)from fun hh=>hh h3)];rcases AKU ((Ao w.Ab m.2.1).contains n)with h5|h5
 rotate_left
 ·rw[h5,IL];rfl
 rw[h5,Fl,ALy rfl,ALy rfl,show(e.1,e.2.1,e.2.2.1,e.2.2.2.1,())=e from rfl,Ym h h3 (uw he)];rfl
theorem ei:Iw w.2.1 w.2.2.2.2.2.1 w.2.2.2.2.2.2.2.2.2.2.1 w.1 w.2.2.1 w.2.2.2.1 w.2.2.2.2.1 w.2.2.2.2.2.2.1 w.2.2.2.2.2.2.2.1 w.2.2.2.2.2.2.2.2.1 w.2.2.2.2.2.2.2.2.2.1=some (Aba (IH w)):=by
 have k:=h.nums;have k1:=k.c;have k2:=k.wr;have k3:=k.lost;have k4:=k.st;have Zp:=k.aI;have hY:=k.Jd;have jh:=k.hU;have k5:=k.era;have k7:=k.bC;unfold Iw IH;rcases hm:w.BW with _|⟨m,ms⟩
 ·rw[DE,ALy (by simp_all)];rfl
 have qX:w.2.2.2.2.2.2.2.1=m::ms:=hm;have vT:w.2.2.2.2.2.2.2.1.length=ms.length+1:=by simp_all
 have g0:w.2.2.2.2.2.2.2.1.getD 0 (0,0,[],[],false,[],())=m:=by simp_all
 have yk:(0:Int)≤(0:Int)∧(0:Int)<(w.2.2.2.2.2.2.2.1.length:Int):=by omega
 have ZL:=(h.BW m (by simp_all)).1;have hmw:=ZL.w;simp only[DE,Az,Cp,ALy yk,g0];rw[AMD (by omega),show(m.1,m.2.1,m.2.2.1,m.2.2.2.1,m.2.2.2.2.1,m.2.2.2.2.2.1,())=m from rfl,show(w.1,w.2.1,())=AS w from rfl,show(w.2.2.2.2.1,w.2.2.2.2.2.1,())=B3 w from rfl,jA (c:=AS w) (by show w.1.length≤_;omega) (by omega) ZL.ein];simp only[AD];rcases AKU (O0 (AS w) m)with h6|h6
 rotate_left
 ·rw[h6,IL];rfl
 rw[h6,Fl,AMp,jy (c:=AS w) (r:=B3 w) (by show w.1.length≤_;omega) (by show Af B8 w.2.2.2.2.1≤_;omega) k.trim];simp only[AD,pkR,Ov];rcases AKU (Mi (AS w) (B3 w) m.1 (m.2.2.2.2.2.1.length:Int)).2 with h7|h7
 ·rw[h7,AMp,Fl];rfl
 ·rw[h7,AMU,IL];rfl
end
end Go.M
end
section
set_option maxRecDepth 8000
namespace Go.M
open Go.M.H (AJ AO As Ac AA CN AQ A7 AM AY A3 Ax BC Al CJ Af AX Aa Ap B8 BJ Ar A0 EO CO Cv C_)
abbrev nA(l:List Ac):Prop:=S8 (fun s:Ac=>s.1) l
abbrev AC5(p:Int)(l:List Ac)(q:Nat):Prop:=jR (fun s:Ac=>s.1) p l q
def Zc(p:Int)(l:List Ac)(q:Nat):Bool:=match l[q]? with|some e=>e.1==p|none=>false
theorem l4{l:List Ac}(ha:nA l)(hl:l.length≤2^30)(hp:∀s∈l,0≤s.1∧s.1<2^40){p:Int}(hpp:0≤p∧p<2^40):∃q,AC5 p l q∧
  BQ l p=some ((((q:Int),Zc p l q,()),()),()):=by
 have key:∀(n a b:Nat),a≤b→b≤l.length→b-a<n→(∀(i:Nat) (h:i<l.length),i<a→l[i].1<p)→(∀(i:Nat) (h:i<l.length),b≤i→p≤l[i].1)→
   ∃q,AC5 p l q∧Aw n l p l.length a b=some ((((q:Int),Zc p l q,()),()),()):=by
  intro n
  induction n with
  |zero=>omega
  |succ n ih=>
   intro a b rV hb hn h1 h2;simp only[Aw,Cd,AB,Kk,AD];by_cases Kg:a<b
   ·have hm:(a+b)/2<l.length:=by omega
    have hq:=hp _ (AMh hm);rw[ALy (by omega),uZ (by omega),ALy (by omega),Ai hm,AK (by omega) (by omega)];by_cases hc:l[(a+b)/2].1<p
    ·rw[ALy (by omega),AK (by omega) (by omega),show((((a+b)/2:Nat):Int)+1)=(((a+b)/2+1:Nat):Int)by omega]
     refine ih _ b (by omega) hb (by omega) (fun i h hi=> ?_) h2;exact Int.lt_of_le_of_lt (ar (f:=fun s:Ac=>s.1) ha h hm (by omega)) hc
    ·rw[AMD (by omega)]
     exact ih a _ (by omega) (by omega) (by omega) h1 fun i h hi=>Int.le_trans (by omega) (ar (f:=fun s:Ac=>s.1) ha hm h hi)
   ·have AEE:a=b:=by omega
    subst AEE;refine⟨a,⟨hb,h1,h2⟩,?_⟩;rw[AMD (by omega)];unfold Zc;by_cases ha':a<l.length
    ·have hq:=hp _ (AMh ha')
     rw[ALy (by omega),ALy (by omega),Ai ha',AL5 ha',AK (by omega) (by omega)];dsimp only;by_cases hd:l[a].1=p
     ·simp_all
     ·rw[AQJ.2 hd,AQJ.2 (by omega:l[a].1-p≠0)]
    grind
 obtain⟨q,hq,e⟩:=key Ae 0 l.length (by omega) (by omega) (Ag (by omega)) (fun i h hi=>by omega) (fun i h hi=>by omega);refine⟨q,hq,?_⟩;unfold BQ Ce;omega
theorem wS{p:Int}{l:List Ac}{q:Nat}(h:Zc p l q=true):∃hq:q<l.length,l[q].1=p:=by
 unfold Zc at h;grind
theorem tM{p:Int}{l:List Ac}{q:Nat}(hp:AC5 p l q)(ha:nA l)(h:Zc p l q=false):∀s∈l,s.1≠p:=by
 intro s hs e;obtain⟨i,hi,rfl⟩:=List.mem_iff_getElem.1 hs;have h1:=hp.lt i hi;by_cases hiq:i<q
 ·omega
 ·have hq:q<l.length:=by omega
  have h3:p≤l[q].1:=hp.ge q hq (AQW _);have h4:=ar (f:=fun s:Ac=>s.1) ha hq hi (by omega);grind[Zc,List.getElem?_eq_getElem,beq_eq_false_iff_ne]
theorem AGy{p:Int}{l:List Ac}{q:Nat}(hp:AC5 p l q)(ha:nA l):(l.any fun s=>s.1==p)=Zc p l q:=by
 rcases AKU (Zc p l q)with h|h
 ·obtain⟨hq,e⟩:=wS h
  grind
 ·rw[h,List.any_eq_false]
  intro s hs;grind[tM]
def QV(p:Int)(l:List Ac):List Ac:=l.map fun s=>if s.1=p then(s.1,s.2.1,true,())else s
theorem AA0{p:Int}{l:List Ac}(h:∀s∈l,s.1≠p):QV p l=l:=by
 unfold QV
 conv=>rhs;rw[←List.map_id l]
 refine ATF fun s hs=> ?_
 grind
theorem AEj{p:Int}:∀{l:List Ac} {q:Nat} (hq:q<l.length),nA l→l[q].1=p→l.set q (l[q].1,l[q].2.1,true,())=QV p l
 |[],q,hq,_,_=>by rfl
 |s::l,0,_,ha,e=>by
  have h1:=ARf.1 ha;have e':s.1=p:=e;have h2:QV p l=l:=AA0 fun y hy=>by grind
  show(s.1,s.2.1,true,())::l=(if s.1=p then(s.1,s.2.1,true,())else s)::QV p l
  simp_all
 |s::l,q+1,hq,ha,e=>by
  have h1:=ARf.1 ha;have hq':q<l.length:=by grind
  have e':l[q].1=p:=e;have h3:s.1<l[q].1:=h1.1 _ (AMh hq');have h4:s.1≠p:=by omega
  have:=AEj hq' h1.2 e'
  show s::l.set q (l[q].1,l[q].2.1,true,())=(if s.1=p then(s.1,s.2.1,true,())else s)::QV p l
  simp_all
theorem sm_at{p:Int}{l:List Ac}:∀{s:Ac},s∈QV p l→ ∃t∈l,t.1=s.1:=by
 intro s hs;obtain⟨t,ht,rfl⟩:=ATS.1 hs;grind
theorem ASt{p:Int}{l:List Ac}(h:nA l):nA (QV p l):=by
 unfold QV nA S8;grind
theorem AOa{p:Int}{l:List Ac}:(QV p l).length=l.length:=by unfold QV;rw[AXK]
theorem wI{s:Ac}:∀{l:List Ac} {q:Nat},AC5 s.1 l q→Zc s.1 l q=false→Xr s l=l.take q++[s]++l.drop q
 |[],q,h,_=>by
  have:=h.le;have:q=0:=by simp_all
  subst this;rfl
 |y::l,0,h,hn=>by
  have h1:=h.ge 0 (by simp) (AQW _);have h2:(y.1==s.1)=false:=hn;have h2':=AQJ.1 h2;have h1':s.1≤y.1:=h1;simp only[Xr];grind
 |y::l,q+1,h,hn=>by
  have h1:y.1<s.1:=h.lt 0 (by simp) (by omega);have hp:AC5 s.1 l q:=⟨by have:=h.le;simp_all,fun i hi hiq=>h.lt (i+1) (by simp_all) (by omega),fun i hi hiq=>h.ge (i+1) (by simp_all) (by omega)⟩;simp only[Xr];rw[AMD (by omega),wI hp hn];rfl
section
variable{w:AA} (h:NN w)
include h
theorem NN.ANu:∀s∈w.2.2.2.2.2.2.2.2.2.1,0≤s.1∧s.1<2^40:=fun s hs=>by
 have hp:=(h.BX s hs).1;have h1:=CF hp;grind[D1,AN,A6]
theorem iZ{a:Int}{d:ACC}(hd:d.length≤40):LV a d w.2.1 w.2.2.2.2.2.1 w.2.2.2.2.2.2.2.2.2.2.1 w.1 w.2.2.1 w.2.2.2.1 w.2.2.2.2.1 w.2.2.2.2.2.2.1 w.2.2.2.2.2.2.2.1 w.2.2.2.2.2.2.2.2.1 w.2.2.2.2.2.2.2.2.2.1=some (AUV (doAdd w a d)):=by
 have k:=h.nums;have k1:=k.c;have k2:=k.wr;have k3:=k.lost;have k4:=k.st;have Zp:=k.aI;have hY:=k.Jd;have jh:=k.hU;have k5:=k.era;have k7:=k.bC;have k6:=k.se;unfold LV doAdd;rw[AK (x:=(w.2.2.2.2.2.2.1.length:Int)-1) (by omega) (by omega),Av];simp only[AD,Az,Cp,DE];rw[show BM a 0 ((w.2.2.2.2.2.2.1.length:Int)-1)=BM a 0 ((w.AH.length:Int)-1)from rfl];rcases AKU (BM a 0 ((w.AH.length:Int)-1))with h1|h1
 rotate_left
 ·rw[h1,IL];rfl
 obtain⟨x1,x2,x3⟩:=h.cw h1;rw[h1,AMp,Fl];simp only[ALy x1];rw[show w.2.2.2.2.2.2.1.getD a.toNat (0,[],())=w.AH.getD a.toNat Bu from rfl]
 generalize hx:w.AH.getD a.toNat Bu=x at*
 rw[show(x.1,x.2.1,())=x from rfl,show(w.1,w.2.1,())=AS w from rfl,jC (c:=AS w) (by show w.1.length≤_;omega) (by omega) (by omega)];simp only[AD];rw[Hw];simp only[AD];have hxl:=x2.n;have hxe:=x2.ep;have hq1:(CE (AS w) x d).1.1=x.1:=by
  unfold CE;rw[IW.2 x2];grind
 have hpm:0≤Gd (CE (AS w) x d).1.1 (CE (AS w) x d).2.1∧Gd (CE (AS w) x d).1.1 (CE (AS w) x d).2.1<2^40:=by
  unfold Gd D1;split
  ·rename_i hc
   rw[AML,Ah,Ah]at hc;omega
  omega
 obtain⟨q,hq,es⟩:=l4 (l:=w.2.2.2.2.2.2.2.2.2.1) h.Xp (by omega) h.ANu hpm;unfold Hm;rw[es];simp only[AD];rcases AKU (CE (AS w) x d).2.2 with h2|h2
 rotate_left
 ·rw[h2,AS5,AXT,ALy rfl,AMU];rfl
 obtain⟨y1,y2,y3,y4⟩:=Vq h2;have hyl:=y2.n;rw[y3]at hyl;simp only[APB,ANZ,AQZ]at hyl;have km:=Iu (e:=x.1) (o:=(CE (AS w) x d).2.1) hxe (by omega);have hpe:Gd (CE (AS w) x d).1.1 (CE (AS w) x d).2.1=D1 x.1 (CE (AS w) x d).2.1:=by
  grind[Gd,Ah]
 rw[hpe]at hq⊢;rw[h2,AMp];simp only[AMP,AS7];have Abk:(w.BX.any fun s=>s.1==D1 x.1 (CE (AS w) x d).2.1)=Zc (D1 x.1 (CE (AS w) x d).2.1) w.2.2.2.2.2.2.2.2.2.1 q:=AGy hq h.Xp;rw[Abk];by_cases h3:w.2.2.2.2.2.2.2.2.2.1.length=120
 ·rw[ALy (by omega),show decide (w.BX.length=120)=true from ASn h3,AXT,ALy rfl]
  rfl
 rw[AMD (by omega),show decide (w.BX.length=120)=false from ATM h3];simp only[AS7];rcases AKU (Zc (D1 x.1 (CE (AS w) x d).2.1) w.2.2.2.2.2.2.2.2.2.1 q)with h4|h4
 ·rw[h4,AMp,ALy rfl];rfl
 rw[h4,AMU,AMD (by simp)];have hql:=hq.le;grind[EE,jZ,wI,D1,CE,AS,AUV,List.append_assoc,Xr]
end
end Go.M
end
section
set_option maxRecDepth 8000
namespace Go.M
open Go.M.H (AJ AO As Ac AA CN AQ A7 AM AY A3 Ax BC Al CJ Af AX Aa Ap B8 BJ Ar A0 EO CO Cv C_)
def e9(c:B9)(s:AO)(ep n:Int):Int→List A7→List Ac→List Ac
 |_,[],se=>se
 |o,x::l,se=>e9 c s ep n (o+1) l (if !x.2.2.1&&JO s (D1 ep o)&&(EY c n x).2.2.1 then QV (D1 ep o) se else se)
def pkT(c0:AAO)(c1 tr:Int)(tn:Bool)(ss:List AO)(lo:AAO)(er:List CN)(ws:List AM)(ms:List As)(rs:List AY)(se:List Ac):Fz:=
 (((()),()),(((),c1,(),(),(),tr,(),(),(),(),tn,()),c0,ss,lo,er,ws,ms,rs,se,()))
section
variable{c:B9} {st:AO} {SS:List AO} {n:Int} (hc:c.1.length≤8) (hs:fV st) (hn:0≤n∧n<c.1.length) (hnS:n<(SS.length:Int)) (Za:SS.getD n.toNat Cl=st)
include hc hs hn hnS Za
theorem zL{tr:Int}{tn:Bool}{lo:AAO}{er:List CN}{ms:List As}{rs:List AY}{a:Nat}{ep:Int}:∀(rest dn:List A7) (ws:List AM) (se:List Ac) (f:Nat),a<ws.length→a≤4→ws.getD a Bu=(ep,dn++rest,())→ae c (ep,dn++rest,())→
  nA se→(∀s∈se,0≤s.1∧s.1<2^40)→se.length≤120→rest.length<f→
  Cx f (a:Int) n ((dn.length:Int)+1) c.2.1 tr tn c.1 SS lo er ws ms rs se=some (pkT c.1 c.2.1 tr tn SS lo er (ws.set a (ep,dn++BB c st ep n ((dn.length:Int)+1) rest,())) ms rs (e9 c st ep n ((dn.length:Int)+1) rest se)):=by
 have fN:=hs.w;intro rest
 induction rest with
 |nil=>
  intro dn ws se f ha ha4 hw Br y7 AIY ANE hf;obtain⟨f,rfl⟩:∃f',f=f'+1:=⟨f-1,by omega⟩;have rI:ws.getD a (0,[],())=(ep,dn++[],()):=hw;simp only[Cx,IY,AB,AMV,rI,AM5];rw[ALy (by omega),AMD (by omega)];unfold BB e9 pkT;rw[show((ep,dn++[],()):AM)=ws.getD a Bu from hw.symm,jK]
 |cons x rest ih=>
  intro dn ws se f ha ha4 hw Br y7 AIY ANE hf;obtain⟨f,rfl⟩:∃f',f=f'+1:=⟨f-1,by omega⟩;simp only[ANZ]at hf;have rI:ws.getD a (0,[],())=(ep,dn++x::rest,()):=hw;have hwe:1≤ep∧ep≤30:=Br.ep;have hwn:(dn++x::rest).length≤60:=Br.n;have hww:Af BJ (dn++x::rest)≤3000:=Br.w;have hwl:=hwn;simp only[APB,ANZ]at hwl;have ca:(0:Int)≤(a:Int)∧(a:Int)<(ws.length:Int):=by omega
  have cn:(0:Int)≤n∧n<(SS.length:Int):=⟨hn.1,hnS⟩;have km:=Iu (e:=ep) (o:=(dn.length:Int)+1) hwe (by omega);have hpm:Gd ep ((dn.length:Int)+1)=D1 ep ((dn.length:Int)+1):=by
   grind[Gd,Ah]
  have cd:(0:Int)≤(dn.length:Int)+1-1∧(dn.length:Int)+1-1<((dn++x::rest).length:Int):=by
   grind
  have e1:((dn.length:Int)+1-1).toNat=dn.length:=by omega
  have e2:(dn++x::rest).getD dn.length ([],[],false,())=x:=by simp[List.getD]
  have ASC:SS.getD n.toNat ([],[],0,())=st:=Za;simp only[Cx,IY,AB,Az,Cp,AMV,rI,ALy ca,ALy cn];rw[ALy (by omega),Hw,hpm];simp only[AD,ASC];rw[show(st.1,st.2.1,st.2.2.1,())=st from rfl,TN (by omega) hs.sin];simp only[AD];rw[AK (x:=(dn.length:Int)+1+1) (by omega) (by omega),AK (x:=(dn.length:Int)+1-1) (by omega) (by omega)];simp only[ALy cd,e1,e2];have go:∀(y:A7) (ws':List AM) (nn:List Ac),ws'.length=ws.length→ws'.getD a Bu=(ep,dn++y::rest,())→(∀z,ws'.set a z=ws.set a z)→ae c (ep,dn++y::rest,())→nA nn→(∀s∈nn,0≤s.1∧s.1<2^40)→nn.length≤120→
    (if !x.2.2.1&&JO st (D1 ep ((dn.length:Int)+1))then EY c n x else x)=y→(if !x.2.2.1&&JO st (D1 ep ((dn.length:Int)+1))&&(EY c n x).2.2.1 then QV (D1 ep ((dn.length:Int)+1)) se else se)=nn→
    Cx f (a:Int) n ((dn.length:Int)+1+1) c.2.1 tr tn c.1 SS lo er ws' ms rs nn=some (pkT c.1 c.2.1 tr tn SS lo er (ws.set a (ep,dn++BB c st ep n ((dn.length:Int)+1) (x::rest),())) ms rs (e9 c st ep n ((dn.length:Int)+1) (x::rest) se)):=fun y ws' nn g1 g2 g3 g4 g5 g6 g7 g8 g9=>by
   have:=ih (dn++[y]) ws' nn f (by omega) ha4 (by simp_all) (by simp_all) g5 g6 g7 (by omega);simp only[APB,ANZ,AQZ,AM8,ATy]at this;grind[BB,e9]
  have stay:(if !x.2.2.1&&JO st (D1 ep ((dn.length:Int)+1))then EY c n x else x)=x→(if !x.2.2.1&&JO st (D1 ep ((dn.length:Int)+1))&&(EY c n x).2.2.1 then QV (D1 ep ((dn.length:Int)+1)) se else se)=se→
    Cx f (a:Int) n ((dn.length:Int)+1+1) c.2.1 tr tn c.1 SS lo er ws ms rs se=some (pkT c.1 c.2.1 tr tn SS lo er (ws.set a (ep,dn++BB c st ep n ((dn.length:Int)+1) (x::rest),())) ms rs (e9 c st ep n ((dn.length:Int)+1) (x::rest) se)):=fun g8 g9=>go x ws se rfl hw (fun _=>rfl) Br y7 AIY ANE g8 g9
  have hsg:Xc st (D1 ep ((dn.length:Int)+1))=Ek (D1 ep ((dn.length:Int)+1)) st.1:=by unfold Xc;rw[DN.2 hs,ALy rfl]
  rw[hsg];cases hxd:x.2.2.1 with
  |true=>
   grind
  |false=>
   rw[AMU];cases hg:Ek (D1 ep ((dn.length:Int)+1)) st.1 with
   |none=>
    grind[JO,D1]
   |some e=>
    simp only[AMp];by_cases he0:e.2.1=0
    rotate_left
    ·have hh:JO st (D1 ep ((dn.length:Int)+1))=false:=by grind[JO]
     simp_all
    have hh:JO st (D1 ep ((dn.length:Int)+1))=true:=by grind[JO]
    rw[ALy he0];have hx:=Br.words x (by simp);have hb:ae c (ep,dn++EY c n x::rest,()):=⟨Br.cfg,Br.ep,by grind,fun b hb=>by
     simp only[AOs,ANv]at hb;rcases hb with hb|rfl|hb
     ·exact Br.words b (by simp[hb])
     ·exact⟨hx.1,II hx.2.1 hn,rfl⟩
     ·exact Br.words b (by simp[hb]),ASs (j_ hxd) Br.opn⟩
    rw[show(c.1,c.2.1,())=c from rfl,iH (c:=c) (w:=(ep,dn++x::rest,())) (by omega) (by grind)];have AEC:QZ c (ep,dn++x::rest,()) ((dn.length:Int)+1) n=((ep,dn++EY c n x::rest,()),true):=by
     unfold QZ;rw[IW.2 Br];simp only[AMP,AMO,AOR];rw[e1,show(dn++x::rest).getD dn.length Kw=x from e2,hxd];rw[ALy (by
      rw[AML,AML,Ah,Ah];grind)]
     grind
    rw[AEC];simp only[AD,pkW];have hx7:(ws.set a (ep,dn++EY c n x::rest,())).getD a (0,[],())=(ep,dn++EY c n x::rest,()):=Mo ha;have ca7:(0:Int)≤(a:Int)∧(a:Int)<((ws.set a (ep,dn++EY c n x::rest,())).length:Int):=by grind
    have cd7:(0:Int)≤(dn.length:Int)+1-1∧(dn.length:Int)+1-1<((dn++EY c n x::rest).length:Int):=by
     grind
    have e27:(dn++EY c n x::rest).getD dn.length ([],[],false,())=EY c n x:=by simp[List.getD]
    have hpr:0≤D1 ep ((dn.length:Int)+1)∧D1 ep ((dn.length:Int)+1)<2^40:=by unfold D1;omega
    obtain⟨q,hq,es⟩:=l4 y7 (by omega) AIY hpr;unfold Hm;rw[es];simp only[AD,hx7,ALy ca7,ALy cd7,e27];have WT:∀z,(ws.set a (ep,dn++EY c n x::rest,())).set a z=ws.set a z:=fun z=>AXc ..
    have AMC:(if !x.2.2.1&&JO st (D1 ep ((dn.length:Int)+1))then EY c n x else x)=EY c n x:=by grind
    rcases AKU (Zc (D1 ep ((dn.length:Int)+1)) se q)with hf|hf
    rotate_left
    ·rw[hf,AMU]
     refine go _ _ se (AUg ..) hx7 WT hb y7 AIY ANE AMC ?_
     rw[AA0 (tM hq y7 hf)];grind
    obtain⟨hql,hqe⟩:=wS hf;rw[hf,AMp];cases hd:(EY c n x).2.2.1 with
    |false=>
     grind
    |true=>
     rw[AMp,ALy (by omega),AMV,show se.getD q (0,[],false,())=se[q]from Ny hql,AEj hql y7 hqe];refine go _ _ _ (AUg ..) hx7 WT hb (ASt y7) (fun s xi=> ?_) (by rw[AOa];omega) AMC (by grind);grind[sm_at]
theorem yc{tr:Int}{tn:Bool}{lo:AAO}{er:List CN}{ws:List AM}{rs:List AY}{se:List Ac}{a:Nat}{m:As}(hm:qn c m):∀(rest dn:List AAO) (ms:List As) (f:Nat),a<ms.length→a≤4→ms.getD a Qz=(m.1,m.2.1,m.2.2.1,m.2.2.2.1,m.2.2.2.2.1,dn++rest,())→(dn++rest).length=m.2.2.2.2.2.1.length→(∀l∈dn++rest,Ay c l=true)→
  rest.length<f→
  BV f (a:Int) n ((dn.length:Int)+1) c.2.1 tr tn c.1 SS lo er ws ms rs se=some (pkT c.1 c.2.1 tr tn SS lo er ws (ms.set a (m.1,m.2.1,m.2.2.1,m.2.2.2.1,m.2.2.2.2.1,dn++Dz m st n ((dn.length:Int)+1) rest,())) rs se):=by
 have fN:=hs.w;have hmn:m.2.2.2.2.2.1.length≤60:=by
  have:=hm.n;have hb:=GR (l:=m.2.2.2.1);omega
 intro rest
 induction rest with
 |nil=>
  intro dn ms f ha ha4 hw hl ho hf;obtain⟨f,rfl⟩:∃f',f=f'+1:=⟨f-1,by omega⟩;have rI:ms.getD a (0,0,[],[],false,[],())=(m.1,m.2.1,m.2.2.1,m.2.2.2.1,m.2.2.2.2.1,dn++[],()):=hw;simp only[BV,Gz,AB,AMV,rI,AM5];rw[ALy (by omega),AMD (by omega)];unfold Dz pkT;rw[show((m.1,m.2.1,m.2.2.1,m.2.2.2.1,m.2.2.2.2.1,dn++[],()):As)=ms.getD a Qz from hw.symm,jK]
 |cons x rest ih=>
  intro dn ms f ha ha4 hw hl ho hf;obtain⟨f,rfl⟩:∃f',f=f'+1:=⟨f-1,by omega⟩;simp only[ANZ]at hf;have rI:ms.getD a (0,0,[],[],false,[],())=(m.1,m.2.1,m.2.2.1,m.2.2.2.1,m.2.2.2.2.1,dn++x::rest,()):=hw;have iS:=hl;simp only[APB,ANZ]at iS;have ca:(0:Int)≤(a:Int)∧(a:Int)<(ms.length:Int):=by omega
  have cn:(0:Int)≤n∧n<(SS.length:Int):=⟨hn.1,hnS⟩;have ASC:SS.getD n.toNat ([],[],0,())=st:=Za;have ZL:qn c (m.1,m.2.1,m.2.2.1,m.2.2.2.1,m.2.2.2.2.1,dn++x::rest,()):=⟨hm.cfg,hm.ep,hm.b,hm.ew,hm.fo,hm.seen,ho,by show((dn++x::rest).length:Int)=_;rw[hl];exact hm.n⟩;have hmw:=ZL.w;simp only[BV,Gz,AB,Az,Cp,AMV,rI,ALy ca,ALy cn];rw[ALy (by omega),X_ (m:=(m.1,m.2.1,m.2.2.1,m.2.2.2.1,m.2.2.2.2.1,dn++x::rest,())) (by omega),bn hl];simp only[AD,ASC];rw[show(st.1,st.2.1,st.2.2.1,())=st from rfl,TN (by omega) hs.sin];simp only[AD];rw[AK (x:=(dn.length:Int)+1+1) (by omega) (by omega)];have go:∀(y:AAO) (ms':List As),ms'.length=ms.length→ms'.getD a Qz=(m.1,m.2.1,m.2.2.1,m.2.2.2.1,m.2.2.2.2.1,dn++y::rest,())→(∀z,ms'.set a z=ms.set a z)→Ay c y=true→
    (if NU m st ((dn.length:Int)+1)then JG n x else x)=y→
    BV f (a:Int) n ((dn.length:Int)+1+1) c.2.1 tr tn c.1 SS lo er ws ms' rs se=some (pkT c.1 c.2.1 tr tn SS lo er ws (ms.set a (m.1,m.2.1,m.2.2.1,m.2.2.2.1,m.2.2.2.2.1,dn++Dz m st n ((dn.length:Int)+1) (x::rest),())) rs se):=fun y ms' g1 g2 g3 g4 g5=>by
   have:=ih (dn++[y]) ms' f (by omega) ha4 (by simp_all) (by simp_all) (fun l hl=>by
    grind) (by omega)
   simp only[APB,ANZ,AQZ,AM8,ATy]at this;grind[Dz]
  have hx:=ho x (by simp);have stay:NU m st ((dn.length:Int)+1)=false→BV f (a:Int) n ((dn.length:Int)+1+1) c.2.1 tr tn c.1 SS lo er ws ms rs se=some (pkT c.1 c.2.1 tr tn SS lo er ws (ms.set a (m.1,m.2.1,m.2.2.1,m.2.2.2.1,m.2.2.2.2.1,dn++Dz m st n ((dn.length:Int)+1) (x::rest),())) rs se):=fun g=>go x ms rfl hw (fun _=>rfl) hx (by simp_all)
  have hsg:∀p,Xc st p=Ek p st.1:=fun p=>by unfold Xc;rw[DN.2 hs,ALy rfl]
  rw[hsg];cases he:Da m ((dn.length:Int)+1)with
  |none=>
   simp only[ATN,AMU];grind[NU]
  |some e=>
   simp only[ATO,AMp,ATK];cases hg:Ek e.1 st.1 with
   |none=>
    grind[NU]
   |some y=>
    simp only[AMp,eqE,AB];by_cases hye:y=e
    rotate_left
    ·rw[AMD hye]
     grind[NU]
    have hh:NU m st ((dn.length:Int)+1)=true:=by grind[NU]
    rw[ALy hye,show(c.1,c.2.1,())=c from rfl,m_ (c:=c) (m:=(m.1,m.2.1,m.2.2.1,m.2.2.2.1,m.2.2.2.2.1,dn++x::rest,())) (by omega) (by omega) ZL.ein];have AEC:Yd c (m.1,m.2.1,m.2.2.1,m.2.2.2.1,m.2.2.2.2.1,dn++x::rest,()) ((dn.length:Int)+1) n=((m.1,m.2.1,m.2.2.1,m.2.2.2.1,m.2.2.2.2.1,dn++JG n x::rest,()),true):=by
     unfold Yd;rw[HI.2 ZL];have hq:(BM ((dn.length:Int)+1) 1 ((dn++x::rest).length:Int)&&BM n 0 ((c.1.length:Int)-1))=true:=by
      rw[AML,Ah,Ah];omega
     grind
    grind[AD,jL,JG,List.length_set,Mo,List.set_set,II]
end
def gb(c:B9)(s:AO)(ep n:Int):Int→List A7→Int→Bool
 |_,[],_=>false
 |o,x::l,p=>(decide (p=D1 ep o)&&(!x.2.2.1&&JO s (D1 ep o)&&(EY c n x).2.2.1))||gb c s ep n (o+1) l p
theorem sB{c:B9}{st:AO}{ep n:Int}:∀{l:List A7} {o:Int} {se:List Ac},e9 c st ep n o l se=se.map fun s=>(s.1,s.2.1,s.2.2.1||gb c st ep n o l s.1,())
 |[],o,se=>by
  simp only[e9,gb,AXW];simp_all
 |x::l,o,se=>by
  simp only[e9];rw[sB];rcases AKU (!x.2.2.1&&JO st (D1 ep o)&&(EY c n x).2.2.1)with hb|hb
  ·rw[hb,ALy rfl]
   unfold QV;rw[AUo];refine ATF fun s _=> ?_
   simp only[Function.comp_apply,gb,hb,ATW];grind
  ·rw[hb]
   simp only[AMO,AOR];refine ATF fun s _=> ?_
   simp only[gb,hb,AXG,AS7]
theorem sW{c:B9}{st:AO}{ep n p:Int}(hep:1≤ep∧ep≤30)(hp:BN p=true):∀{l:List A7} {o:Int},1≤o→o+l.length≤61→
  gb c st ep n o l p=(AN p==ep&&(decide (o≤A6 p)&&(decide (A6 p<o+l.length)&&(((BB c st ep n o l).getD (A6 p-o).toNat Kw).2.2.1&& !(l.getD (A6 p-o).toNat Kw).2.2.1))))
 |[],o,_,_=>by
  have:(decide (o≤A6 p)&&decide (A6 p<o+(([]:List A7).length:Int)))=false:=by
   simp_all
  rw[←Bool.and_assoc (decide (o≤A6 p)),this,ATE,AXG];rfl
 |x::l,o,ho,hl=>by
  simp only[ANZ]at hl;have hf:=CF hp;simp only[gb];rw[sW hep hp (l:=l) (o:=o+1) (by omega) (by omega)];by_cases he:AN p=ep
  rotate_left
  ·grind[D1,Iu,beq_eq_false_iff_ne,decide_eq_false]
  rw[ATQ.2 he];simp only[AMk,ANZ];by_cases h1:A6 p=o
  ·have hpe:p=D1 ep o:=by simp_all
   have e0:(A6 p-o).toNat=0:=by omega
   rw[ASn hpe,ATM (show¬o+1≤A6 p by omega),ASn (show o≤A6 p by omega),ASn (show A6 p<o+((l.length+1:Nat):Int)by omega),e0];simp only[AMk,ATE,AXW,BB,List.getD_cons_zero];grind
  ·have cF:p≠D1 ep o:=fun e=>h1 (by grind[Iu])
   rw[ATM cF,ATE,AS7];by_cases h2:o≤A6 p
   ·rw[ASn h2,ASn (show o+1≤A6 p by omega)]
    have e1:(A6 p-o).toNat=(A6 p-(o+1)).toNat+1:=by omega
    rw[e1];simp only[BB,List.getD_cons_succ];grind
   grind
theorem fH{c:B9}{st:AO}{ep n:Int}:∀{l:List A7} {o:Int},(BB c st ep n o l).length=l.length
 |[],_=>rfl
 |x::l,o=>by simp only[BB,ANZ,fH]
theorem yn{c:B9}{st:AO}{ep n:Int}(hep:1≤ep∧ep≤30){l:List A7}(hl:l.length≤60){se:List Ac}(hs:∀s∈se,BN s.1=true):e9 c st ep n 1 l se=se.map (Nr false ep l (BB c st ep n 1 l)):=by
 rw[sB];refine ATF fun s hm=> ?_
 have hf:=CF (hs s hm);unfold Nr QO;rw[sW hep (hs s hm) (by omega) (by omega),fH];by_cases h1:A6 s.1≤l.length
 ·have:BM (A6 s.1) 1 (l.length:Int)=true:=Ah.2 (by omega)
  grind
 ·have:BM (A6 s.1) 1 (l.length:Int)=false:=by
   rw[←APC,Ah];omega
  grind
end Go.M
end
section
set_option maxRecDepth 8000
namespace Go.M
open Go.M.H (AJ AO As Ac AA CN AQ A7 AM AY A3 Ax BC Al CJ Af AX Aa Ap B8 BJ Ar A0 EO CO Cv C_)
def AFu(q:AA×Int):bz:=((q.2,()),(((),q.1.2.1,(),(),(),q.1.2.2.2.2.2.1,(),(),(),(),q.1.2.2.2.2.2.2.2.2.2.2.1,()),q.1.1,q.1.2.2.1,(),(),(),(),q.1.2.2.2.2.2.2.2.2.1,(),q.1.2.2.2.1,q.1.2.2.2.2.1,q.1.2.2.2.2.2.2.1,q.1.2.2.2.2.2.2.2.1,q.1.2.2.2.2.2.2.2.2.2.1,()))
def ww(w:AA)(SS:List AO)(ws:List AM)(ms:List As)(se:List Ac):AA:=(((w.BA SS).A9 ws).Cy se).Bi ms
section
variable{w:AA} (h:NN w) {st:AO} {SS:List AO} {n:Int} (hs:fV st) (hn:0≤n∧n<(AS w).1.length) (hnS:n<(SS.length:Int)) (Za:SS.getD n.toNat Cl=st)
include h hs hn hnS Za
theorem AEg{ws:List AM}{se:List Ac}:∀(k i:Nat),w.2.2.2.2.2.2.2.1.length-i=k→i≤w.2.2.2.2.2.2.2.1.length→ ∀f,k<f→
  FJ f n w.2.2.2.2.2.2.2.1.length i w.2.1 w.2.2.2.2.2.1 w.2.2.2.2.2.2.2.2.2.2.1 w.1 SS w.2.2.2.1 w.2.2.2.2.1 ws ((w.2.2.2.2.2.2.2.1.map (G4 st w.Ab n)).take i++w.2.2.2.2.2.2.2.1.drop i) w.2.2.2.2.2.2.2.2.1 se=some (jn (ww w SS ws (w.2.2.2.2.2.2.2.1.map (G4 st w.Ab n)) se,0)):=by
 have k:=h.nums;have k1:=k.c;have k5:=k.era;have k6:=k.md;intro k
 induction k with
 |zero=>
  intro i hk hi f hf;obtain⟨f,rfl⟩:∃f',f=f'+1:=⟨f-1,by omega⟩;have:i=w.2.2.2.2.2.2.2.1.length:=by omega
  simp only[FJ,L6,AB];rw[AMD (by omega),this,AUB,AM5,ATH (by simp)];rfl
 |succ k ih=>
  intro i hk hi f hf;obtain⟨f,rfl⟩:∃f',f=f'+1:=⟨f-1,by omega⟩;have Dd:i<w.2.2.2.2.2.2.2.1.length:=by omega
  have hm:=(h.BW _ (AMh Dd)).1;have pV:=hm.ep;have T7:(Ao w.Ab w.2.2.2.2.2.2.2.1[i].2.1).length≤8:=GV h;simp only[FJ,L6,AB];rw[Oy hi,ALy (by omega),ALy (by omega),AMV,MZ Dd,show(w.2.2.2.2.1,w.2.2.2.2.2.1,())=B3 w from rfl,O4 (r:=B3 w) (by show Af B8 w.2.2.2.2.1≤_;omega) ⟨by omega,by omega⟩];rw[show(B3 w).1=w.Ab from rfl];simp only[AD];rw[Ib (by omega),AK (x:=(i:Int)+1) (by omega) (by omega),show((i:Int)+1)=((i+1:Nat):Int)by omega];simp only[AD];have nx:=ih (i+1) (by omega) (by omega) f (by omega);rcases AKU ((Ao w.Ab w.2.2.2.2.2.2.2.1[i].2.1).contains n)with hc|hc
  ·have hT:G4 st w.Ab n w.2.2.2.2.2.2.2.1[i]=(w.2.2.2.2.2.2.2.1[i].1,w.2.2.2.2.2.2.2.1[i].2.1,w.2.2.2.2.2.2.2.1[i].2.2.1,w.2.2.2.2.2.2.2.1[i].2.2.2.1,w.2.2.2.2.2.2.2.1[i].2.2.2.2.1,Dz w.2.2.2.2.2.2.2.1[i] st n 1 w.2.2.2.2.2.2.2.1[i].2.2.2.2.2.1,()):=by
    unfold G4;simp_all
   have hmn:w.2.2.2.2.2.2.2.1[i].2.2.2.2.2.1.length≤60:=by
    have:=hm.n;have hb:=GR (l:=w.2.2.2.2.2.2.2.1[i].2.2.2.1);omega
   have:=yc (c:=AS w) (tr:=w.2.2.2.2.2.1) (tn:=w.2.2.2.2.2.2.2.2.2.2.1) (lo:=w.2.2.2.1) (er:=w.2.2.2.2.1) (ws:=ws) (rs:=w.2.2.2.2.2.2.2.2.1) (se:=se) (a:=i) k1 hs hn hnS Za hm w.2.2.2.2.2.2.2.1[i].2.2.2.2.2.1 [] ((w.2.2.2.2.2.2.2.1.map (G4 st w.Ab n)).take i++w.2.2.2.2.2.2.2.1.drop i) Ae (by simp_all) (by omega) (MZ Dd) rfl (by simpa using hm.wrote) (Ag (by omega));rw[hc,AMp];unfold Kh Ji;simp only[AQZ,ATA]at this;have e1:(((0:Nat):Int)+1)=1:=rfl;rw[e1]at this;rw[show(w.2.1:Int)=(AS w).2.1 from rfl,show w.1=(AS w).1 from rfl,this];simp only[AD,pkT];rw[Px Dd hT.symm];exact nx
  ·have hT:G4 st w.Ab n w.2.2.2.2.2.2.2.1[i]=w.2.2.2.2.2.2.2.1[i]:=by
    unfold G4;simp_all
   rw[hc,AMU,iF Dd hT];omega
theorem AIK:∀(rest pre:List AM) (se:List Ac) (f:Nat),pre.length+rest.length=w.2.2.2.2.2.2.1.length→(∀x∈rest,ae (AS w) x)→nA se→(∀s∈se,BN s.1=true)→se.length≤120→rest.length+w.2.2.2.2.2.2.2.1.length+1<f→
  Ei f n w.2.2.2.2.2.2.1.length pre.length w.2.1 w.2.2.2.2.2.1 w.2.2.2.2.2.2.2.2.2.2.1 w.1 SS w.2.2.2.1 w.2.2.2.2.1 (pre++rest) w.2.2.2.2.2.2.2.1 w.2.2.2.2.2.2.2.2.1 se st.2.2.1=
   some (jn (ww w SS (pre++(FI false (AS w) st w.Ab n rest se).1) (w.2.2.2.2.2.2.2.1.map (G4 st w.Ab n)) (FI false (AS w) st w.Ab n rest se).2,0)):=by
 have k:=h.nums;have k1:=k.c;have k2:=k.wr;have k5:=k.era;have k6:=k.md;have hb:∀{p:Int},BN p=true→0≤p∧p<2^40:=fun{p} hp=>by
  have h1:=CF hp;grind[D1]
 intro rest
 induction rest with
 |nil=>
  intro pre se f hl hw ha hp hsl hf;obtain⟨f,rfl⟩:∃f',f=f'+1:=⟨f-1,by omega⟩;simp only[AQZ]at hl hf;simp only[Ei,M4,AB,AM5];rw[AMD (by omega)];have:=AEg h hs hn hnS Za (ws:=pre) (se:=se) w.2.2.2.2.2.2.2.1.length 0 (by omega) (by omega) f (by omega);rw[show((0:Nat):Int)=0 from rfl,ATC,AXh,ATA]at this;grind[FI]
 |cons x rest ih=>
  intro pre se f hl hw ha hp hsl hf;obtain⟨f,rfl⟩:∃f',f=f'+1:=⟨f-1,by omega⟩;simp only[ANZ]at hl hf;have hx:=hw x (by simp);have hxe:=hx.ep;have hxn:=hx.n;have km:(pre++x::rest).length=pre.length+(rest.length+1):=by simp
  have cp:(0:Int)≤(pre.length:Int)∧(pre.length:Int)<((pre++x::rest).length:Int):=by omega
  have e2:(pre++x::rest).getD pre.length (0,[],())=x:=by simp[List.getD]
  have T7:(Ao w.Ab x.1).length≤8:=GV h;simp only[Ei,M4,AB,AMV,ALy cp,e2];rw[ALy (by omega),show(w.2.2.2.2.1,w.2.2.2.2.2.1,())=B3 w from rfl,O4 (r:=B3 w) (by show Af B8 w.2.2.2.2.1≤_;omega) ⟨by omega,by omega⟩];rw[show(B3 w).1=w.Ab from rfl];simp only[AD];rw[Ib (by omega),AK (x:=(pre.length:Int)+1) (by omega) (by omega),show((pre.length:Int)+1)=((pre.length+1:Nat):Int)by omega];simp only[AD];have next:∀(b:AM) (nn:List Ac),nA nn→(∀s∈nn,BN s.1=true)→nn.length≤120→
    Ei f n w.2.2.2.2.2.2.1.length ((pre.length+1:Nat):Int) w.2.1 w.2.2.2.2.2.1 w.2.2.2.2.2.2.2.2.2.2.1 w.1 SS w.2.2.2.1 w.2.2.2.2.1 (pre++b::rest) w.2.2.2.2.2.2.2.1 w.2.2.2.2.2.2.2.2.1 nn st.2.2.1=
     some (jn (ww w SS (pre++b::(FI false (AS w) st w.Ab n rest nn).1) (w.2.2.2.2.2.2.2.1.map (G4 st w.Ab n)) (FI false (AS w) st w.Ab n rest nn).2,0)):=fun b nn h1 h2 h3=>by
   have:=ih (pre++[b]) nn f (by grind) (fun x hx=>hw x (by simp[hx])) h1 h2 h3 (by omega);simp_all
  simp only[FI];rcases AKU (LJ st w.Ab n x)with ht|ht
  rotate_left
  ·rw[ht]
   simp only[AMO,AOR];unfold LJ at ht;by_cases Kg:x.1>st.2.2.1
   ·grind
   grind
  ·rw[ht]
   simp only[AS_];unfold LJ at ht;rw[AML,AMc]at ht;rw[ALy (show x.1>st.2.2.1 from ht.2),ht.1,AMp];have:=zL (c:=AS w) (tr:=w.2.2.2.2.2.1) (tn:=w.2.2.2.2.2.2.2.2.2.2.1) (lo:=w.2.2.2.1) (er:=w.2.2.2.2.1) (ms:=w.2.2.2.2.2.2.2.1) (rs:=w.2.2.2.2.2.2.2.2.1) (a:=pre.length) (ep:=x.1) k1 hs hn hnS Za x.2.1 [] (pre++x::rest) se Ae (by omega) (by omega) (show(pre++x::rest).getD pre.length (0,[],())=x from e2) hx ha (fun s xi=>hb (hp s xi)) hsl (Ag (by omega));unfold M3 NK;simp only[AQZ,ATA]at this;have e1:(((0:Nat):Int)+1)=1:=rfl;rw[e1,yn hxe hxn hp,AXS _ _ (by omega),AXd,AXJ]at this;rw[show(w.2.1:Int)=(AS w).2.1 from rfl,show w.1=(AS w).1 from rfl,this];simp only[AD,pkT];refine next _ _ ?_ (fun s xi=> ?_) (by simp_all)
   ·unfold nA S8
    rw[AXD];exact List.Pairwise.imp (fun{a b} rV=>rV) ha
   ·obtain⟨s',h1,rfl⟩:=ATS.1 xi
    exact hp s' h1
end
section
variable{w:AA} (h:NN w)
include h
theorem g_{n:Int}:Pr n w.2.1 w.2.2.2.2.2.1 w.2.2.2.2.2.2.2.2.2.2.1 w.1 w.2.2.1 w.2.2.2.1 w.2.2.2.2.1 w.2.2.2.2.2.2.1 w.2.2.2.2.2.2.2.1 w.2.2.2.2.2.2.2.2.1 w.2.2.2.2.2.2.2.2.2.1=some (jn (Jj false w n)):=by
 have k:=h.nums;have k1:=k.c;have k2:=k.wr;have k3:=k.lost;have k4:=k.st;have Zp:=k.aI;have hY:=k.Jd;have jh:=k.hU;have k5:=k.era;have k7:=k.bC;unfold Pr Sx Jj;rw[show(w.1,w.2.1,w.2.2.1,w.2.2.2.1,w.2.2.2.2.1,w.2.2.2.2.2.1,w.2.2.2.2.2.2.1,w.2.2.2.2.2.2.2.1,w.2.2.2.2.2.2.2.2.1,w.2.2.2.2.2.2.2.2.2.1,w.2.2.2.2.2.2.2.2.2.2.1,())=w from rfl,LM (by omega) (by omega)];simp only[AD,Cp,Az];by_cases h3:Aj w n=0
 rotate_left
 ·rw[AMD h3,ALy h3];rfl
 obtain⟨hr,s1,s2,s3⟩:=h.LG h3;have Za:w.2.2.1.getD n.toNat ([],[],0,())=storeAt w n:=rfl;rw[ALy h3,AMD (show¬(Aj w n≠0)from fun hh=>hh h3)];simp only[ALy hr,Za];rw[show((storeAt w n).1,(storeAt w n).2.1,(storeAt w n).2.2.1,())=storeAt w n from rfl,YI s1 s2];simp only[AD,lq];rcases AKU (CZ (storeAt w n)).2 with hq|hq
 rotate_left
 ·rw[hq,IL];rfl
 rw[hq,Fl,AMp];have Br:fV (CZ (storeAt w n)).1:=(KS hq).2.1;have Aaw:n.toNat<w.2.2.1.length:=by omega
 have:=AIK h (st:=(CZ (storeAt w n)).1) (SS:=w.2.2.1.set n.toNat (CZ (storeAt w n)).1) (n:=n) Br (h.node h3).1 (by simp_all) (Mo Aaw) w.2.2.2.2.2.2.1 [] w.2.2.2.2.2.2.2.2.2.1 Ae (by simp) (fun x hx=>(h.AH x hx).1) h.Xp (fun s hs=>(h.BX s hs).1) k.se (Ag (by have:=k.md;omega));simp only[AQZ,ATA]at this;rw[show((0:Nat):Int)=0 from rfl]at this;exact this
theorem ADp{n:Int}{ss:List AO}{ls:AAO}{ws:List AM}(hls:ls.length≤2^20):∀(f i:Nat),i≤w.2.2.2.2.2.2.2.1.length→w.2.2.2.2.2.2.2.1.length-i<f→
  Gm f n w.2.2.2.2.2.2.2.1.length i w.2.1 w.2.2.2.2.2.1 w.2.2.2.2.2.2.2.2.2.2.1 w.1 ss w.2.2.2.1 w.2.2.2.2.1 ws ((w.2.2.2.2.2.2.2.1.map fun m=>(B7 (AS w) m n).1).take i++w.2.2.2.2.2.2.2.1.drop i) w.2.2.2.2.2.2.2.2.1 w.2.2.2.2.2.2.2.2.2.1 ls=
   some (AIs (((((w.BA ss).EV ls).A9 ws).Bi (w.2.2.2.2.2.2.2.1.map fun m=>(B7 (AS w) m n).1)).FA (w.EC||holds (AS w) ls),0)):=by
 have k:=h.nums;have k1:=k.c;have k6:=k.md;intro f
 induction f with
 |zero=>omega
 |succ f ih=>
  intro i hi hn;have hlen:=Oy (f:=fun m:As=>(B7 (AS w) m n).1) hi;simp only[Gm,RF,AB,Az,hlen];by_cases Dd:i<w.2.2.2.2.2.2.2.1.length
  ·have c1:(0:Int)≤(i:Int)∧(i:Int)<(w.2.2.2.2.2.2.2.1.length:Int):=by omega
   have hm:=(h.BW _ (AMh Dd)).1;have hmw:=hm.w;have hg:((w.2.2.2.2.2.2.2.1.map fun m=>(B7 (AS w) m n).1).take i++w.2.2.2.2.2.2.2.1.drop i).getD i (0,0,[],[],false,[],())=w.2.2.2.2.2.2.2.1[i]:=MZ Dd;simp only[ALy c1,ALy c1.2,AMV,hg];rw[AK (by omega) (by omega),show((i:Int)+1)=((i+1:Nat):Int)by omega,show(w.2.2.2.2.2.2.2.1[i].1,w.2.2.2.2.2.2.2.1[i].2.1,w.2.2.2.2.2.2.2.1[i].2.2.1,w.2.2.2.2.2.2.2.1[i].2.2.2.1,w.2.2.2.2.2.2.2.1[i].2.2.2.2.1,w.2.2.2.2.2.2.2.1[i].2.2.2.2.2.1,())=w.2.2.2.2.2.2.2.1[i]from rfl,show(w.1,w.2.1,())=AS w from rfl,gy (c:=AS w) (by show w.1.length≤_;omega) (by omega) hm.ein];simp only[AD,jL];rw[show((B7 (AS w) w.2.2.2.2.2.2.2.1[i] n).1.1,(B7 (AS w) w.2.2.2.2.2.2.2.1[i] n).1.2.1,(B7 (AS w) w.2.2.2.2.2.2.2.1[i] n).1.2.2.1,(B7 (AS w) w.2.2.2.2.2.2.2.1[i] n).1.2.2.2.1,(B7 (AS w) w.2.2.2.2.2.2.2.1[i] n).1.2.2.2.2.1,(B7 (AS w) w.2.2.2.2.2.2.2.1[i] n).1.2.2.2.2.2.1,())=(B7 (AS w) w.2.2.2.2.2.2.2.1[i] n).1 from rfl,Px Dd rfl];grind
  ·have:i=w.2.2.2.2.2.2.2.1.length:=by omega
   rw[AMD (by omega),this,AUB,AM5,ATH (by simp),show(w.1,w.2.1,())=AS w from rfl,GK (by show w.1.length≤_;omega) (by omega)];simp only[AD];cases ht:w.2.2.2.2.2.2.2.2.2.2.1 with
   |true=>
    have ht':w.EC=true:=ht;rw[ht'];rfl
   |false=>
    have ht':w.EC=false:=ht;rw[ht'];rfl
theorem AHX{n:Int}{ss:List AO}{ls:AAO}(hls:ls.length≤2^20):∀(f i:Nat),i≤w.2.2.2.2.2.2.1.length→(w.2.2.2.2.2.2.1.length-i)+w.2.2.2.2.2.2.2.1.length+2≤f→
  HE f n w.2.2.2.2.2.2.1.length i w.2.1 w.2.2.2.2.2.1 w.2.2.2.2.2.2.2.2.2.2.1 w.1 ss w.2.2.2.1 w.2.2.2.2.1 ((w.2.2.2.2.2.2.1.map fun x=>(CA (AS w) x n).1).take i++w.2.2.2.2.2.2.1.drop i) w.2.2.2.2.2.2.2.1 w.2.2.2.2.2.2.2.2.1 w.2.2.2.2.2.2.2.2.2.1 ls=
   some (AIs (((((w.BA ss).EV ls).A9 (w.2.2.2.2.2.2.1.map fun x=>(CA (AS w) x n).1)).Bi (w.2.2.2.2.2.2.2.1.map fun m=>(B7 (AS w) m n).1)).FA (w.EC||holds (AS w) ls),0)):=by
 have k:=h.nums;have k1:=k.c;have k6:=k.wr;intro f
 induction f with
 |zero=>omega
 |succ f ih=>
  intro i hi hn;have hlen:=Oy (f:=fun x:AM=>(CA (AS w) x n).1) hi;simp only[HE,Sy,AB,Az,hlen];by_cases Dd:i<w.2.2.2.2.2.2.1.length
  ·have c1:(0:Int)≤(i:Int)∧(i:Int)<(w.2.2.2.2.2.2.1.length:Int):=by omega
   have hm:=(h.AH _ (AMh Dd)).1;have hmw:=hm.w;have hg:((w.2.2.2.2.2.2.1.map fun x=>(CA (AS w) x n).1).take i++w.2.2.2.2.2.2.1.drop i).getD i (0,[],())=w.2.2.2.2.2.2.1[i]:=MZ Dd;simp only[ALy c1,ALy c1.2,AMV,hg];rw[AK (by omega) (by omega),show((i:Int)+1)=((i+1:Nat):Int)by omega,show(w.2.2.2.2.2.2.1[i].1,w.2.2.2.2.2.2.1[i].2.1,())=w.2.2.2.2.2.2.1[i]from rfl,show(w.1,w.2.1,())=AS w from rfl,cZ (c:=AS w) (by show w.1.length≤_;omega) (by have:Ar w.2.2.2.2.2.2.1[i]=Af BJ w.2.2.2.2.2.2.1[i].2.1:=rfl;omega)];simp only[AD,pkW];rw[show((CA (AS w) w.2.2.2.2.2.2.1[i] n).1.1,(CA (AS w) w.2.2.2.2.2.2.1[i] n).1.2.1,())=(CA (AS w) w.2.2.2.2.2.2.1[i] n).1 from rfl,Px Dd rfl];grind
  ·have:i=w.2.2.2.2.2.2.1.length:=by omega
   have k12:=ADp h (n:=n) (ss:=ss) (ws:=w.2.2.2.2.2.2.1.map fun x=>(CA (AS w) x n).1) hls f 0 (by omega) (by omega);grind
theorem gJ{n:Int}:P5 n w.2.1 w.2.2.2.2.2.1 w.2.2.2.2.2.2.2.2.2.2.1 w.1 w.2.2.1 w.2.2.2.1 w.2.2.2.2.1 w.2.2.2.2.2.2.1 w.2.2.2.2.2.2.2.1 w.2.2.2.2.2.2.2.2.1 w.2.2.2.2.2.2.2.2.2.1=some (AIs (ML w n)):=by
 have k:=h.nums;have k1:=k.c;have k2:=k.wr;have k3:=k.lost;have k4:=k.st;have Zp:=k.aI;have hY:=k.Jd;have jh:=k.hU;have k5:=k.era;have k7:=k.bC;have k6:=k.md;unfold P5 Sv ML;rw[show(w.1,w.2.1,w.2.2.1,w.2.2.2.1,w.2.2.2.2.1,w.2.2.2.2.2.1,w.2.2.2.2.2.2.1,w.2.2.2.2.2.2.2.1,w.2.2.2.2.2.2.2.2.1,w.2.2.2.2.2.2.2.2.2.1,w.2.2.2.2.2.2.2.2.2.2.1,())=w from rfl,LM (by omega) (by omega)];simp only[AD,Cp];by_cases h3:Aj w n=0
 rotate_left
 ·rw[AMD h3,ALy h3];rfl
 obtain⟨hr,s1,s2,s3⟩:=h.LG h3;rw[ALy h3,AMD (show¬(Aj w n≠0)from fun hh=>hh h3),ALy hr,O6 (EK.1 h.lost).2.2 (by omega)];simp only[AD];have hp:=Uj (n:=n) (l:=w.2.2.2.1);have:=AHX h (n:=n) (ss:=w.2.2.1.set n.toNat ([],[],0,())) (ls:=JG n w.2.2.2.1) (by omega) Ae 0 (by omega) (AVi (Ag (by omega)));simp_all
theorem jm{d:BC}(Xq:gf w)(h64:C0 d.2.1)(hd:d.2.2.2.2.1.length≤40)(hk:1≤d.1∧d.1≤16):Tl d w.2.1 w.2.2.2.2.2.1 w.2.2.2.2.2.2.2.2.2.2.1 w.1 w.2.2.1 w.2.2.2.1 w.2.2.2.2.1 w.2.2.2.2.2.2.1 w.2.2.2.2.2.2.2.1 w.2.2.2.2.2.2.2.2.1 w.2.2.2.2.2.2.2.2.2.1=some (AFu (Li false w d)):=by
 have k:=h.nums;have k1:=k.c;have k2:=k.wr;have k3:=k.lost;have k4:=k.st;have Zp:=k.aI;have hY:=k.Jd;have jh:=k.hU;have k5:=k.era;have k7:=k.bC;unfold Tl Li;rw[show(d.1,d.2.1,d.2.2.1,d.2.2.2.1,d.2.2.2.2.1,())=d from rfl];simp only[DE];by_cases c1:d.1=1
 ·rw[ALy c1,ALy c1,gO h];rfl
 rw[AMD c1,AMD c1];by_cases c2:d.1=2
 ·rw[ALy c2,ALy c2,iZ h hd];rfl
 rw[AMD c2,AMD c2];by_cases c3:d.1=3
 ·rw[ALy c3,ALy c3,eo h];rfl
 rw[AMD c3,AMD c3];by_cases c4:d.1=4
 ·rw[ALy c4,ALy c4,g_ h];rfl
 rw[AMD c4,AMD c4];by_cases c5:d.1=5
 ·rw[ALy c5,ALy c5,eY h];rfl
 rw[AMD c5,AMD c5];by_cases c6:d.1=6
 ·rw[ALy c6,ALy c6,gJ h];rfl
 rw[AMD c6,AMD c6];by_cases c7:d.1=7
 ·rw[ALy c7,ALy c7,gD h];rfl
 rw[AMD c7,AMD c7];by_cases c8:d.1=8
 ·rw[ALy c8,ALy c8,fu h];rfl
 rw[AMD c8,AMD c8];by_cases c9:d.1=9
 ·rw[ALy c9,ALy c9,fp h];rfl
 rw[AMD c9,AMD c9];by_cases c10:d.1=10
 ·rw[ALy c10,ALy c10,gh h];rfl
 rw[AMD c10,AMD c10];by_cases c11:d.1=11
 ·rw[ALy c11,ALy c11,il h];rfl
 rw[AMD c11,AMD c11];by_cases c12:d.1=12
 ·rw[ALy c12,ALy c12,ei h];rfl
 rw[AMD c12,AMD c12];by_cases c13:d.1=13
 ·rw[ALy c13,ALy c13,show(w.1,w.2.1,())=AS w from rfl,show(w.2.2.2.2.1,w.2.2.2.2.2.1,())=B3 w from rfl,nR (c:=AS w) (r:=B3 w) (by show w.1.length≤_;omega) (by show Af B8 w.2.2.2.2.1≤_;omega) k.trim h64]
  simp only[AD,pkR,Ov];unfold OO;dsimp only;rcases AKU (Lx (AS w) (B3 w) d.2.1).2 with hq|hq
  ·rw[hq,Fl];rfl
  ·have e:(Lx (AS w) (B3 w) d.2.1).1=B3 w:=by
    unfold Lx at hq⊢;rw[Iz.2 h.lZ]at hq⊢;grind
   rw[hq,e,IL];rfl
 rw[AMD c13,AMD c13];by_cases c14:d.1=14
 ·rw[ALy c14,ALy c14,gz h Xq];rfl
 rw[AMD c14,AMD c14];by_cases c16:d.1=16
 ·rw[ALy c16,AMD (show¬d.1=15 by omega),eu h];rfl
 rw[AMD c16,ALy (show d.1=15 by omega),AK (x:=(w.2.2.2.2.2.2.1.length:Int)-1) (by omega) (by omega),Av];simp only[AD,Az];unfold M7;rw[show BM d.2.1 0 ((w.2.2.2.2.2.2.1.length:Int)-1)=BM d.2.1 0 ((w.AH.length:Int)-1)from rfl];rcases AKU (BM d.2.1 0 ((w.AH.length:Int)-1))with h1|h1
 rotate_left
 ·rw[h1,IL];rfl
 obtain⟨x1,x2,x3⟩:=h.cw h1;rw[h1,AMp,Fl,AK (x:=d.2.1+1) (by omega) (by omega)];unfold FB AEh;rw[ALy (by omega)];simp only[AUx,AD];rw[show(d.2.1+1).toNat=d.2.1.toNat+1 by omega,←List.eraseIdx_eq_take_drop_succ];rfl
theorem lL{d:BC}(Xq:gf w)(h64:C0 d.2.1):PB w d=some (pkD (CD false w d)):=by
 unfold PB CD;rw[show(w.1,w.2.1,w.2.2.1,w.2.2.2.1,w.2.2.2.2.1,w.2.2.2.2.2.1,w.2.2.2.2.2.2.1,w.2.2.2.2.2.2.2.1,w.2.2.2.2.2.2.2.2.1,w.2.2.2.2.2.2.2.2.2.1,w.2.2.2.2.2.2.2.2.2.2.1,())=w from rfl,show(d.1,d.2.1,d.2.2.1,d.2.2.2.1,d.2.2.2.2.1,())=d from rfl,Mh Xq,o7,YG Xq];simp only[AD,Az,Cp];rw[F5.2 h];rcases AKU (PM d)with hd|hd
 rotate_left
 ·rw[hd];rfl
 have hk:1≤d.1∧d.1≤16:=by
  unfold PM at hd;exact Ah.1 (AML _ _▸hd).1
 rw[hd,AMp,AMp,jm h Xq h64 (bP hd) hk];simp only[AD,AMP,AXW,AMO,AOR];by_cases hc:(Li false w d).2=0
 ·rw[ALy (show(AFu (Li false w d)).1.1=0 from hc)]
  generalize hg:Li false w d=q at hc⊢
  obtain⟨v,co⟩:=q;dsimp only at hc;subst hc;rfl
 ·rw[AMD (show¬(AFu (Li false w d)).1.1=0 from hc)]
  have:=wZ hc;rw[show Li false w d=(w,(Li false w d).2)by grind];rfl
end
theorem nE{w:AA}{d:BC}(Xq:gf w)(h64:C0 d.2.1):PB w d=some (pkD (CD false w d)):=by
 rcases AKU (Fg w)with hw|hw
 ·grind[lL,F5]
 ·unfold PB CD
  rw[show(w.1,w.2.1,w.2.2.1,w.2.2.2.1,w.2.2.2.2.1,w.2.2.2.2.2.1,w.2.2.2.2.2.2.1,w.2.2.2.2.2.2.2.1,w.2.2.2.2.2.2.2.2.1,w.2.2.2.2.2.2.2.2.2.1,w.2.2.2.2.2.2.2.2.2.2.1,())=w from rfl,Mh Xq,hw];rfl
end Go.M
end
section
set_option maxRecDepth 8000
namespace Go.M
open Go.M.H (AJ AO As Ac AA CN AQ A7 AM AY A3 Ax BC Al CJ Af AX Aa Ap B8 BJ Ar A0 EO CO Cv C_)
def bare(se:List Ac):List (Int×List UInt8):=se.map fun s=>(s.1,s.2.1)
section
variable{w:AA} {se:List Ac}
end
theorem AEN{l m:List Ac}(h:bare l=bare m):l.length=m.length:=by
 have:=congrArg List.length h;grind[bare]
section
variable{w:AA}
end
theorem AEa{l m:List Ac}(h:bare l=bare m){s:Ac}(hs:s∈l):∃t∈m,t.1=s.1∧t.2.1=s.2.1:=by
 have h1:(s.1,s.2.1)∈bare m:=by rw[←h];exact ATS.2 ⟨s,hs,rfl⟩
 obtain⟨t,ht,e⟩:=ATS.1 h1;grind
theorem AFZ{l m:List Ac}(h:bare l=bare m)(ha:S8 (fun s:Ac=>s.1) l):S8 (fun s:Ac=>s.1) m:=by
 have e:∀l:List Ac,S8 (fun s:Ac=>s.1) l↔(bare l).Pairwise fun x y=>x.1<y.1:=fun l=>by
  unfold bare S8;rw[AXD]
 simp_all
theorem NN.Cy{w:AA}{se:List Ac}(hw:NN w)(h:bare se=bare w.BX):NN (w.Cy se) where
 cfg:=hw.cfg
 oR:=hw.oR
 lost:=hw.lost
 EC:=hw.EC
 Am:=hw.Am
 lZ:=hw.lZ
 rN:=hw.rN
 xz:=hw.xz
 AH:=hw.AH
 Xm:=hw.Xm
 BW:=hw.BW
 mu:=hw.mu
 AR:=hw.AR
 RG:=by
  have:=hw.RG;grind[AEN]
 BX:=fun s hs=>by
  obtain⟨t,ht,e1,e2⟩:=AEa h (show s∈se from hs);have:=hw.BX t ht;simp_all
 Xp:=AFZ h.symm hw.Xp
end Go.M
end
section
set_option maxRecDepth 8000
namespace Go.M
open Go.M.H (AJ AO As Ac AA CN AQ A7 AM AY A3 Ax BC Al CJ Af AX Aa Ap B8 BJ Ar A0 EO CO Cv C_)
structure Up (w v:AA):Prop where
 rd:∀k,k<2→D1 (w.AR.getD k Au).1 (w.AR.getD k Au).2.1≤D1 (v.AR.getD k Au).1 (v.AR.getD k Au).2.1∧(w.AR.getD k Au).2.2.1.length≤(v.AR.getD k Au).2.2.1.length
 er:w.Ab.length≤v.Ab.length∧ ∀i,i<w.Ab.length→(w.Ab.getD i GJ).2.1=true→(v.Ab.getD i GJ).2.1=true∧(v.Ab.getD i GJ).2.2.1=(w.Ab.getD i GJ).2.2.1
 EC:w.EC=true→v.EC=true
 se:w.BX.length≤v.BX.length
theorem Up.of{w v:AA}(h1:v.AR=w.AR)(h2:v.Ab=w.Ab)(h3:w.EC=true→v.EC=true)(h4:w.BX.length≤v.BX.length):Up w v:=
 ⟨fun k _=>by simp_all,by simp_all,h3,h4⟩
section
variable{w:AA} (hw:NN w)
end
end Go.M
end
section
namespace Go.M
open Go.M.H (AJ AO As Ac AA CN AQ A7 AM AY A3 Ax BC)
def runM(all:Bool):AA→List BC→AA×List Int
 |w,[]=>(w,[])
 |w,d::l=>
  let q:=CD all w d
  let r:=runM all (if q.2=0 then q.1 else w) l
  (r.1,q.2::r.2)
theorem wU{all:Bool}:∀{l:List BC} {w:AA},(runM all w l).2.length=l.length
 |[],_=>rfl
 |d::l,w=>by simp only[runM,ANZ,wU]
end Go.M
end
section
namespace Go.M
open Go.M.H (AJ AO As Ac AA CN AQ A7 AM AY A3 Ax BC Af A0)
structure WN (w:AA) (q:Zd):Prop where
 code:q.2≠1
 keep:q.2≠0→q.1=w
 rd:q.1.AR=w.AR
theorem WN.no{w:AA}{k:Int}(h:k≠1):WN w (w,k):=⟨h,fun _=>rfl,rfl⟩
theorem WN.yes{w v:AA}(h:v.AR=w.AR):WN w (v,0):=⟨by simp,fun h=>absurd rfl h,h⟩
section
variable{w:AA}
theorem Nv{n:Int}:Aj w n≠1:=by
 unfold Aj;split
 ·decide
 ·split<;>decide
theorem eL{n:Int}{q:AO×Bool}:WN w (putAt w n q):=by
 unfold putAt;split
 ·exact .yes rfl
 ·exact .no (by decide)
theorem ADu{a:Int}:WN w (L5 w a):=by
 unfold L5;split
 ·exact .no (by decide)
 dsimp only;split
 ·exact .no (by decide)
 ·exact .yes rfl
theorem AIc{a:Int}{d:ACC}:WN w (doAdd w a d):=by
 unfold doAdd;split
 ·exact .no (by decide)
 dsimp only;split
 ·exact .no (by decide)
 ·exact .yes rfl
theorem ACO{a b n:Int}:WN w (IJ w a b n):=by
 unfold IJ;split
 ·exact .no (by decide)
 dsimp only;split
 ·exact .no (by decide)
 split
 ·exact .no Nv
 split
 ·exact .no (by decide)
 ·exact eL
theorem AFz{all:Bool}{n:Int}:WN w (Jj all w n):=by
 unfold Jj;split
 ·exact .no Nv
 dsimp only;split
 ·exact .no (by decide)
 ·exact .yes rfl
theorem ACn{n k:Int}:WN w (IQ w n k):=by
 unfold IQ;split
 ·exact .no Nv
 ·exact eL
theorem AEV{n:Int}:WN w (ML w n):=by
 unfold ML;split
 ·exact .no Nv
 ·exact .yes rfl
theorem ADh{n:Int}:WN w (Lt w n):=by
 unfold Lt;split
 ·exact .no (by decide)
 dsimp only;split
 ·exact .no (by decide)
 ·exact .yes rfl
theorem ADW:WN w (MC w):=by
 unfold MC;split
 ·exact .no (by decide)
 split
 ·exact .no (by decide)
 ·exact .yes rfl
theorem ADQ{n:Int}:WN w (MJ w n):=by
 unfold MJ;split
 ·exact .no (by decide)
 split
 ·exact .no Nv
 split
 ·exact .no (by decide)
 dsimp only;split
 ·exact .no (by decide)
 ·exact .yes rfl
theorem AEf:WN w (MO w):=by
 unfold MO;split
 ·exact .no (by decide)
 dsimp only;split
 ·exact .no (by decide)
 ·exact .yes rfl
theorem AJM{b n:Int}:WN w (SN w b n):=by
 unfold SN;split
 ·exact .no (by decide)
 split
 ·exact .no (by decide)
 split
 ·exact .no Nv
 split
 ·exact .no (by decide)
 ·exact eL
theorem ACv:WN w (IH w):=by
 unfold IH;split
 ·exact .no (by decide)
 split
 ·exact .no (by decide)
 dsimp only;split
 ·exact .no (by decide)
 ·exact .yes rfl
theorem AFN{a:Int}:WN w (OO w a):=by
 unfold OO;dsimp only;split
 ·exact .no (by decide)
 ·exact .yes rfl
theorem ADc{a:Int}:WN w (M7 w a):=by
 unfold M7;split
 ·exact .no (by decide)
 ·exact .yes rfl
theorem ACm{n:Int}:WN w (IV w n):=by
 unfold IV;split
 ·exact .no Nv
 ·exact eL
theorem ADR{all:Bool}{d:BC}(h:d.1≠14):WN w (Li all w d):=by
 unfold Li;by_cases c1:d.1=1
 ·rw[ALy c1];exact ADu
 rw[AMD c1];by_cases c2:d.1=2
 ·rw[ALy c2];exact AIc
 rw[AMD c2];by_cases c3:d.1=3
 ·rw[ALy c3];exact ACO
 rw[AMD c3];by_cases c4:d.1=4
 ·rw[ALy c4];exact AFz
 rw[AMD c4];by_cases c5:d.1=5
 ·rw[ALy c5];exact ACn
 rw[AMD c5];by_cases c6:d.1=6
 ·rw[ALy c6];exact AEV
 rw[AMD c6];by_cases c7:d.1=7
 ·rw[ALy c7];exact ADh
 rw[AMD c7];by_cases c8:d.1=8
 ·rw[ALy c8];exact ADW
 rw[AMD c8];by_cases c9:d.1=9
 ·rw[ALy c9];exact ADQ
 rw[AMD c9];by_cases c10:d.1=10
 ·rw[ALy c10];exact AEf
 rw[AMD c10];by_cases c11:d.1=11
 ·rw[ALy c11];exact AJM
 rw[AMD c11];by_cases c12:d.1=12
 ·rw[ALy c12];exact ACv
 rw[AMD c12];by_cases c13:d.1=13
 ·rw[ALy c13];exact AFN
 rw[AMD c13,AMD h];by_cases c15:d.1=15
 ·rw[ALy c15];exact ADc
 rw[AMD c15];exact ACm
theorem AJa{all:Bool}{d:BC}(h:d.1=14):Li all w d=H8 w d.2.1 d.2.2.1:=by
 unfold Li;rw[h];simp
theorem AJu(hw:NN w){all:Bool}{d:BC}(e:(Li all w d).2=0):Af A0 (Li all w d).1.AR≤Af A0 w.AR+41:=by
 by_cases h:d.1=14
 ·rw[AJa h]at e⊢
  exact(wx hw e).2.2.2.2.2
 ·rw[(ADR h).rd];omega
end
end Go.M
end
section
set_option maxRecDepth 8000
namespace Go.M
open Go.M.H (AJ AO As Ac AA CN AQ A7 AM AY A3 Ax BC Al CJ Af AX Aa Ap B8 BJ Ar A0 EO CO Cv C_)
abbrev AE5(N:Nat):((AA×Unit×AA×Unit)×Unit)→(List BC×Unit)→Prop:=fun x y=>(∃c,Ee c=true∧x.1.1=ER c)∧y.1.length≤N∧ ∀d∈y.1,C0 d.2.1
section
variable{code:AAO} (hc:code.length≤2^30)
include hc
theorem ALW{T:Int}{N:Nat}(hT:T≤N∧N≤1000){s:AA}(hs:∃c,Ee c=true∧s=ER c):∀(n k:Nat) (i hh:Int) (w:AA) (acc:List BC),GZ code i→(k:Int)≤max T 0→(T-k).toNat<n→acc.length≤k→(∀d∈acc,C0 d.2.1)→NN w→RdS w→
  OK code (AE5 N) (Df n T k code i hh 0 0 false [] [] [] [] [] [] [] [] 0 0 false [] [] [] [] [] [] [] [] s.1 s.2.1 s.2.2.1 s.2.2.2.1 s.2.2.2.2.1 s.2.2.2.2.2.1 s.2.2.2.2.2.2.1 s.2.2.2.2.2.2.2.1 s.2.2.2.2.2.2.2.2.1 s.2.2.2.2.2.2.2.2.2.1 s.2.2.2.2.2.2.2.2.2.2.1
   w.1 w.2.1 w.2.2.1 w.2.2.2.1 w.2.2.2.2.1 w.2.2.2.2.2.1 w.2.2.2.2.2.2.1 w.2.2.2.2.2.2.2.1 w.2.2.2.2.2.2.2.2.1 w.2.2.2.2.2.2.2.2.2.1 w.2.2.2.2.2.2.2.2.2.2.1 acc):=by
 intro n
 induction n with
 |zero=>intro k i hh w acc _ _ h;omega
 |succ n ih=>
  intro k i hh w acc hi hk hn hb hd hw hr;simp only[Df,Pd];refine OK.iu (fun Kg=> ?_) (fun hge=>OK.some hi ⟨hs,by show acc.length≤N;omega,hd⟩);rw[show(w.1,w.2.1,w.2.2.1,w.2.2.2.1,w.2.2.2.2.1,w.2.2.2.2.2.1,w.2.2.2.2.2.2.1,w.2.2.2.2.2.2.2.1,w.2.2.2.2.2.2.2.2.1,w.2.2.2.2.2.2.2.2.2.1,w.2.2.2.2.2.2.2.2.2.2.1,())=w from rfl];refine OK.bind (xm hc hw hi) fun x i1 h1 y eZ hq=> ?_
  dsimp only;refine OK.ite (by rw[BT];omega) ?_
  refine OK.pure (cC (d:=x.1) (hw.win hr) hq.1) ?_
  rw[AK (by omega) (by omega),show((k:Int)+1)=((k+1:Nat):Int)by omega];have hd2:∀d∈acc++[x.1],C0 d.2.1:=fun d hdm=>by
   rcases AOs.1 hdm with h|h
   ·exact hd d h
   ·rw[ATY.1 h];exact hq.1
  refine OK.px (fun h0=> ?_) (fun h0=> ?_)
  ·have h0':(CD true w x.1).2=0:=h0
   exact ih (k+1) i1 h1 (CD true w x.1).1 (acc++[x.1]) eZ (by omega) (by omega) (by simp;omega) hd2 (F5.1 (az h0')) (rD hr h0')
  ·exact ih (k+1) i1 h1 w (acc++[x.1]) eZ (by omega) (by omega) (by simp;omega) hd2 hw hr
theorem ASk{T:Int}{N:Nat}(hT:(0≤T∧T≤500)∧T≤N∧N≤1000){dom:AAO}{b21:AAO}(hbl:b21.length≤100)(hd:af dom 1):∀(n:Nat) (c i hh:Int),GZ code i→1≤c∧c≤3→c.toNat+1000≤n→
  OK code (AE5 N) (Ef n T b21 code i hh 0 0 false [] [] [] [] [] [] [] [] 0 0 false [] [] [] [] [] [] [] [] dom c):=by
 intro n
 induction n with
 |zero=>intro c i hh _ _ h;omega
 |succ n ih=>
  intro c i hh hi rb hn;have hg:af dom c:=⟨hd.1,hd.2.1,rb.1,rb.2,hd.2.2.2.2⟩;have hdl:=hd.2.1;simp only[Ef,QY];have fin:OK code (AE5 N) ((HP (dom,c,())).bind fun u6=>
    (Ak (AZ (T+1)) code i hh).bind fun u7=>
    Df n u7.1.1 0 u7.2.1.1 u7.2.1.2.1 u7.2.1.2.2.1 0 0 false [] [] [] [] [] [] [] [] 0 0 false [] [] [] [] [] [] [] []
     u6.2.1 u6.1.1.1.2.1 u6.2.2.1 u6.2.2.2.1 u6.2.2.2.2.1 u6.1.1.1.2.2.2.2.2.1 u6.2.2.2.2.2.1 u6.2.2.2.2.2.2.1 u6.2.2.2.2.2.2.2.1 u6.2.2.2.2.2.2.2.2.1 u6.1.1.1.2.2.2.2.2.2.2.2.2.2.1
     u6.2.1 u6.1.1.1.2.1 u6.2.2.1 u6.2.2.2.1 u6.2.2.2.2.1 u6.1.1.1.2.2.2.2.2.1 u6.2.2.2.2.2.1 u6.2.2.2.2.2.2.1 u6.2.2.2.2.2.2.2.1 u6.2.2.2.2.2.2.2.2.1 u6.1.1.1.2.2.2.2.2.2.2.2.2.2.1 []):=by
   refine OK.pure (k_ hg.ok) ?_
   rw[AK (by omega) (by omega)];refine OK.bind (PZ hc hi (by omega)) fun x i1 h1 y eZ hq=> ?_
   have hwn:=dp hg.ok;exact ALW hc (T:=x.1) (by omega) (N:=N) (s:=ER (dom,c,())) ⟨_,hg.ok,rfl⟩ n 0 i1 h1 (ER (dom,c,())) [] eZ (by omega) (by omega) (by simp) (by simp) hwn.1 hwn.2
  refine OK.iu (fun Kg=> ?_) (fun hge=>fin);refine OK.pure (Ey (by show dom.length≤_;omega) (by omega)) ?_
  refine OK.cond (fun _=> ?_) (fun _=>fin);rw[AK (by omega) (by omega)];exact ih (c-1) i hh hi (by omega) (by omega)
theorem APz{T:Int}{N:Nat}(hT:(0≤T∧T≤500)∧T≤N∧N≤1000){dom:AAO}{c:Int}(hd:af dom c):∀(n k:Nat) (i hh:Int) (b:AAO),GZ code i→k≤dom.length→dom.length-k+1010≤n→b.length≤k→
  OK code (AE5 N) (Et n T k code i hh 0 0 false [] [] [] [] [] [] [] [] 0 0 false [] [] [] [] [] [] [] [] c dom b):=by
 have hdl:=hd.2.1;intro n
 induction n with
 |zero=>intro k i hh b _ _ h;omega
 |succ n ih=>
  intro k i hh b hi hk hn hb;simp only[Et,Qw];refine OK.iu (fun Kg=> ?_) (fun hge=> ?_)
  ·refine OK.ite (by rw[BT];omega) ?_
   rw[AK (by omega) (by omega),show((k:Int)+1)=((k+1:Nat):Int)by omega];exact ih (k+1) i hh _ hi (by omega) (by omega) (by simp;omega)
  ·exact ASk hc hT (by omega) ⟨hd.1,hd.2.1,by omega,by omega,hd.2.2.2.2⟩ n c i hh hi ⟨hd.2.2.1,hd.2.2.2.1⟩ (by have:=hd.2.2.2.1;omega)
theorem xM{T:Int}{N:Nat}(hT:(0≤T∧T≤500)∧T≤N∧N≤1000){i hh:Int}(hi:GZ code i):OK code (AE5 N) (NY T code i hh):=by
 unfold NY Q3;obtain⟨l,c,i1,h1,e,hg,eZ⟩:=oZ hc (h:=hh) hi;rw[e];have hgl:=hg.2.1;exact APz hc hT hg Ae 0 i1 h1 [] eZ (by omega) (AVi (Ag (by omega))) (by simp)
omit hc in
theorem AKa{w:AA}(hw:NN w)(hr:RdS w):Af A0 w.AR≤10002:=
 Fu (
  f:=A0) (B:=5000) (N:=2) (l:=w.AR) (by rw[hw.mu];omega) fun r hx=>by
  have:=Fu (f:=CO) (B:=40) (hw.AR r hx).n (hr r hx);unfold A0;omega
end
theorem yu{p:AAO}(hp:p.length≤2^30):∃T,Yt p 100 190=some ((T,()),())∧0≤T∧T≤190:=by
 unfold Yt;dsimp only;have hd:(p.length:Int).tdiv 4=(p.length:Int)/4:=Int.tdiv_eq_ediv_of_nonneg (by omega);rw[hd,AK (x:=(p.length:Int)/4) (by omega) (by omega),AK (by omega) (by omega),AB];split
 ·exact⟨190,rfl,by omega⟩
 ·exact⟨_,rfl,by omega⟩
def AEb(all:Bool)(w:AA)(l:List BC):AA×List Int:=if Fg w=true∧l.length≤200 then runM all w l else(w,[])
def iV(q:AA×List Int):H9:=(((((),q.1.2.1,(),(),(),q.1.2.2.2.2.2.1,(),(),(),(),q.1.2.2.2.2.2.2.2.2.2.2.1,()),(),()),()),(q.1.1,q.1.2.2.1,q.1.2.2.2.1,q.1.2.2.2.2.1,q.1.2.2.2.2.2.2.1,q.1.2.2.2.2.2.2.2.1,q.1.2.2.2.2.2.2.2.2.1,q.1.2.2.2.2.2.2.2.2.2.1,q.2,()))
theorem gS{w:AA}{d:BC}{all:Bool}(hw:NN w)(h0:(CD all w d).2=0):Af A0 (CD all w d).1.AR≤Af A0 w.AR+41:=by
 have:CD all w d=Li all w d:=by
  revert h0
  unfold CD;cases Fg w<;>cases PM d<;>simp
 rw[this]at h0⊢;exact AJu hw h0
theorem ANA{l:List BC}{k:Nat}(h:k<l.length):l.drop k=l.getD k (0,0,0,0,[],())::l.drop (k+1):=by
 rw[List.drop_eq_getElem_cons h,List.getD_eq_getElem?_getD,AL5 h,ATK]
theorem ABy{l:List BC}(hl:l.length≤200)(hd:∀d∈l,C0 d.2.1):∀(n k:Nat) (w:AA) (acc:AAO),k≤l.length→l.length-k<n→acc.length≤k→NN w→Af A0 w.AR+41*(l.length-k)≤900000→
  La n l (l.length:Int) k 0 0 false [] [] [] [] [] [] [] [] w.2.1 w.2.2.2.2.2.1 w.2.2.2.2.2.2.2.2.2.2.1 w.1 w.2.2.1 w.2.2.2.1 w.2.2.2.2.1 w.2.2.2.2.2.2.1 w.2.2.2.2.2.2.2.1 w.2.2.2.2.2.2.2.2.1 w.2.2.2.2.2.2.2.2.2.1 acc=some (iV ((runM false w (l.drop k)).1,acc++(runM false w (l.drop k)).2)):=by
 intro n
 induction n with
 |zero=>intro k w acc _ h;omega
 |succ n ih=>
  intro k w acc hk hn ha hw hr;simp only[La,VF,AB];by_cases Kg:k<l.length
  ·rw[ALy (by omega),ALy ⟨by omega,by omega⟩,ANA Kg,AMV]
   have hm:C0 (l.getD k (0,0,0,0,[],())).2.1:=hd _ (BG Kg)
   generalize l.getD k (0,0,0,0,[],())=d at hm
   rw[show(w.1,w.2.1,w.2.2.1,w.2.2.2.1,w.2.2.2.2.1,w.2.2.2.2.2.1,w.2.2.2.2.2.2.1,w.2.2.2.2.2.2.2.1,w.2.2.2.2.2.2.2.2.1,w.2.2.2.2.2.2.2.2.2.1,w.2.2.2.2.2.2.2.2.2.2.1,())=w from rfl,show(d.1,d.2.1,d.2.2.1,d.2.2.2.1,d.2.2.2.2.1,())=d from rfl,nE (hw.ANX (by omega)) hm];simp only[AD];rw[show(pkD (CD false w d)).1.1.2.1=(CD false w d).2 from rfl,AK (x:=(k:Int)+1) (by omega) (by omega),show((k:Int)+1)=((k+1:Nat):Int)by omega,ALy (by rw[BT];omega),ALy (by rw[BT];omega)];simp only[runM];by_cases h0:(CD false w d).2=0
   ·rw[ALy h0,show((CD false w d).2==0)=true by simpa using h0,AMp]
    have:=ih (k+1) (CD false w d).1 (acc++[(CD false w d).2]) (by omega) (by omega) (by simp;omega) (F5.1 (az h0)) (by have:=gS hw h0;omega);rw[AM8]at this;exact this
   ·rw[AMD h0,show((CD false w d).2==0)=false by simpa using h0,AMU]
    have:=ih (k+1) w (acc++[(CD false w d).2]) (by omega) (by omega) (by simp;omega) hw (by omega);rw[AM8]at this;exact this
  ·rw[AMD (by omega),AMj (by omega)]
   simp only[runM,AM5];rfl
theorem lJ{w:AA}{l:List BC}(Xq:gf w)(hr:Af A0 w.AR≤70000)(hd:∀d∈l,C0 d.2.1)(hl:l.length≤2^30):Mv w l=some (iV (AEb false w l)):=by
 unfold Mv Vl AEb;rw[show(w.1,w.2.1,w.2.2.1,w.2.2.2.1,w.2.2.2.2.1,w.2.2.2.2.2.1,w.2.2.2.2.2.2.1,w.2.2.2.2.2.2.2.1,w.2.2.2.2.2.2.2.2.1,w.2.2.2.2.2.2.2.2.2.1,w.2.2.2.2.2.2.2.2.2.2.1,())=w from rfl,YG Xq,Mh Xq];simp only[AD,AB,Az];by_cases h:(l.length:Int)>200
 ·rw[ALy h,AMD (fun hh=>by omega)]
  rfl
 rw[AMD h];rcases AKU (Fg w)with hw|hw
 ·rw[hw,AMp,ALy ⟨rfl,by omega⟩]
  have:=ABy (l:=l) (by omega) hd Ae 0 w [] (by omega) (Ag (by omega)) (by simp) (F5.1 hw) (by omega);exact this
 ·rw[hw,AMU,AMD (fun hh=>by simp at hh)]
  rfl
def AOg(q:AA×List Int):H4:=(((((),q.1.2.1,(),(),(),q.1.2.2.2.2.2.1,(),(),(),(),q.1.2.2.2.2.2.2.2.2.2.2.1,()),(),()),()),(q.1.1,q.1.2.2.1,q.1.2.2.2.1,q.1.2.2.2.2.1,q.1.2.2.2.2.2.2.1,q.1.2.2.2.2.2.2.2.1,q.1.2.2.2.2.2.2.2.2.1,q.1.2.2.2.2.2.2.2.2.2.1,q.2,()))
theorem AB0{l:List BC}(hl:l.length≤200)(hd:∀d∈l,C0 d.2.1):∀(n k:Nat) (w:AA) (acc:AAO),k≤l.length→l.length-k<n→acc.length≤k→NN w→Af A0 w.AR+41*(l.length-k)≤900000→
  LK n l k 0 0 false [] [] [] [] [] [] [] [] acc w.2.1 w.2.2.2.2.2.1 w.2.2.2.2.2.2.2.2.2.2.1 w.1 w.2.2.1 w.2.2.2.1 w.2.2.2.2.1 w.2.2.2.2.2.2.1 w.2.2.2.2.2.2.2.1 w.2.2.2.2.2.2.2.2.1 w.2.2.2.2.2.2.2.2.2.1=some (AOg ((runM true w (l.drop k)).1,acc++(runM true w (l.drop k)).2)):=by
 intro n
 induction n with
 |zero=>intro k w acc _ h;omega
 |succ n ih=>
  intro k w acc hk hn ha hw hr;simp only[LK,VP,AB];by_cases Kg:k<l.length
  ·rw[ALy (by omega),ALy ⟨by omega,by omega⟩,ANA Kg,AMV]
   have hm:C0 (l.getD k (0,0,0,0,[],())).2.1:=hd _ (BG Kg)
   generalize l.getD k (0,0,0,0,[],())=d at hm
   rw[show(w.1,w.2.1,w.2.2.1,w.2.2.2.1,w.2.2.2.2.1,w.2.2.2.2.2.1,w.2.2.2.2.2.2.1,w.2.2.2.2.2.2.2.1,w.2.2.2.2.2.2.2.2.1,w.2.2.2.2.2.2.2.2.2.1,w.2.2.2.2.2.2.2.2.2.2.1,())=w from rfl,show(d.1,d.2.1,d.2.2.1,d.2.2.2.1,d.2.2.2.2.1,())=d from rfl,cC (hw.ANX (by omega)) hm];simp only[AD];rw[show(pkD (CD true w d)).1.1.2.1=(CD true w d).2 from rfl,AK (x:=(k:Int)+1) (by omega) (by omega),show((k:Int)+1)=((k+1:Nat):Int)by omega,ALy (by rw[BT];omega)];simp only[runM];by_cases h0:(CD true w d).2=0
   ·rw[ALy h0,show((CD true w d).2==0)=true by simpa using h0,AMp]
    have:=ih (k+1) (CD true w d).1 (acc++[(CD true w d).2]) (by omega) (by omega) (by simp;omega) (F5.1 (az h0)) (by have:=gS hw h0;omega);rw[AM8]at this;exact this
   ·rw[AMD h0,show((CD true w d).2==0)=false by simpa using h0,AMU]
    have:=ih (k+1) w (acc++[(CD true w d).2]) (by omega) (by omega) (by simp;omega) hw (by omega);rw[AM8]at this;exact this
  ·rw[AMD (by omega),AMj (by omega)]
   simp only[runM,AM5];rfl
theorem lE{w:AA}{l:List BC}(Xq:gf w)(hr:Af A0 w.AR≤70000)(hd:∀d∈l,C0 d.2.1)(hl:l.length≤2^30):Mr w l=some (AOg (AEb true w l)):=by
 unfold Mr VV AEb;rw[show(w.1,w.2.1,w.2.2.1,w.2.2.2.1,w.2.2.2.2.1,w.2.2.2.2.2.1,w.2.2.2.2.2.2.1,w.2.2.2.2.2.2.2.1,w.2.2.2.2.2.2.2.2.1,w.2.2.2.2.2.2.2.2.2.1,w.2.2.2.2.2.2.2.2.2.2.1,())=w from rfl,bw Xq,bg Xq];simp only[AD,AB,Az];by_cases h:(l.length:Int)>200
 ·rw[ALy h,AMD (fun hh=>by omega)]
  cases Fg w<;>rfl
 rw[AMD h];rcases AKU (Fg w)with hw|hw
 ·rw[hw,AMp,ALy ⟨rfl,by omega⟩]
  have:=AB0 (l:=l) (by omega) hd Ae 0 w [] (by omega) (Ag (by omega)) (by simp) (F5.1 hw) (by omega);exact this
 ·rw[hw,AMU,AMD (fun hh=>by simp at hh)]
  rfl
theorem vM{all:Bool}:∀{l:List BC} {w:AA},NN w→Af A0 (runM all w l).1.AR≤Af A0 w.AR+41*l.length
 |[],w,_=>by simp[runM]
 |d::l,w,hw=>by
  simp only[runM,ANZ];by_cases h:(CD all w d).2=0
  ·rw[ALy h]
   have h1:=gS hw h;have h2:=vM (all:=all) (l:=l) (F5.1 (az h));omega
  ·rw[AMD h]
   have h2:=vM (all:=all) (l:=l) hw;omega
theorem AEn{l:AAO}(hl:l.length≤2^40):Ms l l=some ((true,()),()):=by
 have key:∀(n i:Nat),i≤l.length→l.length-i<n→LP n l l i=some ((true,()),()):=by
  intro n
  induction n with
  |zero=>intro i _ h;omega
  |succ n ih=>
   intro i hi h;simp only[LP,VS,AB];by_cases hc:i<l.length
   ·rw[ALy (by omega),ALy (by omega),ALy (by omega),AK (by omega) (by omega),show(((i:Nat):Int)+1)=((i+1:Nat):Int)by omega,ih (i+1) (by omega) (by omega)]
    simp
   ·rw[AMD (by omega)]
 unfold Ms Va;have:=key Ae 0 (by omega) (Ag (by omega));rw[show((0:Nat):Int)=0 from rfl]at this;rw[this];simp
end Go.M
end
section
namespace Go.Sf
abbrev r8:=List UInt8
structure N6 where
 at_:Int
 PI:Int
 hole:Bool
 data:r8
structure Wd where
 data:r8
 nr:Int→Prop
 done:Prop
structure Md where
 ep:Int
 ew:Int→Prop
 seen:Int→Option N6
 pl:Prop
 n:Int
 wrote:Int→Int→Prop
structure St where
 len:Int
 nodes:Int→Int→Prop
 cl:Int→Prop
 last:Int→Int
 trim:Int
 lost:Int→Prop
 EC:Prop
 kept:Int→Int→Option N6
 late:Int→N6→Prop
 sl:Int→Int
 vW:Int→Prop
 wd:Int→Option Wd
 md:Option Md
 HO:Int→Option (r8×Prop)
section
variable(H:(Int→Prop)→Prop) (ep off:Int→Int) (Pl:Int→Prop)
def U4(len:Int)(m:Md)(p:Int):N6:=
 match m.seen p with
 |some x=>⟨p,len,x.hole,x.data⟩
 |none=>⟨p,len,true,[]⟩
def EH(s:St)(x:N6):Prop:=(∃n,s.kept n x.at_=some x)∨(∃n,s.late n x)∨(∃m,s.md=some m∧m.seen x.at_=some x)
def AJg(s:St)(p n:Int):Prop:= ∃w,s.wd p=some w∧w.nr n
def eX(s:St)(p:Int):Prop:= ∃d q,s.HO p=some (d,q)∧q
def Lr(s:St)(p:Int):Prop:= ¬eX s p∧ep p<s.len∧(s.vW (ep p)→ ¬H (fun n=>s.nodes (ep p) n∧(¬(s.lost n∨ep p≤s.sl n)∨AJg s p n)))
def Have(s:St)(p n:Int):Prop:=(∃x,s.kept n p=some x)∨s.lost n
structure GX (s:St):Prop where
 nD:0≤s.len
 ZI:∀e,1≤e→e≤s.len→H (s.nodes e)
 p9:∀e,s.cl e→1≤e∧e<s.len
 ZC:∀e f,s.cl e→1≤f→f<e→s.cl f
 md1:∀m,s.md=some m→1≤m.ep∧m.ep<s.len∧ ¬s.cl m.ep∧ ∀e,1≤e→e<m.ep→s.cl e
 wr1:∀e,s.vW e→1≤e∧e≤s.len
 wg:∀p w,s.wd p=some w→Pl p∧s.vW (ep p)∧(∃q,s.HO p=some (w.data,q)∧(w.done→q))∧(w.done↔H w.nr)∧(∀n,w.nr n→s.nodes (ep p) n)
 dS:∀p d,s.HO p=some d→Pl p∧ep p≤s.len
 T_:∀n p x,s.kept n p=some x→x.at_=p
 ja:∀m p x,s.md=some m→m.seen p=some x→x.at_=p∧ep p=m.ep∧x.PI<s.len
 gi:∀x,EH s x→Pl x.at_∧0≤x.PI∧x.PI≤s.len∧ep x.at_≤s.len∧(0<x.PI→ep x.at_<x.PI)∧(x.PI=0→x.hole=false)∧(x.hole=true→x.data=[])
 hO:∀x,EH s x→x.hole=false→ ∃q,s.HO x.at_=some (x.data,q)
 qD:∀x,EH s x→x.PI=s.len→ ¬s.cl (ep x.at_)→ ∃m,s.md=some m∧m.pl∧m.ep=ep x.at_∧x=U4 s.len m x.at_
 rA:∀x y,EH s x→EH s y→x.at_=y.at_→x.PI=y.PI→x=y
structure HQ (s:St) (fin:Int→N6):Prop where
 X2: ¬H s.lost
 sure:∀p,eX s p→s.trim<p→H (fun n=>s.nodes (ep p) n∧Have s p n)∧ ∀m,s.md=some m→m.ep=ep p→(∃x,m.seen p=some x)∨H (fun n=>s.nodes (ep p) n∧ ¬m.ew n∧Have s p n)
 SY:∀p w n,s.wd p=some w→ ¬w.done→w.nr n→ ¬s.lost n∧(s.trim<p→(∃x,s.kept n p=some x)∧ ∀m,s.md=some m→m.ep=ep p→m.ew n→ ∃x,m.seen p=some x)
 ew:∀m n,s.md=some m→m.ew n→s.lost n∨s.len-1≤s.sl n
 UH:∀x,EH s x→x.hole=true→s.trim<x.at_→Lr H ep s x.at_
 ZX:∀m p,s.md=some m→m.pl→Pl p→ep p=m.ep→s.trim<p→m.seen p=none→Lr H ep s p
 past:∀p,Pl p→s.cl (ep p)→s.last (ep p)<off p→s.trim<p→Lr H ep s p
 wrote:∀m p n,s.md=some m→m.wrote p n→s.nodes m.ep n∧ ¬s.lost n∧m.pl∧(s.trim<p→s.kept n p=some (U4 s.len m p))
 dU:∀m p x,s.md=some m→m.pl→m.seen p=some x→off p≤m.n
 closed:∀p,Pl p→s.cl (ep p)→off p≤s.last (ep p)→s.trim<p→(fin p).at_=p∧0<(fin p).PI∧(∀x,EH s x→x.at_=p→x.PI≤(fin p).PI∧(x.PI=(fin p).PI→x=fin p))∧
  H (fun n=>s.nodes (ep p) n∧(s.lost n∨s.kept n p=some (fin p)))
end
end Go.Sf
end
section
namespace Go.Sf
section
variable{H:(Int→Prop)→Prop} (hm:∀S T:Int→Prop,(∀n,S n→T n)→H S→H T) {ep off:Int→Int} {Pl:Int→Prop} {s:St} {fin:Int→N6}
def Pf(k k':Int→Option N6)(L:N6→Prop):Prop:=
 (∀p x,k p=some x→ ∃y,k' p=some y∧(y=x∨x.PI<y.PI))∧ ∀p y,k' p=some y→k p=some y∨(L y∧y.at_=p)
def St.settle(s:St)(n:Int)(k':Int→Option N6):St:={ s with kept:=fun m=>if m=n then k' else s.kept m,late:=fun m x=>m≠n∧s.late m x }
theorem l3{n:Int}{k':Int→Option N6}(hk:Pf (s.kept n) k' (s.late n)){x:N6}(h:EH (s.settle n k') x):EH s x:=by
 unfold EH St.settle at*;obtain⟨h1,h2⟩:=hk;grind
theorem qZ{n:Int}{k':Int→Option N6}(hk:Pf (s.kept n) k' (s.late n))(h:GX H ep Pl s):GX H ep Pl (s.settle n k'):=by
 have hi:∀x,EH (s.settle n k') x→EH s x:=fun x=>l3 hk
 obtain⟨a1,a2,a3,a4,a5,a6,a7,a8,a9,a10,a11,a12,a13,a14⟩:=h;refine⟨a1,a2,a3,a4,a5,a6,a7,a8,?_,a10,fun x h=>a11 x (hi x h),fun x h=>a12 x (hi x h),fun x h=>a13 x (hi x h),fun x y h k=>a14 x y (hi x h) (hi y k)⟩;grind[Pf,St.settle]
theorem wE{n:Int}{k':Int→Option N6}(hk:Pf (s.kept n) k' (s.late n)){p m:Int}(h:Have s p m):Have (s.settle n k') p m:=by
 unfold Have St.settle Pf at*;grind
include hm in
theorem pv{n:Int}{k':Int→Option N6}(hk:Pf (s.kept n) k' (s.late n))(hA:GX H ep Pl s)(h:HQ H ep off Pl s fin):HQ H ep off Pl (s.settle n k') fin:=by
 have hi:∀x,EH (s.settle n k') x→EH s x:=fun x=>l3 hk
 have hh:=fun p m=>wE (s:=s) (n:=n) hk (p:=p) (m:=m)
 refine⟨h.X2,fun p hs ht=> ?_,fun p w m h1 h2 h3=> ?_,h.ew,fun x h1 h2 h3=>h.UH x (hi x h1) h2 h3,h.ZX,h.past,fun m p k h1 h2=> ?_,h.dU,fun p h1 h2 h3 h4=> ?_⟩
 ·obtain⟨h1,h2⟩:=h.sure p hs ht
  refine⟨hm _ _ (fun m h=>⟨h.1,hh p m h.2⟩) h1,fun m hm1 hm2=>(h2 m hm1 hm2).imp id fun h=>hm _ _ (fun k h=>⟨h.1,h.2.1,hh p k h.2.2⟩) h⟩
 ·have:=h.SY p w m h1 h2 h3
  unfold Pf at hk;simp only[St.settle];grind
 ·have h3:=h.wrote m p k h1 h2
  refine⟨h3.1,h3.2.1,h3.2.2.1,fun ht=> ?_⟩;have h4:=h3.2.2.2 ht;obtain⟨k1,k2⟩:=hk;simp only[St.settle];split
  ·rename_i e
   subst e;obtain⟨y,h5,h6⟩:=k1 p _ h4;have i1:=hA.gi y (hi y (.inl ⟨k,by simp[St.settle];grind[hA.T_]⟩));grind[U4]
  ·exact h4
 ·obtain⟨h5,h50,h6,h7⟩:=h.closed p h1 h2 h3 h4
  refine⟨h5,h50,fun x hx=>h6 x (hi x hx),hm _ _ (fun m h=>⟨h.1,h.2.imp id fun hq=> ?_⟩) h7⟩;obtain⟨k1,k2⟩:=hk;simp only[St.settle];split
  ·rename_i e
   subst e;obtain⟨y,h8,h9⟩:=k1 p _ hq;have i1:=h6 y (hi y (.inl ⟨m,by simp[St.settle];grind[hA.T_]⟩));grind[hA.T_]
  ·exact hq
theorem Lr.of{s s':St}{p:Int}(hn:Lr H ep s p)(h1:eX s' p→eX s p)(h2:s.len≤s'.len)(h3:s'.vW (ep p)→s.vW (ep p))
  (h4:s'.vW (ep p)→ ∀n,s'.nodes (ep p) n→(¬(s'.lost n∨ep p≤s'.sl n)∨AJg s' p n)→s.nodes (ep p) n∧(¬(s.lost n∨ep p≤s.sl n)∨AJg s p n))
  (hm:∀S T:Int→Prop,(∀n,S n→T n)→H S→H T):Lr H ep s' p:=
 ⟨fun h=>hn.1 (h1 h),Int.lt_of_lt_of_le hn.2.1 h2,fun hw h=>hn.2.2 (h3 hw) (hm _ _ (fun n hq=>h4 hw n hq.1 hq.2) h)⟩
def St.ct(H:(Int→Prop)→Prop)(s:St)(p n:Int)(w:Wd):St:=
 { s with wd:=fun q=>if q=p then some ⟨w.data,fun k=>w.nr k∨k=n,H (fun k=>w.nr k∨k=n)⟩else s.wd q, HO:=fun q=>if q=p then(s.HO p).map (fun d=>(d.1,d.2∨H (fun k=>w.nr k∨k=n)))else s.HO q }
structure AAu (ep:Int→Int) (s:St) (p n:Int) (w:Wd):Prop where
 wd:s.wd p=some w
 open_: ¬w.done
 node:s.nodes (ep p) n
 there: ¬s.lost n
 free:s.sl n<ep p
 has:∃x,s.kept n p=some x
theorem AWD{p n:Int}{w:Wd}(k:AAu ep s p n w)(h:GX H ep Pl s):GX H ep Pl (s.ct H p n w):=by
 obtain⟨a1,a2,a3,a4,a5,a6,a7,a8,a9,a10,a11,a12,a13,a14⟩:=h;refine⟨a1,a2,a3,a4,a5,a6,fun q v hq=> ?_,fun q d hq=> ?_,a9,a10,a11,fun x hx hh=> ?_,a13,a14⟩
 ·have:=a7 p w k.wd
  have:=k.node;simp only[St.ct]at*;grind
 ·simp only[St.ct]at hq
  split at hq
  ·rename_i e
   cases hp:s.HO p with
   |none=>simp_all
   |some z=>rw[e];exact a8 p z hp
  ·exact a8 q d hq
 ·obtain⟨z,hz⟩:=a12 x hx hh
  simp only[St.ct];grind
theorem s7{p n:Int}{w:Wd}{q:Int}(h:eX (s.ct H p n w) q):eX s q∨(q=p∧H (fun k=>w.nr k∨k=n)):=by
 obtain⟨d,z,h1,h2⟩:=h;simp only[St.ct]at h1;split at h1
 ·rename_i e
  cases hp:s.HO p with
  |none=>simp_all
  |some y=>
   rw[hp]at h1;cases h1;rcases h2 with h2|h2
   ·exact .inl ⟨y.1,y.2,by rw[e,hp],h2⟩
   simp_all
 ·exact .inl ⟨d,z,h1,h2⟩
include hm in
theorem AVE{p n:Int}{w:Wd}(k:AAu ep s p n w)(hA:GX H ep Pl s)(h:HQ H ep off Pl s fin):HQ H ep off Pl (s.ct H p n w) fin:=by
 have hk:=k.wd;have ho:=k.open_;have ht:=k.there;have hf:=k.free;have AWE:=k.has;have AL0:∀m,s.md=some m→m.ep=ep p→ ¬m.ew n:=fun m h1 h2 h3=>by
  have:=h.ew m n h1 h3;have:=hA.md1 m h1;grind
 have hN:∀q,Lr H ep s q→Lr H ep (s.ct H p n w) q:=fun q hn=>by
  refine hn.of (fun hs=> ?_) (ATD _) (fun h=>h) (fun hw m hn hd=> ?_) hm
  ·rcases s7 hs with h'|⟨hq,hH⟩
   ·exact h'
   ·subst hq
    refine absurd (hm _ _ (fun m qX=>⟨?_,?_⟩) hH) (hn.2.2 (hA.wg q w hk).2.1)
    ·have:=k.node
     have:=(hA.wg q w hk).2.2.2.2 m;grind
    ·rcases qX with h'|rfl
     ·exact .inr ⟨w,hk,h'⟩
     ·exact .inl (by grind)
  ·refine⟨hn,?_⟩
   simp only[AJg,St.ct]at*;grind
 refine⟨h.X2,fun q hs hq=> ?_,fun q v m h1 h2 h3=> ?_,h.ew,fun x h1 h2 h3=>hN _ (h.UH x h1 h2 h3),fun m q h1 h2 h3 h4 h5 h6=>hN _ (h.ZX m q h1 h2 h3 h4 h5 h6),fun q h1 h2 h3 h4=>hN _ (h.past q h1 h2 h3 h4),h.wrote,h.dU,h.closed⟩
 ·by_cases hqs:eX s q
  ·exact h.sure q hqs hq
  ·obtain⟨hqp,hH⟩:=(s7 hs).resolve_left hqs
   subst hqp;have h1:=hA.wg q w hk;have h2:∀m,(w.nr m∨m=n)→s.nodes (ep q) m∧Have s q m:=fun m qX=>by
    rcases qX with h'|rfl
    ·exact⟨h1.2.2.2.2 m h',.inl ((h.SY q w m hk ho h').2 hq).1⟩
    ·exact⟨k.node,.inl AWE⟩
   refine⟨hm _ _ h2 hH,fun m SX pV=> ?_⟩;by_cases hseen:∃x,m.seen q=some x
   ·exact .inl hseen
   ·refine .inr (hm _ _ (fun j hj=>⟨(h2 j hj).1,fun hsl=> ?_,(h2 j hj).2⟩) hH)
    rcases hj with h'|rfl
    ·exact hseen (((h.SY q w j hk ho h').2 hq).2 m SX pV hsl)
    ·exact AL0 m SX pV hsl
 ·by_cases hq:q=p
  ·subst hq
   have h4:=fun j=>h.SY q w j hk ho
   simp only[St.ct,AS_,AMF]at h1;subst h1;rcases h3 with h3|rfl
   ·exact h4 m h3
   ·exact⟨ht,fun _=>⟨AWE,fun m' a b c=>absurd c (AL0 m' a b)⟩⟩
  ·simp only[St.ct,AMD hq]at h1
   exact h.SY q v m h1 h2 h3
def St.wrt(s:St)(m:Md)(p n:Int):St:={ s with md:=some { m with wrote:=fun q k=>m.wrote q k∨(q=p∧k=n) } }
theorem w_{m:Md}{p n:Int}(SX:s.md=some m){x:N6}(h:EH (s.wrt m p n) x):EH s x:=by
 rcases h with h|h|⟨m',h1,h2⟩
 ·exact .inl h
 ·exact .inr (.inl h)
 ·cases h1
  exact .inr (.inr ⟨m,SX,h2⟩)
theorem AWJ{m:Md}{p n:Int}(SX:s.md=some m)(h:GX H ep Pl s):GX H ep Pl (s.wrt m p n):=by
 have hi:∀x,EH (s.wrt m p n) x→EH s x:=fun x=>w_ SX
 obtain⟨a1,a2,a3,a4,a5,a6,a7,a8,a9,a10,a11,a12,a13,a14⟩:=h;refine⟨a1,a2,a3,a4,?_,a6,a7,a8,a9,?_,fun x h=>a11 x (hi x h),fun x h=>a12 x (hi x h),fun x h h1 h2=> ?_,fun x y h k=>a14 x y (hi x h) (hi y k)⟩
 ·intro m' e;cases e;exact a5 m SX
 ·intro m' q x e;cases e;exact a10 m q x SX
 ·obtain⟨m',e,h3,h4,h5⟩:=a13 x (hi x h) h1 h2
  rw[SX]at e;cases e;exact⟨_,rfl,h3,h4,h5⟩
theorem AU9{m:Md}{p n:Int}(SX:s.md=some m)(km:m.pl)(h1:s.nodes m.ep n)(h2: ¬s.lost n)(h3:s.kept n p=some (U4 s.len m p))(h:HQ H ep off Pl s fin):HQ H ep off Pl (s.wrt m p n) fin:=by
 have hi:∀x,EH (s.wrt m p n) x→EH s x:=fun x=>w_ SX
 obtain⟨b1,b2,b3,b4,b5,b6,b7,b8,b9,Jc⟩:=h;refine⟨b1,fun q a b=>⟨(b2 q a b).1,?_⟩,fun q w j a b c=>⟨(b3 q w j a b c).1,fun d=>⟨((b3 q w j a b c).2 d).1,?_⟩⟩,?_,fun x a=>b5 x (hi x a),?_,b7,?_,?_,fun q a b c d=>⟨(Jc q a b c d).1,(Jc q a b c d).2.1,fun x e=>(Jc q a b c d).2.2.1 x (hi x e),(Jc q a b c d).2.2.2⟩⟩
 ·have:=(b2 q a b).2
  simp only[St.wrt];intro m' e;cases e;exact this m SX
 ·have:=((b3 q w j a b c).2 d).2
  simp only[St.wrt];simp_all
 ·simp only[St.wrt];intro m' j e;cases e;simp_all
 ·simp only[St.wrt];intro m' q e;cases e;exact b6 m q SX
 ·intro m' q k e hq
  cases e;rcases hq with hq|⟨rfl,rfl⟩
  ·exact b8 m q k SX hq
  ·exact⟨h1,h2,km,fun _=>h3⟩
 grind[St.wrt]
end
end Go.Sf
end
section
namespace Go.Sf
section
variable{H:(Int→Prop)→Prop} (hm:∀S T:Int→Prop,(∀n,S n→T n)→H S→H T) (h0: ¬H (fun _=>False)) {ep off:Int→Int} {Pl:Int→Prop} {s:St} {fin:Int→N6}
def St.add(s:St)(p:Int)(d:r8):St:=
 { s with wd:=fun q=>if q=p then some ⟨d,fun _=>False,False⟩else s.wd q,HO:=fun q=>if q=p then some (d,False)else s.HO q }
structure AMm (ep:Int→Int) (Pl:Int→Prop) (s:St) (p:Int):Prop where
 pl:Pl p
 wr:s.vW (ep p)
 wd:s.wd p=none
 HO:s.HO p=none
include h0 in
theorem AVG{p:Int}{d:r8}(k:AMm ep Pl s p)(h:GX H ep Pl s):GX H ep Pl (s.add p d):=by
 obtain⟨a1,a2,a3,a4,a5,a6,a7,a8,a9,a10,a11,a12,a13,a14⟩:=h;refine⟨a1,a2,a3,a4,a5,a6,fun q v hq=> ?_,fun q d' hq=> ?_,a9,a10,a11,fun x hx hh=> ?_,a13,a14⟩
 ·simp only[St.add]at*
  split at hq
  ·cases hq
   rename_i e;subst e;exact⟨k.pl,k.wr,⟨_,by simp,fun h=>h⟩,⟨fun h=>h.elim,fun h=>h0 h⟩,fun _ h=>h.elim⟩
  ·rename_i e
   obtain⟨b1,b2,b3,b4⟩:=a7 q v hq;exact⟨b1,b2,by simpa[e]using b3,b4⟩
 ·simp only[St.add]at hq
  split at hq
  ·rename_i e
   subst e;exact⟨k.pl,(a6 _ k.wr).2⟩
  ·exact a8 q d' hq
 ·obtain⟨z,hz⟩:=a12 x hx hh
  have:x.at_≠p:=fun e=>by rw[e,k.HO]at hz;cases hz
  exact⟨z,by simpa[St.add,this]using hz⟩
theorem xN{p:Int}{d:r8}{q:Int}(h:eX (s.add p d) q):eX s q:=by
 obtain⟨a,z,h1,h2⟩:=h;simp only[St.add]at h1;split at h1
 ·simp_all
 ·exact⟨a,z,h1,h2⟩
include hm in
theorem AWL{p:Int}{d:r8}(h:HQ H ep off Pl s fin):HQ H ep off Pl (s.add p d) fin:=by
 have hN:∀q,Lr H ep s q→Lr H ep (s.add p d) q:=fun q hn=>by
  refine hn.of xN (ATD _) (fun h=>h) (fun hw m hn hd=>⟨hn,hd.imp id ?_⟩) hm
  rintro⟨w,h1,h2⟩
  simp only[St.add]at h1;split at h1
  ·cases h1;exact h2.elim
  ·exact⟨w,h1,h2⟩
 refine⟨h.X2,fun q hs hq=>h.sure q (xN hs) hq,fun q v m h1 h2 h3=> ?_,h.ew,fun x h1 h2 h3=>hN _ (h.UH x h1 h2 h3),fun m q h1 h2 h3 h4 h5 h6=>hN _ (h.ZX m q h1 h2 h3 h4 h5 h6),fun q h1 h2 h3 h4=>hN _ (h.past q h1 h2 h3 h4),h.wrote,h.dU,h.closed⟩;simp only[St.add]at h1;split at h1
 ·cases h1;exact h3.elim
 ·exact h.SY q v m h1 h2 h3
def St.put(s:St)(n:Int)(x:N6):St:={ s with late:=fun m y=>s.late m y∨(m=n∧y=x) }
theorem W6{n:Int}{x y:N6}(h:EH (s.put n x) y):EH s y∨y=x:=by
 rcases h with h|⟨m,h|⟨_,h⟩⟩|h
 ·exact .inl (.inl h)
 ·exact .inl (.inr (.inl ⟨m,h⟩))
 ·simp_all
 ·exact .inl (.inr (.inr h))
structure AAl (ep:Int→Int) (Pl:Int→Prop) (s:St) (x:N6):Prop where
 pl:Pl x.at_
 w0:0≤x.PI
 w1:x.PI≤s.len
 e1:ep x.at_≤s.len
 w2:0<x.PI→ep x.at_<x.PI
 h1:x.PI=0→x.hole=false
 h2:x.hole=true→x.data=[]
 HO:x.hole=false→ ∃q,s.HO x.at_=some (x.data,q)
 last:x.PI=s.len→ ¬s.cl (ep x.at_)→ ∃m,s.md=some m∧m.pl∧m.ep=ep x.at_∧x=U4 s.len m x.at_
 one:∀y,EH s y→x.at_=y.at_→x.PI=y.PI→x=y
theorem AWz{n:Int}{x:N6}(k:AAl ep Pl s x)(h:GX H ep Pl s):GX H ep Pl (s.put n x):=by
 obtain⟨a1,a2,a3,a4,a5,a6,a7,a8,a9,a10,a11,a12,a13,a14⟩:=h;refine⟨a1,a2,a3,a4,a5,a6,a7,a8,a9,a10,fun y hy=> ?_,fun y hy=> ?_,fun y hy=> ?_,fun y z hy hz e1 e2=> ?_⟩
 ·rcases W6 hy with hy|rfl
  ·exact a11 y hy
  ·exact⟨k.pl,k.w0,k.w1,k.e1,k.w2,k.h1,k.h2⟩
 ·rcases W6 hy with hy|rfl
  ·exact a12 y hy
  ·exact k.HO
 ·rcases W6 hy with hy|rfl
  ·exact a13 y hy
  ·exact k.last
 ·rcases W6 hy with xt|ey<;>rcases W6 hz with hz'|ez
  ·grind
  ·rw[ez]at e1 e2⊢
   exact(k.one y xt e1.symm e2.symm).symm
  ·rw[ey]at e1 e2⊢
   exact k.one z hz' e1 e2
  simp_all
theorem AT_{n:Int}{x:N6}(hh:x.hole=true→s.trim<x.at_→Lr H ep s x.at_)
  (hc:s.cl (ep x.at_)→x.PI=0) (h:HQ H ep off Pl s fin):HQ H ep off Pl (s.put n x) fin:=by
 refine⟨h.X2,h.sure,h.SY,h.ew,fun y h1 h2 h3=> ?_,h.ZX,h.past,h.wrote,h.dU,fun p h1 h2 h3 h4=> ?_⟩
 ·rcases W6 h1 with hy|rfl
  ·exact h.UH y hy h2 h3
  ·exact hh h2 h3
 ·obtain⟨c1,c2,c3,c4⟩:=h.closed p h1 h2 h3 h4
  refine⟨c1,c2,fun y hy hyp=> ?_,c4⟩;rcases W6 hy with hy|rfl
  ·grind
  ·have:=hc (by rw[hyp];exact h2)
   grind
theorem zc{p:Int}{w:Wd}(h:GX H ep Pl s)(hw:s.wd p=some w):AAl ep Pl s ⟨p,0,false,w.data⟩:=by
 have h1:=h.wg p w hw;have h2:=h.wr1 _ h1.2.1;refine⟨h1.1,ATD _,h.nD,h2.2,fun h=>absurd h (Int.lt_irrefl _),fun _=>rfl,fun h=>(by cases h),fun _=> ?_,fun e=> ?_,fun y hy e1 e2=> ?_⟩
 ·grind
 ·grind
 ·simp only at e1 e2
  have h3:=(h.gi y hy).2.2.2.2.2.1 e2.symm;obtain⟨q,hq⟩:=h.hO y hy h3;obtain⟨q',hq',_⟩:=h1.2.2.1;rw[←e1,hq']at hq;simp only[AMF,APv]at hq;cases y;simp_all
theorem yA{p:Int}{m:Md}(h:GX H ep Pl s)(SX:s.md=some m)(km:m.pl)(he:ep p=m.ep)(hp:Pl p):AAl ep Pl s (U4 s.len m p):=by
 have h1:=h.md1 m SX;have OY:(U4 s.len m p).at_=p:=by grind[U4]
 have hwv:(U4 s.len m p).PI=s.len:=by grind[U4]
 have hs:∀x,m.seen p=some x→EH s x∧x.at_=p:=fun x hx=>by
  have:=(h.ja m p x SX hx).1;exact⟨.inr (.inr ⟨m,SX,by simp_all⟩),this⟩
 refine⟨by simp_all,by omega,by omega,by grind,fun _=>by simp_all,fun e=>by omega,fun e=> ?_,fun e=> ?_,fun _ _=>⟨m,SX,km,by simp_all,by rw[OY]⟩,fun y hy e1 e2=> ?_⟩
 ·unfold U4 at e⊢
  split at e
  ·rename_i x hx
   exact(h.gi x (hs x hx).1).2.2.2.2.2.2 e
  rfl
 ·rw[OY]
  unfold U4 at e⊢;split at e
  ·rename_i x hx
   have:=h.hO x (hs x hx).1 e;simp_all
  simp_all
 ·rw[OY]at e1
  rw[hwv]at e2;obtain⟨m',k1,k2,k3,k4⟩:=h.qD y hy e2.symm (by simp_all);grind
end
end Go.Sf
end
section
namespace Go.Sf
section
variable{H:(Int→Prop)→Prop} (hm:∀S T:Int→Prop,(∀n,S n→T n)→H S→H T) (h0: ¬H (fun _=>False)) {ep off:Int→Int} {Pl:Int→Prop} {s:St} {fin:Int→N6}
def St.Vz(H:(Int→Prop)→Prop)(s:St)(n:Int):St:=
 { s with kept:=fun m=>if m=n then fun _=>none else s.kept m,late:=fun m x=>m≠n∧s.late m x,sl:=fun m=>if m=n then 0 else s.sl m,lost:=fun m=>s.lost m∨m=n, wd:=fun p=>(s.wd p).map fun w=>⟨w.data,fun k=>w.nr k∧(w.done∨k≠n),w.done⟩, md:=s.md.map fun m=>{ m with wrote:=fun p k=>m.wrote p k∧k≠n }, EC:=s.EC∨H (fun m=>s.lost m∨m=n) }
theorem sN{n:Int}{x:N6}(h:EH (s.Vz H n) x):EH s x:=by
 rcases h with⟨m,h⟩|⟨m,h⟩|⟨m,h1,h2⟩
 ·simp only[St.Vz]at h
  split at h
  ·cases h
  ·exact .inl ⟨m,h⟩
 ·exact .inr (.inl ⟨m,h.2⟩)
 ·simp only[St.Vz,AMI]at h1
  obtain⟨m',h1,rfl⟩:=h1;exact .inr (.inr ⟨m',h1,h2⟩)
theorem YM{n:Int}{m:Md}(h:(s.Vz H n).md=some m):∃m',s.md=some m'∧m={ m' with wrote:=fun p k=>m'.wrote p k∧k≠n }:=by
 simp only[St.Vz,AMI]at h;grind
theorem uu{n p:Int}{w:Wd}(h:(s.Vz H n).wd p=some w):∃w',s.wd p=some w'∧w=⟨w'.data,fun k=>w'.nr k∧(w'.done∨k≠n),w'.done⟩:=by
 simp only[St.Vz,AMI]at h;grind
include hm in
theorem AQB{n:Int}(h:GX H ep Pl s):GX H ep Pl (s.Vz H n):=by
 have hi:∀x,EH (s.Vz H n) x→EH s x:=fun x=>sN
 refine⟨h.nD,h.ZI,h.p9,h.ZC,fun m e=> ?_,h.wr1,fun p w e=> ?_,h.dS,fun k p x e=> ?_,fun m p x e=> ?_,fun x e=>h.gi x (hi x e),fun x e=>h.hO x (hi x e),fun x e e1 e2=> ?_,fun x y e e1=>h.rA x y (hi x e) (hi y e1)⟩
 ·obtain⟨m',e',rfl⟩:=YM e
  replace e:=e'
  exact h.md1 m' e
 ·obtain⟨w',e',rfl⟩:=uu e
  clear e;have e:=e'
  obtain⟨b1,b2,b3,b4,b5⟩:=h.wg p w' e;refine⟨b1,b2,b3,⟨fun hd=>hm _ _ (fun k hk=>⟨hk,.inl hd⟩) (b4.1 hd),fun hH=>b4.2 (hm _ _ (fun k hk=>hk.1) hH)⟩,fun k hk=>b5 k hk.1⟩
 ·simp only[St.Vz]at e
  split at e
  ·cases e
  ·exact h.T_ k p x e
 ·obtain⟨m',e',rfl⟩:=YM e
  replace e:=e'
  exact h.ja m' p x e
 ·obtain⟨m,c1,c2,c3,c4⟩:=h.qD x (hi x e) e1 e2
  exact⟨{ m with wrote:=fun p k=>m.wrote p k∧k≠n },by simp[St.Vz,c1],c2,c3,c4⟩
theorem AB3{n p m:Int}(h:Have s p m):Have (s.Vz H n) p m:=by
 simp only[Have,St.Vz]at*;grind
include hm in
theorem AS1{n:Int}(hl: ¬H (fun m=>s.lost m∨m=n))(hA:GX H ep Pl s)(h:HQ H ep off Pl s fin):HQ H ep off Pl (s.Vz H n) fin:=by
 have hi:∀x,EH (s.Vz H n) x→EH s x:=fun x=>sN
 have hh:=fun p m=>AB3 (H:=H) (s:=s) (n:=n) (p:=p) (m:=m)
 have hN:∀q,Lr H ep s q→Lr H ep (s.Vz H n) q:=fun q hn=>by
  refine hn.of (fun h=>h) (ATD _) (fun h=>h) (fun hw m tP hd=>⟨tP,?_⟩) hm;rcases hd with hd|⟨w,h1,h2⟩
  ·simp only[St.Vz]at hd
   by_cases e:m=n
   ·simp[e]at hd
   ·simp only[e,or_false,AOR]at hd
    exact .inl hd
  ·obtain⟨w',e,rfl⟩:=uu h1
   exact .inr ⟨w',e,h2.1⟩
 refine⟨hl,fun p hs ht=> ?_,fun p w m e1 e2 e3=> ?_,fun m k e1 e2=> ?_,fun x a b c=>hN _ (h.UH x (hi x a) b c),fun m p e a b c d f=> ?_,fun p a b c d=>hN _ (h.past p a b c d),fun m p k e e2=> ?_,fun m p x e=> ?_,fun p a b c d=> ?_⟩
 ·obtain⟨b1,b2⟩:=h.sure p hs ht
  refine⟨hm _ _ (fun m hq=>⟨hq.1,hh p m hq.2⟩) b1,fun m e1 e2=> ?_⟩;obtain⟨m',e1',rfl⟩:=YM e1
  replace e1:=e1'
  exact(b2 m' e1 e2).imp id fun hq=>hm _ _ (fun k hk=>⟨hk.1,hk.2.1,hh p k hk.2.2⟩) hq
 ·obtain⟨w',e,rfl⟩:=uu e1
  obtain⟨b1,b2⟩:=h.SY p w' m e e2 e3.1;have hmn:m≠n:=e3.2.resolve_left e2;refine⟨by simp[St.Vz,hmn,b1],fun ht=>⟨by simpa[St.Vz,hmn]using(b2 ht).1,fun m1 f1=> ?_⟩⟩;obtain⟨m',f1',rfl⟩:=YM f1
  replace f1:=f1'
  exact(b2 ht).2 m' f1
 ·obtain⟨m',e1',rfl⟩:=YM e1
  replace e1:=e1'
  have:=h.ew m' k e1 e2;simp only[St.Vz];by_cases e:k=n
  ·exact .inl (.inr e)
  ·simpa[e]using this
 ·obtain⟨m',e',rfl⟩:=YM e
  replace e:=e'
  exact hN _ (h.ZX m' p e a b c d f)
 ·obtain⟨m',e',rfl⟩:=YM e
  replace e:=e'
  obtain⟨b1,b2,b3,b4⟩:=h.wrote m' p k e e2.1;refine⟨b1,by simp[St.Vz,e2.2,b2],b3,fun ht=> ?_⟩;simp only[St.Vz,e2.2,AOR];exact b4 ht
 ·obtain⟨m',e',rfl⟩:=YM e
  replace e:=e'
  exact h.dU m' p x e
 ·obtain⟨c1,c2,c3,c4⟩:=h.closed p a b c d
  refine⟨c1,c2,fun x hx=>c3 x (hi x hx),hm _ _ (fun m hq=>⟨hq.1,?_⟩) c4⟩;simp only[St.Vz];by_cases e:m=n
  ·exact .inl (.inr e)
  ·simpa[e]using hq.2
def St.fill(s:St)(n:Int)(k':Int→Option N6)(v:Int):St:=
 { s with kept:=fun m=>if m=n then k' else s.kept m,late:=fun m x=>m≠n∧s.late m x,sl:=fun m=>if m=n then v else s.sl m,lost:=fun m=>s.lost m∧m≠n }
structure uz (s:St) (n:Int) (k':Int→Option N6) (v:Int):Prop where
 lost:s.lost n
 v1:s.len-1≤v
 of_:∀p y,k' p=some y→ ∃m,¬s.lost m∧s.kept m p=some y
 AJh:∀m p x,¬s.lost m→s.kept m p=some x→ ∃y,k' p=some y∧x.PI≤y.PI
theorem tF{n:Int}{k':Int→Option N6}{v:Int}(k:uz s n k' v){x:N6}(h:EH (s.fill n k' v) x):EH s x:=by
 rcases h with⟨m,h⟩|⟨m,h⟩|h
 ·simp only[St.fill]at h
  split at h
  ·obtain⟨m,_,h⟩:=k.of_ _ _ h
   exact .inl ⟨m,h⟩
  ·exact .inl ⟨m,h⟩
 ·exact .inr (.inl ⟨m,h.2⟩)
 ·exact .inr (.inr h)
theorem ANt{n:Int}{k':Int→Option N6}{v:Int}(k:uz s n k' v)(h:GX H ep Pl s):GX H ep Pl (s.fill n k' v):=by
 have hi:∀x,EH (s.fill n k' v) x→EH s x:=fun x=>tF k
 refine⟨h.nD,h.ZI,h.p9,h.ZC,h.md1,h.wr1,h.wg,h.dS,fun m p x e=> ?_,h.ja,fun x e=>h.gi x (hi x e),fun x e=>h.hO x (hi x e),fun x e=>h.qD x (hi x e),fun x y e e1=>h.rA x y (hi x e) (hi y e1)⟩;simp only[St.fill]at e;split at e
 ·obtain⟨m,_,e⟩:=k.of_ _ _ e
  exact h.T_ m p x e
 ·exact h.T_ m p x e
include hm in
theorem ANW{n:Int}{k':Int→Option N6}{v:Int}(k:uz s n k' v)(hA:GX H ep Pl s)(h:HQ H ep off Pl s fin):HQ H ep off Pl (s.fill n k' v) fin:=by
 have hi:∀x,EH (s.fill n k' v) x→EH s x:=fun x=>tF k
 have some_:∀S:Int→Prop,H S→ ∃m,S m∧ ¬s.lost m:=fun S hS=>AXH fun hn=>h.X2 (hm _ _ (fun m qX=>AXH fun hl=>hn ⟨m,qX,hl⟩) hS)
 have hN:∀q,Lr H ep s q→Lr H ep (s.fill n k' v) q:=fun q hn=>by
  refine hn.of (fun h=>h) (ATD _) (fun h=>h) (fun hw m tP hd=>⟨tP,hd.imp (fun hd=> ?_) id⟩) hm;simp only[St.fill]at hd;by_cases e:m=n
  ·have:=hn.2.1
   have:=k.v1;simp only[e,ne_eq,not_true,and_false,AS_,false_or]at hd;omega
  ·simpa[e]using hd
 have hh:∀p,eX s p→s.trim<p→ ∀m,Have s p m→Have (s.fill n k' v) p m:=fun p hs ht m hv=>by
  simp only[Have,St.fill]at*;by_cases e:m=n
  ·obtain⟨j,hj,qu⟩:=some_ _ (h.sure p hs ht).1
   obtain⟨x,hx⟩:=hj.2.resolve_right qu;obtain⟨y,hy,_⟩:=k.AJh j p x qu hx;exact .inl ⟨y,by simp[e,hy]⟩
  ·simpa[e]using hv
 refine⟨fun hl=>h.X2 (hm _ _ (fun m hq=>hq.1) hl),fun p hs ht=> ?_,fun p w m e1 e2 e3=> ?_,fun m j e1 e2=> ?_,fun x a b c=>hN _ (h.UH x (hi x a) b c),fun m p a b c d e f=>hN _ (h.ZX m p a b c d e f),fun p a b c d=>hN _ (h.past p a b c d),fun m p j e e2=> ?_,h.dU,fun p a b c d=> ?_⟩
 ·obtain⟨b1,b2⟩:=h.sure p hs ht
  exact⟨hm _ _ (fun m hq=>⟨hq.1,hh p hs ht m hq.2⟩) b1,fun m e1 e2=>(b2 m e1 e2).imp id fun hq=>hm _ _ (fun j hj=>⟨hj.1,hj.2.1,hh p hs ht j hj.2.2⟩) hq⟩
 ·obtain⟨b1,b2⟩:=h.SY p w m e1 e2 e3
  have hmn:m≠n:=fun e=>b1 (e▸k.lost)
  exact⟨fun hq=>b1 hq.1,fun ht=>⟨by simpa[St.fill,hmn]using(b2 ht).1,(b2 ht).2⟩⟩
 ·have:=h.ew m j e1 e2
  simp only[St.fill];by_cases e:j=n
  ·simpa[e]using k.v1
  ·simpa[e]using this
 ·obtain⟨b1,b2,b3,b4⟩:=h.wrote m p j e e2
  have hmn:j≠n:=fun e=>b2 (e▸k.lost)
  exact⟨b1,fun hq=>b2 hq.1,b3,fun ht=>by simpa[St.fill,hmn]using b4 ht⟩
 ·obtain⟨c1,c2,c3,c4⟩:=h.closed p a b c d
  refine⟨c1,c2,fun x hx=>c3 x (hi x hx),hm _ _ (fun m hq=>⟨hq.1,?_⟩) c4⟩;simp only[St.fill];by_cases e:m=n
  ·obtain⟨j,hj,qu⟩:=some_ _ c4
   have hx:=hj.2.resolve_left qu;obtain⟨y,hy,hyw⟩:=k.AJh j p _ qu hx;obtain⟨m2,_,hk2⟩:=k.of_ p y hy;have AU8:=hA.T_ m2 p y hk2;have h3:=c3 y (.inl ⟨m2,by rw[AU8];exact hk2⟩) AU8;have:y=fin p:=h3.2 (by omega);exact .inr (by simp[e,hy,this])
  ·simpa[e]using hq.2
end
end Go.Sf
end
section
namespace Go.Sf
section
variable{H:(Int→Prop)→Prop} (hm:∀S T:Int→Prop,(∀n,S n→T n)→H S→H T) {ep off:Int→Int} {Pl:Int→Prop} {s:St} {fin:Int→N6}
def St.kK(s:St)(e:Int):St:={ s with md:=some ⟨e,fun _=>False,fun _=>none,False,0,fun _ _=>False⟩ }
theorem qh{e:Int}{x:N6}(h:EH (s.kK e) x):EH s x:=by
 rcases h with h|h|⟨m,h1,h2⟩
 ·exact .inl h
 ·exact .inr (.inl h)
 ·cases h1;cases h2
theorem ALe{e:Int}(SX:s.md=none)(h1:1≤e)(h2:e<s.len)(h3: ¬s.cl e)(h4:∀f,1≤f→f<e→s.cl f)(h:GX H ep Pl s):GX H ep Pl (s.kK e):=by
 have hi:∀x,EH (s.kK e) x→EH s x:=fun x=>qh
 refine⟨h.nD,h.ZI,h.p9,h.ZC,fun m' a=> ?_,h.wr1,h.wg,h.dS,h.T_,fun m' p x a b=> ?_,fun x e=>h.gi x (hi x e),fun x e=>h.hO x (hi x e),fun x e e1 e2=> ?_,fun x y e e1=>h.rA x y (hi x e) (hi y e1)⟩
 ·cases a;exact⟨h1,h2,h3,h4⟩
 ·cases a;cases b
 ·obtain⟨m,c,_⟩:=h.qD x (hi x e) e1 e2
  simp_all
include hm in
theorem AK5{e:Int}(SX:s.md=none)(h:HQ H ep off Pl s fin):HQ H ep off Pl (s.kK e) fin:=by
 have hi:∀x,EH (s.kK e) x→EH s x:=fun x=>qh
 refine⟨h.X2,fun p hs ht=>⟨(h.sure p hs ht).1,fun m a b=> .inr ?_⟩,fun p w n a b c=>⟨(h.SY p w n a b c).1,fun d=>⟨((h.SY p w n a b c).2 d).1,fun m f g k=> ?_⟩⟩,fun m n a b=> ?_,fun x a=>h.UH x (hi x a),fun m p a b=> ?_,h.past,fun m p n a b=> ?_,fun m p x a b=> ?_,fun p a b c d=> ?_⟩
 ·cases a
  exact hm _ _ (fun n hn=>⟨hn.1,fun h=>h,hn.2⟩) (h.sure p hs ht).1
 ·cases f;exact k.elim
 ·cases a;exact b.elim
 ·cases a;exact b.elim
 ·cases a;exact b.elim
 ·cases a;exact b.elim
 ·obtain⟨c1,c2,c3,c4⟩:=h.closed p a b c d
  exact⟨c1,c2,fun x hx=>c3 x (hi x hx),c4⟩
def St.jc(s:St)(m:Md)(n:Int)(Ra:Int→Option N6)(v:Int):St:=
 { s with sl:=fun k=>if k=n then v else s.sl k,md:=some { m with ew:=fun k=>m.ew k∨k=n,seen:=Ra } }
structure tg (ep:Int→Int) (s:St) (m:Md) (n:Int) (Ra:Int→Option N6) (v:Int):Prop where
 md:s.md=some m
 there: ¬s.lost n
 pl: ¬m.pl
 v0:s.sl n≤v
 v1:s.len-1≤v
 s1:∀p x,m.seen p=some x→ ∃y,Ra p=some y
 s2:∀p y,Ra p=some y→m.seen p=some y∨s.kept n p=some y
 s3:∀p x,s.kept n p=some x→ep p=m.ep→ ∃y,Ra p=some y
 s4:∀p y,Ra p=some y→y.at_=p∧ep p=m.ep∧y.PI<s.len
theorem oG{m:Md}{n v:Int}{Ra:Int→Option N6}(k:tg ep s m n Ra v){x:N6}(h:EH (s.jc m n Ra v) x):EH s x:=by
 rcases h with h|h|⟨m',h1,h2⟩
 ·exact .inl h
 ·exact .inr (.inl h)
 ·cases h1
  rcases k.s2 _ _ h2 with h|h
  ·exact .inr (.inr ⟨m,k.md,h⟩)
  ·exact .inl ⟨n,h⟩
theorem AJ8{m:Md}{n v:Int}{Ra:Int→Option N6}(k:tg ep s m n Ra v)(h:GX H ep Pl s):GX H ep Pl (s.jc m n Ra v):=by
 have hi:∀x,EH (s.jc m n Ra v) x→EH s x:=fun x=>oG k
 refine⟨h.nD,h.ZI,h.p9,h.ZC,fun m' a=> ?_,h.wr1,h.wg,h.dS,h.T_,fun m' p x a b=> ?_,fun x e=>h.gi x (hi x e),fun x e=>h.hO x (hi x e),fun x e e1 e2=> ?_,fun x y e e1=>h.rA x y (hi x e) (hi y e1)⟩
 ·cases a;exact h.md1 m k.md
 ·cases a;exact k.s4 p x b
 ·obtain⟨m',c1,c2,_⟩:=h.qD x (hi x e) e1 e2
  rw[k.md]at c1;cases c1;exact absurd c2 k.pl
include hm in
theorem AIW{m:Md}{n v:Int}{Ra:Int→Option N6}(k:tg ep s m n Ra v)(hA:GX H ep Pl s)(h:HQ H ep off Pl s fin):HQ H ep off Pl (s.jc m n Ra v) fin:=by
 have hi:∀x,EH (s.jc m n Ra v) x→EH s x:=fun x=>oG k
 have hN:∀q,Lr H ep s q→Lr H ep (s.jc m n Ra v) q:=fun q hn=>by
  refine hn.of (fun h=>h) (ATD _) (fun h=>h) (fun hw j hnj hd=>⟨hnj,hd.imp (fun hd=> ?_) id⟩) hm;simp only[St.jc]at hd;by_cases e:j=n
  ·subst e
   have:=k.v0;simp only[AS_]at hd;intro hc;exact hd (hc.imp id fun hc=>by omega)
  ·simpa[e]using hd
 refine⟨h.X2,fun p hs ht=>⟨(h.sure p hs ht).1,fun m' a b=> ?_⟩,fun p w j a b c=>⟨(h.SY p w j a b c).1,fun d=>⟨((h.SY p w j a b c).2 d).1,fun m' f g hk=> ?_⟩⟩,fun m' j a b=> ?_,fun x a b c=>hN _ (h.UH x (hi x a) b c),fun m' p a b=> ?_,fun p a b c d=>hN _ (h.past p a b c d),fun m' p j a b=> ?_,fun m' p x a b=> ?_,fun p a b c d=> ?_⟩
 ·cases a
  by_cases xi:∃x,Ra p=some x
  ·exact .inl xi
  ·refine .inr ?_
   have:=((h.sure p hs ht).2 m k.md b).resolve_left fun⟨x,hx⟩=>xi (k.s1 p x hx)
   refine hm _ _ (fun j hj=>⟨hj.1,fun hq=> ?_,hj.2.2⟩) this;rcases hq with hq|rfl
   ·exact hj.2.1 hq
   ·rcases hj.2.2 with⟨x,hx⟩|hl
    ·exact xi (k.s3 p x hx b.symm)
    ·exact k.there hl
 ·cases f
  rcases hk with hk|rfl
  ·obtain⟨x,hx⟩:=((h.SY p w j a b c).2 d).2 m k.md g hk
   exact k.s1 p x hx
  ·obtain⟨x,hx⟩:=((h.SY p w j a b c).2 d).1
   exact k.s3 p x hx g.symm
 ·cases a
  simp only[St.jc];by_cases e:j=n
  ·simp[e,k.v1]
  ·have:=h.ew m j k.md (b.resolve_right e)
   simpa[e]using this
 ·cases a;exact absurd b k.pl
 ·cases a
  exact absurd (h.wrote m p j k.md b).2.2.1 k.pl
 ·cases a;exact absurd b k.pl
 ·obtain⟨c1,c2,c3,c4⟩:=h.closed p a b c d
  exact⟨c1,c2,fun x hx=>c3 x (hi x hx),c4⟩
def St.ZX(s:St)(m:Md)(L:Int):St:={ s with md:=some { m with pl:=True,n:=L } }
structure uv (H:(Int→Prop)→Prop) (off:Int→Int) (s:St) (m:Md) (L:Int):Prop where
 md:s.md=some m
 pl: ¬m.pl
 JT: ¬H (fun k=>s.nodes m.ep k∧ ¬m.ew k)
 last:∀p x,m.seen p=some x→off p≤L
theorem sw{m:Md}{L:Int}(k:uv H off s m L){x:N6}(h:EH (s.ZX m L) x):EH s x:=by
 rcases h with h|h|⟨m',h1,h2⟩
 ·exact .inl h
 ·exact .inr (.inl h)
 ·cases h1;exact .inr (.inr ⟨m,k.md,h2⟩)
theorem ASZ{m:Md}{L:Int}(k:uv H off s m L)(h:GX H ep Pl s):GX H ep Pl (s.ZX m L):=by
 have hi:∀x,EH (s.ZX m L) x→EH s x:=fun x=>sw k
 refine⟨h.nD,h.ZI,h.p9,h.ZC,fun m' a=> ?_,h.wr1,h.wg,h.dS,h.T_,fun m' p x a b=> ?_,fun x e=>h.gi x (hi x e),fun x e=>h.hO x (hi x e),fun x e e1 e2=> ?_,fun x y e e1=>h.rA x y (hi x e) (hi y e1)⟩
 ·cases a;exact h.md1 m k.md
 ·cases a;exact h.ja m p x k.md b
 ·obtain⟨m',c1,c2,_⟩:=h.qD x (hi x e) e1 e2
  rw[k.md]at c1;cases c1;exact absurd c2 k.pl
include hm in
theorem APn{m:Md}{L:Int}(k:uv H off s m L)(hA:GX H ep Pl s)(h:HQ H ep off Pl s fin):HQ H ep off Pl (s.ZX m L) fin:=by
 have hi:∀x,EH (s.ZX m L) x→EH s x:=fun x=>sw k
 have hN:∀q,Lr H ep s q→Lr H ep (s.ZX m L) q:=fun q hn=>hn
 refine⟨h.X2,fun p hs ht=>⟨(h.sure p hs ht).1,fun m' a b=> ?_⟩,fun p w j a b c=>⟨(h.SY p w j a b c).1,fun d=>⟨((h.SY p w j a b c).2 d).1,fun m' f g hk=> ?_⟩⟩,fun m' j a b=> ?_,fun x a b c=>hN _ (h.UH x (hi x a) b c),fun m' p a b hp he ht hn=> ?_,fun p a b c d=>hN _ (h.past p a b c d),fun m' p j a b=> ?_,fun m' p x a b=> ?_,fun p a b c d=> ?_⟩
 ·cases a;exact(h.sure p hs ht).2 m k.md b
 ·cases f;exact((h.SY p w j a b c).2 d).2 m k.md g hk
 ·cases a;exact h.ew m j k.md b
 ·cases a
  have SX:=hA.md1 m k.md;simp only at he hn;have ns: ¬eX s p:=fun hs=>by
   rcases(h.sure p hs ht).2 m k.md he.symm with⟨x,hx⟩|hh
   ·rw[hn]at hx;cases hx
   ·exact k.JT (hm _ _ (fun j hj=>⟨by rw[←he];exact hj.1,hj.2.1⟩) hh)
  refine⟨ns,by rw[he];exact SX.2.1,fun hw hH=>k.JT (hm _ _ (fun j hj=>⟨by rw[←he];exact hj.1,fun hsl=> ?_⟩) hH)⟩;rcases hj.2 with hd|⟨w,h1,h2⟩
  ·refine hd ((h.ew m j k.md hsl).imp id fun h' => ?_)
   simp only[St.ZX]at*;omega
  ·have hw1:=hA.wg p w h1
   have qw: ¬w.done:=fun hd=>by
    obtain⟨q,hq,hq2⟩:=hw1.2.2.1;exact ns ⟨_,q,hq,hq2 hd⟩
   obtain⟨x,hx⟩:=((h.SY p w j h1 qw h2).2 ht).2 m k.md he.symm hsl;rw[hn]at hx;cases hx
 ·cases a
  exact absurd (h.wrote m p j k.md b).2.2.1 k.pl
 ·cases a;exact fun hx=>k.last p x hx
 ·obtain⟨c1,c2,c3,c4⟩:=h.closed p a b c d
  exact⟨c1,c2,fun x hx=>c3 x (hi x hx),c4⟩
def St.close(s:St)(m:Md):St:={ s with cl:=fun e=>s.cl e∨e=m.ep,last:=fun e=>if e=m.ep then m.n else s.last e,md:=none }
structure nY (H:(Int→Prop)→Prop) (ep off:Int→Int) (Pl:Int→Prop) (s:St) (m:Md):Prop where
 md:s.md=some m
 pl:m.pl
 wrote:∀p,Pl p→ep p=m.ep→off p≤m.n→H (m.wrote p)
theorem o8{m:Md}{x:N6}(h:EH (s.close m) x):EH s x:=by
 rcases h with h|h|⟨m',h1,h2⟩
 ·exact .inl h
 ·exact .inr (.inl h)
 ·cases h1
theorem AKA{m:Md}(k:nY H ep off Pl s m)(h:GX H ep Pl s):GX H ep Pl (s.close m):=by
 have hi:∀x,EH (s.close m) x→EH s x:=fun x=>o8
 have SX:=h.md1 m k.md;refine⟨h.nD,h.ZI,fun e a=> ?_,fun e f a b c=> ?_,fun m a=> ?_,h.wr1,h.wg,h.dS,h.T_,fun m p x a b=> ?_,fun x e=>h.gi x (hi x e),fun x e=>h.hO x (hi x e),fun x e e1 e2=> ?_,fun x y e e1=>h.rA x y (hi x e) (hi y e1)⟩
 ·rcases a with a|rfl
  ·exact h.p9 e a
  ·exact⟨SX.1,SX.2.1⟩
 ·rcases a with a|rfl
  ·exact .inl (h.ZC e f a b c)
  ·exact .inl (SX.2.2.2 f b c)
 ·cases a
 ·cases a
 ·have e2': ¬s.cl (ep x.at_):=fun c=>e2 (.inl c)
  obtain⟨m',c1,c2,c3,c4⟩:=h.qD x (hi x e) e1 e2';rw[k.md]at c1;cases c1;exact absurd (.inr c3.symm) e2
theorem ALw{m:Md}(k:nY H ep off Pl s m)(hA:GX H ep Pl s)(h:HQ H ep off Pl s fin)(hm:∀S T:Int→Prop,(∀n,S n→T n)→H S→H T)(hr:∀p,Pl p→ep p=m.ep→s.trim<p→eX s p→True):
  HQ H ep off Pl (s.close m) (fun p=>open Classical in if ep p=m.ep then U4 s.len m p else fin p):=by
 have hi:∀x,EH (s.close m) x→EH s x:=fun x=>o8
 have SX:=hA.md1 m k.md;have hN:∀q,Lr H ep s q→Lr H ep (s.close m) q:=fun q hn=>hn
 refine⟨h.X2,fun p hs ht=>⟨(h.sure p hs ht).1,fun m' a=>by cases a⟩,fun p w j a b c=>⟨(h.SY p w j a b c).1,fun d=>⟨((h.SY p w j a b c).2 d).1,fun m' f=>by cases f⟩⟩,fun m' j a=>(by cases a),fun x a b c=>hN _ (h.UH x (hi x a) b c),fun m' p a=>(by cases a),fun p a b c d=>hN _ ?_,fun m' p j a=>(by cases a),fun m' p x a=>(by cases a),fun p a b c d=> ?_⟩
 ·simp only[St.close]at c
  by_cases e:ep p=m.ep
  ·refine h.ZX m p k.md k.pl a e d ?_
   cases hseen:m.seen p with
   |none=>rfl
   |some x=>
    have:=h.dU m p x k.md k.pl hseen;omega
  ·rw[AMD e]at c
   exact h.past p a (b.resolve_right e) c d
 ·simp only[St.close]at c
  by_cases e:ep p=m.ep
  ·rw[ALy e]at c⊢
   have OY:(U4 s.len m p).at_=p:=by grind[U4]
   have hwv:(U4 s.len m p).PI=s.len:=by grind[U4]
   refine⟨OY,by omega,fun x hx hxp=>⟨by rw[hwv];exact(hA.gi x (hi x hx)).2.2.1,fun hw=> ?_⟩,hm _ _ (fun j hj=> ?_) (k.wrote p a e c)⟩
   ·rw[hwv]at hw
    obtain⟨m',c1,c2,c3,c4⟩:=hA.qD x (hi x hx) hw (by simp_all);rw[k.md]at c1;grind
   ·obtain⟨d1,d2,d3,d4⟩:=h.wrote m p j k.md hj
    exact⟨by rw[e];exact d1,.inr (d4 d)⟩
  ·rw[AMD e]at c⊢
   obtain⟨c1,c2,c3,c4⟩:=h.closed p a (b.resolve_right e) c d;exact⟨c1,c2,fun x hx=>c3 x (hi x hx),c4⟩
theorem AQ9{t:Int}(h:GX H ep Pl s):GX H ep Pl { s with trim:=t }:=
 ⟨h.nD,h.ZI,h.p9,h.ZC,h.md1,h.wr1,h.wg,h.dS,h.T_,h.ja,h.gi,h.hO,h.qD,h.rA⟩
theorem ASA{t:Int}(ht:s.trim≤t)(h:HQ H ep off Pl s fin):HQ H ep off Pl { s with trim:=t } fin:=
 have l:∀{p:Int},t<p→s.trim<p:=fun h=>Int.lt_of_le_of_lt ht h
 ⟨h.X2,fun p a b=>h.sure p a (l b),fun p w n a b c=>⟨(h.SY p w n a b c).1,fun d=>(h.SY p w n a b c).2 (l d)⟩,h.ew,fun x a b c=>h.UH x a b (l c),fun m p a b c d e f=>h.ZX m p a b c d (l e) f,
  fun p a b c d=>h.past p a b c (l d),fun m p n a b=>⟨(h.wrote m p n a b).1,(h.wrote m p n a b).2.1,(h.wrote m p n a b).2.2.1,fun d=>(h.wrote m p n a b).2.2.2 (l d)⟩,h.dU,fun p a b c d=>h.closed p a b c (l d)⟩
def St.drop(s:St)(aI:Int→Prop)(wd':Int→Option Wd):St:={ s with vW:=aI,wd:=wd' }
structure yC (ep:Int→Int) (s:St) (aI:Int→Prop) (wd':Int→Option Wd):Prop where
 wr:∀e,aI e→s.vW e
 wd:∀p w,wd' p=some w→s.wd p=some w∧aI (ep p)
theorem AP3{aI:Int→Prop}{wd':Int→Option Wd}(k:yC ep s aI wd')(h:GX H ep Pl s):GX H ep Pl (s.drop aI wd'):=by
 refine⟨h.nD,h.ZI,h.p9,h.ZC,h.md1,fun e a=>h.wr1 e (k.wr e a),fun p w a=> ?_,h.dS,h.T_,h.ja,h.gi,h.hO,h.qD,h.rA⟩;obtain⟨b1,b2⟩:=k.wd p w a;obtain⟨c1,c2,c3⟩:=h.wg p w b1;exact⟨c1,b2,c3⟩
include hm in
theorem ASv{aI:Int→Prop}{wd':Int→Option Wd}(k:yC ep s aI wd')(h:HQ H ep off Pl s fin):HQ H ep off Pl (s.drop aI wd') fin:=by
 have hN:∀q,Lr H ep s q→Lr H ep (s.drop aI wd') q:=fun q hn=>
  hn.of (fun h=>h) (ATD _) (fun h=>k.wr _ h) (fun hw m tP hd=>⟨tP,hd.imp id fun⟨w,h1,h2⟩=>⟨w,(k.wd _ w h1).1,h2⟩⟩) hm
 exact⟨h.X2,h.sure,fun p w n a=>h.SY p w n (k.wd p w a).1,h.ew,fun x a b c=>hN _ (h.UH x a b c),fun m p a b c d e f=>hN _ (h.ZX m p a b c d e f),fun p a b c d=>hN _ (h.past p a b c d),h.wrote,h.dU,h.closed⟩
def St.prune(s:St)(n:Int)(k':Int→Option N6):St:={ s with kept:=fun m=>if m=n then k' else s.kept m }
structure ng (s:St) (n:Int) (k':Int→Option N6):Prop where
 of_:∀p x,k' p=some x→s.kept n p=some x
 AJh:∀p,s.trim<p→k' p=s.kept n p
theorem qA{n:Int}{k':Int→Option N6}(k:ng s n k'){x:N6}(h:EH (s.prune n k') x):EH s x:=by
 rcases h with⟨m,h⟩|h|h
 ·simp only[St.prune]at h
  split at h
  ·exact .inl ⟨n,k.of_ _ _ h⟩
  ·exact .inl ⟨m,h⟩
 ·exact .inr (.inl h)
 ·exact .inr (.inr h)
theorem AKY{n:Int}{k':Int→Option N6}(k:ng s n k')(h:GX H ep Pl s):GX H ep Pl (s.prune n k'):=by
 have hi:∀x,EH (s.prune n k') x→EH s x:=fun x=>qA k
 refine⟨h.nD,h.ZI,h.p9,h.ZC,h.md1,h.wr1,h.wg,h.dS,fun m p x e=> ?_,h.ja,fun x e=>h.gi x (hi x e),fun x e=>h.hO x (hi x e),fun x e=>h.qD x (hi x e),fun x y e e1=>h.rA x y (hi x e) (hi y e1)⟩;simp only[St.prune]at e;split at e
 ·exact h.T_ n p x (k.of_ _ _ e)
 ·exact h.T_ m p x e
theorem AJL{n:Int}{k':Int→Option N6}(k:ng s n k')(h:HQ H ep off Pl s fin):HQ H ep off Pl (s.prune n k') fin:=by
 have hi:∀x,EH (s.prune n k') x→EH s x:=fun x=>qA k
 have hk:∀p,s.trim<p→ ∀m,(s.prune n k').kept m p=s.kept m p:=fun p ht m=>by
  simp only[St.prune];split
  ·rename_i e;rw[k.AJh p ht,e]
  ·rfl
 have hh:∀p,s.trim<p→Have (s.prune n k') p=Have s p:=fun p ht=>by
  funext m
  simp only[Have];rw[hk p ht m];rfl
 refine⟨h.X2,fun p a b=> ?_,fun p w m a b c=>⟨(h.SY p w m a b c).1,fun d=> ?_⟩,h.ew,fun x a=>h.UH x (hi x a),h.ZX,h.past,fun m p j a b=>⟨(h.wrote m p j a b).1,(h.wrote m p j a b).2.1,(h.wrote m p j a b).2.2.1,fun d=> ?_⟩,h.dU,fun p a b c d=> ?_⟩
 ·rw[hh p b];exact h.sure p a b
 ·rw[hk p d];exact(h.SY p w m a b c).2 d
 ·rw[hk p d];exact(h.wrote m p j a b).2.2.2 d
 ·obtain⟨c1,c2,c3,c4⟩:=h.closed p a b c d
  refine⟨c1,c2,fun x hx=>c3 x (hi x hx),?_⟩;simp only[hk p d];exact c4
def St.open_(s:St)(ns:Int→Prop):St:={ s with len:=s.len+1,nodes:=fun e=>if e=s.len+1 then ns else s.nodes e,vW:=fun e=>s.vW e∨e=s.len+1,md:=none }
theorem sg{ns:Int→Prop}{x:N6}(h:EH (s.open_ ns) x):EH s x:=by
 rcases h with h|h|⟨m,h1,h2⟩
 ·exact .inl h
 ·exact .inr (.inl h)
 ·cases h1
theorem AR9{ns:Int→Prop}(hns:H ns)(h:GX H ep Pl s):GX H ep Pl (s.open_ ns):=by
 have hi:∀x,EH (s.open_ ns) x→EH s x:=fun x=>sg
 have h0:=h.nD;refine⟨by grind[St.open_],fun e a b=> ?_,fun e a=> ?_,h.ZC,fun m a=>(by cases a),fun e a=> ?_,fun p w a=> ?_,fun p d a=> ?_,h.T_,fun m p x a=>(by cases a),fun x a=> ?_,fun x e=>h.hO x (hi x e),fun x e e1 e2=> ?_,fun x y e e1=>h.rA x y (hi x e) (hi y e1)⟩
 ·simp only[St.open_]at*
  split
  ·omega
  ·exact h.ZI e a (by omega)
 ·have:=h.p9 e a
  grind[St.open_]
 ·simp only[St.open_]at*
  rcases a with a|rfl
  ·have:=h.wr1 e a
   omega
  omega
 ·obtain⟨b1,b2,b3,b4,b5⟩:=h.wg p w a
  refine⟨b1,.inl b2,b3,b4,fun n hn=> ?_⟩;have:=h.wr1 _ b2;simp only[St.open_];grind
 ·have:=h.dS p d a
  grind[St.open_]
 ·obtain⟨b1,b2,b3,b4,b5⟩:=h.gi x (hi x a)
  grind[St.open_]
 ·have:=(h.gi x (hi x e)).2.2.1
  grind[St.open_]
theorem APA{ns:Int→Prop}(hA:GX H ep Pl s)(h:HQ H ep off Pl s fin)(hm:∀S T:Int→Prop,(∀n,S n→T n)→H S→H T):HQ H ep off Pl (s.open_ ns) fin:=by
 have hi:∀x,EH (s.open_ ns) x→EH s x:=fun x=>sg
 have qw:∀e,e≤s.len→(s.open_ ns).nodes e=s.nodes e:=fun e he=>by simp only[St.open_];grind
 have hN:∀q,Lr H ep s q→Lr H ep (s.open_ ns) q:=fun q hn=>by
  have h1:=hn.2.1;refine hn.of (fun h=>h) (by grind[St.open_]) (fun h=>h.resolve_right (by omega)) (fun hw m tP hd=>⟨?_,hd⟩) hm;grind
 refine⟨h.X2,fun p hs ht=>⟨?_,fun m' a=>by cases a⟩,fun p w j a b c=>⟨(h.SY p w j a b c).1,fun d=>⟨((h.SY p w j a b c).2 d).1,fun m' f=>by cases f⟩⟩,fun m' j a=>(by cases a),fun x a b c=>hN _ (h.UH x (hi x a) b c),fun m' p a=>(by cases a),fun p a b c d=>hN _ (h.past p a b c d),fun m' p j a=>(by cases a),fun m' p x a=>(by cases a),fun p a b c d=> ?_⟩
 ·obtain⟨d,q,h1,h2⟩:=id hs
  rw[qw _ (hA.dS p _ h1).2];exact(h.sure p hs ht).1
 ·obtain⟨c1,c2,c3,c4⟩:=h.closed p a b c d
  refine⟨c1,c2,fun x hx=>c3 x (hi x hx),?_⟩;have:=hA.p9 _ b;rw[qw _ (by omega)];exact c4
end
end Go.Sf
end
section
namespace Go.Sf
structure Rd where
 e:Int
 o:Int
 told:Int→Option r8
section
variable{H:(Int→Prop)→Prop} (hm:∀S T:Int→Prop,(∀n,S n→T n)→H S→H T) {ep off:Int→Int} {Pl:Int→Prop} {s:St} {fin:Int→N6}
def Nk(ep off:Int→Int)(r:Rd)(p:Int):Prop:=ep p<r.e∨(ep p=r.e∧off p<r.o)
structure U7 (ep off:Int→Int) (Pl:Int→Prop) (s:St) (fin:Int→N6) (r:Rd):Prop where
 e1:1≤r.e
 left:∀p,Pl p→ep p<r.e→s.trim<p→s.cl (ep p)
 data:∀p,Pl p→Nk ep off r p→s.trim<p→
  (s.cl (ep p)→off p≤s.last (ep p)→r.told p=if(fin p).hole then none else some (fin p).data)∧
  (s.cl (ep p)→s.last (ep p)<off p→r.told p=none)∧
  (¬s.cl (ep p)→ ∃d q,s.HO p=some (d,q)∧q∧r.told p=some d)
 told:∀p d,r.told p=some d→Nk ep off r p
theorem U7.of{s':St}{r:Rd}(h:U7 ep off Pl s fin r)(h1:s'.cl=s.cl)(h2:s'.last=s.last)(h3:s.trim≤s'.trim)
  (h4:∀p d q,s.HO p=some (d,q)→q→ ∃q',s'.HO p=some (d,q')∧q'):U7 ep off Pl s' fin r:=by
 refine⟨h.e1,fun p a b c=> ?_,fun p a b c=> ?_,h.told⟩
 ·rw[h1];exact h.left p a b (by omega)
 ·obtain⟨b1,b2,b3⟩:=h.data p a b (by omega)
  grind
theorem U7.close{m:Md}{r:Rd}(k:nY H ep off Pl s m)(hA:GX H ep Pl s)(hB:HQ H ep off Pl s fin)(h:U7 ep off Pl s fin r):
  U7 ep off Pl (s.close m) (fun p=>open Classical in if ep p=m.ep then U4 s.len m p else fin p) r:=by
 have SX:=hA.md1 m k.md;refine⟨h.e1,fun p a b c=> .inl (h.left p a b c),fun p a b c=> ?_,h.told⟩;obtain⟨b1,b2,b3⟩:=h.data p a b c;by_cases e:ep p=m.ep
 ·obtain⟨d,q,c1,c2,c3⟩:=b3 (by simp_all)
  have hs:eX s p:=⟨d,q,c1,c2⟩;cases hx:m.seen p with
  |none=>exact absurd hs (hB.ZX m p k.md k.pl a e c hx).1
  |some x=>
   have hxp:=(hA.ja m p x k.md hx).1;have hi:EH s x:= .inr (.inr ⟨m,k.md,by simp_all⟩);have hn:=hB.dU m p x k.md k.pl hx;have hh:x.hole=false:=by
    cases hh:x.hole with
    |false=>rfl
    |true=>exact absurd (by simp_all) (hB.UH x hi hh (by rw[hxp];exact c)).1
   obtain⟨q',hq'⟩:=hA.hO x hi hh;rw[hxp,c1]at hq';simp only[AMF,APv]at hq';refine⟨fun _ _=> ?_,fun _ hl=> ?_,fun hc=>absurd (.inr e) hc⟩
   ·simp only[ALy e,U4,hx,hh]
    simp_all
   ·simp only[St.close,ALy e]at hl
    omega
 ·refine⟨fun hc hl=> ?_,fun hc hl=> ?_,fun hc=>b3 fun Zb=>hc (.inl Zb)⟩
  ·simp only[St.close,AMD e]at hl⊢
   exact b1 (hc.resolve_right e) hl
  ·simp only[St.close,AMD e]at hl
   exact b2 (hc.resolve_right e) hl
structure yL (H:(Int→Prop)→Prop) (ep off:Int→Int) (Pl:Int→Prop) (s:St) (p:Int) (R:Int→Prop) (bD:Option N6):Prop where
 pl:Pl p
 trim:s.trim<p
 open_: ¬s.cl (ep p)→eX s p
 last:s.cl (ep p)→off p≤s.last (ep p)
 there:∀n,R n→ ¬s.lost n∧s.nodes (ep p) n
 JT: ¬H (fun n=>s.nodes (ep p) n∧ ¬R n)
 none_:bD=none→ ∀n,R n→s.kept n p=none
 some_:∀x,bD=some x→(∃n,R n∧s.kept n p=some x)∧ ∀n y,R n→s.kept n p=some y→y.PI≤x.PI
include hm in
theorem qI{p:Int}{R:Int→Prop}{bD:Option N6}(k:yL H ep off Pl s p R bD)(hA:GX H ep Pl s)(hB:HQ H ep off Pl s fin):
  ∃x,bD=some x∧(s.cl (ep p)→x=fin p)∧(¬s.cl (ep p)→x.hole=false∧ ∃q,s.HO p=some (x.data,q)∧q):=by
 have meet:∀S:Int→Prop,H (fun n=>s.nodes (ep p) n∧S n)→ ∃n,R n∧S n:=fun S hS=>AXH fun hn=>
  k.JT (hm _ _ (fun n hq=>⟨hq.1,fun hr=>hn ⟨n,hr,hq.2⟩⟩) hS)
 have AMG:∀n x,s.kept n p=some x→EH s x∧x.at_=p:=fun n x hx=>by
  have:=hA.T_ n p x hx;exact⟨.inl ⟨n,by rw[this];exact hx⟩,this⟩
 by_cases hc:s.cl (ep p)
 ·obtain⟨c1,c2,c3,c4⟩:=hB.closed p k.pl hc (k.last hc) k.trim
  obtain⟨n,hR,hn⟩:=meet _ c4;have hk:=hn.resolve_left (k.there n hR).1;cases hb:bD with
  |none=>rw[k.none_ hb n hR]at hk;cases hk
  |some x=>
   obtain⟨⟨j,hjR,hj⟩,hmax⟩:=k.some_ x hb;have hw:=hmax n _ hR hk;obtain⟨i1,i2⟩:=AMG j x hj;have:=c3 x i1 i2;exact⟨x,rfl,fun _=>this.2 (by omega),fun h=>absurd hc h⟩
 ·have hs:=k.open_ hc
  obtain⟨n,hR,hn⟩:=meet _ (hB.sure p hs k.trim).1;obtain⟨y,hk⟩:=hn.resolve_right (k.there n hR).1;cases hb:bD with
  |none=>rw[k.none_ hb n hR]at hk;cases hk
  |some x=>
   obtain⟨⟨j,hjR,hj⟩,hmax⟩:=k.some_ x hb;obtain⟨i1,i2⟩:=AMG j x hj;have hh:x.hole=false:=by
    cases hh:x.hole with
    |false=>rfl
    |true=>exact absurd (by rw[i2];exact hs) (hB.UH x i1 hh (by rw[i2];exact k.trim)).1
   obtain⟨q,hq⟩:=hA.hO x i1 hh;rw[i2]at hq;obtain⟨d,q',h1,h2⟩:=hs;rw[hq]at h1;simp only[AMF,APv]at h1;exact⟨x,rfl,fun h=>absurd h hc,fun _=>⟨hh,q,hq,by rw[h1.2];exact h2⟩⟩
def Rd.read(r:Rd)(p:Int)(x:N6):Rd:={ r with o:=r.o+1,told:=fun q=>if q=p then(if x.hole then none else some x.data)else r.told q }
include hm in
theorem ANa{p:Int}{R:Int→Prop}{bD:Option N6}(k:yL H ep off Pl s p R bD)(hA:GX H ep Pl s)(hB:HQ H ep off Pl s fin){r:Rd}(he:ep p=r.e)(ho:off p=r.o)
  (inj:∀p q,Pl p→Pl q→ep p=ep q→off p=off q→p=q) (h:U7 ep off Pl s fin r) {x:N6} (hx:bD=some x):U7 ep off Pl s fin (r.read p x):=by
 obtain⟨x',zo,f1,f2⟩:=qI hm k hA hB;rw[hx]at zo;cases zo;have np: ¬Nk ep off r p:=by unfold Nk;omega
 have tn:r.told p=none:=by
  cases ht:r.told p with
  |none=>rfl
  |some d=>exact absurd (h.told p d ht) np
 refine⟨h.e1,h.left,fun q a b c=> ?_,fun q d hd=> ?_⟩
 ·by_cases e:q=p
  ·subst e
   simp only[Rd.read,AS_];refine⟨fun hc hl=>by rw[f1 hc],fun hc hl=> ?_,fun hc=> ?_⟩
   ·have:=k.last hc;omega
   ·obtain⟨g1,q',g2,g3⟩:=f2 hc
    exact⟨x.data,q',g2,g3,by rw[g1];rfl⟩
  ·have hp:Nk ep off r q:=by
    rcases b with b|⟨b1,b2⟩
    ·exact .inl b
    ·refine .inr ⟨b1,?_⟩
     simp only[Rd.read]at b1 b2;rcases Int.lt_or_le (off q) r.o with b3|b3
     ·exact b3
     ·exact absurd (inj q p a k.pl (by omega) (by omega)) e
   simp only[Rd.read,AMD e];exact h.data q a hp c
 ·simp only[Rd.read]at hd
  split at hd
  ·rename_i e
   subst e;exact .inr ⟨he,by simp only[Rd.read];omega⟩
  ·rcases h.told q d hd with t|⟨t1,t2⟩
   ·exact .inl t
   ·exact .inr ⟨t1,by simp only[Rd.read];omega⟩
theorem AUO{r:Rd}(hc:s.cl r.e)(hl:s.last r.e<r.o)(qW:∀p,Pl p→1≤off p)(h:U7 ep off Pl s fin r):U7 ep off Pl s fin { r with e:=r.e+1,o:=1 }:=by
 have h1:=h.e1;refine⟨by grind,fun p a b c=> ?_,fun p a b c=> ?_,fun p d hd=> ?_⟩
 ·simp only at b
  rcases Int.lt_or_le (ep p) r.e with b1|b1
  ·exact h.left p a b1 c
  grind
 ·have o1:=qW p a
  by_cases hp:Nk ep off r p
  ·exact h.data p a hp c
  ·have hep:ep p=r.e∧r.o≤off p:=by
    grind[Nk]
   have tn:r.told p=none:=by
    cases ht:r.told p with
    |none=>rfl
    |some d=>exact absurd (h.told p d ht) hp
   grind
 ·rcases h.told p d hd with t|⟨t1,t2⟩
  ·exact .inl (by grind)
  ·exact .inl (by grind)
theorem AQ6{r:Rd}(ht:Pl s.trim)(hn: ¬Nk ep off r s.trim)(ep1:∀p,Pl p→1≤ep p)(lex:∀p q,Pl p→Pl q→(ep p<ep q∨(ep p=ep q∧off p≤off q))→p≤q)(h:U7 ep off Pl s fin r):
  U7 ep off Pl s fin { r with e:=ep s.trim,o:=off s.trim+1 }:=by
 refine⟨ep1 _ ht,fun p a b c=> ?_,fun p a b c=> ?_,fun p d hd=> ?_⟩
 ·grind
 ·have:=lex p _ a ht (by
   rcases b with b|⟨b1,b2⟩
   all_goals grind)
  omega
 ·have:=h.told p d hd
  grind[Nk]
theorem ABh{r t:Rd}(h:U7 ep off Pl s fin r)(k:U7 ep off Pl s fin t){p:Int}(hp:Pl p)(ht:s.trim<p)(h1:Nk ep off r p)(h2:Nk ep off t p):r.told p=t.told p:=by
 obtain⟨a1,a2,a3⟩:=h.data p hp h1 ht;obtain⟨b1,b2,b3⟩:=k.data p hp h2 ht;by_cases hc:s.cl (ep p)
 all_goals grind
end
end Go.Sf
end
section
namespace Go.M
open Go.M.H (AJ AO As Ac AA CN AQ A7 AM AY A3 Ax BC)
open Go.Sf (N6 Wd Md St Rd r8 Pf GX HQ U7)
def Pl(p:Int):Prop:=BN p=true
def Ut(e:AJ):N6:=⟨e.1,e.2.1,e.2.2.1,e.2.2.2.1⟩
def kS(l:List AJ)(p:Int):Option N6:=(Ek p l).map Ut
theorem SD{l:List AJ}{p:Int}{x:N6}(h:kS l p=some x):∃e,Ek p l=some e∧Ut e=x:=by
 grind[kS,Option.map_eq_some_iff]
theorem aB{l:List AJ}{p:Int}{e:AJ}(h:Ek p l=some e):kS l p=some (Ut e):=by
 grind[kS]
def Sj(l:List AJ)(x:N6):Prop:= ∃e∈l,Ut e=x
theorem AFV{l m t:List AJ}(h:Wq l)(hs:∀e∈m,e∈t):Pf (kS l) (kS (Db l m)) (Sj t):=by
 refine⟨fun p x hx=> ?_,fun p y hy=> ?_⟩
 ·obtain⟨e,he,rfl⟩:=SD hx
  obtain⟨y,hy,hw⟩:=Ww (l:=m) h he;refine⟨Ut y,aB hy,hw.imp (fun e=>by rw[e]) (fun h=>h)⟩
 ·obtain⟨e,he,rfl⟩:=SD hy
  obtain⟨h1,h2⟩:=Gn he;rcases Q1 h1 with h3|h3
  ·grind[aB,Ls]
  ·exact .inr ⟨⟨e,hs e h3,rfl⟩,h2⟩
def aO(x:A7):Wd:=⟨x.1,fun n=>n∈x.2.1,x.2.2.1=true⟩
def Xf(ws:List AM)(e:Int):Option AM:=ws.find? fun x=>x.1==e
def FG(ws:List AM)(p:Int):Option A7:=
 if BN p then(Xf ws (AN p)).bind fun x=>x.2.1[(A6 p-1).toNat]? else none
def eU(m:As):Md:=
 ⟨m.2.1,fun n=>n∈m.2.2.1,kS m.2.2.2.1,m.2.2.2.2.1=true,m.2.2.2.2.2.1.length,fun p n=>Pl p∧AN p=m.2.1∧ ∃l,m.2.2.2.2.2.1[(A6 p-1).toNat]? =some l∧n∈l⟩
def JC(l:List Ac)(p:Int):Option Ac:=l.find? fun s=>s.1==p
def seS(s:Ac):r8×Prop:=(s.2.1,s.2.2.1=true)
def A_(w:AA)(n:Int):AO:=if 0≤n∧n<(w.Am.length:Int)then storeAt w n else Cl
def GU(l:List CN)(e:Int):CN:=l.getD (e-1).toNat GJ
def Bl(w:AA):St where
 len:=w.Ab.length
 nodes e n:=n∈Ao w.Ab e
 cl e:=(1≤e∧e≤(w.Ab.length:Int))∧(GU w.Ab e).2.1=true
 last e:=if 1≤e then(GU w.Ab e).2.2.1 else 0
 trim:=w.trim
 lost n:=n∈w.lost
 EC:=w.EC=true
 kept n:=kS (A_ w n).1
 late n:=Sj (A_ w n).2.1
 sl n:=(A_ w n).2.2.1
 vW e:= ∃x∈w.AH,x.1=e
 wd p:=(FG w.AH p).map aO
 md:=w.BW.head?.map eU
 HO p:=(JC w.BX p).map seS
def sL(l:List A3)(p:Int):Option r8:=(l.find? fun e=>e.1==1&&e.2.1==p).map fun e=>e.2.2.1
def tW(r:AY):Rd:=⟨r.1,r.2.1,sL r.2.2.1⟩
theorem St.eq{s t:St}(h1:s.len=t.len)(h2:s.nodes=t.nodes)(h3:s.cl=t.cl)(h4:s.last=t.last)(h5:s.trim=t.trim)(h6:s.lost=t.lost)(h7:s.EC=t.EC)(h8:s.kept=t.kept)(h9:s.late=t.late)
  (h10:s.sl=t.sl) (h11:s.vW=t.vW) (h12:s.wd=t.wd) (h13:s.md=t.md) (h14:s.HO=t.HO):s=t:=by
 cases s;simp_all
theorem Wd.eq{a b:Wd}(h1:a.data=b.data)(h2:a.nr=b.nr)(h3:a.done=b.done):a=b:=by
 cases a;simp_all
theorem Md.eq{a b:Md}(h1:a.ep=b.ep)(h2:a.ew=b.ew)(h3:a.seen=b.seen)(h4:a.pl=b.pl)(h5:a.n=b.n)(h6:a.wrote=b.wrote):a=b:=by
 cases a;simp_all
theorem S9{w:AA}{n:Int}(h:Aj w n=0):A_ w n=storeAt w n:=by
 obtain⟨h1,h2,_⟩:=EG h;unfold A_;simp_all
theorem F7{w:AA}{n m:Int}{s:AO}(h:0≤n∧n<(w.Am.length:Int)):A_ (w.BA (w.Am.set n.toNat s)) m=if m=n then s else A_ w m:=by
 unfold A_ storeAt;grind
structure Safe (w:AA):Prop where
 ok:NN w
 a:GX (GS (AS w)) AN Pl (Bl w)
 b:w.EC=false→ ∃fin,HQ (GS (AS w)) AN A6 Pl (Bl w) fin∧ ∀r∈w.AR,U7 AN A6 Pl (Bl w) fin (tW r)
def Grow(w v:AA):Prop:= ∀p d q,(Bl w).HO p=some (d,q)→ ∃q',(Bl v).HO p=some (d,q')∧(q→q')
theorem Safe.step{w v:AA}(h:Safe w)(Br:NN v)(hc:AS v=AS w)(hr:v.AR=w.AR)(ht:v.EC=false→w.EC=false)
  (ha:GX (GS (AS w)) AN Pl (Bl v))
  (hb:w.EC=false→v.EC=false→ ∀fin,HQ (GS (AS w)) AN A6 Pl (Bl w) fin→HQ (GS (AS w)) AN A6 Pl (Bl v) fin)
  (h1:(Bl v).cl=(Bl w).cl) (h2:(Bl v).last=(Bl w).last) (h3:(Bl w).trim≤(Bl v).trim)
  (h4:Grow w v):Safe v∧Grow w v:=by
 refine⟨⟨Br,by simp_all,fun hv=> ?_⟩,h4⟩;obtain⟨fin,b1,b2⟩:=h.b (ht hv);rw[hc,hr];exact⟨fin,hb (ht hv) hv fin b1,fun r hr=>(b2 r hr).of h1 h2 h3 fun p d q a b=>(h4 p d q a).imp fun _ k=>⟨k.1,k.2 b⟩⟩
theorem ep1{p:Int}(h:Pl p):1≤AN p:=(CF h).1.1
theorem qW{p:Int}(h:Pl p):1≤A6 p:=(CF h).2.1.1
theorem gV{w:AA}{n:Int}{s:AO}(h:0≤n∧n<(w.Am.length:Int))(h2:s.2.1=[])(h3:s.2.2.1=(A_ w n).2.2.1):Bl (w.BA (w.Am.set n.toNat s))=(Bl w).settle n (kS s.1):=by
 refine St.eq rfl rfl rfl rfl rfl rfl rfl ?_ ?_ ?_ rfl rfl rfl rfl
 ·funext m
  show kS (A_ _ m).1=if m=n then kS s.1 else kS (A_ w m).1
  rw[F7 h];grind
 ·funext m x
  show Sj (A_ _ m).2.1 x=(m≠n∧Sj (A_ w m).2.1 x)
  rw[F7 h];by_cases e:m=n
  ·rw[ALy e,h2]
   exact propext ⟨fun⟨e,he,_⟩=>by simp_all,fun hh=>absurd e hh.1⟩
  simp_all
 ·funext m
  show(A_ _ m).2.2.1=(A_ w m).2.2.1
  rw[F7 h];grind
theorem AJo{w:AA}{n:Int}{e:AJ}(h:0≤n∧n<(w.Am.length:Int)):Bl (w.BA (w.Am.set n.toNat ((A_ w n).1,(A_ w n).2.1++[e],(A_ w n).2.2.1,())))=(Bl w).put n (Ut e):=by
 refine St.eq rfl rfl rfl rfl rfl rfl rfl ?_ ?_ ?_ rfl rfl rfl rfl
 ·funext m
  show kS (A_ _ m).1=kS (A_ w m).1
  rw[F7 h];grind
 ·funext m x
  show Sj (A_ _ m).2.1 x=(Sj (A_ w m).2.1 x∨(m=n∧x=Ut e))
  rw[F7 h];by_cases em:m=n
  ·rw[ALy em,em]
   refine propext ⟨fun⟨y,hy,hx⟩=> ?_,fun hh=> ?_⟩
   ·rcases AOs.1 hy with hy|hy
    ·exact .inl ⟨y,hy,hx⟩
    simp_all
   ·rcases hh with⟨y,hy,hx⟩|⟨_,hx⟩
    ·exact⟨y,AOs.2 (.inl hy),hx⟩
    ·exact⟨e,by simp,hx.symm⟩
  simp_all
 ·funext m
  show(A_ _ m).2.2.1=(A_ w m).2.2.1
  rw[F7 h];grind
section
variable{w:AA} (h:Safe w)
include h
theorem ze{n k:Int}(e:(IQ w n k).2=0):Safe (IQ w n k).1∧Grow w (IQ w n k).1:=by
 have Br:=vx h.ok e;unfold IQ at e Br⊢
 try dsimp only at e Br⊢
 by_cases hn:Aj w n=0
 rotate_left
 ·simp_all
 rw[AMD (by omega)]at e Br⊢;unfold putAt at e Br⊢;by_cases hq:(D5 (storeAt w n) k).2=true
 rotate_left
 ·simp_all
 rw[ALy hq]at Br⊢;obtain⟨s1,s2,s3⟩:=KS hq;obtain⟨n1,n2,n3⟩:=EG hn;have hs:=S9 hn;have ea:=gV (w:=w) (n:=n) (s:=(D5 (storeAt w n) k).1) ⟨n1,n2⟩ (by rw[s3]) (by simp_all);have hk:Pf ((Bl w).kept n) (kS (D5 (storeAt w n) k).1.1) ((Bl w).late n):=by
  show Pf (kS (A_ w n).1) _ (Sj (A_ w n).2.1)
  rw[hs,s3];exact AFV s1.fo fun e=>Qk
 refine h.step Br rfl rfl (fun t=>t) ?_ (fun _ _ fin hb=> ?_) rfl rfl (ATD _) fun p d q a=>⟨q,a,id⟩
 ·rw[ea];exact Sf.qZ hk h.a
 ·rw[ea];exact Sf.pv GS.mono hk h.a hb
theorem yM{n:Int}(e:(IV w n).2=0):Safe (IV w n).1∧Grow w (IV w n).1:=by
 have Br:=wJ h.ok e;unfold IV at e Br⊢
 try dsimp only at e Br⊢
 by_cases hn:Aj w n=0
 rotate_left
 ·simp_all
 rw[AMD (by omega)]at e Br⊢;unfold putAt at e Br⊢;by_cases hq:(Fy (storeAt w n) w.trim).2=true
 rotate_left
 ·simp_all
 rw[ALy hq]at Br⊢;obtain⟨s1,s2,s3⟩:=iI hq;obtain⟨n1,n2,n3⟩:=EG hn;have hs:=S9 hn;have ea:Bl (w.BA (w.Am.set n.toNat (Fy (storeAt w n) w.trim).1))=(Bl w).prune n (kS (Fy (storeAt w n) w.trim).1.1):=by
  refine St.eq rfl rfl rfl rfl rfl rfl rfl ?_ ?_ ?_ rfl rfl rfl rfl
  ·funext m
   show kS (A_ _ m).1=if m=n then _ else kS (A_ w m).1
   rw[F7 ⟨n1,n2⟩];grind
  ·funext m x
   show Sj (A_ _ m).2.1 x=Sj (A_ w m).2.1 x
   rw[F7 ⟨n1,n2⟩];grind
  ·funext m
   show(A_ _ m).2.2.1=(A_ w m).2.2.1
   rw[F7 ⟨n1,n2⟩];grind
 have hk:Sf.ng (Bl w) n (kS (Fy (storeAt w n) w.trim).1.1):=by
  have ak:(Bl w).kept n=kS (storeAt w n).1:=by show kS (A_ w n).1=_;rw[hs]
  rw[s3];refine⟨fun p x hx=> ?_,fun p hp=> ?_⟩
  ·obtain⟨y,hy,rfl⟩:=SD hx
   obtain⟨y1,y2⟩:=Gn hy;rw[ak,←y2];exact aB (Ls s1.fo (ATL.1 y1).1)
  ·rw[ak]
   have hp':w.trim<p:=hp;grind[Ek,storeAt,decide,Gn,absurd,ACL,kS,Ls,decide_eq_true]
 refine h.step Br rfl rfl (fun t=>t) ?_ (fun _ _ fin hb=> ?_) rfl rfl (ATD _) fun p d q a=>⟨q,a,id⟩
 ·rw[ea];exact Sf.AKY hk h.a
 grind[Sf.AJL]
theorem AB9{a:Int}(e:(OO w a).2=0):Safe (OO w a).1∧Grow w (OO w a).1:=by
 have Br:=vh h.ok e;unfold OO at e Br⊢
 try dsimp only at e Br⊢
 by_cases hq:(Lx (AS w) (B3 w) a).2=true
 rotate_left
 ·simp_all
 rw[hq]at Br⊢;obtain⟨r1,r2,r3⟩:=pS hq;simp only[AMP,AMO,AOR]at Br⊢;have ea:Bl (w.G9 (Lx (AS w) (B3 w) a).1)={ Bl w with trim:=max w.trim a }:=by
  rw[r3];rfl
 have hle:w.trim≤max w.trim a:=Int.le_max_left _ _;refine h.step Br rfl rfl (fun t=>t) ?_ (fun _ _ fin hb=> ?_) ?_ ?_ ?_ ?_
 ·rw[ea];exact Sf.AQ9 h.a
 ·rw[ea];exact Sf.ASA hle hb
 ·rw[ea]
 ·rw[ea]
 ·rw[ea];exact hle
 ·exact fun p d q a=>⟨q,by simp_all,id⟩
end
end Go.M
end
section
namespace Go.M
open Go.M.H (AJ AO As Ac AA CN AQ A7 AM AY A3 Ax BC)
open Go.Sf (N6 Wd Md St Rd r8 Pf GX HQ U7)
theorem ADe{w:AA}(h:w.BW=[]):(Bl w).md=none:=by
 show w.BW.head?.map eU=none
 simp_all
theorem cv{w:AA}{m:As}{ms:List As}(h:w.BW=m::ms):(Bl w).md=some (eU m):=by
 show w.BW.head?.map eU=some (eU m)
 simp_all
theorem ACQ{l:List CN}{k:Nat}:GU l ((k:Int)+1)=l.getD k GJ:=by
 grind[GU]
theorem AFm{w:AA}{k:Nat}(hk:k<w.Ab.length):(Bl w).cl ((k:Int)+1)↔(w.Ab.getD k GJ).2.1=true:=by
 show((1≤(k:Int)+1∧(k:Int)+1≤(w.Ab.length:Int))∧(GU w.Ab ((k:Int)+1)).2.1=true)↔_
 grind[ACQ]
theorem AFC{c:B9}{m:As}(hm:qn c m){p:Int}{x:N6}(hx:kS m.2.2.2.1 p=some x):A6 p≤Lf m.2.2.2.1:=by
 obtain⟨e,he,_⟩:=SD hx;obtain⟨e1,e2⟩:=Gn he;obtain⟨i,hi,hie⟩:=AQa e1;have hl:0<m.2.2.2.1.length:=by omega
 unfold Lf;rw[show(m.2.2.2.1.length==0)=false from by grind,AMU,Ny (by omega)];have hle:p≤(m.2.2.2.1[m.2.2.2.1.length-1]).1:=by
  by_cases hj:i=m.2.2.2.1.length-1
  ·simp_all
  ·have:=AVq.1 hm.fo i (m.2.2.2.1.length-1) hi (by omega) (by omega)
   grind
 have a1:=hm.seen e e1;have a2:=hm.seen _ (AMh (show m.2.2.2.1.length-1<m.2.2.2.1.length by omega));have p1:=(FM.1 a1.1).pl;have p2:=(FM.1 a2.1).pl;grind[tO]
section
variable{w:AA} (h:Safe w)
include h
theorem ABJ(e:(MC w).2=0):Safe (MC w).1∧Grow w (MC w).1:=by
 have Br:=ABD h.ok e;unfold MC at e Br⊢
 try dsimp only at e Br⊢
 by_cases h1:(decide ((w.Ab.length:Int)<2)||decide (A8 w.Ab=w.Ab.length))=true
 ·simp_all
 rw[AMD h1]at e Br⊢;by_cases h2:w.BW.length>0
 ·simp_all
 rw[AMD h2]at Br⊢;simp only[AS8,AMc,AXi]at h1;have uP:w.BW=[]:=AQO (by omega);obtain⟨k,k1,k2,k3,k4⟩:=Nq (r:=B3 w) h.ok.lZ (by show 0<w.Ab.length;omega);have k1':k<w.Ab.length:=k1;have Zp:A8 w.Ab=(k:Int)+1:=k2;have ea:Bl (w.Bi [WA (A8 w.Ab) w.Ab.length])=(Bl w).kK (A8 w.Ab):=by
  refine St.eq rfl rfl rfl rfl rfl rfl rfl rfl rfl rfl rfl rfl ?_ rfl
  show some (eU (WA (A8 w.Ab) w.Ab.length))=some _
  refine congrArg some (Md.eq rfl ?_ rfl ?_ rfl ?_)
  ·funext n;exact propext ⟨fun hh=>by simp[eU,WA]at hh,fun hh=>hh.elim⟩
  ·exact propext ⟨fun hh=>by simp[eU,WA]at hh,fun hh=>hh.elim⟩
  ·funext p n;exact propext ⟨fun⟨_,_,l,hl,_⟩=>by simp[WA]at hl,fun hh=>hh.elim⟩
 have SX:=ADe uP;refine h.step Br rfl rfl (fun t=>t) ?_ (fun _ _ fin hb=> ?_) rfl rfl (ATD _) fun p d q a=>⟨q,a,id⟩
 ·rw[ea]
  refine Sf.ALe SX (by omega) (by show A8 w.Ab<(w.Ab.length:Int);omega) ?_ ?_ h.a
  ·rw[Zp,AFm k1']
   have:(w.Ab.getD k GJ).2.1=false:=k3;simp_all
  ·intro f f1 f2
   rw[show f=((f-1).toNat:Int)+1 by omega,AFm (by omega)];exact k4 _ (by omega)
 grind[Sf.AK5,GS.mono]
theorem AB1(e:(MO w).2=0):Safe (MO w).1∧Grow w (MO w).1:=by
 have Br:=AAI h.ok e;unfold MO at e Br⊢
 try dsimp only at e Br⊢
 cases hms:w.BW with
 |nil=>simp_all
 |cons m ms=>
 rw[hms]at e Br;simp only at e Br⊢;by_cases hq:(IA (AS w) m (Ao w.Ab m.2.1)).2=true
 rotate_left
 ·simp_all
 rw[hq]at Br⊢;simp only[AMP,AMO,AOR]at Br⊢;obtain⟨m1,m2,m3,m4,m5⟩:=mH hq;have SX:=cv hms;have ea:Bl (w.Bi ((IA (AS w) m (Ao w.Ab m.2.1)).1::ms))=(Bl w).ZX (eU m) (Lf m.2.2.2.1):=by
  refine St.eq rfl rfl rfl rfl rfl rfl rfl rfl rfl rfl rfl rfl ?_ rfl
  show some (eU (IA (AS w) m (Ao w.Ab m.2.1)).1)=some _
  rw[m5];have hlb:=(GR (l:=m.2.2.2.1)).1;refine congrArg some (Md.eq rfl rfl rfl (by simp[eU]) (by simp[eU];omega) ?_);funext p n;refine propext ⟨fun⟨_,_,l,hl,hn⟩=> ?_,fun⟨_,_,l,hl,hn⟩=> ?_⟩
  ·have:=ANi hl
   simp_all
  ·have:=m1.n
   simp_all
 have k:Sf.uv (GS (AS w)) A6 (Bl w) (eU m) (Lf m.2.2.2.1):=by
  refine⟨SX,by simp[eU,m3],?_,fun p x hx=>AFC m1 hx⟩;unfold JT at m4;simp only[AML,AS9]at m4;obtain⟨g1,g2,g3,g4⟩:=m4;intro hH;have qw:Ay (AS w) (less (Ao w.Ab m.2.1) (m.2.2.1.filter (Ao w.Ab m.2.1).contains))=true:=Lh _ (Nl g1);have:GS (AS w) (fun n=>n∈less (Ao w.Ab m.2.1) (m.2.2.1.filter (Ao w.Ab m.2.1).contains)):=by
   refine GS.mono _ _ (fun n hn=> ?_) hH;rw[Rl];refine⟨hn.1,fun hh=>hn.2 ?_⟩;exact(ATL.1 hh).1
  grind[GS.list]
 refine h.step Br rfl rfl (fun t=>t) ?_ (fun _ _ fin hb=> ?_) rfl rfl (ATD _) fun p d q a=>⟨q,a,id⟩
 ·rw[ea];exact Sf.ASZ k h.a
 ·rw[ea];exact Sf.APn GS.mono k h.a hb
theorem ACZ{n:Int}(e:(MJ w n).2=0):Safe (MJ w n).1∧Grow w (MJ w n).1:=by
 have Br:=z_ h.ok e;unfold MJ at e Br⊢
 try dsimp only at e Br⊢
 cases hms:w.BW with
 |nil=>simp_all
 |cons m ms=>
 rw[hms]at e Br;simp only at e Br⊢;by_cases hn:Aj w n=0
 rotate_left
 ·simp_all
 rw[AMD (by omega)]at e Br⊢;by_cases PY:(Ao w.Ab m.2.1).contains n=true
 rotate_left
 ·simp_all
 rw[PY]at e Br⊢;simp only[AMP,AMO,AOR]at e Br⊢;by_cases hq:(!(Bh (storeAt w n) (m.1-1)).2|| !(Ln (AS w) m n (GD (Bh (storeAt w n) (m.1-1)).1 m.2.1)).2)=true
 ·simp_all
 rw[AMD hq]at Br⊢;simp only[AS8,AS9,AXi,Bool.not_eq_false]at hq;obtain⟨q1,q2⟩:=hq;obtain⟨s1,s2,s3,s4,s5⟩:=aW q1;obtain⟨m1,m2,m3,m4⟩:=mM q2;obtain⟨n1,n2,n3⟩:=EG hn;have hs:=S9 hn;have SX:=cv hms;have hm0:=h.ok.BW m (by simp_all)
 generalize hT:(Ln (AS w) m n (GD (Bh (storeAt w n) (m.1-1)).1 m.2.1)).1=T at m2 m4 Br⊢
 generalize hS:(Bh (storeAt w n) (m.1-1)).1=S at s2 s3 Br m4⊢
 let s':AO:=(S.1,[],(storeAt w n).2.2.1,())
 let w1:AA:=w.BA (w.Am.set n.toNat s')
 have hk:Pf ((Bl w).kept n) (kS S.1) ((Bl w).late n):=by
  show Pf (kS (A_ w n).1) _ (Sj (A_ w n).2.1)
  rw[hs,s3];exact AFV s1.fo fun e=>Qk
 have w4:Bl w1=(Bl w).settle n (kS S.1):=gV (s:=s') ⟨n1,n2⟩ rfl (by rw[hs]);have hl1:(w.Am.set n.toNat s').length=w.Am.length:=AUg;have AC2:GD S m.2.1=S.1.filter fun e=>AN e.1==m.2.1:=by unfold GD;rw[DN.2 s2,ALy rfl]
 have Aan:(GD S m.2.1).filter (fun e=>AN e.1==m.2.1)=S.1.filter fun e=>AN e.1==m.2.1:=by
  simp_all
 rw[Aan]at m4;have ea:Bl ((w.BA (w.Am.set n.toNat S)).Bi (T::ms))=(Bl w1).jc (eU m) n (kS T.2.2.2.1) (max (storeAt w n).2.2.1 (m.1-1)):=by
  have h1:∀k,A_ ((w.BA (w.Am.set n.toNat S)).Bi (T::ms)) k=if k=n then S else A_ w k:=fun k=>F7 ⟨n1,n2⟩
  have h2:∀k,A_ w1 k=if k=n then s' else A_ w k:=fun k=>F7 ⟨n1,n2⟩
  refine St.eq rfl rfl rfl rfl rfl rfl rfl ?_ ?_ ?_ rfl rfl ?_ rfl
  ·funext k
   show kS (A_ _ k).1=kS (A_ w1 k).1
   grind
  ·funext k
   show Sj (A_ _ k).2.1=Sj (A_ w1 k).2.1
   grind
  ·funext k
   show(A_ _ k).2.2.1=if k=n then max (storeAt w n).2.2.1 (m.1-1)else(A_ w1 k).2.2.1
   grind
  ·show some (eU T)=some _
   rw[m4];refine congrArg some (Md.eq rfl ?_ rfl rfl rfl rfl);funext k;exact propext ⟨fun hh=>(Nb.1 hh).symm,fun hh=>Nb.2 hh.symm⟩
 have hA1:GX (GS (AS w)) AN Pl (Bl w1):=by rw[w4];exact Sf.qZ hk h.a
 have ek1:(Bl w1).kept n=kS S.1:=by rw[w4];show(if n=n then kS S.1 else _)=_;simp_all
 have k:Sf.tg AN (Bl w1) (eU m) n (kS T.2.2.2.1) (max (storeAt w n).2.2.1 (m.1-1)):=by
  refine⟨SX,n3,by simp[eU,m3],?_,?_,fun p x hx=> ?_,fun p y hy=> ?_,fun p x hx he=> ?_,fun p y hy=> ?_⟩
  ·rw[w4]
   show(A_ w n).2.2.1≤_
   grind
  ·show(w.Ab.length:Int)-1≤_
   omega
  ·obtain⟨e,he,rfl⟩:=SD hx
   obtain⟨y,hy,_⟩:=Ww (l:=S.1.filter fun e=>AN e.1==m.2.1) m1.fo he;rw[m4];exact⟨_,aB hy⟩
  ·rw[m4]at hy
   obtain⟨e,he,rfl⟩:=SD hy;obtain⟨e1,e2⟩:=Gn he;rcases Q1 e1 with e3|e3
   ·left
    show kS m.2.2.2.1 p=_
    rw[←e2];exact aB (Ls m1.fo e3)
   ·right
    rw[ek1,←e2];exact aB (Ls s2.fo (ATL.1 e3).1)
  ·rw[ek1]at hx
   obtain⟨e,he',rfl⟩:=SD hx;obtain⟨e1,e2⟩:=Gn he';obtain⟨y,hy,_⟩:=fh (e:=e) (l:=S.1.filter fun e=>AN e.1==m.2.1) m1.fo (ATL.2 ⟨e1,by rw[e2];exact ATQ.2 he⟩);rw[m4,←e2];exact⟨_,aB hy⟩
  ·obtain⟨e,he,rfl⟩:=SD hy
   obtain⟨e1,e2⟩:=Gn he;have:=m2.seen e e1;rw[m4]at this;refine⟨e2,?_,?_⟩
   ·rw[←e2];exact this.2.1
   ·show e.2.1<(w.Ab.length:Int)
    omega
 refine h.step Br rfl rfl (fun t=>t) ?_ (fun _ _ fin hb=> ?_) rfl rfl (ATD _) fun p d q a=>⟨q,a,id⟩
 ·grind[Sf.AJ8]
 ·rw[ea]
  refine Sf.AIW GS.mono k hA1 ?_
  rw[w4];exact Sf.pv GS.mono hk h.a hb
end
end Go.M
end
section
namespace Go.M
open Go.M.H (AJ AO As Ac AA CN AQ A7 AM AY A3 Ax BC)
open Go.Sf (N6 Wd Md St Rd r8 Pf GX HQ U7)
theorem XD{x:AM}:∀{ws:List AM},S8 (fun x:AM=>x.1) ws→x∈ws→Xf ws x.1=some x
 |[],_,h=>by simp at h
 |y::ws,ha,h=>by
  simp only[S8,ARf]at ha;unfold Xf;rw[AUh];rcases ANv.1 h with rfl|h
  ·rw[AXU]
  ·rw[AQJ.2 (fun e=>by grind)]
   exact XD ha.2 h
theorem Zj{ws:List AM}{e:Int}{x:AM}(h:Xf ws e=some x):x∈ws∧x.1=e:=
 ⟨ATZ h,by simpa using AXY h⟩
theorem lz{e:Int}{y:AM}(hy:y.1≠e):∀{ws:List AM} {i:Nat},(∀hi:i<ws.length,(ws[i]).1≠e)→Xf (ws.set i y) e=Xf ws e
 |[],i,_=>rfl
 |x::ws,0,h=>by
  grind[Xf,beq_eq_false_iff_ne]
 |x::ws,i+1,h=>by
  have ih:=lz hy (ws:=ws) (i:=i) fun hi=>h (Nat.succ_lt_succ hi)
  grind[Xf]
theorem wP{ws:List AM}{p:Int}{x:A7}(h:FG ws p=some x):Pl p∧ ∃y,Xf ws (AN p)=some y∧y.2.1[(A6 p-1).toNat]? =some x:=by
 unfold FG at h;split at h
 ·rename_i hp
  refine⟨hp,?_⟩;grind[Option.bind_eq_some_iff]
 simp_all
theorem J1{ws:List AM}{p:Int}{y:AM}(hp:Pl p)(h:Xf ws (AN p)=some y):FG ws p=y.2.1[(A6 p-1).toNat]?:=by
 unfold FG;rw[ALy (show BN p=true from hp),h];rfl
theorem sR{ws:List AM}{p:Int}(h:Xf ws (AN p)=none):FG ws p=none:=by
 grind[FG]
theorem lC{ws:List AM}{p:Int}(h: ¬Pl p):FG ws p=none:=by
 unfold FG;rw[AMD (show¬BN p=true from h)]
theorem yp{ws:List AM}{e p:Int}:FG (ws++[(e,[],())]) p=FG ws p:=by
 unfold FG Xf;split
 ·rw[List.find?_append]
  cases ws.find? (fun x=>x.1==AN p)with
  |some y=>rfl
  |none=>
   simp_all
 ·rfl
theorem YB{l:List Ac}{p:Int}{s:Ac}(h:JC l p=some s):s∈l∧s.1=p:=
 ⟨ATZ h,by simpa using AXY h⟩
theorem lX{s:Ac}{q:Int}:∀{l:List Ac},(∀x∈l,x.1≠s.1)→JC (Xr s l) q=if q=s.1 then some s else JC l q
 |[],_=>by
  unfold JC Xr;grind
 |x::l,h=>by
  have ih:=lX (q:=q) (l:=l) fun y hy=>h y (by simp[hy])
  have hx:=h x (by simp);unfold JC at*;rw[Xr];grind
theorem uq{l:List CN}{x:CN}{e:Int}:Ao (l++[x]) e=if e=(l.length:Int)+1 then x.1 else Ao l e:=by
 unfold Ao;simp only[APB,ANZ,AQZ];by_cases h:e=(l.length:Int)+1
 ·rw[ALy h,Ah.2 (by omega),ALy rfl,show(e-1).toNat=l.length by omega]
  simp[List.getD]
 ·rw[AMD h]
  by_cases h2:1≤e∧e≤(l.length:Int)
  ·rw[Ah.2 (by omega),Ah.2 h2,ALy rfl,ALy rfl]
   simp only[List.getD];rw[ANd (by omega)]
  ·rw[AMD (fun hh=>by grind[Ah]),AMD (fun hh=>h2 (Ah.1 hh))]
theorem lG{l:List CN}{ns:AAO}{e:Int}(h1:1≤e):(GU (l++[(ns,false,0,())]) e).2=(GU l e).2:=by
 unfold GU;simp only[List.getD];by_cases h:(e-1).toNat<l.length
 ·rw[ANd h]
 ·rw[ANr (by omega),ATP (l:=l) (by omega)]
  cases(e-1).toNat-l.length<;>rfl
section
variable{w:AA} (h:Safe w)
include h
theorem AB5{a:Int}(e:(L5 w a).2=0):Safe (L5 w a).1∧Grow w (L5 w a).1:=by
 have Br:=AAC h.ok e;unfold L5 at e Br⊢
 try dsimp only at e Br⊢
 by_cases h4:w.AH.length=4
 ·simp_all
 rw[AMD h4]at e Br⊢;by_cases hq:(IM (AS w) (B3 w) (An a)).2.2=true
 rotate_left
 ·simp_all
 simp only[hq,AMP,AMO,AOR]at Br⊢;obtain⟨_,r1,r2,r3,r4,r5⟩:=pH hq;rw[r2,r3]at Br⊢;have er:(B3 w).1=w.Ab:=rfl;have ea:Bl (((w.G9 ((B3 w).1++[(An a,false,0,())],(B3 w).2.1,())).A9 (w.AH++[(((B3 w).1.length:Int)+1,[],())])).Bi [])=(Bl w).open_ (fun n=>n∈An a):=by
  refine St.eq ?_ ?_ ?_ ?_ rfl rfl rfl rfl rfl rfl ?_ ?_ rfl rfl
  ·show((w.Ab++[(An a,false,0,())]).length:Int)=(w.Ab.length:Int)+1
   simp
  ·funext x n
   show(n∈Ao (w.Ab++[(An a,false,0,())]) x)=(if x=(w.Ab.length:Int)+1 then fun n=>n∈An a else(Bl w).nodes x) n
   rw[uq];by_cases hx:x=(w.Ab.length:Int)+1
   ·simp_all
   ·rw[AMD hx,AMD hx];rfl
  ·funext x
   show((1≤x∧x≤((w.Ab++[(An a,false,0,())]).length:Int))∧(GU (w.Ab++[(An a,false,0,())]) x).2.1=true)=((1≤x∧x≤(w.Ab.length:Int))∧(GU w.Ab x).2.1=true)
   simp only[APB,ANZ,AQZ];refine propext ⟨fun⟨⟨h1,h2⟩,h3⟩=> ?_,fun⟨⟨h1,h2⟩,h3⟩=>⟨⟨h1,by omega⟩,by grind[lG]⟩⟩;rw[lG h1]at h3;refine⟨⟨h1,?_⟩,h3⟩;by_cases hh:x≤(w.Ab.length:Int)
   ·omega
   ·unfold GU at h3
    rw[List.getD,ATP (by omega)]at h3;cases h3
  ·funext x
   show(if 1≤x then(GU (w.Ab++[(An a,false,0,())]) x).2.2.1 else 0)=if 1≤x then(GU w.Ab x).2.2.1 else 0
   by_cases hx:1≤x
   ·rw[ALy hx,ALy hx,lG hx]
   omega
  ·funext x
   show(∃y∈w.AH++[((w.Ab.length:Int)+1,[],())],y.1=x)=((∃y∈w.AH,y.1=x)∨x=(w.Ab.length:Int)+1)
   refine propext ⟨fun⟨y,hy,hx⟩=> ?_,fun hh=> ?_⟩
   ·grind
   ·rcases hh with⟨y,hy,hx⟩|hx
    ·grind
    simp_all
  ·funext p
   show(FG (w.AH++[((w.Ab.length:Int)+1,[],())]) p).map aO=(FG w.AH p).map aO
   rw[yp]
 have hns:GS (AS w) (fun n=>n∈An a):=⟨_,r4,fun _ hn=>hn⟩;refine h.step Br rfl rfl (fun t=>t) ?_ (fun _ _ fin hb=> ?_) ?_ ?_ ?_ ?_
 ·rw[ea];exact Sf.AR9 hns h.a
 ·rw[ea];exact Sf.APA h.a hb GS.mono
 ·rw[ea];rfl
 ·rw[ea];rfl
 ·rw[ea];exact ATD _
 ·exact fun p d q a=>⟨q,by rw[ea];exact a,id⟩
theorem yB(e:(IH w).2=0):Safe (IH w).1∧Grow w (IH w).1:=by
 have Br:=xQ h.ok e;unfold IH at e Br⊢
 try dsimp only at e Br⊢
 cases hms:w.BW with
 |nil=>simp_all
 |cons m ms=>
 rw[hms]at e Br;simp only at e Br⊢;by_cases hr:O0 (AS w) m=true
 rotate_left
 ·simp_all
 rw[hr]at e Br⊢;simp only[AMP,AMO,AOR]at e Br⊢;by_cases hq:(Mi (AS w) (B3 w) m.1 (m.2.2.2.2.2.1.length:Int)).2=true
 rotate_left
 ·simp_all
 rw[hq]at Br⊢;simp only[AMP,AMO,AOR]at Br⊢;obtain⟨r0,r1,k,k1,k2,k3,k4,k5,k6,k7,k8⟩:=ll hq;rw[k6]at Br⊢;have k1':k<w.Ab.length:=k1;have SX:=cv hms;have hm0:=h.ok.BW m (by simp_all);have hep:m.2.1=(k:Int)+1:=by rw[hm0.2.2];exact k2
 have hlen:(Gi w.Ab k (m.2.2.2.2.2.1.length:Int)).length=w.Ab.length:=by simp[Gi]
 have hg:=fun j=>WD (l:=w.Ab) (i:=k) (j:=j) (last:=(m.2.2.2.2.2.1.length:Int)) k1'
 have ea:Bl ((w.G9 (Gi (B3 w).1 k (m.2.2.2.2.2.1.length:Int),(B3 w).2.1,())).Bi [])=(Bl w).close (eU m):=by
  refine St.eq ?_ ?_ ?_ ?_ rfl rfl rfl rfl rfl rfl rfl rfl rfl rfl
  ·show((Gi w.Ab k (m.2.2.2.2.2.1.length:Int)).length:Int)=(w.Ab.length:Int)
   omega
  ·funext x n
   show(n∈Ao (Gi w.Ab k (m.2.2.2.2.2.1.length:Int)) x)=(n∈Ao w.Ab x)
   unfold Ao;rw[hlen,hg];by_cases hx:k=(x-1).toNat
   all_goals simp_all
  ·funext x
   show((1≤x∧x≤((Gi w.Ab k (m.2.2.2.2.2.1.length:Int)).length:Int))∧(GU (Gi w.Ab k (m.2.2.2.2.2.1.length:Int)) x).2.1=true)=(((1≤x∧x≤(w.Ab.length:Int))∧(GU w.Ab x).2.1=true)∨x=m.2.1)
   unfold GU;rw[hlen,hg,hep];by_cases hx:k=(x-1).toNat
   all_goals (simp_all;omega)
  ·funext x
   show(if 1≤x then(GU (Gi w.Ab k (m.2.2.2.2.2.1.length:Int)) x).2.2.1 else 0)=if x=m.2.1 then(m.2.2.2.2.2.1.length:Int)else if 1≤x then(GU w.Ab x).2.2.1 else 0
   unfold GU;rw[hg,hep];by_cases h1:1≤x
   ·rw[ALy h1]
    by_cases hx:k=(x-1).toNat
    all_goals (simp_all;omega)
   omega
 unfold O0 at hr;simp only[AML,ATV]at hr;have kk:Sf.nY (GS (AS w)) AN A6 Pl (Bl w) (eU m):=by
  refine⟨SX,hr.2.1,fun p hp he ho=> ?_⟩;have o1:=qW hp;have vZ:A6 p≤(m.2.2.2.2.2.1.length:Int):=ho;have hi:(A6 p-1).toNat<m.2.2.2.2.2.1.length:=by omega
  exact⟨_,hr.2.2 _ (AMh hi),fun n hn=>⟨hp,he,_,AL5 hi,hn⟩⟩
 refine⟨⟨Br,?_,fun hv=> ?_⟩,fun p d q a=>⟨q,by rw[ea];exact a,id⟩⟩
 ·rw[ea];exact Sf.AKA kk h.a
 ·obtain⟨fin,b1,b2⟩:=h.b hv
  rw[ea];exact⟨_,Sf.ALw kk h.a b1 GS.mono fun _ _ _ _ _=>trivial,fun r hr=>Sf.U7.close kk h.a b1 (b2 r hr)⟩
theorem AFr{a:Int}{d:ACC}(hd:d.length≤40)(e:(doAdd w a d).2=0):Safe (doAdd w a d).1∧Grow w (doAdd w a d).1:=by
 have Br:=AFq h.ok hd e;unfold doAdd at e Br⊢
 try dsimp only at e Br⊢
 by_cases ha:BM a 0 ((w.AH.length:Int)-1)=true
 rotate_left
 ·simp_all
 rw[ha]at e Br⊢;simp only[AMP,AMO,AOR]at e Br⊢;by_cases hq:(!(CE (AS w) (w.AH.getD a.toNat Bu) d).2.2||(decide (w.BX.length=120)||w.BX.any fun s=>s.1==D1 (w.AH.getD a.toNat Bu).1 (CE (AS w) (w.AH.getD a.toNat Bu) d).2.1))=true
 ·simp_all
 rw[AMD hq]at Br⊢;simp only[AS8,AXi,APC,APY,AUA,List.any_eq_false,ATQ]at hq;obtain⟨hq,h120,hno⟩:=hq;rw[Ah]at ha;have hi:a.toNat<w.AH.length:=by omega
 have hxm:=BG (d:=Bu) hi;obtain⟨_,r1,r2,r3⟩:=Vq hq;rw[r2]at r1;rw[r2,r3]at Br⊢;rw[r3]at hno;have hxw:=h.ok.AH _ hxm;have hgx:w.AH[a.toNat]=w.AH.getD a.toNat Bu:=(Ny hi).symm
 generalize w.AH.getD a.toNat Bu=x at*
 have zU:=r1.n;simp only[APB,ANZ,AQZ]at zU;obtain⟨p1,p2,p3⟩:=Iu (e:=x.1) (o:=(x.2.1.length:Int)+1) hxw.1.ep (by omega)
 generalize hp:D1 x.1 ((x.2.1.length:Int)+1)=p at*
 have hwx:=XD h.ok.Xm hxm;have AX3:=Br.Xm;have WT:Xf (w.AH.set a.toNat (x.1,x.2.1++[(d,[],false,())],())) x.1=some (x.1,x.2.1++[(d,[],false,())],()):=
  XD (x:=(x.1,x.2.1++[(d,[],false,())],())) AX3 (List.mem_iff_getElem.2 ⟨a.toNat,by simp_all,by rw[AXB]⟩)
 have cF:∀q,AN q≠x.1→Xf (w.AH.set a.toNat (x.1,x.2.1++[(d,[],false,())],())) (AN q)=Xf w.AH (AN q):=fun q hq=>
  lz (y:=(x.1,x.2.1++[(d,[],false,())],())) (fun e=>hq e.symm) fun Dd=>by grind
 have ea:Bl ((w.A9 (w.AH.set a.toNat (x.1,x.2.1++[(d,[],false,())],()))).Cy (Xr (p,d,false,()) w.BX))=(Bl w).add p d:=by
  refine St.eq rfl rfl rfl rfl rfl rfl rfl rfl rfl rfl ?_ ?_ rfl ?_
  ·funext q
   show(∃y∈w.AH.set a.toNat (x.1,x.2.1++[(d,[],false,())],()),y.1=q)=(∃y∈w.AH,y.1=q)
   refine propext ⟨fun⟨y,hy,hq⟩=> ?_,fun⟨y,hy,hq⟩=> ?_⟩
   ·grind
   ·by_cases hyx:q=x.1
    ·grind[Zj]
    ·obtain⟨i,Dd,rfl⟩:=AQa hy
     grind[List.mem_iff_getElem,List.length_set,List.getElem_set_ne]
  ·funext q
   show(FG _ q).map aO=if q=p then some ⟨d,fun _=>False,False⟩else(FG w.AH q).map aO
   by_cases hpq:Pl q
   rotate_left
   ·rw[lC hpq,lC hpq,AMD (fun e=>hpq (by rw[e];exact p1))]
   by_cases hqx:AN q=x.1
   ·rw[J1 hpq (by rw[hqx];omega),J1 hpq (by rw[hqx];omega)]
    have o1:=qW hpq;by_cases hqp:q=p
    ·rw[ALy hqp,hqp,p3,show((x.2.1.length:Int)+1-1).toNat=x.2.1.length by omega]
     show((x.2.1++[(d,[],false,())])[x.2.1.length]?).map aO=_
     rw[ANr (by omega)];simp only[AXd,List.getElem?_cons_zero,AUx];refine congrArg some (Wd.eq rfl ?_ ?_)
     ·funext n;exact propext ⟨fun hh=>by simp[aO]at hh,fun hh=>hh.elim⟩
     ·exact propext ⟨fun hh=>by simp[aO]at hh,fun hh=>hh.elim⟩
    ·rw[AMD hqp]
     have hof:A6 q≠(x.2.1.length:Int)+1:=fun e=>hqp (sY hpq p1 (by omega) (by omega))
     show((x.2.1++[(d,[],false,())])[(A6 q-1).toNat]?).map aO=_
     by_cases Kg:(A6 q-1).toNat<x.2.1.length
     ·grind
     simp_all;omega
   ·rw[AMD (fun e=>hqx (by simp_all))]
    grind[FG]
  ·funext q
   show(JC (Xr (p,d,false,()) w.BX) q).map seS=if q=p then some (d,False)else(JC w.BX q).map seS
   rw[lX (s:=(p,d,false,())) fun y hy=>by grind];by_cases hq:q=p
   ·rw[ALy hq,ALy hq]
    show some (d,false=true)=some (d,False)
    simp
   simp_all
 have ks:(Bl w).HO p=none:=by
  show(JC w.BX p).map seS=none
  grind[JC,YB,absurd]
 have k:Sf.AMm AN Pl (Bl w) p:=by
  refine⟨p1,⟨x,hxm,p2.symm⟩,?_,ks⟩
  show(FG w.AH p).map aO=none
  rw[J1 p1 (by rw[p2];omega),p3,ATP (by omega)];rfl
 refine h.step Br rfl rfl (fun t=>t) ?_ (fun _ _ fin hb=> ?_) ?_ ?_ ?_ ?_
 ·rw[ea];exact Sf.AVG GS.empty k h.a
 ·grind[Sf.AWL,GS.mono]
 ·rfl
 ·rfl
 ·rw[ea];exact ATD _
 ·intro q d' z a1
  rw[ea];refine⟨z,?_,id⟩
  show(if q=p then some (d,False)else(Bl w).HO q)=_
  grind
end
end Go.M
end
section
namespace Go.M
open Go.M.H (AJ AO As Ac AA CN AQ A7 AM AY A3 Ax BC)
open Go.Sf (N6 Wd Md St Rd r8 Pf GX HQ U7)
theorem uC{n:Int}{x:A7}:aO (Cs n x)=⟨(aO x).data,fun k=>(aO x).nr k∧((aO x).done∨k≠n),(aO x).done⟩:=by
 refine Wd.eq rfl ?_ rfl
 funext k
 show(k∈(if x.2.2.1 then x.2.1 else less x.2.1 [n]))=(k∈x.2.1∧(x.2.2.1=true∨k≠n))
 by_cases hd:x.2.2.1=true
 ·simp_all
 ·rw[AMD hd,Rl,ATY]
  simp_all
theorem y6{f:AM→AM}{g:A7→A7}(hf:∀x,(f x).1=x.1)(hg:∀x,(f x).2.1=x.2.1.map g){ws:List AM}{p:Int}:FG (ws.map f) p=(FG ws p).map g:=by
 unfold FG Xf;split
 ·rw[List.find?_map]
  have:((fun x:AM=>x.1==AN p)∘f)=fun x=>x.1==AN p:=by grind
  rw[this];cases ws.find? (fun x=>x.1==AN p)with
  |none=>rfl
  |some y=>
   simp_all
 ·rfl
theorem gU{lost:AAO}{s:AO}:∀{l:List AO} {i:Nat},s∈others lost i l↔ ∃j,∃hj:j<l.length,l[j]=s∧((i+j:Nat):Int)∉lost
 |[],i=>by simp[others]
 |x::l,i=>by
  unfold others;have ih:=gU (lost:=lost) (s:=s) (l:=l) (i:=i+1);have tail:(∃j,∃hj:j<l.length,l[j]=s∧((i+1+j:Nat):Int)∉lost)→ ∃j,∃hj:j<(x::l).length,(x::l)[j]=s∧((i+j:Nat):Int)∉lost:=fun⟨j,hj,h1,h2⟩=>
   ⟨j+1,by simp_all,by simp_all,by grind⟩
  split
  ·rename_i hc
   rw[ih];refine⟨tail,fun⟨j,hj,h1,h2⟩=> ?_⟩;grind
  grind
theorem pK{y:AJ}:∀{ss:List AO} {k:List AJ},y∈FW k ss→y∈k∨ ∃s∈ss,y∈s.1
 |[],k,h=> .inl h
 |s::ss,k,h=>by
  rcases pK (ss:=ss) h with h|⟨t,h1,h2⟩
  all_goals grind[Q1]
theorem tN{p:Int}:∀{ss:List AO} {k:List AJ} {x:AJ},Wq k→Ek p k=some x→ ∃y,Ek p (FW k ss)=some y∧x.2.1≤y.2.1
 |[],k,x,h,hx=>⟨x,hx,ATD _⟩
 |s::ss,k,x,h,hx=>by
  obtain⟨y,h1,h2⟩:=Ww (l:=s.1) h hx;obtain⟨z,h3,h4⟩:=tN (ss:=ss) (Qm h) h1;exact⟨z,h3,by grind⟩
theorem sJ{e:AJ}:∀{ss:List AO} {k:List AJ} {s:AO},Wq k→s∈ss→e∈s.1→ ∃y,Ek e.1 (FW k ss)=some y∧e.2.1≤y.2.1
 |s::ss,k,t,h,ht,he=>by
  rcases ANv.1 ht with rfl|ht
  ·obtain⟨y,h1,h2⟩:=fh h he
   obtain⟨z,h3,h4⟩:=tN (ss:=ss) (Qm h) h1;exact⟨z,h3,by omega⟩
  ·exact sJ (ss:=ss) (k:=Db k s.1) (Qm h) ht he
theorem lg{m:As}{b len:Int}{en:AJ}(hl:m.1=len)(pV:Da m b=some en):
  (m.2.2.2.2.1=true∧(1≤m.2.1∧m.2.1≤30)∧(1≤b∧b≤60)∧b≤m.2.2.2.2.2.1.length)∧Ut en=Sf.U4 len (eU m) (D1 m.2.1 b)∧en.1=D1 m.2.1 b:=by
 unfold Da at pV;by_cases hc:(m.2.2.2.2.1&&(BM m.2.1 1 30&&(BM b 1 60&&decide (b≤m.2.2.2.2.2.1.length))))=true
 rotate_left
 ·simp_all
 rw[ALy hc]at pV;simp only[AML,Ah,AMc]at hc;refine⟨hc,?_⟩;unfold Sf.U4
 show(Ut en=match kS m.2.2.2.1 (D1 m.2.1 b)with|some x=>_|none=>_)∧_
 unfold kS;cases hg:Ek (D1 m.2.1 b) m.2.2.2.1 with
 |none=>
  rw[hg]at pV;cases pV;refine⟨?_,rfl⟩
  show(⟨_,m.1,true,[]⟩:N6)=⟨_,len,true,[]⟩
  rw[hl]
 |some x=>
  rw[hg]at pV;cases pV;refine⟨?_,rfl⟩
  show(⟨_,m.1,x.2.2.1,x.2.2.2.1⟩:N6)=⟨_,len,x.2.2.1,x.2.2.2.1⟩
  rw[hl]
section
variable{w:AA} (h:Safe w)
include h
theorem vp{n:Int}{en:AJ}(hn:Aj w n=0)(Br:NN (putAt w n (Fv (storeAt w n) en)).1)(e:(putAt w n (Fv (storeAt w n) en)).2=0)(k:Sf.AAl AN Pl (Bl w) (Ut en))
  (hh:∀fin,HQ (GS (AS w)) AN A6 Pl (Bl w) fin→(Ut en).hole=true→(Bl w).trim<(Ut en).at_→Sf.Lr (GS (AS w)) AN (Bl w) (Ut en).at_)
  (hc:(Bl w).cl (AN (Ut en).at_)→(Ut en).PI=0):Safe (putAt w n (Fv (storeAt w n) en)).1∧Grow w (putAt w n (Fv (storeAt w n) en)).1:=by
 unfold putAt at e Br⊢;by_cases hq:(Fv (storeAt w n) en).2=true
 rotate_left
 ·simp_all
 rw[ALy hq]at Br⊢;obtain⟨s1,s2,s3,s4⟩:=cq hq;obtain⟨n1,n2,n3⟩:=EG hn;have ea:Bl (w.BA (w.Am.set n.toNat (Fv (storeAt w n) en).1))=(Bl w).put n (Ut en):=by
  grind[AJo,S9]
 refine h.step Br rfl rfl (fun t=>t) ?_ (fun _ _ fin hb=> ?_) ?_ ?_ ?_ ?_
 ·rw[ea];exact Sf.AWz k h.a
 ·grind[Sf.AT_]
 ·rfl
 ·rfl
 ·rw[ea];exact ATD _
 ·exact fun p d q a=>⟨q,by rw[ea];exact a,id⟩
theorem yi{a b n:Int}(e:(IJ w a b n).2=0):Safe (IJ w a b n).1∧Grow w (IJ w a b n).1:=by
 have Br:=xJ h.ok e;unfold IJ at e Br⊢
 try dsimp only at e Br⊢
 by_cases ha:BM a 0 ((w.AH.length:Int)-1)=true
 rotate_left
 ·simp_all
 rw[ha]at e Br⊢;simp only[AMP,AMO,AOR]at e Br⊢;rw[Ah]at ha;have hi:a.toNat<w.AH.length:=by omega
 have hxm:=BG (d:=Bu) hi;have hxw:=h.ok.AH _ hxm;have hwx:=XD h.ok.Xm hxm
 generalize w.AH.getD a.toNat Bu=x at*
 by_cases hb:BM b 1 (x.2.1.length:Int)=true
 rotate_left
 ·simp_all
 rw[hb]at e Br⊢;simp only[AMP,AMO,AOR]at e Br⊢;rw[Ah]at hb;by_cases hn:Aj w n=0
 rotate_left
 ·simp_all
 rw[AMD (by omega)]at e Br⊢;by_cases PY:(Ao w.Ab x.1).contains n=true
 rotate_left
 ·simp_all
 rw[PY]at e Br⊢;simp only[AMP,AMO,AOR]at e Br⊢;have Adl:=hxw.1.n;obtain⟨p1,p2,p3⟩:=Iu (e:=x.1) (o:=b) hxw.1.ep (by omega);have hwd:(Bl w).wd (D1 x.1 b)=some (aO (x.2.1.getD (b-1).toNat Kw)):=by
  show(FG w.AH (D1 x.1 b)).map aO=_
  rw[J1 p1 (by rw[p2];omega),p3,AL5 (by omega),Ny (by omega)];rfl
 have kp:=Sf.zc h.a hwd;refine vp h hn Br e kp (fun fin hb hh=>by cases hh) fun _=>rfl
theorem AFB{b n:Int}(e:(SN w b n).2=0):Safe (SN w b n).1∧Grow w (SN w b n).1:=by
 have Br:=ADv h.ok e;unfold SN at e Br⊢
 try dsimp only at e Br⊢
 cases hms:w.BW with
 |nil=>simp_all
 |cons m ms=>
 rw[hms]at e Br;simp only at e Br⊢;cases pV:Da m b with
 |none=>simp_all
 |some en=>
 rw[pV]at e Br;simp only at e Br⊢;by_cases hn:Aj w n=0
 rotate_left
 ·simp_all
 rw[AMD (by omega)]at e Br⊢;by_cases PY:(Ao w.Ab m.2.1).contains n=true
 rotate_left
 ·simp_all
 rw[PY]at e Br⊢;simp only[AMP,AMO,AOR]at e Br⊢;have SX:=cv hms;have hm0:=h.ok.BW m (by simp_all);obtain⟨⟨c1,c2,c3,c4⟩,hen,_⟩:=lg hm0.2.1 pV;obtain⟨p1,p2,p3⟩:=Iu c2 c3
 replace hen:Ut en=Sf.U4 (Bl w).len (eU m) (D1 m.2.1 b):=hen
 have OY:(Ut en).at_=D1 m.2.1 b:=by grind[Sf.U4]
 have kp:=Sf.yA h.a SX c1 (p:=D1 m.2.1 b) p2 p1;rw[←hen]at kp;refine vp h hn Br e kp (fun fin hb hh ht=> ?_) fun cO=> ?_
 ·rw[OY]at ht⊢
  cases hs:(eU m).seen (D1 m.2.1 b)with
  |none=>exact hb.ZX _ _ SX c1 p1 p2 ht hs
  |some x=>
   have hx:=h.a.ja _ _ _ SX hs;have hxh:x.hole=true:=by
    grind[Sf.U4]
   have:=hb.UH x (.inr (.inr ⟨_,SX,by simp_all⟩)) hxh (by omega);simp_all
 ·rw[OY,p2]at cO
  exact absurd cO (h.a.md1 _ SX).2.2.1
theorem ACf{a:Int}(e:(M7 w a).2=0):Safe (M7 w a).1∧Grow w (M7 w a).1:=by
 have Br:=AAa h.ok e;unfold M7 at e Br⊢
 try dsimp only at e Br⊢
 by_cases ha:BM a 0 ((w.AH.length:Int)-1)=true
 rotate_left
 ·simp_all
 rw[ha]at Br⊢;simp only[AMP,AMO,AOR]at Br⊢;have ACR:∀x∈w.AH.eraseIdx a.toNat,x∈w.AH:=fun x hx=>(List.eraseIdx_sublist _ _).subset hx
 have ea:Bl (w.A9 (w.AH.eraseIdx a.toNat))=(Bl w).drop (Bl (w.A9 (w.AH.eraseIdx a.toNat))).vW (Bl (w.A9 (w.AH.eraseIdx a.toNat))).wd:=rfl;have k:Sf.yC AN (Bl w) (Bl (w.A9 (w.AH.eraseIdx a.toNat))).vW (Bl (w.A9 (w.AH.eraseIdx a.toNat))).wd:=by
  refine⟨fun e ⟨x,hx,he⟩=>⟨x,ACR x hx,he⟩,fun p v hv=> ?_⟩
  replace hv:(FG (w.AH.eraseIdx a.toNat) p).map aO=some v:=hv
  rw[AMI]at hv;obtain⟨x,hx,rfl⟩:=hv;obtain⟨hp,y,hy,hyx⟩:=wP hx;obtain⟨y1,y2⟩:=Zj hy;refine⟨?_,y,y1,y2⟩
  show(FG w.AH p).map aO=_
  rw[J1 hp (y:=y) (by rw[←y2];exact XD h.ok.Xm (ACR y y1)),hyx];rfl
 refine h.step Br rfl rfl (fun t=>t) ?_ (fun _ _ fin hb=> ?_) rfl rfl (ATD _) fun p d q a=>⟨q,a,id⟩
 ·rw[ea];exact Sf.AP3 k h.a
 grind[Sf.ASv,GS.mono]
theorem ACg{n:Int}(e:(ML w n).2=0):Safe (ML w n).1∧Grow w (ML w n).1:=by
 have Br:=AAo h.ok e;unfold ML at e Br⊢
 try dsimp only at e Br⊢
 by_cases hn:Aj w n=0
 rotate_left
 ·simp_all
 rw[AMD (by omega)]at e Br⊢;simp only at e Br⊢;obtain⟨n1,n2,n3⟩:=EG hn;have ie:=(h.ok.node hn).1;have AA3:GS (AS w) (fun m=>m∈JG n w.lost)↔holds (AS w) (JG n w.lost)=true:=GS.list (II h.ok.lost ie);have hor:(fun m=>m∈JG n w.lost)=fun m=>(m∈w.lost∨m=n):=by funext m;exact propext ⟨fun hh=>(Nb.1 hh).symm,fun hh=>Nb.2 hh.symm⟩
 rw[hor]at AA3;have fw:w.AH.map (fun x=>(CA (AS w) x n).1)=w.AH.map fun x=>(x.1,x.2.1.map (Cs n),()):=ATF fun x hx=>(Uu (h.ok.AH x hx).1).2
 have fm:w.BW.map (fun m=>(B7 (AS w) m n).1)=w.BW.map fun m=>(m.1,m.2.1,m.2.2.1,m.2.2.2.1,m.2.2.2.2.1,m.2.2.2.2.2.1.map fun l=>less l [n],()):=ATF fun m hm=>(fG (h.ok.BW m hm).1).2
 rw[fw,fm]at Br⊢;have fN:∀m,A_ (w.BA (w.Am.set n.toNat Cl)) m=if m=n then Cl else A_ w m:=fun m=>F7 ⟨n1,n2⟩
 generalize hv:((((w.BA (w.Am.set n.toNat Cl)).EV (JG n w.lost)).A9 (w.AH.map fun x=>(x.1,x.2.1.map (Cs n),()))).Bi (w.BW.map fun m=>(m.1,m.2.1,m.2.2.1,m.2.2.2.1,m.2.2.2.2.1,m.2.2.2.2.2.1.map fun l=>less l [n],()))).FA (w.EC||holds (AS w) (JG n w.lost))=v at Br⊢
 have ea:Bl v=(Bl w).Vz (GS (AS w)) n:=by
  subst hv;refine St.eq rfl rfl rfl rfl rfl hor ?_ ?_ ?_ ?_ ?_ ?_ ?_ rfl
  ·show((w.EC||holds (AS w) (JG n w.lost))=true)=(w.EC=true∨GS (AS w) fun m=>m∈w.lost∨m=n)
   simp_all
  ·funext m
   show kS (A_ (w.BA (w.Am.set n.toNat Cl)) m).1=if m=n then fun _=>none else kS (A_ w m).1
   rw[fN];by_cases em:m=n
   ·rw[ALy em,ALy em];rfl
   simp_all
  ·funext m x
   show Sj (A_ (w.BA (w.Am.set n.toNat Cl)) m).2.1 x=(m≠n∧Sj (A_ w m).2.1 x)
   rw[fN];by_cases em:m=n
   ·rw[ALy em]
    exact propext ⟨fun⟨y,hy,_⟩=>by simp_all,fun hh=>absurd em hh.1⟩
   simp_all
  ·funext m
   show(A_ (w.BA (w.Am.set n.toNat Cl)) m).2.2.1=if m=n then 0 else(A_ w m).2.2.1
   grind
  ·funext x
   show(∃y∈w.AH.map fun x=>(x.1,x.2.1.map (Cs n),()),y.1=x)=(∃y∈w.AH,y.1=x)
   refine propext ⟨fun⟨y,hy,hx⟩=> ?_,fun⟨y,hy,hx⟩=>⟨_,ATS.2 ⟨y,hy,rfl⟩,hx⟩⟩;grind
  ·funext p
   show(FG (w.AH.map fun x=>(x.1,x.2.1.map (Cs n),())) p).map aO=((FG w.AH p).map aO).map _
   rw[y6 (f:=fun x:AM=>(x.1,x.2.1.map (Cs n),())) (g:=Cs n) (fun _=>rfl) (fun _=>rfl)];cases FG w.AH p with
   |none=>rfl
   |some x=>exact congrArg some uC
  ·show(w.BW.map _).head?.map eU=(w.BW.head?.map eU).map _
   cases w.BW with
   |nil=>rfl
   |cons m ms=>
    show some (eU (m.1,m.2.1,m.2.2.1,m.2.2.2.1,m.2.2.2.2.1,m.2.2.2.2.2.1.map fun l=>less l [n],()))=some _
    refine congrArg some (Md.eq rfl rfl rfl rfl (by simp[eU]) ?_);funext p k;refine propext ⟨fun⟨a1,a2,l,hl,hk⟩=> ?_,fun⟨⟨a1,a2,l,hl,hk⟩,cF⟩=> ?_⟩
    ·replace hl:(m.2.2.2.2.2.1.map fun l=>less l [n])[(A6 p-1).toNat]? =some l:=hl
     rw[ASJ,AMI]at hl;obtain⟨l',iS,rfl⟩:=hl;obtain⟨k1,k2⟩:=Rl.1 hk;exact⟨⟨a1,a2,l',iS,k1⟩,by simp_all⟩
    ·refine⟨a1,a2,less l [n],?_,Rl.2 ⟨hk,by simp_all⟩⟩
     simp_all
 have et:v.EC=(w.EC||holds (AS w) (JG n w.lost)):=by grind
 refine h.step Br (by rw[←hv];rfl) (by grind) (fun t=> ?_) ?_ (fun _ t fin hb=> ?_) ?_ ?_ ?_ ?_
 ·simp_all
 ·rw[ea];exact Sf.AQB GS.mono h.a
 ·rw[ea]
  refine Sf.AS1 GS.mono (fun hh=> ?_) h.a hb;rw[et,AA3.1 hh,Bool.or_true]at t;cases t
 ·rw[ea];rfl
 ·rw[ea];rfl
 ·rw[ea];exact ATD _
 ·exact fun p d q a=>⟨q,by rw[ea];exact a,id⟩
theorem ABp{n:Int}(e:(Lt w n).2=0):Safe (Lt w n).1∧Grow w (Lt w n).1:=by
 have Br:=AA6 h.ok e;unfold Lt at e Br⊢
 try dsimp only at e Br⊢
 by_cases h1:w.lost.contains n=true
 rotate_left
 ·simp_all
 rw[h1]at e Br⊢;simp only[AMP,AMO,AOR]at e Br⊢;by_cases hq:(W9 (AS w) w.Am w.lost n (max ((w.Ab.length:Int)-1) 0)).2=true
 rotate_left
 ·simp_all
 rw[hq]at Br⊢;simp only[AMP,AMO,AOR]at Br⊢;obtain⟨s1,s2,s3,s4⟩:=vi hq;rw[List.contains_eq_mem,AMc]at h1;have zU:0≤n∧n<(w.1.length:Int):=(EK.1 h.ok.lost).2.1 n h1;have hns:=h.ok.oR;have PY:0≤n∧n<(w.Am.length:Int):=by omega
 generalize (W9 (AS w) w.Am w.lost n (max ((w.Ab.length:Int)-1) 0)).1=S at*
 have fN:∀m,A_ (w.BA (w.Am.set n.toNat S)) m=if m=n then S else A_ w m:=fun m=>F7 PY
 have ea:Bl ((w.BA (w.Am.set n.toNat S)).EV (less w.lost [n]))=(Bl w).fill n (kS S.1) (max ((w.Ab.length:Int)-1) 0):=by
  refine St.eq rfl rfl rfl rfl rfl ?_ rfl ?_ ?_ ?_ rfl rfl rfl rfl
  ·funext m
   show(m∈less w.lost [n])=(m∈w.lost∧m≠n)
   rw[Rl,ATY]
  ·funext m
   show kS (A_ (w.BA (w.Am.set n.toNat S)) m).1=if m=n then kS S.1 else kS (A_ w m).1
   grind
  ·funext m x
   show Sj (A_ (w.BA (w.Am.set n.toNat S)) m).2.1 x=(m≠n∧Sj (A_ w m).2.1 x)
   rw[fN];by_cases em:m=n
   ·rw[ALy em,s2]
    exact propext ⟨fun⟨y,hy,_⟩=>by simp_all,fun hh=>absurd em hh.1⟩
   simp_all
  ·funext m
   show(A_ (w.BA (w.Am.set n.toNat S)) m).2.2.1=if m=n then max ((w.Ab.length:Int)-1) 0 else(A_ w m).2.2.1
   grind
 have k:Sf.uz (Bl w) n (kS S.1) (max ((w.Ab.length:Int)-1) 0):=by
  refine⟨h1,Int.le_max_left _ _,fun p y hy=> ?_,fun m p x hm hx=> ?_⟩
  ·rw[s2]at hy
   obtain⟨e,he,rfl⟩:=SD hy;obtain⟨e1,e2⟩:=Gn he;rcases pK e1 with e3|⟨s,e3,e4⟩
   ·simp_all
   ·obtain⟨j,hj,j1,j2⟩:=gU.1 e3
    rw[ATU]at j2;refine⟨(j:Int),j2,?_⟩
    show kS (A_ w (j:Int)).1 p=_
    unfold A_ storeAt;rw[ALy ⟨by omega,by omega⟩,AMV,Ny hj,j1,←e2];exact aB (Ls (s4 s e3).fo e4)
  ·replace hx:kS (A_ w m).1 p=some x:=hx
   obtain⟨e,he,rfl⟩:=SD hx;obtain⟨e1,e2⟩:=Gn he;unfold A_ at e1;by_cases hmn:0≤m∧m<(w.Am.length:Int)
   rotate_left
   ·grind
   rw[ALy hmn]at e1;have vT:m.toNat<w.Am.length:=by omega
   obtain⟨y,y1,y2⟩:=sJ (ss:=others w.lost 0 w.Am) (k:=[]) (s:=storeAt w m) (e:=e) List.Pairwise.nil (gU.2 ⟨m.toNat,vT,by grind[storeAt,Ny],by rw[ATU,AU0 hmn.1];exact hm⟩) e1;rw[s2,←e2];exact⟨_,aB y1,y2⟩
 refine h.step Br rfl rfl (fun t=>t) ?_ (fun _ _ fin hb=> ?_) ?_ ?_ ?_ ?_
 ·rw[ea];exact Sf.ANt k h.a
 ·rw[ea];exact Sf.ANW GS.mono k h.a hb
 ·rfl
 ·rfl
 ·rw[ea];exact ATD _
 ·exact fun p d q a=>⟨q,by rw[ea];exact a,id⟩
end
end Go.M
end
section
namespace Go.Sf
section
variable{H:(Int→Prop)→Prop} (hm:∀S T:Int→Prop,(∀n,S n→T n)→H S→H T) {ep off:Int→Int} {Pl:Int→Prop} {fin:Int→N6}
open Classical in
noncomputable def St.tell (H:(Int→Prop)→Prop) (s:St) (n:Int) (D:Int→Prop):St:=
 { s with wd:=fun q=>(s.wd q).map fun w=>if D q then⟨w.data,fun k=>w.nr k∨k=n,H (fun k=>w.nr k∨k=n)⟩else w, HO:=fun q=>(s.HO q).map fun d=>(d.1,d.2∨(D q∧ ∃w,s.wd q=some w∧H (fun k=>w.nr k∨k=n))) }
theorem ABQ{s:St}{n:Int}{D:Int→Prop}(h:∀q,¬D q):s.tell H n D=s:=by
 have h1:(s.tell H n D).wd=s.wd:=by
  funext q
  show(s.wd q).map _=_
  simp_all
 have h2:(s.tell H n D).HO=s.HO:=by
  funext q
  show(s.HO q).map _=_
  simp_all
 unfold St.tell at*;simp_all
theorem AD7{s:St}{p n:Int}{w:Wd}{D:Int→Prop}(hp:D p)(hw:s.wd p=some w):s.tell H n D=(s.ct H p n w).tell H n (fun q=>D q∧q≠p):=by
 have h1:(s.tell H n D).wd=((s.ct H p n w).tell H n (fun q=>D q∧q≠p)).wd:=by
  funext q
  show(s.wd q).map _=(if q=p then some (⟨w.data,fun k=>w.nr k∨k=n,H (fun k=>w.nr k∨k=n)⟩:Wd)else s.wd q).map _
  grind
 have h2:(s.tell H n D).HO=((s.ct H p n w).tell H n (fun q=>D q∧q≠p)).HO:=by
  funext q
  show(s.HO q).map _=(if q=p then(s.HO p).map (fun d=>(d.1,d.2∨H (fun k=>w.nr k∨k=n)))else s.HO q).map _
  by_cases e:q=p
  ·subst e
   rw[ALy rfl];cases s.HO q with
   |none=>rfl
   |some v=>simp_all
  ·rw[AMD e]
   cases s.HO q with
   |none=>rfl
   |some v=>simp[e,St.ct]
 grind[St.tell,St.ct]
include hm in
theorem pZ{n:Int}{T:Prop}:∀(L:AAO) {s:St} {D:Int→Prop},(∀q,D q→q∈L)→(∀p,D p→ ∃w,AAu ep s p n w)→GX H ep Pl s→(T→HQ H ep off Pl s fin)→
  GX H ep Pl (s.tell H n D)∧(T→HQ H ep off Pl (s.tell H n D) fin)
 |[],s,D,hD,_,ha,hb=>by
  rw[ABQ fun q hq=>by simpa using hD q hq];exact⟨ha,hb⟩
 |p::L,s,D,hD,hk,ha,hb=>by
  by_cases hp:D p
  ·obtain⟨w,kw⟩:=hk p hp
   rw[AD7 hp kw.wd];refine pZ L (fun q hq=> ?_) (fun q hq=> ?_) (AWD kw ha) fun t=>AVE hm kw ha (hb t)
   ·rcases ANv.1 (hD q hq.1)with e|e
    ·exact absurd e hq.2
    ·exact e
   ·obtain⟨v,kv⟩:=hk q hq.1
    exact⟨v,by simp only[St.ct];rw[AMD hq.2];exact kv.wd,kv.open_,kv.node,kv.there,kv.free,kv.has⟩
  ·exact pZ L (fun q hq=>by
    rcases ANv.1 (hD q hq)with e|e
    ·exact absurd hq (e▸hp)
    ·exact e) hk ha hb
def St.wo(s:St)(m:Md)(n:Int)(D:Int→Prop):St:={ s with md:=some { m with wrote:=fun q k=>m.wrote q k∨(D q∧k=n) } }
theorem pq{n:Int}{T:Prop}:∀(L:AAO) {s:St} {m:Md} {D:Int→Prop},(∀q,D q→q∈L)→s.md=some m→(∀p,D p→m.pl∧s.nodes m.ep n∧ ¬s.lost n∧s.kept n p=some (U4 s.len m p))→GX H ep Pl s→(T→HQ H ep off Pl s fin)→
  GX H ep Pl (s.wo m n D)∧(T→HQ H ep off Pl (s.wo m n D) fin)
 |[],s,m,D,hD,SX,_,ha,hb=>by
  have e:s.wo m n D=s:=by
   have:(fun q k=>m.wrote q k∨(D q∧k=n))=m.wrote:=by
    simp_all
   unfold St.wo;rw[this];cases s;simp_all
  simp_all
 |p::L,s,m,D,hD,SX,hk,ha,hb=>by
  by_cases hp:D p
  ·obtain⟨k1,k2,k3,k4⟩:=hk p hp
   have e:s.wo m n D=(s.wrt m p n).wo { m with wrote:=fun q k=>m.wrote q k∨(q=p∧k=n) } n (fun q=>D q∧q≠p):=by
    grind[St.wo,St.wrt]
   rw[e];refine pq L (fun q hq=> ?_) rfl (fun q hq=> ?_) (AWJ SX ha) fun t=>AU9 SX k1 k2 k3 k4 (hb t)
   ·grind
   ·exact hk q hq.1
  ·exact pq L (fun q hq=>by
    grind) SX hk ha hb
end
end Go.Sf
namespace Go.M
open Go.M.H (AJ AO As Ac AA CN AQ A7 AM AY A3 Ax BC)
open Go.Sf (N6 Wd Md St Rd r8 Pf GX HQ U7)
def xd:AAO:=(List.range 31).flatMap fun e:Nat=>(List.range 61).map fun o:Nat=>D1 (e:Int) (o:Int)
theorem sP{p:Int}(h:Pl p):p∈xd:=by
 obtain⟨h1,h2,h3⟩:=CF h;unfold xd;rw[List.mem_flatMap];refine⟨(AN p).toNat,List.mem_range.2 (by omega),ATS.2 ⟨(A6 p).toNat,List.mem_range.2 (by omega),?_⟩⟩;grind
theorem Tw{c:B9}{s:AO}{ep n:Int}:∀{l:List A7} {o:Int} {i:Nat},(BB c s ep n o l)[i]? =(l[i]?).map fun x=>if !x.2.2.1&&JO s (D1 ep (o+i))then EY c n x else x
 |[],o,i=>by rfl
 |x::l,o,0=>by simp[BB]
 |x::l,o,i+1=>by
  simp only[BB,AWU];rw[Tw (l:=l),show o+1+(i:Int)=o+((i+1:Nat):Int)by omega]
theorem fE{m:As}{s:AO}{n:Int}:∀{l:List AAO} {o:Int} {i:Nat},(Dz m s n o l)[i]? =(l[i]?).map fun x=>if NU m s (o+i)then JG n x else x
 |[],o,i=>by rfl
 |x::l,o,0=>by simp[Dz]
 |x::l,o,i+1=>by
  simp only[Dz,AWU];rw[fE (l:=l),show o+1+(i:Int)=o+((i+1:Nat):Int)by omega]
def turns(c:B9)(s:AO)(l:List CN)(n:Int)(ws:List AM)(p:Int):Bool:=
 ws.any fun x=>LJ s l n x&&(AN p==x.1&&(QO (BB c s x.1 n 1 x.2.1) (A6 p)&& !QO x.2.1 (A6 p)))
theorem bK{c:B9}{s:AO}{l:List CN}{n:Int}:∀{ws:List AM} {ss:List Ac},
  (FI false c s l n ws ss).2=ss.map fun t=>(t.1,t.2.1,t.2.2.1||turns c s l n ws t.1,())
 |[],ss=>by
  simp only[FI,turns,List.any_nil,AXW];simp_all
 |x::ws,ss=>by
  simp only[FI];split
  ·rename_i ht
   simp only;rw[bK,AUo];refine ATF fun t _=> ?_
   simp only[Function.comp,Nr,turns,List.any_cons,ht,AMk,AS7,Bool.or_assoc]
  ·rename_i ht
   simp only;rw[bK];refine ATF fun t _=> ?_
   have ht':LJ s l n x=false:=by simp_all
   simp only[turns,List.any_cons,ht',ATE,AS7]
theorem zR{g:Ac→Ac}(hg:∀t,(g t).1=t.1){l:List Ac}{q:Int}:JC (l.map g) q=(JC l q).map g:=by
 unfold JC;rw[List.find?_map];have:((fun s:Ac=>s.1==q)∘g)=fun s=>s.1==q:=by grind
 rw[this]
theorem WR{l:List A7}{o:Int}(h:1≤o):QO l o=true↔ ∃x,l[(o-1).toNat]? =some x∧x.2.2.1=true:=by
 unfold QO;by_cases hl:o≤(l.length:Int)
 ·rw[Ah.2 ⟨h,hl⟩,AMk,List.getD,AL5 (by omega)]
  simp
 ·rw[ATX.2 (fun hh:BM o 1 (l.length:Int)=true=>hl (Ah.1 hh).2),ATE,ATP (by omega)]
  simp
theorem ka{c:B9}{n:Int}{x:A7}(h:Ay c (JG n x.2.1)=true):aO (EY c n x)=⟨(aO x).data,fun k=>(aO x).nr k∨k=n,GS c fun k=>(aO x).nr k∨k=n⟩:=by
 have e:(fun k=>k∈JG n x.2.1)=fun k=>(aO x).nr k∨k=n:=by funext k;exact propext ⟨fun hh=>(Nb.1 hh).symm,fun hh=>Nb.2 hh.symm⟩
 refine Wd.eq rfl e ?_
 rw[←e];exact propext (GS.list h).symm
section
variable{w:AA} (h:Safe w)
include h
theorem ABY{n:Int}(e:(Jj false w n).2=0):Safe (Jj false w n).1∧Grow w (Jj false w n).1:=by
 have Br:=AAT h.ok e;unfold Jj at e Br⊢
 try dsimp only at e Br⊢
 by_cases hn:Aj w n=0
 rotate_left
 ·simp_all
 rw[AMD (by omega)]at e Br⊢;by_cases hq:(CZ (storeAt w n)).2=true
 rotate_left
 ·simp_all
 simp only[hq,AMP,AMO,AOR]at Br⊢;obtain⟨s1,s2,s3⟩:=KS (k:=1048575) hq;obtain⟨n1,n2,n3⟩:=EG hn;have ie:=(h.ok.node hn).1;have hs:=S9 hn;have hsy:(CZ (storeAt w n)).1=(D5 (storeAt w n) 1048575).1:=rfl;rw[←hsy]at s2 s3
 generalize (CZ (storeAt w n)).1=S at*
 have hk:Pf ((Bl w).kept n) (kS S.1) ((Bl w).late n):=by
  show Pf (kS (A_ w n).1) _ (Sj (A_ w n).2.1)
  rw[hs,s3];exact AFV s1.fo fun e=>Qk
 have w4:=gV (w:=w) (n:=n) (s:=S) ⟨n1,n2⟩ (by rw[s3]) (by simp_all)
 generalize hw1:w.BA (w.Am.set n.toNat S)=w1 at w4
 obtain⟨t1,_⟩:=eP h.ok (all:=false) (s:=S) ie (ws:=w.AH) (ss:=w.BX);rw[t1,bK]at Br⊢;have wds:∀x∈w.AH,∀y∈x.2.1,Ay (AS w) (JG n y.2.1)=true∧y.2.2.1=holds (AS w) y.2.1:=fun x hx y hy=>
  ⟨II ((h.ok.AH x hx).1.words y hy).2.1 ie,((h.ok.AH x hx).1.words y hy).2.2⟩
 have sv:(Bl w1).kept n=kS S.1:=by rw[w4];show(if n=n then kS S.1 else _)=_;simp_all
 have hsl:(Bl w1).sl n=S.2.2.1:=by
  rw[w4]
  show(A_ w n).2.2.1=_
  simp_all
 let D:Int→Prop:=fun p=> ∃x y,Pl p∧Xf w.AH (AN p)=some x∧LJ S w.Ab n x=true∧x.2.1[(A6 p-1).toNat]? =some y∧y.2.2.1=false∧JO S p=true
 have hDk:∀p,D p→ ∃v,Sf.AAu AN (Bl w1) p n v:=fun p ⟨x,y,d1,d2,d3,d4,d5,d6⟩=>by
  unfold LJ at d3;simp only[AML,AMc]at d3;obtain⟨g1,g2⟩:=Zj d2;refine⟨aO y,?_,?_,?_,?_,?_,?_⟩
  ·rw[w4]
   show(FG w.AH p).map aO=_
   rw[J1 d1 d2,d4];rfl
  ·show¬(y.2.2.1=true)
   simp_all
  ·rw[w4]
   show n∈Ao w.Ab (AN p)
   simp_all
  ·rw[w4];exact n3
  ·omega
  ·rw[sv]
   unfold JO at d6;cases hg:Ek p S.1 with
   |none=>simp_all
   |some z=>exact⟨_,aB hg⟩
 have ea2:Bl ((w1.A9 (w.AH.map fun x=>if LJ S w.Ab n x then(x.1,BB (AS w) S x.1 n 1 x.2.1,())else x)).Cy (w.BX.map fun t=>(t.1,t.2.1,t.2.2.1||turns (AS w) S w.Ab n w.AH t.1,())))=(Bl w1).tell (GS (AS w)) n D:=by
  have e1:∀p,(Bl w1).wd p=(FG w.AH p).map aO:=fun p=>by rw[w4];rfl
  have e2:∀p,(Bl w1).HO p=(JC w.BX p).map seS:=fun p=>by rw[w4];rfl
  refine St.eq rfl rfl rfl rfl rfl rfl rfl rfl rfl rfl ?_ ?_ rfl ?_
  ·rw[show((Bl w1).tell (GS (AS w)) n D).vW=(Bl w1).vW from rfl,w4]
   funext q
   show(∃y∈w.AH.map fun x=>if LJ S w.Ab n x then(x.1,BB (AS w) S x.1 n 1 x.2.1,())else x,y.1=q)=(∃y∈w.AH,y.1=q)
   refine propext ⟨fun⟨y,hy,hx⟩=> ?_,fun⟨y,hy,hx⟩=>⟨_,ATS.2 ⟨y,hy,rfl⟩,?_⟩⟩
   all_goals grind
  ·funext p
   show(FG (w.AH.map fun x=>if LJ S w.Ab n x then(x.1,BB (AS w) S x.1 n 1 x.2.1,())else x) p).map aO=((Bl w1).wd p).map _
   rw[e1];by_cases hp:Pl p
   rotate_left
   ·grind[lC]
   have z7:Xf (w.AH.map fun x=>if LJ S w.Ab n x then(x.1,BB (AS w) S x.1 n 1 x.2.1,())else x) (AN p)=(Xf w.AH (AN p)).map fun x=>if LJ S w.Ab n x then(x.1,BB (AS w) S x.1 n 1 x.2.1,())else x:=by
    unfold Xf;rw[List.find?_map];congr 2;grind
   cases hx:Xf w.AH (AN p)with
   |none=>
    grind[sR]
   |some x=>
    rw[hx]at z7;rw[J1 hp hx,J1 hp z7];obtain⟨g1,g2⟩:=Zj hx;have o1:=qW hp;dsimp only;by_cases ht:LJ S w.Ab n x=true
    ·rw[ALy ht]
     show((BB (AS w) S x.1 n 1 x.2.1)[(A6 p-1).toNat]?).map aO=_
     rw[Tw];have km:D1 x.1 (1+(((A6 p-1).toNat:Nat):Int))=p:=by
      rw[AU0 (by omega),g2,show 1+(A6 p-1)=A6 p by omega];exact(CF hp).2.2
     rw[km];cases hy:x.2.1[(A6 p-1).toNat]? with
     |none=>rfl
     |some y=>
      simp only[AUx];refine congrArg some ?_
      by_cases hd:(!y.2.2.1&&JO S p)=true
      ·rw[ALy hd]
       simp only[AML,AS9]at hd;rw[ALy (show D p from⟨x,y,hp,hx,ht,hy,hd.1,hd.2⟩)];exact ka (wds x g1 y (ANi hy)).1
      ·rw[AMD hd,AMD]
       grind
    ·rw[AMD ht]
     cases hy:x.2.1[(A6 p-1).toNat]? with
     |none=>rfl
     |some y=>
      simp only[AUx];rw[AMD];grind
  ·funext p
   show(JC (w.BX.map fun t=>(t.1,t.2.1,t.2.2.1||turns (AS w) S w.Ab n w.AH t.1,())) p).map seS=((Bl w1).HO p).map _
   rw[e2,zR (g:=fun t:Ac=>(t.1,t.2.1,t.2.2.1||turns (AS w) S w.Ab n w.AH t.1,())) (fun _=>rfl)];cases fN:JC w.BX p with
   |none=>rfl
   |some t=>
    obtain⟨g1,g2⟩:=YB fN;have hp:Pl p:=by rw[←g2];exact(h.ok.BX t g1).1
    have o1:=qW hp;simp only[AUx];refine congrArg some ?_
    show(t.2.1,(t.2.2.1||turns (AS w) S w.Ab n w.AH t.1)=true)=(t.2.1,t.2.2.1=true∨(D p∧ ∃v,(Bl w1).wd p=some v∧GS (AS w) fun k=>v.nr k∨k=n))
    refine congrArg (Prod.mk t.2.1) ?_
    rw[AS8,g2];refine propext (or_congr Iff.rfl ⟨fun ht=> ?_,fun⟨⟨x,y,d1,d2,d3,d4,d5,d6⟩,v,v1,v2⟩=> ?_⟩)
    ·unfold turns at ht
     rw[List.any_eq_true]at ht;obtain⟨x,hx,hh⟩:=ht;simp only[AML,ATQ,AS9]at hh;obtain⟨k1,k2,k3,k4⟩:=hh;rw[WR o1]at k3;obtain⟨z,z1,z2⟩:=k3;rw[Tw]at z1;rw[AMI]at z1;obtain⟨y,y1,y2⟩:=z1;have km:D1 x.1 (1+(((A6 p-1).toNat:Nat):Int))=p:=by
      rw[AU0 (by omega),←k2,show 1+(A6 p-1)=A6 p by omega];exact(CF hp).2.2
     rw[km]at y2;have hy0:y.2.2.1=false:=by
      cases hy0:y.2.2.1 with
      |false=>rfl
      |true=>
       have:QO x.2.1 (A6 p)=true:=(WR o1).2 ⟨y,y1,hy0⟩;simp_all
     have hwx:Xf w.AH (AN p)=some x:=by rw[k2];exact XD h.ok.Xm hx
     by_cases hnw:JO S p=true
     ·rw[hy0,hnw]at y2
      simp only[AS5,AMk,AS_]at y2;refine⟨⟨x,y,hp,hwx,k1,y1,hy0,hnw⟩,aO y,?_,?_⟩
      ·rw[e1,J1 hp hwx,y1];rfl
      ·have hS:=ka (c:=AS w) (n:=n) (x:=y) (wds x hx y (ANi y1)).1
       have hd:(aO (EY (AS w) n y)).done:=by rw[y2];exact z2
       simp_all
     simp_all
    ·obtain⟨g3,g4⟩:=Zj d2
     have km:D1 x.1 (1+(((A6 p-1).toNat:Nat):Int))=p:=by
      rw[AU0 (by omega),g4,show 1+(A6 p-1)=A6 p by omega];exact(CF hp).2.2
     rw[e1,J1 d1 d2,d4]at v1;cases v1;have hS:=ka (c:=AS w) (n:=n) (x:=y) (wds x g3 y (ANi d4)).1;unfold turns;rw[List.any_eq_true];refine⟨x,g3,?_⟩;rw[d3,g4];simp only[AMk,AXU,AML,AS9];refine⟨(WR o1).2 ⟨EY (AS w) n y,?_,?_⟩,?_⟩
     ·rw[Tw,d4,←g4,km,AUx,d5,d6]
      rfl
     ·show(aO (EY (AS w) n y)).done
      simp_all
     ·rw[ATX]
      intro hd;obtain⟨y',y1,y2⟩:=(WR o1).1 hd;simp_all
 have hDl:∀q,D q→q∈xd:=fun q ⟨_,_,d1,_⟩=>sP d1
 generalize hw2:(w1.A9 (w.AH.map fun x=>if LJ S w.Ab n x then(x.1,BB (AS w) S x.1 n 1 x.2.1,())else x)).Cy (w.BX.map fun t=>(t.1,t.2.1,t.2.2.1||turns (AS w) S w.Ab n w.AH t.1,()))=w2 at ea2
 have i2:∀(T:Prop) (fin:Int→N6),(T→HQ (GS (AS w)) AN A6 Pl (Bl w) fin)→GX (GS (AS w)) AN Pl (Bl w2)∧(T→HQ (GS (AS w)) AN A6 Pl (Bl w2) fin):=fun T fin hb=>by
  rw[ea2];refine Sf.pZ GS.mono xd hDl hDk ?_ fun t=> ?_
  ·rw[w4];exact Sf.qZ hk h.a
  ·rw[w4];exact Sf.pv GS.mono hk h.a (hb t)
 have em:w2.BW=w.BW:=by grind
 have hf:(Bl w2).len=(w.Ab.length:Int)∧(Bl w2).nodes=(Bl w).nodes∧(Bl w2).lost=(Bl w).lost∧(Bl w2).kept n=kS S.1:=by
  refine⟨by rw[←hw2,←hw1];rfl,by rw[←hw2,←hw1];rfl,by rw[←hw2,←hw1];rfl,?_⟩;rw[ea2];exact sv
 have i3:∀(T:Prop) (fin:Int→N6),(T→HQ (GS (AS w)) AN A6 Pl (Bl w) fin)→GX (GS (AS w)) AN Pl (Bl (w2.Bi (w.BW.map (G4 S w.Ab n))))∧(T→HQ (GS (AS w)) AN A6 Pl (Bl (w2.Bi (w.BW.map (G4 S w.Ab n)))) fin):=fun T fin hb=>by
  obtain⟨ia,ib⟩:=i2 T fin hb;cases hms:w.BW with
  |nil=>
   grind
  |cons m ms=>
   have SX:(Bl w2).md=some (eU m):=cv (ms:=ms) (by simp_all);have hm0:=h.ok.BW m (by simp_all);by_cases hc:(Ao w.Ab m.2.1).contains n=true
   rotate_left
   ·have e3:Bl (w2.Bi ((m::ms).map (G4 S w.Ab n)))=Bl w2:=by
     refine St.eq rfl rfl rfl rfl rfl rfl rfl rfl rfl rfl rfl rfl ?_ rfl
     rw[SX]
     show some (eU (G4 S w.Ab n m))=some (eU m)
     unfold G4;simp_all
    simp_all
   let E:Int→Prop:=fun p=>Pl p∧AN p=m.2.1∧(A6 p-1).toNat<m.2.2.2.2.2.1.length∧NU m S (A6 p)=true
   have e3:Bl (w2.Bi ((m::ms).map (G4 S w.Ab n)))=(Bl w2).wo (eU m) n E:=by
    refine St.eq rfl rfl rfl rfl rfl rfl rfl rfl rfl rfl rfl rfl ?_ rfl
    show some (eU (G4 S w.Ab n m))=some _
    unfold G4;rw[ALy hc];have hl:=(a_ (c:=AS w) (m:=m) (s:=S) ie (l:=m.2.2.2.2.2.1) (o:=1) hm0.1.wrote).2;refine congrArg some (Md.eq rfl rfl rfl rfl (by grind[eU]) ?_);funext p k
    show(Pl p∧AN p=m.2.1∧ ∃l,(Dz m S n 1 m.2.2.2.2.2.1)[(A6 p-1).toNat]? =some l∧k∈l)=((Pl p∧AN p=m.2.1∧ ∃l,m.2.2.2.2.2.1[(A6 p-1).toNat]? =some l∧k∈l)∨(E p∧k=n))
    rw[fE];refine propext ⟨fun⟨a1,a2,l,hl,hk⟩=> ?_,fun hh=> ?_⟩
    ·have o1:=qW a1
     rw[AMI]at hl;obtain⟨l',iS,e'⟩:=hl;rw[AU0 (by omega),show 1+(A6 p-1)=A6 p by omega]at e';by_cases qX:NU m S (A6 p)=true
     ·rw[ALy qX]at e'
      subst e';rcases Nb.1 hk with rfl|hk
      ·grind
      simp_all
     simp_all
    ·rcases hh with⟨a1,a2,l,hl,hk⟩|⟨⟨a1,a2,a3,a4⟩,rfl⟩
     ·refine⟨a1,a2,_,by rw[hl];rfl,?_⟩
      split
      ·exact Nb.2 (.inr hk)
      omega
     ·have o1:=qW a1
      refine⟨a1,a2,_,by rw[AL5 a3];rfl,?_⟩;rw[AU0 (by omega),show 1+(A6 p-1)=A6 p by omega];dsimp only;rw[ALy a4];exact Nb.2 (.inl rfl)
   rw[e3];refine Sf.pq xd (fun q hq=>sP hq.1) SX (fun p ⟨a1,a2,a3,a4⟩=> ?_) ia ib;unfold NU at a4;cases pV:Da m (A6 p)with
   |none=>simp_all
   |some en=>
    rw[pV]at a4;simp only[ATQ]at a4;obtain⟨⟨c1,_⟩,c2,c3⟩:=lg hm0.2.1 pV;have km:D1 m.2.1 (A6 p)=p:=by rw[←a2];exact(CF a1).2.2
    rw[km]at c2 c3;rw[hf.1,hf.2.1,hf.2.2.1,hf.2.2.2];refine⟨c1,by show n∈Ao w.Ab m.2.1;simp_all,n3,?_⟩;grind[aB]
 have ev:((w1.A9 (w.AH.map fun x=>if LJ S w.Ab n x then(x.1,BB (AS w) S x.1 n 1 x.2.1,())else x)).Cy (w.BX.map fun t=>(t.1,t.2.1,t.2.2.1||turns (AS w) S w.Ab n w.AH t.1,()))).Bi (w.BW.map (G4 S w.Ab n))=w2.Bi (w.BW.map (G4 S w.Ab n)):=by rw[hw2]
 rw[hw1,ev]at Br;refine h.step Br (by rw[←hw2,←hw1];rfl) (by grind) (fun t=>by grind) (i3 False (fun _=>⟨0,0,true,[]⟩) fun f=>f.elim).1 (fun _ _ fin hb=>(i3 True fin fun _=>hb).2 trivial) (by rw[←hw2,←hw1];rfl) (by rw[←hw2,←hw1];rfl) (by rw[←hw2,←hw1];exact ATD _) ?_
 intro p d q a1;have:(Bl (w2.Bi (w.BW.map (G4 S w.Ab n)))).HO p=(Bl w2).HO p:=rfl;rw[this,ea2]
 show∃q',((Bl w1).HO p).map _=some (d,q')∧(q→q')
 rw[w4]
 show∃q',((Bl w).HO p).map _=some (d,q')∧(q→q')
 grind
end
end Go.M
end
section
namespace Go.M
open Go.M.H (AJ AO As Ac AA CN AQ A7 AM AY A3 Ax BC)
open Go.Sf (N6 Wd Md St Rd r8 Pf GX HQ U7)
theorem AIn{p:Int}{l:List AJ}{e:AJ}(h:Ek p l=some e):e.1=p:=(Gn h).2
theorem AB6{w:AA}{p n:Int}{e:AJ}(h:Ek p (storeAt w n).1=some e):answer w p n=(n,true,e.1,e.2.1,e.2.2.1,e.2.2.2.1,()):=by
 unfold answer;rw[h]
theorem ABz{w:AA}{p n:Int}(h:Ek p (storeAt w n).1=none):answer w p n=(n,false,0,0,false,[],()):=by
 unfold answer;rw[h]
theorem YF{w:AA}{s:AAO}{p:Int}(hp:∀n e,Ek p (storeAt w n).1=some e→ET e=true):∀(ns:AAO) (b:Option AJ),
  (∀x,FX s p b (ns.map (answer w p))=some x→(b=some x∨ ∃n∈ns,n∈s∧Ek p (storeAt w n).1=some x))∧
  (∀x,b=some x→ ∃y,FX s p b (ns.map (answer w p))=some y∧x.2.1≤y.2.1)∧
  ∀n x,n∈ns→n∈s→Ek p (storeAt w n).1=some x→ ∃y,FX s p b (ns.map (answer w p))=some y∧x.2.1≤y.2.1
 |[],b=>⟨fun x h=> .inl h,fun x h=>⟨x,h,ATD _⟩,fun n x h=>by simp at h⟩
 |n::ns,b=>by
  simp only[AVJ,FX];cases hg:Ek p (storeAt w n).1 with
  |none=>
   rw[ABz hg];simp only[ATE,AMO,AOR];obtain⟨h1,h2,h3⟩:=YF (s:=s) hp ns b;grind
  |some e=>
   have he:Uv (n,true,e.1,e.2.1,e.2.2.1,e.2.2.2.1,())=e:=rfl;rw[AB6 hg,he];have OY:=AIn hg;by_cases hs:n∈s
   ·rw[show(true&&(s.contains n&&(ET e&&e.1==p)))=true by grind,ALy rfl]
    obtain⟨h1,h2,h3⟩:=YF (s:=s) hp ns (some (match b with|some x=>better x e|none=>e));refine⟨fun x hx=> ?_,fun x hx=> ?_,fun m x hm hsm hx=> ?_⟩
    ·grind[Option.some.injEq,better]
    ·subst hx
     obtain⟨y,y1,y2⟩:=h2 _ rfl;grind[better]
    ·rcases ANv.1 hm with rfl|hm
     ·rw[hg]at hx;cases hx
      obtain⟨y,y1,y2⟩:=h2 _ rfl;grind[better]
     grind
   ·rw[show(true&&(s.contains n&&(ET e&&e.1==p)))=false by simp[hs],AMD (by simp)]
    obtain⟨h1,h2,h3⟩:=YF (s:=s) hp ns b;grind
def ql(e:A3):Bool:=BM e.1 1 3
structure fL (ss:List Ac) (r:AY):Prop where
 fo:(r.2.2.1.filter ql).Pairwise fun a b=>a.2.1<b.2.1
 below:∀e∈r.2.2.1,ql e=true→Pl e.2.1∧e.2.1<D1 r.1 r.2.1
 HO:∀e∈r.2.2.1,e.1=1→ ∃s∈ss,s.1=e.2.1∧s.2.1=e.2.2.1
def AAj(r:AY):Prop:= ∀e∈r.2.2.1,e.1≠3
theorem td{l:List A3}{ev:A3}{p:Int}(h:sL l p=none∨ev.2.1≠p∨ev.1≠1):sL (l++[ev]) p=if ev.1=1∧ev.2.1=p then some ev.2.2.1 else sL l p:=by
 unfold sL at*;grind
theorem AEZ{p:Int}{e o:Int}(hp:Pl p)(ho:1≤o∧o≤100):p<D1 e o↔AN p<e∨(AN p=e∧A6 p<o):=by
 obtain⟨h1,h2,h3⟩:=CF hp;grind[D1]
theorem kV{c:B9}{g:AQ}{sure:Int}{r:AY}{l:List Ax}(h:(Bz c g sure r l).2=0):
  zI c g∧AE3 r∧Ay c (l.map fun a=>a.1)=true∧r.1≤g.1.length∧
  (
   (g.2.1≥D1 r.1 r.2.1∧(Bz c g sure r l).1=(AN g.2.1,A6 g.2.1+1,r.2.2.1++[(5,g.2.1,[],())],()))∨
   (g.2.1<D1 r.1 r.2.1∧(GU g.1 r.1).2.1=true∧r.2.1>(GU g.1 r.1).2.2.1∧(Bz c g sure r l).1=(r.1+1,1,r.2.2.1++[(4,r.1+1,[],())],()))∨
   (g.2.1<D1 r.1 r.2.1∧((GU g.1 r.1).2.1=true→r.2.1≤(GU g.1 r.1).2.2.1)∧((GU g.1 r.1).2.1=false→r.2.1≤sure)∧r.2.1≤60∧JT c (GU g.1 r.1).1 ((l.map fun a=>a.1).filter (GU g.1 r.1).1.contains)=true∧
    (Bz c g sure r l).1=(r.1,r.2.1+1,r.2.2.1++[HC (D1 r.1 r.2.1) (FX (GU g.1 r.1).1 (D1 r.1 r.2.1) none l)],()))):=by
 unfold Bz at h⊢;by_cases c1:(!(Mc c g&&(XF r&&Ay c (l.map fun a=>a.1))))=true
 ·simp_all
 rw[AMD c1]at h⊢;have c1':Mc c g=true∧XF r=true∧Ay c (l.map fun a=>a.1)=true:=by
  simp_all
 by_cases c2:(decide (r.1>g.1.length)||decide (r.2.2.1.length=120))=true
 ·simp_all
 rw[AMD c2]at h⊢;have hle:r.1≤g.1.length:=by
  simp_all
 refine⟨Iz.1 c1'.1,Qs.1 c1'.2.1,c1'.2.2,hle,?_⟩;dsimp only at h⊢;by_cases c3:g.2.1≥D1 r.1 r.2.1
 ·simp_all
 rw[AMD c3]at h⊢
 right
 have c3':g.2.1<D1 r.1 r.2.1:=by omega
 rw[show g.1.getD (r.1-1).toNat GJ=GU g.1 r.1 from rfl]at h⊢;grind
theorem nz:∀(l:List A7) (i:Nat),i<U_ l→ ∃x,l[i]? =some x∧x.2.2.1=true
 |[],i,h=>by simp[U_]at h
 |x::l,i,h=>by
  unfold U_ at h;split at h
  ·rename_i hx
   cases i with
   |zero=>simp_all
   |succ i=>exact nz l i (by omega)
  omega
structure Reached (w:AA):Prop where
 safe:Safe w
 out:∀r∈w.AR,fL w.BX r
 whole:w.EC=false→ ∀r∈w.AR,AAj r
theorem aS{s:Ac}:∀{l:List Ac},S8 (fun s:Ac=>s.1) l→s∈l→JC l s.1=some s
 |[],_,h=>by simp at h
 |y::l,ha,h=>by
  simp only[S8,ARf]at ha;unfold JC;rw[AUh];rcases ANv.1 h with rfl|h
  ·rw[AXU]
  ·rw[AQJ.2 (fun e=>by grind)]
   exact aS ha.2 h
theorem Grow.mem{w v:AA}(h:Grow w v)(hw:NN w){s:Ac}(hs:s∈w.BX):∃t∈v.BX,t.1=s.1∧t.2.1=s.2.1∧(s.2.2.1=true→t.2.2.1=true):=by
 obtain⟨q',e,h2⟩:=h s.1 s.2.1 (s.2.2.1=true) (by
  show(JC w.BX s.1).map seS=_
  rw[aS hw.Xp hs];rfl)
 replace e:(JC v.BX s.1).map seS=some (s.2.1,q'):=e
 rw[AMI]at e;obtain⟨t,e1,e2⟩:=e;grind[YB,seS,Prod.mk.injEq]
theorem fL.grow{w v:AA}(h:Grow w v)(hw:NN w){r:AY}(k:fL w.BX r):fL v.BX r:=
 ⟨k.fo,k.below,fun e he h1=>by
  obtain⟨s,s1,s2,s3⟩:=k.HO e he h1;obtain⟨t,t1,t2,t3,_⟩:=h.mem hw s1;grind⟩
theorem Reached.of{w v:AA}(h:Reached w)(k:Safe v∧Grow w v)(hr:v.AR=w.AR)(ht:v.EC=false→w.EC=false):Reached v:=
 ⟨k.1,fun r hm=>(h.out r (by simp_all)).grow k.2 h.safe.ok,fun hv r hm=>h.whole (ht hv) r (by simp_all)⟩
theorem vz{ss:List Ac}{r:AY}(k:fL ss r){p:Int}(hp:D1 r.1 r.2.1≤p):sL r.2.2.1 p=none:=by
 unfold sL;rw[AWk,List.find?_eq_none];intro e he hh;simp only[AML,ATQ]at hh;have:=(k.below e he (by unfold ql;rw[hh.1];rfl)).2;omega
theorem fL.app{ss:List Ac}{r:AY}(k:fL ss r){e o:Int}{ev:A3}(h1:D1 r.1 r.2.1≤D1 e o)(h2:ql ev=true→D1 r.1 r.2.1≤ev.2.1∧Pl ev.2.1∧ev.2.1<D1 e o)(h3:ev.1=1→ ∃s∈ss,s.1=ev.2.1∧s.2.1=ev.2.2.1):
  fL ss (e,o,r.2.2.1++[ev],()):=by
 refine⟨?_,fun x hx hp=> ?_,fun x hx h1=> ?_⟩
 ·show((r.2.2.1++[ev]).filter ql).Pairwise _
  rw[List.filter_append,List.pairwise_append];refine⟨k.fo,?_,fun a ha b hb=> ?_⟩
  ·grind
  ·obtain⟨b1,b2⟩:=ATL.1 hb
   rw[ATY.1 b1]at b2⊢;obtain⟨a1,a2⟩:=ATL.1 ha;have:=(k.below a a1 a2).2;grind
 ·show Pl x.2.1∧x.2.1<D1 e o
  rcases AOs.1 hx with hx|hx
  ·have:=k.below x hx hp
   grind
  simp_all
 ·rcases AOs.1 hx with hx|hx
  ·exact k.HO x hx h1
  simp_all
theorem lu{l:List CN}{e:Int}(h:1≤e∧e≤(l.length:Int)):Ao l e=(GU l e).1:=by
 unfold Ao;rw[Ah.2 h,ALy rfl];rfl
def Sm(w v:AA):Prop:=v.AR=w.AR∧(v.EC=false→w.EC=false)
theorem AO5{w:AA}(a:Int):Sm w (L5 w a).1:=by
 unfold L5
 try dsimp only
 repeat' split
 all_goals exact⟨rfl,id⟩
theorem AWO{w:AA}(a:Int)(d:ACC):Sm w (doAdd w a d).1:=by
 unfold doAdd
 try dsimp only
 repeat' split
 all_goals exact⟨rfl,id⟩
theorem AJk{w:AA}(a b n:Int):Sm w (IJ w a b n).1:=by
 unfold IJ;unfold putAt
 try dsimp only
 repeat' split
 all_goals exact⟨rfl,id⟩
theorem AKq{w:AA}(n k:Int):Sm w (IQ w n k).1:=by
 unfold IQ;unfold putAt
 try dsimp only
 repeat' split
 all_goals exact⟨rfl,id⟩
theorem ANO{w:AA}(n:Int):Sm w (Lt w n).1:=by
 unfold Lt
 try dsimp only
 repeat' split
 all_goals exact⟨rfl,id⟩
theorem AOH{w:AA}:Sm w (MC w ).1:=by
 unfold MC
 try dsimp only
 repeat' split
 all_goals exact⟨rfl,id⟩
theorem APu{w:AA}(n:Int):Sm w (MJ w n).1:=by
 unfold MJ
 try dsimp only
 repeat' split
 all_goals exact⟨rfl,id⟩
theorem AQ2{w:AA}:Sm w (MO w ).1:=by
 unfold MO
 try dsimp only
 repeat' split
 all_goals exact⟨rfl,id⟩
theorem AUY{w:AA}(b n:Int):Sm w (SN w b n).1:=by
 unfold SN;unfold putAt
 try dsimp only
 repeat' split
 all_goals exact⟨rfl,id⟩
theorem ALI{w:AA}:Sm w (IH w ).1:=by
 unfold IH
 try dsimp only
 repeat' split
 all_goals exact⟨rfl,id⟩
theorem APZ{w:AA}(a:Int):Sm w (OO w a).1:=by
 unfold OO
 try dsimp only
 repeat' split
 all_goals exact⟨rfl,id⟩
theorem AND{w:AA}(a:Int):Sm w (M7 w a).1:=by
 unfold M7
 try dsimp only
 repeat' split
 all_goals exact⟨rfl,id⟩
theorem AHi{w:AA}(n:Int):Sm w (IV w n).1:=by
 unfold IV;unfold putAt
 try dsimp only
 repeat' split
 all_goals exact⟨rfl,id⟩
theorem APV{w:AA}(n:Int):Sm w (Jj false w n).1:=by
 unfold Jj;dsimp only
 repeat' split
 all_goals exact⟨rfl,id⟩
theorem AQY{w:AA}(n:Int):Sm w (ML w n).1:=by
 unfold ML;dsimp only;split
 ·exact⟨rfl,id⟩
 ·refine⟨rfl,fun h=> ?_⟩
  grind
theorem Rd.eq{a b:Rd}(h1:a.e=b.e)(h2:a.o=b.o)(h3:a.told=b.told):a=b:=by
 cases a;simp_all
section
variable{w:AA} (h:Reached w)
include h
theorem y_{a k:Int}(e:(H8 w a k).2=0):Reached (H8 w a k).1∧Grow w (H8 w a k).1:=by
 have Br:=vQ h.safe.ok e;unfold H8 at e Br⊢
 try dsimp only at e Br⊢
 by_cases h1:BM a 0 1=true
 rotate_left
 ·simp_all
 rw[h1]at e Br⊢;simp only[AMP,AMO,AOR]at e Br⊢;rw[Ah]at h1;have hnr:=h.safe.ok.mu;have hrm:=BG (d:=Au) (l:=w.AR) (i:=a.toNat) (by omega)
 generalize w.AR.getD a.toNat Au=r at*
 by_cases h2:(Bz (AS w) (B3 w) (U3 w r.1) r (answers w (D1 r.1 r.2.1) (An k))).2=0
 rotate_left
 ·simp_all
 rw[AMD (by omega)]at Br⊢;obtain⟨rg,ro,rn,rl,cases_⟩:=kV h2;have rl':r.1≤(w.Ab.length:Int):=rl;have rgn:w.Ab.length≤30:=rg.n;have re:=ro.ep;have rof:=ro.off;have ADP:=h.out r hrm
 generalize hq:(Bz (AS w) (B3 w) (U3 w r.1) r (answers w (D1 r.1 r.2.1) (An k))).1=q at Br cases_⊢
 have cO:(Bl w).cl r.1↔(GU w.Ab r.1).2.1=true:=⟨fun hh=>hh.2,fun hh=>⟨⟨re.1,rl'⟩,hh⟩⟩;have hla:(Bl w).last r.1=(GU w.Ab r.1).2.2.1:=ALy re.1;have ea:Bl (w.Cw (w.AR.set a.toNat q))=Bl w:=rfl
 suffices hs:fL w.BX q∧(w.EC=false→AAj q∧ ∀fin,HQ (GS (AS w)) AN A6 Pl (Bl w) fin→U7 AN A6 Pl (Bl w) fin (tW r)→U7 AN A6 Pl (Bl w) fin (tW q))by
  refine⟨⟨⟨Br,by rw[ea];exact h.safe.a,fun hv=> ?_⟩,fun x hx=> ?_,fun hv x hx=> ?_⟩,fun p d q a=>⟨q,a,id⟩⟩
  ·obtain⟨fin,b1,b2⟩:=h.safe.b hv
   refine⟨fin,b1,fun x hx=> ?_⟩;grind
  ·rcases ATR hx with hx|rfl
   ·exact h.out x hx
   simp_all
  ·rcases ATR hx with hx|rfl
   ·exact h.whole hv x hx
   grind
 have AUL:∀(kd:Int) (x:Int),kd≠1→ ∀p,sL (r.2.2.1++[(kd,x,[],())]) p=sL r.2.2.1 p:=fun kd x hk p=>by
  rw[td (.inr (.inr hk)),AMD (fun hh=>hk hh.1)]
 have AM1:∀(kd:Int) (x:Int),kd≠3→w.EC=false→ ∀e∈r.2.2.1++[(kd,x,[],())],e.1≠3:=fun kd x hk ht e he=>by
  rcases AOs.1 he with he|he
  ·exact h.whole ht r hrm e he
  simp_all
 rcases cases_ with⟨c1,rfl⟩|⟨c1,c2,c3,rfl⟩|⟨c1,c2,c3,c4,c5,rfl⟩
 ·
  have c1':w.trim≥D1 r.1 r.2.1:=c1;have ht:Pl w.trim:=by
   rcases rg.trim with h0|h0
   ·grind[D1]
   ·exact h0.1
  have htr:=(CF ht).2.2;have hof:=(CF ht).2.1;refine⟨ADP.app (by show D1 r.1 r.2.1≤D1 (AN w.trim) (A6 w.trim+1);grind[D1]) (fun hp=>by cases hp) (fun hh=>by omega),fun hv=>⟨AM1 5 _ (by decide) hv,fun fin hB hR=> ?_⟩⟩;have hn: ¬Sf.Nk AN A6 (tW r) (Bl w).trim:=fun hh=>by
   have:=(AEZ (e:=r.1) (o:=r.2.1) ht (by omega)).2 hh;omega
  have:=Sf.AQ6 (s:=Bl w) ht hn (fun p hp=>ep1 hp) (fun p q hp hq hh=>(tO hp hq).2 hh) hR;have er:tW (AN (B3 w).2.1,A6 (B3 w).2.1+1,r.2.2.1++[(5,(B3 w).2.1,[],())],())={ tW r with e:=AN (Bl w).trim,o:=A6 (Bl w).trim+1 }:=by
   exact Rd.eq rfl rfl (funext (AUL 5 _ (by decide)))
  simp_all
 ·refine⟨ADP.app (by unfold D1;omega) (fun hp=>by cases hp) (fun hh=>by omega),fun hv=>⟨AM1 4 _ (by decide) hv,fun fin hB hR=> ?_⟩⟩
  have:=Sf.AUO (s:=Bl w) (r:=tW r) (cO.2 c2) (by rw[show(tW r).e=r.1 from rfl,hla];exact c3) (fun p hp=>qW hp) hR;have er:tW (r.1+1,1,r.2.2.1++[(4,r.1+1,[],())],())={ tW r with e:=(tW r).e+1,o:=1 }:=by
   exact Rd.eq rfl rfl (funext (AUL 4 _ (by decide)))
  simp_all
 ·
  obtain⟨p1,p2,p3⟩:=Iu (e:=r.1) (o:=r.2.1) ⟨re.1,by omega⟩ ⟨rof.1,c4⟩;have Kg:D1 r.1 r.2.1<D1 r.1 (r.2.1+1):=by unfold D1;omega
  generalize hp:D1 r.1 r.2.1=p at*
  have AZw:∀n e,Ek p (storeAt w n).1=some e→ET e=true:=fun n e he=>by
   obtain⟨e1,_⟩:=Gn he;unfold storeAt at e1;by_cases hn:n.toNat<w.Am.length
   ·exact(h.safe.ok.Am _ hn).1.kept e e1
   simp_all
  have AVI:answers w p (An k)=((An k).filter fun n=>Aj w n==0).map (answer w p):=rfl;have AYy:(answers w p (An k)).map (fun a=>a.1)=(An k).filter fun n=>Aj w n==0:=by
   rw[AVI,AUo];have:((fun a:Ax=>a.1)∘answer w p)=id:=by
    funext n
    simp only[Function.comp,answer];grind
   simp_all
  have hwe:(B3 w).1=w.Ab:=rfl;rw[hwe]at c2 c3 c5⊢;rw[AYy]at c5;rw[AVI]
  generalize hns:(An k).filter (fun n=>Aj w n==0)=ns at*
  have hn0:∀n∈ns,Aj w n=0:=fun n hn=>by
   grind
  obtain⟨b1,b2,b3⟩:=YF (w:=w) (s:=(GU w.Ab r.1).1) AZw ns none
  generalize AeA:FX (GU w.Ab r.1).1 p none (ns.map (answer w p))=bD at*
  have PY:∀x,bD=some x→ ∃n∈ns,n∈(GU w.Ab r.1).1∧Ek p (storeAt w n).1=some x:=fun x hx=>(b1 x hx).resolve_left (by simp)
  have sv:∀n∈ns,(Bl w).kept n p=kS (storeAt w n).1 p:=fun n hn=>by
   show kS (A_ w n).1 p=_
   rw[S9 (hn0 n hn)]
  have hfe:(HC p bD).2.1=p:=by
   unfold HC;cases bD with
   |none=>rfl
   |some x=>grind
  have ADT:(HC p bD).1=1→ ∃s∈w.BX,s.1=(HC p bD).2.1∧s.2.1=(HC p bD).2.2.1:=fun hk1=>by
   cases hb:bD with
   |none=>rw[hb]at hk1;cases hk1
   |some x=>
    rw[hb]at hk1;obtain⟨n,n1,n2,n3⟩:=PY x hb;cases hx:x.2.2.1 with
    |true=>grind[HC]
    |false=>
     have hi:Sf.EH (Bl w) (Ut x):= .inl ⟨n,by
      show(Bl w).kept n x.1=_
      rw[(Gn n3).2,sv n n1];exact aB n3⟩
     obtain⟨z,hz⟩:=h.safe.a.hO _ hi hx
     replace hz:(JC w.BX x.1).map seS=some (x.2.2.2.1,z):=hz
     rw[AMI]at hz;obtain⟨t,t1,t2⟩:=hz;obtain⟨t3,t4⟩:=YB t1;unfold seS at t2;simp only[APv]at t2;refine⟨t,t3,?_,?_⟩
     ·rw[t4,(Gn n3).2];simp_all
     grind[HC]
  refine⟨ADP.app (by omega) (fun _=>by rw[hfe,hp];exact⟨ATD _,p1,Kg⟩) ADT,fun hv=> ?_⟩;have kk:∀fin,HQ (GS (AS w)) AN A6 Pl (Bl w) fin→Sf.yL (GS (AS w)) AN A6 Pl (Bl w) p (fun n=>n∈ns∧n∈(GU w.Ab r.1).1) (bD.map Ut):=fun fin hB=>by
   refine⟨p1,c1,fun hc=> ?_,fun hc=> ?_,fun n hn=>⟨?_,?_⟩,fun hH=> ?_,fun hb n hn=> ?_,fun x hb=> ?_⟩
   ·rw[p2,cO]at hc
    have ADy:=c3 (by simp_all);unfold U3 at ADy;cases hf:w.AH.find? (fun x=>x.1==r.1)with
    |none=>grind
    |some x=>
     rw[hf]at ADy;simp only at ADy;obtain⟨y,y1,y2⟩:=nz x.2.1 (r.2.1-1).toNat (by omega);have hwd:(Bl w).wd p=some (aO y):=by
      show(FG w.AH p).map aO=_
      rw[J1 p1 (y:=x) (by rw[p2];exact hf),p3,y1];rfl
     obtain⟨z,z1,z2⟩:=(h.safe.a.wg p _ hwd).2.2.1;exact⟨_,z,z1,z2 y2⟩
   ·simp_all
   ·exact(EG (hn0 n hn.1)).2.2
   ·show n∈Ao w.Ab (AN p)
    grind[lu]
   ·unfold JT at c5
    simp only[AML,AS9]at c5;obtain⟨g1,g2,g3,g4⟩:=c5;have qw:Ay (AS w) (less (GU w.Ab r.1).1 (ns.filter (GU w.Ab r.1).1.contains))=true:=Lh _ (Nl g1);have:GS (AS w) (fun n=>n∈less (GU w.Ab r.1).1 (ns.filter (GU w.Ab r.1).1.contains)):=by
     refine GS.mono _ _ (fun n hn=> ?_) hH;have hn1:n∈Ao w.Ab (AN p):=hn.1;grind[lu,Rl]
    grind[GS.list]
   ·rw[AWk]at hb
    rw[sv n hn.1];unfold kS;rw[AWk];cases hg:Ek p (storeAt w n).1 with
    |none=>rfl
    |some x=>
     grind
   ·rw[AMI]at hb
    obtain⟨y,y1,rfl⟩:=hb;obtain⟨n,n1,n2,n3⟩:=PY y y1;refine⟨⟨n,⟨n1,n2⟩,by grind[aB]⟩,fun m z hm hz=> ?_⟩;rw[sv m hm.1]at hz;obtain⟨u,u1,rfl⟩:=SD hz;obtain⟨v,v1,v2⟩:=b3 m u hm.1 hm.2 u1;rw[y1]at v1;cases v1;exact v2
  obtain⟨fin0,hB0,_⟩:=h.safe.b hv;obtain⟨x0,hx0,_⟩:=Sf.qI GS.mono (kk fin0 hB0) h.safe.a hB0;rw[AMI]at hx0;obtain⟨y,hy,rfl⟩:=hx0;subst hy;refine⟨fun ev hev=> ?_,fun fin hB hR=> ?_⟩
  ·rcases AOs.1 hev with hev|hev
   ·exact h.whole hv r hrm ev hev
   grind[List.mem_singleton,HC]
  ·have:=Sf.ANa GS.mono (kk fin hB) h.safe.a hB (r:=tW r) p2 p3 (fun p q hp hq h1 h2=>sY hp hq h1 h2) hR (x:=Ut y) rfl
   have er:tW (r.1,r.2.1+1,r.2.2.1++[HC p (some y)],())=(tW r).read p (Ut y):=by
    refine Rd.eq rfl rfl ?_
    funext x
    show sL (r.2.2.1++[HC p (some y)]) x=if x=p then(if(Ut y).hole then none else some (Ut y).data)else sL r.2.2.1 x
    by_cases ex:x=p
    ·subst ex
     rw[ALy rfl,td (.inl (vz ADP (by omega)))];have hno:=vz ADP (p:=x) (by omega);grind[HC,Ut]
    ·rw[AMD ex,td (.inr (.inl (by omega))),AMD (by omega)]
   simp_all
theorem ADK{d:BC}(hd:d.2.2.2.2.1.length≤40)(e:(Li false w d).2=0):Reached (Li false w d).1∧Grow w (Li false w d).1:=by
 have hs:=h.safe;have mk:∀{v:AA},Safe v∧Grow w v→Sm w v→Reached v∧Grow w v:=fun k hm=>⟨h.of k hm.1 hm.2,k.2⟩
 unfold Li at e⊢;by_cases hc:d.1=1
 ·rw[ALy hc]at e⊢;grind[AB5,AO5]
 rw[AMD hc]at e⊢;clear hc;by_cases hc:d.1=2
 ·rw[ALy hc]at e⊢;grind[AFr,AWO]
 rw[AMD hc]at e⊢;clear hc;by_cases hc:d.1=3
 ·rw[ALy hc]at e⊢;grind[yi,AJk]
 rw[AMD hc]at e⊢;clear hc;by_cases hc:d.1=4
 ·rw[ALy hc]at e⊢;grind[ABY,APV]
 rw[AMD hc]at e⊢;clear hc;by_cases hc:d.1=5
 ·rw[ALy hc]at e⊢;grind[ze,AKq]
 rw[AMD hc]at e⊢;clear hc;by_cases hc:d.1=6
 ·rw[ALy hc]at e⊢;grind[ACg,AQY]
 rw[AMD hc]at e⊢;clear hc;by_cases hc:d.1=7
 ·rw[ALy hc]at e⊢;grind[ABp,ANO]
 rw[AMD hc]at e⊢;clear hc;by_cases hc:d.1=8
 ·rw[ALy hc]at e⊢;grind[ABJ,AOH]
 rw[AMD hc]at e⊢;clear hc;by_cases hc:d.1=9
 ·rw[ALy hc]at e⊢;grind[ACZ,APu]
 rw[AMD hc]at e⊢;clear hc;by_cases hc:d.1=10
 ·rw[ALy hc]at e⊢;grind[AB1,AQ2]
 rw[AMD hc]at e⊢;clear hc;by_cases hc:d.1=11
 ·rw[ALy hc]at e⊢;grind[AFB,AUY]
 rw[AMD hc]at e⊢;clear hc;by_cases hc:d.1=12
 ·rw[ALy hc]at e⊢;grind[yB,ALI]
 rw[AMD hc]at e⊢;clear hc;by_cases hc:d.1=13
 ·rw[ALy hc]at e⊢;grind[AB9,APZ]
 rw[AMD hc]at e⊢;clear hc;by_cases hc:d.1=14
 ·rw[ALy hc]at e⊢;exact y_ h e
 rw[AMD hc]at e⊢;by_cases Zb:d.1=15
 ·rw[ALy Zb]at e⊢;grind[ACf,AND]
 rw[AMD Zb]at e⊢;grind[yM,AHi]
end
end Go.M
end
section
namespace Go.M
open Go.M.H (AJ AO As Ac AA CN AQ A7 AM AY A3 Ax BC)
open Go.Sf (N6 Wd Md St Rd r8 Pf GX HQ U7)
theorem fD{w:AA}{d:BC}(h:Reached w)(e:(CD false w d).2=0):Reached (CD false w d).1∧Grow w (CD false w d).1:=by
 unfold CD at e⊢;by_cases hc:(!Fg w|| !PM d)=true
 ·rw[ALy hc]at e;cases e
 rw[AMD hc]at e⊢;simp only[AS8,AS9,AXi,Bool.not_eq_false]at hc;exact ADK h (bP hc.2) e
theorem r7:∀{l:List BC} {w:AA},Reached w→Reached (runM false w l).1
 |[],w,h=>h
 |d::l,w,h=>by
  simp only[runM];refine r7 ?_
  split
  ·rename_i e
   exact(fD h e).1
  ·exact h
theorem ACt{c:B9}(hc:Ee c=true):Reached (ER c):=by
 have hw:=(dp hc).1;have fN:∀n,A_ (ER c) n=Cl:=fun n=>by
  unfold A_ storeAt;split
  ·rename_i hn
   have hl:n.toNat<(List.replicate c.1.length Cl).length:=by
    have:n<((List.replicate c.1.length Cl).length:Int):=hn.2;omega
   show(List.replicate c.1.length Cl).getD n.toNat Cl=Cl
   rw[Ny hl,List.getElem_replicate]
  ·rfl
 have hk:∀n p,(Bl (ER c)).kept n p=none:=fun n p=>by
  show kS (A_ _ n).1 p=none
  rw[fN];rfl
 have hl:∀n x,¬(Bl (ER c)).late n x:=fun n x hh=>by
  have:Sj (A_ (ER c) n).2.1 x:=hh;rw[fN]at this;obtain⟨e,he,_⟩:=this;simp[Cl]at he
 have hi:∀x,¬Sf.EH (Bl (ER c)) x:=fun x hh=>by
  rcases hh with⟨n,hn⟩|⟨n,hn⟩|⟨m,hm,_⟩
  ·rw[hk]at hn;cases hn
  ·exact hl n x hn
  ·cases hm
 have hwd:∀p v,(Bl (ER c)).wd p≠some v:=fun p v hh=>by
  replace hh:(FG [] p).map aO=some v:=hh
  rw[sR (ws:=[]) rfl]at hh;cases hh
 have Za:∀p v,(Bl (ER c)).HO p≠some v:=fun p v hh=>by cases hh
 have cO:∀e,¬(Bl (ER c)).cl e:=fun e hh=>by
  have h1:1≤e∧e≤((([]:List CN).length:Nat):Int):=hh.1;simp only[AQZ]at h1;omega
 have hno:∀e n,¬(Bl (ER c)).nodes e n:=fun e n hh=>by
  have:n∈Ao [] e:=hh;unfold Ao at this;split at this
  ·rename_i h1
   have:=Ah.1 h1;simp only[AQZ]at this;omega
  ·simp at this
 have hsu:∀p,¬Sf.eX (Bl (ER c)) p:=fun p ⟨d,q,h1,_⟩=>Za p _ h1
 refine⟨⟨hw,⟨ATD _,fun e a b=> ?_,fun e a=>absurd a (cO e),fun e f a=>absurd a (cO e),fun m a=>(by cases a),fun e ⟨x,hx,_⟩=>(by cases(show x∈([]:List AM)from hx)),fun p v a=>absurd a (hwd p v),fun p v a=>absurd a (Za p v),fun n p x a=>(by rw[hk]at a;cases a),fun m p x a=>(by cases a),fun x a=>absurd a (hi x),fun x a=>absurd a (hi x),fun x a=>absurd a (hi x),fun x y a=>absurd a (hi x)⟩,fun _=>⟨fun _=>⟨0,0,true,[]⟩,⟨fun hh=> ?_,fun p a=>absurd a (hsu p),fun p v n a=>absurd a (hwd p v),fun m n a=>(by cases a),fun x a=>absurd a (hi x),fun m p a=>(by cases a),fun p a b=>absurd b (cO _),fun m p n a=>(by cases a),fun m p x a=>(by cases a),fun p a b=>absurd b (cO _)⟩,fun r hr=> ?_⟩⟩,fun r hr=> ?_,fun _ r hr=> ?_⟩
 ·have:e≤((([]:List CN).length:Nat):Int):=b
  simp only[AQZ]at this;omega
 ·obtain⟨l,l1,l2⟩:=hh
  cases l with
  |nil=>rw[holds_nil]at l1;cases l1
  |cons a l=>exact absurd (l2 a (by simp)) (by show¬a∈([]:AAO);simp)
 ·replace hr:r∈[((1,1,[],()):AY),(1,1,[],())]:=hr
  have e:r=(1,1,[],()):=by simpa using hr
  subst e;have np:∀p,Pl p→ ¬Sf.Nk AN A6 (tW (1,1,[],())) p:=fun p hp hh=>by
   have h1:=ep1 hp;have h2:=qW hp;rcases hh with hh|⟨_,hh⟩
   ·have:AN p<1:=hh;omega
   ·have:A6 p<1:=hh;omega
  exact⟨ATD _,fun p hp Kg=>by have h1:=ep1 hp;have:AN p<1:=Kg;omega,fun p hp hps=>absurd hps (np p hp),fun p d a=>by cases a⟩
 ·replace hr:r∈[((1,1,[],()):AY),(1,1,[],())]:=hr
  have e:r=(1,1,[],()):=by simpa using hr
  subst e;exact⟨List.Pairwise.nil,fun e he=>by simp at he,fun e he=>by simp at he⟩
 ·replace hr:r∈[((1,1,[],()):AY),(1,1,[],())]:=hr
  have e:r=(1,1,[],()):=by simpa using hr
  subst e;exact fun e he=>by simp at he
theorem AD3{l:List A3}{p:Int}{d:r8}(h:sL l p=some d):(1,p,d,())∈l:=by
 unfold sL at h;rw[AMI]at h;obtain⟨e,h1,rfl⟩:=h;have h2:=AXY h1;simp only[AML,ATQ]at h2;have:=ATZ h1;obtain⟨a,b,c,⟨⟩⟩:=e;simp only at h2;rw[h2.1,h2.2]at this;exact this
theorem AJY{l:List A3}(h:l.Pairwise fun a b=>a.2.1<b.2.1){a b:A3}(ha:a∈l)(hb:b∈l)(he:a.2.1=b.2.1):a=b:=by
 obtain⟨i,hi,rfl⟩:=AQa ha;obtain⟨j,hj,rfl⟩:=AQa hb;rw[AVq]at h;rcases Nat.lt_trichotomy i j with zF|rfl|zF
 ·have:=h i j hi hj zF;omega
 ·rfl
 ·have:=h j i hj hi zF;omega
theorem zh{ss:List Ac}{r:AY}(k:fL ss r){p:Int}{d:r8}(h:(1,p,d,())∈r.2.2.1):sL r.2.2.1 p=some d:=by
 cases ht:sL r.2.2.1 p with
 |none=>
  unfold sL at ht;rw[AWk,List.find?_eq_none]at ht;exact absurd (by simp) (ht _ h)
 |some d' =>
  have:=AD3 ht;have:=AJY k.fo (ATL.2 ⟨this,rfl⟩) (ATL.2 ⟨h,rfl⟩) rfl;simp only[APv]at this;rw[this.2.2.1]
section
variable{w:AA} (h:Reached w)
include h
theorem Reached.sure{s:Ac}(hs:s∈w.BX)(hq:s.2.2.1=true):Pl s.1∧Sf.eX (Bl w) s.1:=by
 refine⟨(h.safe.ok.BX s hs).1,s.2.1,s.2.2.1=true,?_,hq⟩
 show(JC w.BX s.1).map seS=_
 rw[aS h.safe.ok.Xp hs];rfl
theorem lK(ht:w.EC=false){r t:AY}(hr:r∈w.AR)(hm:t∈w.AR){p:Int}{d:r8}(he:(1,p,d,())∈r.2.2.1)(hg:w.trim<p)(hp:Sf.Nk AN A6 (tW t) p):(1,p,d,())∈t.2.2.1:=by
 obtain⟨fin,b1,b2⟩:=h.safe.b ht;have k:=(h.out r hr).below _ he rfl;have h1:=zh (h.out r hr) he;have hps:=(b2 r hr).told p d h1;have:=Sf.ABh (b2 r hr) (b2 t hm) k.1 hg hps hp;exact AD3 (by rw[show sL t.2.2.1 p=(tW t).told p from rfl,←this];exact h1)
end
theorem yv{p:Int}:∀{l:List A3},tld p l=((sL l p).getD [],(sL l p).isSome)
 |[]=>rfl
 |e::l=>by
  have ih:=yv (p:=p) (l:=l);unfold sL at*;rw[tld,AUh];cases e.1==1&&e.2.1==p with
  |true=>rfl
  |false=>exact ih
theorem sS{p:Int}{r:AY}:ahead p r=true↔Sf.Nk AN A6 (tW r) p:=by
 unfold ahead Sf.Nk
 show _↔AN p<r.1∨(AN p=r.1∧A6 p<r.2.1)
 by_cases h1:AN p<r.1
 ·simp[h1]
 ·by_cases h2:AN p=r.1
  ·simp[h2]
  ·have:(AN p==r.1)=false:=by simp[h2]
   simp[h1,h2,this]
section
variable{w:AA} (h:Reached w)
include h
theorem Reached.reader{i:Nat}(hi:i<2):w.AR.getD i Au∈w.AR:=BG (by have:=h.safe.ok.mu;omega)
theorem uG:dz w=true:=by
 unfold dz;rw[F5.2 h.safe.ok];cases ht:w.2.2.2.2.2.2.2.2.2.2.1 with
 |true=>rfl
 |false=>
  have k:∀i,i<2→sV w.trim (w.AR.getD 0 Au) (w.AR.getD 1 Au) (w.AR.getD i Au).2.2.1=true:=fun i hi=>OP.2 fun j hj=>by
   have hm:=BG (d:=pe) hj
   generalize (w.AR.getD i Au).2.2.1.getD j pe=e at hm
   unfold AAR;by_cases hc:AA7 w.trim (w.AR.getD 0 Au) (w.AR.getD 1 Au) e=true
   ·unfold AA7 at hc
    simp only[AML,AMc,ATQ]at hc;obtain⟨c1,c2,c3,c4,c5⟩:=hc;obtain⟨a,b,c,⟨⟩⟩:=e;simp only at c1;subst c1;have m0:=lK h ht (h.reader hi) (h.reader (i:=0) (by omega)) hm c3 (sS.1 c4);have m1:=lK h ht (h.reader hi) (h.reader (i:=1) (by omega)) hm c3 (sS.1 c5);rw[yv,yv,zh (h.out _ (h.reader (i:=0) (by omega))) m0,zh (h.out _ (h.reader (i:=1) (by omega))) m1];simp
   ·rw[APC]at hc
    rw[hc];rfl
  rw[show sV w.2.2.2.2.2.1 (w.2.2.2.2.2.2.2.2.1.getD 0 Au) (w.2.2.2.2.2.2.2.2.1.getD 1 Au) (w.2.2.2.2.2.2.2.2.1.getD 0 Au).2.2.1=true from k 0 (by omega),show sV w.2.2.2.2.2.1 (w.2.2.2.2.2.2.2.2.1.getD 0 Au) (w.2.2.2.2.2.2.2.2.1.getD 1 Au) (w.2.2.2.2.2.2.2.2.1.getD 1 Au).2.2.1=true from k 1 (by omega)];rfl
end
end Go.M
end
section
namespace Go.M
open Go.M.H (AJ AO As Ac AA CN AQ A7 AM AY A3 Ax BC)
def xH(ws:List AM)(ss:List Ac):Prop:= ∀t∈ss,∀x∈ws,AN t.1=x.1→QO x.2.1 (A6 t.1)=true→t.2.2.1=true
theorem cX{c:B9}{s:AO}{l:List CN}{n:Int}:∀{ws:List AM} {ss:List Ac},xH ws ss→FI true c s l n ws ss=FI false c s l n ws ss
 |[],ss,_=>rfl
 |x::ws,ss,h=>by
  simp only[FI];have hm:ss.map (Nr true x.1 x.2.1 (BB c s x.1 n 1 x.2.1))=ss.map (Nr false x.1 x.2.1 (BB c s x.1 n 1 x.2.1)):=ATF fun t ht=>by
   have k:=h t ht x (by simp);unfold Nr;by_cases he:AN t.1=x.1
   ·cases hd:QO x.2.1 (A6 t.1)with
    |true=>rw[k he hd];simp
    |false=>simp
   ·rw[AQJ.2 he];simp
  rw[hm,cX (ws:=ws) (ss:=ss.map (Nr false x.1 x.2.1 (BB c s x.1 n 1 x.2.1))) fun t ht y hy he hd=>by
   obtain⟨u,hu,rfl⟩:=ATS.1 ht;have:=h u hu y (by simp[hy]) he hd
   show(u.2.2.1||_)=true
   rw[this];rfl,
   cX (ws:=ws) (ss:=ss) fun t ht y hy=>h t ht y (by simp[hy])]
theorem vB{w:AA}(h:Reached w):xH w.AH w.BX:=fun t ht x hx he hd=>by
 have hp:Pl t.1:=(h.safe.ok.BX t ht).1;obtain⟨y,y1,y2⟩:=(WR (qW hp)).1 hd;have hwx:Xf w.AH (AN t.1)=some x:=by rw[he];exact XD h.safe.ok.Xm hx
 have hwd:(Bl w).wd t.1=some (aO y):=by
  show(FG w.AH t.1).map aO=_
  rw[J1 hp hwx,y1];rfl
 obtain⟨q,q1,q2⟩:=(h.safe.a.wg _ _ hwd).2.2.1
 replace q1:(JC w.BX t.1).map seS=some ((aO y).data,q):=q1
 rw[aS h.safe.ok.Xp ht]at q1;simp only[AUx,seS,AMF,APv]at q1;rw[q1.2];exact q2 y2
theorem AG8{w:AA}{d:BC}(h:Reached w):CD true w d=CD false w d:=by
 have key:∀n,Jj true w n=Jj false w n:=fun n=>by
  unfold Jj;simp only[cX (vB h)]
 unfold CD Li;simp only[key]
theorem we:∀{l:List BC} {w:AA},Reached w→runM true w l=runM false w l
 |[],_,_=>rfl
 |d::l,w,h=>by
  simp only[runM,AG8 h];have:Reached (if(CD false w d).2=0 then(CD false w d).1 else w):=by
   split
   ·rename_i e;exact(fD h e).1
   ·exact h
  rw[we this]
end Go.M
end
section
namespace Go.M
open Go.M.H (AJ AO As Ac AA CN AQ A7 AM AY A3 Ax BC)
theorem jr{s:Ac}:∀{l:List A3},s∈bZ l↔s.2.2.1=true∧(1,s.1,s.2.1,())∈l
 |[]=>by simp[bZ]
 |e::l=>by
  have ih:=jr (s:=s) (l:=l);obtain⟨a,b,c,⟨⟩⟩:=e;obtain⟨x,y,z,⟨⟩⟩:=s;unfold bZ;by_cases h:a=1
  ·rw[ATQ.2 h,AMp,ANv,ih,ANv]
   simp only[APv,ATG];constructor
   ·rintro(⟨rfl,rfl,rfl⟩|h')
    ·exact⟨rfl,.inl ⟨h.symm,rfl,rfl⟩⟩
    ·exact⟨h'.1,.inr h'.2⟩
   ·rintro⟨h1,⟨_,h2,h3⟩|h'⟩
    ·exact .inl ⟨h2,h3,h1⟩
    ·exact .inr ⟨h1,h'⟩
  ·rw[AQJ.2 h,AMU,ih,ANv]
   simp only[APv,ATG];exact⟨fun h' =>⟨h'.1,.inr h'.2⟩,fun h' =>⟨h'.1,h'.2.resolve_left fun hh=>h hh.1.symm⟩⟩
section
variable{w:AA} (h:Reached w)
include h
theorem vK{k:Nat}(hk:k<2):PH w k=bZ (w.AR.getD k Au).2.2.1:=by
 unfold PH;rw[F5.2 h.safe.ok,Ah.2 (by omega:(0:Int)≤(k:Int)∧(k:Int)≤1)];rfl
theorem ABf{k:Nat}(hk:k<2){p:Int}(hp:Pl p)(hl:p<D1 (w.AR.getD k Au).1 (w.AR.getD k Au).2.1):Sf.Nk AN A6 (tW (w.AR.getD k Au)) p:=by
 have:=(h.safe.ok.AR _ (h.reader hk)).off;exact(AEZ (e:=(w.AR.getD k Au).1) (o:=(w.AR.getD k Au).2.1) hp (by omega)).1 hl
theorem ABO(ht:w.EC=false){s:Ac}(hs:s∈PH w 0)(hg:w.trim<s.1)(hl:s.1<D1 (w.AR.getD 1 Au).1 (w.AR.getD 1 Au).2.1):s∈PH w 1:=by
 rw[show PH w 0=_ from vK h (k:=0) (by omega)]at hs;rw[show PH w 1=_ from vK h (k:=1) (by omega)];obtain⟨h1,h2⟩:=jr.1 hs;have hp:=((h.out _ (h.reader (i:=0) (by omega))).below _ h2 rfl).1;exact jr.2 ⟨h1,lK h ht (h.reader (i:=0) (by omega)) (h.reader (i:=1) (by omega)) h2 hg (ABf h (by omega) hp hl)⟩
end
end Go.M
end
section
set_option maxRecDepth 8000
namespace Go.M
open Go.M.H (AJ AO As Ac AA CN AQ A7 AM AY A3 Ax BC Al CJ Af AX Aa Ap B8 BJ Ar A0 EO CO Cv C_)
def AVl(w:AA)(l:List BC):NF:=(((w,(),()),()),(l,()))
theorem AB2{x:AAO}(hc:x.length≤2^30):∃c l,Ee c=true∧Jz x=some (AVl (ER c) l)∧l.length≤190∧ ∀d∈l,C0 d.2.1:=by
 obtain⟨h0,e0⟩:=AFw hc;unfold Jz;rw[e0];obtain⟨T,hT,hT2⟩:=yu hc;simp only[AD];rw[hT];simp only[AD];obtain⟨q,i1,h1,y,e1,eZ,⟨cc,rb,hcw⟩,hl,hd⟩:=xM hc (T:=T) (N:=190) ⟨by omega,by omega,by omega⟩ (i:=0) (hh:=h0) ⟨by omega,by omega⟩;rw[e1];simp only[AD];refine⟨cc,y.1,rb,?_,hl,hd⟩;rw[←hcw];rfl
theorem AAh{all:Bool}:∀{l:List BC} {w:AA},cj w→cj (runM all w l).1
 |[],w,h=>h
 |d::l,w,h=>by
  simp only[runM];refine AAh ?_
  split
  ·rename_i e;exact zX h e
  ·exact h
structure AOA (w v:AA) (l:List BC):Prop where
 ok:NN w
 win:gf w
 rd:Af A0 w.AR≤10002
 re:Reached v
 vin:gf v
 ev:cj v
 run:runM false w l=(v,(runM false w l).2)
 same:runM true w l=runM false w l
theorem AR0{c:B9}(hc:Ee c=true){l:List BC}(hl:l.length≤190):AOA (ER c) (runM false (ER c) l).1 l:=by
 obtain⟨h1,h2⟩:=dp hc;have hr:=ACt hc;have hre:=r7 (l:=l) hr;have Xn:=vM (all:=false) (l:=l) h1;have h3:=AKa h1 h2;exact⟨h1,h1.win h2,h3,hre,hre.safe.ok.ANX (by omega),AAh vn,rfl,we hr⟩
theorem AAt{all:Bool}{w:AA}{l:List BC}(h:NN w)(hl:l.length≤190):AEb all w l=runM all w l:=ALy ⟨F5.2 h,by omega⟩
theorem oT{l:List Ac}{s:Ac}(hs:s∈l)(hl:l.length≤2^40):Jq l s=some ((true,()),()):=by
 have key:∀(n i j:Nat),i≤j→(hj:j<l.length)→l[j]=s→l.length-i<n→I3 n l i s.1 s.2.1 s.2.2.1=some ((true,()),()):=by
  intro n
  induction n with
  |zero=>intro i j _ _ _ h;omega
  |succ n ih=>
   intro i j zF hj hjs h;simp only[I3,Sl,AB];have hi:i<l.length:=by omega
   rw[ALy (by omega),ALy (by omega),AMV,Ny hi];by_cases he:i=j
   ·subst he
    rw[hjs];simp
   ·rw[AK (by omega) (by omega),show((i:Int)+1)=((i+1:Nat):Int)by omega,ih (i+1) j (by omega) hj hjs (by omega)]
    cases(l[i].1==s.1&&(l[i].2.1==s.2.1&&(l[i].2.2.1==s.2.2.1&&true)))<;>rfl
 obtain⟨j,hj,hjs⟩:=AQa hs;unfold Jq Sd;exact key Ae 0 j (by omega) hj hjs (Ag (by omega))
theorem ry:∀{l:List A3},(bZ l).length≤l.length
 |[]=>AQW _
 |e::l=>by
  have:=ry (l:=l);unfold bZ;cases e.1==1<;>simp only[AMp,AMU,ANZ]<;>omega
theorem Reached.pj{w:AA}(h:Reached w){k:Nat}(hk:k<2):(PH w k).length≤120:=by
 rw[vK h hk];exact ASs ry (h.safe.ok.AR _ (h.reader hk)).n
theorem AEJ{w:AA}(h:Reached w):∀(n i:Nat),i≤(PH w 0).length→(PH w 0).length-i<n→
  D_ n (i:Int) w.2.1 w.2.2.2.2.2.1 w.2.2.2.2.2.2.2.2.2.2.1 w.1 w.2.2.1 w.2.2.2.1 w.2.2.2.2.1 w.2.2.2.2.2.2.1 w.2.2.2.2.2.2.2.1 w.2.2.2.2.2.2.2.2.1 w.2.2.2.2.2.2.2.2.2.1 (PH w 0) (PH w 1)=some ((true,()),())
 |0,i,_,hn=>by omega
 |n+1,i,hi,hn=>by
  have hl0:=h.pj (k:=0) (by omega);have hl1:=h.pj (k:=1) (by omega);rw[show((0:Nat):Int)=0 from rfl]at hl0;rw[show((1:Nat):Int)=1 from rfl]at hl1;have ih:=AEJ h n (i+1);simp only[D_,P_,AB];by_cases Kg:i<(PH w 0).length
  rotate_left
  ·rw[AMD (by omega)]
  rw[ALy (by omega)];have g:(0:Int)≤(i:Int)∧(i:Int)<((PH w 0).length:Int):=by omega
  replace ih:=ih (by omega) (by omega)
  rw[show((i+1:Nat):Int)=(i:Int)+1 by omega]at ih;rw[AK (x:=(i:Int)+1) (by omega) (by omega)];simp only[ALy g,AMV];cases ht:w.2.2.2.2.2.2.2.2.2.2.1 with
  |true=>rfl
  |false=>
   rw[ht]at ih;rw[AS5,AMp];have hm:=BG (d:=((0,[],false,()):Ac)) Kg
   generalize (PH w 0).getD i (0,[],false,())=s at hm⊢
   have hnr:w.2.2.2.2.2.2.2.2.1.length=2:=h.safe.ok.mu;have r:=h.safe.ok.AR _ (h.reader (i:=1) (by omega));have r1:=r.ep;have r2:=r.off;have tb:=fun a b=>ABO h ht (s:=s) hm a b
   generalize hx:w.AR.getD 1 Au=x at r r1 r2 tb
   by_cases hg:s.1>w.2.2.2.2.2.1
   rotate_left
   ·rw[AMD hg];exact ih
   rw[ALy hg,ALy ⟨by omega,by omega⟩,ALy ⟨by omega,by omega⟩,AK (x:=4294967296*x.1) (by omega) (by omega),AK (x:=4294967296*x.1+x.2.1) (by omega) (by omega)];by_cases hp:4294967296*x.1+x.2.1>s.1
   rotate_left
   ·rw[AMD hp];exact ih
   rw[ALy hp,show(s.1,s.2.1,s.2.2.1,())=s from rfl,oT (tb hg hp) (by omega)];simp only[AD,AMP,AMU];exact ih
theorem wa{x:AAO}(hx:Go.Fw.Vd (.sl (.int .u8)) x):Qv x=some ((true,()),()):=by
 unfold Qv SC de;simp only[AMv,AB];by_cases hs:(x.length:Int)>1048576
 ·rw[ALy hs]
 rw[AMD hs];obtain⟨c,l,hc,e1,hl,h64⟩:=AB2 (x:=x) (by omega);rw[e1];simp only[AMv,AVl];obtain⟨Br,Xq,Xn,hre,hvin,hev,iN,AFp⟩:=AR0 hc hl
 generalize ER c=w at*
 rw[show(w.1,w.2.1,w.2.2.1,w.2.2.2.1,w.2.2.2.2.1,w.2.2.2.2.2.1,w.2.2.2.2.2.2.1,w.2.2.2.2.2.2.2.1,w.2.2.2.2.2.2.2.2.1,w.2.2.2.2.2.2.2.2.2.1,w.2.2.2.2.2.2.2.2.2.2.1,())=w from rfl,lJ Xq (by omega) h64 (by omega),lE Xq (by omega) h64 (by omega),AAt Br hl,AAt Br hl,AFp];have hlen:=wU (all:=false) (l:=l) (w:=w)
 generalize runM false w l=q at*
 simp only[AMv];rw[show(iV q).2.2.2.2.2.2.2.2.2.1=q.2 from rfl,show(AOg q).2.2.2.2.2.2.2.2.2.1=q.2 from rfl,AEn (by omega)];simp only[AMv,AMP,AMU];rw[show((iV q).2.1,(iV q).1.1.1.2.1,(iV q).2.2.1,(iV q).2.2.2.1,(iV q).2.2.2.2.1,(iV q).1.1.1.2.2.2.2.2.1,(iV q).2.2.2.2.2.1,(iV q).2.2.2.2.2.2.1,(iV q).2.2.2.2.2.2.2.1,(iV q).2.2.2.2.2.2.2.2.1,(iV q).1.1.1.2.2.2.2.2.2.2.2.2.2.1,())=q.1 from rfl,ik hvin hev,uG hre,dQ hvin,dQ hvin];simp only[AMv,AMP,AMU];exact AEJ hre Ae 0 (by omega) (Ag (by have:=hre.pj (k:=0) (by omega);rw[show((0:Nat):Int)=0 from rfl]at this;omega))
end Go.M
end
