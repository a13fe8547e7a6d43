/- Plain facts on what the functions compute. -/
import Derived.Test.YtebiojjohcpanaaGreatM0
set_option linter.unusedVariables false
set_option linter.unusedSimpArgs false
set_option linter.unusedSectionVars false
section
set_option maxRecDepth 8000
namespace Go.M
open Go.M.H (AA AJ AM AO AQ AY AZ A_ Ab Ac Ag Al Ar As Au Av Az BI BR BX C0 CG CO CQ CX DK EL)
theorem D2{l:AAC}(h:l.length<=2^30):DT l=some (((),()),(l,())):=by
 unfold DT;rw[AKJ (by rw[Bf];omega)]
theorem V6{l:List AJ}(h:l.length<=2^30):JN l=some (((),()),(l,())):=by
 unfold JN;rw[AKJ (by rw[Bf];omega)]
theorem YR{r:AZ}(h:r.2.2.1.length<=2^30):NG r=some (((r.1,r.2.1,(),()),()),(r.2.2.1,())):=by
 unfold NG;rw[AKJ (by rw[Bf];omega)]
theorem iD{c:CP}(h:c.1.length<=2^30):Qj c=some ((((),c.2.1,()),()),(c.1,())):=by
 grind[Qj,D2]
theorem IM{s:AO}(h1:s.1.length<=2^30)(h2:s.2.1.length<=2^30):DN s=some ((((),(),s.2.2.1,()),()),(s.1,s.2.1,())):=by
 grind[DN,V6]
theorem H9{r:AQ}(h:Ag CG r.1<=2^30):En r=some ((((),r.2.1,()),()),(r.1,())):=by
 have hl:=AY (f:=CG) (l:=r.1);have key:∀(n i:Nat) (acc:List CX),i<=r.1.length->r.1.length-i<n->acc.length<=i->H6 n r.1 r.1.length i 0 [] r.2.1 acc=some ((((),r.2.1,()),()),(acc++r.1.drop i,())):=by
  intro n
  induction n with
  |zero=>omega
  |succ n ih=>
   intro i acc hi hn ha;simp only[H6,RV,AB];by_cases hc:i<r.1.length
   ·have hm:=Ab (f:=CG) (ANM hc)
    have hw:CG r.1[i]=r.1[i].1.length:=rfl;rw[AKJ (by omega),AKJ (by omega),Aj hc,D2 (by omega),AL (by omega) (by omega),show((i:Int)+1)=((i+1:Nat):Int)by omega];simp only[AD];rw[AKJ (by rw[Bf];omega),ih (i+1) _ (by omega) (by omega) (by simp_all),drop_cons hc,ANs];rfl
   grind
 grind[En,RR,Ae,Ah]
theorem Ju{x:AM}(h:Au x<=2^30):GC x=some (((x.1,(),()),()),(x.2.1,())):=by
 have h':Ag BX x.2.1<=2^30:=h;have hl:=AY (f:=BX) (l:=x.2.1);have key:∀(n i:Nat) (acc:List BI),i<=x.2.1.length->x.2.1.length-i<n->acc.length<=i->Jw n x.2.1 x.2.1.length i 0 [] x.1 acc=some (((x.1,(),()),()),(acc++x.2.1.drop i,())):=by
  intro n
  induction n with
  |zero=>omega
  |succ n ih=>
   intro i acc hi hn ha;simp only[Jw,TK,AB];by_cases hc:i<x.2.1.length
   ·have hm:=Ab (f:=BX) (ANM hc)
    have hw:BX x.2.1[i]=x.2.1[i].1.length+x.2.1[i].2.1.length:=rfl;rw[AKJ (by omega),AKJ (by omega),Aj hc,D2 (by omega),AL (by omega) (by omega),show((i:Int)+1)=((i+1:Nat):Int)by omega];simp only[AD];rw[AKJ (by rw[Bf];omega),ih (i+1) _ (by omega) (by omega) (by simp_all),drop_cons hc,ANs];rfl
   grind
 grind[GC,TT,Ae,Ah]
theorem HV{m:Av}(h:CO m<=2^30):Gp m=some (((m.1,m.2.1,(),(),m.2.2.2.2.1,(),()),()),(m.2.2.1,m.2.2.2.1,m.2.2.2.2.2.1,())):=by
 have h':m.2.2.1.length+Ag Ar m.2.2.2.1+Ag DK m.2.2.2.2.2.1<=2^30:=h;have hl:=AY (f:=DK) (l:=m.2.2.2.2.2.1);have zJ:=AY (f:=Ar) (l:=m.2.2.2.1);have key:∀(n i:Nat) (acc:List AAC),i<=m.2.2.2.2.2.1.length->m.2.2.2.2.2.1.length-i<n->acc.length<=i->Lc n m.2.2.2.2.2.1 m.2.2.2.2.2.1.length i 0 0 false [] [] [] m.1 m.2.1 m.2.2.2.2.1 m.2.2.1 m.2.2.2.1 acc=some (((m.1,m.2.1,(),(),m.2.2.2.2.1,(),()),()),(m.2.2.1,m.2.2.2.1,acc++m.2.2.2.2.2.1.drop i,())):=by
  intro n
  induction n with
  |zero=>omega
  |succ n ih=>
   intro i acc hi hn ha;simp only[Lc,WR,AB];by_cases hc:i<m.2.2.2.2.2.1.length
   ·have hm:=Ab (f:=DK) (ANM hc)
    have hw:DK m.2.2.2.2.2.1[i]=m.2.2.2.2.2.1[i].length:=rfl;rw[AKJ (by omega),AKJ (by omega),Aj hc,D2 (by omega),AL (by omega) (by omega),show((i:Int)+1)=((i+1:Nat):Int)by omega];simp only[AD];rw[AKJ (by rw[Bf];omega),ih (i+1) _ (by omega) (by omega) (by simp_all),drop_cons hc,ANs];rfl
   grind
 grind[Gp,WM,D2,V6,AD,Ae,Ah]
section
variable{w:AA} (h:gG w)
include h
theorem AGt:∀(n i:Nat) (D6:List AO) (EW:List AM) (Eu:List Av) (Fi:List AZ),i<=w.2.2.2.2.2.2.2.2.1.length->w.2.2.2.2.2.2.2.2.1.length-i+1<=n->Fi.length<=i->
  Ex n w.2.2.2.2.2.2.2.2.1 w.2.2.2.2.2.2.2.2.1.length i w.1 w.2.1 w.2.2.1 w.2.2.2.1 w.2.2.2.2.1 w.2.2.2.2.2.1 w.2.2.2.2.2.2.1 w.2.2.2.2.2.2.2.1 w.2.2.2.2.2.2.2.2.1 w.2.2.2.2.2.2.2.2.2.1 w.2.2.2.2.2.2.2.2.2.2.1 0 0 false [] [] [] [] [] [] [] [] w.2.1 w.2.2.2.2.2.1 w.2.2.2.2.2.2.2.2.2.2.1 w.1 D6 w.2.2.2.1 w.2.2.2.2.1 EW Eu Fi []=some ((((),w.2.1,(),(),(),w.2.2.2.2.2.1,(),(),(),(),w.2.2.2.2.2.2.2.2.2.2.1,()),()),(w.1,D6,w.2.2.2.1,w.2.2.2.2.1,EW,Eu,(Fi++w.2.2.2.2.2.2.2.2.1.drop i),w.2.2.2.2.2.2.2.2.2.1,())):=by
 have zJ:=h.N4;have hl:=h.lens;intro n
 induction n with
 |zero=>omega
 |succ n ih=>
  intro i D6 EW Eu Fi hi hn hb;simp only[Ex,TN,AB];by_cases Dr:i<w.2.2.2.2.2.2.2.2.1.length
  ·have hm:=Ab (f:=A_) (ANM Dr)
   have hw:A_ w.2.2.2.2.2.2.2.2.1[i]=Ag CQ w.2.2.2.2.2.2.2.2.1[i].2.2.1:=rfl;have hlw:=AY (f:=CQ) (l:=w.2.2.2.2.2.2.2.2.1[i].2.2.1);rw[AKJ (by omega),AKJ (by omega),Aj Dr,AL (by omega) (by omega),show((i:Int)+1)=((i+1:Nat):Int)by omega,drop_cons Dr];rw[Pq (w.2.2.2.2.2.2.2.2.1[i]),YR (by omega)];simp only[AD];rw[AKJ (by rw[Bf];omega),ih (i+1) _ _ _ _ (by omega) (by omega) (by simp_all),ANs];rfl
  ·rw[AKT (by omega),AKJ (by rw[Bf];omega),ANY (by omega),ANm]
theorem AEk:∀(n i:Nat) (D6:List AO) (EW:List AM) (Eu:List Av),i<=w.2.2.2.2.2.2.2.1.length->(w.2.2.2.2.2.2.2.1.length-i)+w.2.2.2.2.2.2.2.2.1.length+2<=n->Eu.length<=i->
  E_ n w.2.2.2.2.2.2.2.1 w.2.2.2.2.2.2.2.1.length i w.1 w.2.1 w.2.2.1 w.2.2.2.1 w.2.2.2.2.1 w.2.2.2.2.2.1 w.2.2.2.2.2.2.1 w.2.2.2.2.2.2.2.1 w.2.2.2.2.2.2.2.2.1 w.2.2.2.2.2.2.2.2.2.1 w.2.2.2.2.2.2.2.2.2.2.1 0 0 false [] [] [] [] [] [] [] [] w.2.1 w.2.2.2.2.2.1 w.2.2.2.2.2.2.2.2.2.2.1 w.1 D6 w.2.2.2.1 w.2.2.2.2.1 EW Eu [] []=some ((((),w.2.1,(),(),(),w.2.2.2.2.2.1,(),(),(),(),w.2.2.2.2.2.2.2.2.2.2.1,()),()),(w.1,D6,w.2.2.2.1,w.2.2.2.2.1,EW,(Eu++w.2.2.2.2.2.2.2.1.drop i),w.2.2.2.2.2.2.2.2.1,w.2.2.2.2.2.2.2.2.2.1,())):=by
 have zJ:=h.N4;have hl:=h.lens;intro n
 induction n with
 |zero=>omega
 |succ n ih=>
  intro i D6 EW Eu hi hn hb;simp only[E_,Td,AB];by_cases Dr:i<w.2.2.2.2.2.2.2.1.length
  ·have hm:=Ab (f:=CO) (ANM Dr)
   rw[AKJ (by omega),AKJ (by omega),Aj Dr,AL (by omega) (by omega),show((i:Int)+1)=((i+1:Nat):Int)by omega,drop_cons Dr];rw[VO (w.2.2.2.2.2.2.2.1[i]),HV (by omega)];simp only[AD];rw[AKJ (by rw[Bf];omega),ih (i+1) _ _ _ (by omega) (by omega) (by simp_all),ANs];rfl
  ·have:=AGt h n 0 D6 EW Eu [] (by omega) (by omega) (by simp)
   grind
theorem AKt:∀(n i:Nat) (D6:List AO) (EW:List AM),i<=w.2.2.2.2.2.2.1.length->(w.2.2.2.2.2.2.1.length-i)+w.2.2.2.2.2.2.2.1.length+w.2.2.2.2.2.2.2.2.1.length+3<=n->EW.length<=i->
  Fm n w.2.2.2.2.2.2.1 w.2.2.2.2.2.2.1.length i w.1 w.2.1 w.2.2.1 w.2.2.2.1 w.2.2.2.2.1 w.2.2.2.2.2.1 w.2.2.2.2.2.2.1 w.2.2.2.2.2.2.2.1 w.2.2.2.2.2.2.2.2.1 w.2.2.2.2.2.2.2.2.2.1 w.2.2.2.2.2.2.2.2.2.2.1 0 0 false [] [] [] [] [] [] [] [] w.2.1 w.2.2.2.2.2.1 w.2.2.2.2.2.2.2.2.2.2.1 w.1 D6 w.2.2.2.1 w.2.2.2.2.1 EW [] [] []=some ((((),w.2.1,(),(),(),w.2.2.2.2.2.1,(),(),(),(),w.2.2.2.2.2.2.2.2.2.2.1,()),()),(w.1,D6,w.2.2.2.1,w.2.2.2.2.1,(EW++w.2.2.2.2.2.2.1.drop i),w.2.2.2.2.2.2.2.1,w.2.2.2.2.2.2.2.2.1,w.2.2.2.2.2.2.2.2.2.1,())):=by
 have zJ:=h.N4;have hl:=h.lens;intro n
 induction n with
 |zero=>omega
 |succ n ih=>
  intro i D6 EW hi hn hb;simp only[Fm,VD,AB];by_cases Dr:i<w.2.2.2.2.2.2.1.length
  ·have hm:=Ab (f:=Au) (ANM Dr)
   rw[AKJ (by omega),AKJ (by omega),Aj Dr,AL (by omega) (by omega),show((i:Int)+1)=((i+1:Nat):Int)by omega,drop_cons Dr];rw[show(w.2.2.2.2.2.2.1[i].1,w.2.2.2.2.2.2.1[i].2.1,())=w.2.2.2.2.2.2.1[i]from rfl,Ju (by omega)];simp only[AD];rw[AKJ (by rw[Bf];omega),ih (i+1) _ _ (by omega) (by omega) (by simp_all),ANs];rfl
  ·have:=AEk h n 0 D6 EW [] (by omega) (by omega) (by simp)
   grind
theorem AL3:∀(n i:Nat) (D6:List AO),i<=w.2.2.1.length->(w.2.2.1.length-i)+w.2.2.2.2.2.2.1.length+w.2.2.2.2.2.2.2.1.length+w.2.2.2.2.2.2.2.2.1.length+4<=n->D6.length<=i->
  Fg n w.2.2.1 w.2.2.1.length i w.1 w.2.1 w.2.2.1 w.2.2.2.1 w.2.2.2.2.1 w.2.2.2.2.2.1 w.2.2.2.2.2.2.1 w.2.2.2.2.2.2.2.1 w.2.2.2.2.2.2.2.2.1 w.2.2.2.2.2.2.2.2.2.1 w.2.2.2.2.2.2.2.2.2.2.1 0 0 false [] [] [] [] [] [] [] [] w.2.1 w.2.2.2.2.2.1 w.2.2.2.2.2.2.2.2.2.2.1 w.1 D6 w.2.2.2.1 w.2.2.2.2.1 [] [] [] []=some ((((),w.2.1,(),(),(),w.2.2.2.2.2.1,(),(),(),(),w.2.2.2.2.2.2.2.2.2.2.1,()),()),(w.1,(D6++w.2.2.1.drop i),w.2.2.2.1,w.2.2.2.2.1,w.2.2.2.2.2.2.1,w.2.2.2.2.2.2.2.1,w.2.2.2.2.2.2.2.2.1,w.2.2.2.2.2.2.2.2.2.1,())):=by
 have zJ:=h.N4;have hl:=h.lens;intro n
 induction n with
 |zero=>omega
 |succ n ih=>
  intro i D6 hi hn hb;simp only[Fg,VJ,AB];by_cases Dr:i<w.2.2.1.length
  ·have hm:=Ab (f:=Al) (ANM Dr)
   have hw:=GF (s:=w.2.2.1[i]) (by omega);rw[AKJ (by omega),AKJ (by omega),Aj Dr,AL (by omega) (by omega),show((i:Int)+1)=((i+1:Nat):Int)by omega,drop_cons Dr];rw[Pq (w.2.2.1[i]),IM hw.1 hw.2];simp only[AD];rw[AKJ (by rw[Bf];omega),ih (i+1) _ (by omega) (by omega) (by simp_all),ANs];rfl
  ·have:=AKt h n 0 D6 [] (by omega) (by omega) (by simp)
   grind
theorem ZQ:Lm w=some ((((),w.2.1,(),(),(),w.2.2.2.2.2.1,(),(),(),(),w.2.2.2.2.2.2.2.2.2.2.1,()),()),(w.1,w.2.2.1,w.2.2.2.1,w.2.2.2.2.1,w.2.2.2.2.2.2.1,w.2.2.2.2.2.2.2.1,w.2.2.2.2.2.2.2.2.1,w.2.2.2.2.2.2.2.2.2.1,())):=by
 have zJ:=h.N4;have hl:=h.lens;unfold Lm U7;have:=AL3 h Ae 0 [] (by omega) (AVJ (Ah (by omega))) (by simp);rw[show((0:Nat):Int)=0 from rfl,ATu,AUE]at this;rw[show(w.1,w.2.1,())=AU w from rfl,iD (by show w.1.length<=_;omega),D2 (by omega),show(w.2.2.2.2.1,w.2.2.2.2.2.1,())=(CA w)from rfl,H9 (by show Ag CG w.2.2.2.2.1<=_;omega)];simp only[AD];exact this
end
theorem wa{a b:Nat}(h:a+b<2^40):Aa ((IntKind.wrap .u64 (Aa ((a:Int)+(b:Int)))).fdiv (2^1))=(((a+b)/2:Nat):Int):=by
 grind[AL,IntKind.wrap,IntKind.bits,IntKind.signed,Int.fdiv_eq_ediv_of_nonneg]
structure jj {α:Type} (f:α->Int) (p:Int) (l:List α) (q:Nat):Prop where
 le:q<=l.length
 lt:∀(i:Nat) (h:i<l.length),i<q->f l[i]<p
 ge:∀(i:Nat) (h:i<l.length),q<=i->p<=f l[i]
theorem bj{α:Type}{f:α->Int}{l:List α}(h:T4 f l){i j:Nat}(hi:i<l.length)(hj:j<l.length)(hij:i<=j):f l[i]<=f l[j]:=by
 grind[Int.le_of_lt,List.pairwise_iff_getElem]
theorem eH{l:List AJ}(ha:X3 l)(hl:l.length<=2^30)(p:Int):∃q,jj (fun e:AJ=>e.1) p l q/\
  Sj l p=some ((((q:Int),(match l[q]? with|some e=>e.1==p|none=>false),()),()),()):=by
 have key:∀(n a b:Nat),a<=b->b<=l.length->b-a<n->(∀(i:Nat) (h:i<l.length),i<a->l[i].1<p)->(∀(i:Nat) (h:i<l.length),b<=i->p<=l[i].1)->
   ∃q,jj (fun e:AJ=>e.1) p l q/\BB n l p l.length a b=some ((((q:Int),(match l[q]? with|some e=>e.1==p|none=>false),()),()),()):=by
  intro n
  induction n with
  |zero=>omega
  |succ n ih=>
   intro a b sF hb hn h1 h2;simp only[BB,C6,AB,SW];by_cases K9:a<b
   ·have hm:(a+b)/2<l.length:=by omega
    rw[AKJ (by omega),wa (by omega),AKJ (by omega),Aj hm];by_cases hc:l[(a+b)/2].1<p
    ·rw[AKJ hc]
     simp only[AD];rw[AKJ (by omega),AL (by omega) (by omega),show((((a+b)/2:Nat):Int)+1)=(((a+b)/2+1:Nat):Int)by omega];refine ih _ b (by omega) hb (by omega) (fun i h hi=> ?_) h2;exact Int.lt_of_le_of_lt (bj (f:=fun e:AJ=>e.1) ha h hm (by omega)) hc
    ·rw[AKT hc]
     have hge:∀(i:Nat) (h:i<l.length),(a+b)/2<=i->p<=l[i].1:=fun i h hi=>Int.le_trans (by omega) (bj (f:=fun e:AJ=>e.1) ha hm h hi)
     by_cases hd:l[(a+b)/2].1>p
     ·rw[AKJ hd]
      simp only[AD];rw[AKT (by omega)];exact ih a _ (by omega) (by omega) (by omega) h1 hge
     ·rw[AKT hd]
      simp only[AD];rw[AKT (by omega)];exact ih a _ (by omega) (by omega) (by omega) h1 hge
   ·have AE3:a=b:=by omega
    subst AE3;refine⟨a,⟨hb,h1,h2⟩,?_⟩;rw[AKT (by omega)];by_cases ha':a<l.length
    ·have:=h2 a ha' (AP7 _)
     rw[AKJ (by omega),AKJ (by omega),Aj ha',AKS ha',AKT (by omega)];by_cases hd:l[a].1>p
     ·simp_all;omega
     grind
    grind
 obtain⟨q,hq,e⟩:=key Ae 0 l.length (by omega) (by omega) (Ah (by omega)) (fun i h hi=>by omega) (fun i h hi=>by omega);refine⟨q,hq,?_⟩;unfold Sj CK C8;simp_all
theorem jj.get_eq{p:Int}{l:List AJ}{q:Nat}(h:jj (fun e:AJ=>e.1) p l q)(ha:X3 l):Ew p l=match l[q]? with|some e=>if e.1=p then some e else none|none=>none:=by
 by_cases hq:q<l.length
 ·rw[AKS hq]
  dsimp only;by_cases he:l[q].1=p
  ·rw[AKJ he,<-he]
   exact MJ ha (ANM hq)
  ·rw[AKT he]
   cases hg:Ew p l with
   |none=>rfl
   |some x=>
    obtain⟨hm,hx⟩:=HC hg;obtain⟨i,hi,rfl⟩:=AQo hm;exfalso;have h2:=h.ge q hq (AP7 _);rcases Nat.lt_or_ge i q with hiq|hiq
    ·have:=h.lt i hi hiq
     omega
    ·have:=bj (f:=fun e:AJ=>e.1) ha hq hi hiq
     omega
 ·rw[AUT (by omega)]
  dsimp only;cases hg:Ew p l with
  |none=>rfl
  |some x=>
   obtain⟨hm,hx⟩:=HC hg;obtain⟨i,hi,rfl⟩:=AQo hm;have:=h.lt i hi (by omega);omega
theorem Tk{s:AO}(h0:Al s<=2^30)(h1:r7 s)(p:Int):Gm s p=some (((match X0 s p with|some e=>(e,true,())|none=>((0,0,false,[],()),false,())),()),()):=by
 unfold Gm X0;rw[Pq s,FH h0 h1];simp only[AD];rcases AJ5 (CI s)with Bt|Bt
 rotate_left
 ·simp_all
 have hs:=Dd.1 Bt;have hn:=hs.nk;obtain⟨q,hq,e⟩:=eH hs.ft (by omega) p;rw[Bt,e,AKJ rfl,hq.get_eq hs.ft];grind
theorem IG{e o:Int}:D3 e o=some (((Gw e o,BS e 1 30&&BS o 1 60,()),()),()):=by
 unfold D3 Hq XG Gw;rw[Aw,Aw];simp only[AD];rcases AJ5 (BS e 1 30)with he|he
 rotate_left
 ·simp_all
 rcases AJ5 (BS o 1 60)with ho|ho
 rotate_left
 ·simp_all
 rw[he,ho];have h1:=Ai.1 he;have h2:=Ai.1 ho;simp only[AMy,ANE,Bool.and_self,ATt];rw[AL (x:=4294967296*e) (by omega) (by omega),AL (by omega) (by omega)];rfl
theorem ZP{k:Int}:Hy k=some (((),()),(Ap k,())):=by
 unfold Hy Uo Ap;rw[Aw];simp only[AD];rcases AJ5 (BS k 0 255)with hk|hk
 rotate_left
 ·simp_all
 rw[hk,AKJ rfl];have hk':=Ai.1 hk;have key:∀(n i:Nat) (b:AAC),i<=8->8-i<n->b.length<=i->
   KX n k i b=some (((),()),(b++(([0,1,2,3,4,5,6,7]:AAC).drop i).filter (fun i=>(k/2^i.toNat)%2==1),())):=by
  intro n
  induction n with
  |zero=>omega
  |succ n ih=>
   intro i b hi h hb;simp only[KX,Uv,AB];by_cases Dr:i<8
   ·have AD8:=uy (k:=k) (i:=i) (by omega) (by omega)
    rw[AKJ (show(i:Int)<8 by omega),AKT (by omega),ANJ,tY i Dr,AUH,ANJ,AL (by omega) (by omega),show((i:Int)+1)=((i+1:Nat):Int)by omega];rw[AD8];simp only[AB];have c2:b.length+1<=D8:=by rw[Bf];omega
    by_cases hb':(k/2^i)%2=1
    ·rw[AKJ hb',AKJ c2,AKJ (by simp_all),ih (i+1) _ (by omega) (by omega) (by simp_all),ANs]
     rfl
    grind
   ·have:i=8:=by omega
    simp_all
 have:=key Ae 0 [] (by omega) (Ah (by omega)) (by simp);simp_all
theorem PO{r:AQ}(h:Ag CG r.1<=2^30){e:Int}(he:DR e):I9 r e=some (((),()),(Aq r.1 e,())):=by
 unfold I9 Aq;have hl:=AY (f:=CG) (l:=r.1);rw[Aw];simp only[AD];rcases AJ5 (BS e 1 r.1.length)with hk|hk
 rotate_left
 ·simp_all
 rw[hk,AKJ rfl];have hk':=Ai.1 hk;have hm:=Ab (f:=CG) (BM (d:=Gd) (i:=(e-1).toNat) (by omega:(e-1).toNat<r.1.length));have hw:CG (r.1.getD (e-1).toNat Gd)=(r.1.getD (e-1).toNat Gd).1.length:=rfl;rw[AL (by omega) (by omega)];simp only[AMy,ANE];rw[AKJ (by omega),show(r.1.getD (e-1).toNat ([],false,0,()))=r.1.getD (e-1).toNat Gd from rfl,D2 (by omega)];rfl
theorem LO{w:AA}(h1:w.Ao.length<=2^30)(h2:w.lost.length<=2^30){n:Int}:Ed w n=some ((Ak w n,()),()):=by
 unfold Ed Ak;have h1':w.2.2.1.length<=2^30:=h1;rw[AL (by omega) (by omega),Aw,bA (by grind)];grind
theorem PL{b:Bool}:KM b=some ((if b then 0 else 4,()),()):=by cases b<;>rfl
theorem gy{x:AM}(h:x.2.1.length<=2^30):Qc x=some (((V_ x.2.1:Int),()),()):=by
 have key:∀(n i:Nat),i<=x.2.1.length->x.2.1.length-i<n->i+V_ (x.2.1.drop i)=V_ x.2.1->Jt n x.2.1 x.2.1.length i x.1 x.2.1=some (((V_ x.2.1:Int),()),()):=by
  intro n
  induction n with
  |zero=>omega
  |succ n ih=>
   intro i hi hn hs;simp only[Jt,TQ,AB];by_cases hc:i<x.2.1.length
   ·rw[drop_cons hc]at hs
    simp only[V_]at hs;rw[AKJ (by omega),AKJ (by omega),Aj hc,AL (by omega) (by omega),show((i:Int)+1)=((i+1:Nat):Int)by omega];cases hd:x.2.1[i].2.2.1 with
    |true=>
     grind
    |false=>
     simp_all
   ·rw[ANY (by omega)]at hs
    simp only[V_]at hs;grind
 grind[Qc,Th,Ae,Ah]
theorem qe{w:AA}(h:gG w)(e:Int):RT w e=some ((Vb w e,()),()):=by
 have zJ:=h.N4;have hl:=h.lens;have key:∀(n i:Nat),i<=w.AH.length->w.AH.length-i<n->O0 n e w.AH w.AH.length i=some (((match(w.AH.drop i).find? (fun x=>x.1==e)with|some x=>(V_ x.2.1:Int)|none=>0),()),()):=by
  intro n
  induction n with
  |zero=>omega
  |succ n ih=>
   intro i hi hn;simp only[O0,Zi,AB];by_cases hc:i<w.AH.length
   ·have aQ:i<w.2.2.2.2.2.2.1.length:=hc
    have hm:Au w.AH[i]<=Ag Au w.2.2.2.2.2.2.1:=Ab (f:=Au) (ANM hc);have hw:Au w.AH[i]=Ag BX w.AH[i].2.1:=rfl;have hlw:=AY (f:=BX) (l:=w.AH[i].2.1);rw[AKJ (by omega),AKJ (by omega),Aj hc,AL (by omega) (by omega),show((i:Int)+1)=((i+1:Nat):Int)by omega,drop_cons hc,AU_,show(w.AH[i].1,w.AH[i].2.1,())=w.AH[i]from rfl,gy (by omega),ih (i+1) (by omega) (by omega)];cases w.AH[i].1==e<;>rfl
   grind
 grind[RT,Ye,Vb,Ae,Ah]
theorem xp{x:Int}{t:AC2}(h:t.1.length<=2^30):Ra x t=some ((!t.1.contains x,()),()):=by
 grind[Ra,I2]
theorem nS{x:Int}{t:ABu}:MY x t=some ((x==t.1,()),()):=rfl
theorem n_{t:AC2×Unit}(h:t.1.1.length<=2^30){l:AAC}(hl:l.length<=2^30):Cy t l=some (((),()),((),l.filter (fun x=> !(!t.1.1.contains x)),())):=by
 have key:∀(n i j:Nat) (b:AAC),i<=j->j<=b.length->b.length<=2^30->b.length-j<n->B6 n t i j b=some (((),()),((),b.take i++(b.drop j).filter (fun x=> !(!t.1.1.contains x)),())):=by
  intro n
  induction n with
  |zero=>omega
  |succ n ih=>
   intro i j b hij hj hb hn;simp only[B6,EA,AB];by_cases hc:j<b.length
   ·rw[AKJ (by omega),AKJ (by omega),Aj hc,xp h]
    simp only[AD];rw[AL (x:=(j:Int)+1) (by omega) (by omega),AL (x:=(i:Int)+1) (by omega) (by omega),show((j:Int)+1)=((j+1:Nat):Int)by omega,show((i:Int)+1)=((i+1:Nat):Int)by omega,drop_cons hc,AUH];have n1:=ih (i+1) (j+1) (b.set i b[j]) (by omega) (by grind) (by simp_all) (by grind);have n2:=ih i (j+1) b (by omega) (by omega) hb (by omega);rw[show(t.1,())=t from rfl,n2];rw[AYh (by omega),AUN (by grind),AYi (AP7 _),AXH,ANs,AUg]at n1;rw[AKJ (by omega),ANJ,n1]
    generalize hx:b[j]=x
    cases(!t.1.1.contains x)<;>rfl
   ·rw[AKT (by omega),ANY (i:=j) (by omega),ANJ,ANJ]
    simp_all;omega
 have zM:∀(n i:Nat),i<=l.length->l.length-i<n-> ∃r:Int,CD n l t l.length i=some ((r,()),())/\((r= -1/\(l.drop i).filter (fun x=> !(!t.1.1.contains x))=l.drop i)\/ ∃q:Nat,r=q/\i<=q/\q<l.length/\((l.take q).drop i).filter (fun x=> !(!t.1.1.contains x))=(l.take q).drop i/\ ∀(h:q<l.length) x,x=l[q]->(!t.1.1.contains x)=true):=by
  intro n
  induction n with
  |zero=>omega
  |succ n ih=>
   intro i hi hn;simp only[CD,EG,AB];by_cases hc:i<l.length
   ·rw[AKJ (by omega),AKJ (by omega),Aj hc,xp h]
    simp only[AD];rw[AL (x:=(i:Int)+1) (by omega) (by omega),show((i:Int)+1)=((i+1:Nat):Int)by omega,show(t.1,())=t from rfl];obtain⟨r,e,hr⟩:=ih (i+1) (by omega) (by omega);rw[e]
    generalize hx:l[i]=x
    cases hp:(!t.1.1.contains x)with
    |true=>
     grind
    |false=>
     refine⟨r,rfl,?_⟩;rcases hr with⟨h1,h2⟩|⟨q,h1,h2,h3,h4,h5⟩
     ·grind[drop_cons]
     ·refine .inr ⟨q,h1,by omega,h3,?_,h5⟩
      grind[drop_cons]
   grind
 obtain⟨r,e,hr⟩:=zM Ae 0 (by omega) (Ah (by omega));rw[show((0:Nat):Int)=0 from rfl]at e;unfold Cy EC Du EJ;rw[show(t.1,())=t from rfl,e];simp only[AD];rcases hr with⟨h1,h2⟩|⟨q,h1,h2,h3,h4,h5⟩
 ·grind
 ·rw[h1,AOV.2 (by omega),ANE,AL (by omega) (by omega),show((q:Int)+1)=((q+1:Nat):Int)by omega,key Ae q (q+1) l (by omega) (by omega) hl (Ah (by omega))]
  rw[AUE]at h4;have hd:=h5 h3 _ rfl;grind[List.take_append_drop,drop_cons]
theorem bn{t:AD5}{l:AAC}(hl:l.length<=2^30):Cx t l=some (((),()),((),l.filter (fun x=> !(x==t.1.1)),())):=by
 have key:∀(n i j:Nat) (b:AAC),i<=j->j<=b.length->b.length<=2^30->b.length-j<n->B4 n t i j b=some (((),()),((),b.take i++(b.drop j).filter (fun x=> !(x==t.1.1)),())):=by
  intro n
  induction n with
  |zero=>omega
  |succ n ih=>
   intro i j b hij hj hb hn;simp only[B4,FC,AB];by_cases hc:j<b.length
   ·rw[AKJ (by omega),AKJ (by omega),Aj hc,nS]
    simp only[AD];rw[AL (x:=(j:Int)+1) (by omega) (by omega),AL (x:=(i:Int)+1) (by omega) (by omega),show((j:Int)+1)=((j+1:Nat):Int)by omega,show((i:Int)+1)=((i+1:Nat):Int)by omega,drop_cons hc,AUH];have n1:=ih (i+1) (j+1) (b.set i b[j]) (by omega) (by grind) (by simp_all) (by grind);have n2:=ih i (j+1) b (by omega) (by omega) hb (by omega);rw[show(t.1,())=t from rfl,n2];rw[AYh (by omega),AUN (by grind),AYi (AP7 _),AXH,ANs,AUg]at n1;rw[AKJ (by omega),ANJ,n1]
    generalize hx:b[j]=x
    cases(x==t.1.1)<;>rfl
   ·rw[AKT (by omega),ANY (i:=j) (by omega),ANJ,ANJ]
    simp_all;omega
 have zM:∀(n i:Nat),i<=l.length->l.length-i<n-> ∃r:Int,B_ n l t l.length i=some ((r,()),())/\((r= -1/\(l.drop i).filter (fun x=> !(x==t.1.1))=l.drop i)\/ ∃q:Nat,r=q/\i<=q/\q<l.length/\((l.take q).drop i).filter (fun x=> !(x==t.1.1))=(l.take q).drop i/\ ∀(h:q<l.length) x,x=l[q]->(x==t.1.1)=true):=by
  intro n
  induction n with
  |zero=>omega
  |succ n ih=>
   intro i hi hn;simp only[B_,FL,AB];by_cases hc:i<l.length
   ·rw[AKJ (by omega),AKJ (by omega),Aj hc,nS]
    simp only[AD];rw[AL (x:=(i:Int)+1) (by omega) (by omega),show((i:Int)+1)=((i+1:Nat):Int)by omega,show(t.1,())=t from rfl];obtain⟨r,e,hr⟩:=ih (i+1) (by omega) (by omega);rw[e]
    generalize hx:l[i]=x
    cases hp:(x==t.1.1)with
    |true=>
     grind
    |false=>
     refine⟨r,rfl,?_⟩;rcases hr with⟨h1,h2⟩|⟨q,h1,h2,h3,h4,h5⟩
     ·grind[drop_cons]
     ·refine .inr ⟨q,h1,by omega,h3,?_,h5⟩
      grind[drop_cons]
   grind
 obtain⟨r,e,hr⟩:=zM Ae 0 (by omega) (Ah (by omega));rw[show((0:Nat):Int)=0 from rfl]at e;unfold Cx E5 EB FM;rw[show(t.1,())=t from rfl,e];simp only[AD];rcases hr with⟨h1,h2⟩|⟨q,h1,h2,h3,h4,h5⟩
 ·grind
 ·rw[h1,AOV.2 (by omega),ANE,AL (by omega) (by omega),show((q:Int)+1)=((q+1:Nat):Int)by omega,key Ae q (q+1) l (by omega) (by omega) hl (Ah (by omega))]
  rw[AUE]at h4;have hd:=h5 h3 _ rfl;grind[List.take_append_drop,drop_cons]
theorem cA{a b:AAC}(ha:a.length<=2^30)(hb:b.length<=2^30):NO a b=some (((),()),(a.filter b.contains,())):=by
 unfold NO;rw[D2 ha];simp only[AD];rw[n_ hb ha];grind
theorem P2{a:AAC}{x:Int}(ha:a.length<=2^30):HY a x=some (((),()),(less a [x],())):=by
 unfold HY less;rw[D2 ha];simp only[AD];rw[bn ha];grind
theorem pS{d:BR}:Zq d=some ((P8 d,()),()):=by
 obtain⟨k,a,b,n,t,⟨⟩⟩:=d;obtain⟨m,hm⟩:∃m,Ae=m+4:=⟨Ae-4,by have:=bo;omega⟩;have fin:∀(a' b' n':Int) (t':ACB),(((BC k 1 16).bind fun u4=>cond (u4.1.1) (cond ((((0:Int)==0)&&((a' ==0)&&((b' ==0)&&((n' ==0)&&((t' ==[])&&true))))) ) ((GV t).bind fun u6=>some ((u6.1.1,()),())) (some ((false,()),()))) (some ((false,()),()))):Option QA)=some ((BS k 1 16&&((a' ==0)&&((b' ==0)&&((n' ==0)&&((t' ==[])&&decide (t.length<=40))))),()),()):=by
  intro a' b' n' t';rw[Aw];simp only[AD,GV,AXu,ANP,AUO];have e:decide ((t.length:Int)<=40)=decide (t.length<=40):=by grind
  grind
 unfold Zq ZV cE P8 fS;rw[hm];have h1:((1:Nat):Int)=1:=rfl;have w1:Aa (1:Int)=1:=AL (by omega) (by omega);have w2:Aa (2:Int)=2:=AL (by omega) (by omega);have w3:Aa (3:Int)=3:=AL (by omega) (by omega);have lim:(3:Nat)<=D8:=by rw[Bf];omega
 have l0:(0:Nat)<=D8:=by omega
 have l1:(1:Nat)<=D8:=by omega
 have l2:(2:Nat)<=D8:=by omega
 dsimp only;by_cases k8:k=8
 ·subst k8
  simpa[D1,Dc]using fin a b n t
 by_cases k10:k=10
 ·subst k10
  simpa[D1,Dc]using fin a b n t
 by_cases k12:k=12
 ·subst k12
  simpa[D1,Dc]using fin a b n t
 by_cases k2:k=2
 ·subst k2
  simpa[D1,Dc,l2,w1,w2]using fin 0 b n []
 by_cases k3:k=3
 ·subst k3
  simpa[D1,Dc,lim,w1,w2,w3]using fin 0 0 0 t
 by_cases k5:k=5
 ·subst k5
  simpa[D1,Dc,l2,w1,w2]using fin 0 0 n t
 by_cases k14:k=14
 ·subst k14
  simpa[D1,Dc,l2,w1,w2]using fin 0 0 n t
 by_cases k11:k=11
 ·subst k11
  simpa[D1,Dc,l2,w1,w2]using fin a 0 0 t
 by_cases k13:k=13
 ·subst k13
  simpa[D1,Dc,l1,w1]using fin 0 b n t
 have e8:(k==8)=false:=AOV.2 k8;have e10:(k==10)=false:=AOV.2 k10;have e12:(k==12)=false:=AOV.2 k12;have e2:(k==2)=false:=AOV.2 k2;have e3:(k==3)=false:=AOV.2 k3;have e5:(k==5)=false:=AOV.2 k5;have e14:(k==14)=false:=AOV.2 k14;have e11:(k==11)=false:=AOV.2 k11;have e13:(k==13)=false:=AOV.2 k13;simpa[k8,k10,k12,k2,k3,k5,k14,k11,k13,e8,e10,e12,e2,e3,e5,e14,e11,e13,D1,Dc,l1,w1]using fin 0 b n t
theorem oG{l:List Az}(hl:l.length<=2^20):PU l=some (((),()),(l.map (fun a=>a.1),())):=by
 have key:∀(n i:Nat) (b:AAC),i<=l.length->l.length-i<n->b.length=i->M9 n l l.length i b=some (((),()),(b++(l.drop i).map (fun a=>a.1),())):=by
  intro n
  induction n with
  |zero=>omega
  |succ n ih=>
   intro i b hi h hb;simp only[M9,YL,AB];by_cases aQ:i<l.length
   ·have c1:(0:Int)<=(i:Int)/\(i:Int)<(l.length:Int):=by omega
    have c2:b.length+1<=D8:=by rw[Bf];omega
    rw[AKJ c1.2,AKJ c1,AKJ c2,AL (by omega) (by omega),show((i:Int)+1)=((i+1:Nat):Int)by omega,Aj aQ,ih (i+1) _ (by omega) (by omega) (by simp_all),drop_cons aQ];grind
   grind
 unfold PU XI;have:=key Ae 0 [] (by omega) (Ah (by omega)) rfl;simp_all
theorem wc{c:CP}{s l:AAC}(hc:c.1.length<=2^40)(hl:l.length<=2^20)(hs:s.length<=2^20):fP c s l=some (((),()),(if Ay c s&&Ay c l then less s l else[],())):=by
 have key:∀(n i:Nat) (b:AAC),i<=s.length->s.length-i<n->b.length<=i->Sh n l s s.length i b=some (((),()),(b++less (s.drop i) l,())):=by
  intro n
  induction n with
  |zero=>omega
  |succ n ih=>
   intro i b hi h hb;simp only[Sh,dB,AB,BA];by_cases aQ:i<s.length
   ·have c1:(0:Int)<=(i:Int)/\(i:Int)<(s.length:Int):=by omega
    have c2:b.length+1<=D8:=by rw[Bf];omega
    rw[AKJ c1.2,AKJ c1,Aj aQ,I2 (by omega),AL (by omega) (by omega),show((i:Int)+1)=((i+1:Nat):Int)by omega,drop_cons aQ];simp only[AD,AKJ c2];rw[ih (i+1) b (by omega) (by omega) (by omega),ih (i+1) (b++[s[i]]) (by omega) (by omega) (by simp_all)];grind[less]
   ·rw[AKT (by omega),ANY (by omega)]
    simp[less]
 unfold fP dP;rw[show(c.1,c.2.1,())=c from rfl,ET hc (by omega),ET hc (by omega)];simp only[AD];cases Ay c s with
 |false=>rfl
 |true=>
  cases Ay c l with
  |false=>rfl
  |true=>
   have:=key Ae 0 [] (by omega) (Ah (by omega)) (by simp);simp_all
theorem filter_all{l:AAC}{p:Int->Bool}:((((l.filter p).length:Nat):Int) !=(l.length:Int))= !l.all p:=by
 rw[Bool.eq_iff_iff];simp only[bne_iff_ne,ne_eq,ATc,AUZ];grind[List.filter_eq_self,List.all_eq_true,List.length_filter_eq_length_iff]
theorem eQ{c:CP}{s l:AAC}(hc:c.1.length<=2^40)(hl:l.length<=2^20)(hs:s.length<=2^20):HI c s l=some ((Jo c s l,()),()):=by
 unfold HI Jo;rw[show(c.1,c.2.1,())=c from rfl,ET hc (by omega),Gj hc (by omega),cA (by omega) (by omega),wc hc hl hs];simp only[AD,BA,filter_all];have hh:holds c s=true->Ay c s=true:=fun h=>by
  unfold holds at h;simp_all
 cases h1:Ay c l with
 |false=>simp
 |true=>
  cases h2:holds c s with
  |false=>rfl
  |true=>
   cases h3:l.all s.contains with
   |false=>rfl
   |true=>
    have h4:(less s l).length<=2^20:=ARi (ASs _ _) hs;rw[hh h2];simp only[ANa,Bool.and_self,ATt,AMy,ANE,ANP];grind[Gj]
theorem Xv{a b:AJ}:Rc a b=some ((better a b,()),()):=by
 unfold Rc better;grind
theorem qO{s:AAC}{p:Int}{l:List Az}(hs:s.length<=2^20)(hl:l.length<=2^20)(P7:∀a∈l,DR a.2.2.1):
  Zs l s p=some (((((Fu s p none l).getD Dz),(Fu s p none l).isSome,()),()),()):=by
 have key:∀(n i:Nat) (b:Option AJ),i<=l.length->l.length-i<n->
   Oh n s p b.isSome l l.length i 0 0 false [] (b.getD Dz).1 (b.getD Dz).2.1 (b.getD Dz).2.2.1 (b.getD Dz).2.2.2.1=some (((((Fu s p b (l.drop i)).getD Dz),(Fu s p b (l.drop i)).isSome,()),()),()):=by
  intro n
  induction n with
  |zero=>omega
  |succ n ih=>
   intro i b hi h;simp only[Oh,ZU,AB,BA];by_cases aQ:i<l.length
   ·have c1:(0:Int)<=(i:Int)/\(i:Int)<(l.length:Int):=by omega
    rw[AKJ c1.2,AKJ c1,AL (by omega) (by omega),show((i:Int)+1)=((i+1:Nat):Int)by omega,Aj aQ,drop_cons aQ];have ih':=fun b=>ih (i+1) b (by omega) (by omega)
    simp only[ih'];rw[I2 (by omega),show(l[i].2.2.1,l[i].2.2.2.1,l[i].2.2.2.2.1,l[i].2.2.2.2.2.1,())=Vg l[i]from rfl];rw[QZ (e:=Vg l[i]) (P7 _ (ANM aQ))];simp only[AD,Fu];cases h1:l[i].2.1 with
    |false=>simp
    |true=>
     cases h2:s.contains l[i].1 with
     |false=>simp
     |true=>
      cases h3:Ei (Vg l[i])with
      |false=>simp
      |true=>
       simp only[ANa,ANP];by_cases h4:l[i].2.2.1=p
       ·rw[C7,AKJ h4,AKJ (by show((Vg l[i]).1==p)=true;rw[AUM];exact h4)]
        cases b with
        |none=>
         simp only[AUR,ANE,Xv,AD,Option.getD_none];have:=ih' (some (Vg l[i]));simp only[AUS,AUP]at this;have hb:better (Vg l[i]) (Vg l[i])=Vg l[i]:=by unfold better;simp_all
         simp_all
        |some x=>
         simp only[AUS,ANa,AUP];rw[de x];grind[Xv,AD,better,Vg,Option.isSome_some]
       ·rw[C7,AKT h4,AKT (by show¬((Vg l[i]).1==p)=true;rw[AUM];exact h4)]
   ·rw[AKT (by omega),ANY (by omega)]
    rfl
 unfold Zs ZI;exact key Ae 0 none (by omega) (Ah (by omega))
theorem cN{s t:AAC}{p:Int}:∀{l:List Az} {b:Option AJ},(∀a∈l,s.contains a.1=t.contains a.1)->Fu s p b l=Fu t p b l
 |[],b,_=>rfl
 |a::l,b,h=>by
  simp only[Fu];rw[h a (by simp),cN (fun x hx=>h x (by simp[hx])),cN (fun x hx=>h x (by simp[hx]))]
theorem WA{e:As}{a b:Int}{l:List As}(h:l.length<=2^30):FO e a b l=some (((),()),((a,b,(),()),(),l++[e],())):=by
 unfold FO;rw[AKJ (by rw[Bf];omega)]
theorem eI{s:AAC}{l:List Az}{a b:Int}{o:List As}(ha:1<=a/\a<=30)(hb:1<=b/\b<=60)(ho:o.length<=2^20)(hs:s.length<=2^20)(hl:l.length<=2^20)(P7:∀a∈l,DR a.2.2.1):
  DL l s a b o=some (((),()),((a,b+1,(),()),(),o++[Hm (EN a b) (Fu s (EN a b) none l)],())):=by
 unfold DL;rw[IG];have hp:Gw a b=EN a b:=by
  unfold Gw;rw[AKJ (by rw[ALz,Ai,Ai];omega)]
 simp only[AD];rw[hp,qO hs hl P7];simp only[AD,WA (ARi ho (by omega))];rw[AL (by omega) (by omega)];cases Fu s (EN a b) none l with
 |none=>rfl
 |some x=>
  simp only[AUS,AMy,ANE,AUP,Hm];grind
theorem AAd{x e o:Int}(hx:x=0\/BZ x=true)(he:1<=e/\e<=31)(ho:1<=o/\o<=61):
  decide (x>=EN e o)=(decide (x>0)&& !(decide (AN x<e)||((AN x==e)&&decide (BD x<o)))):=by
 rcases hx with rfl|hx
 ·grind[decide_eq_false,EN]
 ·have h:=CM hx
  rw[Bool.eq_iff_iff];simp only[ALz,ATc,Bool.or_eq_false_iff,ANK,AUi,Bool.and_eq_false_iff,AOV];grind[EN]
theorem oS{x:Int}{r:AZ}(hx:DR x):Iy x r=some ((decide (AN x<r.1)||((AN x==r.1)&&decide (BD x<r.2.1)),()),()):=by
 grind[Iy,EU,UW,AD,decide,AN]
theorem iH{c:CP}{g:AQ}{sure:Int}{r:AZ}{l:List Az}(hc:c.1.length<=2^20)(hg:Ag CG g.1<=2^20)(ht:DR g.2.1)(hl:l.length<=2^20)(P7:∀a∈l,DR a.2.2.1):
  KE c g sure r l=some (zT (B9 c g sure r l)):=by
 unfold KE B9;rw[show(c.1,c.2.1,())=c from rfl,show(g.1,g.2.1,())=g from rfl,Pq r,oG hl,NP (by omega) (by omega) ht,bK];simp only[AD,BA,AB];rw[ET (by omega) (by grind)];simp only[AD];cases h1:NC c g with
 |false=>rfl
 |true=>
 cases h2:Xk r with
 |false=>rfl
 |true=>
 cases h3:Ay c (l.map fun a=>a.1)with
 |false=>rfl
 |true=>
 have hr:=RQ.1 h2;have wt:=hr.ep;have hro:=hr.off;have hrn:=hr.n;have hR:=JF.1 h1;have hRn:=hR.n;simp only[ANa,ANP,AMy,AL4,AOK];rw[YR (by omega)];simp only[AD];by_cases h4:r.1>(g.1.length:Int)
 ·rw[AKJ h4,ARS h4];rfl
 rw[AKT h4,AUQ h4];by_cases h5:r.2.2.1.length=120
 ·rw[show(((r.2.2.1.length:Nat):Int)==120)=true by simp_all,ARS h5];rfl
 rw[show(((r.2.2.1.length:Nat):Int)==120)=false by grind,AUQ h5];simp only[ANE,ARx,AL4,AOK];rw[AL (x:=r.1-1) (by omega) (by omega),oS ht,EU ht,UW ht];simp only[AD];have hto:=kC (x:=g.2.1);rw[AL (x:=BD g.2.1+1) (by omega) (by omega),AL (x:=r.1+1) (by omega) (by omega)];simp only[WA (l:=r.2.2.1) (by omega),AD];have hta:=AAd (x:=g.2.1) (e:=r.1) (o:=r.2.1) (hR.trim.imp id fun h=>h.1) wt hro
 generalize ADX:g.1.getD (r.1-1).toNat Gd=era
 have K9:(r.1-1).toNat<g.1.length:=by omega
 have Ur:era.1.length<=2^20:=by
  have h7:=Ab (f:=CG) (BM (d:=Gd) K9);rw[ADX]at h7;have:CG era=era.1.length:=rfl;omega
 have hd:g.1.getD (r.1-1).toNat ([],false,0,())=era:=ADX;rw[hd];have hf:((l.map fun a=>a.1).filter era.1.contains).length<=2^20:=ARi (ASs _ _) (by simp_all);rw[cA (by grind) (by omega)];simp only[AD];rw[eQ (by omega) hf Ur];simp only[AD];have Ab5:(0:Int)<=r.1-1/\r.1-1<(g.1.length:Int):=by omega
 simp only[AKJ Ab5]
 generalize hT:(cond (era.2.1) _ _:Option Ko)=T
 have zE:T=some (zT (if era.2.1&&decide (r.2.1>era.2.2.1)then((r.1+1,1,r.2.2.1++[(4,r.1+1,[],())],()),0)else
   if(!era.2.1&&decide (r.2.1>sure))||decide (r.2.1>60)then(r,2)else
   if !Jo c era.1 ((l.map fun a=>a.1).filter era.1.contains)then(r,3)else
   ((r.1,r.2.1+1,r.2.2.1++[Hm (EN r.1 r.2.1) (Fu era.1 (EN r.1 r.2.1) none l)],()),0))):=by
  rw[<-hT];clear hT;have tail:r.2.1<=60->(cond (Jo c era.1 ((l.map fun a=>a.1).filter era.1.contains))
    ((DL l ((l.map fun a=>a.1).filter era.1.contains) r.1 r.2.1 r.2.2.1).bind fun TA=>some ((((TA.2.1.1,TA.2.1.2.1,(),()),0,()),()),(TA.2.2.2.1,())))
    (some ((((r.1,r.2.1,(),()),3,()),()),(r.2.2.1,()))):Option Ko)=some (zT (if !Jo c era.1 ((l.map fun a=>a.1).filter era.1.contains)then(r,3)else
    ((r.1,r.2.1+1,r.2.2.1++[Hm (EN r.1 r.2.1) (Fu era.1 (EN r.1 r.2.1) none l)],()),0))):=by
   intro h60;rw[eI (by omega) (by omega) (by omega) hf hl P7];rw[cN (s:=(l.map fun a=>a.1).filter era.1.contains) (t:=era.1) (fun a ha=>by
    rw[Bool.eq_iff_iff,AVs,AUJ];exact⟨fun h=>by simp_all,fun h=>⟨List.mem_map_of_mem ha,by omega⟩⟩)]
   cases Jo c era.1 ((l.map fun a=>a.1).filter era.1.contains)<;>rfl
  cases h7:era.2.1 with
  |true=>
   simp only[ANa,ANE,ANP,AMy,AUG,ARx,ANK];by_cases h8:r.2.1>era.2.2.1
   ·rw[AKJ h8,AKJ h8];rfl
   rw[AKT h8,AKT h8];by_cases h9:r.2.1>60
   ·rw[AKJ h9,AKJ h9];rfl
   grind
  |false=>
   simp only[ANa,ANE,ANP,ASm,AUG,AL4,AOK,ATB,ANK];by_cases h8:r.2.1>sure
   ·rw[AKJ h8,AKJ (.inl h8)];rfl
   rw[AKT h8];by_cases h9:r.2.1>60
   ·rw[AKJ h9,AKJ (.inr h9)];rfl
   grind
 rw[zE];clear hT zE
 generalize (decide (AN g.2.1<r.1)||((AN g.2.1==r.1)&&decide (BD g.2.1<r.2.1)))=B at hta|-
 by_cases h6:g.2.1>=EN r.1 r.2.1
 ·rw[ARS h6]at hta
  rw[AKJ h6];by_cases h0:g.2.1>0
  ·rw[AKJ h0]
   cases B with
   |true=>grind
   |false=>rfl
  simp_all
 ·rw[AKT h6]
  simp_all
theorem ADU{w:AA}{p n:Int}:(answer w p n).1=n:=by
 grind[answer]
theorem qy{w:AA}{p:Int}{ns:AAC}:(answers w p ns).map (fun a=>a.1)=ns.filter fun n=>Ak w n==0:=by
 unfold answers;rw[AVF]
 conv=>rhs;rw[<-List.map_id (ns.filter fun n=>Ak w n==0)]
 grind[List.map_congr_left,ADU]
theorem ll{c:CP}{g:AQ}{s:Int}{r:AZ}{w:AA}{ns:AAC}:
  B9 c g s r (answers w (Gw r.1 r.2.1) ns)=B9 c g s r (answers w (EN r.1 r.2.1) ns):=by
 unfold B9;rw[qy,qy];cases h1:NC c g with
 |false=>rfl
 |true=>
 cases h2:Xk r with
 |false=>rfl
 |true=>
 have hr:=RQ.1 h2;have wt:=hr.ep;have hro:=hr.off;have hRn:=(JF.1 h1).n;by_cases h3:r.1<=30/\r.2.1<=60
 ·have:Gw r.1 r.2.1=EN r.1 r.2.1:=by
   unfold Gw;rw[AKJ (by rw[ALz,Ai,Ai];omega)]
  rw[this]
 ·by_cases h4:r.1>(g.1.length:Int)
  ·simp_all
  ·have h5:r.2.1>60:=by omega
   simp_all
def kh(q:AA×Int):Kq:=((q.2,()),(((),q.1.2.1,(),(),(),q.1.2.2.2.2.2.1,(),(),(),(),q.1.2.2.2.2.2.2.2.2.2.2.1,()),q.1.1,q.1.2.2.1,q.1.2.2.2.1,q.1.2.2.2.2.1,q.1.2.2.2.2.2.2.1,q.1.2.2.2.2.2.2.2.1,q.1.2.2.2.2.2.2.2.2.1,q.1.2.2.2.2.2.2.2.2.2.1,()))
theorem AMR{k n:Int}(h:n∈Ap k):0<=n/\n<=7:=by
 unfold Ap at h;simp_all;omega
theorem xq{k:Int}:(Ap k).length<=8:=by
 unfold Ap;split
 ·exact ARi (ASs _ _) (by simp)
 ·simp
section
variable{w:AA} (h:OG w) (Wa:gG w)
include h Wa
omit Wa in
theorem za{p:Int}{ns:AAC}:∀a∈answers w p ns,DR a.2.2.1:=fun a ha=>by
 unfold answers at ha;obtain⟨n,hn,rfl⟩:=AUV.1 ha;have hn':Ak w n=0:=by have:=(AUJ.1 hn).2;rwa [AUM]at this
 unfold answer;split
 ·rename_i e he
  have:=(h.store hn').kept e (AUb he);exact Jv (Fh.1 this).pl
 ·exact⟨by show-9223372036854775808<=(0:Int);omega,by show(0:Int)<9223372036854775808;omega⟩
theorem ik{a k:Int}:NF a k w.2.1 w.2.2.2.2.2.1 w.2.2.2.2.2.2.2.2.2.2.1 w.1 w.2.2.1 w.2.2.2.1 w.2.2.2.2.1 w.2.2.2.2.2.2.1 w.2.2.2.2.2.2.2.1 w.2.2.2.2.2.2.2.2.1 w.2.2.2.2.2.2.2.2.2.1=some (kh (Ir w a k)):=by
 have kn:=h.nums;have k1:=kn.c;have k3:=kn.lost;have k4:=kn.st;have jF:=kn.J8;have kf:=kn.jE;have k5:=kn.era;have k6:=kn.ws;have k6':Ag Al w.Ao<=80008:=kn.ws;have k8:=kn.rd;unfold NF Nf Ir;rw[AL (by omega) (by omega),show((w.2.2.2.2.2.2.2.2.1.length:Int)-1)=1 by omega,Aw];simp only[AD,BA];rcases AJ5 (BS a 0 1)with h1|h1
 rotate_left
 ·rw[h1];rfl
 have h1':=Ai.1 h1;have hb:0<=a/\a<(w.2.2.2.2.2.2.2.2.1.length:Int):=by omega
 have K9:a.toNat<w.AX.length:=by
  simp_all
 have Ya:=h.AX _ (BM (d:=AW) K9);rw[h1,GI,ANa,AKJ hb,ZP];simp only[show w.2.2.2.2.2.2.2.2.1.getD a.toNat (0,0,[],())=w.AX.getD a.toNat AW from rfl]
 generalize hx:w.AX.getD a.toNat AW=r at Ya|-
 have wt:=Ya.ep;have hro:=Ya.off;rw[IG];simp only[AD];have wq:=xq (k:=k);have hmi:=fun n=>AMR (k:=k) (n:=n)
 rw[<-ll]
 generalize hp:Gw r.1 r.2.1=p
 have P7:=fun ns=>za h (p:=p) (ns:=ns)
 generalize Ap k=ms at wq hmi
 have key:∀(n i:Nat) (b:List Az),i<=ms.length->ms.length-i<n->b.length<=i->b=answers w p (ms.take i)->
   DM n a p ms.length i w.2.1 w.2.2.2.2.2.1 w.2.2.2.2.2.2.2.2.2.2.1 w.1 w.2.2.1 w.2.2.2.1 w.2.2.2.2.1 w.2.2.2.2.2.2.1 w.2.2.2.2.2.2.2.1 w.2.2.2.2.2.2.2.2.1 w.2.2.2.2.2.2.2.2.2.1 r.1 r.2.1 r.2.2.1 b ms=
    some (kh (if(B9 (AU w) (CA w) (Vb w r.1) r (answers w p ms)).2≠0 then(w,5)else(w.DC (w.AX.set a.toNat (B9 (AU w) (CA w) (Vb w r.1) r (answers w p ms)).1),0))):=by
  intro n
  induction n with
  |zero=>omega
  |succ n ih=>
   intro i b hi hn hb' he;simp only[DM,Nk,AB,BA];by_cases Dr:i<ms.length
   ·have c1:(0:Int)<=(i:Int)/\(i:Int)<(ms.length:Int):=by omega
    have c2:b.length+1<=D8:=by rw[Bf];omega
    have ht:ms.take (i+1)=ms.take i++[ms[i]]:=AUN Dr;rw[AKJ c1.2,AKJ c1,Aj Dr,AL (by omega) (by omega),show((i:Int)+1)=((i+1:Nat):Int)by omega,HJ w,bA (by omega)];simp only[AD];have hm:=hmi _ (ANM Dr);by_cases hn0:Ak w ms[i]=0
    ·obtain⟨n1,n2,n3⟩:=Eb hn0
     have n2':ms[i]<(w.2.2.1.length:Int):=n2;have n3':w.2.2.2.1.contains ms[i]=false:=by
      simp_all
     have hs1:(ms[i]).toNat<w.2.2.1.length:=by omega
     have aS:w.2.2.1.getD (ms[i]).toNat ([],[],0,())=storeAt w ms[i]:=rfl;have hsm:Al (storeAt w ms[i])<=2^30:=ARi (Ab (f:=Al) (BM (d:=Cz) hs1)) (by omega);have Ac1:CI (storeAt w ms[i])=true:=Dd.2 (h.store hn0);rw[AKJ n2',n3',ANE,AKJ ⟨n1,n2'⟩,aS,show((storeAt w ms[i]).1,(storeAt w ms[i]).2.1,(storeAt w ms[i]).2.2.1,())=storeAt w ms[i]from rfl,Tk hsm (h.store hn0).sin];simp only[AD];rw[AKJ c2];refine ih (i+1) _ (by omega) (by omega) (by simp_all) ?_
     rw[ht,he];unfold answers;rw[List.filter_append,List.map_append];congr 1;rw[AUH,AKJ (by simp_all),AYg,AVq,AXx];congr 1;unfold answer X0;rw[AKJ Ac1];cases Ew p (storeAt w ms[i]).1<;>rfl
    ·have n1:=ih (i+1) b (by omega) (by omega) (by omega) (by
      rw[ht,he];unfold answers;rw[List.filter_append,List.map_append,AUH,AKT (by simp_all),AYg,AXx,ANm])
     by_cases hl:ms[i]<(w.2.2.1.length:Int)
     ·rw[AKJ hl]
      have AVt:w.2.2.2.1.contains ms[i]=true:=by
       cases hc:w.2.2.2.1.contains ms[i]with
       |true=>rfl
       |false=>
        exfalso
        apply hn0;unfold Ak;have e1:BS ms[i] 0 ((w.Ao.length:Int)-1)=true:=Ai.2 (by omega);simp_all
      simp_all
     grind
   ·have e0:ms.take i=ms:=AUL (by omega)
    rw[e0]at he;subst he;have hal:(answers w p ms).length<=8:=by omega
    rw[AKT (by omega),HJ w,qe Wa,Pq r,show(w.1,w.2.1,())=AU w from rfl,show(w.2.2.2.2.1,w.2.2.2.2.2.1,())=CA w from rfl];simp only[AD];rw[iH (c:=AU w) (g:=CA w) (by show w.1.length<=_;omega) (by show Ag CG w.2.2.2.2.1<=_;omega) kn.trim (by omega) (P7 ms)];simp only[AD,zT,C7];by_cases h2:(B9 (AU w) (CA w) (Vb w r.1) r (answers w p ms)).2=0
    ·rw[AKJ h2,AKJ hb,AKT (fun hh=>hh h2)];rfl
    ·rw[AKT h2,AKJ h2];rfl
 grind[Ae,Ah,answers]
end
theorem qf{c:CP}{g:AQ}{sure:Int}{r:AZ}{l:List Az}(h0:(B9 c g sure r l).2=0):
  (∃e:As,(B9 c g sure r l).1.2.2.1=r.2.2.1++[e]/\e.2.2.1.length<=40)/\r.2.2.1.length<120:=by
 have hf:∀p,(Hm p (Fu (g.1.getD (r.1-1).toNat Gd).1 p none l)).2.2.1.length<=40:=fun p=>by
  cases hb:Fu (g.1.getD (r.1-1).toNat Gd).1 p none l with
  |none=>show 0<=40;omega
  |some x=>
   have:=(Fh.1 (fQ (b:=none) (fun x hx=>by cases hx) x hb)).len;unfold Hm;dsimp only;split
   all_goals simp_all
 revert h0
 unfold B9;dsimp only;split
 ·omega
 rename_i hs;simp only[AOP,AOe,ALz,RQ]at hs;have r3:=hs.2.1.n;split
 ·omega
 rename_i h1;simp only[ATB,ANK,AYp]at h1;have K9:r.2.2.1.length<120:=by omega
 split
 ·simp_all
 split
 ·simp_all
 split
 ·omega
 split
 all_goals simp_all
theorem OG.AUp{w:AA}(h:OG w)(hr:Ag A_ w.AX<=900000):gG w:=by
 have hc:=(Gu h.cfg).2.1;have aQ:w.1.length<=8:=hc;have a1:=GX (f:=Al) (B:=10000) (N:=8) (l:=w.Ao) (by rw[h.pj];omega) fun s hs=>(h.VZ hs).w
 have a2:=Hv h.lost;have a3:=h.mf.w;have a4:=GX (f:=Au) (B:=3000) h.sS fun x hx=>(h.AH x hx).1.w
 have a5:=GX (f:=CO) (B:=5000) h.zF fun x hx=>(h.Bg x hx).1.w
 have a7:=GX (f:=EL) (B:=40) h.QD fun s hs=>(h.BE s hs).2.2
 refine⟨?_,fun s hs=>(h.VZ hs).sin,h.mf.tin,fun m hm=>(h.Bg m hm).1.ein,fun s hs=>Jv (h.BE s hs).1⟩;have a3':Ag CG w.Af<=270:=a3;grind[Ag,A_,Al,CG,Au,CO,EL,C0]
def AC3(w:AA)(a:Int):Nat:=(w.AX.getD a.toNat AW).2.2.1.length
theorem uU{α:Type}{f:α->Nat}{x:α}:∀{l:List α} {i:Nat} (h:i<l.length),Ag f (l.set i x)+f l[i]=Ag f l+f x
 |y::l,0,_=>by simp[Ag];omega
 |y::l,i+1,h=>by
  have:=uU (f:=f) (x:=x) (l:=l) (i:=i) (by simp_all);grind[Ag]
theorem t_{α:Type}{f:α->Nat}{x:α}:∀{l:List α},Ag f (l++[x])=Ag f l+(1+f x)
 |[]=>by simp[Ag]
 |y::l=>by
  have:=t_ (f:=f) (x:=x) (l:=l);grind[Ag]
theorem xm{w:AA}{a k:Int}(h:OG w)(e:(Ir w a k).2=0):BS a 0 1=true/\OG (Ir w a k).1/\AC3 (Ir w a k).1 a=AC3 w a+1/\AC3 w a<120/\
  AC3 (Ir w a k).1 (1-a)=AC3 w (1-a)/\Ag A_ (Ir w a k).1.AX<=Ag A_ w.AX+41:=by
 have Bt:=vX h e;unfold Ir at e Bt|-;split at e
 ·omega
 rename_i h1;rw[AKT h1]at Bt;rw[AKT h1];dsimp only at e Bt|-;split at e
 ·omega
 rename_i h2;rw[AKT h2]at Bt;rw[AKT h2];simp only[ne_eq,AXI]at h2;simp only[AOP,AOe]at h1;have h1':=Ai.1 h1;have hl:a.toNat<w.AX.length:=by rw[h.o8];omega
 obtain⟨⟨ev,q1,q2⟩,q3⟩:=qf h2
 generalize hq:(B9 (AU w) (CA w) (Vb w (w.AX.getD a.toNat AW).1) (w.AX.getD a.toNat AW) (answers w (EN (w.AX.getD a.toNat AW).1 (w.AX.getD a.toNat AW).2.1) (Ap k))).1=q at q1 Bt
 have hg:(w.AX.set a.toNat q).getD a.toNat AW=q:=by simp_all
 have bg:(1-a).toNat≠a.toNat:=by omega
 refine⟨h1,Bt,?_,q3,?_,?_⟩
 ·show((w.AX.set a.toNat q).getD a.toNat AW).2.2.1.length=_
  grind[AC3]
 ·show((w.AX.set a.toNat q).getD (1-a).toNat AW).2.2.1.length=_
  simp only[List.getD,ASh (Ne.symm bg)];rfl
 ·show Ag A_ (w.AX.set a.toNat q)<=_
  have:=uU (f:=A_) (x:=q) hl;have e1:A_ q=Ag CQ q.2.2.1:=rfl;have e2:A_ w.AX[a.toNat]=Ag CQ w.AX[a.toNat].2.2.1:=rfl;rw[q1,t_,KZ hl]at e1;have e3:CQ ev=ev.2.2.1.length:=rfl;omega
theorem jb{α:Type}{q:Nat}{v l:List α}(hq:q<=l.length)(hl:l.length+v.length<=2^30):xA (q:Int) v l=some (l.take q++v++l.drop q):=by
 unfold xA;rw[AKJ ⟨by omega,by omega,by rw[Bf];omega⟩,ANJ]
theorem xI{l:AAC}(ha:T4 id l)(hl:l.length<=2^30)(p:Int):∃q,jj id p l q/\
  Gc l p=some ((((q:Int),(match l[q]? with|some e=>e==p|none=>false),()),()),()):=by
 have key:∀(n a b:Nat),a<=b->b<=l.length->b-a<n->(∀(i:Nat) (h:i<l.length),i<a->l[i]<p)->(∀(i:Nat) (h:i<l.length),b<=i->p<=l[i])->
   ∃q,jj id p l q/\D4 n l p l.length a b=some ((((q:Int),(match l[q]? with|some e=>e==p|none=>false),()),()),()):=by
  intro n
  induction n with
  |zero=>omega
  |succ n ih=>
   intro a b sF hb hn h1 h2;simp only[D4,J9,AB,cmp_Less_int,cmp_isNaN_int,Pr,bne_self_eq_false,AD,ANE];by_cases K9:a<b
   ·have hm:(a+b)/2<l.length:=by omega
    rw[AKJ (by omega),wa (by omega),AKJ (by omega),Aj hm];by_cases hc:l[(a+b)/2]<p
    ·rw[AKJ hc,AL (by omega) (by omega),show((((a+b)/2:Nat):Int)+1)=(((a+b)/2+1:Nat):Int)by omega]
     refine ih _ b (by omega) hb (by omega) (fun i h hi=> ?_) h2;have:=bj (f:=id) ha h hm (by omega);grind
    ·have hge:∀(i:Nat) (h:i<l.length),(a+b)/2<=i->p<=l[i]:=fun i h hi=>by
      have:=bj (f:=id) ha hm h hi;grind
     rw[AKT hc];exact ih a _ (by omega) (by omega) (by omega) h1 hge
   ·have AE3:a=b:=by omega
    subst AE3;refine⟨a,⟨hb,h1,h2⟩,?_⟩;rw[AKT (by omega)];by_cases ha':a<l.length
    ·rw[AKJ (by omega),AKJ (by omega),Aj ha',AKS ha']
     dsimp only;cases l[a]==p<;>simp[ha']
    grind
 obtain⟨q,hq,e⟩:=key Ae 0 l.length (by omega) (by omega) (Ah (by omega)) (fun i h hi=>by omega) (fun i h hi=>by omega);refine⟨q,hq,?_⟩;unfold Gc J_;omega
theorem pE{x:Int}:∀{l:AAC} {q:Nat},jj id x l q->(∀h:q<l.length,l[q]≠x)->iK x l=l.take q++[x]++l.drop q
 |[],q,h,_=>by
  have:=h.le;have:q=0:=by simp_all
  subst this;rfl
 |y::l,0,h,hn=>by
  have h1:=h.ge 0 (by simp) (AP7 _);have h2:=hn (by simp);simp only[AVe,id]at h1 h2;simp only[iK];grind
 |y::l,q+1,h,hn=>by
  have h1:=h.lt 0 (by simp) (by omega);simp only[AVe,id]at h1;simp only[iK];rw[AKT (by omega),pE (l:=l) (q:=q) ⟨by have:=h.le;simp_all,fun i hi hiq=>by have:=h.lt (i+1) (by simp_all) (by omega);simp_all,fun i hi hiq=>by have:=h.ge (i+1) (by simp_all) (by omega);simp_all⟩ (fun hq=>by simp_all)];rfl
theorem PI{l:AAC}{x:Int}(ha:T4 id l)(hl:l.length<=2^29):Kv l x=some (((),()),(Jx x l,())):=by
 unfold Kv Jx;rw[D2 (by omega)];simp only[AD];obtain⟨q,hq,e⟩:=xI ha (by omega) x;rw[e];simp only[AD,BA];by_cases hc:q<l.length
 ·rw[AKS hc]
  dsimp only;by_cases he:l[q]=x
  ·grind
  ·rw[AOV.2 he,ANE]
   have hn:l.contains x=false:=by
    rw[AUZ,ne_eq,AVs];intro hm;obtain⟨i,hi,rfl⟩:=AQo hm;rcases Nat.lt_or_ge i q with hiq|hiq
    ·have:=hq.lt i hi hiq;simp_all
    ·have h1:=bj (f:=id) ha hc hi hiq
     have h2:=hq.ge q hc (AP7 _);grind
   rw[hn,AKT (by simp)];grind[J2,jb,pE]
 ·rw[AUT (by omega)]
  dsimp only;rw[ANE];have hn:l.contains x=false:=by
   rw[AUZ,ne_eq,AVs];intro hm;obtain⟨i,hi,rfl⟩:=AQo hm;have:=hq.lt i hi (by omega);simp_all
  rw[hn,AKT (by simp)];unfold J2;rw[jb hq.le (by grind),pE hq (fun h=>absurd h hc)];rfl
theorem xE{e:AJ}:∀{l:List AJ} {q:Nat},jj (fun x:AJ=>x.1) e.1 l q->X3 l->
  keep e l=if h:q<l.length then(if l[q].1=e.1 then l.set q (better l[q] e)else l.take q++[e]++l.drop q)else l++[e]
 |[],q,h,_=>by
  rfl
 |y::l,0,h,_=>by
  have h1:=h.ge 0 (by simp) (AP7 _);simp only[AVe]at h1;simp only[keep,AN9,Nat.zero_lt_succ,AYZ,AVe];grind
 |y::l,q+1,h,ha=>by
  have h1:=h.lt 0 (by simp) (by omega);simp only[AVe]at h1;have ih:=xE (e:=e) (l:=l) (q:=q) ⟨by have:=h.le;simp_all,fun i hi hiq=>by have:=h.lt (i+1) (by simp_all) (by omega);simp_all,fun i hi hiq=>by have:=h.ge (i+1) (by simp_all) (by omega);simp_all⟩ (APg.1 ha).2;simp only[keep];grind
theorem cU{e:AJ}{l:List AJ}(ha:X3 l)(hl:l.length<=2^29):W_ e l=some (((),()),((),keep e l,())):=by
 unfold W_;obtain⟨q,hq,hs⟩:=eH ha (by omega) e.1;rw[hs,xE hq ha];simp only[AD,BA];by_cases hc:q<l.length
 ·rw[dif_pos hc,AKS hc]
  dsimp only;have hb:(0:Int)<=(q:Int)/\(q:Int)<(l.length:Int):=by omega
  by_cases he:l[q].1=e.1
  ·rw[AUM.2 he,ANa,AKJ he,AKJ hb,Aj hc,de (l[q]),de e,Xv]
   simp_all
  ·rw[AOV.2 he,ANE,AKT he]
   grind[D9,jb]
 ·have hql:q=l.length:=by have:=hq.le;omega
  rw[dif_neg hc,AUT (by omega)];dsimp only;rw[ANE];grind[D9,jb,List.take_length,List.drop_length]
theorem MR{s:AO}(hw:Al s<=2^30)(hs:r7 s):Dx s=some (if CI s then((((),(),s.2.2.1,()),()),(s.1,s.2.1,()))else((((),(),0,()),()),([],[],()))):=by
 obtain⟨l1,l2⟩:=GF hw;unfold Dx;rw[Pq s,FH hw hs,IM l1 l2];grind
theorem lR{s:AO}{e:AJ}(hw:Al s<=2^30)(hs:r7 s)(he:DR e.1):UR s e=some (nK (GP s e)):=by
 obtain⟨l1,l2⟩:=GF hw;unfold UR GP;rw[Pq s,de e,FH hw hs,MR hw hs,IM l1 l2,QZ he,EU he];simp only[AD,BA,AB,DW];cases h1:CI s with
 |false=>rfl
 |true=>
  have Bt:=Dd.1 h1;have y6:=Bt.nl;cases h2:Ei e with
  |false=>rfl
  |true=>
   have hE:=(Fh.1 h2).w0;simp only[ANa,ANP,AMy,AL4,AOK,ATt];have lim:s.2.1.length+1<=D8:=by rw[Bf];omega
   by_cases h3:s.2.1.length=20
   ·rw[AKJ (by omega),AUQ (fun h=>h h3),AXj]
    rfl
   ·rw[AKT (by omega),ARS (show s.2.1.length≠20 from h3),AUO]
    unfold takes;by_cases h4:e.2.1=0
    ·rw[AKJ h4,AKJ h4]
     by_cases h5:AN e.1<=s.2.2.1
     ·rw[AKJ h5,AUQ (by omega)];rfl
     ·rw[AKT h5,AKT (by omega),AKJ lim,ARS (by omega)];rfl
    ·rw[AKT h4,AKT h4,AKJ (by omega)]
     by_cases h5:e.2.1<=s.2.2.1
     ·rw[AKJ h5,AUQ (by omega)];rfl
     ·rw[AKT h5,AKJ lim,ARS (by omega)];rfl
theorem Xj{s:AO}{k:Int}(hw:Al s<=2^30)(hs:r7 s):M0 s k=some (nK (EK s k)):=by
 obtain⟨l1,l2⟩:=GF hw;unfold M0 Te EK;rw[Pq s,FH hw hs,MR hw hs,IM l1 l2,Aw];simp only[AD,BA];cases h1:CI s with
 |false=>rfl
 |true=>
  have Bt:=Dd.1 h1;have y6:=Bt.nl;have hnk:=Bt.nk;simp only[ANa,AMy,AL4,AOK,ATt];cases h2:BS k 0 1048575 with
  |false=>rfl
  |true=>
   have hk:=Ai.1 h2;have Abb:0<=k/\k<2^63:=by omega
   simp only[ANa,ANP];have key:∀(n i:Nat) (b:List AJ),i<=s.2.1.length->s.2.1.length-i<n->b.length<=200+i->X3 b->
     Jr n k s.2.1 s.2.1.length i s.1 s.2.1 s.2.2.1 0 [] [] s.2.2.1 b []=
      some (nK (if decide ((Dn b (Mp k i (s.2.1.drop i))).length<=200)then((Dn b (Mp k i (s.2.1.drop i)),[],s.2.2.1,()),true)else(s,false))):=by
    intro n
    induction n with
    |zero=>omega
    |succ n ih=>
     intro i b hi hn hb sF;simp only[Jr,TX,AB];by_cases hc:i<s.2.1.length
     ·have AD8:=uy Abb (i:=i) (by omega)
      rw[AKJ (by omega),AKJ (by omega),AKT (by omega),ANJ,AD8,AB,KZ hc,AL (by omega) (by omega),show((i:Int)+1)=((i+1:Nat):Int)by omega,drop_cons hc];rw[de (s.2.1[i]),cU sF (by omega)];simp only[AD];rw[show Mp k i (s.2.1[i]::s.2.1.drop (i+1))=if(k/2^i)%2=1 then s.2.1[i]::Mp k (i+1) (s.2.1.drop (i+1))else Mp k (i+1) (s.2.1.drop (i+1))from rfl];by_cases hbt:(k/2^i)%2=1
      ·rw[AKJ hbt,AKJ hbt,ih (i+1) _ (by omega) (by omega) (by grind[XL]) (Uw sF)]
       rfl
      ·rw[AKT hbt,AKT hbt,ih (i+1) _ (by omega) (by omega) (by omega) sF]
     ·rw[AKT (by omega),ANY (by omega),Pq s,IM l1 l2]
      simp only[AD,Mp,Dn];by_cases hg:b.length<=200
      ·rw[AKT (by omega),AKJ (ARS hg)];rfl
      ·rw[AKJ (by omega),AKT (by simp_all)];rfl
   have:=key Ae 0 s.1 (by omega) (Ah (by omega)) (by omega) Bt.ft;simp_all
theorem Zh{s:AO}(hw:Al s<=2^30)(hs:r7 s):OT s=some (nK (Co s)):=by
 unfold OT Co;rw[Pq s,Xj hw hs];rfl
theorem j0{s:AO}{u:Int}(hw:Al s<=2^30)(hs:r7 s):O7 s u=some (nK (Bp s u)):=by
 unfold O7 Bp;rw[Pq s,Zh hw hs,MR hw hs,Aw];simp only[AD,BA,nK];cases h1:CI s with
 |false=>
  grind[Co,EK]
 |true=>
  grind
theorem mA{s:AO}{ep:Int}(hw:Al s<=2^30)(hs:r7 s):QM s ep=some (((),()),(GK s ep,())):=by
 obtain⟨l1,l2⟩:=GF hw;unfold QM WC GK;rw[Pq s,FH hw hs];simp only[AD,BA];cases h1:CI s with
 |false=>rfl
 |true=>
  have key:∀(n i:Nat) (b:List AJ),i<=s.1.length->s.1.length-i<n->b.length<=i->
    L5 n ep s.1 s.1.length i b=some (((),()),(b++(s.1.drop i).filter (fun e=>AN e.1==ep),())):=by
   intro n
   induction n with
   |zero=>omega
   |succ n ih=>
    intro i b hi hn hb;simp only[L5,V2,AB];by_cases hc:i<s.1.length
    ·rw[AKJ (by omega),AKJ (by omega),Aj hc,EU (hs.1 _ (ANM hc)),AL (by omega) (by omega),show((i:Int)+1)=((i+1:Nat):Int)by omega,drop_cons hc,AUH]
     simp only[AD];rw[AKJ (by rw[Bf];omega),de (s.1[i]),ih (i+1) _ (by omega) (by omega) (by simp_all),ih (i+1) b (by omega) (by omega) (by omega)];grind
    grind
  have:=key Ae 0 [] (by omega) (Ah (by omega)) (by simp);simp_all
theorem yo{x:AJ}{t:ABu}:PS (x.1,x.2.1,x.2.2.1,x.2.2.2.1,()) t=some ((decide (x.1<=t.1),()),()):=rfl
theorem eM{t:AD5}{l:List AJ}(hl:l.length<=2^30):B5 t l=some (((),()),((),l.filter (fun x=> !(decide (x.1<=t.1.1))),())):=by
 have key:∀(n i j:Nat) (b:List AJ),i<=j->j<=b.length->b.length<=2^30->b.length-j<n->BT n t i j b=some (((),()),((),b.take i++(b.drop j).filter (fun x=> !(decide (x.1<=t.1.1))),())):=by
  intro n
  induction n with
  |zero=>omega
  |succ n ih=>
   intro i j b hij hj hb hn;simp only[BT,De,AB];by_cases hc:j<b.length
   ·rw[AKJ (by omega),AKJ (by omega),Aj hc,yo]
    simp only[AD];rw[AL (x:=(j:Int)+1) (by omega) (by omega),AL (x:=(i:Int)+1) (by omega) (by omega),show((j:Int)+1)=((j+1:Nat):Int)by omega,show((i:Int)+1)=((i+1:Nat):Int)by omega,drop_cons hc,AUH];have n1:=ih (i+1) (j+1) (b.set i b[j]) (by omega) (by grind) (by simp_all) (by grind);have n2:=ih i (j+1) b (by omega) (by omega) hb (by omega);rw[show(t.1,())=t from rfl,n2];rw[AYh (by omega),AUN (by grind),AYi (AP7 _),AXH,ANs,AUg]at n1;rw[AKJ (by omega),ANJ,n1]
    generalize hx:b[j]=x
    cases(decide (x.1<=t.1.1))<;>rfl
   ·rw[AKT (by omega),ANY (i:=j) (by omega),ANJ,ANJ]
    simp_all;omega
 have zM:∀(n i:Nat),i<=l.length->l.length-i<n-> ∃r:Int,BV n l t l.length i=some ((r,()),())/\((r= -1/\(l.drop i).filter (fun x=> !(decide (x.1<=t.1.1)))=l.drop i)\/ ∃q:Nat,r=q/\i<=q/\q<l.length/\((l.take q).drop i).filter (fun x=> !(decide (x.1<=t.1.1)))=(l.take q).drop i/\ ∀(h:q<l.length) x,x=l[q]->(decide (x.1<=t.1.1))=true):=by
  intro n
  induction n with
  |zero=>omega
  |succ n ih=>
   intro i hi hn;simp only[BV,Dh,AB];by_cases hc:i<l.length
   ·rw[AKJ (by omega),AKJ (by omega),Aj hc,yo]
    simp only[AD];rw[AL (x:=(i:Int)+1) (by omega) (by omega),show((i:Int)+1)=((i+1:Nat):Int)by omega,show(t.1,())=t from rfl];obtain⟨r,e,hr⟩:=ih (i+1) (by omega) (by omega);rw[e]
    generalize hx:l[i]=x
    cases hp:(decide (x.1<=t.1.1))with
    |true=>
     grind
    |false=>
     refine⟨r,rfl,?_⟩;rcases hr with⟨h1,h2⟩|⟨q,h1,h2,h3,h4,h5⟩
     ·grind[drop_cons]
     ·refine .inr ⟨q,h1,by omega,h3,?_,h5⟩
      grind[drop_cons]
   grind
 obtain⟨r,e,hr⟩:=zM Ae 0 (by omega) (Ah (by omega));rw[show((0:Nat):Int)=0 from rfl]at e;unfold B5 DZ Cw Df;rw[show(t.1,())=t from rfl,e];simp only[AD];rcases hr with⟨h1,h2⟩|⟨q,h1,h2,h3,h4,h5⟩
 ·grind
 ·rw[h1,AOV.2 (by omega),ANE,AL (by omega) (by omega),show((q:Int)+1)=((q+1:Nat):Int)by omega,key Ae q (q+1) l (by omega) (by omega) hl (Ah (by omega))]
  rw[AUE]at h4;have hd:=h5 h3 _ rfl;grind[List.take_append_drop,drop_cons]
theorem kP{s:AO}{u:Int}(hw:Al s<=2^30)(hs:r7 s)(hu:DR u):SF s u=some (nK (GN s u)):=by
 obtain⟨l1,l2⟩:=GF hw;unfold SF GN;rw[Pq s,FH hw hs,MR hw hs,IM l1 l2,NH hu];simp only[AD];cases CI s with
 |false=>rfl
 |true=>
  cases BZ u with
  |false=>rfl
  |true=>
   rw[eM l1];simp only[AD,AMy,ANE,AL4,AOK,ATt];rw[show(fun x:AJ=> !decide (x.1<=(((u,()),()):AD5).1.1))=fun e=>decide (e.1>u)from funext fun x=>by
    grind]
   rfl
theorem AAP{p:Int}{n:Nat}:BS (AN p) 1 n=(BZ p&&decide (AN p<=n)):=by
 cases h:BZ p with
 |false=>
  unfold AN;rw[h];rfl
 |true=>
  obtain⟨⟨h1,h2⟩,_⟩:=CM h;unfold BS;simp_all
section
variable{c:CP} {r:AQ} (hc:c.1.length<=2^40) (hl:Ag CG r.1<=2^30) (ht:DR r.2.1)
include hc hl ht
theorem T7:EX c r=some (if NC c r then((((),r.2.1,()),()),(r.1,()))else((((),0,()),()),([],()))):=by
 unfold EX;rw[show(c.1,c.2.1,())=c from rfl,show(r.1,r.2.1,())=r from rfl,NP hc hl ht,H9 hl];grind
theorem oC{ns:AAC}(hn:ns.length<=2^30):Ml c r ns=some (((((),(I0 c r ns).1.2.1,()),(I0 c r ns).2.1,(I0 c r ns).2.2,()),()),((I0 c r ns).1.1,())):=by
 have l1:=AY (f:=CG) (l:=r.1);unfold Ml I0;rw[show(c.1,c.2.1,())=c from rfl,show(r.1,r.2.1,())=r from rfl,NP hc hl ht,T7 hc hl ht,H9 hl,Gj hc (by omega),D2 hn];simp only[AD];cases NC c r with
 |false=>rfl
 |true=>
  cases holds c ns with
  |false=>rfl
  |true=>
   simp only[AMy,ANE,AL4,AOK,ANP,ATt];by_cases h30:r.1.length=30
   ·simp_all
   ·rw[show((r.1.length:Int)==30)=false by grind,show decide (r.1.length≠30)=true by simp[h30],ANE,AKJ (by rw[Bf];omega)]
    simp
theorem lx{b last:Int}:QL c r b last=some (pkR (M1 c r b last)):=by
 have l1:=AY (f:=CG) (l:=r.1);unfold QL M1;rw[show(c.1,c.2.1,())=c from rfl,show(r.1,r.2.1,())=r from rfl,NP hc hl ht,T7 hc hl ht,H9 hl,SX (by omega)];simp only[AD];rcases AJ5 (NC c r)with hr|hr
 rotate_left
 ·rw[hr];rfl
 have Bt:=JF.1 hr;rw[hr];simp only[AMy,ANE,AL4,AOK,ATt];by_cases h1:b=r.1.length
 rotate_left
 ·rw[show(b !=(r.1.length:Int))=true by simp_all,show decide (b=(r.1.length:Int))=false by simp_all]
  rfl
 rw[show(b !=(r.1.length:Int))=false by simp_all,show decide (b=(r.1.length:Int))=true by simp_all];simp only[ANE,ANP];by_cases h3:b=BF r.1
 ·rw[show(BF r.1==b)=true by simp_all,show decide (b≠BF r.1)=false by simp_all,AUG,AXj]
  rfl
 have AMK:0<r.1.length:=by
  rcases AYV r.1.length with hz|hz
  ·exact absurd (by rw[h1,hz];unfold BF;rw[hz];rfl) h3
  omega
 obtain⟨k,k1,k2,k3,k4⟩:=Ol Bt AMK;rw[show(BF r.1==b)=false by grind,show decide (b≠BF r.1)=true by simp_all,show decide (BF r.1≠0)=true by grind,Aw];simp only[ANE,ANP,AD];cases BS last 0 60 with
 |false=>rfl
 |true=>
  simp only[AMy,ANE,ATt];rw[k2,AL (by omega) (by omega),show((k:Int)+1-1)=(k:Int)by omega,AKJ (by omega),AKJ (by simp_all),ANJ];unfold pkR G8;simp_all
theorem oW{p:Int}(hp:DR p):Ww c r p=some (pkR (MN c r p)):=by
 unfold Ww MN;rw[show(c.1,c.2.1,())=c from rfl,show(r.1,r.2.1,())=r from rfl,NP hc hl ht,T7 hc hl ht,H9 hl,EU hp];simp only[AD];rw[Aw,AAP];simp only[AD];cases NC c r with
 |false=>rfl
 |true=>
  cases BZ p&&decide (AN p<=(r.1.length:Int))with
  |false=>rfl
  |true=>
   simp only[AMy,ANE,AL4,AOK,ATt];rw[show(if p>r.2.1 then p else r.2.1)=max r.2.1 p by omega];rfl
end
section
variable{c:CP} {w:AM} (hc:c.1.length<=2^40) (hl:Ag BX w.2.1<=2^20)
include hc hl
theorem WN:EY c w=some (if F7 c w then(((w.1,(),()),()),(w.2.1,()))else(((0,(),()),()),([],()))):=by
 unfold EY;rw[show(c.1,c.2.1,())=c from rfl,show(w.1,w.2.1,())=w from rfl,JJ hc (by omega),Ju (by show Ag BX w.2.1<=2^30;omega)];grind
theorem j8{d:ACB}(hd:d.length<=2^20):J0 c w d=some (((((CL c w d).1.1,(),()),(CL c w d).2.1,(CL c w d).2.2,()),()),((CL c w d).1.2.1,())):=by
 have l1:=AY (f:=BX) (l:=w.2.1);unfold J0 CL;rw[show(c.1,c.2.1,())=c from rfl,show(w.1,w.2.1,())=w from rfl,Ju (by show Ag BX w.2.1<=2^30;omega),WN hc hl];simp only[AD];rw[AKJ (by rw[Bf];omega),JJ hc (by omega),JJ hc (by
  grind[Ag,BX,Zt,List.length_nil])]
 grind
theorem jW{o n:Int}:Ro c w o n=some (pkW (Rj c w o n)):=by
 have l1:=AY (f:=BX) (l:=w.2.1);unfold Ro Rj;rw[show(c.1,c.2.1,())=c from rfl,show(w.1,w.2.1,())=w from rfl,JJ hc (by omega),WN hc hl,Ju (by show Ag BX w.2.1<=2^30;omega),Aw,Aw];simp only[AD];rcases AJ5 (F7 c w)with hw|hw
 rotate_left
 ·rw[hw];rfl
 have Bt:=Il.1 hw;have AAx:=Gu Bt.cfg;rw[hw,AL (x:=(c.1.length:Int)-1) (by omega) (by omega)];simp only[AMy,ANE,AL4,AOK,ATt];rcases AJ5 (BS o 1 (w.2.1.length:Int))with ho|ho
 rotate_left
 ·rw[ho];rfl
 have xY:=Ai.1 ho;rw[ho];have hi:(o-1).toNat<w.2.1.length:=by omega
 have AGA:w.2.1.getD (o-1).toNat LP∈w.2.1:=BM (d:=LP) hi;have hm:(w.2.1.getD (o-1).toNat LP).1.length+(w.2.1.getD (o-1).toNat LP).2.1.length<=Ag BX w.2.1:=Ab (f:=BX) AGA;have AA4:=(Ef.1 (Bt.words _ AGA).2.1).2.2;simp only[AMy,ANE,ANP];rw[AL (x:=o-1) (by omega) (by omega),AKJ (by omega)]
 show cond (w.2.1.getD (o-1).toNat LP).2.2.1 _ _=_
 cases(w.2.1.getD (o-1).toNat LP).2.2.1 with
 |true=>
  cases BS n 0 ((c.1.length:Int)-1)<;>rfl
 |false=>
  cases BS n 0 ((c.1.length:Int)-1)with
  |false=>rfl
  |true=>
   simp only[ANE,ASm,ATt,AMy,Bool.and_self];rw[AKJ (by omega),show(w.2.1.getD (o-1).toNat ([],[],false,())).2.1=(w.2.1.getD (o-1).toNat LP).2.1 from rfl,PI AA4 (by omega)];simp only[AD];have hg:∀x:BI,(w.2.1.set (o-1).toNat x).getD (o-1).toNat ([],[],false,())=x:=fun x=>NM hi
   rw[hg,Gj hc (by
    grind[VK,LP])]
   simp only[AD];rw[AYj];rfl
theorem eo{n:Int}:N1 c w n=some (pkW (CJ c w n)):=by
 have l1:=AY (f:=BX) (l:=w.2.1);unfold N1 Ri CJ;rw[show(c.1,c.2.1,())=c from rfl,show(w.1,w.2.1,())=w from rfl,JJ hc (by omega),Ju (by show Ag BX w.2.1<=2^30;omega)];simp only[AD];cases F7 c w with
 |false=>rfl
 |true=>
  simp only[AMy,ANE,AL4,AOK];have key:∀(k i:Nat),i<=w.2.1.length->w.2.1.length-i<k->IA k n w.2.1 w.2.1.length i 0 [] w.1 ((w.2.1.map (DA n)).take i++w.2.1.drop i)=some (pkW ((w.1,w.2.1.map (DA n),()),true)):=by
   intro k
   induction k with
   |zero=>omega
   |succ k ih=>
    intro i hi hk;have hlen:((w.2.1.map (DA n)).take i++w.2.1.drop i).length=w.2.1.length:=Pm hi;simp only[IA,RW,AB,hlen];by_cases Dr:i<w.2.1.length
    ·have c1:(0:Int)<=(i:Int)/\(i:Int)<(w.2.1.length:Int):=by omega
     have hm:w.2.1[i].1.length+w.2.1[i].2.1.length<=Ag BX w.2.1:=Ab (f:=BX) (ANM Dr);have hg:((w.2.1.map (DA n)).take i++w.2.1.drop i).getD ((i:Int).toNat) ([],[],false,())=w.2.1[i]:=NB Dr;rw[AKJ c1.2];simp only[AKJ c1,hg];rw[Aj Dr,AL (by omega) (by omega),show((i:Int)+1)=((i+1:Nat):Int)by omega];rcases AJ5 (w.2.1[i].2.2.1)with hd|hd
     ·rw[hd]
      simp only[AMy,ANE];grind[jQ,mo]
     ·rw[hd]
      simp only[ASm,ANa];rw[P2 (by omega)];grind[AD,Int.toNat_natCast,QV,DA]
    ·rw[AKT (by omega),ANY (by omega)]
     have:i=w.2.1.length:=by omega
     subst this;rw[ANm,AUL (by simp)];rfl
  have:=key Ae 0 (by omega) (Ah (by omega));simp_all
end
section
variable{c:CP} {m:Av} (hc:c.1.length<=2^40) (hm:CO m<=2^20) (h:s6 m.2.2.2.1)
include hc hm h
theorem Rx:E6 c m=some (if HN c m then(((m.1,m.2.1,(),(),m.2.2.2.2.1,(),()),()),(m.2.2.1,m.2.2.2.1,m.2.2.2.2.2.1,()))else(((0,0,(),(),false,(),()),()),([],[],[],()))):=by
 unfold E6;rw[show(c.1,c.2.1,())=c from rfl,VO m,H0 hc (by omega) h,HV (by omega)];grind
theorem nj{o n:Int}:PN c m o n=some (jt (Yt c m o n)):=by
 obtain⟨h1,h2,h3,h4⟩:=JU hm;unfold PN Yt;rw[show(c.1,c.2.1,())=c from rfl,VO m,H0 hc (by omega) h,Rx hc hm h,HV (by omega),Aw,Aw];simp only[AD];rcases AJ5 (HN c m)with hw|hw
 rotate_left
 ·rw[hw];rfl
 have Bt:=Hi.1 hw;have AAx:=Gu Bt.cfg;rw[hw,AL (x:=(c.1.length:Int)-1) (by omega) (by omega)];simp only[AMy,ANE,AL4,AOK,ATt];rcases AJ5 (BS o 1 (m.2.2.2.2.2.1.length:Int))with ho|ho
 rotate_left
 ·rw[ho];rfl
 have xY:=Ai.1 ho;rw[ho];cases BS n 0 ((c.1.length:Int)-1)with
 |false=>rfl
 |true=>
  have hi:(o-1).toNat<m.2.2.2.2.2.1.length:=by omega
  have AGA:=BM (d:=([]:AAC)) hi;have hq:=h4 _ AGA;have AA4:=(Ef.1 (Bt.wrote _ AGA)).2.2;simp only[AMy,ANE,ANP,ATt];rw[AL (by omega) (by omega),AKJ (by omega),PI AA4 (by omega)];simp only[AD];rw[AKJ (by omega)];rfl
theorem iQ{n:Int}:QR c m n=some (jt (CF c m n)):=by
 obtain⟨h1,h2,h3,h4⟩:=JU hm;unfold QR TZ CF;rw[show(c.1,c.2.1,())=c from rfl,VO m,H0 hc (by omega) h,HV (by omega)];simp only[AD];cases HN c m with
 |false=>rfl
 |true=>
  simp only[AMy,ANE,AL4,AOK];have key:∀(k i:Nat),i<=m.2.2.2.2.2.1.length->m.2.2.2.2.2.1.length-i<k->Jn k n m.2.2.2.2.2.1 m.2.2.2.2.2.1.length i 0 0 false [] [] [] m.1 m.2.1 m.2.2.2.2.1 m.2.2.1 m.2.2.2.1 ((m.2.2.2.2.2.1.map (fun l=>less l [n])).take i++m.2.2.2.2.2.1.drop i)=
    some (jt ((m.1,m.2.1,m.2.2.1,m.2.2.2.1,m.2.2.2.2.1,m.2.2.2.2.2.1.map (fun l=>less l [n]),()),true)):=by
   intro k
   induction k with
   |zero=>omega
   |succ k ih=>
    intro i hi hk;have hlen:=Pm (f:=fun l=>less l [n]) hi;simp only[Jn,TU,AB,hlen];by_cases Dr:i<m.2.2.2.2.2.1.length
    ·have c1:(0:Int)<=(i:Int)/\(i:Int)<(m.2.2.2.2.2.1.length:Int):=by omega
     have hq:=h4 _ (ANM Dr);rw[AKJ c1.2];simp only[AKJ c1];rw[Aj Dr,AL (by omega) (by omega),show((i:Int)+1)=((i+1:Nat):Int)by omega,P2 (by omega)];simp only[AD];rw[ANJ,QV Dr rfl];grind
    ·rw[AKT (by omega),ANY (by omega)]
     have:i=m.2.2.2.2.2.1.length:=by omega
     subst this;rw[ANm,AUL (by simp)];rfl
  have:=key Ae 0 (by omega) (Ah (by omega));simp_all
theorem jL:O8 c m=some ((Ph c m,()),()):=by
 obtain⟨h1,h2,h3,h4⟩:=JU hm;unfold O8 Us Ph;rw[show(c.1,c.2.1,())=c from rfl,VO m,H0 hc (by omega) h];simp only[AD];cases HN c m with
 |false=>rfl
 |true=>
  rcases AJ5 m.2.2.2.2.1 with hp|hp
  rotate_left
  ·simp_all
  have key:∀(k i:Nat),i<=m.2.2.2.2.2.1.length->m.2.2.2.2.2.1.length-i<k->Kf k m.2.2.2.2.2.1 m.2.2.2.2.2.1.length i c.1 c.2.1=some (((m.2.2.2.2.2.1.drop i).all (holds c),()),()):=by
   intro k
   induction k with
   |zero=>omega
   |succ k ih=>
    intro i hi hk;simp only[Kf,VA,AB];by_cases Dr:i<m.2.2.2.2.2.1.length
    ·have c1:(0:Int)<=(i:Int)/\(i:Int)<(m.2.2.2.2.2.1.length:Int):=by omega
     have hq:=h4 _ (ANM Dr);rw[AKJ c1.2,AKJ c1,AL (by omega) (by omega),show((i:Int)+1)=((i+1:Nat):Int)by omega,Aj Dr,drop_cons Dr,show(c.1,c.2.1,())=c from rfl,Gj hc (by omega),ih (i+1) (by omega) (by omega)];simp only[AD,AUc];cases holds c m.2.2.2.2.2.1[i]<;>rfl
    grind
  have:=key Ae 0 (by omega) (Ah (by omega));simp_all
omit hc h in
theorem Yk{o:Int}:Jg m o=some ((((Dp m o).getD Dz,(Dp m o).isSome,()),()),()):=by
 obtain⟨h1,h2,h3,h4⟩:=JU hm;unfold Jg VQ Dp;rw[IG];simp only[AD];cases m.2.2.2.2.1 with
 |false=>
  simp only[AUG,AL4,AOK,ASm,ANa];cases(BS m.2.1 1 30&&BS o 1 60)<;>rfl
 |true=>
  simp only[AMy,ANE,ANP];rcases AJ5 (BS m.2.1 1 30)with he|he
  rotate_left
  ·rw[he];rfl
  rcases AJ5 (BS o 1 60)with ho|ho
  rotate_left
  ·rw[he,ho];rfl
  have hp:Gw m.2.1 o=EN m.2.1 o:=by unfold Gw;rw[he,ho];rfl
  rw[he,ho,hp];simp only[AUO,AMy,ANE,ANP];by_cases hl:o<=m.2.2.2.2.2.1.length
  ·rw[show decide (o>(m.2.2.2.2.2.1.length:Int))=false by simpa using hl,show decide (o<=(m.2.2.2.2.2.1.length:Int))=true by simpa using hl]
   simp only[ANE,ATt];have key:∀(k i:Nat),i<=m.2.2.2.1.length->m.2.2.2.1.length-i<k->Ks k (EN m.2.1 o) m.2.2.2.1 m.2.2.2.1.length i m.1 m.2.1 m.2.2.1 m.2.2.2.1 true m.2.2.2.2.2.1 0 0 false []=
     some ((((match Ew (EN m.2.1 o) (m.2.2.2.1.drop i)with
      |some x=>(EN m.2.1 o,m.1,x.2.2.1,x.2.2.2.1,())
      |none=>(EN m.2.1 o,m.1,true,[],())),true,()),()),()):=by
    intro k
    induction k with
    |zero=>intro i _ h;omega
    |succ k ih=>
     intro i hi hk;simp only[Ks,VH,AB];by_cases Dr:i<m.2.2.2.1.length
     ·have c1:(0:Int)<=(i:Int)/\(i:Int)<(m.2.2.2.1.length:Int):=by omega
      rw[AKJ c1.2,AKJ c1,AL (by omega) (by omega),show((i:Int)+1)=((i+1:Nat):Int)by omega,Aj Dr,drop_cons Dr,ih (i+1) (by omega) (by omega)];unfold Ew;rw[AU_];cases hx:m.2.2.2.1[i].1==EN m.2.1 o<;>rfl
     ·rw[AKT (by omega),ANY (by omega)]
      rfl
   have:=key Ae 0 (by omega) (Ah (by omega));rw[show((0:Nat):Int)=0 from rfl,AUE]at this;rw[this];cases Ew (EN m.2.1 o) m.2.2.2.1<;>rfl
  ·rw[show decide (o>(m.2.2.2.2.2.1.length:Int))=true by simp;omega,show decide (o<=(m.2.2.2.2.2.1.length:Int))=false by simp;omega]
   rfl
theorem lC{s:AAC}(hs:s.length<=2^20):QG c m s=some (jt (Ig c m s)):=by
 obtain⟨h1,h2,h3,h4⟩:=JU hm;unfold QG Ig;rw[show(c.1,c.2.1,())=c from rfl,VO m,H0 hc (by omega) h,Rx hc hm h,HV (by omega),dW (by omega) h];simp only[AD];rcases AJ5 (HN c m)with Bt|Bt
 rotate_left
 ·rw[Bt];rfl
 have hmo:=Hi.1 Bt;rw[Bt];simp only[ATt];rcases AJ5 m.2.2.2.2.1 with hp|hp
 ·rw[hp]
  simp only[AMy,ANE,ANa,AUG,AL4,AOK,jt,hp]
 have zL:(m.2.2.1.filter s.contains).length<=m.2.2.1.length:=ASs _ _;rw[hp];simp only[AMy,ASm,ANE,AL4,AOK,ANP];rw[cA (by omega) (by omega)];simp only[AD];rw[eQ hc (by omega) hs];simp only[AD];cases Jo c s (m.2.2.1.filter s.contains)with
 |false=>simp[jt,hp]
 |true=>
  simp only[AMy,ANE,ATt];have hlb:=G1 (l:=m.2.2.2.1);rw[AKJ ⟨hlb.1,AUF _,by rw[Bf];omega⟩];rfl
theorem mL{n:Int}{l:List AJ}(hl:l.length<=2^20)(P7:s6 l)(hw:Ag Ar l<=2^20):QJ c m n l=some (jt (LV c m n l)):=by
 obtain⟨h1,h2,h3,h4⟩:=JU hm;unfold QJ WI LV;rw[show(c.1,c.2.1,())=c from rfl,VO m,H0 hc (by omega) h,Rx hc hm h,HV (by omega)];simp only[AD];rcases AJ5 (HN c m)with Bt|Bt
 rotate_left
 ·rw[Bt];rfl
 have hmo:=Hi.1 Bt;have AA4:=(Ef.1 hmo.gY).2.2;rw[Bt];simp only[AMy,ANE,AL4,AOK,ATt];rcases AJ5 m.2.2.2.2.1 with hp|hp
 ·grind[jt]
 rw[hp,PI AA4 (by omega)];simp only[AD,ANE,ASm,ANP];have key:∀(k i:Nat) (b:List AJ),i<=l.length->l.length-i<k->b.length<=2^20+i->X3 b->s6 b->Ag Ar b+Ag Ar (l.drop i)<=2^21->
   Li k l l.length i c.1 c.2.1 m.1 m.2.1 m.2.2.1 m.2.2.2.1 false m.2.2.2.2.2.1 0 0 false [] [] [] m.1 m.2.1 false (Jx n m.2.2.1) b m.2.2.2.2.2.1=
   some (jt (if HN c (m.1,m.2.1,Jx n m.2.2.1,Dn b ((l.drop i).filter fun e=>AN e.1==m.2.1),false,m.2.2.2.2.2.1,())then
    ((m.1,m.2.1,Jx n m.2.2.1,Dn b ((l.drop i).filter fun e=>AN e.1==m.2.1),false,m.2.2.2.2.2.1,()),true)else(m,false))):=by
  intro k
  induction k with
  |zero=>omega
  |succ k ih=>
   intro i b hi hk hb sF hbi hbw;simp only[Li,Vz,AB];by_cases Dr:i<l.length
   ·have c1:(0:Int)<=(i:Int)/\(i:Int)<(l.length:Int):=by omega
    rw[AKJ c1.2];simp only[AKJ c1];rw[AL (by omega) (by omega),show((i:Int)+1)=((i+1:Nat):Int)by omega,Aj Dr,drop_cons Dr,de (l[i]),EU (P7 _ (ANM Dr)),cU sF (by omega)];rw[drop_cons Dr]at hbw;simp only[Ag]at hbw;simp only[AD,AUH];rcases AJ5 (AN l[i].1==m.2.1)with he|he
    ·simp only[he,ANa,ATt,Dn]
     have:=XL (e:=l[i]) (l:=b);have hwk:=zm l[i] b;exact ih (i+1) _ (by omega) (by omega) (by omega) (Uw sF) (fun x hx=>by
      rcases dq hx with rfl|hx
      ·exact P7 _ (ANM Dr)
      ·exact hbi x hx) (by omega)
    grind
   ·rw[AKT (by omega),ANY (by omega),show(c.1,c.2.1,())=c from rfl,HV (m:=(m.1,m.2.1,m.2.2.1,m.2.2.2.1,false,m.2.2.2.2.2.1,())) (by
     grind)]
    simp only[AYg,Dn];rw[ANY (by omega)]at hbw;simp only[Ag]at hbw;have mY:=VK (n:=n) (l:=m.2.2.1);have hb2:=AY (f:=Ar) (l:=b);rw[H0 (m:=(m.1,m.2.1,Jx n m.2.2.1,b,false,m.2.2.2.2.2.1,())) hc (by
     grind[CO]) hbi]
    grind[AD,HN,Jx,jt]
 have hsw:Ag Ar m.2.2.2.1<=2^20:=by
  grind[CO]
 have:=key Ae 0 m.2.2.2.1 (by omega) (Ah (by omega)) (by omega) hmo.ft h (by grind);simp_all
end
theorem p9{c:CP}{l:AAC}(hc:c.1.length<=2^20)(hl:l.length<=2^20):Ze c l=some ((Ay c l&& !holds c l,()),()):=by
 unfold Ze;rw[show(c.1,c.2.1,())=c from rfl,ET (by omega) (by omega),Gj (by omega) (by omega)];grind
theorem si{ss:List AO}(hs:ss.length<=1024)(h:∀s∈ss,s.1.length<=1024)(hw:∀s∈ss,Al s<=2^30)(P7:∀s∈ss,r7 s)(Bt:∀s∈ss,CI s=true):iq ss=some (((),()),(F8 [] ss,())):=by
 have key:∀n:Nat,
   (∀(i:Nat) (b:List AJ),i<=ss.length->(ss.length-i)*1026+1<=n->b.length<=i*1024->X3 b->
    NK n ss ss.length i b=some (((),()),(F8 b (ss.drop i),())))/\
   (∀(i j:Nat) (b:List AJ),(hi:i<ss.length)->j<=ss[i].1.length->(ss.length-i-1)*1026+1+(ss[i].1.length-j)+1<=n->b.length<=i*1024+j->X3 b->
    NS n ss ss.length i ss[i].1 ss[i].1.length j b=some (((),()),(F8 (Dn b (ss[i].1.drop j)) (ss.drop (i+1)),()))):=by
  intro n
  induction n with
  |zero=>simp_all
  |succ n ih=>
   refine⟨fun i b hi h' hb sF=> ?_,fun i j b hi hj h' hb sF=> ?_⟩
   ·simp only[NK,bT,AB]
    by_cases hc:i<ss.length
    ·have hmm:=ANM hc
     have hm:=h _ hmm;rw[AKJ (by omega),AKJ (by omega),Aj hc,Pq (ss[i]),FH (hw _ hmm) (P7 _ hmm),Bt _ hmm];have e1:(ss.length-i)*1026=(ss.length-i-1)*1026+1026:=by
      omega
     have:=ih.2 i 0 b hc (by omega) (by omega) (by omega) sF;rw[show((0:Nat):Int)=0 from rfl,AUE]at this;simp only[AD,AMy,ANE];rw[this,drop_cons hc];rfl
    ·rw[AKT (by omega),ANY (by omega)]
     rfl
   ·have hm:=h _ (ANM hi)
    simp only[NS,bS,AB];have hbb:i*1024<=2^20:=by
     omega
    by_cases hc:j<ss[i].1.length
    ·have c2:(0:Int)<=(j:Int)/\(j:Int)<(ss[i].1.length:Int):=by omega
     rw[AKJ c2.2,AKJ c2,Aj hc,de (ss[i].1[j]),cU sF (by omega)];simp only[AD];rw[AL (by omega) (by omega),show((j:Int)+1)=((j+1:Nat):Int)by omega,drop_cons hc];have hk:=XL (e:=ss[i].1[j]) (l:=b);exact ih.2 i (j+1) _ hi (by omega) (by omega) (by omega) (Uw sF)
    ·rw[AKT (by omega),AL (by omega) (by omega),show((i:Int)+1)=((i+1:Nat):Int)by omega,ANY (by omega)]
     exact ih.1 (i+1) b (by omega) (by grind) (by omega) sF
 have hf:(ss.length-0)*1026+1<=Ae:=by
  have:ss.length*1026<=1024*1026:=AOL _ hs;exact AVJ (Ah (by omega))
 exact(key Ae).1 0 [] (by omega) hf (by simp) List.Pairwise.nil
theorem vL{c:CP}{ss:List AO}{lost:AAC}{n upto:Int}(hc:c.1.length<=2^20)(hs:ss.length<=1024)(hn:∀s∈ss,s.1.length<=1024)(hw:Ag Al ss<=2^24)(P7:∀s∈ss,r7 s)(hl:lost.length<=2^20):
  ar c lost n upto ss=some (pkF ss (Xh c ss lost n upto)):=by
 have hfs:Xh c ss lost n upto=xT (FJ c&&(decide (ss.length=c.1.length)&&(Ay c lost&&(!holds c lost&&(lost.contains n&&((others lost 0 ss).all CI&&CI (F8 [] (others lost 0 ss),[],upto,()))))))) (F8 [] (others lost 0 ss),[],upto,()):=rfl;rw[hfs];unfold ar dH;rw[show(c.1,c.2.1,())=c from rfl,p9 hc hl,I2 (by omega)];simp only[AD,BA,C7];have key:∀(k i:Nat) (o:List AO),(∀s∈o,s∈ss)->(∀s∈o,CI s=true)->i<=ss.length->ss.length-i<k->o.length<=i->Ag Al o+Ag Al (ss.drop i)<=2^24->
   R_ k lost upto ss.length i ss 0 [] [] o=some (pkF ss (xT ((others lost i (ss.drop i)).all CI&&CI (F8 [] (o++others lost i (ss.drop i)),[],upto,())) (F8 [] (o++others lost i (ss.drop i)),[],upto,()))):=by
  intro k
  induction k with
  |zero=>omega
  |succ k ih=>
   intro i o ho Bt hi h hol how;simp only[R_,cx,AB,BA];by_cases Dr:i<ss.length
   ·have c1:(0:Int)<=(i:Int)/\(i:Int)<(ss.length:Int):=by omega
    have c2:o.length+1<=D8:=by rw[Bf];omega
    have hmm:=ANM Dr;have AfQ:=Ab (f:=Al) hmm;rw[drop_cons Dr]at how;simp only[Ag]at how;rw[AKJ c1.2,AKJ c1,I2 (by omega),Aj Dr,Pq (ss[i]),FH (by omega) (P7 _ hmm),AL (by omega) (by omega),show((i:Int)+1)=((i+1:Nat):Int)by omega];simp only[AD];rw[drop_cons Dr];simp only[others];rcases AJ5 (lost.contains (i:Int))with hb|hb
    ·rw[hb]
     simp only[ANa,ATt];exact ih (i+1) o ho Bt (by omega) (by omega) (by omega) (by omega)
    ·rw[hb]
     simp only[ANE,AL4,AOK];rcases AJ5 (CI ss[i])with hg|hg
     ·rw[hg]
      simp only[ANa,AUc,hg,ANP];rw[AKJ c2,ih (i+1) (o++[ss[i]]) (fun s hs=>by
       grind) (fun s hs=>by
       grind) (by omega) (by omega) (by simp_all) (by grind[Zt,Ag])]
      simp_all
     ·rw[hg]
      simp only[ANE,AUc,hg,AUG];rfl
   ·have hu:=z6 (l:=o) (k:=[])
    simp only[Ag]at hu;have Afy:Ag Al o<=2^24:=by omega
    rw[AKT (by omega),ANY (by omega),si (by omega) (fun s hs=>hn s (ho s hs)) (fun s hs=>by grind[Ab,Al]) (fun s hs=>P7 s (ho s hs)) Bt];simp only[AD,others,ANm,List.all_nil,ANP];rw[FH (s:=(F8 [] o,[],upto,())) (by show Ag Ar (F8 [] o)+Ag Ar []<=_;grind[Ag]) ⟨fun e he=>by
     rcases lf he with he|⟨t,ht,he⟩
     ·simp_all
     ·exact(P7 t (ho t ht)).1 e he,fun e he=>by simp_all⟩]
    simp only[AD];rcases AJ5 (CI (F8 [] o,[],upto,()))with hb|hb<;>rw[hb]<;>rfl
 have:=key Ae 0 [] (by simp) (by simp) (by omega) (Ah (by omega)) (by simp) (by grind[Ag]);rw[show((0:Nat):Int)=0 from rfl,AUE,ATu]at this;rw[this];rcases AJ5 (Ay c lost)with h1|h1
 rotate_left
 ·rw[h1]
  by_cases h2:ss.length=c.1.length
  ·rw[AKJ (by omega)]
   simp only[AUG,AXj,ANE];rfl
  ·rw[AKT (by omega)]
   simp only[AUG,AXj];rfl
 have AAx:FJ c=true:=(Ef.1 h1).1;rw[h1,AAx];simp only[ANP];by_cases h2:ss.length=c.1.length
 rotate_left
 ·rw[AKT (by omega),AUQ h2]
  rfl
 rw[AKJ (by omega),ARS h2];simp only[ANP];cases holds c lost with
 |true=>rfl
 |false=>
  cases lost.contains n with
  |false=>rfl
  |true=>rfl
def AcN(q:AA×Int):Y_:=((q.2,()),(((),q.1.2.1,(),(),(),q.1.2.2.2.2.2.1,(),(),(),(),q.1.2.2.2.2.2.2.2.2.2.2.1,()),q.1.1,q.1.2.2.1,q.1.2.2.2.1,(),(),(),q.1.2.2.2.2.2.2.2.2.1,q.1.2.2.2.2.2.2.2.2.2.1,q.1.2.2.2.2.1,q.1.2.2.2.2.2.2.1,q.1.2.2.2.2.2.2.2.1,()))
def AXN(q:AA×Int):ai:=((q.2,()),(((),q.1.2.1,(),(),(),q.1.2.2.2.2.2.1,(),(),(),(),q.1.2.2.2.2.2.2.2.2.2.2.1,()),q.1.1,q.1.2.2.1,q.1.2.2.2.1,q.1.2.2.2.2.1,q.1.2.2.2.2.2.2.1,q.1.2.2.2.2.2.2.2.1,q.1.2.2.2.2.2.2.2.2.1,(),q.1.2.2.2.2.2.2.2.2.2.1,()))
def AId(q:AA×Int):Gv:=((q.2,()),(((),q.1.2.1,(),(),(),q.1.2.2.2.2.2.1,(),(),(),(),q.1.2.2.2.2.2.2.2.2.2.2.1,()),q.1.1,q.1.2.2.1,(),q.1.2.2.2.2.1,q.1.2.2.2.2.2.2.1,q.1.2.2.2.2.2.2.2.1,q.1.2.2.2.2.2.2.2.2.1,q.1.2.2.2.2.2.2.2.2.2.1,q.1.2.2.2.1,()))
def AaH(q:AA×Int):Zf:=((q.2,()),(((),q.1.2.1,(),(),(),q.1.2.2.2.2.2.1,(),(),(),(),q.1.2.2.2.2.2.2.2.2.2.2.1,()),q.1.1,q.1.2.2.1,q.1.2.2.2.1,q.1.2.2.2.2.1,q.1.2.2.2.2.2.2.1,(),q.1.2.2.2.2.2.2.2.2.1,q.1.2.2.2.2.2.2.2.2.2.1,q.1.2.2.2.2.2.2.2.1,()))
def AY5(q:AA×Int):X8:=((q.2,()),(((),q.1.2.1,(),(),(),q.1.2.2.2.2.2.1,(),(),(),(),q.1.2.2.2.2.2.2.2.2.2.2.1,()),q.1.1,q.1.2.2.1,q.1.2.2.2.1,(),q.1.2.2.2.2.2.2.1,(),q.1.2.2.2.2.2.2.2.2.1,q.1.2.2.2.2.2.2.2.2.2.1,q.1.2.2.2.2.1,q.1.2.2.2.2.2.2.2.1,()))
theorem wT{m:Av}{b:Int}{e:AJ}(h:Dp m b=some e):DR e.1:=by
 unfold Dp at h;split at h
 ·rename_i hc
  simp only[ALz,Ai]at hc;grind[JH,Jv]
 simp_all
theorem jK{α:Type}{l:List α}{i:Nat}{d:α}:l.set i (l.getD i d)=l:=by
 by_cases h:i<l.length
 ·simp_all
 grind[List.set_eq_of_length_le]
def rr(w:AA)(n ep:Int):Int:=if Ak w n=0 then if(Aq w.Af ep).contains n then 0 else 2 else Ak w n
section
variable{w:AA} (h:OG w)
include h
theorem Q0{n ep:Int}(he:DR ep):Ds w n ep=some ((rr w n ep,()),()):=by
 have k:=h.nums;have k1:=k.c;have k2:=k.wr;have k3:=k.lost;have k4:=k.st;have ax:=k.a_;have jF:=k.J8;have kf:=k.jE;have k5:=k.era;have k7:=k.cJ;unfold Ds rr;rw[LO (by omega) (by omega),show(w.2.2.2.2.1,w.2.2.2.2.2.1,())=CA w from rfl,PO (r:=CA w) (by show Ag CG w.2.2.2.2.1<=_;omega) he];have Ur:(Aq w.Af ep).length<=8:=Gr h;rw[show(CA w).1=w.Af from rfl];simp only[AD,DW];rw[I2 (by omega)];grind
theorem ZN{n:Int}{e:AJ}(hn:Ak w n=0)(he:DR e.1):L0 n e w.2.1 w.2.2.2.2.2.1 w.2.2.2.2.2.2.2.2.2.2.1 w.1 w.2.2.1 w.2.2.2.1 w.2.2.2.2.1 w.2.2.2.2.2.2.1 w.2.2.2.2.2.2.2.1 w.2.2.2.2.2.2.2.2.1 w.2.2.2.2.2.2.2.2.2.1=some (kh (putAt w n (GP (storeAt w n) e))):=by
 obtain⟨hr,s1,s2,s3⟩:=h.L7 hn;have aS:w.2.2.1.getD n.toNat ([],[],0,())=storeAt w n:=rfl;unfold L0 putAt;simp only[AKJ hr,aS];rw[show((storeAt w n).1,(storeAt w n).2.1,(storeAt w n).2.2.1,())=storeAt w n from rfl,de e,lR s1 s2 he];simp only[AD,nK,PL];cases(GP (storeAt w n) e).2<;>rfl
theorem gp{a:Int}:KV a w.2.1 w.2.2.2.2.2.1 w.2.2.2.2.2.2.2.2.2.2.1 w.1 w.2.2.1 w.2.2.2.1 w.2.2.2.2.1 w.2.2.2.2.2.2.1 w.2.2.2.2.2.2.2.1 w.2.2.2.2.2.2.2.2.1 w.2.2.2.2.2.2.2.2.2.1=some (AcN (MU w a)):=by
 have k:=h.nums;have k1:=k.c;have k2:=k.wr;have k3:=k.lost;have k4:=k.st;have ax:=k.a_;have jF:=k.J8;have kf:=k.jE;have k5:=k.era;have k7:=k.cJ;unfold KV MU;rw[DW];by_cases h4:w.2.2.2.2.2.2.1.length=4
 ·rw[AKJ (by omega),AKJ h4];rfl
 have hm:(Ap a).length<=8:=xq;rw[AKT (by omega),AKT h4,ZP];simp only[AD];rw[show(w.1,w.2.1,())=AU w from rfl,show(w.2.2.2.2.1,w.2.2.2.2.2.1,())=CA w from rfl,oC (c:=AU w) (r:=CA w) (by show w.1.length<=_;omega) (by show Ag CG w.2.2.2.2.1<=_;omega) k.trim (by omega)];simp only[AD,BA];rcases AJ5 (I0 (AU w) (CA w) (Ap a)).2.2 with hq|hq
 ·rw[hq,AKJ (by rw[Bf];omega),GI];rfl
 ·rw[hq,Ip];rfl
theorem fo{d:BR}:JQ d w.2.1 w.2.2.2.2.2.1 w.2.2.2.2.2.2.2.2.2.2.1 w.1 w.2.2.1 w.2.2.2.1 w.2.2.2.2.1 w.2.2.2.2.2.2.1 w.2.2.2.2.2.2.2.1 w.2.2.2.2.2.2.2.2.1 w.2.2.2.2.2.2.2.2.2.1=some (kh (Iv w d.2.1 d.2.2.1 d.2.2.2.1)):=by
 have k:=h.nums;have k1:=k.c;have k2:=k.wr;have k3:=k.lost;have k4:=k.st;have ax:=k.a_;have jF:=k.J8;have kf:=k.jE;have k5:=k.era;have k7:=k.cJ;unfold JQ Iv;rw[HJ w,AL (x:=(w.2.2.2.2.2.2.1.length:Int)-1) (by omega) (by omega),Aw];simp only[AD,BA,C7];rw[show BS d.2.1 0 ((w.2.2.2.2.2.2.1.length:Int)-1)=BS d.2.1 0 ((w.AH.length:Int)-1)from rfl];rcases AJ5 (BS d.2.1 0 ((w.AH.length:Int)-1))with h1|h1
 rotate_left
 ·rw[h1,Ip];rfl
 obtain⟨x1,x2,x3⟩:=h.eO h1;rw[h1,ANa,GI,AKJ x1,Aw];simp only[AD];rw[show w.2.2.2.2.2.2.1.getD d.2.1.toNat (0,[],())=w.AH.getD d.2.1.toNat B7 from rfl]
 generalize hx:w.AH.getD d.2.1.toNat B7=x at*
 rcases AJ5 (BS d.2.2.1 1 (x.2.1.length:Int))with h2|h2
 rotate_left
 ·rw[h2,Ip];rfl
 have h2':=Ai.1 h2;have hxl:=x2.n;have hxe:=x2.ep;have mY:=JH (e:=x.1) (o:=d.2.2.1) hxe (by omega);have hpm:Gw x.1 d.2.2.1=EN x.1 d.2.2.1:=by
  grind[Gw,Ai]
 rw[h2,ANa,GI,Q0 h ⟨by omega,by omega⟩,IG,hpm,AL (by omega) (by omega)];simp only[AD,AKJ (show(0:Int)<=d.2.2.1-1/\d.2.2.1-1<(x.2.1.length:Int)by omega)];unfold rr;by_cases h3:Ak w d.2.2.2.1=0
 rotate_left
 ·rw[AKT h3,AKT h3,AKJ h3];rfl
 rw[AKJ h3,AKT (show¬(Ak w d.2.2.2.1≠0)from fun hh=>hh h3)];rcases AJ5 ((Aq w.Af x.1).contains d.2.2.2.1)with h5|h5
 rotate_left
 ·rw[h5,Ip];rfl
 rw[h5,GI,AKJ rfl,AKJ rfl,ZN h h3 (Jv mY.1)];rfl
theorem fz{n k:Int}:Pc n k w.2.1 w.2.2.2.2.2.1 w.2.2.2.2.2.2.2.2.2.2.1 w.1 w.2.2.1 w.2.2.2.1 w.2.2.2.2.1 w.2.2.2.2.2.2.1 w.2.2.2.2.2.2.2.1 w.2.2.2.2.2.2.2.2.1 w.2.2.2.2.2.2.2.2.2.1=some (kh (Is w n k)):=by
 have kk:=h.nums;have k1:=kk.c;have k2:=kk.wr;have k3:=kk.lost;have k4:=kk.st;have ax:=kk.a_;have jF:=kk.J8;have kf:=kk.jE;have k5:=kk.era;have k7:=kk.cJ;unfold Pc Is;rw[HJ w,LO (by omega) (by omega)];simp only[AD,C7];by_cases h3:Ak w n=0
 rotate_left
 ·rw[AKT h3,AKJ h3];rfl
 obtain⟨hr,s1,s2,s3⟩:=h.L7 h3;have aS:w.2.2.1.getD n.toNat ([],[],0,())=storeAt w n:=rfl;rw[AKJ h3,AKT (show¬(Ak w n≠0)from fun hh=>hh h3)];simp only[AKJ hr,aS];rw[show((storeAt w n).1,(storeAt w n).2.1,(storeAt w n).2.2.1,())=storeAt w n from rfl,Xj s1 s2];simp only[AD,nK,PL];unfold putAt;rcases AJ5 (EK (storeAt w n) k).2 with hq|hq
 ·rw[hq];rfl
 ·have e:(EK (storeAt w n) k).1=storeAt w n:=by
   unfold EK at hq|-;rw[Dd.2 s3]at hq|-;grind
  rw[hq,e];have:w.2.2.1.set n.toNat ((storeAt w n).1,(storeAt w n).2.1,(storeAt w n).2.2.1,())=w.2.2.1:=jK;rw[this];rfl
theorem gC{n:Int}:PK n w.2.1 w.2.2.2.2.2.1 w.2.2.2.2.2.2.2.2.2.2.1 w.1 w.2.2.1 w.2.2.2.1 w.2.2.2.2.1 w.2.2.2.2.2.2.1 w.2.2.2.2.2.2.2.1 w.2.2.2.2.2.2.2.2.1 w.2.2.2.2.2.2.2.2.2.1=some (kh (It w n)):=by
 have k:=h.nums;have k1:=k.c;have k2:=k.wr;have k3:=k.lost;have k4:=k.st;have ax:=k.a_;have jF:=k.J8;have kf:=k.jE;have k5:=k.era;have k7:=k.cJ;unfold PK It;rw[HJ w,LO (by omega) (by omega)];simp only[AD,C7];by_cases h3:Ak w n=0
 rotate_left
 ·rw[AKT h3,AKJ h3];rfl
 obtain⟨hr,s1,s2,s3⟩:=h.L7 h3;have aS:w.2.2.1.getD n.toNat ([],[],0,())=storeAt w n:=rfl;rw[AKJ h3,AKT (show¬(Ak w n≠0)from fun hh=>hh h3)];simp only[AKJ hr,aS];rw[show((storeAt w n).1,(storeAt w n).2.1,(storeAt w n).2.2.1,())=storeAt w n from rfl,kP s1 s2 k.trim];simp only[AD,nK,PL];unfold putAt;rw[show w.trim=w.2.2.2.2.2.1 from rfl];rcases AJ5 (GN (storeAt w n) w.2.2.2.2.2.1).2 with hq|hq
 ·rw[hq];rfl
 ·have e:(GN (storeAt w n) w.2.2.2.2.2.1).1=storeAt w n:=by
   unfold GN at hq|-;rw[Dd.2 s3]at hq|-;grind
  rw[hq,e];have:w.2.2.1.set n.toNat ((storeAt w n).1,(storeAt w n).2.1,(storeAt w n).2.2.1,())=w.2.2.1:=jK;rw[this];rfl
theorem gh:QX w.2.1 w.2.2.2.2.2.1 w.2.2.2.2.2.2.2.2.2.2.1 w.1 w.2.2.1 w.2.2.2.1 w.2.2.2.2.1 w.2.2.2.2.2.2.1 w.2.2.2.2.2.2.2.1 w.2.2.2.2.2.2.2.2.1 w.2.2.2.2.2.2.2.2.2.1=some (AaH (Mc w)):=by
 have k:=h.nums;have k1:=k.c;have k2:=k.wr;have k3:=k.lost;have k4:=k.st;have ax:=k.a_;have jF:=k.J8;have kf:=k.jE;have k5:=k.era;have k7:=k.cJ;unfold QX Mc;rw[show(w.2.2.2.2.1,w.2.2.2.2.2.1,())=CA w from rfl,SX (r:=CA w) (by show w.2.2.2.2.1.length<=_;omega)];simp only[AD,DW,AB];rw[show(CA w).1=w.Af from rfl];by_cases h1:(w.2.2.2.2.1.length:Int)<2
 ·rw[AKJ h1,show(decide ((w.2.2.2.2.1.length:Int)<2)||decide (BF w.2.2.2.2.1=(w.2.2.2.2.1.length:Int)))=true by simp_all];rfl
 rw[AKT h1];by_cases h2:BF w.2.2.2.2.1=(w.2.2.2.2.1.length:Int)
 ·rw[AKJ h2,show(decide ((w.2.2.2.2.1.length:Int)<2)||decide (BF w.2.2.2.2.1=(w.2.2.2.2.1.length:Int)))=true by simp_all];rfl
 rw[AKT h2,show(decide ((w.2.2.2.2.1.length:Int)<2)||decide (BF w.2.2.2.2.1=(w.2.2.2.2.1.length:Int)))=false by simp_all];rw[AKT (show¬(false=true)by simp)];by_cases h3:w.2.2.2.2.2.2.2.1.length>0
 ·rw[AKJ (by omega),AKJ h3];rfl
 ·rw[AKT (by omega),AKT h3];rfl
theorem gj{n:Int}:KL n w.2.1 w.2.2.2.2.2.1 w.2.2.2.2.2.2.2.2.2.2.1 w.1 w.2.2.1 w.2.2.2.1 w.2.2.2.2.1 w.2.2.2.2.2.2.1 w.2.2.2.2.2.2.2.1 w.2.2.2.2.2.2.2.2.1 w.2.2.2.2.2.2.2.2.2.1=some (AId (Mr w n)):=by
 have k:=h.nums;have k1:=k.c;have k2:=k.wr;have k3:=k.lost;have k4:=k.st;have ax:=k.a_;have jF:=k.J8;have kf:=k.jE;have k5:=k.era;have k7:=k.cJ;have k6:=k.ws;unfold KL Mr;rw[HJ w,AL (x:=(w.2.2.1.length:Int)-1) (by omega) (by omega),AL (x:=(w.2.2.2.2.1.length:Int)-1) (by omega) (by omega),Aw];simp only[AD,BA];rcases AJ5 (w.lost.contains n)with hl|hl
 rotate_left
 ·rw[hl]
  have e:DI w n=some ((w.lost.contains n,()),()):=bA (by omega);rw[e,hl];cases BS n 0 ((w.2.2.1.length:Int)-1)<;>rfl
 have P7:=(Ef.1 h.lost).2.1 n (by simp_all);have hn1:BS n 0 ((w.2.2.1.length:Int)-1)=true:=Ai.2 ⟨P7.1,by
  have:n<(w.1.length:Int):=P7.2;omega⟩
 have Af5:=Ai.1 hn1;rw[hn1,show DI w n=some ((w.lost.contains n,()),())from bA (by omega),hl,GI];simp only[AD,ANa];rw[show(if(0:Int)>(w.2.2.2.2.1.length:Int)-1 then 0 else(w.2.2.2.2.1.length:Int)-1)=max ((w.Af.length:Int)-1) 0 by
  grind]
 have AWh:∀s∈w.2.2.1,gd s:=fun s hs=>h.VZ hs
 rw[show(w.1,w.2.1,())=AU w from rfl,vL (c:=AU w) (by show w.1.length<=_;omega) (by omega) (fun s hs=>by have:=(AWh s hs).nk;omega) (by omega) (fun s hs=>(AWh s hs).sin) (by omega)];simp only[AD,pkF];rw[show Xh (AU w) w.Ao w.lost n (max ((w.Af.length:Int)-1) 0)=Xh (AU w) w.2.2.1 w.2.2.2.1 n (max ((w.Af.length:Int)-1) 0)from rfl];rcases AJ5 (Xh (AU w) w.2.2.1 w.2.2.2.1 n (max ((w.Af.length:Int)-1) 0)).2 with hq|hq
 rotate_left
 ·rw[hq,Ip];rfl
 rw[hq,ANa,GI,AKJ (by omega),P2 (by omega)];rfl
theorem iJ{n:Int}:KF n w.2.1 w.2.2.2.2.2.1 w.2.2.2.2.2.2.2.2.2.2.1 w.1 w.2.2.1 w.2.2.2.1 w.2.2.2.2.1 w.2.2.2.2.2.2.1 w.2.2.2.2.2.2.2.1 w.2.2.2.2.2.2.2.2.1 w.2.2.2.2.2.2.2.2.2.1=some (kh (Mh w n)):=by
 have k:=h.nums;have k1:=k.c;have k2:=k.wr;have k3:=k.lost;have k4:=k.st;have ax:=k.a_;have jF:=k.J8;have kf:=k.jE;have k5:=k.era;have k7:=k.cJ;unfold KF Mh;rcases hm:w.Bg with _|⟨m,ms⟩
 ·rw[DW,AKJ (by simp_all)];rfl
 have rv:w.2.2.2.2.2.2.2.1=m::ms:=hm;have wq:w.2.2.2.2.2.2.2.1.length=ms.length+1:=by simp_all
 have g0:w.2.2.2.2.2.2.2.1.getD 0 (0,0,[],[],false,[],())=m:=by simp_all
 have hr0:(0:Int)<=(0:Int)/\(0:Int)<(w.2.2.2.2.2.2.2.1.length:Int):=by omega
 have aC:=(h.Bg m (by simp_all)).1;have hmw:=aC.w;have pJ:=aC.ep;have hmb:=aC.b;simp only[DW,BA,C7,AKJ hr0,g0];rw[AKT (by omega)];rw[HJ w,Q0 h ⟨by omega,by omega⟩];simp only[AD];unfold rr;by_cases h3:Ak w n=0
 rotate_left
 ·rw[AKT h3,AKT h3,AKJ h3];rfl
 obtain⟨hr,s1,s2,s3⟩:=h.L7 h3;have aS:w.2.2.1.getD n.toNat ([],[],0,())=storeAt w n:=rfl;have hn3: ¬(Ak w n≠0):=fun hh=>hh h3
 rw[AKJ h3,AKT hn3];simp only[AKJ hr,aS];rcases AJ5 ((Aq w.Af m.2.1).contains n)with h5|h5
 rotate_left
 ·rw[h5,Ip];rfl
 rw[h5,GI,AKJ rfl,AKJ rfl,AL (by omega) (by omega),show((storeAt w n).1,(storeAt w n).2.1,(storeAt w n).2.2.1,())=storeAt w n from rfl,j0 s1 s2];have hq:=xP (u:=m.1-1) s3;have hqw:=hq.w;simp only[AD,nK];rw[show((Bp (storeAt w n) (m.1-1)).1.1,(Bp (storeAt w n) (m.1-1)).1.2.1,(Bp (storeAt w n) (m.1-1)).1.2.2.1,())=(Bp (storeAt w n) (m.1-1)).1 from rfl,mA (by omega) hq.sin];simp only[AD];have hes:(GK (Bp (storeAt w n) (m.1-1)).1 m.2.1).length<=200/\s6 (GK (Bp (storeAt w n) (m.1-1)).1 m.2.1)/\Ag Ar (GK (Bp (storeAt w n) (m.1-1)).1 m.2.1)<=10000:=by
  unfold GK;rw[Dd.2 hq,AKJ rfl];refine⟨ARi (ASs _ _) hq.nk,fun e he=>hq.sin.1 e (AUJ.1 he).1,ARi lA ?_⟩;have:Al (Bp (storeAt w n) (m.1-1)).1=Ag Ar (Bp (storeAt w n) (m.1-1)).1.1+Ag Ar (Bp (storeAt w n) (m.1-1)).1.2.1:=rfl;omega
 rw[VO m,show(w.1,w.2.1,())=AU w from rfl,mL (c:=AU w) (by show w.1.length<=_;omega) (by omega) aC.ein (by omega) hes.2.1 (by omega)];simp only[AD,jt];rcases AJ5 (Bp (storeAt w n) (m.1-1)).2 with h6|h6
 rotate_left
 ·rw[h6,ASm,AYb,AKJ rfl];rfl
 rw[h6,AMy,ARx];rcases AJ5 (LV (AU w) m n (GK (Bp (storeAt w n) (m.1-1)).1 m.2.1)).2 with h7|h7
 rotate_left
 ·rw[h7,Ip];rfl
 rw[h7,GI,ANa,ANa,rv];rfl
theorem gz:KG w.2.1 w.2.2.2.2.2.1 w.2.2.2.2.2.2.2.2.2.2.1 w.1 w.2.2.1 w.2.2.2.1 w.2.2.2.2.1 w.2.2.2.2.2.2.1 w.2.2.2.2.2.2.2.1 w.2.2.2.2.2.2.2.2.1 w.2.2.2.2.2.2.2.2.2.1=some (kh (Mx w)):=by
 have k:=h.nums;have k1:=k.c;have k2:=k.wr;have k3:=k.lost;have k4:=k.st;have ax:=k.a_;have jF:=k.J8;have kf:=k.jE;have k5:=k.era;have k7:=k.cJ;unfold KG Mx;rcases hm:w.Bg with _|⟨m,ms⟩
 ·rw[DW,AKJ (by simp_all)];rfl
 have rv:w.2.2.2.2.2.2.2.1=m::ms:=hm;have wq:w.2.2.2.2.2.2.2.1.length=ms.length+1:=by simp_all
 have g0:w.2.2.2.2.2.2.2.1.getD 0 (0,0,[],[],false,[],())=m:=by simp_all
 have hr0:(0:Int)<=(0:Int)/\(0:Int)<(w.2.2.2.2.2.2.2.1.length:Int):=by omega
 have aC:=(h.Bg m (by simp_all)).1;have hmw:=aC.w;have pJ:=aC.ep;simp only[DW,BA,C7,AKJ hr0,g0];rw[AKT (by omega)];rw[show(w.2.2.2.2.1,w.2.2.2.2.2.1,())=CA w from rfl,PO (r:=CA w) (by show Ag CG w.2.2.2.2.1<=_;omega) ⟨by omega,by omega⟩];have Ur:(Aq w.Af m.2.1).length<=8:=Gr h;rw[show(CA w).1=w.Af from rfl];simp only[AD];rw[VO m,show(w.1,w.2.1,())=AU w from rfl,lC (c:=AU w) (by show w.1.length<=_;omega) (by omega) aC.ein (by omega)];simp only[AD,jt,PL];rcases AJ5 (Ig (AU w) m (Aq w.Af m.2.1)).2 with h6|h6
 ·rw[h6,GI,rv];rfl
 ·have e:(Ig (AU w) m (Aq w.Af m.2.1)).1=m:=by
   unfold Ig at h6|-;rw[Hi.2 aC]at h6|-;grind
  rw[h6,Ip,e,rv]
  show some ((4,()),_,_,_,_,_,_,(m::ms),_)=some ((4,()),_,_,_,_,_,_,w.2.2.2.2.2.2.2.1,_)
  rw[rv]
theorem jf{b n:Int}:SA b n w.2.1 w.2.2.2.2.2.1 w.2.2.2.2.2.2.2.2.2.2.1 w.1 w.2.2.1 w.2.2.2.1 w.2.2.2.2.1 w.2.2.2.2.2.2.1 w.2.2.2.2.2.2.2.1 w.2.2.2.2.2.2.2.2.1 w.2.2.2.2.2.2.2.2.2.1=some (kh (S5 w b n)):=by
 have k:=h.nums;have k1:=k.c;have k2:=k.wr;have k3:=k.lost;have k4:=k.st;have ax:=k.a_;have jF:=k.J8;have kf:=k.jE;have k5:=k.era;have k7:=k.cJ;unfold SA S5;rcases hm:w.Bg with _|⟨m,ms⟩
 ·rw[DW,AKJ (by simp_all)];rfl
 have rv:w.2.2.2.2.2.2.2.1=m::ms:=hm;have wq:w.2.2.2.2.2.2.2.1.length=ms.length+1:=by simp_all
 have g0:w.2.2.2.2.2.2.2.1.getD 0 (0,0,[],[],false,[],())=m:=by simp_all
 have hr0:(0:Int)<=(0:Int)/\(0:Int)<(w.2.2.2.2.2.2.2.1.length:Int):=by omega
 have aC:=(h.Bg m (by simp_all)).1;have hmw:=aC.w;have pJ:=aC.ep;simp only[DW,BA,C7,AKJ hr0,g0];rw[AKT (by omega),VO m,Yk (by omega)];simp only[AD];rcases he:Dp m b with _|e
 ·rfl
 simp only[AUP,AUS,ANa];rw[HJ w,Q0 h ⟨by omega,by omega⟩];simp only[AD];unfold rr;by_cases h3:Ak w n=0
 rotate_left
 ·rw[AKT h3,AKT h3,AKJ h3];rfl
 rw[AKJ h3,AKT (show¬(Ak w n≠0)from fun hh=>hh h3)];rcases AJ5 ((Aq w.Af m.2.1).contains n)with h5|h5
 rotate_left
 ·rw[h5,Ip];rfl
 rw[h5,GI,AKJ rfl,AKJ rfl,de e,ZN h h3 (wT he)];rfl
theorem gA:JP w.2.1 w.2.2.2.2.2.1 w.2.2.2.2.2.2.2.2.2.2.1 w.1 w.2.2.1 w.2.2.2.1 w.2.2.2.2.1 w.2.2.2.2.2.2.1 w.2.2.2.2.2.2.2.1 w.2.2.2.2.2.2.2.2.1 w.2.2.2.2.2.2.2.2.2.1=some (AY5 (Iw w)):=by
 have k:=h.nums;have k1:=k.c;have k2:=k.wr;have k3:=k.lost;have k4:=k.st;have ax:=k.a_;have jF:=k.J8;have kf:=k.jE;have k5:=k.era;have k7:=k.cJ;unfold JP Iw;rcases hm:w.Bg with _|⟨m,ms⟩
 ·rw[DW,AKJ (by simp_all)];rfl
 have rv:w.2.2.2.2.2.2.2.1=m::ms:=hm;have wq:w.2.2.2.2.2.2.2.1.length=ms.length+1:=by simp_all
 have g0:w.2.2.2.2.2.2.2.1.getD 0 (0,0,[],[],false,[],())=m:=by simp_all
 have hr0:(0:Int)<=(0:Int)/\(0:Int)<(w.2.2.2.2.2.2.2.1.length:Int):=by omega
 have aC:=(h.Bg m (by simp_all)).1;have hmw:=aC.w;simp only[DW,BA,C7,AKJ hr0,g0];rw[AKT (by omega),VO m,show(w.1,w.2.1,())=AU w from rfl,show(w.2.2.2.2.1,w.2.2.2.2.2.1,())=CA w from rfl,jL (c:=AU w) (by show w.1.length<=_;omega) (by omega) aC.ein];simp only[AD];rcases AJ5 (Ph (AU w) m)with h6|h6
 rotate_left
 ·rw[h6,Ip];rfl
 rw[h6,GI,ANa,lx (c:=AU w) (r:=CA w) (by show w.1.length<=_;omega) (by show Ag CG w.2.2.2.2.1<=_;omega) k.trim];simp only[AD,pkR,PL];rcases AJ5 (M1 (AU w) (CA w) m.1 (m.2.2.2.2.2.1.length:Int)).2 with h7|h7
 ·rw[h7,ANa,GI];rfl
 ·rw[h7,ANE,Ip];rfl
end
abbrev oT(l:List Ac):Prop:=T4 (fun s:Ac=>s.1) l
abbrev ADn(p:Int)(l:List Ac)(q:Nat):Prop:=jj (fun s:Ac=>s.1) p l q
def aX(p:Int)(l:List Ac)(q:Nat):Bool:=match l[q]? with|some e=>e.1==p|none=>false
theorem m_{l:List Ac}(ha:oT l)(hl:l.length<=2^30)(hp:∀s∈l,0<=s.1/\s.1<2^40){p:Int}(hpp:0<=p/\p<2^40):∃q,ADn p l q/\
  Bb l p=some ((((q:Int),aX p l q,()),()),()):=by
 have key:∀(n a b:Nat),a<=b->b<=l.length->b-a<n->(∀(i:Nat) (h:i<l.length),i<a->l[i].1<p)->(∀(i:Nat) (h:i<l.length),b<=i->p<=l[i].1)->
   ∃q,ADn p l q/\Ax n l p l.length a b=some ((((q:Int),aX p l q,()),()),()):=by
  intro n
  induction n with
  |zero=>omega
  |succ n ih=>
   intro a b sF hb hn h1 h2;simp only[Ax,Cv,AB,LG,AD];by_cases K9:a<b
   ·have hm:(a+b)/2<l.length:=by omega
    have hq:=hp _ (ANM hm);rw[AKJ (by omega),wa (by omega),AKJ (by omega),Aj hm,AL (by omega) (by omega)];by_cases hc:l[(a+b)/2].1<p
    ·rw[AKJ (by omega),AL (by omega) (by omega),show((((a+b)/2:Nat):Int)+1)=(((a+b)/2+1:Nat):Int)by omega]
     refine ih _ b (by omega) hb (by omega) (fun i h hi=> ?_) h2;exact Int.lt_of_le_of_lt (bj (f:=fun s:Ac=>s.1) ha h hm (by omega)) hc
    ·rw[AKT (by omega)]
     exact ih a _ (by omega) (by omega) (by omega) h1 fun i h hi=>Int.le_trans (by omega) (bj (f:=fun s:Ac=>s.1) ha hm h hi)
   ·have AE3:a=b:=by omega
    subst AE3;refine⟨a,⟨hb,h1,h2⟩,?_⟩;rw[AKT (by omega)];unfold aX;by_cases ha':a<l.length
    ·have hq:=hp _ (ANM ha')
     rw[AKJ (by omega),AKJ (by omega),Aj ha',AKS ha',AL (by omega) (by omega)];dsimp only;by_cases hd:l[a].1=p
     ·simp_all
     ·rw[AOV.2 hd,AOV.2 (by omega:l[a].1-p≠0)]
    grind
 obtain⟨q,hq,e⟩:=key Ae 0 l.length (by omega) (by omega) (Ah (by omega)) (fun i h hi=>by omega) (fun i h hi=>by omega);refine⟨q,hq,?_⟩;unfold Bb Cs;omega
theorem yn{p:Int}{l:List Ac}{q:Nat}(h:aX p l q=true):∃hq:q<l.length,l[q].1=p:=by
 unfold aX at h;grind
theorem tf{p:Int}{l:List Ac}{q:Nat}(hp:ADn p l q)(ha:oT l)(h:aX p l q=false):∀s∈l,s.1≠p:=by
 intro s hs e;obtain⟨i,hi,rfl⟩:=List.mem_iff_getElem.1 hs;have h1:=hp.lt i hi;by_cases hiq:i<q
 ·omega
 ·have hq:q<l.length:=by omega
  have h3:p<=l[q].1:=hp.ge q hq (AP7 _);have h4:=bj (f:=fun s:Ac=>s.1) ha hq hi (by omega);grind[aX,List.getElem?_eq_getElem,beq_eq_false_iff_ne]
theorem AJS{p:Int}{l:List Ac}{q:Nat}(hp:ADn p l q)(ha:oT l):(l.any fun s=>s.1==p)=aX p l q:=by
 rcases AJ5 (aX p l q)with h|h
 ·obtain⟨hq,e⟩:=yn h
  grind
 ·rw[h,List.any_eq_false]
  intro s hs;grind[tf]
def Qt(p:Int)(l:List Ac):List Ac:=l.map fun s=>if s.1=p then(s.1,s.2.1,true,())else s
theorem AB7{p:Int}{l:List Ac}(h:∀s∈l,s.1≠p):Qt p l=l:=by
 unfold Qt
 conv=>rhs;rw[<-List.map_id l]
 refine AUI fun s hs=> ?_
 grind
theorem AFA{p:Int}:∀{l:List Ac} {q:Nat} (hq:q<l.length),oT l->l[q].1=p->l.set q (l[q].1,l[q].2.1,true,())=Qt p l
 |[],q,hq,_,_=>by rfl
 |s::l,0,_,ha,e=>by
  have h1:=APg.1 ha;have e':s.1=p:=e;have h2:Qt p l=l:=AB7 fun y hy=>by grind
  show(s.1,s.2.1,true,())::l=(if s.1=p then(s.1,s.2.1,true,())else s)::Qt p l
  simp_all
 |s::l,q+1,hq,ha,e=>by
  have h1:=APg.1 ha;have hq':q<l.length:=by grind
  have e':l[q].1=p:=e;have h3:s.1<l[q].1:=h1.1 _ (ANM hq');have h4:s.1≠p:=by omega
  have:=AFA hq' h1.2 e'
  show s::l.set q (l[q].1,l[q].2.1,true,())=(if s.1=p then(s.1,s.2.1,true,())else s)::Qt p l
  simp_all
theorem sm_at{p:Int}{l:List Ac}:∀{s:Ac},s∈Qt p l-> ∃t∈l,t.1=s.1:=by
 intro s hs;obtain⟨t,ht,rfl⟩:=AUV.1 hs;grind
theorem AQu{p:Int}{l:List Ac}(h:oT l):oT (Qt p l):=by
 unfold Qt oT T4;grind
theorem ASO{p:Int}{l:List Ac}:(Qt p l).length=l.length:=by unfold Qt;rw[AYS]
theorem xC{s:Ac}:∀{l:List Ac} {q:Nat},ADn s.1 l q->aX s.1 l q=false->Yb s l=l.take q++[s]++l.drop q
 |[],q,h,_=>by
  have:=h.le;have:q=0:=by simp_all
  subst this;rfl
 |y::l,0,h,hn=>by
  have h1:=h.ge 0 (by simp) (AP7 _);have h2:(y.1==s.1)=false:=hn;have h2':=AOV.1 h2;have h1':s.1<=y.1:=h1;simp only[Yb];grind
 |y::l,q+1,h,hn=>by
  have h1:y.1<s.1:=h.lt 0 (by simp) (by omega);have hp:ADn s.1 l q:=⟨by have:=h.le;simp_all,fun i hi hiq=>h.lt (i+1) (by simp_all) (by omega),fun i hi hiq=>h.ge (i+1) (by simp_all) (by omega)⟩;simp only[Yb];rw[AKT (by omega),xC hp hn];rfl
section
variable{w:AA} (h:OG w)
include h
theorem OG.AQK:∀s∈w.2.2.2.2.2.2.2.2.2.1,0<=s.1/\s.1<2^40:=fun s hs=>by
 have hp:=(h.BE s hs).1;have h1:=CM hp;grind[EN,AN,BD]
theorem kE{a:Int}{d:ACB}(hd:d.length<=40):L2 a d w.2.1 w.2.2.2.2.2.1 w.2.2.2.2.2.2.2.2.2.2.1 w.1 w.2.2.1 w.2.2.2.1 w.2.2.2.2.1 w.2.2.2.2.2.2.1 w.2.2.2.2.2.2.2.1 w.2.2.2.2.2.2.2.2.1 w.2.2.2.2.2.2.2.2.2.1=some (AXN (doAdd w a d)):=by
 have k:=h.nums;have k1:=k.c;have k2:=k.wr;have k3:=k.lost;have k4:=k.st;have ax:=k.a_;have jF:=k.J8;have kf:=k.jE;have k5:=k.era;have k7:=k.cJ;have k6:=k.se;unfold L2 doAdd;rw[AL (x:=(w.2.2.2.2.2.2.1.length:Int)-1) (by omega) (by omega),Aw];simp only[AD,BA,C7,DW];rw[show BS a 0 ((w.2.2.2.2.2.2.1.length:Int)-1)=BS a 0 ((w.AH.length:Int)-1)from rfl];rcases AJ5 (BS a 0 ((w.AH.length:Int)-1))with h1|h1
 rotate_left
 ·rw[h1,Ip];rfl
 obtain⟨x1,x2,x3⟩:=h.eO h1;rw[h1,ANa,GI];simp only[AKJ x1];rw[show w.2.2.2.2.2.2.1.getD a.toNat (0,[],())=w.AH.getD a.toNat B7 from rfl]
 generalize hx:w.AH.getD a.toNat B7=x at*
 rw[show(x.1,x.2.1,())=x from rfl,show(w.1,w.2.1,())=AU w from rfl,j8 (c:=AU w) (by show w.1.length<=_;omega) (by omega) (by omega)];simp only[AD];rw[IG];simp only[AD];have hxl:=x2.n;have hxe:=x2.ep;have hq1:(CL (AU w) x d).1.1=x.1:=by
  unfold CL;rw[Il.2 x2];grind
 have hpm:0<=Gw (CL (AU w) x d).1.1 (CL (AU w) x d).2.1/\Gw (CL (AU w) x d).1.1 (CL (AU w) x d).2.1<2^40:=by
  unfold Gw EN;split
  ·rename_i hc
   rw[ALz,Ai,Ai]at hc;omega
  omega
 obtain⟨q,hq,es⟩:=m_ (l:=w.2.2.2.2.2.2.2.2.2.1) h.Vu (by omega) h.AQK hpm;unfold IK;rw[es];simp only[AD];rcases AJ5 (CL (AU w) x d).2.2 with h2|h2
 rotate_left
 ·rw[h2,ASm,AYb,AKJ rfl,ANE];rfl
 obtain⟨y1,y2,y3,y4⟩:=Wi h2;have hyl:=y2.n;rw[y3]at hyl;simp only[API,AN9,AQL]at hyl;have mY:=JH (e:=x.1) (o:=(CL (AU w) x d).2.1) hxe (by omega);have hpe:Gw (CL (AU w) x d).1.1 (CL (AU w) x d).2.1=EN x.1 (CL (AU w) x d).2.1:=by
  grind[Gw,Ai]
 rw[hpe]at hq|-;rw[h2,ANa];simp only[AMy,ARx];have AaO:(w.BE.any fun s=>s.1==EN x.1 (CL (AU w) x d).2.1)=aX (EN x.1 (CL (AU w) x d).2.1) w.2.2.2.2.2.2.2.2.2.1 q:=AJS hq h.Vu;rw[AaO];by_cases h3:w.2.2.2.2.2.2.2.2.2.1.length=120
 ·rw[AKJ (by omega),show decide (w.BE.length=120)=true from ARS h3,AYb,AKJ rfl]
  rfl
 rw[AKT (by omega),show decide (w.BE.length=120)=false from AUQ h3];simp only[ARx];rcases AJ5 (aX (EN x.1 (CL (AU w) x d).2.1) w.2.2.2.2.2.2.2.2.2.1 q)with h4|h4
 ·rw[h4,ANa,AKJ rfl];rfl
 rw[h4,ANE,AKT (by simp)];have hql:=hq.le;grind[EV,jb,xC,EN,CL,AU,AXN,List.append_assoc,Yb]
end
def gJ(c:CP)(s:AO)(ep n:Int):Int->List BI->List Ac->List Ac
 |_,[],se=>se
 |o,x::l,se=>gJ c s ep n (o+1) l (if !x.2.2.1&&Jy s (EN ep o)&&(El c n x).2.2.1 then Qt (EN ep o) se else se)
def pkT(c0:AAC)(c1 tr:Int)(tn:Bool)(ss:List AO)(lo:AAC)(er:List CX)(ws:List AM)(ms:List Av)(rs:List AZ)(se:List Ac):GU:=
 (((()),()),(((),c1,(),(),(),tr,(),(),(),(),tn,()),c0,ss,lo,er,ws,ms,rs,se,()))
section
variable{c:CP} {st:AO} {SS:List AO} {n:Int} (hc:c.1.length<=8) (hs:gd st) (hn:0<=n/\n<c.1.length) (hnS:n<(SS.length:Int)) (aS:SS.getD n.toNat Cz=st)
include hc hs hn hnS aS
theorem AAy{tr:Int}{tn:Bool}{lo:AAC}{er:List CX}{ms:List Av}{rs:List AZ}{a:Nat}{ep:Int}:∀(rest dn:List BI) (ws:List AM) (se:List Ac) (f:Nat),a<ws.length->a<=4->ws.getD a B7=(ep,dn++rest,())->cF c (ep,dn++rest,())->
  oT se->(∀s∈se,0<=s.1/\s.1<2^40)->se.length<=120->rest.length<f->
  DE f (a:Int) n ((dn.length:Int)+1) c.2.1 tr tn c.1 SS lo er ws ms rs se=some (pkT c.1 c.2.1 tr tn SS lo er (ws.set a (ep,dn++BL c st ep n ((dn.length:Int)+1) rest,())) ms rs (gJ c st ep n ((dn.length:Int)+1) rest se)):=by
 have gO:=hs.w;intro rest
 induction rest with
 |nil=>
  intro dn ws se f ha ha4 hw Bt AAG AIF AOd hf;obtain⟨f,rfl⟩:∃f',f=f'+1:=⟨f-1,by omega⟩;have sb:ws.getD a (0,[],())=(ep,dn++[],()):=hw;simp only[DE,Iu,AB,ANJ,sb,ANm];rw[AKJ (by omega),AKT (by omega)];unfold BL gJ pkT;rw[show((ep,dn++[],()):AM)=ws.getD a B7 from hw.symm,jK]
 |cons x rest ih=>
  intro dn ws se f ha ha4 hw Bt AAG AIF AOd hf;obtain⟨f,rfl⟩:∃f',f=f'+1:=⟨f-1,by omega⟩;simp only[AN9]at hf;have sb:ws.getD a (0,[],())=(ep,dn++x::rest,()):=hw;have hwe:1<=ep/\ep<=30:=Bt.ep;have hwn:(dn++x::rest).length<=60:=Bt.n;have hww:Ag BX (dn++x::rest)<=3000:=Bt.w;have hwl:=hwn;simp only[API,AN9]at hwl;have ca:(0:Int)<=(a:Int)/\(a:Int)<(ws.length:Int):=by omega
  have cn:(0:Int)<=n/\n<(SS.length:Int):=⟨hn.1,hnS⟩;have mY:=JH (e:=ep) (o:=(dn.length:Int)+1) hwe (by omega);have hpm:Gw ep ((dn.length:Int)+1)=EN ep ((dn.length:Int)+1):=by
   grind[Gw,Ai]
  have cd:(0:Int)<=(dn.length:Int)+1-1/\(dn.length:Int)+1-1<((dn++x::rest).length:Int):=by
   grind
  have e1:((dn.length:Int)+1-1).toNat=dn.length:=by omega
  have e2:(dn++x::rest).getD dn.length ([],[],false,())=x:=by simp[List.getD]
  have ARH:SS.getD n.toNat ([],[],0,())=st:=aS;simp only[DE,Iu,AB,BA,C7,ANJ,sb,AKJ ca,AKJ cn];rw[AKJ (by omega),IG,hpm];simp only[AD,ARH];rw[Pq st,Tk (by omega) hs.sin];simp only[AD];rw[AL (x:=(dn.length:Int)+1+1) (by omega) (by omega),AL (x:=(dn.length:Int)+1-1) (by omega) (by omega)];simp only[AKJ cd,e1,e2];have go:∀(y:BI) (ws':List AM) (pA:List Ac),ws'.length=ws.length->ws'.getD a B7=(ep,dn++y::rest,())->(∀z,ws'.set a z=ws.set a z)->cF c (ep,dn++y::rest,())->oT pA->(∀s∈pA,0<=s.1/\s.1<2^40)->pA.length<=120->
    (if !x.2.2.1&&Jy st (EN ep ((dn.length:Int)+1))then El c n x else x)=y->(if !x.2.2.1&&Jy st (EN ep ((dn.length:Int)+1))&&(El c n x).2.2.1 then Qt (EN ep ((dn.length:Int)+1)) se else se)=pA->
    DE f (a:Int) n ((dn.length:Int)+1+1) c.2.1 tr tn c.1 SS lo er ws' ms rs pA=some (pkT c.1 c.2.1 tr tn SS lo er (ws.set a (ep,dn++BL c st ep n ((dn.length:Int)+1) (x::rest),())) ms rs (gJ c st ep n ((dn.length:Int)+1) (x::rest) se)):=fun y ws' pA g1 g2 g3 g4 g5 g6 g7 g8 g9=>by
   have:=ih (dn++[y]) ws' pA f (by omega) ha4 (by simp_all) (by simp_all) g5 g6 g7 (by omega);simp only[API,AN9,AQL,ANs,AUg]at this;grind[BL,gJ]
  have stay:(if !x.2.2.1&&Jy st (EN ep ((dn.length:Int)+1))then El c n x else x)=x->(if !x.2.2.1&&Jy st (EN ep ((dn.length:Int)+1))&&(El c n x).2.2.1 then Qt (EN ep ((dn.length:Int)+1)) se else se)=se->
    DE f (a:Int) n ((dn.length:Int)+1+1) c.2.1 tr tn c.1 SS lo er ws ms rs se=some (pkT c.1 c.2.1 tr tn SS lo er (ws.set a (ep,dn++BL c st ep n ((dn.length:Int)+1) (x::rest),())) ms rs (gJ c st ep n ((dn.length:Int)+1) (x::rest) se)):=fun g8 g9=>go x ws se rfl hw (fun _=>rfl) Bt AAG AIF AOd g8 g9
  have hsg:X0 st (EN ep ((dn.length:Int)+1))=Ew (EN ep ((dn.length:Int)+1)) st.1:=by unfold X0;rw[Dd.2 hs,AKJ rfl]
  rw[hsg];cases hxd:x.2.2.1 with
  |true=>
   grind
  |false=>
   rw[ANE];cases hg:Ew (EN ep ((dn.length:Int)+1)) st.1 with
   |none=>
    grind[Jy,EN]
   |some e=>
    simp only[ANa];by_cases he0:e.2.1=0
    rotate_left
    ·have hh:Jy st (EN ep ((dn.length:Int)+1))=false:=by grind[Jy]
     simp_all
    have hh:Jy st (EN ep ((dn.length:Int)+1))=true:=by grind[Jy]
    rw[AKJ he0];have hx:=Bt.words x (by simp);have hb:cF c (ep,dn++El c n x::rest,()):=⟨Bt.cfg,Bt.ep,by grind,fun b hb=>by
     simp only[AOO,AOD]at hb;rcases hb with hb|rfl|hb
     ·exact Bt.words b (by simp[hb])
     ·exact⟨hx.1,I1 hx.2.1 hn,rfl⟩
     ·exact Bt.words b (by simp[hb]),ARi (kj hxd) Bt.opn⟩
    rw[show(c.1,c.2.1,())=c from rfl,jW (c:=c) (w:=(ep,dn++x::rest,())) (by omega) (by grind)];have AGX:Rj c (ep,dn++x::rest,()) ((dn.length:Int)+1) n=((ep,dn++El c n x::rest,()),true):=by
     unfold Rj;rw[Il.2 Bt];simp only[AMy,AL4,AOK];rw[e1,show(dn++x::rest).getD dn.length LP=x from e2,hxd];rw[AKJ (by
      rw[ALz,ALz,Ai,Ai];grind)]
     grind
    rw[AGX];simp only[AD,pkW];have hx7:(ws.set a (ep,dn++El c n x::rest,())).getD a (0,[],())=(ep,dn++El c n x::rest,()):=NM ha;have ca7:(0:Int)<=(a:Int)/\(a:Int)<((ws.set a (ep,dn++El c n x::rest,())).length:Int):=by grind
    have cd7:(0:Int)<=(dn.length:Int)+1-1/\(dn.length:Int)+1-1<((dn++El c n x::rest).length:Int):=by
     grind
    have e27:(dn++El c n x::rest).getD dn.length ([],[],false,())=El c n x:=by simp[List.getD]
    have hpr:0<=EN ep ((dn.length:Int)+1)/\EN ep ((dn.length:Int)+1)<2^40:=by unfold EN;omega
    obtain⟨q,hq,es⟩:=m_ AAG (by omega) AIF hpr;unfold IK;rw[es];simp only[AD,hx7,AKJ ca7,AKJ cd7,e27];have X6:∀z,(ws.set a (ep,dn++El c n x::rest,())).set a z=ws.set a z:=fun z=>AYj ..
    have ANg:(if !x.2.2.1&&Jy st (EN ep ((dn.length:Int)+1))then El c n x else x)=El c n x:=by grind
    rcases AJ5 (aX (EN ep ((dn.length:Int)+1)) se q)with hf|hf
    rotate_left
    ·rw[hf,ANE]
     refine go _ _ se (AUz ..) hx7 X6 hb AAG AIF AOd ANg ?_
     rw[AB7 (tf hq AAG hf)];grind
    obtain⟨hql,hqe⟩:=yn hf;rw[hf,ANa];cases hd:(El c n x).2.2.1 with
    |false=>
     grind
    |true=>
     rw[ANa,AKJ (by omega),ANJ,show se.getD q (0,[],false,())=se[q]from KZ hql,AFA hql AAG hqe];refine go _ _ _ (AUz ..) hx7 X6 hb (AQu AAG) (fun s xh=> ?_) (by rw[ASO];omega) ANg (by grind);grind[sm_at]
theorem AAO{tr:Int}{tn:Bool}{lo:AAC}{er:List CX}{ws:List AM}{rs:List AZ}{se:List Ac}{a:Nat}{m:Av}(hm:qS c m):∀(rest dn:List AAC) (ms:List Av) (f:Nat),a<ms.length->a<=4->ms.getD a Rb=(m.1,m.2.1,m.2.2.1,m.2.2.2.1,m.2.2.2.2.1,dn++rest,())->(dn++rest).length=m.2.2.2.2.2.1.length->(∀l∈dn++rest,Ay c l=true)->
  rest.length<f->
  Be f (a:Int) n ((dn.length:Int)+1) c.2.1 tr tn c.1 SS lo er ws ms rs se=some (pkT c.1 c.2.1 tr tn SS lo er ws (ms.set a (m.1,m.2.1,m.2.2.1,m.2.2.2.1,m.2.2.2.2.1,dn++EF m st n ((dn.length:Int)+1) rest,())) rs se):=by
 have gO:=hs.w;have hmn:m.2.2.2.2.2.1.length<=60:=by
  have:=hm.n;have hb:=G1 (l:=m.2.2.2.1);omega
 intro rest
 induction rest with
 |nil=>
  intro dn ms f ha ha4 hw hl ho hf;obtain⟨f,rfl⟩:∃f',f=f'+1:=⟨f-1,by omega⟩;have sb:ms.getD a (0,0,[],[],false,[],())=(m.1,m.2.1,m.2.2.1,m.2.2.2.1,m.2.2.2.2.1,dn++[],()):=hw;simp only[Be,HP,AB,ANJ,sb,ANm];rw[AKJ (by omega),AKT (by omega)];unfold EF pkT;rw[show((m.1,m.2.1,m.2.2.1,m.2.2.2.1,m.2.2.2.2.1,dn++[],()):Av)=ms.getD a Rb from hw.symm,jK]
 |cons x rest ih=>
  intro dn ms f ha ha4 hw hl ho hf;obtain⟨f,rfl⟩:∃f',f=f'+1:=⟨f-1,by omega⟩;simp only[AN9]at hf;have sb:ms.getD a (0,0,[],[],false,[],())=(m.1,m.2.1,m.2.2.1,m.2.2.2.1,m.2.2.2.2.1,dn++x::rest,()):=hw;have jJ:=hl;simp only[API,AN9]at jJ;have ca:(0:Int)<=(a:Int)/\(a:Int)<(ms.length:Int):=by omega
  have cn:(0:Int)<=n/\n<(SS.length:Int):=⟨hn.1,hnS⟩;have ARH:SS.getD n.toNat ([],[],0,())=st:=aS;have aC:qS c (m.1,m.2.1,m.2.2.1,m.2.2.2.1,m.2.2.2.2.1,dn++x::rest,()):=⟨hm.cfg,hm.ep,hm.b,hm.gY,hm.ft,hm.seen,ho,by show((dn++x::rest).length:Int)=_;rw[hl];exact hm.n⟩;have hmw:=aC.w;simp only[Be,HP,AB,BA,C7,ANJ,sb,AKJ ca,AKJ cn];rw[AKJ (by omega),Yk (m:=(m.1,m.2.1,m.2.2.1,m.2.2.2.1,m.2.2.2.2.1,dn++x::rest,())) (by omega),dG hl];simp only[AD,ARH];rw[Pq st,Tk (by omega) hs.sin];simp only[AD];rw[AL (x:=(dn.length:Int)+1+1) (by omega) (by omega)];have go:∀(y:AAC) (ms':List Av),ms'.length=ms.length->ms'.getD a Rb=(m.1,m.2.1,m.2.2.1,m.2.2.2.1,m.2.2.2.2.1,dn++y::rest,())->(∀z,ms'.set a z=ms.set a z)->Ay c y=true->
    (if N_ m st ((dn.length:Int)+1)then Jx n x else x)=y->
    Be f (a:Int) n ((dn.length:Int)+1+1) c.2.1 tr tn c.1 SS lo er ws ms' rs se=some (pkT c.1 c.2.1 tr tn SS lo er ws (ms.set a (m.1,m.2.1,m.2.2.1,m.2.2.2.1,m.2.2.2.2.1,dn++EF m st n ((dn.length:Int)+1) (x::rest),())) rs se):=fun y ms' g1 g2 g3 g4 g5=>by
   have:=ih (dn++[y]) ms' f (by omega) ha4 (by simp_all) (by simp_all) (fun l hl=>by
    grind) (by omega)
   simp only[API,AN9,AQL,ANs,AUg]at this;grind[EF]
  have hx:=ho x (by simp);have stay:N_ m st ((dn.length:Int)+1)=false->Be f (a:Int) n ((dn.length:Int)+1+1) c.2.1 tr tn c.1 SS lo er ws ms rs se=some (pkT c.1 c.2.1 tr tn SS lo er ws (ms.set a (m.1,m.2.1,m.2.2.1,m.2.2.2.1,m.2.2.2.2.1,dn++EF m st n ((dn.length:Int)+1) (x::rest),())) rs se):=fun g=>go x ms rfl hw (fun _=>rfl) hx (by simp_all)
  have hsg:∀p,X0 st p=Ew p st.1:=fun p=>by unfold X0;rw[Dd.2 hs,AKJ rfl]
  rw[hsg];cases he:Dp m ((dn.length:Int)+1)with
  |none=>
   simp only[AUR,ANE];grind[N_]
  |some e=>
   simp only[AUS,ANa,AUP];cases hg:Ew e.1 st.1 with
   |none=>
    grind[N_]
   |some y=>
    simp only[ANa,eqE,AB];by_cases hye:y=e
    rotate_left
    ·rw[AKT hye]
     grind[N_]
    have hh:N_ m st ((dn.length:Int)+1)=true:=by grind[N_]
    rw[AKJ hye,show(c.1,c.2.1,())=c from rfl,nj (c:=c) (m:=(m.1,m.2.1,m.2.2.1,m.2.2.2.1,m.2.2.2.2.1,dn++x::rest,())) (by omega) (by omega) aC.ein];have AGX:Yt c (m.1,m.2.1,m.2.2.1,m.2.2.2.1,m.2.2.2.2.1,dn++x::rest,()) ((dn.length:Int)+1) n=((m.1,m.2.1,m.2.2.1,m.2.2.2.1,m.2.2.2.2.1,dn++Jx n x::rest,()),true):=by
     unfold Yt;rw[Hi.2 aC];have hq:(BS ((dn.length:Int)+1) 1 ((dn++x::rest).length:Int)&&BS n 0 ((c.1.length:Int)-1))=true:=by
      rw[ALz,Ai,Ai];omega
     grind
    grind[AD,jt,Jx,List.length_set,NM,List.set_set,I1]
end
def iG(c:CP)(s:AO)(ep n:Int):Int->List BI->Int->Bool
 |_,[],_=>false
 |o,x::l,p=>(decide (p=EN ep o)&&(!x.2.2.1&&Jy s (EN ep o)&&(El c n x).2.2.1))||iG c s ep n (o+1) l p
theorem uu{c:CP}{st:AO}{ep n:Int}:∀{l:List BI} {o:Int} {se:List Ac},gJ c st ep n o l se=se.map fun s=>(s.1,s.2.1,s.2.2.1||iG c st ep n o l s.1,())
 |[],o,se=>by
  simp only[gJ,iG,AYd];simp_all
 |x::l,o,se=>by
  simp only[gJ];rw[uu];rcases AJ5 (!x.2.2.1&&Jy st (EN ep o)&&(El c n x).2.2.1)with hb|hb
  ·rw[hb,AKJ rfl]
   unfold Qt;rw[AVF];refine AUI fun s _=> ?_
   simp only[Function.comp_apply,iG,hb,AUO];grind
  ·rw[hb]
   simp only[AL4,AOK];refine AUI fun s _=> ?_
   simp only[iG,hb,AXj,ARx]
theorem ub{c:CP}{st:AO}{ep n p:Int}(hep:1<=ep/\ep<=30)(hp:BZ p=true):∀{l:List BI} {o:Int},1<=o->o+l.length<=61->
  iG c st ep n o l p=(AN p==ep&&(decide (o<=BD p)&&(decide (BD p<o+l.length)&&(((BL c st ep n o l).getD (BD p-o).toNat LP).2.2.1&& !(l.getD (BD p-o).toNat LP).2.2.1))))
 |[],o,_,_=>by
  have:(decide (o<=BD p)&&decide (BD p<o+(([]:List BI).length:Int)))=false:=by
   simp_all
  rw[<-Bool.and_assoc (decide (o<=BD p)),this,AUG,AXj];rfl
 |x::l,o,ho,hl=>by
  simp only[AN9]at hl;have hf:=CM hp;simp only[iG];rw[ub hep hp (l:=l) (o:=o+1) (by omega) (by omega)];by_cases he:AN p=ep
  rotate_left
  ·grind[EN,JH,beq_eq_false_iff_ne,decide_eq_false]
  rw[AUM.2 he];simp only[ANP,AN9];by_cases h1:BD p=o
  ·have hpe:p=EN ep o:=by simp_all
   have e0:(BD p-o).toNat=0:=by omega
   rw[ARS hpe,AUQ (show¬o+1<=BD p by omega),ARS (show o<=BD p by omega),ARS (show BD p<o+((l.length+1:Nat):Int)by omega),e0];simp only[ANP,AUG,AYd,BL,List.getD_cons_zero];grind
  ·have bg:p≠EN ep o:=fun e=>h1 (by grind[JH])
   rw[AUQ bg,AUG,ARx];by_cases h2:o<=BD p
   ·rw[ARS h2,ARS (show o+1<=BD p by omega)]
    have e1:(BD p-o).toNat=(BD p-(o+1)).toNat+1:=by omega
    rw[e1];simp only[BL,List.getD_cons_succ];grind
   grind
theorem gH{c:CP}{st:AO}{ep n:Int}:∀{l:List BI} {o:Int},(BL c st ep n o l).length=l.length
 |[],_=>rfl
 |x::l,o=>by simp only[BL,AN9,gH]
theorem AAg{c:CP}{st:AO}{ep n:Int}(hep:1<=ep/\ep<=30){l:List BI}(hl:l.length<=60){se:List Ac}(hs:∀s∈se,BZ s.1=true):gJ c st ep n 1 l se=se.map (PE false ep l (BL c st ep n 1 l)):=by
 rw[uu];refine AUI fun s hm=> ?_
 have hf:=CM (hs s hm);unfold PE Qz;rw[ub hep (hs s hm) (by omega) (by omega),gH];by_cases h1:BD s.1<=l.length
 ·have:BS (BD s.1) 1 (l.length:Int)=true:=Ai.2 (by omega)
  grind
 ·have:BS (BD s.1) 1 (l.length:Int)=false:=by
   rw[<-AOP,Ai];omega
  grind
def AE1(q:AA×Int):cy:=((q.2,()),(((),q.1.2.1,(),(),(),q.1.2.2.2.2.2.1,(),(),(),(),q.1.2.2.2.2.2.2.2.2.2.2.1,()),q.1.1,q.1.2.2.1,(),(),(),(),q.1.2.2.2.2.2.2.2.2.1,(),q.1.2.2.2.1,q.1.2.2.2.2.1,q.1.2.2.2.2.2.2.1,q.1.2.2.2.2.2.2.2.1,q.1.2.2.2.2.2.2.2.2.2.1,()))
def ww(w:AA)(SS:List AO)(ws:List AM)(ms:List Av)(se:List Ac):AA:=(((w.BJ SS).BG ws).DF se).Br ms
section
variable{w:AA} (h:OG w) {st:AO} {SS:List AO} {n:Int} (hs:gd st) (hn:0<=n/\n<(AU w).1.length) (hnS:n<(SS.length:Int)) (aS:SS.getD n.toNat Cz=st)
include h hs hn hnS aS
theorem AFS{ws:List AM}{se:List Ac}:∀(k i:Nat),w.2.2.2.2.2.2.2.1.length-i=k->i<=w.2.2.2.2.2.2.2.1.length-> ∀f,k<f->
  FZ f n w.2.2.2.2.2.2.2.1.length i w.2.1 w.2.2.2.2.2.1 w.2.2.2.2.2.2.2.2.2.2.1 w.1 SS w.2.2.2.1 w.2.2.2.2.1 ws ((w.2.2.2.2.2.2.2.1.map (HQ st w.Af n)).take i++w.2.2.2.2.2.2.2.1.drop i) w.2.2.2.2.2.2.2.2.1 se=some (kh (ww w SS ws (w.2.2.2.2.2.2.2.1.map (HQ st w.Af n)) se,0)):=by
 have k:=h.nums;have k1:=k.c;have k5:=k.era;have k6:=k.md;intro k
 induction k with
 |zero=>
  intro i hk hi f hf;obtain⟨f,rfl⟩:∃f',f=f'+1:=⟨f-1,by omega⟩;have:i=w.2.2.2.2.2.2.2.1.length:=by omega
  simp only[FZ,Mm,AB];rw[AKT (by omega),this,AUj,ANm,AUL (by simp)];rfl
 |succ k ih=>
  intro i hk hi f hf;obtain⟨f,rfl⟩:∃f',f=f'+1:=⟨f-1,by omega⟩;have Dr:i<w.2.2.2.2.2.2.2.1.length:=by omega
  have hm:=(h.Bg _ (ANM Dr)).1;have pJ:=hm.ep;have Ur:(Aq w.Af w.2.2.2.2.2.2.2.1[i].2.1).length<=8:=Gr h;simp only[FZ,Mm,AB];rw[Pm hi,AKJ (by omega),AKJ (by omega),ANJ,NB Dr,show(w.2.2.2.2.1,w.2.2.2.2.2.1,())=CA w from rfl,PO (r:=CA w) (by show Ag CG w.2.2.2.2.1<=_;omega) ⟨by omega,by omega⟩];rw[show(CA w).1=w.Af from rfl];simp only[AD];rw[I2 (by omega),AL (x:=(i:Int)+1) (by omega) (by omega),show((i:Int)+1)=((i+1:Nat):Int)by omega];simp only[AD];have nx:=ih (i+1) (by omega) (by omega) f (by omega);rcases AJ5 ((Aq w.Af w.2.2.2.2.2.2.2.1[i].2.1).contains n)with hc|hc
  ·have hT:HQ st w.Af n w.2.2.2.2.2.2.2.1[i]=(w.2.2.2.2.2.2.2.1[i].1,w.2.2.2.2.2.2.2.1[i].2.1,w.2.2.2.2.2.2.2.1[i].2.2.1,w.2.2.2.2.2.2.2.1[i].2.2.2.1,w.2.2.2.2.2.2.2.1[i].2.2.2.2.1,EF w.2.2.2.2.2.2.2.1[i] st n 1 w.2.2.2.2.2.2.2.1[i].2.2.2.2.2.1,()):=by
    unfold HQ;simp_all
   have hmn:w.2.2.2.2.2.2.2.1[i].2.2.2.2.2.1.length<=60:=by
    have:=hm.n;have hb:=G1 (l:=w.2.2.2.2.2.2.2.1[i].2.2.2.1);omega
   have:=AAO (c:=AU w) (tr:=w.2.2.2.2.2.1) (tn:=w.2.2.2.2.2.2.2.2.2.2.1) (lo:=w.2.2.2.1) (er:=w.2.2.2.2.1) (ws:=ws) (rs:=w.2.2.2.2.2.2.2.2.1) (se:=se) (a:=i) k1 hs hn hnS aS hm w.2.2.2.2.2.2.2.1[i].2.2.2.2.2.1 [] ((w.2.2.2.2.2.2.2.1.map (HQ st w.Af n)).take i++w.2.2.2.2.2.2.2.1.drop i) Ae (by simp_all) (by omega) (NB Dr) rfl (by simpa using hm.wrote) (Ah (by omega));rw[hc,ANa];unfold LF KB;simp only[AQL,ATu]at this;have e1:(((0:Nat):Int)+1)=1:=rfl;rw[e1]at this;rw[show(w.2.1:Int)=(AU w).2.1 from rfl,show w.1=(AU w).1 from rfl,this];simp only[AD,pkT];rw[QV Dr hT.symm];exact nx
  ·have hT:HQ st w.Af n w.2.2.2.2.2.2.2.1[i]=w.2.2.2.2.2.2.2.1[i]:=by
    unfold HQ;simp_all
   rw[hc,ANE,jQ Dr hT];omega
theorem ALQ:∀(rest pre:List AM) (se:List Ac) (f:Nat),pre.length+rest.length=w.2.2.2.2.2.2.1.length->(∀x∈rest,cF (AU w) x)->oT se->(∀s∈se,BZ s.1=true)->se.length<=120->rest.length+w.2.2.2.2.2.2.2.1.length+1<f->
  FD f n w.2.2.2.2.2.2.1.length pre.length w.2.1 w.2.2.2.2.2.1 w.2.2.2.2.2.2.2.2.2.2.1 w.1 SS w.2.2.2.1 w.2.2.2.2.1 (pre++rest) w.2.2.2.2.2.2.2.1 w.2.2.2.2.2.2.2.2.1 se st.2.2.1=
   some (kh (ww w SS (pre++(FW false (AU w) st w.Af n rest se).1) (w.2.2.2.2.2.2.2.1.map (HQ st w.Af n)) (FW false (AU w) st w.Af n rest se).2,0)):=by
 have k:=h.nums;have k1:=k.c;have k2:=k.wr;have k5:=k.era;have k6:=k.md;have hb:∀{p:Int},BZ p=true->0<=p/\p<2^40:=fun{p} hp=>by
  have h1:=CM hp;grind[EN]
 intro rest
 induction rest with
 |nil=>
  intro pre se f hl hw ha hp hsl hf;obtain⟨f,rfl⟩:∃f',f=f'+1:=⟨f-1,by omega⟩;simp only[AQL]at hl hf;simp only[FD,Nc,AB,ANm];rw[AKT (by omega)];have:=AFS h hs hn hnS aS (ws:=pre) (se:=se) w.2.2.2.2.2.2.2.1.length 0 (by omega) (by omega) f (by omega);rw[show((0:Nat):Int)=0 from rfl,AUE,AYo,ATu]at this;grind[FW]
 |cons x rest ih=>
  intro pre se f hl hw ha hp hsl hf;obtain⟨f,rfl⟩:∃f',f=f'+1:=⟨f-1,by omega⟩;simp only[AN9]at hl hf;have hx:=hw x (by simp);have hxe:=hx.ep;have hxn:=hx.n;have mY:(pre++x::rest).length=pre.length+(rest.length+1):=by simp
  have cp:(0:Int)<=(pre.length:Int)/\(pre.length:Int)<((pre++x::rest).length:Int):=by omega
  have e2:(pre++x::rest).getD pre.length (0,[],())=x:=by simp[List.getD]
  have Ur:(Aq w.Af x.1).length<=8:=Gr h;simp only[FD,Nc,AB,ANJ,AKJ cp,e2];rw[AKJ (by omega),show(w.2.2.2.2.1,w.2.2.2.2.2.1,())=CA w from rfl,PO (r:=CA w) (by show Ag CG w.2.2.2.2.1<=_;omega) ⟨by omega,by omega⟩];rw[show(CA w).1=w.Af from rfl];simp only[AD];rw[I2 (by omega),AL (x:=(pre.length:Int)+1) (by omega) (by omega),show((pre.length:Int)+1)=((pre.length+1:Nat):Int)by omega];simp only[AD];have next:∀(b:AM) (pA:List Ac),oT pA->(∀s∈pA,BZ s.1=true)->pA.length<=120->
    FD f n w.2.2.2.2.2.2.1.length ((pre.length+1:Nat):Int) w.2.1 w.2.2.2.2.2.1 w.2.2.2.2.2.2.2.2.2.2.1 w.1 SS w.2.2.2.1 w.2.2.2.2.1 (pre++b::rest) w.2.2.2.2.2.2.2.1 w.2.2.2.2.2.2.2.2.1 pA st.2.2.1=
     some (kh (ww w SS (pre++b::(FW false (AU w) st w.Af n rest pA).1) (w.2.2.2.2.2.2.2.1.map (HQ st w.Af n)) (FW false (AU w) st w.Af n rest pA).2,0)):=fun b pA h1 h2 h3=>by
   have:=ih (pre++[b]) pA f (by grind) (fun x hx=>hw x (by simp[hx])) h1 h2 h3 (by omega);simp_all
  simp only[FW];rcases AJ5 (L9 st w.Af n x)with ht|ht
  rotate_left
  ·rw[ht]
   simp only[AL4,AOK];unfold L9 at ht;by_cases K9:x.1>st.2.2.1
   ·grind
   grind
  ·rw[ht]
   simp only[ATt];unfold L9 at ht;rw[ALz,ANK]at ht;rw[AKJ (show x.1>st.2.2.1 from ht.2),ht.1,ANa];have:=AAy (c:=AU w) (tr:=w.2.2.2.2.2.1) (tn:=w.2.2.2.2.2.2.2.2.2.2.1) (lo:=w.2.2.2.1) (er:=w.2.2.2.2.1) (ms:=w.2.2.2.2.2.2.2.1) (rs:=w.2.2.2.2.2.2.2.2.1) (a:=pre.length) (ep:=x.1) k1 hs hn hnS aS x.2.1 [] (pre++x::rest) se Ae (by omega) (by omega) (show(pre++x::rest).getD pre.length (0,[],())=x from e2) hx ha (fun s xh=>hb (hp s xh)) hsl (Ah (by omega));unfold Ni N2;simp only[AQL,ATu]at this;have e1:(((0:Nat):Int)+1)=1:=rfl;rw[e1,AAg hxe hxn hp,AYa _ _ (by omega),AYk,AX2]at this;rw[show(w.2.1:Int)=(AU w).2.1 from rfl,show w.1=(AU w).1 from rfl,this];simp only[AD,pkT];refine next _ _ ?_ (fun s xh=> ?_) (by simp_all)
   ·unfold oT T4
    rw[AXQ];exact List.Pairwise.imp (fun{a b} sF=>sF) ha
   ·obtain⟨s',h1,rfl⟩:=AUV.1 xh
    exact hp s' h1
end
section
variable{w:AA} (h:OG w)
include h
theorem g_{n:Int}:Qa n w.2.1 w.2.2.2.2.2.1 w.2.2.2.2.2.2.2.2.2.2.1 w.1 w.2.2.1 w.2.2.2.1 w.2.2.2.2.1 w.2.2.2.2.2.2.1 w.2.2.2.2.2.2.2.1 w.2.2.2.2.2.2.2.2.1 w.2.2.2.2.2.2.2.2.2.1=some (kh (KC false w n)):=by
 have k:=h.nums;have k1:=k.c;have k2:=k.wr;have k3:=k.lost;have k4:=k.st;have ax:=k.a_;have jF:=k.J8;have kf:=k.jE;have k5:=k.era;have k7:=k.cJ;unfold Qa Tg KC;rw[HJ w,LO (by omega) (by omega)];simp only[AD,C7,BA];by_cases h3:Ak w n=0
 rotate_left
 ·rw[AKT h3,AKJ h3];rfl
 obtain⟨hr,s1,s2,s3⟩:=h.L7 h3;have aS:w.2.2.1.getD n.toNat ([],[],0,())=storeAt w n:=rfl;rw[AKJ h3,AKT (show¬(Ak w n≠0)from fun hh=>hh h3)];simp only[AKJ hr,aS];rw[show((storeAt w n).1,(storeAt w n).2.1,(storeAt w n).2.2.1,())=storeAt w n from rfl,Zh s1 s2];simp only[AD,nK];rcases AJ5 (Co (storeAt w n)).2 with hq|hq
 rotate_left
 ·rw[hq,Ip];rfl
 rw[hq,GI,ANa];have Bt:gd (Co (storeAt w n)).1:=(K8 hq).2.1;have AbC:n.toNat<w.2.2.1.length:=by omega
 have:=ALQ h (st:=(Co (storeAt w n)).1) (SS:=w.2.2.1.set n.toNat (Co (storeAt w n)).1) (n:=n) Bt (h.node h3).1 (by simp_all) (NM AbC) w.2.2.2.2.2.2.1 [] w.2.2.2.2.2.2.2.2.2.1 Ae (by simp) (fun x hx=>(h.AH x hx).1) h.Vu (fun s hs=>(h.BE s hs).1) k.se (Ah (by have:=k.md;omega));simp only[AQL,ATu]at this;rw[show((0:Nat):Int)=0 from rfl]at this;exact this
theorem AGp{n:Int}{ss:List AO}{ls:AAC}{ws:List AM}(hls:ls.length<=2^20):∀(f i:Nat),i<=w.2.2.2.2.2.2.2.1.length->w.2.2.2.2.2.2.2.1.length-i<f->
  HA f n w.2.2.2.2.2.2.2.1.length i w.2.1 w.2.2.2.2.2.1 w.2.2.2.2.2.2.2.2.2.2.1 w.1 ss w.2.2.2.1 w.2.2.2.2.1 ws ((w.2.2.2.2.2.2.2.1.map fun m=>(CF (AU w) m n).1).take i++w.2.2.2.2.2.2.2.1.drop i) w.2.2.2.2.2.2.2.2.1 w.2.2.2.2.2.2.2.2.2.1 ls=
   some (AId (((((w.BJ ss).Em ls).BG ws).Br (w.2.2.2.2.2.2.2.1.map fun m=>(CF (AU w) m n).1)).FU (w.ER||holds (AU w) ls),0)):=by
 have k:=h.nums;have k1:=k.c;have k6:=k.md;intro f
 induction f with
 |zero=>omega
 |succ f ih=>
  intro i hi hn;have hlen:=Pm (f:=fun m:Av=>(CF (AU w) m n).1) hi;simp only[HA,Ru,AB,BA,hlen];by_cases Dr:i<w.2.2.2.2.2.2.2.1.length
  ·have c1:(0:Int)<=(i:Int)/\(i:Int)<(w.2.2.2.2.2.2.2.1.length:Int):=by omega
   have hm:=(h.Bg _ (ANM Dr)).1;have hmw:=hm.w;have hg:((w.2.2.2.2.2.2.2.1.map fun m=>(CF (AU w) m n).1).take i++w.2.2.2.2.2.2.2.1.drop i).getD i (0,0,[],[],false,[],())=w.2.2.2.2.2.2.2.1[i]:=NB Dr;simp only[AKJ c1,AKJ c1.2,ANJ,hg];rw[AL (by omega) (by omega),show((i:Int)+1)=((i+1:Nat):Int)by omega,VO (w.2.2.2.2.2.2.2.1[i]),show(w.1,w.2.1,())=AU w from rfl,iQ (c:=AU w) (by show w.1.length<=_;omega) (by omega) hm.ein];simp only[AD,jt];rw[show((CF (AU w) w.2.2.2.2.2.2.2.1[i] n).1.1,(CF (AU w) w.2.2.2.2.2.2.2.1[i] n).1.2.1,(CF (AU w) w.2.2.2.2.2.2.2.1[i] n).1.2.2.1,(CF (AU w) w.2.2.2.2.2.2.2.1[i] n).1.2.2.2.1,(CF (AU w) w.2.2.2.2.2.2.2.1[i] n).1.2.2.2.2.1,(CF (AU w) w.2.2.2.2.2.2.2.1[i] n).1.2.2.2.2.2.1,())=(CF (AU w) w.2.2.2.2.2.2.2.1[i] n).1 from rfl,QV Dr rfl];grind
  ·have:i=w.2.2.2.2.2.2.2.1.length:=by omega
   rw[AKT (by omega),this,AUj,ANm,AUL (by simp),show(w.1,w.2.1,())=AU w from rfl,Gj (by show w.1.length<=_;omega) (by omega)];simp only[AD];cases ht:w.2.2.2.2.2.2.2.2.2.2.1 with
   |true=>
    have ht':w.ER=true:=ht;rw[ht'];rfl
   |false=>
    have ht':w.ER=false:=ht;rw[ht'];rfl
theorem AKe{n:Int}{ss:List AO}{ls:AAC}(hls:ls.length<=2^20):∀(f i:Nat),i<=w.2.2.2.2.2.2.1.length->(w.2.2.2.2.2.2.1.length-i)+w.2.2.2.2.2.2.2.1.length+2<=f->
  HZ f n w.2.2.2.2.2.2.1.length i w.2.1 w.2.2.2.2.2.1 w.2.2.2.2.2.2.2.2.2.2.1 w.1 ss w.2.2.2.1 w.2.2.2.2.1 ((w.2.2.2.2.2.2.1.map fun x=>(CJ (AU w) x n).1).take i++w.2.2.2.2.2.2.1.drop i) w.2.2.2.2.2.2.2.1 w.2.2.2.2.2.2.2.2.1 w.2.2.2.2.2.2.2.2.2.1 ls=
   some (AId (((((w.BJ ss).Em ls).BG (w.2.2.2.2.2.2.1.map fun x=>(CJ (AU w) x n).1)).Br (w.2.2.2.2.2.2.2.1.map fun m=>(CF (AU w) m n).1)).FU (w.ER||holds (AU w) ls),0)):=by
 have k:=h.nums;have k1:=k.c;have k6:=k.wr;intro f
 induction f with
 |zero=>omega
 |succ f ih=>
  intro i hi hn;have hlen:=Pm (f:=fun x:AM=>(CJ (AU w) x n).1) hi;simp only[HZ,TP,AB,BA,hlen];by_cases Dr:i<w.2.2.2.2.2.2.1.length
  ·have c1:(0:Int)<=(i:Int)/\(i:Int)<(w.2.2.2.2.2.2.1.length:Int):=by omega
   have hm:=(h.AH _ (ANM Dr)).1;have hmw:=hm.w;have hg:((w.2.2.2.2.2.2.1.map fun x=>(CJ (AU w) x n).1).take i++w.2.2.2.2.2.2.1.drop i).getD i (0,[],())=w.2.2.2.2.2.2.1[i]:=NB Dr;simp only[AKJ c1,AKJ c1.2,ANJ,hg];rw[AL (by omega) (by omega),show((i:Int)+1)=((i+1:Nat):Int)by omega,show(w.2.2.2.2.2.2.1[i].1,w.2.2.2.2.2.2.1[i].2.1,())=w.2.2.2.2.2.2.1[i]from rfl,show(w.1,w.2.1,())=AU w from rfl,eo (c:=AU w) (by show w.1.length<=_;omega) (by have:Au w.2.2.2.2.2.2.1[i]=Ag BX w.2.2.2.2.2.2.1[i].2.1:=rfl;omega)];simp only[AD,pkW];rw[show((CJ (AU w) w.2.2.2.2.2.2.1[i] n).1.1,(CJ (AU w) w.2.2.2.2.2.2.1[i] n).1.2.1,())=(CJ (AU w) w.2.2.2.2.2.2.1[i] n).1 from rfl,QV Dr rfl];grind
  ·have:i=w.2.2.2.2.2.2.1.length:=by omega
   have k12:=AGp h (n:=n) (ss:=ss) (ws:=w.2.2.2.2.2.2.1.map fun x=>(CJ (AU w) x n).1) hls f 0 (by omega) (by omega);grind
theorem hY{n:Int}:QW n w.2.1 w.2.2.2.2.2.1 w.2.2.2.2.2.2.2.2.2.2.1 w.1 w.2.2.1 w.2.2.2.1 w.2.2.2.2.1 w.2.2.2.2.2.2.1 w.2.2.2.2.2.2.2.1 w.2.2.2.2.2.2.2.2.1 w.2.2.2.2.2.2.2.2.2.1=some (AId (Mt w n)):=by
 have k:=h.nums;have k1:=k.c;have k2:=k.wr;have k3:=k.lost;have k4:=k.st;have ax:=k.a_;have jF:=k.J8;have kf:=k.jE;have k5:=k.era;have k7:=k.cJ;have k6:=k.md;unfold QW Tb Mt;rw[HJ w,LO (by omega) (by omega)];simp only[AD,C7];by_cases h3:Ak w n=0
 rotate_left
 ·rw[AKT h3,AKJ h3];rfl
 obtain⟨hr,s1,s2,s3⟩:=h.L7 h3;rw[AKJ h3,AKT (show¬(Ak w n≠0)from fun hh=>hh h3),AKJ hr,PI (Ef.1 h.lost).2.2 (by omega)];simp only[AD];have hp:=VK (n:=n) (l:=w.2.2.2.1);have:=AKe h (n:=n) (ss:=w.2.2.1.set n.toNat ([],[],0,())) (ls:=Jx n w.2.2.2.1) (by omega) Ae 0 (by omega) (AVJ (Ah (by omega)));simp_all
theorem mI{d:BR}(Wa:gG w)(h64:DR d.2.1)(hd:d.2.2.2.2.1.length<=40)(hk:1<=d.1/\d.1<=16):Uk d w.2.1 w.2.2.2.2.2.1 w.2.2.2.2.2.2.2.2.2.2.1 w.1 w.2.2.1 w.2.2.2.1 w.2.2.2.2.1 w.2.2.2.2.2.2.1 w.2.2.2.2.2.2.2.1 w.2.2.2.2.2.2.2.2.1 w.2.2.2.2.2.2.2.2.2.1=some (AE1 (LQ false w d)):=by
 have k:=h.nums;have k1:=k.c;have k2:=k.wr;have k3:=k.lost;have k4:=k.st;have ax:=k.a_;have jF:=k.J8;have kf:=k.jE;have k5:=k.era;have k7:=k.cJ;unfold Uk LQ;rw[AGP d];simp only[DW];by_cases c1:d.1=1
 ·rw[AKJ c1,AKJ c1,gp h];rfl
 rw[AKT c1,AKT c1];by_cases c2:d.1=2
 ·rw[AKJ c2,AKJ c2,kE h hd];rfl
 rw[AKT c2,AKT c2];by_cases c3:d.1=3
 ·rw[AKJ c3,AKJ c3,fo h];rfl
 rw[AKT c3,AKT c3];by_cases c4:d.1=4
 ·rw[AKJ c4,AKJ c4,g_ h];rfl
 rw[AKT c4,AKT c4];by_cases c5:d.1=5
 ·rw[AKJ c5,AKJ c5,fz h];rfl
 rw[AKT c5,AKT c5];by_cases c6:d.1=6
 ·rw[AKJ c6,AKJ c6,hY h];rfl
 rw[AKT c6,AKT c6];by_cases c7:d.1=7
 ·rw[AKJ c7,AKJ c7,gj h];rfl
 rw[AKT c7,AKT c7];by_cases c8:d.1=8
 ·rw[AKJ c8,AKJ c8,gh h];rfl
 rw[AKT c8,AKT c8];by_cases c9:d.1=9
 ·rw[AKJ c9,AKJ c9,iJ h];rfl
 rw[AKT c9,AKT c9];by_cases c10:d.1=10
 ·rw[AKJ c10,AKJ c10,gz h];rfl
 rw[AKT c10,AKT c10];by_cases c11:d.1=11
 ·rw[AKJ c11,AKJ c11,jf h];rfl
 rw[AKT c11,AKT c11];by_cases c12:d.1=12
 ·rw[AKJ c12,AKJ c12,gA h];rfl
 rw[AKT c12,AKT c12];by_cases c13:d.1=13
 ·rw[AKJ c13,AKJ c13,show(w.1,w.2.1,())=AU w from rfl,show(w.2.2.2.2.1,w.2.2.2.2.2.1,())=CA w from rfl,oW (c:=AU w) (r:=CA w) (by show w.1.length<=_;omega) (by show Ag CG w.2.2.2.2.1<=_;omega) k.trim h64]
  simp only[AD,pkR,PL];unfold O4;dsimp only;rcases AJ5 (MN (AU w) (CA w) d.2.1).2 with hq|hq
  ·rw[hq,GI];rfl
  ·have e:(MN (AU w) (CA w) d.2.1).1=CA w:=by
    unfold MN at hq|-;rw[JF.2 h.mf]at hq|-;grind
   rw[hq,e,Ip];rfl
 rw[AKT c13,AKT c13];by_cases c14:d.1=14
 ·rw[AKJ c14,AKJ c14,ik h Wa];rfl
 rw[AKT c14,AKT c14];by_cases c16:d.1=16
 ·rw[AKJ c16,AKT (show¬d.1=15 by omega),gC h];rfl
 rw[AKT c16,AKJ (show d.1=15 by omega),AL (x:=(w.2.2.2.2.2.2.1.length:Int)-1) (by omega) (by omega),Aw];simp only[AD,BA];unfold Nb;rw[show BS d.2.1 0 ((w.2.2.2.2.2.2.1.length:Int)-1)=BS d.2.1 0 ((w.AH.length:Int)-1)from rfl];rcases AJ5 (BS d.2.1 0 ((w.AH.length:Int)-1))with h1|h1
 rotate_left
 ·rw[h1,Ip];rfl
 obtain⟨x1,x2,x3⟩:=h.eO h1;rw[h1,ANa,GI,AL (x:=d.2.1+1) (by omega) (by omega)];unfold FP AEx;rw[AKJ (by omega)];simp only[AVW,AD];rw[show(d.2.1+1).toNat=d.2.1.toNat+1 by omega,<-List.eraseIdx_eq_take_drop_succ];rfl
theorem mR{d:BR}(Wa:gG w)(h64:DR d.2.1):PZ w d=some (pkD (C5 false w d)):=by
 unfold PZ C5;rw[HJ w,AGP d,FE Wa,pS,ZQ Wa];simp only[AD,BA,C7];rw[Ee.2 h];rcases AJ5 (P8 d)with hd|hd
 rotate_left
 ·rw[hd];rfl
 have hk:1<=d.1/\d.1<=16:=by
  unfold P8 at hd;exact Ai.1 (ALz _ _▸hd).1
 rw[hd,ANa,ANa,mI h Wa h64 (bh hd) hk];simp only[AD,AMy,AYd,AL4,AOK];by_cases hc:(LQ false w d).2=0
 ·rw[AKJ (show(AE1 (LQ false w d)).1.1=0 from hc)]
  generalize hg:LQ false w d=q at hc|-
  obtain⟨v,co⟩:=q;dsimp only at hc;subst hc;rfl
 ·rw[AKT (show¬(AE1 (LQ false w d)).1.1=0 from hc)]
  have:=xD hc;rw[show LQ false w d=(w,(LQ false w d).2)by grind];rfl
end
theorem nZ{w:AA}{d:BR}(Wa:gG w)(h64:DR d.2.1):PZ w d=some (pkD (C5 false w d)):=by
 rcases AJ5 (Dv w)with hw|hw
 ·grind[mR,Ee]
 ·unfold PZ C5
  rw[HJ w,FE Wa,hw];rfl
def bare(se:List Ac):List (Int×List UInt8):=se.map fun s=>(s.1,s.2.1)
section
variable{w:AA} {se:List Ac}
end
theorem AEw{l m:List Ac}(h:bare l=bare m):l.length=m.length:=by
 have:=congrArg List.length h;grind[bare]
section
variable{w:AA}
end
theorem AGJ{l m:List Ac}(h:bare l=bare m){s:Ac}(hs:s∈l):∃t∈m,t.1=s.1/\t.2.1=s.2.1:=by
 have h1:(s.1,s.2.1)∈bare m:=by rw[<-h];exact AUV.2 ⟨s,hs,rfl⟩
 obtain⟨t,ht,e⟩:=AUV.1 h1;grind
theorem AFp{l m:List Ac}(h:bare l=bare m)(ha:T4 (fun s:Ac=>s.1) l):T4 (fun s:Ac=>s.1) m:=by
 have e:∀l:List Ac,T4 (fun s:Ac=>s.1) l↔(bare l).Pairwise fun x y=>x.1<y.1:=fun l=>by
  unfold bare T4;rw[AXQ]
 simp_all
theorem OG.DF{w:AA}{se:List Ac}(hw:OG w)(h:bare se=bare w.BE):OG (w.DF se) where
 cfg:=hw.cfg
 pj:=hw.pj
 lost:=hw.lost
 ER:=hw.ER
 Ao:=hw.Ao
 mf:=hw.mf
 sS:=hw.sS
 zF:=hw.zF
 AH:=hw.AH
 Yd:=hw.Yd
 Bg:=hw.Bg
 o8:=hw.o8
 AX:=hw.AX
 QD:=by
  have:=hw.QD;grind[AEw]
 BE:=fun s hs=>by
  obtain⟨t,ht,e1,e2⟩:=AGJ h (show s∈se from hs);have:=hw.BE t ht;simp_all
 Vu:=AFp h.symm hw.Vu
structure Up (w v:AA):Prop where
 rd:∀k,k<2->EN (w.AX.getD k AW).1 (w.AX.getD k AW).2.1<=EN (v.AX.getD k AW).1 (v.AX.getD k AW).2.1/\(w.AX.getD k AW).2.2.1.length<=(v.AX.getD k AW).2.2.1.length
 er:w.Af.length<=v.Af.length/\ ∀i,i<w.Af.length->(w.Af.getD i Gd).2.1=true->(v.Af.getD i Gd).2.1=true/\(v.Af.getD i Gd).2.2.1=(w.Af.getD i Gd).2.2.1
 ER:w.ER=true->v.ER=true
 se:w.BE.length<=v.BE.length
theorem Up.of{w v:AA}(h1:v.AX=w.AX)(h2:v.Af=w.Af)(h3:w.ER=true->v.ER=true)(h4:w.BE.length<=v.BE.length):Up w v:=
 ⟨fun k _=>by simp_all,by simp_all,h3,h4⟩
section
variable{w:AA} (hw:OG w)
end
def runM(all:Bool):AA->List BR->AA×List Int
 |w,[]=>(w,[])
 |w,d::l=>
  let q:=C5 all w d
  let r:=runM all (if q.2=0 then q.1 else w) l
  (r.1,q.2::r.2)
theorem xB{all:Bool}:∀{l:List BR} {w:AA},(runM all w l).2.length=l.length
 |[],_=>rfl
 |d::l,w=>by simp only[runM,AN9,xB]
structure W8 (w:AA) (q:bJ):Prop where
 code:q.2≠1
 keep:q.2≠0->q.1=w
 rd:q.1.AX=w.AX
theorem W8.no{w:AA}{k:Int}(h:k≠1):W8 w (w,k):=⟨h,fun _=>rfl,rfl⟩
theorem W8.yes{w v:AA}(h:v.AX=w.AX):W8 w (v,0):=⟨by simp,fun h=>absurd rfl h,h⟩
section
variable{w:AA}
theorem ON{n:Int}:Ak w n≠1:=by
 unfold Ak;split
 ·decide
 ·split<;>decide
theorem fj{n:Int}{q:AO×Bool}:W8 w (putAt w n q):=by
 unfold putAt;split
 ·exact .yes rfl
 ·exact .no (by decide)
theorem AEs{a:Int}:W8 w (MU w a):=by
 unfold MU;split
 ·exact .no (by decide)
 dsimp only;split
 ·exact .no (by decide)
 ·exact .yes rfl
theorem AHx{a:Int}{d:ACB}:W8 w (doAdd w a d):=by
 unfold doAdd;split
 ·exact .no (by decide)
 dsimp only;split
 ·exact .no (by decide)
 ·exact .yes rfl
theorem AC0{a b n:Int}:W8 w (Iv w a b n):=by
 unfold Iv;split
 ·exact .no (by decide)
 dsimp only;split
 ·exact .no (by decide)
 split
 ·exact .no ON
 split
 ·exact .no (by decide)
 ·exact fj
theorem AGO{all:Bool}{n:Int}:W8 w (KC all w n):=by
 unfold KC;split
 ·exact .no ON
 dsimp only;split
 ·exact .no (by decide)
 ·exact .yes rfl
theorem ADV{n k:Int}:W8 w (Is w n k):=by
 unfold Is;split
 ·exact .no ON
 ·exact fj
theorem AGW{n:Int}:W8 w (Mt w n):=by
 unfold Mt;split
 ·exact .no ON
 ·exact .yes rfl
theorem AFw{n:Int}:W8 w (Mr w n):=by
 unfold Mr;split
 ·exact .no (by decide)
 dsimp only;split
 ·exact .no (by decide)
 ·exact .yes rfl
theorem AE9:W8 w (Mc w):=by
 unfold Mc;split
 ·exact .no (by decide)
 split
 ·exact .no (by decide)
 ·exact .yes rfl
theorem AGo{n:Int}:W8 w (Mh w n):=by
 unfold Mh;split
 ·exact .no (by decide)
 split
 ·exact .no ON
 split
 ·exact .no (by decide)
 dsimp only;split
 ·exact .no (by decide)
 ·exact .yes rfl
theorem AGF:W8 w (Mx w):=by
 unfold Mx;split
 ·exact .no (by decide)
 dsimp only;split
 ·exact .no (by decide)
 ·exact .yes rfl
theorem AKa{b n:Int}:W8 w (S5 w b n):=by
 unfold S5;split
 ·exact .no (by decide)
 split
 ·exact .no (by decide)
 split
 ·exact .no ON
 split
 ·exact .no (by decide)
 ·exact fj
theorem ADG:W8 w (Iw w):=by
 unfold Iw;split
 ·exact .no (by decide)
 split
 ·exact .no (by decide)
 dsimp only;split
 ·exact .no (by decide)
 ·exact .yes rfl
theorem AGV{a:Int}:W8 w (O4 w a):=by
 unfold O4;dsimp only;split
 ·exact .no (by decide)
 ·exact .yes rfl
theorem AFT{a:Int}:W8 w (Nb w a):=by
 unfold Nb;split
 ·exact .no (by decide)
 ·exact .yes rfl
theorem ACh{n:Int}:W8 w (It w n):=by
 unfold It;split
 ·exact .no ON
 ·exact fj
theorem AF9{all:Bool}{d:BR}(h:d.1≠14):W8 w (LQ all w d):=by
 unfold LQ;by_cases c1:d.1=1
 ·rw[AKJ c1];exact AEs
 rw[AKT c1];by_cases c2:d.1=2
 ·rw[AKJ c2];exact AHx
 rw[AKT c2];by_cases c3:d.1=3
 ·rw[AKJ c3];exact AC0
 rw[AKT c3];by_cases c4:d.1=4
 ·rw[AKJ c4];exact AGO
 rw[AKT c4];by_cases c5:d.1=5
 ·rw[AKJ c5];exact ADV
 rw[AKT c5];by_cases c6:d.1=6
 ·rw[AKJ c6];exact AGW
 rw[AKT c6];by_cases c7:d.1=7
 ·rw[AKJ c7];exact AFw
 rw[AKT c7];by_cases c8:d.1=8
 ·rw[AKJ c8];exact AE9
 rw[AKT c8];by_cases c9:d.1=9
 ·rw[AKJ c9];exact AGo
 rw[AKT c9];by_cases c10:d.1=10
 ·rw[AKJ c10];exact AGF
 rw[AKT c10];by_cases c11:d.1=11
 ·rw[AKJ c11];exact AKa
 rw[AKT c11];by_cases c12:d.1=12
 ·rw[AKJ c12];exact ADG
 rw[AKT c12];by_cases c13:d.1=13
 ·rw[AKJ c13];exact AGV
 rw[AKT c13,AKT h];by_cases c15:d.1=15
 ·rw[AKJ c15];exact AFT
 rw[AKT c15];exact ACh
theorem AHo{all:Bool}{d:BR}(h:d.1=14):LQ all w d=Ir w d.2.1 d.2.2.1:=by
 unfold LQ;rw[h];simp
theorem AKC(hw:OG w){all:Bool}{d:BR}(e:(LQ all w d).2=0):Ag A_ (LQ all w d).1.AX<=Ag A_ w.AX+41:=by
 by_cases h:d.1=14
 ·rw[AHo h]at e|-
  exact(xm hw e).2.2.2.2.2
 ·rw[(AF9 h).rd];omega
end
abbrev AFF(N:Nat):((AA×Unit×AA×Unit)×Unit)->(List BR×Unit)->Prop:=fun x y=>(∃c,FJ c=true/\x.1.1=Eo c)/\y.1.length<=N/\ ∀d∈y.1,DR d.2.1
section
variable{code:AAC} (hc:code.length<=2^30)
include hc
theorem AIK{T:Int}{N:Nat}(hT:T<=N/\N<=1000){s:AA}(hs:∃c,FJ c=true/\s=Eo c):∀(n k:Nat) (i hh:Int) (w:AA) (acc:List BR),HH code i->(k:Int)<=max T 0->(T-k).toNat<n->acc.length<=k->(∀d∈acc,DR d.2.1)->OG w->RdS w->
  OK code (AFF N) (Dt n T k code i hh 0 0 false [] [] [] [] [] [] [] [] 0 0 false [] [] [] [] [] [] [] [] s.1 s.2.1 s.2.2.1 s.2.2.2.1 s.2.2.2.2.1 s.2.2.2.2.2.1 s.2.2.2.2.2.2.1 s.2.2.2.2.2.2.2.1 s.2.2.2.2.2.2.2.2.1 s.2.2.2.2.2.2.2.2.2.1 s.2.2.2.2.2.2.2.2.2.2.1
   w.1 w.2.1 w.2.2.1 w.2.2.2.1 w.2.2.2.2.1 w.2.2.2.2.2.1 w.2.2.2.2.2.2.1 w.2.2.2.2.2.2.2.1 w.2.2.2.2.2.2.2.2.1 w.2.2.2.2.2.2.2.2.2.1 w.2.2.2.2.2.2.2.2.2.2.1 acc):=by
 intro n
 induction n with
 |zero=>intro k i hh w acc _ _ h;omega
 |succ n ih=>
  intro k i hh w acc hi hk hn hb hd hw hr;simp only[Dt,QE];refine OK.jS (fun K9=> ?_) (fun hge=>OK.some hi ⟨hs,by show acc.length<=N;omega,hd⟩);rw[HJ w];refine OK.bind (yz hc hw hi) fun x i1 h1 y gE hq=> ?_
  dsimp only;refine OK.ite (by rw[Bf];omega) ?_
  refine OK.pure (nf (d:=x.1) (hw.win hr) hq.1) ?_
  rw[AL (by omega) (by omega),show((k:Int)+1)=((k+1:Nat):Int)by omega];have hd2:∀d∈acc++[x.1],DR d.2.1:=fun d hdm=>by
   rcases AOO.1 hdm with h|h
   ·exact hd d h
   ·rw[AUa.1 h];exact hq.1
  refine OK.uH (fun h0=> ?_) (fun h0=> ?_)
  ·have h0':(C5 true w x.1).2=0:=h0
   exact ih (k+1) i1 h1 (C5 true w x.1).1 (acc++[x.1]) gE (by omega) (by omega) (by simp;omega) hd2 (Ee.1 (gr h0')) (sU hr h0')
  ·exact ih (k+1) i1 h1 w (acc++[x.1]) gE (by omega) (by omega) (by simp;omega) hd2 hw hr
theorem AOU{T:Int}{N:Nat}(hT:(0<=T/\T<=500)/\T<=N/\N<=1000){dom:AAC}{b21:AAC}(hbl:b21.length<=100)(hd:ck dom 1):∀(n:Nat) (c i hh:Int),HH code i->1<=c/\c<=3->c.toNat+1000<=n->
  OK code (AFF N) (E8 n T b21 code i hh 0 0 false [] [] [] [] [] [] [] [] 0 0 false [] [] [] [] [] [] [] [] dom c):=by
 intro n
 induction n with
 |zero=>intro c i hh _ _ h;omega
 |succ n ih=>
  intro c i hh hi sZ hn;have hg:ck dom c:=⟨hd.1,hd.2.1,sZ.1,sZ.2,hd.2.2.2.2⟩;have hdl:=hd.2.1;simp only[E8,RF];have fin:OK code (AFF N) ((Hp (dom,c,())).bind fun u6=>
    (An (Aa (T+1)) code i hh).bind fun u7=>
    Dt n u7.1.1 0 u7.2.1.1 u7.2.1.2.1 u7.2.1.2.2.1 0 0 false [] [] [] [] [] [] [] [] 0 0 false [] [] [] [] [] [] [] []
     u6.2.1 u6.1.1.1.2.1 u6.2.2.1 u6.2.2.2.1 u6.2.2.2.2.1 u6.1.1.1.2.2.2.2.2.1 u6.2.2.2.2.2.1 u6.2.2.2.2.2.2.1 u6.2.2.2.2.2.2.2.1 u6.2.2.2.2.2.2.2.2.1 u6.1.1.1.2.2.2.2.2.2.2.2.2.2.1
     u6.2.1 u6.1.1.1.2.1 u6.2.2.1 u6.2.2.2.1 u6.2.2.2.2.1 u6.1.1.1.2.2.2.2.2.1 u6.2.2.2.2.2.1 u6.2.2.2.2.2.2.1 u6.2.2.2.2.2.2.2.1 u6.2.2.2.2.2.2.2.2.1 u6.1.1.1.2.2.2.2.2.2.2.2.2.2.1 []):=by
   refine OK.pure (lg hg.ok) ?_
   rw[AL (by omega) (by omega)];refine OK.bind (QB hc hi (by omega)) fun x i1 h1 y gE hq=> ?_
   have hwn:=dt hg.ok;exact AIK hc (T:=x.1) (by omega) (N:=N) (s:=Eo (dom,c,())) ⟨_,hg.ok,rfl⟩ n 0 i1 h1 (Eo (dom,c,())) [] gE (by omega) (by omega) (by simp) (by simp) hwn.1 hwn.2
  refine OK.jS (fun K9=> ?_) (fun hge=>fin);refine OK.pure (FF (by show dom.length<=_;omega) (by omega)) ?_
  refine OK.cond (fun _=> ?_) (fun _=>fin);rw[AL (by omega) (by omega)];exact ih (c-1) i hh hi (by omega) (by omega)
theorem ATf{T:Int}{N:Nat}(hT:(0<=T/\T<=500)/\T<=N/\N<=1000){dom:AAC}{c:Int}(hd:ck dom c):∀(n k:Nat) (i hh:Int) (b:AAC),HH code i->k<=dom.length->dom.length-k+1010<=n->b.length<=k->
  OK code (AFF N) (E4 n T k code i hh 0 0 false [] [] [] [] [] [] [] [] 0 0 false [] [] [] [] [] [] [] [] c dom b):=by
 have hdl:=hd.2.1;intro n
 induction n with
 |zero=>intro k i hh b _ _ h;omega
 |succ n ih=>
  intro k i hh b hi hk hn hb;simp only[E4,RM];refine OK.jS (fun K9=> ?_) (fun hge=> ?_)
  ·refine OK.ite (by rw[Bf];omega) ?_
   rw[AL (by omega) (by omega),show((k:Int)+1)=((k+1:Nat):Int)by omega];exact ih (k+1) i hh _ hi (by omega) (by omega) (by simp;omega)
  ·exact AOU hc hT (by omega) ⟨hd.1,hd.2.1,by omega,by omega,hd.2.2.2.2⟩ n c i hh hi ⟨hd.2.2.1,hd.2.2.2.1⟩ (by have:=hd.2.2.2.1;omega)
theorem xX{T:Int}{N:Nat}(hT:(0<=T/\T<=500)/\T<=N/\N<=1000){i hh:Int}(hi:HH code i):OK code (AFF N) (OB T code i hh):=by
 unfold OB Rk;obtain⟨l,c,i1,h1,e,hg,gE⟩:=qa hc (h:=hh) hi;rw[e];have hgl:=hg.2.1;exact ATf hc hT hg Ae 0 i1 h1 [] gE (by omega) (AVJ (Ah (by omega))) (by simp)
omit hc in
theorem AI5{w:AA}(hw:OG w)(hr:RdS w):Ag A_ w.AX<=10002:=
 GX (
  f:=A_) (B:=5000) (N:=2) (l:=w.AX) (by rw[hw.o8];omega) fun r hx=>by
  have:=GX (f:=CQ) (B:=40) (hw.AX r hx).n (hr r hx);unfold A_;omega
end
theorem zq{p:AAC}(hp:p.length<=2^30):∃T,ZF p 100 190=some ((T,()),())/\0<=T/\T<=190:=by
 unfold ZF;dsimp only;have hd:(p.length:Int).tdiv 4=(p.length:Int)/4:=Int.tdiv_eq_ediv_of_nonneg (by omega);rw[hd,AL (x:=(p.length:Int)/4) (by omega) (by omega),AL (by omega) (by omega),AB];split
 ·exact⟨190,rfl,by omega⟩
 ·exact⟨_,rfl,by omega⟩
def APS(all:Bool)(w:AA)(l:List BR):AA×List Int:=if Dv w=true/\l.length<=200 then runM all w l else(w,[])
def kN(q:AA×List Int):GB:=(((((),q.1.2.1,(),(),(),q.1.2.2.2.2.2.1,(),(),(),(),q.1.2.2.2.2.2.2.2.2.2.2.1,()),(),()),()),(q.1.1,q.1.2.2.1,q.1.2.2.2.1,q.1.2.2.2.2.1,q.1.2.2.2.2.2.2.1,q.1.2.2.2.2.2.2.2.1,q.1.2.2.2.2.2.2.2.2.1,q.1.2.2.2.2.2.2.2.2.2.1,q.2,()))
theorem pV{w:AA}{d:BR}{all:Bool}(hw:OG w)(h0:(C5 all w d).2=0):Ag A_ (C5 all w d).1.AX<=Ag A_ w.AX+41:=by
 have:C5 all w d=LQ all w d:=by
  revert h0
  unfold C5;cases Dv w<;>cases P8 d<;>simp
 rw[this]at h0|-;exact AKC hw h0
theorem AVi{l:List BR}{k:Nat}(h:k<l.length):l.drop k=l.getD k (0,0,0,0,[],())::l.drop (k+1):=by
 rw[List.drop_eq_getElem_cons h,List.getD_eq_getElem?_getD,AKS h,AUP]
theorem ACa{l:List BR}(hl:l.length<=200)(hd:∀d∈l,DR d.2.1):∀(n k:Nat) (w:AA) (acc:AAC),k<=l.length->l.length-k<n->acc.length<=k->OG w->Ag A_ w.AX+41*(l.length-k)<=900000->
  LX n l (l.length:Int) k 0 0 false [] [] [] [] [] [] [] [] w.2.1 w.2.2.2.2.2.1 w.2.2.2.2.2.2.2.2.2.2.1 w.1 w.2.2.1 w.2.2.2.1 w.2.2.2.2.1 w.2.2.2.2.2.2.1 w.2.2.2.2.2.2.2.1 w.2.2.2.2.2.2.2.2.1 w.2.2.2.2.2.2.2.2.2.1 acc=some (kN ((runM false w (l.drop k)).1,acc++(runM false w (l.drop k)).2)):=by
 intro n
 induction n with
 |zero=>intro k w acc _ h;omega
 |succ n ih=>
  intro k w acc hk hn ha hw hr;simp only[LX,V9,AB];by_cases K9:k<l.length
  ·rw[AKJ (by omega),AKJ ⟨by omega,by omega⟩,AVi K9,ANJ]
   have hm:DR (l.getD k (0,0,0,0,[],())).2.1:=hd _ (BM K9)
   generalize l.getD k (0,0,0,0,[],())=d at hm
   rw[HJ w,AGP d,nZ (hw.AUp (by omega)) hm];simp only[AD];rw[show(pkD (C5 false w d)).1.1.2.1=(C5 false w d).2 from rfl,AL (x:=(k:Int)+1) (by omega) (by omega),show((k:Int)+1)=((k+1:Nat):Int)by omega,AKJ (by rw[Bf];omega),AKJ (by rw[Bf];omega)];simp only[runM];by_cases h0:(C5 false w d).2=0
   ·rw[AKJ h0,show((C5 false w d).2==0)=true by simpa using h0,ANa]
    have:=ih (k+1) (C5 false w d).1 (acc++[(C5 false w d).2]) (by omega) (by omega) (by simp;omega) (Ee.1 (gr h0)) (by have:=pV hw h0;omega);rw[ANs]at this;exact this
   ·rw[AKT h0,show((C5 false w d).2==0)=false by simpa using h0,ANE]
    have:=ih (k+1) w (acc++[(C5 false w d).2]) (by omega) (by omega) (by simp;omega) hw (by omega);rw[ANs]at this;exact this
  ·rw[AKT (by omega),ANY (by omega)]
   simp only[runM,ANm];rfl
theorem mU{w:AA}{l:List BR}(Wa:gG w)(hr:Ag A_ w.AX<=70000)(hd:∀d∈l,DR d.2.1)(hl:l.length<=2^30):I7 w l=some (kN (APS false w l)):=by
 unfold I7 WQ APS;rw[HJ w,ZQ Wa,FE Wa];simp only[AD,AB,BA];by_cases h:(l.length:Int)>200
 ·rw[AKJ h,AKT (fun hh=>by omega)]
  rfl
 rw[AKT h];rcases AJ5 (Dv w)with hw|hw
 ·rw[hw,ANa,AKJ ⟨rfl,by omega⟩]
  have:=ACa (l:=l) (by omega) hd Ae 0 w [] (by omega) (Ah (by omega)) (by simp) (Ee.1 hw) (by omega);exact this
 ·rw[hw,ANE,AKT (fun hh=>by simp at hh)]
  rfl
theorem v_{all:Bool}:∀{l:List BR} {w:AA},OG w->Ag A_ (runM all w l).1.AX<=Ag A_ w.AX+41*l.length
 |[],w,_=>by simp[runM]
 |d::l,w,hw=>by
  simp only[runM,AN9];by_cases h:(C5 all w d).2=0
  ·rw[AKJ h]
   have h1:=pV hw h;have h2:=v_ (all:=all) (l:=l) (Ee.1 (gr h));omega
  ·rw[AKT h]
   have h2:=v_ (all:=all) (l:=l) hw;omega
end Go.M
end
section
namespace Go.Sf
abbrev tg:=List UInt8
structure Oc where
 at_:Int
 P0:Int
 hole:Bool
 data:tg
structure Wd where
 data:tg
 o7:Int->Prop
 done:Prop
structure Md where
 ep:Int
 gY:Int->Prop
 seen:Int->Option Oc
 pl:Prop
 n:Int
 wrote:Int->Int->Prop
structure St where
 len:Int
 nodes:Int->Int->Prop
 cl:Int->Prop
 last:Int->Int
 trim:Int
 lost:Int->Prop
 ER:Prop
 kept:Int->Int->Option Oc
 late:Int->Oc->Prop
 sl:Int->Int
 wo:Int->Prop
 wd:Int->Option Wd
 md:Option Md
 HD:Int->Option (tg×Prop)
section
variable(H:(Int->Prop)->Prop) (ep off:Int->Int) (Pl:Int->Prop)
def Vh(len:Int)(m:Md)(p:Int):Oc:=
 match m.seen p with
 |some x=>⟨p,len,x.hole,x.data⟩
 |none=>⟨p,len,true,[]⟩
def ES(s:St)(x:Oc):Prop:=(∃n,s.kept n x.at_=some x)\/(∃n,s.late n x)\/(∃m,s.md=some m/\m.seen x.at_=some x)
def AJ4(s:St)(p n:Int):Prop:= ∃w,s.wd p=some w/\w.o7 n
def fJ(s:St)(p:Int):Prop:= ∃d q,s.HD p=some (d,q)/\q
def MH(s:St)(p:Int):Prop:= ¬fJ s p/\ep p<s.len/\(s.wo (ep p)-> ¬H (fun n=>s.nodes (ep p) n/\(¬(s.lost n\/ep p<=s.sl n)\/AJ4 s p n)))
def Have(s:St)(p n:Int):Prop:=(∃x,s.kept n p=some x)\/s.lost n
structure Gf (s:St):Prop where
 ny:0<=s.len
 Zw:∀e,1<=e->e<=s.len->H (s.nodes e)
 px:∀e,s.cl e->1<=e/\e<s.len
 Z_:∀e f,s.cl e->1<=f->f<e->s.cl f
 md1:∀m,s.md=some m->1<=m.ep/\m.ep<s.len/\ ¬s.cl m.ep/\ ∀e,1<=e->e<m.ep->s.cl e
 wr1:∀e,s.wo e->1<=e/\e<=s.len
 xc:∀p w,s.wd p=some w->Pl p/\s.wo (ep p)/\(∃q,s.HD p=some (w.data,q)/\(w.done->q))/\(w.done↔H w.o7)/\(∀n,w.o7 n->s.nodes (ep p) n)
 fE:∀p d,s.HD p=some d->Pl p/\ep p<=s.len
 Uy:∀n p x,s.kept n p=some x->x.at_=p
 jq:∀m p x,s.md=some m->m.seen p=some x->x.at_=p/\ep p=m.ep/\x.P0<s.len
 ic:∀x,ES s x->Pl x.at_/\0<=x.P0/\x.P0<=s.len/\ep x.at_<=s.len/\(0<x.P0->ep x.at_<x.P0)/\(x.P0=0->x.hole=false)/\(x.hole=true->x.data=[])
 jD:∀x,ES s x->x.hole=false-> ∃q,s.HD x.at_=some (x.data,q)
 ru:∀x,ES s x->x.P0=s.len-> ¬s.cl (ep x.at_)-> ∃m,s.md=some m/\m.pl/\m.ep=ep x.at_/\x=Vh s.len m x.at_
 sM:∀x y,ES s x->ES s y->x.at_=y.at_->x.P0=y.P0->x=y
structure HX (s:St) (fin:Int->Oc):Prop where
 Xl: ¬H s.lost
 sure:∀p,fJ s p->s.trim<p->H (fun n=>s.nodes (ep p) n/\Have s p n)/\ ∀m,s.md=some m->m.ep=ep p->(∃x,m.seen p=some x)\/H (fun n=>s.nodes (ep p) n/\ ¬m.gY n/\Have s p n)
 TE:∀p w n,s.wd p=some w-> ¬w.done->w.o7 n-> ¬s.lost n/\(s.trim<p->(∃x,s.kept n p=some x)/\ ∀m,s.md=some m->m.ep=ep p->m.gY n-> ∃x,m.seen p=some x)
 gY:∀m n,s.md=some m->m.gY n->s.lost n\/s.len-1<=s.sl n
 TY:∀x,ES s x->x.hole=true->s.trim<x.at_->MH H ep s x.at_
 aL:∀m p,s.md=some m->m.pl->Pl p->ep p=m.ep->s.trim<p->m.seen p=none->MH H ep s p
 past:∀p,Pl p->s.cl (ep p)->s.last (ep p)<off p->s.trim<p->MH H ep s p
 wrote:∀m p n,s.md=some m->m.wrote p n->s.nodes m.ep n/\ ¬s.lost n/\m.pl/\(s.trim<p->s.kept n p=some (Vh s.len m p))
 dm:∀m p x,s.md=some m->m.pl->m.seen p=some x->off p<=m.n
 closed:∀p,Pl p->s.cl (ep p)->off p<=s.last (ep p)->s.trim<p->(fin p).at_=p/\0<(fin p).P0/\(∀x,ES s x->x.at_=p->x.P0<=(fin p).P0/\(x.P0=(fin p).P0->x=fin p))/\
  H (fun n=>s.nodes (ep p) n/\(s.lost n\/s.kept n p=some (fin p)))
end
end Go.Sf
end
section
namespace Go.Sf
section
variable{H:(Int->Prop)->Prop} (hm:∀S T:Int->Prop,(∀n,S n->T n)->H S->H T) {ep off:Int->Int} {Pl:Int->Prop} {s:St} {fin:Int->Oc}
def QO(k k':Int->Option Oc)(L:Oc->Prop):Prop:=
 (∀p x,k p=some x-> ∃y,k' p=some y/\(y=x\/x.P0<y.P0))/\ ∀p y,k' p=some y->k p=some y\/(L y/\y.at_=p)
def St.settle(s:St)(n:Int)(k':Int->Option Oc):St:={ s with kept:=fun m=>if m=n then k' else s.kept m,late:=fun m x=>m≠n/\s.late m x }
theorem nL{n:Int}{k':Int->Option Oc}(hk:QO (s.kept n) k' (s.late n)){x:Oc}(h:ES (s.settle n k') x):ES s x:=by
 unfold ES St.settle at*;obtain⟨h1,h2⟩:=hk;grind
theorem qF{n:Int}{k':Int->Option Oc}(hk:QO (s.kept n) k' (s.late n))(h:Gf H ep Pl s):Gf H ep Pl (s.settle n k'):=by
 have hi:∀x,ES (s.settle n k') x->ES s x:=fun x=>nL hk
 obtain⟨a1,a2,a3,a4,a5,a6,a7,a8,a9,a10,a11,a12,a13,a14⟩:=h;refine⟨a1,a2,a3,a4,a5,a6,a7,a8,?_,a10,fun x h=>a11 x (hi x h),fun x h=>a12 x (hi x h),fun x h=>a13 x (hi x h),fun x y h k=>a14 x y (hi x h) (hi y k)⟩;grind[QO,St.settle]
theorem x_{n:Int}{k':Int->Option Oc}(hk:QO (s.kept n) k' (s.late n)){p m:Int}(h:Have s p m):Have (s.settle n k') p m:=by
 unfold Have St.settle QO at*;grind
include hm in
theorem pO{n:Int}{k':Int->Option Oc}(hk:QO (s.kept n) k' (s.late n))(hA:Gf H ep Pl s)(h:HX H ep off Pl s fin):HX H ep off Pl (s.settle n k') fin:=by
 have hi:∀x,ES (s.settle n k') x->ES s x:=fun x=>nL hk
 have hh:=fun p m=>x_ (s:=s) (n:=n) hk (p:=p) (m:=m)
 refine⟨h.Xl,fun p hs ht=> ?_,fun p w m h1 h2 h3=> ?_,h.gY,fun x h1 h2 h3=>h.TY x (hi x h1) h2 h3,h.aL,h.past,fun m p k h1 h2=> ?_,h.dm,fun p h1 h2 h3 h4=> ?_⟩
 ·obtain⟨h1,h2⟩:=h.sure p hs ht
  refine⟨hm _ _ (fun m h=>⟨h.1,hh p m h.2⟩) h1,fun m hm1 hm2=>(h2 m hm1 hm2).imp id fun h=>hm _ _ (fun k h=>⟨h.1,h.2.1,hh p k h.2.2⟩) h⟩
 ·have:=h.TE p w m h1 h2 h3
  unfold QO at hk;simp only[St.settle];grind
 ·have h3:=h.wrote m p k h1 h2
  refine⟨h3.1,h3.2.1,h3.2.2.1,fun ht=> ?_⟩;have h4:=h3.2.2.2 ht;obtain⟨k1,k2⟩:=hk;simp only[St.settle];split
  ·rename_i e
   subst e;obtain⟨y,h5,h6⟩:=k1 p _ h4;have i1:=hA.ic y (hi y (.inl ⟨k,by simp[St.settle];grind[hA.Uy]⟩));grind[Vh]
  ·exact h4
 ·obtain⟨h5,h50,h6,h7⟩:=h.closed p h1 h2 h3 h4
  refine⟨h5,h50,fun x hx=>h6 x (hi x hx),hm _ _ (fun m h=>⟨h.1,h.2.imp id fun hq=> ?_⟩) h7⟩;obtain⟨k1,k2⟩:=hk;simp only[St.settle];split
  ·rename_i e
   subst e;obtain⟨y,h8,h9⟩:=k1 p _ hq;have i1:=h6 y (hi y (.inl ⟨m,by simp[St.settle];grind[hA.Uy]⟩));grind[hA.Uy]
  ·exact hq
theorem MH.of{s s':St}{p:Int}(hn:MH H ep s p)(h1:fJ s' p->fJ s p)(h2:s.len<=s'.len)(h3:s'.wo (ep p)->s.wo (ep p))
  (h4:s'.wo (ep p)-> ∀n,s'.nodes (ep p) n->(¬(s'.lost n\/ep p<=s'.sl n)\/AJ4 s' p n)->s.nodes (ep p) n/\(¬(s.lost n\/ep p<=s.sl n)\/AJ4 s p n))
  (hm:∀S T:Int->Prop,(∀n,S n->T n)->H S->H T):MH H ep s' p:=
 ⟨fun h=>hn.1 (h1 h),Int.lt_of_lt_of_le hn.2.1 h2,fun hw h=>hn.2.2 (h3 hw) (hm _ _ (fun n hq=>h4 hw n hq.1 hq.2) h)⟩
def St.fA(H:(Int->Prop)->Prop)(s:St)(p n:Int)(w:Wd):St:=
 { s with wd:=fun q=>if q=p then some ⟨w.data,fun k=>w.o7 k\/k=n,H (fun k=>w.o7 k\/k=n)⟩else s.wd q,HD:=fun q=>if q=p then(s.HD p).map (fun d=>(d.1,d.2\/H (fun k=>w.o7 k\/k=n)))else s.HD q }
structure ACJ (ep:Int->Int) (s:St) (p n:Int) (w:Wd):Prop where
 wd:s.wd p=some w
 open_: ¬w.done
 node:s.nodes (ep p) n
 there: ¬s.lost n
 free:s.sl n<ep p
 has:∃x,s.kept n p=some x
theorem AWJ{p n:Int}{w:Wd}(k:ACJ ep s p n w)(h:Gf H ep Pl s):Gf H ep Pl (s.fA H p n w):=by
 obtain⟨a1,a2,a3,a4,a5,a6,a7,a8,a9,a10,a11,a12,a13,a14⟩:=h;refine⟨a1,a2,a3,a4,a5,a6,fun q v hq=> ?_,fun q d hq=> ?_,a9,a10,a11,fun x hx hh=> ?_,a13,a14⟩
 ·have:=a7 p w k.wd
  have:=k.node;simp only[St.fA]at*;grind
 ·simp only[St.fA]at hq
  split at hq
  ·rename_i e
   cases hp:s.HD p with
   |none=>simp_all
   |some z=>rw[e];exact a8 p z hp
  ·exact a8 q d hq
 ·obtain⟨z,hz⟩:=a12 x hx hh
  simp only[St.fA];grind
theorem tG{p n:Int}{w:Wd}{q:Int}(h:fJ (s.fA H p n w) q):fJ s q\/(q=p/\H (fun k=>w.o7 k\/k=n)):=by
 obtain⟨d,z,h1,h2⟩:=h;simp only[St.fA]at h1;split at h1
 ·rename_i e
  cases hp:s.HD p with
  |none=>simp_all
  |some y=>
   rw[hp]at h1;cases h1;rcases h2 with h2|h2
   ·exact .inl ⟨y.1,y.2,by rw[e,hp],h2⟩
   simp_all
 ·exact .inl ⟨d,z,h1,h2⟩
include hm in
theorem AYI{p n:Int}{w:Wd}(k:ACJ ep s p n w)(hA:Gf H ep Pl s)(h:HX H ep off Pl s fin):HX H ep off Pl (s.fA H p n w) fin:=by
 have hk:=k.wd;have ho:=k.open_;have ht:=k.there;have hf:=k.free;have AXf:=k.has;have ANN:∀m,s.md=some m->m.ep=ep p-> ¬m.gY n:=fun m h1 h2 h3=>by
  have:=h.gY m n h1 h3;have:=hA.md1 m h1;grind
 have hN:∀q,MH H ep s q->MH H ep (s.fA H p n w) q:=fun q hn=>by
  refine hn.of (fun hs=> ?_) (AUF _) (fun h=>h) (fun hw m hn hd=> ?_) hm
  ·rcases tG hs with h'|⟨hq,hH⟩
   ·exact h'
   ·subst hq
    refine absurd (hm _ _ (fun m rv=>⟨?_,?_⟩) hH) (hn.2.2 (hA.xc q w hk).2.1)
    ·have:=k.node
     have:=(hA.xc q w hk).2.2.2.2 m;grind
    ·rcases rv with h'|rfl
     ·exact .inr ⟨w,hk,h'⟩
     ·exact .inl (by grind)
  ·refine⟨hn,?_⟩
   simp only[AJ4,St.fA]at*;grind
 refine⟨h.Xl,fun q hs hq=> ?_,fun q v m h1 h2 h3=> ?_,h.gY,fun x h1 h2 h3=>hN _ (h.TY x h1 h2 h3),fun m q h1 h2 h3 h4 h5 h6=>hN _ (h.aL m q h1 h2 h3 h4 h5 h6),fun q h1 h2 h3 h4=>hN _ (h.past q h1 h2 h3 h4),h.wrote,h.dm,h.closed⟩
 ·by_cases hqs:fJ s q
  ·exact h.sure q hqs hq
  ·obtain⟨hqp,hH⟩:=(tG hs).resolve_left hqs
   subst hqp;have h1:=hA.xc q w hk;have h2:∀m,(w.o7 m\/m=n)->s.nodes (ep q) m/\Have s q m:=fun m rv=>by
    rcases rv with h'|rfl
    ·exact⟨h1.2.2.2.2 m h',.inl ((h.TE q w m hk ho h').2 hq).1⟩
    ·exact⟨k.node,.inl AXf⟩
   refine⟨hm _ _ h2 hH,fun m TH pJ=> ?_⟩;by_cases hseen:∃x,m.seen q=some x
   ·exact .inl hseen
   ·refine .inr (hm _ _ (fun j hj=>⟨(h2 j hj).1,fun hsl=> ?_,(h2 j hj).2⟩) hH)
    rcases hj with h'|rfl
    ·exact hseen (((h.TE q w j hk ho h').2 hq).2 m TH pJ hsl)
    ·exact ANN m TH pJ hsl
 ·by_cases hq:q=p
  ·subst hq
   have h4:=fun j=>h.TE q w j hk ho
   simp only[St.fA,ATt,AKr]at h1;subst h1;rcases h3 with h3|rfl
   ·exact h4 m h3
   ·exact⟨ht,fun _=>⟨AXf,fun m' a b c=>absurd c (ANN m' a b)⟩⟩
  ·simp only[St.fA,AKT hq]at h1
   exact h.TE q v m h1 h2 h3
def St.wrt(s:St)(m:Md)(p n:Int):St:={ s with md:=some { m with wrote:=fun q k=>m.wrote q k\/(q=p/\k=n) } }
theorem yF{m:Md}{p n:Int}(TH:s.md=some m){x:Oc}(h:ES (s.wrt m p n) x):ES s x:=by
 rcases h with h|h|⟨m',h1,h2⟩
 ·exact .inl h
 ·exact .inr (.inl h)
 ·cases h1
  exact .inr (.inr ⟨m,TH,h2⟩)
theorem AXW{m:Md}{p n:Int}(TH:s.md=some m)(h:Gf H ep Pl s):Gf H ep Pl (s.wrt m p n):=by
 have hi:∀x,ES (s.wrt m p n) x->ES s x:=fun x=>yF TH
 obtain⟨a1,a2,a3,a4,a5,a6,a7,a8,a9,a10,a11,a12,a13,a14⟩:=h;refine⟨a1,a2,a3,a4,?_,a6,a7,a8,a9,?_,fun x h=>a11 x (hi x h),fun x h=>a12 x (hi x h),fun x h h1 h2=> ?_,fun x y h k=>a14 x y (hi x h) (hi y k)⟩
 ·intro m' e;cases e;exact a5 m TH
 ·intro m' q x e;cases e;exact a10 m q x TH
 ·obtain⟨m',e,h3,h4,h5⟩:=a13 x (hi x h) h1 h2
  rw[TH]at e;cases e;exact⟨_,rfl,h3,h4,h5⟩
theorem AXC{m:Md}{p n:Int}(TH:s.md=some m)(mY:m.pl)(h1:s.nodes m.ep n)(h2: ¬s.lost n)(h3:s.kept n p=some (Vh s.len m p))(h:HX H ep off Pl s fin):HX H ep off Pl (s.wrt m p n) fin:=by
 have hi:∀x,ES (s.wrt m p n) x->ES s x:=fun x=>yF TH
 obtain⟨b1,b2,b3,b4,b5,b6,b7,b8,b9,LU⟩:=h;refine⟨b1,fun q a b=>⟨(b2 q a b).1,?_⟩,fun q w j a b c=>⟨(b3 q w j a b c).1,fun d=>⟨((b3 q w j a b c).2 d).1,?_⟩⟩,?_,fun x a=>b5 x (hi x a),?_,b7,?_,?_,fun q a b c d=>⟨(LU q a b c d).1,(LU q a b c d).2.1,fun x e=>(LU q a b c d).2.2.1 x (hi x e),(LU q a b c d).2.2.2⟩⟩
 ·have:=(b2 q a b).2
  simp only[St.wrt];intro m' e;cases e;exact this m TH
 ·have:=((b3 q w j a b c).2 d).2
  simp only[St.wrt];simp_all
 ·simp only[St.wrt];intro m' j e;cases e;simp_all
 ·simp only[St.wrt];intro m' q e;cases e;exact b6 m q TH
 ·intro m' q k e hq
  cases e;rcases hq with hq|⟨rfl,rfl⟩
  ·exact b8 m q k TH hq
  ·exact⟨h1,h2,mY,fun _=>h3⟩
 grind[St.wrt]
end
end Go.Sf
end
section
namespace Go.Sf
section
variable{H:(Int->Prop)->Prop} (hm:∀S T:Int->Prop,(∀n,S n->T n)->H S->H T) (h0: ¬H (fun _=>False)) {ep off:Int->Int} {Pl:Int->Prop} {s:St} {fin:Int->Oc}
def St.add(s:St)(p:Int)(d:tg):St:=
 { s with wd:=fun q=>if q=p then some ⟨d,fun _=>False,False⟩else s.wd q,HD:=fun q=>if q=p then some (d,False)else s.HD q }
structure ANb (ep:Int->Int) (Pl:Int->Prop) (s:St) (p:Int):Prop where
 pl:Pl p
 wr:s.wo (ep p)
 wd:s.wd p=none
 HD:s.HD p=none
include h0 in
theorem AV7{p:Int}{d:tg}(k:ANb ep Pl s p)(h:Gf H ep Pl s):Gf H ep Pl (s.add p d):=by
 obtain⟨a1,a2,a3,a4,a5,a6,a7,a8,a9,a10,a11,a12,a13,a14⟩:=h;refine⟨a1,a2,a3,a4,a5,a6,fun q v hq=> ?_,fun q d' hq=> ?_,a9,a10,a11,fun x hx hh=> ?_,a13,a14⟩
 ·simp only[St.add]at*
  split at hq
  ·cases hq
   rename_i e;subst e;exact⟨k.pl,k.wr,⟨_,by simp,fun h=>h⟩,⟨fun h=>h.elim,fun h=>h0 h⟩,fun _ h=>h.elim⟩
  ·rename_i e
   obtain⟨b1,b2,b3,b4⟩:=a7 q v hq;exact⟨b1,b2,by simpa[e]using b3,b4⟩
 ·simp only[St.add]at hq
  split at hq
  ·rename_i e
   subst e;exact⟨k.pl,(a6 _ k.wr).2⟩
  ·exact a8 q d' hq
 ·obtain⟨z,hz⟩:=a12 x hx hh
  have:x.at_≠p:=fun e=>by rw[e,k.HD]at hz;cases hz
  exact⟨z,by simpa[St.add,this]using hz⟩
theorem xr{p:Int}{d:tg}{q:Int}(h:fJ (s.add p d) q):fJ s q:=by
 obtain⟨a,z,h1,h2⟩:=h;simp only[St.add]at h1;split at h1
 ·simp_all
 ·exact⟨a,z,h1,h2⟩
include hm in
theorem AWM{p:Int}{d:tg}(h:HX H ep off Pl s fin):HX H ep off Pl (s.add p d) fin:=by
 have hN:∀q,MH H ep s q->MH H ep (s.add p d) q:=fun q hn=>by
  refine hn.of xr (AUF _) (fun h=>h) (fun hw m hn hd=>⟨hn,hd.imp id ?_⟩) hm
  rintro⟨w,h1,h2⟩
  simp only[St.add]at h1;split at h1
  ·cases h1;exact h2.elim
  ·exact⟨w,h1,h2⟩
 refine⟨h.Xl,fun q hs hq=>h.sure q (xr hs) hq,fun q v m h1 h2 h3=> ?_,h.gY,fun x h1 h2 h3=>hN _ (h.TY x h1 h2 h3),fun m q h1 h2 h3 h4 h5 h6=>hN _ (h.aL m q h1 h2 h3 h4 h5 h6),fun q h1 h2 h3 h4=>hN _ (h.past q h1 h2 h3 h4),h.wrote,h.dm,h.closed⟩;simp only[St.add]at h1;split at h1
 ·cases h1;exact h3.elim
 ·exact h.TE q v m h1 h2 h3
def St.put(s:St)(n:Int)(x:Oc):St:={ s with late:=fun m y=>s.late m y\/(m=n/\y=x) }
theorem YS{n:Int}{x y:Oc}(h:ES (s.put n x) y):ES s y\/y=x:=by
 rcases h with h|⟨m,h|⟨_,h⟩⟩|h
 ·exact .inl (.inl h)
 ·exact .inl (.inr (.inl ⟨m,h⟩))
 ·simp_all
 ·exact .inl (.inr (.inr h))
structure ABs (ep:Int->Int) (Pl:Int->Prop) (s:St) (x:Oc):Prop where
 pl:Pl x.at_
 w0:0<=x.P0
 w1:x.P0<=s.len
 e1:ep x.at_<=s.len
 w2:0<x.P0->ep x.at_<x.P0
 h1:x.P0=0->x.hole=false
 h2:x.hole=true->x.data=[]
 HD:x.hole=false-> ∃q,s.HD x.at_=some (x.data,q)
 last:x.P0=s.len-> ¬s.cl (ep x.at_)-> ∃m,s.md=some m/\m.pl/\m.ep=ep x.at_/\x=Vh s.len m x.at_
 one:∀y,ES s y->x.at_=y.at_->x.P0=y.P0->x=y
theorem AWo{n:Int}{x:Oc}(k:ABs ep Pl s x)(h:Gf H ep Pl s):Gf H ep Pl (s.put n x):=by
 obtain⟨a1,a2,a3,a4,a5,a6,a7,a8,a9,a10,a11,a12,a13,a14⟩:=h;refine⟨a1,a2,a3,a4,a5,a6,a7,a8,a9,a10,fun y hy=> ?_,fun y hy=> ?_,fun y hy=> ?_,fun y z hy hz e1 e2=> ?_⟩
 ·rcases YS hy with hy|rfl
  ·exact a11 y hy
  ·exact⟨k.pl,k.w0,k.w1,k.e1,k.w2,k.h1,k.h2⟩
 ·rcases YS hy with hy|rfl
  ·exact a12 y hy
  ·exact k.HD
 ·rcases YS hy with hy|rfl
  ·exact a13 y hy
  ·exact k.last
 ·rcases YS hy with zN|ey<;>rcases YS hz with hz'|ez
  ·grind
  ·rw[ez]at e1 e2|-
   exact(k.one y zN e1.symm e2.symm).symm
  ·rw[ey]at e1 e2|-
   exact k.one z hz' e1 e2
  simp_all
theorem AXO{n:Int}{x:Oc}(hh:x.hole=true->s.trim<x.at_->MH H ep s x.at_)
  (hc:s.cl (ep x.at_)->x.P0=0) (h:HX H ep off Pl s fin):HX H ep off Pl (s.put n x) fin:=by
 refine⟨h.Xl,h.sure,h.TE,h.gY,fun y h1 h2 h3=> ?_,h.aL,h.past,h.wrote,h.dm,fun p h1 h2 h3 h4=> ?_⟩
 ·rcases YS h1 with hy|rfl
  ·exact h.TY y hy h2 h3
  ·exact hh h2 h3
 ·obtain⟨c1,c2,c3,c4⟩:=h.closed p h1 h2 h3 h4
  refine⟨c1,c2,fun y hy hyp=> ?_,c4⟩;rcases YS hy with hy|rfl
  ·grind
  ·have:=hc (by rw[hyp];exact h2)
   grind
theorem AAr{p:Int}{w:Wd}(h:Gf H ep Pl s)(hw:s.wd p=some w):ABs ep Pl s ⟨p,0,false,w.data⟩:=by
 have h1:=h.xc p w hw;have h2:=h.wr1 _ h1.2.1;refine⟨h1.1,AUF _,h.ny,h2.2,fun h=>absurd h (Int.lt_irrefl _),fun _=>rfl,fun h=>(by cases h),fun _=> ?_,fun e=> ?_,fun y hy e1 e2=> ?_⟩
 ·grind
 ·grind
 ·simp only at e1 e2
  have h3:=(h.ic y hy).2.2.2.2.2.1 e2.symm;obtain⟨q,hq⟩:=h.jD y hy h3;obtain⟨q',hq',_⟩:=h1.2.2.1;rw[<-e1,hq']at hq;simp only[AKr,APT]at hq;cases y;simp_all
theorem zp{p:Int}{m:Md}(h:Gf H ep Pl s)(TH:s.md=some m)(mY:m.pl)(he:ep p=m.ep)(hp:Pl p):ABs ep Pl s (Vh s.len m p):=by
 have h1:=h.md1 m TH;have PG:(Vh s.len m p).at_=p:=by grind[Vh]
 have hwv:(Vh s.len m p).P0=s.len:=by grind[Vh]
 have hs:∀x,m.seen p=some x->ES s x/\x.at_=p:=fun x hx=>by
  have:=(h.jq m p x TH hx).1;exact⟨.inr (.inr ⟨m,TH,by simp_all⟩),this⟩
 refine⟨by simp_all,by omega,by omega,by grind,fun _=>by simp_all,fun e=>by omega,fun e=> ?_,fun e=> ?_,fun _ _=>⟨m,TH,mY,by simp_all,by rw[PG]⟩,fun y hy e1 e2=> ?_⟩
 ·unfold Vh at e|-
  split at e
  ·rename_i x hx
   exact(h.ic x (hs x hx).1).2.2.2.2.2.2 e
  rfl
 ·rw[PG]
  unfold Vh at e|-;split at e
  ·rename_i x hx
   have:=h.jD x (hs x hx).1 e;simp_all
  simp_all
 ·rw[PG]at e1
  rw[hwv]at e2;obtain⟨m',k1,k2,k3,k4⟩:=h.ru y hy e2.symm (by simp_all);grind
end
end Go.Sf
end
section
namespace Go.Sf
section
variable{H:(Int->Prop)->Prop} (hm:∀S T:Int->Prop,(∀n,S n->T n)->H S->H T) (h0: ¬H (fun _=>False)) {ep off:Int->Int} {Pl:Int->Prop} {s:St} {fin:Int->Oc}
def St.Wx(H:(Int->Prop)->Prop)(s:St)(n:Int):St:=
 { s with kept:=fun m=>if m=n then fun _=>none else s.kept m,late:=fun m x=>m≠n/\s.late m x,sl:=fun m=>if m=n then 0 else s.sl m,lost:=fun m=>s.lost m\/m=n,wd:=fun p=>(s.wd p).map fun w=>⟨w.data,fun k=>w.o7 k/\(w.done\/k≠n),w.done⟩,md:=s.md.map fun m=>{ m with wrote:=fun p k=>m.wrote p k/\k≠n },ER:=s.ER\/H (fun m=>s.lost m\/m=n) }
theorem uR{n:Int}{x:Oc}(h:ES (s.Wx H n) x):ES s x:=by
 rcases h with⟨m,h⟩|⟨m,h⟩|⟨m,h1,h2⟩
 ·simp only[St.Wx]at h
  split at h
  ·cases h
  ·exact .inl ⟨m,h⟩
 ·exact .inr (.inl ⟨m,h.2⟩)
 ·simp only[St.Wx,ALL]at h1
  obtain⟨m',h1,rfl⟩:=h1;exact .inr (.inr ⟨m',h1,h2⟩)
theorem Yl{n:Int}{m:Md}(h:(s.Wx H n).md=some m):∃m',s.md=some m'/\m={ m' with wrote:=fun p k=>m'.wrote p k/\k≠n }:=by
 simp only[St.Wx,ALL]at h;grind
theorem vD{n p:Int}{w:Wd}(h:(s.Wx H n).wd p=some w):∃w',s.wd p=some w'/\w=⟨w'.data,fun k=>w'.o7 k/\(w'.done\/k≠n),w'.done⟩:=by
 simp only[St.Wx,ALL]at h;grind
include hm in
theorem AS4{n:Int}(h:Gf H ep Pl s):Gf H ep Pl (s.Wx H n):=by
 have hi:∀x,ES (s.Wx H n) x->ES s x:=fun x=>uR
 refine⟨h.ny,h.Zw,h.px,h.Z_,fun m e=> ?_,h.wr1,fun p w e=> ?_,h.fE,fun k p x e=> ?_,fun m p x e=> ?_,fun x e=>h.ic x (hi x e),fun x e=>h.jD x (hi x e),fun x e e1 e2=> ?_,fun x y e e1=>h.sM x y (hi x e) (hi y e1)⟩
 ·obtain⟨m',e',rfl⟩:=Yl e
  replace e:=e'
  exact h.md1 m' e
 ·obtain⟨w',e',rfl⟩:=vD e
  clear e;have e:=e'
  obtain⟨b1,b2,b3,b4,b5⟩:=h.xc p w' e;refine⟨b1,b2,b3,⟨fun hd=>hm _ _ (fun k hk=>⟨hk,.inl hd⟩) (b4.1 hd),fun hH=>b4.2 (hm _ _ (fun k hk=>hk.1) hH)⟩,fun k hk=>b5 k hk.1⟩
 ·simp only[St.Wx]at e
  split at e
  ·cases e
  ·exact h.Uy k p x e
 ·obtain⟨m',e',rfl⟩:=Yl e
  replace e:=e'
  exact h.jq m' p x e
 ·obtain⟨m,c1,c2,c3,c4⟩:=h.ru x (hi x e) e1 e2
  exact⟨{ m with wrote:=fun p k=>m.wrote p k/\k≠n },by simp[St.Wx,c1],c2,c3,c4⟩
theorem ACv{n p m:Int}(h:Have s p m):Have (s.Wx H n) p m:=by
 simp only[Have,St.Wx]at*;grind
include hm in
theorem AOS{n:Int}(hl: ¬H (fun m=>s.lost m\/m=n))(hA:Gf H ep Pl s)(h:HX H ep off Pl s fin):HX H ep off Pl (s.Wx H n) fin:=by
 have hi:∀x,ES (s.Wx H n) x->ES s x:=fun x=>uR
 have hh:=fun p m=>ACv (H:=H) (s:=s) (n:=n) (p:=p) (m:=m)
 have hN:∀q,MH H ep s q->MH H ep (s.Wx H n) q:=fun q hn=>by
  refine hn.of (fun h=>h) (AUF _) (fun h=>h) (fun hw m tp hd=>⟨tp,?_⟩) hm;rcases hd with hd|⟨w,h1,h2⟩
  ·simp only[St.Wx]at hd
   by_cases e:m=n
   ·simp[e]at hd
   ·simp only[e,or_false,AOK]at hd
    exact .inl hd
  ·obtain⟨w',e,rfl⟩:=vD h1
   exact .inr ⟨w',e,h2.1⟩
 refine⟨hl,fun p hs ht=> ?_,fun p w m e1 e2 e3=> ?_,fun m k e1 e2=> ?_,fun x a b c=>hN _ (h.TY x (hi x a) b c),fun m p e a b c d f=> ?_,fun p a b c d=>hN _ (h.past p a b c d),fun m p k e e2=> ?_,fun m p x e=> ?_,fun p a b c d=> ?_⟩
 ·obtain⟨b1,b2⟩:=h.sure p hs ht
  refine⟨hm _ _ (fun m hq=>⟨hq.1,hh p m hq.2⟩) b1,fun m e1 e2=> ?_⟩;obtain⟨m',e1',rfl⟩:=Yl e1
  replace e1:=e1'
  exact(b2 m' e1 e2).imp id fun hq=>hm _ _ (fun k hk=>⟨hk.1,hk.2.1,hh p k hk.2.2⟩) hq
 ·obtain⟨w',e,rfl⟩:=vD e1
  obtain⟨b1,b2⟩:=h.TE p w' m e e2 e3.1;have hmn:m≠n:=e3.2.resolve_left e2;refine⟨by simp[St.Wx,hmn,b1],fun ht=>⟨by simpa[St.Wx,hmn]using(b2 ht).1,fun m1 f1=> ?_⟩⟩;obtain⟨m',f1',rfl⟩:=Yl f1
  replace f1:=f1'
  exact(b2 ht).2 m' f1
 ·obtain⟨m',e1',rfl⟩:=Yl e1
  replace e1:=e1'
  have:=h.gY m' k e1 e2;simp only[St.Wx];by_cases e:k=n
  ·exact .inl (.inr e)
  ·simpa[e]using this
 ·obtain⟨m',e',rfl⟩:=Yl e
  replace e:=e'
  exact hN _ (h.aL m' p e a b c d f)
 ·obtain⟨m',e',rfl⟩:=Yl e
  replace e:=e'
  obtain⟨b1,b2,b3,b4⟩:=h.wrote m' p k e e2.1;refine⟨b1,by simp[St.Wx,e2.2,b2],b3,fun ht=> ?_⟩;simp only[St.Wx,e2.2,AOK];exact b4 ht
 ·obtain⟨m',e',rfl⟩:=Yl e
  replace e:=e'
  exact h.dm m' p x e
 ·obtain⟨c1,c2,c3,c4⟩:=h.closed p a b c d
  refine⟨c1,c2,fun x hx=>c3 x (hi x hx),hm _ _ (fun m hq=>⟨hq.1,?_⟩) c4⟩;simp only[St.Wx];by_cases e:m=n
  ·exact .inl (.inr e)
  ·simpa[e]using hq.2
def St.fill(s:St)(n:Int)(k':Int->Option Oc)(v:Int):St:=
 { s with kept:=fun m=>if m=n then k' else s.kept m,late:=fun m x=>m≠n/\s.late m x,sl:=fun m=>if m=n then v else s.sl m,lost:=fun m=>s.lost m/\m≠n }
structure wE (s:St) (n:Int) (k':Int->Option Oc) (v:Int):Prop where
 lost:s.lost n
 v1:s.len-1<=v
 of_:∀p y,k' p=some y-> ∃m,¬s.lost m/\s.kept m p=some y
 ALE:∀m p x,¬s.lost m->s.kept m p=some x-> ∃y,k' p=some y/\x.P0<=y.P0
theorem te{n:Int}{k':Int->Option Oc}{v:Int}(k:wE s n k' v){x:Oc}(h:ES (s.fill n k' v) x):ES s x:=by
 rcases h with⟨m,h⟩|⟨m,h⟩|h
 ·simp only[St.fill]at h
  split at h
  ·obtain⟨m,_,h⟩:=k.of_ _ _ h
   exact .inl ⟨m,h⟩
  ·exact .inl ⟨m,h⟩
 ·exact .inr (.inl ⟨m,h.2⟩)
 ·exact .inr (.inr h)
theorem ATL{n:Int}{k':Int->Option Oc}{v:Int}(k:wE s n k' v)(h:Gf H ep Pl s):Gf H ep Pl (s.fill n k' v):=by
 have hi:∀x,ES (s.fill n k' v) x->ES s x:=fun x=>te k
 refine⟨h.ny,h.Zw,h.px,h.Z_,h.md1,h.wr1,h.xc,h.fE,fun m p x e=> ?_,h.jq,fun x e=>h.ic x (hi x e),fun x e=>h.jD x (hi x e),fun x e=>h.ru x (hi x e),fun x y e e1=>h.sM x y (hi x e) (hi y e1)⟩;simp only[St.fill]at e;split at e
 ·obtain⟨m,_,e⟩:=k.of_ _ _ e
  exact h.Uy m p x e
 ·exact h.Uy m p x e
include hm in
theorem AOq{n:Int}{k':Int->Option Oc}{v:Int}(k:wE s n k' v)(hA:Gf H ep Pl s)(h:HX H ep off Pl s fin):HX H ep off Pl (s.fill n k' v) fin:=by
 have hi:∀x,ES (s.fill n k' v) x->ES s x:=fun x=>te k
 have some_:∀S:Int->Prop,H S-> ∃m,S m/\ ¬s.lost m:=fun S hS=>AV2 fun hn=>h.Xl (hm _ _ (fun m rv=>AV2 fun hl=>hn ⟨m,rv,hl⟩) hS)
 have hN:∀q,MH H ep s q->MH H ep (s.fill n k' v) q:=fun q hn=>by
  refine hn.of (fun h=>h) (AUF _) (fun h=>h) (fun hw m tp hd=>⟨tp,hd.imp (fun hd=> ?_) id⟩) hm;simp only[St.fill]at hd;by_cases e:m=n
  ·have:=hn.2.1
   have:=k.v1;simp only[e,ne_eq,not_true,and_false,ATt,false_or]at hd;omega
  ·simpa[e]using hd
 have hh:∀p,fJ s p->s.trim<p-> ∀m,Have s p m->Have (s.fill n k' v) p m:=fun p hs ht m hv=>by
  simp only[Have,St.fill]at*;by_cases e:m=n
  ·obtain⟨j,hj,rz⟩:=some_ _ (h.sure p hs ht).1
   obtain⟨x,hx⟩:=hj.2.resolve_right rz;obtain⟨y,hy,_⟩:=k.ALE j p x rz hx;exact .inl ⟨y,by simp[e,hy]⟩
  ·simpa[e]using hv
 refine⟨fun hl=>h.Xl (hm _ _ (fun m hq=>hq.1) hl),fun p hs ht=> ?_,fun p w m e1 e2 e3=> ?_,fun m j e1 e2=> ?_,fun x a b c=>hN _ (h.TY x (hi x a) b c),fun m p a b c d e f=>hN _ (h.aL m p a b c d e f),fun p a b c d=>hN _ (h.past p a b c d),fun m p j e e2=> ?_,h.dm,fun p a b c d=> ?_⟩
 ·obtain⟨b1,b2⟩:=h.sure p hs ht
  exact⟨hm _ _ (fun m hq=>⟨hq.1,hh p hs ht m hq.2⟩) b1,fun m e1 e2=>(b2 m e1 e2).imp id fun hq=>hm _ _ (fun j hj=>⟨hj.1,hj.2.1,hh p hs ht j hj.2.2⟩) hq⟩
 ·obtain⟨b1,b2⟩:=h.TE p w m e1 e2 e3
  have hmn:m≠n:=fun e=>b1 (e▸k.lost)
  exact⟨fun hq=>b1 hq.1,fun ht=>⟨by simpa[St.fill,hmn]using(b2 ht).1,(b2 ht).2⟩⟩
 ·have:=h.gY m j e1 e2
  simp only[St.fill];by_cases e:j=n
  ·simpa[e]using k.v1
  ·simpa[e]using this
 ·obtain⟨b1,b2,b3,b4⟩:=h.wrote m p j e e2
  have hmn:j≠n:=fun e=>b2 (e▸k.lost)
  exact⟨b1,fun hq=>b2 hq.1,b3,fun ht=>by simpa[St.fill,hmn]using b4 ht⟩
 ·obtain⟨c1,c2,c3,c4⟩:=h.closed p a b c d
  refine⟨c1,c2,fun x hx=>c3 x (hi x hx),hm _ _ (fun m hq=>⟨hq.1,?_⟩) c4⟩;simp only[St.fill];by_cases e:m=n
  ·obtain⟨j,hj,rz⟩:=some_ _ c4
   have hx:=hj.2.resolve_left rz;obtain⟨y,hy,hyw⟩:=k.ALE j p _ rz hx;obtain⟨m2,_,hk2⟩:=k.of_ p y hy;have AWs:=hA.Uy m2 p y hk2;have h3:=c3 y (.inl ⟨m2,by rw[AWs];exact hk2⟩) AWs;have:y=fin p:=h3.2 (by omega);exact .inr (by simp[e,hy,this])
  ·simpa[e]using hq.2
end
end Go.Sf
end
section
namespace Go.Sf
section
variable{H:(Int->Prop)->Prop} (hm:∀S T:Int->Prop,(∀n,S n->T n)->H S->H T) {ep off:Int->Int} {Pl:Int->Prop} {s:St} {fin:Int->Oc}
def St.lJ(s:St)(e:Int):St:={ s with md:=some ⟨e,fun _=>False,fun _=>none,False,0,fun _ _=>False⟩ }
theorem q7{e:Int}{x:Oc}(h:ES (s.lJ e) x):ES s x:=by
 rcases h with h|h|⟨m,h1,h2⟩
 ·exact .inl h
 ·exact .inr (.inl h)
 ·cases h1;cases h2
theorem AMB{e:Int}(TH:s.md=none)(h1:1<=e)(h2:e<s.len)(h3: ¬s.cl e)(h4:∀f,1<=f->f<e->s.cl f)(h:Gf H ep Pl s):Gf H ep Pl (s.lJ e):=by
 have hi:∀x,ES (s.lJ e) x->ES s x:=fun x=>q7
 refine⟨h.ny,h.Zw,h.px,h.Z_,fun m' a=> ?_,h.wr1,h.xc,h.fE,h.Uy,fun m' p x a b=> ?_,fun x e=>h.ic x (hi x e),fun x e=>h.jD x (hi x e),fun x e e1 e2=> ?_,fun x y e e1=>h.sM x y (hi x e) (hi y e1)⟩
 ·cases a;exact⟨h1,h2,h3,h4⟩
 ·cases a;cases b
 ·obtain⟨m,c,_⟩:=h.ru x (hi x e) e1 e2
  simp_all
include hm in
theorem AMj{e:Int}(TH:s.md=none)(h:HX H ep off Pl s fin):HX H ep off Pl (s.lJ e) fin:=by
 have hi:∀x,ES (s.lJ e) x->ES s x:=fun x=>q7
 refine⟨h.Xl,fun p hs ht=>⟨(h.sure p hs ht).1,fun m a b=> .inr ?_⟩,fun p w n a b c=>⟨(h.TE p w n a b c).1,fun d=>⟨((h.TE p w n a b c).2 d).1,fun m f g k=> ?_⟩⟩,fun m n a b=> ?_,fun x a=>h.TY x (hi x a),fun m p a b=> ?_,h.past,fun m p n a b=> ?_,fun m p x a b=> ?_,fun p a b c d=> ?_⟩
 ·cases a
  exact hm _ _ (fun n hn=>⟨hn.1,fun h=>h,hn.2⟩) (h.sure p hs ht).1
 ·cases f;exact k.elim
 ·cases a;exact b.elim
 ·cases a;exact b.elim
 ·cases a;exact b.elim
 ·cases a;exact b.elim
 ·obtain⟨c1,c2,c3,c4⟩:=h.closed p a b c d
  exact⟨c1,c2,fun x hx=>c3 x (hi x hx),c4⟩
def St.kH(s:St)(m:Md)(n:Int)(SI:Int->Option Oc)(v:Int):St:=
 { s with sl:=fun k=>if k=n then v else s.sl k,md:=some { m with gY:=fun k=>m.gY k\/k=n,seen:=SI } }
structure vG (ep:Int->Int) (s:St) (m:Md) (n:Int) (SI:Int->Option Oc) (v:Int):Prop where
 md:s.md=some m
 there: ¬s.lost n
 pl: ¬m.pl
 v0:s.sl n<=v
 v1:s.len-1<=v
 s1:∀p x,m.seen p=some x-> ∃y,SI p=some y
 s2:∀p y,SI p=some y->m.seen p=some y\/s.kept n p=some y
 s3:∀p x,s.kept n p=some x->ep p=m.ep-> ∃y,SI p=some y
 s4:∀p y,SI p=some y->y.at_=p/\ep p=m.ep/\y.P0<s.len
theorem rT{m:Md}{n v:Int}{SI:Int->Option Oc}(k:vG ep s m n SI v){x:Oc}(h:ES (s.kH m n SI v) x):ES s x:=by
 rcases h with h|h|⟨m',h1,h2⟩
 ·exact .inl h
 ·exact .inr (.inl h)
 ·cases h1
  rcases k.s2 _ _ h2 with h|h
  ·exact .inr (.inr ⟨m,k.md,h⟩)
  ·exact .inl ⟨n,h⟩
theorem AIv{m:Md}{n v:Int}{SI:Int->Option Oc}(k:vG ep s m n SI v)(h:Gf H ep Pl s):Gf H ep Pl (s.kH m n SI v):=by
 have hi:∀x,ES (s.kH m n SI v) x->ES s x:=fun x=>rT k
 refine⟨h.ny,h.Zw,h.px,h.Z_,fun m' a=> ?_,h.wr1,h.xc,h.fE,h.Uy,fun m' p x a b=> ?_,fun x e=>h.ic x (hi x e),fun x e=>h.jD x (hi x e),fun x e e1 e2=> ?_,fun x y e e1=>h.sM x y (hi x e) (hi y e1)⟩
 ·cases a;exact h.md1 m k.md
 ·cases a;exact k.s4 p x b
 ·obtain⟨m',c1,c2,_⟩:=h.ru x (hi x e) e1 e2
  rw[k.md]at c1;cases c1;exact absurd c2 k.pl
include hm in
theorem AK5{m:Md}{n v:Int}{SI:Int->Option Oc}(k:vG ep s m n SI v)(hA:Gf H ep Pl s)(h:HX H ep off Pl s fin):HX H ep off Pl (s.kH m n SI v) fin:=by
 have hi:∀x,ES (s.kH m n SI v) x->ES s x:=fun x=>rT k
 have hN:∀q,MH H ep s q->MH H ep (s.kH m n SI v) q:=fun q hn=>by
  refine hn.of (fun h=>h) (AUF _) (fun h=>h) (fun hw j hnj hd=>⟨hnj,hd.imp (fun hd=> ?_) id⟩) hm;simp only[St.kH]at hd;by_cases e:j=n
  ·subst e
   have:=k.v0;simp only[ATt]at hd;intro hc;exact hd (hc.imp id fun hc=>by omega)
  ·simpa[e]using hd
 refine⟨h.Xl,fun p hs ht=>⟨(h.sure p hs ht).1,fun m' a b=> ?_⟩,fun p w j a b c=>⟨(h.TE p w j a b c).1,fun d=>⟨((h.TE p w j a b c).2 d).1,fun m' f g hk=> ?_⟩⟩,fun m' j a b=> ?_,fun x a b c=>hN _ (h.TY x (hi x a) b c),fun m' p a b=> ?_,fun p a b c d=>hN _ (h.past p a b c d),fun m' p j a b=> ?_,fun m' p x a b=> ?_,fun p a b c d=> ?_⟩
 ·cases a
  by_cases xh:∃x,SI p=some x
  ·exact .inl xh
  ·refine .inr ?_
   have:=((h.sure p hs ht).2 m k.md b).resolve_left fun⟨x,hx⟩=>xh (k.s1 p x hx)
   refine hm _ _ (fun j hj=>⟨hj.1,fun hq=> ?_,hj.2.2⟩) this;rcases hq with hq|rfl
   ·exact hj.2.1 hq
   ·rcases hj.2.2 with⟨x,hx⟩|hl
    ·exact xh (k.s3 p x hx b.symm)
    ·exact k.there hl
 ·cases f
  rcases hk with hk|rfl
  ·obtain⟨x,hx⟩:=((h.TE p w j a b c).2 d).2 m k.md g hk
   exact k.s1 p x hx
  ·obtain⟨x,hx⟩:=((h.TE p w j a b c).2 d).1
   exact k.s3 p x hx g.symm
 ·cases a
  simp only[St.kH];by_cases e:j=n
  ·simp[e,k.v1]
  ·have:=h.gY m j k.md (b.resolve_right e)
   simpa[e]using this
 ·cases a;exact absurd b k.pl
 ·cases a
  exact absurd (h.wrote m p j k.md b).2.2.1 k.pl
 ·cases a;exact absurd b k.pl
 ·obtain⟨c1,c2,c3,c4⟩:=h.closed p a b c d
  exact⟨c1,c2,fun x hx=>c3 x (hi x hx),c4⟩
def St.aL(s:St)(m:Md)(L:Int):St:={ s with md:=some { m with pl:=True,n:=L } }
structure wU (H:(Int->Prop)->Prop) (off:Int->Int) (s:St) (m:Md) (L:Int):Prop where
 md:s.md=some m
 pl: ¬m.pl
 Jo: ¬H (fun k=>s.nodes m.ep k/\ ¬m.gY k)
 last:∀p x,m.seen p=some x->off p<=L
theorem uk{m:Md}{L:Int}(k:wU H off s m L){x:Oc}(h:ES (s.aL m L) x):ES s x:=by
 rcases h with h|h|⟨m',h1,h2⟩
 ·exact .inl h
 ·exact .inr (.inl h)
 ·cases h1;exact .inr (.inr ⟨m,k.md,h2⟩)
theorem APr{m:Md}{L:Int}(k:wU H off s m L)(h:Gf H ep Pl s):Gf H ep Pl (s.aL m L):=by
 have hi:∀x,ES (s.aL m L) x->ES s x:=fun x=>uk k
 refine⟨h.ny,h.Zw,h.px,h.Z_,fun m' a=> ?_,h.wr1,h.xc,h.fE,h.Uy,fun m' p x a b=> ?_,fun x e=>h.ic x (hi x e),fun x e=>h.jD x (hi x e),fun x e e1 e2=> ?_,fun x y e e1=>h.sM x y (hi x e) (hi y e1)⟩
 ·cases a;exact h.md1 m k.md
 ·cases a;exact h.jq m p x k.md b
 ·obtain⟨m',c1,c2,_⟩:=h.ru x (hi x e) e1 e2
  rw[k.md]at c1;cases c1;exact absurd c2 k.pl
include hm in
theorem ATX{m:Md}{L:Int}(k:wU H off s m L)(hA:Gf H ep Pl s)(h:HX H ep off Pl s fin):HX H ep off Pl (s.aL m L) fin:=by
 have hi:∀x,ES (s.aL m L) x->ES s x:=fun x=>uk k
 have hN:∀q,MH H ep s q->MH H ep (s.aL m L) q:=fun q hn=>hn
 refine⟨h.Xl,fun p hs ht=>⟨(h.sure p hs ht).1,fun m' a b=> ?_⟩,fun p w j a b c=>⟨(h.TE p w j a b c).1,fun d=>⟨((h.TE p w j a b c).2 d).1,fun m' f g hk=> ?_⟩⟩,fun m' j a b=> ?_,fun x a b c=>hN _ (h.TY x (hi x a) b c),fun m' p a b hp he ht hn=> ?_,fun p a b c d=>hN _ (h.past p a b c d),fun m' p j a b=> ?_,fun m' p x a b=> ?_,fun p a b c d=> ?_⟩
 ·cases a;exact(h.sure p hs ht).2 m k.md b
 ·cases f;exact((h.TE p w j a b c).2 d).2 m k.md g hk
 ·cases a;exact h.gY m j k.md b
 ·cases a
  have TH:=hA.md1 m k.md;simp only at he hn;have ns: ¬fJ s p:=fun hs=>by
   rcases(h.sure p hs ht).2 m k.md he.symm with⟨x,hx⟩|hh
   ·rw[hn]at hx;cases hx
   ·exact k.Jo (hm _ _ (fun j hj=>⟨by rw[<-he];exact hj.1,hj.2.1⟩) hh)
  refine⟨ns,by rw[he];exact TH.2.1,fun hw hH=>k.Jo (hm _ _ (fun j hj=>⟨by rw[<-he];exact hj.1,fun hsl=> ?_⟩) hH)⟩;rcases hj.2 with hd|⟨w,h1,h2⟩
  ·refine hd ((h.gY m j k.md hsl).imp id fun h' => ?_)
   simp only[St.aL]at*;omega
  ·have hw1:=hA.xc p w h1
   have r6: ¬w.done:=fun hd=>by
    obtain⟨q,hq,hq2⟩:=hw1.2.2.1;exact ns ⟨_,q,hq,hq2 hd⟩
   obtain⟨x,hx⟩:=((h.TE p w j h1 r6 h2).2 ht).2 m k.md he.symm hsl;rw[hn]at hx;cases hx
 ·cases a
  exact absurd (h.wrote m p j k.md b).2.2.1 k.pl
 ·cases a;exact fun hx=>k.last p x hx
 ·obtain⟨c1,c2,c3,c4⟩:=h.closed p a b c d
  exact⟨c1,c2,fun x hx=>c3 x (hi x hx),c4⟩
def St.close(s:St)(m:Md):St:={ s with cl:=fun e=>s.cl e\/e=m.ep,last:=fun e=>if e=m.ep then m.n else s.last e,md:=none }
structure oy (H:(Int->Prop)->Prop) (ep off:Int->Int) (Pl:Int->Prop) (s:St) (m:Md):Prop where
 md:s.md=some m
 pl:m.pl
 wrote:∀p,Pl p->ep p=m.ep->off p<=m.n->H (m.wrote p)
theorem pR{m:Md}{x:Oc}(h:ES (s.close m) x):ES s x:=by
 rcases h with h|h|⟨m',h1,h2⟩
 ·exact .inl h
 ·exact .inr (.inl h)
 ·cases h1
theorem AHn{m:Md}(k:oy H ep off Pl s m)(h:Gf H ep Pl s):Gf H ep Pl (s.close m):=by
 have hi:∀x,ES (s.close m) x->ES s x:=fun x=>pR
 have TH:=h.md1 m k.md;refine⟨h.ny,h.Zw,fun e a=> ?_,fun e f a b c=> ?_,fun m a=> ?_,h.wr1,h.xc,h.fE,h.Uy,fun m p x a b=> ?_,fun x e=>h.ic x (hi x e),fun x e=>h.jD x (hi x e),fun x e e1 e2=> ?_,fun x y e e1=>h.sM x y (hi x e) (hi y e1)⟩
 ·rcases a with a|rfl
  ·exact h.px e a
  ·exact⟨TH.1,TH.2.1⟩
 ·rcases a with a|rfl
  ·exact .inl (h.Z_ e f a b c)
  ·exact .inl (TH.2.2.2 f b c)
 ·cases a
 ·cases a
 ·have e2': ¬s.cl (ep x.at_):=fun c=>e2 (.inl c)
  obtain⟨m',c1,c2,c3,c4⟩:=h.ru x (hi x e) e1 e2';rw[k.md]at c1;cases c1;exact absurd (.inr c3.symm) e2
theorem AIU{m:Md}(k:oy H ep off Pl s m)(hA:Gf H ep Pl s)(h:HX H ep off Pl s fin)(hm:∀S T:Int->Prop,(∀n,S n->T n)->H S->H T)(hr:∀p,Pl p->ep p=m.ep->s.trim<p->fJ s p->True):
  HX H ep off Pl (s.close m) (fun p=>open Classical in if ep p=m.ep then Vh s.len m p else fin p):=by
 have hi:∀x,ES (s.close m) x->ES s x:=fun x=>pR
 have TH:=hA.md1 m k.md;have hN:∀q,MH H ep s q->MH H ep (s.close m) q:=fun q hn=>hn
 refine⟨h.Xl,fun p hs ht=>⟨(h.sure p hs ht).1,fun m' a=>by cases a⟩,fun p w j a b c=>⟨(h.TE p w j a b c).1,fun d=>⟨((h.TE p w j a b c).2 d).1,fun m' f=>by cases f⟩⟩,fun m' j a=>(by cases a),fun x a b c=>hN _ (h.TY x (hi x a) b c),fun m' p a=>(by cases a),fun p a b c d=>hN _ ?_,fun m' p j a=>(by cases a),fun m' p x a=>(by cases a),fun p a b c d=> ?_⟩
 ·simp only[St.close]at c
  by_cases e:ep p=m.ep
  ·refine h.aL m p k.md k.pl a e d ?_
   cases hseen:m.seen p with
   |none=>rfl
   |some x=>
    have:=h.dm m p x k.md k.pl hseen;omega
  ·rw[AKT e]at c
   exact h.past p a (b.resolve_right e) c d
 ·simp only[St.close]at c
  by_cases e:ep p=m.ep
  ·rw[AKJ e]at c|-
   have PG:(Vh s.len m p).at_=p:=by grind[Vh]
   have hwv:(Vh s.len m p).P0=s.len:=by grind[Vh]
   refine⟨PG,by omega,fun x hx hxp=>⟨by rw[hwv];exact(hA.ic x (hi x hx)).2.2.1,fun hw=> ?_⟩,hm _ _ (fun j hj=> ?_) (k.wrote p a e c)⟩
   ·rw[hwv]at hw
    obtain⟨m',c1,c2,c3,c4⟩:=hA.ru x (hi x hx) hw (by simp_all);rw[k.md]at c1;grind
   ·obtain⟨d1,d2,d3,d4⟩:=h.wrote m p j k.md hj
    exact⟨by rw[e];exact d1,.inr (d4 d)⟩
  ·rw[AKT e]at c|-
   obtain⟨c1,c2,c3,c4⟩:=h.closed p a (b.resolve_right e) c d;exact⟨c1,c2,fun x hx=>c3 x (hi x hx),c4⟩
theorem APe{t:Int}(h:Gf H ep Pl s):Gf H ep Pl { s with trim:=t }:=
 ⟨h.ny,h.Zw,h.px,h.Z_,h.md1,h.wr1,h.xc,h.fE,h.Uy,h.jq,h.ic,h.jD,h.ru,h.sM⟩
theorem AS1{t:Int}(ht:s.trim<=t)(h:HX H ep off Pl s fin):HX H ep off Pl { s with trim:=t } fin:=
 have l:∀{p:Int},t<p->s.trim<p:=fun h=>Int.lt_of_le_of_lt ht h
 ⟨h.Xl,fun p a b=>h.sure p a (l b),fun p w n a b c=>⟨(h.TE p w n a b c).1,fun d=>(h.TE p w n a b c).2 (l d)⟩,h.gY,fun x a b c=>h.TY x a b (l c),fun m p a b c d e f=>h.aL m p a b c d (l e) f,
  fun p a b c d=>h.past p a b c (l d),fun m p n a b=>⟨(h.wrote m p n a b).1,(h.wrote m p n a b).2.1,(h.wrote m p n a b).2.2.1,fun d=>(h.wrote m p n a b).2.2.2 (l d)⟩,h.dm,fun p a b c d=>h.closed p a b c (l d)⟩
def St.drop(s:St)(a_:Int->Prop)(wd':Int->Option Wd):St:={ s with wo:=a_,wd:=wd' }
structure AAL (ep:Int->Int) (s:St) (a_:Int->Prop) (wd':Int->Option Wd):Prop where
 wr:∀e,a_ e->s.wo e
 wd:∀p w,wd' p=some w->s.wd p=some w/\a_ (ep p)
theorem ASF{a_:Int->Prop}{wd':Int->Option Wd}(k:AAL ep s a_ wd')(h:Gf H ep Pl s):Gf H ep Pl (s.drop a_ wd'):=by
 refine⟨h.ny,h.Zw,h.px,h.Z_,h.md1,fun e a=>h.wr1 e (k.wr e a),fun p w a=> ?_,h.fE,h.Uy,h.jq,h.ic,h.jD,h.ru,h.sM⟩;obtain⟨b1,b2⟩:=k.wd p w a;obtain⟨c1,c2,c3⟩:=h.xc p w b1;exact⟨c1,b2,c3⟩
include hm in
theorem ATH{a_:Int->Prop}{wd':Int->Option Wd}(k:AAL ep s a_ wd')(h:HX H ep off Pl s fin):HX H ep off Pl (s.drop a_ wd') fin:=by
 have hN:∀q,MH H ep s q->MH H ep (s.drop a_ wd') q:=fun q hn=>
  hn.of (fun h=>h) (AUF _) (fun h=>k.wr _ h) (fun hw m tp hd=>⟨tp,hd.imp id fun⟨w,h1,h2⟩=>⟨w,(k.wd _ w h1).1,h2⟩⟩) hm
 exact⟨h.Xl,h.sure,fun p w n a=>h.TE p w n (k.wd p w a).1,h.gY,fun x a b c=>hN _ (h.TY x a b c),fun m p a b c d e f=>hN _ (h.aL m p a b c d e f),fun p a b c d=>hN _ (h.past p a b c d),h.wrote,h.dm,h.closed⟩
def St.prune(s:St)(n:Int)(k':Int->Option Oc):St:={ s with kept:=fun m=>if m=n then k' else s.kept m }
structure oq (s:St) (n:Int) (k':Int->Option Oc):Prop where
 of_:∀p x,k' p=some x->s.kept n p=some x
 ALE:∀p,s.trim<p->k' p=s.kept n p
theorem qq{n:Int}{k':Int->Option Oc}(k:oq s n k'){x:Oc}(h:ES (s.prune n k') x):ES s x:=by
 rcases h with⟨m,h⟩|h|h
 ·simp only[St.prune]at h
  split at h
  ·exact .inl ⟨n,k.of_ _ _ h⟩
  ·exact .inl ⟨m,h⟩
 ·exact .inr (.inl h)
 ·exact .inr (.inr h)
theorem AJE{n:Int}{k':Int->Option Oc}(k:oq s n k')(h:Gf H ep Pl s):Gf H ep Pl (s.prune n k'):=by
 have hi:∀x,ES (s.prune n k') x->ES s x:=fun x=>qq k
 refine⟨h.ny,h.Zw,h.px,h.Z_,h.md1,h.wr1,h.xc,h.fE,fun m p x e=> ?_,h.jq,fun x e=>h.ic x (hi x e),fun x e=>h.jD x (hi x e),fun x e=>h.ru x (hi x e),fun x y e e1=>h.sM x y (hi x e) (hi y e1)⟩;simp only[St.prune]at e;split at e
 ·exact h.Uy n p x (k.of_ _ _ e)
 ·exact h.Uy m p x e
theorem ALH{n:Int}{k':Int->Option Oc}(k:oq s n k')(h:HX H ep off Pl s fin):HX H ep off Pl (s.prune n k') fin:=by
 have hi:∀x,ES (s.prune n k') x->ES s x:=fun x=>qq k
 have hk:∀p,s.trim<p-> ∀m,(s.prune n k').kept m p=s.kept m p:=fun p ht m=>by
  simp only[St.prune];split
  ·rename_i e;rw[k.ALE p ht,e]
  ·rfl
 have hh:∀p,s.trim<p->Have (s.prune n k') p=Have s p:=fun p ht=>by
  funext m
  simp only[Have];rw[hk p ht m];rfl
 refine⟨h.Xl,fun p a b=> ?_,fun p w m a b c=>⟨(h.TE p w m a b c).1,fun d=> ?_⟩,h.gY,fun x a=>h.TY x (hi x a),h.aL,h.past,fun m p j a b=>⟨(h.wrote m p j a b).1,(h.wrote m p j a b).2.1,(h.wrote m p j a b).2.2.1,fun d=> ?_⟩,h.dm,fun p a b c d=> ?_⟩
 ·rw[hh p b];exact h.sure p a b
 ·rw[hk p d];exact(h.TE p w m a b c).2 d
 ·rw[hk p d];exact(h.wrote m p j a b).2.2.2 d
 ·obtain⟨c1,c2,c3,c4⟩:=h.closed p a b c d
  refine⟨c1,c2,fun x hx=>c3 x (hi x hx),?_⟩;simp only[hk p d];exact c4
def St.open_(s:St)(ns:Int->Prop):St:={ s with len:=s.len+1,nodes:=fun e=>if e=s.len+1 then ns else s.nodes e,wo:=fun e=>s.wo e\/e=s.len+1,md:=none }
theorem uK{ns:Int->Prop}{x:Oc}(h:ES (s.open_ ns) x):ES s x:=by
 rcases h with h|h|⟨m,h1,h2⟩
 ·exact .inl h
 ·exact .inr (.inl h)
 ·cases h1
theorem AO6{ns:Int->Prop}(hns:H ns)(h:Gf H ep Pl s):Gf H ep Pl (s.open_ ns):=by
 have hi:∀x,ES (s.open_ ns) x->ES s x:=fun x=>uK
 have h0:=h.ny;refine⟨by grind[St.open_],fun e a b=> ?_,fun e a=> ?_,h.Z_,fun m a=>(by cases a),fun e a=> ?_,fun p w a=> ?_,fun p d a=> ?_,h.Uy,fun m p x a=>(by cases a),fun x a=> ?_,fun x e=>h.jD x (hi x e),fun x e e1 e2=> ?_,fun x y e e1=>h.sM x y (hi x e) (hi y e1)⟩
 ·simp only[St.open_]at*
  split
  ·omega
  ·exact h.Zw e a (by omega)
 ·have:=h.px e a
  grind[St.open_]
 ·simp only[St.open_]at*
  rcases a with a|rfl
  ·have:=h.wr1 e a
   omega
  omega
 ·obtain⟨b1,b2,b3,b4,b5⟩:=h.xc p w a
  refine⟨b1,.inl b2,b3,b4,fun n hn=> ?_⟩;have:=h.wr1 _ b2;simp only[St.open_];grind
 ·have:=h.fE p d a
  grind[St.open_]
 ·obtain⟨b1,b2,b3,b4,b5⟩:=h.ic x (hi x a)
  grind[St.open_]
 ·have:=(h.ic x (hi x e)).2.2.1
  grind[St.open_]
theorem AOu{ns:Int->Prop}(hA:Gf H ep Pl s)(h:HX H ep off Pl s fin)(hm:∀S T:Int->Prop,(∀n,S n->T n)->H S->H T):HX H ep off Pl (s.open_ ns) fin:=by
 have hi:∀x,ES (s.open_ ns) x->ES s x:=fun x=>uK
 have r6:∀e,e<=s.len->(s.open_ ns).nodes e=s.nodes e:=fun e he=>by simp only[St.open_];grind
 have hN:∀q,MH H ep s q->MH H ep (s.open_ ns) q:=fun q hn=>by
  have h1:=hn.2.1;refine hn.of (fun h=>h) (by grind[St.open_]) (fun h=>h.resolve_right (by omega)) (fun hw m tp hd=>⟨?_,hd⟩) hm;grind
 refine⟨h.Xl,fun p hs ht=>⟨?_,fun m' a=>by cases a⟩,fun p w j a b c=>⟨(h.TE p w j a b c).1,fun d=>⟨((h.TE p w j a b c).2 d).1,fun m' f=>by cases f⟩⟩,fun m' j a=>(by cases a),fun x a b c=>hN _ (h.TY x (hi x a) b c),fun m' p a=>(by cases a),fun p a b c d=>hN _ (h.past p a b c d),fun m' p j a=>(by cases a),fun m' p x a=>(by cases a),fun p a b c d=> ?_⟩
 ·obtain⟨d,q,h1,h2⟩:=id hs
  rw[r6 _ (hA.fE p _ h1).2];exact(h.sure p hs ht).1
 ·obtain⟨c1,c2,c3,c4⟩:=h.closed p a b c d
  refine⟨c1,c2,fun x hx=>c3 x (hi x hx),?_⟩;have:=hA.px _ b;rw[r6 _ (by omega)];exact c4
end
end Go.Sf
end
section
namespace Go.Sf
structure Rd where
 e:Int
 o:Int
 told:Int->Option tg
section
variable{H:(Int->Prop)->Prop} (hm:∀S T:Int->Prop,(∀n,S n->T n)->H S->H T) {ep off:Int->Int} {Pl:Int->Prop} {s:St} {fin:Int->Oc}
def Nj(ep off:Int->Int)(r:Rd)(p:Int):Prop:=ep p<r.e\/(ep p=r.e/\off p<r.o)
structure VY (ep off:Int->Int) (Pl:Int->Prop) (s:St) (fin:Int->Oc) (r:Rd):Prop where
 e1:1<=r.e
 left:∀p,Pl p->ep p<r.e->s.trim<p->s.cl (ep p)
 data:∀p,Pl p->Nj ep off r p->s.trim<p->
  (s.cl (ep p)->off p<=s.last (ep p)->r.told p=if(fin p).hole then none else some (fin p).data)/\
  (s.cl (ep p)->s.last (ep p)<off p->r.told p=none)/\
  (¬s.cl (ep p)-> ∃d q,s.HD p=some (d,q)/\q/\r.told p=some d)
 told:∀p d,r.told p=some d->Nj ep off r p
theorem VY.of{s':St}{r:Rd}(h:VY ep off Pl s fin r)(h1:s'.cl=s.cl)(h2:s'.last=s.last)(h3:s.trim<=s'.trim)
  (h4:∀p d q,s.HD p=some (d,q)->q-> ∃q',s'.HD p=some (d,q')/\q'):VY ep off Pl s' fin r:=by
 refine⟨h.e1,fun p a b c=> ?_,fun p a b c=> ?_,h.told⟩
 ·rw[h1];exact h.left p a b (by omega)
 ·obtain⟨b1,b2,b3⟩:=h.data p a b (by omega)
  grind
theorem VY.close{m:Md}{r:Rd}(k:oy H ep off Pl s m)(hA:Gf H ep Pl s)(hB:HX H ep off Pl s fin)(h:VY ep off Pl s fin r):
  VY ep off Pl (s.close m) (fun p=>open Classical in if ep p=m.ep then Vh s.len m p else fin p) r:=by
 have TH:=hA.md1 m k.md;refine⟨h.e1,fun p a b c=> .inl (h.left p a b c),fun p a b c=> ?_,h.told⟩;obtain⟨b1,b2,b3⟩:=h.data p a b c;by_cases e:ep p=m.ep
 ·obtain⟨d,q,c1,c2,c3⟩:=b3 (by simp_all)
  have hs:fJ s p:=⟨d,q,c1,c2⟩;cases hx:m.seen p with
  |none=>exact absurd hs (hB.aL m p k.md k.pl a e c hx).1
  |some x=>
   have hxp:=(hA.jq m p x k.md hx).1;have hi:ES s x:= .inr (.inr ⟨m,k.md,by simp_all⟩);have hn:=hB.dm m p x k.md k.pl hx;have hh:x.hole=false:=by
    cases hh:x.hole with
    |false=>rfl
    |true=>exact absurd (by simp_all) (hB.TY x hi hh (by rw[hxp];exact c)).1
   obtain⟨q',hq'⟩:=hA.jD x hi hh;rw[hxp,c1]at hq';simp only[AKr,APT]at hq';refine⟨fun _ _=> ?_,fun _ hl=> ?_,fun hc=>absurd (.inr e) hc⟩
   ·simp only[AKJ e,Vh,hx,hh]
    simp_all
   ·simp only[St.close,AKJ e]at hl
    omega
 ·refine⟨fun hc hl=> ?_,fun hc hl=> ?_,fun hc=>b3 fun aQ=>hc (.inl aQ)⟩
  ·simp only[St.close,AKT e]at hl|-
   exact b1 (hc.resolve_right e) hl
  ·simp only[St.close,AKT e]at hl
   exact b2 (hc.resolve_right e) hl
structure AAA (H:(Int->Prop)->Prop) (ep off:Int->Int) (Pl:Int->Prop) (s:St) (p:Int) (R:Int->Prop) (cj:Option Oc):Prop where
 pl:Pl p
 trim:s.trim<p
 open_: ¬s.cl (ep p)->fJ s p
 last:s.cl (ep p)->off p<=s.last (ep p)
 there:∀n,R n-> ¬s.lost n/\s.nodes (ep p) n
 Jo: ¬H (fun n=>s.nodes (ep p) n/\ ¬R n)
 none_:cj=none-> ∀n,R n->s.kept n p=none
 some_:∀x,cj=some x->(∃n,R n/\s.kept n p=some x)/\ ∀n y,R n->s.kept n p=some y->y.P0<=x.P0
include hm in
theorem qW{p:Int}{R:Int->Prop}{cj:Option Oc}(k:AAA H ep off Pl s p R cj)(hA:Gf H ep Pl s)(hB:HX H ep off Pl s fin):
  ∃x,cj=some x/\(s.cl (ep p)->x=fin p)/\(¬s.cl (ep p)->x.hole=false/\ ∃q,s.HD p=some (x.data,q)/\q):=by
 have meet:∀S:Int->Prop,H (fun n=>s.nodes (ep p) n/\S n)-> ∃n,R n/\S n:=fun S hS=>AV2 fun hn=>
  k.Jo (hm _ _ (fun n hq=>⟨hq.1,fun hr=>hn ⟨n,hr,hq.2⟩⟩) hS)
 have ANQ:∀n x,s.kept n p=some x->ES s x/\x.at_=p:=fun n x hx=>by
  have:=hA.Uy n p x hx;exact⟨.inl ⟨n,by rw[this];exact hx⟩,this⟩
 by_cases hc:s.cl (ep p)
 ·obtain⟨c1,c2,c3,c4⟩:=hB.closed p k.pl hc (k.last hc) k.trim
  obtain⟨n,hR,hn⟩:=meet _ c4;have hk:=hn.resolve_left (k.there n hR).1;cases hb:cj with
  |none=>rw[k.none_ hb n hR]at hk;cases hk
  |some x=>
   obtain⟨⟨j,hjR,hj⟩,hmax⟩:=k.some_ x hb;have hw:=hmax n _ hR hk;obtain⟨i1,i2⟩:=ANQ j x hj;have:=c3 x i1 i2;exact⟨x,rfl,fun _=>this.2 (by omega),fun h=>absurd hc h⟩
 ·have hs:=k.open_ hc
  obtain⟨n,hR,hn⟩:=meet _ (hB.sure p hs k.trim).1;obtain⟨y,hk⟩:=hn.resolve_right (k.there n hR).1;cases hb:cj with
  |none=>rw[k.none_ hb n hR]at hk;cases hk
  |some x=>
   obtain⟨⟨j,hjR,hj⟩,hmax⟩:=k.some_ x hb;obtain⟨i1,i2⟩:=ANQ j x hj;have hh:x.hole=false:=by
    cases hh:x.hole with
    |false=>rfl
    |true=>exact absurd (by rw[i2];exact hs) (hB.TY x i1 hh (by rw[i2];exact k.trim)).1
   obtain⟨q,hq⟩:=hA.jD x i1 hh;rw[i2]at hq;obtain⟨d,q',h1,h2⟩:=hs;rw[hq]at h1;simp only[AKr,APT]at h1;exact⟨x,rfl,fun h=>absurd h hc,fun _=>⟨hh,q,hq,by rw[h1.2];exact h2⟩⟩
def Rd.read(r:Rd)(p:Int)(x:Oc):Rd:={ r with o:=r.o+1,told:=fun q=>if q=p then(if x.hole then none else some x.data)else r.told q }
include hm in
theorem ARl{p:Int}{R:Int->Prop}{cj:Option Oc}(k:AAA H ep off Pl s p R cj)(hA:Gf H ep Pl s)(hB:HX H ep off Pl s fin){r:Rd}(he:ep p=r.e)(ho:off p=r.o)
  (inj:∀p q,Pl p->Pl q->ep p=ep q->off p=off q->p=q) (h:VY ep off Pl s fin r) {x:Oc} (hx:cj=some x):VY ep off Pl s fin (r.read p x):=by
 obtain⟨x',hx',f1,f2⟩:=qW hm k hA hB;rw[hx]at hx';cases hx';have np: ¬Nj ep off r p:=by unfold Nj;omega
 have tn:r.told p=none:=by
  cases ht:r.told p with
  |none=>rfl
  |some d=>exact absurd (h.told p d ht) np
 refine⟨h.e1,h.left,fun q a b c=> ?_,fun q d hd=> ?_⟩
 ·by_cases e:q=p
  ·subst e
   simp only[Rd.read,ATt];refine⟨fun hc hl=>by rw[f1 hc],fun hc hl=> ?_,fun hc=> ?_⟩
   ·have:=k.last hc;omega
   ·obtain⟨g1,q',g2,g3⟩:=f2 hc
    exact⟨x.data,q',g2,g3,by rw[g1];rfl⟩
  ·have hp:Nj ep off r q:=by
    rcases b with b|⟨b1,b2⟩
    ·exact .inl b
    ·refine .inr ⟨b1,?_⟩
     simp only[Rd.read]at b1 b2;rcases Int.lt_or_le (off q) r.o with b3|b3
     ·exact b3
     ·exact absurd (inj q p a k.pl (by omega) (by omega)) e
   simp only[Rd.read,AKT e];exact h.data q a hp c
 ·simp only[Rd.read]at hd
  split at hd
  ·rename_i e
   subst e;exact .inr ⟨he,by simp only[Rd.read];omega⟩
  ·rcases h.told q d hd with t|⟨t1,t2⟩
   ·exact .inl t
   ·exact .inr ⟨t1,by simp only[Rd.read];omega⟩
theorem AXT{r:Rd}(hc:s.cl r.e)(hl:s.last r.e<r.o)(qN:∀p,Pl p->1<=off p)(h:VY ep off Pl s fin r):VY ep off Pl s fin { r with e:=r.e+1,o:=1 }:=by
 have h1:=h.e1;refine⟨by grind,fun p a b c=> ?_,fun p a b c=> ?_,fun p d hd=> ?_⟩
 ·simp only at b
  rcases Int.lt_or_le (ep p) r.e with b1|b1
  ·exact h.left p a b1 c
  grind
 ·have o1:=qN p a
  by_cases hp:Nj ep off r p
  ·exact h.data p a hp c
  ·have hep:ep p=r.e/\r.o<=off p:=by
    grind[Nj]
   have tn:r.told p=none:=by
    cases ht:r.told p with
    |none=>rfl
    |some d=>exact absurd (h.told p d ht) hp
   grind
 ·rcases h.told p d hd with t|⟨t1,t2⟩
  ·exact .inl (by grind)
  ·exact .inl (by grind)
theorem AQZ{r:Rd}(ht:Pl s.trim)(hn: ¬Nj ep off r s.trim)(ep1:∀p,Pl p->1<=ep p)(lex:∀p q,Pl p->Pl q->(ep p<ep q\/(ep p=ep q/\off p<=off q))->p<=q)(h:VY ep off Pl s fin r):
  VY ep off Pl s fin { r with e:=ep s.trim,o:=off s.trim+1 }:=by
 refine⟨ep1 _ ht,fun p a b c=> ?_,fun p a b c=> ?_,fun p d hd=> ?_⟩
 ·grind
 ·have:=lex p _ a ht (by
   rcases b with b|⟨b1,b2⟩
   all_goals grind)
  omega
 ·have:=h.told p d hd
  grind[Nj]
include hm in
theorem ACl{r:Rd}(hA:Gf H ep Pl s)(hB:HX H ep off Pl s fin)(h:VY ep off Pl s fin r){p:Int}(hp:Pl p)(hs:fJ s p)(ht:s.trim<p)(hps:Nj ep off r p):∃d,r.told p=some d:=by
 obtain⟨b1,b2,b3⟩:=h.data p hp hps ht;by_cases hc:s.cl (ep p)
 ·rcases Int.lt_or_le (s.last (ep p)) (off p)with hl|hl
  ·exact absurd hs (hB.past p hp hc hl ht).1
  ·obtain⟨c1,c2,c3,c4⟩:=hB.closed p hp hc hl ht
   obtain⟨n,hn⟩:∃n,s.kept n p=some (fin p):=AV2 fun hn=>hB.Xl (hm _ _ (fun n hq=>hq.2.resolve_right fun hk=>hn ⟨n,hk⟩) c4)
   have hi:ES s (fin p):= .inl ⟨n,by rw[c1];exact hn⟩;have hh:(fin p).hole=false:=by
    cases hh:(fin p).hole with
    |false=>rfl
    |true=>exact absurd (by rw[c1];exact hs) (hB.TY _ hi hh (by rw[c1];exact ht)).1
   exact⟨_,by rw[b1 hc hl,hh];rfl⟩
 ·obtain⟨d,q,_,_,hd⟩:=b3 hc
  exact⟨d,hd⟩
theorem ADY{r t:Rd}(h:VY ep off Pl s fin r)(k:VY ep off Pl s fin t){p:Int}(hp:Pl p)(ht:s.trim<p)(h1:Nj ep off r p)(h2:Nj ep off t p):r.told p=t.told p:=by
 obtain⟨a1,a2,a3⟩:=h.data p hp h1 ht;obtain⟨b1,b2,b3⟩:=k.data p hp h2 ht;by_cases hc:s.cl (ep p)
 all_goals grind
end
end Go.Sf
end
section
namespace Go.M
open Go.M.H (AJ AO Av Ac AA CX AQ BI AM AZ As Az BR)
open Go.Sf (Oc Wd Md St Rd tg QO Gf HX VY)
def Pl(p:Int):Prop:=BZ p=true
def Vf(e:AJ):Oc:=⟨e.1,e.2.1,e.2.2.1,e.2.2.2.1⟩
def kS(l:List AJ)(p:Int):Option Oc:=(Ew p l).map Vf
theorem S8{l:List AJ}{p:Int}{x:Oc}(h:kS l p=some x):∃e,Ew p l=some e/\Vf e=x:=by
 grind[kS,Option.map_eq_some_iff]
theorem bE{l:List AJ}{p:Int}{e:AJ}(h:Ew p l=some e):kS l p=some (Vf e):=by
 grind[kS]
def Tf(l:List AJ)(x:Oc):Prop:= ∃e∈l,Vf e=x
theorem AG3{l m t:List AJ}(h:X3 l)(hs:∀e∈m,e∈t):QO (kS l) (kS (Dn l m)) (Tf t):=by
 refine⟨fun p x hx=> ?_,fun p y hy=> ?_⟩
 ·obtain⟨e,he,rfl⟩:=S8 hx
  obtain⟨y,hy,hw⟩:=XQ (l:=m) h he;refine⟨Vf y,bE hy,hw.imp (fun e=>by rw[e]) (fun h=>h)⟩
 ·obtain⟨e,he,rfl⟩:=S8 hy
  obtain⟨h1,h2⟩:=HC he;rcases Rl h1 with h3|h3
  ·grind[bE,MJ]
  ·exact .inr ⟨⟨e,hs e h3,rfl⟩,h2⟩
def bY(x:BI):Wd:=⟨x.1,fun n=>n∈x.2.1,x.2.2.1=true⟩
def Xt(ws:List AM)(e:Int):Option AM:=ws.find? fun x=>x.1==e
def FY(ws:List AM)(p:Int):Option BI:=
 if BZ p then(Xt ws (AN p)).bind fun x=>x.2.1[(BD p-1).toNat]? else none
def f_(m:Av):Md:=
 ⟨m.2.1,fun n=>n∈m.2.2.1,kS m.2.2.2.1,m.2.2.2.2.1=true,m.2.2.2.2.2.1.length,fun p n=>Pl p/\AN p=m.2.1/\ ∃l,m.2.2.2.2.2.1[(BD p-1).toNat]? =some l/\n∈l⟩
def Je(l:List Ac)(p:Int):Option Ac:=l.find? fun s=>s.1==p
def seS(s:Ac):tg×Prop:=(s.2.1,s.2.2.1=true)
def BH(w:AA)(n:Int):AO:=if 0<=n/\n<(w.Ao.length:Int)then storeAt w n else Cz
def G4(l:List CX)(e:Int):CX:=l.getD (e-1).toNat Gd
def Bv(w:AA):St where
 len:=w.Af.length
 nodes e n:=n∈Aq w.Af e
 cl e:=(1<=e/\e<=(w.Af.length:Int))/\(G4 w.Af e).2.1=true
 last e:=if 1<=e then(G4 w.Af e).2.2.1 else 0
 trim:=w.trim
 lost n:=n∈w.lost
 ER:=w.ER=true
 kept n:=kS (BH w n).1
 late n:=Tf (BH w n).2.1
 sl n:=(BH w n).2.2.1
 wo e:= ∃x∈w.AH,x.1=e
 wd p:=(FY w.AH p).map bY
 md:=w.Bg.head?.map f_
 HD p:=(Je w.BE p).map seS
def uE(l:List As)(p:Int):Option tg:=(l.find? fun e=>e.1==1&&e.2.1==p).map fun e=>e.2.2.1
def vt(r:AZ):Rd:=⟨r.1,r.2.1,uE r.2.2.1⟩
theorem St.eq{s t:St}(h1:s.len=t.len)(h2:s.nodes=t.nodes)(h3:s.cl=t.cl)(h4:s.last=t.last)(h5:s.trim=t.trim)(h6:s.lost=t.lost)(h7:s.ER=t.ER)(h8:s.kept=t.kept)(h9:s.late=t.late)
  (h10:s.sl=t.sl) (h11:s.wo=t.wo) (h12:s.wd=t.wd) (h13:s.md=t.md) (h14:s.HD=t.HD):s=t:=by
 cases s;simp_all
theorem Wd.eq{a b:Wd}(h1:a.data=b.data)(h2:a.o7=b.o7)(h3:a.done=b.done):a=b:=by
 cases a;simp_all
theorem Md.eq{a b:Md}(h1:a.ep=b.ep)(h2:a.gY=b.gY)(h3:a.seen=b.seen)(h4:a.pl=b.pl)(h5:a.n=b.n)(h6:a.wrote=b.wrote):a=b:=by
 cases a;simp_all
theorem Ts{w:AA}{n:Int}(h:Ak w n=0):BH w n=storeAt w n:=by
 obtain⟨h1,h2,_⟩:=Eb h;unfold BH;simp_all
theorem GW{w:AA}{n m:Int}{s:AO}(h:0<=n/\n<(w.Ao.length:Int)):BH (w.BJ (w.Ao.set n.toNat s)) m=if m=n then s else BH w m:=by
 unfold BH storeAt;grind
structure Safe (w:AA):Prop where
 ok:OG w
 a:Gf (Ge (AU w)) AN Pl (Bv w)
 b:w.ER=false-> ∃fin,HX (Ge (AU w)) AN BD Pl (Bv w) fin/\ ∀r∈w.AX,VY AN BD Pl (Bv w) fin (vt r)
def Grow(w v:AA):Prop:= ∀p d q,(Bv w).HD p=some (d,q)-> ∃q',(Bv v).HD p=some (d,q')/\(q->q')
theorem Safe.step{w v:AA}(h:Safe w)(Bt:OG v)(hc:AU v=AU w)(hr:v.AX=w.AX)(ht:v.ER=false->w.ER=false)
  (ha:Gf (Ge (AU w)) AN Pl (Bv v))
  (hb:w.ER=false->v.ER=false-> ∀fin,HX (Ge (AU w)) AN BD Pl (Bv w) fin->HX (Ge (AU w)) AN BD Pl (Bv v) fin)
  (h1:(Bv v).cl=(Bv w).cl) (h2:(Bv v).last=(Bv w).last) (h3:(Bv w).trim<=(Bv v).trim)
  (h4:Grow w v):Safe v/\Grow w v:=by
 refine⟨⟨Bt,by simp_all,fun hv=> ?_⟩,h4⟩;obtain⟨fin,b1,b2⟩:=h.b (ht hv);rw[hc,hr];exact⟨fin,hb (ht hv) hv fin b1,fun r hr=>(b2 r hr).of h1 h2 h3 fun p d q a b=>(h4 p d q a).imp fun _ k=>⟨k.1,k.2 b⟩⟩
theorem ep1{p:Int}(h:Pl p):1<=AN p:=(CM h).1.1
theorem qN{p:Int}(h:Pl p):1<=BD p:=(CM h).2.1.1
theorem hI{w:AA}{n:Int}{s:AO}(h:0<=n/\n<(w.Ao.length:Int))(h2:s.2.1=[])(h3:s.2.2.1=(BH w n).2.2.1):Bv (w.BJ (w.Ao.set n.toNat s))=(Bv w).settle n (kS s.1):=by
 refine St.eq rfl rfl rfl rfl rfl rfl rfl ?_ ?_ ?_ rfl rfl rfl rfl
 ·funext m
  show kS (BH _ m).1=if m=n then kS s.1 else kS (BH w m).1
  rw[GW h];grind
 ·funext m x
  show Tf (BH _ m).2.1 x=(m≠n/\Tf (BH w m).2.1 x)
  rw[GW h];by_cases e:m=n
  ·rw[AKJ e,h2]
   exact propext ⟨fun⟨e,he,_⟩=>by simp_all,fun hh=>absurd e hh.1⟩
  simp_all
 ·funext m
  show(BH _ m).2.2.1=(BH w m).2.2.1
  rw[GW h];grind
theorem AHj{w:AA}{n:Int}{e:AJ}(h:0<=n/\n<(w.Ao.length:Int)):Bv (w.BJ (w.Ao.set n.toNat ((BH w n).1,(BH w n).2.1++[e],(BH w n).2.2.1,())))=(Bv w).put n (Vf e):=by
 refine St.eq rfl rfl rfl rfl rfl rfl rfl ?_ ?_ ?_ rfl rfl rfl rfl
 ·funext m
  show kS (BH _ m).1=kS (BH w m).1
  rw[GW h];grind
 ·funext m x
  show Tf (BH _ m).2.1 x=(Tf (BH w m).2.1 x\/(m=n/\x=Vf e))
  rw[GW h];by_cases em:m=n
  ·rw[AKJ em,em]
   refine propext ⟨fun⟨y,hy,hx⟩=> ?_,fun hh=> ?_⟩
   ·rcases AOO.1 hy with hy|hy
    ·exact .inl ⟨y,hy,hx⟩
    simp_all
   ·rcases hh with⟨y,hy,hx⟩|⟨_,hx⟩
    ·exact⟨y,AOO.2 (.inl hy),hx⟩
    ·exact⟨e,by simp,hx.symm⟩
  simp_all
 ·funext m
  show(BH _ m).2.2.1=(BH w m).2.2.1
  rw[GW h];grind
section
variable{w:AA} (h:Safe w)
include h
theorem AAa{n k:Int}(e:(Is w n k).2=0):Safe (Is w n k).1/\Grow w (Is w n k).1:=by
 have Bt:=yJ h.ok e;unfold Is at e Bt|-
 try dsimp only at e Bt|-
 by_cases hn:Ak w n=0
 rotate_left
 ·simp_all
 rw[AKT (by omega)]at e Bt|-;unfold putAt at e Bt|-;by_cases hq:(EK (storeAt w n) k).2=true
 rotate_left
 ·simp_all
 rw[AKJ hq]at Bt|-;obtain⟨s1,s2,s3⟩:=K8 hq;obtain⟨n1,n2,n3⟩:=Eb hn;have hs:=Ts hn;have ea:=hI (w:=w) (n:=n) (s:=(EK (storeAt w n) k).1) ⟨n1,n2⟩ (by rw[s3]) (by simp_all);have hk:QO ((Bv w).kept n) (kS (EK (storeAt w n) k).1.1) ((Bv w).late n):=by
  show QO (kS (BH w n).1) _ (Tf (BH w n).2.1)
  rw[hs,s3];exact AG3 s1.ft fun e=>RS
 refine h.step Bt rfl rfl (fun t=>t) ?_ (fun _ _ fin hb=> ?_) rfl rfl (AUF _) fun p d q a=>⟨q,a,id⟩
 ·rw[ea];exact Sf.qF hk h.a
 ·rw[ea];exact Sf.pO Ge.mono hk h.a hb
theorem z8{n:Int}(e:(It w n).2=0):Safe (It w n).1/\Grow w (It w n).1:=by
 have Bt:=w6 h.ok e;unfold It at e Bt|-
 try dsimp only at e Bt|-
 by_cases hn:Ak w n=0
 rotate_left
 ·simp_all
 rw[AKT (by omega)]at e Bt|-;unfold putAt at e Bt|-;by_cases hq:(GN (storeAt w n) w.trim).2=true
 rotate_left
 ·simp_all
 rw[AKJ hq]at Bt|-;obtain⟨s1,s2,s3⟩:=kF hq;obtain⟨n1,n2,n3⟩:=Eb hn;have hs:=Ts hn;have ea:Bv (w.BJ (w.Ao.set n.toNat (GN (storeAt w n) w.trim).1))=(Bv w).prune n (kS (GN (storeAt w n) w.trim).1.1):=by
  refine St.eq rfl rfl rfl rfl rfl rfl rfl ?_ ?_ ?_ rfl rfl rfl rfl
  ·funext m
   show kS (BH _ m).1=if m=n then _ else kS (BH w m).1
   rw[GW ⟨n1,n2⟩];grind
  ·funext m x
   show Tf (BH _ m).2.1 x=Tf (BH w m).2.1 x
   rw[GW ⟨n1,n2⟩];grind
  ·funext m
   show(BH _ m).2.2.1=(BH w m).2.2.1
   rw[GW ⟨n1,n2⟩];grind
 have hk:Sf.oq (Bv w) n (kS (GN (storeAt w n) w.trim).1.1):=by
  have ak:(Bv w).kept n=kS (storeAt w n).1:=by show kS (BH w n).1=_;rw[hs]
  rw[s3];refine⟨fun p x hx=> ?_,fun p hp=> ?_⟩
  ·obtain⟨y,hy,rfl⟩:=S8 hx
   obtain⟨y1,y2⟩:=HC hy;rw[ak,<-y2];exact bE (MJ s1.ft (AUJ.1 y1).1)
  ·rw[ak]
   have hp':w.trim<p:=hp;grind[Ew,storeAt,decide,HC,absurd,ACR,kS,MJ,decide_eq_true]
 refine h.step Bt rfl rfl (fun t=>t) ?_ (fun _ _ fin hb=> ?_) rfl rfl (AUF _) fun p d q a=>⟨q,a,id⟩
 ·rw[ea];exact Sf.AJE hk h.a
 grind[Sf.ALH]
theorem ADj{a:Int}(e:(O4 w a).2=0):Safe (O4 w a).1/\Grow w (O4 w a).1:=by
 have Bt:=xL h.ok e;unfold O4 at e Bt|-
 try dsimp only at e Bt|-
 by_cases hq:(MN (AU w) (CA w) a).2=true
 rotate_left
 ·simp_all
 rw[hq]at Bt|-;obtain⟨r1,r2,r3⟩:=pP hq;simp only[AMy,AL4,AOK]at Bt|-;have ea:Bv (w.Hc (MN (AU w) (CA w) a).1)={ Bv w with trim:=max w.trim a }:=by
  rw[r3];rfl
 have hle:w.trim<=max w.trim a:=Int.le_max_left _ _;refine h.step Bt rfl rfl (fun t=>t) ?_ (fun _ _ fin hb=> ?_) ?_ ?_ ?_ ?_
 ·rw[ea];exact Sf.APe h.a
 ·rw[ea];exact Sf.AS1 hle hb
 ·rw[ea]
 ·rw[ea]
 ·rw[ea];exact hle
 ·exact fun p d q a=>⟨q,by simp_all,id⟩
end
end Go.M
end
section
namespace Go.M
open Go.M.H (AJ AO Av Ac AA CX AQ BI AM AZ As Az BR)
open Go.Sf (Oc Wd Md St Rd tg QO Gf HX VY)
theorem AEY{w:AA}(h:w.Bg=[]):(Bv w).md=none:=by
 show w.Bg.head?.map f_=none
 simp_all
theorem eG{w:AA}{m:Av}{ms:List Av}(h:w.Bg=m::ms):(Bv w).md=some (f_ m):=by
 show w.Bg.head?.map f_=some (f_ m)
 simp_all
theorem ACk{l:List CX}{k:Nat}:G4 l ((k:Int)+1)=l.getD k Gd:=by
 grind[G4]
theorem AGl{w:AA}{k:Nat}(hk:k<w.Af.length):(Bv w).cl ((k:Int)+1)↔(w.Af.getD k Gd).2.1=true:=by
 show((1<=(k:Int)+1/\(k:Int)+1<=(w.Af.length:Int))/\(G4 w.Af ((k:Int)+1)).2.1=true)↔_
 grind[ACk]
theorem AF5{c:CP}{m:Av}(hm:qS c m){p:Int}{x:Oc}(hx:kS m.2.2.2.1 p=some x):BD p<=LZ m.2.2.2.1:=by
 obtain⟨e,he,_⟩:=S8 hx;obtain⟨e1,e2⟩:=HC he;obtain⟨i,hi,hie⟩:=AQo e1;have hl:0<m.2.2.2.1.length:=by omega
 unfold LZ;rw[show(m.2.2.2.1.length==0)=false from by grind,ANE,KZ (by omega)];have hle:p<=(m.2.2.2.1[m.2.2.2.1.length-1]).1:=by
  by_cases hj:i=m.2.2.2.1.length-1
  ·simp_all
  ·have:=AUl.1 hm.ft i (m.2.2.2.1.length-1) hi (by omega) (by omega)
   grind
 have a1:=hm.seen e e1;have a2:=hm.seen _ (ANM (show m.2.2.2.1.length-1<m.2.2.2.1.length by omega));have p1:=(Fh.1 a1.1).pl;have p2:=(Fh.1 a2.1).pl;grind[uh]
section
variable{w:AA} (h:Safe w)
include h
theorem ACU(e:(Mc w).2=0):Safe (Mc w).1/\Grow w (Mc w).1:=by
 have Bt:=ABL h.ok e;unfold Mc at e Bt|-
 try dsimp only at e Bt|-
 by_cases h1:(decide ((w.Af.length:Int)<2)||decide (BF w.Af=w.Af.length))=true
 ·simp_all
 rw[AKT h1]at e Bt|-;by_cases h2:w.Bg.length>0
 ·simp_all
 rw[AKT h2]at Bt|-;simp only[ATB,ANK,AYp]at h1;have vx:w.Bg=[]:=AP0 (by omega);obtain⟨k,k1,k2,k3,k4⟩:=Ol (r:=CA w) h.ok.mf (by show 0<w.Af.length;omega);have k1':k<w.Af.length:=k1;have ax:BF w.Af=(k:Int)+1:=k2;have ea:Bv (w.Br [Wq (BF w.Af) w.Af.length])=(Bv w).lJ (BF w.Af):=by
  refine St.eq rfl rfl rfl rfl rfl rfl rfl rfl rfl rfl rfl rfl ?_ rfl
  show some (f_ (Wq (BF w.Af) w.Af.length))=some _
  refine congrArg some (Md.eq rfl ?_ rfl ?_ rfl ?_)
  ·funext n;exact propext ⟨fun hh=>by simp[f_,Wq]at hh,fun hh=>hh.elim⟩
  ·exact propext ⟨fun hh=>by simp[f_,Wq]at hh,fun hh=>hh.elim⟩
  ·funext p n;exact propext ⟨fun⟨_,_,l,hl,_⟩=>by simp[Wq]at hl,fun hh=>hh.elim⟩
 have TH:=AEY vx;refine h.step Bt rfl rfl (fun t=>t) ?_ (fun _ _ fin hb=> ?_) rfl rfl (AUF _) fun p d q a=>⟨q,a,id⟩
 ·rw[ea]
  refine Sf.AMB TH (by omega) (by show BF w.Af<(w.Af.length:Int);omega) ?_ ?_ h.a
  ·rw[ax,AGl k1']
   have:(w.Af.getD k Gd).2.1=false:=k3;simp_all
  ·intro f f1 f2
   rw[show f=((f-1).toNat:Int)+1 by omega,AGl (by omega)];exact k4 _ (by omega)
 grind[Sf.AMj,Ge.mono]
theorem ACX(e:(Mx w).2=0):Safe (Mx w).1/\Grow w (Mx w).1:=by
 have Bt:=AB8 h.ok e;unfold Mx at e Bt|-
 try dsimp only at e Bt|-
 cases hms:w.Bg with
 |nil=>simp_all
 |cons m ms=>
 rw[hms]at e Bt;simp only at e Bt|-;by_cases hq:(Ig (AU w) m (Aq w.Af m.2.1)).2=true
 rotate_left
 ·simp_all
 rw[hq]at Bt|-;simp only[AMy,AL4,AOK]at Bt|-;obtain⟨m1,m2,m3,m4,m5⟩:=nN hq;have TH:=eG hms;have ea:Bv (w.Br ((Ig (AU w) m (Aq w.Af m.2.1)).1::ms))=(Bv w).aL (f_ m) (LZ m.2.2.2.1):=by
  refine St.eq rfl rfl rfl rfl rfl rfl rfl rfl rfl rfl rfl rfl ?_ rfl
  show some (f_ (Ig (AU w) m (Aq w.Af m.2.1)).1)=some _
  rw[m5];have hlb:=(G1 (l:=m.2.2.2.1)).1;refine congrArg some (Md.eq rfl rfl rfl (by simp[f_]) (by simp[f_];omega) ?_);funext p n;refine propext ⟨fun⟨_,_,l,hl,hn⟩=> ?_,fun⟨_,_,l,hl,hn⟩=> ?_⟩
  ·have:=AOA hl
   simp_all
  ·have:=m1.n
   simp_all
 have k:Sf.wU (Ge (AU w)) BD (Bv w) (f_ m) (LZ m.2.2.2.1):=by
  refine⟨TH,by simp[f_,m3],?_,fun p x hx=>AF5 m1 hx⟩;unfold Jo at m4;simp only[ALz,ATc]at m4;obtain⟨g1,g2,g3,g4⟩:=m4;intro hH;have r6:Ay (AU w) (less (Aq w.Af m.2.1) (m.2.2.1.filter (Aq w.Af m.2.1).contains))=true:=Lx _ (PD g1);have:Ge (AU w) (fun n=>n∈less (Aq w.Af m.2.1) (m.2.2.1.filter (Aq w.Af m.2.1).contains)):=by
   refine Ge.mono _ _ (fun n hn=> ?_) hH;rw[SY];refine⟨hn.1,fun hh=>hn.2 ?_⟩;exact(AUJ.1 hh).1
  grind[Ge.list]
 refine h.step Bt rfl rfl (fun t=>t) ?_ (fun _ _ fin hb=> ?_) rfl rfl (AUF _) fun p d q a=>⟨q,a,id⟩
 ·rw[ea];exact Sf.APr k h.a
 ·rw[ea];exact Sf.ATX Ge.mono k h.a hb
theorem ADd{n:Int}(e:(Mh w n).2=0):Safe (Mh w n).1/\Grow w (Mh w n).1:=by
 have Bt:=ABH h.ok e;unfold Mh at e Bt|-
 try dsimp only at e Bt|-
 cases hms:w.Bg with
 |nil=>simp_all
 |cons m ms=>
 rw[hms]at e Bt;simp only at e Bt|-;by_cases hn:Ak w n=0
 rotate_left
 ·simp_all
 rw[AKT (by omega)]at e Bt|-;by_cases P7:(Aq w.Af m.2.1).contains n=true
 rotate_left
 ·simp_all
 rw[P7]at e Bt|-;simp only[AMy,AL4,AOK]at e Bt|-;by_cases hq:(!(Bp (storeAt w n) (m.1-1)).2|| !(LV (AU w) m n (GK (Bp (storeAt w n) (m.1-1)).1 m.2.1)).2)=true
 ·simp_all
 rw[AKT hq]at Bt|-;simp only[ATB,ATc,AYp,Bool.not_eq_false]at hq;obtain⟨q1,q2⟩:=hq;obtain⟨s1,s2,s3,s4,s5⟩:=bu q1;obtain⟨m1,m2,m3,m4⟩:=mm q2;obtain⟨n1,n2,n3⟩:=Eb hn;have hs:=Ts hn;have TH:=eG hms;have hm0:=h.ok.Bg m (by simp_all)
 generalize hT:(LV (AU w) m n (GK (Bp (storeAt w n) (m.1-1)).1 m.2.1)).1=T at m2 m4 Bt|-
 generalize hS:(Bp (storeAt w n) (m.1-1)).1=S at s2 s3 Bt m4|-
 let s':AO:=(S.1,[],(storeAt w n).2.2.1,())
 let w1:AA:=w.BJ (w.Ao.set n.toNat s')
 have hk:QO ((Bv w).kept n) (kS S.1) ((Bv w).late n):=by
  show QO (kS (BH w n).1) _ (Tf (BH w n).2.1)
  rw[hs,s3];exact AG3 s1.ft fun e=>RS
 have yt:Bv w1=(Bv w).settle n (kS S.1):=hI (s:=s') ⟨n1,n2⟩ rfl (by rw[hs]);have hl1:(w.Ao.set n.toNat s').length=w.Ao.length:=AUz;have ADX:GK S m.2.1=S.1.filter fun e=>AN e.1==m.2.1:=by unfold GK;rw[Dd.2 s2,AKJ rfl]
 have AZb:(GK S m.2.1).filter (fun e=>AN e.1==m.2.1)=S.1.filter fun e=>AN e.1==m.2.1:=by
  simp_all
 rw[AZb]at m4;have ea:Bv ((w.BJ (w.Ao.set n.toNat S)).Br (T::ms))=(Bv w1).kH (f_ m) n (kS T.2.2.2.1) (max (storeAt w n).2.2.1 (m.1-1)):=by
  have h1:∀k,BH ((w.BJ (w.Ao.set n.toNat S)).Br (T::ms)) k=if k=n then S else BH w k:=fun k=>GW ⟨n1,n2⟩
  have h2:∀k,BH w1 k=if k=n then s' else BH w k:=fun k=>GW ⟨n1,n2⟩
  refine St.eq rfl rfl rfl rfl rfl rfl rfl ?_ ?_ ?_ rfl rfl ?_ rfl
  ·funext k
   show kS (BH _ k).1=kS (BH w1 k).1
   grind
  ·funext k
   show Tf (BH _ k).2.1=Tf (BH w1 k).2.1
   grind
  ·funext k
   show(BH _ k).2.2.1=if k=n then max (storeAt w n).2.2.1 (m.1-1)else(BH w1 k).2.2.1
   grind
  ·show some (f_ T)=some _
   rw[m4];refine congrArg some (Md.eq rfl ?_ rfl rfl rfl rfl);funext k;exact propext ⟨fun hh=>(O9.1 hh).symm,fun hh=>O9.2 hh.symm⟩
 have hA1:Gf (Ge (AU w)) AN Pl (Bv w1):=by rw[yt];exact Sf.qF hk h.a
 have ek1:(Bv w1).kept n=kS S.1:=by rw[yt];show(if n=n then kS S.1 else _)=_;simp_all
 have k:Sf.vG AN (Bv w1) (f_ m) n (kS T.2.2.2.1) (max (storeAt w n).2.2.1 (m.1-1)):=by
  refine⟨TH,n3,by simp[f_,m3],?_,?_,fun p x hx=> ?_,fun p y hy=> ?_,fun p x hx he=> ?_,fun p y hy=> ?_⟩
  ·rw[yt]
   show(BH w n).2.2.1<=_
   grind
  ·show(w.Af.length:Int)-1<=_
   omega
  ·obtain⟨e,he,rfl⟩:=S8 hx
   obtain⟨y,hy,_⟩:=XQ (l:=S.1.filter fun e=>AN e.1==m.2.1) m1.ft he;rw[m4];exact⟨_,bE hy⟩
  ·rw[m4]at hy
   obtain⟨e,he,rfl⟩:=S8 hy;obtain⟨e1,e2⟩:=HC he;rcases Rl e1 with e3|e3
   ·left
    show kS m.2.2.2.1 p=_
    rw[<-e2];exact bE (MJ m1.ft e3)
   ·right
    rw[ek1,<-e2];exact bE (MJ s2.ft (AUJ.1 e3).1)
  ·rw[ek1]at hx
   obtain⟨e,he',rfl⟩:=S8 hx;obtain⟨e1,e2⟩:=HC he';obtain⟨y,hy,_⟩:=iP (e:=e) (l:=S.1.filter fun e=>AN e.1==m.2.1) m1.ft (AUJ.2 ⟨e1,by rw[e2];exact AUM.2 he⟩);rw[m4,<-e2];exact⟨_,bE hy⟩
  ·obtain⟨e,he,rfl⟩:=S8 hy
   obtain⟨e1,e2⟩:=HC he;have:=m2.seen e e1;rw[m4]at this;refine⟨e2,?_,?_⟩
   ·rw[<-e2];exact this.2.1
   ·show e.2.1<(w.Af.length:Int)
    omega
 refine h.step Bt rfl rfl (fun t=>t) ?_ (fun _ _ fin hb=> ?_) rfl rfl (AUF _) fun p d q a=>⟨q,a,id⟩
 ·grind[Sf.AIv]
 ·rw[ea]
  refine Sf.AK5 Ge.mono k hA1 ?_
  rw[yt];exact Sf.pO Ge.mono hk h.a hb
end
end Go.M
end
section
namespace Go.M
open Go.M.H (AJ AO Av Ac AA CX AQ BI AM AZ As Az BR)
open Go.Sf (Oc Wd Md St Rd tg QO Gf HX VY)
theorem Xf{x:AM}:∀{ws:List AM},T4 (fun x:AM=>x.1) ws->x∈ws->Xt ws x.1=some x
 |[],_,h=>by simp at h
 |y::ws,ha,h=>by
  simp only[T4,APg]at ha;unfold Xt;rw[AU_];rcases AOD.1 h with rfl|h
  ·rw[AXu]
  ·rw[AOV.2 (fun e=>by grind)]
   exact Xf ha.2 h
theorem bM{ws:List AM}{e:Int}{x:AM}(h:Xt ws e=some x):x∈ws/\x.1=e:=
 ⟨AUb h,by simpa using AYf h⟩
theorem nU{e:Int}{y:AM}(hy:y.1≠e):∀{ws:List AM} {i:Nat},(∀hi:i<ws.length,(ws[i]).1≠e)->Xt (ws.set i y) e=Xt ws e
 |[],i,_=>rfl
 |x::ws,0,h=>by
  grind[Xt,beq_eq_false_iff_ne]
 |x::ws,i+1,h=>by
  have ih:=nU hy (ws:=ws) (i:=i) fun hi=>h (Nat.succ_lt_succ hi)
  grind[Xt]
theorem yy{ws:List AM}{p:Int}{x:BI}(h:FY ws p=some x):Pl p/\ ∃y,Xt ws (AN p)=some y/\y.2.1[(BD p-1).toNat]? =some x:=by
 unfold FY at h;split at h
 ·rename_i hp
  refine⟨hp,?_⟩;grind[Option.bind_eq_some_iff]
 simp_all
theorem KR{ws:List AM}{p:Int}{y:AM}(hp:Pl p)(h:Xt ws (AN p)=some y):FY ws p=y.2.1[(BD p-1).toNat]?:=by
 unfold FY;rw[AKJ (show BZ p=true from hp),h];rfl
theorem uA{ws:List AM}{p:Int}(h:Xt ws (AN p)=none):FY ws p=none:=by
 grind[FY]
theorem lP{ws:List AM}{p:Int}(h: ¬Pl p):FY ws p=none:=by
 unfold FY;rw[AKT (show¬BZ p=true from h)]
theorem zU{ws:List AM}{e p:Int}:FY (ws++[(e,[],())]) p=FY ws p:=by
 unfold FY Xt;split
 ·rw[List.find?_append]
  cases ws.find? (fun x=>x.1==AN p)with
  |some y=>rfl
  |none=>
   simp_all
 ·rfl
theorem ZH{l:List Ac}{p:Int}{s:Ac}(h:Je l p=some s):s∈l/\s.1=p:=
 ⟨AUb h,by simpa using AYf h⟩
theorem mc{s:Ac}{q:Int}:∀{l:List Ac},(∀x∈l,x.1≠s.1)->Je (Yb s l) q=if q=s.1 then some s else Je l q
 |[],_=>by
  unfold Je Yb;grind
 |x::l,h=>by
  have ih:=mc (q:=q) (l:=l) fun y hy=>h y (by simp[hy])
  have hx:=h x (by simp);unfold Je at*;rw[Yb];grind
theorem vW{l:List CX}{x:CX}{e:Int}:Aq (l++[x]) e=if e=(l.length:Int)+1 then x.1 else Aq l e:=by
 unfold Aq;simp only[API,AN9,AQL];by_cases h:e=(l.length:Int)+1
 ·rw[AKJ h,Ai.2 (by omega),AKJ rfl,show(e-1).toNat=l.length by omega]
  simp[List.getD]
 ·rw[AKT h]
  by_cases h2:1<=e/\e<=(l.length:Int)
  ·rw[Ai.2 (by omega),Ai.2 h2,AKJ rfl,AKJ rfl]
   simp only[List.getD];rw[ANz (by omega)]
  ·rw[AKT (fun hh=>by grind[Ai]),AKT (fun hh=>h2 (Ai.1 hh))]
theorem lN{l:List CX}{ns:AAC}{e:Int}(h1:1<=e):(G4 (l++[(ns,false,0,())]) e).2=(G4 l e).2:=by
 unfold G4;simp only[List.getD];by_cases h:(e-1).toNat<l.length
 ·rw[ANz h]
 ·rw[AOE (by omega),AUT (l:=l) (by omega)]
  cases(e-1).toNat-l.length<;>rfl
section
variable{w:AA} (h:Safe w)
include h
theorem ADQ{a:Int}(e:(MU w a).2=0):Safe (MU w a).1/\Grow w (MU w a).1:=by
 have Bt:=ACI h.ok e;unfold MU at e Bt|-
 try dsimp only at e Bt|-
 by_cases h4:w.AH.length=4
 ·simp_all
 rw[AKT h4]at e Bt|-;by_cases hq:(I0 (AU w) (CA w) (Ap a)).2.2=true
 rotate_left
 ·simp_all
 simp only[hq,AMy,AL4,AOK]at Bt|-;obtain⟨_,r1,r2,r3,r4,r5⟩:=qV hq;rw[r2,r3]at Bt|-;have er:(CA w).1=w.Af:=rfl;have ea:Bv (((w.Hc ((CA w).1++[(Ap a,false,0,())],(CA w).2.1,())).BG (w.AH++[(((CA w).1.length:Int)+1,[],())])).Br [])=(Bv w).open_ (fun n=>n∈Ap a):=by
  refine St.eq ?_ ?_ ?_ ?_ rfl rfl rfl rfl rfl rfl ?_ ?_ rfl rfl
  ·show((w.Af++[(Ap a,false,0,())]).length:Int)=(w.Af.length:Int)+1
   simp
  ·funext x n
   show(n∈Aq (w.Af++[(Ap a,false,0,())]) x)=(if x=(w.Af.length:Int)+1 then fun n=>n∈Ap a else(Bv w).nodes x) n
   rw[vW];by_cases hx:x=(w.Af.length:Int)+1
   ·simp_all
   ·rw[AKT hx,AKT hx];rfl
  ·funext x
   show((1<=x/\x<=((w.Af++[(Ap a,false,0,())]).length:Int))/\(G4 (w.Af++[(Ap a,false,0,())]) x).2.1=true)=((1<=x/\x<=(w.Af.length:Int))/\(G4 w.Af x).2.1=true)
   simp only[API,AN9,AQL];refine propext ⟨fun⟨⟨h1,h2⟩,h3⟩=> ?_,fun⟨⟨h1,h2⟩,h3⟩=>⟨⟨h1,by omega⟩,by grind[lN]⟩⟩;rw[lN h1]at h3;refine⟨⟨h1,?_⟩,h3⟩;by_cases hh:x<=(w.Af.length:Int)
   ·omega
   ·unfold G4 at h3
    rw[List.getD,AUT (by omega)]at h3;cases h3
  ·funext x
   show(if 1<=x then(G4 (w.Af++[(Ap a,false,0,())]) x).2.2.1 else 0)=if 1<=x then(G4 w.Af x).2.2.1 else 0
   by_cases hx:1<=x
   ·rw[AKJ hx,AKJ hx,lN hx]
   omega
  ·funext x
   show(∃y∈w.AH++[((w.Af.length:Int)+1,[],())],y.1=x)=((∃y∈w.AH,y.1=x)\/x=(w.Af.length:Int)+1)
   refine propext ⟨fun⟨y,hy,hx⟩=> ?_,fun hh=> ?_⟩
   ·grind
   ·rcases hh with⟨y,hy,hx⟩|hx
    ·grind
    simp_all
  ·funext p
   show(FY (w.AH++[((w.Af.length:Int)+1,[],())]) p).map bY=(FY w.AH p).map bY
   rw[zU]
 have hns:Ge (AU w) (fun n=>n∈Ap a):=⟨_,r4,fun _ hn=>hn⟩;refine h.step Bt rfl rfl (fun t=>t) ?_ (fun _ _ fin hb=> ?_) ?_ ?_ ?_ ?_
 ·rw[ea];exact Sf.AO6 hns h.a
 ·rw[ea];exact Sf.AOu h.a hb Ge.mono
 ·rw[ea];rfl
 ·rw[ea];rfl
 ·rw[ea];exact AUF _
 ·exact fun p d q a=>⟨q,by rw[ea];exact a,id⟩
theorem AAI(e:(Iw w).2=0):Safe (Iw w).1/\Grow w (Iw w).1:=by
 have Bt:=xk h.ok e;unfold Iw at e Bt|-
 try dsimp only at e Bt|-
 cases hms:w.Bg with
 |nil=>simp_all
 |cons m ms=>
 rw[hms]at e Bt;simp only at e Bt|-;by_cases hr:Ph (AU w) m=true
 rotate_left
 ·simp_all
 rw[hr]at e Bt|-;simp only[AMy,AL4,AOK]at e Bt|-;by_cases hq:(M1 (AU w) (CA w) m.1 (m.2.2.2.2.2.1.length:Int)).2=true
 rotate_left
 ·simp_all
 rw[hq]at Bt|-;simp only[AMy,AL4,AOK]at Bt|-;obtain⟨r0,r1,k,k1,k2,k3,k4,k5,k6,k7,k8⟩:=nH hq;rw[k6]at Bt|-;have k1':k<w.Af.length:=k1;have TH:=eG hms;have hm0:=h.ok.Bg m (by simp_all);have hep:m.2.1=(k:Int)+1:=by rw[hm0.2.2];exact k2
 have hlen:(G8 w.Af k (m.2.2.2.2.2.1.length:Int)).length=w.Af.length:=by simp[G8]
 have hg:=fun j=>WW (l:=w.Af) (i:=k) (j:=j) (last:=(m.2.2.2.2.2.1.length:Int)) k1'
 have ea:Bv ((w.Hc (G8 (CA w).1 k (m.2.2.2.2.2.1.length:Int),(CA w).2.1,())).Br [])=(Bv w).close (f_ m):=by
  refine St.eq ?_ ?_ ?_ ?_ rfl rfl rfl rfl rfl rfl rfl rfl rfl rfl
  ·show((G8 w.Af k (m.2.2.2.2.2.1.length:Int)).length:Int)=(w.Af.length:Int)
   omega
  ·funext x n
   show(n∈Aq (G8 w.Af k (m.2.2.2.2.2.1.length:Int)) x)=(n∈Aq w.Af x)
   unfold Aq;rw[hlen,hg];by_cases hx:k=(x-1).toNat
   all_goals simp_all
  ·funext x
   show((1<=x/\x<=((G8 w.Af k (m.2.2.2.2.2.1.length:Int)).length:Int))/\(G4 (G8 w.Af k (m.2.2.2.2.2.1.length:Int)) x).2.1=true)=(((1<=x/\x<=(w.Af.length:Int))/\(G4 w.Af x).2.1=true)\/x=m.2.1)
   unfold G4;rw[hlen,hg,hep];by_cases hx:k=(x-1).toNat
   all_goals (simp_all;omega)
  ·funext x
   show(if 1<=x then(G4 (G8 w.Af k (m.2.2.2.2.2.1.length:Int)) x).2.2.1 else 0)=if x=m.2.1 then(m.2.2.2.2.2.1.length:Int)else if 1<=x then(G4 w.Af x).2.2.1 else 0
   unfold G4;rw[hg,hep];by_cases h1:1<=x
   ·rw[AKJ h1]
    by_cases hx:k=(x-1).toNat
    all_goals (simp_all;omega)
   omega
 unfold Ph at hr;simp only[ALz,AUY]at hr;have kk:Sf.oy (Ge (AU w)) AN BD Pl (Bv w) (f_ m):=by
  refine⟨TH,hr.2.1,fun p hp he ho=> ?_⟩;have o1:=qN hp;have xY:BD p<=(m.2.2.2.2.2.1.length:Int):=ho;have hi:(BD p-1).toNat<m.2.2.2.2.2.1.length:=by omega
  exact⟨_,hr.2.2 _ (ANM hi),fun n hn=>⟨hp,he,_,AKS hi,hn⟩⟩
 refine⟨⟨Bt,?_,fun hv=> ?_⟩,fun p d q a=>⟨q,by rw[ea];exact a,id⟩⟩
 ·rw[ea];exact Sf.AHn kk h.a
 ·obtain⟨fin,b1,b2⟩:=h.b hv
  rw[ea];exact⟨_,Sf.AIU kk h.a b1 Ge.mono fun _ _ _ _ _=>trivial,fun r hr=>Sf.VY.close kk h.a b1 (b2 r hr)⟩
theorem AGz{a:Int}{d:ACB}(hd:d.length<=40)(e:(doAdd w a d).2=0):Safe (doAdd w a d).1/\Grow w (doAdd w a d).1:=by
 have Bt:=AGu h.ok hd e;unfold doAdd at e Bt|-
 try dsimp only at e Bt|-
 by_cases ha:BS a 0 ((w.AH.length:Int)-1)=true
 rotate_left
 ·simp_all
 rw[ha]at e Bt|-;simp only[AMy,AL4,AOK]at e Bt|-;by_cases hq:(!(CL (AU w) (w.AH.getD a.toNat B7) d).2.2||(decide (w.BE.length=120)||w.BE.any fun s=>s.1==EN (w.AH.getD a.toNat B7).1 (CL (AU w) (w.AH.getD a.toNat B7) d).2.1))=true
 ·simp_all
 rw[AKT hq]at Bt|-;simp only[ATB,AYp,AOP,AOe,AUi,List.any_eq_false,AUM]at hq;obtain⟨hq,h120,hno⟩:=hq;rw[Ai]at ha;have hi:a.toNat<w.AH.length:=by omega
 have hxm:=BM (d:=B7) hi;obtain⟨_,r1,r2,r3⟩:=Wi hq;rw[r2]at r1;rw[r2,r3]at Bt|-;rw[r3]at hno;have hxw:=h.ok.AH _ hxm;have hgx:w.AH[a.toNat]=w.AH.getD a.toNat B7:=(KZ hi).symm
 generalize w.AH.getD a.toNat B7=x at*
 have hnn:=r1.n;simp only[API,AN9,AQL]at hnn;obtain⟨p1,p2,p3⟩:=JH (e:=x.1) (o:=(x.2.1.length:Int)+1) hxw.1.ep (by omega)
 generalize hp:EN x.1 ((x.2.1.length:Int)+1)=p at*
 have hwx:=Xf h.ok.Yd hxm;have AaP:=Bt.Yd;have X6:Xt (w.AH.set a.toNat (x.1,x.2.1++[(d,[],false,())],())) x.1=some (x.1,x.2.1++[(d,[],false,())],()):=
  Xf (x:=(x.1,x.2.1++[(d,[],false,())],())) AaP (List.mem_iff_getElem.2 ⟨a.toNat,by simp_all,by rw[AXH]⟩)
 have bg:∀q,AN q≠x.1->Xt (w.AH.set a.toNat (x.1,x.2.1++[(d,[],false,())],())) (AN q)=Xt w.AH (AN q):=fun q hq=>
  nU (y:=(x.1,x.2.1++[(d,[],false,())],())) (fun e=>hq e.symm) fun Dr=>by grind
 have ea:Bv ((w.BG (w.AH.set a.toNat (x.1,x.2.1++[(d,[],false,())],()))).DF (Yb (p,d,false,()) w.BE))=(Bv w).add p d:=by
  refine St.eq rfl rfl rfl rfl rfl rfl rfl rfl rfl rfl ?_ ?_ rfl ?_
  ·funext q
   show(∃y∈w.AH.set a.toNat (x.1,x.2.1++[(d,[],false,())],()),y.1=q)=(∃y∈w.AH,y.1=q)
   refine propext ⟨fun⟨y,hy,hq⟩=> ?_,fun⟨y,hy,hq⟩=> ?_⟩
   ·grind
   ·by_cases hyx:q=x.1
    ·grind[bM]
    ·obtain⟨i,Dr,rfl⟩:=AQo hy
     grind[List.mem_iff_getElem,List.length_set,List.getElem_set_ne]
  ·funext q
   show(FY _ q).map bY=if q=p then some ⟨d,fun _=>False,False⟩else(FY w.AH q).map bY
   by_cases hpq:Pl q
   rotate_left
   ·rw[lP hpq,lP hpq,AKT (fun e=>hpq (by rw[e];exact p1))]
   by_cases hqx:AN q=x.1
   ·rw[KR hpq (by rw[hqx];omega),KR hpq (by rw[hqx];omega)]
    have o1:=qN hpq;by_cases hqp:q=p
    ·rw[AKJ hqp,hqp,p3,show((x.2.1.length:Int)+1-1).toNat=x.2.1.length by omega]
     show((x.2.1++[(d,[],false,())])[x.2.1.length]?).map bY=_
     rw[AOE (by omega)];simp only[AYk,List.getElem?_cons_zero,AVW];refine congrArg some (Wd.eq rfl ?_ ?_)
     ·funext n;exact propext ⟨fun hh=>by simp[bY]at hh,fun hh=>hh.elim⟩
     ·exact propext ⟨fun hh=>by simp[bY]at hh,fun hh=>hh.elim⟩
    ·rw[AKT hqp]
     have hof:BD q≠(x.2.1.length:Int)+1:=fun e=>hqp (ud hpq p1 (by omega) (by omega))
     show((x.2.1++[(d,[],false,())])[(BD q-1).toNat]?).map bY=_
     by_cases K9:(BD q-1).toNat<x.2.1.length
     ·grind
     simp_all;omega
   ·rw[AKT (fun e=>hqx (by simp_all))]
    grind[FY]
  ·funext q
   show(Je (Yb (p,d,false,()) w.BE) q).map seS=if q=p then some (d,False)else(Je w.BE q).map seS
   rw[mc (s:=(p,d,false,())) fun y hy=>by grind];by_cases hq:q=p
   ·rw[AKJ hq,AKJ hq]
    show some (d,false=true)=some (d,False)
    simp
   simp_all
 have ks:(Bv w).HD p=none:=by
  show(Je w.BE p).map seS=none
  grind[Je,ZH,absurd]
 have k:Sf.ANb AN Pl (Bv w) p:=by
  refine⟨p1,⟨x,hxm,p2.symm⟩,?_,ks⟩
  show(FY w.AH p).map bY=none
  rw[KR p1 (by rw[p2];omega),p3,AUT (by omega)];rfl
 refine h.step Bt rfl rfl (fun t=>t) ?_ (fun _ _ fin hb=> ?_) ?_ ?_ ?_ ?_
 ·rw[ea];exact Sf.AV7 Ge.empty k h.a
 ·grind[Sf.AWM,Ge.mono]
 ·rfl
 ·rfl
 ·rw[ea];exact AUF _
 ·intro q d' z a1
  rw[ea];refine⟨z,?_,id⟩
  show(if q=p then some (d,False)else(Bv w).HD q)=_
  grind
end
end Go.M
end
section
namespace Go.M
open Go.M.H (AJ AO Av Ac AA CX AQ BI AM AZ As Az BR)
open Go.Sf (Oc Wd Md St Rd tg QO Gf HX VY)
theorem wS{n:Int}{x:BI}:bY (DA n x)=⟨(bY x).data,fun k=>(bY x).o7 k/\((bY x).done\/k≠n),(bY x).done⟩:=by
 refine Wd.eq rfl ?_ rfl
 funext k
 show(k∈(if x.2.2.1 then x.2.1 else less x.2.1 [n]))=(k∈x.2.1/\(x.2.2.1=true\/k≠n))
 by_cases hd:x.2.2.1=true
 ·simp_all
 ·rw[AKT hd,SY,AUa]
  simp_all
theorem AAE{f:AM->AM}{g:BI->BI}(hf:∀x,(f x).1=x.1)(hg:∀x,(f x).2.1=x.2.1.map g){ws:List AM}{p:Int}:FY (ws.map f) p=(FY ws p).map g:=by
 unfold FY Xt;split
 ·rw[List.find?_map]
  have:((fun x:AM=>x.1==AN p)∘f)=fun x=>x.1==AN p:=by grind
  rw[this];cases ws.find? (fun x=>x.1==AN p)with
  |none=>rfl
  |some y=>
   simp_all
 ·rfl
theorem gw{lost:AAC}{s:AO}:∀{l:List AO} {i:Nat},s∈others lost i l↔ ∃j,∃hj:j<l.length,l[j]=s/\((i+j:Nat):Int)∉lost
 |[],i=>by simp[others]
 |x::l,i=>by
  unfold others;have ih:=gw (lost:=lost) (s:=s) (l:=l) (i:=i+1);have tail:(∃j,∃hj:j<l.length,l[j]=s/\((i+1+j:Nat):Int)∉lost)-> ∃j,∃hj:j<(x::l).length,(x::l)[j]=s/\((i+j:Nat):Int)∉lost:=fun⟨j,hj,h1,h2⟩=>
   ⟨j+1,by simp_all,by simp_all,by grind⟩
  split
  ·rename_i hc
   rw[ih];refine⟨tail,fun⟨j,hj,h1,h2⟩=> ?_⟩;grind
  grind
theorem rX{y:AJ}:∀{ss:List AO} {k:List AJ},y∈F8 k ss->y∈k\/ ∃s∈ss,y∈s.1
 |[],k,h=> .inl h
 |s::ss,k,h=>by
  rcases rX (ss:=ss) h with h|⟨t,h1,h2⟩
  all_goals grind[Rl]
theorem um{p:Int}:∀{ss:List AO} {k:List AJ} {x:AJ},X3 k->Ew p k=some x-> ∃y,Ew p (F8 k ss)=some y/\x.2.1<=y.2.1
 |[],k,x,h,hx=>⟨x,hx,AUF _⟩
 |s::ss,k,x,h,hx=>by
  obtain⟨y,h1,h2⟩:=XQ (l:=s.1) h hx;obtain⟨z,h3,h4⟩:=um (ss:=ss) (RL h) h1;exact⟨z,h3,by grind⟩
theorem uJ{e:AJ}:∀{ss:List AO} {k:List AJ} {s:AO},X3 k->s∈ss->e∈s.1-> ∃y,Ew e.1 (F8 k ss)=some y/\e.2.1<=y.2.1
 |s::ss,k,t,h,ht,he=>by
  rcases AOD.1 ht with rfl|ht
  ·obtain⟨y,h1,h2⟩:=iP h he
   obtain⟨z,h3,h4⟩:=um (ss:=ss) (RL h) h1;exact⟨z,h3,by omega⟩
  ·exact uJ (ss:=ss) (k:=Dn k s.1) (RL h) ht he
theorem nC{m:Av}{b len:Int}{en:AJ}(hl:m.1=len)(pJ:Dp m b=some en):
  (m.2.2.2.2.1=true/\(1<=m.2.1/\m.2.1<=30)/\(1<=b/\b<=60)/\b<=m.2.2.2.2.2.1.length)/\Vf en=Sf.Vh len (f_ m) (EN m.2.1 b)/\en.1=EN m.2.1 b:=by
 unfold Dp at pJ;by_cases hc:(m.2.2.2.2.1&&(BS m.2.1 1 30&&(BS b 1 60&&decide (b<=m.2.2.2.2.2.1.length))))=true
 rotate_left
 ·simp_all
 rw[AKJ hc]at pJ;simp only[ALz,Ai,ANK]at hc;refine⟨hc,?_⟩;unfold Sf.Vh
 show(Vf en=match kS m.2.2.2.1 (EN m.2.1 b)with|some x=>_|none=>_)/\_
 unfold kS;cases hg:Ew (EN m.2.1 b) m.2.2.2.1 with
 |none=>
  rw[hg]at pJ;cases pJ;refine⟨?_,rfl⟩
  show(⟨_,m.1,true,[]⟩:Oc)=⟨_,len,true,[]⟩
  rw[hl]
 |some x=>
  rw[hg]at pJ;cases pJ;refine⟨?_,rfl⟩
  show(⟨_,m.1,x.2.2.1,x.2.2.2.1⟩:Oc)=⟨_,len,x.2.2.1,x.2.2.2.1⟩
  rw[hl]
section
variable{w:AA} (h:Safe w)
include h
theorem yM{n:Int}{en:AJ}(hn:Ak w n=0)(Bt:OG (putAt w n (GP (storeAt w n) en)).1)(e:(putAt w n (GP (storeAt w n) en)).2=0)(k:Sf.ABs AN Pl (Bv w) (Vf en))
  (hh:∀fin,HX (Ge (AU w)) AN BD Pl (Bv w) fin->(Vf en).hole=true->(Bv w).trim<(Vf en).at_->Sf.MH (Ge (AU w)) AN (Bv w) (Vf en).at_)
  (hc:(Bv w).cl (AN (Vf en).at_)->(Vf en).P0=0):Safe (putAt w n (GP (storeAt w n) en)).1/\Grow w (putAt w n (GP (storeAt w n) en)).1:=by
 unfold putAt at e Bt|-;by_cases hq:(GP (storeAt w n) en).2=true
 rotate_left
 ·simp_all
 rw[AKJ hq]at Bt|-;obtain⟨s1,s2,s3,s4⟩:=ew hq;obtain⟨n1,n2,n3⟩:=Eb hn;have ea:Bv (w.BJ (w.Ao.set n.toNat (GP (storeAt w n) en).1))=(Bv w).put n (Vf en):=by
  grind[AHj,Ts]
 refine h.step Bt rfl rfl (fun t=>t) ?_ (fun _ _ fin hb=> ?_) ?_ ?_ ?_ ?_
 ·rw[ea];exact Sf.AWo k h.a
 ·grind[Sf.AXO]
 ·rfl
 ·rfl
 ·rw[ea];exact AUF _
 ·exact fun p d q a=>⟨q,by rw[ea];exact a,id⟩
theorem AAo{a b n:Int}(e:(Iv w a b n).2=0):Safe (Iv w a b n).1/\Grow w (Iv w a b n).1:=by
 have Bt:=yE h.ok e;unfold Iv at e Bt|-
 try dsimp only at e Bt|-
 by_cases ha:BS a 0 ((w.AH.length:Int)-1)=true
 rotate_left
 ·simp_all
 rw[ha]at e Bt|-;simp only[AMy,AL4,AOK]at e Bt|-;rw[Ai]at ha;have hi:a.toNat<w.AH.length:=by omega
 have hxm:=BM (d:=B7) hi;have hxw:=h.ok.AH _ hxm;have hwx:=Xf h.ok.Yd hxm
 generalize w.AH.getD a.toNat B7=x at*
 by_cases hb:BS b 1 (x.2.1.length:Int)=true
 rotate_left
 ·simp_all
 rw[hb]at e Bt|-;simp only[AMy,AL4,AOK]at e Bt|-;rw[Ai]at hb;by_cases hn:Ak w n=0
 rotate_left
 ·simp_all
 rw[AKT (by omega)]at e Bt|-;by_cases P7:(Aq w.Af x.1).contains n=true
 rotate_left
 ·simp_all
 rw[P7]at e Bt|-;simp only[AMy,AL4,AOK]at e Bt|-;have Aeb:=hxw.1.n;obtain⟨p1,p2,p3⟩:=JH (e:=x.1) (o:=b) hxw.1.ep (by omega);have hwd:(Bv w).wd (EN x.1 b)=some (bY (x.2.1.getD (b-1).toNat LP)):=by
  show(FY w.AH (EN x.1 b)).map bY=_
  rw[KR p1 (by rw[p2];omega),p3,AKS (by omega),KZ (by omega)];rfl
 have kp:=Sf.AAr h.a hwd;refine yM h hn Bt e kp (fun fin hb hh=>by cases hh) fun _=>rfl
theorem AFY{b n:Int}(e:(S5 w b n).2=0):Safe (S5 w b n).1/\Grow w (S5 w b n).1:=by
 have Bt:=AFd h.ok e;unfold S5 at e Bt|-
 try dsimp only at e Bt|-
 cases hms:w.Bg with
 |nil=>simp_all
 |cons m ms=>
 rw[hms]at e Bt;simp only at e Bt|-;cases pJ:Dp m b with
 |none=>simp_all
 |some en=>
 rw[pJ]at e Bt;simp only at e Bt|-;by_cases hn:Ak w n=0
 rotate_left
 ·simp_all
 rw[AKT (by omega)]at e Bt|-;by_cases P7:(Aq w.Af m.2.1).contains n=true
 rotate_left
 ·simp_all
 rw[P7]at e Bt|-;simp only[AMy,AL4,AOK]at e Bt|-;have TH:=eG hms;have hm0:=h.ok.Bg m (by simp_all);obtain⟨⟨c1,c2,c3,c4⟩,hen,_⟩:=nC hm0.2.1 pJ;obtain⟨p1,p2,p3⟩:=JH c2 c3
 replace hen:Vf en=Sf.Vh (Bv w).len (f_ m) (EN m.2.1 b):=hen
 have PG:(Vf en).at_=EN m.2.1 b:=by grind[Sf.Vh]
 have kp:=Sf.zp h.a TH c1 (p:=EN m.2.1 b) p2 p1;rw[<-hen]at kp;refine yM h hn Bt e kp (fun fin hb hh ht=> ?_) fun fD=> ?_
 ·rw[PG]at ht|-
  cases hs:(f_ m).seen (EN m.2.1 b)with
  |none=>exact hb.aL _ _ TH c1 p1 p2 ht hs
  |some x=>
   have hx:=h.a.jq _ _ _ TH hs;have hxh:x.hole=true:=by
    grind[Sf.Vh]
   have:=hb.TY x (.inr (.inr ⟨_,TH,by simp_all⟩)) hxh (by omega);simp_all
 ·rw[PG,p2]at fD
  exact absurd fD (h.a.md1 _ TH).2.2.1
theorem AD4{a:Int}(e:(Nb w a).2=0):Safe (Nb w a).1/\Grow w (Nb w a).1:=by
 have Bt:=ABv h.ok e;unfold Nb at e Bt|-
 try dsimp only at e Bt|-
 by_cases ha:BS a 0 ((w.AH.length:Int)-1)=true
 rotate_left
 ·simp_all
 rw[ha]at Bt|-;simp only[AMy,AL4,AOK]at Bt|-;have ADg:∀x∈w.AH.eraseIdx a.toNat,x∈w.AH:=fun x hx=>(List.eraseIdx_sublist _ _).subset hx
 have ea:Bv (w.BG (w.AH.eraseIdx a.toNat))=(Bv w).drop (Bv (w.BG (w.AH.eraseIdx a.toNat))).wo (Bv (w.BG (w.AH.eraseIdx a.toNat))).wd:=rfl;have k:Sf.AAL AN (Bv w) (Bv (w.BG (w.AH.eraseIdx a.toNat))).wo (Bv (w.BG (w.AH.eraseIdx a.toNat))).wd:=by
  refine⟨fun e ⟨x,hx,he⟩=>⟨x,ADg x hx,he⟩,fun p v hv=> ?_⟩
  replace hv:(FY (w.AH.eraseIdx a.toNat) p).map bY=some v:=hv
  rw[ALL]at hv;obtain⟨x,hx,rfl⟩:=hv;obtain⟨hp,y,hy,hyx⟩:=yy hx;obtain⟨y1,y2⟩:=bM hy;refine⟨?_,y,y1,y2⟩
  show(FY w.AH p).map bY=_
  rw[KR hp (y:=y) (by rw[<-y2];exact Xf h.ok.Yd (ADg y y1)),hyx];rfl
 refine h.step Bt rfl rfl (fun t=>t) ?_ (fun _ _ fin hb=> ?_) rfl rfl (AUF _) fun p d q a=>⟨q,a,id⟩
 ·rw[ea];exact Sf.ASF k h.a
 grind[Sf.ATH,Ge.mono]
theorem ADc{n:Int}(e:(Mt w n).2=0):Safe (Mt w n).1/\Grow w (Mt w n).1:=by
 have Bt:=ABf h.ok e;unfold Mt at e Bt|-
 try dsimp only at e Bt|-
 by_cases hn:Ak w n=0
 rotate_left
 ·simp_all
 rw[AKT (by omega)]at e Bt|-;simp only at e Bt|-;obtain⟨n1,n2,n3⟩:=Eb hn;have ji:=(h.ok.node hn).1;have AB2:Ge (AU w) (fun m=>m∈Jx n w.lost)↔holds (AU w) (Jx n w.lost)=true:=Ge.list (I1 h.ok.lost ji);have hor:(fun m=>m∈Jx n w.lost)=fun m=>(m∈w.lost\/m=n):=by funext m;exact propext ⟨fun hh=>(O9.1 hh).symm,fun hh=>O9.2 hh.symm⟩
 rw[hor]at AB2;have fw:w.AH.map (fun x=>(CJ (AU w) x n).1)=w.AH.map fun x=>(x.1,x.2.1.map (DA n),()):=AUI fun x hx=>(Vm (h.ok.AH x hx).1).2
 have fm:w.Bg.map (fun m=>(CF (AU w) m n).1)=w.Bg.map fun m=>(m.1,m.2.1,m.2.2.1,m.2.2.2.1,m.2.2.2.2.1,m.2.2.2.2.2.1.map fun l=>less l [n],()):=AUI fun m hm=>(gT (h.ok.Bg m hm).1).2
 rw[fw,fm]at Bt|-;have gO:∀m,BH (w.BJ (w.Ao.set n.toNat Cz)) m=if m=n then Cz else BH w m:=fun m=>GW ⟨n1,n2⟩
 generalize hv:((((w.BJ (w.Ao.set n.toNat Cz)).Em (Jx n w.lost)).BG (w.AH.map fun x=>(x.1,x.2.1.map (DA n),()))).Br (w.Bg.map fun m=>(m.1,m.2.1,m.2.2.1,m.2.2.2.1,m.2.2.2.2.1,m.2.2.2.2.2.1.map fun l=>less l [n],()))).FU (w.ER||holds (AU w) (Jx n w.lost))=v at Bt|-
 have ea:Bv v=(Bv w).Wx (Ge (AU w)) n:=by
  subst hv;refine St.eq rfl rfl rfl rfl rfl hor ?_ ?_ ?_ ?_ ?_ ?_ ?_ rfl
  ·show((w.ER||holds (AU w) (Jx n w.lost))=true)=(w.ER=true\/Ge (AU w) fun m=>m∈w.lost\/m=n)
   simp_all
  ·funext m
   show kS (BH (w.BJ (w.Ao.set n.toNat Cz)) m).1=if m=n then fun _=>none else kS (BH w m).1
   rw[gO];by_cases em:m=n
   ·rw[AKJ em,AKJ em];rfl
   simp_all
  ·funext m x
   show Tf (BH (w.BJ (w.Ao.set n.toNat Cz)) m).2.1 x=(m≠n/\Tf (BH w m).2.1 x)
   rw[gO];by_cases em:m=n
   ·rw[AKJ em]
    exact propext ⟨fun⟨y,hy,_⟩=>by simp_all,fun hh=>absurd em hh.1⟩
   simp_all
  ·funext m
   show(BH (w.BJ (w.Ao.set n.toNat Cz)) m).2.2.1=if m=n then 0 else(BH w m).2.2.1
   grind
  ·funext x
   show(∃y∈w.AH.map fun x=>(x.1,x.2.1.map (DA n),()),y.1=x)=(∃y∈w.AH,y.1=x)
   refine propext ⟨fun⟨y,hy,hx⟩=> ?_,fun⟨y,hy,hx⟩=>⟨_,AUV.2 ⟨y,hy,rfl⟩,hx⟩⟩;grind
  ·funext p
   show(FY (w.AH.map fun x=>(x.1,x.2.1.map (DA n),())) p).map bY=((FY w.AH p).map bY).map _
   rw[AAE (f:=fun x:AM=>(x.1,x.2.1.map (DA n),())) (g:=DA n) (fun _=>rfl) (fun _=>rfl)];cases FY w.AH p with
   |none=>rfl
   |some x=>exact congrArg some wS
  ·show(w.Bg.map _).head?.map f_=(w.Bg.head?.map f_).map _
   cases w.Bg with
   |nil=>rfl
   |cons m ms=>
    show some (f_ (m.1,m.2.1,m.2.2.1,m.2.2.2.1,m.2.2.2.2.1,m.2.2.2.2.2.1.map fun l=>less l [n],()))=some _
    refine congrArg some (Md.eq rfl rfl rfl rfl (by simp[f_]) ?_);funext p k;refine propext ⟨fun⟨a1,a2,l,hl,hk⟩=> ?_,fun⟨⟨a1,a2,l,hl,hk⟩,bg⟩=> ?_⟩
    ·replace hl:(m.2.2.2.2.2.1.map fun l=>less l [n])[(BD p-1).toNat]? =some l:=hl
     rw[ARb,ALL]at hl;obtain⟨l',jJ,rfl⟩:=hl;obtain⟨k1,k2⟩:=SY.1 hk;exact⟨⟨a1,a2,l',jJ,k1⟩,by simp_all⟩
    ·refine⟨a1,a2,less l [n],?_,SY.2 ⟨hk,by simp_all⟩⟩
     simp_all
 have et:v.ER=(w.ER||holds (AU w) (Jx n w.lost)):=by grind
 refine h.step Bt (by rw[<-hv];rfl) (by grind) (fun t=> ?_) ?_ (fun _ t fin hb=> ?_) ?_ ?_ ?_ ?_
 ·simp_all
 ·rw[ea];exact Sf.AS4 Ge.mono h.a
 ·rw[ea]
  refine Sf.AOS Ge.mono (fun hh=> ?_) h.a hb;rw[et,AB2.1 hh,Bool.or_true]at t;cases t
 ·rw[ea];rfl
 ·rw[ea];rfl
 ·rw[ea];exact AUF _
 ·exact fun p d q a=>⟨q,by rw[ea];exact a,id⟩
theorem ADH{n:Int}(e:(Mr w n).2=0):Safe (Mr w n).1/\Grow w (Mr w n).1:=by
 have Bt:=ABI h.ok e;unfold Mr at e Bt|-
 try dsimp only at e Bt|-
 by_cases h1:w.lost.contains n=true
 rotate_left
 ·simp_all
 rw[h1]at e Bt|-;simp only[AMy,AL4,AOK]at e Bt|-;by_cases hq:(Xh (AU w) w.Ao w.lost n (max ((w.Af.length:Int)-1) 0)).2=true
 rotate_left
 ·simp_all
 rw[hq]at Bt|-;simp only[AMy,AL4,AOK]at Bt|-;obtain⟨s1,s2,s3,s4⟩:=yk hq;rw[List.contains_eq_mem,ANK]at h1;have hnn:0<=n/\n<(w.1.length:Int):=(Ef.1 h.ok.lost).2.1 n h1;have hns:=h.ok.pj;have P7:0<=n/\n<(w.Ao.length:Int):=by omega
 generalize (Xh (AU w) w.Ao w.lost n (max ((w.Af.length:Int)-1) 0)).1=S at*
 have gO:∀m,BH (w.BJ (w.Ao.set n.toNat S)) m=if m=n then S else BH w m:=fun m=>GW P7
 have ea:Bv ((w.BJ (w.Ao.set n.toNat S)).Em (less w.lost [n]))=(Bv w).fill n (kS S.1) (max ((w.Af.length:Int)-1) 0):=by
  refine St.eq rfl rfl rfl rfl rfl ?_ rfl ?_ ?_ ?_ rfl rfl rfl rfl
  ·funext m
   show(m∈less w.lost [n])=(m∈w.lost/\m≠n)
   rw[SY,AUa]
  ·funext m
   show kS (BH (w.BJ (w.Ao.set n.toNat S)) m).1=if m=n then kS S.1 else kS (BH w m).1
   grind
  ·funext m x
   show Tf (BH (w.BJ (w.Ao.set n.toNat S)) m).2.1 x=(m≠n/\Tf (BH w m).2.1 x)
   rw[gO];by_cases em:m=n
   ·rw[AKJ em,s2]
    exact propext ⟨fun⟨y,hy,_⟩=>by simp_all,fun hh=>absurd em hh.1⟩
   simp_all
  ·funext m
   show(BH (w.BJ (w.Ao.set n.toNat S)) m).2.2.1=if m=n then max ((w.Af.length:Int)-1) 0 else(BH w m).2.2.1
   grind
 have k:Sf.wE (Bv w) n (kS S.1) (max ((w.Af.length:Int)-1) 0):=by
  refine⟨h1,Int.le_max_left _ _,fun p y hy=> ?_,fun m p x hm hx=> ?_⟩
  ·rw[s2]at hy
   obtain⟨e,he,rfl⟩:=S8 hy;obtain⟨e1,e2⟩:=HC he;rcases rX e1 with e3|⟨s,e3,e4⟩
   ·simp_all
   ·obtain⟨j,hj,j1,j2⟩:=gw.1 e3
    rw[AUX]at j2;refine⟨(j:Int),j2,?_⟩
    show kS (BH w (j:Int)).1 p=_
    unfold BH storeAt;rw[AKJ ⟨by omega,by omega⟩,ANJ,KZ hj,j1,<-e2];exact bE (MJ (s4 s e3).ft e4)
  ·replace hx:kS (BH w m).1 p=some x:=hx
   obtain⟨e,he,rfl⟩:=S8 hx;obtain⟨e1,e2⟩:=HC he;unfold BH at e1;by_cases hmn:0<=m/\m<(w.Ao.length:Int)
   rotate_left
   ·grind
   rw[AKJ hmn]at e1;have wq:m.toNat<w.Ao.length:=by omega
   obtain⟨y,y1,y2⟩:=uJ (ss:=others w.lost 0 w.Ao) (k:=[]) (s:=storeAt w m) (e:=e) List.Pairwise.nil (gw.2 ⟨m.toNat,wq,by grind[storeAt,KZ],by rw[AUX,AVX hmn.1];exact hm⟩) e1;rw[s2,<-e2];exact⟨_,bE y1,y2⟩
 refine h.step Bt rfl rfl (fun t=>t) ?_ (fun _ _ fin hb=> ?_) ?_ ?_ ?_ ?_
 ·rw[ea];exact Sf.ATL k h.a
 ·rw[ea];exact Sf.AOq Ge.mono k h.a hb
 ·rfl
 ·rfl
 ·rw[ea];exact AUF _
 ·exact fun p d q a=>⟨q,by rw[ea];exact a,id⟩
end
end Go.M
end
section
namespace Go.Sf
section
variable{H:(Int->Prop)->Prop} (hm:∀S T:Int->Prop,(∀n,S n->T n)->H S->H T) {ep off:Int->Int} {Pl:Int->Prop} {fin:Int->Oc}
open Classical in
noncomputable def St.tell (H:(Int->Prop)->Prop) (s:St) (n:Int) (D:Int->Prop):St:=
 { s with wd:=fun q=>(s.wd q).map fun w=>if D q then⟨w.data,fun k=>w.o7 k\/k=n,H (fun k=>w.o7 k\/k=n)⟩else w,HD:=fun q=>(s.HD q).map fun d=>(d.1,d.2\/(D q/\ ∃w,s.wd q=some w/\H (fun k=>w.o7 k\/k=n))) }
theorem ADw{s:St}{n:Int}{D:Int->Prop}(h:∀q,¬D q):s.tell H n D=s:=by
 have h1:(s.tell H n D).wd=s.wd:=by
  funext q
  show(s.wd q).map _=_
  simp_all
 have h2:(s.tell H n D).HD=s.HD:=by
  funext q
  show(s.HD q).map _=_
  simp_all
 unfold St.tell at*;simp_all
theorem AGb{s:St}{p n:Int}{w:Wd}{D:Int->Prop}(hp:D p)(hw:s.wd p=some w):s.tell H n D=(s.fA H p n w).tell H n (fun q=>D q/\q≠p):=by
 have h1:(s.tell H n D).wd=((s.fA H p n w).tell H n (fun q=>D q/\q≠p)).wd:=by
  funext q
  show(s.wd q).map _=(if q=p then some (⟨w.data,fun k=>w.o7 k\/k=n,H (fun k=>w.o7 k\/k=n)⟩:Wd)else s.wd q).map _
  grind
 have h2:(s.tell H n D).HD=((s.fA H p n w).tell H n (fun q=>D q/\q≠p)).HD:=by
  funext q
  show(s.HD q).map _=(if q=p then(s.HD p).map (fun d=>(d.1,d.2\/H (fun k=>w.o7 k\/k=n)))else s.HD q).map _
  by_cases e:q=p
  ·subst e
   rw[AKJ rfl];cases s.HD q with
   |none=>rfl
   |some v=>simp_all
  ·rw[AKT e]
   cases s.HD q with
   |none=>rfl
   |some v=>simp[e,St.fA]
 grind[St.tell,St.fA]
include hm in
theorem ql{n:Int}{T:Prop}:∀(L:AAC) {s:St} {D:Int->Prop},(∀q,D q->q∈L)->(∀p,D p-> ∃w,ACJ ep s p n w)->Gf H ep Pl s->(T->HX H ep off Pl s fin)->
  Gf H ep Pl (s.tell H n D)/\(T->HX H ep off Pl (s.tell H n D) fin)
 |[],s,D,hD,_,ha,hb=>by
  rw[ADw fun q hq=>by simpa using hD q hq];exact⟨ha,hb⟩
 |p::L,s,D,hD,hk,ha,hb=>by
  by_cases hp:D p
  ·obtain⟨w,kw⟩:=hk p hp
   rw[AGb hp kw.wd];refine ql L (fun q hq=> ?_) (fun q hq=> ?_) (AWJ kw ha) fun t=>AYI hm kw ha (hb t)
   ·rcases AOD.1 (hD q hq.1)with e|e
    ·exact absurd e hq.2
    ·exact e
   ·obtain⟨v,kv⟩:=hk q hq.1
    exact⟨v,by simp only[St.fA];rw[AKT hq.2];exact kv.wd,kv.open_,kv.node,kv.there,kv.free,kv.has⟩
  ·exact ql L (fun q hq=>by
    rcases AOD.1 (hD q hq)with e|e
    ·exact absurd hq (e▸hp)
    ·exact e) hk ha hb
def St.xN(s:St)(m:Md)(n:Int)(D:Int->Prop):St:={ s with md:=some { m with wrote:=fun q k=>m.wrote q k\/(D q/\k=n) } }
theorem qB{n:Int}{T:Prop}:∀(L:AAC) {s:St} {m:Md} {D:Int->Prop},(∀q,D q->q∈L)->s.md=some m->(∀p,D p->m.pl/\s.nodes m.ep n/\ ¬s.lost n/\s.kept n p=some (Vh s.len m p))->Gf H ep Pl s->(T->HX H ep off Pl s fin)->
  Gf H ep Pl (s.xN m n D)/\(T->HX H ep off Pl (s.xN m n D) fin)
 |[],s,m,D,hD,TH,_,ha,hb=>by
  have e:s.xN m n D=s:=by
   have:(fun q k=>m.wrote q k\/(D q/\k=n))=m.wrote:=by
    simp_all
   unfold St.xN;rw[this];cases s;simp_all
  simp_all
 |p::L,s,m,D,hD,TH,hk,ha,hb=>by
  by_cases hp:D p
  ·obtain⟨k1,k2,k3,k4⟩:=hk p hp
   have e:s.xN m n D=(s.wrt m p n).xN { m with wrote:=fun q k=>m.wrote q k\/(q=p/\k=n) } n (fun q=>D q/\q≠p):=by
    grind[St.xN,St.wrt]
   rw[e];refine qB L (fun q hq=> ?_) rfl (fun q hq=> ?_) (AXW TH ha) fun t=>AXC TH k1 k2 k3 k4 (hb t)
   ·grind
   ·exact hk q hq.1
  ·exact qB L (fun q hq=>by
    grind) TH hk ha hb
end
end Go.Sf
namespace Go.M
open Go.M.H (AJ AO Av Ac AA CX AQ BI AM AZ As Az BR)
open Go.Sf (Oc Wd Md St Rd tg QO Gf HX VY)
def yC:AAC:=(List.range 31).flatMap fun e:Nat=>(List.range 61).map fun o:Nat=>EN (e:Int) (o:Int)
theorem uZ{p:Int}(h:Pl p):p∈yC:=by
 obtain⟨h1,h2,h3⟩:=CM h;unfold yC;rw[List.mem_flatMap];refine⟨(AN p).toNat,List.mem_range.2 (by omega),AUV.2 ⟨(BD p).toNat,List.mem_range.2 (by omega),?_⟩⟩;grind
theorem Ug{c:CP}{s:AO}{ep n:Int}:∀{l:List BI} {o:Int} {i:Nat},(BL c s ep n o l)[i]? =(l[i]?).map fun x=>if !x.2.2.1&&Jy s (EN ep (o+i))then El c n x else x
 |[],o,i=>by rfl
 |x::l,o,0=>by simp[BL]
 |x::l,o,i+1=>by
  simp only[BL,AWK];rw[Ug (l:=l),show o+1+(i:Int)=o+((i+1:Nat):Int)by omega]
theorem gF{m:Av}{s:AO}{n:Int}:∀{l:List AAC} {o:Int} {i:Nat},(EF m s n o l)[i]? =(l[i]?).map fun x=>if N_ m s (o+i)then Jx n x else x
 |[],o,i=>by rfl
 |x::l,o,0=>by simp[EF]
 |x::l,o,i+1=>by
  simp only[EF,AWK];rw[gF (l:=l),show o+1+(i:Int)=o+((i+1:Nat):Int)by omega]
def turns(c:CP)(s:AO)(l:List CX)(n:Int)(ws:List AM)(p:Int):Bool:=
 ws.any fun x=>L9 s l n x&&(AN p==x.1&&(Qz (BL c s x.1 n 1 x.2.1) (BD p)&& !Qz x.2.1 (BD p)))
theorem cX{c:CP}{s:AO}{l:List CX}{n:Int}:∀{ws:List AM} {ss:List Ac},
  (FW false c s l n ws ss).2=ss.map fun t=>(t.1,t.2.1,t.2.2.1||turns c s l n ws t.1,())
 |[],ss=>by
  simp only[FW,turns,List.any_nil,AYd];simp_all
 |x::ws,ss=>by
  simp only[FW];split
  ·rename_i ht
   simp only;rw[cX,AVF];refine AUI fun t _=> ?_
   simp only[Function.comp,PE,turns,List.any_cons,ht,ANP,ARx,Bool.or_assoc]
  ·rename_i ht
   simp only;rw[cX];refine AUI fun t _=> ?_
   have ht':L9 s l n x=false:=by simp_all
   simp only[turns,List.any_cons,ht',AUG,ARx]
theorem AA5{g:Ac->Ac}(hg:∀t,(g t).1=t.1){l:List Ac}{q:Int}:Je (l.map g) q=(Je l q).map g:=by
 unfold Je;rw[List.find?_map];have:((fun s:Ac=>s.1==q)∘g)=fun s=>s.1==q:=by grind
 rw[this]
theorem Xw{l:List BI}{o:Int}(h:1<=o):Qz l o=true↔ ∃x,l[(o-1).toNat]? =some x/\x.2.2.1=true:=by
 unfold Qz;by_cases hl:o<=(l.length:Int)
 ·rw[Ai.2 ⟨h,hl⟩,ANP,List.getD,AKS (by omega)]
  simp
 ·rw[AUZ.2 (fun hh:BS o 1 (l.length:Int)=true=>hl (Ai.1 hh).2),AUG,AUT (by omega)]
  simp
theorem lB{c:CP}{n:Int}{x:BI}(h:Ay c (Jx n x.2.1)=true):bY (El c n x)=⟨(bY x).data,fun k=>(bY x).o7 k\/k=n,Ge c fun k=>(bY x).o7 k\/k=n⟩:=by
 have e:(fun k=>k∈Jx n x.2.1)=fun k=>(bY x).o7 k\/k=n:=by funext k;exact propext ⟨fun hh=>(O9.1 hh).symm,fun hh=>O9.2 hh.symm⟩
 refine Wd.eq rfl e ?_
 rw[<-e];exact propext (Ge.list h).symm
section
variable{w:AA} (h:Safe w)
include h
theorem ADl{n:Int}(e:(KC false w n).2=0):Safe (KC false w n).1/\Grow w (KC false w n).1:=by
 have Bt:=AA7 h.ok e;unfold KC at e Bt|-
 try dsimp only at e Bt|-
 by_cases hn:Ak w n=0
 rotate_left
 ·simp_all
 rw[AKT (by omega)]at e Bt|-;by_cases hq:(Co (storeAt w n)).2=true
 rotate_left
 ·simp_all
 simp only[hq,AMy,AL4,AOK]at Bt|-;obtain⟨s1,s2,s3⟩:=K8 (k:=1048575) hq;obtain⟨n1,n2,n3⟩:=Eb hn;have ji:=(h.ok.node hn).1;have hs:=Ts hn;have hsy:(Co (storeAt w n)).1=(EK (storeAt w n) 1048575).1:=rfl;rw[<-hsy]at s2 s3
 generalize (Co (storeAt w n)).1=S at*
 have hk:QO ((Bv w).kept n) (kS S.1) ((Bv w).late n):=by
  show QO (kS (BH w n).1) _ (Tf (BH w n).2.1)
  rw[hs,s3];exact AG3 s1.ft fun e=>RS
 have yt:=hI (w:=w) (n:=n) (s:=S) ⟨n1,n2⟩ (by rw[s3]) (by simp_all)
 generalize hw1:w.BJ (w.Ao.set n.toNat S)=w1 at yt
 obtain⟨t1,_⟩:=fU h.ok (all:=false) (s:=S) ji (ws:=w.AH) (ss:=w.BE);rw[t1,cX]at Bt|-;have wds:∀x∈w.AH,∀y∈x.2.1,Ay (AU w) (Jx n y.2.1)=true/\y.2.2.1=holds (AU w) y.2.1:=fun x hx y hy=>
  ⟨I1 ((h.ok.AH x hx).1.words y hy).2.1 ji,((h.ok.AH x hx).1.words y hy).2.2⟩
 have tQ:(Bv w1).kept n=kS S.1:=by rw[yt];show(if n=n then kS S.1 else _)=_;simp_all
 have hsl:(Bv w1).sl n=S.2.2.1:=by
  rw[yt]
  show(BH w n).2.2.1=_
  simp_all
 let D:Int->Prop:=fun p=> ∃x y,Pl p/\Xt w.AH (AN p)=some x/\L9 S w.Af n x=true/\x.2.1[(BD p-1).toNat]? =some y/\y.2.2.1=false/\Jy S p=true
 have hDk:∀p,D p-> ∃v,Sf.ACJ AN (Bv w1) p n v:=fun p ⟨x,y,d1,d2,d3,d4,d5,d6⟩=>by
  unfold L9 at d3;simp only[ALz,ANK]at d3;obtain⟨g1,g2⟩:=bM d2;refine⟨bY y,?_,?_,?_,?_,?_,?_⟩
  ·rw[yt]
   show(FY w.AH p).map bY=_
   rw[KR d1 d2,d4];rfl
  ·show¬(y.2.2.1=true)
   simp_all
  ·rw[yt]
   show n∈Aq w.Af (AN p)
   simp_all
  ·rw[yt];exact n3
  ·omega
  ·rw[tQ]
   unfold Jy at d6;cases hg:Ew p S.1 with
   |none=>simp_all
   |some z=>exact⟨_,bE hg⟩
 have ea2:Bv ((w1.BG (w.AH.map fun x=>if L9 S w.Af n x then(x.1,BL (AU w) S x.1 n 1 x.2.1,())else x)).DF (w.BE.map fun t=>(t.1,t.2.1,t.2.2.1||turns (AU w) S w.Af n w.AH t.1,())))=(Bv w1).tell (Ge (AU w)) n D:=by
  have e1:∀p,(Bv w1).wd p=(FY w.AH p).map bY:=fun p=>by rw[yt];rfl
  have e2:∀p,(Bv w1).HD p=(Je w.BE p).map seS:=fun p=>by rw[yt];rfl
  refine St.eq rfl rfl rfl rfl rfl rfl rfl rfl rfl rfl ?_ ?_ rfl ?_
  ·rw[show((Bv w1).tell (Ge (AU w)) n D).wo=(Bv w1).wo from rfl,yt]
   funext q
   show(∃y∈w.AH.map fun x=>if L9 S w.Af n x then(x.1,BL (AU w) S x.1 n 1 x.2.1,())else x,y.1=q)=(∃y∈w.AH,y.1=q)
   refine propext ⟨fun⟨y,hy,hx⟩=> ?_,fun⟨y,hy,hx⟩=>⟨_,AUV.2 ⟨y,hy,rfl⟩,?_⟩⟩
   all_goals grind
  ·funext p
   show(FY (w.AH.map fun x=>if L9 S w.Af n x then(x.1,BL (AU w) S x.1 n 1 x.2.1,())else x) p).map bY=((Bv w1).wd p).map _
   rw[e1];by_cases hp:Pl p
   rotate_left
   ·grind[lP]
   have ABK:Xt (w.AH.map fun x=>if L9 S w.Af n x then(x.1,BL (AU w) S x.1 n 1 x.2.1,())else x) (AN p)=(Xt w.AH (AN p)).map fun x=>if L9 S w.Af n x then(x.1,BL (AU w) S x.1 n 1 x.2.1,())else x:=by
    unfold Xt;rw[List.find?_map];congr 2;grind
   cases hx:Xt w.AH (AN p)with
   |none=>
    grind[uA]
   |some x=>
    rw[hx]at ABK;rw[KR hp hx,KR hp ABK];obtain⟨g1,g2⟩:=bM hx;have o1:=qN hp;dsimp only;by_cases ht:L9 S w.Af n x=true
    ·rw[AKJ ht]
     show((BL (AU w) S x.1 n 1 x.2.1)[(BD p-1).toNat]?).map bY=_
     rw[Ug];have mY:EN x.1 (1+(((BD p-1).toNat:Nat):Int))=p:=by
      rw[AVX (by omega),g2,show 1+(BD p-1)=BD p by omega];exact(CM hp).2.2
     rw[mY];cases hy:x.2.1[(BD p-1).toNat]? with
     |none=>rfl
     |some y=>
      simp only[AVW];refine congrArg some ?_
      by_cases hd:(!y.2.2.1&&Jy S p)=true
      ·rw[AKJ hd]
       simp only[ALz,ATc]at hd;rw[AKJ (show D p from⟨x,y,hp,hx,ht,hy,hd.1,hd.2⟩)];exact lB (wds x g1 y (AOA hy)).1
      ·rw[AKT hd,AKT]
       grind
    ·rw[AKT ht]
     cases hy:x.2.1[(BD p-1).toNat]? with
     |none=>rfl
     |some y=>
      simp only[AVW];rw[AKT];grind
  ·funext p
   show(Je (w.BE.map fun t=>(t.1,t.2.1,t.2.2.1||turns (AU w) S w.Af n w.AH t.1,())) p).map seS=((Bv w1).HD p).map _
   rw[e2,AA5 (g:=fun t:Ac=>(t.1,t.2.1,t.2.2.1||turns (AU w) S w.Af n w.AH t.1,())) (fun _=>rfl)];cases gO:Je w.BE p with
   |none=>rfl
   |some t=>
    obtain⟨g1,g2⟩:=ZH gO;have hp:Pl p:=by rw[<-g2];exact(h.ok.BE t g1).1
    have o1:=qN hp;simp only[AVW];refine congrArg some ?_
    show(t.2.1,(t.2.2.1||turns (AU w) S w.Af n w.AH t.1)=true)=(t.2.1,t.2.2.1=true\/(D p/\ ∃v,(Bv w1).wd p=some v/\Ge (AU w) fun k=>v.o7 k\/k=n))
    refine congrArg (Prod.mk t.2.1) ?_
    rw[ATB,g2];refine propext (or_congr Iff.rfl ⟨fun ht=> ?_,fun⟨⟨x,y,d1,d2,d3,d4,d5,d6⟩,v,v1,v2⟩=> ?_⟩)
    ·unfold turns at ht
     rw[List.any_eq_true]at ht;obtain⟨x,hx,hh⟩:=ht;simp only[ALz,AUM,ATc]at hh;obtain⟨k1,k2,k3,k4⟩:=hh;rw[Xw o1]at k3;obtain⟨z,z1,z2⟩:=k3;rw[Ug]at z1;rw[ALL]at z1;obtain⟨y,y1,y2⟩:=z1;have mY:EN x.1 (1+(((BD p-1).toNat:Nat):Int))=p:=by
      rw[AVX (by omega),<-k2,show 1+(BD p-1)=BD p by omega];exact(CM hp).2.2
     rw[mY]at y2;have hy0:y.2.2.1=false:=by
      cases hy0:y.2.2.1 with
      |false=>rfl
      |true=>
       have:Qz x.2.1 (BD p)=true:=(Xw o1).2 ⟨y,y1,hy0⟩;simp_all
     have hwx:Xt w.AH (AN p)=some x:=by rw[k2];exact Xf h.ok.Yd hx
     by_cases hnw:Jy S p=true
     ·rw[hy0,hnw]at y2
      simp only[ASm,ANP,ATt]at y2;refine⟨⟨x,y,hp,hwx,k1,y1,hy0,hnw⟩,bY y,?_,?_⟩
      ·rw[e1,KR hp hwx,y1];rfl
      ·have hS:=lB (c:=AU w) (n:=n) (x:=y) (wds x hx y (AOA y1)).1
       have hd:(bY (El (AU w) n y)).done:=by rw[y2];exact z2
       simp_all
     simp_all
    ·obtain⟨g3,g4⟩:=bM d2
     have mY:EN x.1 (1+(((BD p-1).toNat:Nat):Int))=p:=by
      rw[AVX (by omega),g4,show 1+(BD p-1)=BD p by omega];exact(CM hp).2.2
     rw[e1,KR d1 d2,d4]at v1;cases v1;have hS:=lB (c:=AU w) (n:=n) (x:=y) (wds x g3 y (AOA d4)).1;unfold turns;rw[List.any_eq_true];refine⟨x,g3,?_⟩;rw[d3,g4];simp only[ANP,AXu,ALz,ATc];refine⟨(Xw o1).2 ⟨El (AU w) n y,?_,?_⟩,?_⟩
     ·rw[Ug,d4,<-g4,mY,AVW,d5,d6]
      rfl
     ·show(bY (El (AU w) n y)).done
      simp_all
     ·rw[AUZ]
      intro hd;obtain⟨y',y1,y2⟩:=(Xw o1).1 hd;simp_all
 have hDl:∀q,D q->q∈yC:=fun q ⟨_,_,d1,_⟩=>uZ d1
 generalize hw2:(w1.BG (w.AH.map fun x=>if L9 S w.Af n x then(x.1,BL (AU w) S x.1 n 1 x.2.1,())else x)).DF (w.BE.map fun t=>(t.1,t.2.1,t.2.2.1||turns (AU w) S w.Af n w.AH t.1,()))=w2 at ea2
 have i2:∀(T:Prop) (fin:Int->Oc),(T->HX (Ge (AU w)) AN BD Pl (Bv w) fin)->Gf (Ge (AU w)) AN Pl (Bv w2)/\(T->HX (Ge (AU w)) AN BD Pl (Bv w2) fin):=fun T fin hb=>by
  rw[ea2];refine Sf.ql Ge.mono yC hDl hDk ?_ fun t=> ?_
  ·rw[yt];exact Sf.qF hk h.a
  ·rw[yt];exact Sf.pO Ge.mono hk h.a (hb t)
 have em:w2.Bg=w.Bg:=by grind
 have hf:(Bv w2).len=(w.Af.length:Int)/\(Bv w2).nodes=(Bv w).nodes/\(Bv w2).lost=(Bv w).lost/\(Bv w2).kept n=kS S.1:=by
  refine⟨by rw[<-hw2,<-hw1];rfl,by rw[<-hw2,<-hw1];rfl,by rw[<-hw2,<-hw1];rfl,?_⟩;rw[ea2];exact tQ
 have i3:∀(T:Prop) (fin:Int->Oc),(T->HX (Ge (AU w)) AN BD Pl (Bv w) fin)->Gf (Ge (AU w)) AN Pl (Bv (w2.Br (w.Bg.map (HQ S w.Af n))))/\(T->HX (Ge (AU w)) AN BD Pl (Bv (w2.Br (w.Bg.map (HQ S w.Af n)))) fin):=fun T fin hb=>by
  obtain⟨ia,ib⟩:=i2 T fin hb;cases hms:w.Bg with
  |nil=>
   grind
  |cons m ms=>
   have TH:(Bv w2).md=some (f_ m):=eG (ms:=ms) (by simp_all);have hm0:=h.ok.Bg m (by simp_all);by_cases hc:(Aq w.Af m.2.1).contains n=true
   rotate_left
   ·have e3:Bv (w2.Br ((m::ms).map (HQ S w.Af n)))=Bv w2:=by
     refine St.eq rfl rfl rfl rfl rfl rfl rfl rfl rfl rfl rfl rfl ?_ rfl
     rw[TH]
     show some (f_ (HQ S w.Af n m))=some (f_ m)
     unfold HQ;simp_all
    simp_all
   let E:Int->Prop:=fun p=>Pl p/\AN p=m.2.1/\(BD p-1).toNat<m.2.2.2.2.2.1.length/\N_ m S (BD p)=true
   have e3:Bv (w2.Br ((m::ms).map (HQ S w.Af n)))=(Bv w2).xN (f_ m) n E:=by
    refine St.eq rfl rfl rfl rfl rfl rfl rfl rfl rfl rfl rfl rfl ?_ rfl
    show some (f_ (HQ S w.Af n m))=some _
    unfold HQ;rw[AKJ hc];have hl:=(bp (c:=AU w) (m:=m) (s:=S) ji (l:=m.2.2.2.2.2.1) (o:=1) hm0.1.wrote).2;refine congrArg some (Md.eq rfl rfl rfl rfl (by grind[f_]) ?_);funext p k
    show(Pl p/\AN p=m.2.1/\ ∃l,(EF m S n 1 m.2.2.2.2.2.1)[(BD p-1).toNat]? =some l/\k∈l)=((Pl p/\AN p=m.2.1/\ ∃l,m.2.2.2.2.2.1[(BD p-1).toNat]? =some l/\k∈l)\/(E p/\k=n))
    rw[gF];refine propext ⟨fun⟨a1,a2,l,hl,hk⟩=> ?_,fun hh=> ?_⟩
    ·have o1:=qN a1
     rw[ALL]at hl;obtain⟨l',jJ,e'⟩:=hl;rw[AVX (by omega),show 1+(BD p-1)=BD p by omega]at e';by_cases rv:N_ m S (BD p)=true
     ·rw[AKJ rv]at e'
      subst e';rcases O9.1 hk with rfl|hk
      ·grind
      simp_all
     simp_all
    ·rcases hh with⟨a1,a2,l,hl,hk⟩|⟨⟨a1,a2,a3,a4⟩,rfl⟩
     ·refine⟨a1,a2,_,by rw[hl];rfl,?_⟩
      split
      ·exact O9.2 (.inr hk)
      omega
     ·have o1:=qN a1
      refine⟨a1,a2,_,by rw[AKS a3];rfl,?_⟩;rw[AVX (by omega),show 1+(BD p-1)=BD p by omega];dsimp only;rw[AKJ a4];exact O9.2 (.inl rfl)
   rw[e3];refine Sf.qB yC (fun q hq=>uZ hq.1) TH (fun p ⟨a1,a2,a3,a4⟩=> ?_) ia ib;unfold N_ at a4;cases pJ:Dp m (BD p)with
   |none=>simp_all
   |some en=>
    rw[pJ]at a4;simp only[AUM]at a4;obtain⟨⟨c1,_⟩,c2,c3⟩:=nC hm0.2.1 pJ;have mY:EN m.2.1 (BD p)=p:=by rw[<-a2];exact(CM a1).2.2
    rw[mY]at c2 c3;rw[hf.1,hf.2.1,hf.2.2.1,hf.2.2.2];refine⟨c1,by show n∈Aq w.Af m.2.1;simp_all,n3,?_⟩;grind[bE]
 have ev:((w1.BG (w.AH.map fun x=>if L9 S w.Af n x then(x.1,BL (AU w) S x.1 n 1 x.2.1,())else x)).DF (w.BE.map fun t=>(t.1,t.2.1,t.2.2.1||turns (AU w) S w.Af n w.AH t.1,()))).Br (w.Bg.map (HQ S w.Af n))=w2.Br (w.Bg.map (HQ S w.Af n)):=by rw[hw2]
 rw[hw1,ev]at Bt;refine h.step Bt (by rw[<-hw2,<-hw1];rfl) (by grind) (fun t=>by grind) (i3 False (fun _=>⟨0,0,true,[]⟩) fun f=>f.elim).1 (fun _ _ fin hb=>(i3 True fin fun _=>hb).2 trivial) (by rw[<-hw2,<-hw1];rfl) (by rw[<-hw2,<-hw1];rfl) (by rw[<-hw2,<-hw1];exact AUF _) ?_
 intro p d q a1;have:(Bv (w2.Br (w.Bg.map (HQ S w.Af n)))).HD p=(Bv w2).HD p:=rfl;rw[this,ea2]
 show∃q',((Bv w1).HD p).map _=some (d,q')/\(q->q')
 rw[yt]
 show∃q',((Bv w).HD p).map _=some (d,q')/\(q->q')
 grind
end
end Go.M
end
section
namespace Go.M
open Go.M.H (AJ AO Av Ac AA CX AQ BI AM AZ As Az BR)
open Go.Sf (Oc Wd Md St Rd tg QO Gf HX VY)
theorem AMe{p:Int}{l:List AJ}{e:AJ}(h:Ew p l=some e):e.1=p:=(HC h).2
theorem ADo{w:AA}{p n:Int}{e:AJ}(h:Ew p (storeAt w n).1=some e):answer w p n=(n,true,e.1,e.2.1,e.2.2.1,e.2.2.2.1,()):=by
 unfold answer;rw[h]
theorem ACY{w:AA}{p n:Int}(h:Ew p (storeAt w n).1=none):answer w p n=(n,false,0,0,false,[],()):=by
 unfold answer;rw[h]
theorem ZW{w:AA}{s:AAC}{p:Int}(hp:∀n e,Ew p (storeAt w n).1=some e->Ei e=true):∀(ns:AAC) (b:Option AJ),
  (∀x,Fu s p b (ns.map (answer w p))=some x->(b=some x\/ ∃n∈ns,n∈s/\Ew p (storeAt w n).1=some x))/\
  (∀x,b=some x-> ∃y,Fu s p b (ns.map (answer w p))=some y/\x.2.1<=y.2.1)/\
  ∀n x,n∈ns->n∈s->Ew p (storeAt w n).1=some x-> ∃y,Fu s p b (ns.map (answer w p))=some y/\x.2.1<=y.2.1
 |[],b=>⟨fun x h=> .inl h,fun x h=>⟨x,h,AUF _⟩,fun n x h=>by simp at h⟩
 |n::ns,b=>by
  simp only[AVq,Fu];cases hg:Ew p (storeAt w n).1 with
  |none=>
   rw[ACY hg];simp only[AUG,AL4,AOK];obtain⟨h1,h2,h3⟩:=ZW (s:=s) hp ns b;grind
  |some e=>
   have he:Vg (n,true,e.1,e.2.1,e.2.2.1,e.2.2.2.1,())=e:=rfl;rw[ADo hg,he];have PG:=AMe hg;by_cases hs:n∈s
   ·rw[show(true&&(s.contains n&&(Ei e&&e.1==p)))=true by grind,AKJ rfl]
    obtain⟨h1,h2,h3⟩:=ZW (s:=s) hp ns (some (match b with|some x=>better x e|none=>e));refine⟨fun x hx=> ?_,fun x hx=> ?_,fun m x hm hsm hx=> ?_⟩
    ·grind[Option.some.injEq,better]
    ·subst hx
     obtain⟨y,y1,y2⟩:=h2 _ rfl;grind[better]
    ·rcases AOD.1 hm with rfl|hm
     ·rw[hg]at hx;cases hx
      obtain⟨y,y1,y2⟩:=h2 _ rfl;grind[better]
     grind
   ·rw[show(true&&(s.contains n&&(Ei e&&e.1==p)))=false by simp[hs],AKT (by simp)]
    obtain⟨h1,h2,h3⟩:=ZW (s:=s) hp ns b;grind
def YF(e:As):Bool:=BS e.1 1 3
structure gX (ss:List Ac) (r:AZ):Prop where
 ft:(r.2.2.1.filter YF).Pairwise fun a b=>a.2.1<b.2.1
 below:∀e∈r.2.2.1,YF e=true->Pl e.2.1/\e.2.1<EN r.1 r.2.1
 HD:∀e∈r.2.2.1,e.1=1-> ∃s∈ss,s.1=e.2.1/\s.2.1=e.2.2.1
def ACO(r:AZ):Prop:= ∀e∈r.2.2.1,e.1≠3
theorem wD{l:List As}{ev:As}{p:Int}(h:uE l p=none\/ev.2.1≠p\/ev.1≠1):uE (l++[ev]) p=if ev.1=1/\ev.2.1=p then some ev.2.2.1 else uE l p:=by
 unfold uE at*;grind
theorem APv{p:Int}{e o:Int}(hp:Pl p)(ho:1<=o/\o<=100):p<EN e o↔AN p<e\/(AN p=e/\BD p<o):=by
 obtain⟨h1,h2,h3⟩:=CM hp;grind[EN]
theorem mT{c:CP}{g:AQ}{sure:Int}{r:AZ}{l:List Az}(h:(B9 c g sure r l).2=0):
  ROk c g/\AGv r/\Ay c (l.map fun a=>a.1)=true/\r.1<=g.1.length/\
  (
   (g.2.1>=EN r.1 r.2.1/\(B9 c g sure r l).1=(AN g.2.1,BD g.2.1+1,r.2.2.1++[(5,g.2.1,[],())],()))\/
   (g.2.1<EN r.1 r.2.1/\(G4 g.1 r.1).2.1=true/\r.2.1>(G4 g.1 r.1).2.2.1/\(B9 c g sure r l).1=(r.1+1,1,r.2.2.1++[(4,r.1+1,[],())],()))\/
   (g.2.1<EN r.1 r.2.1/\((G4 g.1 r.1).2.1=true->r.2.1<=(G4 g.1 r.1).2.2.1)/\((G4 g.1 r.1).2.1=false->r.2.1<=sure)/\r.2.1<=60/\Jo c (G4 g.1 r.1).1 ((l.map fun a=>a.1).filter (G4 g.1 r.1).1.contains)=true/\
    (B9 c g sure r l).1=(r.1,r.2.1+1,r.2.2.1++[Hm (EN r.1 r.2.1) (Fu (G4 g.1 r.1).1 (EN r.1 r.2.1) none l)],()))):=by
 unfold B9 at h|-;by_cases c1:(!(NC c g&&(Xk r&&Ay c (l.map fun a=>a.1))))=true
 ·simp_all
 rw[AKT c1]at h|-;have c1':NC c g=true/\Xk r=true/\Ay c (l.map fun a=>a.1)=true:=by
  simp_all
 by_cases c2:(decide (r.1>g.1.length)||decide (r.2.2.1.length=120))=true
 ·simp_all
 rw[AKT c2]at h|-;have hle:r.1<=g.1.length:=by
  simp_all
 refine⟨JF.1 c1'.1,RQ.1 c1'.2.1,c1'.2.2,hle,?_⟩;dsimp only at h|-;by_cases c3:g.2.1>=EN r.1 r.2.1
 ·simp_all
 rw[AKT c3]at h|-
 right
 have c3':g.2.1<EN r.1 r.2.1:=by omega
 rw[show g.1.getD (r.1-1).toNat Gd=G4 g.1 r.1 from rfl]at h|-;grind
theorem qj:∀(l:List BI) (i:Nat),i<V_ l-> ∃x,l[i]? =some x/\x.2.2.1=true
 |[],i,h=>by simp[V_]at h
 |x::l,i,h=>by
  unfold V_ at h;split at h
  ·rename_i hx
   cases i with
   |zero=>simp_all
   |succ i=>exact qj l i (by omega)
  omega
structure Reached (w:AA):Prop where
 safe:Safe w
 out:∀r∈w.AX,gX w.BE r
 whole:w.ER=false-> ∀r∈w.AX,ACO r
theorem UF{s:Ac}:∀{l:List Ac},T4 (fun s:Ac=>s.1) l->s∈l->Je l s.1=some s
 |[],_,h=>by simp at h
 |y::l,ha,h=>by
  simp only[T4,APg]at ha;unfold Je;rw[AU_];rcases AOD.1 h with rfl|h
  ·rw[AXu]
  ·rw[AOV.2 (fun e=>by grind)]
   exact UF ha.2 h
theorem Grow.mem{w v:AA}(h:Grow w v)(hw:OG w){s:Ac}(hs:s∈w.BE):∃t∈v.BE,t.1=s.1/\t.2.1=s.2.1/\(s.2.2.1=true->t.2.2.1=true):=by
 obtain⟨q',e,h2⟩:=h s.1 s.2.1 (s.2.2.1=true) (by
  show(Je w.BE s.1).map seS=_
  rw[UF hw.Vu hs];rfl)
 replace e:(Je v.BE s.1).map seS=some (s.2.1,q'):=e
 rw[ALL]at e;obtain⟨t,e1,e2⟩:=e;grind[ZH,seS,Prod.mk.injEq]
theorem gX.grow{w v:AA}(h:Grow w v)(hw:OG w){r:AZ}(k:gX w.BE r):gX v.BE r:=
 ⟨k.ft,k.below,fun e he h1=>by
  obtain⟨s,s1,s2,s3⟩:=k.HD e he h1;obtain⟨t,t1,t2,t3,_⟩:=h.mem hw s1;grind⟩
theorem Reached.of{w v:AA}(h:Reached w)(k:Safe v/\Grow w v)(hr:v.AX=w.AX)(ht:v.ER=false->w.ER=false):Reached v:=
 ⟨k.1,fun r hm=>(h.out r (by simp_all)).grow k.2 h.safe.ok,fun hv r hm=>h.whole (ht hv) r (by simp_all)⟩
theorem yG{ss:List Ac}{r:AZ}(k:gX ss r){p:Int}(hp:EN r.1 r.2.1<=p):uE r.2.2.1 p=none:=by
 unfold uE;rw[AWx,List.find?_eq_none];intro e he hh;simp only[ALz,AUM]at hh;have:=(k.below e he (by unfold YF;rw[hh.1];rfl)).2;omega
theorem gX.app{ss:List Ac}{r:AZ}(k:gX ss r){e o:Int}{ev:As}(h1:EN r.1 r.2.1<=EN e o)(h2:YF ev=true->EN r.1 r.2.1<=ev.2.1/\Pl ev.2.1/\ev.2.1<EN e o)(h3:ev.1=1-> ∃s∈ss,s.1=ev.2.1/\s.2.1=ev.2.2.1):
  gX ss (e,o,r.2.2.1++[ev],()):=by
 refine⟨?_,fun x hx hp=> ?_,fun x hx h1=> ?_⟩
 ·show((r.2.2.1++[ev]).filter YF).Pairwise _
  rw[List.filter_append,List.pairwise_append];refine⟨k.ft,?_,fun a ha b hb=> ?_⟩
  ·grind
  ·obtain⟨b1,b2⟩:=AUJ.1 hb
   rw[AUa.1 b1]at b2|-;obtain⟨a1,a2⟩:=AUJ.1 ha;have:=(k.below a a1 a2).2;grind
 ·show Pl x.2.1/\x.2.1<EN e o
  rcases AOO.1 hx with hx|hx
  ·have:=k.below x hx hp
   grind
  simp_all
 ·rcases AOO.1 hx with hx|hx
  ·exact k.HD x hx h1
  simp_all
theorem mq{l:List CX}{e:Int}(h:1<=e/\e<=(l.length:Int)):Aq l e=(G4 l e).1:=by
 unfold Aq;rw[Ai.2 h,AKJ rfl];rfl
def Sm(w v:AA):Prop:=v.AX=w.AX/\(v.ER=false->w.ER=false)
theorem ATF{w:AA}(a:Int):Sm w (MU w a).1:=by
 unfold MU
 try dsimp only
 repeat' split
 all_goals exact⟨rfl,id⟩
theorem AU5{w:AA}(a:Int)(d:ACB):Sm w (doAdd w a d).1:=by
 unfold doAdd
 try dsimp only
 repeat' split
 all_goals exact⟨rfl,id⟩
theorem AJM{w:AA}(a b n:Int):Sm w (Iv w a b n).1:=by
 unfold Iv;unfold putAt
 try dsimp only
 repeat' split
 all_goals exact⟨rfl,id⟩
theorem AJd{w:AA}(n k:Int):Sm w (Is w n k).1:=by
 unfold Is;unfold putAt
 try dsimp only
 repeat' split
 all_goals exact⟨rfl,id⟩
theorem AT1{w:AA}(n:Int):Sm w (Mr w n).1:=by
 unfold Mr
 try dsimp only
 repeat' split
 all_goals exact⟨rfl,id⟩
theorem AOs{w:AA}:Sm w (Mc w ).1:=by
 unfold Mc
 try dsimp only
 repeat' split
 all_goals exact⟨rfl,id⟩
theorem AOc{w:AA}(n:Int):Sm w (Mh w n).1:=by
 unfold Mh
 try dsimp only
 repeat' split
 all_goals exact⟨rfl,id⟩
theorem ARQ{w:AA}:Sm w (Mx w ).1:=by
 unfold Mx
 try dsimp only
 repeat' split
 all_goals exact⟨rfl,id⟩
theorem AVY{w:AA}(b n:Int):Sm w (S5 w b n).1:=by
 unfold S5;unfold putAt
 try dsimp only
 repeat' split
 all_goals exact⟨rfl,id⟩
theorem ALr{w:AA}:Sm w (Iw w ).1:=by
 unfold Iw
 try dsimp only
 repeat' split
 all_goals exact⟨rfl,id⟩
theorem ASW{w:AA}(a:Int):Sm w (O4 w a).1:=by
 unfold O4
 try dsimp only
 repeat' split
 all_goals exact⟨rfl,id⟩
theorem ASl{w:AA}(a:Int):Sm w (Nb w a).1:=by
 unfold Nb
 try dsimp only
 repeat' split
 all_goals exact⟨rfl,id⟩
theorem AHb{w:AA}(n:Int):Sm w (It w n).1:=by
 unfold It;unfold putAt
 try dsimp only
 repeat' split
 all_goals exact⟨rfl,id⟩
theorem AT7{w:AA}(n:Int):Sm w (KC false w n).1:=by
 unfold KC;dsimp only
 repeat' split
 all_goals exact⟨rfl,id⟩
theorem ARD{w:AA}(n:Int):Sm w (Mt w n).1:=by
 unfold Mt;dsimp only;split
 ·exact⟨rfl,id⟩
 ·refine⟨rfl,fun h=> ?_⟩
  grind
theorem Rd.eq{a b:Rd}(h1:a.e=b.e)(h2:a.o=b.o)(h3:a.told=b.told):a=b:=by
 cases a;simp_all
section
variable{w:AA} (h:Reached w)
include h
theorem AAh{a k:Int}(e:(Ir w a k).2=0):Reached (Ir w a k).1/\Grow w (Ir w a k).1:=by
 have Bt:=vX h.safe.ok e;unfold Ir at e Bt|-
 try dsimp only at e Bt|-
 by_cases h1:BS a 0 1=true
 rotate_left
 ·simp_all
 rw[h1]at e Bt|-;simp only[AMy,AL4,AOK]at e Bt|-;rw[Ai]at h1;have hnr:=h.safe.ok.o8;have hrm:=BM (d:=AW) (l:=w.AX) (i:=a.toNat) (by omega)
 generalize w.AX.getD a.toNat AW=r at*
 by_cases h2:(B9 (AU w) (CA w) (Vb w r.1) r (answers w (EN r.1 r.2.1) (Ap k))).2=0
 rotate_left
 ·simp_all
 rw[AKT (by omega)]at Bt|-;obtain⟨rg,ro,rn,rl,cases_⟩:=mT h2;have rl':r.1<=(w.Af.length:Int):=rl;have rgn:w.Af.length<=30:=rg.n;have re:=ro.ep;have rof:=ro.off;have AGH:=h.out r hrm
 generalize hq:(B9 (AU w) (CA w) (Vb w r.1) r (answers w (EN r.1 r.2.1) (Ap k))).1=q at Bt cases_|-
 have fD:(Bv w).cl r.1↔(G4 w.Af r.1).2.1=true:=⟨fun hh=>hh.2,fun hh=>⟨⟨re.1,rl'⟩,hh⟩⟩;have hla:(Bv w).last r.1=(G4 w.Af r.1).2.2.1:=AKJ re.1;have ea:Bv (w.DC (w.AX.set a.toNat q))=Bv w:=rfl
 suffices hs:gX w.BE q/\(w.ER=false->ACO q/\ ∀fin,HX (Ge (AU w)) AN BD Pl (Bv w) fin->VY AN BD Pl (Bv w) fin (vt r)->VY AN BD Pl (Bv w) fin (vt q))by
  refine⟨⟨⟨Bt,by rw[ea];exact h.safe.a,fun hv=> ?_⟩,fun x hx=> ?_,fun hv x hx=> ?_⟩,fun p d q a=>⟨q,a,id⟩⟩
  ·obtain⟨fin,b1,b2⟩:=h.safe.b hv
   refine⟨fin,b1,fun x hx=> ?_⟩;grind
  ·rcases AUU hx with hx|rfl
   ·exact h.out x hx
   simp_all
  ·rcases AUU hx with hx|rfl
   ·exact h.whole hv x hx
   grind
 have AU2:∀(kd:Int) (x:Int),kd≠1-> ∀p,uE (r.2.2.1++[(kd,x,[],())]) p=uE r.2.2.1 p:=fun kd x hk p=>by
  rw[wD (.inr (.inr hk)),AKT (fun hh=>hk hh.1)]
 have AOH:∀(kd:Int) (x:Int),kd≠3->w.ER=false-> ∀e∈r.2.2.1++[(kd,x,[],())],e.1≠3:=fun kd x hk ht e he=>by
  rcases AOO.1 he with he|he
  ·exact h.whole ht r hrm e he
  simp_all
 rcases cases_ with⟨c1,rfl⟩|⟨c1,c2,c3,rfl⟩|⟨c1,c2,c3,c4,c5,rfl⟩
 ·
  have c1':w.trim>=EN r.1 r.2.1:=c1;have ht:Pl w.trim:=by
   rcases rg.trim with h0|h0
   ·grind[EN]
   ·exact h0.1
  have htr:=(CM ht).2.2;have hof:=(CM ht).2.1;refine⟨AGH.app (by show EN r.1 r.2.1<=EN (AN w.trim) (BD w.trim+1);grind[EN]) (fun hp=>by cases hp) (fun hh=>by omega),fun hv=>⟨AOH 5 _ (by decide) hv,fun fin hB hR=> ?_⟩⟩;have hn: ¬Sf.Nj AN BD (vt r) (Bv w).trim:=fun hh=>by
   have:=(APv (e:=r.1) (o:=r.2.1) ht (by omega)).2 hh;omega
  have:=Sf.AQZ (s:=Bv w) ht hn (fun p hp=>ep1 hp) (fun p q hp hq hh=>(uh hp hq).2 hh) hR;have er:vt (AN (CA w).2.1,BD (CA w).2.1+1,r.2.2.1++[(5,(CA w).2.1,[],())],())={ vt r with e:=AN (Bv w).trim,o:=BD (Bv w).trim+1 }:=by
   exact Rd.eq rfl rfl (funext (AU2 5 _ (by decide)))
  simp_all
 ·refine⟨AGH.app (by unfold EN;omega) (fun hp=>by cases hp) (fun hh=>by omega),fun hv=>⟨AOH 4 _ (by decide) hv,fun fin hB hR=> ?_⟩⟩
  have:=Sf.AXT (s:=Bv w) (r:=vt r) (fD.2 c2) (by rw[show(vt r).e=r.1 from rfl,hla];exact c3) (fun p hp=>qN hp) hR;have er:vt (r.1+1,1,r.2.2.1++[(4,r.1+1,[],())],())={ vt r with e:=(vt r).e+1,o:=1 }:=by
   exact Rd.eq rfl rfl (funext (AU2 4 _ (by decide)))
  simp_all
 ·
  obtain⟨p1,p2,p3⟩:=JH (e:=r.1) (o:=r.2.1) ⟨re.1,by omega⟩ ⟨rof.1,c4⟩;have K9:EN r.1 r.2.1<EN r.1 (r.2.1+1):=by unfold EN;omega
  generalize hp:EN r.1 r.2.1=p at*
  have Aa7:∀n e,Ew p (storeAt w n).1=some e->Ei e=true:=fun n e he=>by
   obtain⟨e1,_⟩:=HC he;unfold storeAt at e1;by_cases hn:n.toNat<w.Ao.length
   ·exact(h.safe.ok.Ao _ hn).1.kept e e1
   simp_all
  have AXa:answers w p (Ap k)=((Ap k).filter fun n=>Ak w n==0).map (answer w p):=rfl;have Abx:(answers w p (Ap k)).map (fun a=>a.1)=(Ap k).filter fun n=>Ak w n==0:=by
   rw[AXa,AVF];have:((fun a:Az=>a.1)∘answer w p)=id:=by
    funext n
    simp only[Function.comp,answer];grind
   simp_all
  have hwe:(CA w).1=w.Af:=rfl;rw[hwe]at c2 c3 c5|-;rw[Abx]at c5;rw[AXa]
  generalize hns:(Ap k).filter (fun n=>Ak w n==0)=ns at*
  have hn0:∀n∈ns,Ak w n=0:=fun n hn=>by
   grind
  obtain⟨b1,b2,b3⟩:=ZW (w:=w) (s:=(G4 w.Af r.1).1) Aa7 ns none
  generalize AfO:Fu (G4 w.Af r.1).1 p none (ns.map (answer w p))=cj at*
  have P7:∀x,cj=some x-> ∃n∈ns,n∈(G4 w.Af r.1).1/\Ew p (storeAt w n).1=some x:=fun x hx=>(b1 x hx).resolve_left (by simp)
  have tQ:∀n∈ns,(Bv w).kept n p=kS (storeAt w n).1 p:=fun n hn=>by
   show kS (BH w n).1 p=_
   rw[Ts (hn0 n hn)]
  have hfe:(Hm p cj).2.1=p:=by
   unfold Hm;cases cj with
   |none=>rfl
   |some x=>grind
  have AEz:(Hm p cj).1=1-> ∃s∈w.BE,s.1=(Hm p cj).2.1/\s.2.1=(Hm p cj).2.2.1:=fun hk1=>by
   cases hb:cj with
   |none=>rw[hb]at hk1;cases hk1
   |some x=>
    rw[hb]at hk1;obtain⟨n,n1,n2,n3⟩:=P7 x hb;cases hx:x.2.2.1 with
    |true=>grind[Hm]
    |false=>
     have hi:Sf.ES (Bv w) (Vf x):= .inl ⟨n,by
      show(Bv w).kept n x.1=_
      rw[(HC n3).2,tQ n n1];exact bE n3⟩
     obtain⟨z,hz⟩:=h.safe.a.jD _ hi hx
     replace hz:(Je w.BE x.1).map seS=some (x.2.2.2.1,z):=hz
     rw[ALL]at hz;obtain⟨t,t1,t2⟩:=hz;obtain⟨t3,t4⟩:=ZH t1;unfold seS at t2;simp only[APT]at t2;refine⟨t,t3,?_,?_⟩
     ·rw[t4,(HC n3).2];simp_all
     grind[Hm]
  refine⟨AGH.app (by omega) (fun _=>by rw[hfe,hp];exact⟨AUF _,p1,K9⟩) AEz,fun hv=> ?_⟩;have kk:∀fin,HX (Ge (AU w)) AN BD Pl (Bv w) fin->Sf.AAA (Ge (AU w)) AN BD Pl (Bv w) p (fun n=>n∈ns/\n∈(G4 w.Af r.1).1) (cj.map Vf):=fun fin hB=>by
   refine⟨p1,c1,fun hc=> ?_,fun hc=> ?_,fun n hn=>⟨?_,?_⟩,fun hH=> ?_,fun hb n hn=> ?_,fun x hb=> ?_⟩
   ·rw[p2,fD]at hc
    have AE8:=c3 (by simp_all);unfold Vb at AE8;cases hf:w.AH.find? (fun x=>x.1==r.1)with
    |none=>grind
    |some x=>
     rw[hf]at AE8;simp only at AE8;obtain⟨y,y1,y2⟩:=qj x.2.1 (r.2.1-1).toNat (by omega);have hwd:(Bv w).wd p=some (bY y):=by
      show(FY w.AH p).map bY=_
      rw[KR p1 (y:=x) (by rw[p2];exact hf),p3,y1];rfl
     obtain⟨z,z1,z2⟩:=(h.safe.a.xc p _ hwd).2.2.1;exact⟨_,z,z1,z2 y2⟩
   ·simp_all
   ·exact(Eb (hn0 n hn.1)).2.2
   ·show n∈Aq w.Af (AN p)
    grind[mq]
   ·unfold Jo at c5
    simp only[ALz,ATc]at c5;obtain⟨g1,g2,g3,g4⟩:=c5;have r6:Ay (AU w) (less (G4 w.Af r.1).1 (ns.filter (G4 w.Af r.1).1.contains))=true:=Lx _ (PD g1);have:Ge (AU w) (fun n=>n∈less (G4 w.Af r.1).1 (ns.filter (G4 w.Af r.1).1.contains)):=by
     refine Ge.mono _ _ (fun n hn=> ?_) hH;have hn1:n∈Aq w.Af (AN p):=hn.1;grind[mq,SY]
    grind[Ge.list]
   ·rw[AWx]at hb
    rw[tQ n hn.1];unfold kS;rw[AWx];cases hg:Ew p (storeAt w n).1 with
    |none=>rfl
    |some x=>
     grind
   ·rw[ALL]at hb
    obtain⟨y,y1,rfl⟩:=hb;obtain⟨n,n1,n2,n3⟩:=P7 y y1;refine⟨⟨n,⟨n1,n2⟩,by grind[bE]⟩,fun m z hm hz=> ?_⟩;rw[tQ m hm.1]at hz;obtain⟨u,u1,rfl⟩:=S8 hz;obtain⟨v,v1,v2⟩:=b3 m u hm.1 hm.2 u1;rw[y1]at v1;cases v1;exact v2
  obtain⟨fin0,hB0,_⟩:=h.safe.b hv;obtain⟨x0,hx0,_⟩:=Sf.qW Ge.mono (kk fin0 hB0) h.safe.a hB0;rw[ALL]at hx0;obtain⟨y,hy,rfl⟩:=hx0;subst hy;refine⟨fun ev zC=> ?_,fun fin hB hR=> ?_⟩
  ·rcases AOO.1 zC with zC|zC
   ·exact h.whole hv r hrm ev zC
   grind[List.mem_singleton,Hm]
  ·have:=Sf.ARl Ge.mono (kk fin hB) h.safe.a hB (r:=vt r) p2 p3 (fun p q hp hq h1 h2=>ud hp hq h1 h2) hR (x:=Vf y) rfl
   have er:vt (r.1,r.2.1+1,r.2.2.1++[Hm p (some y)],())=(vt r).read p (Vf y):=by
    refine Rd.eq rfl rfl ?_
    funext x
    show uE (r.2.2.1++[Hm p (some y)]) x=if x=p then(if(Vf y).hole then none else some (Vf y).data)else uE r.2.2.1 x
    by_cases ex:x=p
    ·subst ex
     rw[AKJ rfl,wD (.inl (yG AGH (by omega)))];have hno:=yG AGH (p:=x) (by omega);grind[Hm,Vf]
    ·rw[AKT ex,wD (.inr (.inl (by omega))),AKT (by omega)]
   simp_all
theorem AFb{d:BR}(hd:d.2.2.2.2.1.length<=40)(e:(LQ false w d).2=0):Reached (LQ false w d).1/\Grow w (LQ false w d).1:=by
 have hs:=h.safe;have mk:∀{v:AA},Safe v/\Grow w v->Sm w v->Reached v/\Grow w v:=fun k hm=>⟨h.of k hm.1 hm.2,k.2⟩
 unfold LQ at e|-;by_cases hc:d.1=1
 ·rw[AKJ hc]at e|-;grind[ADQ,ATF]
 rw[AKT hc]at e|-;clear hc;by_cases hc:d.1=2
 ·rw[AKJ hc]at e|-;grind[AGz,AU5]
 rw[AKT hc]at e|-;clear hc;by_cases hc:d.1=3
 ·rw[AKJ hc]at e|-;grind[AAo,AJM]
 rw[AKT hc]at e|-;clear hc;by_cases hc:d.1=4
 ·rw[AKJ hc]at e|-;grind[ADl,AT7]
 rw[AKT hc]at e|-;clear hc;by_cases hc:d.1=5
 ·rw[AKJ hc]at e|-;grind[AAa,AJd]
 rw[AKT hc]at e|-;clear hc;by_cases hc:d.1=6
 ·rw[AKJ hc]at e|-;grind[ADc,ARD]
 rw[AKT hc]at e|-;clear hc;by_cases hc:d.1=7
 ·rw[AKJ hc]at e|-;grind[ADH,AT1]
 rw[AKT hc]at e|-;clear hc;by_cases hc:d.1=8
 ·rw[AKJ hc]at e|-;grind[ACU,AOs]
 rw[AKT hc]at e|-;clear hc;by_cases hc:d.1=9
 ·rw[AKJ hc]at e|-;grind[ADd,AOc]
 rw[AKT hc]at e|-;clear hc;by_cases hc:d.1=10
 ·rw[AKJ hc]at e|-;grind[ACX,ARQ]
 rw[AKT hc]at e|-;clear hc;by_cases hc:d.1=11
 ·rw[AKJ hc]at e|-;grind[AFY,AVY]
 rw[AKT hc]at e|-;clear hc;by_cases hc:d.1=12
 ·rw[AKJ hc]at e|-;grind[AAI,ALr]
 rw[AKT hc]at e|-;clear hc;by_cases hc:d.1=13
 ·rw[AKJ hc]at e|-;grind[ADj,ASW]
 rw[AKT hc]at e|-;clear hc;by_cases hc:d.1=14
 ·rw[AKJ hc]at e|-;exact AAh h e
 rw[AKT hc]at e|-;by_cases aQ:d.1=15
 ·rw[AKJ aQ]at e|-;grind[AD4,ASl]
 rw[AKT aQ]at e|-;grind[z8,AHb]
end
end Go.M
end
section
namespace Go.M
open Go.M.H (AJ AO Av Ac AA CX AQ BI AM AZ As Az BR)
open Go.Sf (Oc Wd Md St Rd tg QO Gf HX VY)
theorem gL{w:AA}{d:BR}(h:Reached w)(e:(C5 false w d).2=0):Reached (C5 false w d).1/\Grow w (C5 false w d).1:=by
 unfold C5 at e|-;by_cases hc:(!Dv w|| !P8 d)=true
 ·rw[AKJ hc]at e;cases e
 rw[AKT hc]at e|-;simp only[ATB,ATc,AYp,Bool.not_eq_false]at hc;exact AFb h (bh hc.2) e
theorem ur:∀{l:List BR} {w:AA},Reached w->Reached (runM false w l).1
 |[],w,h=>h
 |d::l,w,h=>by
  simp only[runM];refine ur ?_
  split
  ·rename_i e
   exact(gL h e).1
  ·exact h
theorem ADk{c:CP}(hc:FJ c=true):Reached (Eo c):=by
 have hw:=(dt hc).1;have gO:∀n,BH (Eo c) n=Cz:=fun n=>by
  unfold BH storeAt;split
  ·rename_i hn
   have hl:n.toNat<(List.replicate c.1.length Cz).length:=by
    have:n<((List.replicate c.1.length Cz).length:Int):=hn.2;omega
   show(List.replicate c.1.length Cz).getD n.toNat Cz=Cz
   rw[KZ hl,List.getElem_replicate]
  ·rfl
 have hk:∀n p,(Bv (Eo c)).kept n p=none:=fun n p=>by
  show kS (BH _ n).1 p=none
  rw[gO];rfl
 have hl:∀n x,¬(Bv (Eo c)).late n x:=fun n x hh=>by
  have:Tf (BH (Eo c) n).2.1 x:=hh;rw[gO]at this;obtain⟨e,he,_⟩:=this;simp[Cz]at he
 have hi:∀x,¬Sf.ES (Bv (Eo c)) x:=fun x hh=>by
  rcases hh with⟨n,hn⟩|⟨n,hn⟩|⟨m,hm,_⟩
  ·rw[hk]at hn;cases hn
  ·exact hl n x hn
  ·cases hm
 have hwd:∀p v,(Bv (Eo c)).wd p≠some v:=fun p v hh=>by
  replace hh:(FY [] p).map bY=some v:=hh
  rw[uA (ws:=[]) rfl]at hh;cases hh
 have aS:∀p v,(Bv (Eo c)).HD p≠some v:=fun p v hh=>by cases hh
 have fD:∀e,¬(Bv (Eo c)).cl e:=fun e hh=>by
  have h1:1<=e/\e<=((([]:List CX).length:Nat):Int):=hh.1;simp only[AQL]at h1;omega
 have hno:∀e n,¬(Bv (Eo c)).nodes e n:=fun e n hh=>by
  have:n∈Aq [] e:=hh;unfold Aq at this;split at this
  ·rename_i h1
   have:=Ai.1 h1;simp only[AQL]at this;omega
  ·simp at this
 have hsu:∀p,¬Sf.fJ (Bv (Eo c)) p:=fun p ⟨d,q,h1,_⟩=>aS p _ h1
 refine⟨⟨hw,⟨AUF _,fun e a b=> ?_,fun e a=>absurd a (fD e),fun e f a=>absurd a (fD e),fun m a=>(by cases a),fun e ⟨x,hx,_⟩=>(by cases(show x∈([]:List AM)from hx)),fun p v a=>absurd a (hwd p v),fun p v a=>absurd a (aS p v),fun n p x a=>(by rw[hk]at a;cases a),fun m p x a=>(by cases a),fun x a=>absurd a (hi x),fun x a=>absurd a (hi x),fun x a=>absurd a (hi x),fun x y a=>absurd a (hi x)⟩,fun _=>⟨fun _=>⟨0,0,true,[]⟩,⟨fun hh=> ?_,fun p a=>absurd a (hsu p),fun p v n a=>absurd a (hwd p v),fun m n a=>(by cases a),fun x a=>absurd a (hi x),fun m p a=>(by cases a),fun p a b=>absurd b (fD _),fun m p n a=>(by cases a),fun m p x a=>(by cases a),fun p a b=>absurd b (fD _)⟩,fun r hr=> ?_⟩⟩,fun r hr=> ?_,fun _ r hr=> ?_⟩
 ·have:e<=((([]:List CX).length:Nat):Int):=b
  simp only[AQL]at this;omega
 ·obtain⟨l,l1,l2⟩:=hh
  cases l with
  |nil=>rw[holds_nil]at l1;cases l1
  |cons a l=>exact absurd (l2 a (by simp)) (by show¬a∈([]:AAC);simp)
 ·replace hr:r∈[((1,1,[],()):AZ),(1,1,[],())]:=hr
  have e:r=(1,1,[],()):=by simpa using hr
  subst e;have np:∀p,Pl p-> ¬Sf.Nj AN BD (vt (1,1,[],())) p:=fun p hp hh=>by
   have h1:=ep1 hp;have h2:=qN hp;rcases hh with hh|⟨_,hh⟩
   ·have:AN p<1:=hh;omega
   ·have:BD p<1:=hh;omega
  exact⟨AUF _,fun p hp K9=>by have h1:=ep1 hp;have:AN p<1:=K9;omega,fun p hp hps=>absurd hps (np p hp),fun p d a=>by cases a⟩
 ·replace hr:r∈[((1,1,[],()):AZ),(1,1,[],())]:=hr
  have e:r=(1,1,[],()):=by simpa using hr
  subst e;exact⟨List.Pairwise.nil,fun e he=>by simp at he,fun e he=>by simp at he⟩
 ·replace hr:r∈[((1,1,[],()):AZ),(1,1,[],())]:=hr
  have e:r=(1,1,[],()):=by simpa using hr
  subst e;exact fun e he=>by simp at he
theorem AAZ{l:List As}{p:Int}{d:tg}(h:uE l p=some d):(1,p,d,())∈l:=by
 unfold uE at h;rw[ALL]at h;obtain⟨e,h1,rfl⟩:=h;have h2:=AYf h1;simp only[ALz,AUM]at h2;have:=AUb h1;obtain⟨a,b,c,⟨⟩⟩:=e;simp only at h2;rw[h2.1,h2.2]at this;exact this
theorem AKE{l:List As}(h:l.Pairwise fun a b=>a.2.1<b.2.1){a b:As}(ha:a∈l)(hb:b∈l)(he:a.2.1=b.2.1):a=b:=by
 obtain⟨i,hi,rfl⟩:=AQo ha;obtain⟨j,hj,rfl⟩:=AQo hb;rw[AUl]at h;rcases Nat.lt_trichotomy i j with hij|rfl|hij
 ·have:=h i j hi hj hij;omega
 ·rfl
 ·have:=h j i hj hi hij;omega
theorem wW{ss:List Ac}{r:AZ}(k:gX ss r){p:Int}{d:tg}(h:(1,p,d,())∈r.2.2.1):uE r.2.2.1 p=some d:=by
 cases ht:uE r.2.2.1 p with
 |none=>
  unfold uE at ht;rw[AWx,List.find?_eq_none]at ht;exact absurd (by simp) (ht _ h)
 |some d' =>
  have:=AAZ ht;have:=AKE k.ft (AUJ.2 ⟨this,rfl⟩) (AUJ.2 ⟨h,rfl⟩) rfl;simp only[APT]at this;rw[this.2.2.1]
theorem AG8{w:AA}(hw:OG w){s t:Ac}(hs:s∈w.BE)(ht:t∈w.BE)(e:s.1=t.1):s=t:=by
 have h1:=UF hw.Vu hs;have h2:=UF hw.Vu ht;rw[e,h2]at h1;exact(Option.some.inj h1).symm
section
variable{w:AA} (h:Reached w)
include h
theorem Reached.sure{s:Ac}(hs:s∈w.BE)(hq:s.2.2.1=true):Pl s.1/\Sf.fJ (Bv w) s.1:=by
 refine⟨(h.safe.ok.BE s hs).1,s.2.1,s.2.2.1=true,?_,hq⟩
 show(Je w.BE s.1).map seS=_
 rw[UF h.safe.ok.Vu hs];rfl
theorem ACs(ht:w.ER=false){r:AZ}(hr:r∈w.AX){s:Ac}(hs:s∈w.BE)(hq:s.2.2.1=true)(hg:w.trim<s.1)(hp:Sf.Nj AN BD (vt r) s.1):(1,s.1,s.2.1,())∈r.2.2.1:=by
 obtain⟨fin,b1,b2⟩:=h.safe.b ht;obtain⟨p1,p2⟩:=h.sure hs hq;obtain⟨d,hd⟩:=Sf.ACl Ge.mono h.safe.a b1 (b2 r hr) p1 p2 hg hp;have hm:=AAZ hd;obtain⟨t,t1,t2,t3⟩:=(h.out r hr).HD _ hm rfl;have:=AG8 h.safe.ok t1 hs t2;rw[this]at t3;rw[t3];exact hm
theorem tZ(ht:w.ER=false){r t:AZ}(hr:r∈w.AX)(hm:t∈w.AX){p:Int}{d:tg}(he:(1,p,d,())∈r.2.2.1)(hg:w.trim<p)(hp:Sf.Nj AN BD (vt t) p):(1,p,d,())∈t.2.2.1:=by
 obtain⟨fin,b1,b2⟩:=h.safe.b ht;have k:=(h.out r hr).below _ he rfl;have h1:=wW (h.out r hr) he;have hps:=(b2 r hr).told p d h1;have:=Sf.ADY (b2 r hr) (b2 t hm) k.1 hg hps hp;exact AAZ (by rw[show uE t.2.2.1 p=(vt t).told p from rfl,<-this];exact h1)
end
theorem AH9{l:List As}:∀(last:Option Int),(l.filter YF).Pairwise (fun a b=>a.2.1<b.2.1)->(∀a,last=some a-> ∀e∈l,YF e=true->a<e.2.1)->og last l=true:=by
 induction l with
 |nil=>intros;rfl
 |cons e l ih=>
  intro last hp hl;unfold og;by_cases he:YF e=true
  ·rw[List.filter_cons_of_pos he,APg]at hp
   rw[show BS e.1 1 3=true from he,ANa,ih (some e.2.1) hp.2 fun a ha x hx hxp=>by
    cases ha;exact hp.1 x (AUJ.2 ⟨hx,hxp⟩)]
   cases last with
   |none=>rfl
   |some a=>
    have:=hl a rfl e (by simp) he;simp[this]
  ·rw[List.filter_cons_of_neg he]at hp
   rw[show BS e.1 1 3=false by simpa[YF]using he,ANE];exact ih last hp fun a ha x hx=>hl a ha x (by simp[hx])
theorem AA8{s:Ac}:∀{l:List Ac},l.Pairwise (fun a b=>a.1<b.1)->s∈l->zM s.1 l=(s.2.1,true)
 |t::l,hp,hs=>by
  rw[APg]at hp;unfold zM;rcases AOD.1 hs with rfl|hs
  ·rw[AXu];rfl
  ·have:=hp.1 s hs
   rw[AOV.2 (by omega)];exact AA8 hp.2 hs
theorem wY{p:Int}:∀{l:List As},tld p l=((uE l p).getD [],(uE l p).isSome)
 |[]=>rfl
 |e::l=>by
  have ih:=wY (p:=p) (l:=l);unfold uE at*;rw[tld,AU_];cases e.1==1&&e.2.1==p with
  |true=>rfl
  |false=>exact ih
theorem lF{p:Int}{r:AZ}:ahead p r=true↔Sf.Nj AN BD (vt r) p:=by
 unfold ahead Sf.Nj
 show _↔AN p<r.1\/(AN p=r.1/\BD p<r.2.1)
 by_cases h1:AN p<r.1
 ·simp[h1]
 ·by_cases h2:AN p=r.1
  ·simp[h2]
  ·have:(AN p==r.1)=false:=by simp[h2]
   simp[h1,h2,this]
section
variable{w:AA} (h:Reached w)
include h
theorem Reached.reader{i:Nat}(hi:i<2):w.AX.getD i AW∈w.AX:=BM (by have:=h.safe.ok.o8;omega)
theorem s7:XD w=true:=by
 have k:∀i,i<2->og none (w.AX.getD i AW).2.2.1=true:=fun i hi=>AH9 none (h.out _ (h.reader hi)).ft fun a ha=>by cases ha
 unfold XD;rw[Ee.2 h.safe.ok,show og none (w.2.2.2.2.2.2.2.2.1.getD 0 AW).2.2.1=true from k 0 (by omega),show og none (w.2.2.2.2.2.2.2.2.1.getD 1 AW).2.2.1=true from k 1 (by omega)];rfl
theorem vM:aY w=true:=by
 have k:∀i,i<2->tO w.BE (w.AX.getD i AW).2.2.1=true:=fun i hi=>I3.2 fun j hj=>by
  have hm:=BM (d:=Vc) hj
  generalize (w.AX.getD i AW).2.2.1.getD j Vc=e at hm
  unfold ABa;by_cases h1:e.1=1
  ·obtain⟨s,s1,s2,s3⟩:=(h.out _ (h.reader hi)).HD e hm h1
   rw[<-s2,AA8 h.safe.ok.Vu s1,s3];simp
  ·rw[AOV.2 h1];rfl
 unfold aY;rw[Ee.2 h.safe.ok,show tO w.2.2.2.2.2.2.2.2.2.1 (w.2.2.2.2.2.2.2.2.1.getD 0 AW).2.2.1=true from k 0 (by omega),show tO w.2.2.2.2.2.2.2.2.2.1 (w.2.2.2.2.2.2.2.2.1.getD 1 AW).2.2.1=true from k 1 (by omega)];rfl
theorem sV:Xm w=true:=by
 unfold Xm;rw[Ee.2 h.safe.ok];cases ht:w.2.2.2.2.2.2.2.2.2.2.1 with
 |true=>rfl
 |false=>
  have k:∀i,i<2->km (w.AX.getD i AW).2.2.1=true:=fun i hi=>I3.2 fun j hj=>by
   have:=h.whole ht _ (h.reader hi) _ (BM (d:=Vc) hj);simpa using this
  rw[show km (w.2.2.2.2.2.2.2.2.1.getD 0 AW).2.2.1=true from k 0 (by omega),show km (w.2.2.2.2.2.2.2.2.1.getD 1 AW).2.2.1=true from k 1 (by omega)];rfl
theorem vu:aV w=true:=by
 unfold aV;rw[Ee.2 h.safe.ok];cases ht:w.2.2.2.2.2.2.2.2.2.2.1 with
 |true=>rfl
 |false=>
  have k:∀i,i<2->uN w.trim w.BE (w.AX.getD i AW)=true:=fun i hi=>I3.2 fun j hj=>by
   have hm:=BM (d:=JZ) hj
   generalize w.BE.getD j JZ=s at hm
   unfold ABY;by_cases hc:(s.2.2.1&&(decide (w.trim<s.1)&&ahead s.1 (w.AX.getD i AW)))=true
   ·simp only[ALz,ANK]at hc
    have:=ACs h ht (h.reader hi) hm hc.1 hc.2.1 (lF.1 hc.2.2);rw[wY,wW (h.out _ (h.reader hi)) this];simp
   ·rw[AOP]at hc
    rw[hc];rfl
  rw[show uN w.2.2.2.2.2.1 w.2.2.2.2.2.2.2.2.2.1 (w.2.2.2.2.2.2.2.2.1.getD 0 AW)=true from k 0 (by omega),show uN w.2.2.2.2.2.1 w.2.2.2.2.2.2.2.2.2.1 (w.2.2.2.2.2.2.2.2.1.getD 1 AW)=true from k 1 (by omega)];rfl
theorem wj:bR w=true:=by
 unfold bR;rw[Ee.2 h.safe.ok];cases ht:w.2.2.2.2.2.2.2.2.2.2.1 with
 |true=>rfl
 |false=>
  have k:∀i,i<2->tL w.trim (w.AX.getD 0 AW) (w.AX.getD 1 AW) (w.AX.getD i AW).2.2.1=true:=fun i hi=>I3.2 fun j hj=>by
   have hm:=BM (d:=Vc) hj
   generalize (w.AX.getD i AW).2.2.1.getD j Vc=e at hm
   unfold ABp;by_cases hc:ABm w.trim (w.AX.getD 0 AW) (w.AX.getD 1 AW) e=true
   ·unfold ABm at hc
    simp only[ALz,ANK,AUM]at hc;obtain⟨c1,c2,c3,c4,c5⟩:=hc;obtain⟨a,b,c,⟨⟩⟩:=e;simp only at c1;subst c1;have m0:=tZ h ht (h.reader hi) (h.reader (i:=0) (by omega)) hm c3 (lF.1 c4);have m1:=tZ h ht (h.reader hi) (h.reader (i:=1) (by omega)) hm c3 (lF.1 c5);rw[wY,wY,wW (h.out _ (h.reader (i:=0) (by omega))) m0,wW (h.out _ (h.reader (i:=1) (by omega))) m1];simp
   ·rw[AOP]at hc
    rw[hc];rfl
  rw[show tL w.2.2.2.2.2.1 (w.2.2.2.2.2.2.2.2.1.getD 0 AW) (w.2.2.2.2.2.2.2.2.1.getD 1 AW) (w.2.2.2.2.2.2.2.2.1.getD 0 AW).2.2.1=true from k 0 (by omega),show tL w.2.2.2.2.2.1 (w.2.2.2.2.2.2.2.2.1.getD 0 AW) (w.2.2.2.2.2.2.2.2.1.getD 1 AW) (w.2.2.2.2.2.2.2.2.1.getD 1 AW).2.2.1=true from k 1 (by omega)];rfl
end
end Go.M
end
section
set_option maxRecDepth 8000
namespace Go.M
open Go.M.H (AA AJ AM AO AQ AY AZ A_ Ab Ac Ag Al Ar As Au Av Az BI BR BX C0 CG CO CQ CX DK EL)
def xM(ws:List AM)(ss:List Ac):Prop:= ∀t∈ss,∀x∈ws,AN t.1=x.1->Qz x.2.1 (BD t.1)=true->t.2.2.1=true
theorem eK{c:CP}{s:AO}{l:List CX}{n:Int}:∀{ws:List AM} {ss:List Ac},xM ws ss->FW true c s l n ws ss=FW false c s l n ws ss
 |[],ss,_=>rfl
 |x::ws,ss,h=>by
  simp only[FW];have hm:ss.map (PE true x.1 x.2.1 (BL c s x.1 n 1 x.2.1))=ss.map (PE false x.1 x.2.1 (BL c s x.1 n 1 x.2.1)):=AUI fun t ht=>by
   have k:=h t ht x (by simp);unfold PE;by_cases he:AN t.1=x.1
   ·cases hd:Qz x.2.1 (BD t.1)with
    |true=>rw[k he hd];simp
    |false=>simp
   ·rw[AOV.2 he];simp
  rw[hm,eK (ws:=ws) (ss:=ss.map (PE false x.1 x.2.1 (BL c s x.1 n 1 x.2.1))) fun t ht y hy he hd=>by
   obtain⟨u,hu,rfl⟩:=AUV.1 ht;have:=h u hu y (by simp[hy]) he hd
   show(u.2.2.1||_)=true
   rw[this];rfl,
   eK (ws:=ws) (ss:=ss) fun t ht y hy=>h t ht y (by simp[hy])]
theorem wi{w:AA}(h:Reached w):xM w.AH w.BE:=fun t ht x hx he hd=>by
 have hp:Pl t.1:=(h.safe.ok.BE t ht).1;obtain⟨y,y1,y2⟩:=(Xw (qN hp)).1 hd;have hwx:Xt w.AH (AN t.1)=some x:=by rw[he];exact Xf h.safe.ok.Yd hx
 have hwd:(Bv w).wd t.1=some (bY y):=by
  show(FY w.AH t.1).map bY=_
  rw[KR hp hwx,y1];rfl
 obtain⟨q,q1,q2⟩:=(h.safe.a.xc _ _ hwd).2.2.1
 replace q1:(Je w.BE t.1).map seS=some ((bY y).data,q):=q1
 rw[UF h.safe.ok.Vu ht]at q1;simp only[AVW,seS,AKr,APT]at q1;rw[q1.2];exact q2 y2
theorem AIb{w:AA}{d:BR}(h:Reached w):C5 true w d=C5 false w d:=by
 have key:∀n,KC true w n=KC false w n:=fun n=>by
  unfold KC;simp only[eK (wi h)]
 unfold C5 LQ;simp only[key]
theorem yU:∀{l:List BR} {w:AA},Reached w->runM true w l=runM false w l
 |[],_,_=>rfl
 |d::l,w,h=>by
  simp only[runM,AIb h];have:Reached (if(C5 false w d).2=0 then(C5 false w d).1 else w):=by
   split
   ·rename_i e;exact(gL h e).1
   ·exact h
  rw[yU this]
theorem mZ{s:Ac}:∀{l:List As},s∈Zr l↔s.2.2.1=true/\(1,s.1,s.2.1,())∈l
 |[]=>by simp[Zr]
 |e::l=>by
  have ih:=mZ (s:=s) (l:=l);obtain⟨a,b,c,⟨⟩⟩:=e;obtain⟨x,y,z,⟨⟩⟩:=s;unfold Zr;by_cases h:a=1
  ·rw[AUM.2 h,ANa,AOD,ih,AOD]
   simp only[APT,AUK];constructor
   ·rintro(⟨rfl,rfl,rfl⟩|h')
    ·exact⟨rfl,.inl ⟨h.symm,rfl,rfl⟩⟩
    ·exact⟨h'.1,.inr h'.2⟩
   ·rintro⟨h1,⟨_,h2,h3⟩|h'⟩
    ·exact .inl ⟨h2,h3,h1⟩
    ·exact .inr ⟨h1,h'⟩
  ·rw[AOV.2 h,ANE,ih,AOD]
   simp only[APT,AUK];exact⟨fun h' =>⟨h'.1,.inr h'.2⟩,fun h' =>⟨h'.1,h'.2.resolve_left fun hh=>h hh.1.symm⟩⟩
theorem lE:∀{l:List As},(l.filter YF).Pairwise (fun a b=>a.2.1<b.2.1)->(Zr l).Pairwise fun a b=>a.1<b.1
 |[],_=>List.Pairwise.nil
 |e::l,h=>by
  unfold Zr;by_cases he:e.1=1
  ·rw[List.filter_cons_of_pos (by unfold YF;rw[he];rfl),APg]at h
   rw[AUM.2 he,ANa,APg];exact⟨fun s hs=>h.1 _ (AUJ.2 ⟨(mZ.1 hs).2,rfl⟩),lE h.2⟩
  ·rw[AOV.2 he,ANE]
   refine lE ?_
   rw[AUH]at h;split at h
   ·exact(APg.1 h).2
   ·exact h
section
variable{w:AA} (h:Reached w)
include h
theorem vz{k:Nat}(hk:k<2):O6 w k=Zr (w.AX.getD k AW).2.2.1:=by
 unfold O6;rw[Ee.2 h.safe.ok,Ai.2 (by omega:(0:Int)<=(k:Int)/\(k:Int)<=1)];rfl
theorem ADs{k:Nat}(hk:k<2){s:Ac}(hs:s∈O6 w k):∃t∈w.BE,t.1=s.1/\t.2.1=s.2.1:=by
 rw[vz h hk]at hs;obtain⟨t,t1,t2,t3⟩:=(h.out _ (h.reader hk)).HD _ (mZ.1 hs).2 rfl;exact⟨t,t1,t2,t3⟩
theorem AFc{k:Nat}(hk:k<2):(O6 w k).Pairwise fun a b=>a.1<b.1:=by
 rw[vz h hk];exact lE (h.out _ (h.reader hk)).ft
end
def AWi(w:AA)(l:List BR):IJ:=(((w,(),()),()),(l,()))
theorem ACc{x:AAC}(hc:x.length<=2^30):∃c l,FJ c=true/\HL x=some (AWi (Eo c) l)/\l.length<=190/\ ∀d∈l,DR d.2.1:=by
 obtain⟨h0,e0⟩:=AFP hc;unfold HL;rw[e0];obtain⟨T,hT,hT2⟩:=zq hc;simp only[AD];rw[hT];simp only[AD];obtain⟨q,i1,h1,y,e1,gE,⟨cc,sZ,hcw⟩,hl,hd⟩:=xX hc (T:=T) (N:=190) ⟨by omega,by omega,by omega⟩ (i:=0) (hh:=h0) ⟨by omega,by omega⟩;rw[e1];simp only[AD];refine⟨cc,y.1,sZ,?_,hl,hd⟩;rw[<-hcw];rfl
theorem ABJ{all:Bool}:∀{l:List BR} {w:AA},dy w->dy (runM all w l).1
 |[],w,h=>h
 |d::l,w,h=>by
  simp only[runM];refine ABJ ?_
  split
  ·rename_i e;exact AAj h e
  ·exact h
structure ATC (w v:AA) (l:List BR):Prop where
 ok:OG w
 win:gG w
 rd:Ag A_ w.AX<=10002
 re:Reached v
 vin:gG v
 ev:dy v
 run:runM false w l=(v,(runM false w l).2)
 same:runM true w l=runM false w l
theorem ASN{c:CP}(hc:FJ c=true){l:List BR}(hl:l.length<=190):ATC (Eo c) (runM false (Eo c) l).1 l:=by
 obtain⟨h1,h2⟩:=dt hc;have hr:=ADk hc;have wt:=ur (l:=l) hr;have Ya:=v_ (all:=false) (l:=l) h1;have h3:=AI5 h1 h2;exact⟨h1,h1.win h2,h3,wt,wt.safe.ok.AUp (by omega),ABJ yf,rfl,yU hr⟩
theorem ALR{all:Bool}{w:AA}{l:List BR}(h:OG w)(hl:l.length<=190):APS all w l=runM all w l:=AKJ ⟨Ee.2 h,by omega⟩
theorem ta:∀{l:List As},(Zr l).length<=l.length
 |[]=>AP7 _
 |e::l=>by
  have:=ta (l:=l);unfold Zr;cases e.1==1<;>simp only[ANa,ANE,AN9]<;>omega
theorem Reached.pL{w:AA}(h:Reached w){k:Nat}(hk:k<2):(O6 w k).length<=120:=by
 rw[vz h hk];exact ARi ta (h.safe.ok.AX _ (h.reader hk)).n
section
variable{w:AA} (h:Reached w) (Wa:gG w)
include h Wa
theorem yY{k i:Nat}(hk:k<2)(hi:i<(O6 w k).length){B:Nat}(hB:∀n,B<=n->Ck n (k:Int) ((i:Int)+1) w.2.1 w.2.2.2.2.2.1 w.2.2.2.2.2.2.2.2.2.2.1 w.1 w.2.2.1 w.2.2.2.1 w.2.2.2.2.1 w.2.2.2.2.2.2.1 w.2.2.2.2.2.2.2.1 w.2.2.2.2.2.2.2.2.1 w.2.2.2.2.2.2.2.2.2.1 (O6 w k)=some ((true,()),())):∀(n j:Nat) (f:Bool),j<=w.BE.length->w.BE.length-j+B+1<=n->
  (f=true\/ ∃m,j<=m/\ ∃hm:m<w.BE.length,(w.BE[m]).1=((O6 w k)[i]).1/\(w.BE[m]).2.1=((O6 w k)[i]).2.1)->
  C2 n (k:Int) (i:Int) f (j:Int) w.2.1 w.2.2.2.2.2.1 w.2.2.2.2.2.2.2.2.2.2.1 w.1 w.2.2.1 w.2.2.2.1 w.2.2.2.2.1 w.2.2.2.2.2.2.1 w.2.2.2.2.2.2.2.1 w.2.2.2.2.2.2.2.2.1 w.2.2.2.2.2.2.2.2.2.1 (O6 w k)=some ((true,()),())
 |0,j,f,_,hn,_=>by omega
 |n+1,j,f,hj,hn,hf=>by
  have hns:=h.safe.ok.QD;have tH:=h.pL hk;have ih:=fun f=>yY hk hi hB n (j+1) f
  have AA4:=AFc h hk
  generalize O6 w k=tl at*
  have g9:(0:Int)<=(i:Int)/\(i:Int)<(tl.length:Int):=by omega
  simp only[C2,Q_,AB];by_cases K9:j<w.BE.length
  rotate_left
  ·rw[AKT (by show¬((j:Int)<(w.BE.length:Int));omega)]
   have hft:f=true:=hf.resolve_right fun⟨m,h1,h2,_⟩=>by omega
   rw[hft,AL (x:=(i:Int)+1) (by omega) (by omega)];simp only[AMy,ANE];by_cases h0:(i:Int)>0
   rotate_left
   ·rw[AKT h0];exact hB n (by omega)
   rw[AKJ h0,AL (x:=(i:Int)-1) (by omega) (by omega),AKJ (by omega),AKJ g9,AKT]
   ·exact hB n (by omega)
   ·rw[show((i:Int)-1).toNat=i-1 by omega,ANJ,KZ (by omega),KZ hi]
    have:=AUl.1 AA4 (i-1) i (by omega) hi (by omega);omega
  rw[AKJ (by show(j:Int)<(w.BE.length:Int);omega)];have g8:(0:Int)<=(j:Int)/\(j:Int)<(w.2.2.2.2.2.2.2.2.2.1.length:Int):=by show(0:Int)<=(j:Int)/\(j:Int)<(w.BE.length:Int);omega
  rw[AL (x:=(j:Int)+1) (by omega) (by omega),show((j:Int)+1)=((j+1:Nat):Int)by omega];cases f with
  |true=>
   rw[ANa];exact ih true (by omega) (by omega) (.inl rfl)
  |false=>
   rw[ANE];obtain⟨m,m1,m2,m3,m4⟩:=hf.resolve_left (by decide);simp only[AKJ g8,AKJ g9,ANJ];have e8:w.2.2.2.2.2.2.2.2.2.1.getD j (0,[],false,())=w.BE[j]:=KZ K9;have e9:tl.getD i (0,[],false,())=tl[i]:=KZ hi;rw[e8,e9];have later:m≠j-> ∃m,j+1<=m/\ ∃hm:m<w.BE.length,(w.BE[m]).1=(tl[i]).1/\(w.BE[m]).2.1=(tl[i]).2.1:=fun bg=>⟨m,by omega,m2,m3,m4⟩
   by_cases hmj:m=j
   ·subst hmj
    rw[AUM.2 m3,ANa,AUM.2 m4];exact ih true (by omega) (by omega) (.inl rfl)
   ·cases hb:(w.BE[j]).1==(tl[i]).1 with
    |true=>rw[ANa];exact ih _ (by omega) (by omega) (.inr (later hmj))
    |false=>rw[ANE];exact ih _ (by omega) (by omega) (.inr (later hmj))
theorem yp{k:Nat}(hk:k<2){B:Nat}(hB:∀n,B<=n->Cp n ((k:Int)+1) w.2.1 w.2.2.2.2.2.1 w.2.2.2.2.2.2.2.2.2.2.1 w.1 w.2.2.1 w.2.2.2.1 w.2.2.2.2.1 w.2.2.2.2.2.2.1 w.2.2.2.2.2.2.2.1 w.2.2.2.2.2.2.2.2.1 w.2.2.2.2.2.2.2.2.2.1=some ((true,()),())):∀(m i n:Nat),i+m=(O6 w k).length->m*130+B+1<=n->
  Ck n (k:Int) (i:Int) w.2.1 w.2.2.2.2.2.1 w.2.2.2.2.2.2.2.2.2.2.1 w.1 w.2.2.1 w.2.2.2.1 w.2.2.2.2.1 w.2.2.2.2.2.2.1 w.2.2.2.2.2.2.2.1 w.2.2.2.2.2.2.2.2.1 w.2.2.2.2.2.2.2.2.2.1 (O6 w k)=some ((true,()),())
 |m,i,0,_,hn=>by omega
 |0,i,n+1,hi,hn=>by
  have tH:=h.pL hk;simp only[Ck,Mw,AB];rw[AKT (by omega),AL (x:=(k:Int)+1) (by omega) (by omega)];exact hB n (by omega)
 |m+1,i,n+1,hi,hn=>by
  have hns:=h.safe.ok.QD;have K9:i<(O6 w k).length:=by omega
  have ih:=yp hk hB m (i+1);simp only[Ck,Mw,AB];rw[AKJ (by omega)];obtain⟨t,t1,t2,t3⟩:=ADs h hk (ANM K9);obtain⟨j,hj,rfl⟩:=AQo t1;exact yY h Wa hk K9 (B:=m*130+B+1) (fun n hn=>by
   have:=ih n (by omega) hn;rw[show((i+1:Nat):Int)=(i:Int)+1 by omega]at this;exact this) n 0 false (by omega) (by omega) (.inr ⟨j,by omega,hj,t2,t3⟩)
theorem AF4(n:Nat):Cp (n+1) 2 w.2.1 w.2.2.2.2.2.1 w.2.2.2.2.2.2.2.2.2.2.1 w.1 w.2.2.1 w.2.2.2.1 w.2.2.2.2.1 w.2.2.2.2.2.2.1 w.2.2.2.2.2.2.2.1 w.2.2.2.2.2.2.2.2.1 w.2.2.2.2.2.2.2.2.2.1=some ((true,()),()):=by
 simp only[Cp,N5,AB];rw[AKT (by omega),HJ w,FE Wa,Ee.2 h.safe.ok];rfl
theorem ABt{k:Nat}(hk:k<2){B:Nat}(hB:∀n,B<=n->Cp n ((k:Int)+1) w.2.1 w.2.2.2.2.2.1 w.2.2.2.2.2.2.2.2.2.2.1 w.1 w.2.2.1 w.2.2.2.1 w.2.2.2.2.1 w.2.2.2.2.2.2.1 w.2.2.2.2.2.2.2.1 w.2.2.2.2.2.2.2.2.1 w.2.2.2.2.2.2.2.2.2.1=some ((true,()),())){n:Nat}(hn:120*130+B+2<=n):Cp n (k:Int) w.2.1 w.2.2.2.2.2.1 w.2.2.2.2.2.2.2.2.2.2.1 w.1 w.2.2.1 w.2.2.2.1 w.2.2.2.2.1 w.2.2.2.2.2.2.1 w.2.2.2.2.2.2.2.1 w.2.2.2.2.2.2.2.2.1 w.2.2.2.2.2.2.2.2.2.1=some ((true,()),()):=by
 obtain⟨n,rfl⟩:∃n',n=n'+1:=⟨n-1,by omega⟩;have tH:=h.pL hk;simp only[Cp,N5,AB];rw[AKJ (by omega),HJ w,qd Wa];simp only[AD];exact yp h Wa hk hB (O6 w k).length 0 n (by omega) (by omega)
end
theorem w_{x:AAC}(hx:Go.Fw.Vd (.sl (.int .u8)) x):Rf x=some ((true,()),()):=by
 unfold Rf Rv Xn;simp only[ANe,AB];by_cases hs:(x.length:Int)>1048576
 ·rw[AKJ hs]
 rw[AKT hs];obtain⟨c,l,hc,e1,hl,h64⟩:=ACc (x:=x) (by omega);rw[e1];simp only[ANe,AWi];obtain⟨Bt,Wa,Ya,wt,hvin,zC,kX,AN4⟩:=ASN hc hl
 generalize Eo c=w at*
 rw[HJ w,mU Wa (by omega) h64 (by omega),ALR Bt hl];have hlen:=xB (all:=false) (l:=l) (w:=w)
 generalize runM false w l=q at*
 simp only[ANe];rw[show(kN q).2.2.2.2.2.2.2.2.2.1=q.2 from rfl,show((q.2.length:Int) !=(l.length:Int))=false by simp[hlen],ANE];rw[show((kN q).2.1,(kN q).1.1.1.2.1,(kN q).2.2.1,(kN q).2.2.2.1,(kN q).2.2.2.2.1,(kN q).1.1.1.2.2.2.2.2.1,(kN q).2.2.2.2.2.1,(kN q).2.2.2.2.2.2.1,(kN q).2.2.2.2.2.2.2.1,(kN q).2.2.2.2.2.2.2.2.1,(kN q).1.1.1.2.2.2.2.2.2.2.2.2.2.1,())=q.1 from rfl,
  Yi hvin,Xe hvin,yv hvin zC,vM wt,s7 wt,vu wt,sV wt,wj wt]
 simp only[ANe,AMy,ANE,Bool.and_self];refine ABt wt hvin (k:=0) (by omega) (B:=15700) (fun n hn=>ABt wt hvin (k:=1) (by omega) (B:=1) (fun n hn=> ?_) (by omega)) (AVJ (Ah (by omega)));obtain⟨n,rfl⟩:∃n',n=n'+1:=⟨n-1,by omega⟩;exact AF4 wt hvin n
end Go.M
end
