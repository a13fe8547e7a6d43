/- Plain facts on what the functions compute. -/
import Derived.Test.YtbjkhapllnkhfaaGreatDoorM0
import Derived.Lib.AtoiAllCases
import Derived.Lib.SplitLaws
set_option linter.unusedVariables false
set_option linter.unusedSimpArgs false
set_option linter.unusedSectionVars false
section
set_option maxRecDepth 8000
namespace Go.M
open Go.M.H (AA AJ AL AN AR AU AY Ac Ae Ai Aj Al Am An Av Ax Az BG BQ BR B_ C1 C7 CB CH Co Dx)
theorem w6{a b:Nat}(h:a+b<2^40):AW ((IntKind.wrap .u64 (AW ((a:Int)+(b:Int)))).fdiv (2^1))=(((a+b)/2:Nat):Int):=by
 grind[AH,IntKind.wrap,IntKind.bits,IntKind.signed,Int.fdiv_eq_ediv_of_nonneg]
structure kW {α:Type} (f:α->Int) (p:Int) (l:List α) (q:Nat):Prop where
 le:q<=l.length
 lt:∀(i:Nat) (h:i<l.length),i<q->f l[i]<p
 ge:∀(i:Nat) (h:i<l.length),q<=i->p<=f l[i]
theorem dE{α:Type}{f:α->Int}{l:List α}(h:WK f l){i j:Nat}(hi:i<l.length)(hj:j<l.length)(hij:i<=j):f l[i]<=f l[j]:=by
 grind[Int.le_of_lt,List.pairwise_iff_getElem]
theorem fO{l:List AJ}(ha:gu l)(hl:l.length<=2^30)(p:Int):∃q,kW (fun e:AJ=>e.1) p l q/\
  S6 l p=some ((((q:Int),(match l[q]? with|some e=>e.1==p|none=>false),()),()),()):=by
 have key:∀(n a b:Nat),a<=b->b<=l.length->b-a<n->(∀(i:Nat) (h:i<l.length),i<a->l[i].1<p)->(∀(i:Nat) (h:i<l.length),b<=i->p<=l[i].1)->
   ∃q,kW (fun e:AJ=>e.1) p l q/\Aw n l p l.length a b=some ((((q:Int),(match l[q]? with|some e=>e.1==p|none=>false),()),()),()):=by
  intro n
  induction n with
  |zero=>omega
  |succ n ih=>
   intro a b ug hb hn h1 h2;simp only[Aw,Cp,AB,TH];by_cases IQ:a<b
   ·have hm:(a+b)/2<l.length:=by omega
    rw[AI9 (by omega),w6 (by omega),AI9 (by omega),Af hm];by_cases hc:l[(a+b)/2].1<p
    ·rw[AI9 hc]
     simp only[AD];rw[AI9 (by omega),AH (by omega) (by omega),show((((a+b)/2:Nat):Int)+1)=(((a+b)/2+1:Nat):Int)by omega];refine ih _ b (by omega) hb (by omega) (fun i h hi=> ?_) h2;exact Int.lt_of_le_of_lt (dE (f:=fun e:AJ=>e.1) ha h hm (by omega)) hc
    ·rw[AJD hc]
     have hge:∀(i:Nat) (h:i<l.length),(a+b)/2<=i->p<=l[i].1:=fun i h hi=>Int.le_trans (by omega) (dE (f:=fun e:AJ=>e.1) ha hm h hi)
     by_cases hd:l[(a+b)/2].1>p
     ·rw[AI9 hd]
      simp only[AD];rw[AJD (by omega)];exact ih a _ (by omega) (by omega) (by omega) h1 hge
     ·rw[AJD hd]
      simp only[AD];rw[AJD (by omega)];exact ih a _ (by omega) (by omega) (by omega) h1 hge
   ·have AHA:a=b:=by omega
    subst AHA;refine⟨a,⟨hb,h1,h2⟩,?_⟩;rw[AJD (by omega)];by_cases ha':a<l.length
    ·have:=h2 a ha' (ALj _)
     rw[AI9 (by omega),AI9 (by omega),Af ha',AJA ha',AJD (by omega)];by_cases hd:l[a].1>p
     ·simp_all;omega
     grind
    grind
 obtain⟨q,hq,e⟩:=key AX 0 l.length (by omega) (by omega) (Ab (by omega)) (fun i h hi=>by omega) (fun i h hi=>by omega);refine⟨q,hq,?_⟩;unfold S6 CD Cr;simp_all
theorem kW.get_eq{p:Int}{l:List AJ}{q:Nat}(h:kW (fun e:AJ=>e.1) p l q)(ha:gu l):OV p l=match l[q]? with|some e=>if e.1=p then some e else none|none=>none:=by
 by_cases hq:q<l.length
 ·rw[AJA hq]
  dsimp only;by_cases he:l[q].1=p
  ·rw[AI9 he,<-he]
   exact oO ha (AJ7 hq)
  ·rw[AJD he]
   cases hg:OV p l with
   |none=>rfl
   |some x=>
    obtain⟨hm,hx⟩:=vl hg;obtain⟨i,hi,rfl⟩:=AOq hm;exfalso;have h2:=h.ge q hq (ALj _);rcases Nat.lt_or_ge i q with hiq|hiq
    ·have:=h.lt i hi hiq
     omega
    ·have:=dE (f:=fun e:AJ=>e.1) ha hq hi hiq
     omega
 ·rw[APp (by omega)]
  dsimp only;cases hg:OV p l with
  |none=>rfl
  |some x=>
   obtain⟨hm,hx⟩:=vl hg;obtain⟨i,hi,rfl⟩:=AOq hm;have:=h.lt i hi (by omega);omega
theorem UO{s:AL}(h0:Ai s<=2^30)(h1:tZ s)(p:Int):GL s p=some (((match Yt s p with|some e=>(e,true,())|none=>((0,0,false,[],()),false,())),()),()):=by
 unfold GL Yt;rw[N_ s,Eo h0 h1];simp only[AD];rcases AIn (CA s)with DX|DX
 rotate_left
 ·simp_all
 have hs:=Dc.1 DX;have hn:=hs.nk;obtain⟨q,hq,e⟩:=fO hs.zZ (by omega) p;rw[DX,e,AI9 rfl,hq.get_eq hs.zZ];grind
theorem Gp{e o:Int}:DP e o=some (((D1 e o,BD e 1 30&&BD o 1 60,()),()),()):=by
 unfold DP HY Yz D1;rw[Au,Au];simp only[AD];rcases AIn (BD e 1 30)with he|he
 rotate_left
 ·simp_all
 rcases AIn (BD o 1 60)with ho|ho
 rotate_left
 ·simp_all
 rw[he,ho];have h1:=Ak.1 he;have h2:=Ak.1 ho;simp only[AJX,AJQ,Bool.and_self,AOx];rw[AH (x:=4294967296*e) (by omega) (by omega),AH (by omega) (by omega)];rfl
theorem aY{k:Int}:Hp k=some (((),()),(BL k,())):=by
 unfold Hp Vg BL;rw[Au];simp only[AD];rcases AIn (BD k 0 255)with hk|hk
 rotate_left
 ·simp_all
 rw[hk,AI9 rfl];have hk':=Ak.1 hk;have key:∀(n i:Nat) (b:AAN),i<=8->8-i<n->b.length<=i->
   KZ n k i b=some (((),()),(b++(([0,1,2,3,4,5,6,7]:AAN).drop i).filter (fun i=>(k/2^i.toNat)%2==1),())):=by
  intro n
  induction n with
  |zero=>omega
  |succ n ih=>
   intro i b hi h hb;simp only[KZ,Vv,AB];by_cases D7:i<8
   ·have AEL:=wx (k:=k) (i:=i) (by omega) (by omega)
    rw[AI9 (show(i:Int)<8 by omega),AJD (by omega),AJT,vj i D7,AO3,AJT,AH (by omega) (by omega),show((i:Int)+1)=((i+1:Nat):Int)by omega];rw[AEL];simp only[AB];have c2:b.length+1<=Cm:=by rw[Ap];omega
    by_cases hb':(k/2^i)%2=1
    ·rw[AI9 hb',AI9 c2,AI9 (by simp_all),ih (i+1) _ (by omega) (by omega) (by simp_all),AKK]
     rfl
    grind
   ·have:i=8:=by omega
    simp_all
 have:=key AX 0 [] (by omega) (Ab (by omega)) (by simp);simp_all
theorem PR{r:AN}(h:Ae B_ r.1<=2^30){e:Int}(he:CN e):Is r e=some (((),()),(CS r.1 e,())):=by
 unfold Is CS;have hl:=AU (f:=B_) (l:=r.1);rw[Au];simp only[AD];rcases AIn (BD e 1 r.1.length)with hk|hk
 rotate_left
 ·simp_all
 rw[hk,AI9 rfl];have hk':=Ak.1 hk;have hm:=AY (f:=B_) (Bh (d:=IM) (i:=(e-1).toNat) (by omega:(e-1).toNat<r.1.length));have hw:B_ (r.1.getD (e-1).toNat IM)=(r.1.getD (e-1).toNat IM).1.length:=rfl;rw[AH (by omega) (by omega)];simp only[AJX,AJQ];rw[AI9 (by omega),show(r.1.getD (e-1).toNat ([],false,0,()))=r.1.getD (e-1).toNat IM from rfl,Dj (by omega)];rfl
theorem Lr{w:AA}(h1:w.BZ.length<=2^30)(h2:w.lost.length<=2^30){n:Int}:EH w n=some ((Ar w n,()),()):=by
 unfold EH Ar;have h1':w.2.2.1.length<=2^30:=h1;rw[AH (by omega) (by omega),Au,bo (by grind)];grind
theorem PS{b:Bool}:J8 b=some ((if b then 0 else 4,()),()):=by cases b<;>rfl
theorem jH{x:AR}(h:x.2.1.length<=2^30):Qm x=some (((cB x.2.1:Int),()),()):=by
 have key:∀(n i:Nat),i<=x.2.1.length->x.2.1.length-i<n->i+cB (x.2.1.drop i)=cB x.2.1->Jj n x.2.1 x.2.1.length i x.1 x.2.1=some (((cB x.2.1:Int),()),()):=by
  intro n
  induction n with
  |zero=>omega
  |succ n ih=>
   intro i hi hn hs;simp only[Jj,T8,AB];by_cases hc:i<x.2.1.length
   ·rw[drop_cons hc]at hs
    simp only[cB]at hs;rw[AI9 (by omega),AI9 (by omega),Af hc,AH (by omega) (by omega),show((i:Int)+1)=((i+1:Nat):Int)by omega];cases hd:x.2.1[i].2.2.1 with
    |true=>
     grind
    |false=>
     simp_all
   ·rw[AJm (by omega)]at hs
    simp only[cB]at hs;grind
 grind[Qm,T9,AX,Ab]
theorem q8{w:AA}(h:lq w)(e:Int):RU w e=some ((cX w e,()),()):=by
 have hl2:=h.LN;have hl:=h.lens;have key:∀(n i:Nat),i<=w.AK.length->w.AK.length-i<n->PD n e w.AK w.AK.length i=some (((match(w.AK.drop i).find? (fun x=>x.1==e)with|some x=>(cB x.2.1:Int)|none=>0),()),()):=by
  intro n
  induction n with
  |zero=>omega
  |succ n ih=>
   intro i hi hn;simp only[PD,Z5,AB];by_cases hc:i<w.AK.length
   ·have eY:i<w.2.2.2.2.2.2.1.length:=hc
    have hm:An w.AK[i]<=Ae An w.2.2.2.2.2.2.1:=AY (f:=An) (AJ7 hc);have hw:An w.AK[i]=Ae BQ w.AK[i].2.1:=rfl;have hlw:=AU (f:=BQ) (l:=w.AK[i].2.1);rw[AI9 (by omega),AI9 (by omega),Af hc,AH (by omega) (by omega),show((i:Int)+1)=((i+1:Nat):Int)by omega,drop_cons hc,ATO,show(w.AK[i].1,w.AK[i].2.1,())=w.AK[i]from rfl,jH (by omega),ih (i+1) (by omega) (by omega)];cases w.AK[i].1==e<;>rfl
   grind
 grind[RU,aA,cX,AX,Ab]
theorem zU{x:Int}{t:ACE}(h:t.1.length<=2^30):Re x t=some ((!t.1.contains x,()),()):=by
 grind[Re,Ir]
theorem oU{x:Int}{t:AAv}:MU x t=some ((x==t.1,()),()):=rfl
theorem pU{t:ACE×Unit}(h:t.1.1.length<=2^30){l:AAN}(hl:l.length<=2^30):Cj t l=some (((),()),((),l.filter (fun x=> !(!t.1.1.contains x)),())):=by
 have key:∀(n i j:Nat) (b:AAN),i<=j->j<=b.length->b.length<=2^30->b.length-j<n->Bv n t i j b=some (((),()),((),b.take i++(b.drop j).filter (fun x=> !(!t.1.1.contains x)),())):=by
  intro n
  induction n with
  |zero=>omega
  |succ n ih=>
   intro i j b hij hj hb hn;simp only[Bv,Dv,AB];by_cases hc:j<b.length
   ·rw[AI9 (by omega),AI9 (by omega),Af hc,zU h]
    simp only[AD];rw[AH (x:=(j:Int)+1) (by omega) (by omega),AH (x:=(i:Int)+1) (by omega) (by omega),show((j:Int)+1)=((j+1:Nat):Int)by omega,show((i:Int)+1)=((i+1:Nat):Int)by omega,drop_cons hc,AO3];have n1:=ih (i+1) (j+1) (b.set i b[j]) (by omega) (by grind) (by simp_all) (by grind);have n2:=ih i (j+1) b (by omega) (by omega) hb (by omega);rw[show(t.1,())=t from rfl,n2];rw[ATb (by omega),AOz (by grind),ATc (ALj _),ATW,AKK,APM]at n1;rw[AI9 (by omega),AJT,n1]
    generalize hx:b[j]=x
    cases(!t.1.1.contains x)<;>rfl
   ·rw[AJD (by omega),AJm (i:=j) (by omega),AJT,AJT]
    simp_all;omega
 have zC:∀(n i:Nat),i<=l.length->l.length-i<n-> ∃r:Int,B6 n l t l.length i=some ((r,()),())/\((r= -1/\(l.drop i).filter (fun x=> !(!t.1.1.contains x))=l.drop i)\/ ∃q:Nat,r=q/\i<=q/\q<l.length/\((l.take q).drop i).filter (fun x=> !(!t.1.1.contains x))=(l.take q).drop i/\ ∀(h:q<l.length) x,x=l[q]->(!t.1.1.contains x)=true):=by
  intro n
  induction n with
  |zero=>omega
  |succ n ih=>
   intro i hi hn;simp only[B6,D4,AB];by_cases hc:i<l.length
   ·rw[AI9 (by omega),AI9 (by omega),Af hc,zU h]
    simp only[AD];rw[AH (x:=(i:Int)+1) (by omega) (by omega),show((i:Int)+1)=((i+1:Nat):Int)by omega,show(t.1,())=t from rfl];obtain⟨r,e,hr⟩:=ih (i+1) (by omega) (by omega);rw[e]
    generalize hx:l[i]=x
    cases hp:(!t.1.1.contains x)with
    |true=>
     grind
    |false=>
     refine⟨r,rfl,?_⟩;rcases hr with⟨h1,h2⟩|⟨q,h1,h2,h3,h4,h5⟩
     ·grind[drop_cons]
     ·refine .inr ⟨q,h1,by omega,h3,?_,h5⟩
      grind[drop_cons]
   grind
 obtain⟨r,e,hr⟩:=zC AX 0 (by omega) (Ab (by omega));rw[show((0:Nat):Int)=0 from rfl]at e;unfold Cj Dt Df D3;rw[show(t.1,())=t from rfl,e];simp only[AD];rcases hr with⟨h1,h2⟩|⟨q,h1,h2,h3,h4,h5⟩
 ·grind
 ·rw[h1,AKA.2 (by omega),AJQ,AH (by omega) (by omega),show((q:Int)+1)=((q+1:Nat):Int)by omega,key AX q (q+1) l (by omega) (by omega) hl (Ab (by omega))]
  rw[AOn]at h4;have hd:=h5 h3 _ rfl;grind[List.take_append_drop,drop_cons]
theorem dD{t:ACw}{l:AAN}(hl:l.length<=2^30):Ck t l=some (((),()),((),l.filter (fun x=> !(x==t.1.1)),())):=by
 have key:∀(n i j:Nat) (b:AAN),i<=j->j<=b.length->b.length<=2^30->b.length-j<n->Bt n t i j b=some (((),()),((),b.take i++(b.drop j).filter (fun x=> !(x==t.1.1)),())):=by
  intro n
  induction n with
  |zero=>omega
  |succ n ih=>
   intro i j b hij hj hb hn;simp only[Bt,EY,AB];by_cases hc:j<b.length
   ·rw[AI9 (by omega),AI9 (by omega),Af hc,oU]
    simp only[AD];rw[AH (x:=(j:Int)+1) (by omega) (by omega),AH (x:=(i:Int)+1) (by omega) (by omega),show((j:Int)+1)=((j+1:Nat):Int)by omega,show((i:Int)+1)=((i+1:Nat):Int)by omega,drop_cons hc,AO3];have n1:=ih (i+1) (j+1) (b.set i b[j]) (by omega) (by grind) (by simp_all) (by grind);have n2:=ih i (j+1) b (by omega) (by omega) hb (by omega);rw[show(t.1,())=t from rfl,n2];rw[ATb (by omega),AOz (by grind),ATc (ALj _),ATW,AKK,APM]at n1;rw[AI9 (by omega),AJT,n1]
    generalize hx:b[j]=x
    cases(x==t.1.1)<;>rfl
   ·rw[AJD (by omega),AJm (i:=j) (by omega),AJT,AJT]
    simp_all;omega
 have zC:∀(n i:Nat),i<=l.length->l.length-i<n-> ∃r:Int,B3 n l t l.length i=some ((r,()),())/\((r= -1/\(l.drop i).filter (fun x=> !(x==t.1.1))=l.drop i)\/ ∃q:Nat,r=q/\i<=q/\q<l.length/\((l.take q).drop i).filter (fun x=> !(x==t.1.1))=(l.take q).drop i/\ ∀(h:q<l.length) x,x=l[q]->(x==t.1.1)=true):=by
  intro n
  induction n with
  |zero=>omega
  |succ n ih=>
   intro i hi hn;simp only[B3,Et,AB];by_cases hc:i<l.length
   ·rw[AI9 (by omega),AI9 (by omega),Af hc,oU]
    simp only[AD];rw[AH (x:=(i:Int)+1) (by omega) (by omega),show((i:Int)+1)=((i+1:Nat):Int)by omega,show(t.1,())=t from rfl];obtain⟨r,e,hr⟩:=ih (i+1) (by omega) (by omega);rw[e]
    generalize hx:l[i]=x
    cases hp:(x==t.1.1)with
    |true=>
     grind
    |false=>
     refine⟨r,rfl,?_⟩;rcases hr with⟨h1,h2⟩|⟨q,h1,h2,h3,h4,h5⟩
     ·grind[drop_cons]
     ·refine .inr ⟨q,h1,by omega,h3,?_,h5⟩
      grind[drop_cons]
   grind
 obtain⟨r,e,hr⟩:=zC AX 0 (by omega) (Ab (by omega));rw[show((0:Nat):Int)=0 from rfl]at e;unfold Ck EZ Du Ew;rw[show(t.1,())=t from rfl,e];simp only[AD];rcases hr with⟨h1,h2⟩|⟨q,h1,h2,h3,h4,h5⟩
 ·grind
 ·rw[h1,AKA.2 (by omega),AJQ,AH (by omega) (by omega),show((q:Int)+1)=((q+1:Nat):Int)by omega,key AX q (q+1) l (by omega) (by omega) hl (Ab (by omega))]
  rw[AOn]at h4;have hd:=h5 h3 _ rfl;grind[List.take_append_drop,drop_cons]
theorem cy{a b:AAN}(ha:a.length<=2^30)(hb:b.length<=2^30):NK a b=some (((),()),(a.filter b.contains,())):=by
 unfold NK;rw[Dj ha];simp only[AD];rw[pU hb ha];grind
theorem P0{a:AAN}{x:Int}(ha:a.length<=2^30):G_ a x=some (((),()),(less a [x],())):=by
 unfold G_ less;rw[Dj ha];simp only[AD];rw[dD ha];grind
theorem fA{d:Al}:Vk d=some ((GD d,()),()):=by
 obtain⟨k,a,b,n,t,⟨⟩⟩:=d;obtain⟨m,hm⟩:∃m,AX=m+4:=⟨AX-4,by have:=Uw;omega⟩;have fin:∀(a' b' n':Int) (t':AAZ),(((Ay k 1 16).bind fun u4=>cond (u4.1.1) (cond ((((0:Int)==0)&&((a' ==0)&&((b' ==0)&&((n' ==0)&&((t' ==[])&&true))))) ) ((F6 t).bind fun u6=>some ((u6.1.1,()),())) (some ((false,()),()))) (some ((false,()),()))):Option QT)=some ((BD k 1 16&&((a' ==0)&&((b' ==0)&&((n' ==0)&&((t' ==[])&&decide (t.length<=40))))),()),()):=by
  intro a' b' n' t';rw[Au];simp only[AD,F6,AO_,AKB,AO0];have e:decide ((t.length:Int)<=40)=decide (t.length<=40):=by grind
  grind
 unfold Vk Z8 PO GD XO;rw[hm];have h1:((1:Nat):Int)=1:=rfl;have w1:AW (1:Int)=1:=AH (by omega) (by omega);have w2:AW (2:Int)=2:=AH (by omega) (by omega);have w3:AW (3:Int)=3:=AH (by omega) (by omega);have lim:(3:Nat)<=Cm:=by rw[Ap];omega
 have l0:(0:Nat)<=Cm:=by omega
 have l1:(1:Nat)<=Cm:=by omega
 have l2:(2:Nat)<=Cm:=by omega
 dsimp only;by_cases k8:k=8
 ·subst k8
  simpa[Dl,DN]using fin a b n t
 by_cases k10:k=10
 ·subst k10
  simpa[Dl,DN]using fin a b n t
 by_cases k12:k=12
 ·subst k12
  simpa[Dl,DN]using fin a b n t
 by_cases k2:k=2
 ·subst k2
  simpa[Dl,DN,l2,w1,w2]using fin 0 b n []
 by_cases k3:k=3
 ·subst k3
  simpa[Dl,DN,lim,w1,w2,w3]using fin 0 0 0 t
 by_cases k5:k=5
 ·subst k5
  simpa[Dl,DN,l2,w1,w2]using fin 0 0 n t
 by_cases k14:k=14
 ·subst k14
  simpa[Dl,DN,l2,w1,w2]using fin 0 0 n t
 by_cases k11:k=11
 ·subst k11
  simpa[Dl,DN,l2,w1,w2]using fin a 0 0 t
 by_cases k13:k=13
 ·subst k13
  simpa[Dl,DN,l1,w1]using fin 0 b n t
 have e8:(k==8)=false:=AKA.2 k8;have e10:(k==10)=false:=AKA.2 k10;have e12:(k==12)=false:=AKA.2 k12;have e2:(k==2)=false:=AKA.2 k2;have e3:(k==3)=false:=AKA.2 k3;have e5:(k==5)=false:=AKA.2 k5;have e14:(k==14)=false:=AKA.2 k14;have e11:(k==11)=false:=AKA.2 k11;have e13:(k==13)=false:=AKA.2 k13;simpa[k8,k10,k12,k2,k3,k5,k14,k11,k13,e8,e10,e12,e2,e3,e5,e14,e11,e13,Dl,DN,l1,w1]using fin 0 b n t
theorem qE{l:List BG}(hl:l.length<=2^20):PZ l=some (((),()),(l.map (fun a=>a.1),())):=by
 have key:∀(n i:Nat) (b:AAN),i<=l.length->l.length-i<n->b.length=i->Mt n l l.length i b=some (((),()),(b++(l.drop i).map (fun a=>a.1),())):=by
  intro n
  induction n with
  |zero=>omega
  |succ n ih=>
   intro i b hi h hb;simp only[Mt,Yp,AB];by_cases eY:i<l.length
   ·have c1:(0:Int)<=(i:Int)/\(i:Int)<(l.length:Int):=by omega
    have c2:b.length+1<=Cm:=by rw[Ap];omega
    rw[AI9 c1.2,AI9 c1,AI9 c2,AH (by omega) (by omega),show((i:Int)+1)=((i+1:Nat):Int)by omega,Af eY,ih (i+1) _ (by omega) (by omega) (by simp_all),drop_cons eY];grind
   grind
 unfold PZ Yi;have:=key AX 0 [] (by omega) (Ab (by omega)) rfl;simp_all
theorem xR{c:CK}{s l:AAN}(hc:c.1.length<=2^40)(hl:l.length<=2^20)(hs:s.length<=2^20):gQ c s l=some (((),()),(if A_ c s&&A_ c l then less s l else[],())):=by
 have key:∀(n i:Nat) (b:AAN),i<=s.length->s.length-i<n->b.length<=i->Sd n l s s.length i b=some (((),()),(b++less (s.drop i) l,())):=by
  intro n
  induction n with
  |zero=>omega
  |succ n ih=>
   intro i b hi h hb;simp only[Sd,eP,AB,Ao];by_cases eY:i<s.length
   ·have c1:(0:Int)<=(i:Int)/\(i:Int)<(s.length:Int):=by omega
    have c2:b.length+1<=Cm:=by rw[Ap];omega
    rw[AI9 c1.2,AI9 c1,Af eY,Ir (by omega),AH (by omega) (by omega),show((i:Int)+1)=((i+1:Nat):Int)by omega,drop_cons eY];simp only[AD,AI9 c2];rw[ih (i+1) b (by omega) (by omega) (by omega),ih (i+1) (b++[s[i]]) (by omega) (by omega) (by simp_all)];grind[less]
   ·rw[AJD (by omega),AJm (by omega)]
    simp[less]
 unfold gQ eU;rw[show(c.1,c.2.1,())=c from rfl,D_ hc (by omega),D_ hc (by omega)];simp only[AD];cases A_ c s with
 |false=>rfl
 |true=>
  cases A_ c l with
  |false=>rfl
  |true=>
   have:=key AX 0 [] (by omega) (Ab (by omega)) (by simp);simp_all
theorem filter_all{l:AAN}{p:Int->Bool}:((((l.filter p).length:Nat):Int) !=(l.length:Int))= !l.all p:=by
 rw[ATP];simp only[bne_iff_ne,ne_eq,APE,APG];grind[List.filter_eq_self,List.all_eq_true,List.length_filter_eq_length_iff]
theorem f_{c:CK}{s l:AAN}(hc:c.1.length<=2^40)(hl:l.length<=2^20)(hs:s.length<=2^20):G1 c s l=some ((Q4 c s l,()),()):=by
 unfold G1 Q4;rw[show(c.1,c.2.1,())=c from rfl,D_ hc (by omega),GN hc (by omega),cy (by omega) (by omega),xR hc hl hs];simp only[AD,Ao,filter_all];have hh:holds c s=true->A_ c s=true:=fun h=>by
  unfold holds at h;simp_all
 cases h1:A_ c l with
 |false=>simp
 |true=>
  cases h2:holds c s with
  |false=>rfl
  |true=>
   cases h3:l.all s.contains with
   |false=>rfl
   |true=>
    have h4:(less s l).length<=2^20:=AOT (AOj _ _) hs;rw[hh h2];simp only[AJy,Bool.and_self,AOx,AJX,AJQ,AKB];grind[GN]
theorem YB{a b:AJ}:Rj a b=some ((better a b,()),()):=by
 unfold Rj better;grind
theorem tN{s:AAN}{p:Int}{l:List BG}(hs:s.length<=2^20)(hl:l.length<=2^20)(Pu:∀a∈l,CN a.2.2.1):
  Z4 l s p=some (((((Ij s p none l).getD Di),(Ij s p none l).isSome,()),()),()):=by
 have key:∀(n i:Nat) (b:Option AJ),i<=l.length->l.length-i<n->
   O2 n s p b.isSome l l.length i 0 0 false [] (b.getD Di).1 (b.getD Di).2.1 (b.getD Di).2.2.1 (b.getD Di).2.2.2.1=some (((((Ij s p b (l.drop i)).getD Di),(Ij s p b (l.drop i)).isSome,()),()),()):=by
  intro n
  induction n with
  |zero=>omega
  |succ n ih=>
   intro i b hi h;simp only[O2,Za,AB,Ao];by_cases eY:i<l.length
   ·have c1:(0:Int)<=(i:Int)/\(i:Int)<(l.length:Int):=by omega
    rw[AI9 c1.2,AI9 c1,AH (by omega) (by omega),show((i:Int)+1)=((i+1:Nat):Int)by omega,Af eY,drop_cons eY];have ih':=fun b=>ih (i+1) b (by omega) (by omega)
    simp only[ih'];rw[Ir (by omega),show(l[i].2.2.1,l[i].2.2.2.1,l[i].2.2.2.2.1,l[i].2.2.2.2.2.1,())=Xb l[i]from rfl];rw[Qh (e:=Xb l[i]) (Pu _ (AJ7 eY))];simp only[AD,Ij];cases h1:l[i].2.1 with
    |false=>simp
    |true=>
     cases h2:s.contains l[i].1 with
     |false=>simp
     |true=>
      cases h3:Fg (Xb l[i])with
      |false=>simp
      |true=>
       simp only[AJy,AKB];by_cases h4:l[i].2.2.1=p
       ·rw[Cq,AI9 h4,AI9 (by show((Xb l[i]).1==p)=true;rw[APF];exact h4)]
        cases b with
        |none=>
         simp only[AO8,AJQ,YB,AD,Option.getD_none];have:=ih' (some (Xb l[i]));simp only[AO2,AO4]at this;have hb:better (Xb l[i]) (Xb l[i])=Xb l[i]:=by unfold better;simp_all
         simp_all
        |some x=>
         simp only[AO2,AJy,AO4];rw[eg x];grind[YB,AD,better,Xb,Option.isSome_some]
       ·rw[Cq,AJD h4,AJD (by show¬((Xb l[i]).1==p)=true;rw[APF];exact h4)]
   ·rw[AJD (by omega),AJm (by omega)]
    rfl
 unfold Z4 aO;exact key AX 0 none (by omega) (Ab (by omega))
theorem cY{s t:AAN}{p:Int}:∀{l:List BG} {b:Option AJ},(∀a∈l,s.contains a.1=t.contains a.1)->Ij s p b l=Ij t p b l
 |[],b,_=>rfl
 |a::l,b,h=>by
  simp only[Ij];rw[h a (by simp),cY (fun x hx=>h x (by simp[hx])),cY (fun x hx=>h x (by simp[hx]))]
theorem W7{e:Av}{a b:Int}{l:List Av}(h:l.length<=2^30):E4 e a b l=some (((),()),((a,b,(),()),(),l++[e],())):=by
 unfold E4;rw[AI9 (by rw[Ap];omega)]
theorem fg{s:AAN}{l:List BG}{a b:Int}{o:List Av}(ha:1<=a/\a<=30)(hb:1<=b/\b<=60)(ho:o.length<=2^20)(hs:s.length<=2^20)(hl:l.length<=2^20)(Pu:∀a∈l,CN a.2.2.1):
  C2 l s a b o=some (((),()),((a,b+1,(),()),(),o++[UF (Gv a b) (Ij s (Gv a b) none l)],())):=by
 unfold C2;rw[Gp];have hp:D1 a b=Gv a b:=by
  unfold D1;rw[AI9 (by rw[AJR,Ak,Ak];omega)]
 simp only[AD];rw[hp,tN hs hl Pu];simp only[AD,W7 (AOT ho (by omega))];rw[AH (by omega) (by omega)];cases Ij s (Gv a b) none l with
 |none=>rfl
 |some x=>
  simp only[AO2,AJX,AJQ,AO4,UF];grind
theorem ABb{x e o:Int}(hx:x=0\/Aq x=true)(he:1<=e/\e<=31)(ho:1<=o/\o<=61):
  decide (x>=Gv e o)=(decide (x>0)&& !(decide (AZ x<e)||((AZ x==e)&&decide (Bl x<o)))):=by
 rcases hx with rfl|hx
 ·grind[decide_eq_false,Gv]
 ·have h:=GA hx
  rw[ATP];simp only[AJR,APE,Bool.or_eq_false_iff,AJr,AP5,Bool.and_eq_false_iff,AKA];grind[Gv]
theorem pR{x:Int}{r:Ac}(hx:CN x):Ie x r=some ((decide (AZ x<r.1)||((AZ x==r.1)&&decide (Bl x<r.2.1)),()),()):=by
 grind[Ie,Dg,QF,AD,decide,AZ]
theorem jg{c:CK}{g:AN}{sure:Int}{r:Ac}{l:List BG}(hc:c.1.length<=2^20)(hg:Ae B_ g.1<=2^20)(ht:CN g.2.1)(hl:l.length<=2^20)(Pu:∀a∈l,CN a.2.2.1):
  J5 c g sure r l=some (AAy (DH c g sure r l)):=by
 unfold J5 DH;rw[show(c.1,c.2.1,())=c from rfl,show(g.1,g.2.1,())=g from rfl,N_ r,qE hl,NC (by omega) (by omega) ht,bp];simp only[AD,Ao,AB];rw[D_ (by omega) (by grind)];simp only[AD];cases h1:OO c g with
 |false=>rfl
 |true=>
 cases h2:SK r with
 |false=>rfl
 |true=>
 cases h3:A_ c (l.map fun a=>a.1)with
 |false=>rfl
 |true=>
 have hr:=Ue.1 h2;have hre:=hr.ep;have hro:=hr.off;have hrn:=hr.n;have hR:=KC.1 h1;have hRn:=hR.n;simp only[AJy,AKB,AJX,AJn,AMd];rw[ZB (by omega)];simp only[AD];by_cases h4:r.1>(g.1.length:Int)
 ·rw[AI9 h4,ALg h4];rfl
 rw[AJD h4,ANS h4];by_cases h5:r.2.2.1.length=120
 ·rw[show(((r.2.2.1.length:Nat):Int)==120)=true by simp_all,ALg h5];rfl
 rw[show(((r.2.2.1.length:Nat):Int)==120)=false by grind,ANS h5];simp only[AJQ,ANG,AJn,AMd];rw[AH (x:=r.1-1) (by omega) (by omega),pR ht,Dg ht,QF ht];simp only[AD];have hto:=j_ (x:=g.2.1);rw[AH (x:=Bl g.2.1+1) (by omega) (by omega),AH (x:=r.1+1) (by omega) (by omega)];simp only[W7 (l:=r.2.2.1) (by omega),AD];have hta:=ABb (x:=g.2.1) (e:=r.1) (o:=r.2.1) (hR.trim.imp id fun h=>h.1) hre hro
 generalize AE_:g.1.getD (r.1-1).toNat IM=era
 have IQ:(r.1-1).toNat<g.1.length:=by omega
 have U0:era.1.length<=2^20:=by
  have h7:=AY (f:=B_) (Bh (d:=IM) IQ);rw[AE_]at h7;have:B_ era=era.1.length:=rfl;omega
 have hd:g.1.getD (r.1-1).toNat ([],false,0,())=era:=AE_;rw[hd];have hf:((l.map fun a=>a.1).filter era.1.contains).length<=2^20:=AOT (AOj _ _) (by simp_all);rw[cy (by grind) (by omega)];simp only[AD];rw[f_ (by omega) hf U0];simp only[AD];have sX:(0:Int)<=r.1-1/\r.1-1<(g.1.length:Int):=by omega
 simp only[AI9 sX]
 generalize hT:(cond (era.2.1) _ _:Option Kf)=T
 have z8:T=some (AAy (if era.2.1&&decide (r.2.1>era.2.2.1)then((r.1+1,1,r.2.2.1++[(4,r.1+1,[],())],()),0)else
   if(!era.2.1&&decide (r.2.1>sure))||decide (r.2.1>60)then(r,2)else
   if !Q4 c era.1 ((l.map fun a=>a.1).filter era.1.contains)then(r,3)else
   ((r.1,r.2.1+1,r.2.2.1++[UF (Gv r.1 r.2.1) (Ij era.1 (Gv r.1 r.2.1) none l)],()),0))):=by
  rw[<-hT];clear hT;have tail:r.2.1<=60->(cond (Q4 c era.1 ((l.map fun a=>a.1).filter era.1.contains))
    ((C2 l ((l.map fun a=>a.1).filter era.1.contains) r.1 r.2.1 r.2.2.1).bind fun iG=>some ((((iG.2.1.1,iG.2.1.2.1,(),()),0,()),()),(iG.2.2.2.1,())))
    (some ((((r.1,r.2.1,(),()),3,()),()),(r.2.2.1,()))):Option Kf)=some (AAy (if !Q4 c era.1 ((l.map fun a=>a.1).filter era.1.contains)then(r,3)else
    ((r.1,r.2.1+1,r.2.2.1++[UF (Gv r.1 r.2.1) (Ij era.1 (Gv r.1 r.2.1) none l)],()),0))):=by
   intro h60;rw[fg (by omega) (by omega) (by omega) hf hl Pu];rw[cY (s:=(l.map fun a=>a.1).filter era.1.contains) (t:=era.1) (fun a ha=>by
    rw[ATP,APu,ATA];exact⟨fun h=>by simp_all,fun h=>⟨List.mem_map_of_mem ha,by omega⟩⟩)]
   cases Q4 c era.1 ((l.map fun a=>a.1).filter era.1.contains)<;>rfl
  cases h7:era.2.1 with
  |true=>
   simp only[AJy,AJQ,AKB,AJX,AOw,ANG,AJr];by_cases h8:r.2.1>era.2.2.1
   ·rw[AI9 h8,AI9 h8];rfl
   rw[AJD h8,AJD h8];by_cases h9:r.2.1>60
   ·rw[AI9 h9,AI9 h9];rfl
   grind
  |false=>
   simp only[AJy,AJQ,AKB,AOH,AOw,AJn,AMd,AOy,AJr];by_cases h8:r.2.1>sure
   ·rw[AI9 h8,AI9 (.inl h8)];rfl
   rw[AJD h8];by_cases h9:r.2.1>60
   ·rw[AI9 h9,AI9 (.inr h9)];rfl
   grind
 rw[z8];clear hT z8
 generalize (decide (AZ g.2.1<r.1)||((AZ g.2.1==r.1)&&decide (Bl g.2.1<r.2.1)))=B at hta|-
 by_cases h6:g.2.1>=Gv r.1 r.2.1
 ·rw[ALg h6]at hta
  rw[AI9 h6];by_cases h0:g.2.1>0
  ·rw[AI9 h0]
   cases B with
   |true=>grind
   |false=>rfl
  simp_all
 ·rw[AJD h6]
  simp_all
theorem ADF{w:AA}{p n:Int}:(answer w p n).1=n:=by
 grind[answer]
theorem sr{w:AA}{p:Int}{ns:AAN}:(answers w p ns).map (fun a=>a.1)=ns.filter fun n=>Ar w n==0:=by
 unfold answers;rw[ARo]
 conv=>rhs;rw[<-ATo (ns.filter fun n=>Ar w n==0)]
 grind[List.map_congr_left,ADF]
theorem nF{c:CK}{g:AN}{s:Int}{r:Ac}{w:AA}{ns:AAN}:
  DH c g s r (answers w (D1 r.1 r.2.1) ns)=DH c g s r (answers w (Gv r.1 r.2.1) ns):=by
 unfold DH;rw[sr,sr];cases h1:OO c g with
 |false=>rfl
 |true=>
 cases h2:SK r with
 |false=>rfl
 |true=>
 have hr:=Ue.1 h2;have hre:=hr.ep;have hro:=hr.off;have hRn:=(KC.1 h1).n;by_cases h3:r.1<=30/\r.2.1<=60
 ·have:D1 r.1 r.2.1=Gv r.1 r.2.1:=by
   unfold D1;rw[AI9 (by rw[AJR,Ak,Ak];omega)]
  rw[this]
 ·by_cases h4:r.1>(g.1.length:Int)
  ·simp_all
  ·have h5:r.2.1>60:=by omega
   simp_all
def mh(q:AA×Int):KY:=((q.2,()),(((),q.1.2.1,(),(),(),q.1.2.2.2.2.2.1,(),(),(),(),q.1.2.2.2.2.2.2.2.2.2.2.1,()),q.1.1,q.1.2.2.1,q.1.2.2.2.1,q.1.2.2.2.2.1,q.1.2.2.2.2.2.2.1,q.1.2.2.2.2.2.2.2.1,q.1.2.2.2.2.2.2.2.2.1,q.1.2.2.2.2.2.2.2.2.2.1,()))
theorem AHc{k n:Int}(h:n∈BL k):0<=n/\n<=7:=by
 unfold BL at h;simp_all;omega
theorem zz{k:Int}:(BL k).length<=8:=by
 unfold BL;split
 ·exact AOT (AOj _ _) (by simp)
 ·simp
section
variable{w:AA} (h:RT w) (Xj:lq w)
include h Xj
omit Xj in
theorem ABz{p:Int}{ns:AAN}:∀a∈answers w p ns,CN a.2.2.1:=fun a ha=>by
 unfold answers at ha;obtain⟨n,hn,rfl⟩:=APC.1 ha;have hn':Ar w n=0:=by have:=(ATA.1 hn).2;rwa [APF]at this
 unfold answer;split
 ·rename_i e he
  have:=(h.store hn').kept e (ATF he);exact Kh (Hs.1 this).pl
 ·exact⟨by show-9223372036854775808<=(0:Int);omega,by show(0:Int)<9223372036854775808;omega⟩
theorem jn{a k:Int}:My a k w.2.1 w.2.2.2.2.2.1 w.2.2.2.2.2.2.2.2.2.2.1 w.1 w.2.2.1 w.2.2.2.1 w.2.2.2.2.1 w.2.2.2.2.2.2.1 w.2.2.2.2.2.2.2.1 w.2.2.2.2.2.2.2.2.1 w.2.2.2.2.2.2.2.2.2.1=some (mh (Lt w a k)):=by
 have kn:=h.nums;have k1:=kn.c;have k3:=kn.lost;have k4:=kn.st;have jx:=kn.J1;have lr:=kn.jw;have k5:=kn.era;have k6:=kn.ws;have k6':Ae Ai w.BZ<=80008:=kn.ws;have k8:=kn.rd;unfold My NR Lt;rw[AH (by omega) (by omega),show((w.2.2.2.2.2.2.2.2.1.length:Int)-1)=1 by omega,Au];simp only[AD,Ao];rcases AIn (BD a 0 1)with h1|h1
 rotate_left
 ·rw[h1];rfl
 have h1':=Ak.1 h1;have hb:0<=a/\a<(w.2.2.2.2.2.2.2.2.1.length:Int):=by omega
 have IQ:a.toNat<w.Ag.length:=by
  simp_all
 have ZN:=h.Ag _ (Bh (d:=AO) IQ);rw[h1,Fq,AJy,AI9 hb,aY];simp only[show w.2.2.2.2.2.2.2.2.1.getD a.toNat (0,0,[],())=w.Ag.getD a.toNat AO from rfl]
 generalize hx:w.Ag.getD a.toNat AO=r at ZN|-
 have hre:=ZN.ep;have hro:=ZN.off;rw[Gp];simp only[AD];have vi:=zz (k:=k);have hmi:=fun n=>AHc (k:=k) (n:=n)
 rw[<-nF]
 generalize hp:D1 r.1 r.2.1=p
 have Pu:=fun ns=>ABz h (p:=p) (ns:=ns)
 generalize BL k=ms at vi hmi
 have key:∀(n i:Nat) (b:List BG),i<=ms.length->ms.length-i<n->b.length<=i->b=answers w p (ms.take i)->
   C8 n a p ms.length i w.2.1 w.2.2.2.2.2.1 w.2.2.2.2.2.2.2.2.2.2.1 w.1 w.2.2.1 w.2.2.2.1 w.2.2.2.2.1 w.2.2.2.2.2.2.1 w.2.2.2.2.2.2.2.1 w.2.2.2.2.2.2.2.2.1 w.2.2.2.2.2.2.2.2.2.1 r.1 r.2.1 r.2.2.1 b ms=
    some (mh (if(DH (Aa w) (Cb w) (cX w r.1) r (answers w p ms)).2≠0 then(w,5)else(w.C5 (w.Ag.set a.toNat (DH (Aa w) (Cb w) (cX w r.1) r (answers w p ms)).1),0))):=by
  intro n
  induction n with
  |zero=>omega
  |succ n ih=>
   intro i b hi hn hb' he;simp only[C8,NT,AB,Ao];by_cases D7:i<ms.length
   ·have c1:(0:Int)<=(i:Int)/\(i:Int)<(ms.length:Int):=by omega
    have c2:b.length+1<=Cm:=by rw[Ap];omega
    have ht:ms.take (i+1)=ms.take i++[ms[i]]:=AOz D7;rw[AI9 c1.2,AI9 c1,Af D7,AH (by omega) (by omega),show((i:Int)+1)=((i+1:Nat):Int)by omega,GS w,bo (by omega)];simp only[AD];have hm:=hmi _ (AJ7 D7);by_cases hn0:Ar w ms[i]=0
    ·obtain⟨n1,n2,n3⟩:=QC hn0
     have n2':ms[i]<(w.2.2.1.length:Int):=n2;have n3':w.2.2.2.1.contains ms[i]=false:=by
      simp_all
     have hs1:(ms[i]).toNat<w.2.2.1.length:=by omega
     have dC:w.2.2.1.getD (ms[i]).toNat ([],[],0,())=storeAt w ms[i]:=rfl;have hsm:Ai (storeAt w ms[i])<=2^30:=AOT (AY (f:=Ai) (Bh (d:=Dm) hs1)) (by omega);have AWN:CA (storeAt w ms[i])=true:=Dc.2 (h.store hn0);rw[AI9 n2',n3',AJQ,AI9 ⟨n1,n2'⟩,dC,show((storeAt w ms[i]).1,(storeAt w ms[i]).2.1,(storeAt w ms[i]).2.2.1,())=storeAt w ms[i]from rfl,UO hsm (h.store hn0).sin];simp only[AD];rw[AI9 c2];refine ih (i+1) _ (by omega) (by omega) (by simp_all) ?_
     rw[ht,he];unfold answers;rw[List.filter_append,List.map_append];congr 1;rw[AO3,AI9 (by simp_all),ATa,APX,ASr];congr 1;unfold answer Yt;rw[AI9 AWN];cases OV p (storeAt w ms[i]).1<;>rfl
    ·have n1:=ih (i+1) b (by omega) (by omega) (by omega) (by
      rw[ht,he];unfold answers;rw[List.filter_append,List.map_append,AO3,AJD (by simp_all),ATa,ASr,AKX])
     by_cases hl:ms[i]<(w.2.2.1.length:Int)
     ·rw[AI9 hl]
      have ARq:w.2.2.2.1.contains ms[i]=true:=by
       cases hc:w.2.2.2.1.contains ms[i]with
       |true=>rfl
       |false=>
        exfalso
        apply hn0;unfold Ar;have e1:BD ms[i] 0 ((w.BZ.length:Int)-1)=true:=Ak.2 (by omega);simp_all
      simp_all
     grind
   ·have e0:ms.take i=ms:=ANm (by omega)
    rw[e0]at he;subst he;have hal:(answers w p ms).length<=8:=by omega
    rw[AJD (by omega),GS w,q8 Xj,N_ r,show(w.1,w.2.1,())=Aa w from rfl,show(w.2.2.2.2.1,w.2.2.2.2.2.1,())=Cb w from rfl];simp only[AD];rw[jg (c:=Aa w) (g:=Cb w) (by show w.1.length<=_;omega) (by show Ae B_ w.2.2.2.2.1<=_;omega) kn.trim (by omega) (Pu ms)];simp only[AD,AAy,Cq];by_cases h2:(DH (Aa w) (Cb w) (cX w r.1) r (answers w p ms)).2=0
    ·rw[AI9 h2,AI9 hb,AJD (fun hh=>hh h2)];rfl
    ·rw[AJD h2,AI9 h2];rfl
 grind[AX,Ab,answers]
end
theorem AGi{n:Nat}:Ae Ai (List.replicate n Dm)=n:=by
 induction n with
 |zero=>rfl
 |succ n ih=>
  rw[ATZ];simp only[Ae,ih];have:Ai Dm=0:=rfl;omega
theorem wU{c:CK}(hl:c.1.length<=2^10):lq (JT c):=by
 refine⟨?_,fun s hs=> ?_,⟨by show-9223372036854775808<=(0:Int);omega,by show(0:Int)<9223372036854775808;omega⟩,fun m hm=>(by cases hm),fun s hs=>(by cases hs)⟩
 ·grind[Co,JT,AGi,Ae,B_,An,CH,Ax,Dx,List.length_nil]
 ·have:s=Dm:=AO7 (n:=c.1.length) hs
  subst this;exact gm.nil.sin
theorem mc{c:CK}:C9 (JT c)=Ee c:=by
 cases hc:Ee c with
 |true=>exact Kc.2 (og hc).1
 |false=>
  rw[APG];intro h;have:=(Kc.1 h).cfg;have e:Aa (JT c)=c:=rfl;simp_all
theorem mD{c:CK}(hl:c.1.length<=2^10):ED c=some (if Ee c then(((((),c.2.1,(),(),(),0,(),(),(),(),false,()),true,()),()),(c.1,List.replicate c.1.length Dm,[],[],[],[],[(1,1,[],()),(1,1,[],())],[],()))else(((((),0,(),(),(),0,(),(),(),(),false,()),false,()),()),([],[],[],[],[],[],[],[],()))):=by
 unfold ED Jb;rw[show(c.1,c.2.1,())=c from rfl,Q_ (by omega)];simp only[AD];rw[AI9 ⟨by omega,by omega,by rw[Ap];omega⟩,AJT];have h:=Fj (wU hl);rw[mc]at h;have e:(c.1,c.2.1,List.replicate c.1.length ([],[],0,()),[],[],0,[],[],[(1,1,[],()),(1,1,[],())],[],false,())=JT c:=rfl;grind
theorem rN{c:CK}{g:AN}{sure:Int}{r:Ac}{l:List BG}(h0:(DH c g sure r l).2=0):
  (∃e:Av,(DH c g sure r l).1.2.2.1=r.2.2.1++[e]/\e.2.2.1.length<=40)/\r.2.2.1.length<120:=by
 have hf:∀p,(UF p (Ij (g.1.getD (r.1-1).toNat IM).1 p none l)).2.2.1.length<=40:=fun p=>by
  cases hb:Ij (g.1.getD (r.1-1).toNat IM).1 p none l with
  |none=>show 0<=40;omega
  |some x=>
   have:=(Hs.1 (nZ (b:=none) (fun x hx=>by cases hx) x hb)).len;unfold UF;dsimp only;split
   all_goals simp_all
 revert h0
 unfold DH;dsimp only;split
 ·omega
 rename_i hs;simp only[AMH,AMT,AJR,Ue]at hs;have r3:=hs.2.1.n;split
 ·omega
 rename_i h1;simp only[AOy,AJr,ATi]at h1;have IQ:r.2.2.1.length<120:=by omega
 split
 ·simp_all
 split
 ·simp_all
 split
 ·omega
 split
 all_goals simp_all
theorem RT.AWz{w:AA}(h:RT w)(hr:Ae Ax w.Ag<=900000):lq w:=by
 have hc:=(HJ h.cfg).2.1;have eY:w.1.length<=8:=hc;have a1:=G7 (f:=Ai) (B:=10000) (N:=8) (l:=w.BZ) (by rw[h.tX];omega) fun s hs=>(h.Vt hs).w
 have a2:=Kd h.lost;have a3:=h.qV.w;have a4:=G7 (f:=An) (B:=3000) h.uN fun x hx=>(h.AK x hx).1.w
 have a5:=G7 (f:=CH) (B:=5000) h.nmd fun x hx=>(h.Cd x hx).1.w
 have a7:=G7 (f:=Dx) (B:=40) h.Se fun s hs=>(h.CF s hs).2.2
 refine⟨?_,fun s hs=>(h.Vt hs).sin,h.qV.tin,fun m hm=>(h.Cd m hm).1.ein,fun s hs=>Kh (h.CF s hs).1⟩;have a3':Ae B_ w.BJ<=270:=a3;grind[Ae,Ax,Ai,B_,An,CH,Dx,Co]
def AEO(w:AA)(a:Int):Nat:=(w.Ag.getD a.toNat AO).2.2.1.length
theorem wD{α:Type}{f:α->Nat}{x:α}:∀{l:List α} {i:Nat} (h:i<l.length),Ae f (l.set i x)+f l[i]=Ae f l+f x
 |y::l,0,_=>by simp[Ae];omega
 |y::l,i+1,h=>by
  have:=wD (f:=f) (x:=x) (l:=l) (i:=i) (by simp_all);grind[Ae]
theorem uz{α:Type}{f:α->Nat}{x:α}:∀{l:List α},Ae f (l++[x])=Ae f l+(1+f x)
 |[]=>by simp[Ae]
 |y::l=>by
  have:=uz (f:=f) (x:=x) (l:=l);grind[Ae]
theorem yl{w:AA}{a k:Int}(h:RT w)(e:(Lt w a k).2=0):BD a 0 1=true/\RT (Lt w a k).1/\AEO (Lt w a k).1 a=AEO w a+1/\AEO w a<120/\
  AEO (Lt w a k).1 (1-a)=AEO w (1-a)/\Ae Ax (Lt w a k).1.Ag<=Ae Ax w.Ag+41:=by
 have DX:=ACX h e;unfold Lt at e DX|-;split at e
 ·omega
 rename_i h1;rw[AJD h1]at DX;rw[AJD h1];dsimp only at e DX|-;split at e
 ·omega
 rename_i h2;rw[AJD h2]at DX;rw[AJD h2];simp only[ne_eq,ATB]at h2;simp only[AMH,AMT]at h1;have h1':=Ak.1 h1;have hl:a.toNat<w.Ag.length:=by rw[h.ri];omega
 obtain⟨⟨ev,q1,q2⟩,q3⟩:=rN h2
 generalize hq:(DH (Aa w) (Cb w) (cX w (w.Ag.getD a.toNat AO).1) (w.Ag.getD a.toNat AO) (answers w (Gv (w.Ag.getD a.toNat AO).1 (w.Ag.getD a.toNat AO).2.1) (BL k))).1=q at q1 DX
 have hg:(w.Ag.set a.toNat q).getD a.toNat AO=q:=by simp_all
 have WJ:(1-a).toNat≠a.toNat:=by omega
 refine⟨h1,DX,?_,q3,?_,?_⟩
 ·show((w.Ag.set a.toNat q).getD a.toNat AO).2.2.1.length=_
  grind[AEO]
 ·show((w.Ag.set a.toNat q).getD (1-a).toNat AO).2.2.1.length=_
  simp only[List.getD,ALE (Ne.symm WJ)];rfl
 ·show Ae Ax (w.Ag.set a.toNat q)<=_
  have:=wD (f:=Ax) (x:=q) hl;have e1:Ax q=Ae CB q.2.2.1:=rfl;have e2:Ax w.Ag[a.toNat]=Ae CB w.Ag[a.toNat].2.2.1:=rfl;rw[q1,uz,TP hl]at e1;have e3:CB ev=ev.2.2.1.length:=rfl;omega
theorem lP{α:Type}{q:Nat}{v l:List α}(hq:q<=l.length)(hl:l.length+v.length<=2^30):z6 (q:Int) v l=some (l.take q++v++l.drop q):=by
 unfold z6;rw[AI9 ⟨by omega,by omega,by rw[Ap];omega⟩,AJT]
theorem yK{l:AAN}(ha:WK id l)(hl:l.length<=2^30)(p:Int):∃q,kW id p l q/\
  GC l p=some ((((q:Int),(match l[q]? with|some e=>e==p|none=>false),()),()),()):=by
 have key:∀(n a b:Nat),a<=b->b<=l.length->b-a<n->(∀(i:Nat) (h:i<l.length),i<a->l[i]<p)->(∀(i:Nat) (h:i<l.length),b<=i->p<=l[i])->
   ∃q,kW id p l q/\Dn n l p l.length a b=some ((((q:Int),(match l[q]? with|some e=>e==p|none=>false),()),()),()):=by
  intro n
  induction n with
  |zero=>omega
  |succ n ih=>
   intro a b ug hb hn h1 h2;simp only[Dn,Jz,AB,cmp_Less_int,cmp_isNaN_int,PL,bne_self_eq_false,AD,AJQ];by_cases IQ:a<b
   ·have hm:(a+b)/2<l.length:=by omega
    rw[AI9 (by omega),w6 (by omega),AI9 (by omega),Af hm];by_cases hc:l[(a+b)/2]<p
    ·rw[AI9 hc,AH (by omega) (by omega),show((((a+b)/2:Nat):Int)+1)=(((a+b)/2+1:Nat):Int)by omega]
     refine ih _ b (by omega) hb (by omega) (fun i h hi=> ?_) h2;have:=dE (f:=id) ha h hm (by omega);grind
    ·have hge:∀(i:Nat) (h:i<l.length),(a+b)/2<=i->p<=l[i]:=fun i h hi=>by
      have:=dE (f:=id) ha hm h hi;grind
     rw[AJD hc];exact ih a _ (by omega) (by omega) (by omega) h1 hge
   ·have AHA:a=b:=by omega
    subst AHA;refine⟨a,⟨hb,h1,h2⟩,?_⟩;rw[AJD (by omega)];by_cases ha':a<l.length
    ·rw[AI9 (by omega),AI9 (by omega),Af ha',AJA ha']
     dsimp only;cases l[a]==p<;>simp[ha']
    grind
 obtain⟨q,hq,e⟩:=key AX 0 l.length (by omega) (by omega) (Ab (by omega)) (fun i h hi=>by omega) (fun i h hi=>by omega);refine⟨q,hq,?_⟩;unfold GC J0;omega
theorem tL{x:Int}:∀{l:AAN} {q:Nat},kW id x l q->(∀h:q<l.length,l[q]≠x)->jl x l=l.take q++[x]++l.drop q
 |[],q,h,_=>by
  have:=h.le;have:q=0:=by simp_all
  subst this;rfl
 |y::l,0,h,hn=>by
  have h1:=h.ge 0 (by simp) (ALj _);have h2:=hn (by simp);simp only[ART,id]at h1 h2;simp only[jl];grind
 |y::l,q+1,h,hn=>by
  have h1:=h.lt 0 (by simp) (by omega);simp only[ART,id]at h1;simp only[jl];rw[AJD (by omega),tL (l:=l) (q:=q) ⟨by have:=h.le;simp_all,fun i hi hiq=>by have:=h.lt (i+1) (by simp_all) (by omega);simp_all,fun i hi hiq=>by have:=h.ge (i+1) (by simp_all) (by omega);simp_all⟩ (fun hq=>by simp_all)];rfl
theorem PQ{l:AAN}{x:Int}(ha:WK id l)(hl:l.length<=2^29):Kz l x=some (((),()),(N9 x l,())):=by
 unfold Kz N9;rw[Dj (by omega)];simp only[AD];obtain⟨q,hq,e⟩:=yK ha (by omega) x;rw[e];simp only[AD,Ao];by_cases hc:q<l.length
 ·rw[AJA hc]
  dsimp only;by_cases he:l[q]=x
  ·grind
  ·rw[AKA.2 he,AJQ]
   have hn:l.contains x=false:=by
    rw[APG,ne_eq,APu];intro hm;obtain⟨i,hi,rfl⟩:=AOq hm;rcases Nat.lt_or_ge i q with hiq|hiq
    ·have:=hq.lt i hi hiq;simp_all
    ·have h1:=dE (f:=id) ha hc hi hiq
     have h2:=hq.ge q hc (ALj _);grind
   rw[hn,AJD (by simp)];grind[Jv,lP,tL]
 ·rw[APp (by omega)]
  dsimp only;rw[AJQ];have hn:l.contains x=false:=by
   rw[APG,ne_eq,APu];intro hm;obtain⟨i,hi,rfl⟩:=AOq hm;have:=hq.lt i hi (by omega);simp_all
  rw[hn,AJD (by simp)];unfold Jv;rw[lP hq.le (by grind),tL hq (fun h=>absurd h hc)];rfl
theorem zV{e:AJ}:∀{l:List AJ} {q:Nat},kW (fun x:AJ=>x.1) e.1 l q->gu l->
  keep e l=if h:q<l.length then(if l[q].1=e.1 then l.set q (better l[q] e)else l.take q++[e]++l.drop q)else l++[e]
 |[],q,h,_=>by
  rfl
 |y::l,0,h,_=>by
  have h1:=h.ge 0 (by simp) (ALj _);simp only[ART]at h1;simp only[keep,AJq,Nat.zero_lt_succ,ATS,ART];grind
 |y::l,q+1,h,ha=>by
  have h1:=h.lt 0 (by simp) (by omega);simp only[ART]at h1;have ih:=zV (e:=e) (l:=l) (q:=q) ⟨by have:=h.le;simp_all,fun i hi hiq=>by have:=h.lt (i+1) (by simp_all) (by omega);simp_all,fun i hi hiq=>by have:=h.ge (i+1) (by simp_all) (by omega);simp_all⟩ (AOK.1 ha).2;simp only[keep];grind
theorem cz{e:AJ}{l:List AJ}(ha:gu l)(hl:l.length<=2^29):Xy e l=some (((),()),((),keep e l,())):=by
 unfold Xy;obtain⟨q,hq,hs⟩:=fO ha (by omega) e.1;rw[hs,zV hq ha];simp only[AD,Ao];by_cases hc:q<l.length
 ·rw[dif_pos hc,AJA hc]
  dsimp only;have hb:(0:Int)<=(q:Int)/\(q:Int)<(l.length:Int):=by omega
  by_cases he:l[q].1=e.1
  ·rw[APF.2 he,AJy,AI9 he,AI9 hb,Af hc,eg (l[q]),eg e,YB]
   simp_all
  ·rw[AKA.2 he,AJQ,AJD he]
   grind[Dr,lP]
 ·have hql:q=l.length:=by have:=hq.le;omega
  rw[dif_neg hc,APp (by omega)];dsimp only;rw[AJQ];grind[Dr,lP,List.take_length,List.drop_length]
theorem MR{s:AL}(hw:Ai s<=2^30)(hs:tZ s):Dh s=some (if CA s then((((),(),s.2.2.1,()),()),(s.1,s.2.1,()))else((((),(),0,()),()),([],[],()))):=by
 obtain⟨l1,l2⟩:=Ft hw;unfold Dh;rw[N_ s,Eo hw hs,H3 l1 l2];grind
theorem nS{s:AL}{e:AJ}(hw:Ai s<=2^30)(hs:tZ s)(he:CN e.1):VD s e=some (oC (KS s e)):=by
 obtain⟨l1,l2⟩:=Ft hw;unfold VD KS;rw[N_ s,eg e,Eo hw hs,MR hw hs,H3 l1 l2,Qh he,Dg he];simp only[AD,Ao,AB,DL];cases h1:CA s with
 |false=>rfl
 |true=>
  have DX:=Dc.1 h1;have wu:=DX.nl;cases h2:Fg e with
  |false=>rfl
  |true=>
   have hE:=(Hs.1 h2).w0;simp only[AJy,AKB,AJX,AJn,AMd,AOx];have lim:s.2.1.length+1<=Cm:=by rw[Ap];omega
   by_cases h3:s.2.1.length=20
   ·rw[AI9 (by omega),ANS (fun h=>h h3),ATH]
    rfl
   ·rw[AJD (by omega),ALg (show s.2.1.length≠20 from h3),AO0]
    unfold takes;by_cases h4:e.2.1=0
    ·rw[AI9 h4,AI9 h4]
     by_cases h5:AZ e.1<=s.2.2.1
     ·rw[AI9 h5,ANS (by omega)];rfl
     ·rw[AJD h5,AJD (by omega),AI9 lim,ALg (by omega)];rfl
    ·rw[AJD h4,AJD h4,AI9 (by omega)]
     by_cases h5:e.2.1<=s.2.2.1
     ·rw[AI9 h5,ANS (by omega)];rfl
     ·rw[AJD h5,AI9 lim,ALg (by omega)];rfl
theorem ZI{s:AL}{k:Int}(hw:Ai s<=2^30)(hs:tZ s):Mn s k=some (oC (Fl s k)):=by
 obtain⟨l1,l2⟩:=Ft hw;unfold Mn UA Fl;rw[N_ s,Eo hw hs,MR hw hs,H3 l1 l2,Au];simp only[AD,Ao];cases h1:CA s with
 |false=>rfl
 |true=>
  have DX:=Dc.1 h1;have wu:=DX.nl;have hnk:=DX.nk;simp only[AJy,AJX,AJn,AMd,AOx];cases h2:BD k 0 1048575 with
  |false=>rfl
  |true=>
   have hk:=Ak.1 h2;have AUP:0<=k/\k<2^63:=by omega
   simp only[AJy,AKB];have key:∀(n i:Nat) (b:List AJ),i<=s.2.1.length->s.2.1.length-i<n->b.length<=200+i->gu b->
     Jq n k s.2.1 s.2.1.length i s.1 s.2.1 s.2.2.1 0 [] [] s.2.2.1 b []=
      some (oC (if decide ((EB b (Mi k i (s.2.1.drop i))).length<=200)then((EB b (Mi k i (s.2.1.drop i)),[],s.2.2.1,()),true)else(s,false))):=by
    intro n
    induction n with
    |zero=>omega
    |succ n ih=>
     intro i b hi hn hb ug;simp only[Jq,Tz,AB];by_cases hc:i<s.2.1.length
     ·have AEL:=wx AUP (i:=i) (by omega)
      rw[AI9 (by omega),AI9 (by omega),AJD (by omega),AJT,AEL,AB,TP hc,AH (by omega) (by omega),show((i:Int)+1)=((i+1:Nat):Int)by omega,drop_cons hc];rw[eg (s.2.1[i]),cz ug (by omega)];simp only[AD];rw[show Mi k i (s.2.1[i]::s.2.1.drop (i+1))=if(k/2^i)%2=1 then s.2.1[i]::Mi k (i+1) (s.2.1.drop (i+1))else Mi k (i+1) (s.2.1.drop (i+1))from rfl];by_cases hbt:(k/2^i)%2=1
      ·rw[AI9 hbt,AI9 hbt,ih (i+1) _ (by omega) (by omega) (by grind[YJ]) (ei ug)]
       rfl
      ·rw[AJD hbt,AJD hbt,ih (i+1) _ (by omega) (by omega) (by omega) ug]
     ·rw[AJD (by omega),AJm (by omega),N_ s,H3 l1 l2]
      simp only[AD,Mi,EB];by_cases hg:b.length<=200
      ·rw[AJD (by omega),AI9 (ALg hg)];rfl
      ·rw[AI9 (by omega),AJD (by simp_all)];rfl
   have:=key AX 0 s.1 (by omega) (Ab (by omega)) (by omega) DX.zZ;simp_all
theorem ZZ{s:AL}(hw:Ai s<=2^30)(hs:tZ s):Om s=some (oC (Ct s)):=by
 unfold Om Ct;rw[N_ s,ZI hw hs];rfl
theorem lZ{s:AL}{u:Int}(hw:Ai s<=2^30)(hs:tZ s):OZ s u=some (oC (Bw s u)):=by
 unfold OZ Bw;rw[N_ s,ZZ hw hs,MR hw hs,Au];simp only[AD,Ao,oC];cases h1:CA s with
 |false=>
  grind[Ct,Fl]
 |true=>
  grind
theorem nK{s:AL}{ep:Int}(hw:Ai s<=2^30)(hs:tZ s):QJ s ep=some (((),()),(Jh s ep,())):=by
 obtain⟨l1,l2⟩:=Ft hw;unfold QJ Wu Jh;rw[N_ s,Eo hw hs];simp only[AD,Ao];cases h1:CA s with
 |false=>rfl
 |true=>
  have key:∀(n i:Nat) (b:List AJ),i<=s.1.length->s.1.length-i<n->b.length<=i->
    LU n ep s.1 s.1.length i b=some (((),()),(b++(s.1.drop i).filter (fun e=>AZ e.1==ep),())):=by
   intro n
   induction n with
   |zero=>omega
   |succ n ih=>
    intro i b hi hn hb;simp only[LU,XD,AB];by_cases hc:i<s.1.length
    ·rw[AI9 (by omega),AI9 (by omega),Af hc,Dg (hs.1 _ (AJ7 hc)),AH (by omega) (by omega),show((i:Int)+1)=((i+1:Nat):Int)by omega,drop_cons hc,AO3]
     simp only[AD];rw[AI9 (by rw[Ap];omega),eg (s.1[i]),ih (i+1) _ (by omega) (by omega) (by simp_all),ih (i+1) b (by omega) (by omega) (by omega)];grind
    grind
  have:=key AX 0 [] (by omega) (Ab (by omega)) (by simp);simp_all
theorem AAI{x:AJ}{t:AAv}:PW (x.1,x.2.1,x.2.2.1,x.2.2.2.1,()) t=some ((decide (x.1<=t.1),()),()):=rfl
theorem gC{t:ACw}{l:List AJ}(hl:l.length<=2^30):Br t l=some (((),()),((),l.filter (fun x=> !(decide (x.1<=t.1.1))),())):=by
 have key:∀(n i j:Nat) (b:List AJ),i<=j->j<=b.length->b.length<=2^30->b.length-j<n->BI n t i j b=some (((),()),((),b.take i++(b.drop j).filter (fun x=> !(decide (x.1<=t.1.1))),())):=by
  intro n
  induction n with
  |zero=>omega
  |succ n ih=>
   intro i j b hij hj hb hn;simp only[BI,DI,AB];by_cases hc:j<b.length
   ·rw[AI9 (by omega),AI9 (by omega),Af hc,AAI]
    simp only[AD];rw[AH (x:=(j:Int)+1) (by omega) (by omega),AH (x:=(i:Int)+1) (by omega) (by omega),show((j:Int)+1)=((j+1:Nat):Int)by omega,show((i:Int)+1)=((i+1:Nat):Int)by omega,drop_cons hc,AO3];have n1:=ih (i+1) (j+1) (b.set i b[j]) (by omega) (by grind) (by simp_all) (by grind);have n2:=ih i (j+1) b (by omega) (by omega) hb (by omega);rw[show(t.1,())=t from rfl,n2];rw[ATb (by omega),AOz (by grind),ATc (ALj _),ATW,AKK,APM]at n1;rw[AI9 (by omega),AJT,n1]
    generalize hx:b[j]=x
    cases(decide (x.1<=t.1.1))<;>rfl
   ·rw[AJD (by omega),AJm (i:=j) (by omega),AJT,AJT]
    simp_all;omega
 have zC:∀(n i:Nat),i<=l.length->l.length-i<n-> ∃r:Int,BK n l t l.length i=some ((r,()),())/\((r= -1/\(l.drop i).filter (fun x=> !(decide (x.1<=t.1.1)))=l.drop i)\/ ∃q:Nat,r=q/\i<=q/\q<l.length/\((l.take q).drop i).filter (fun x=> !(decide (x.1<=t.1.1)))=(l.take q).drop i/\ ∀(h:q<l.length) x,x=l[q]->(decide (x.1<=t.1.1))=true):=by
  intro n
  induction n with
  |zero=>omega
  |succ n ih=>
   intro i hi hn;simp only[BK,DQ,AB];by_cases hc:i<l.length
   ·rw[AI9 (by omega),AI9 (by omega),Af hc,AAI]
    simp only[AD];rw[AH (x:=(i:Int)+1) (by omega) (by omega),show((i:Int)+1)=((i+1:Nat):Int)by omega,show(t.1,())=t from rfl];obtain⟨r,e,hr⟩:=ih (i+1) (by omega) (by omega);rw[e]
    generalize hx:l[i]=x
    cases hp:(decide (x.1<=t.1.1))with
    |true=>
     grind
    |false=>
     refine⟨r,rfl,?_⟩;rcases hr with⟨h1,h2⟩|⟨q,h1,h2,h3,h4,h5⟩
     ·grind[drop_cons]
     ·refine .inr ⟨q,h1,by omega,h3,?_,h5⟩
      grind[drop_cons]
   grind
 obtain⟨r,e,hr⟩:=zC AX 0 (by omega) (Ab (by omega));rw[show((0:Nat):Int)=0 from rfl]at e;unfold Br DJ Ci DR;rw[show(t.1,())=t from rfl,e];simp only[AD];rcases hr with⟨h1,h2⟩|⟨q,h1,h2,h3,h4,h5⟩
 ·grind
 ·rw[h1,AKA.2 (by omega),AJQ,AH (by omega) (by omega),show((q:Int)+1)=((q+1:Nat):Int)by omega,key AX q (q+1) l (by omega) (by omega) hl (Ab (by omega))]
  rw[AOn]at h4;have hd:=h5 h3 _ rfl;grind[List.take_append_drop,drop_cons]
theorem kj{s:AL}{u:Int}(hw:Ai s<=2^30)(hs:tZ s)(hu:CN u):Ta s u=some (oC (JG s u)):=by
 obtain⟨l1,l2⟩:=Ft hw;unfold Ta JG;rw[N_ s,Eo hw hs,MR hw hs,H3 l1 l2,IL hu];simp only[AD];cases CA s with
 |false=>rfl
 |true=>
  cases Aq u with
  |false=>rfl
  |true=>
   rw[gC l1];simp only[AD,AJX,AJQ,AJn,AMd,AOx];rw[show(fun x:AJ=> !decide (x.1<=(((u,()),()):ACw).1.1))=fun e=>decide (e.1>u)from funext fun x=>by
    grind]
   rfl
theorem ABK{p:Int}{n:Nat}:BD (AZ p) 1 n=(Aq p&&decide (AZ p<=n)):=by
 cases h:Aq p with
 |false=>
  unfold AZ;rw[h];rfl
 |true=>
  obtain⟨⟨h1,h2⟩,_⟩:=GA h;unfold BD;simp_all
section
variable{c:CK} {r:AN} (hc:c.1.length<=2^40) (hl:Ae B_ r.1<=2^30) (ht:CN r.2.1)
include hc hl ht
theorem UI:EF c r=some (if OO c r then((((),r.2.1,()),()),(r.1,()))else((((),0,()),()),([],()))):=by
 unfold EF;rw[show(c.1,c.2.1,())=c from rfl,show(r.1,r.2.1,())=r from rfl,NC hc hl ht,Hh hl];grind
theorem p_{ns:AAN}(hn:ns.length<=2^30):MV c r ns=some (((((),(Ik c r ns).1.2.1,()),(Ik c r ns).2.1,(Ik c r ns).2.2,()),()),((Ik c r ns).1.1,())):=by
 have l1:=AU (f:=B_) (l:=r.1);unfold MV Ik;rw[show(c.1,c.2.1,())=c from rfl,show(r.1,r.2.1,())=r from rfl,NC hc hl ht,UI hc hl ht,Hh hl,GN hc (by omega),Dj hn];simp only[AD];cases OO c r with
 |false=>rfl
 |true=>
  cases holds c ns with
  |false=>rfl
  |true=>
   simp only[AJX,AJQ,AJn,AMd,AKB,AOx];by_cases h30:r.1.length=30
   ·simp_all
   ·rw[show((r.1.length:Int)==30)=false by grind,show decide (r.1.length≠30)=true by simp[h30],AJQ,AI9 (by rw[Ap];omega)]
    simp
theorem mF{b last:Int}:QP c r b last=some (pkR (ON c r b last)):=by
 have l1:=AU (f:=B_) (l:=r.1);unfold QP ON;rw[show(c.1,c.2.1,())=c from rfl,show(r.1,r.2.1,())=r from rfl,NC hc hl ht,UI hc hl ht,Hh hl,Sl (by omega)];simp only[AD];rcases AIn (OO c r)with hr|hr
 rotate_left
 ·rw[hr];rfl
 have DX:=KC.1 hr;rw[hr];simp only[AJX,AJQ,AJn,AMd,AOx];by_cases h1:b=r.1.length
 rotate_left
 ·rw[show(b !=(r.1.length:Int))=true by simp_all,show decide (b=(r.1.length:Int))=false by simp_all]
  rfl
 rw[show(b !=(r.1.length:Int))=false by simp_all,show decide (b=(r.1.length:Int))=true by simp_all];simp only[AJQ,AKB];by_cases h3:b=BN r.1
 ·rw[show(BN r.1==b)=true by simp_all,show decide (b≠BN r.1)=false by simp_all,AOw,ATH]
  rfl
 have AGe:0<r.1.length:=by
  rcases Nat.eq_zero_or_pos r.1.length with hz|hz
  ·exact absurd (by rw[h1,hz];unfold BN;rw[hz];rfl) h3
  omega
 obtain⟨k,k1,k2,k3,k4⟩:=TL DX AGe;rw[show(BN r.1==b)=false by grind,show decide (b≠BN r.1)=true by simp_all,show decide (BN r.1≠0)=true by grind,Au];simp only[AJQ,AKB,AD];cases BD last 0 60 with
 |false=>rfl
 |true=>
  simp only[AJX,AJQ,AOx];rw[k2,AH (by omega) (by omega),show((k:Int)+1-1)=(k:Int)by omega,AI9 (by omega),AI9 (by simp_all),AJT];unfold pkR Oh;simp_all
theorem py{p:Int}(hp:CN p):XY c r p=some (pkR (Pm c r p)):=by
 unfold XY Pm;rw[show(c.1,c.2.1,())=c from rfl,show(r.1,r.2.1,())=r from rfl,NC hc hl ht,UI hc hl ht,Hh hl,Dg hp];simp only[AD];rw[Au,ABK];simp only[AD];cases OO c r with
 |false=>rfl
 |true=>
  cases Aq p&&decide (AZ p<=(r.1.length:Int))with
  |false=>rfl
  |true=>
   simp only[AJX,AJQ,AJn,AMd,AOx];rw[show(if p>r.2.1 then p else r.2.1)=max r.2.1 p by omega];rfl
end
section
variable{c:CK} {w:AR} (hc:c.1.length<=2^40) (hl:Ae BQ w.2.1<=2^20)
include hc hl
theorem Wt:EG c w=some (if FY c w then(((w.1,(),()),()),(w.2.1,()))else(((0,(),()),()),([],()))):=by
 unfold EG;rw[show(c.1,c.2.1,())=c from rfl,show(w.1,w.2.1,())=w from rfl,I6 hc (by omega),JX (by show Ae BQ w.2.1<=2^30;omega)];grind
theorem lM{d:AAZ}(hd:d.length<=2^20):Jo c w d=some (((((CM c w d).1.1,(),()),(CM c w d).2.1,(CM c w d).2.2,()),()),((CM c w d).1.2.1,())):=by
 have l1:=AU (f:=BQ) (l:=w.2.1);unfold Jo CM;rw[show(c.1,c.2.1,())=c from rfl,show(w.1,w.2.1,())=w from rfl,JX (by show Ae BQ w.2.1<=2^30;omega),Wt hc hl];simp only[AD];rw[AI9 (by rw[Ap];omega),I6 hc (by omega),I6 hc (by
  grind[Ae,BQ,Zk,List.length_nil])]
 grind
theorem lF{o n:Int}:TA c w o n=some (pkW (Ro c w o n)):=by
 have l1:=AU (f:=BQ) (l:=w.2.1);unfold TA Ro;rw[show(c.1,c.2.1,())=c from rfl,show(w.1,w.2.1,())=w from rfl,I6 hc (by omega),Wt hc hl,JX (by show Ae BQ w.2.1<=2^30;omega),Au,Au];simp only[AD];rcases AIn (FY c w)with hw|hw
 rotate_left
 ·rw[hw];rfl
 have DX:=HW.1 hw;have AFw:=HJ DX.cfg;rw[hw,AH (x:=(c.1.length:Int)-1) (by omega) (by omega)];simp only[AJX,AJQ,AJn,AMd,AOx];rcases AIn (BD o 1 (w.2.1.length:Int))with ho|ho
 rotate_left
 ·rw[ho];rfl
 have ho':=Ak.1 ho;rw[ho];have hi:(o-1).toNat<w.2.1.length:=by omega
 have AAM:w.2.1.getD (o-1).toNat MB∈w.2.1:=Bh (d:=MB) hi;have hm:(w.2.1.getD (o-1).toNat MB).1.length+(w.2.1.getD (o-1).toNat MB).2.1.length<=Ae BQ w.2.1:=AY (f:=BQ) AAM;have ABm:=(F5.1 (DX.words _ AAM).2.1).2.2;simp only[AJX,AJQ,AKB];rw[AH (x:=o-1) (by omega) (by omega),AI9 (by omega)]
 show cond (w.2.1.getD (o-1).toNat MB).2.2.1 _ _=_
 cases(w.2.1.getD (o-1).toNat MB).2.2.1 with
 |true=>
  cases BD n 0 ((c.1.length:Int)-1)<;>rfl
 |false=>
  cases BD n 0 ((c.1.length:Int)-1)with
  |false=>rfl
  |true=>
   simp only[AJQ,AOH,AOx,AJX,Bool.and_self];rw[AI9 (by omega),show(w.2.1.getD (o-1).toNat ([],[],false,())).2.1=(w.2.1.getD (o-1).toNat MB).2.1 from rfl,PQ ABm (by omega)];simp only[AD];have hg:∀x:BR,(w.2.1.set (o-1).toNat x).getD (o-1).toNat ([],[],false,())=x:=fun x=>NB hi
   rw[hg,GN hc (by
    grind[bK,MB])]
   simp only[AD];rw[ATJ];rfl
theorem fC{n:Int}:Nh c w n=some (pkW (B5 c w n)):=by
 have l1:=AU (f:=BQ) (l:=w.2.1);unfold Nh Rm B5;rw[show(c.1,c.2.1,())=c from rfl,show(w.1,w.2.1,())=w from rfl,I6 hc (by omega),JX (by show Ae BQ w.2.1<=2^30;omega)];simp only[AD];cases FY c w with
 |false=>rfl
 |true=>
  simp only[AJX,AJQ,AJn,AMd];have key:∀(k i:Nat),i<=w.2.1.length->w.2.1.length-i<k->Hd k n w.2.1 w.2.1.length i 0 [] w.1 ((w.2.1.map (Ej n)).take i++w.2.1.drop i)=some (pkW ((w.1,w.2.1.map (Ej n),()),true)):=by
   intro k
   induction k with
   |zero=>omega
   |succ k ih=>
    intro i hi hk;have hlen:((w.2.1.map (Ej n)).take i++w.2.1.drop i).length=w.2.1.length:=Pb hi;simp only[Hd,RZ,AB,hlen];by_cases D7:i<w.2.1.length
    ·have c1:(0:Int)<=(i:Int)/\(i:Int)<(w.2.1.length:Int):=by omega
     have hm:w.2.1[i].1.length+w.2.1[i].2.1.length<=Ae BQ w.2.1:=AY (f:=BQ) (AJ7 D7);have hg:((w.2.1.map (Ej n)).take i++w.2.1.drop i).getD ((i:Int).toNat) ([],[],false,())=w.2.1[i]:=M4 D7;rw[AI9 c1.2];simp only[AI9 c1,hg];rw[Af D7,AH (by omega) (by omega),show((i:Int)+1)=((i+1:Nat):Int)by omega];rcases AIn (w.2.1[i].2.2.1)with hd|hd
     ·rw[hd]
      simp only[AJX,AJQ];grind[kX,nw]
     ·rw[hd]
      simp only[AOH,AJy];rw[P0 (by omega)];grind[AD,Int.toNat_natCast,Qi,Ej]
    ·rw[AJD (by omega),AJm (by omega)]
     have:i=w.2.1.length:=by omega
     subst this;rw[AKX,ANm (by simp)];rfl
  have:=key AX 0 (by omega) (Ab (by omega));simp_all
end
section
variable{c:CK} {m:Az} (hc:c.1.length<=2^40) (hm:CH m<=2^20) (h:uj m.2.2.2.1)
include hc hm h
theorem S7:Ei c m=some (if G2 c m then(((m.1,m.2.1,(),(),m.2.2.2.2.1,(),()),()),(m.2.2.1,m.2.2.2.1,m.2.2.2.2.2.1,()))else(((0,0,(),(),false,(),()),()),([],[],[],()))):=by
 unfold Ei;rw[show(c.1,c.2.1,())=c from rfl,Vm m,Hb hc (by omega) h,HH (by omega)];grind
theorem pI{o n:Int}:PY c m o n=some (kH (aF c m o n)):=by
 obtain⟨h1,h2,h3,h4⟩:=I3 hm;unfold PY aF;rw[show(c.1,c.2.1,())=c from rfl,Vm m,Hb hc (by omega) h,S7 hc hm h,HH (by omega),Au,Au];simp only[AD];rcases AIn (G2 c m)with hw|hw
 rotate_left
 ·rw[hw];rfl
 have DX:=HA.1 hw;have AFw:=HJ DX.cfg;rw[hw,AH (x:=(c.1.length:Int)-1) (by omega) (by omega)];simp only[AJX,AJQ,AJn,AMd,AOx];rcases AIn (BD o 1 (m.2.2.2.2.2.1.length:Int))with ho|ho
 rotate_left
 ·rw[ho];rfl
 have ho':=Ak.1 ho;rw[ho];cases BD n 0 ((c.1.length:Int)-1)with
 |false=>rfl
 |true=>
  have hi:(o-1).toNat<m.2.2.2.2.2.1.length:=by omega
  have AAM:=Bh (d:=([]:AAN)) hi;have hq:=h4 _ AAM;have ABm:=(F5.1 (DX.wrote _ AAM)).2.2;simp only[AJX,AJQ,AKB,AOx];rw[AH (by omega) (by omega),AI9 (by omega),PQ ABm (by omega)];simp only[AD];rw[AI9 (by omega)];rfl
theorem il{n:Int}:Qu c m n=some (kH (CC c m n)):=by
 obtain⟨h1,h2,h3,h4⟩:=I3 hm;unfold Qu T5 CC;rw[show(c.1,c.2.1,())=c from rfl,Vm m,Hb hc (by omega) h,HH (by omega)];simp only[AD];cases G2 c m with
 |false=>rfl
 |true=>
  simp only[AJX,AJQ,AJn,AMd];have key:∀(k i:Nat),i<=m.2.2.2.2.2.1.length->m.2.2.2.2.2.1.length-i<k->Je k n m.2.2.2.2.2.1 m.2.2.2.2.2.1.length i 0 0 false [] [] [] m.1 m.2.1 m.2.2.2.2.1 m.2.2.1 m.2.2.2.1 ((m.2.2.2.2.2.1.map (fun l=>less l [n])).take i++m.2.2.2.2.2.1.drop i)=
    some (kH ((m.1,m.2.1,m.2.2.1,m.2.2.2.1,m.2.2.2.2.1,m.2.2.2.2.2.1.map (fun l=>less l [n]),()),true)):=by
   intro k
   induction k with
   |zero=>omega
   |succ k ih=>
    intro i hi hk;have hlen:=Pb (f:=fun l=>less l [n]) hi;simp only[Je,T0,AB,hlen];by_cases D7:i<m.2.2.2.2.2.1.length
    ·have c1:(0:Int)<=(i:Int)/\(i:Int)<(m.2.2.2.2.2.1.length:Int):=by omega
     have hq:=h4 _ (AJ7 D7);rw[AI9 c1.2];simp only[AI9 c1];rw[Af D7,AH (by omega) (by omega),show((i:Int)+1)=((i+1:Nat):Int)by omega,P0 (by omega)];simp only[AD];rw[AJT,Qi D7 rfl];grind
    ·rw[AJD (by omega),AJm (by omega)]
     have:i=m.2.2.2.2.2.1.length:=by omega
     subst this;rw[AKX,ANm (by simp)];rfl
  have:=key AX 0 (by omega) (Ab (by omega));simp_all
theorem ko:Oz c m=some ((UH c m,()),()):=by
 obtain⟨h1,h2,h3,h4⟩:=I3 hm;unfold Oz V7 UH;rw[show(c.1,c.2.1,())=c from rfl,Vm m,Hb hc (by omega) h];simp only[AD];cases G2 c m with
 |false=>rfl
 |true=>
  rcases AIn m.2.2.2.2.1 with hp|hp
  rotate_left
  ·simp_all
  have key:∀(k i:Nat),i<=m.2.2.2.2.2.1.length->m.2.2.2.2.2.1.length-i<k->Ki k m.2.2.2.2.2.1 m.2.2.2.2.2.1.length i c.1 c.2.1=some (((m.2.2.2.2.2.1.drop i).all (holds c),()),()):=by
   intro k
   induction k with
   |zero=>omega
   |succ k ih=>
    intro i hi hk;simp only[Ki,Vc,AB];by_cases D7:i<m.2.2.2.2.2.1.length
    ·have c1:(0:Int)<=(i:Int)/\(i:Int)<(m.2.2.2.2.2.1.length:Int):=by omega
     have hq:=h4 _ (AJ7 D7);rw[AI9 c1.2,AI9 c1,AH (by omega) (by omega),show((i:Int)+1)=((i+1:Nat):Int)by omega,Af D7,drop_cons D7,show(c.1,c.2.1,())=c from rfl,GN hc (by omega),ih (i+1) (by omega) (by omega)];simp only[AD,APD];cases holds c m.2.2.2.2.2.1[i]<;>rfl
    grind
  have:=key AX 0 (by omega) (Ab (by omega));simp_all
omit hc h in
theorem Zc{o:Int}:JS m o=some ((((EW m o).getD Di,(EW m o).isSome,()),()),()):=by
 obtain⟨h1,h2,h3,h4⟩:=I3 hm;unfold JS Vy EW;rw[Gp];simp only[AD];cases m.2.2.2.2.1 with
 |false=>
  simp only[AOw,AJn,AMd,AOH,AJy];cases(BD m.2.1 1 30&&BD o 1 60)<;>rfl
 |true=>
  simp only[AJX,AJQ,AKB];rcases AIn (BD m.2.1 1 30)with he|he
  rotate_left
  ·rw[he];rfl
  rcases AIn (BD o 1 60)with ho|ho
  rotate_left
  ·rw[he,ho];rfl
  have hp:D1 m.2.1 o=Gv m.2.1 o:=by unfold D1;rw[he,ho];rfl
  rw[he,ho,hp];simp only[AO0,AJX,AJQ,AKB];by_cases hl:o<=m.2.2.2.2.2.1.length
  ·rw[show decide (o>(m.2.2.2.2.2.1.length:Int))=false by simpa using hl,show decide (o<=(m.2.2.2.2.2.1.length:Int))=true by simpa using hl]
   simp only[AJQ,AOx];have key:∀(k i:Nat),i<=m.2.2.2.1.length->m.2.2.2.1.length-i<k->KW k (Gv m.2.1 o) m.2.2.2.1 m.2.2.2.1.length i m.1 m.2.1 m.2.2.1 m.2.2.2.1 true m.2.2.2.2.2.1 0 0 false []=
     some ((((match OV (Gv m.2.1 o) (m.2.2.2.1.drop i)with
      |some x=>(Gv m.2.1 o,m.1,x.2.2.1,x.2.2.2.1,())
      |none=>(Gv m.2.1 o,m.1,true,[],())),true,()),()),()):=by
    intro k
    induction k with
    |zero=>intro i _ h;omega
    |succ k ih=>
     intro i hi hk;simp only[KW,V0,AB];by_cases D7:i<m.2.2.2.1.length
     ·have c1:(0:Int)<=(i:Int)/\(i:Int)<(m.2.2.2.1.length:Int):=by omega
      rw[AI9 c1.2,AI9 c1,AH (by omega) (by omega),show((i:Int)+1)=((i+1:Nat):Int)by omega,Af D7,drop_cons D7,ih (i+1) (by omega) (by omega)];unfold OV;rw[ATO];cases hx:m.2.2.2.1[i].1==Gv m.2.1 o<;>rfl
     ·rw[AJD (by omega),AJm (by omega)]
      rfl
   have:=key AX 0 (by omega) (Ab (by omega));rw[show((0:Nat):Int)=0 from rfl,AOn]at this;rw[this];cases OV (Gv m.2.1 o) m.2.2.2.1<;>rfl
  ·rw[show decide (o>(m.2.2.2.2.2.1.length:Int))=true by simp;omega,show decide (o<=(m.2.2.2.2.2.1.length:Int))=false by simp;omega]
   rfl
theorem nv{s:AAN}(hs:s.length<=2^20):QS c m s=some (kH (L9 c m s)):=by
 obtain⟨h1,h2,h3,h4⟩:=I3 hm;unfold QS L9;rw[show(c.1,c.2.1,())=c from rfl,Vm m,Hb hc (by omega) h,S7 hc hm h,HH (by omega),dd (by omega) h];simp only[AD];rcases AIn (G2 c m)with DX|DX
 rotate_left
 ·rw[DX];rfl
 have hmo:=HA.1 DX;rw[DX];simp only[AOx];rcases AIn m.2.2.2.2.1 with hp|hp
 ·rw[hp]
  simp only[AJX,AJQ,AJy,AOw,AJn,AMd,kH,hp]
 have hfl:(m.2.2.1.filter s.contains).length<=m.2.2.1.length:=AOj _ _;rw[hp];simp only[AJX,AOH,AJQ,AJn,AMd,AKB];rw[cy (by omega) (by omega)];simp only[AD];rw[f_ hc (by omega) hs];simp only[AD];cases Q4 c s (m.2.2.1.filter s.contains)with
 |false=>simp[kH,hp]
 |true=>
  simp only[AJX,AJQ,AOx];have hlb:=KO (l:=m.2.2.2.1);rw[AI9 ⟨hlb.1,Int.le_refl _,by rw[Ap];omega⟩];rfl
theorem np{n:Int}{l:List AJ}(hl:l.length<=2^20)(Pu:uj l)(hw:Ae Am l<=2^20):QL c m n l=some (kH (Oy c m n l)):=by
 obtain⟨h1,h2,h3,h4⟩:=I3 hm;unfold QL XE Oy;rw[show(c.1,c.2.1,())=c from rfl,Vm m,Hb hc (by omega) h,S7 hc hm h,HH (by omega)];simp only[AD];rcases AIn (G2 c m)with DX|DX
 rotate_left
 ·rw[DX];rfl
 have hmo:=HA.1 DX;have ABm:=(F5.1 hmo.sld).2.2;rw[DX];simp only[AJX,AJQ,AJn,AMd,AOx];rcases AIn m.2.2.2.2.1 with hp|hp
 ·grind[kH]
 rw[hp,PQ ABm (by omega)];simp only[AD,AJQ,AOH,AKB];have key:∀(k i:Nat) (b:List AJ),i<=l.length->l.length-i<k->b.length<=2^20+i->gu b->uj b->Ae Am b+Ae Am (l.drop i)<=2^21->
   LQ k l l.length i c.1 c.2.1 m.1 m.2.1 m.2.2.1 m.2.2.2.1 false m.2.2.2.2.2.1 0 0 false [] [] [] m.1 m.2.1 false (N9 n m.2.2.1) b m.2.2.2.2.2.1=
   some (kH (if G2 c (m.1,m.2.1,N9 n m.2.2.1,EB b ((l.drop i).filter fun e=>AZ e.1==m.2.1),false,m.2.2.2.2.2.1,())then
    ((m.1,m.2.1,N9 n m.2.2.1,EB b ((l.drop i).filter fun e=>AZ e.1==m.2.1),false,m.2.2.2.2.2.1,()),true)else(m,false))):=by
  intro k
  induction k with
  |zero=>omega
  |succ k ih=>
   intro i b hi hk hb ug hbi hbw;simp only[LQ,Wm,AB];by_cases D7:i<l.length
   ·have c1:(0:Int)<=(i:Int)/\(i:Int)<(l.length:Int):=by omega
    rw[AI9 c1.2];simp only[AI9 c1];rw[AH (by omega) (by omega),show((i:Int)+1)=((i+1:Nat):Int)by omega,Af D7,drop_cons D7,eg (l[i]),Dg (Pu _ (AJ7 D7)),cz ug (by omega)];rw[drop_cons D7]at hbw;simp only[Ae]at hbw;simp only[AD,AO3];rcases AIn (AZ l[i].1==m.2.1)with he|he
    ·simp only[he,AJy,AOx,EB]
     have:=YJ (e:=l[i]) (l:=b);have hwk:=ABP l[i] b;exact ih (i+1) _ (by omega) (by omega) (by omega) (ei ug) (fun x hx=>by
      rcases gG hx with rfl|hx
      ·exact Pu _ (AJ7 D7)
      ·exact hbi x hx) (by omega)
    grind
   ·rw[AJD (by omega),AJm (by omega),show(c.1,c.2.1,())=c from rfl,HH (m:=(m.1,m.2.1,m.2.2.1,m.2.2.2.1,false,m.2.2.2.2.2.1,())) (by
     grind)]
    simp only[ATa,EB];rw[AJm (by omega)]at hbw;simp only[Ae]at hbw;have xp:=bK (n:=n) (l:=m.2.2.1);have hb2:=AU (f:=Am) (l:=b);rw[Hb (m:=(m.1,m.2.1,N9 n m.2.2.1,b,false,m.2.2.2.2.2.1,())) hc (by
     grind[CH]) hbi]
    grind[AD,G2,N9,kH]
 have hsw:Ae Am m.2.2.2.1<=2^20:=by
  grind[CH]
 have:=key AX 0 m.2.2.2.1 (by omega) (Ab (by omega)) (by omega) hmo.zZ h (by grind);simp_all
end
theorem tM{c:CK}{l:AAN}(hc:c.1.length<=2^20)(hl:l.length<=2^20):ZT c l=some ((A_ c l&& !holds c l,()),()):=by
 unfold ZT;rw[show(c.1,c.2.1,())=c from rfl,D_ (by omega) (by omega),GN (by omega) (by omega)];grind
theorem uX{ss:List AL}(hs:ss.length<=1024)(h:∀s∈ss,s.1.length<=1024)(hw:∀s∈ss,Ai s<=2^30)(Pu:∀s∈ss,tZ s)(DX:∀s∈ss,CA s=true):iq ss=some (((),()),(Gn [] ss,())):=by
 have key:∀n:Nat,
   (∀(i:Nat) (b:List AJ),i<=ss.length->(ss.length-i)*1026+1<=n->b.length<=i*1024->gu b->
    M8 n ss ss.length i b=some (((),()),(Gn b (ss.drop i),())))/\
   (∀(i j:Nat) (b:List AJ),(hi:i<ss.length)->j<=ss[i].1.length->(ss.length-i-1)*1026+1+(ss[i].1.length-j)+1<=n->b.length<=i*1024+j->gu b->
    M9 n ss ss.length i ss[i].1 ss[i].1.length j b=some (((),()),(Gn (EB b (ss[i].1.drop j)) (ss.drop (i+1)),()))):=by
  intro n
  induction n with
  |zero=>simp_all
  |succ n ih=>
   refine⟨fun i b hi h' hb ug=> ?_,fun i j b hi hj h' hb ug=> ?_⟩
   ·simp only[M8,bn,AB]
    by_cases hc:i<ss.length
    ·have hmm:=AJ7 hc
     have hm:=h _ hmm;rw[AI9 (by omega),AI9 (by omega),Af hc,N_ (ss[i]),Eo (hw _ hmm) (Pu _ hmm),DX _ hmm];have e1:(ss.length-i)*1026=(ss.length-i-1)*1026+1026:=by
      omega
     have:=ih.2 i 0 b hc (by omega) (by omega) (by omega) ug;rw[show((0:Nat):Int)=0 from rfl,AOn]at this;simp only[AD,AJX,AJQ];rw[this,drop_cons hc];rfl
    ·rw[AJD (by omega),AJm (by omega)]
     rfl
   ·have hm:=h _ (AJ7 hi)
    simp only[M9,bl,AB];have hbb:i*1024<=2^20:=by
     omega
    by_cases hc:j<ss[i].1.length
    ·have c2:(0:Int)<=(j:Int)/\(j:Int)<(ss[i].1.length:Int):=by omega
     rw[AI9 c2.2,AI9 c2,Af hc,eg (ss[i].1[j]),cz ug (by omega)];simp only[AD];rw[AH (by omega) (by omega),show((j:Int)+1)=((j+1:Nat):Int)by omega,drop_cons hc];have hk:=YJ (e:=ss[i].1[j]) (l:=b);exact ih.2 i (j+1) _ hi (by omega) (by omega) (by omega) (ei ug)
    ·rw[AJD (by omega),AH (by omega) (by omega),show((i:Int)+1)=((i+1:Nat):Int)by omega,AJm (by omega)]
     exact ih.1 (i+1) b (by omega) (by grind) (by omega) ug
 have hf:(ss.length-0)*1026+1<=AX:=by
  have:ss.length*1026<=1024*1026:=ALR _ hs;exact ASJ (Ab (by omega))
 exact(key AX).1 0 [] (by omega) hf (by simp) List.Pairwise.nil
theorem wF{c:CK}{ss:List AL}{lost:AAN}{n upto:Int}(hc:c.1.length<=2^20)(hs:ss.length<=1024)(hn:∀s∈ss,s.1.length<=1024)(hw:Ae Ai ss<=2^24)(Pu:∀s∈ss,tZ s)(hl:lost.length<=2^20):
  bc c lost n upto ss=some (pkF ss (ba c ss lost n upto)):=by
 have hfs:ba c ss lost n upto=yX (Ee c&&(decide (ss.length=c.1.length)&&(A_ c lost&&(!holds c lost&&(lost.contains n&&((others lost 0 ss).all CA&&CA (Gn [] (others lost 0 ss),[],upto,()))))))) (Gn [] (others lost 0 ss),[],upto,()):=rfl;rw[hfs];unfold bc eG;rw[show(c.1,c.2.1,())=c from rfl,tM hc hl,Ir (by omega)];simp only[AD,Ao,Cq];have key:∀(k i:Nat) (o:List AL),(∀s∈o,s∈ss)->(∀s∈o,CA s=true)->i<=ss.length->ss.length-i<k->o.length<=i->Ae Ai o+Ae Ai (ss.drop i)<=2^24->
   TQ k lost upto ss.length i ss 0 [] [] o=some (pkF ss (yX ((others lost i (ss.drop i)).all CA&&CA (Gn [] (o++others lost i (ss.drop i)),[],upto,())) (Gn [] (o++others lost i (ss.drop i)),[],upto,()))):=by
  intro k
  induction k with
  |zero=>omega
  |succ k ih=>
   intro i o ho DX hi h hol how;simp only[TQ,dj,AB,Ao];by_cases D7:i<ss.length
   ·have c1:(0:Int)<=(i:Int)/\(i:Int)<(ss.length:Int):=by omega
    have c2:o.length+1<=Cm:=by rw[Ap];omega
    have hmm:=AJ7 D7;have AZM:=AY (f:=Ai) hmm;rw[drop_cons D7]at how;simp only[Ae]at how;rw[AI9 c1.2,AI9 c1,Ir (by omega),Af D7,N_ (ss[i]),Eo (by omega) (Pu _ hmm),AH (by omega) (by omega),show((i:Int)+1)=((i+1:Nat):Int)by omega];simp only[AD];rw[drop_cons D7];simp only[others];rcases AIn (lost.contains (i:Int))with hb|hb
    ·rw[hb]
     simp only[AJy,AOx];exact ih (i+1) o ho DX (by omega) (by omega) (by omega) (by omega)
    ·rw[hb]
     simp only[AJQ,AJn,AMd];rcases AIn (CA ss[i])with hg|hg
     ·rw[hg]
      simp only[AJy,APD,hg,AKB];rw[AI9 c2,ih (i+1) (o++[ss[i]]) (fun s hs=>by
       grind) (fun s hs=>by
       grind) (by omega) (by omega) (by simp_all) (by grind[Zk,Ae])]
      simp_all
     ·rw[hg]
      simp only[AJQ,APD,hg,AOw];rfl
   ·have hu:=ABF (l:=o) (k:=[])
    simp only[Ae]at hu;have AbM:Ae Ai o<=2^24:=by omega
    rw[AJD (by omega),AJm (by omega),uX (by omega) (fun s hs=>hn s (ho s hs)) (fun s hs=>by grind[AY,Ai]) (fun s hs=>Pu s (ho s hs)) DX];simp only[AD,others,AKX,List.all_nil,AKB];rw[Eo (s:=(Gn [] o,[],upto,())) (by show Ae Am (Gn [] o)+Ae Am []<=_;grind[Ae]) ⟨fun e he=>by
     rcases l7 he with he|⟨t,ht,he⟩
     ·simp_all
     ·exact(Pu t (ho t ht)).1 e he,fun e he=>by simp_all⟩]
    simp only[AD];rcases AIn (CA (Gn [] o,[],upto,()))with hb|hb<;>rw[hb]<;>rfl
 have:=key AX 0 [] (by simp) (by simp) (by omega) (Ab (by omega)) (by simp) (by grind[Ae]);rw[show((0:Nat):Int)=0 from rfl,AOn,AOi]at this;rw[this];rcases AIn (A_ c lost)with h1|h1
 rotate_left
 ·rw[h1]
  by_cases h2:ss.length=c.1.length
  ·rw[AI9 (by omega)]
   simp only[AOw,ATH,AJQ];rfl
  ·rw[AJD (by omega)]
   simp only[AOw,ATH];rfl
 have AFw:Ee c=true:=(F5.1 h1).1;rw[h1,AFw];simp only[AKB];by_cases h2:ss.length=c.1.length
 rotate_left
 ·rw[AJD (by omega),ANS h2]
  rfl
 rw[AI9 (by omega),ALg h2];simp only[AKB];cases holds c lost with
 |true=>rfl
 |false=>
  cases lost.contains n with
  |false=>rfl
  |true=>rfl
def AVb(q:AA×Int):Zn:=((q.2,()),(((),q.1.2.1,(),(),(),q.1.2.2.2.2.2.1,(),(),(),(),q.1.2.2.2.2.2.2.2.2.2.2.1,()),q.1.1,q.1.2.2.1,q.1.2.2.2.1,(),(),(),q.1.2.2.2.2.2.2.2.2.1,q.1.2.2.2.2.2.2.2.2.2.1,q.1.2.2.2.2.1,q.1.2.2.2.2.2.2.1,q.1.2.2.2.2.2.2.2.1,()))
def ARz(q:AA×Int):b_:=((q.2,()),(((),q.1.2.1,(),(),(),q.1.2.2.2.2.2.1,(),(),(),(),q.1.2.2.2.2.2.2.2.2.2.2.1,()),q.1.1,q.1.2.2.1,q.1.2.2.2.1,q.1.2.2.2.2.1,q.1.2.2.2.2.2.2.1,q.1.2.2.2.2.2.2.2.1,q.1.2.2.2.2.2.2.2.2.1,(),q.1.2.2.2.2.2.2.2.2.2.1,()))
def AHy(q:AA×Int):GX:=((q.2,()),(((),q.1.2.1,(),(),(),q.1.2.2.2.2.2.1,(),(),(),(),q.1.2.2.2.2.2.2.2.2.2.2.1,()),q.1.1,q.1.2.2.1,(),q.1.2.2.2.2.1,q.1.2.2.2.2.2.2.1,q.1.2.2.2.2.2.2.2.1,q.1.2.2.2.2.2.2.2.2.1,q.1.2.2.2.2.2.2.2.2.2.1,q.1.2.2.2.1,()))
def AWu(q:AA×Int):aR:=((q.2,()),(((),q.1.2.1,(),(),(),q.1.2.2.2.2.2.1,(),(),(),(),q.1.2.2.2.2.2.2.2.2.2.2.1,()),q.1.1,q.1.2.2.1,q.1.2.2.2.1,q.1.2.2.2.2.1,q.1.2.2.2.2.2.2.1,(),q.1.2.2.2.2.2.2.2.2.1,q.1.2.2.2.2.2.2.2.2.2.1,q.1.2.2.2.2.2.2.2.1,()))
def AWx(q:AA×Int):Yg:=((q.2,()),(((),q.1.2.1,(),(),(),q.1.2.2.2.2.2.1,(),(),(),(),q.1.2.2.2.2.2.2.2.2.2.2.1,()),q.1.1,q.1.2.2.1,q.1.2.2.2.1,(),q.1.2.2.2.2.2.2.1,(),q.1.2.2.2.2.2.2.2.2.1,q.1.2.2.2.2.2.2.2.2.2.1,q.1.2.2.2.2.1,q.1.2.2.2.2.2.2.2.1,()))
theorem xT{m:Az}{b:Int}{e:AJ}(h:EW m b=some e):CN e.1:=by
 unfold EW at h;split at h
 ·rename_i hc
  simp only[AJR,Ak]at hc;grind[NF,Kh]
 simp_all
theorem lV{α:Type}{l:List α}{i:Nat}{d:α}:l.set i (l.getD i d)=l:=by
 by_cases h:i<l.length
 ·simp_all
 grind[List.set_eq_of_length_le]
def tG(w:AA)(n ep:Int):Int:=if Ar w n=0 then if(CS w.BJ ep).contains n then 0 else 2 else Ar w n
section
variable{w:AA} (h:RT w)
include h
theorem RO{n ep:Int}(he:CN ep):Dd w n ep=some ((tG w n ep,()),()):=by
 have k:=h.nums;have k1:=k.c;have k2:=k.wr;have k3:=k.lost;have k4:=k.st;have cR:=k.lS;have jx:=k.J1;have lr:=k.jw;have k5:=k.era;have k7:=k.eX;unfold Dd tG;rw[Lr (by omega) (by omega),show(w.2.2.2.2.1,w.2.2.2.2.2.1,())=Cb w from rfl,PR (r:=Cb w) (by show Ae B_ w.2.2.2.2.1<=_;omega) he];have U0:(CS w.BJ ep).length<=8:=Gm h;rw[show(Cb w).1=w.BJ from rfl];simp only[AD,DL];rw[Ir (by omega)];grind
theorem aU{n:Int}{e:AJ}(hn:Ar w n=0)(he:CN e.1):L8 n e w.2.1 w.2.2.2.2.2.1 w.2.2.2.2.2.2.2.2.2.2.1 w.1 w.2.2.1 w.2.2.2.1 w.2.2.2.2.1 w.2.2.2.2.2.2.1 w.2.2.2.2.2.2.2.1 w.2.2.2.2.2.2.2.2.1 w.2.2.2.2.2.2.2.2.2.1=some (mh (putAt w n (KS (storeAt w n) e))):=by
 obtain⟨hr,s1,s2,s3⟩:=h.Lv hn;have dC:w.2.2.1.getD n.toNat ([],[],0,())=storeAt w n:=rfl;unfold L8 putAt;simp only[AI9 hr,dC];rw[show((storeAt w n).1,(storeAt w n).2.1,(storeAt w n).2.2.1,())=storeAt w n from rfl,eg e,nS s1 s2 he];simp only[AD,oC,PS];cases(KS (storeAt w n) e).2<;>rfl
theorem jt{a:Int}:KG a w.2.1 w.2.2.2.2.2.1 w.2.2.2.2.2.2.2.2.2.2.1 w.1 w.2.2.1 w.2.2.2.1 w.2.2.2.2.1 w.2.2.2.2.2.2.1 w.2.2.2.2.2.2.2.1 w.2.2.2.2.2.2.2.2.1 w.2.2.2.2.2.2.2.2.2.1=some (AVb (QA w a)):=by
 have k:=h.nums;have k1:=k.c;have k2:=k.wr;have k3:=k.lost;have k4:=k.st;have cR:=k.lS;have jx:=k.J1;have lr:=k.jw;have k5:=k.era;have k7:=k.eX;unfold KG QA;rw[DL];by_cases h4:w.2.2.2.2.2.2.1.length=4
 ·rw[AI9 (by omega),AI9 h4];rfl
 have hm:(BL a).length<=8:=zz;rw[AJD (by omega),AJD h4,aY];simp only[AD];rw[show(w.1,w.2.1,())=Aa w from rfl,show(w.2.2.2.2.1,w.2.2.2.2.2.1,())=Cb w from rfl,p_ (c:=Aa w) (r:=Cb w) (by show w.1.length<=_;omega) (by show Ae B_ w.2.2.2.2.1<=_;omega) k.trim (by omega)];simp only[AD,Ao];rcases AIn (Ik (Aa w) (Cb w) (BL a)).2.2 with hq|hq
 ·rw[hq,AI9 (by rw[Ap];omega),Fq];rfl
 ·rw[hq,Ic];rfl
theorem gk{d:Al}:JP d w.2.1 w.2.2.2.2.2.1 w.2.2.2.2.2.2.2.2.2.2.1 w.1 w.2.2.1 w.2.2.2.1 w.2.2.2.2.1 w.2.2.2.2.2.2.1 w.2.2.2.2.2.2.2.1 w.2.2.2.2.2.2.2.2.1 w.2.2.2.2.2.2.2.2.2.1=some (mh (Nd w d.2.1 d.2.2.1 d.2.2.2.1)):=by
 have k:=h.nums;have k1:=k.c;have k2:=k.wr;have k3:=k.lost;have k4:=k.st;have cR:=k.lS;have jx:=k.J1;have lr:=k.jw;have k5:=k.era;have k7:=k.eX;unfold JP Nd;rw[GS w,AH (x:=(w.2.2.2.2.2.2.1.length:Int)-1) (by omega) (by omega),Au];simp only[AD,Ao,Cq];rw[show BD d.2.1 0 ((w.2.2.2.2.2.2.1.length:Int)-1)=BD d.2.1 0 ((w.AK.length:Int)-1)from rfl];rcases AIn (BD d.2.1 0 ((w.AK.length:Int)-1))with h1|h1
 rotate_left
 ·rw[h1,Ic];rfl
 obtain⟨x1,x2,x3⟩:=h.e_ h1;rw[h1,AJy,Fq,AI9 x1,Au];simp only[AD];rw[show w.2.2.2.2.2.2.1.getD d.2.1.toNat (0,[],())=w.AK.getD d.2.1.toNat CZ from rfl]
 generalize hx:w.AK.getD d.2.1.toNat CZ=x at*
 rcases AIn (BD d.2.2.1 1 (x.2.1.length:Int))with h2|h2
 rotate_left
 ·rw[h2,Ic];rfl
 have h2':=Ak.1 h2;have hxl:=x2.n;have hxe:=x2.ep;have xp:=NF (e:=x.1) (o:=d.2.2.1) hxe (by omega);have hpm:D1 x.1 d.2.2.1=Gv x.1 d.2.2.1:=by
  grind[D1,Ak]
 rw[h2,AJy,Fq,RO h ⟨by omega,by omega⟩,Gp,hpm,AH (by omega) (by omega)];simp only[AD,AI9 (show(0:Int)<=d.2.2.1-1/\d.2.2.1-1<(x.2.1.length:Int)by omega)];unfold tG;by_cases h3:Ar w d.2.2.2.1=0
 rotate_left
 ·rw[AJD h3,AJD h3,AI9 h3];rfl
 rw[AI9 h3,AJD (show¬(Ar w d.2.2.2.1≠0)from fun hh=>hh h3)];rcases AIn ((CS w.BJ x.1).contains d.2.2.2.1)with h5|h5
 rotate_left
 ·rw[h5,Ic];rfl
 rw[h5,Fq,AI9 rfl,AI9 rfl,aU h h3 (Kh xp.1)];rfl
theorem gn{n k:Int}:PN n k w.2.1 w.2.2.2.2.2.1 w.2.2.2.2.2.2.2.2.2.2.1 w.1 w.2.2.1 w.2.2.2.1 w.2.2.2.2.1 w.2.2.2.2.2.2.1 w.2.2.2.2.2.2.2.1 w.2.2.2.2.2.2.2.2.1 w.2.2.2.2.2.2.2.2.2.1=some (mh (Ns w n k)):=by
 have kk:=h.nums;have k1:=kk.c;have k2:=kk.wr;have k3:=kk.lost;have k4:=kk.st;have cR:=kk.lS;have jx:=kk.J1;have lr:=kk.jw;have k5:=kk.era;have k7:=kk.eX;unfold PN Ns;rw[GS w,Lr (by omega) (by omega)];simp only[AD,Cq];by_cases h3:Ar w n=0
 rotate_left
 ·rw[AJD h3,AI9 h3];rfl
 obtain⟨hr,s1,s2,s3⟩:=h.Lv h3;have dC:w.2.2.1.getD n.toNat ([],[],0,())=storeAt w n:=rfl;rw[AI9 h3,AJD (show¬(Ar w n≠0)from fun hh=>hh h3)];simp only[AI9 hr,dC];rw[show((storeAt w n).1,(storeAt w n).2.1,(storeAt w n).2.2.1,())=storeAt w n from rfl,ZI s1 s2];simp only[AD,oC,PS];unfold putAt;rcases AIn (Fl (storeAt w n) k).2 with hq|hq
 ·rw[hq];rfl
 ·have e:(Fl (storeAt w n) k).1=storeAt w n:=by
   unfold Fl at hq|-;rw[Dc.2 s3]at hq|-;grind
  rw[hq,e];have:w.2.2.1.set n.toNat ((storeAt w n).1,(storeAt w n).2.1,(storeAt w n).2.2.1,())=w.2.2.1:=lV;rw[this];rfl
theorem gq{n:Int}:Pg n w.2.1 w.2.2.2.2.2.1 w.2.2.2.2.2.2.2.2.2.2.1 w.1 w.2.2.1 w.2.2.2.1 w.2.2.2.2.1 w.2.2.2.2.2.2.1 w.2.2.2.2.2.2.2.1 w.2.2.2.2.2.2.2.2.1 w.2.2.2.2.2.2.2.2.2.1=some (mh (Nq w n)):=by
 have k:=h.nums;have k1:=k.c;have k2:=k.wr;have k3:=k.lost;have k4:=k.st;have cR:=k.lS;have jx:=k.J1;have lr:=k.jw;have k5:=k.era;have k7:=k.eX;unfold Pg Nq;rw[GS w,Lr (by omega) (by omega)];simp only[AD,Cq];by_cases h3:Ar w n=0
 rotate_left
 ·rw[AJD h3,AI9 h3];rfl
 obtain⟨hr,s1,s2,s3⟩:=h.Lv h3;have dC:w.2.2.1.getD n.toNat ([],[],0,())=storeAt w n:=rfl;rw[AI9 h3,AJD (show¬(Ar w n≠0)from fun hh=>hh h3)];simp only[AI9 hr,dC];rw[show((storeAt w n).1,(storeAt w n).2.1,(storeAt w n).2.2.1,())=storeAt w n from rfl,kj s1 s2 k.trim];simp only[AD,oC,PS];unfold putAt;rw[show w.trim=w.2.2.2.2.2.1 from rfl];rcases AIn (JG (storeAt w n) w.2.2.2.2.2.1).2 with hq|hq
 ·rw[hq];rfl
 ·have e:(JG (storeAt w n) w.2.2.2.2.2.1).1=storeAt w n:=by
   unfold JG at hq|-;rw[Dc.2 s3]at hq|-;grind
  rw[hq,e];have:w.2.2.1.set n.toNat ((storeAt w n).1,(storeAt w n).2.1,(storeAt w n).2.2.1,())=w.2.2.1:=lV;rw[this];rfl
theorem jM:Qw w.2.1 w.2.2.2.2.2.1 w.2.2.2.2.2.2.2.2.2.2.1 w.1 w.2.2.1 w.2.2.2.1 w.2.2.2.2.1 w.2.2.2.2.2.2.1 w.2.2.2.2.2.2.2.1 w.2.2.2.2.2.2.2.2.1 w.2.2.2.2.2.2.2.2.2.1=some (AWu (S3 w)):=by
 have k:=h.nums;have k1:=k.c;have k2:=k.wr;have k3:=k.lost;have k4:=k.st;have cR:=k.lS;have jx:=k.J1;have lr:=k.jw;have k5:=k.era;have k7:=k.eX;unfold Qw S3;rw[show(w.2.2.2.2.1,w.2.2.2.2.2.1,())=Cb w from rfl,Sl (r:=Cb w) (by show w.2.2.2.2.1.length<=_;omega)];simp only[AD,DL,AB];rw[show(Cb w).1=w.BJ from rfl];by_cases h1:(w.2.2.2.2.1.length:Int)<2
 ·rw[AI9 h1,show(decide ((w.2.2.2.2.1.length:Int)<2)||decide (BN w.2.2.2.2.1=(w.2.2.2.2.1.length:Int)))=true by simp_all];rfl
 rw[AJD h1];by_cases h2:BN w.2.2.2.2.1=(w.2.2.2.2.1.length:Int)
 ·rw[AI9 h2,show(decide ((w.2.2.2.2.1.length:Int)<2)||decide (BN w.2.2.2.2.1=(w.2.2.2.2.1.length:Int)))=true by simp_all];rfl
 rw[AJD h2,show(decide ((w.2.2.2.2.1.length:Int)<2)||decide (BN w.2.2.2.2.1=(w.2.2.2.2.1.length:Int)))=false by simp_all];rw[AJD (show¬(false=true)by simp)];by_cases h3:w.2.2.2.2.2.2.2.1.length>0
 ·rw[AI9 (by omega),AI9 h3];rfl
 ·rw[AJD (by omega),AJD h3];rfl
theorem js{n:Int}:J9 n w.2.1 w.2.2.2.2.2.1 w.2.2.2.2.2.2.2.2.2.2.1 w.1 w.2.2.1 w.2.2.2.1 w.2.2.2.2.1 w.2.2.2.2.2.2.1 w.2.2.2.2.2.2.2.1 w.2.2.2.2.2.2.2.2.1 w.2.2.2.2.2.2.2.2.2.1=some (AHy (Sa w n)):=by
 have k:=h.nums;have k1:=k.c;have k2:=k.wr;have k3:=k.lost;have k4:=k.st;have cR:=k.lS;have jx:=k.J1;have lr:=k.jw;have k5:=k.era;have k7:=k.eX;have k6:=k.ws;unfold J9 Sa;rw[GS w,AH (x:=(w.2.2.1.length:Int)-1) (by omega) (by omega),AH (x:=(w.2.2.2.2.1.length:Int)-1) (by omega) (by omega),Au];simp only[AD,Ao];rcases AIn (w.lost.contains n)with hl|hl
 rotate_left
 ·rw[hl]
  have e:C4 w n=some ((w.lost.contains n,()),()):=bo (by omega);rw[e,hl];cases BD n 0 ((w.2.2.1.length:Int)-1)<;>rfl
 have Pu:=(F5.1 h.lost).2.1 n (by simp_all);have hn1:BD n 0 ((w.2.2.1.length:Int)-1)=true:=Ak.2 ⟨Pu.1,by
  have:n<(w.1.length:Int):=Pu.2;omega⟩
 have AaU:=Ak.1 hn1;rw[hn1,show C4 w n=some ((w.lost.contains n,()),())from bo (by omega),hl,Fq];simp only[AD,AJy];rw[show(if(0:Int)>(w.2.2.2.2.1.length:Int)-1 then 0 else(w.2.2.2.2.1.length:Int)-1)=max ((w.BJ.length:Int)-1) 0 by
  grind]
 have ASZ:∀s∈w.2.2.1,gm s:=fun s hs=>h.Vt hs
 rw[show(w.1,w.2.1,())=Aa w from rfl,wF (c:=Aa w) (by show w.1.length<=_;omega) (by omega) (fun s hs=>by have:=(ASZ s hs).nk;omega) (by omega) (fun s hs=>(ASZ s hs).sin) (by omega)];simp only[AD,pkF];rw[show ba (Aa w) w.BZ w.lost n (max ((w.BJ.length:Int)-1) 0)=ba (Aa w) w.2.2.1 w.2.2.2.1 n (max ((w.BJ.length:Int)-1) 0)from rfl];rcases AIn (ba (Aa w) w.2.2.1 w.2.2.2.1 n (max ((w.BJ.length:Int)-1) 0)).2 with hq|hq
 rotate_left
 ·rw[hq,Ic];rfl
 rw[hq,AJy,Fq,AI9 (by omega),P0 (by omega)];rfl
theorem iZ{n:Int}:KI n w.2.1 w.2.2.2.2.2.1 w.2.2.2.2.2.2.2.2.2.2.1 w.1 w.2.2.1 w.2.2.2.1 w.2.2.2.2.1 w.2.2.2.2.2.2.1 w.2.2.2.2.2.2.2.1 w.2.2.2.2.2.2.2.2.1 w.2.2.2.2.2.2.2.2.2.1=some (mh (Tc w n)):=by
 have k:=h.nums;have k1:=k.c;have k2:=k.wr;have k3:=k.lost;have k4:=k.st;have cR:=k.lS;have jx:=k.J1;have lr:=k.jw;have k5:=k.era;have k7:=k.eX;unfold KI Tc;rcases hm:w.Cd with _|⟨m,ms⟩
 ·rw[DL,AI9 (by simp_all)];rfl
 have hm':w.2.2.2.2.2.2.2.1=m::ms:=hm;have vi:w.2.2.2.2.2.2.2.1.length=ms.length+1:=by simp_all
 have g0:w.2.2.2.2.2.2.2.1.getD 0 (0,0,[],[],false,[],())=m:=by simp_all
 have hr0:(0:Int)<=(0:Int)/\(0:Int)<(w.2.2.2.2.2.2.2.1.length:Int):=by omega
 have an:=(h.Cd m (by simp_all)).1;have hmw:=an.w;have hme:=an.ep;have hmb:=an.b;simp only[DL,Ao,Cq,AI9 hr0,g0];rw[AJD (by omega)];rw[GS w,RO h ⟨by omega,by omega⟩];simp only[AD];unfold tG;by_cases h3:Ar w n=0
 rotate_left
 ·rw[AJD h3,AJD h3,AI9 h3];rfl
 obtain⟨hr,s1,s2,s3⟩:=h.Lv h3;have dC:w.2.2.1.getD n.toNat ([],[],0,())=storeAt w n:=rfl;have hn3: ¬(Ar w n≠0):=fun hh=>hh h3
 rw[AI9 h3,AJD hn3];simp only[AI9 hr,dC];rcases AIn ((CS w.BJ m.2.1).contains n)with h5|h5
 rotate_left
 ·rw[h5,Ic];rfl
 rw[h5,Fq,AI9 rfl,AI9 rfl,AH (by omega) (by omega),show((storeAt w n).1,(storeAt w n).2.1,(storeAt w n).2.2.1,())=storeAt w n from rfl,lZ s1 s2];have hq:=y9 (u:=m.1-1) s3;have hqw:=hq.w;simp only[AD,oC];rw[show((Bw (storeAt w n) (m.1-1)).1.1,(Bw (storeAt w n) (m.1-1)).1.2.1,(Bw (storeAt w n) (m.1-1)).1.2.2.1,())=(Bw (storeAt w n) (m.1-1)).1 from rfl,nK (by omega) hq.sin];simp only[AD];have hes:(Jh (Bw (storeAt w n) (m.1-1)).1 m.2.1).length<=200/\uj (Jh (Bw (storeAt w n) (m.1-1)).1 m.2.1)/\Ae Am (Jh (Bw (storeAt w n) (m.1-1)).1 m.2.1)<=10000:=by
  unfold Jh;rw[Dc.2 hq,AI9 rfl];refine⟨AOT (AOj _ _) hq.nk,fun e he=>hq.sin.1 e (ATA.1 he).1,AOT mz ?_⟩;have:Ai (Bw (storeAt w n) (m.1-1)).1=Ae Am (Bw (storeAt w n) (m.1-1)).1.1+Ae Am (Bw (storeAt w n) (m.1-1)).1.2.1:=rfl;omega
 rw[Vm m,show(w.1,w.2.1,())=Aa w from rfl,np (c:=Aa w) (by show w.1.length<=_;omega) (by omega) an.ein (by omega) hes.2.1 (by omega)];simp only[AD,kH];rcases AIn (Bw (storeAt w n) (m.1-1)).2 with h6|h6
 rotate_left
 ·rw[h6,AOH,ATV,AI9 rfl];rfl
 rw[h6,AJX,ANG];rcases AIn (Oy (Aa w) m n (Jh (Bw (storeAt w n) (m.1-1)).1 m.2.1)).2 with h7|h7
 rotate_left
 ·rw[h7,Ic];rfl
 rw[h7,Fq,AJy,AJy,hm'];rfl
theorem jX:KJ w.2.1 w.2.2.2.2.2.1 w.2.2.2.2.2.2.2.2.2.2.1 w.1 w.2.2.1 w.2.2.2.1 w.2.2.2.2.1 w.2.2.2.2.2.2.1 w.2.2.2.2.2.2.2.1 w.2.2.2.2.2.2.2.2.1 w.2.2.2.2.2.2.2.2.2.1=some (mh (Tf w)):=by
 have k:=h.nums;have k1:=k.c;have k2:=k.wr;have k3:=k.lost;have k4:=k.st;have cR:=k.lS;have jx:=k.J1;have lr:=k.jw;have k5:=k.era;have k7:=k.eX;unfold KJ Tf;rcases hm:w.Cd with _|⟨m,ms⟩
 ·rw[DL,AI9 (by simp_all)];rfl
 have hm':w.2.2.2.2.2.2.2.1=m::ms:=hm;have vi:w.2.2.2.2.2.2.2.1.length=ms.length+1:=by simp_all
 have g0:w.2.2.2.2.2.2.2.1.getD 0 (0,0,[],[],false,[],())=m:=by simp_all
 have hr0:(0:Int)<=(0:Int)/\(0:Int)<(w.2.2.2.2.2.2.2.1.length:Int):=by omega
 have an:=(h.Cd m (by simp_all)).1;have hmw:=an.w;have hme:=an.ep;simp only[DL,Ao,Cq,AI9 hr0,g0];rw[AJD (by omega)];rw[show(w.2.2.2.2.1,w.2.2.2.2.2.1,())=Cb w from rfl,PR (r:=Cb w) (by show Ae B_ w.2.2.2.2.1<=_;omega) ⟨by omega,by omega⟩];have U0:(CS w.BJ m.2.1).length<=8:=Gm h;rw[show(Cb w).1=w.BJ from rfl];simp only[AD];rw[Vm m,show(w.1,w.2.1,())=Aa w from rfl,nv (c:=Aa w) (by show w.1.length<=_;omega) (by omega) an.ein (by omega)];simp only[AD,kH,PS];rcases AIn (L9 (Aa w) m (CS w.BJ m.2.1)).2 with h6|h6
 ·rw[h6,Fq,hm'];rfl
 ·have e:(L9 (Aa w) m (CS w.BJ m.2.1)).1=m:=by
   unfold L9 at h6|-;rw[HA.2 an]at h6|-;grind
  rw[h6,Ic,e,hm']
  show some ((4,()),_,_,_,_,_,_,(m::ms),_)=some ((4,()),_,_,_,_,_,_,w.2.2.2.2.2.2.2.1,_)
  rw[hm']
theorem ll{b n:Int}:S5 b n w.2.1 w.2.2.2.2.2.1 w.2.2.2.2.2.2.2.2.2.2.1 w.1 w.2.2.1 w.2.2.2.1 w.2.2.2.2.1 w.2.2.2.2.2.2.1 w.2.2.2.2.2.2.2.1 w.2.2.2.2.2.2.2.2.1 w.2.2.2.2.2.2.2.2.2.1=some (mh (ZX w b n)):=by
 have k:=h.nums;have k1:=k.c;have k2:=k.wr;have k3:=k.lost;have k4:=k.st;have cR:=k.lS;have jx:=k.J1;have lr:=k.jw;have k5:=k.era;have k7:=k.eX;unfold S5 ZX;rcases hm:w.Cd with _|⟨m,ms⟩
 ·rw[DL,AI9 (by simp_all)];rfl
 have hm':w.2.2.2.2.2.2.2.1=m::ms:=hm;have vi:w.2.2.2.2.2.2.2.1.length=ms.length+1:=by simp_all
 have g0:w.2.2.2.2.2.2.2.1.getD 0 (0,0,[],[],false,[],())=m:=by simp_all
 have hr0:(0:Int)<=(0:Int)/\(0:Int)<(w.2.2.2.2.2.2.2.1.length:Int):=by omega
 have an:=(h.Cd m (by simp_all)).1;have hmw:=an.w;have hme:=an.ep;simp only[DL,Ao,Cq,AI9 hr0,g0];rw[AJD (by omega),Vm m,Zc (by omega)];simp only[AD];rcases he:EW m b with _|e
 ·rfl
 simp only[AO4,AO2,AJy];rw[GS w,RO h ⟨by omega,by omega⟩];simp only[AD];unfold tG;by_cases h3:Ar w n=0
 rotate_left
 ·rw[AJD h3,AJD h3,AI9 h3];rfl
 rw[AI9 h3,AJD (show¬(Ar w n≠0)from fun hh=>hh h3)];rcases AIn ((CS w.BJ m.2.1).contains n)with h5|h5
 rotate_left
 ·rw[h5,Ic];rfl
 rw[h5,Fq,AI9 rfl,AI9 rfl,eg e,aU h h3 (xT he)];rfl
theorem gp:I2 w.2.1 w.2.2.2.2.2.1 w.2.2.2.2.2.2.2.2.2.2.1 w.1 w.2.2.1 w.2.2.2.1 w.2.2.2.2.1 w.2.2.2.2.2.2.1 w.2.2.2.2.2.2.2.1 w.2.2.2.2.2.2.2.2.1 w.2.2.2.2.2.2.2.2.2.1=some (AWx (Nn w)):=by
 have k:=h.nums;have k1:=k.c;have k2:=k.wr;have k3:=k.lost;have k4:=k.st;have cR:=k.lS;have jx:=k.J1;have lr:=k.jw;have k5:=k.era;have k7:=k.eX;unfold I2 Nn;rcases hm:w.Cd with _|⟨m,ms⟩
 ·rw[DL,AI9 (by simp_all)];rfl
 have hm':w.2.2.2.2.2.2.2.1=m::ms:=hm;have vi:w.2.2.2.2.2.2.2.1.length=ms.length+1:=by simp_all
 have g0:w.2.2.2.2.2.2.2.1.getD 0 (0,0,[],[],false,[],())=m:=by simp_all
 have hr0:(0:Int)<=(0:Int)/\(0:Int)<(w.2.2.2.2.2.2.2.1.length:Int):=by omega
 have an:=(h.Cd m (by simp_all)).1;have hmw:=an.w;simp only[DL,Ao,Cq,AI9 hr0,g0];rw[AJD (by omega),Vm m,show(w.1,w.2.1,())=Aa w from rfl,show(w.2.2.2.2.1,w.2.2.2.2.2.1,())=Cb w from rfl,ko (c:=Aa w) (by show w.1.length<=_;omega) (by omega) an.ein];simp only[AD];rcases AIn (UH (Aa w) m)with h6|h6
 rotate_left
 ·rw[h6,Ic];rfl
 rw[h6,Fq,AJy,mF (c:=Aa w) (r:=Cb w) (by show w.1.length<=_;omega) (by show Ae B_ w.2.2.2.2.1<=_;omega) k.trim];simp only[AD,pkR,PS];rcases AIn (ON (Aa w) (Cb w) m.1 (m.2.2.2.2.2.1.length:Int)).2 with h7|h7
 ·rw[h7,AJy,Fq];rfl
 ·rw[h7,AJQ,Ic];rfl
end
abbrev o7(l:List Aj):Prop:=WK (fun s:Aj=>s.1) l
abbrev AEB(p:Int)(l:List Aj)(q:Nat):Prop:=kW (fun s:Aj=>s.1) p l q
def cN(p:Int)(l:List Aj)(q:Nat):Bool:=match l[q]? with|some e=>e.1==p|none=>false
theorem oJ{l:List Aj}(ha:o7 l)(hl:l.length<=2^30)(hp:∀s∈l,0<=s.1/\s.1<2^40){p:Int}(hpp:0<=p/\p<2^40):∃q,AEB p l q/\
  BT l p=some ((((q:Int),cN p l q,()),()),()):=by
 have key:∀(n a b:Nat),a<=b->b<=l.length->b-a<n->(∀(i:Nat) (h:i<l.length),i<a->l[i].1<p)->(∀(i:Nat) (h:i<l.length),b<=i->p<=l[i].1)->
   ∃q,AEB p l q/\As n l p l.length a b=some ((((q:Int),cN p l q,()),()),()):=by
  intro n
  induction n with
  |zero=>omega
  |succ n ih=>
   intro a b ug hb hn h1 h2;simp only[As,Cg,AB,K_,AD];by_cases IQ:a<b
   ·have hm:(a+b)/2<l.length:=by omega
    have hq:=hp _ (AJ7 hm);rw[AI9 (by omega),w6 (by omega),AI9 (by omega),Af hm,AH (by omega) (by omega)];by_cases hc:l[(a+b)/2].1<p
    ·rw[AI9 (by omega),AH (by omega) (by omega),show((((a+b)/2:Nat):Int)+1)=(((a+b)/2+1:Nat):Int)by omega]
     refine ih _ b (by omega) hb (by omega) (fun i h hi=> ?_) h2;exact Int.lt_of_le_of_lt (dE (f:=fun s:Aj=>s.1) ha h hm (by omega)) hc
    ·rw[AJD (by omega)]
     exact ih a _ (by omega) (by omega) (by omega) h1 fun i h hi=>Int.le_trans (by omega) (dE (f:=fun s:Aj=>s.1) ha hm h hi)
   ·have AHA:a=b:=by omega
    subst AHA;refine⟨a,⟨hb,h1,h2⟩,?_⟩;rw[AJD (by omega)];unfold cN;by_cases ha':a<l.length
    ·have hq:=hp _ (AJ7 ha')
     rw[AI9 (by omega),AI9 (by omega),Af ha',AJA ha',AH (by omega) (by omega)];dsimp only;by_cases hd:l[a].1=p
     ·simp_all
     ·rw[AKA.2 hd,AKA.2 (by omega:l[a].1-p≠0)]
    grind
 obtain⟨q,hq,e⟩:=key AX 0 l.length (by omega) (by omega) (Ab (by omega)) (fun i h hi=>by omega) (fun i h hi=>by omega);refine⟨q,hq,?_⟩;unfold BT Cf;omega
theorem AAP{p:Int}{l:List Aj}{q:Nat}(h:cN p l q=true):∃hq:q<l.length,l[q].1=p:=by
 unfold cN at h;grind
theorem v8{p:Int}{l:List Aj}{q:Nat}(hp:AEB p l q)(ha:o7 l)(h:cN p l q=false):∀s∈l,s.1≠p:=by
 intro s hs e;obtain⟨i,hi,rfl⟩:=List.mem_iff_getElem.1 hs;have h1:=hp.lt i hi;by_cases hiq:i<q
 ·omega
 ·have hq:q<l.length:=by omega
  have h3:p<=l[q].1:=hp.ge q hq (ALj _);have h4:=dE (f:=fun s:Aj=>s.1) ha hq hi (by omega);grind[cN,List.getElem?_eq_getElem,beq_eq_false_iff_ne]
theorem AIh{p:Int}{l:List Aj}{q:Nat}(hp:AEB p l q)(ha:o7 l):(l.any fun s=>s.1==p)=cN p l q:=by
 rcases AIn (cN p l q)with h|h
 ·obtain⟨hq,e⟩:=AAP h
  grind
 ·rw[h,List.any_eq_false]
  intro s hs;grind[v8]
def Q8(p:Int)(l:List Aj):List Aj:=l.map fun s=>if s.1=p then(s.1,s.2.1,true,())else s
theorem AB8{p:Int}{l:List Aj}(h:∀s∈l,s.1≠p):Q8 p l=l:=by
 unfold Q8
 conv=>rhs;rw[<-ATo l]
 refine AO9 fun s hs=> ?_
 grind
theorem AG4{p:Int}:∀{l:List Aj} {q:Nat} (hq:q<l.length),o7 l->l[q].1=p->l.set q (l[q].1,l[q].2.1,true,())=Q8 p l
 |[],q,hq,_,_=>by rfl
 |s::l,0,_,ha,e=>by
  have h1:=AOK.1 ha;have e':s.1=p:=e;have h2:Q8 p l=l:=AB8 fun y hy=>by grind
  show(s.1,s.2.1,true,())::l=(if s.1=p then(s.1,s.2.1,true,())else s)::Q8 p l
  simp_all
 |s::l,q+1,hq,ha,e=>by
  have h1:=AOK.1 ha;have hq':q<l.length:=by grind
  have e':l[q].1=p:=e;have h3:s.1<l[q].1:=h1.1 _ (AJ7 hq');have h4:s.1≠p:=by omega
  have:=AG4 hq' h1.2 e'
  show s::l.set q (l[q].1,l[q].2.1,true,())=(if s.1=p then(s.1,s.2.1,true,())else s)::Q8 p l
  simp_all
theorem sm_at{p:Int}{l:List Aj}:∀{s:Aj},s∈Q8 p l-> ∃t∈l,t.1=s.1:=by
 intro s hs;obtain⟨t,ht,rfl⟩:=APC.1 hs;grind
theorem AON{p:Int}{l:List Aj}(h:o7 l):o7 (Q8 p l):=by
 unfold Q8 o7 WK;grind
theorem ALV{p:Int}{l:List Aj}:(Q8 p l).length=l.length:=by unfold Q8;rw[AQx]
theorem yw{s:Aj}:∀{l:List Aj} {q:Nat},AEB s.1 l q->cN s.1 l q=false->cU s l=l.take q++[s]++l.drop q
 |[],q,h,_=>by
  have:=h.le;have:q=0:=by simp_all
  subst this;rfl
 |y::l,0,h,hn=>by
  have h1:=h.ge 0 (by simp) (ALj _);have h2:(y.1==s.1)=false:=hn;have h2':=AKA.1 h2;have h1':s.1<=y.1:=h1;simp only[cU];grind
 |y::l,q+1,h,hn=>by
  have h1:y.1<s.1:=h.lt 0 (by simp) (by omega);have hp:AEB s.1 l q:=⟨by have:=h.le;simp_all,fun i hi hiq=>h.lt (i+1) (by simp_all) (by omega),fun i hi hiq=>h.ge (i+1) (by simp_all) (by omega)⟩;simp only[cU];rw[AJD (by omega),yw hp hn];rfl
section
variable{w:AA} (h:RT w)
include h
theorem RT.AM5:∀s∈w.2.2.2.2.2.2.2.2.2.1,0<=s.1/\s.1<2^40:=fun s hs=>by
 have hp:=(h.CF s hs).1;have h1:=GA hp;grind[Gv,AZ,Bl]
theorem kI{a:Int}{d:AAZ}(hd:d.length<=40):LL a d w.2.1 w.2.2.2.2.2.1 w.2.2.2.2.2.2.2.2.2.2.1 w.1 w.2.2.1 w.2.2.2.1 w.2.2.2.2.1 w.2.2.2.2.2.2.1 w.2.2.2.2.2.2.2.1 w.2.2.2.2.2.2.2.2.1 w.2.2.2.2.2.2.2.2.2.1=some (ARz (doAdd w a d)):=by
 have k:=h.nums;have k1:=k.c;have k2:=k.wr;have k3:=k.lost;have k4:=k.st;have cR:=k.lS;have jx:=k.J1;have lr:=k.jw;have k5:=k.era;have k7:=k.eX;have k6:=k.se;unfold LL doAdd;rw[AH (x:=(w.2.2.2.2.2.2.1.length:Int)-1) (by omega) (by omega),Au];simp only[AD,Ao,Cq,DL];rw[show BD a 0 ((w.2.2.2.2.2.2.1.length:Int)-1)=BD a 0 ((w.AK.length:Int)-1)from rfl];rcases AIn (BD a 0 ((w.AK.length:Int)-1))with h1|h1
 rotate_left
 ·rw[h1,Ic];rfl
 obtain⟨x1,x2,x3⟩:=h.e_ h1;rw[h1,AJy,Fq];simp only[AI9 x1];rw[show w.2.2.2.2.2.2.1.getD a.toNat (0,[],())=w.AK.getD a.toNat CZ from rfl]
 generalize hx:w.AK.getD a.toNat CZ=x at*
 rw[show(x.1,x.2.1,())=x from rfl,show(w.1,w.2.1,())=Aa w from rfl,lM (c:=Aa w) (by show w.1.length<=_;omega) (by omega) (by omega)];simp only[AD];rw[Gp];simp only[AD];have hxl:=x2.n;have hxe:=x2.ep;have hq1:(CM (Aa w) x d).1.1=x.1:=by
  unfold CM;rw[HW.2 x2];grind
 have hpm:0<=D1 (CM (Aa w) x d).1.1 (CM (Aa w) x d).2.1/\D1 (CM (Aa w) x d).1.1 (CM (Aa w) x d).2.1<2^40:=by
  unfold D1 Gv;split
  ·rename_i hc
   rw[AJR,Ak,Ak]at hc;omega
  omega
 obtain⟨q,hq,es⟩:=oJ (l:=w.2.2.2.2.2.2.2.2.2.1) h.cP (by omega) h.AM5 hpm;unfold ID;rw[es];simp only[AD];rcases AIn (CM (Aa w) x d).2.2 with h2|h2
 rotate_left
 ·rw[h2,AOH,ATV,AI9 rfl,AJQ];rfl
 obtain⟨y1,y2,y3,y4⟩:=XX h2;have hyl:=y2.n;rw[y3]at hyl;simp only[AKN,AJq,AKx]at hyl;have xp:=NF (e:=x.1) (o:=(CM (Aa w) x d).2.1) hxe (by omega);have hpe:D1 (CM (Aa w) x d).1.1 (CM (Aa w) x d).2.1=Gv x.1 (CM (Aa w) x d).2.1:=by
  grind[D1,Ak]
 rw[hpe]at hq|-;rw[h2,AJy];simp only[AJX,ANG];have AUv:(w.CF.any fun s=>s.1==Gv x.1 (CM (Aa w) x d).2.1)=cN (Gv x.1 (CM (Aa w) x d).2.1) w.2.2.2.2.2.2.2.2.2.1 q:=AIh hq h.cP;rw[AUv];by_cases h3:w.2.2.2.2.2.2.2.2.2.1.length=120
 ·rw[AI9 (by omega),show decide (w.CF.length=120)=true from ALg h3,ATV,AI9 rfl]
  rfl
 rw[AJD (by omega),show decide (w.CF.length=120)=false from ANS h3];simp only[ANG];rcases AIn (cN (Gv x.1 (CM (Aa w) x d).2.1) w.2.2.2.2.2.2.2.2.2.1 q)with h4|h4
 ·rw[h4,AJy,AI9 rfl];rfl
 rw[h4,AJQ,AJD (by simp)];have hql:=hq.le;grind[EA,lP,yw,Gv,CM,Aa,ARz,List.append_assoc,cU]
end
def iL(c:CK)(s:AL)(ep n:Int):Int->List BR->List Aj->List Aj
 |_,[],se=>se
 |o,x::l,se=>iL c s ep n (o+1) l (if !x.2.2.1&&MK s (Gv ep o)&&(Fh c n x).2.2.1 then Q8 (Gv ep o) se else se)
def pkT(c0:AAN)(c1 tr:Int)(tn:Bool)(ss:List AL)(lo:AAN)(er:List C7)(ws:List AR)(ms:List Az)(rs:List Ac)(se:List Aj):F9:=
 (((()),()),(((),c1,(),(),(),tr,(),(),(),(),tn,()),c0,ss,lo,er,ws,ms,rs,se,()))
section
variable{c:CK} {st:AL} {SS:List AL} {n:Int} (hc:c.1.length<=8) (hs:gm st) (hn:0<=n/\n<c.1.length) (hnS:n<(SS.length:Int)) (dC:SS.getD n.toNat Dm=st)
include hc hs hn hnS dC
theorem AAq{tr:Int}{tn:Bool}{lo:AAN}{er:List C7}{ms:List Az}{rs:List Ac}{a:Nat}{ep:Int}:∀(rest dn:List BR) (ws:List AR) (se:List Aj) (f:Nat),a<ws.length->a<=4->ws.getD a CZ=(ep,dn++rest,())->dW c (ep,dn++rest,())->
  o7 se->(∀s∈se,0<=s.1/\s.1<2^40)->se.length<=120->rest.length<f->
  Cz f (a:Int) n ((dn.length:Int)+1) c.2.1 tr tn c.1 SS lo er ws ms rs se=some (pkT c.1 c.2.1 tr tn SS lo er (ws.set a (ep,dn++BC c st ep n ((dn.length:Int)+1) rest,())) ms rs (iL c st ep n ((dn.length:Int)+1) rest se)):=by
 have tY:=hs.w;intro rest
 induction rest with
 |nil=>
  intro dn ws se f ha ha4 hw DX ABT AIm AMa hf;obtain⟨f,rfl⟩:∃f',f=f'+1:=⟨f-1,by omega⟩;have oR:ws.getD a (0,[],())=(ep,dn++[],()):=hw;simp only[Cz,Ii,AB,AJT,oR,AKX];rw[AI9 (by omega),AJD (by omega)];unfold BC iL pkT;rw[show((ep,dn++[],()):AR)=ws.getD a CZ from hw.symm,lV]
 |cons x rest ih=>
  intro dn ws se f ha ha4 hw DX ABT AIm AMa hf;obtain⟨f,rfl⟩:∃f',f=f'+1:=⟨f-1,by omega⟩;simp only[AJq]at hf;have oR:ws.getD a (0,[],())=(ep,dn++x::rest,()):=hw;have hwe:1<=ep/\ep<=30:=DX.ep;have hwn:(dn++x::rest).length<=60:=DX.n;have hww:Ae BQ (dn++x::rest)<=3000:=DX.w;have hwl:=hwn;simp only[AKN,AJq]at hwl;have ca:(0:Int)<=(a:Int)/\(a:Int)<(ws.length:Int):=by omega
  have cn:(0:Int)<=n/\n<(SS.length:Int):=⟨hn.1,hnS⟩;have xp:=NF (e:=ep) (o:=(dn.length:Int)+1) hwe (by omega);have hpm:D1 ep ((dn.length:Int)+1)=Gv ep ((dn.length:Int)+1):=by
   grind[D1,Ak]
  have cd:(0:Int)<=(dn.length:Int)+1-1/\(dn.length:Int)+1-1<((dn++x::rest).length:Int):=by
   grind
  have e1:((dn.length:Int)+1-1).toNat=dn.length:=by omega
  have e2:(dn++x::rest).getD dn.length ([],[],false,())=x:=by simp[List.getD]
  have ALO:SS.getD n.toNat ([],[],0,())=st:=dC;simp only[Cz,Ii,AB,Ao,Cq,AJT,oR,AI9 ca,AI9 cn];rw[AI9 (by omega),Gp,hpm];simp only[AD,ALO];rw[N_ st,UO (by omega) hs.sin];simp only[AD];rw[AH (x:=(dn.length:Int)+1+1) (by omega) (by omega),AH (x:=(dn.length:Int)+1-1) (by omega) (by omega)];simp only[AI9 cd,e1,e2];have go:∀(y:BR) (ws':List AR) (qM:List Aj),ws'.length=ws.length->ws'.getD a CZ=(ep,dn++y::rest,())->(∀z,ws'.set a z=ws.set a z)->dW c (ep,dn++y::rest,())->o7 qM->(∀s∈qM,0<=s.1/\s.1<2^40)->qM.length<=120->
    (if !x.2.2.1&&MK st (Gv ep ((dn.length:Int)+1))then Fh c n x else x)=y->(if !x.2.2.1&&MK st (Gv ep ((dn.length:Int)+1))&&(Fh c n x).2.2.1 then Q8 (Gv ep ((dn.length:Int)+1)) se else se)=qM->
    Cz f (a:Int) n ((dn.length:Int)+1+1) c.2.1 tr tn c.1 SS lo er ws' ms rs qM=some (pkT c.1 c.2.1 tr tn SS lo er (ws.set a (ep,dn++BC c st ep n ((dn.length:Int)+1) (x::rest),())) ms rs (iL c st ep n ((dn.length:Int)+1) (x::rest) se)):=fun y ws' qM g1 g2 g3 g4 g5 g6 g7 g8 g9=>by
   have:=ih (dn++[y]) ws' qM f (by omega) ha4 (by simp_all) (by simp_all) g5 g6 g7 (by omega);simp only[AKN,AJq,AKx,AKK,APM]at this;grind[BC,iL]
  have stay:(if !x.2.2.1&&MK st (Gv ep ((dn.length:Int)+1))then Fh c n x else x)=x->(if !x.2.2.1&&MK st (Gv ep ((dn.length:Int)+1))&&(Fh c n x).2.2.1 then Q8 (Gv ep ((dn.length:Int)+1)) se else se)=se->
    Cz f (a:Int) n ((dn.length:Int)+1+1) c.2.1 tr tn c.1 SS lo er ws ms rs se=some (pkT c.1 c.2.1 tr tn SS lo er (ws.set a (ep,dn++BC c st ep n ((dn.length:Int)+1) (x::rest),())) ms rs (iL c st ep n ((dn.length:Int)+1) (x::rest) se)):=fun g8 g9=>go x ws se rfl hw (fun _=>rfl) DX ABT AIm AMa g8 g9
  have hsg:Yt st (Gv ep ((dn.length:Int)+1))=OV (Gv ep ((dn.length:Int)+1)) st.1:=by unfold Yt;rw[Dc.2 hs,AI9 rfl]
  rw[hsg];cases hxd:x.2.2.1 with
  |true=>
   grind
  |false=>
   rw[AJQ];cases hg:OV (Gv ep ((dn.length:Int)+1)) st.1 with
   |none=>
    grind[MK,Gv]
   |some e=>
    simp only[AJy];by_cases he0:e.2.1=0
    rotate_left
    ·have hh:MK st (Gv ep ((dn.length:Int)+1))=false:=by grind[MK]
     simp_all
    have hh:MK st (Gv ep ((dn.length:Int)+1))=true:=by grind[MK]
    rw[AI9 he0];have hx:=DX.words x (by simp);have hb:dW c (ep,dn++Fh c n x::rest,()):=⟨DX.cfg,DX.ep,by grind,fun b hb=>by
     simp only[ALk,ALa]at hb;rcases hb with hb|rfl|hb
     ·exact DX.words b (by simp[hb])
     ·exact⟨hx.1,ML hx.2.1 hn,rfl⟩
     ·exact DX.words b (by simp[hb]),AOT (nY hxd) DX.opn⟩
    rw[show(c.1,c.2.1,())=c from rfl,lF (c:=c) (w:=(ep,dn++x::rest,())) (by omega) (by grind)];have AGv:Ro c (ep,dn++x::rest,()) ((dn.length:Int)+1) n=((ep,dn++Fh c n x::rest,()),true):=by
     unfold Ro;rw[HW.2 DX];simp only[AJX,AJn,AMd];rw[e1,show(dn++x::rest).getD dn.length MB=x from e2,hxd];rw[AI9 (by
      rw[AJR,AJR,Ak,Ak];grind)]
     grind
    rw[AGv];simp only[AD,pkW];have hx7:(ws.set a (ep,dn++Fh c n x::rest,())).getD a (0,[],())=(ep,dn++Fh c n x::rest,()):=NB ha;have ca7:(0:Int)<=(a:Int)/\(a:Int)<((ws.set a (ep,dn++Fh c n x::rest,())).length:Int):=by grind
    have cd7:(0:Int)<=(dn.length:Int)+1-1/\(dn.length:Int)+1-1<((dn++Fh c n x::rest).length:Int):=by
     grind
    have e27:(dn++Fh c n x::rest).getD dn.length ([],[],false,())=Fh c n x:=by simp[List.getD]
    have hpr:0<=Gv ep ((dn.length:Int)+1)/\Gv ep ((dn.length:Int)+1)<2^40:=by unfold Gv;omega
    obtain⟨q,hq,es⟩:=oJ ABT (by omega) AIm hpr;unfold ID;rw[es];simp only[AD,hx7,AI9 ca7,AI9 cd7,e27];have cl:∀z,(ws.set a (ep,dn++Fh c n x::rest,())).set a z=ws.set a z:=fun z=>ATJ ..
    have AKR:(if !x.2.2.1&&MK st (Gv ep ((dn.length:Int)+1))then Fh c n x else x)=Fh c n x:=by grind
    rcases AIn (cN (Gv ep ((dn.length:Int)+1)) se q)with hf|hf
    rotate_left
    ·rw[hf,AJQ]
     refine go _ _ se (ARG ..) hx7 cl hb ABT AIm AMa AKR ?_
     rw[AB8 (v8 hq ABT hf)];grind
    obtain⟨hql,hqe⟩:=AAP hf;rw[hf,AJy];cases hd:(Fh c n x).2.2.1 with
    |false=>
     grind
    |true=>
     rw[AJy,AI9 (by omega),AJT,show se.getD q (0,[],false,())=se[q]from TP hql,AG4 hql ABT hqe];refine go _ _ _ (ARG ..) hx7 cl hb (AON ABT) (fun s hs' => ?_) (by rw[ALV];omega) AKR (by grind);grind[sm_at]
theorem ABy{tr:Int}{tn:Bool}{lo:AAN}{er:List C7}{ws:List AR}{rs:List Ac}{se:List Aj}{a:Nat}{m:Az}(hm:ud c m):∀(rest dn:List AAN) (ms:List Az) (f:Nat),a<ms.length->a<=4->ms.getD a Tu=(m.1,m.2.1,m.2.2.1,m.2.2.2.1,m.2.2.2.2.1,dn++rest,())->(dn++rest).length=m.2.2.2.2.2.1.length->(∀l∈dn++rest,A_ c l=true)->
  rest.length<f->
  BX f (a:Int) n ((dn.length:Int)+1) c.2.1 tr tn c.1 SS lo er ws ms rs se=some (pkT c.1 c.2.1 tr tn SS lo er ws (ms.set a (m.1,m.2.1,m.2.2.1,m.2.2.2.1,m.2.2.2.2.1,dn++FO m st n ((dn.length:Int)+1) rest,())) rs se):=by
 have tY:=hs.w;have hmn:m.2.2.2.2.2.1.length<=60:=by
  have:=hm.n;have hb:=KO (l:=m.2.2.2.1);omega
 intro rest
 induction rest with
 |nil=>
  intro dn ms f ha ha4 hw hl ho hf;obtain⟨f,rfl⟩:∃f',f=f'+1:=⟨f-1,by omega⟩;have oR:ms.getD a (0,0,[],[],false,[],())=(m.1,m.2.1,m.2.2.1,m.2.2.2.1,m.2.2.2.2.1,dn++[],()):=hw;simp only[BX,G3,AB,AJT,oR,AKX];rw[AI9 (by omega),AJD (by omega)];unfold FO pkT;rw[show((m.1,m.2.1,m.2.2.1,m.2.2.2.1,m.2.2.2.2.1,dn++[],()):Az)=ms.getD a Tu from hw.symm,lV]
 |cons x rest ih=>
  intro dn ms f ha ha4 hw hl ho hf;obtain⟨f,rfl⟩:∃f',f=f'+1:=⟨f-1,by omega⟩;simp only[AJq]at hf;have oR:ms.getD a (0,0,[],[],false,[],())=(m.1,m.2.1,m.2.2.1,m.2.2.2.1,m.2.2.2.2.1,dn++x::rest,()):=hw;have oS:=hl;simp only[AKN,AJq]at oS;have ca:(0:Int)<=(a:Int)/\(a:Int)<(ms.length:Int):=by omega
  have cn:(0:Int)<=n/\n<(SS.length:Int):=⟨hn.1,hnS⟩;have ALO:SS.getD n.toNat ([],[],0,())=st:=dC;have an:ud c (m.1,m.2.1,m.2.2.1,m.2.2.2.1,m.2.2.2.2.1,dn++x::rest,()):=⟨hm.cfg,hm.ep,hm.b,hm.sld,hm.zZ,hm.seen,ho,by show((dn++x::rest).length:Int)=_;rw[hl];exact hm.n⟩;have hmw:=an.w;simp only[BX,G3,AB,Ao,Cq,AJT,oR,AI9 ca,AI9 cn];rw[AI9 (by omega),Zc (m:=(m.1,m.2.1,m.2.2.1,m.2.2.2.1,m.2.2.2.2.1,dn++x::rest,())) (by omega),eJ hl];simp only[AD,ALO];rw[N_ st,UO (by omega) hs.sin];simp only[AD];rw[AH (x:=(dn.length:Int)+1+1) (by omega) (by omega)];have go:∀(y:AAN) (ms':List Az),ms'.length=ms.length->ms'.getD a Tu=(m.1,m.2.1,m.2.2.1,m.2.2.2.1,m.2.2.2.2.1,dn++y::rest,())->(∀z,ms'.set a z=ms.set a z)->A_ c y=true->
    (if U_ m st ((dn.length:Int)+1)then N9 n x else x)=y->
    BX f (a:Int) n ((dn.length:Int)+1+1) c.2.1 tr tn c.1 SS lo er ws ms' rs se=some (pkT c.1 c.2.1 tr tn SS lo er ws (ms.set a (m.1,m.2.1,m.2.2.1,m.2.2.2.1,m.2.2.2.2.1,dn++FO m st n ((dn.length:Int)+1) (x::rest),())) rs se):=fun y ms' g1 g2 g3 g4 g5=>by
   have:=ih (dn++[y]) ms' f (by omega) ha4 (by simp_all) (by simp_all) (fun l hl=>by
    grind) (by omega)
   simp only[AKN,AJq,AKx,AKK,APM]at this;grind[FO]
  have hx:=ho x (by simp);have stay:U_ m st ((dn.length:Int)+1)=false->BX f (a:Int) n ((dn.length:Int)+1+1) c.2.1 tr tn c.1 SS lo er ws ms rs se=some (pkT c.1 c.2.1 tr tn SS lo er ws (ms.set a (m.1,m.2.1,m.2.2.1,m.2.2.2.1,m.2.2.2.2.1,dn++FO m st n ((dn.length:Int)+1) (x::rest),())) rs se):=fun g=>go x ms rfl hw (fun _=>rfl) hx (by simp_all)
  have hsg:∀p,Yt st p=OV p st.1:=fun p=>by unfold Yt;rw[Dc.2 hs,AI9 rfl]
  rw[hsg];cases he:EW m ((dn.length:Int)+1)with
  |none=>
   simp only[AO8,AJQ];grind[U_]
  |some e=>
   simp only[AO2,AJy,AO4];cases hg:OV e.1 st.1 with
   |none=>
    grind[U_]
   |some y=>
    simp only[AJy,eqE,AB];by_cases hye:y=e
    rotate_left
    ·rw[AJD hye]
     grind[U_]
    have hh:U_ m st ((dn.length:Int)+1)=true:=by grind[U_]
    rw[AI9 hye,show(c.1,c.2.1,())=c from rfl,pI (c:=c) (m:=(m.1,m.2.1,m.2.2.1,m.2.2.2.1,m.2.2.2.2.1,dn++x::rest,())) (by omega) (by omega) an.ein];have AGv:aF c (m.1,m.2.1,m.2.2.1,m.2.2.2.1,m.2.2.2.2.1,dn++x::rest,()) ((dn.length:Int)+1) n=((m.1,m.2.1,m.2.2.1,m.2.2.2.1,m.2.2.2.2.1,dn++N9 n x::rest,()),true):=by
     unfold aF;rw[HA.2 an];have hq:(BD ((dn.length:Int)+1) 1 ((dn++x::rest).length:Int)&&BD n 0 ((c.1.length:Int)-1))=true:=by
      rw[AJR,Ak,Ak];omega
     grind
    grind[AD,kH,N9,List.length_set,NB,List.set_set,ML]
end
def jo(c:CK)(s:AL)(ep n:Int):Int->List BR->Int->Bool
 |_,[],_=>false
 |o,x::l,p=>(decide (p=Gv ep o)&&(!x.2.2.1&&MK s (Gv ep o)&&(Fh c n x).2.2.1))||jo c s ep n (o+1) l p
theorem wB{c:CK}{st:AL}{ep n:Int}:∀{l:List BR} {o:Int} {se:List Aj},iL c st ep n o l se=se.map fun s=>(s.1,s.2.1,s.2.2.1||jo c st ep n o l s.1,())
 |[],o,se=>by
  simp only[iL,jo,ATY];simp_all
 |x::l,o,se=>by
  simp only[iL];rw[wB];rcases AIn (!x.2.2.1&&MK st (Gv ep o)&&(Fh c n x).2.2.1)with hb|hb
  ·rw[hb,AI9 rfl]
   unfold Q8;rw[ARo];refine AO9 fun s _=> ?_
   simp only[Function.comp_apply,jo,hb,AO0];grind
  ·rw[hb]
   simp only[AJn,AMd];refine AO9 fun s _=> ?_
   simp only[jo,hb,ATH,ANG]
theorem wA{c:CK}{st:AL}{ep n p:Int}(hep:1<=ep/\ep<=30)(hp:Aq p=true):∀{l:List BR} {o:Int},1<=o->o+l.length<=61->
  jo c st ep n o l p=(AZ p==ep&&(decide (o<=Bl p)&&(decide (Bl p<o+l.length)&&(((BC c st ep n o l).getD (Bl p-o).toNat MB).2.2.1&& !(l.getD (Bl p-o).toNat MB).2.2.1))))
 |[],o,_,_=>by
  have:(decide (o<=Bl p)&&decide (Bl p<o+(([]:List BR).length:Int)))=false:=by
   simp_all
  rw[<-Bool.and_assoc (decide (o<=Bl p)),this,AOw,ATH];rfl
 |x::l,o,ho,hl=>by
  simp only[AJq]at hl;have hf:=GA hp;simp only[jo];rw[wA hep hp (l:=l) (o:=o+1) (by omega) (by omega)];by_cases he:AZ p=ep
  rotate_left
  ·grind[Gv,NF,beq_eq_false_iff_ne,decide_eq_false]
  rw[APF.2 he];simp only[AKB,AJq];by_cases h1:Bl p=o
  ·have hpe:p=Gv ep o:=by simp_all
   have e0:(Bl p-o).toNat=0:=by omega
   rw[ALg hpe,ANS (show¬o+1<=Bl p by omega),ALg (show o<=Bl p by omega),ALg (show Bl p<o+((l.length+1:Nat):Int)by omega),e0];simp only[AKB,AOw,ATY,BC,List.getD_cons_zero];grind
  ·have WJ:p≠Gv ep o:=fun e=>h1 (by grind[NF])
   rw[ANS WJ,AOw,ANG];by_cases h2:o<=Bl p
   ·rw[ALg h2,ALg (show o+1<=Bl p by omega)]
    have e1:(Bl p-o).toNat=(Bl p-(o+1)).toNat+1:=by omega
    rw[e1];simp only[BC,List.getD_cons_succ];grind
   grind
theorem iN{c:CK}{st:AL}{ep n:Int}:∀{l:List BR} {o:Int},(BC c st ep n o l).length=l.length
 |[],_=>rfl
 |x::l,o=>by simp only[BC,AJq,iN]
theorem ABo{c:CK}{st:AL}{ep n:Int}(hep:1<=ep/\ep<=30){l:List BR}(hl:l.length<=60){se:List Aj}(hs:∀s∈se,Aq s.1=true):iL c st ep n 1 l se=se.map (SB false ep l (BC c st ep n 1 l)):=by
 rw[wB];refine AO9 fun s hm=> ?_
 have hf:=GA (hs s hm);unfold SB GW;rw[wA hep (hs s hm) (by omega) (by omega),iN];by_cases h1:Bl s.1<=l.length
 ·have:BD (Bl s.1) 1 (l.length:Int)=true:=Ak.2 (by omega)
  grind
 ·have:BD (Bl s.1) 1 (l.length:Int)=false:=by
   rw[<-AMH,Ak];omega
  grind
def AF0(q:AA×Int):eH:=((q.2,()),(((),q.1.2.1,(),(),(),q.1.2.2.2.2.2.1,(),(),(),(),q.1.2.2.2.2.2.2.2.2.2.2.1,()),q.1.1,q.1.2.2.1,(),(),(),(),q.1.2.2.2.2.2.2.2.2.1,(),q.1.2.2.2.1,q.1.2.2.2.2.1,q.1.2.2.2.2.2.2.1,q.1.2.2.2.2.2.2.2.1,q.1.2.2.2.2.2.2.2.2.2.1,()))
def ww(w:AA)(SS:List AL)(ws:List AR)(ms:List Az)(se:List Aj):AA:=(((w.CL SS).Bk ws).Db se).Cs ms
section
variable{w:AA} (h:RT w) {st:AL} {SS:List AL} {n:Int} (hs:gm st) (hn:0<=n/\n<(Aa w).1.length) (hnS:n<(SS.length:Int)) (dC:SS.getD n.toNat Dm=st)
include h hs hn hnS dC
theorem AF6{ws:List AR}{se:List Aj}:∀(k i:Nat),w.2.2.2.2.2.2.2.1.length-i=k->i<=w.2.2.2.2.2.2.2.1.length-> ∀f,k<f->
  FC f n w.2.2.2.2.2.2.2.1.length i w.2.1 w.2.2.2.2.2.1 w.2.2.2.2.2.2.2.2.2.2.1 w.1 SS w.2.2.2.1 w.2.2.2.2.1 ws ((w.2.2.2.2.2.2.2.1.map (MC st w.BJ n)).take i++w.2.2.2.2.2.2.2.1.drop i) w.2.2.2.2.2.2.2.2.1 se=some (mh (ww w SS ws (w.2.2.2.2.2.2.2.1.map (MC st w.BJ n)) se,0)):=by
 have k:=h.nums;have k1:=k.c;have k5:=k.era;have k6:=k.md;intro k
 induction k with
 |zero=>
  intro i hk hi f hf;obtain⟨f,rfl⟩:∃f',f=f'+1:=⟨f-1,by omega⟩;have:i=w.2.2.2.2.2.2.2.1.length:=by omega
  simp only[FC,Mf,AB];rw[AJD (by omega),this,APP,AKX,ANm (by simp)];rfl
 |succ k ih=>
  intro i hk hi f hf;obtain⟨f,rfl⟩:∃f',f=f'+1:=⟨f-1,by omega⟩;have D7:i<w.2.2.2.2.2.2.2.1.length:=by omega
  have hm:=(h.Cd _ (AJ7 D7)).1;have hme:=hm.ep;have U0:(CS w.BJ w.2.2.2.2.2.2.2.1[i].2.1).length<=8:=Gm h;simp only[FC,Mf,AB];rw[Pb hi,AI9 (by omega),AI9 (by omega),AJT,M4 D7,show(w.2.2.2.2.1,w.2.2.2.2.2.1,())=Cb w from rfl,PR (r:=Cb w) (by show Ae B_ w.2.2.2.2.1<=_;omega) ⟨by omega,by omega⟩];rw[show(Cb w).1=w.BJ from rfl];simp only[AD];rw[Ir (by omega),AH (x:=(i:Int)+1) (by omega) (by omega),show((i:Int)+1)=((i+1:Nat):Int)by omega];simp only[AD];have nx:=ih (i+1) (by omega) (by omega) f (by omega);rcases AIn ((CS w.BJ w.2.2.2.2.2.2.2.1[i].2.1).contains n)with hc|hc
  ·have hT:MC st w.BJ n w.2.2.2.2.2.2.2.1[i]=(w.2.2.2.2.2.2.2.1[i].1,w.2.2.2.2.2.2.2.1[i].2.1,w.2.2.2.2.2.2.2.1[i].2.2.1,w.2.2.2.2.2.2.2.1[i].2.2.2.1,w.2.2.2.2.2.2.2.1[i].2.2.2.2.1,FO w.2.2.2.2.2.2.2.1[i] st n 1 w.2.2.2.2.2.2.2.1[i].2.2.2.2.2.1,()):=by
    unfold MC;simp_all
   have hmn:w.2.2.2.2.2.2.2.1[i].2.2.2.2.2.1.length<=60:=by
    have:=hm.n;have hb:=KO (l:=w.2.2.2.2.2.2.2.1[i].2.2.2.1);omega
   have:=ABy (c:=Aa w) (tr:=w.2.2.2.2.2.1) (tn:=w.2.2.2.2.2.2.2.2.2.2.1) (lo:=w.2.2.2.1) (er:=w.2.2.2.2.1) (ws:=ws) (rs:=w.2.2.2.2.2.2.2.2.1) (se:=se) (a:=i) k1 hs hn hnS dC hm w.2.2.2.2.2.2.2.1[i].2.2.2.2.2.1 [] ((w.2.2.2.2.2.2.2.1.map (MC st w.BJ n)).take i++w.2.2.2.2.2.2.2.1.drop i) AX (by simp_all) (by omega) (M4 D7) rfl (by simpa using hm.wrote) (Ab (by omega));rw[hc,AJy];unfold K4 J3;simp only[AKx,AOi]at this;have e1:(((0:Nat):Int)+1)=1:=rfl;rw[e1]at this;rw[show(w.2.1:Int)=(Aa w).2.1 from rfl,show w.1=(Aa w).1 from rfl,this];simp only[AD,pkT];rw[Qi D7 hT.symm];exact nx
  ·have hT:MC st w.BJ n w.2.2.2.2.2.2.2.1[i]=w.2.2.2.2.2.2.2.1[i]:=by
    unfold MC;simp_all
   rw[hc,AJQ,kX D7 hT];omega
theorem AH9:∀(rest pre:List AR) (se:List Aj) (f:Nat),pre.length+rest.length=w.2.2.2.2.2.2.1.length->(∀x∈rest,dW (Aa w) x)->o7 se->(∀s∈se,Aq s.1=true)->se.length<=120->rest.length+w.2.2.2.2.2.2.2.1.length+1<f->
  Eg f n w.2.2.2.2.2.2.1.length pre.length w.2.1 w.2.2.2.2.2.1 w.2.2.2.2.2.2.2.2.2.2.1 w.1 SS w.2.2.2.1 w.2.2.2.2.1 (pre++rest) w.2.2.2.2.2.2.2.1 w.2.2.2.2.2.2.2.2.1 se st.2.2.1=
   some (mh (ww w SS (pre++(E6 false (Aa w) st w.BJ n rest se).1) (w.2.2.2.2.2.2.2.1.map (MC st w.BJ n)) (E6 false (Aa w) st w.BJ n rest se).2,0)):=by
 have k:=h.nums;have k1:=k.c;have k2:=k.wr;have k5:=k.era;have k6:=k.md;have hb:∀{p:Int},Aq p=true->0<=p/\p<2^40:=fun{p} hp=>by
  have h1:=GA hp;grind[Gv]
 intro rest
 induction rest with
 |nil=>
  intro pre se f hl hw ha hp hsl hf;obtain⟨f,rfl⟩:∃f',f=f'+1:=⟨f-1,by omega⟩;simp only[AKx]at hl hf;simp only[Eg,NQ,AB,AKX];rw[AJD (by omega)];have:=AF6 h hs hn hnS dC (ws:=pre) (se:=se) w.2.2.2.2.2.2.2.1.length 0 (by omega) (by omega) f (by omega);rw[show((0:Nat):Int)=0 from rfl,AOn,ATh,AOi]at this;grind[E6]
 |cons x rest ih=>
  intro pre se f hl hw ha hp hsl hf;obtain⟨f,rfl⟩:∃f',f=f'+1:=⟨f-1,by omega⟩;simp only[AJq]at hl hf;have hx:=hw x (by simp);have hxe:=hx.ep;have hxn:=hx.n;have xp:(pre++x::rest).length=pre.length+(rest.length+1):=by simp
  have cp:(0:Int)<=(pre.length:Int)/\(pre.length:Int)<((pre++x::rest).length:Int):=by omega
  have e2:(pre++x::rest).getD pre.length (0,[],())=x:=by simp[List.getD]
  have U0:(CS w.BJ x.1).length<=8:=Gm h;simp only[Eg,NQ,AB,AJT,AI9 cp,e2];rw[AI9 (by omega),show(w.2.2.2.2.1,w.2.2.2.2.2.1,())=Cb w from rfl,PR (r:=Cb w) (by show Ae B_ w.2.2.2.2.1<=_;omega) ⟨by omega,by omega⟩];rw[show(Cb w).1=w.BJ from rfl];simp only[AD];rw[Ir (by omega),AH (x:=(pre.length:Int)+1) (by omega) (by omega),show((pre.length:Int)+1)=((pre.length+1:Nat):Int)by omega];simp only[AD];have next:∀(b:AR) (qM:List Aj),o7 qM->(∀s∈qM,Aq s.1=true)->qM.length<=120->
    Eg f n w.2.2.2.2.2.2.1.length ((pre.length+1:Nat):Int) w.2.1 w.2.2.2.2.2.1 w.2.2.2.2.2.2.2.2.2.2.1 w.1 SS w.2.2.2.1 w.2.2.2.2.1 (pre++b::rest) w.2.2.2.2.2.2.2.1 w.2.2.2.2.2.2.2.2.1 qM st.2.2.1=
     some (mh (ww w SS (pre++b::(E6 false (Aa w) st w.BJ n rest qM).1) (w.2.2.2.2.2.2.2.1.map (MC st w.BJ n)) (E6 false (Aa w) st w.BJ n rest qM).2,0)):=fun b qM h1 h2 h3=>by
   have:=ih (pre++[b]) qM f (by grind) (fun x hx=>hw x (by simp[hx])) h1 h2 h3 (by omega);simp_all
  simp only[E6];rcases AIn (LV st w.BJ n x)with ht|ht
  rotate_left
  ·rw[ht]
   simp only[AJn,AMd];unfold LV at ht;by_cases IQ:x.1>st.2.2.1
   ·grind
   grind
  ·rw[ht]
   simp only[AOx];unfold LV at ht;rw[AJR,AJr]at ht;rw[AI9 (show x.1>st.2.2.1 from ht.2),ht.1,AJy];have:=AAq (c:=Aa w) (tr:=w.2.2.2.2.2.1) (tn:=w.2.2.2.2.2.2.2.2.2.2.1) (lo:=w.2.2.2.1) (er:=w.2.2.2.2.1) (ms:=w.2.2.2.2.2.2.2.1) (rs:=w.2.2.2.2.2.2.2.2.1) (a:=pre.length) (ep:=x.1) k1 hs hn hnS dC x.2.1 [] (pre++x::rest) se AX (by omega) (by omega) (show(pre++x::rest).getD pre.length (0,[],())=x from e2) hx ha (fun s hs' =>hb (hp s hs')) hsl (Ab (by omega));unfold NL Nj;simp only[AKx,AOi]at this;have e1:(((0:Nat):Int)+1)=1:=rfl;rw[e1,ABo hxe hxn hp,ATU _ _ (by omega),ATT,ATK]at this;rw[show(w.2.1:Int)=(Aa w).2.1 from rfl,show w.1=(Aa w).1 from rfl,this];simp only[AD,pkT];refine next _ _ ?_ (fun s hs' => ?_) (by simp_all)
   ·unfold o7 WK
    rw[ATC];exact List.Pairwise.imp (fun{a b} ug=>ug) ha
   ·obtain⟨s',h1,rfl⟩:=APC.1 hs'
    exact hp s' h1
end
section
variable{w:AA} (h:RT w)
include h
theorem jd{n:Int}:Qq n w.2.1 w.2.2.2.2.2.1 w.2.2.2.2.2.2.2.2.2.2.1 w.1 w.2.2.1 w.2.2.2.1 w.2.2.2.2.1 w.2.2.2.2.2.2.1 w.2.2.2.2.2.2.2.1 w.2.2.2.2.2.2.2.2.1 w.2.2.2.2.2.2.2.2.2.1=some (mh (Pz false w n)):=by
 have k:=h.nums;have k1:=k.c;have k2:=k.wr;have k3:=k.lost;have k4:=k.st;have cR:=k.lS;have jx:=k.J1;have lr:=k.jw;have k5:=k.era;have k7:=k.eX;unfold Qq Tv Pz;rw[GS w,Lr (by omega) (by omega)];simp only[AD,Cq,Ao];by_cases h3:Ar w n=0
 rotate_left
 ·rw[AJD h3,AI9 h3];rfl
 obtain⟨hr,s1,s2,s3⟩:=h.Lv h3;have dC:w.2.2.1.getD n.toNat ([],[],0,())=storeAt w n:=rfl;rw[AI9 h3,AJD (show¬(Ar w n≠0)from fun hh=>hh h3)];simp only[AI9 hr,dC];rw[show((storeAt w n).1,(storeAt w n).2.1,(storeAt w n).2.2.1,())=storeAt w n from rfl,ZZ s1 s2];simp only[AD,oC];rcases AIn (Ct (storeAt w n)).2 with hq|hq
 rotate_left
 ·rw[hq,Ic];rfl
 rw[hq,Fq,AJy];have DX:gm (Ct (storeAt w n)).1:=(QD hq).2.1;have ATn:n.toNat<w.2.2.1.length:=by omega
 have:=AH9 h (st:=(Ct (storeAt w n)).1) (SS:=w.2.2.1.set n.toNat (Ct (storeAt w n)).1) (n:=n) DX (h.node h3).1 (by simp_all) (NB ATn) w.2.2.2.2.2.2.1 [] w.2.2.2.2.2.2.2.2.2.1 AX (by simp) (fun x hx=>(h.AK x hx).1) h.cP (fun s hs=>(h.CF s hs).1) k.se (Ab (by have:=k.md;omega));simp only[AKx,AOi]at this;rw[show((0:Nat):Int)=0 from rfl]at this;exact this
theorem AG3{n:Int}{ss:List AL}{ls:AAN}{ws:List AR}(hls:ls.length<=2^20):∀(f i:Nat),i<=w.2.2.2.2.2.2.2.1.length->w.2.2.2.2.2.2.2.1.length-i<f->
  Gt f n w.2.2.2.2.2.2.2.1.length i w.2.1 w.2.2.2.2.2.1 w.2.2.2.2.2.2.2.2.2.2.1 w.1 ss w.2.2.2.1 w.2.2.2.2.1 ws ((w.2.2.2.2.2.2.2.1.map fun m=>(CC (Aa w) m n).1).take i++w.2.2.2.2.2.2.2.1.drop i) w.2.2.2.2.2.2.2.2.1 w.2.2.2.2.2.2.2.2.2.1 ls=
   some (AHy (((((w.CL ss).E5 ls).Bk ws).Cs (w.2.2.2.2.2.2.2.1.map fun m=>(CC (Aa w) m n).1)).FF (w.Ib||holds (Aa w) ls),0)):=by
 have k:=h.nums;have k1:=k.c;have k6:=k.md;intro f
 induction f with
 |zero=>omega
 |succ f ih=>
  intro i hi hn;have hlen:=Pb (f:=fun m:Az=>(CC (Aa w) m n).1) hi;simp only[Gt,SI,AB,Ao,hlen];by_cases D7:i<w.2.2.2.2.2.2.2.1.length
  ·have c1:(0:Int)<=(i:Int)/\(i:Int)<(w.2.2.2.2.2.2.2.1.length:Int):=by omega
   have hm:=(h.Cd _ (AJ7 D7)).1;have hmw:=hm.w;have hg:((w.2.2.2.2.2.2.2.1.map fun m=>(CC (Aa w) m n).1).take i++w.2.2.2.2.2.2.2.1.drop i).getD i (0,0,[],[],false,[],())=w.2.2.2.2.2.2.2.1[i]:=M4 D7;simp only[AI9 c1,AI9 c1.2,AJT,hg];rw[AH (by omega) (by omega),show((i:Int)+1)=((i+1:Nat):Int)by omega,Vm (w.2.2.2.2.2.2.2.1[i]),show(w.1,w.2.1,())=Aa w from rfl,il (c:=Aa w) (by show w.1.length<=_;omega) (by omega) hm.ein];simp only[AD,kH];rw[show((CC (Aa w) w.2.2.2.2.2.2.2.1[i] n).1.1,(CC (Aa w) w.2.2.2.2.2.2.2.1[i] n).1.2.1,(CC (Aa w) w.2.2.2.2.2.2.2.1[i] n).1.2.2.1,(CC (Aa w) w.2.2.2.2.2.2.2.1[i] n).1.2.2.2.1,(CC (Aa w) w.2.2.2.2.2.2.2.1[i] n).1.2.2.2.2.1,(CC (Aa w) w.2.2.2.2.2.2.2.1[i] n).1.2.2.2.2.2.1,())=(CC (Aa w) w.2.2.2.2.2.2.2.1[i] n).1 from rfl,Qi D7 rfl];grind
  ·have:i=w.2.2.2.2.2.2.2.1.length:=by omega
   rw[AJD (by omega),this,APP,AKX,ANm (by simp),show(w.1,w.2.1,())=Aa w from rfl,GN (by show w.1.length<=_;omega) (by omega)];simp only[AD];cases ht:w.2.2.2.2.2.2.2.2.2.2.1 with
   |true=>
    have ht':w.Ib=true:=ht;rw[ht'];rfl
   |false=>
    have ht':w.Ib=false:=ht;rw[ht'];rfl
theorem AIX{n:Int}{ss:List AL}{ls:AAN}(hls:ls.length<=2^20):∀(f i:Nat),i<=w.2.2.2.2.2.2.1.length->(w.2.2.2.2.2.2.1.length-i)+w.2.2.2.2.2.2.2.1.length+2<=f->
  HE f n w.2.2.2.2.2.2.1.length i w.2.1 w.2.2.2.2.2.1 w.2.2.2.2.2.2.2.2.2.2.1 w.1 ss w.2.2.2.1 w.2.2.2.2.1 ((w.2.2.2.2.2.2.1.map fun x=>(B5 (Aa w) x n).1).take i++w.2.2.2.2.2.2.1.drop i) w.2.2.2.2.2.2.2.1 w.2.2.2.2.2.2.2.2.1 w.2.2.2.2.2.2.2.2.2.1 ls=
   some (AHy (((((w.CL ss).E5 ls).Bk (w.2.2.2.2.2.2.1.map fun x=>(B5 (Aa w) x n).1)).Cs (w.2.2.2.2.2.2.2.1.map fun m=>(CC (Aa w) m n).1)).FF (w.Ib||holds (Aa w) ls),0)):=by
 have k:=h.nums;have k1:=k.c;have k6:=k.wr;intro f
 induction f with
 |zero=>omega
 |succ f ih=>
  intro i hi hn;have hlen:=Pb (f:=fun x:AR=>(B5 (Aa w) x n).1) hi;simp only[HE,Tx,AB,Ao,hlen];by_cases D7:i<w.2.2.2.2.2.2.1.length
  ·have c1:(0:Int)<=(i:Int)/\(i:Int)<(w.2.2.2.2.2.2.1.length:Int):=by omega
   have hm:=(h.AK _ (AJ7 D7)).1;have hmw:=hm.w;have hg:((w.2.2.2.2.2.2.1.map fun x=>(B5 (Aa w) x n).1).take i++w.2.2.2.2.2.2.1.drop i).getD i (0,[],())=w.2.2.2.2.2.2.1[i]:=M4 D7;simp only[AI9 c1,AI9 c1.2,AJT,hg];rw[AH (by omega) (by omega),show((i:Int)+1)=((i+1:Nat):Int)by omega,show(w.2.2.2.2.2.2.1[i].1,w.2.2.2.2.2.2.1[i].2.1,())=w.2.2.2.2.2.2.1[i]from rfl,show(w.1,w.2.1,())=Aa w from rfl,fC (c:=Aa w) (by show w.1.length<=_;omega) (by have:An w.2.2.2.2.2.2.1[i]=Ae BQ w.2.2.2.2.2.2.1[i].2.1:=rfl;omega)];simp only[AD,pkW];rw[show((B5 (Aa w) w.2.2.2.2.2.2.1[i] n).1.1,(B5 (Aa w) w.2.2.2.2.2.2.1[i] n).1.2.1,())=(B5 (Aa w) w.2.2.2.2.2.2.1[i] n).1 from rfl,Qi D7 rfl];grind
  ·have:i=w.2.2.2.2.2.2.1.length:=by omega
   have k12:=AG3 h (n:=n) (ss:=ss) (ws:=w.2.2.2.2.2.2.1.map fun x=>(B5 (Aa w) x n).1) hls f 0 (by omega) (by omega);grind
theorem ic{n:Int}:QY n w.2.1 w.2.2.2.2.2.1 w.2.2.2.2.2.2.2.2.2.2.1 w.1 w.2.2.1 w.2.2.2.1 w.2.2.2.2.1 w.2.2.2.2.2.2.1 w.2.2.2.2.2.2.2.1 w.2.2.2.2.2.2.2.2.1 w.2.2.2.2.2.2.2.2.2.1=some (AHy (RI w n)):=by
 have k:=h.nums;have k1:=k.c;have k2:=k.wr;have k3:=k.lost;have k4:=k.st;have cR:=k.lS;have jx:=k.J1;have lr:=k.jw;have k5:=k.era;have k7:=k.eX;have k6:=k.md;unfold QY UB RI;rw[GS w,Lr (by omega) (by omega)];simp only[AD,Cq];by_cases h3:Ar w n=0
 rotate_left
 ·rw[AJD h3,AI9 h3];rfl
 obtain⟨hr,s1,s2,s3⟩:=h.Lv h3;rw[AI9 h3,AJD (show¬(Ar w n≠0)from fun hh=>hh h3),AI9 hr,PQ (F5.1 h.lost).2.2 (by omega)];simp only[AD];have hp:=bK (n:=n) (l:=w.2.2.2.1);have:=AIX h (n:=n) (ss:=w.2.2.1.set n.toNat ([],[],0,())) (ls:=N9 n w.2.2.2.1) (by omega) AX 0 (by omega) (ASJ (Ab (by omega)));simp_all
theorem mv{d:Al}(Xj:lq w)(h64:CN d.2.1)(hd:d.2.2.2.2.1.length<=40)(hk:1<=d.1/\d.1<=16):Uz d w.2.1 w.2.2.2.2.2.1 w.2.2.2.2.2.2.2.2.2.2.1 w.1 w.2.2.1 w.2.2.2.1 w.2.2.2.2.1 w.2.2.2.2.2.2.1 w.2.2.2.2.2.2.2.1 w.2.2.2.2.2.2.2.2.1 w.2.2.2.2.2.2.2.2.2.1=some (AF0 (K3 false w d)):=by
 have k:=h.nums;have k1:=k.c;have k2:=k.wr;have k3:=k.lost;have k4:=k.st;have cR:=k.lS;have jx:=k.J1;have lr:=k.jw;have k5:=k.era;have k7:=k.eX;unfold Uz K3;rw[td d];simp only[DL];by_cases c1:d.1=1
 ·rw[AI9 c1,AI9 c1,jt h];rfl
 rw[AJD c1,AJD c1];by_cases c2:d.1=2
 ·rw[AI9 c2,AI9 c2,kI h hd];rfl
 rw[AJD c2,AJD c2];by_cases c3:d.1=3
 ·rw[AI9 c3,AI9 c3,gk h];rfl
 rw[AJD c3,AJD c3];by_cases c4:d.1=4
 ·rw[AI9 c4,AI9 c4,jd h];rfl
 rw[AJD c4,AJD c4];by_cases c5:d.1=5
 ·rw[AI9 c5,AI9 c5,gn h];rfl
 rw[AJD c5,AJD c5];by_cases c6:d.1=6
 ·rw[AI9 c6,AI9 c6,ic h];rfl
 rw[AJD c6,AJD c6];by_cases c7:d.1=7
 ·rw[AI9 c7,AI9 c7,js h];rfl
 rw[AJD c7,AJD c7];by_cases c8:d.1=8
 ·rw[AI9 c8,AI9 c8,jM h];rfl
 rw[AJD c8,AJD c8];by_cases c9:d.1=9
 ·rw[AI9 c9,AI9 c9,iZ h];rfl
 rw[AJD c9,AJD c9];by_cases c10:d.1=10
 ·rw[AI9 c10,AI9 c10,jX h];rfl
 rw[AJD c10,AJD c10];by_cases c11:d.1=11
 ·rw[AI9 c11,AI9 c11,ll h];rfl
 rw[AJD c11,AJD c11];by_cases c12:d.1=12
 ·rw[AI9 c12,AI9 c12,gp h];rfl
 rw[AJD c12,AJD c12];by_cases zb:d.1=13
 ·rw[AI9 zb,AI9 zb,show(w.1,w.2.1,())=Aa w from rfl,show(w.2.2.2.2.1,w.2.2.2.2.2.1,())=Cb w from rfl,py (c:=Aa w) (r:=Cb w) (by show w.1.length<=_;omega) (by show Ae B_ w.2.2.2.2.1<=_;omega) k.trim h64]
  simp only[AD,pkR,PS];unfold Wd;dsimp only;rcases AIn (Pm (Aa w) (Cb w) d.2.1).2 with hq|hq
  ·rw[hq,Fq];rfl
  ·have e:(Pm (Aa w) (Cb w) d.2.1).1=Cb w:=by
    unfold Pm at hq|-;rw[KC.2 h.qV]at hq|-;grind
   rw[hq,e,Ic];rfl
 rw[AJD zb,AJD zb];by_cases c14:d.1=14
 ·rw[AI9 c14,AI9 c14,jn h Xj];rfl
 rw[AJD c14,AJD c14];by_cases c16:d.1=16
 ·rw[AI9 c16,AJD (show¬d.1=15 by omega),gq h];rfl
 rw[AJD c16,AI9 (show d.1=15 by omega),AH (x:=(w.2.2.2.2.2.2.1.length:Int)-1) (by omega) (by omega),Au];simp only[AD,Ao];unfold Ul;rw[show BD d.2.1 0 ((w.2.2.2.2.2.2.1.length:Int)-1)=BD d.2.1 0 ((w.AK.length:Int)-1)from rfl];rcases AIn (BD d.2.1 0 ((w.AK.length:Int)-1))with h1|h1
 rotate_left
 ·rw[h1,Ic];rfl
 obtain⟨x1,x2,x3⟩:=h.e_ h1;rw[h1,AJy,Fq,AH (x:=d.2.1+1) (by omega) (by omega)];unfold Ez AFe;rw[AI9 (by omega)];simp only[AQn,AD];rw[show(d.2.1+1).toNat=d.2.1.toNat+1 by omega,<-List.eraseIdx_eq_take_drop_succ];rfl
theorem nT{d:Al}(Xj:lq w)(h64:CN d.2.1):MT w d=some (pkD (FH false w d)):=by
 unfold MT FH;rw[GS w,td d,Fj Xj,fA,ZY Xj];simp only[AD,Ao,Cq];rw[Kc.2 h];rcases AIn (GD d)with hd|hd
 rotate_left
 ·rw[hd];rfl
 have hk:1<=d.1/\d.1<=16:=by
  unfold GD at hd;exact Ak.1 (AJR _ _▸hd).1
 rw[hd,AJy,AJy,mv h Xj h64 (ir hd) hk];simp only[AD,AJX,ATY,AJn,AMd];by_cases hc:(K3 false w d).2=0
 ·rw[AI9 (show(AF0 (K3 false w d)).1.1=0 from hc)]
  generalize hg:K3 false w d=q at hc|-
  obtain⟨v,co⟩:=q;dsimp only at hc;subst hc;rfl
 ·rw[AJD (show¬(AF0 (K3 false w d)).1.1=0 from hc)]
  have:=s5 hc;rw[show K3 false w d=(w,(K3 false w d).2)by grind];rfl
end
theorem pD{w:AA}{d:Al}(Xj:lq w)(h64:CN d.2.1):MT w d=some (pkD (FH false w d)):=by
 rcases AIn (C9 w)with hw|hw
 ·grind[nT,Kc]
 ·unfold MT FH
  rw[GS w,Fj Xj,hw];rfl
def bare(se:List Aj):List (Int×List UInt8):=se.map fun s=>(s.1,s.2.1)
section
variable{w:AA} {se:List Aj}
end
theorem AEy{l m:List Aj}(h:bare l=bare m):l.length=m.length:=by
 have:=congrArg List.length h;grind[bare]
section
variable{w:AA}
end
theorem AFD{l m:List Aj}(h:bare l=bare m){s:Aj}(hs:s∈l):∃t∈m,t.1=s.1/\t.2.1=s.2.1:=by
 have h1:(s.1,s.2.1)∈bare m:=by rw[<-h];exact APC.2 ⟨s,hs,rfl⟩
 obtain⟨t,ht,e⟩:=APC.1 h1;grind
theorem AGl{l m:List Aj}(h:bare l=bare m)(ha:WK (fun s:Aj=>s.1) l):WK (fun s:Aj=>s.1) m:=by
 have e:∀l:List Aj,WK (fun s:Aj=>s.1) l↔(bare l).Pairwise fun x y=>x.1<y.1:=fun l=>by
  unfold bare WK;rw[ATC]
 simp_all
theorem RT.Db{w:AA}{se:List Aj}(hw:RT w)(h:bare se=bare w.CF):RT (w.Db se) where
 cfg:=hw.cfg
 tX:=hw.tX
 lost:=hw.lost
 Ib:=hw.Ib
 BZ:=hw.BZ
 qV:=hw.qV
 uN:=hw.uN
 nmd:=hw.nmd
 AK:=hw.AK
 g_:=hw.g_
 Cd:=hw.Cd
 ri:=hw.ri
 Ag:=hw.Ag
 Se:=by
  have:=hw.Se;grind[AEy]
 CF:=fun s hs=>by
  obtain⟨t,ht,e1,e2⟩:=AFD h (show s∈se from hs);have:=hw.CF t ht;simp_all
 cP:=AGl h.symm hw.cP
structure Up (w v:AA):Prop where
 rd:∀k,k<2->Gv (w.Ag.getD k AO).1 (w.Ag.getD k AO).2.1<=Gv (v.Ag.getD k AO).1 (v.Ag.getD k AO).2.1/\(w.Ag.getD k AO).2.2.1.length<=(v.Ag.getD k AO).2.2.1.length
 er:w.BJ.length<=v.BJ.length/\ ∀i,i<w.BJ.length->(w.BJ.getD i IM).2.1=true->(v.BJ.getD i IM).2.1=true/\(v.BJ.getD i IM).2.2.1=(w.BJ.getD i IM).2.2.1
 Ib:w.Ib=true->v.Ib=true
 se:w.CF.length<=v.CF.length
section
variable{w:AA} (hw:RT w)
end
structure Xv (w:AA) (q:ZM):Prop where
 code:q.2≠1
 keep:q.2≠0->q.1=w
 rd:q.1.Ag=w.Ag
theorem Xv.no{w:AA}{k:Int}(h:k≠1):Xv w (w,k):=⟨h,fun _=>rfl,rfl⟩
theorem Xv.yes{w v:AA}(h:v.Ag=w.Ag):Xv w (v,0):=⟨by simp,fun h=>absurd rfl h,h⟩
section
variable{w:AA}
theorem Oi{n:Int}:Ar w n≠1:=by
 unfold Ar;split
 ·decide
 ·split<;>decide
theorem gS{n:Int}{q:AL×Bool}:Xv w (putAt w n q):=by
 unfold putAt;split
 ·exact .yes rfl
 ·exact .no (by decide)
theorem AGt{a:Int}:Xv w (QA w a):=by
 unfold QA;split
 ·exact .no (by decide)
 dsimp only;split
 ·exact .no (by decide)
 ·exact .yes rfl
theorem AHo{a:Int}{d:AAZ}:Xv w (doAdd w a d):=by
 unfold doAdd;split
 ·exact .no (by decide)
 dsimp only;split
 ·exact .no (by decide)
 ·exact .yes rfl
theorem ADe{a b n:Int}:Xv w (Nd w a b n):=by
 unfold Nd;split
 ·exact .no (by decide)
 dsimp only;split
 ·exact .no (by decide)
 split
 ·exact .no Oi
 split
 ·exact .no (by decide)
 ·exact gS
theorem AFj{all:Bool}{n:Int}:Xv w (Pz all w n):=by
 unfold Pz;split
 ·exact .no Oi
 dsimp only;split
 ·exact .no (by decide)
 ·exact .yes rfl
theorem ADx{n k:Int}:Xv w (Ns w n k):=by
 unfold Ns;split
 ·exact .no Oi
 ·exact gS
theorem AHB{n:Int}:Xv w (RI w n):=by
 unfold RI;split
 ·exact .no Oi
 ·exact .yes rfl
theorem AFU{n:Int}:Xv w (Sa w n):=by
 unfold Sa;split
 ·exact .no (by decide)
 dsimp only;split
 ·exact .no (by decide)
 ·exact .yes rfl
theorem AGN:Xv w (S3 w):=by
 unfold S3;split
 ·exact .no (by decide)
 split
 ·exact .no (by decide)
 ·exact .yes rfl
theorem AFb{n:Int}:Xv w (Tc w n):=by
 unfold Tc;split
 ·exact .no (by decide)
 split
 ·exact .no Oi
 split
 ·exact .no (by decide)
 dsimp only;split
 ·exact .no (by decide)
 ·exact .yes rfl
theorem AFO:Xv w (Tf w):=by
 unfold Tf;split
 ·exact .no (by decide)
 dsimp only;split
 ·exact .no (by decide)
 ·exact .yes rfl
theorem AHn{b n:Int}:Xv w (ZX w b n):=by
 unfold ZX;split
 ·exact .no (by decide)
 split
 ·exact .no (by decide)
 split
 ·exact .no Oi
 split
 ·exact .no (by decide)
 ·exact gS
theorem ADf:Xv w (Nn w):=by
 unfold Nn;split
 ·exact .no (by decide)
 split
 ·exact .no (by decide)
 dsimp only;split
 ·exact .no (by decide)
 ·exact .yes rfl
theorem AEk{a:Int}:Xv w (Wd w a):=by
 unfold Wd;dsimp only;split
 ·exact .no (by decide)
 ·exact .yes rfl
theorem AGR{a:Int}:Xv w (Ul w a):=by
 unfold Ul;split
 ·exact .no (by decide)
 ·exact .yes rfl
theorem ADv{n:Int}:Xv w (Nq w n):=by
 unfold Nq;split
 ·exact .no Oi
 ·exact gS
theorem AEi{all:Bool}{d:Al}(h:d.1≠14):Xv w (K3 all w d):=by
 unfold K3;by_cases c1:d.1=1
 ·rw[AI9 c1];exact AGt
 rw[AJD c1];by_cases c2:d.1=2
 ·rw[AI9 c2];exact AHo
 rw[AJD c2];by_cases c3:d.1=3
 ·rw[AI9 c3];exact ADe
 rw[AJD c3];by_cases c4:d.1=4
 ·rw[AI9 c4];exact AFj
 rw[AJD c4];by_cases c5:d.1=5
 ·rw[AI9 c5];exact ADx
 rw[AJD c5];by_cases c6:d.1=6
 ·rw[AI9 c6];exact AHB
 rw[AJD c6];by_cases c7:d.1=7
 ·rw[AI9 c7];exact AFU
 rw[AJD c7];by_cases c8:d.1=8
 ·rw[AI9 c8];exact AGN
 rw[AJD c8];by_cases c9:d.1=9
 ·rw[AI9 c9];exact AFb
 rw[AJD c9];by_cases c10:d.1=10
 ·rw[AI9 c10];exact AFO
 rw[AJD c10];by_cases c11:d.1=11
 ·rw[AI9 c11];exact AHn
 rw[AJD c11];by_cases c12:d.1=12
 ·rw[AI9 c12];exact ADf
 rw[AJD c12];by_cases zb:d.1=13
 ·rw[AI9 zb];exact AEk
 rw[AJD zb,AJD h];by_cases c15:d.1=15
 ·rw[AI9 c15];exact AGR
 rw[AJD c15];exact ADv
theorem AHz{all:Bool}{d:Al}(h:d.1=14):K3 all w d=Lt w d.2.1 d.2.2.1:=by
 unfold K3;rw[h];simp
theorem AI3(hw:RT w){all:Bool}{d:Al}(e:(K3 all w d).2=0):Ae Ax (K3 all w d).1.Ag<=Ae Ax w.Ag+41:=by
 by_cases h:d.1=14
 ·rw[AHz h]at e|-
  exact(yl hw e).2.2.2.2.2
 ·rw[(AEi h).rd];omega
end
section
variable{code:AAN} (hc:code.length<=2^30)
include hc
end
theorem AA_{w:AA}{d:Al}{all:Bool}(hw:RT w)(h0:(FH all w d).2=0):Ae Ax (FH all w d).1.Ag<=Ae Ax w.Ag+41:=by
 have:FH all w d=K3 all w d:=by
  revert h0
  unfold FH;cases C9 w<;>cases GD d<;>simp
 rw[this]at h0|-;exact AI3 hw h0
end Go.M
end
section
namespace Go.M
open Go.Lib (decDigits itoa)
open Go.M.H (Av Al)
theorem R0{u:Nat}(h:u<10):decDigits u=[UInt8.ofNat (48+u)]:=by rw[decDigits,dif_pos h]
theorem cZ{u:Nat}(h: ¬u<10):decDigits u=decDigits (u/10)++[UInt8.ofNat (48+u%10)]:=by rw[decDigits,dif_neg h]
theorem Vh:∀(n u:Nat),u<10^(n+1)->(decDigits u).length<=n+1
 |0,u,h=>by rw[R0 (by omega)];simp
 |n+1,u,h=>by
  by_cases hu:u<10
  ·rw[R0 hu];simp
  ·rw[cZ hu,AKN]
   have:=Vh n (u/10) (by rw[Nat.pow_succ]at h;omega);simp only[AJq,AKx];omega
theorem bY(u:Nat):1<=(decDigits u).length:=by
 by_cases hu:u<10
 ·rw[R0 hu];simp
 ·rw[cZ hu];simp
theorem ACQ:∀(n t:Nat) (acc:AAZ) (f:Nat),0<t->t<10^n->n<f->acc.length+n<=100->t<2^63->NA f (t:Int) acc=some ((decDigits t++acc,()),())
 |0,t,acc,f,h0,h1,_,_,_=>by simp at h1;omega
 |n+1,t,acc,0,_,_,hf,_,_=>by omega
 |n+1,t,acc,f+1,h0,h1,hf,ha,h63=>by
  show LM (NA f) t acc=_
  unfold LM;have e1:(t:Int).tmod 10=((t%10:Nat):Int):=by rw[Int.tmod_eq_emod_of_nonneg (by omega)];omega
  have e2:(t:Int).tdiv 10=((t/10:Nat):Int):=by rw[Int.tdiv_eq_ediv_of_nonneg (by omega)];omega
  rw[AB,AI9 (by omega),e1,e2,AH (by omega) (by omega),AH (by omega) (by omega),AQF (by omega) (by omega)];have e3:([48+((t%10:Nat):Int)].map fun n:Int=>UInt8.ofNat n.toNat)=[UInt8.ofNat (48+t%10)]:=by
   simp only[APX,ASr];rw[show(48+((t%10:Nat):Int)).toNat=48+t%10 by omega]
  simp only[e3];rw[AI9 (by rw[Ap];simp only[AJq,AKx];omega)];by_cases ht:t<10
  ·obtain⟨g,rfl⟩:∃g,f=g+1:=⟨f-1,by omega⟩
   rw[show t/10=0 by omega,R0 ht,show t%10=t by omega]
   show LM (NA g) ((0:Nat):Int) _=_
   unfold LM;rw[AB,AJD (by omega)]
  ·rw[ACQ n (t/10) _ f (by omega) (by rw[Nat.pow_succ]at h1;omega) (by omega) (by simp only[AKN,AJq,AKx];omega) (by omega),cZ ht]
   simp
def L2(n:Int):AAZ:=decDigits n.toNat
theorem QE{n:Int}(h:n<9223372036854775808):Oo n=some ((L2 n,()),()):=by
 unfold Oo bV L2;rw[AB];by_cases h0:n<=0
 ·rw[AI9 h0,show n.toNat=0 by omega,R0 (by omega)];rfl
 ·rw[AJD h0]
  obtain⟨t,rfl⟩:=AST (show 0<=n by omega);rw[show(t:Int).toNat=t by omega];have:=ACQ 19 t [] AX (by omega) (by omega) (Ab (by omega)) (by simp) (by omega);simpa using this
theorem itoa_nonneg{n:Int}(h:0<=n):itoa n=L2 n:=by
 unfold itoa L2;rw[AJD (by omega)]
theorem eT{n:Int}(h:CN n):Gw n=some ((itoa n,()),()):=by
 unfold Gw strconv_Itoa Go.Fw.ACm;unfold CN at h;rw[AI9 (by omega)];rfl
theorem SZ{n:Int}(h:CN n)(h0:0<=n):Gw n=some ((L2 n,()),()):=by rw[eT h,itoa_nonneg h0]
theorem O0{n:Int}(h:n<100):(L2 n).length<=2:=Vh 1 n.toNat (by omega)
theorem vn{n:Int}(h:n<9223372036854775808):(L2 n).length<=19:=Vh 18 n.toNat (by omega)
theorem Iw{p:Int}(h:Aq p=true):(1<=AZ p/\AZ p<=30)/\(1<=Bl p/\Bl p<=60):=by
 unfold AZ Bl;rw[AI9 h,h,AJy];unfold Aq BD at h;simp only[AJR,AJr]at h;exact h
def Gd(p:Int):AAZ:=if Aq p then[101]++L2 (AZ p)++[46]++L2 (Bl p)else[]
theorem ju(p:Int):(Gd p).length<=6:=by
 unfold Gd;split
 ·rename_i h
  obtain⟨h1,h2⟩:=Iw h;have:=O0 (n:=AZ p) (by omega);have:=O0 (n:=Bl p) (by omega);simp only[AKN,AJq,AKx];omega
 ·simp
theorem N7{p:Int}(h:CN p):FX p=some ((Gd p,()),()):=by
 unfold FX Gd;rw[Er h];simp only[AD,Ao];rcases AIn (Aq p)with hp|hp
 rotate_left
 ·rw[hp];rfl
 obtain⟨h1,h2⟩:=Iw hp;have l1:=O0 (n:=AZ p) (by omega);have l2:=O0 (n:=Bl p) (by omega);rw[hp,AJy,D9 h,Us h];simp only[AD,QE (show AZ p<9223372036854775808 by omega),QE (show Bl p<9223372036854775808 by omega)];rw[AI9 (by rw[Ap];omega),AI9 (by rw[Ap];simp only[AKN,AJq,AKx];omega),AI9 (by rw[Ap];simp only[AKN,AJq,AKx];omega)];rfl
theorem Tg{p:Int}(h:CN p):Eb p=some ((Gd p,()),()):=by
 unfold Eb Gd;rw[IL h];simp only[AD,Ao];rcases AIn (Aq p)with hp|hp
 rotate_left
 ·rw[hp];rfl
 obtain⟨h1,h2⟩:=Iw hp;have l1:=O0 (n:=AZ p) (by omega);have l2:=O0 (n:=Bl p) (by omega);have i1:CN (AZ p):=by unfold CN;omega
 have i2:CN (Bl p):=by unfold CN;omega
 rw[hp,AJy,Dg h,QF h];simp only[AD,SZ i1 (by omega),SZ i2 (by omega)];rw[AI9 (by rw[Ap];omega),AI9 (by rw[Ap];simp only[AKN,AJq,AKx];omega),AI9 (by rw[Ap];simp only[AKN,AJq,AKx];omega)];rfl
theorem xM{e:Av}(h:CN e.2.1):Ov e=GU e:=by
 unfold Ov GU;have hm:Oo e.2.1=Gw (if 0>e.2.1 then 0 else e.2.1):=by
  unfold CN at h;rw[QE h.2];by_cases h0:0>e.2.1
  ·rw[AI9 h0,SZ (by unfold CN;omega) (by omega)]
   unfold L2;rw[show e.2.1.toNat=(0:Int).toNat by omega]
  ·rw[AJD h0,SZ h (by omega)]
 rw[N7 h,Tg h,hm]
end Go.M
end
section
namespace Go.M
open Go.Lib (decDigits itoa)
open Go.M.H (Av Al)
theorem vQ:∀(n u:Nat),10^n<=u->n+1<=(decDigits u).length
 |0,u,_=>bY u
 |n+1,u,h=>by
  rw[Nat.pow_succ]at h;have hp:0<10^n:=Nat.pow_pos (by omega);rw[cZ (by omega),AKN];have:=vQ n (u/10) (by omega);simp only[AJq,AKx];omega
def Px(n:Int):Bool:=BD n 0 9999999999
theorem AED{n:Int}(h:CN n):(decide (n>=0)&&decide (((itoa n).length:Int)<=10))=Px n:=by
 unfold Px BD;by_cases h0:n>=0
 ·rw[ALg h0,AKB,itoa_nonneg h0]
  unfold L2;by_cases h1:n<=9999999999
  ·have:=Vh 9 n.toNat (by omega)
   rw[ALg (show 0<=n/\n<=9999999999 from⟨h0,h1⟩),ALg (by omega)]
  ·have:=vQ 10 n.toNat (by omega)
   rw[ANS (show¬(0<=n/\n<=9999999999)by omega),ANS (by omega)]
 ·rw[ANS h0,AOw,ANS (by omega)]
def E8:List AAZ:=[[111,112,101,110],[97,100,100],[115,116,111,114,101],[115,121,110,99],[99,114,97,115,104],[108,111,115,101],[102,105,108,108],[109,101,110,100],[115,101,97,108],[112,108,97,110],[102,105,120],[99,108,111,115,101],[116,114,105,109],[114,101,97,100],[100,114,111,112],[112,114,117,110,101]]
def CE(k:Int):AAZ:=E8.getD (k-1).toNat []
def Pw(k:Int):AAN:=
 if k=8\/k=10\/k=12 then[]else if k=2 then[65,84]else if k=3 then[65,66,67]else if k=5\/k=14 then[65,66]else if k=11 then[66,67]else if k=13 then[80]else[65]
def YU(d:Al)(c:Int):Int:=if c=66 then d.2.2.1 else if c=67 then d.2.2.2.1 else d.2.1
def KU(d:Al)(c:Int):AAZ:=if c=84 then d.2.2.2.2.1 else if c=80 then Gd d.2.1 else itoa (YU d c)
def Jy(d:Al)(c:Int):Bool:=if c=84 then !Go.Lib.contains d.2.2.2.2.1 [10]else if c=80 then Aq d.2.1 else Px (YU d c)
def ZA(d:Al):List Int->List UInt8->Option AAZ
 |[],acc=>some acc
 |c::l,acc=>if Jy d c then ZA d l (acc++([32]++KU d c))else none
def Dp(d:Al):Option AAZ:=if GD d then ZA d (Pw d.1) (CE d.1)else none
def ib(o:Option AAZ):AHR:=(o.getD [],o.isSome,())
structure ew (d:Al):Prop where
 a:CN d.2.1
 b:CN d.2.2.1
 c:CN d.2.2.2.1
theorem ke{d:Al}(h:ew d)(ht:d.2.2.2.2.1.length<=2^21)(c:Int):TK d c=some (((KU d c,Jy d c,()),()),()):=by
 have num:∀n:Int,CN n->((Gw n).bind fun u4=>cond (decide (n>=0)) (some (((u4.1.1,decide ((u4.1.1.length:Int)<=10),()),()),())) (some (((u4.1.1,false,()),()),())))=(some (((itoa n,Px n,()),()),()):Option bR):=fun n hn=>by
  rw[eT hn,<-AED hn];simp only[AD];cases decide (n>=0)<;>rfl
 unfold TK KU Jy YU;by_cases c1:c=84
 ·subst c1
  unfold strings_Contains Go.Fw.gf;rw[AI9 (show d.2.2.2.2.1.length<4294967281 by omega)];rfl
 rw[AKA.2 c1,AJD c1,AJD c1,AJQ];by_cases c2:c=80
 ·subst c2
  rw[Tg h.a,IL h.a];rfl
 rw[AKA.2 c2,AJD c2,AJD c2,AJQ];by_cases c3:c=66
 ·subst c3
  exact num _ h.b
 rw[AKA.2 c3,AJD c3,AJQ];by_cases c4:c=67
 ·subst c4
  exact num _ h.c
 rw[AKA.2 c4,AJD c4,AJQ];exact num _ h.a
theorem AD5{n:Int}(h:CN n):(itoa n).length<=20:=by
 unfold itoa;unfold CN at h;split
 ·have:=Vh 18 n.natAbs (by omega)
  simp only[AJq];omega
 ·have:=Vh 18 n.toNat (by omega)
  omega
theorem zp{d:Al}(h:ew d)(ht:d.2.2.2.2.1.length<=2^21)(c:Int):(KU d c).length<=2^21:=by
 unfold KU;split
 ·exact ht
 ·split
  ·have:=ju d.2.1;omega
  ·have:CN (YU d c):=by
    unfold YU;split
    ·exact h.b
    ·split
     ·exact h.c
     ·exact h.a
   have:=AD5 this;omega
theorem da{d:Al}(h:ew d)(ht:d.2.2.2.2.1.length<=2^21){all:AAN}(X0:all.length<=100):∀(l:AAN) (i:Nat) (acc:AAZ) (f:Nat),all.drop i=l->i<=all.length->l.length<f->acc.length+l.length*2^22<=2^35->
  JC f acc (all.length:Int) (i:Int) d.1 d.2.1 d.2.2.1 d.2.2.2.1 d.2.2.2.2.1 all=some ((ib (ZA d l acc),()),())
 |l,i,acc,0,_,_,hf,_=>by omega
 |[],i,acc,f+1,hd,hi,hf,ha=>by
  show IZ (JC f) acc _ _ _ _ _ _ _ _=_
  unfold IZ;have:all.length<=i:=by simpa using hd
  rw[AB,AJD (by omega)];rfl
 |c::l,i,acc,f+1,hd,hi,hf,ha=>by
  show IZ (JC f) acc _ _ _ _ _ _ _ _=_
  unfold IZ;have IQ:i<all.length:=by
   by_cases hh:i<all.length
   ·exact hh
   ·rw[AJm (by omega)]at hd;cases hd
  rw[AO5 IQ]at hd;have hc:all[i]=c:=(AO6 hd).1;have hl:all.drop (i+1)=l:=(AO6 hd).2;rw[AB,AI9 (by omega),AI9 (by omega),Af IQ,hc,td d,ke h ht];simp only[AD,Ao];have hx:=zp h ht c;simp only[AJq]at ha hf;unfold ZA;rcases AIn (Jy d c)with ho|ho
  ·rw[ho,AJy,AI9 rfl,AI9 (by rw[Ap];omega),AI9 (by rw[Ap];simp only[AKN,AJq,AKx];omega),AH (by omega) (by omega)]
   have:=da h ht X0 l (i+1) (acc++([32]++KU d c)) f hl (by omega) (by omega) (by simp only[AKN,AJq,AKx];omega);rw[<-this];rfl
  ·rw[ho];rfl
theorem Iz{d:Al}(h:GD d=true):(1<=d.1/\d.1<=16)/\d.2.2.2.2.1.length<=40:=by
 unfold GD BD at h;simp only[AJR,AJr]at h;exact⟨h.1,h.2.2.2.2.2⟩
theorem gg{k:Int}(h:1<=k/\k<=16):k=1\/k=2\/k=3\/k=4\/k=5\/k=6\/k=7\/k=8\/k=9\/k=10\/k=11\/k=12\/k=13\/k=14\/k=15\/k=16:=by omega
theorem di{k:Int}(h:1<=k/\k<=16):∃s:List UInt8,PO k=some ((s,()),())/\s.length<=3/\(s.map fun c=>(c.toNat:Int))=Pw k:=by
 rcases gg h with rfl|rfl|rfl|rfl|rfl|rfl|rfl|rfl|rfl|rfl|rfl|rfl|rfl|rfl|rfl|rfl<;>exact⟨_,rfl,by decide,rfl⟩
theorem vJ(k:Int):(Pw k).length<=3:=by
 unfold Pw
 repeat (split;·simp)
 simp
theorem cm(k:Int):(CE k).length<=5:=by
 unfold CE;by_cases h:(k-1).toNat<E8.length
 ·rw[List.getD,AJA h]
  have:∀x∈E8,x.length<=5:=by decide
  exact this _ (AJ7 h)
 ·rw[List.getD,APp (by omega)];simp
theorem lx{d:Al}(h:ew d):VE d=some ((ib (Dp d),()),()):=by
 unfold VE Wj Dp;rw[td d,fA];simp only[AD,Ao];rcases AIn (GD d)with ho|ho
 rotate_left
 ·rw[ho];rfl
 obtain⟨hk,ht⟩:=Iz ho;obtain⟨s,e1,e2,e3⟩:=di hk;rw[ho,AJy,AI9 rfl,AH (by omega) (by omega)];have e4:OG=some (((),()),(E8,())):=rfl;rw[e4];simp only[AD];rw[AI9 (by show _/\_<(16:Int);omega),e1];simp only[AD];rw[AI9 (by rw[Ap];omega),e3];have hw:=cm d.1;have hl:=vJ d.1;exact da h (by omega) (by omega) (Pw d.1) 0 (CE d.1) AX rfl (by omega) (Ab (by omega)) (by omega)
end Go.M
end
section
namespace Go.M
open Go.Lib (decDigits itoa)
open Go.M.H (Av Al)
theorem yb:∀l:List UInt8,(0<=Go.Lib.index l [10])↔(10:UInt8)∈l
 |[]=>by simp[Go.Lib.index]
 |b::l=>by
  have ih:=yb l;have hg:=Go.Lib.index_ge l [10];unfold Go.Lib.index;by_cases hb:b=10
  ·subst hb
   simp[List.isPrefixOf]
  ·have e:List.isPrefixOf [10] (b::l)=false:=by simp[List.isPrefixOf,Ne.symm hb]
   rw[e];simp only[AJn,AMd,ALa,Ne.symm hb,false_or];rw[<-ih];by_cases h1:Go.Lib.index l [10]= -1
   ·rw[h1];simp
   ·rw[AJD (by simpa using h1)]
    omega
theorem ze(l:AAZ):Go.Lib.contains l [10]=l.contains 10:=by
 unfold Go.Lib.contains;rw[ATP];simp only[AJr,yb,APu]
def numsOf(d:Al):AAN:=
 if d.1=8\/d.1=10\/d.1=12\/d.1=13 then[]else if d.1=3 then[d.2.1,d.2.2.1,d.2.2.2.1]else if d.1=5\/d.1=14 then[d.2.1,d.2.2.1]else if d.1=11 then[d.2.2.1,d.2.2.2.1]else[d.2.1]
def RE:List Int->List UInt8->Option AAZ
 |[],acc=>some acc
 |n::l,acc=>if Px n then RE l ((acc++[32])++L2 n)else none
def OS(d:Al)(acc:AAZ):AAZ:=if d.1=2 then(acc++[32])++d.2.2.2.2.1 else if d.1=13 then(acc++[32])++Gd d.2.1 else acc
theorem dH{n:Int}(h:Px n=true):itoa n=L2 n:=by
 unfold Px BD at h;simp only[AJr]at h;exact itoa_nonneg h.1
theorem oZ{d:Al}:∀(cs:AAN) (acc:AAZ),(∀c∈cs,c≠84/\c≠80)->ZA d cs acc=RE (cs.map (YU d)) acc
 |[],acc,_=>rfl
 |c::cs,acc,h=>by
  obtain⟨h1,h2⟩:=h c (by simp);simp only[ZA,APX,RE];rw[show Jy d c=Px (YU d c)by unfold Jy;rw[AJD h1,AJD h2]];by_cases hn:Px (YU d c)=true
  ·rw[AI9 hn,AI9 hn,oZ cs _ fun x hx=>h x (by simp[hx])]
   rw[show KU d c=L2 (YU d c)by unfold KU;rw[AJD h1,AJD h2,dH hn],AKK]
  ·rw[AJD hn,AJD hn]
theorem AB4{k:Int}(h2:k≠2)(h13:k≠13):∀c∈Pw k,c≠84/\c≠80:=by
 unfold Pw;rw[AJD h2,AJD h13];intro c;split
 ·simp
 split
 ·simp;omega
 split
 ·simp;omega
 split
 ·simp;omega
 ·simp;omega
theorem AAh{d:Al}(h2:d.1≠2)(h13:d.1≠13):numsOf d=(Pw d.1).map (YU d):=by
 unfold numsOf Pw;rw[AJD h2,AJD h13];by_cases c1:d.1=8\/d.1=10\/d.1=12
 ·rw[AI9 c1,AI9 (by omega)];rfl
 rw[AJD c1,AJD (by omega)];by_cases c2:d.1=3
 ·rw[AI9 c2,AI9 c2];rfl
 rw[AJD c2,AJD c2];by_cases c3:d.1=5\/d.1=14
 ·rw[AI9 c3,AI9 c3];rfl
 rw[AJD c3,AJD c3];by_cases c4:d.1=11
 ·rw[AI9 c4,AI9 c4];rfl
 rw[AJD c4,AJD c4];rfl
theorem zF{d:Al}(ho:GD d=true)(h2:d.1≠2):d.2.2.2.2.1=[]:=by
 unfold GD XO at ho;simp only[AJR]at ho;have h5:=ho.2.2.2.2.1;rw[AJD h2]at h5;split at h5
 ·simpa using h5
 split at h5
 ·simpa using h5
 split at h5
 ·simpa using h5
 split at h5
 ·simpa using h5
 ·simpa using h5
theorem iA{d:Al}(ho:GD d=true):Dp d=if(d.1=13/\Aq d.2.1=false)\/d.2.2.2.2.1.contains 10=true then none else(RE (numsOf d) (CE d.1)).map (OS d):=by
 unfold Dp;rw[AI9 ho];by_cases h2:d.1=2
 ·have e:Pw d.1=[65,84]:=by rw[h2];rfl
  have e2:numsOf d=[d.2.1]:=by unfold numsOf;rw[h2];rfl
  rw[e,e2];simp only[ZA,RE];rw[show Jy d 65=Px d.2.1 from rfl,show Jy d 84= !d.2.2.2.2.1.contains 10 by rw[<-ze];rfl];by_cases hn:Px d.2.1=true
  ·rw[AI9 hn,AI9 hn,show KU d 65=L2 d.2.1 from dH hn]
   rcases AIn (d.2.2.2.2.1.contains 10)with hc|hc
   ·rw[hc];simp
   ·have e3:OS d=fun acc=>(acc++[32])++d.2.2.2.2.1:=by funext acc;unfold OS;rw[AI9 h2]
    rw[hc,e3,show KU d 84=d.2.2.2.2.1 from rfl];simp[h2]
  ·rw[AJD hn,AJD hn]
   split<;>rfl
 have ht:=zF ho h2;rw[ht];by_cases h13:d.1=13
 ·have e:Pw d.1=[80]:=by rw[h13];rfl
  have e2:numsOf d=[]:=by unfold numsOf;rw[h13];rfl
  rw[e,e2];simp only[ZA,RE];rw[show Jy d 80=Aq d.2.1 from rfl];rcases AIn (Aq d.2.1)with hp|hp
  ·have e3:OS d=fun acc=>(acc++[32])++Gd d.2.1:=by funext acc;unfold OS;rw[AJD h2,AI9 h13]
   rw[hp,e3,show KU d 80=Gd d.2.1 from rfl];simp
  ·rw[hp];simp[h13]
 rw[AJD (by simp[h13]),oZ _ _ (AB4 h2 h13),AAh h2 h13];have:OS d=id:=by funext acc;unfold OS;rw[AJD h2,AJD h13];rfl
 rw[this,Option.map_id];rfl
theorem V4{d:Al}(h:ew d)(ht:d.2.2.2.2.1.length<=2^21){all:AAN}(X0:all.length<=100)(Pu:∀x∈all,CN x):∀(l:AAN) (i:Nat) (acc:AAZ) (f:Nat),all.drop i=l->i<=all.length->l.length<f->acc.length+l.length*100<=2^20->
  EN f acc (i:Int) d.1 d.2.1 d.2.2.1 d.2.2.2.1 d.2.2.2.2.1 all=some ((ib ((RE l acc).map (OS d)),()),())
 |l,i,acc,0,_,_,hf,_=>by omega
 |[],i,acc,f+1,hd,hi,hf,ha=>by
  show Hl (Ex f) (EN f) acc _ _ _ _ _ _ _=_
  unfold Hl;have:all.length<=i:=by simpa using hd
  rw[AB,AJD (by omega)];simp only[AKx,Nat.zero_mul,APL]at ha;by_cases c1:d.1=2
  ·have e3:OS d acc=(acc++[32])++d.2.2.2.2.1:=by unfold OS;rw[AI9 c1]
   rw[show RE [] acc=some acc from rfl,AQn,e3,c1,AI9 (by rw[Ap];omega),AI9 (by rw[Ap];simp only[AKN,AJq,AKx];omega)];rfl
  by_cases c2:d.1=13
  ·have hp:=ju d.2.1
   have e3:OS d acc=(acc++[32])++Gd d.2.1:=by unfold OS;rw[AJD c1,AI9 c2]
   rw[show RE [] acc=some acc from rfl,AQn,e3,c2,N7 h.a];have k1:acc.length+1<=Cm:=by rw[Ap];omega
   have k2:(acc++[32]).length+(Gd d.2.1).length<=Cm:=by rw[Ap];simp only[AKN,AJq,AKx];omega
   simp only[AD,AI9 k1,AI9 k2];rfl
  have e3:OS d acc=acc:=by unfold OS;rw[AJD c1,AJD c2]
  rw[show RE [] acc=some acc from rfl,AQn,e3,AKA.2 c1,AJQ,AKA.2 c2,AJQ];rfl
 |c::l,i,acc,f+1,hd,hi,hf,ha=>by
  show Hl (Ex f) (EN f) acc _ _ _ _ _ _ _=_
  unfold Hl;have IQ:i<all.length:=by
   by_cases hh:i<all.length
   ·exact hh
   ·rw[AJm (by omega)]at hd;cases hd
  rw[AO5 IQ]at hd;have hc:all[i]=c:=(AO6 hd).1;have hl:all.drop (i+1)=l:=(AO6 hd).2;have hci:CN c:=Pu c (by rw[<-hc];exact AJ7 IQ);rw[AB,AI9 (by omega),AI9 (by omega),Af IQ,hc,BW];simp only[AD,Ao,AJq]at ha hf|-;simp only[RE];rw[show BD c 0 9999999999=Px c from rfl];rcases AIn (Px c)with ho|ho
  ·have hx:=vn (n:=c) hci.2
   rw[ho,AJy,AI9 rfl,AI9 (by rw[Ap];omega),AI9 (by omega),QE hci.2];simp only[AD];rw[AI9 (by rw[Ap];simp only[AKN,AJq,AKx];omega),AH (by omega) (by omega)];have:=V4 h ht X0 Pu l (i+1) ((acc++[32])++L2 c) f hl (by omega) (by omega) (by simp only[AKN,AJq,AKx];omega);rw[<-this];rfl
  ·rw[ho];rfl
theorem YS(d:Al):(numsOf d).length<=3:=by
 unfold numsOf
 repeat (split;·simp)
 simp
theorem ADJ{d:Al}(h:ew d):∀x∈numsOf d,CN x:=by
 have ha:=h.a;have hb:=h.b;have hc:=h.c;unfold numsOf
 repeat (split;·simp_all)
 simp_all
theorem eD{d:Al}:S8 d=some (((),()),(numsOf d,())):=by
 unfold S8 numsOf;by_cases c1:d.1=8
 ·rw[c1];rfl
 by_cases c2:d.1=10
 ·rw[c2];rfl
 by_cases c3:d.1=12
 ·rw[c3];rfl
 by_cases c4:d.1=13
 ·rw[c4];rfl
 rw[AKA.2 c1,AKA.2 c2,AKA.2 c3,AKA.2 c4,AJD (by omega)];simp only[AJQ];by_cases c5:d.1=3
 ·rw[c5];rfl
 rw[AKA.2 c5,AJD c5,AJQ];by_cases c6:d.1=5
 ·rw[c6];rfl
 by_cases c7:d.1=14
 ·rw[c7];rfl
 rw[AKA.2 c6,AKA.2 c7,AJD (by omega)];simp only[AJQ];by_cases c8:d.1=11
 ·rw[c8];rfl
 rw[AKA.2 c8,AJD c8];rfl
theorem eN{k:Int}(h:1<=k/\k<=16):R_ k=some ((CE k,()),()):=by
 unfold R_ CE;rw[AI9 (by omega)];obtain⟨m,rfl⟩:∃m:Nat,k=((m+1:Nat):Int):=⟨(k-1).toNat,by omega⟩;rw[show(((m+1:Nat):Int)-1).toNat=m by omega,show(((m+1:Nat):Int)).toNat=m+1 by omega];rfl
theorem W4{d:Al}(h:ew d)(hk:1<=d.1/\d.1<=16)(ht:d.2.2.2.2.1.length<=40):∀(l:AAZ) (i f:Nat),d.2.2.2.2.1.drop i=l->i<=d.2.2.2.2.1.length->l.length+10<f->
  Ex f (i:Int) d.1 d.2.1 d.2.2.1 d.2.2.2.1 d.2.2.2.2.1=some ((ib (if l.contains 10 then none else(RE (numsOf d) (CE d.1)).map (OS d)),()),())
 |l,i,0,_,_,hf=>by omega
 |[],i,f+1,hd,hi,hf=>by
  show Ia (Ex f) (EN f) _ _ _ _ _ _=_
  unfold Ia;have:d.2.2.2.2.1.length<=i:=by simpa using hd
  have hw:=cm d.1;have hl:=YS d;rw[AB,AJD (by omega),eN hk,td d,eD];simp only[AD];have:=V4 h (by omega) (by omega) (ADJ h) (numsOf d) 0 (CE d.1) f rfl (by omega) (by simp only[AKx]at hf;omega) (by omega);rw[show((0:Nat):Int)=0 from rfl]at this;rw[this];rfl
 |c::l,i,f+1,hd,hi,hf=>by
  show Ia (Ex f) (EN f) _ _ _ _ _ _=_
  unfold Ia;have IQ:i<d.2.2.2.2.1.length:=by
   by_cases hh:i<d.2.2.2.2.1.length
   ·exact hh
   ·rw[AJm (by omega)]at hd;cases hd
  rw[AO5 IQ]at hd;have hc:d.2.2.2.2.1[i]=c:=(AO6 hd).1;have hl:d.2.2.2.2.1.drop (i+1)=l:=(AO6 hd).2;rw[AB,AI9 (by omega),AI9 (by omega),Af IQ,hc];by_cases h10:c=10
  ·subst h10
   simp;rfl
  ·have e:((c.toNat:Int)==10)=false:=by
    rw[AKA];intro hh;apply h10;apply UInt8.toNat_inj.1
    show c.toNat=10
    omega
   rw[e,AJQ,AH (by omega) (by omega)];simp only[AJq]at hf;have:=W4 h hk ht l (i+1) f hl (by omega) (by omega);rw[show((i:Int)+1)=((i+1:Nat):Int)by omega,this];simp only[List.contains_cons];rw[show(10==c)=false by rw[AKA];exact Ne.symm h10,ANG]
theorem mX{d:Al}(h:ew d):Kx d=some ((ib (Dp d),()),()):=by
 unfold Kx W8;rw[td d,gH];simp only[AD,Ao];rcases AIn (GD d)with ho|ho
 rotate_left
 ·unfold Dp
  rw[ho];rfl
 obtain⟨hk,ht⟩:=Iz ho;have key:=W4 h hk ht d.2.2.2.2.1 0 AX rfl (by omega) (Ab (by omega));rw[show((0:Nat):Int)=0 from rfl]at key;rw[ho,AJy,iA ho];by_cases c2:d.1=13
 ·rw[c2,Er h.a]
  simp only[AD,AO_,AJy,Ao];rw[c2]at key;rcases AIn (Aq d.2.1)with hp|hp
  ·rw[hp,AJy,key]
   simp
  ·rw[hp];simp;rfl
 ·rw[AKA.2 c2,AJQ,key]
  simp[c2]
end Go.M
end
section
namespace Go.M
open Go.Lib (decDigits itoa parseUint10 parseMag atoiAll)
open Go.M.H (Av Al)
theorem XH{k:Nat}(h:k<10):(UInt8.ofNat (48+k)).toNat=48+k:=by
 rw[UInt8.toNat_ofNat'];omega
theorem kG:∀(n u:Nat),u<=n-> ∀c∈decDigits u,48<=c.toNat/\c.toNat<=57
 |0,u,hu,c,hc=>by
  rw[R0 (by omega)]at hc;simp only[APA]at hc;subst hc;rw[XH (by omega)];omega
 |n+1,u,hu,c,hc=>by
  by_cases h:u<10
  ·rw[R0 h]at hc
   simp only[APA]at hc;subst hc;rw[XH h];omega
  ·rw[cZ h,ALk]at hc
   rcases hc with hc|hc
   ·exact kG n (u/10) (by omega) c hc
   ·simp only[APA]at hc
    subst hc;rw[XH (by omega)];omega
theorem AGJ{u:Nat}{c:UInt8}(h:c.toNat<48):c∉decDigits u:=fun hc=>by
 have:=kG u u (ALj _) c hc;omega
theorem sK:∀(n u:Nat) (r:AAZ),u<=n->u<10^18->parseUint10 0 (decDigits u++r)=parseUint10 u r
 |0,u,r,hn,hu=>by
  rw[R0 (by omega)]
  show parseUint10 0 (UInt8.ofNat (48+u)::r)=_
  simp only[parseUint10,XH (show u<10 by omega)];rw[AI9 (by omega),AJD (by omega),AJD (by omega)];congr 1;omega
 |n+1,u,r,hn,hu=>by
  by_cases h:u<10
  ·rw[R0 h]
   show parseUint10 0 (UInt8.ofNat (48+u)::r)=_
   simp only[parseUint10,XH h];rw[AI9 (by omega),AJD (by omega),AJD (by omega)];congr 1;omega
  ·rw[cZ h,AKK,sK n (u/10) _ (by omega) (by omega)]
   show parseUint10 (u/10) (UInt8.ofNat (48+u%10)::r)=_
   simp only[parseUint10,XH (show u%10<10 by omega)];rw[AI9 (by omega),AJD (by omega),AJD (by omega)];congr 1;omega
theorem ADn{u:Nat}(h:u<10^18):atoiAll (decDigits u)= .ok (u:Int):=by
 have hp:parseMag (decDigits u)= .ok u:=by
  have:=bY u;unfold parseMag;rw[AJD (by intro e;rw[e]at this;simp at this)];have:=sK u u [] (ALj _) h;rw[AKX]at this;rw[this];rfl
 cases hd:decDigits u with
 |nil=>have:=bY u;rw[hd]at this;simp at this
 |cons c r=>
  have hc:=kG u u (ALj _) c (by rw[hd];simp);rw[Go.Lib.atoiAll_plain c r (by omega) (by omega),<-hd,hp];unfold Go.Lib.signless;simp only;rw[AJD (by omega)]
theorem ACp{c:UInt8}{r:AAZ}:∀{a:AAZ},c∉a->Go.Lib.index (a++c::r) [c]=a.length
 |[],_=>by simp[Go.Lib.index,List.isPrefixOf]
 |b::a,h=>by
  simp only[ALa,ATi]at h;have ih:=ACp (r:=r) h.2;rw[API];unfold Go.Lib.index;rw[show List.isPrefixOf [c] (b::(a++c::r))=false by simp[List.isPrefixOf,h.1],ih];simp only[AJn,AMd];rw[AJD (by simp)];simp
theorem zT{c:UInt8}:∀{a:AAZ},c∉a->Go.Lib.index a [c]= -1
 |[],_=>by simp[Go.Lib.index]
 |b::a,h=>by
  simp only[ALa,ATi]at h;have ih:=zT h.2;unfold Go.Lib.index;rw[show List.isPrefixOf [c] (b::a)=false by simp[List.isPrefixOf,h.1],ih];simp
theorem wM{c:UInt8}{a r:AAZ}(h:c∉a):Go.Lib.cut (a++c::r) [c]=(a,r,true):=by
 unfold Go.Lib.cut;rw[ACp h,AI9 (by omega)];simp
theorem yh{c:UInt8}{a:AAZ}(h:c∉a):Go.Lib.cut a [c]=(a,[],false):=by
 unfold Go.Lib.cut;rw[zT h,AJD (by omega)]
theorem wk{s p:AAZ}:(Go.Lib.cut s p).1.length<=s.length/\(Go.Lib.cut s p).2.1.length<=s.length:=by
 unfold Go.Lib.cut;split
 ·simp only[ARV,ASm];omega
 ·simp
theorem YW{s p:AAZ}(h:s.length<=2^21):strings_Cut s p=some (((((Go.Lib.cut s p).1,(Go.Lib.cut s p).2.1,(Go.Lib.cut s p).2.2,()),()),()):iD):=by
 unfold strings_Cut Go.Fw.AIL;rw[AI9 (by omega)];rfl
def rdN(s:AAZ)(most:Int):Int×Bool:=
 match atoiAll s with
 | .ok v=>if 0<=v/\(s.length:Int)<=most/\itoa v=s then(v,true)else(0,false)
 |_=>(0,false)
theorem AGT{s:AAZ}{most:Int}(h:s.length<=1048576):KL s most=some ((((rdN s most).1,(rdN s most).2,()),()),()):=by
 unfold KL Go.Fw.Ed;rw[AI9 h];rfl
theorem ARP(s:AAZ)(most:Int):CN (rdN s most).1/\0<=(rdN s most).1:=by
 unfold rdN;split
 ·rename_i v hv
  have:=Go.Lib.atoiAll_bounds hv;split
  ·unfold CN;simp only;omega
  ·unfold CN;simp only;omega
 ·unfold CN;simp only;omega
theorem xE{n most:Int}(h0:0<=n)(h1:n<10^18)(hm:((L2 n).length:Int)<=most):rdN (L2 n) most=(n,true):=by
 unfold rdN;have e:atoiAll (L2 n)= .ok n:=by
  have:=ADn (u:=n.toNat) (by omega);unfold L2;rw[this];congr 1;omega
 rw[e];simp only;rw[AI9 ⟨h0,hm,itoa_nonneg h0⟩]
theorem qX{n:Int}{c:UInt8}(h:c.toNat<48):c∉L2 n:=AGJ h
theorem wa{p:Int}(h:CN p)(hp:Aq p=true):D1 (AZ p) (Bl p)=p:=by
 have hb:=Iw hp;unfold D1;rw[Ak.2 hb.1,Ak.2 hb.2];unfold Gv AZ Bl SD;rw[AI9 hp,hp];simp only[Bool.and_self,AOx,AJy];exact Int.mul_tdiv_add_tmod p 4294967296
def prF(A B:Int×Bool)(w:AAZ):Option bP:=
 cond (!A.2) (some (((0,false,()),()),()))
 (cond (!B.2) (some (((0,false,()),()),()))
 (cond (!(BD A.1 1 30&&BD B.1 1 60)) (some (((0,false,()),()),()))
 ((Eb (D1 A.1 B.1)).bind fun u6=>cond (!(u6.1.1==w)) (some (((0,false,()),()),())) (some (((D1 A.1 B.1,true,()),()),())))))
theorem dS(e o:Int):CN (D1 e o):=by
 unfold D1;split
 ·rename_i h
  simp only[AJR,Ak]at h;unfold CN Gv;omega
 ·unfold CN;omega
theorem AKt(A B:Int×Bool)(w:AAZ):∃x b,prF A B w=some (((x,b,()),()),())/\CN x/\ ∀p,CN p->Aq p=true->Gd p=w->A=(AZ p,true)->B=(Bl p,true)->x=p:=by
 have z:CN 0:=by unfold CN;omega
 unfold prF;rw[Tg (dS _ _)];simp only[AD];rcases AIn A.2 with h1|h1
 rotate_left
 ·rw[h1]
  exact⟨_,_,rfl,z,fun p _ _ _ e=>by rw[e]at h1;cases h1⟩
 rcases AIn B.2 with h2|h2
 rotate_left
 ·rw[h1,h2]
  exact⟨_,_,rfl,z,fun p _ _ _ _ e=>by rw[e]at h2;cases h2⟩
 rcases AIn (BD A.1 1 30&&BD B.1 1 60)with h3|h3
 rotate_left
 ·rw[h1,h2,h3]
  refine⟨_,_,rfl,z,fun p _ hp _ e e' => ?_⟩;have hb:=Iw hp;rw[e,e',Ak.2 hb.1,Ak.2 hb.2]at h3;cases h3
 rw[h1,h2,h3];simp only[AJX,AJQ];rcases AIn (Gd (D1 A.1 B.1)==w)with h4|h4
 ·rw[h4]
  refine⟨_,_,rfl,dS _ _,fun p hp qd _ e e' => ?_⟩;rw[e,e',wa hp qd]
 ·rw[h4]
  refine⟨_,_,rfl,z,fun p hp qd hw e e' => ?_⟩;rw[e,e',wa hp qd,hw]at h4;simp at h4
theorem kY{w:AAZ}(hw:w.length<=1048576):∃x b,Ou w=some (((x,b,()),()),())/\CN x/\ ∀p,CN p->Aq p=true->Gd p=w->x=p:=by
 have ht:(Go.Lib.trimPrefix w [101]).length<=w.length:=by
  unfold Go.Lib.trimPrefix;split
  ·simp
  ·exact ALj _
 have hc:=wk (s:=Go.Lib.trimPrefix w [101]) (p:=[46]);have key:Ou w=prF (rdN (Go.Lib.cut (Go.Lib.trimPrefix w [101]) [46]).1 2) (rdN (Go.Lib.cut (Go.Lib.trimPrefix w [101]) [46]).2.1 2) w:=by
  unfold Ou;rw[show strings_TrimPrefix w [101]=some ((Go.Lib.trimPrefix w [101],()),())from rfl];simp only[AD];rw[YW (by omega)];simp only[AD];rw[AGT (by omega),AGT (by omega)];simp only[AD];rw[Gp];rfl
 obtain⟨x,b,h1,h2,h3⟩:=AKt (rdN (Go.Lib.cut (Go.Lib.trimPrefix w [101]) [46]).1 2) (rdN (Go.Lib.cut (Go.Lib.trimPrefix w [101]) [46]).2.1 2) w;refine⟨x,b,key.trans h1,h2,fun p hp qd he=>h3 p hp qd he ?_ ?_⟩
 all_goals
  have hb:=Iw qd;have e1:Go.Lib.trimPrefix w [101]=L2 (AZ p)++46::L2 (Bl p):=by
   rw[<-he];unfold Gd;rw[AI9 qd];simp[Go.Lib.trimPrefix,Go.Lib.hasPrefix,List.isPrefixOf]
  have l1:=O0 (n:=AZ p) (by omega);have l2:=O0 (n:=Bl p) (by omega);rw[e1,wM (qX (by decide))]
 ·exact xE (by omega) (by omega) (by omega)
 ·exact xE (by omega) (by omega) (by omega)
end Go.M
end
section
namespace Go.M
open Go.Lib (decDigits itoa parseUint10 parseMag atoiAll)
open Go.M.H (Av Al)
def AJH(D d:Al)(c:Int):Al:=
 if c=84 then(d.1,d.2.1,d.2.2.1,d.2.2.2.1,D.2.2.2.2.1,())else if c=66 then(d.1,d.2.1,D.2.2.1,d.2.2.2.1,d.2.2.2.2.1,())else if c=67 then(d.1,d.2.1,d.2.2.1,D.2.2.2.1,d.2.2.2.2.1,())else(d.1,D.2.1,d.2.2.1,d.2.2.2.1,d.2.2.2.2.1,())
def P2(D:Al):List Int->List UInt8
 |[]=>[]
 |[c]=>KU D c
 |c::c'::l=>KU D c++32::P2 D (c'::l)
def ACK:List Int->Prop
 |[]=>True
 |[_]=>True
 |c::c'::l=>c≠84/\ACK (c'::l)
def letter(c:Int):Prop:=c=65\/c=66\/c=67\/c=80\/c=84
theorem AEE{p:Int}:(32:UInt8)∉Gd p:=by
 unfold Gd;split
 ·simp only[ALk,APA,ATi]
  exact⟨⟨⟨by decide,qX (by decide)⟩,by decide⟩,qX (by decide)⟩
 ·simp
theorem tQ{D:Al}{c:Int}(hc:c≠84)(ho:Jy D c=true):(32:UInt8)∉KU D c:=by
 unfold KU;unfold Jy at ho;rw[AJD hc]at ho|-;by_cases h:c=80
 ·rw[AI9 h];exact AEE
 ·rw[AJD h]at ho|-
  rw[dH ho];exact qX (by decide)
theorem yT{D:Al}{c:Int}{l:AAN}(hc:c≠84)(ho:Jy D c=true):(Go.Lib.cut (P2 D (c::l)) [32]).1=KU D c/\(Go.Lib.cut (P2 D (c::l)) [32]).2.1=P2 D l:=by
 cases l with
 |nil=>simp only[P2];rw[yh (tQ hc ho)];exact⟨rfl,rfl⟩
 |cons c' l=>simp only[P2];rw[wM (tQ hc ho)];exact⟨rfl,rfl⟩
theorem AGL{n:Int}(h:Px n=true):rdN (itoa n) 10=(n,true):=by
 rw[dH h];unfold Px BD at h;simp only[AJr]at h;have:=Vh 9 n.toNat (by omega);exact xE h.1 (by omega) (by unfold L2;omega)
theorem zB{c:Int}{r:AAZ}{d:Al}(hc:letter c)(h:ew d)(hr:r.length<=1048576)(ht:d.2.2.2.2.1.length<=1048576):
  ∃r' d',Ma c r d.1 d.2.1 d.2.2.1 d.2.2.2.1 d.2.2.2.2.1=some ((r',()),(d',()))/\ew d'/\r'.length<=1048576/\d'.2.2.2.2.1.length<=1048576/\
   ∀(D:Al) (l:AAN),ew D->Jy D c=true->(c=84->l=[])->r=P2 D (c::l)->r' =P2 D l/\d' =AJH D d c:=by
 have ha:=h.a;have hb:=h.b;have fZ:=h.c;unfold Ma;by_cases c1:c=84
 ·subst c1
  refine⟨[],(d.1,d.2.1,d.2.2.1,d.2.2.2.1,r,()),rfl,⟨ha,hb,fZ⟩,by simp,hr,fun D l _ _ hl e=> ?_⟩;obtain rfl:=hl rfl;exact⟨rfl,by rw[e];rfl⟩
 have hl:=wk (s:=r) (p:=[32]);rw[AKA.2 c1,AJQ,YW (by omega)];simp only[AD];rw[AGT (by omega)];simp only[AD];have rin:=(ARP (Go.Lib.cut r [32]).1 10).1;have num:∀(D:Al) (l:AAN),c≠80->Jy D c=true->r=P2 D (c::l)->(Go.Lib.cut r [32]).2.1=P2 D l/\(rdN (Go.Lib.cut r [32]).1 10).1=YU D c:=fun D l c2 ho e=>by
  obtain⟨e1,e2⟩:=yT (l:=l) c1 ho;rw[e,e1,e2];refine⟨rfl,?_⟩;unfold KU;unfold Jy at ho;rw[AJD c1,AJD c2]at ho|-;rw[AGL ho]
 by_cases c2:c=65
 ·subst c2
  refine⟨_,(d.1,(rdN (Go.Lib.cut r [32]).1 10).1,d.2.2.1,d.2.2.2.1,d.2.2.2.2.1,()),rfl,⟨rin,hb,fZ⟩,by omega,ht,fun D l _ ho _ e=> ?_⟩;obtain⟨e1,e2⟩:=num D l (by decide) ho e;exact⟨e1,by rw[e2];rfl⟩
 by_cases c3:c=66
 ·subst c3
  refine⟨_,(d.1,d.2.1,(rdN (Go.Lib.cut r [32]).1 10).1,d.2.2.2.1,d.2.2.2.2.1,()),rfl,⟨ha,rin,fZ⟩,by omega,ht,fun D l _ ho _ e=> ?_⟩;obtain⟨e1,e2⟩:=num D l (by decide) ho e;exact⟨e1,by rw[e2];rfl⟩
 by_cases c4:c=67
 ·subst c4
  refine⟨_,(d.1,d.2.1,d.2.2.1,(rdN (Go.Lib.cut r [32]).1 10).1,d.2.2.2.2.1,()),rfl,⟨ha,hb,rin⟩,by omega,ht,fun D l _ ho _ e=> ?_⟩;obtain⟨e1,e2⟩:=num D l (by decide) ho e;exact⟨e1,by rw[e2];rfl⟩
 obtain rfl:c=80:=by rcases hc with h|h|h|h|h<;>omega
 obtain⟨x,b,h1,h2,h3⟩:=kY (w:=(Go.Lib.cut r [32]).1) (by omega);rw[h1];refine⟨_,(d.1,x,d.2.2.1,d.2.2.2.1,d.2.2.2.2.1,()),rfl,⟨h2,hb,fZ⟩,by omega,ht,fun D l hD ho _ e=> ?_⟩;obtain⟨e1,e2⟩:=yT (l:=l) c1 ho;refine⟨by rw[e];exact e2,?_⟩;rw[h3 D.2.1 hD.a ho (by rw[e,e1];rfl)];rfl
def ACs:Al:=(0,0,0,0,[],())
def fin(line:AAZ)(d:Al):Al×Bool×Unit:=if Dp d=some line then(d,true,())else(ACs,false,())
theorem ACZ{line:AAZ}{all:AAN}(X0:all.length<=100)(Pu:∀c∈all,letter c):∀(l:AAN) (i:Nat) (r:AAZ) (d:Al) (f:Nat),all.drop i=l->i<=all.length->l.length<f->ew d->r.length<=1048576->d.2.2.2.2.1.length<=1048576->
  ∃df,ew df/\H0 f line r (all.length:Int) (i:Int) 0 0 0 0 [] d.1 d.2.1 d.2.2.1 d.2.2.2.1 d.2.2.2.2.1 all=some ((fin line df,()),())/\
   ∀D,ew D->(∀c∈l,Jy D c=true)->ACK l->r=P2 D l->df=l.foldl (AJH D) d
 |l,i,r,d,0,_,_,hf,_,_,_=>by omega
 |[],i,r,d,f+1,hd,hi,hf,h,hr,ht=>by
  have:all.length<=i:=by simpa using hd
  refine⟨d,h,?_,fun D _ _ _ _=>rfl⟩
  show Hc (H0 f) _ _ _ _ _ _ _ _ _ _ _ _ _ _ _=_
  unfold Hc;rw[AB,AJD (by omega),td d,lx h];simp only[AD];unfold fin ib;cases hl:Dp d with
  |none=>rfl
  |some t=>
   simp only[AO2,AJX,AJQ,AO4,AJL];by_cases e:t=line
   ·rw[AI9 e,e];simp
   ·rw[AJD e,AKA.2 e];rfl
 |c::l,i,r,d,f+1,hd,hi,hf,h,hr,ht=>by
  have IQ:i<all.length:=by
   by_cases hh:i<all.length
   ·exact hh
   ·rw[AJm (by omega)]at hd;cases hd
  rw[AO5 IQ]at hd;have hc:all[i]=c:=(AO6 hd).1;have hl:all.drop (i+1)=l:=(AO6 hd).2;obtain⟨r',d',e1,e2,e3,e4,e5⟩:=zB (c:=c) (r:=r) (d:=d) (Pu c (by rw[<-hc];exact AJ7 IQ)) h hr ht;simp only[AJq]at hf;obtain⟨df,g1,g2,g3⟩:=ACZ (line:=line) X0 Pu l (i+1) r' d' f hl (by omega) (by omega) e2 e3 e4;refine⟨df,g1,?_,fun D hD ho hT e=> ?_⟩
  ·show Hc (H0 f) _ _ _ _ _ _ _ _ _ _ _ _ _ _ _=_
   unfold Hc;rw[AB,AI9 (by omega),AI9 (by omega),Af IQ,hc,e1];simp only[AD];rw[AH (by omega) (by omega),<-g2];rfl
  ·obtain⟨k1,k2⟩:=e5 D l hD (ho c (by simp)) (fun h84=>by
    cases l with
    |nil=>rfl
    |cons c' l=>exact absurd h84 hT.1) e
   have:=g3 D hD (fun x hx=>ho x (by simp[hx])) (by
    cases l with
    |nil=>trivial
    |cons c' l=>exact hT.2) k1
   rw[this,k2];rfl
theorem oY{D:Al}:∀(l:AAN) (acc L:AAZ),ZA D l acc=some L->(∀c∈l,Jy D c=true)/\L=acc++(if l=[]then[]else 32::P2 D l)
 |[],acc,L,h=>by
  simp only[ZA,AJL]at h;exact⟨by simp,by simp[h]⟩
 |c::l,acc,L,h=>by
  simp only[ZA]at h;split at h
  case isFalse=>cases h
  rename_i hc;obtain⟨h1,h2⟩:=oY l _ L h;refine⟨fun x hx=> ?_,?_⟩
  ·rcases ALa.1 hx with rfl|hx
   ·exact hc
   ·exact h1 x hx
  ·rw[AJD (show¬(c::l=[])by simp),h2]
   cases l with
   |nil=>simp[P2]
   |cons c' l=>simp[P2]
theorem n_{k:Int}(h:1<=k/\k<=16):(32:UInt8)∉CE k:=by
 rcases gg h with rfl|rfl|rfl|rfl|rfl|rfl|rfl|rfl|rfl|rfl|rfl|rfl|rfl|rfl|rfl|rfl<;>decide
theorem xO{k:Int}(h:1<=k/\k<=16):(∀c∈Pw k,letter c)/\ACK (Pw k):=by
 rcases gg h with rfl|rfl|rfl|rfl|rfl|rfl|rfl|rfl|rfl|rfl|rfl|rfl|rfl|rfl|rfl|rfl<;>simp[Pw,ACK,letter]
theorem AHq{D:Al}(ho:GD D=true):(Pw D.1).foldl (AJH D) (D.1,0,0,0,[],())=D:=by
 obtain⟨hk,_⟩:=Iz ho;obtain⟨k,a,b,n,t,⟨⟩⟩:=D;simp only at hk;unfold GD at ho;simp only[AJR]at ho;obtain⟨_,h1,h2,h3,h4,_⟩:=ho;rcases gg hk with rfl|rfl|rfl|rfl|rfl|rfl|rfl|rfl|rfl|rfl|rfl|rfl|rfl|rfl|rfl|rfl<;>simp[XO]at h1 h2 h3 h4<;>simp[Pw,AJH, *]
theorem vR{x:ByteArray}:∀(zs:List ByteArray) (i:Nat),-1<=Go.Lib.idxFromS zs x i/\Go.Lib.idxFromS zs x i<(i+zs.length:Nat)\/Go.Lib.idxFromS zs x i= -1
 |[],i=>by right;rfl
 |z::zs,i=>by
  unfold Go.Lib.idxFromS;split
  ·left;simp only[AJq];omega
  ·rcases vR (x:=x) zs (i+1)with h|h
   ·left;simp only[AJq];omega
   ·right;exact h
theorem AGm{k:Int}(h:1<=k/\k<=16):Go.Lib.idxOfS (E8.map fun y=>⟨y.toArray⟩) ⟨(CE k).toArray⟩=k-1:=by
 rcases gg h with rfl|rfl|rfl|rfl|rfl|rfl|rfl|rfl|rfl|rfl|rfl|rfl|rfl|rfl|rfl|rfl<;>decide
theorem Lc{D:Al}{line:AAZ}(h:Dp D=some line):GD D=true/\(∀c∈Pw D.1,Jy D c=true)/\line=CE D.1++(if Pw D.1=[]then[]else 32::P2 D (Pw D.1)):=by
 unfold Dp at h;split at h
 case isFalse=>cases h
 rename_i ho;obtain⟨h1,h2⟩:=oY _ _ _ h;exact⟨ho,h1,h2⟩
def jI(line:AAZ)(o:Al×Bool×Unit):Prop:=
 (∃d,ew d/\Dp d=some line/\o=(d,true,())/\ ∀d',ew d'->Dp d' =some line->d' =d)\/((∀d,ew d->Dp d≠some line)/\o=(ACs,false,()))
theorem vU{line:AAZ}{df:Al}(h:ew df)(hc:∀d,ew d->Dp d=some line->df=d):jI line (fin line df):=by
 unfold fin;by_cases e:Dp df=some line
 ·rw[AI9 e]
  exact .inl ⟨df,h,e,rfl,fun d' hd hl=>(hc d' hd hl).symm⟩
 ·rw[AJD e]
  refine .inr ⟨fun d hd hl=>e ?_,rfl⟩;rw[hc d hd hl];exact hl
theorem kS{line:AAZ}(hl:line.length<=1048576):∃o,Te line=some ((o,()),())/\jI line o:=by
 have pV:=wk (s:=line) (p:=[32]);unfold Te Vr;rw[YW (by omega),show OG=some (((),()),(E8,()))from rfl];simp only[AD];unfold JV Go.Fw.xW;rw[AI9 (show E8.length<=9223372036854775807 by decide)];simp only[AQn,AD];have kind:∀d,ew d->Dp d=some line->(Go.Lib.cut line [32]).1=CE d.1/\(Go.Lib.cut line [32]).2.1=P2 d (Pw d.1):=fun d hd h=>by
  obtain⟨ho,h1,h2⟩:=Lc h;obtain⟨hk,_⟩:=Iz ho;by_cases he:Pw d.1=[]
  ·rw[AI9 he,AKX]at h2
   rw[h2,yh (n_ hk),he];exact⟨rfl,rfl⟩
  ·rw[AJD he]at h2
   rw[h2,wM (n_ hk)];exact⟨rfl,rfl⟩
 have ANE:∀d,ew d->Dp d=some line->1+Go.Lib.idxOfS (E8.map fun y=>⟨y.toArray⟩) ⟨(Go.Lib.cut line [32]).1.toArray⟩=d.1:=fun d hd h=>by
  rw[(kind d hd h).1,AGm (Iz (Lc h).1).1];omega
 have rng: -1<=Go.Lib.idxOfS (E8.map fun y=>⟨y.toArray⟩) ⟨(Go.Lib.cut line [32]).1.toArray⟩/\Go.Lib.idxOfS (E8.map fun y=>⟨y.toArray⟩) ⟨(Go.Lib.cut line [32]).1.toArray⟩<16:=by
  rcases vR (x:=⟨(Go.Lib.cut line [32]).1.toArray⟩) (E8.map fun y=>⟨y.toArray⟩) 0 with h|h
  ·have h2:=h.2
   rw[AQx,show E8.length=16 from rfl]at h2;unfold Go.Lib.idxOfS;omega
  ·unfold Go.Lib.idxOfS;rw[h];omega
 generalize Go.Lib.idxOfS (E8.map fun y=>⟨y.toArray⟩) ⟨(Go.Lib.cut line [32]).1.toArray⟩=x at ANE rng
 rw[AH (by omega) (by omega)];by_cases hx:1+x=0
 ·rw[APF.2 hx]
  refine⟨(ACs,false,()),rfl,.inr ⟨fun d hd h=> ?_,rfl⟩⟩;have:=ANE d hd h;have:=Iz (Lc h).1;omega
 rw[AKA.2 hx,AJQ];have hk:1<=1+x/\1+x<=16:=by omega
 obtain⟨s,e1,e2,e3⟩:=di hk;rw[e1];simp only[AD];rw[AI9 (by rw[Ap];omega),e3];obtain⟨hlet,qb⟩:=xO hk;have h3:=vJ (1+x);have z:ew (1+x,0,0,0,[],()):=by constructor<;>(unfold CN;simp)
 obtain⟨df,g1,g2,g3⟩:=ACZ (line:=line) (by omega) hlet (Pw (1+x)) 0 (Go.Lib.cut line [32]).2.1 (1+x,0,0,0,[],()) AX rfl (by omega) (Ab (by omega)) z (by omega) (by simp);refine⟨fin line df,g2,vU g1 fun d hd h=> ?_⟩;obtain⟨ho,h1,h2⟩:=Lc h;have hkx:=ANE d hd h;have:=g3 d hd (by rw[hkx];exact h1) qb (by rw[hkx];exact(kind d hd h).2);rw[this,hkx];exact AHq ho
end Go.M
end
section
namespace Go.M
open Go.Lib (decDigits itoa)
open Go.M.H (Av Al)
def yr(i j x:Int):Option QO:=cond (i==j) (some ((((-1),i,()),()),())) (cond (decide (AW (i-j)>10)) (some ((((-1),i,()),()),())) (some (((x,i,()),()),())))
def cL(s:AAZ)(i:Nat):Bool:=decide (i<s.length)&&(decide (48<=(s.getD i 0).toNat)&&decide ((s.getD i 0).toNat<=57))
theorem zJ{R:TZ}{s:AAZ}{i j:Nat}{x:Int}(hi:i<=2^40)(hj:j<=i)(hx:0<=x/\x<10^11):
  Sg R s (i:Int) (j:Int) x=if cL s i=true/\i-j<11 then R s ((i+1:Nat):Int) (j:Int) (10*x+((s.getD i 0).toNat:Int)-48)else yr i j x:=by
 have hb:=(s.getD i 0).toNat_lt;have no:cL s i=false->(if cL s i=true/\i-j<11 then R s ((i+1:Nat):Int) (j:Int) (10*x+((s.getD i 0).toNat:Int)-48)else yr i j x)=yr i j x:=fun h=>AJD (by rw[h];simp)
 unfold Sg;simp only[show((i:Int)).toNat=i by omega]
 generalize hc0:s.getD i 0=c at*
 by_cases h1:i<s.length
 rotate_left
 ·rw[no (by unfold cL;simp[h1]),ANS (show¬((i:Int)<(s.length:Int))by omega)];rfl
 have hc:(0:Int)<=(i:Int)/\(i:Int)<(s.length:Int):=by omega
 simp only[AI9 hc];rw[ALg (show(i:Int)<(s.length:Int)by omega),AJy];by_cases h2:48<=c.toNat
 rotate_left
 ·rw[no (by unfold cL;rw[hc0];simp[h2]),ANS (show¬((c.toNat:Int)>=48)by omega)];rfl
 rw[ALg (show(c.toNat:Int)>=48 by omega),AJy];by_cases h3:c.toNat<=57
 rotate_left
 ·rw[no (by unfold cL;rw[hc0];simp[h3]),ANS (show¬((c.toNat:Int)<=57)by omega)];rfl
 have hd:cL s i=true:=by unfold cL;rw[hc0];simp[h1,h2,h3]
 rw[ALg (show(c.toNat:Int)<=57 by omega),AJy];by_cases h4:i-j<11
 ·rw[AI9 (show cL s i=true/\i-j<11 from⟨hd,h4⟩),AH (x:=(i:Int)-j) (by omega) (by omega),ALg (show(i:Int)-j<11 by omega),AJy,
   AH (x:=10*x) (by omega) (by omega),AH (x:=(c.toNat:Int)) (by omega) (by omega),AH (x:=10*x+(c.toNat:Int)) (by omega) (by omega),AH (x:=10*x+(c.toNat:Int)-48) (by omega) (by omega),AH (x:=(i:Int)+1) (by omega) (by omega)]
  rfl
 ·rw[AJD (show¬(cL s i=true/\i-j<11)from fun h=>h4 h.2)]
  have e:decide (AW ((i:Int)-j)<11)=false:=by rw[AH (by omega) (by omega)];exact ANS (by omega)
  rw[e,AJQ];rfl
theorem AFh{i j:Nat}{x:Int}(hi:i<=2^40)(hj:j<=i)(h11:i-j<=11)(hx:0<=x/\x<10^11):∃y:Int,yr i j x=some (((y,(i:Int),()),()),())/\ -1<=y/\y<10^11/\(j<i->i-j<=10->y=x):=by
 unfold yr;rw[AH (x:=(i:Int)-j) (by omega) (by omega)];by_cases h1:i=j
 ·subst h1
  exact⟨-1,by simp,by omega,by omega,fun h=>by omega⟩
 rw[AKA.2 (by omega),AJQ,AB];by_cases h2:(i:Int)-j>10
 ·rw[AI9 h2]
  exact⟨-1,rfl,by omega,by omega,fun _ h=>by omega⟩
 ·rw[AJD h2]
  exact⟨x,rfl,by omega,hx.2,fun _ _=>rfl⟩
theorem y8{s:AAZ}{j:Nat}(hj:j<=2^30):∀(n i:Nat) (x:Int) (f:Nat),i-j+n=11->j<=i->n<f->0<=x->x<10^(i-j)->
  ∃(y:Int) (k:Nat),LY f s (i:Int) (j:Int) x=some (((y,(k:Int),()),()),())/\ -1<=y/\y<10^11/\k<=j+11/\
   ∀(ds post:AAZ) (c:UInt8),s.drop i=ds++post->(∀c∈ds,48<=c.toNat/\c.toNat<=57)->(∀c r,post=c::r-> ¬(48<=c.toNat/\c.toNat<=57))->1<=i-j+ds.length->i-j+ds.length<=10->
    y=ds.foldl (fun(a:Int) c=>10*a+(c.toNat:Int)-48) x/\k=i+ds.length
 |n,i,x,0,_,_,hf,_,_=>by omega
 |n,i,x,f+1,hn,hi,hf,h0,h1=>by
  have hp:(10:Int)^(i-j)<=10^11:=by
   have:(10:Nat)^(i-j)<=10^11:=Nat.pow_le_pow_right (by omega) (by omega)
   exact_mod_cast this
  have hx:0<=x/\x<10^11:=⟨h0,by omega⟩;have st:LY (f+1) s (i:Int) (j:Int) x=_:=zJ (R:=LY f) (s:=s) (i:=i) (j:=j) (x:=x) (by omega) hi hx;by_cases hd:cL s i=true/\i-j<11
  ·rw[AI9 hd]at st
   have hdd:=hd.1;unfold cL at hdd;simp only[AJR,AJr]at hdd
   match n,hn with
   |0,hn=>omega
   |n+1,hn=>
    have AVA:(10:Int)^(i+1-j)=10*10^(i-j):=by
     rw[show i+1-j=(i-j)+1 by omega,Int.pow_succ];omega
    obtain⟨y,k,e1,e2,e3,e4,e5⟩:=y8 hj n (i+1) (10*x+((s.getD i 0).toNat:Int)-48) f (by omega) (by omega) (by omega) (by omega) (by rw[AVA];omega);refine⟨y,k,st.trans e1,e2,e3,e4,fun ds post c hs hds AHI l1 l2=> ?_⟩;have AJ6:s.drop i=s.getD i 0::s.drop (i+1):=by
     rw[AO5 hdd.1];simp[List.getD,hdd.1]
    cases ds with
    |nil=>
     rw[AJ6,AOi]at hs;exact absurd ⟨hdd.2.1,hdd.2.2⟩ (AHI _ _ hs.symm)
    |cons b ds=>
     rw[AJ6,API]at hs;have hb:s.getD i 0=b:=(AO6 hs).1;simp only[AJq]at l1 l2;have:=e5 ds post c (AO6 hs).2 (fun c hc=>hds c (by simp[hc])) AHI (by omega) (by omega);rw[this.1,this.2,hb];simp only[ATL,AJq];exact⟨trivial,by omega⟩
  ·rw[AJD hd]at st
   obtain⟨y,e1,e2,e3,e4⟩:=AFh (i:=i) (j:=j) (x:=x) (by omega) hi (by omega) hx;refine⟨y,i,st.trans e1,e2,e3,by omega,fun ds post c hs hds AHI l1 l2=> ?_⟩;cases ds with
   |nil=>
    simp only[AKx,APL]at l1 l2;exact⟨e4 (by omega) l2,rfl⟩
   |cons b ds=>
    exfalso
    apply hd;have IQ:i<s.length:=by
     by_cases hh:i<s.length
     ·exact hh
     ·rw[AJm (by omega)]at hs;cases hs
    have hb:s.getD i 0=b:=by
     rw[AO5 IQ]at hs;simp only[API,AL9]at hs;simp[List.getD,IQ,hs.1]
    have:=hds b (by simp);simp only[AJq]at l2;refine⟨?_,by omega⟩;unfold cL;rw[hb];simp[IQ,this]
theorem vx:∀(n u:Nat) (x:Int),u<=n->(decDigits u).foldl (fun(a:Int) c=>10*a+(c.toNat:Int)-48) 0=u
 |0,u,x,h=>by
  rw[R0 (by omega)];simp only[ATL,List.foldl_nil,XH (show u<10 by omega)];omega
 |n+1,u,x,h=>by
  by_cases hu:u<10
  ·rw[R0 hu]
   simp only[ATL,List.foldl_nil,XH hu];omega
  ·rw[cZ hu,List.foldl_append,vx n (u/10) x (by omega)]
   simp only[ATL,List.foldl_nil,XH (show u%10<10 by omega)];omega
theorem Ym{s:AAZ}{j:Nat}(hj:j<=2^30):∃(y:Int) (k:Nat),VZ s (j:Int)=some (((y,(k:Int),()),()),())/\ -1<=y/\y<10^11/\k<=j+11/\
  ∀(m:Int) (post:AAZ),Px m=true->s.drop j=L2 m++post->(∀c r,post=c::r-> ¬(48<=c.toNat/\c.toNat<=57))->y=m/\k=j+(L2 m).length:=by
 obtain⟨y,k,e1,e2,e3,e4,e5⟩:=y8 (s:=s) hj 11 j 0 AX (by omega) (ALj _) (Ab (by omega)) (by omega) (by simp);refine⟨y,k,e1,e2,e3,e4,fun m post hm hs hp=> ?_⟩;unfold Px BD at hm;simp only[AJr]at hm;have l1:=Vh 9 m.toNat (by omega);have l2:=bY m.toNat;have:=e5 (L2 m) post 0 hs (fun c hc=>kG _ _ (ALj _) c hc) hp (by unfold L2;omega) (by unfold L2;omega);refine⟨?_,this.2⟩;rw[this.1];unfold L2;rw[vx _ _ 0 (ALj _)];omega
theorem j0{w:AAZ}:∃x b,TF w=some (((x,b,()),()),())/\CN x/\ ∀p,CN p->Aq p=true->Gd p=w->x=p:=by
 have z:CN 0:=by unfold CN;omega
 unfold TF;rw[AB];by_cases h4:(w.length:Int)<4
 ·rw[AI9 h4]
  refine⟨_,_,rfl,z,fun p hp qd hw=> ?_⟩;have l1:=bY (AZ p).toNat;have l2:=bY (Bl p).toNat;have:w.length=1+(L2 (AZ p)).length+1+(L2 (Bl p)).length:=by
   rw[<-hw];unfold Gd;rw[AI9 qd];simp only[AKN,AJq,AKx]
  unfold L2 at this;omega
 rw[AJD h4];obtain⟨y,k,e1,e2,e3,e4,e5⟩:=Ym (s:=w) (j:=1) (by omega);rw[show((1:Nat):Int)=1 from rfl]at e1;rw[e1];simp only[AD];rw[AH (by omega) (by omega)];obtain⟨y',k',f1,f2,f3,f4,f5⟩:=Ym (s:=w) (j:=k+1) (by omega);rw[show((k:Int)+1)=((k+1:Nat):Int)by omega,f1];simp only[AD];rw[Zw];simp only[AD];have comp:∀p,CN p->Aq p=true->Gd p=w->y=AZ p/\y' =Bl p:=fun p hp qd hw=>by
  have hb:=Iw qd;have oR:w=101::(L2 (AZ p)++46::L2 (Bl p)):=by
   rw[<-hw];unfold Gd;rw[AI9 qd];simp
  have k1:=e5 (AZ p) (46::L2 (Bl p)) (by unfold Px BD;rw[AJr];omega) (by rw[oR];rfl) (fun c r h=>by
   have:=(AO6 h).1;subst this
   decide)
  refine⟨k1.1,?_⟩;have k2:=f5 (Bl p) [] (by unfold Px BD;rw[AJr];omega) (by
   rw[oR,k1.2,show 1+(L2 (AZ p)).length+1=((L2 (AZ p)).length+1)+1 by omega,List.drop_succ_cons,List.drop_append];simp) (fun c r h=>by cases h)
  exact k2.1
 rcases AIn (BD y 1 30&&BD y' 1 60)with h3|h3
 rotate_left
 ·rw[h3]
  refine⟨_,_,rfl,z,fun p hp qd hw=> ?_⟩;obtain⟨a,b⟩:=comp p hp qd hw;have hb:=Iw qd;rw[a,b,Ak.2 hb.1,Ak.2 hb.2]at h3;cases h3
 rw[h3];simp only[AJX,AJQ];rw[N7 (dS _ _)];simp only[AD];rcases AIn (Gd (D1 y y')==w)with h5|h5
 ·rw[h5]
  refine⟨_,_,rfl,dS _ _,fun p hp qd hw=> ?_⟩;obtain⟨a,b⟩:=comp p hp qd hw;rw[a,b,wa hp qd]
 ·rw[h5]
  refine⟨_,_,rfl,z,fun p hp qd hw=> ?_⟩;obtain⟨a,b⟩:=comp p hp qd hw;rw[a,b,wa hp qd,hw]at h5;simp at h5
end Go.M
end
section
namespace Go.M
open Go.Lib (decDigits itoa)
open Go.M.H (Av Al)
def pB(k:Int)(l:AAN):Al:=if k=11 then(k,0,l.getD 0 0,l.getD 1 0,[],())else(k,l.getD 0 0,l.getD 1 0,l.getD 2 0,[],())
def lh(k:Int):Nat:=(numsOf (k,0,0,0,[],())).length
theorem AAJ(d:Al):(numsOf d).length=lh d.1:=by
 unfold lh numsOf;simp only;split
 ·rfl
 split
 ·rfl
 split
 ·rfl
 split<;>rfl
theorem tz{k:Int}{l:AAN}(hl:l.length=lh k):dL k l=some ((pB k l,()),()):=by
 have h3:l.length<=3:=by rw[hl];exact YS _
 have h11:k=11->l.length=2:=fun h=>by rw[hl,h];rfl
 unfold dL pB;by_cases hk:k=11
 ·have:=h11 hk
  rw[hk,AI9 (by omega),AI9 (by omega)]
  match l,this with
  |[a,b],_=>rfl
 rw[AKA.2 hk,AJQ,AJD hk]
 match l,h3 with
 |[],_=>rfl
 |[a],_=>rfl
 |[a,b],_=>rfl
 |[a,b,c],_=>rfl
 |a::b::c::e::r,h=>simp at h
def eo(D d:Al):Al:=if d.1=2 then(d.1,d.2.1,d.2.2.1,d.2.2.2.1,D.2.2.2.2.1,())else if d.1=13 then(d.1,D.2.1,d.2.2.1,d.2.2.2.1,d.2.2.2.2.1,())else d
theorem qf{D:Al}(ho:GD D=true):eo D (pB D.1 (numsOf D))=D:=by
 obtain⟨hk,_⟩:=Iz ho;obtain⟨k,a,b,n,t,⟨⟩⟩:=D;simp only at hk;unfold GD at ho;simp only[AJR]at ho;obtain⟨_,h1,h2,h3,h4,_⟩:=ho;rcases gg hk with rfl|rfl|rfl|rfl|rfl|rfl|rfl|rfl|rfl|rfl|rfl|rfl|rfl|rfl|rfl|rfl<;>simp[XO]at h1 h2 h3 h4<;>simp[numsOf,pB,eo, *]
def behind(D:Al):List Int->List UInt8
 |[]=>if D.1=2 then 32::D.2.2.2.2.1 else if D.1=13 then 32::Gd D.2.1 else[]
 |n::l=>32::(L2 n++behind D l)
theorem zX{D:Al}:∀(l:AAN) (c:UInt8) (r:AAZ),behind D l=c::r->c=32
 |[],c,r,h=>by
  unfold behind at h;split at h
  ·exact(AO6 h).1.symm
  ·split at h
   ·exact(AO6 h).1.symm
   ·cases h
 |n::l,c,r,h=>by
  unfold behind at h;exact(AO6 h).1.symm
theorem ov{D:Al}:∀(l:AAN) (acc L:AAZ),(RE l acc).map (OS D)=some L->(∀n∈l,Px n=true)/\L=acc++behind D l
 |[],acc,L,h=>by
  simp only[RE,AQn,AJL]at h;refine⟨by simp,?_⟩;rw[<-h];unfold OS behind;split
  ·simp
  ·split
   ·simp
   ·simp
 |n::l,acc,L,h=>by
  simp only[RE]at h;split at h
  case isFalse=>cases h
  rename_i hn;obtain⟨h1,h2⟩:=ov l _ L h;refine⟨fun x hx=> ?_,?_⟩
  ·rcases ALa.1 hx with rfl|hx
   ·exact hn
   ·exact h1 x hx
  ·rw[h2]
   simp[behind]
theorem M5{D:Al}{line:AAZ}(h:Dp D=some line):GD D=true/\(D.1=13->Aq D.2.1=true)/\(∀n∈numsOf D,Px n=true)/\line=CE D.1++behind D (numsOf D):=by
 have ho:=(Lc h).1;rw[iA ho]at h;split at h
 ·cases h
 ·rename_i hc
  obtain⟨h1,h2⟩:=ov _ _ _ h;refine⟨ho,fun h13=> ?_,h1,h2⟩;rcases AIn (Aq D.2.1)with hp|hp
  ·exact hp
  ·exact absurd (.inl ⟨h13,hp⟩) hc
theorem sf{line:AAZ}{d:Al}(h:ew d):((Kx d).bind fun Pd=>cond (!Pd.1.1.2.1) (some ((((0,0,0,0,[],()),false,()),()),())) (cond (!(Pd.1.1.1==line)) (some ((((0,0,0,0,[],()),false,()),()),())) (some (((d,true,()),()),()))))=(some ((fin line d,()),()):Option HK):=by
 rw[mX h];simp only[AD];unfold fin ib;cases hl:Dp d with
 |none=>rfl
 |some t=>
  simp only[AO2,AJX,AJQ,AO4,AJL];by_cases e:t=line
  ·rw[AI9 e,e];simp
  ·rw[AJD e,AKA.2 e];rfl
end Go.M
end
section
namespace Go.M
open Go.Lib (decDigits itoa)
open Go.M.H (Av Al)
def AIg(line:AAZ)(o5:Al->Prop)(o:Al×Bool×Unit):Prop:=
 (∃df,ew df/\o=fin line df/\ ∀D,ew D->o5 D->df=D)\/(o=(ACs,false,())/\ ∀D,ew D-> ¬o5 D)
theorem ACi{line:AAZ}{a:Nat}(h:a<=line.length):(line.drop a).take (line.length-a)=line.drop a:=ANm (by simp)
theorem ANQ{k:Int}{l:AAN}(h:∀n∈l,CN n):ew (pB k l):=by
 have z:CN 0:=by unfold CN;omega
 have g:∀i,CN (l.getD i 0):=fun i=>by
  by_cases hi:i<l.length
  ·rw[List.getD,AJA hi];exact h _ (AJ7 hi)
  ·rw[List.getD,APp (by omega)];exact z
 unfold pB;split
 ·exact⟨z,g 0,g 1⟩
 ·exact⟨g 0,g 1,g 2⟩
theorem ez{k:Int}{l:AAN}:(pB k l).1=k:=by unfold pB;split<;>rfl
theorem x_{line:AAZ}(ACo:line.length<=1048576){k:Int}(hk:1<=k/\k<=16):∀(n i a:Nat) (b:AAN) (f:Nat),i+n=lh k->b.length=i->n<f->(∀x∈b,CN x)->a<=2^20+20*i->
  ∃o,D5 f line k (lh k:Int) (a:Int) (i:Int) 0 0 0 0 [] 0 0 0 0 [] b=some ((o,()),())/\
   AIg line (fun D=>D.1=k/\Dp D=some line/\b=(numsOf D).take i/\line.drop a=behind D ((numsOf D).drop i)) o
 |n,i,a,b,0,_,_,hf,_,_=>by omega
 |0,i,a,b,f+1,hn,hb,hf,Pu,ha=>by
  have hc3:lh k<=3:=YS _;have known:∀D,ew D->(D.1=k/\Dp D=some line/\b=(numsOf D).take i/\line.drop a=behind D ((numsOf D).drop i))->b=numsOf D/\line.drop a=behind D []/\GD D=true/\(k=13->Aq D.2.1=true):=fun D hD h=>by
   obtain⟨h1,h2,h3,h4⟩:=h;have hl:(numsOf D).length=i:=by rw[AAJ,h1];omega
   obtain⟨p1,p2,_,_⟩:=M5 h2;rw[ANm (by omega)]at h3;rw[show(numsOf D).drop i=[]from AJm (by omega)]at h4;exact⟨h3,h4,p1,fun e=>p2 (h1.trans e)⟩
  show∃o,G5 (Ds f) (D5 f) _ _ _ _ _ _ _ _ _ _ _ _ _ _ _ _=_/\_
  unfold G5;rw[AB,AJD (by omega),tz (by omega)];simp only[AD];have sX:=ANQ (k:=k) Pu;rw[uY,AH (x:=(a:Int)+1) (by omega) (by omega)];simp only[AD];by_cases k2:k=2
  ·rw[k2]at sX|-
   simp only[AO_,AJy];obtain⟨m,hm⟩:∃m:Nat,min ((a:Int)+1) (line.length:Int)=(m:Int):=⟨min (a+1) line.length,by omega⟩;have vi:m<=line.length:=by omega
   rw[hm,AI9 (by omega)];simp only[show((m:Int)).toNat=m by omega,show((line.length:Int)).toNat=line.length by omega];rw[ACi vi];have hd:ew ((pB 2 b).1,(pB 2 b).2.1,(pB 2 b).2.2.1,(pB 2 b).2.2.2.1,line.drop m,()):=⟨sX.a,sX.b,sX.c⟩;refine⟨fin line ((pB 2 b).1,(pB 2 b).2.1,(pB 2 b).2.2.1,(pB 2 b).2.2.2.1,line.drop m,()),sf hd,.inl ⟨_,hd,rfl,fun D hD h=> ?_⟩⟩;rw[<-k2]at h;obtain⟨q1,q2,q3,_⟩:=known D hD h;have hD1:D.1=2:=h.1.trans k2;have WJ:line.drop a=32::D.2.2.2.2.1:=by rw[q2];unfold behind;rw[AI9 hD1]
   have hal:a<line.length:=by
    by_cases hh:a<line.length
    ·exact hh
    ·rw[AJm (by omega)]at WJ;cases WJ
   have htx:line.drop m=D.2.2.2.2.1:=by
    rw[show m=a+1 by omega,<-List.tail_drop,WJ];rfl
   rw[htx,q1,<-hD1];have:=qf q3;unfold eo at this;rw[ez,AI9 hD1]at this;rw[ez];exact this
  rw[AKA.2 k2,AJQ];by_cases k13:k=13
  ·rw[k13]at sX|-
   simp only[AO_,AJy];obtain⟨m,hm⟩:∃m:Nat,min ((a:Int)+1) (line.length:Int)=(m:Int):=⟨min (a+1) line.length,by omega⟩;have vi:m<=line.length:=by omega
   rw[hm,AI9 (by omega)];simp only[show((m:Int)).toNat=m by omega,show((line.length:Int)).toNat=line.length by omega];rw[ACi vi];obtain⟨x,bb,e1,e2,e3⟩:=j0 (w:=line.drop m);rw[e1];simp only[AD];have hd:ew ((pB 13 b).1,x,(pB 13 b).2.2.1,(pB 13 b).2.2.2.1,(pB 13 b).2.2.2.2.1,()):=⟨e2,sX.b,sX.c⟩;refine⟨fin line ((pB 13 b).1,x,(pB 13 b).2.2.1,(pB 13 b).2.2.2.1,(pB 13 b).2.2.2.2.1,()),sf hd,.inl ⟨_,hd,rfl,fun D hD h=> ?_⟩⟩;rw[<-k13]at h;obtain⟨q1,q2,q3,q4⟩:=known D hD h;have hD1:D.1=13:=h.1.trans k13;have WJ:line.drop a=32::Gd D.2.1:=by rw[q2];unfold behind;rw[AJD (by omega),AI9 hD1]
   have hal:a<line.length:=by
    by_cases hh:a<line.length
    ·exact hh
    ·rw[AJm (by omega)]at WJ;cases WJ
   have htx:line.drop m=Gd D.2.1:=by
    rw[show m=a+1 by omega,<-List.tail_drop,WJ];rfl
   rw[e3 D.2.1 hD.a (q4 k13) htx.symm,q1,<-hD1];have:=qf q3;unfold eo at this;rw[ez,AJD (by omega),AI9 hD1]at this;rw[ez];exact this
  rw[AKA.2 k13,AJQ];refine⟨fin line (pB k b),sf sX,.inl ⟨_,sX,rfl,fun D hD h=> ?_⟩⟩;obtain⟨q1,q2,q3,q4⟩:=known D hD h;have:=qf q3;unfold eo at this;rw[ez,h.1,AJD k2,AJD k13]at this;rw[q1];exact this
 |n+1,i,a,b,f+1,hn,hb,hf,Pu,ha=>by
  have hc3:lh k<=3:=YS _
  show∃o,G5 (Ds f) (D5 f) _ _ _ _ _ _ _ _ _ _ _ _ _ _ _ _=_/\_
  unfold G5;rw[AB,AI9 (by omega),AH (x:=(a:Int)+1) (by omega) (by omega)];obtain⟨y,p,e1,e2,e3,e4,e5⟩:=Ym (s:=line) (j:=a+1) (by omega);rw[show((a:Int)+1)=((a+1:Nat):Int)by omega,e1];simp only[AD,AB];have known:∀D,ew D->(D.1=k/\Dp D=some line/\b=(numsOf D).take i/\line.drop a=behind D ((numsOf D).drop i))->y=(numsOf D).getD i 0/\0<=y/\b++[y]=(numsOf D).take (i+1)/\line.drop p=behind D ((numsOf D).drop (i+1)):=fun D hD h=>by
   obtain⟨h1,h2,h3,h4⟩:=h;have hl:i<(numsOf D).length:=by rw[AAJ,h1];omega
   obtain⟨_,_,p3,_⟩:=M5 h2;rw[AO5 hl]at h4;have hm:=p3 _ (AJ7 hl);simp only[behind]at h4;have h5:line.drop (a+1)=L2 (numsOf D)[i]++behind D ((numsOf D).drop (i+1)):=by rw[<-List.tail_drop,h4];rfl
   obtain⟨r1,r2⟩:=e5 _ _ hm h5 fun c r hcr=>by
    rw[zX _ _ _ hcr]
    decide
   refine⟨by rw[r1,List.getD,AJA hl];rfl,?_,?_,?_⟩
   ·rw[r1]
    unfold Px BD at hm;simp only[AJr]at hm;exact hm.1
   ·rw[r1,h3,AOz hl]
   ·rw[r2,<-List.drop_drop,h5,List.drop_append]
    simp
  by_cases hy:y<0
  ·rw[AI9 hy]
   exact⟨_,rfl,.inr ⟨rfl,fun D hD h=>by have:=known D hD h;omega⟩⟩
  rw[AJD hy,AI9 (by rw[Ap];omega),AH (x:=(i:Int)+1) (by omega) (by omega)];obtain⟨o,g1,g2⟩:=x_ ACo hk n (i+1) p (b++[y]) f (by omega) (by simp[hb]) (by omega) (fun x hx=>by
   rcases ALk.1 hx with hx|hx
   ·exact Pu x hx
   ·simp only[APA]at hx
    subst hx;unfold CN;omega) (by omega)
  refine⟨o,g1,?_⟩;rcases g2 with⟨df,q1,q2,q3⟩|⟨q1,q2⟩
  ·exact .inl ⟨df,q1,q2,fun D hD h=>q3 D hD ⟨h.1,h.2.1,(known D hD h).2.2.1,(known D hD h).2.2.2⟩⟩
  ·exact .inr ⟨q1,fun D hD h=>q2 D hD ⟨h.1,h.2.1,(known D hD h).2.2.1,(known D hD h).2.2.2⟩⟩
theorem zI:∀j∈List.range 16,∀i∈List.range 16,j≠i-> ∀m,m<=(E8.getD j []).length->m<=(E8.getD i []).length->(m=(E8.getD j []).length\/m=(E8.getD i []).length)->(E8.getD j []).take m≠(E8.getD i []).take m:=by
 decide
theorem AD6{j k:Int}(hj:1<=j/\j<=16)(hk:1<=k/\k<=16){r:AAZ}(h:(CE k++r).take (CE j).length=CE j):j=k:=by
 by_cases e:(j-1).toNat=(k-1).toNat
 ·omega
 exfalso
 have key:=zI (j-1).toNat (List.mem_range.2 (by omega)) (k-1).toNat (List.mem_range.2 (by omega)) e (min (CE j).length (CE k).length) (by unfold CE;omega) (by unfold CE;omega) (by unfold CE;omega);apply key
 show(CE j).take _=(CE k).take _
 have e1:(CE j).take (min (CE j).length (CE k).length)=(CE k++r).take (min (CE j).length (CE k).length):=by
  conv=>lhs;rw[<-h]
  rw[List.take_take];congr 1;rw[h];omega
 rw[e1,List.take_append_of_le_length (by omega)]
theorem ACJ{line:AAZ}(ACo:line.length<=1048576):∀(n:Nat) (k:Int) (f:Nat),k+n=17->1<=k->n+10<f->
  (∀D,ew D->Dp D=some line->k<=D.1)->
  ∃o,Ds f line k 0 0 0 0 [] 0 0 0 0 []=some ((o,()),())/\jI line o
 |n,k,0,_,_,hf,_=>by omega
 |0,k,f+1,hn,h1,hf,hge=>by
  show∃o,He (Ds f) (D5 f) _ _ _ _ _ _ _ _ _ _ _ _=_/\_
  unfold He;rw[AB,AJD (by omega)];refine⟨_,rfl,.inr ⟨fun d hd h=> ?_,rfl⟩⟩;have:=hge d hd h;have:=(Iz (M5 h).1).1;omega
 |n+1,k,f+1,hn,h1,hf,hge=>by
  have hk:1<=k/\k<=16:=by omega
  show∃o,He (Ds f) (D5 f) _ _ _ _ _ _ _ _ _ _ _ _=_/\_
  unfold He;have hw:=cm k;rw[AB,AI9 (by omega),eN hk,AH (x:=k+1) (by omega) (by omega)];simp only[AD,AB];have next:(∀D,ew D->Dp D=some line->D.1≠k)-> ∃o,Ds f line (k+1) 0 0 0 0 [] 0 0 0 0 []=some ((o,()),())/\jI line o:=fun WJ=>
   ACJ ACo n (k+1) f (by omega) (by omega) (by omega) fun D hD h=>by
    have:=hge D hD h;have:=WJ D hD h;omega
  have pre:∀D,ew D->Dp D=some line->D.1=k->(CE k).length<=line.length/\line.take (CE k).length=CE k:=fun D hD h e=>by
   obtain⟨_,_,_,h4⟩:=M5 h;rw[<-e,h4];simp
  by_cases hl:(line.length:Int)<((CE k).length:Int)
  ·rw[AI9 hl]
   exact next fun D hD h e=>by have:=(pre D hD h e).1;omega
  rw[AJD hl,AI9 (by omega)];rw[show((((CE k).length:Nat):Int)).toNat-0=(CE k).length by omega,AOn];by_cases hp:line.take (CE k).length=CE k
  rotate_left
  ·rw[AKA.2 hp]
   exact next fun D hD h e=>hp (pre D hD h e).2
  rw[hp];simp only[AO_,AJX,AJQ];rw[show((k,0,0,0,[],()):Al)=(k,0,0,0,[],())from rfl,eD];simp only[AD];obtain⟨o,g1,g2⟩:=x_ ACo hk (lh k) 0 (CE k).length [] f (by omega) rfl (by have:=YS (k,0,0,0,[],());unfold lh;omega) (by simp) (by omega);refine⟨o,g1,?_⟩;have all:∀D,ew D->Dp D=some line->D.1=k/\Dp D=some line/\[]=(numsOf D).take 0/\line.drop (CE k).length=behind D ((numsOf D).drop 0):=fun D hD h=>by
   obtain⟨p1,_,_,h4⟩:=M5 h;have e:k=D.1:=AD6 hk (Iz p1).1 (r:=behind D (numsOf D)) (by rw[<-h4];exact hp);refine⟨e.symm,h,rfl,?_⟩;rw[h4,e];simp
  rcases g2 with⟨df,q1,q2,q3⟩|⟨q1,q2⟩
  ·rw[q2]
   exact vU q1 fun D hD h=>q3 D hD (all D hD h)
  ·rw[q1]
   exact .inr ⟨fun D hD h=>q2 D hD (all D hD h),rfl⟩
theorem kq{line:AAZ}(hl:line.length<=1048576):∃o,SN line=some ((o,()),())/\jI line o:=by
 unfold SN V3;exact ACJ hl 16 1 AX (by omega) (by omega) (Ab (by omega)) fun D hD h=>(Iz (M5 h).1).1.1
theorem ABe{line:AAZ}{o o':Al×Bool×Unit}(h:jI line o)(h':jI line o'):o=o':=by
 rcases h with⟨d,h1,h2,rfl,h3⟩|⟨h1,rfl⟩
 ·rcases h' with⟨d',k1,k2,rfl,_⟩|⟨k1,rfl⟩
  ·rw[h3 d' k1 k2]
  ·exact absurd h2 (k1 d h1)
 ·rcases h' with⟨d',k1,k2,rfl,_⟩|⟨k1,rfl⟩
  ·exact absurd k2 (h1 d' k1)
  ·rfl
end Go.M
end
section
set_option maxRecDepth 8000
namespace Go.M
open Go.M.H (AA AJ AL AN AR AU AY Ac Ae Ai Aj Al Am An Av Ax Az BG BQ BR B_ C1 C7 CB CH Co Dx)
def DS(w:AA):Prop:= ∀x∈w.AK,∀(i:Nat) (y:BR),x.2.1[i]? =some y-> ∃s∈w.CF,s.1=Gv x.1 ((i:Int)+1)/\(y.2.2.1=true->s.2.2.1=true)
theorem yq{α:Type}{f:α->Int}:∀{l:List α} {s t:α},WK f l->s∈l->t∈l->f s=f t->s=t
 |x::l,s,t,h,hs,ht,e=>by
  simp only[WK,AOK]at h;rcases ALa.1 hs with rfl|hs'
  ·rcases ALa.1 ht with rfl|ht'
   ·rfl
   ·have:=h.1 t ht';omega
  ·rcases ALa.1 ht with rfl|ht'
   ·have:=h.1 s hs';omega
   ·exact yq h.2 hs' ht' e
theorem jB{l:List BR}{o:Int}(h:1<=o):GW l o=true↔ ∃y,l[(o-1).toNat]? =some y/\y.2.2.1=true:=by
 unfold GW;rw[AJR,Ak];constructor
 ·rintro⟨h1,h2⟩
  have hi:(o-1).toNat<l.length:=by omega
  rw[TP hi]at h2;exact⟨_,AJA hi,h2⟩
 ·rintro⟨y,h1,h2⟩
  obtain⟨hi,h3⟩:=AJM.1 h1;refine⟨⟨h,by omega⟩,?_⟩;rw[TP hi,h3];exact h2
theorem QI{all:Bool}{c:CK}{s:AL}{l:List C7}{n:Int}:∀{ws:List AR} {ss:List Aj},
  (E6 all c s l n ws ss).2=ss.map fun t=>(t.1,t.2.1,t.2.2.1||(ws.any fun x=>LV s l n x&&(AZ t.1==x.1&&(GW (BC c s x.1 n 1 x.2.1) (Bl t.1)&&(all|| !GW x.2.1 (Bl t.1))))),())
 |[],ss=>by
  simp only[E6,List.any_nil,ATY];exact(List.map_id' ss).symm
 |x::ws,ss=>by
  simp only[E6];split
  ·rename_i ht
   simp only;rw[QI,ARo];refine AO9 fun t _=> ?_
   simp only[Function.comp,SB,List.any_cons,ht,AKB,Bool.or_assoc]
  ·rename_i ht
   simp only;rw[QI];refine AO9 fun t _=> ?_
   have ht':LV s l n x=false:=by simpa using ht
   simp only[List.any_cons,ht',AOw,ANG]
theorem Qr{all:Bool}{c:CK}{s:AL}{l:List C7}{n:Int}:∀{ws:List AR} {ss:List Aj},
  (E6 all c s l n ws ss).1=ws.map fun x=>if LV s l n x then(x.1,BC c s x.1 n 1 x.2.1,())else x
 |[],ss=>rfl
 |x::ws,ss=>by
  simp only[E6,APX];split<;>simp only<;>rw[Qr]
theorem Yo{c:CK}{s:AL}{ep n:Int}:∀{l:List BR} {o:Int} {i:Nat},(BC c s ep n o l)[i]? =(l[i]?).map fun x=>if !x.2.2.1&&MK s (Gv ep (o+i))then Fh c n x else x
 |[],o,i=>by simp[BC]
 |x::l,o,0=>by simp[BC]
 |x::l,o,i+1=>by
  simp only[BC,ATN];rw[Yo,show o+1+(i:Int)=o+((i+1:Nat):Int)by omega]
section
variable{w:AA} (h:RT w) (hd:DS w)
include h hd
theorem AH5{s:AL}{n:Int}:E6 true (Aa w) s w.BJ n w.AK w.CF=E6 false (Aa w) s w.BJ n w.AK w.CF:=by
 refine Prod.ext (by rw[Qr,Qr]) ?_
 rw[QI,QI];refine AO9 fun t ht=> ?_
 cases hu:t.2.2.1 with
 |true=>rfl
 |false=>
  have:∀x∈w.AK,(LV s w.BJ n x&&(AZ t.1==x.1&&(GW (BC (Aa w) s x.1 n 1 x.2.1) (Bl t.1)&&(true|| !GW x.2.1 (Bl t.1)))))=(LV s w.BJ n x&&(AZ t.1==x.1&&(GW (BC (Aa w) s x.1 n 1 x.2.1) (Bl t.1)&&(false|| !GW x.2.1 (Bl t.1))))):=fun x hx=>by
   cases hq:GW x.2.1 (Bl t.1)with
   |false=>rfl
   |true=>
    have WJ:(AZ t.1==x.1)=false:=by
     rw[AKA];intro he;obtain⟨p1,p2,p3⟩:=GA (h.CF t ht).1;obtain⟨y,y1,y2⟩:=(jB p2.1).1 hq;obtain⟨u,u1,u2,u3⟩:=hd x hx _ y y1;rw[<-he,show(((Bl t.1-1).toNat:Nat):Int)+1=Bl t.1 by omega,p3]at u2;have:=yq h.cP u1 ht u2;rw[this]at u3;rw[u3 y2]at hu;cases hu
    rw[WJ,AOw,AOw]
  rw[show(w.AK.any fun x=>LV s w.BJ n x&&(AZ t.1==x.1&&(GW (BC (Aa w) s x.1 n 1 x.2.1) (Bl t.1)&&(true|| !GW x.2.1 (Bl t.1)))))=(w.AK.any fun x=>LV s w.BJ n x&&(AZ t.1==x.1&&(GW (BC (Aa w) s x.1 n 1 x.2.1) (Bl t.1)&&(false|| !GW x.2.1 (Bl t.1)))))from by
   rw[ATP,List.any_eq_true,List.any_eq_true];exact⟨fun⟨x,a,b⟩=>⟨x,a,by rw[<-this x a];exact b⟩,fun⟨x,a,b⟩=>⟨x,a,by rw[this x a];exact b⟩⟩]
theorem AIf{d:Al}:FH true w d=FH false w d:=by
 unfold FH;have:K3 true w d=K3 false w d:=by
  unfold K3;by_cases h4:d.1=4
  ·simp only[AI9 h4,show¬d.1=1 by omega,show¬d.1=2 by omega,show¬d.1=3 by omega,AMd]
   unfold Pz;dsimp only;rw[AH5 h hd]
  ·simp only[AJD h4]
 rw[this]
omit h in
theorem wh{v:AA}(hw:∀x∈v.AK,∀(i:Nat) (y:BR),x.2.1[i]? =some y-> ∃x'∈w.AK,x'.1=x.1/\ ∃y',x'.2.1[i]? =some y'/\(y.2.2.1=true->y'.2.2.1=true))
  (hs:∀s∈w.CF,s∈v.CF):DS v:=fun x hx i y hy=>by
 obtain⟨x',a1,a2,y',a3,a4⟩:=hw x hx i y hy;obtain⟨s,b1,b2,b3⟩:=hd x' a1 i y' a3;exact⟨s,hs s b1,by rw[<-a2];exact b2,fun hyd=>b3 (a4 hyd)⟩
omit h in
theorem AHY{a:Int}(h0:(QA w a).2=0):DS (QA w a).1:=by
 unfold QA at h0|-;split
 ·exact hd
 dsimp only at h0|-;split
 ·exact hd
 refine wh hd (fun x hx i y hy=> ?_) fun s hs=>hs
 have tW:x∈w.AK++[((Ik (Aa w) (Cb w) (BL a)).2.1,[],())]:=hx;rcases ALk.1 tW with hx|hx
 ·exact⟨x,hx,rfl,y,hy,id⟩
 ·simp only[ALa,List.not_mem_nil,or_false]at hx
  subst hx;simp at hy
omit h in
theorem AMD{a:Int}{d:AAZ}:DS (doAdd w a d).1:=by
 unfold doAdd;split
 ·exact hd
 rename_i ha;dsimp only;split
 ·exact hd
 rename_i hq;have ha':0<=a/\a<=(w.AK.length:Int)-1:=Ak.1 (by simpa using ha);have hi:a.toNat<w.AK.length:=by omega
 have hxm:=Bh (d:=CZ) hi;simp only[AOy,ATi,AMH,AMT]at hq;obtain⟨_,r1,r2,r3⟩:=XX hq.1;rw[r2,r3]
 generalize w.AK.getD a.toNat CZ=z at*
 intro x hx i y hy;have tW:x∈w.AK.set a.toNat (z.1,z.2.1++[(d,[],false,())],()):=hx;have old:∀s∈w.CF,s∈cU (Gv z.1 ((z.2.1.length:Int)+1),d,false,()) w.CF:=fun s hs=>ft.2 (.inr hs)
 have key:∀x∈w.AK,∀(i:Nat) (y:BR),x.2.1[i]? =some y-> ∃s∈cU (Gv z.1 ((z.2.1.length:Int)+1),d,false,()) w.CF,s.1=Gv x.1 ((i:Int)+1)/\(y.2.2.1=true->s.2.2.1=true):=fun x hx i y hy=>by
  obtain⟨s,b1,b2⟩:=hd x hx i y hy;exact⟨s,old s b1,b2⟩
 rcases APm tW with hx|rfl
 ·exact key x hx i y hy
 ·dsimp only at hy|-
  by_cases IQ:i<z.2.1.length
  ·rw[AKW IQ]at hy
   exact key z hxm i y hy
  ·obtain⟨hlen,_⟩:=AJM.1 hy
   simp only[AKN,AJq,AKx]at hlen;have hii:i=z.2.1.length:=by omega
   subst hii;refine⟨_,ft.2 (.inl rfl),rfl,fun hyd=> ?_⟩;rw[ALb (ALj _),ATT]at hy;cases hy;cases hyd
theorem AHp{n:Int}:DS (Pz false w n).1:=by
 unfold Pz;split
 ·exact hd
 dsimp only;split
 ·exact hd
 generalize (Ct (storeAt w n)).1=S
 rw[Qr,QI];intro x hx i y hy;have tW:x∈w.AK.map fun x=>if LV S w.BJ n x then(x.1,BC (Aa w) S x.1 n 1 x.2.1,())else x:=hx
 obtain⟨z,hz,rfl⟩:=APC.1 tW;have hwr:=(h.AK z hz).1;have AAM:∀s∈w.CF,(s.1,s.2.1,s.2.2.1||(w.AK.any fun x=>LV S w.BJ n x&&(AZ s.1==x.1&&(GW (BC (Aa w) S x.1 n 1 x.2.1) (Bl s.1)&&(false|| !GW x.2.1 (Bl s.1))))),())∈(w.CF.map fun t=>(t.1,t.2.1,t.2.2.1||(w.AK.any fun x=>LV S w.BJ n x&&(AZ t.1==x.1&&(GW (BC (Aa w) S x.1 n 1 x.2.1) (Bl t.1)&&(false|| !GW x.2.1 (Bl t.1))))),())):=fun s hs=>APC.2 ⟨s,hs,rfl⟩
 by_cases ht:LV S w.BJ n z=true
 ·rw[AI9 ht]at hy|-
  dsimp only at hy|-;rw[Yo]at hy;cases hg:z.2.1[i]? with
  |none=>rw[hg]at hy;cases hy
  |some q=>
   obtain⟨s,b1,b2,b3⟩:=hd z hz i q hg;refine⟨_,AAM s b1,b2,fun hyd=> ?_⟩;dsimp only;cases hqd:q.2.2.1 with
   |true=>rw[b3 hqd];rfl
   |false=>
    have IQ:=(AJM.1 hg).1;have AaI:=hwr.n;obtain⟨p1,p2,p3⟩:=NF (e:=z.1) (o:=(i:Int)+1) hwr.ep (by omega);rw[b2,p2,p3];rw[show(w.AK.any fun x=>LV S w.BJ n x&&(z.1==x.1&&(GW (BC (Aa w) S x.1 n 1 x.2.1) ((i:Int)+1)&&(false|| !GW x.2.1 ((i:Int)+1)))))=true from ?_,Bool.or_true];refine List.any_eq_true.2 ⟨z,hz,?_⟩;have h1:GW (BC (Aa w) S z.1 n 1 z.2.1) ((i:Int)+1)=true:=(jB (by omega)).2 ⟨y,by rw[show((i:Int)+1-1).toNat=i by omega,Yo,hg];rw[hg]at hy;exact hy,hyd⟩;have h2:GW z.2.1 ((i:Int)+1)=false:=by
     rw[APG];intro hh;obtain⟨q',e1,e2⟩:=(jB (by omega)).1 hh;rw[show((i:Int)+1-1).toNat=i by omega,hg]at e1;cases e1;rw[hqd]at e2;cases e2
    rw[ht,h1,h2,AO_];rfl
 ·rw[AJD ht]at hy|-
  obtain⟨s,b1,b2,b3⟩:=hd z hz i y hy;exact⟨_,AAM s b1,b2,fun hyd=>by dsimp only;rw[b3 hyd];rfl⟩
theorem AIP{n:Int}:DS (RI w n).1:=by
 unfold RI;split
 ·exact hd
 refine wh hd (fun x hx i y hy=> ?_) fun s hs=>hs
 have tW:x∈w.AK.map fun x=>(B5 (Aa w) x n).1:=hx
 obtain⟨z,hz,rfl⟩:=APC.1 tW;unfold B5 at hy|-;rw[HW.2 (h.AK z hz).1]at hy|-;simp only[AJX,AJn,AMd,ANd,AJN]at hy|-;obtain⟨q,q1,rfl⟩:=hy;exact⟨z,hz,rfl,q,q1,id⟩
theorem ASF{d:Al}(h0:(FH false w d).2=0):DS (FH false w d).1:=by
 unfold FH at h0|-;split
 ·rename_i hc;rw[AI9 hc]at h0;cases h0
 rename_i hc;rw[AJD hc]at h0;unfold K3 at h0|-;by_cases c1:d.1=1
 ·rw[AI9 c1]at h0|-;exact AHY hd h0
 rw[AJD c1]at h0|-;by_cases c2:d.1=2
 ·rw[AI9 c2];exact AMD hd
 rw[AJD c2]at h0|-;by_cases c3:d.1=3
 ·rw[AI9 c3]
  unfold Nd putAt
  try dsimp only
  repeat' split
  all_goals exact hd
 rw[AJD c3]at h0|-;by_cases c4:d.1=4
 ·rw[AI9 c4];exact AHp h hd
 rw[AJD c4]at h0|-;by_cases c5:d.1=5
 ·rw[AI9 c5]
  unfold Ns putAt
  repeat' split
  all_goals exact hd
 rw[AJD c5]at h0|-;by_cases c6:d.1=6
 ·rw[AI9 c6];exact AIP h hd
 rw[AJD c6]at h0|-;by_cases c7:d.1=7
 ·rw[AI9 c7]
  unfold Sa
  try dsimp only
  repeat' split
  all_goals exact hd
 rw[AJD c7]at h0|-;by_cases c8:d.1=8
 ·rw[AI9 c8]
  unfold S3
  repeat' split
  all_goals exact hd
 rw[AJD c8]at h0|-;by_cases c9:d.1=9
 ·rw[AI9 c9]
  unfold Tc
  try dsimp only
  repeat' split
  all_goals exact hd
 rw[AJD c9]at h0|-;by_cases c10:d.1=10
 ·rw[AI9 c10]
  unfold Tf
  try dsimp only
  repeat' split
  all_goals exact hd
 rw[AJD c10]at h0|-;by_cases c11:d.1=11
 ·rw[AI9 c11]
  unfold ZX putAt
  try dsimp only
  repeat' split
  all_goals exact hd
 rw[AJD c11]at h0|-;by_cases c12:d.1=12
 ·rw[AI9 c12]
  unfold Nn
  try dsimp only
  repeat' split
  all_goals exact hd
 rw[AJD c12]at h0|-;by_cases zb:d.1=13
 ·rw[AI9 zb]
  unfold Wd
  try dsimp only
  split
  all_goals exact hd
 rw[AJD zb]at h0|-;by_cases c14:d.1=14
 ·rw[AI9 c14]
  unfold Lt
  try dsimp only
  repeat' split
  all_goals exact hd
 rw[AJD c14]at h0|-;by_cases c15:d.1=15
 ·rw[AI9 c15]
  unfold Ul;split
  ·exact hd
  ·refine wh hd (fun x hx i y hy=> ?_) fun s hs=>hs
   have tW:x∈w.AK.eraseIdx d.2.1.toNat:=hx;exact⟨x,List.mem_of_mem_eraseIdx tW,rfl,y,hy,id⟩
 rw[AJD c15]at h0|-;unfold Nq putAt
 repeat' split
 all_goals exact hd
end
theorem AL6{c:CK}:DS (JT c):=fun x hx=>by
 have:x∈([]:List AR):=hx;simp at this
theorem yW{w:AA}{n:Int}:0<=Ar w n/\Ar w n<6:=by
 unfold Ar;split
 ·omega
 ·split<;>omega
theorem AGg{w:AA}{n:Int}{q:AL×Bool}:0<=(putAt w n q).2/\(putAt w n q).2<6:=by
 unfold putAt;split<;>(dsimp only;omega)
def Rg(q:ZM):Prop:=0<=q.2/\q.2<6
theorem Rg.ite{p:Prop}[Decidable p]{a b:ZM}(ha:Rg a)(hb:Rg b):Rg (if p then a else b):=by split<;>assumption
theorem yt{w:AA}{d:Al}:Rg (K3 false w d):=by
 have hn:=fun n=>yW (w:=w) (n:=n)
 have hp:=fun n q=>AGg (w:=w) (n:=n) (q:=q)
 have hk:∀(v:AA) (k:Int),0<=k/\k<6->Rg (v,k):=fun _ _ h=>h
 unfold K3;refine .ite ?_ ?_
 ·unfold QA
  try dsimp only
  repeat' split
  all_goals first|exact hp _ _|exact hk _ _ (hn _)|exact hk _ _ (by omega)
 refine .ite ?_ ?_
 ·unfold doAdd
  try dsimp only
  repeat' split
  all_goals first|exact hp _ _|exact hk _ _ (hn _)|exact hk _ _ (by omega)
 refine .ite ?_ ?_
 ·unfold Nd
  try dsimp only
  repeat' split
  all_goals first|exact hp _ _|exact hk _ _ (hn _)|exact hk _ _ (by omega)
 refine .ite ?_ ?_
 ·unfold Pz
  try dsimp only
  repeat' split
  all_goals first|exact hp _ _|exact hk _ _ (hn _)|exact hk _ _ (by omega)
 refine .ite ?_ ?_
 ·unfold Ns
  try dsimp only
  repeat' split
  all_goals first|exact hp _ _|exact hk _ _ (hn _)|exact hk _ _ (by omega)
 refine .ite ?_ ?_
 ·unfold RI
  try dsimp only
  repeat' split
  all_goals first|exact hp _ _|exact hk _ _ (hn _)|exact hk _ _ (by omega)
 refine .ite ?_ ?_
 ·unfold Sa
  try dsimp only
  repeat' split
  all_goals first|exact hp _ _|exact hk _ _ (hn _)|exact hk _ _ (by omega)
 refine .ite ?_ ?_
 ·unfold S3
  try dsimp only
  repeat' split
  all_goals first|exact hp _ _|exact hk _ _ (hn _)|exact hk _ _ (by omega)
 refine .ite ?_ ?_
 ·unfold Tc
  try dsimp only
  repeat' split
  all_goals first|exact hp _ _|exact hk _ _ (hn _)|exact hk _ _ (by omega)
 refine .ite ?_ ?_
 ·unfold Tf
  try dsimp only
  repeat' split
  all_goals first|exact hp _ _|exact hk _ _ (hn _)|exact hk _ _ (by omega)
 refine .ite ?_ ?_
 ·unfold ZX
  try dsimp only
  repeat' split
  all_goals first|exact hp _ _|exact hk _ _ (hn _)|exact hk _ _ (by omega)
 refine .ite ?_ ?_
 ·unfold Nn
  try dsimp only
  repeat' split
  all_goals first|exact hp _ _|exact hk _ _ (hn _)|exact hk _ _ (by omega)
 refine .ite ?_ ?_
 ·unfold Wd
  try dsimp only
  repeat' split
  all_goals first|exact hp _ _|exact hk _ _ (hn _)|exact hk _ _ (by omega)
 refine .ite ?_ ?_
 ·unfold Lt
  try dsimp only
  repeat' split
  all_goals first|exact hp _ _|exact hk _ _ (hn _)|exact hk _ _ (by omega)
 refine .ite ?_ ?_
 ·unfold Ul
  try dsimp only
  repeat' split
  all_goals first|exact hp _ _|exact hk _ _ (hn _)|exact hk _ _ (by omega)
 ·unfold Nq
  try dsimp only
  repeat' split
  all_goals first|exact hp _ _|exact hk _ _ (hn _)|exact hk _ _ (by omega)
theorem uA{all:Bool}{w:AA}(h:RT w){e:Al}(hd:GD e=true):FH all w e=K3 all w e:=by
 unfold FH;rw[Kc.2 h,hd];rfl
structure Sn (w:AA) (i:Nat):Prop where
 ok:RT w
 ds:DS w
 ev:pg w
 rd:Ae Ax w.Ag<=2+41*i
theorem Sn.next{w:AA}{i:Nat}(h:Sn w i):Sn w (i+1):=⟨h.ok,h.ds,h.ev,by have:=h.rd;omega⟩
theorem Sn.win{w:AA}{i:Nat}(h:Sn w i)(hi:i<=1000):lq w:=h.ok.AWz (by have:=h.rd;omega)
theorem Sn.AX1{w:AA}{i:Nat}(h:Sn w i)(hi:i<=1000){d:Al}(hd:CN d.2.1)(hk:GD d=true):
  ∃v k,MT w d=some (pkD (v,k))/\SU w d=some (pkD (v,k))/\0<=k/\k<6/\Sn v (i+1):=by
 have Xj:=h.win hi;refine⟨(FH false w d).1,(FH false w d).2,pD Xj hd,by rw[pE Xj hd,AIf h.ok h.ds],?_⟩;have e:FH false w d=K3 false w d:=uA h.ok hk;refine⟨by rw[e];exact yt.1,by rw[e];exact yt.2,?_⟩;by_cases h0:(FH false w d).2=0
 ·exact⟨Kc.1 (AA2 h0),ASF h.ok h.ds h0,by rw[e];exact AIQ h.ev,by have:=AA_ h.ok h0;have:=h.rd;omega⟩
 ·have:(FH false w d).1=w:=by rw[e]at h0|-;exact s5 h0
  rw[this];exact h.next
theorem ABU{e:Av}(h:CN e.2.1)(hl:e.2.2.1.length<=1000000):∃t:List UInt8,Ov e=some ((t,()),())/\GU e=some ((t,()),())/\t.length<=1000100:=by
 rw[xM h];have hp:=ju e.2.1;have hd:=vn h.2;unfold GU;rw[N7 h,QE h.2];simp only[AD];have hk:∀n:Nat,n<=5->n+(Gd e.2.1).length<=Cm:=fun n hn=>by rw[Ap];omega
 have k2:([100,97,116,97,32]++Gd e.2.1).length+1<=Cm:=by rw[Ap];simp only[AKN,AJq,AKx];omega
 have k3:(([100,97,116,97,32]++Gd e.2.1)++[32]).length+e.2.2.1.length<=Cm:=by rw[Ap];simp only[AKN,AJq,AKx];omega
 have k4:4+(L2 e.2.1).length<=Cm:=by rw[Ap];omega
 simp only[AI9 (hk 5 (by omega)),AI9 k2,AI9 k3,AI9 k4];cases e.1==1<;>cases e.1==2<;>cases e.1==3<;>cases e.1==4<;>cases e.1==5<;>cases e.2.2.1==[]<;>exact⟨_,rfl,rfl,by simp only[AKN,AJq,AKx];omega⟩
def AGQ(w:AA)(t:AAZ):cM:=(((((),w.2.1,(),(),(),w.2.2.2.2.2.1,(),(),(),(),w.2.2.2.2.2.2.2.2.2.2.1,()),t,()),()),(w.1,w.2.2.1,w.2.2.2.1,w.2.2.2.2.1,w.2.2.2.2.2.2.1,w.2.2.2.2.2.2.2.1,w.2.2.2.2.2.2.2.2.1,w.2.2.2.2.2.2.2.2.2.1,()))
theorem lz{w:AA}(h:lq w)(hev:pg w):VJ w=some ((Og w&&(Rq w&&(Rc w&&(PG w&&Uj w))),()),()):=by
 unfold VJ;rw[GS w,jZ h,lJ h,kd h,jS h,ku h hev];simp only[AKD];cases Og w<;>cases Rq w<;>cases Rc w<;>cases PG w<;>rfl
theorem AC8{r:Ac}(hr:∀e∈r.2.2.1,CN e.2.1)(hw:Ax r<=1000000):∃t:List UInt8,NI r=some ((t,()),())/\
  (cond ((r.2.2.1.length:Int)==0) (some (([110,111,110,101],()),())) (if(0:Int)<=AW ((r.2.2.1.length:Int)-1)/\AW ((r.2.2.1.length:Int)-1)<(r.2.2.1.length:Int)then
   (GU ((r.2.2.1.getD ((AW ((r.2.2.1.length:Int)-1)).toNat) (0,0,[],())).1,(r.2.2.1.getD ((AW ((r.2.2.1.length:Int)-1)).toNat) (0,0,[],())).2.1,(r.2.2.1.getD ((AW ((r.2.2.1.length:Int)-1)).toNat) (0,0,[],())).2.2.1,())).bind fun u8=>some ((u8.1.1,()),())else none):Option bC)=some ((t,()),())/\t.length<=1000100:=by
 have hl:=AU (f:=CB) (l:=r.2.2.1);have oR:Ae CB r.2.2.1<=1000000:=hw;unfold NI;by_cases h0:r.2.2.1.length=0
 ·rw[APF.2 (show(r.2.2.1.length:Int)=0 by omega)]
  exact⟨_,rfl,rfl,by simp⟩
 rw[AKA.2 (show(r.2.2.1.length:Int)≠0 by omega),AJQ,AJQ,AH (x:=(r.2.2.1.length:Int)-1) (by omega) (by omega)];have hi:r.2.2.1.length-1<r.2.2.1.length:=by omega
 have hm:=Bh (d:=((0,0,[],()):Av)) hi;obtain⟨t,t1,t2,t3⟩:=ABU (hr _ hm) (by have h1:=AY (f:=CB) hm;have h2:CB (r.2.2.1.getD (r.2.2.1.length-1) (0,0,[],()))=(r.2.2.1.getD (r.2.2.1.length-1) (0,0,[],())).2.2.1.length:=rfl;omega);have hb:(0:Int)<=(r.2.2.1.length:Int)-1/\(r.2.2.1.length:Int)-1<(r.2.2.1.length:Int):=by omega
 have hn:((r.2.2.1.length:Int)-1).toNat=r.2.2.1.length-1:=by omega
 refine⟨t,?_,?_,t3⟩
 ·dsimp only
  rw[AH (x:=(r.2.2.1.length:Int)-1) (by omega) (by omega),AI9 hb,hn];refine(congrArg (fun o=>Option.bind o _) t1).trans ?_
  rfl
 ·rw[AI9 hb,hn]
  refine(congrArg (fun o=>Option.bind o _) t2).trans ?_
  rfl
theorem AUS:AW (AW ((([111,117,116,32,48]:AAZ).getD 4 0).toNat:Int)-48)=0:=by decide
theorem AUD:AW (AW ((([111,117,116,32,49]:AAZ).getD 4 0).toNat:Int)-48)=1:=by decide
theorem Sn.reader{w:AA}{i:Nat}(h:Sn w i)(hi:i<=1000){k:Nat}(hk:k<2):∃t:List UInt8,NI (w.Ag.getD k AO)=some ((t,()),())/\
  (cond (((w.Ag.getD k AO).2.2.1.length:Int)==0) (some (([110,111,110,101],()),())) (if(0:Int)<=AW (((w.Ag.getD k AO).2.2.1.length:Int)-1)/\AW (((w.Ag.getD k AO).2.2.1.length:Int)-1)<((w.Ag.getD k AO).2.2.1.length:Int)then
   (GU (((w.Ag.getD k AO).2.2.1.getD ((AW (((w.Ag.getD k AO).2.2.1.length:Int)-1)).toNat) (0,0,[],())).1,((w.Ag.getD k AO).2.2.1.getD ((AW (((w.Ag.getD k AO).2.2.1.length:Int)-1)).toNat) (0,0,[],())).2.1,((w.Ag.getD k AO).2.2.1.getD ((AW (((w.Ag.getD k AO).2.2.1.length:Int)-1)).toNat) (0,0,[],())).2.2.1,())).bind fun u8=>some ((u8.1.1,()),())else none):Option bC)=some ((t,()),())/\t.length<=1000100:=by
 have hm:=Bh (d:=AO) (show k<w.Ag.length by rw[h.ok.ri];exact hk);refine AC8 (fun e he=>h.ev _ hm e he) ?_
 have:=AY (f:=Ax) hm;have:=h.rd;omega
theorem ADz{w:AA}{i:Nat}(h:Sn w i)(hi:i<=1000){line:AAZ}(hl:line.length<=20000):
  ∃v t,O5 w line=some (AGQ v t)/\Ob w line=some (AGQ v t)/\Sn v (i+1)/\t.length<=1000100:=by
 have Xj:=h.win hi;have hnr:(w.2.2.2.2.2.2.2.2.1.length:Int)=2:=by have:=h.ok.ri;show(w.Ag.length:Int)=2;omega
 unfold O5 Ob;rw[GS w,Fj Xj,IP Xj,ZY Xj,dr Xj,Kc.2 h.ok];simp only[AD,AJX,AJQ];cases h0:line==[]with
 |true=>exact⟨w,[],rfl,rfl,h.next,by simp⟩
 |false=>
 have WJ:0<line.length:=by
  rw[AKA]at h0;exact ATI.2 h0
 rw[AJQ,AJQ,AI9 (show(0:Int)<=(0:Int)/\(0:Int)<(line.length:Int)from⟨by omega,by omega⟩),AI9 (show(0:Int)<=(0:Int)/\(0:Int)<(line.length:Int)from⟨by omega,by omega⟩)];cases h1:((line.getD 0 0).toNat:Int)==35 with
 |true=>exact⟨w,[],rfl,rfl,h.next,by simp⟩
 |false=>
 rw[AJQ,AJQ];unfold fN;by_cases c1:line=[106,117,100,103,101]
 ·subst c1
  rw[AO_,AJy,AJy,GS w,za Xj h.ev,lz Xj h.ev];simp only[AD];cases Og w&&(Rq w&&(Rc w&&(PG w&&Uj w)))with
  |true=>exact⟨w,[121,101,115],rfl,rfl,h.next,by simp⟩
  |false=>exact⟨w,[110,111],rfl,rfl,h.next,by simp⟩
 rw[AKA.2 c1,AJQ,AJQ];by_cases c2:line=[111,117,116,32,48]
 ·subst c2
  obtain⟨t,t1,t2,t3⟩:=h.reader hi (k:=0) (by omega);refine⟨w,t,?_,?_,h.next,t3⟩
  ·rw[AO_,AJy,AI9 ⟨by omega,by omega⟩]
   refine(congrArg (fun o=>Option.bind o _) t1).trans ?_
   rfl
  ·rw[AO_,AJy,AI9 ⟨by omega,by decide⟩,AUS]
   dsimp only;rw[AI9 ⟨by omega,by omega⟩];refine(congrArg (fun o=>Option.bind o _) t2).trans ?_
   simp only[AD];cases t==[]<;>rfl
 rw[AKA.2 c2,AJQ,AJQ];by_cases c3:line=[111,117,116,32,49]
 ·subst c3
  obtain⟨t,t1,t2,t3⟩:=h.reader hi (k:=1) (by omega);refine⟨w,t,?_,?_,h.next,t3⟩
  ·rw[AO_,AJy,AI9 ⟨by omega,by omega⟩]
   refine(congrArg (fun o=>Option.bind o _) t1).trans ?_
   rfl
  ·rw[AO_,AJy,AI9 ⟨by omega,by decide⟩,AUD]
   dsimp only;rw[AI9 ⟨by omega,by omega⟩];refine(congrArg (fun o=>Option.bind o _) t2).trans ?_
   simp only[AD];cases t==[]<;>rfl
 rw[AKA.2 c3,AJQ,AJQ];simp only[AD];rw[show((([]:AAZ)==[]):Bool)=true from rfl,AJX,AJQ,AJQ,AJQ];obtain⟨o,o1,o2⟩:=kS (line:=line) (by omega);obtain⟨o',p1,p2⟩:=kq (line:=line) (by omega);have:=ABe p2 o2;subst this;rw[o1,p1];simp only[AD];rcases o2 with⟨d,d1,d2,rfl,_⟩|⟨_,rfl⟩
 ·obtain⟨v,k,e1,e2,k1,k2,hv⟩:=h.AX1 hi d1.a (Lc d2).1
  dsimp only;rw[AJX,AJQ,AJQ,td d,e1,e2];simp only[AD];rw[AI9 (show(0:Int)<=(pkD (v,k)).1.1.2.1/\(pkD (v,k)).1.1.2.1<6 from⟨k1,k2⟩)];refine⟨v,_,rfl,rfl,hv,?_⟩
  show(List.getD _ k.toNat []).length<=_
  obtain rfl|rfl|rfl|rfl|rfl|rfl:k=0\/k=1\/k=2\/k=3\/k=4\/k=5:=by omega
  all_goals decide
 ·exact⟨w,[119,104,97,116],rfl,rfl,h.next,by simp⟩
def pieces:List UInt8->List AAZ
 |[]=>[[]]
 |c::l=>if c=10 then[]::pieces l else match pieces l with
  |p::ps=>(c::p)::ps
  |[]=>[]
theorem kR:∀{a:AAZ},(∀c∈a,c≠10)->pieces a=[a]
 |[],_=>rfl
 |c::a,h=>by
  rw[pieces,AJD (h c (by simp)),kR fun x hx=>h x (by simp[hx])]
theorem qt{l:AAZ}:∀{a:AAZ},(∀c∈a,c≠10)->pieces (a++10::l)=a::pieces l
 |[],_=>by rw[AOi,pieces,AI9 rfl]
 |c::a,h=>by
  rw[API,pieces,AJD (h c (by simp)),qt fun x hx=>h x (by simp[hx])]
theorem nM:∀{l:AAZ},pieces l≠[]
 |[]=>by simp[pieces]
 |c::l=>by
  rw[pieces];split
  ·simp
  ·cases h:pieces l with
   |nil=>exact absurd h nM
   |cons p ps=>simp
theorem iY:∀{l:AAZ},(pieces l).length<=l.length+1/\ ∀p∈pieces l,p.length<=l.length
 |[]=>by simp[pieces]
 |c::l=>by
  obtain⟨h1,h2⟩:=iY (l:=l);rw[pieces];split
  ·refine⟨by simp only[AJq];omega,fun p hp=> ?_⟩
   rcases ALa.1 hp with rfl|hp
   ·simp
   ·have:=h2 p hp;simp only[AJq];omega
  ·cases h:pieces l with
   |nil=>exact absurd h nM
   |cons q qs=>
    rw[h]at h1 h2;dsimp only;refine⟨by simp only[AJq]at h1|-;omega,fun p hp=> ?_⟩;rcases ALa.1 hp with rfl|hp
    ·have:=h2 q (by simp);simp only[AJq];omega
    ·have:=h2 p (by simp[hp]);simp only[AJq];omega
theorem ru{c b:UInt8}{l:AAZ}:Go.Lib.index (b::l) [c]=if b=c then 0 else if Go.Lib.index l [c]= -1 then-1 else Go.Lib.index l [c]+1:=by
 rw[Go.Lib.index_one,Go.Lib.index_one,Go.Lib.indexByte];by_cases h:b=c
 ·simp[h]
 ·simp[h]
theorem k9:∀{l:AAZ},Go.Lib.splitK [10] 0 (Go.Lib.count l [10]) l=pieces l
 |[]=>rfl
 |b::l=>by
  have ih:=k9 (l:=l);by_cases h:b=10
  ·subst h
   rw[Go.Lib.count_cons_eq,Nat.add_comm,Go.Lib.splitK,ru,AI9 rfl,pieces,AI9 rfl];rw[AJD (by decide)];rw[<-ih];rfl
  ·rw[Go.Lib.count_cons_ne b 10 l h,pieces,AJD h,<-ih]
   cases hk:Go.Lib.count l [10]with
   |zero=>rfl
   |succ k=>
    have hi:Go.Lib.index l [10]≠ -1:=fun e=>by rw[Go.Lib.count_miss e]at hk;omega
    have hge:=Go.Lib.index_ge l [10];rw[Go.Lib.splitK,Go.Lib.splitK,ru,AJD h,AJD hi,AJD (by simp;omega),AJD (by simpa using hi)];dsimp only;obtain⟨n,hn⟩:∃n:Nat,Go.Lib.index l [10]=n:=⟨(Go.Lib.index l [10]).toNat,by omega⟩;rw[hn,show((n:Int)+1).toNat=n+1 by omega,AJT];rfl
def P_(l:List AAZ):List AAZ:=if l.getLast? =some []then l.dropLast else l
theorem ABG{a:List AAZ}{x:AAZ}:P_ (a++[x])=if x=[]then a else a++[x]:=by
 unfold P_;rw[List.getLast?_append,List.dropLast_concat];simp
noncomputable def sI (n:Nat) (l:List AAZ) (t:AAZ) (i:Int) (w:AA):Option Jc:=JF n l t l (l.length:Int) i w.2.1 w.2.2.2.2.2.1 w.2.2.2.2.2.2.2.2.2.2.1 w.1 w.2.2.1 w.2.2.2.1 w.2.2.2.2.1 w.2.2.2.2.2.2.1 w.2.2.2.2.2.2.2.1 w.2.2.2.2.2.2.2.2.1 w.2.2.2.2.2.2.2.2.2.1
noncomputable def sS (n:Nat) (t:AAZ) (i:Int) (w:AA) (l:List AAZ):Option GR:=HG n t i w.2.1 w.2.2.2.2.2.1 w.2.2.2.2.2.2.2.2.2.2.1 w.1 w.2.2.1 w.2.2.2.1 w.2.2.2.2.1 w.2.2.2.2.2.2.1 w.2.2.2.2.2.2.2.1 w.2.2.2.2.2.2.2.2.1 w.2.2.2.2.2.2.2.2.2.1 l
noncomputable def sL (n:Nat) (x:AAZ) (a i:Int) (w:AA) (l:List AAZ):Option GR:=II n x a i w.2.1 w.2.2.2.2.2.1 w.2.2.2.2.2.2.2.2.2.2.1 w.1 w.2.2.1 w.2.2.2.1 w.2.2.2.2.1 w.2.2.2.2.2.2.1 w.2.2.2.2.2.2.2.1 w.2.2.2.2.2.2.2.2.1 w.2.2.2.2.2.2.2.2.2.1 l
theorem ACl{n:Nat}{l:List AAZ}{t:AAZ}{i:Int}{w:AA}:sI (n+1) l t i w=LJ (JF n) l t l (l.length:Int) i w.2.1 w.2.2.2.2.2.1 w.2.2.2.2.2.2.2.2.2.2.1 w.1 w.2.2.1 w.2.2.2.1 w.2.2.2.2.1 w.2.2.2.2.2.2.1 w.2.2.2.2.2.2.2.1 w.2.2.2.2.2.2.2.2.1 w.2.2.2.2.2.2.2.2.2.1:=rfl
theorem ACf{n:Nat}{l:List AAZ}{t:AAZ}{i:Int}{w:AA}:sS (n+1) t i w l=K5 (II n) (HG n) t i w.2.1 w.2.2.2.2.2.1 w.2.2.2.2.2.2.2.2.2.2.1 w.1 w.2.2.1 w.2.2.2.1 w.2.2.2.2.1 w.2.2.2.2.2.2.1 w.2.2.2.2.2.2.2.1 w.2.2.2.2.2.2.2.2.1 w.2.2.2.2.2.2.2.2.2.1 l:=rfl
theorem ACA{n:Nat}{l:List AAZ}{x:AAZ}{a i:Int}{w:AA}:sL (n+1) x a i w l=MW (II n) (HG n) x a i w.2.1 w.2.2.2.2.2.1 w.2.2.2.2.2.2.2.2.2.2.1 w.1 w.2.2.1 w.2.2.2.1 w.2.2.2.2.1 w.2.2.2.2.2.2.1 w.2.2.2.2.2.2.2.1 w.2.2.2.2.2.2.2.2.1 w.2.2.2.2.2.2.2.2.2.1 l:=rfl
theorem nq{B:Nat}(hB:B=1000101){l:List AAZ}(hl:l.length<=200)(vd:∀x∈l,x.length<=20000):∀(m j f g:Nat) {t:AAZ} {w:AA},j+m=l.length->m<f->m<g->Sn w j->t.length<=j*B->
  ∃r:List UInt8,sI f l t (j:Int) w=some (((r,(l.length:Int),()),()),())/\sS g t (j:Int) w l=some (((r,(l.length:Int),()),()),())
 |m,j,0,g,t,w,_,hf,_,_,_=>by omega
 |m,j,f,0,t,w,_,_,hg,_,_=>by omega
 |0,j,f+1,g+1,t,w,hj,_,_,h,ht=>by
  rw[ACl,ACf];unfold LJ K5;simp only[AB];rw[AJD (by omega),AJD (by omega)];exact⟨t,rfl,rfl⟩
 |m+1,j,f+1,g+1,t,w,hj,hf,hg,h,ht=>by
  have IQ:j<l.length:=by omega
  have hgd:l.getD j []=l[j]:=TP IQ;obtain⟨v,u,e1,e2,hv,hu⟩:=ADz h (by omega) (vd _ (AJ7 IQ));have hb:(0:Int)<=(j:Int)/\(j:Int)<(l.length:Int):=by omega
  have hjB:j*B<=200*B:=ALR _ (by omega);have hj1:(j:Int)+1=((j+1:Nat):Int):=by omega
  have e1':O5 (w.1,w.2.1,w.2.2.1,w.2.2.2.1,w.2.2.2.2.1,w.2.2.2.2.2.1,w.2.2.2.2.2.2.1,w.2.2.2.2.2.2.2.1,w.2.2.2.2.2.2.2.2.1,w.2.2.2.2.2.2.2.2.2.1,w.2.2.2.2.2.2.2.2.2.2.1,()) l[j]=_:=e1;have e2':Ob (w.1,w.2.1,w.2.2.1,w.2.2.2.1,w.2.2.2.2.1,w.2.2.2.2.2.1,w.2.2.2.2.2.2.1,w.2.2.2.2.2.2.2.1,w.2.2.2.2.2.2.2.2.1,w.2.2.2.2.2.2.2.2.2.1,w.2.2.2.2.2.2.2.2.2.2.1,()) l[j]=_:=e2;rw[ACl,ACf];unfold LJ K5;simp only[AB];rw[AI9 (by omega),AI9 (show(j:Int)<(l.length:Int)by omega),AI9 hb,AI9 hb,AJT,hgd,e1',e2'];simp only[AD];rw[AH (x:=(j:Int)+1) (by omega) (by omega),hj1];cases hu0:u==[]with
  |true=>
   rw[show((AGQ v u).1.1.2.1==[])=true from hu0,AJX,AJQ,AJQ];obtain⟨r,r1,r2⟩:=nq hB hl vd m (j+1) f g (w:=v) (t:=t) (by omega) (by omega) (by omega) hv (by rw[ATd];omega);exact⟨r,r1,r2⟩
  |false=>
   rw[show((AGQ v u).1.1.2.1==[])=false from hu0,AOH,AJy,AJy];have hul:(AGQ v u).1.1.2.1.length<=1000100:=hu;obtain⟨r,r1,r2⟩:=nq hB hl vd m (j+1) f g (w:=v) (t:=t++u++[10]) (by omega) (by omega) (by omega) hv (by rw[ATd];simp only[AKN,AJq,AKx];omega);rw[AI9 (by rw[Ap];omega),AI9 (by rw[Ap,AKN];simp only[AJq,AKx];omega),AI9 (by rw[Ap];omega),AI9 (by rw[Ap,AKN];omega)];refine⟨r,?_,r2⟩;rw[AKK]at r1;exact r1
noncomputable def sE (g:Nat) (w:AA) (l:List AAZ):Option GR:=if(l.length:Int)>200 then some ((([],(-2),()),()),())else sS g [] 0 w l
theorem AK4{g:Nat}{x:AAZ}{a:Nat}{w:AA}{l:List AAZ}(hx:x.length<=20000)(ha:a<=x.length)(hl:l.length<=x.length):sL (g+1) x (a:Int) (x.length:Int) w l=sE g w (if x.drop a=[]then l else l++[x.drop a]):=by
 rw[ACA];unfold MW sE;simp only[AB];rw[AJD (by omega)];by_cases h:a<x.length
 ·rw[AI9 (by omega),AI9 (by omega),AI9 (by rw[Ap];omega),AJD (show¬x.drop a=[]by rw[List.drop_eq_nil_iff];omega)]
  rw[AJT,AJT,show(x.drop a).take (x.length-a)=x.drop a from ANm (by simp)];rfl
 ·rw[AJD (by omega),AI9 (show x.drop a=[]by rw[List.drop_eq_nil_iff];omega)]
  rfl
theorem sJ{x:AAZ}{w:AA}(hx:x.length<=20000):∀(m a i g:Nat) {l:List AAZ},i+m=x.length->a<=i->l.length<=a->(∀c∈(x.drop a).take (i-a),c≠10)->sL (g+m+1) x (a:Int) (i:Int) w l=sE g w (P_ (l++pieces (x.drop a)))
 |0,a,i,g,l,hi,ha,hl,hc=>by
  have:i=x.length:=by omega
  subst this;rw[show(x.drop a).take (x.length-a)=x.drop a from ANm (by simp)]at hc;rw[kR hc,ABG];exact AK4 hx (by omega) (by omega)
 |m+1,a,i,g,l,hi,ha,hl,hc=>by
  have IQ:i<x.length:=by omega
  have hgd:x.getD i 0=x[i]:=TP IQ;have wo:x.drop a=(x.drop a).take (i-a)++x[i]::x.drop (i+1):=by
   conv=>lhs;rw[<-List.take_append_drop (i-a) (x.drop a)]
   rw[List.drop_drop,show a+(i-a)=i by omega,AO5 IQ]
  rw[show g+(m+1)+1=(g+m+1)+1 by omega,ACA];unfold MW;simp only[AB];rw[AI9 (by omega),AI9 (by omega),AJT,hgd,AH (x:=(i:Int)+1) (by omega) (by omega),show(i:Int)+1=((i+1:Nat):Int)by omega];by_cases h10:x[i]=10
  ·rw[show(((x[i].toNat:Nat):Int)==10)=true by rw[h10];rfl,AJy,AI9 (by omega),AI9 (by rw[Ap];omega),AJT]
   have ih:=sJ (w:=w) hx m (i+1) (i+1) g (l:=l++[(x.drop a).take (i-a)]) (by omega) (by omega) (by simp;omega) (fun c fZ=>by rw[ATT]at fZ;simp at fZ);refine ih.trans ?_
   rw[h10]at wo
   conv=>rhs;rw[wo]
   rw[qt hc,AKK];rfl
  ·have WJ:((x[i].toNat:Nat):Int)≠10:=fun e=>h10 (UInt8.toNat_inj.1 (by rw[show((10:UInt8).toNat)=10 from rfl];omega))
   rw[AKA.2 WJ,AJQ];refine sJ (w:=w) hx m a (i+1) g (by omega) (by omega) hl (fun c fZ=> ?_);rw[show i+1-a=(i-a)+1 by omega,List.take_add_one,ALk]at fZ;rcases fZ with fZ|fZ
   ·exact hc c fZ
   ·rw[AP4,show a+(i-a)=i by omega,AJA IQ]at fZ
    simp only[Option.toList_some,ALa,List.not_mem_nil,or_false]at fZ;rw[fZ];exact h10
theorem zG{l:List AAZ}(h:l≠[]):l.getLast? =some (l.getD (l.length-1) []):=by
 have:0<l.length:=ATI.2 h;rw[List.getLast?_eq_getElem?,AJA (by omega),TP (by omega)]
theorem kU{c:CK}(hl:c.1.length<=2^20)(hc:Ee c=false):ED c=some (((((),0,(),(),(),0,(),(),(),(),false,()),false,()),()),([],[],[],[],[],[],[],[],())):=by
 unfold ED Jb;rw[show(c.1,c.2.1,())=c from rfl,Q_ (by omega)];simp only[AD];rw[AI9 ⟨by omega,by omega,by rw[Ap];omega⟩];unfold Cw;rw[show(c.1,c.2.1,())=c from rfl,JO (by omega),hc];rfl
theorem j4{c:CK}(hl:c.1.length<=2^20)(hc:Ee c=false):∃u,HV c=some u/\u.1.1.2.1=false:=by
 unfold HV;rw[show(c.1,c.2.1,())=c from rfl,Fz (by omega),hc];exact⟨_,rfl,rfl⟩
theorem AMg{c:CK}(hc:Ee c=true):Sn (JT c) 0:=⟨(og hc).1,AL6,xr,by show Ae Ax [((1,1,[],()):Ac),(1,1,[],())]<=_;decide⟩
theorem cw{c:CK}{x:AAZ}{r:Option Jc}(hx:x.length<=1048576)(h:∀l,l=P_ (pieces x)->
  ((
   ED c).bind fun u9=>cond ((decide ((x.length:Int)>20000))) (some ((([],(-1),()),()),())) (cond (!u9.1.1.2.1) (some ((([],(-1),()),()),())) (cond (decide ((l.length:Int)>200)) (some ((([],(-2),()),()),()))
   (JF AX l [] l (l.length:Int) 0 u9.1.1.1.2.1 u9.1.1.1.2.2.2.2.2.1 u9.1.1.1.2.2.2.2.2.2.2.2.2.2.1 u9.2.1 u9.2.2.1 u9.2.2.2.1 u9.2.2.2.2.1 u9.2.2.2.2.2.1 u9.2.2.2.2.2.2.1 u9.2.2.2.2.2.2.2.1 u9.2.2.2.2.2.2.2.2.1))))=r):Mk c x=r:=by
 have WJ:=nM (l:=x);have xp:=(iY (l:=x)).1;have AGe:0<(pieces x).length:=ATI.2 WJ;unfold Mk ZE strings_Split Go.Fw.xe;rw[AI9 ⟨by omega,by simp⟩,show Go.Lib.split x [10]=pieces x from k9];simp only[AQn,AD];rw[AH (x:=((pieces x).length:Int)-1) (by omega) (by omega),AI9 ⟨by omega,by omega⟩,show(((pieces x).length:Int)-1).toNat=(pieces x).length-1 by omega,show(c.1,c.2.1,())=c from rfl];have qb:=zG WJ;cases he:(pieces x).getD ((pieces x).length-1) []==[]with
 |true=>
  rw[APF]at he;rw[AJy,AI9 ⟨by omega,by omega,by omega⟩];refine h _ ?_
  unfold P_;rw[qb,he,AI9 rfl,AOn,Nat.sub_zero,List.dropLast_eq_take]
 |false=>
  rw[AKA]at he;rw[AJQ];refine h _ ?_
  unfold P_;rw[qb,AJD (by simpa using he)]
theorem uG{c:CK}(hc:c.1.length<=2^20){x:AAZ}(hx:x.length<=1048576):(∃n:Int,n<0/\Mk c x=some ((([],n,()),()),())/\Ps c x=some ((([],n,()),()),()))\/
  (Ee c=true/\x.length<=20000/\(P_ (pieces x)).length<=200/\ ∃r:List UInt8,sI AX (P_ (pieces x)) [] 0 (JT c)=some (((r,((P_ (pieces x)).length:Int),()),()),())/\
   Mk c x=some (((r,((P_ (pieces x)).length:Int),()),()),())/\Ps c x=some (((r,((P_ (pieces x)).length:Int),()),()),())):=by
 unfold Ps YG;rw[show(c.1,c.2.1,())=c from rfl];cases DX:Ee c with
 |false=>
  obtain⟨u,u1,u2⟩:=j4 hc DX;refine .inl ⟨-1,by decide,cw hx fun l hl=> ?_,?_⟩
  ·rw[kU hc DX]
   simp only[AD];cases decide ((x.length:Int)>20000)<;>rfl
  ·rw[u1]
   simp only[AD];rw[u2];rfl
 |true=>
  have h8:=(HJ DX).2.1;have hi:=mD (c:=c) (by omega);rw[DX,AI9 rfl]at hi;rw[l9 DX];simp only[AD,AJX,AJQ,AB];by_cases h20:(x.length:Int)>20000
  ·rw[AI9 h20]
   refine .inl ⟨-1,by decide,cw hx fun l hl=> ?_,rfl⟩;rw[hi];simp only[AD];rw[ALg h20];rfl
  rw[AJD h20];have hL:=sJ (x:=x) (w:=JT c) (by omega) x.length 0 0 (AX-x.length-1) (l:=[]) (by omega) (by omega) (by simp) (fun c fZ=>by simp at fZ);rw[show AX-x.length-1+x.length+1=AX by have:=Ab (n:=30000) (by omega);omega,AOi,AOn]at hL;have hlen:=(iY (l:=x)).2;have vd:∀p∈P_ (pieces x),p.length<=20000:=fun p hp=>by
   have:p∈pieces x:=by
    unfold P_ at hp;split at hp
    ·exact(List.dropLast_sublist _).subset hp
    ·exact hp
   have:=hlen p this;omega
  by_cases h200:((P_ (pieces x)).length:Int)>200
  ·refine .inl ⟨-2,by decide,cw hx fun l hl=> ?_,?_⟩
   ·subst hl
    rw[hi];simp only[AD];rw[ANS h20,AJQ,AJX,AJQ,ALg h200];rfl
   ·refine hL.trans ?_
    unfold sE;rw[AI9 h200]
  ·obtain⟨r,r1,r2⟩:=nq (B:=1000101) rfl (l:=P_ (pieces x)) (by omega) vd (P_ (pieces x)).length 0 AX (AX-x.length-1) (t:=[]) (w:=JT c) (by omega) (Ab (by omega)) (by have:=Ab (n:=30000) (by omega);omega) (AMg DX) (by simp)
   refine .inr ⟨by trivial,by omega,by omega,r,r1,cw hx fun l hl=> ?_,?_⟩
   rotate_left
   ·refine hL.trans ?_
    unfold sE;rw[AJD h200];exact r2
   ·subst hl
    rw[hi];simp only[AD];rw[ANS h20,AJQ,AJX,AJQ,ANS h200,AJQ];exact r1
theorem xc{c:CK}(hc:c.1.length<=2^20){x:AAZ}(hx:x.length<=1048576):∃r:Jc,Mk c x=some r/\Ps c x=some r:=by
 rcases uG hc hx with⟨n,_,h1,h2⟩|⟨_,_,_,r,_,h1,h2⟩
 ·exact⟨_,h1,h2⟩
 ·exact⟨_,h1,h2⟩
theorem gv{c:CK}{x:AAZ}(hv:Go.Fw.Vd Go.M.H.rk c)(hx:Go.Fw.Vd .str x):IY c x=some ((true,()),()):=by
 unfold IY;simp only[AB];by_cases hs:(x.length:Int)>1048576
 ·rw[AI9 hs]
 rw[AJD hs,show(c.1,c.2.1,())=c from rfl];obtain⟨k1,e1,s1⟩:=H.zy hv (k:=1048576) (by omega) (by omega);rw[e1];simp only[AKD];by_cases n1:k1<0
 ·rw[AI9 n1]
 rw[AJD n1];have hw:H.cv c<=2^20:=by omega
 have pV:c.1.length<=2^20:=hw;rw[H.yk (by omega)];simp only[AKD];obtain⟨r,r1,r2⟩:=xc pV (x:=x) (by omega);rw[show(c.1,c.2.1,())=c from rfl,r1,r2];simp only[AKD];rw[AO_,bne_self_eq_false,H.zD (by omega)];rfl
end Go.M
end
