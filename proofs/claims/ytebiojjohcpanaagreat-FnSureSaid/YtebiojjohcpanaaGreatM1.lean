/- Plain facts on what the functions compute. -/
import Derived.Test.YtebiojjohcpanaaGreatM0
set_option linter.unusedVariables false
set_option linter.unusedSimpArgs false
set_option linter.unusedSectionVars false
section
set_option maxRecDepth 8000
namespace Go.M
open Go.M.H (AJ AN Au Ac AA CX AQ A9 AM Ab BG As BO An Ca Af AW AZ Ar CL BU Ax BD Es Ch DF DN)
theorem tP{a b:Nat}(h:a+b<2^40):AX ((IntKind.wrap .u64 (AX ((a:Int)+(b:Int)))).fdiv (2^1))=(((a+b)/2:Nat):Int):=by
 grind[AL,IntKind.wrap,IntKind.bits,IntKind.signed,Int.fdiv_eq_ediv_of_nonneg]
structure ic {α:Type} (f:α→Int) (p:Int) (l:List α) (q:Nat):Prop where
 le:q≤l.length
 lt:∀(i:Nat) (h:i<l.length),i<q→f l[i]<p
 ge:∀(i:Nat) (h:i<l.length),q≤i→p≤f l[i]
theorem ai{α:Type}{f:α→Int}{l:List α}(h:S8 f l){i j:Nat}(hi:i<l.length)(hj:j<l.length)(hij:i≤j):f l[i]≤f l[j]:=by
 grind[Int.le_of_lt,List.pairwise_iff_getElem]
theorem cy{l:List AJ}(ha:WD l)(hl:l.length≤2^30)(p:Int):∃q,ic (fun e:AJ=>e.1) p l q∧
  Ru l p=some ((((q:Int),(match l[q]? with|some e=>e.1==p|none=>false),()),()),()):=by
 have key:∀(n a b:Nat),a≤b→b≤l.length→b-a<n→(∀(i:Nat) (h:i<l.length),i<a→l[i].1<p)→(∀(i:Nat) (h:i<l.length),b≤i→p≤l[i].1)→
   ∃q,ic (fun e:AJ=>e.1) p l q∧A0 n l p l.length a b=some ((((q:Int),(match l[q]? with|some e=>e.1==p|none=>false),()),()),()):=by
  intro n
  induction n with
  |zero=>omega
  |succ n ih=>
   intro a b qy hb hn h1 h2;simp only[A0,Cv,AB,SI];by_cases Jq:a<b
   ·have hm:(a+b)/2<l.length:=by omega
    rw[ALI (by omega),tP (by omega),ALI (by omega),Ak hm];by_cases hc:l[(a+b)/2].1<p
    ·rw[ALI hc]
     simp only[AD];rw[ALI (by omega),AL (by omega) (by omega),show((((a+b)/2:Nat):Int)+1)=(((a+b)/2+1:Nat):Int)by omega];refine ih _ b (by omega) hb (by omega) (fun i h hi=> ?_) h2;exact Int.lt_of_le_of_lt (ai (f:=fun e:AJ=>e.1) ha h hm (by omega)) hc
    ·rw[ALT hc]
     have hge:∀(i:Nat) (h:i<l.length),(a+b)/2≤i→p≤l[i].1:=fun i h hi=>Int.le_trans (by omega) (ai (f:=fun e:AJ=>e.1) ha hm h hi)
     by_cases hd:l[(a+b)/2].1>p
     ·rw[ALI hd]
      simp only[AD];rw[ALT (by omega)];exact ih a _ (by omega) (by omega) (by omega) h1 hge
     ·rw[ALT hd]
      simp only[AD];rw[ALT (by omega)];exact ih a _ (by omega) (by omega) (by omega) h1 hge
   ·have ADA:a=b:=by omega
    subst ADA;refine⟨a,⟨hb,h1,h2⟩,?_⟩;rw[ALT (by omega)];by_cases ha':a<l.length
    ·have:=h2 a ha' (APz _)
     rw[ALI (by omega),ALI (by omega),Ak ha',ALR ha',ALT (by omega)];by_cases hd:l[a].1>p
     ·simp_all;omega
     grind
    grind
 obtain⟨q,hq,e⟩:=key Ae 0 l.length (by omega) (by omega) (Ag (by omega)) (fun i h hi=>by omega) (fun i h hi=>by omega);refine⟨q,hq,?_⟩;unfold Ru CF Ct;simp_all
theorem ic.get_eq{p:Int}{l:List AJ}{q:Nat}(h:ic (fun e:AJ=>e.1) p l q)(ha:WD l):EA p l=match l[q]? with|some e=>if e.1=p then some e else none|none=>none:=by
 by_cases hq:q<l.length
 ·rw[ALR hq]
  dsimp only;by_cases he:l[q].1=p
  ·rw[ALI he,←he]
   exact Lt ha (AL5 hq)
  ·rw[ALT he]
   cases hg:EA p l with
   |none=>rfl
   |some x=>
    obtain⟨hm,hx⟩:=Gr hg;obtain⟨i,hi,rfl⟩:=AQU hm;exfalso;have h2:=h.ge q hq (APz _);rcases Nat.lt_or_ge i q with hiq|hiq
    ·have:=h.lt i hi hiq
     omega
    ·have:=ai (f:=fun e:AJ=>e.1) ha hq hi hiq
     omega
 ·rw[ASu (by omega)]
  dsimp only;cases hg:EA p l with
  |none=>rfl
  |some x=>
   obtain⟨hm,hx⟩:=Gr hg;obtain⟨i,hi,rfl⟩:=AQU hm;have:=h.lt i hi (by omega);omega
theorem Oe{s:AN}(h0:An s≤2^30)(h1:qR s)(p:Int):Fb s p=some (((match UO s p with|some e=>(e,true,())|none=>((0,0,false,[],()),false,())),()),()):=by
 unfold Fb UO;rw[show(s.1,s.2.1,s.2.2.1,())=s from rfl,Ex h0 h1];simp only[AD];rcases AK7 (CE s)with Bz|Bz
 rotate_left
 ·simp_all
 have hs:=DC.1 Bz;have hn:=hs.nk;obtain⟨q,hq,e⟩:=cy hs.gf (by omega) p;rw[Bz,e,ALI rfl,hq.get_eq hs.gf];grind
theorem Hy{e o:Int}:Dn e o=some (((GW e o,BK e 1 30&&BK o 1 60,()),()),()):=by
 unfold Dn HS XD GW;rw[Ay,Ay];simp only[AD];rcases AK7 (BK e 1 30)with he|he
 rotate_left
 ·simp_all
 rcases AK7 (BK o 1 60)with ho|ho
 rotate_left
 ·simp_all
 rw[he,ho];have h1:=Ai.1 he;have h2:=Ai.1 ho;simp only[ALu,ALz,Bool.and_self,ASe];rw[AL (x:=4294967296*e) (by omega) (by omega),AL (by omega) (by omega)];rfl
theorem X4{k:Int}:He k=some (((),()),(Ao k,())):=by
 unfold He UI Ao;rw[Ay];simp only[AD];rcases AK7 (BK k 0 255)with hk|hk
 rotate_left
 ·simp_all
 rw[hk,ALI rfl];have hk':=Ai.1 hk;have key:∀(n i:Nat) (b:AAH),i≤8→8-i<n→b.length≤i→
   KP n k i b=some (((),()),(b++(([0,1,2,3,4,5,6,7]:AAH).drop i).filter (fun i=>(k/2^i.toNat)%2==1),())):=by
  intro n
  induction n with
  |zero=>omega
  |succ n ih=>
   intro i b hi h hb;simp only[KP,T9,AB];by_cases De:i<8
   ·have ABW:=uT (k:=k) (i:=i) (by omega) (by omega)
    rw[ALI (show(i:Int)<8 by omega),ALT (by omega),AL2,rX i De,ASf,AL2,AL (by omega) (by omega),show((i:Int)+1)=((i+1:Nat):Int)by omega];rw[ABW];simp only[AB];have c2:b.length+1≤Ds:=by rw[BT];omega
    by_cases z6:(k/2^i)%2=1
    ·rw[ALI z6,ALI c2,ALI (by simp_all),ih (i+1) _ (by omega) (by omega) (by simp_all),AM4]
     rfl
    grind
   ·have:i=8:=by omega
    simp_all
 have:=key Ae 0 [] (by omega) (Ag (by omega)) (by simp);simp_all
theorem Oc{r:AQ}(h:Af CL r.1≤2^30){e:Int}(he:DJ e):Il r e=some (((),()),(Ap r.1 e,())):=by
 unfold Il Ap;have hl:=AW (f:=CL) (l:=r.1);rw[Ay];simp only[AD];rcases AK7 (BK e 1 r.1.length)with hk|hk
 rotate_left
 ·simp_all
 rw[hk,ALI rfl];have hk':=Ai.1 hk;have hm:=AZ (f:=CL) (BV (d:=GL) (i:=(e-1).toNat) (by omega:(e-1).toNat<r.1.length));have hw:CL (r.1.getD (e-1).toNat GL)=(r.1.getD (e-1).toNat GL).1.length:=rfl;rw[AL (by omega) (by omega)];simp only[ALu,ALz];rw[ALI (by omega),show(r.1.getD (e-1).toNat ([],false,0,()))=r.1.getD (e-1).toNat GL from rfl,Dm (by omega)];rfl
theorem LU{w:AA}(h1:w.Aj.length≤2^30)(h2:w.lost.length≤2^30){n:Int}:EM w n=some ((Al w n,()),()):=by
 unfold EM Al;have h1':w.2.2.1.length≤2^30:=h1;rw[AL (by omega) (by omega),Ay,Zl (by grind)];grind
theorem Ot{b:Bool}:J0 b=some ((if b then 0 else 4,()),()):=by cases b<;>rfl
theorem fW{x:AM}(h:x.2.1.length≤2^30):P3 x=some (((U5 x.2.1:Int),()),()):=by
 have key:∀(n i:Nat),i≤x.2.1.length→x.2.1.length-i<n→i+U5 (x.2.1.drop i)=U5 x.2.1→JP n x.2.1 x.2.1.length i x.1 x.2.1=some (((U5 x.2.1:Int),()),()):=by
  intro n
  induction n with
  |zero=>omega
  |succ n ih=>
   intro i hi hn hs;simp only[JP,Sd,AB];by_cases hc:i<x.2.1.length
   ·rw[drop_cons hc]at hs
    simp only[U5]at hs;rw[ALI (by omega),ALI (by omega),Ak hc,AL (by omega) (by omega),show((i:Int)+1)=((i+1:Nat):Int)by omega];cases hd:x.2.1[i].2.2.1 with
    |true=>
     grind
    |false=>
     simp_all
   ·rw[AMI (by omega)]at hs
    simp only[U5]at hs;grind
 grind[P3,Sv,Ae,Ag]
theorem oN{w:AA}(h:jX w)(e:Int):Qm w e=some ((Uy w e,()),()):=by
 have xQ:=h.OJ;have hl:=h.lens;have key:∀(n i:Nat),i≤w.AH.length→w.AH.length-i<n→N5 n e w.AH w.AH.length i=some (((match(w.AH.drop i).find? (fun x=>x.1==e)with|some x=>(U5 x.2.1:Int)|none=>0),()),()):=by
  intro n
  induction n with
  |zero=>omega
  |succ n ih=>
   intro i hi hn;simp only[N5,YC,AB];by_cases hc:i<w.AH.length
   ·have ZL:i<w.2.2.2.2.2.2.1.length:=hc
    have hm:Ax w.AH[i]≤Af Ax w.2.2.2.2.2.2.1:=AZ (f:=Ax) (AL5 hc);have hw:Ax w.AH[i]=Af BU w.AH[i].2.1:=rfl;have hlw:=AW (f:=BU) (l:=w.AH[i].2.1);rw[ALI (by omega),ALI (by omega),Ak hc,AL (by omega) (by omega),show((i:Int)+1)=((i+1:Nat):Int)by omega,drop_cons hc,AUO,show(w.AH[i].1,w.AH[i].2.1,())=w.AH[i]from rfl,fW (by omega),ih (i+1) (by omega) (by omega)];cases w.AH[i].1==e<;>rfl
   grind
 grind[Qm,YO,Uy,Ae,Ag]
end Go.M
end
section
set_option maxRecDepth 8000
namespace Go.M
open Go.M.H (AJ AN Au Ac AA CX AQ A9 AM Ab BG As BO An Ca Af AW AZ Ar CL BU Ax BD Es Ch DF DN)
theorem vS{x:Int}{t:ACb}(h:t.1.length≤2^30):Q5 x t=some ((!t.1.contains x,()),()):=by
 grind[Q5,It]
theorem lL{x:Int}{t:ABp}:ML x t=some ((x==t.1,()),()):=rfl
theorem mZ{t:ACb×Unit}(h:t.1.1.length≤2^30){l:AAH}(hl:l.length≤2^30):Cq t l=some (((),()),((),l.filter (fun x=> !(!t.1.1.contains x)),())):=by
 have key:∀(n i j:Nat) (b:AAH),i≤j→j≤b.length→b.length≤2^30→b.length-j<n→B3 n t i j b=some (((),()),((),b.take i++(b.drop j).filter (fun x=> !(!t.1.1.contains x)),())):=by
  intro n
  induction n with
  |zero=>omega
  |succ n ih=>
   intro i j b hij hj hb hn;simp only[B3,Dw,AB];by_cases hc:j<b.length
   ·rw[ALI (by omega),ALI (by omega),Ak hc,vS h]
    simp only[AD];rw[AL (x:=(j:Int)+1) (by omega) (by omega),AL (x:=(i:Int)+1) (by omega) (by omega),show((j:Int)+1)=((j+1:Nat):Int)by omega,show((i:Int)+1)=((i+1:Nat):Int)by omega,drop_cons hc,ASf];have n1:=ih (i+1) (j+1) (b.set i b[j]) (by omega) (by grind) (by simp_all) (by grind);have n2:=ih i (j+1) b (by omega) (by omega) hb (by omega);rw[show(t.1,())=t from rfl,n2];rw[AW_ (by omega),ASo (by grind),AXA (APz _),AWk,AM4,AS8]at n1;rw[ALI (by omega),AL2,n1]
    generalize hx:b[j]=x
    cases(!t.1.1.contains x)<;>rfl
   ·rw[ALT (by omega),AMI (i:=j) (by omega),AL2,AL2]
    simp_all;omega
 have fnd:∀(n i:Nat),i≤l.length→l.length-i<n→ ∃r:Int,CA n l t l.length i=some ((r,()),())∧((r= -1∧(l.drop i).filter (fun x=> !(!t.1.1.contains x))=l.drop i)∨ ∃q:Nat,r=q∧i≤q∧q<l.length∧((l.take q).drop i).filter (fun x=> !(!t.1.1.contains x))=(l.take q).drop i∧ ∀(h:q<l.length) x,x=l[q]→(!t.1.1.contains x)=true):=by
  intro n
  induction n with
  |zero=>omega
  |succ n ih=>
   intro i hi hn;simp only[CA,D4,AB];by_cases hc:i<l.length
   ·rw[ALI (by omega),ALI (by omega),Ak hc,vS h]
    simp only[AD];rw[AL (x:=(i:Int)+1) (by omega) (by omega),show((i:Int)+1)=((i+1:Nat):Int)by omega,show(t.1,())=t from rfl];obtain⟨r,e,hr⟩:=ih (i+1) (by omega) (by omega);rw[e]
    generalize hx:l[i]=x
    cases hp:(!t.1.1.contains x)with
    |true=>
     grind
    |false=>
     refine⟨r,rfl,?_⟩;rcases hr with⟨h1,h2⟩|⟨q,h1,h2,h3,h4,h5⟩
     ·grind[drop_cons]
     ·refine .inr ⟨q,h1,by omega,h3,?_,h5⟩
      grind[drop_cons]
   grind
 obtain⟨r,e,hr⟩:=fnd Ae 0 (by omega) (Ag (by omega));rw[show((0:Nat):Int)=0 from rfl]at e;unfold Cq Dy Di D8;rw[show(t.1,())=t from rfl,e];simp only[AD];rcases hr with⟨h1,h2⟩|⟨q,h1,h2,h3,h4,h5⟩
 ·grind
 ·rw[h1,APa.2 (by omega),ALz,AL (by omega) (by omega),show((q:Int)+1)=((q+1:Nat):Int)by omega,key Ae q (q+1) l (by omega) (by omega) hl (Ag (by omega))]
  rw[ASi]at h4;have hd:=h5 h3 _ rfl;grind[List.take_append_drop,drop_cons]
theorem aV{t:ACi}{l:AAH}(hl:l.length≤2^30):Cp t l=some (((),()),((),l.filter (fun x=> !(x==t.1.1)),())):=by
 have key:∀(n i j:Nat) (b:AAH),i≤j→j≤b.length→b.length≤2^30→b.length-j<n→Bw n t i j b=some (((),()),((),b.take i++(b.drop j).filter (fun x=> !(x==t.1.1)),())):=by
  intro n
  induction n with
  |zero=>omega
  |succ n ih=>
   intro i j b hij hj hb hn;simp only[Bw,Eg,AB];by_cases hc:j<b.length
   ·rw[ALI (by omega),ALI (by omega),Ak hc,lL]
    simp only[AD];rw[AL (x:=(j:Int)+1) (by omega) (by omega),AL (x:=(i:Int)+1) (by omega) (by omega),show((j:Int)+1)=((j+1:Nat):Int)by omega,show((i:Int)+1)=((i+1:Nat):Int)by omega,drop_cons hc,ASf];have n1:=ih (i+1) (j+1) (b.set i b[j]) (by omega) (by grind) (by simp_all) (by grind);have n2:=ih i (j+1) b (by omega) (by omega) hb (by omega);rw[show(t.1,())=t from rfl,n2];rw[AW_ (by omega),ASo (by grind),AXA (APz _),AWk,AM4,AS8]at n1;rw[ALI (by omega),AL2,n1]
    generalize hx:b[j]=x
    cases(x==t.1.1)<;>rfl
   ·rw[ALT (by omega),AMI (i:=j) (by omega),AL2,AL2]
    simp_all;omega
 have fnd:∀(n i:Nat),i≤l.length→l.length-i<n→ ∃r:Int,B6 n l t l.length i=some ((r,()),())∧((r= -1∧(l.drop i).filter (fun x=> !(x==t.1.1))=l.drop i)∨ ∃q:Nat,r=q∧i≤q∧q<l.length∧((l.take q).drop i).filter (fun x=> !(x==t.1.1))=(l.take q).drop i∧ ∀(h:q<l.length) x,x=l[q]→(x==t.1.1)=true):=by
  intro n
  induction n with
  |zero=>omega
  |succ n ih=>
   intro i hi hn;simp only[B6,E9,AB];by_cases hc:i<l.length
   ·rw[ALI (by omega),ALI (by omega),Ak hc,lL]
    simp only[AD];rw[AL (x:=(i:Int)+1) (by omega) (by omega),show((i:Int)+1)=((i+1:Nat):Int)by omega,show(t.1,())=t from rfl];obtain⟨r,e,hr⟩:=ih (i+1) (by omega) (by omega);rw[e]
    generalize hx:l[i]=x
    cases hp:(x==t.1.1)with
    |true=>
     grind
    |false=>
     refine⟨r,rfl,?_⟩;rcases hr with⟨h1,h2⟩|⟨q,h1,h2,h3,h4,h5⟩
     ·grind[drop_cons]
     ·refine .inr ⟨q,h1,by omega,h3,?_,h5⟩
      grind[drop_cons]
   grind
 obtain⟨r,e,hr⟩:=fnd Ae 0 (by omega) (Ag (by omega));rw[show((0:Nat):Int)=0 from rfl]at e;unfold Cp Er Dx E7;rw[show(t.1,())=t from rfl,e];simp only[AD];rcases hr with⟨h1,h2⟩|⟨q,h1,h2,h3,h4,h5⟩
 ·grind
 ·rw[h1,APa.2 (by omega),ALz,AL (by omega) (by omega),show((q:Int)+1)=((q+1:Nat):Int)by omega,key Ae q (q+1) l (by omega) (by omega) hl (Ag (by omega))]
  rw[ASi]at h4;have hd:=h5 h3 _ rfl;grind[List.take_append_drop,drop_cons]
theorem aZ{a b:AAH}(ha:a.length≤2^30)(hb:b.length≤2^30):Mx a b=some (((),()),(a.filter b.contains,())):=by
 unfold Mx;rw[Dm ha];simp only[AD];rw[mZ hb ha];grind
theorem PJ{a:AAH}{x:Int}(ha:a.length≤2^30):HP a x=some (((),()),(less a [x],())):=by
 unfold HP less;rw[Dm ha];simp only[AD];rw[aV ha];grind
theorem pX{d:BO}:Xs d=some ((PG d,()),()):=by
 obtain⟨k,a,b,n,t,⟨⟩⟩:=d;obtain⟨m,hm⟩:∃m,Ae=m+4:=⟨Ae-4,by have:=aF;omega⟩;have fin:∀(a' b' n':Int) (t':ABs),(((A4 k 1 16).bind fun u4=>cond (u4.1.1) (cond ((((0:Int)==0)&&((a' ==0)&&((b' ==0)&&((n' ==0)&&((t' ==[])&&true))))) ) ((F7 t).bind fun u6=>some ((u6.1.1,()),())) (some ((false,()),()))) (some ((false,()),()))):Option PS)=some ((BK k 1 16&&((a' ==0)&&((b' ==0)&&((n' ==0)&&((t' ==[])&&decide (t.length≤40))))),()),()):=by
  intro a' b' n' t';rw[Ay];simp only[AD,F7,AW5,AMD,AS4];have e:decide ((t.length:Int)≤40)=decide (t.length≤40):=by grind
  grind
 unfold Xs Xr aU PG dq;rw[hm];have h1:((1:Nat):Int)=1:=rfl;have w1:AX (1:Int)=1:=AL (by omega) (by omega);have w2:AX (2:Int)=2:=AL (by omega) (by omega);have w3:AX (3:Int)=3:=AL (by omega) (by omega);have lim:(3:Nat)≤Ds:=by rw[BT];omega
 have l0:(0:Nat)≤Ds:=by omega
 have l1:(1:Nat)≤Ds:=by omega
 have l2:(2:Nat)≤Ds:=by omega
 dsimp only;by_cases k8:k=8
 ·subst k8
  simpa[Dl,DS]using fin a b n t
 by_cases k10:k=10
 ·subst k10
  simpa[Dl,DS]using fin a b n t
 by_cases k12:k=12
 ·subst k12
  simpa[Dl,DS]using fin a b n t
 by_cases k2:k=2
 ·subst k2
  simpa[Dl,DS,l2,w1,w2]using fin 0 b n []
 by_cases k3:k=3
 ·subst k3
  simpa[Dl,DS,lim,w1,w2,w3]using fin 0 0 0 t
 by_cases k5:k=5
 ·subst k5
  simpa[Dl,DS,l2,w1,w2]using fin 0 0 n t
 by_cases k14:k=14
 ·subst k14
  simpa[Dl,DS,l2,w1,w2]using fin 0 0 n t
 by_cases k11:k=11
 ·subst k11
  simpa[Dl,DS,l2,w1,w2]using fin a 0 0 t
 by_cases k13:k=13
 ·subst k13
  simpa[Dl,DS,l1,w1]using fin 0 b n t
 have e8:(k==8)=false:=APa.2 k8;have e10:(k==10)=false:=APa.2 k10;have e12:(k==12)=false:=APa.2 k12;have e2:(k==2)=false:=APa.2 k2;have e3:(k==3)=false:=APa.2 k3;have e5:(k==5)=false:=APa.2 k5;have e14:(k==14)=false:=APa.2 k14;have e11:(k==11)=false:=APa.2 k11;have e13:(k==13)=false:=APa.2 k13;simpa[k8,k10,k12,k2,k3,k5,k14,k11,k13,e8,e10,e12,e2,e3,e5,e14,e11,e13,Dl,DS,l1,w1]using fin 0 b n t
end Go.M
end
section
set_option maxRecDepth 8000
namespace Go.M
open Go.M.H (AJ AN Au Ac AA CX AQ A9 AM Ab BG As BO An Ca Af AW AZ Ar CL BU Ax BD Es Ch DF DN)
theorem ly{l:List As}(hl:l.length≤2^20):Of l=some (((),()),(l.map (fun a=>a.1),())):=by
 have key:∀(n i:Nat) (b:AAH),i≤l.length→l.length-i<n→b.length=i→Mf n l l.length i b=some (((),()),(b++(l.drop i).map (fun a=>a.1),())):=by
  intro n
  induction n with
  |zero=>omega
  |succ n ih=>
   intro i b hi h hb;simp only[Mf,XA,AB];by_cases ZL:i<l.length
   ·have c1:(0:Int)≤(i:Int)∧(i:Int)<(l.length:Int):=by omega
    have c2:b.length+1≤Ds:=by rw[BT];omega
    rw[ALI c1.2,ALI c1,ALI c2,AL (by omega) (by omega),show((i:Int)+1)=((i+1:Nat):Int)by omega,Ak ZL,ih (i+1) _ (by omega) (by omega) (by simp_all),drop_cons ZL];grind
   grind
 unfold Of Wi;have:=key Ae 0 [] (by omega) (Ag (by omega)) rfl;simp_all
theorem ue{c:CK}{s l:AAH}(hc:c.1.length≤2^40)(hl:l.length≤2^20)(hs:s.length≤2^20):dd c s l=some (((),()),(if Aw c s&&Aw c l then less s l else[],())):=by
 have key:∀(n i:Nat) (b:AAH),i≤s.length→s.length-i<n→b.length≤i→SH n l s s.length i b=some (((),()),(b++less (s.drop i) l,())):=by
  intro n
  induction n with
  |zero=>omega
  |succ n ih=>
   intro i b hi h hb;simp only[SH,bm,AB,A3];by_cases ZL:i<s.length
   ·have c1:(0:Int)≤(i:Int)∧(i:Int)<(s.length:Int):=by omega
    have c2:b.length+1≤Ds:=by rw[BT];omega
    rw[ALI c1.2,ALI c1,Ak ZL,It (by omega),AL (by omega) (by omega),show((i:Int)+1)=((i+1:Nat):Int)by omega,drop_cons ZL];simp only[AD,ALI c2];rw[ih (i+1) b (by omega) (by omega) (by omega),ih (i+1) (b++[s[i]]) (by omega) (by omega) (by simp_all)];grind[less]
   ·rw[ALT (by omega),AMI (by omega)]
    simp[less]
 unfold dd bh;rw[show(c.1,c.2.1,())=c from rfl,EB hc (by omega),EB hc (by omega)];simp only[AD];cases Aw c s with
 |false=>rfl
 |true=>
  cases Aw c l with
  |false=>rfl
  |true=>
   have:=key Ae 0 [] (by omega) (Ag (by omega)) (by simp);simp_all
theorem filter_all{l:AAH}{p:Int→Bool}:((((l.filter p).length:Nat):Int) !=(l.length:Int))= !l.all p:=by
 rw[Bool.eq_iff_iff];simp only[bne_iff_ne,ne_eq,ASY,AS1];grind[List.filter_eq_self,List.all_eq_true,List.length_filter_eq_length_iff]
theorem cN{c:CK}{s l:AAH}(hc:c.1.length≤2^40)(hl:l.length≤2^20)(hs:s.length≤2^20):G1 c s l=some ((JJ c s l,()),()):=by
 unfold G1 JJ;rw[show(c.1,c.2.1,())=c from rfl,EB hc (by omega),GO hc (by omega),aZ (by omega) (by omega),ue hc hl hs];simp only[AD,A3,filter_all];have hh:holds c s=true→Aw c s=true:=fun h=>by
  unfold holds at h;simp_all
 cases h1:Aw c l with
 |false=>simp
 |true=>
  cases h2:holds c s with
  |false=>rfl
  |true=>
   cases h3:l.all s.contains with
   |false=>rfl
   |true=>
    have h4:(less s l).length≤2^20:=ARE (ARK _ _) hs;rw[hh h2];simp only[AMJ,Bool.and_self,ASe,ALu,ALz,AMD];grind[GO]
theorem WC{a b:AJ}:Q2 a b=some ((better a b,()),()):=by
 unfold Q2 better;grind
theorem oQ{s:AAH}{p:Int}{l:List As}(hs:s.length≤2^20)(hl:l.length≤2^20)(O9:∀a∈l,DJ a.2.2.1):
  X2 l s p=some (((((FW s p none l).getD Dq),(FW s p none l).isSome,()),()),()):=by
 have key:∀(n i:Nat) (b:Option AJ),i≤l.length→l.length-i<n→
   OQ n s p b.isSome l l.length i 0 0 false [] (b.getD Dq).1 (b.getD Dq).2.1 (b.getD Dq).2.2.1 (b.getD Dq).2.2.2.1=some (((((FW s p b (l.drop i)).getD Dq),(FW s p b (l.drop i)).isSome,()),()),()):=by
  intro n
  induction n with
  |zero=>omega
  |succ n ih=>
   intro i b hi h;simp only[OQ,X9,AB,A3];by_cases ZL:i<l.length
   ·have c1:(0:Int)≤(i:Int)∧(i:Int)<(l.length:Int):=by omega
    rw[ALI c1.2,ALI c1,AL (by omega) (by omega),show((i:Int)+1)=((i+1:Nat):Int)by omega,Ak ZL,drop_cons ZL];have ih':=fun b=>ih (i+1) b (by omega) (by omega)
    simp only[ih'];rw[It (by omega),show(l[i].2.2.1,l[i].2.2.2.1,l[i].2.2.2.2.1,l[i].2.2.2.2.2.1,())=Ur l[i]from rfl];rw[Pq (e:=Ur l[i]) (O9 _ (AL5 ZL))];simp only[AD,FW];cases h1:l[i].2.1 with
    |false=>simp
    |true=>
     cases h2:s.contains l[i].1 with
     |false=>simp
     |true=>
      cases h3:EU (Ur l[i])with
      |false=>simp
      |true=>
       simp only[AMJ,AMD];by_cases h4:l[i].2.2.1=p
       ·rw[Cw,ALI h4,ALI (by show((Ur l[i]).1==p)=true;rw[ASy];exact h4)]
        cases b with
        |none=>
         simp only[ASr,ALz,WC,AD,Option.getD_none];have:=ih' (some (Ur l[i]));simp only[ASs,ASv]at this;have hb:better (Ur l[i]) (Ur l[i])=Ur l[i]:=by unfold better;simp_all
         simp_all
        |some x=>
         simp only[ASs,AMJ,ASv];rw[show(x.1,x.2.1,x.2.2.1,x.2.2.2.1,())=x from rfl];grind[WC,AD,better,Ur,Option.isSome_some]
       ·rw[Cw,ALT h4,ALT (by show¬((Ur l[i]).1==p)=true;rw[ASy];exact h4)]
   ·rw[ALT (by omega),AMI (by omega)]
    rfl
 unfold X2 X1;exact key Ae 0 none (by omega) (Ag (by omega))
theorem aO{s t:AAH}{p:Int}:∀{l:List As} {b:Option AJ},(∀a∈l,s.contains a.1=t.contains a.1)→FW s p b l=FW t p b l
 |[],b,_=>rfl
 |a::l,b,h=>by
  simp only[FW];rw[h a (by simp),aO (fun x hx=>h x (by simp[hx])),aO (fun x hx=>h x (by simp[hx]))]
theorem VQ{e:BG}{a b:Int}{l:List BG}(h:l.length≤2^30):E_ e a b l=some (((),()),((a,b,(),()),(),l++[e],())):=by
 unfold E_;rw[ALI (by rw[BT];omega)]
theorem dF{s:AAH}{l:List As}{a b:Int}{o:List BG}(ha:1≤a∧a≤30)(hb:1≤b∧b≤60)(ho:o.length≤2^20)(hs:s.length≤2^20)(hl:l.length≤2^20)(O9:∀a∈l,DJ a.2.2.1):
  C7 l s a b o=some (((),()),((a,b+1,(),()),(),o++[HK (D9 a b) (FW s (D9 a b) none l)],())):=by
 unfold C7;rw[Hy];have hp:GW a b=D9 a b:=by
  unfold GW;rw[ALI (by rw[ALp,Ai,Ai];omega)]
 simp only[AD];rw[hp,oQ hs hl O9];simp only[AD,VQ (ARE ho (by omega))];rw[AL (by omega) (by omega)];cases FW s (D9 a b) none l with
 |none=>rfl
 |some x=>
  simp only[ASs,ALu,ALz,ASv,HK];grind
theorem xw{x e o:Int}(hx:x=0∨BN x=true)(he:1≤e∧e≤31)(ho:1≤o∧o≤61):
  decide (x≥D9 e o)=(decide (x>0)&& !(decide (AO x<e)||((AO x==e)&&decide (A7 x<o)))):=by
 rcases hx with rfl|hx
 ·grind[decide_eq_false,D9]
 ·have h:=CJ hx
  rw[Bool.eq_iff_iff];simp only[ALp,ASY,Bool.or_eq_false_iff,AMC,AS_,Bool.and_eq_false_iff,APa];grind[D9]
theorem mL{x:Int}{r:Ab}(hx:DJ x):Vm x r=some ((decide (AO x<r.1)||((AO x==r.1)&&decide (A7 x<r.2.1)),()),()):=by
 grind[Vm,E4,Yk,AD,decide,AO]
end Go.M
end
section
set_option maxRecDepth 8000
namespace Go.M
open Go.M.H (AJ AN Au Ac AA CX AQ A9 AM Ab BG As BO An Ca Af AW AZ Ar CL BU Ax BD Es Ch DF DN)
theorem gI{c:CK}{g:AQ}{sure:Int}{r:Ab}{l:List As}(hc:c.1.length≤2^20)(hg:Af CL g.1≤2^20)(ht:DJ g.2.1)(hl:l.length≤2^20)(O9:∀a∈l,DJ a.2.2.1):
  Jz c g sure r l=some (xo (B4 c g sure r l)):=by
 unfold Jz B4;rw[show(c.1,c.2.1,())=c from rfl,show(g.1,g.2.1,())=g from rfl,show(r.1,r.2.1,r.2.2.1,())=r from rfl,ly hl,Mu (by omega) (by omega) ht,Z6];simp only[AD,A3,AB];rw[EB (by omega) (by grind)];simp only[AD];cases h1:Mk c g with
 |false=>rfl
 |true=>
 cases h2:Wp r with
 |false=>rfl
 |true=>
 cases h3:Aw c (l.map fun a=>a.1)with
 |false=>rfl
 |true=>
 have hr:=Qg.1 h2;have hre:=hr.ep;have hro:=hr.off;have hrn:=hr.n;have hR:=I1.1 h1;have hRn:=hR.n;simp only[AMJ,AMD,ALu,ALr,AOV];rw[W5 (by omega)];simp only[AD];by_cases h4:r.1>(g.1.length:Int)
 ·rw[ALI h4,ARd h4];rfl
 rw[ALT h4,ASq h4];by_cases h5:r.2.2.1.length=120
 ·rw[show(((r.2.2.1.length:Nat):Int)==120)=true by simp_all,ARd h5];rfl
 rw[show(((r.2.2.1.length:Nat):Int)==120)=false by grind,ASq h5];simp only[ALz,ASR,ALr,AOV];rw[AL (x:=r.1-1) (by omega) (by omega),mL ht,E4 ht,Yk ht];simp only[AD];have hto:=g_ (x:=g.2.1);rw[AL (x:=A7 g.2.1+1) (by omega) (by omega),AL (x:=r.1+1) (by omega) (by omega)];simp only[VQ (l:=r.2.2.1) (by omega),AD];have hta:=xw (x:=g.2.1) (e:=r.1) (o:=r.2.1) (hR.trim.imp id fun h=>h.1) hre hro
 generalize ACD:g.1.getD (r.1-1).toNat GL=era
 have Jq:(r.1-1).toNat<g.1.length:=by omega
 have UJ:era.1.length≤2^20:=by
  have h7:=AZ (f:=CL) (BV (d:=GL) Jq);rw[ACD]at h7;have:CL era=era.1.length:=rfl;omega
 have hd:g.1.getD (r.1-1).toNat ([],false,0,())=era:=ACD;rw[hd];have hf:((l.map fun a=>a.1).filter era.1.contains).length≤2^20:=ARE (ARK _ _) (by simp_all);rw[aZ (by grind) (by omega)];simp only[AD];rw[cN (by omega) hf UJ];simp only[AD];have AZE:(0:Int)≤r.1-1∧r.1-1<(g.1.length:Int):=by omega
 simp only[ALI AZE]
 generalize hT:(cond (era.2.1) _ _:Option KT)=T
 have xM:T=some (xo (if era.2.1&&decide (r.2.1>era.2.2.1)then((r.1+1,1,r.2.2.1++[(4,r.1+1,[],())],()),0)else
   if(!era.2.1&&decide (r.2.1>sure))||decide (r.2.1>60)then(r,2)else
   if !JJ c era.1 ((l.map fun a=>a.1).filter era.1.contains)then(r,3)else
   ((r.1,r.2.1+1,r.2.2.1++[HK (D9 r.1 r.2.1) (FW era.1 (D9 r.1 r.2.1) none l)],()),0))):=by
  rw[←hT];clear hT;have tail:r.2.1≤60→(cond (JJ c era.1 ((l.map fun a=>a.1).filter era.1.contains))
    ((C7 l ((l.map fun a=>a.1).filter era.1.contains) r.1 r.2.1 r.2.2.1).bind fun SO=>some ((((SO.2.1.1,SO.2.1.2.1,(),()),0,()),()),(SO.2.2.2.1,())))
    (some ((((r.1,r.2.1,(),()),3,()),()),(r.2.2.1,()))):Option KT)=some (xo (if !JJ c era.1 ((l.map fun a=>a.1).filter era.1.contains)then(r,3)else
    ((r.1,r.2.1+1,r.2.2.1++[HK (D9 r.1 r.2.1) (FW era.1 (D9 r.1 r.2.1) none l)],()),0))):=by
   intro h60;rw[dF (by omega) (by omega) (by omega) hf hl O9];rw[aO (s:=(l.map fun a=>a.1).filter era.1.contains) (t:=era.1) (fun a ha=>by
    rw[Bool.eq_iff_iff,AUt,ASp];exact⟨fun h=>by simp_all,fun h=>⟨List.mem_map_of_mem ha,by omega⟩⟩)]
   cases JJ c era.1 ((l.map fun a=>a.1).filter era.1.contains)<;>rfl
  cases h7:era.2.1 with
  |true=>
   simp only[AMJ,ALz,AMD,ALu,ASk,ASR,AMC];by_cases h8:r.2.1>era.2.2.1
   ·rw[ALI h8,ALI h8];rfl
   rw[ALT h8,ALT h8];by_cases h9:r.2.1>60
   ·rw[ALI h9,ALI h9];rfl
   grind
  |false=>
   simp only[AMJ,ALz,AMD,ARU,ASk,ALr,AOV,AR9,AMC];by_cases h8:r.2.1>sure
   ·rw[ALI h8,ALI (.inl h8)];rfl
   rw[ALT h8];by_cases h9:r.2.1>60
   ·rw[ALI h9,ALI (.inr h9)];rfl
   grind
 rw[xM];clear hT xM
 generalize (decide (AO g.2.1<r.1)||((AO g.2.1==r.1)&&decide (A7 g.2.1<r.2.1)))=B at hta⊢
 by_cases h6:g.2.1≥D9 r.1 r.2.1
 ·rw[ARd h6]at hta
  rw[ALI h6];by_cases h0:g.2.1>0
  ·rw[ALI h0]
   cases B with
   |true=>grind
   |false=>rfl
  simp_all
 ·rw[ALT h6]
  simp_all
end Go.M
end
section
set_option maxRecDepth 8000
namespace Go.M
open Go.M.H (AJ AN Au Ac AA CX AQ A9 AM Ab BG As BO An Ca Af AW AZ Ar CL BU Ax BD Es Ch DF DN)
theorem ABl{w:AA}{p n:Int}:(answer w p n).1=n:=by
 grind[answer]
theorem pe{w:AA}{p:Int}{ns:AAH}:(answers w p ns).map (fun a=>a.1)=ns.filter fun n=>Al w n==0:=by
 unfold answers;rw[ATj]
 conv=>rhs;rw[←List.map_id (ns.filter fun n=>Al w n==0)]
 grind[List.map_congr_left,ABl]
theorem ju{c:CK}{g:AQ}{s:Int}{r:Ab}{w:AA}{ns:AAH}:
  B4 c g s r (answers w (GW r.1 r.2.1) ns)=B4 c g s r (answers w (D9 r.1 r.2.1) ns):=by
 unfold B4;rw[pe,pe];cases h1:Mk c g with
 |false=>rfl
 |true=>
 cases h2:Wp r with
 |false=>rfl
 |true=>
 have hr:=Qg.1 h2;have hre:=hr.ep;have hro:=hr.off;have hRn:=(I1.1 h1).n;by_cases h3:r.1≤30∧r.2.1≤60
 ·have:GW r.1 r.2.1=D9 r.1 r.2.1:=by
   unfold GW;rw[ALI (by rw[ALp,Ai,Ai];omega)]
  rw[this]
 ·by_cases h4:r.1>(g.1.length:Int)
  ·simp_all
  ·have h5:r.2.1>60:=by omega
   simp_all
def kC(q:AA×Int):KR:=((q.2,()),(((),q.1.2.1,(),(),(),q.1.2.2.2.2.2.1,(),(),(),(),q.1.2.2.2.2.2.2.2.2.2.2.1,()),q.1.1,q.1.2.2.1,q.1.2.2.2.1,q.1.2.2.2.2.1,q.1.2.2.2.2.2.2.1,q.1.2.2.2.2.2.2.2.1,q.1.2.2.2.2.2.2.2.2.1,q.1.2.2.2.2.2.2.2.2.2.1,()))
theorem ALO{k n:Int}(h:n∈Ao k):0≤n∧n≤7:=by
 unfold Ao at h;simp_all;omega
theorem vA{k:Int}:(Ao k).length≤8:=by
 unfold Ao;split
 ·exact ARE (ARK _ _) (by simp)
 ·simp
section
variable{w:AA} (h:Ml w) (Tw:jX w)
include h Tw
omit Tw in
theorem yY{p:Int}{ns:AAH}:∀a∈answers w p ns,DJ a.2.2.1:=fun a ha=>by
 unfold answers at ha;obtain⟨n,hn,rfl⟩:=ASt.1 ha;have hn':Al w n=0:=by have:=(ASp.1 hn).2;rwa [ASy]at this
 unfold answer;split
 ·rename_i e he
  have:=(h.store hn').kept e (ATE he);exact Jd (FR.1 this).pl
 ·exact⟨by show-9223372036854775808≤(0:Int);omega,by show(0:Int)<9223372036854775808;omega⟩
theorem fq{a k:Int}:Mj a k w.2.1 w.2.2.2.2.2.1 w.2.2.2.2.2.2.2.2.2.2.1 w.1 w.2.2.1 w.2.2.2.1 w.2.2.2.2.1 w.2.2.2.2.2.2.1 w.2.2.2.2.2.2.2.1 w.2.2.2.2.2.2.2.2.1 w.2.2.2.2.2.2.2.2.2.1=some (kC (IY w a k)):=by
 have kn:=h.nums;have k1:=kn.c;have k3:=kn.lost;have k4:=kn.st;have gb:=kn.Jk;have jM:=kn.gg;have k5:=kn.era;have k6:=kn.ws;have k6':Af An w.Aj≤80008:=kn.ws;have k8:=kn.rd;unfold Mj M6 IY;rw[AL (by omega) (by omega),show((w.2.2.2.2.2.2.2.2.1.length:Int)-1)=1 by omega,Ay];simp only[AD,A3];rcases AK7 (BK a 0 1)with h1|h1
 rotate_left
 ·rw[h1];rfl
 have h1':=Ai.1 h1;have hb:0≤a∧a<(w.2.2.2.2.2.2.2.2.1.length:Int):=by omega
 have Jq:a.toNat<w.Aa.length:=by
  simp_all
 have Yv:=h.Aa _ (BV (d:=Dj) Jq);rw[h1,Fy,AMJ,ALI hb,X4];simp only[show w.2.2.2.2.2.2.2.2.1.getD a.toNat (0,0,[],())=w.Aa.getD a.toNat Dj from rfl]
 generalize hx:w.Aa.getD a.toNat Dj=r at Yv⊢
 have hre:=Yv.ep;have hro:=Yv.off;rw[Hy];simp only[AD];have uk:=vA (k:=k);have hmi:=fun n=>ALO (k:=k) (n:=n)
 rw[←ju]
 generalize hp:GW r.1 r.2.1=p
 have O9:=fun ns=>yY h (p:=p) (ns:=ns)
 generalize Ao k=ms at uk hmi
 have key:∀(n i:Nat) (b:List As),i≤ms.length→ms.length-i<n→b.length≤i→b=answers w p (ms.take i)→
   DA n a p ms.length i w.2.1 w.2.2.2.2.2.1 w.2.2.2.2.2.2.2.2.2.2.1 w.1 w.2.2.1 w.2.2.2.1 w.2.2.2.2.1 w.2.2.2.2.2.2.1 w.2.2.2.2.2.2.2.1 w.2.2.2.2.2.2.2.2.1 w.2.2.2.2.2.2.2.2.2.1 r.1 r.2.1 r.2.2.1 b ms=
    some (kC (if(B4 (AS w) (B7 w) (Uy w r.1) r (answers w p ms)).2≠0 then(w,5)else(w.Cy (w.Aa.set a.toNat (B4 (AS w) (B7 w) (Uy w r.1) r (answers w p ms)).1),0))):=by
  intro n
  induction n with
  |zero=>omega
  |succ n ih=>
   intro i b hi hn z6 he;simp only[DA,NB,AB,A3];by_cases De:i<ms.length
   ·have c1:(0:Int)≤(i:Int)∧(i:Int)<(ms.length:Int):=by omega
    have c2:b.length+1≤Ds:=by rw[BT];omega
    have ht:ms.take (i+1)=ms.take i++[ms[i]]:=ASo De;rw[ALI c1.2,ALI c1,Ak De,AL (by omega) (by omega),show((i:Int)+1)=((i+1:Nat):Int)by omega,show(w.1,w.2.1,w.2.2.1,w.2.2.2.1,w.2.2.2.2.1,w.2.2.2.2.2.1,w.2.2.2.2.2.2.1,w.2.2.2.2.2.2.2.1,w.2.2.2.2.2.2.2.2.1,w.2.2.2.2.2.2.2.2.2.1,w.2.2.2.2.2.2.2.2.2.2.1,())=w from rfl,Zl (by omega)];simp only[AD];have hm:=hmi _ (AL5 De);by_cases hn0:Al w ms[i]=0
    ·obtain⟨n1,n2,n3⟩:=EI hn0
     have n2':ms[i]<(w.2.2.1.length:Int):=n2;have n3':w.2.2.2.1.contains ms[i]=false:=by
      simp_all
     have hs1:(ms[i]).toNat<w.2.2.1.length:=by omega
     have ZK:w.2.2.1.getD (ms[i]).toNat ([],[],0,())=storeAt w ms[i]:=rfl;have hsm:An (storeAt w ms[i])≤2^30:=ARE (AZ (f:=An) (BV (d:=Ci) hs1)) (by omega);have AaO:CE (storeAt w ms[i])=true:=DC.2 (h.store hn0);rw[ALI n2',n3',ALz,ALI ⟨n1,n2'⟩,ZK,show((storeAt w ms[i]).1,(storeAt w ms[i]).2.1,(storeAt w ms[i]).2.2.1,())=storeAt w ms[i]from rfl,Oe hsm (h.store hn0).sin];simp only[AD];rw[ALI c2];refine ih (i+1) _ (by omega) (by omega) (by simp_all) ?_
     rw[ht,he];unfold answers;rw[List.filter_append,List.map_append];congr 1;rw[ASf,ALI (by simp_all),AW9,ATb,AWs];congr 1;unfold answer UO;rw[ALI AaO];cases EA p (storeAt w ms[i]).1<;>rfl
    ·have n1:=ih (i+1) b (by omega) (by omega) (by omega) (by
      rw[ht,he];unfold answers;rw[List.filter_append,List.map_append,ASf,ALT (by simp_all),AW9,AWs,AMa])
     by_cases hl:ms[i]<(w.2.2.1.length:Int)
     ·rw[ALI hl]
      have AUq:w.2.2.2.1.contains ms[i]=true:=by
       cases hc:w.2.2.2.1.contains ms[i]with
       |true=>rfl
       |false=>
        exfalso
        apply hn0;unfold Al;have e1:BK ms[i] 0 ((w.Aj.length:Int)-1)=true:=Ai.2 (by omega);simp_all
      simp_all
     grind
   ·have e0:ms.take i=ms:=ASm (by omega)
    rw[e0]at he;subst he;have hal:(answers w p ms).length≤8:=by omega
    rw[ALT (by omega),show(w.1,w.2.1,w.2.2.1,w.2.2.2.1,w.2.2.2.2.1,w.2.2.2.2.2.1,w.2.2.2.2.2.2.1,w.2.2.2.2.2.2.2.1,w.2.2.2.2.2.2.2.2.1,w.2.2.2.2.2.2.2.2.2.1,w.2.2.2.2.2.2.2.2.2.2.1,())=w from rfl,oN Tw,show(r.1,r.2.1,r.2.2.1,())=r from rfl,show(w.1,w.2.1,())=AS w from rfl,show(w.2.2.2.2.1,w.2.2.2.2.2.1,())=B7 w from rfl];simp only[AD];rw[gI (c:=AS w) (g:=B7 w) (by show w.1.length≤_;omega) (by show Af CL w.2.2.2.2.1≤_;omega) kn.trim (by omega) (O9 ms)];simp only[AD,xo,Cw];by_cases h2:(B4 (AS w) (B7 w) (Uy w r.1) r (answers w p ms)).2=0
    ·rw[ALI h2,ALI hb,ALT (fun hh=>hh h2)];rfl
    ·rw[ALT h2,ALI h2];rfl
 grind[Ae,Ag,answers]
end
end Go.M
end
section
set_option maxRecDepth 8000
namespace Go.M
open Go.M.H (AJ AN Au Ac AA CX AQ A9 AM Ab BG As BO An Ca Af AW AZ Ar CL BU Ax BD Es Ch DF DN)
theorem oZ{c:CK}{g:AQ}{sure:Int}{r:Ab}{l:List As}(h0:(B4 c g sure r l).2=0):
  (∃e:BG,(B4 c g sure r l).1.2.2.1=r.2.2.1++[e]∧e.2.2.1.length≤40)∧r.2.2.1.length<120:=by
 have hf:∀p,(HK p (FW (g.1.getD (r.1-1).toNat GL).1 p none l)).2.2.1.length≤40:=fun p=>by
  cases hb:FW (g.1.getD (r.1-1).toNat GL).1 p none l with
  |none=>show 0≤40;omega
  |some x=>
   have:=(FR.1 (dk (b:=none) (fun x hx=>by cases hx) x hb)).len;unfold HK;dsimp only;split
   all_goals simp_all
 revert h0
 unfold B4;dsimp only;split
 ·omega
 rename_i hs;simp only[AO4,AO7,ALp,Qg]at hs;have r3:=hs.2.1.n;split
 ·omega
 rename_i h1;simp only[AR9,AMC,AXG]at h1;have Jq:r.2.2.1.length<120:=by omega
 split
 ·simp_all
 split
 ·simp_all
 split
 ·omega
 split
 all_goals simp_all
theorem Ml.AYn{w:AA}(h:Ml w)(hr:Af BD w.Aa≤900000):jX w:=by
 have hc:=(Fq h.cfg).2.1;have ZL:w.1.length≤8:=hc;have a1:=GA (f:=An) (B:=10000) (N:=8) (l:=w.Aj) (by rw[h.my];omega) fun s hs=>(h.PU hs).w
 have a2:=Hr h.lost;have a3:=h.lf.w;have a4:=GA (f:=Ax) (B:=3000) h.q8 fun x hx=>(h.AH x hx).1.w
 have a5:=GA (f:=Ca) (B:=5000) h.xP fun x hx=>(h.BW x hx).1.w
 have a7:=GA (f:=Es) (B:=40) h.NN fun s hs=>(h.Aq s hs).2.2
 refine⟨?_,fun s hs=>(h.PU hs).sin,h.lf.tin,fun m hm=>(h.BW m hm).1.ein,fun s hs=>Jd (h.Aq s hs).1⟩;have a3':Af CL w.AY≤270:=a3;grind[Af,BD,An,CL,Ax,Ca,Es,DF]
def AA7(w:AA)(a:Int):Nat:=(w.Aa.getD a.toNat Dj).2.2.1.length
theorem ri{α:Type}{f:α→Nat}{x:α}:∀{l:List α} {i:Nat} (h:i<l.length),Af f (l.set i x)+f l[i]=Af f l+f x
 |y::l,0,_=>by simp[Af];omega
 |y::l,i+1,h=>by
  have:=ri (f:=f) (x:=x) (l:=l) (i:=i) (by simp_all);grind[Af]
theorem sU{α:Type}{f:α→Nat}{x:α}:∀{l:List α},Af f (l++[x])=Af f l+(1+f x)
 |[]=>by simp[Af]
 |y::l=>by
  have:=sU (f:=f) (x:=x) (l:=l);grind[Af]
theorem w6{w:AA}{a k:Int}(h:Ml w)(e:(IY w a k).2=0):BK a 0 1=true∧Ml (IY w a k).1∧AA7 (IY w a k).1 a=AA7 w a+1∧AA7 w a<120∧
  AA7 (IY w a k).1 (1-a)=AA7 w (1-a)∧Af BD (IY w a k).1.Aa≤Af BD w.Aa+41:=by
 have Bz:=so h e;unfold IY at e Bz⊢;split at e
 ·omega
 rename_i h1;rw[ALT h1]at Bz;rw[ALT h1];dsimp only at e Bz⊢;split at e
 ·omega
 rename_i h2;rw[ALT h2]at Bz;rw[ALT h2];simp only[ne_eq,AWl]at h2;simp only[AO4,AO7]at h1;have h1':=Ai.1 h1;have hl:a.toNat<w.Aa.length:=by rw[h.p_];omega
 obtain⟨⟨ev,q1,q2⟩,q3⟩:=oZ h2
 generalize hq:(B4 (AS w) (B7 w) (Uy w (w.Aa.getD a.toNat Dj).1) (w.Aa.getD a.toNat Dj) (answers w (D9 (w.Aa.getD a.toNat Dj).1 (w.Aa.getD a.toNat Dj).2.1) (Ao k))).1=q at q1 Bz
 have hg:(w.Aa.set a.toNat q).getD a.toNat Dj=q:=by simp_all
 have bM:(1-a).toNat≠a.toNat:=by omega
 refine⟨h1,Bz,?_,q3,?_,?_⟩
 ·show((w.Aa.set a.toNat q).getD a.toNat Dj).2.2.1.length=_
  grind[AA7]
 ·show((w.Aa.set a.toNat q).getD (1-a).toNat Dj).2.2.1.length=_
  simp only[List.getD,AR8 (Ne.symm bM)];rfl
 ·show Af BD (w.Aa.set a.toNat q)≤_
  have:=ri (f:=BD) (x:=q) hl;have e1:BD q=Af Ch q.2.2.1:=rfl;have e2:BD w.Aa[a.toNat]=Af Ch w.Aa[a.toNat].2.2.1:=rfl;rw[q1,sU,Me hl]at e1;have e3:Ch ev=ev.2.2.1.length:=rfl;omega
end Go.M
end
section
set_option maxRecDepth 8000
namespace Go.M
open Go.M.H (AJ AN Au Ac AA CX AQ A9 AM Ab BG As BO An Ca Af AW AZ Ar CL BU Ax BD Es Ch DF DN)
theorem hY{α:Type}{q:Nat}{v l:List α}(hq:q≤l.length)(hl:l.length+v.length≤2^30):wj (q:Int) v l=some (l.take q++v++l.drop q):=by
 unfold wj;rw[ALI ⟨by omega,by omega,by rw[BT];omega⟩,AL2]
theorem vT{l:AAH}(ha:S8 id l)(hl:l.length≤2^30)(p:Int):∃q,ic id p l q∧
  GJ l p=some ((((q:Int),(match l[q]? with|some e=>e==p|none=>false),()),()),()):=by
 have key:∀(n a b:Nat),a≤b→b≤l.length→b-a<n→(∀(i:Nat) (h:i<l.length),i<a→l[i]<p)→(∀(i:Nat) (h:i<l.length),b≤i→p≤l[i])→
   ∃q,ic id p l q∧Dp n l p l.length a b=some ((((q:Int),(match l[q]? with|some e=>e==p|none=>false),()),()),()):=by
  intro n
  induction n with
  |zero=>omega
  |succ n ih=>
   intro a b qy hb hn h1 h2;simp only[Dp,Jm,AB,cmp_Less_int,cmp_isNaN_int,O8,bne_self_eq_false,AD,ALz];by_cases Jq:a<b
   ·have hm:(a+b)/2<l.length:=by omega
    rw[ALI (by omega),tP (by omega),ALI (by omega),Ak hm];by_cases hc:l[(a+b)/2]<p
    ·rw[ALI hc,AL (by omega) (by omega),show((((a+b)/2:Nat):Int)+1)=(((a+b)/2+1:Nat):Int)by omega]
     refine ih _ b (by omega) hb (by omega) (fun i h hi=> ?_) h2;have:=ai (f:=id) ha h hm (by omega);grind
    ·have hge:∀(i:Nat) (h:i<l.length),(a+b)/2≤i→p≤l[i]:=fun i h hi=>by
      have:=ai (f:=id) ha hm h hi;grind
     rw[ALT hc];exact ih a _ (by omega) (by omega) (by omega) h1 hge
   ·have ADA:a=b:=by omega
    subst ADA;refine⟨a,⟨hb,h1,h2⟩,?_⟩;rw[ALT (by omega)];by_cases ha':a<l.length
    ·rw[ALI (by omega),ALI (by omega),Ak ha',ALR ha']
     dsimp only;cases l[a]==p<;>simp[ha']
    grind
 obtain⟨q,hq,e⟩:=key Ae 0 l.length (by omega) (by omega) (Ag (by omega)) (fun i h hi=>by omega) (fun i h hi=>by omega);refine⟨q,hq,?_⟩;unfold GJ Jl;omega
theorem py{x:Int}:∀{l:AAH} {q:Nat},ic id x l q→(∀h:q<l.length,l[q]≠x)→fz x l=l.take q++[x]++l.drop q
 |[],q,h,_=>by
  have:=h.le;have:q=0:=by simp_all
  subst this;rfl
 |y::l,0,h,hn=>by
  have h1:=h.ge 0 (by simp) (APz _);have h2:=hn (by simp);simp only[AUr,id]at h1 h2;simp only[fz];grind
 |y::l,q+1,h,hn=>by
  have h1:=h.lt 0 (by simp) (by omega);simp only[AUr,id]at h1;simp only[fz];rw[ALT (by omega),py (l:=l) (q:=q) ⟨by have:=h.le;simp_all,fun i hi hiq=>by have:=h.lt (i+1) (by simp_all) (by omega);simp_all,fun i hi hiq=>by have:=h.ge (i+1) (by simp_all) (by omega);simp_all⟩ (fun hq=>by simp_all)];rfl
theorem Ob{l:AAH}{x:Int}(ha:S8 id l)(hl:l.length≤2^29):Kl l x=some (((),()),(JO x l,())):=by
 unfold Kl JO;rw[Dm (by omega)];simp only[AD];obtain⟨q,hq,e⟩:=vT ha (by omega) x;rw[e];simp only[AD,A3];by_cases hc:q<l.length
 ·rw[ALR hc]
  dsimp only;by_cases he:l[q]=x
  ·grind
  ·rw[APa.2 he,ALz]
   have hn:l.contains x=false:=by
    rw[AS1,ne_eq,AUt];intro hm;obtain⟨i,hi,rfl⟩:=AQU hm;rcases Nat.lt_or_ge i q with hiq|hiq
    ·have:=hq.lt i hi hiq;simp_all
    ·have h1:=ai (f:=id) ha hc hi hiq
     have h2:=hq.ge q hc (APz _);grind
   rw[hn,ALT (by simp)];grind[Ji,hY,py]
 ·rw[ASu (by omega)]
  dsimp only;rw[ALz];have hn:l.contains x=false:=by
   rw[AS1,ne_eq,AUt];intro hm;obtain⟨i,hi,rfl⟩:=AQU hm;have:=hq.lt i hi (by omega);simp_all
  rw[hn,ALT (by simp)];unfold Ji;rw[hY hq.le (by grind),py hq (fun h=>absurd h hc)];rfl
theorem vF{e:AJ}:∀{l:List AJ} {q:Nat},ic (fun x:AJ=>x.1) e.1 l q→WD l→
  keep e l=if h:q<l.length then(if l[q].1=e.1 then l.set q (better l[q] e)else l.take q++[e]++l.drop q)else l++[e]
 |[],q,h,_=>by
  rfl
 |y::l,0,h,_=>by
  have h1:=h.ge 0 (by simp) (APz _);simp only[AUr]at h1;simp only[keep,ANW,Nat.zero_lt_succ,AW2,AUr];grind
 |y::l,q+1,h,ha=>by
  have h1:=h.lt 0 (by simp) (by omega);simp only[AUr]at h1;have ih:=vF (e:=e) (l:=l) (q:=q) ⟨by have:=h.le;simp_all,fun i hi hiq=>by have:=h.lt (i+1) (by simp_all) (by omega);simp_all,fun i hi hiq=>by have:=h.ge (i+1) (by simp_all) (by omega);simp_all⟩ (AQc.1 ha).2;simp only[keep];grind
theorem aT{e:AJ}{l:List AJ}(ha:WD l)(hl:l.length≤2^29):WA e l=some (((),()),((),keep e l,())):=by
 unfold WA;obtain⟨q,hq,hs⟩:=cy ha (by omega) e.1;rw[hs,vF hq ha];simp only[AD,A3];by_cases hc:q<l.length
 ·rw[dif_pos hc,ALR hc]
  dsimp only;have hb:(0:Int)≤(q:Int)∧(q:Int)<(l.length:Int):=by omega
  by_cases he:l[q].1=e.1
  ·rw[ASy.2 he,AMJ,ALI he,ALI hb,Ak hc,show(l[q].1,l[q].2.1,l[q].2.2.1,l[q].2.2.2.1,())=l[q]from rfl,show(e.1,e.2.1,e.2.2.1,e.2.2.2.1,())=e from rfl,WC]
   simp_all
  ·rw[APa.2 he,ALz,ALT he]
   grind[Du,hY]
 ·have hql:q=l.length:=by have:=hq.le;omega
  rw[dif_neg hc,ASu (by omega)];dsimp only;rw[ALz];grind[Du,hY,List.take_length,List.drop_length]
theorem MT{s:AN}(hw:An s≤2^30)(hs:qR s):Dk s=some (if CE s then((((),(),s.2.2.1,()),()),(s.1,s.2.1,()))else((((),(),0,()),()),([],[],()))):=by
 obtain⟨l1,l2⟩:=Fu hw;unfold Dk;rw[show(s.1,s.2.1,s.2.2.1,())=s from rfl,Ex hw hs,H8 l1 l2];grind
theorem kR{s:AN}{e:AJ}(hw:An s≤2^30)(hs:qR s)(he:DJ e.1):Tc s e=some (ld (GD s e)):=by
 obtain⟨l1,l2⟩:=Fu hw;unfold Tc GD;rw[show(s.1,s.2.1,s.2.2.1,())=s from rfl,show(e.1,e.2.1,e.2.2.1,e.2.2.2.1,())=e from rfl,Ex hw hs,MT hw hs,H8 l1 l2,Pq he,E4 he];simp only[AD,A3,AB,DR];cases h1:CE s with
 |false=>rfl
 |true=>
  have Bz:=DC.1 h1;have vm:=Bz.nl;cases h2:EU e with
  |false=>rfl
  |true=>
   have hE:=(FR.1 h2).w0;simp only[AMJ,AMD,ALu,ALr,AOV,ASe];have lim:s.2.1.length+1≤Ds:=by rw[BT];omega
   by_cases h3:s.2.1.length=20
   ·rw[ALI (by omega),ASq (fun h=>h h3),AWq]
    rfl
   ·rw[ALT (by omega),ARd (show s.2.1.length≠20 from h3),AS4]
    unfold takes;by_cases h4:e.2.1=0
    ·rw[ALI h4,ALI h4]
     by_cases h5:AO e.1≤s.2.2.1
     ·rw[ALI h5,ASq (by omega)];rfl
     ·rw[ALT h5,ALT (by omega),ALI lim,ARd (by omega)];rfl
    ·rw[ALT h4,ALT h4,ALI (by omega)]
     by_cases h5:e.2.1≤s.2.2.1
     ·rw[ALI h5,ASq (by omega)];rfl
     ·rw[ALT h5,ALI lim,ARd (by omega)];rfl
theorem WG{s:AN}{k:Int}(hw:An s≤2^30)(hs:qR s):MY s k=some (ld (D3 s k)):=by
 obtain⟨l1,l2⟩:=Fu hw;unfold MY SX D3;rw[show(s.1,s.2.1,s.2.2.1,())=s from rfl,Ex hw hs,MT hw hs,H8 l1 l2,Ay];simp only[AD,A3];cases h1:CE s with
 |false=>rfl
 |true=>
  have Bz:=DC.1 h1;have vm:=Bz.nl;have hnk:=Bz.nk;simp only[AMJ,ALu,ALr,AOV,ASe];cases h2:BK k 0 1048575 with
  |false=>rfl
  |true=>
   have hk:=Ai.1 h2;have Aa7:0≤k∧k<2^63:=by omega
   simp only[AMJ,AMD];have key:∀(n i:Nat) (b:List AJ),i≤s.2.1.length→s.2.1.length-i<n→b.length≤200+i→WD b→
     JV n k s.2.1 s.2.1.length i s.1 s.2.1 s.2.2.1 0 [] [] s.2.2.1 b []=
      some (ld (if decide ((Db b (L3 k i (s.2.1.drop i))).length≤200)then((Db b (L3 k i (s.2.1.drop i)),[],s.2.2.1,()),true)else(s,false))):=by
    intro n
    induction n with
    |zero=>omega
    |succ n ih=>
     intro i b hi hn hb qy;simp only[JV,Si,AB];by_cases hc:i<s.2.1.length
     ·have ABW:=uT Aa7 (i:=i) (by omega)
      rw[ALI (by omega),ALI (by omega),ALT (by omega),AL2,ABW,AB,Me hc,AL (by omega) (by omega),show((i:Int)+1)=((i+1:Nat):Int)by omega,drop_cons hc];rw[show(s.2.1[i].1,s.2.1[i].2.1,s.2.1[i].2.2.1,s.2.1[i].2.2.2.1,())=s.2.1[i]from rfl,aT qy (by omega)];simp only[AD];rw[show L3 k i (s.2.1[i]::s.2.1.drop (i+1))=if(k/2^i)%2=1 then s.2.1[i]::L3 k (i+1) (s.2.1.drop (i+1))else L3 k (i+1) (s.2.1.drop (i+1))from rfl];by_cases hbt:(k/2^i)%2=1
      ·rw[ALI hbt,ALI hbt,ih (i+1) _ (by omega) (by omega) (by grind[XE]) (UL qy)]
       rfl
      ·rw[ALT hbt,ALT hbt,ih (i+1) _ (by omega) (by omega) (by omega) qy]
     ·rw[ALT (by omega),AMI (by omega),show(s.1,s.2.1,s.2.2.1,())=s from rfl,H8 l1 l2]
      simp only[AD,L3,Db];by_cases hg:b.length≤200
      ·rw[ALT (by omega),ALI (ARd hg)];rfl
      ·rw[ALI (by omega),ALT (by simp_all)];rfl
   have:=key Ae 0 s.1 (by omega) (Ag (by omega)) (by omega) Bz.gf;simp_all
theorem YY{s:AN}(hw:An s≤2^30)(hs:qR s):Ni s=some (ld (Cf s)):=by
 unfold Ni Cf;rw[show(s.1,s.2.1,s.2.2.1,())=s from rfl,WG hw hs];rfl
theorem iA{s:AN}{u:Int}(hw:An s≤2^30)(hs:qR s):Np s u=some (ld (Bg s u)):=by
 unfold Np Bg;rw[show(s.1,s.2.1,s.2.2.1,())=s from rfl,YY hw hs,MT hw hs,Ay];simp only[AD,A3,ld];cases h1:CE s with
 |false=>
  grind[Cf,D3]
 |true=>
  grind
theorem ke{s:AN}{ep:Int}(hw:An s≤2^30)(hs:qR s):Ph s ep=some (((),()),(GH s ep,())):=by
 obtain⟨l1,l2⟩:=Fu hw;unfold Ph VN GH;rw[show(s.1,s.2.1,s.2.2.1,())=s from rfl,Ex hw hs];simp only[AD,A3];cases h1:CE s with
 |false=>rfl
 |true=>
  have key:∀(n i:Nat) (b:List AJ),i≤s.1.length→s.1.length-i<n→b.length≤i→
    Lf n ep s.1 s.1.length i b=some (((),()),(b++(s.1.drop i).filter (fun e=>AO e.1==ep),())):=by
   intro n
   induction n with
   |zero=>omega
   |succ n ih=>
    intro i b hi hn hb;simp only[Lf,VB,AB];by_cases hc:i<s.1.length
    ·rw[ALI (by omega),ALI (by omega),Ak hc,E4 (hs.1 _ (AL5 hc)),AL (by omega) (by omega),show((i:Int)+1)=((i+1:Nat):Int)by omega,drop_cons hc,ASf]
     simp only[AD];rw[ALI (by rw[BT];omega),show(s.1[i].1,s.1[i].2.1,s.1[i].2.2.1,s.1[i].2.2.2.1,())=s.1[i]from rfl,ih (i+1) _ (by omega) (by omega) (by simp_all),ih (i+1) b (by omega) (by omega) (by omega)];grind
    grind
  have:=key Ae 0 [] (by omega) (Ag (by omega)) (by simp);simp_all
end Go.M
end
section
set_option maxRecDepth 8000
namespace Go.M
open Go.M.H (AJ AN Au Ac AA CX AQ A9 AM Ab BG As BO An Ca Af AW AZ Ar CL BU Ax BD Es Ch DF DN)
theorem wH{x:AJ}{t:ABp}:Oj (x.1,x.2.1,x.2.2.1,x.2.2.2.1,()) t=some ((decide (x.1≤t.1),()),()):=rfl
theorem dN{t:ACi}{l:List AJ}(hl:l.length≤2^30):Bv t l=some (((),()),((),l.filter (fun x=> !(decide (x.1≤t.1.1))),())):=by
 have key:∀(n i j:Nat) (b:List AJ),i≤j→j≤b.length→b.length≤2^30→b.length-j<n→BE n t i j b=some (((),()),((),b.take i++(b.drop j).filter (fun x=> !(decide (x.1≤t.1.1))),())):=by
  intro n
  induction n with
  |zero=>omega
  |succ n ih=>
   intro i j b hij hj hb hn;simp only[BE,DO,AB];by_cases hc:j<b.length
   ·rw[ALI (by omega),ALI (by omega),Ak hc,wH]
    simp only[AD];rw[AL (x:=(j:Int)+1) (by omega) (by omega),AL (x:=(i:Int)+1) (by omega) (by omega),show((j:Int)+1)=((j+1:Nat):Int)by omega,show((i:Int)+1)=((i+1:Nat):Int)by omega,drop_cons hc,ASf];have n1:=ih (i+1) (j+1) (b.set i b[j]) (by omega) (by grind) (by simp_all) (by grind);have n2:=ih i (j+1) b (by omega) (by omega) hb (by omega);rw[show(t.1,())=t from rfl,n2];rw[AW_ (by omega),ASo (by grind),AXA (APz _),AWk,AM4,AS8]at n1;rw[ALI (by omega),AL2,n1]
    generalize hx:b[j]=x
    cases(decide (x.1≤t.1.1))<;>rfl
   ·rw[ALT (by omega),AMI (i:=j) (by omega),AL2,AL2]
    simp_all;omega
 have fnd:∀(n i:Nat),i≤l.length→l.length-i<n→ ∃r:Int,BH n l t l.length i=some ((r,()),())∧((r= -1∧(l.drop i).filter (fun x=> !(decide (x.1≤t.1.1)))=l.drop i)∨ ∃q:Nat,r=q∧i≤q∧q<l.length∧((l.take q).drop i).filter (fun x=> !(decide (x.1≤t.1.1)))=(l.take q).drop i∧ ∀(h:q<l.length) x,x=l[q]→(decide (x.1≤t.1.1))=true):=by
  intro n
  induction n with
  |zero=>omega
  |succ n ih=>
   intro i hi hn;simp only[BH,DX,AB];by_cases hc:i<l.length
   ·rw[ALI (by omega),ALI (by omega),Ak hc,wH]
    simp only[AD];rw[AL (x:=(i:Int)+1) (by omega) (by omega),show((i:Int)+1)=((i+1:Nat):Int)by omega,show(t.1,())=t from rfl];obtain⟨r,e,hr⟩:=ih (i+1) (by omega) (by omega);rw[e]
    generalize hx:l[i]=x
    cases hp:(decide (x.1≤t.1.1))with
    |true=>
     grind
    |false=>
     refine⟨r,rfl,?_⟩;rcases hr with⟨h1,h2⟩|⟨q,h1,h2,h3,h4,h5⟩
     ·grind[drop_cons]
     ·refine .inr ⟨q,h1,by omega,h3,?_,h5⟩
      grind[drop_cons]
   grind
 obtain⟨r,e,hr⟩:=fnd Ae 0 (by omega) (Ag (by omega));rw[show((0:Nat):Int)=0 from rfl]at e;unfold Bv DM Cn DW;rw[show(t.1,())=t from rfl,e];simp only[AD];rcases hr with⟨h1,h2⟩|⟨q,h1,h2,h3,h4,h5⟩
 ·grind
 ·rw[h1,APa.2 (by omega),ALz,AL (by omega) (by omega),show((q:Int)+1)=((q+1:Nat):Int)by omega,key Ae q (q+1) l (by omega) (by omega) hl (Ag (by omega))]
  rw[ASi]at h4;have hd:=h5 h3 _ rfl;grind[List.take_append_drop,drop_cons]
theorem jB{s:AN}{u:Int}(hw:An s≤2^30)(hs:qR s)(hu:DJ u):RN s u=some (ld (F_ s u)):=by
 obtain⟨l1,l2⟩:=Fu hw;unfold RN F_;rw[show(s.1,s.2.1,s.2.2.1,())=s from rfl,Ex hw hs,MT hw hs,H8 l1 l2,Pz hu];simp only[AD];cases CE s with
 |false=>rfl
 |true=>
  cases BN u with
  |false=>rfl
  |true=>
   rw[dN l1];simp only[AD,ALu,ALz,ALr,AOV,ASe];rw[show(fun x:AJ=> !decide (x.1≤(((u,()),()):ACi).1.1))=fun e=>decide (e.1>u)from funext fun x=>by
    grind]
   rfl
theorem xm{p:Int}{n:Nat}:BK (AO p) 1 n=(BN p&&decide (AO p≤n)):=by
 cases h:BN p with
 |false=>
  unfold AO;rw[h];rfl
 |true=>
  obtain⟨⟨h1,h2⟩,_⟩:=CJ h;unfold BK;simp_all
section
variable{c:CK} {r:AQ} (hc:c.1.length≤2^40) (hl:Af CL r.1≤2^30) (ht:DJ r.2.1)
include hc hl ht
theorem Sw:EK c r=some (if Mk c r then((((),r.2.1,()),()),(r.1,()))else((((),0,()),()),([],()))):=by
 unfold EK;rw[show(c.1,c.2.1,())=c from rfl,show(r.1,r.2.1,())=r from rfl,Mu hc hl ht,Hq hl];grind
theorem mi{ns:AAH}(hn:ns.length≤2^30):MO c r ns=some (((((),(Ij c r ns).1.2.1,()),(Ij c r ns).2.1,(Ij c r ns).2.2,()),()),((Ij c r ns).1.1,())):=by
 have l1:=AW (f:=CL) (l:=r.1);unfold MO Ij;rw[show(c.1,c.2.1,())=c from rfl,show(r.1,r.2.1,())=r from rfl,Mu hc hl ht,Sw hc hl ht,Hq hl,GO hc (by omega),Dm hn];simp only[AD];cases Mk c r with
 |false=>rfl
 |true=>
  cases holds c ns with
  |false=>rfl
  |true=>
   simp only[ALu,ALz,ALr,AOV,AMD,ASe];by_cases h30:r.1.length=30
   ·simp_all
   ·rw[show((r.1.length:Int)==30)=false by grind,show decide (r.1.length≠30)=true by simp[h30],ALz,ALI (by rw[BT];omega)]
    simp
theorem j0{b last:Int}:Pd c r b last=some (pkR (Mc c r b last)):=by
 have l1:=AW (f:=CL) (l:=r.1);unfold Pd Mc;rw[show(c.1,c.2.1,())=c from rfl,show(r.1,r.2.1,())=r from rfl,Mu hc hl ht,Sw hc hl ht,Hq hl,Rx (by omega)];simp only[AD];rcases AK7 (Mk c r)with hr|hr
 rotate_left
 ·rw[hr];rfl
 have Bz:=I1.1 hr;rw[hr];simp only[ALu,ALz,ALr,AOV,ASe];by_cases h1:b=r.1.length
 rotate_left
 ·rw[show(b !=(r.1.length:Int))=true by simp_all,show decide (b=(r.1.length:Int))=false by simp_all]
  rfl
 rw[show(b !=(r.1.length:Int))=false by simp_all,show decide (b=(r.1.length:Int))=true by simp_all];simp only[ALz,AMD];by_cases h3:b=A5 r.1
 ·rw[show(A5 r.1==b)=true by simp_all,show decide (b≠A5 r.1)=false by simp_all,ASk,AWq]
  rfl
 have AG5:0<r.1.length:=by
  rcases AWx r.1.length with hz|hz
  ·exact absurd (by rw[h1,hz];unfold A5;rw[hz];rfl) h3
  omega
 obtain⟨k,k1,k2,k3,k4⟩:=N1 Bz AG5;rw[show(A5 r.1==b)=false by grind,show decide (b≠A5 r.1)=true by simp_all,show decide (A5 r.1≠0)=true by grind,Ay];simp only[ALz,AMD,AD];cases BK last 0 60 with
 |false=>rfl
 |true=>
  simp only[ALu,ALz,ASe];rw[k2,AL (by omega) (by omega),show((k:Int)+1-1)=(k:Int)by omega,ALI (by omega),ALI (by simp_all),AL2];unfold pkR Gj;simp_all
theorem mO{p:Int}(hp:DJ p):Vf c r p=some (pkR (L8 c r p)):=by
 unfold Vf L8;rw[show(c.1,c.2.1,())=c from rfl,show(r.1,r.2.1,())=r from rfl,Mu hc hl ht,Sw hc hl ht,Hq hl,E4 hp];simp only[AD];rw[Ay,xm];simp only[AD];cases Mk c r with
 |false=>rfl
 |true=>
  cases BN p&&decide (AO p≤(r.1.length:Int))with
  |false=>rfl
  |true=>
   simp only[ALu,ALz,ALr,AOV,ASe];rw[show(if p>r.2.1 then p else r.2.1)=max r.2.1 p by omega];rfl
end
section
variable{c:CK} {w:AM} (hc:c.1.length≤2^40) (hl:Af BU w.2.1≤2^20)
include hc hl
theorem VK:EG c w=some (if Fc c w then(((w.1,(),()),()),(w.2.1,()))else(((0,(),()),()),([],()))):=by
 unfold EG;rw[show(c.1,c.2.1,())=c from rfl,show(w.1,w.2.1,())=w from rfl,I7 hc (by omega),JQ (by show Af BU w.2.1≤2^30;omega)];grind
theorem iy{d:ABs}(hd:d.length≤2^20):JD c w d=some (((((CI c w d).1.1,(),()),(CI c w d).2.1,(CI c w d).2.2,()),()),((CI c w d).1.2.1,())):=by
 have l1:=AW (f:=BU) (l:=w.2.1);unfold JD CI;rw[show(c.1,c.2.1,())=c from rfl,show(w.1,w.2.1,())=w from rfl,JQ (by show Af BU w.2.1≤2^30;omega),VK hc hl];simp only[AD];rw[ALI (by rw[BT];omega),I7 hc (by omega),I7 hc (by
  grind[Af,BU,YH,List.length_nil])]
 grind
theorem jH{o n:Int}:SD c w o n=some (pkW (Qu c w o n)):=by
 have l1:=AW (f:=BU) (l:=w.2.1);unfold SD Qu;rw[show(c.1,c.2.1,())=c from rfl,show(w.1,w.2.1,())=w from rfl,I7 hc (by omega),VK hc hl,JQ (by show Af BU w.2.1≤2^30;omega),Ay,Ay];simp only[AD];rcases AK7 (Fc c w)with hw|hw
 rotate_left
 ·rw[hw];rfl
 have Bz:=Ih.1 hw;have yN:=Fq Bz.cfg;rw[hw,AL (x:=(c.1.length:Int)-1) (by omega) (by omega)];simp only[ALu,ALz,ALr,AOV,ASe];rcases AK7 (BK o 1 (w.2.1.length:Int))with ho|ho
 rotate_left
 ·rw[ho];rfl
 have we:=Ai.1 ho;rw[ho];have hi:(o-1).toNat<w.2.1.length:=by omega
 have AFa:w.2.1.getD (o-1).toNat Kn∈w.2.1:=BV (d:=Kn) hi;have hm:(w.2.1.getD (o-1).toNat Kn).1.length+(w.2.1.getD (o-1).toNat Kn).2.1.length≤Af BU w.2.1:=AZ (f:=BU) AFa;have AFY:=(EN.1 (Bz.words _ AFa).2.1).2.2;simp only[ALu,ALz,AMD];rw[AL (x:=o-1) (by omega) (by omega),ALI (by omega)]
 show cond (w.2.1.getD (o-1).toNat Kn).2.2.1 _ _=_
 cases(w.2.1.getD (o-1).toNat Kn).2.2.1 with
 |true=>
  cases BK n 0 ((c.1.length:Int)-1)<;>rfl
 |false=>
  cases BK n 0 ((c.1.length:Int)-1)with
  |false=>rfl
  |true=>
   simp only[ALz,ARU,ASe,ALu,Bool.and_self];rw[ALI (by omega),show(w.2.1.getD (o-1).toNat ([],[],false,())).2.1=(w.2.1.getD (o-1).toNat Kn).2.1 from rfl,Ob AFY (by omega)];simp only[AD];have hg:∀x:A9,(w.2.1.set (o-1).toNat x).getD (o-1).toNat ([],[],false,())=x:=fun x=>M1 hi
   rw[hg,GO hc (by
    grind[T5,Kn])]
   simp only[AD];rw[AXB];rfl
theorem cL{n:Int}:NL c w n=some (pkW (CD c w n)):=by
 have l1:=AW (f:=BU) (l:=w.2.1);unfold NL Qt CD;rw[show(c.1,c.2.1,())=c from rfl,show(w.1,w.2.1,())=w from rfl,I7 hc (by omega),JQ (by show Af BU w.2.1≤2^30;omega)];simp only[AD];cases Fc c w with
 |false=>rfl
 |true=>
  simp only[ALu,ALz,ALr,AOV];have key:∀(k i:Nat),i≤w.2.1.length→w.2.1.length-i<k→Hh k n w.2.1 w.2.1.length i 0 [] w.1 ((w.2.1.map (Cx n)).take i++w.2.1.drop i)=some (pkW ((w.1,w.2.1.map (Cx n),()),true)):=by
   intro k
   induction k with
   |zero=>omega
   |succ k ih=>
    intro i hi hk;have hlen:((w.2.1.map (Cx n)).take i++w.2.1.drop i).length=w.2.1.length:=OZ hi;simp only[Hh,Qj,AB,hlen];by_cases De:i<w.2.1.length
    ·have c1:(0:Int)≤(i:Int)∧(i:Int)<(w.2.1.length:Int):=by omega
     have hm:w.2.1[i].1.length+w.2.1[i].2.1.length≤Af BU w.2.1:=AZ (f:=BU) (AL5 De);have hg:((w.2.1.map (Cx n)).take i++w.2.1.drop i).getD ((i:Int).toNat) ([],[],false,())=w.2.1[i]:=Mb De;rw[ALI c1.2];simp only[ALI c1,hg];rw[Ak De,AL (by omega) (by omega),show((i:Int)+1)=((i+1:Nat):Int)by omega];rcases AK7 (w.2.1[i].2.2.1)with hd|hd
     ·rw[hd]
      simp only[ALu,ALz];grind[iE,ll]
     ·rw[hd]
      simp only[ARU,AMJ];rw[PJ (by omega)];grind[AD,Int.toNat_natCast,Pk,Cx]
    ·rw[ALT (by omega),AMI (by omega)]
     have:i=w.2.1.length:=by omega
     subst this;rw[AMa,ASm (by simp)];rfl
  have:=key Ae 0 (by omega) (Ag (by omega));simp_all
end
end Go.M
end
section
set_option maxRecDepth 8000
namespace Go.M
open Go.M.H (AJ AN Au Ac AA CX AQ A9 AM Ab BG As BO An Af AW AZ Ar CL BU Ax Ca DN)
section
variable{c:CK} {m:Au} (hc:c.1.length≤2^40) (hm:Ca m≤2^20) (h:qj m.2.2.2.1)
include hc hm h
theorem Rt:En c m=some (if G4 c m then(((m.1,m.2.1,(),(),m.2.2.2.2.1,(),()),()),(m.2.2.1,m.2.2.2.1,m.2.2.2.2.2.1,()))else(((0,0,(),(),false,(),()),()),([],[],[],()))):=by
 unfold En;rw[show(c.1,c.2.1,())=c from rfl,show(m.1,m.2.1,m.2.2.1,m.2.2.2.1,m.2.2.2.2.1,m.2.2.2.2.2.1,())=m from rfl,Hk hc (by omega) h,HL (by omega)];grind
theorem mT{o n:Int}:O0 c m o n=some (iG (Ya c m o n)):=by
 obtain⟨h1,h2,h3,h4⟩:=Iz hm;unfold O0 Ya;rw[show(c.1,c.2.1,())=c from rfl,show(m.1,m.2.1,m.2.2.1,m.2.2.2.1,m.2.2.2.2.1,m.2.2.2.2.2.1,())=m from rfl,Hk hc (by omega) h,Rt hc hm h,HL (by omega),Ay,Ay];simp only[AD];rcases AK7 (G4 c m)with hw|hw
 rotate_left
 ·rw[hw];rfl
 have Bz:=HJ.1 hw;have yN:=Fq Bz.cfg;rw[hw,AL (x:=(c.1.length:Int)-1) (by omega) (by omega)];simp only[ALu,ALz,ALr,AOV,ASe];rcases AK7 (BK o 1 (m.2.2.2.2.2.1.length:Int))with ho|ho
 rotate_left
 ·rw[ho];rfl
 have we:=Ai.1 ho;rw[ho];cases BK n 0 ((c.1.length:Int)-1)with
 |false=>rfl
 |true=>
  have hi:(o-1).toNat<m.2.2.2.2.2.1.length:=by omega
  have AFa:=BV (d:=([]:AAH)) hi;have hq:=h4 _ AFa;have AFY:=(EN.1 (Bz.wrote _ AFa)).2.2;simp only[ALu,ALz,AMD,ASe];rw[AL (by omega) (by omega),ALI (by omega),Ob AFY (by omega)];simp only[AD];rw[ALI (by omega)];rfl
theorem gZ{n:Int}:Pu c m n=some (iG (CB c m n)):=by
 obtain⟨h1,h2,h3,h4⟩:=Iz hm;unfold Pu Sa CB;rw[show(c.1,c.2.1,())=c from rfl,show(m.1,m.2.1,m.2.2.1,m.2.2.2.1,m.2.2.2.2.1,m.2.2.2.2.2.1,())=m from rfl,Hk hc (by omega) h,HL (by omega)];simp only[AD];cases G4 c m with
 |false=>rfl
 |true=>
  simp only[ALu,ALz,ALr,AOV];have key:∀(k i:Nat),i≤m.2.2.2.2.2.1.length→m.2.2.2.2.2.1.length-i<k→JM k n m.2.2.2.2.2.1 m.2.2.2.2.2.1.length i 0 0 false [] [] [] m.1 m.2.1 m.2.2.2.2.1 m.2.2.1 m.2.2.2.1 ((m.2.2.2.2.2.1.map (fun l=>less l [n])).take i++m.2.2.2.2.2.1.drop i)=
    some (iG ((m.1,m.2.1,m.2.2.1,m.2.2.2.1,m.2.2.2.2.1,m.2.2.2.2.2.1.map (fun l=>less l [n]),()),true)):=by
   intro k
   induction k with
   |zero=>omega
   |succ k ih=>
    intro i hi hk;have hlen:=OZ (f:=fun l=>less l [n]) hi;simp only[JM,Se,AB,hlen];by_cases De:i<m.2.2.2.2.2.1.length
    ·have c1:(0:Int)≤(i:Int)∧(i:Int)<(m.2.2.2.2.2.1.length:Int):=by omega
     have hq:=h4 _ (AL5 De);rw[ALI c1.2];simp only[ALI c1];rw[Ak De,AL (by omega) (by omega),show((i:Int)+1)=((i+1:Nat):Int)by omega,PJ (by omega)];simp only[AD];rw[AL2,Pk De rfl];grind
    ·rw[ALT (by omega),AMI (by omega)]
     have:i=m.2.2.2.2.2.1.length:=by omega
     subst this;rw[AMa,ASm (by simp)];rfl
  have:=key Ae 0 (by omega) (Ag (by omega));simp_all
theorem iQ:Nk c m=some ((Oy c m,()),()):=by
 obtain⟨h1,h2,h3,h4⟩:=Iz hm;unfold Nk UK Oy;rw[show(c.1,c.2.1,())=c from rfl,show(m.1,m.2.1,m.2.2.1,m.2.2.2.1,m.2.2.2.2.1,m.2.2.2.2.2.1,())=m from rfl,Hk hc (by omega) h];simp only[AD];cases G4 c m with
 |false=>rfl
 |true=>
  rcases AK7 m.2.2.2.2.1 with hp|hp
  rotate_left
  ·simp_all
  have key:∀(k i:Nat),i≤m.2.2.2.2.2.1.length→m.2.2.2.2.2.1.length-i<k→KL k m.2.2.2.2.2.1 m.2.2.2.2.2.1.length i c.1 c.2.1=some (((m.2.2.2.2.2.1.drop i).all (holds c),()),()):=by
   intro k
   induction k with
   |zero=>omega
   |succ k ih=>
    intro i hi hk;simp only[KL,Uh,AB];by_cases De:i<m.2.2.2.2.2.1.length
    ·have c1:(0:Int)≤(i:Int)∧(i:Int)<(m.2.2.2.2.2.1.length:Int):=by omega
     have hq:=h4 _ (AL5 De);rw[ALI c1.2,ALI c1,AL (by omega) (by omega),show((i:Int)+1)=((i+1:Nat):Int)by omega,Ak De,drop_cons De,show(c.1,c.2.1,())=c from rfl,GO hc (by omega),ih (i+1) (by omega) (by omega)];simp only[AD,AS3];cases holds c m.2.2.2.2.2.1[i]<;>rfl
    grind
  have:=key Ae 0 (by omega) (Ag (by omega));simp_all
omit hc h in
theorem Xv{o:Int}:JS m o=some ((((Dc m o).getD Dq,(Dc m o).isSome,()),()),()):=by
 obtain⟨h1,h2,h3,h4⟩:=Iz hm;unfold JS UM Dc;rw[Hy];simp only[AD];cases m.2.2.2.2.1 with
 |false=>
  simp only[ASk,ALr,AOV,ARU,AMJ];cases(BK m.2.1 1 30&&BK o 1 60)<;>rfl
 |true=>
  simp only[ALu,ALz,AMD];rcases AK7 (BK m.2.1 1 30)with he|he
  rotate_left
  ·rw[he];rfl
  rcases AK7 (BK o 1 60)with ho|ho
  rotate_left
  ·rw[he,ho];rfl
  have hp:GW m.2.1 o=D9 m.2.1 o:=by unfold GW;rw[he,ho];rfl
  rw[he,ho,hp];simp only[AS4,ALu,ALz,AMD];by_cases hl:o≤m.2.2.2.2.2.1.length
  ·rw[show decide (o>(m.2.2.2.2.2.1.length:Int))=false by simpa using hl,show decide (o≤(m.2.2.2.2.2.1.length:Int))=true by simpa using hl]
   simp only[ALz,ASe];have key:∀(k i:Nat),i≤m.2.2.2.1.length→m.2.2.2.1.length-i<k→KU k (D9 m.2.1 o) m.2.2.2.1 m.2.2.2.1.length i m.1 m.2.1 m.2.2.1 m.2.2.2.1 true m.2.2.2.2.2.1 0 0 false []=
     some ((((match EA (D9 m.2.1 o) (m.2.2.2.1.drop i)with
      |some x=>(D9 m.2.1 o,m.1,x.2.2.1,x.2.2.2.1,())
      |none=>(D9 m.2.1 o,m.1,true,[],())),true,()),()),()):=by
    intro k
    induction k with
    |zero=>intro i _ h;omega
    |succ k ih=>
     intro i hi hk;simp only[KU,UB,AB];by_cases De:i<m.2.2.2.1.length
     ·have c1:(0:Int)≤(i:Int)∧(i:Int)<(m.2.2.2.1.length:Int):=by omega
      rw[ALI c1.2,ALI c1,AL (by omega) (by omega),show((i:Int)+1)=((i+1:Nat):Int)by omega,Ak De,drop_cons De,ih (i+1) (by omega) (by omega)];unfold EA;rw[AUO];cases hx:m.2.2.2.1[i].1==D9 m.2.1 o<;>rfl
     ·rw[ALT (by omega),AMI (by omega)]
      rfl
   have:=key Ae 0 (by omega) (Ag (by omega));rw[show((0:Nat):Int)=0 from rfl,ASi]at this;rw[this];cases EA (D9 m.2.1 o) m.2.2.2.1<;>rfl
  ·rw[show decide (o>(m.2.2.2.2.2.1.length:Int))=true by simp;omega,show decide (o≤(m.2.2.2.2.2.1.length:Int))=false by simp;omega]
   rfl
theorem jq{s:AAH}(hs:s.length≤2^20):Pb c m s=some (iG (IH c m s)):=by
 obtain⟨h1,h2,h3,h4⟩:=Iz hm;unfold Pb IH;rw[show(c.1,c.2.1,())=c from rfl,show(m.1,m.2.1,m.2.2.1,m.2.2.2.1,m.2.2.2.2.1,m.2.2.2.2.2.1,())=m from rfl,Hk hc (by omega) h,Rt hc hm h,HL (by omega),bq (by omega) h];simp only[AD];rcases AK7 (G4 c m)with Bz|Bz
 rotate_left
 ·rw[Bz];rfl
 have hmo:=HJ.1 Bz;rw[Bz];simp only[ASe];rcases AK7 m.2.2.2.2.1 with hp|hp
 ·rw[hp]
  simp only[ALu,ALz,AMJ,ASk,ALr,AOV,iG,hp]
 have xO:(m.2.2.1.filter s.contains).length≤m.2.2.1.length:=ARK _ _;rw[hp];simp only[ALu,ARU,ALz,ALr,AOV,AMD];rw[aZ (by omega) (by omega)];simp only[AD];rw[cN hc (by omega) hs];simp only[AD];cases JJ c s (m.2.2.1.filter s.contains)with
 |false=>simp[iG,hp]
 |true=>
  simp only[ALu,ALz,ASe];have hlb:=Gm (l:=m.2.2.2.1);rw[ALI ⟨hlb.1,ASj _,by rw[BT];omega⟩];rfl
theorem jd{n:Int}{l:List AJ}(hl:l.length≤2^20)(O9:qj l)(hw:Af Ar l≤2^20):PX c m n l=some (iG (K6 c m n l)):=by
 obtain⟨h1,h2,h3,h4⟩:=Iz hm;unfold PX U_ K6;rw[show(c.1,c.2.1,())=c from rfl,show(m.1,m.2.1,m.2.2.1,m.2.2.2.1,m.2.2.2.2.1,m.2.2.2.2.2.1,())=m from rfl,Hk hc (by omega) h,Rt hc hm h,HL (by omega)];simp only[AD];rcases AK7 (G4 c m)with Bz|Bz
 rotate_left
 ·rw[Bz];rfl
 have hmo:=HJ.1 Bz;have AFY:=(EN.1 hmo.fD).2.2;rw[Bz];simp only[ALu,ALz,ALr,AOV,ASe];rcases AK7 m.2.2.2.2.1 with hp|hp
 ·grind[iG]
 rw[hp,Ob AFY (by omega)];simp only[AD,ALz,ARU,AMD];have key:∀(k i:Nat) (b:List AJ),i≤l.length→l.length-i<k→b.length≤2^20+i→WD b→qj b→Af Ar b+Af Ar (l.drop i)≤2^21→
   Ll k l l.length i c.1 c.2.1 m.1 m.2.1 m.2.2.1 m.2.2.2.1 false m.2.2.2.2.2.1 0 0 false [] [] [] m.1 m.2.1 false (JO n m.2.2.1) b m.2.2.2.2.2.1=
   some (iG (if G4 c (m.1,m.2.1,JO n m.2.2.1,Db b ((l.drop i).filter fun e=>AO e.1==m.2.1),false,m.2.2.2.2.2.1,())then
    ((m.1,m.2.1,JO n m.2.2.1,Db b ((l.drop i).filter fun e=>AO e.1==m.2.1),false,m.2.2.2.2.2.1,()),true)else(m,false))):=by
  intro k
  induction k with
  |zero=>omega
  |succ k ih=>
   intro i b hi hk hb qy hbi hbw;simp only[Ll,VC,AB];by_cases De:i<l.length
   ·have c1:(0:Int)≤(i:Int)∧(i:Int)<(l.length:Int):=by omega
    rw[ALI c1.2];simp only[ALI c1];rw[AL (by omega) (by omega),show((i:Int)+1)=((i+1:Nat):Int)by omega,Ak De,drop_cons De,show(l[i].1,l[i].2.1,l[i].2.2.1,l[i].2.2.2.1,())=l[i]from rfl,E4 (O9 _ (AL5 De)),aT qy (by omega)];rw[drop_cons De]at hbw;simp only[Af]at hbw;simp only[AD,ASf];rcases AK7 (AO l[i].1==m.2.1)with he|he
    ·simp only[he,AMJ,ASe,Db]
     have:=XE (e:=l[i]) (l:=b);have hwk:=xz l[i] b;exact ih (i+1) _ (by omega) (by omega) (by omega) (UL qy) (fun x hx=>by
      rcases cV hx with rfl|hx
      ·exact O9 _ (AL5 De)
      ·exact hbi x hx) (by omega)
    grind
   ·rw[ALT (by omega),AMI (by omega),show(c.1,c.2.1,())=c from rfl,HL (m:=(m.1,m.2.1,m.2.2.1,m.2.2.2.1,false,m.2.2.2.2.2.1,())) (by
     grind)]
    simp only[AW9,Db];rw[AMI (by omega)]at hbw;simp only[Af]at hbw;have j5:=T5 (n:=n) (l:=m.2.2.1);have hb2:=AW (f:=Ar) (l:=b);rw[Hk (m:=(m.1,m.2.1,JO n m.2.2.1,b,false,m.2.2.2.2.2.1,())) hc (by
     grind[Ca]) hbi]
    grind[AD,G4,JO,iG]
 have hsw:Af Ar m.2.2.2.1≤2^20:=by
  grind[Ca]
 have:=key Ae 0 m.2.2.2.1 (by omega) (Ag (by omega)) (by omega) hmo.gf h (by grind);simp_all
end
end Go.M
end
section
set_option maxRecDepth 8000
namespace Go.M
open Go.M.H (AJ AN Au Ac AA CX AQ A9 AM Ab BG As BO An Af AW AZ Ar CL BU Ax Ca DN)
theorem oP{c:CK}{l:AAH}(hc:c.1.length≤2^20)(hl:l.length≤2^20):YG c l=some ((Aw c l&& !holds c l,()),()):=by
 unfold YG;rw[show(c.1,c.2.1,())=c from rfl,EB (by omega) (by omega),GO (by omega) (by omega)];grind
theorem qT{ss:List AN}(hs:ss.length≤1024)(h:∀s∈ss,s.1.length≤1024)(hw:∀s∈ss,An s≤2^30)(O9:∀s∈ss,qR s)(Bz:∀s∈ss,CE s=true):fP ss=some (((),()),(Ff [] ss,())):=by
 have key:∀n:Nat,
   (∀(i:Nat) (b:List AJ),i≤ss.length→(ss.length-i)*1026+1≤n→b.length≤i*1024→WD b→
    M4 n ss ss.length i b=some (((),()),(Ff b (ss.drop i),())))∧
   (∀(i j:Nat) (b:List AJ),(hi:i<ss.length)→j≤ss[i].1.length→(ss.length-i-1)*1026+1+(ss[i].1.length-j)+1≤n→b.length≤i*1024+j→WD b→
    Mv n ss ss.length i ss[i].1 ss[i].1.length j b=some (((),()),(Ff (Db b (ss[i].1.drop j)) (ss.drop (i+1)),()))):=by
  intro n
  induction n with
  |zero=>simp_all
  |succ n ih=>
   refine⟨fun i b hi h' hb qy=> ?_,fun i j b hi hj h' hb qy=> ?_⟩
   ·simp only[M4,Zt,AB]
    by_cases hc:i<ss.length
    ·have hmm:=AL5 hc
     have hm:=h _ hmm;rw[ALI (by omega),ALI (by omega),Ak hc,show(ss[i].1,ss[i].2.1,ss[i].2.2.1,())=ss[i]from rfl,Ex (hw _ hmm) (O9 _ hmm),Bz _ hmm];have e1:(ss.length-i)*1026=(ss.length-i-1)*1026+1026:=by
      omega
     have:=ih.2 i 0 b hc (by omega) (by omega) (by omega) qy;rw[show((0:Nat):Int)=0 from rfl,ASi]at this;simp only[AD,ALu,ALz];rw[this,drop_cons hc];rfl
    ·rw[ALT (by omega),AMI (by omega)]
     rfl
   ·have hm:=h _ (AL5 hi)
    simp only[Mv,Z5,AB];have hbb:i*1024≤2^20:=by
     omega
    by_cases hc:j<ss[i].1.length
    ·have c2:(0:Int)≤(j:Int)∧(j:Int)<(ss[i].1.length:Int):=by omega
     rw[ALI c2.2,ALI c2,Ak hc,show(ss[i].1[j].1,ss[i].1[j].2.1,ss[i].1[j].2.2.1,ss[i].1[j].2.2.2.1,())=ss[i].1[j]from rfl,aT qy (by omega)];simp only[AD];rw[AL (by omega) (by omega),show((j:Int)+1)=((j+1:Nat):Int)by omega,drop_cons hc];have hk:=XE (e:=ss[i].1[j]) (l:=b);exact ih.2 i (j+1) _ hi (by omega) (by omega) (by omega) (UL qy)
    ·rw[ALT (by omega),AL (by omega) (by omega),show((i:Int)+1)=((i+1:Nat):Int)by omega,AMI (by omega)]
     exact ih.1 (i+1) b (by omega) (by grind) (by omega) qy
 have hf:(ss.length-0)*1026+1≤Ae:=by
  have:ss.length*1026≤1024*1026:=AOk _ hs;exact ATs (Ag (by omega))
 exact(key Ae).1 0 [] (by omega) hf (by simp) List.Pairwise.nil
theorem uC{c:CK}{ss:List AN}{lost:AAH}{n upto:Int}(hc:c.1.length≤2^20)(hs:ss.length≤1024)(hn:∀s∈ss,s.1.length≤1024)(hw:Af An ss≤2^24)(O9:∀s∈ss,qR s)(hl:lost.length≤2^20):
  Z3 c lost n upto ss=some (pkF ss (WE c ss lost n upto)):=by
 have hfs:WE c ss lost n upto=wg (E6 c&&(decide (ss.length=c.1.length)&&(Aw c lost&&(!holds c lost&&(lost.contains n&&((others lost 0 ss).all CE&&CE (Ff [] (others lost 0 ss),[],upto,()))))))) (Ff [] (others lost 0 ss),[],upto,()):=rfl;rw[hfs];unfold Z3 bg;rw[show(c.1,c.2.1,())=c from rfl,oP hc hl,It (by omega)];simp only[AD,A3,Cw];have key:∀(k i:Nat) (o:List AN),(∀s∈o,s∈ss)→(∀s∈o,CE s=true)→i≤ss.length→ss.length-i<k→o.length≤i→Af An o+Af An (ss.drop i)≤2^24→
   RP k lost upto ss.length i ss 0 [] [] o=some (pkF ss (wg ((others lost i (ss.drop i)).all CE&&CE (Ff [] (o++others lost i (ss.drop i)),[],upto,())) (Ff [] (o++others lost i (ss.drop i)),[],upto,()))):=by
  intro k
  induction k with
  |zero=>omega
  |succ k ih=>
   intro i o ho Bz hi h hol how;simp only[RP,bO,AB,A3];by_cases De:i<ss.length
   ·have c1:(0:Int)≤(i:Int)∧(i:Int)<(ss.length:Int):=by omega
    have c2:o.length+1≤Ds:=by rw[BT];omega
    have hmm:=AL5 De;have AdQ:=AZ (f:=An) hmm;rw[drop_cons De]at how;simp only[Af]at how;rw[ALI c1.2,ALI c1,It (by omega),Ak De,show(ss[i].1,ss[i].2.1,ss[i].2.2.1,())=ss[i]from rfl,Ex (by omega) (O9 _ hmm),AL (by omega) (by omega),show((i:Int)+1)=((i+1:Nat):Int)by omega];simp only[AD];rw[drop_cons De];simp only[others];rcases AK7 (lost.contains (i:Int))with hb|hb
    ·rw[hb]
     simp only[AMJ,ASe];exact ih (i+1) o ho Bz (by omega) (by omega) (by omega) (by omega)
    ·rw[hb]
     simp only[ALz,ALr,AOV];rcases AK7 (CE ss[i])with hg|hg
     ·rw[hg]
      simp only[AMJ,AS3,hg,AMD];rw[ALI c2,ih (i+1) (o++[ss[i]]) (fun s hs=>by
       grind) (fun s hs=>by
       grind) (by omega) (by omega) (by simp_all) (by grind[YH,Af])]
      simp_all
     ·rw[hg]
      simp only[ALz,AS3,hg,ASk];rfl
   ·have hu:=yx (l:=o) (k:=[])
    simp only[Af]at hu;have Adg:Af An o≤2^24:=by omega
    rw[ALT (by omega),AMI (by omega),qT (by omega) (fun s hs=>hn s (ho s hs)) (fun s hs=>by grind[AZ,An]) (fun s hs=>O9 s (ho s hs)) Bz];simp only[AD,others,AMa,List.all_nil,AMD];rw[Ex (s:=(Ff [] o,[],upto,())) (by show Af Ar (Ff [] o)+Af Ar []≤_;grind[Af]) ⟨fun e he=>by
     rcases kF he with he|⟨t,ht,he⟩
     ·simp_all
     ·exact(O9 t (ho t ht)).1 e he,fun e he=>by simp_all⟩]
    simp only[AD];rcases AK7 (CE (Ff [] o,[],upto,()))with hb|hb<;>rw[hb]<;>rfl
 have:=key Ae 0 [] (by simp) (by simp) (by omega) (Ag (by omega)) (by simp) (by grind[Af]);rw[show((0:Nat):Int)=0 from rfl,ASi,ASg]at this;rw[this];rcases AK7 (Aw c lost)with h1|h1
 rotate_left
 ·rw[h1]
  by_cases h2:ss.length=c.1.length
  ·rw[ALI (by omega)]
   simp only[ASk,AWq,ALz];rfl
  ·rw[ALT (by omega)]
   simp only[ASk,AWq];rfl
 have yN:E6 c=true:=(EN.1 h1).1;rw[h1,yN];simp only[AMD];by_cases h2:ss.length=c.1.length
 rotate_left
 ·rw[ALT (by omega),ASq h2]
  rfl
 rw[ALI (by omega),ARd h2];simp only[AMD];cases holds c lost with
 |true=>rfl
 |false=>
  cases lost.contains n with
  |false=>rfl
  |true=>rfl
end Go.M
end
section
set_option maxRecDepth 8000
namespace Go.M
open Go.M.H (AJ AN Au Ac AA CX AQ A9 AM Ab BG As BO An Ca Af AW AZ Ar CL BU Ax BD Es Ch DF DN)
def AYl(q:AA×Int):YD:=((q.2,()),(((),q.1.2.1,(),(),(),q.1.2.2.2.2.2.1,(),(),(),(),q.1.2.2.2.2.2.2.2.2.2.2.1,()),q.1.1,q.1.2.2.1,q.1.2.2.2.1,(),(),(),q.1.2.2.2.2.2.2.2.2.1,q.1.2.2.2.2.2.2.2.2.2.1,q.1.2.2.2.2.1,q.1.2.2.2.2.2.2.1,q.1.2.2.2.2.2.2.2.1,()))
def AWT(q:AA×Int):Ze:=((q.2,()),(((),q.1.2.1,(),(),(),q.1.2.2.2.2.2.1,(),(),(),(),q.1.2.2.2.2.2.2.2.2.2.2.1,()),q.1.1,q.1.2.2.1,q.1.2.2.2.1,q.1.2.2.2.2.1,q.1.2.2.2.2.2.2.1,q.1.2.2.2.2.2.2.2.1,q.1.2.2.2.2.2.2.2.2.1,(),q.1.2.2.2.2.2.2.2.2.2.1,()))
def AJ5(q:AA×Int):GX:=((q.2,()),(((),q.1.2.1,(),(),(),q.1.2.2.2.2.2.1,(),(),(),(),q.1.2.2.2.2.2.2.2.2.2.2.1,()),q.1.1,q.1.2.2.1,(),q.1.2.2.2.2.1,q.1.2.2.2.2.2.2.1,q.1.2.2.2.2.2.2.2.1,q.1.2.2.2.2.2.2.2.2.1,q.1.2.2.2.2.2.2.2.2.2.1,q.1.2.2.2.1,()))
def AYf(q:AA×Int):YE:=((q.2,()),(((),q.1.2.1,(),(),(),q.1.2.2.2.2.2.1,(),(),(),(),q.1.2.2.2.2.2.2.2.2.2.2.1,()),q.1.1,q.1.2.2.1,q.1.2.2.2.1,q.1.2.2.2.2.1,q.1.2.2.2.2.2.2.1,(),q.1.2.2.2.2.2.2.2.2.1,q.1.2.2.2.2.2.2.2.2.2.1,q.1.2.2.2.2.2.2.2.1,()))
def AXy(q:AA×Int):Wr:=((q.2,()),(((),q.1.2.1,(),(),(),q.1.2.2.2.2.2.1,(),(),(),(),q.1.2.2.2.2.2.2.2.2.2.2.1,()),q.1.1,q.1.2.2.1,q.1.2.2.2.1,(),q.1.2.2.2.2.2.2.1,(),q.1.2.2.2.2.2.2.2.2.1,q.1.2.2.2.2.2.2.2.2.2.1,q.1.2.2.2.2.1,q.1.2.2.2.2.2.2.2.1,()))
theorem tu{m:Au}{b:Int}{e:AJ}(h:Dc m b=some e):DJ e.1:=by
 unfold Dc at h;split at h
 ·rename_i hc
  simp only[ALp,Ai]at hc;grind[I4,Jd]
 simp_all
theorem gq{α:Type}{l:List α}{i:Nat}{d:α}:l.set i (l.getD i d)=l:=by
 by_cases h:i<l.length
 ·simp_all
 grind[List.set_eq_of_length_le]
def nu(w:AA)(n ep:Int):Int:=if Al w n=0 then if(Ap w.AY ep).contains n then 0 else 2 else Al w n
section
variable{w:AA} (h:Ml w)
include h
theorem QI{n ep:Int}(he:DJ ep):Dg w n ep=some ((nu w n ep,()),()):=by
 have k:=h.nums;have k1:=k.c;have k2:=k.wr;have k3:=k.lost;have k4:=k.st;have ZZ:=k.Zp;have gb:=k.Jk;have jM:=k.gg;have k5:=k.era;have k7:=k.aB;unfold Dg nu;rw[LU (by omega) (by omega),show(w.2.2.2.2.1,w.2.2.2.2.2.1,())=B7 w from rfl,Oc (r:=B7 w) (by show Af CL w.2.2.2.2.1≤_;omega) he];have UJ:(Ap w.AY ep).length≤8:=Gl h;rw[show(B7 w).1=w.AY from rfl];simp only[AD,DR];rw[It (by omega)];grind
theorem YX{n:Int}{e:AJ}(hn:Al w n=0)(he:DJ e.1):Lj n e w.2.1 w.2.2.2.2.2.1 w.2.2.2.2.2.2.2.2.2.2.1 w.1 w.2.2.1 w.2.2.2.1 w.2.2.2.2.1 w.2.2.2.2.2.2.1 w.2.2.2.2.2.2.2.1 w.2.2.2.2.2.2.2.2.1 w.2.2.2.2.2.2.2.2.2.1=some (kC (putAt w n (GD (storeAt w n) e))):=by
 obtain⟨hr,s1,s2,s3⟩:=h.K_ hn;have ZK:w.2.2.1.getD n.toNat ([],[],0,())=storeAt w n:=rfl;unfold Lj putAt;simp only[ALI hr,ZK];rw[show((storeAt w n).1,(storeAt w n).2.1,(storeAt w n).2.2.1,())=storeAt w n from rfl,show(e.1,e.2.1,e.2.2.1,e.2.2.2.1,())=e from rfl,kR s1 s2 he];simp only[AD,ld,Ot];cases(GD (storeAt w n) e).2<;>rfl
theorem fl{a:Int}:J5 a w.2.1 w.2.2.2.2.2.1 w.2.2.2.2.2.2.2.2.2.2.1 w.1 w.2.2.1 w.2.2.2.1 w.2.2.2.2.1 w.2.2.2.2.2.2.1 w.2.2.2.2.2.2.2.1 w.2.2.2.2.2.2.2.2.1 w.2.2.2.2.2.2.2.2.2.1=some (AYl (MK w a)):=by
 have k:=h.nums;have k1:=k.c;have k2:=k.wr;have k3:=k.lost;have k4:=k.st;have ZZ:=k.Zp;have gb:=k.Jk;have jM:=k.gg;have k5:=k.era;have k7:=k.aB;unfold J5 MK;rw[DR];by_cases h4:w.2.2.2.2.2.2.1.length=4
 ·rw[ALI (by omega),ALI h4];rfl
 have hm:(Ao a).length≤8:=vA;rw[ALT (by omega),ALT h4,X4];simp only[AD];rw[show(w.1,w.2.1,())=AS w from rfl,show(w.2.2.2.2.1,w.2.2.2.2.2.1,())=B7 w from rfl,mi (c:=AS w) (r:=B7 w) (by show w.1.length≤_;omega) (by show Af CL w.2.2.2.2.1≤_;omega) k.trim (by omega)];simp only[AD,A3];rcases AK7 (Ij (AS w) (B7 w) (Ao a)).2.2 with hq|hq
 ·rw[hq,ALI (by rw[BT];omega),Fy];rfl
 ·rw[hq,Ic];rfl
theorem eC{d:BO}:I2 d w.2.1 w.2.2.2.2.2.1 w.2.2.2.2.2.2.2.2.2.2.1 w.1 w.2.2.1 w.2.2.2.1 w.2.2.2.2.1 w.2.2.2.2.2.2.1 w.2.2.2.2.2.2.2.1 w.2.2.2.2.2.2.2.2.1 w.2.2.2.2.2.2.2.2.2.1=some (kC (IW w d.2.1 d.2.2.1 d.2.2.2.1)):=by
 have k:=h.nums;have k1:=k.c;have k2:=k.wr;have k3:=k.lost;have k4:=k.st;have ZZ:=k.Zp;have gb:=k.Jk;have jM:=k.gg;have k5:=k.era;have k7:=k.aB;unfold I2 IW;rw[show(w.1,w.2.1,w.2.2.1,w.2.2.2.1,w.2.2.2.2.1,w.2.2.2.2.2.1,w.2.2.2.2.2.2.1,w.2.2.2.2.2.2.2.1,w.2.2.2.2.2.2.2.2.1,w.2.2.2.2.2.2.2.2.2.1,w.2.2.2.2.2.2.2.2.2.2.1,())=w from rfl,AL (x:=(w.2.2.2.2.2.2.1.length:Int)-1) (by omega) (by omega),Ay];simp only[AD,A3,Cw];rw[show BK d.2.1 0 ((w.2.2.2.2.2.2.1.length:Int)-1)=BK d.2.1 0 ((w.AH.length:Int)-1)from rfl];rcases AK7 (BK d.2.1 0 ((w.AH.length:Int)-1))with h1|h1
 rotate_left
 ·rw[h1,Ic];rfl
 obtain⟨x1,x2,x3⟩:=h.cD h1;rw[h1,AMJ,Fy,ALI x1,Ay];simp only[AD];rw[show w.2.2.2.2.2.2.1.getD d.2.1.toNat (0,[],())=w.AH.getD d.2.1.toNat Bo from rfl]
 generalize hx:w.AH.getD d.2.1.toNat Bo=x at*
 rcases AK7 (BK d.2.2.1 1 (x.2.1.length:Int))with h2|h2
 rotate_left
 ·rw[h2,Ic];rfl
 have h2':=Ai.1 h2;have hxl:=x2.n;have hxe:=x2.ep;have j5:=I4 (e:=x.1) (o:=d.2.2.1) hxe (by omega);have hpm:GW x.1 d.2.2.1=D9 x.1 d.2.2.1:=by
  grind[GW,Ai]
 rw[h2,AMJ,Fy,QI h ⟨by omega,by omega⟩,Hy,hpm,AL (by omega) (by omega)];simp only[AD,ALI (show(0:Int)≤d.2.2.1-1∧d.2.2.1-1<(x.2.1.length:Int)by omega)];unfold nu;by_cases h3:Al w d.2.2.2.1=0
 rotate_left
 ·rw[ALT h3,ALT h3,ALI h3];rfl
 rw[ALI h3,ALT (show¬(Al w d.2.2.2.1≠0)from fun hh=>hh h3)];rcases AK7 ((Ap w.AY x.1).contains d.2.2.2.1)with h5|h5
 rotate_left
 ·rw[h5,Ic];rfl
 rw[h5,Fy,ALI rfl,ALI rfl,YX h h3 (Jd j5.1)];rfl
theorem eK{n k:Int}:O7 n k w.2.1 w.2.2.2.2.2.1 w.2.2.2.2.2.2.2.2.2.2.1 w.1 w.2.2.1 w.2.2.2.1 w.2.2.2.2.1 w.2.2.2.2.2.2.1 w.2.2.2.2.2.2.2.1 w.2.2.2.2.2.2.2.2.1 w.2.2.2.2.2.2.2.2.2.1=some (kC (Ib w n k)):=by
 have kk:=h.nums;have k1:=kk.c;have k2:=kk.wr;have k3:=kk.lost;have k4:=kk.st;have ZZ:=kk.Zp;have gb:=kk.Jk;have jM:=kk.gg;have k5:=kk.era;have k7:=kk.aB;unfold O7 Ib;rw[show(w.1,w.2.1,w.2.2.1,w.2.2.2.1,w.2.2.2.2.1,w.2.2.2.2.2.1,w.2.2.2.2.2.2.1,w.2.2.2.2.2.2.2.1,w.2.2.2.2.2.2.2.2.1,w.2.2.2.2.2.2.2.2.2.1,w.2.2.2.2.2.2.2.2.2.2.1,())=w from rfl,LU (by omega) (by omega)];simp only[AD,Cw];by_cases h3:Al w n=0
 rotate_left
 ·rw[ALT h3,ALI h3];rfl
 obtain⟨hr,s1,s2,s3⟩:=h.K_ h3;have ZK:w.2.2.1.getD n.toNat ([],[],0,())=storeAt w n:=rfl;rw[ALI h3,ALT (show¬(Al w n≠0)from fun hh=>hh h3)];simp only[ALI hr,ZK];rw[show((storeAt w n).1,(storeAt w n).2.1,(storeAt w n).2.2.1,())=storeAt w n from rfl,WG s1 s2];simp only[AD,ld,Ot];unfold putAt;rcases AK7 (D3 (storeAt w n) k).2 with hq|hq
 ·rw[hq];rfl
 ·have e:(D3 (storeAt w n) k).1=storeAt w n:=by
   unfold D3 at hq⊢;rw[DC.2 s3]at hq⊢;grind
  rw[hq,e];have:w.2.2.1.set n.toNat ((storeAt w n).1,(storeAt w n).2.1,(storeAt w n).2.2.1,())=w.2.2.1:=gq;rw[this];rfl
theorem eG{n:Int}:Oq n w.2.1 w.2.2.2.2.2.1 w.2.2.2.2.2.2.2.2.2.2.1 w.1 w.2.2.1 w.2.2.2.1 w.2.2.2.2.1 w.2.2.2.2.2.2.1 w.2.2.2.2.2.2.2.1 w.2.2.2.2.2.2.2.2.1 w.2.2.2.2.2.2.2.2.2.1=some (kC (Ii w n)):=by
 have k:=h.nums;have k1:=k.c;have k2:=k.wr;have k3:=k.lost;have k4:=k.st;have ZZ:=k.Zp;have gb:=k.Jk;have jM:=k.gg;have k5:=k.era;have k7:=k.aB;unfold Oq Ii;rw[show(w.1,w.2.1,w.2.2.1,w.2.2.2.1,w.2.2.2.2.1,w.2.2.2.2.2.1,w.2.2.2.2.2.2.1,w.2.2.2.2.2.2.2.1,w.2.2.2.2.2.2.2.2.1,w.2.2.2.2.2.2.2.2.2.1,w.2.2.2.2.2.2.2.2.2.2.1,())=w from rfl,LU (by omega) (by omega)];simp only[AD,Cw];by_cases h3:Al w n=0
 rotate_left
 ·rw[ALT h3,ALI h3];rfl
 obtain⟨hr,s1,s2,s3⟩:=h.K_ h3;have ZK:w.2.2.1.getD n.toNat ([],[],0,())=storeAt w n:=rfl;rw[ALI h3,ALT (show¬(Al w n≠0)from fun hh=>hh h3)];simp only[ALI hr,ZK];rw[show((storeAt w n).1,(storeAt w n).2.1,(storeAt w n).2.2.1,())=storeAt w n from rfl,jB s1 s2 k.trim];simp only[AD,ld,Ot];unfold putAt;rw[show w.trim=w.2.2.2.2.2.1 from rfl];rcases AK7 (F_ (storeAt w n) w.2.2.2.2.2.1).2 with hq|hq
 ·rw[hq];rfl
 ·have e:(F_ (storeAt w n) w.2.2.2.2.2.1).1=storeAt w n:=by
   unfold F_ at hq⊢;rw[DC.2 s3]at hq⊢;grind
  rw[hq,e];have:w.2.2.1.set n.toNat ((storeAt w n).1,(storeAt w n).2.1,(storeAt w n).2.2.1,())=w.2.2.1:=gq;rw[this];rfl
theorem gQ:P0 w.2.1 w.2.2.2.2.2.1 w.2.2.2.2.2.2.2.2.2.2.1 w.1 w.2.2.1 w.2.2.2.1 w.2.2.2.2.1 w.2.2.2.2.2.2.1 w.2.2.2.2.2.2.2.1 w.2.2.2.2.2.2.2.2.1 w.2.2.2.2.2.2.2.2.2.1=some (AYf (L5 w)):=by
 have k:=h.nums;have k1:=k.c;have k2:=k.wr;have k3:=k.lost;have k4:=k.st;have ZZ:=k.Zp;have gb:=k.Jk;have jM:=k.gg;have k5:=k.era;have k7:=k.aB;unfold P0 L5;rw[show(w.2.2.2.2.1,w.2.2.2.2.2.1,())=B7 w from rfl,Rx (r:=B7 w) (by show w.2.2.2.2.1.length≤_;omega)];simp only[AD,DR,AB];rw[show(B7 w).1=w.AY from rfl];by_cases h1:(w.2.2.2.2.1.length:Int)<2
 ·rw[ALI h1,show(decide ((w.2.2.2.2.1.length:Int)<2)||decide (A5 w.2.2.2.2.1=(w.2.2.2.2.1.length:Int)))=true by simp_all];rfl
 rw[ALT h1];by_cases h2:A5 w.2.2.2.2.1=(w.2.2.2.2.1.length:Int)
 ·rw[ALI h2,show(decide ((w.2.2.2.2.1.length:Int)<2)||decide (A5 w.2.2.2.2.1=(w.2.2.2.2.1.length:Int)))=true by simp_all];rfl
 rw[ALT h2,show(decide ((w.2.2.2.2.1.length:Int)<2)||decide (A5 w.2.2.2.2.1=(w.2.2.2.2.1.length:Int)))=false by simp_all];rw[ALT (show¬(false=true)by simp)];by_cases h3:w.2.2.2.2.2.2.2.1.length>0
 ·rw[ALI (by omega),ALI h3];rfl
 ·rw[ALT (by omega),ALT h3];rfl
theorem fH{n:Int}:Js n w.2.1 w.2.2.2.2.2.1 w.2.2.2.2.2.2.2.2.2.2.1 w.1 w.2.2.1 w.2.2.2.1 w.2.2.2.2.1 w.2.2.2.2.2.2.1 w.2.2.2.2.2.2.2.1 w.2.2.2.2.2.2.2.2.1 w.2.2.2.2.2.2.2.2.2.1=some (AJ5 (ME w n)):=by
 have k:=h.nums;have k1:=k.c;have k2:=k.wr;have k3:=k.lost;have k4:=k.st;have ZZ:=k.Zp;have gb:=k.Jk;have jM:=k.gg;have k5:=k.era;have k7:=k.aB;have k6:=k.ws;unfold Js ME;rw[show(w.1,w.2.1,w.2.2.1,w.2.2.2.1,w.2.2.2.2.1,w.2.2.2.2.2.1,w.2.2.2.2.2.2.1,w.2.2.2.2.2.2.2.1,w.2.2.2.2.2.2.2.2.1,w.2.2.2.2.2.2.2.2.2.1,w.2.2.2.2.2.2.2.2.2.2.1,())=w from rfl,AL (x:=(w.2.2.1.length:Int)-1) (by omega) (by omega),AL (x:=(w.2.2.2.2.1.length:Int)-1) (by omega) (by omega),Ay];simp only[AD,A3];rcases AK7 (w.lost.contains n)with hl|hl
 rotate_left
 ·rw[hl]
  have e:C8 w n=some ((w.lost.contains n,()),()):=Zl (by omega);rw[e,hl];cases BK n 0 ((w.2.2.1.length:Int)-1)<;>rfl
 have O9:=(EN.1 h.lost).2.1 n (by simp_all);have hn1:BK n 0 ((w.2.2.1.length:Int)-1)=true:=Ai.2 ⟨O9.1,by
  have:n<(w.1.length:Int):=O9.2;omega⟩
 have Ac1:=Ai.1 hn1;rw[hn1,show C8 w n=some ((w.lost.contains n,()),())from Zl (by omega),hl,Fy];simp only[AD,AMJ];rw[show(if(0:Int)>(w.2.2.2.2.1.length:Int)-1 then 0 else(w.2.2.2.2.1.length:Int)-1)=max ((w.AY.length:Int)-1) 0 by
  grind]
 have ATu:∀s∈w.2.2.1,eR s:=fun s hs=>h.PU hs
 rw[show(w.1,w.2.1,())=AS w from rfl,uC (c:=AS w) (by show w.1.length≤_;omega) (by omega) (fun s hs=>by have:=(ATu s hs).nk;omega) (by omega) (fun s hs=>(ATu s hs).sin) (by omega)];simp only[AD,pkF];rw[show WE (AS w) w.Aj w.lost n (max ((w.AY.length:Int)-1) 0)=WE (AS w) w.2.2.1 w.2.2.2.1 n (max ((w.AY.length:Int)-1) 0)from rfl];rcases AK7 (WE (AS w) w.2.2.1 w.2.2.2.1 n (max ((w.AY.length:Int)-1) 0)).2 with hq|hq
 rotate_left
 ·rw[hq,Ic];rfl
 rw[hq,AMJ,Fy,ALI (by omega),PJ (by omega)];rfl
theorem fZ{n:Int}:Jr n w.2.1 w.2.2.2.2.2.1 w.2.2.2.2.2.2.2.2.2.2.1 w.1 w.2.2.1 w.2.2.2.1 w.2.2.2.2.1 w.2.2.2.2.2.2.1 w.2.2.2.2.2.2.2.1 w.2.2.2.2.2.2.2.2.1 w.2.2.2.2.2.2.2.2.2.1=some (kC (MH w n)):=by
 have k:=h.nums;have k1:=k.c;have k2:=k.wr;have k3:=k.lost;have k4:=k.st;have ZZ:=k.Zp;have gb:=k.Jk;have jM:=k.gg;have k5:=k.era;have k7:=k.aB;unfold Jr MH;rcases hm:w.BW with _|⟨m,ms⟩
 ·rw[DR,ALI (by simp_all)];rfl
 have px:w.2.2.2.2.2.2.2.1=m::ms:=hm;have uk:w.2.2.2.2.2.2.2.1.length=ms.length+1:=by simp_all
 have g0:w.2.2.2.2.2.2.2.1.getD 0 (0,0,[],[],false,[],())=m:=by simp_all
 have yT:(0:Int)≤(0:Int)∧(0:Int)<(w.2.2.2.2.2.2.2.1.length:Int):=by omega
 have Yg:=(h.BW m (by simp_all)).1;have hmw:=Yg.w;have o7:=Yg.ep;have hmb:=Yg.b;simp only[DR,A3,Cw,ALI yT,g0];rw[ALT (by omega)];rw[show(w.1,w.2.1,w.2.2.1,w.2.2.2.1,w.2.2.2.2.1,w.2.2.2.2.2.1,w.2.2.2.2.2.2.1,w.2.2.2.2.2.2.2.1,w.2.2.2.2.2.2.2.2.1,w.2.2.2.2.2.2.2.2.2.1,w.2.2.2.2.2.2.2.2.2.2.1,())=w from rfl,QI h ⟨by omega,by omega⟩];simp only[AD];unfold nu;by_cases h3:Al w n=0
 rotate_left
 ·rw[ALT h3,ALT h3,ALI h3];rfl
 obtain⟨hr,s1,s2,s3⟩:=h.K_ h3;have ZK:w.2.2.1.getD n.toNat ([],[],0,())=storeAt w n:=rfl;have hn3: ¬(Al w n≠0):=fun hh=>hh h3
 rw[ALI h3,ALT hn3];simp only[ALI hr,ZK];rcases AK7 ((Ap w.AY m.2.1).contains n)with h5|h5
 rotate_left
 ·rw[h5,Ic];rfl
 rw[h5,Fy,ALI rfl,ALI rfl,AL (by omega) (by omega),show((storeAt w n).1,(storeAt w n).2.1,(storeAt w n).2.2.1,())=storeAt w n from rfl,iA s1 s2];have hq:=vz (u:=m.1-1) s3;have hqw:=hq.w;simp only[AD,ld];rw[show((Bg (storeAt w n) (m.1-1)).1.1,(Bg (storeAt w n) (m.1-1)).1.2.1,(Bg (storeAt w n) (m.1-1)).1.2.2.1,())=(Bg (storeAt w n) (m.1-1)).1 from rfl,ke (by omega) hq.sin];simp only[AD];have hes:(GH (Bg (storeAt w n) (m.1-1)).1 m.2.1).length≤200∧qj (GH (Bg (storeAt w n) (m.1-1)).1 m.2.1)∧Af Ar (GH (Bg (storeAt w n) (m.1-1)).1 m.2.1)≤10000:=by
  unfold GH;rw[DC.2 hq,ALI rfl];refine⟨ARE (ARK _ _) hq.nk,fun e he=>hq.sin.1 e (ASp.1 he).1,ARE jZ ?_⟩;have:An (Bg (storeAt w n) (m.1-1)).1=Af Ar (Bg (storeAt w n) (m.1-1)).1.1+Af Ar (Bg (storeAt w n) (m.1-1)).1.2.1:=rfl;omega
 rw[show(m.1,m.2.1,m.2.2.1,m.2.2.2.1,m.2.2.2.2.1,m.2.2.2.2.2.1,())=m from rfl,show(w.1,w.2.1,())=AS w from rfl,jd (c:=AS w) (by show w.1.length≤_;omega) (by omega) Yg.ein (by omega) hes.2.1 (by omega)];simp only[AD,iG];rcases AK7 (Bg (storeAt w n) (m.1-1)).2 with h6|h6
 rotate_left
 ·rw[h6,ARU,AW4,ALI rfl];rfl
 rw[h6,ALu,ASR];rcases AK7 (K6 (AS w) m n (GH (Bg (storeAt w n) (m.1-1)).1 m.2.1)).2 with h7|h7
 rotate_left
 ·rw[h7,Ic];rfl
 rw[h7,Fy,AMJ,AMJ,px];rfl
theorem fM:Jt w.2.1 w.2.2.2.2.2.1 w.2.2.2.2.2.2.2.2.2.2.1 w.1 w.2.2.1 w.2.2.2.1 w.2.2.2.2.1 w.2.2.2.2.2.2.1 w.2.2.2.2.2.2.2.1 w.2.2.2.2.2.2.2.2.1 w.2.2.2.2.2.2.2.2.2.1=some (kC (MJ w)):=by
 have k:=h.nums;have k1:=k.c;have k2:=k.wr;have k3:=k.lost;have k4:=k.st;have ZZ:=k.Zp;have gb:=k.Jk;have jM:=k.gg;have k5:=k.era;have k7:=k.aB;unfold Jt MJ;rcases hm:w.BW with _|⟨m,ms⟩
 ·rw[DR,ALI (by simp_all)];rfl
 have px:w.2.2.2.2.2.2.2.1=m::ms:=hm;have uk:w.2.2.2.2.2.2.2.1.length=ms.length+1:=by simp_all
 have g0:w.2.2.2.2.2.2.2.1.getD 0 (0,0,[],[],false,[],())=m:=by simp_all
 have yT:(0:Int)≤(0:Int)∧(0:Int)<(w.2.2.2.2.2.2.2.1.length:Int):=by omega
 have Yg:=(h.BW m (by simp_all)).1;have hmw:=Yg.w;have o7:=Yg.ep;simp only[DR,A3,Cw,ALI yT,g0];rw[ALT (by omega)];rw[show(w.2.2.2.2.1,w.2.2.2.2.2.1,())=B7 w from rfl,Oc (r:=B7 w) (by show Af CL w.2.2.2.2.1≤_;omega) ⟨by omega,by omega⟩];have UJ:(Ap w.AY m.2.1).length≤8:=Gl h;rw[show(B7 w).1=w.AY from rfl];simp only[AD];rw[show(m.1,m.2.1,m.2.2.1,m.2.2.2.1,m.2.2.2.2.1,m.2.2.2.2.2.1,())=m from rfl,show(w.1,w.2.1,())=AS w from rfl,jq (c:=AS w) (by show w.1.length≤_;omega) (by omega) Yg.ein (by omega)];simp only[AD,iG,Ot];rcases AK7 (IH (AS w) m (Ap w.AY m.2.1)).2 with h6|h6
 ·rw[h6,Fy,px];rfl
 ·have e:(IH (AS w) m (Ap w.AY m.2.1)).1=m:=by
   unfold IH at h6⊢;rw[HJ.2 Yg]at h6⊢;grind
  rw[h6,Ic,e,px]
  show some ((4,()),_,_,_,_,_,_,(m::ms),_)=some ((4,()),_,_,_,_,_,_,w.2.2.2.2.2.2.2.1,_)
  rw[px]
theorem ix{b n:Int}:RF b n w.2.1 w.2.2.2.2.2.1 w.2.2.2.2.2.2.2.2.2.2.1 w.1 w.2.2.1 w.2.2.2.1 w.2.2.2.2.1 w.2.2.2.2.2.2.1 w.2.2.2.2.2.2.2.1 w.2.2.2.2.2.2.2.2.1 w.2.2.2.2.2.2.2.2.2.1=some (kC (Rf w b n)):=by
 have k:=h.nums;have k1:=k.c;have k2:=k.wr;have k3:=k.lost;have k4:=k.st;have ZZ:=k.Zp;have gb:=k.Jk;have jM:=k.gg;have k5:=k.era;have k7:=k.aB;unfold RF Rf;rcases hm:w.BW with _|⟨m,ms⟩
 ·rw[DR,ALI (by simp_all)];rfl
 have px:w.2.2.2.2.2.2.2.1=m::ms:=hm;have uk:w.2.2.2.2.2.2.2.1.length=ms.length+1:=by simp_all
 have g0:w.2.2.2.2.2.2.2.1.getD 0 (0,0,[],[],false,[],())=m:=by simp_all
 have yT:(0:Int)≤(0:Int)∧(0:Int)<(w.2.2.2.2.2.2.2.1.length:Int):=by omega
 have Yg:=(h.BW m (by simp_all)).1;have hmw:=Yg.w;have o7:=Yg.ep;simp only[DR,A3,Cw,ALI yT,g0];rw[ALT (by omega),show(m.1,m.2.1,m.2.2.1,m.2.2.2.1,m.2.2.2.2.1,m.2.2.2.2.2.1,())=m from rfl,Xv (by omega)];simp only[AD];rcases he:Dc m b with _|e
 ·rfl
 simp only[ASv,ASs,AMJ];rw[show(w.1,w.2.1,w.2.2.1,w.2.2.2.1,w.2.2.2.2.1,w.2.2.2.2.2.1,w.2.2.2.2.2.2.1,w.2.2.2.2.2.2.2.1,w.2.2.2.2.2.2.2.2.1,w.2.2.2.2.2.2.2.2.2.1,w.2.2.2.2.2.2.2.2.2.2.1,())=w from rfl,QI h ⟨by omega,by omega⟩];simp only[AD];unfold nu;by_cases h3:Al w n=0
 rotate_left
 ·rw[ALT h3,ALT h3,ALI h3];rfl
 rw[ALI h3,ALT (show¬(Al w n≠0)from fun hh=>hh h3)];rcases AK7 ((Ap w.AY m.2.1).contains n)with h5|h5
 rotate_left
 ·rw[h5,Ic];rfl
 rw[h5,Fy,ALI rfl,ALI rfl,show(e.1,e.2.1,e.2.2.1,e.2.2.2.1,())=e from rfl,YX h h3 (tu he)];rfl
theorem eO:I3 w.2.1 w.2.2.2.2.2.1 w.2.2.2.2.2.2.2.2.2.2.1 w.1 w.2.2.1 w.2.2.2.1 w.2.2.2.2.1 w.2.2.2.2.2.2.1 w.2.2.2.2.2.2.2.1 w.2.2.2.2.2.2.2.2.1 w.2.2.2.2.2.2.2.2.2.1=some (AXy (Ie w)):=by
 have k:=h.nums;have k1:=k.c;have k2:=k.wr;have k3:=k.lost;have k4:=k.st;have ZZ:=k.Zp;have gb:=k.Jk;have jM:=k.gg;have k5:=k.era;have k7:=k.aB;unfold I3 Ie;rcases hm:w.BW with _|⟨m,ms⟩
 ·rw[DR,ALI (by simp_all)];rfl
 have px:w.2.2.2.2.2.2.2.1=m::ms:=hm;have uk:w.2.2.2.2.2.2.2.1.length=ms.length+1:=by simp_all
 have g0:w.2.2.2.2.2.2.2.1.getD 0 (0,0,[],[],false,[],())=m:=by simp_all
 have yT:(0:Int)≤(0:Int)∧(0:Int)<(w.2.2.2.2.2.2.2.1.length:Int):=by omega
 have Yg:=(h.BW m (by simp_all)).1;have hmw:=Yg.w;simp only[DR,A3,Cw,ALI yT,g0];rw[ALT (by omega),show(m.1,m.2.1,m.2.2.1,m.2.2.2.1,m.2.2.2.2.1,m.2.2.2.2.2.1,())=m from rfl,show(w.1,w.2.1,())=AS w from rfl,show(w.2.2.2.2.1,w.2.2.2.2.2.1,())=B7 w from rfl,iQ (c:=AS w) (by show w.1.length≤_;omega) (by omega) Yg.ein];simp only[AD];rcases AK7 (Oy (AS w) m)with h6|h6
 rotate_left
 ·rw[h6,Ic];rfl
 rw[h6,Fy,AMJ,j0 (c:=AS w) (r:=B7 w) (by show w.1.length≤_;omega) (by show Af CL w.2.2.2.2.1≤_;omega) k.trim];simp only[AD,pkR,Ot];rcases AK7 (Mc (AS w) (B7 w) m.1 (m.2.2.2.2.2.1.length:Int)).2 with h7|h7
 ·rw[h7,AMJ,Fy];rfl
 ·rw[h7,ALz,Ic];rfl
end
end Go.M
end
section
set_option maxRecDepth 8000
namespace Go.M
open Go.M.H (AJ AN Au Ac AA CX AQ A9 AM Ab BG As BO An Ca Af AW AZ Ar CL BU Ax BD Es Ch DF DN)
abbrev mf(l:List Ac):Prop:=S8 (fun s:Ac=>s.1) l
abbrev AA8(p:Int)(l:List Ac)(q:Nat):Prop:=ic (fun s:Ac=>s.1) p l q
def Zf(p:Int)(l:List Ac)(q:Nat):Bool:=match l[q]? with|some e=>e.1==p|none=>false
theorem lj{l:List Ac}(ha:mf l)(hl:l.length≤2^30)(hp:∀s∈l,0≤s.1∧s.1<2^40){p:Int}(hpp:0≤p∧p<2^40):∃q,AA8 p l q∧
  BM l p=some ((((q:Int),Zf p l q,()),()),()):=by
 have key:∀(n a b:Nat),a≤b→b≤l.length→b-a<n→(∀(i:Nat) (h:i<l.length),i<a→l[i].1<p)→(∀(i:Nat) (h:i<l.length),b≤i→p≤l[i].1)→
   ∃q,AA8 p l q∧Av n l p l.length a b=some ((((q:Int),Zf p l q,()),()),()):=by
  intro n
  induction n with
  |zero=>omega
  |succ n ih=>
   intro a b qy hb hn h1 h2;simp only[Av,Cm,AB,Kw,AD];by_cases Jq:a<b
   ·have hm:(a+b)/2<l.length:=by omega
    have hq:=hp _ (AL5 hm);rw[ALI (by omega),tP (by omega),ALI (by omega),Ak hm,AL (by omega) (by omega)];by_cases hc:l[(a+b)/2].1<p
    ·rw[ALI (by omega),AL (by omega) (by omega),show((((a+b)/2:Nat):Int)+1)=(((a+b)/2+1:Nat):Int)by omega]
     refine ih _ b (by omega) hb (by omega) (fun i h hi=> ?_) h2;exact Int.lt_of_le_of_lt (ai (f:=fun s:Ac=>s.1) ha h hm (by omega)) hc
    ·rw[ALT (by omega)]
     exact ih a _ (by omega) (by omega) (by omega) h1 fun i h hi=>Int.le_trans (by omega) (ai (f:=fun s:Ac=>s.1) ha hm h hi)
   ·have ADA:a=b:=by omega
    subst ADA;refine⟨a,⟨hb,h1,h2⟩,?_⟩;rw[ALT (by omega)];unfold Zf;by_cases ha':a<l.length
    ·have hq:=hp _ (AL5 ha')
     rw[ALI (by omega),ALI (by omega),Ak ha',ALR ha',AL (by omega) (by omega)];dsimp only;by_cases hd:l[a].1=p
     ·simp_all
     ·rw[APa.2 hd,APa.2 (by omega:l[a].1-p≠0)]
    grind
 obtain⟨q,hq,e⟩:=key Ae 0 l.length (by omega) (by omega) (Ag (by omega)) (fun i h hi=>by omega) (fun i h hi=>by omega);refine⟨q,hq,?_⟩;unfold BM Ck;omega
theorem xD{p:Int}{l:List Ac}{q:Nat}(h:Zf p l q=true):∃hq:q<l.length,l[q].1=p:=by
 unfold Zf at h;grind
theorem r6{p:Int}{l:List Ac}{q:Nat}(hp:AA8 p l q)(ha:mf l)(h:Zf p l q=false):∀s∈l,s.1≠p:=by
 intro s hs e;obtain⟨i,hi,rfl⟩:=List.mem_iff_getElem.1 hs;have h1:=hp.lt i hi;by_cases hiq:i<q
 ·omega
 ·have hq:q<l.length:=by omega
  have h3:p≤l[q].1:=hp.ge q hq (APz _);have h4:=ai (f:=fun s:Ac=>s.1) ha hq hi (by omega);grind[Zf,List.getElem?_eq_getElem,beq_eq_false_iff_ne]
theorem AHz{p:Int}{l:List Ac}{q:Nat}(hp:AA8 p l q)(ha:mf l):(l.any fun s=>s.1==p)=Zf p l q:=by
 rcases AK7 (Zf p l q)with h|h
 ·obtain⟨hq,e⟩:=xD h
  grind
 ·rw[h,List.any_eq_false]
  intro s hs;grind[r6]
def QB(p:Int)(l:List Ac):List Ac:=l.map fun s=>if s.1=p then(s.1,s.2.1,true,())else s
theorem zj{p:Int}{l:List Ac}(h:∀s∈l,s.1≠p):QB p l=l:=by
 unfold QB
 conv=>rhs;rw[←List.map_id l]
 refine ASl fun s hs=> ?_
 grind
theorem AFb{p:Int}:∀{l:List Ac} {q:Nat} (hq:q<l.length),mf l→l[q].1=p→l.set q (l[q].1,l[q].2.1,true,())=QB p l
 |[],q,hq,_,_=>by rfl
 |s::l,0,_,ha,e=>by
  have h1:=AQc.1 ha;have e':s.1=p:=e;have h2:QB p l=l:=zj fun y hy=>by grind
  show(s.1,s.2.1,true,())::l=(if s.1=p then(s.1,s.2.1,true,())else s)::QB p l
  simp_all
 |s::l,q+1,hq,ha,e=>by
  have h1:=AQc.1 ha;have hq':q<l.length:=by grind
  have e':l[q].1=p:=e;have h3:s.1<l[q].1:=h1.1 _ (AL5 hq');have h4:s.1≠p:=by omega
  have:=AFb hq' h1.2 e'
  show s::l.set q (l[q].1,l[q].2.1,true,())=(if s.1=p then(s.1,s.2.1,true,())else s)::QB p l
  simp_all
theorem sm_at{p:Int}{l:List Ac}:∀{s:Ac},s∈QB p l→ ∃t∈l,t.1=s.1:=by
 intro s hs;obtain⟨t,ht,rfl⟩:=ASt.1 hs;grind
theorem AQA{p:Int}{l:List Ac}(h:mf l):mf (QB p l):=by
 unfold QB mf S8;grind
theorem AO8{p:Int}{l:List Ac}:(QB p l).length=l.length:=by unfold QB;rw[AWu]
theorem vp{s:Ac}:∀{l:List Ac} {q:Nat},AA8 s.1 l q→Zf s.1 l q=false→Xa s l=l.take q++[s]++l.drop q
 |[],q,h,_=>by
  have:=h.le;have:q=0:=by simp_all
  subst this;rfl
 |y::l,0,h,hn=>by
  have h1:=h.ge 0 (by simp) (APz _);have h2:(y.1==s.1)=false:=hn;have h2':=APa.1 h2;have h1':s.1≤y.1:=h1;simp only[Xa];grind
 |y::l,q+1,h,hn=>by
  have h1:y.1<s.1:=h.lt 0 (by simp) (by omega);have hp:AA8 s.1 l q:=⟨by have:=h.le;simp_all,fun i hi hiq=>h.lt (i+1) (by simp_all) (by omega),fun i hi hiq=>h.ge (i+1) (by simp_all) (by omega)⟩;simp only[Xa];rw[ALT (by omega),vp hp hn];rfl
section
variable{w:AA} (h:Ml w)
include h
theorem Ml.AMz:∀s∈w.2.2.2.2.2.2.2.2.2.1,0≤s.1∧s.1<2^40:=fun s hs=>by
 have hp:=(h.Aq s hs).1;have h1:=CJ hp;grind[D9,AO,A7]
theorem jF{a:Int}{d:ABs}(hd:d.length≤40):Lo a d w.2.1 w.2.2.2.2.2.1 w.2.2.2.2.2.2.2.2.2.2.1 w.1 w.2.2.1 w.2.2.2.1 w.2.2.2.2.1 w.2.2.2.2.2.2.1 w.2.2.2.2.2.2.2.1 w.2.2.2.2.2.2.2.2.1 w.2.2.2.2.2.2.2.2.2.1=some (AWT (doAdd w a d)):=by
 have k:=h.nums;have k1:=k.c;have k2:=k.wr;have k3:=k.lost;have k4:=k.st;have ZZ:=k.Zp;have gb:=k.Jk;have jM:=k.gg;have k5:=k.era;have k7:=k.aB;have k6:=k.se;unfold Lo doAdd;rw[AL (x:=(w.2.2.2.2.2.2.1.length:Int)-1) (by omega) (by omega),Ay];simp only[AD,A3,Cw,DR];rw[show BK a 0 ((w.2.2.2.2.2.2.1.length:Int)-1)=BK a 0 ((w.AH.length:Int)-1)from rfl];rcases AK7 (BK a 0 ((w.AH.length:Int)-1))with h1|h1
 rotate_left
 ·rw[h1,Ic];rfl
 obtain⟨x1,x2,x3⟩:=h.cD h1;rw[h1,AMJ,Fy];simp only[ALI x1];rw[show w.2.2.2.2.2.2.1.getD a.toNat (0,[],())=w.AH.getD a.toNat Bo from rfl]
 generalize hx:w.AH.getD a.toNat Bo=x at*
 rw[show(x.1,x.2.1,())=x from rfl,show(w.1,w.2.1,())=AS w from rfl,iy (c:=AS w) (by show w.1.length≤_;omega) (by omega) (by omega)];simp only[AD];rw[Hy];simp only[AD];have hxl:=x2.n;have hxe:=x2.ep;have hq1:(CI (AS w) x d).1.1=x.1:=by
  unfold CI;rw[Ih.2 x2];grind
 have hpm:0≤GW (CI (AS w) x d).1.1 (CI (AS w) x d).2.1∧GW (CI (AS w) x d).1.1 (CI (AS w) x d).2.1<2^40:=by
  unfold GW D9;split
  ·rename_i hc
   rw[ALp,Ai,Ai]at hc;omega
  omega
 obtain⟨q,hq,es⟩:=lj (l:=w.2.2.2.2.2.2.2.2.2.1) h.XZ (by omega) h.AMz hpm;unfold H4;rw[es];simp only[AD];rcases AK7 (CI (AS w) x d).2.2 with h2|h2
 rotate_left
 ·rw[h2,ARU,AW4,ALI rfl,ALz];rfl
 obtain⟨y1,y2,y3,y4⟩:=Vr h2;have hyl:=y2.n;rw[y3]at hyl;simp only[APV,ANW,AQF]at hyl;have j5:=I4 (e:=x.1) (o:=(CI (AS w) x d).2.1) hxe (by omega);have hpe:GW (CI (AS w) x d).1.1 (CI (AS w) x d).2.1=D9 x.1 (CI (AS w) x d).2.1:=by
  grind[GW,Ai]
 rw[hpe]at hq⊢;rw[h2,AMJ];simp only[ALu,ASR];have AYo:(w.Aq.any fun s=>s.1==D9 x.1 (CI (AS w) x d).2.1)=Zf (D9 x.1 (CI (AS w) x d).2.1) w.2.2.2.2.2.2.2.2.2.1 q:=AHz hq h.XZ;rw[AYo];by_cases h3:w.2.2.2.2.2.2.2.2.2.1.length=120
 ·rw[ALI (by omega),show decide (w.Aq.length=120)=true from ARd h3,AW4,ALI rfl]
  rfl
 rw[ALT (by omega),show decide (w.Aq.length=120)=false from ASq h3];simp only[ASR];rcases AK7 (Zf (D9 x.1 (CI (AS w) x d).2.1) w.2.2.2.2.2.2.2.2.2.1 q)with h4|h4
 ·rw[h4,AMJ,ALI rfl];rfl
 rw[h4,ALz,ALT (by simp)];have hql:=hq.le;grind[ED,hY,vp,D9,CI,AS,AWT,List.append_assoc,Xa]
end
end Go.M
end
section
set_option maxRecDepth 8000
namespace Go.M
open Go.M.H (AJ AN Au Ac AA CX AQ A9 AM Ab BG As BO An Ca Af AW AZ Ar CL BU Ax BD Es Ch DF DN)
def e_(c:CK)(s:AN)(ep n:Int):Int→List A9→List Ac→List Ac
 |_,[],se=>se
 |o,x::l,se=>e_ c s ep n (o+1) l (if !x.2.2.1&&JA s (D9 ep o)&&(EY c n x).2.2.1 then QB (D9 ep o) se else se)
def pkT(c0:AAH)(c1 tr:Int)(tn:Bool)(ss:List AN)(lo:AAH)(er:List CX)(ws:List AM)(ms:List Au)(rs:List Ab)(se:List Ac):F8:=
 (((()),()),(((),c1,(),(),(),tr,(),(),(),(),tn,()),c0,ss,lo,er,ws,ms,rs,se,()))
section
variable{c:CK} {st:AN} {SS:List AN} {n:Int} (hc:c.1.length≤8) (hs:eR st) (hn:0≤n∧n<c.1.length) (hnS:n<(SS.length:Int)) (ZK:SS.getD n.toNat Ci=st)
include hc hs hn hnS ZK
theorem xS{tr:Int}{tn:Bool}{lo:AAH}{er:List CX}{ms:List Au}{rs:List Ab}{a:Nat}{ep:Int}:∀(rest dn:List A9) (ws:List AM) (se:List Ac) (f:Nat),a<ws.length→a≤4→ws.getD a Bo=(ep,dn++rest,())→ax c (ep,dn++rest,())→
  mf se→(∀s∈se,0≤s.1∧s.1<2^40)→se.length≤120→rest.length<f→
  C3 f (a:Int) n ((dn.length:Int)+1) c.2.1 tr tn c.1 SS lo er ws ms rs se=some (pkT c.1 c.2.1 tr tn SS lo er (ws.set a (ep,dn++A_ c st ep n ((dn.length:Int)+1) rest,())) ms rs (e_ c st ep n ((dn.length:Int)+1) rest se)):=by
 have cz:=hs.w;intro rest
 induction rest with
 |nil=>
  intro dn ws se f ha ha4 hw Bz zJ AII APt hf;obtain⟨f,rfl⟩:∃f',f=f'+1:=⟨f-1,by omega⟩;have qY:ws.getD a (0,[],())=(ep,dn++[],()):=hw;simp only[C3,IZ,AB,AL2,qY,AMa];rw[ALI (by omega),ALT (by omega)];unfold A_ e_ pkT;rw[show((ep,dn++[],()):AM)=ws.getD a Bo from hw.symm,gq]
 |cons x rest ih=>
  intro dn ws se f ha ha4 hw Bz zJ AII APt hf;obtain⟨f,rfl⟩:∃f',f=f'+1:=⟨f-1,by omega⟩;simp only[ANW]at hf;have qY:ws.getD a (0,[],())=(ep,dn++x::rest,()):=hw;have hwe:1≤ep∧ep≤30:=Bz.ep;have hwn:(dn++x::rest).length≤60:=Bz.n;have hww:Af BU (dn++x::rest)≤3000:=Bz.w;have hwl:=hwn;simp only[APV,ANW]at hwl;have ca:(0:Int)≤(a:Int)∧(a:Int)<(ws.length:Int):=by omega
  have cn:(0:Int)≤n∧n<(SS.length:Int):=⟨hn.1,hnS⟩;have j5:=I4 (e:=ep) (o:=(dn.length:Int)+1) hwe (by omega);have hpm:GW ep ((dn.length:Int)+1)=D9 ep ((dn.length:Int)+1):=by
   grind[GW,Ai]
  have cd:(0:Int)≤(dn.length:Int)+1-1∧(dn.length:Int)+1-1<((dn++x::rest).length:Int):=by
   grind
  have e1:((dn.length:Int)+1-1).toNat=dn.length:=by omega
  have e2:(dn++x::rest).getD dn.length ([],[],false,())=x:=by simp[List.getD]
  have ARr:SS.getD n.toNat ([],[],0,())=st:=ZK;simp only[C3,IZ,AB,A3,Cw,AL2,qY,ALI ca,ALI cn];rw[ALI (by omega),Hy,hpm];simp only[AD,ARr];rw[show(st.1,st.2.1,st.2.2.1,())=st from rfl,Oe (by omega) hs.sin];simp only[AD];rw[AL (x:=(dn.length:Int)+1+1) (by omega) (by omega),AL (x:=(dn.length:Int)+1-1) (by omega) (by omega)];simp only[ALI cd,e1,e2];have go:∀(y:A9) (ws':List AM) (nG:List Ac),ws'.length=ws.length→ws'.getD a Bo=(ep,dn++y::rest,())→(∀z,ws'.set a z=ws.set a z)→ax c (ep,dn++y::rest,())→mf nG→(∀s∈nG,0≤s.1∧s.1<2^40)→nG.length≤120→
    (if !x.2.2.1&&JA st (D9 ep ((dn.length:Int)+1))then EY c n x else x)=y→(if !x.2.2.1&&JA st (D9 ep ((dn.length:Int)+1))&&(EY c n x).2.2.1 then QB (D9 ep ((dn.length:Int)+1)) se else se)=nG→
    C3 f (a:Int) n ((dn.length:Int)+1+1) c.2.1 tr tn c.1 SS lo er ws' ms rs nG=some (pkT c.1 c.2.1 tr tn SS lo er (ws.set a (ep,dn++A_ c st ep n ((dn.length:Int)+1) (x::rest),())) ms rs (e_ c st ep n ((dn.length:Int)+1) (x::rest) se)):=fun y ws' nG g1 g2 g3 g4 g5 g6 g7 g8 g9=>by
   have:=ih (dn++[y]) ws' nG f (by omega) ha4 (by simp_all) (by simp_all) g5 g6 g7 (by omega);simp only[APV,ANW,AQF,AM4,AS8]at this;grind[A_,e_]
  have stay:(if !x.2.2.1&&JA st (D9 ep ((dn.length:Int)+1))then EY c n x else x)=x→(if !x.2.2.1&&JA st (D9 ep ((dn.length:Int)+1))&&(EY c n x).2.2.1 then QB (D9 ep ((dn.length:Int)+1)) se else se)=se→
    C3 f (a:Int) n ((dn.length:Int)+1+1) c.2.1 tr tn c.1 SS lo er ws ms rs se=some (pkT c.1 c.2.1 tr tn SS lo er (ws.set a (ep,dn++A_ c st ep n ((dn.length:Int)+1) (x::rest),())) ms rs (e_ c st ep n ((dn.length:Int)+1) (x::rest) se)):=fun g8 g9=>go x ws se rfl hw (fun _=>rfl) Bz zJ AII APt g8 g9
  have hsg:UO st (D9 ep ((dn.length:Int)+1))=EA (D9 ep ((dn.length:Int)+1)) st.1:=by unfold UO;rw[DC.2 hs,ALI rfl]
  rw[hsg];cases hxd:x.2.2.1 with
  |true=>
   grind
  |false=>
   rw[ALz];cases hg:EA (D9 ep ((dn.length:Int)+1)) st.1 with
   |none=>
    grind[JA,D9]
   |some e=>
    simp only[AMJ];by_cases he0:e.2.1=0
    rotate_left
    ·have hh:JA st (D9 ep ((dn.length:Int)+1))=false:=by grind[JA]
     simp_all
    have hh:JA st (D9 ep ((dn.length:Int)+1))=true:=by grind[JA]
    rw[ALI he0];have hx:=Bz.words x (by simp);have hb:ax c (ep,dn++EY c n x::rest,()):=⟨Bz.cfg,Bz.ep,by grind,fun b hb=>by
     simp only[AOs,AO3]at hb;rcases hb with hb|rfl|hb
     ·exact Bz.words b (by simp[hb])
     ·exact⟨hx.1,Ig hx.2.1 hn,rfl⟩
     ·exact Bz.words b (by simp[hb]),ARE (kz hxd) Bz.opn⟩
    rw[show(c.1,c.2.1,())=c from rfl,jH (c:=c) (w:=(ep,dn++x::rest,())) (by omega) (by grind)];have ADE:Qu c (ep,dn++x::rest,()) ((dn.length:Int)+1) n=((ep,dn++EY c n x::rest,()),true):=by
     unfold Qu;rw[Ih.2 Bz];simp only[ALu,ALr,AOV];rw[e1,show(dn++x::rest).getD dn.length Kn=x from e2,hxd];rw[ALI (by
      rw[ALp,ALp,Ai,Ai];grind)]
     grind
    rw[ADE];simp only[AD,pkW];have hx7:(ws.set a (ep,dn++EY c n x::rest,())).getD a (0,[],())=(ep,dn++EY c n x::rest,()):=M1 ha;have ca7:(0:Int)≤(a:Int)∧(a:Int)<((ws.set a (ep,dn++EY c n x::rest,())).length:Int):=by grind
    have cd7:(0:Int)≤(dn.length:Int)+1-1∧(dn.length:Int)+1-1<((dn++EY c n x::rest).length:Int):=by
     grind
    have e27:(dn++EY c n x::rest).getD dn.length ([],[],false,())=EY c n x:=by simp[List.getD]
    have hpr:0≤D9 ep ((dn.length:Int)+1)∧D9 ep ((dn.length:Int)+1)<2^40:=by unfold D9;omega
    obtain⟨q,hq,es⟩:=lj zJ (by omega) AII hpr;unfold H4;rw[es];simp only[AD,hx7,ALI ca7,ALI cd7,e27];have Wb:∀z,(ws.set a (ep,dn++EY c n x::rest,())).set a z=ws.set a z:=fun z=>AXB ..
    have AL9:(if !x.2.2.1&&JA st (D9 ep ((dn.length:Int)+1))then EY c n x else x)=EY c n x:=by grind
    rcases AK7 (Zf (D9 ep ((dn.length:Int)+1)) se q)with hf|hf
    rotate_left
    ·rw[hf,ALz]
     refine go _ _ se (ATZ ..) hx7 Wb hb zJ AII APt AL9 ?_
     rw[zj (r6 hq zJ hf)];grind
    obtain⟨hql,hqe⟩:=xD hf;rw[hf,AMJ];cases hd:(EY c n x).2.2.1 with
    |false=>
     grind
    |true=>
     rw[AMJ,ALI (by omega),AL2,show se.getD q (0,[],false,())=se[q]from Me hql,AFb hql zJ hqe];refine go _ _ _ (ATZ ..) hx7 Wb hb (AQA zJ) (fun s uz=> ?_) (by rw[AO8];omega) AL9 (by grind);grind[sm_at]
theorem yO{tr:Int}{tn:Bool}{lo:AAH}{er:List CX}{ws:List AM}{rs:List Ab}{se:List Ac}{a:Nat}{m:Au}(hm:pV c m):∀(rest dn:List AAH) (ms:List Au) (f:Nat),a<ms.length→a≤4→ms.getD a Ql=(m.1,m.2.1,m.2.2.1,m.2.2.2.1,m.2.2.2.2.1,dn++rest,())→(dn++rest).length=m.2.2.2.2.2.1.length→(∀l∈dn++rest,Aw c l=true)→
  rest.length<f→
  BR f (a:Int) n ((dn.length:Int)+1) c.2.1 tr tn c.1 SS lo er ws ms rs se=some (pkT c.1 c.2.1 tr tn SS lo er ws (ms.set a (m.1,m.2.1,m.2.2.1,m.2.2.2.1,m.2.2.2.2.1,dn++D1 m st n ((dn.length:Int)+1) rest,())) rs se):=by
 have cz:=hs.w;have hmn:m.2.2.2.2.2.1.length≤60:=by
  have:=hm.n;have hb:=Gm (l:=m.2.2.2.1);omega
 intro rest
 induction rest with
 |nil=>
  intro dn ms f ha ha4 hw hl ho hf;obtain⟨f,rfl⟩:∃f',f=f'+1:=⟨f-1,by omega⟩;have qY:ms.getD a (0,0,[],[],false,[],())=(m.1,m.2.1,m.2.2.1,m.2.2.2.1,m.2.2.2.2.1,dn++[],()):=hw;simp only[BR,G6,AB,AL2,qY,AMa];rw[ALI (by omega),ALT (by omega)];unfold D1 pkT;rw[show((m.1,m.2.1,m.2.2.1,m.2.2.2.1,m.2.2.2.2.1,dn++[],()):Au)=ms.getD a Ql from hw.symm,gq]
 |cons x rest ih=>
  intro dn ms f ha ha4 hw hl ho hf;obtain⟨f,rfl⟩:∃f',f=f'+1:=⟨f-1,by omega⟩;simp only[ANW]at hf;have qY:ms.getD a (0,0,[],[],false,[],())=(m.1,m.2.1,m.2.2.1,m.2.2.2.1,m.2.2.2.2.1,dn++x::rest,()):=hw;have gl:=hl;simp only[APV,ANW]at gl;have ca:(0:Int)≤(a:Int)∧(a:Int)<(ms.length:Int):=by omega
  have cn:(0:Int)≤n∧n<(SS.length:Int):=⟨hn.1,hnS⟩;have ARr:SS.getD n.toNat ([],[],0,())=st:=ZK;have Yg:pV c (m.1,m.2.1,m.2.2.1,m.2.2.2.1,m.2.2.2.2.1,dn++x::rest,()):=⟨hm.cfg,hm.ep,hm.b,hm.fD,hm.gf,hm.seen,ho,by show((dn++x::rest).length:Int)=_;rw[hl];exact hm.n⟩;have hmw:=Yg.w;simp only[BR,G6,AB,A3,Cw,AL2,qY,ALI ca,ALI cn];rw[ALI (by omega),Xv (m:=(m.1,m.2.1,m.2.2.1,m.2.2.2.1,m.2.2.2.2.1,dn++x::rest,())) (by omega),bT hl];simp only[AD,ARr];rw[show(st.1,st.2.1,st.2.2.1,())=st from rfl,Oe (by omega) hs.sin];simp only[AD];rw[AL (x:=(dn.length:Int)+1+1) (by omega) (by omega)];have go:∀(y:AAH) (ms':List Au),ms'.length=ms.length→ms'.getD a Ql=(m.1,m.2.1,m.2.2.1,m.2.2.2.1,m.2.2.2.2.1,dn++y::rest,())→(∀z,ms'.set a z=ms.set a z)→Aw c y=true→
    (if NT m st ((dn.length:Int)+1)then JO n x else x)=y→
    BR f (a:Int) n ((dn.length:Int)+1+1) c.2.1 tr tn c.1 SS lo er ws ms' rs se=some (pkT c.1 c.2.1 tr tn SS lo er ws (ms.set a (m.1,m.2.1,m.2.2.1,m.2.2.2.1,m.2.2.2.2.1,dn++D1 m st n ((dn.length:Int)+1) (x::rest),())) rs se):=fun y ms' g1 g2 g3 g4 g5=>by
   have:=ih (dn++[y]) ms' f (by omega) ha4 (by simp_all) (by simp_all) (fun l hl=>by
    grind) (by omega)
   simp only[APV,ANW,AQF,AM4,AS8]at this;grind[D1]
  have hx:=ho x (by simp);have stay:NT m st ((dn.length:Int)+1)=false→BR f (a:Int) n ((dn.length:Int)+1+1) c.2.1 tr tn c.1 SS lo er ws ms rs se=some (pkT c.1 c.2.1 tr tn SS lo er ws (ms.set a (m.1,m.2.1,m.2.2.1,m.2.2.2.1,m.2.2.2.2.1,dn++D1 m st n ((dn.length:Int)+1) (x::rest),())) rs se):=fun g=>go x ms rfl hw (fun _=>rfl) hx (by simp_all)
  have hsg:∀p,UO st p=EA p st.1:=fun p=>by unfold UO;rw[DC.2 hs,ALI rfl]
  rw[hsg];cases he:Dc m ((dn.length:Int)+1)with
  |none=>
   simp only[ASr,ALz];grind[NT]
  |some e=>
   simp only[ASs,AMJ,ASv];cases hg:EA e.1 st.1 with
   |none=>
    grind[NT]
   |some y=>
    simp only[AMJ,eqE,AB];by_cases hye:y=e
    rotate_left
    ·rw[ALT hye]
     grind[NT]
    have hh:NT m st ((dn.length:Int)+1)=true:=by grind[NT]
    rw[ALI hye,show(c.1,c.2.1,())=c from rfl,mT (c:=c) (m:=(m.1,m.2.1,m.2.2.1,m.2.2.2.1,m.2.2.2.2.1,dn++x::rest,())) (by omega) (by omega) Yg.ein];have ADE:Ya c (m.1,m.2.1,m.2.2.1,m.2.2.2.1,m.2.2.2.2.1,dn++x::rest,()) ((dn.length:Int)+1) n=((m.1,m.2.1,m.2.2.1,m.2.2.2.1,m.2.2.2.2.1,dn++JO n x::rest,()),true):=by
     unfold Ya;rw[HJ.2 Yg];have hq:(BK ((dn.length:Int)+1) 1 ((dn++x::rest).length:Int)&&BK n 0 ((c.1.length:Int)-1))=true:=by
      rw[ALp,Ai,Ai];omega
     grind
    grind[AD,iG,JO,List.length_set,M1,List.set_set,Ig]
end
def fV(c:CK)(s:AN)(ep n:Int):Int→List A9→Int→Bool
 |_,[],_=>false
 |o,x::l,p=>(decide (p=D9 ep o)&&(!x.2.2.1&&JA s (D9 ep o)&&(EY c n x).2.2.1))||fV c s ep n (o+1) l p
theorem sP{c:CK}{st:AN}{ep n:Int}:∀{l:List A9} {o:Int} {se:List Ac},e_ c st ep n o l se=se.map fun s=>(s.1,s.2.1,s.2.2.1||fV c st ep n o l s.1,())
 |[],o,se=>by
  simp only[e_,fV,AW7];simp_all
 |x::l,o,se=>by
  simp only[e_];rw[sP];rcases AK7 (!x.2.2.1&&JA st (D9 ep o)&&(EY c n x).2.2.1)with hb|hb
  ·rw[hb,ALI rfl]
   unfold QB;rw[ATj];refine ASl fun s _=> ?_
   simp only[Function.comp_apply,fV,hb,AS4];grind
  ·rw[hb]
   simp only[ALr,AOV];refine ASl fun s _=> ?_
   simp only[fV,hb,AWq,ASR]
theorem sC{c:CK}{st:AN}{ep n p:Int}(hep:1≤ep∧ep≤30)(hp:BN p=true):∀{l:List A9} {o:Int},1≤o→o+l.length≤61→
  fV c st ep n o l p=(AO p==ep&&(decide (o≤A7 p)&&(decide (A7 p<o+l.length)&&(((A_ c st ep n o l).getD (A7 p-o).toNat Kn).2.2.1&& !(l.getD (A7 p-o).toNat Kn).2.2.1))))
 |[],o,_,_=>by
  have:(decide (o≤A7 p)&&decide (A7 p<o+(([]:List A9).length:Int)))=false:=by
   simp_all
  rw[←Bool.and_assoc (decide (o≤A7 p)),this,ASk,AWq];rfl
 |x::l,o,ho,hl=>by
  simp only[ANW]at hl;have hf:=CJ hp;simp only[fV];rw[sC hep hp (l:=l) (o:=o+1) (by omega) (by omega)];by_cases he:AO p=ep
  rotate_left
  ·grind[D9,I4,beq_eq_false_iff_ne,decide_eq_false]
  rw[ASy.2 he];simp only[AMD,ANW];by_cases h1:A7 p=o
  ·have hpe:p=D9 ep o:=by simp_all
   have e0:(A7 p-o).toNat=0:=by omega
   rw[ARd hpe,ASq (show¬o+1≤A7 p by omega),ARd (show o≤A7 p by omega),ARd (show A7 p<o+((l.length+1:Nat):Int)by omega),e0];simp only[AMD,ASk,AW7,A_,List.getD_cons_zero];grind
  ·have bM:p≠D9 ep o:=fun e=>h1 (by grind[I4])
   rw[ASq bM,ASk,ASR];by_cases h2:o≤A7 p
   ·rw[ARd h2,ARd (show o+1≤A7 p by omega)]
    have e1:(A7 p-o).toNat=(A7 p-(o+1)).toNat+1:=by omega
    rw[e1];simp only[A_,List.getD_cons_succ];grind
   grind
theorem eT{c:CK}{st:AN}{ep n:Int}:∀{l:List A9} {o:Int},(A_ c st ep n o l).length=l.length
 |[],_=>rfl
 |x::l,o=>by simp only[A_,ANW,eT]
theorem yt{c:CK}{st:AN}{ep n:Int}(hep:1≤ep∧ep≤30){l:List A9}(hl:l.length≤60){se:List Ac}(hs:∀s∈se,BN s.1=true):e_ c st ep n 1 l se=se.map (Nn false ep l (A_ c st ep n 1 l)):=by
 rw[sP];refine ASl fun s hm=> ?_
 have hf:=CJ (hs s hm);unfold Nn QY;rw[sC hep (hs s hm) (by omega) (by omega),eT];by_cases h1:A7 s.1≤l.length
 ·have:BK (A7 s.1) 1 (l.length:Int)=true:=Ai.2 (by omega)
  grind
 ·have:BK (A7 s.1) 1 (l.length:Int)=false:=by
   rw[←AO4,Ai];omega
  grind
end Go.M
end
section
set_option maxRecDepth 8000
namespace Go.M
open Go.M.H (AJ AN Au Ac AA CX AQ A9 AM Ab BG As BO An Ca Af AW AZ Ar CL BU Ax BD Es Ch DF DN)
def ACw(q:AA×Int):bI:=((q.2,()),(((),q.1.2.1,(),(),(),q.1.2.2.2.2.2.1,(),(),(),(),q.1.2.2.2.2.2.2.2.2.2.2.1,()),q.1.1,q.1.2.2.1,(),(),(),(),q.1.2.2.2.2.2.2.2.2.1,(),q.1.2.2.2.1,q.1.2.2.2.2.1,q.1.2.2.2.2.2.2.1,q.1.2.2.2.2.2.2.2.1,q.1.2.2.2.2.2.2.2.2.2.1,()))
def ww(w:AA)(SS:List AN)(ws:List AM)(ms:List Au)(se:List Ac):AA:=(((w.A8 SS).A6 ws).C2 se).Bi ms
section
variable{w:AA} (h:Ml w) {st:AN} {SS:List AN} {n:Int} (hs:eR st) (hn:0≤n∧n<(AS w).1.length) (hnS:n<(SS.length:Int)) (ZK:SS.getD n.toNat Ci=st)
include h hs hn hnS ZK
theorem AED{ws:List AM}{se:List Ac}:∀(k i:Nat),w.2.2.2.2.2.2.2.1.length-i=k→i≤w.2.2.2.2.2.2.2.1.length→ ∀f,k<f→
  FJ f n w.2.2.2.2.2.2.2.1.length i w.2.1 w.2.2.2.2.2.1 w.2.2.2.2.2.2.2.2.2.2.1 w.1 SS w.2.2.2.1 w.2.2.2.2.1 ws ((w.2.2.2.2.2.2.2.1.map (G8 st w.AY n)).take i++w.2.2.2.2.2.2.2.1.drop i) w.2.2.2.2.2.2.2.2.1 se=some (kC (ww w SS ws (w.2.2.2.2.2.2.2.1.map (G8 st w.AY n)) se,0)):=by
 have k:=h.nums;have k1:=k.c;have k5:=k.era;have k6:=k.md;intro k
 induction k with
 |zero=>
  intro i hk hi f hf;obtain⟨f,rfl⟩:∃f',f=f'+1:=⟨f-1,by omega⟩;have:i=w.2.2.2.2.2.2.2.1.length:=by omega
  simp only[FJ,MD,AB];rw[ALT (by omega),this,ATA,AMa,ASm (by simp)];rfl
 |succ k ih=>
  intro i hk hi f hf;obtain⟨f,rfl⟩:∃f',f=f'+1:=⟨f-1,by omega⟩;have De:i<w.2.2.2.2.2.2.2.1.length:=by omega
  have hm:=(h.BW _ (AL5 De)).1;have o7:=hm.ep;have UJ:(Ap w.AY w.2.2.2.2.2.2.2.1[i].2.1).length≤8:=Gl h;simp only[FJ,MD,AB];rw[OZ hi,ALI (by omega),ALI (by omega),AL2,Mb De,show(w.2.2.2.2.1,w.2.2.2.2.2.1,())=B7 w from rfl,Oc (r:=B7 w) (by show Af CL w.2.2.2.2.1≤_;omega) ⟨by omega,by omega⟩];rw[show(B7 w).1=w.AY from rfl];simp only[AD];rw[It (by omega),AL (x:=(i:Int)+1) (by omega) (by omega),show((i:Int)+1)=((i+1:Nat):Int)by omega];simp only[AD];have nx:=ih (i+1) (by omega) (by omega) f (by omega);rcases AK7 ((Ap w.AY w.2.2.2.2.2.2.2.1[i].2.1).contains n)with hc|hc
  ·have hT:G8 st w.AY n w.2.2.2.2.2.2.2.1[i]=(w.2.2.2.2.2.2.2.1[i].1,w.2.2.2.2.2.2.2.1[i].2.1,w.2.2.2.2.2.2.2.1[i].2.2.1,w.2.2.2.2.2.2.2.1[i].2.2.2.1,w.2.2.2.2.2.2.2.1[i].2.2.2.2.1,D1 w.2.2.2.2.2.2.2.1[i] st n 1 w.2.2.2.2.2.2.2.1[i].2.2.2.2.2.1,()):=by
    unfold G8;simp_all
   have hmn:w.2.2.2.2.2.2.2.1[i].2.2.2.2.2.1.length≤60:=by
    have:=hm.n;have hb:=Gm (l:=w.2.2.2.2.2.2.2.1[i].2.2.2.1);omega
   have:=yO (c:=AS w) (tr:=w.2.2.2.2.2.1) (tn:=w.2.2.2.2.2.2.2.2.2.2.1) (lo:=w.2.2.2.1) (er:=w.2.2.2.2.1) (ws:=ws) (rs:=w.2.2.2.2.2.2.2.2.1) (se:=se) (a:=i) k1 hs hn hnS ZK hm w.2.2.2.2.2.2.2.1[i].2.2.2.2.2.1 [] ((w.2.2.2.2.2.2.2.1.map (G8 st w.AY n)).take i++w.2.2.2.2.2.2.2.1.drop i) Ae (by simp_all) (by omega) (Mb De) rfl (by simpa using hm.wrote) (Ag (by omega));rw[hc,AMJ];unfold Kv Jo;simp only[AQF,ASg]at this;have e1:(((0:Nat):Int)+1)=1:=rfl;rw[e1]at this;rw[show(w.2.1:Int)=(AS w).2.1 from rfl,show w.1=(AS w).1 from rfl,this];simp only[AD,pkT];rw[Pk De hT.symm];exact nx
  ·have hT:G8 st w.AY n w.2.2.2.2.2.2.2.1[i]=w.2.2.2.2.2.2.2.1[i]:=by
    unfold G8;simp_all
   rw[hc,ALz,iE De hT];omega
theorem ALH:∀(rest pre:List AM) (se:List Ac) (f:Nat),pre.length+rest.length=w.2.2.2.2.2.2.1.length→(∀x∈rest,ax (AS w) x)→mf se→(∀s∈se,BN s.1=true)→se.length≤120→rest.length+w.2.2.2.2.2.2.2.1.length+1<f→
  Eo f n w.2.2.2.2.2.2.1.length pre.length w.2.1 w.2.2.2.2.2.1 w.2.2.2.2.2.2.2.2.2.2.1 w.1 SS w.2.2.2.1 w.2.2.2.2.1 (pre++rest) w.2.2.2.2.2.2.2.1 w.2.2.2.2.2.2.2.2.1 se st.2.2.1=
   some (kC (ww w SS (pre++(FH false (AS w) st w.AY n rest se).1) (w.2.2.2.2.2.2.2.1.map (G8 st w.AY n)) (FH false (AS w) st w.AY n rest se).2,0)):=by
 have k:=h.nums;have k1:=k.c;have k2:=k.wr;have k5:=k.era;have k6:=k.md;have hb:∀{p:Int},BN p=true→0≤p∧p<2^40:=fun{p} hp=>by
  have h1:=CJ hp;grind[D9]
 intro rest
 induction rest with
 |nil=>
  intro pre se f hl hw ha hp zb hf;obtain⟨f,rfl⟩:∃f',f=f'+1:=⟨f-1,by omega⟩;simp only[AQF]at hl hf;simp only[Eo,NG,AB,AMa];rw[ALT (by omega)];have:=AED h hs hn hnS ZK (ws:=pre) (se:=se) w.2.2.2.2.2.2.2.1.length 0 (by omega) (by omega) f (by omega);rw[show((0:Nat):Int)=0 from rfl,ASi,AXF,ASg]at this;grind[FH]
 |cons x rest ih=>
  intro pre se f hl hw ha hp zb hf;obtain⟨f,rfl⟩:∃f',f=f'+1:=⟨f-1,by omega⟩;simp only[ANW]at hl hf;have hx:=hw x (by simp);have hxe:=hx.ep;have hxn:=hx.n;have j5:(pre++x::rest).length=pre.length+(rest.length+1):=by simp
  have cp:(0:Int)≤(pre.length:Int)∧(pre.length:Int)<((pre++x::rest).length:Int):=by omega
  have e2:(pre++x::rest).getD pre.length (0,[],())=x:=by simp[List.getD]
  have UJ:(Ap w.AY x.1).length≤8:=Gl h;simp only[Eo,NG,AB,AL2,ALI cp,e2];rw[ALI (by omega),show(w.2.2.2.2.1,w.2.2.2.2.2.1,())=B7 w from rfl,Oc (r:=B7 w) (by show Af CL w.2.2.2.2.1≤_;omega) ⟨by omega,by omega⟩];rw[show(B7 w).1=w.AY from rfl];simp only[AD];rw[It (by omega),AL (x:=(pre.length:Int)+1) (by omega) (by omega),show((pre.length:Int)+1)=((pre.length+1:Nat):Int)by omega];simp only[AD];have next:∀(b:AM) (nG:List Ac),mf nG→(∀s∈nG,BN s.1=true)→nG.length≤120→
    Eo f n w.2.2.2.2.2.2.1.length ((pre.length+1:Nat):Int) w.2.1 w.2.2.2.2.2.1 w.2.2.2.2.2.2.2.2.2.2.1 w.1 SS w.2.2.2.1 w.2.2.2.2.1 (pre++b::rest) w.2.2.2.2.2.2.2.1 w.2.2.2.2.2.2.2.2.1 nG st.2.2.1=
     some (kC (ww w SS (pre++b::(FH false (AS w) st w.AY n rest nG).1) (w.2.2.2.2.2.2.2.1.map (G8 st w.AY n)) (FH false (AS w) st w.AY n rest nG).2,0)):=fun b nG h1 h2 h3=>by
   have:=ih (pre++[b]) nG f (by grind) (fun x hx=>hw x (by simp[hx])) h1 h2 h3 (by omega);simp_all
  simp only[FH];rcases AK7 (K9 st w.AY n x)with ht|ht
  rotate_left
  ·rw[ht]
   simp only[ALr,AOV];unfold K9 at ht;by_cases Jq:x.1>st.2.2.1
   ·grind
   grind
  ·rw[ht]
   simp only[ASe];unfold K9 at ht;rw[ALp,AMC]at ht;rw[ALI (show x.1>st.2.2.1 from ht.2),ht.1,AMJ];have:=xS (c:=AS w) (tr:=w.2.2.2.2.2.1) (tn:=w.2.2.2.2.2.2.2.2.2.2.1) (lo:=w.2.2.2.1) (er:=w.2.2.2.2.1) (ms:=w.2.2.2.2.2.2.2.1) (rs:=w.2.2.2.2.2.2.2.2.1) (a:=pre.length) (ep:=x.1) k1 hs hn hnS ZK x.2.1 [] (pre++x::rest) se Ae (by omega) (by omega) (show(pre++x::rest).getD pre.length (0,[],())=x from e2) hx ha (fun s uz=>hb (hp s uz)) zb (Ag (by omega));unfold M7 NP;simp only[AQF,ASg]at this;have e1:(((0:Nat):Int)+1)=1:=rfl;rw[e1,yt hxe hxn hp,AW3 _ _ (by omega),AXC,AWt]at this;rw[show(w.2.1:Int)=(AS w).2.1 from rfl,show w.1=(AS w).1 from rfl,this];simp only[AD,pkT];refine next _ _ ?_ (fun s uz=> ?_) (by simp_all)
   ·unfold mf S8
    rw[AWm];exact List.Pairwise.imp (fun{a b} qy=>qy) ha
   ·obtain⟨s',h1,rfl⟩:=ASt.1 uz
    exact hp s' h1
end
section
variable{w:AA} (h:Ml w)
include h
theorem fk{n:Int}:Pp n w.2.1 w.2.2.2.2.2.1 w.2.2.2.2.2.2.2.2.2.2.1 w.1 w.2.2.1 w.2.2.2.1 w.2.2.2.2.1 w.2.2.2.2.2.2.1 w.2.2.2.2.2.2.2.1 w.2.2.2.2.2.2.2.2.1 w.2.2.2.2.2.2.2.2.2.1=some (kC (Jn false w n)):=by
 have k:=h.nums;have k1:=k.c;have k2:=k.wr;have k3:=k.lost;have k4:=k.st;have ZZ:=k.Zp;have gb:=k.Jk;have jM:=k.gg;have k5:=k.era;have k7:=k.aB;unfold Pp Sp Jn;rw[show(w.1,w.2.1,w.2.2.1,w.2.2.2.1,w.2.2.2.2.1,w.2.2.2.2.2.1,w.2.2.2.2.2.2.1,w.2.2.2.2.2.2.2.1,w.2.2.2.2.2.2.2.2.1,w.2.2.2.2.2.2.2.2.2.1,w.2.2.2.2.2.2.2.2.2.2.1,())=w from rfl,LU (by omega) (by omega)];simp only[AD,Cw,A3];by_cases h3:Al w n=0
 rotate_left
 ·rw[ALT h3,ALI h3];rfl
 obtain⟨hr,s1,s2,s3⟩:=h.K_ h3;have ZK:w.2.2.1.getD n.toNat ([],[],0,())=storeAt w n:=rfl;rw[ALI h3,ALT (show¬(Al w n≠0)from fun hh=>hh h3)];simp only[ALI hr,ZK];rw[show((storeAt w n).1,(storeAt w n).2.1,(storeAt w n).2.2.1,())=storeAt w n from rfl,YY s1 s2];simp only[AD,ld];rcases AK7 (Cf (storeAt w n)).2 with hq|hq
 rotate_left
 ·rw[hq,Ic];rfl
 rw[hq,Fy,AMJ];have Bz:eR (Cf (storeAt w n)).1:=(Km hq).2.1;have AYb:n.toNat<w.2.2.1.length:=by omega
 have:=ALH h (st:=(Cf (storeAt w n)).1) (SS:=w.2.2.1.set n.toNat (Cf (storeAt w n)).1) (n:=n) Bz (h.node h3).1 (by simp_all) (M1 AYb) w.2.2.2.2.2.2.1 [] w.2.2.2.2.2.2.2.2.2.1 Ae (by simp) (fun x hx=>(h.AH x hx).1) h.XZ (fun s hs=>(h.Aq s hs).1) k.se (Ag (by have:=k.md;omega));simp only[AQF,ASg]at this;rw[show((0:Nat):Int)=0 from rfl]at this;exact this
theorem AEO{n:Int}{ss:List AN}{ls:AAH}{ws:List AM}(hls:ls.length≤2^20):∀(f i:Nat),i≤w.2.2.2.2.2.2.2.1.length→w.2.2.2.2.2.2.2.1.length-i<f→
  Gq f n w.2.2.2.2.2.2.2.1.length i w.2.1 w.2.2.2.2.2.1 w.2.2.2.2.2.2.2.2.2.2.1 w.1 ss w.2.2.2.1 w.2.2.2.2.1 ws ((w.2.2.2.2.2.2.2.1.map fun m=>(CB (AS w) m n).1).take i++w.2.2.2.2.2.2.2.1.drop i) w.2.2.2.2.2.2.2.2.1 w.2.2.2.2.2.2.2.2.2.1 ls=
   some (AJ5 (((((w.A8 ss).EV ls).A6 ws).Bi (w.2.2.2.2.2.2.2.1.map fun m=>(CB (AS w) m n).1)).FA (w.EC||holds (AS w) ls),0)):=by
 have k:=h.nums;have k1:=k.c;have k6:=k.md;intro f
 induction f with
 |zero=>omega
 |succ f ih=>
  intro i hi hn;have hlen:=OZ (f:=fun m:Au=>(CB (AS w) m n).1) hi;simp only[Gq,Rg,AB,A3,hlen];by_cases De:i<w.2.2.2.2.2.2.2.1.length
  ·have c1:(0:Int)≤(i:Int)∧(i:Int)<(w.2.2.2.2.2.2.2.1.length:Int):=by omega
   have hm:=(h.BW _ (AL5 De)).1;have hmw:=hm.w;have hg:((w.2.2.2.2.2.2.2.1.map fun m=>(CB (AS w) m n).1).take i++w.2.2.2.2.2.2.2.1.drop i).getD i (0,0,[],[],false,[],())=w.2.2.2.2.2.2.2.1[i]:=Mb De;simp only[ALI c1,ALI c1.2,AL2,hg];rw[AL (by omega) (by omega),show((i:Int)+1)=((i+1:Nat):Int)by omega,show(w.2.2.2.2.2.2.2.1[i].1,w.2.2.2.2.2.2.2.1[i].2.1,w.2.2.2.2.2.2.2.1[i].2.2.1,w.2.2.2.2.2.2.2.1[i].2.2.2.1,w.2.2.2.2.2.2.2.1[i].2.2.2.2.1,w.2.2.2.2.2.2.2.1[i].2.2.2.2.2.1,())=w.2.2.2.2.2.2.2.1[i]from rfl,show(w.1,w.2.1,())=AS w from rfl,gZ (c:=AS w) (by show w.1.length≤_;omega) (by omega) hm.ein];simp only[AD,iG];rw[show((CB (AS w) w.2.2.2.2.2.2.2.1[i] n).1.1,(CB (AS w) w.2.2.2.2.2.2.2.1[i] n).1.2.1,(CB (AS w) w.2.2.2.2.2.2.2.1[i] n).1.2.2.1,(CB (AS w) w.2.2.2.2.2.2.2.1[i] n).1.2.2.2.1,(CB (AS w) w.2.2.2.2.2.2.2.1[i] n).1.2.2.2.2.1,(CB (AS w) w.2.2.2.2.2.2.2.1[i] n).1.2.2.2.2.2.1,())=(CB (AS w) w.2.2.2.2.2.2.2.1[i] n).1 from rfl,Pk De rfl];grind
  ·have:i=w.2.2.2.2.2.2.2.1.length:=by omega
   rw[ALT (by omega),this,ATA,AMa,ASm (by simp),show(w.1,w.2.1,())=AS w from rfl,GO (by show w.1.length≤_;omega) (by omega)];simp only[AD];cases ht:w.2.2.2.2.2.2.2.2.2.2.1 with
   |true=>
    have ht':w.EC=true:=ht;rw[ht'];rfl
   |false=>
    have ht':w.EC=false:=ht;rw[ht'];rfl
theorem AI8{n:Int}{ss:List AN}{ls:AAH}(hls:ls.length≤2^20):∀(f i:Nat),i≤w.2.2.2.2.2.2.1.length→(w.2.2.2.2.2.2.1.length-i)+w.2.2.2.2.2.2.2.1.length+2≤f→
  HB f n w.2.2.2.2.2.2.1.length i w.2.1 w.2.2.2.2.2.1 w.2.2.2.2.2.2.2.2.2.2.1 w.1 ss w.2.2.2.1 w.2.2.2.2.1 ((w.2.2.2.2.2.2.1.map fun x=>(CD (AS w) x n).1).take i++w.2.2.2.2.2.2.1.drop i) w.2.2.2.2.2.2.2.1 w.2.2.2.2.2.2.2.2.1 w.2.2.2.2.2.2.2.2.2.1 ls=
   some (AJ5 (((((w.A8 ss).EV ls).A6 (w.2.2.2.2.2.2.1.map fun x=>(CD (AS w) x n).1)).Bi (w.2.2.2.2.2.2.2.1.map fun m=>(CB (AS w) m n).1)).FA (w.EC||holds (AS w) ls),0)):=by
 have k:=h.nums;have k1:=k.c;have k6:=k.wr;intro f
 induction f with
 |zero=>omega
 |succ f ih=>
  intro i hi hn;have hlen:=OZ (f:=fun x:AM=>(CD (AS w) x n).1) hi;simp only[HB,Sn,AB,A3,hlen];by_cases De:i<w.2.2.2.2.2.2.1.length
  ·have c1:(0:Int)≤(i:Int)∧(i:Int)<(w.2.2.2.2.2.2.1.length:Int):=by omega
   have hm:=(h.AH _ (AL5 De)).1;have hmw:=hm.w;have hg:((w.2.2.2.2.2.2.1.map fun x=>(CD (AS w) x n).1).take i++w.2.2.2.2.2.2.1.drop i).getD i (0,[],())=w.2.2.2.2.2.2.1[i]:=Mb De;simp only[ALI c1,ALI c1.2,AL2,hg];rw[AL (by omega) (by omega),show((i:Int)+1)=((i+1:Nat):Int)by omega,show(w.2.2.2.2.2.2.1[i].1,w.2.2.2.2.2.2.1[i].2.1,())=w.2.2.2.2.2.2.1[i]from rfl,show(w.1,w.2.1,())=AS w from rfl,cL (c:=AS w) (by show w.1.length≤_;omega) (by have:Ax w.2.2.2.2.2.2.1[i]=Af BU w.2.2.2.2.2.2.1[i].2.1:=rfl;omega)];simp only[AD,pkW];rw[show((CD (AS w) w.2.2.2.2.2.2.1[i] n).1.1,(CD (AS w) w.2.2.2.2.2.2.1[i] n).1.2.1,())=(CD (AS w) w.2.2.2.2.2.2.1[i] n).1 from rfl,Pk De rfl];grind
  ·have:i=w.2.2.2.2.2.2.1.length:=by omega
   have k12:=AEO h (n:=n) (ss:=ss) (ws:=w.2.2.2.2.2.2.1.map fun x=>(CD (AS w) x n).1) hls f 0 (by omega) (by omega);grind
theorem fG{n:Int}:P2 n w.2.1 w.2.2.2.2.2.1 w.2.2.2.2.2.2.2.2.2.2.1 w.1 w.2.2.1 w.2.2.2.1 w.2.2.2.2.1 w.2.2.2.2.2.2.1 w.2.2.2.2.2.2.2.1 w.2.2.2.2.2.2.2.2.1 w.2.2.2.2.2.2.2.2.2.1=some (AJ5 (MC w n)):=by
 have k:=h.nums;have k1:=k.c;have k2:=k.wr;have k3:=k.lost;have k4:=k.st;have ZZ:=k.Zp;have gb:=k.Jk;have jM:=k.gg;have k5:=k.era;have k7:=k.aB;have k6:=k.md;unfold P2 SY MC;rw[show(w.1,w.2.1,w.2.2.1,w.2.2.2.1,w.2.2.2.2.1,w.2.2.2.2.2.1,w.2.2.2.2.2.2.1,w.2.2.2.2.2.2.2.1,w.2.2.2.2.2.2.2.2.1,w.2.2.2.2.2.2.2.2.2.1,w.2.2.2.2.2.2.2.2.2.2.1,())=w from rfl,LU (by omega) (by omega)];simp only[AD,Cw];by_cases h3:Al w n=0
 rotate_left
 ·rw[ALT h3,ALI h3];rfl
 obtain⟨hr,s1,s2,s3⟩:=h.K_ h3;rw[ALI h3,ALT (show¬(Al w n≠0)from fun hh=>hh h3),ALI hr,Ob (EN.1 h.lost).2.2 (by omega)];simp only[AD];have hp:=T5 (n:=n) (l:=w.2.2.2.1);have:=AI8 h (n:=n) (ss:=w.2.2.1.set n.toNat ([],[],0,())) (ls:=JO n w.2.2.2.1) (by omega) Ae 0 (by omega) (ATs (Ag (by omega)));simp_all
theorem kH{d:BO}(Tw:jX w)(h64:DJ d.2.1)(hd:d.2.2.2.2.1.length≤40)(hk:1≤d.1∧d.1≤16):Tp d w.2.1 w.2.2.2.2.2.1 w.2.2.2.2.2.2.2.2.2.2.1 w.1 w.2.2.1 w.2.2.2.1 w.2.2.2.2.1 w.2.2.2.2.2.2.1 w.2.2.2.2.2.2.2.1 w.2.2.2.2.2.2.2.2.1 w.2.2.2.2.2.2.2.2.2.1=some (ACw (LN false w d)):=by
 have k:=h.nums;have k1:=k.c;have k2:=k.wr;have k3:=k.lost;have k4:=k.st;have ZZ:=k.Zp;have gb:=k.Jk;have jM:=k.gg;have k5:=k.era;have k7:=k.aB;unfold Tp LN;rw[show(d.1,d.2.1,d.2.2.1,d.2.2.2.1,d.2.2.2.2.1,())=d from rfl];simp only[DR];by_cases c1:d.1=1
 ·rw[ALI c1,ALI c1,fl h];rfl
 rw[ALT c1,ALT c1];by_cases c2:d.1=2
 ·rw[ALI c2,ALI c2,jF h hd];rfl
 rw[ALT c2,ALT c2];by_cases c3:d.1=3
 ·rw[ALI c3,ALI c3,eC h];rfl
 rw[ALT c3,ALT c3];by_cases c4:d.1=4
 ·rw[ALI c4,ALI c4,fk h];rfl
 rw[ALT c4,ALT c4];by_cases c5:d.1=5
 ·rw[ALI c5,ALI c5,eK h];rfl
 rw[ALT c5,ALT c5];by_cases c6:d.1=6
 ·rw[ALI c6,ALI c6,fG h];rfl
 rw[ALT c6,ALT c6];by_cases c7:d.1=7
 ·rw[ALI c7,ALI c7,fH h];rfl
 rw[ALT c7,ALT c7];by_cases c8:d.1=8
 ·rw[ALI c8,ALI c8,gQ h];rfl
 rw[ALT c8,ALT c8];by_cases c9:d.1=9
 ·rw[ALI c9,ALI c9,fZ h];rfl
 rw[ALT c9,ALT c9];by_cases c10:d.1=10
 ·rw[ALI c10,ALI c10,fM h];rfl
 rw[ALT c10,ALT c10];by_cases c11:d.1=11
 ·rw[ALI c11,ALI c11,ix h];rfl
 rw[ALT c11,ALT c11];by_cases c12:d.1=12
 ·rw[ALI c12,ALI c12,eO h];rfl
 rw[ALT c12,ALT c12];by_cases c13:d.1=13
 ·rw[ALI c13,ALI c13,show(w.1,w.2.1,())=AS w from rfl,show(w.2.2.2.2.1,w.2.2.2.2.2.1,())=B7 w from rfl,mO (c:=AS w) (r:=B7 w) (by show w.1.length≤_;omega) (by show Af CL w.2.2.2.2.1≤_;omega) k.trim h64]
  simp only[AD,pkR,Ot];unfold Nw;dsimp only;rcases AK7 (L8 (AS w) (B7 w) d.2.1).2 with hq|hq
  ·rw[hq,Fy];rfl
  ·have e:(L8 (AS w) (B7 w) d.2.1).1=B7 w:=by
    unfold L8 at hq⊢;rw[I1.2 h.lf]at hq⊢;grind
   rw[hq,e,Ic];rfl
 rw[ALT c13,ALT c13];by_cases c14:d.1=14
 ·rw[ALI c14,ALI c14,fq h Tw];rfl
 rw[ALT c14,ALT c14];by_cases c16:d.1=16
 ·rw[ALI c16,ALT (show¬d.1=15 by omega),eG h];rfl
 rw[ALT c16,ALI (show d.1=15 by omega),AL (x:=(w.2.2.2.2.2.2.1.length:Int)-1) (by omega) (by omega),Ay];simp only[AD,A3];unfold NF;rw[show BK d.2.1 0 ((w.2.2.2.2.2.2.1.length:Int)-1)=BK d.2.1 0 ((w.AH.length:Int)-1)from rfl];rcases AK7 (BK d.2.1 0 ((w.AH.length:Int)-1))with h1|h1
 rotate_left
 ·rw[h1,Ic];rfl
 obtain⟨x1,x2,x3⟩:=h.cD h1;rw[h1,AMJ,Fy,AL (x:=d.2.1+1) (by omega) (by omega)];unfold FC ADx;rw[ALI (by omega)];simp only[AUI,AD];rw[show(d.2.1+1).toNat=d.2.1.toNat+1 by omega,←List.eraseIdx_eq_take_drop_succ];rfl
theorem kP{d:BO}(Tw:jX w)(h64:DJ d.2.1):Gi w d=some (pkD (DL false w d)):=by
 unfold Gi DL;rw[show(w.1,w.2.1,w.2.2.1,w.2.2.2.1,w.2.2.2.2.1,w.2.2.2.2.2.1,w.2.2.2.2.2.2.1,w.2.2.2.2.2.2.2.1,w.2.2.2.2.2.2.2.2.1,w.2.2.2.2.2.2.2.2.2.1,w.2.2.2.2.2.2.2.2.2.2.1,())=w from rfl,show(d.1,d.2.1,d.2.2.1,d.2.2.2.1,d.2.2.2.2.1,())=d from rfl,MX Tw,pX,iR Tw];simp only[AD,A3,Cw];rw[KI.2 h];rcases AK7 (PG d)with hd|hd
 rotate_left
 ·rw[hd];rfl
 have hk:1≤d.1∧d.1≤16:=by
  unfold PG at hd;exact Ai.1 (ALp _ _▸hd).1
 rw[hd,AMJ,AMJ,kH h Tw h64 (bC hd) hk];simp only[AD,ALu,AW7,ALr,AOV];by_cases hc:(LN false w d).2=0
 ·rw[ALI (show(ACw (LN false w d)).1.1=0 from hc)]
  generalize hg:LN false w d=q at hc⊢
  obtain⟨v,co⟩:=q;dsimp only at hc;subst hc;rfl
 ·rw[ALT (show¬(ACw (LN false w d)).1.1=0 from hc)]
  have:=vk hc;rw[show LN false w d=(w,(LN false w d).2)by grind];rfl
end
theorem mH{w:AA}{d:BO}(Tw:jX w)(h64:DJ d.2.1):Gi w d=some (pkD (DL false w d)):=by
 rcases AK7 (IM w)with hw|hw
 ·grind[kP,KI]
 ·unfold Gi DL
  rw[show(w.1,w.2.1,w.2.2.1,w.2.2.2.1,w.2.2.2.2.1,w.2.2.2.2.2.1,w.2.2.2.2.2.2.1,w.2.2.2.2.2.2.2.1,w.2.2.2.2.2.2.2.2.1,w.2.2.2.2.2.2.2.2.2.1,w.2.2.2.2.2.2.2.2.2.2.1,())=w from rfl,MX Tw,hw];rfl
end Go.M
end
section
set_option maxRecDepth 8000
namespace Go.M
open Go.M.H (AJ AN Au Ac AA CX AQ A9 AM Ab BG As BO An Ca Af AW AZ Ar CL BU Ax BD Es Ch DF DN)
def bare(se:List Ac):List (Int×List UInt8):=se.map fun s=>(s.1,s.2.1)
section
variable{w:AA} {se:List Ac}
end
theorem ADy{l m:List Ac}(h:bare l=bare m):l.length=m.length:=by
 have:=congrArg List.length h;grind[bare]
section
variable{w:AA}
end
theorem ADP{l m:List Ac}(h:bare l=bare m){s:Ac}(hs:s∈l):∃t∈m,t.1=s.1∧t.2.1=s.2.1:=by
 have h1:(s.1,s.2.1)∈bare m:=by rw[←h];exact ASt.2 ⟨s,hs,rfl⟩
 obtain⟨t,ht,e⟩:=ASt.1 h1;grind
theorem AEF{l m:List Ac}(h:bare l=bare m)(ha:S8 (fun s:Ac=>s.1) l):S8 (fun s:Ac=>s.1) m:=by
 have e:∀l:List Ac,S8 (fun s:Ac=>s.1) l↔(bare l).Pairwise fun x y=>x.1<y.1:=fun l=>by
  unfold bare S8;rw[AWm]
 simp_all
theorem Ml.C2{w:AA}{se:List Ac}(hw:Ml w)(h:bare se=bare w.Aq):Ml (w.C2 se) where
 cfg:=hw.cfg
 my:=hw.my
 lost:=hw.lost
 EC:=hw.EC
 Aj:=hw.Aj
 lf:=hw.lf
 q8:=hw.q8
 xP:=hw.xP
 AH:=hw.AH
 Xb:=hw.Xb
 BW:=hw.BW
 p_:=hw.p_
 Aa:=hw.Aa
 NN:=by
  have:=hw.NN;grind[ADy]
 Aq:=fun s hs=>by
  obtain⟨t,ht,e1,e2⟩:=ADP h (show s∈se from hs);have:=hw.Aq t ht;simp_all
 XZ:=AEF h.symm hw.XZ
end Go.M
end
section
set_option maxRecDepth 8000
namespace Go.M
open Go.M.H (AJ AN Au Ac AA CX AQ A9 AM Ab BG As BO An Ca Af AW AZ Ar CL BU Ax BD Es Ch DF DN)
structure Up (w v:AA):Prop where
 rd:∀k,k<2→D9 (w.Aa.getD k Dj).1 (w.Aa.getD k Dj).2.1≤D9 (v.Aa.getD k Dj).1 (v.Aa.getD k Dj).2.1∧(w.Aa.getD k Dj).2.2.1.length≤(v.Aa.getD k Dj).2.2.1.length
 er:w.AY.length≤v.AY.length∧ ∀i,i<w.AY.length→(w.AY.getD i GL).2.1=true→(v.AY.getD i GL).2.1=true∧(v.AY.getD i GL).2.2.1=(w.AY.getD i GL).2.2.1
 EC:w.EC=true→v.EC=true
 se:w.Aq.length≤v.Aq.length
theorem Up.of{w v:AA}(h1:v.Aa=w.Aa)(h2:v.AY=w.AY)(h3:w.EC=true→v.EC=true)(h4:w.Aq.length≤v.Aq.length):Up w v:=
 ⟨fun k _=>by simp_all,by simp_all,h3,h4⟩
section
variable{w:AA} (hw:Ml w)
end
end Go.M
end
section
namespace Go.M
open Go.M.H (AJ AN Au Ac AA CX AQ A9 AM Ab BG As BO Af BD)
structure V_ (w:AA) (q:ZT):Prop where
 code:q.2≠1
 keep:q.2≠0→q.1=w
 rd:q.1.Aa=w.Aa
theorem V_.no{w:AA}{k:Int}(h:k≠1):V_ w (w,k):=⟨h,fun _=>rfl,rfl⟩
theorem V_.yes{w v:AA}(h:v.Aa=w.Aa):V_ w (v,0):=⟨by simp,fun h=>absurd rfl h,h⟩
section
variable{w:AA}
theorem Nx{n:Int}:Al w n≠1:=by
 unfold Al;split
 ·decide
 ·split<;>decide
theorem dV{n:Int}{q:AN×Bool}:V_ w (putAt w n q):=by
 unfold putAt;split
 ·exact .yes rfl
 ·exact .no (by decide)
theorem AD8{a:Int}:V_ w (MK w a):=by
 unfold MK;split
 ·exact .no (by decide)
 dsimp only;split
 ·exact .no (by decide)
 ·exact .yes rfl
theorem AKp{a:Int}{d:ABs}:V_ w (doAdd w a d):=by
 unfold doAdd;split
 ·exact .no (by decide)
 dsimp only;split
 ·exact .no (by decide)
 ·exact .yes rfl
theorem ABh{a b n:Int}:V_ w (IW w a b n):=by
 unfold IW;split
 ·exact .no (by decide)
 dsimp only;split
 ·exact .no (by decide)
 split
 ·exact .no Nx
 split
 ·exact .no (by decide)
 ·exact dV
theorem AEv{all:Bool}{n:Int}:V_ w (Jn all w n):=by
 unfold Jn;split
 ·exact .no Nx
 dsimp only;split
 ·exact .no (by decide)
 ·exact .yes rfl
theorem ABw{n k:Int}:V_ w (Ib w n k):=by
 unfold Ib;split
 ·exact .no Nx
 ·exact dV
theorem AE9{n:Int}:V_ w (MC w n):=by
 unfold MC;split
 ·exact .no Nx
 ·exact .yes rfl
theorem ADM{n:Int}:V_ w (ME w n):=by
 unfold ME;split
 ·exact .no (by decide)
 dsimp only;split
 ·exact .no (by decide)
 ·exact .yes rfl
theorem ADr:V_ w (L5 w):=by
 unfold L5;split
 ·exact .no (by decide)
 split
 ·exact .no (by decide)
 ·exact .yes rfl
theorem ADn{n:Int}:V_ w (MH w n):=by
 unfold MH;split
 ·exact .no (by decide)
 split
 ·exact .no Nx
 split
 ·exact .no (by decide)
 dsimp only;split
 ·exact .no (by decide)
 ·exact .yes rfl
theorem AEt:V_ w (MJ w):=by
 unfold MJ;split
 ·exact .no (by decide)
 dsimp only;split
 ·exact .no (by decide)
 ·exact .yes rfl
theorem AG4{b n:Int}:V_ w (Rf w b n):=by
 unfold Rf;split
 ·exact .no (by decide)
 split
 ·exact .no (by decide)
 split
 ·exact .no Nx
 split
 ·exact .no (by decide)
 ·exact dV
theorem AAo:V_ w (Ie w):=by
 unfold Ie;split
 ·exact .no (by decide)
 split
 ·exact .no (by decide)
 dsimp only;split
 ·exact .no (by decide)
 ·exact .yes rfl
theorem ADm{a:Int}:V_ w (Nw w a):=by
 unfold Nw;dsimp only;split
 ·exact .no (by decide)
 ·exact .yes rfl
theorem AFF{a:Int}:V_ w (NF w a):=by
 unfold NF;split
 ·exact .no (by decide)
 ·exact .yes rfl
theorem ACI{n:Int}:V_ w (Ii w n):=by
 unfold Ii;split
 ·exact .no Nx
 ·exact dV
theorem AEb{all:Bool}{d:BO}(h:d.1≠14):V_ w (LN all w d):=by
 unfold LN;by_cases c1:d.1=1
 ·rw[ALI c1];exact AD8
 rw[ALT c1];by_cases c2:d.1=2
 ·rw[ALI c2];exact AKp
 rw[ALT c2];by_cases c3:d.1=3
 ·rw[ALI c3];exact ABh
 rw[ALT c3];by_cases c4:d.1=4
 ·rw[ALI c4];exact AEv
 rw[ALT c4];by_cases c5:d.1=5
 ·rw[ALI c5];exact ABw
 rw[ALT c5];by_cases c6:d.1=6
 ·rw[ALI c6];exact AE9
 rw[ALT c6];by_cases c7:d.1=7
 ·rw[ALI c7];exact ADM
 rw[ALT c7];by_cases c8:d.1=8
 ·rw[ALI c8];exact ADr
 rw[ALT c8];by_cases c9:d.1=9
 ·rw[ALI c9];exact ADn
 rw[ALT c9];by_cases c10:d.1=10
 ·rw[ALI c10];exact AEt
 rw[ALT c10];by_cases c11:d.1=11
 ·rw[ALI c11];exact AG4
 rw[ALT c11];by_cases c12:d.1=12
 ·rw[ALI c12];exact AAo
 rw[ALT c12];by_cases c13:d.1=13
 ·rw[ALI c13];exact ADm
 rw[ALT c13,ALT h];by_cases c15:d.1=15
 ·rw[ALI c15];exact AFF
 rw[ALT c15];exact ACI
theorem AIb{all:Bool}{d:BO}(h:d.1=14):LN all w d=IY w d.2.1 d.2.2.1:=by
 unfold LN;rw[h];simp
theorem AF5(hw:Ml w){all:Bool}{d:BO}(e:(LN all w d).2=0):Af BD (LN all w d).1.Aa≤Af BD w.Aa+41:=by
 by_cases h:d.1=14
 ·rw[AIb h]at e⊢
  exact(w6 hw e).2.2.2.2.2
 ·rw[(AEb h).rd];omega
end
end Go.M
end
section
set_option maxRecDepth 8000
namespace Go.M
open Go.M.H (AJ AN Au Ac AA CX AQ A9 AM Ab BG As BO An Ca Af AW AZ Ar CL BU Ax BD Es Ch DF DN)
abbrev ADR(N:Nat):((AA×Unit×AA×Unit)×Unit)→(List BO×Unit)→Prop:=fun x y=>(∃c,E6 c=true∧x.1.1=Em c)∧y.1.length≤N∧ ∀d∈y.1,DJ d.2.1
section
variable{code:AAH} (hc:code.length≤2^30)
include hc
theorem AHS{T:Int}{N:Nat}(hT:T≤N∧N≤1000){s:AA}(hs:∃c,E6 c=true∧s=Em c):∀(n k:Nat) (i hh:Int) (w:AA) (acc:List BO),G3 code i→(k:Int)≤max T 0→(T-k).toNat<n→acc.length≤k→(∀d∈acc,DJ d.2.1)→Ml w→RdS w→
  OK code (ADR N) (Dh n T k code i hh 0 0 false [] [] [] [] [] [] [] [] 0 0 false [] [] [] [] [] [] [] [] s.1 s.2.1 s.2.2.1 s.2.2.2.1 s.2.2.2.2.1 s.2.2.2.2.2.1 s.2.2.2.2.2.2.1 s.2.2.2.2.2.2.2.1 s.2.2.2.2.2.2.2.2.1 s.2.2.2.2.2.2.2.2.2.1 s.2.2.2.2.2.2.2.2.2.2.1
   w.1 w.2.1 w.2.2.1 w.2.2.2.1 w.2.2.2.2.1 w.2.2.2.2.2.1 w.2.2.2.2.2.2.1 w.2.2.2.2.2.2.2.1 w.2.2.2.2.2.2.2.2.1 w.2.2.2.2.2.2.2.2.2.1 w.2.2.2.2.2.2.2.2.2.2.1 acc):=by
 intro n
 induction n with
 |zero=>intro k i hh w acc _ _ h;omega
 |succ n ih=>
  intro k i hh w acc hi hk hn hb hd hw hr;simp only[Dh,PV];refine OK.iP (fun Jq=> ?_) (fun hge=>OK.some hi ⟨hs,by show acc.length≤N;omega,hd⟩);rw[show(w.1,w.2.1,w.2.2.1,w.2.2.2.1,w.2.2.2.2.1,w.2.2.2.2.2.1,w.2.2.2.2.2.2.1,w.2.2.2.2.2.2.2.1,w.2.2.2.2.2.2.2.2.1,w.2.2.2.2.2.2.2.2.2.1,w.2.2.2.2.2.2.2.2.2.2.1,())=w from rfl];refine OK.bind (vy hc hw hi) fun x i1 h1 y eJ hq=> ?_
  dsimp only;refine OK.ite (by rw[BT];omega) ?_
  refine OK.pure (bX (d:=x.1) (hw.win hr) hq.1) ?_
  rw[AL (by omega) (by omega),show((k:Int)+1)=((k+1:Nat):Int)by omega];have hd2:∀d∈acc++[x.1],DJ d.2.1:=fun d hdm=>by
   rcases AOs.1 hdm with h|h
   ·exact hd d h
   ·rw[AS2.1 h];exact hq.1
  refine OK.sK (fun h0=> ?_) (fun h0=> ?_)
  ·have h0':(DL true w x.1).2=0:=h0
   exact ih (k+1) i1 h1 (DL true w x.1).1 (acc++[x.1]) eJ (by omega) (by omega) (by simp;omega) hd2 (KI.1 (yM h0')) (qa hr h0')
  ·exact ih (k+1) i1 h1 w (acc++[x.1]) eJ (by omega) (by omega) (by simp;omega) hd2 hw hr
theorem AQy{T:Int}{N:Nat}(hT:(0≤T∧T≤500)∧T≤N∧N≤1000){dom:AAH}{b21:AAH}(hbl:b21.length≤100)(hd:aJ dom 1):∀(n:Nat) (c i hh:Int),G3 code i→1≤c∧c≤3→c.toNat+1000≤n→
  OK code (ADR N) (Et n T b21 code i hh 0 0 false [] [] [] [] [] [] [] [] 0 0 false [] [] [] [] [] [] [] [] dom c):=by
 intro n
 induction n with
 |zero=>intro c i hh _ _ h;omega
 |succ n ih=>
  intro c i hh hi qo hn;have hg:aJ dom c:=⟨hd.1,hd.2.1,qo.1,qo.2,hd.2.2.2.2⟩;have hdl:=hd.2.1;simp only[Et,Qq];have fin:OK code (ADR N) ((HZ (dom,c,())).bind fun u6=>
    (Am (AX (T+1)) code i hh).bind fun u7=>
    Dh n u7.1.1 0 u7.2.1.1 u7.2.1.2.1 u7.2.1.2.2.1 0 0 false [] [] [] [] [] [] [] [] 0 0 false [] [] [] [] [] [] [] []
     u6.2.1 u6.1.1.1.2.1 u6.2.2.1 u6.2.2.2.1 u6.2.2.2.2.1 u6.1.1.1.2.2.2.2.2.1 u6.2.2.2.2.2.1 u6.2.2.2.2.2.2.1 u6.2.2.2.2.2.2.2.1 u6.2.2.2.2.2.2.2.2.1 u6.1.1.1.2.2.2.2.2.2.2.2.2.2.1
     u6.2.1 u6.1.1.1.2.1 u6.2.2.1 u6.2.2.2.1 u6.2.2.2.2.1 u6.1.1.1.2.2.2.2.2.1 u6.2.2.2.2.2.1 u6.2.2.2.2.2.2.1 u6.2.2.2.2.2.2.2.1 u6.2.2.2.2.2.2.2.2.1 u6.1.1.1.2.2.2.2.2.2.2.2.2.2.1 []):=by
   refine OK.pure (jt hg.ok) ?_
   rw[AL (by omega) (by omega)];refine OK.bind (PW hc hi (by omega)) fun x i1 h1 y eJ hq=> ?_
   have hwn:=cf hg.ok;exact AHS hc (T:=x.1) (by omega) (N:=N) (s:=Em (dom,c,())) ⟨_,hg.ok,rfl⟩ n 0 i1 h1 (Em (dom,c,())) [] eJ (by omega) (by omega) (by simp) (by simp) hwn.1 hwn.2
  refine OK.iP (fun Jq=> ?_) (fun hge=>fin);refine OK.pure (Ew (by show dom.length≤_;omega) (by omega)) ?_
  refine OK.cond (fun _=> ?_) (fun _=>fin);rw[AL (by omega) (by omega)];exact ih (c-1) i hh hi (by omega) (by omega)
theorem ARO{T:Int}{N:Nat}(hT:(0≤T∧T≤500)∧T≤N∧N≤1000){dom:AAH}{c:Int}(hd:aJ dom c):∀(n k:Nat) (i hh:Int) (b:AAH),G3 code i→k≤dom.length→dom.length-k+1010≤n→b.length≤k→
  OK code (ADR N) (Ei n T k code i hh 0 0 false [] [] [] [] [] [] [] [] 0 0 false [] [] [] [] [] [] [] [] c dom b):=by
 have hdl:=hd.2.1;intro n
 induction n with
 |zero=>intro k i hh b _ _ h;omega
 |succ n ih=>
  intro k i hh b hi hk hn hb;simp only[Ei,Qi];refine OK.iP (fun Jq=> ?_) (fun hge=> ?_)
  ·refine OK.ite (by rw[BT];omega) ?_
   rw[AL (by omega) (by omega),show((k:Int)+1)=((k+1:Nat):Int)by omega];exact ih (k+1) i hh _ hi (by omega) (by omega) (by simp;omega)
  ·exact AQy hc hT (by omega) ⟨hd.1,hd.2.1,by omega,by omega,hd.2.2.2.2⟩ n c i hh hi ⟨hd.2.2.1,hd.2.2.2.1⟩ (by have:=hd.2.2.2.1;omega)
theorem ux{T:Int}{N:Nat}(hT:(0≤T∧T≤500)∧T≤N∧N≤1000){i hh:Int}(hi:G3 code i):OK code (ADR N) (NY T code i hh):=by
 unfold NY Qk;obtain⟨l,c,i1,h1,e,hg,eJ⟩:=n0 hc (h:=hh) hi;rw[e];have hgl:=hg.2.1;exact ARO hc hT hg Ae 0 i1 h1 [] eJ (by omega) (ATs (Ag (by omega))) (by simp)
omit hc in
theorem AKc{w:AA}(hw:Ml w)(hr:RdS w):Af BD w.Aa≤10002:=
 GA (
  f:=BD) (B:=5000) (N:=2) (l:=w.Aa) (by rw[hw.p_];omega) fun r hx=>by
  have:=GA (f:=Ch) (B:=40) (hw.Aa r hx).n (hr r hx);unfold BD;omega
end
theorem yL{p:AAH}(hp:p.length≤2^30):∃T,YB p 100 190=some ((T,()),())∧0≤T∧T≤190:=by
 unfold YB;dsimp only;have hd:(p.length:Int).tdiv 4=(p.length:Int)/4:=Int.tdiv_eq_ediv_of_nonneg (by omega);rw[hd,AL (x:=(p.length:Int)/4) (by omega) (by omega),AL (by omega) (by omega),AB];split
 ·exact⟨190,rfl,by omega⟩
 ·exact⟨_,rfl,by omega⟩
theorem yi{w:AA}{d:BO}{all:Bool}(hw:Ml w)(h0:(DL all w d).2=0):Af BD (DL all w d).1.Aa≤Af BD w.Aa+41:=by
 have:DL all w d=LN all w d:=by
  revert h0
  unfold DL;cases IM w<;>cases PG d<;>simp
 rw[this]at h0⊢;exact AF5 hw h0
end Go.M
end
section
namespace Go.Sf
abbrev wQ:=List UInt8
structure OD where
 at_:Int
 PC:Int
 hole:Bool
 data:wQ
structure Wd where
 data:wQ
 nL:Int→Prop
 done:Prop
structure Md where
 ep:Int
 fD:Int→Prop
 seen:Int→Option OD
 pl:Prop
 n:Int
 wrote:Int→Int→Prop
structure St where
 len:Int
 nodes:Int→Int→Prop
 cl:Int→Prop
 last:Int→Int
 trim:Int
 lost:Int→Prop
 EC:Prop
 kept:Int→Int→Option OD
 late:Int→OD→Prop
 sl:Int→Int
 uj:Int→Prop
 wd:Int→Option Wd
 md:Option Md
 HQ:Int→Option (wQ×Prop)
section
variable(H:(Int→Prop)→Prop) (ep off:Int→Int) (Pl:Int→Prop)
def Uu(len:Int)(m:Md)(p:Int):OD:=
 match m.seen p with
 |some x=>⟨p,len,x.hole,x.data⟩
 |none=>⟨p,len,true,[]⟩
def EH(s:St)(x:OD):Prop:=(∃n,s.kept n x.at_=some x)∨(∃n,s.late n x)∨(∃m,s.md=some m∧m.seen x.at_=some x)
def AIt(s:St)(p n:Int):Prop:= ∃w,s.wd p=some w∧w.nL n
def eE(s:St)(p:Int):Prop:= ∃d q,s.HQ p=some (d,q)∧q
def Lu(s:St)(p:Int):Prop:= ¬eE s p∧ep p<s.len∧(s.uj (ep p)→ ¬H (fun n=>s.nodes (ep p) n∧(¬(s.lost n∨ep p≤s.sl n)∨AIt s p n)))
def Have(s:St)(p n:Int):Prop:=(∃x,s.kept n p=some x)∨s.lost n
structure GZ (s:St):Prop where
 lz:0≤s.len
 Yh:∀e,1≤e→e≤s.len→H (s.nodes e)
 qJ:∀e,s.cl e→1≤e∧e<s.len
 ZH:∀e f,s.cl e→1≤f→f<e→s.cl f
 zw:∀m,s.md=some m→1≤m.ep∧m.ep<s.len∧ ¬s.cl m.ep∧ ∀e,1≤e→e<m.ep→s.cl e
 wr1:∀e,s.uj e→1≤e∧e≤s.len
 wM:∀p w,s.wd p=some w→Pl p∧s.uj (ep p)∧(∃q,s.HQ p=some (w.data,q)∧(w.done→q))∧(w.done↔H w.nL)∧(∀n,w.nL n→s.nodes (ep p) n)
 cv:∀p d,s.HQ p=some d→Pl p∧ep p≤s.len
 Ua:∀n p x,s.kept n p=some x→x.at_=p
 im:∀m p x,s.md=some m→m.seen p=some x→x.at_=p∧ep p=m.ep∧x.PC<s.len
 gH:∀x,EH s x→Pl x.at_∧0≤x.PC∧x.PC≤s.len∧ep x.at_≤s.len∧(0<x.PC→ep x.at_<x.PC)∧(x.PC=0→x.hole=false)∧(x.hole=true→x.data=[])
 gD:∀x,EH s x→x.hole=false→ ∃q,s.HQ x.at_=some (x.data,q)
 pP:∀x,EH s x→x.PC=s.len→ ¬s.cl (ep x.at_)→ ∃m,s.md=some m∧m.pl∧m.ep=ep x.at_∧x=Uu s.len m x.at_
 qb:∀x y,EH s x→EH s y→x.at_=y.at_→x.PC=y.PC→x=y
structure HV (s:St) (fin:Int→OD):Prop where
 WN: ¬H s.lost
 sure:∀p,eE s p→s.trim<p→H (fun n=>s.nodes (ep p) n∧Have s p n)∧ ∀m,s.md=some m→m.ep=ep p→(∃x,m.seen p=some x)∨H (fun n=>s.nodes (ep p) n∧ ¬m.fD n∧Have s p n)
 RR:∀p w n,s.wd p=some w→ ¬w.done→w.nL n→ ¬s.lost n∧(s.trim<p→(∃x,s.kept n p=some x)∧ ∀m,s.md=some m→m.ep=ep p→m.fD n→ ∃x,m.seen p=some x)
 fD:∀m n,s.md=some m→m.fD n→s.lost n∨s.len-1≤s.sl n
 T1:∀x,EH s x→x.hole=true→s.trim<x.at_→Lu H ep s x.at_
 Yi:∀m p,s.md=some m→m.pl→Pl p→ep p=m.ep→s.trim<p→m.seen p=none→Lu H ep s p
 past:∀p,Pl p→s.cl (ep p)→s.last (ep p)<off p→s.trim<p→Lu H ep s p
 wrote:∀m p n,s.md=some m→m.wrote p n→s.nodes m.ep n∧ ¬s.lost n∧m.pl∧(s.trim<p→s.kept n p=some (Uu s.len m p))
 dR:∀m p x,s.md=some m→m.pl→m.seen p=some x→off p≤m.n
 closed:∀p,Pl p→s.cl (ep p)→off p≤s.last (ep p)→s.trim<p→(fin p).at_=p∧0<(fin p).PC∧(∀x,EH s x→x.at_=p→x.PC≤(fin p).PC∧(x.PC=(fin p).PC→x=fin p))∧
  H (fun n=>s.nodes (ep p) n∧(s.lost n∨s.kept n p=some (fin p)))
end
end Go.Sf
end
section
namespace Go.Sf
section
variable{H:(Int→Prop)→Prop} (hm:∀S T:Int→Prop,(∀n,S n→T n)→H S→H T) {ep off:Int→Int} {Pl:Int→Prop} {s:St} {fin:Int→OD}
def Pf(k k':Int→Option OD)(L:OD→Prop):Prop:=
 (∀p x,k p=some x→ ∃y,k' p=some y∧(y=x∨x.PC<y.PC))∧ ∀p y,k' p=some y→k p=some y∨(L y∧y.at_=p)
def St.settle(s:St)(n:Int)(k':Int→Option OD):St:={ s with kept:=fun m=>if m=n then k' else s.kept m,late:=fun m x=>m≠n∧s.late m x }
theorem lq{n:Int}{k':Int→Option OD}(hk:Pf (s.kept n) k' (s.late n)){x:OD}(h:EH (s.settle n k') x):EH s x:=by
 unfold EH St.settle at*;obtain⟨h1,h2⟩:=hk;grind
theorem om{n:Int}{k':Int→Option OD}(hk:Pf (s.kept n) k' (s.late n))(h:GZ H ep Pl s):GZ H ep Pl (s.settle n k'):=by
 have hi:∀x,EH (s.settle n k') x→EH s x:=fun x=>lq hk
 obtain⟨a1,a2,a3,a4,a5,a6,a7,a8,a9,a10,a11,a12,a13,a14⟩:=h;refine⟨a1,a2,a3,a4,a5,a6,a7,a8,?_,a10,fun x h=>a11 x (hi x h),fun x h=>a12 x (hi x h),fun x h=>a13 x (hi x h),fun x y h k=>a14 x y (hi x h) (hi y k)⟩;grind[Pf,St.settle]
theorem wC{n:Int}{k':Int→Option OD}(hk:Pf (s.kept n) k' (s.late n)){p m:Int}(h:Have s p m):Have (s.settle n k') p m:=by
 unfold Have St.settle Pf at*;grind
include hm in
theorem oJ{n:Int}{k':Int→Option OD}(hk:Pf (s.kept n) k' (s.late n))(hA:GZ H ep Pl s)(h:HV H ep off Pl s fin):HV H ep off Pl (s.settle n k') fin:=by
 have hi:∀x,EH (s.settle n k') x→EH s x:=fun x=>lq hk
 have hh:=fun p m=>wC (s:=s) (n:=n) hk (p:=p) (m:=m)
 refine⟨h.WN,fun p hs ht=> ?_,fun p w m h1 h2 h3=> ?_,h.fD,fun x h1 h2 h3=>h.T1 x (hi x h1) h2 h3,h.Yi,h.past,fun m p k h1 h2=> ?_,h.dR,fun p h1 h2 h3 h4=> ?_⟩
 ·obtain⟨h1,h2⟩:=h.sure p hs ht
  refine⟨hm _ _ (fun m h=>⟨h.1,hh p m h.2⟩) h1,fun m hm1 hm2=>(h2 m hm1 hm2).imp id fun h=>hm _ _ (fun k h=>⟨h.1,h.2.1,hh p k h.2.2⟩) h⟩
 ·have:=h.RR p w m h1 h2 h3
  unfold Pf at hk;simp only[St.settle];grind
 ·have h3:=h.wrote m p k h1 h2
  refine⟨h3.1,h3.2.1,h3.2.2.1,fun ht=> ?_⟩;have h4:=h3.2.2.2 ht;obtain⟨k1,k2⟩:=hk;simp only[St.settle];split
  ·rename_i e
   subst e;obtain⟨y,h5,h6⟩:=k1 p _ h4;have i1:=hA.gH y (hi y (.inl ⟨k,by simp[St.settle];grind[hA.Ua]⟩));grind[Uu]
  ·exact h4
 ·obtain⟨h5,h50,h6,h7⟩:=h.closed p h1 h2 h3 h4
  refine⟨h5,h50,fun x hx=>h6 x (hi x hx),hm _ _ (fun m h=>⟨h.1,h.2.imp id fun hq=> ?_⟩) h7⟩;obtain⟨k1,k2⟩:=hk;simp only[St.settle];split
  ·rename_i e
   subst e;obtain⟨y,h8,h9⟩:=k1 p _ hq;have i1:=h6 y (hi y (.inl ⟨m,by simp[St.settle];grind[hA.Ua]⟩));grind[hA.Ua]
  ·exact hq
theorem Lu.of{s s':St}{p:Int}(hn:Lu H ep s p)(h1:eE s' p→eE s p)(h2:s.len≤s'.len)(h3:s'.uj (ep p)→s.uj (ep p))
  (h4:s'.uj (ep p)→ ∀n,s'.nodes (ep p) n→(¬(s'.lost n∨ep p≤s'.sl n)∨AIt s' p n)→s.nodes (ep p) n∧(¬(s.lost n∨ep p≤s.sl n)∨AIt s p n))
  (hm:∀S T:Int→Prop,(∀n,S n→T n)→H S→H T):Lu H ep s' p:=
 ⟨fun h=>hn.1 (h1 h),Int.lt_of_lt_of_le hn.2.1 h2,fun hw h=>hn.2.2 (h3 hw) (hm _ _ (fun n hq=>h4 hw n hq.1 hq.2) h)⟩
def St.cO(H:(Int→Prop)→Prop)(s:St)(p n:Int)(w:Wd):St:=
 { s with wd:=fun q=>if q=p then some ⟨w.data,fun k=>w.nL k∨k=n,H (fun k=>w.nL k∨k=n)⟩else s.wd q,HQ:=fun q=>if q=p then(s.HQ p).map (fun d=>(d.1,d.2∨H (fun k=>w.nL k∨k=n)))else s.HQ q }
structure zT (ep:Int→Int) (s:St) (p n:Int) (w:Wd):Prop where
 wd:s.wd p=some w
 open_: ¬w.done
 node:s.nodes (ep p) n
 there: ¬s.lost n
 free:s.sl n<ep p
 has:∃x,s.kept n p=some x
theorem AT_{p n:Int}{w:Wd}(k:zT ep s p n w)(h:GZ H ep Pl s):GZ H ep Pl (s.cO H p n w):=by
 obtain⟨a1,a2,a3,a4,a5,a6,a7,a8,a9,a10,a11,a12,a13,a14⟩:=h;refine⟨a1,a2,a3,a4,a5,a6,fun q v hq=> ?_,fun q d hq=> ?_,a9,a10,a11,fun x hx hh=> ?_,a13,a14⟩
 ·have:=a7 p w k.wd
  have:=k.node;simp only[St.cO]at*;grind
 ·simp only[St.cO]at hq
  split at hq
  ·rename_i e
   cases hp:s.HQ p with
   |none=>simp_all
   |some z=>rw[e];exact a8 p z hp
  ·exact a8 q d hq
 ·obtain⟨z,hz⟩:=a12 x hx hh
  simp only[St.cO];grind
theorem sG{p n:Int}{w:Wd}{q:Int}(h:eE (s.cO H p n w) q):eE s q∨(q=p∧H (fun k=>w.nL k∨k=n)):=by
 obtain⟨d,z,h1,h2⟩:=h;simp only[St.cO]at h1;split at h1
 ·rename_i e
  cases hp:s.HQ p with
  |none=>simp_all
  |some y=>
   rw[hp]at h1;cases h1;rcases h2 with h2|h2
   ·exact .inl ⟨y.1,y.2,by rw[e,hp],h2⟩
   simp_all
 ·exact .inl ⟨d,z,h1,h2⟩
include hm in
theorem AWX{p n:Int}{w:Wd}(k:zT ep s p n w)(hA:GZ H ep Pl s)(h:HV H ep off Pl s fin):HV H ep off Pl (s.cO H p n w) fin:=by
 have hk:=k.wd;have ho:=k.open_;have ht:=k.there;have hf:=k.free;have AWj:=k.has;have AL3:∀m,s.md=some m→m.ep=ep p→ ¬m.fD n:=fun m h1 h2 h3=>by
  have:=h.fD m n h1 h3;have:=hA.zw m h1;grind
 have hN:∀q,Lu H ep s q→Lu H ep (s.cO H p n w) q:=fun q hn=>by
  refine hn.of (fun hs=> ?_) (ASj _) (fun h=>h) (fun hw m hn hd=> ?_) hm
  ·rcases sG hs with h'|⟨hq,hH⟩
   ·exact h'
   ·subst hq
    refine absurd (hm _ _ (fun m px=>⟨?_,?_⟩) hH) (hn.2.2 (hA.wM q w hk).2.1)
    ·have:=k.node
     have:=(hA.wM q w hk).2.2.2.2 m;grind
    ·rcases px with h'|rfl
     ·exact .inr ⟨w,hk,h'⟩
     ·exact .inl (by grind)
  ·refine⟨hn,?_⟩
   simp only[AIt,St.cO]at*;grind
 refine⟨h.WN,fun q hs hq=> ?_,fun q v m h1 h2 h3=> ?_,h.fD,fun x h1 h2 h3=>hN _ (h.T1 x h1 h2 h3),fun m q h1 h2 h3 h4 h5 h6=>hN _ (h.Yi m q h1 h2 h3 h4 h5 h6),fun q h1 h2 h3 h4=>hN _ (h.past q h1 h2 h3 h4),h.wrote,h.dR,h.closed⟩
 ·by_cases hqs:eE s q
  ·exact h.sure q hqs hq
  ·obtain⟨hqp,hH⟩:=(sG hs).resolve_left hqs
   subst hqp;have h1:=hA.wM q w hk;have h2:∀m,(w.nL m∨m=n)→s.nodes (ep q) m∧Have s q m:=fun m px=>by
    rcases px with h'|rfl
    ·exact⟨h1.2.2.2.2 m h',.inl ((h.RR q w m hk ho h').2 hq).1⟩
    ·exact⟨k.node,.inl AWj⟩
   refine⟨hm _ _ h2 hH,fun m SU o7=> ?_⟩;by_cases hseen:∃x,m.seen q=some x
   ·exact .inl hseen
   ·refine .inr (hm _ _ (fun j hj=>⟨(h2 j hj).1,fun zb=> ?_,(h2 j hj).2⟩) hH)
    rcases hj with h'|rfl
    ·exact hseen (((h.RR q w j hk ho h').2 hq).2 m SU o7 zb)
    ·exact AL3 m SU o7 zb
 ·by_cases hq:q=p
  ·subst hq
   have h4:=fun j=>h.RR q w j hk ho
   simp only[St.cO,ASe,ALW]at h1;subst h1;rcases h3 with h3|rfl
   ·exact h4 m h3
   ·exact⟨ht,fun _=>⟨AWj,fun m' a b c=>absurd c (AL3 m' a b)⟩⟩
  ·simp only[St.cO,ALT hq]at h1
   exact h.RR q v m h1 h2 h3
def St.wrt(s:St)(m:Md)(p n:Int):St:={ s with md:=some { m with wrote:=fun q k=>m.wrote q k∨(q=p∧k=n) } }
theorem vW{m:Md}{p n:Int}(SU:s.md=some m){x:OD}(h:EH (s.wrt m p n) x):EH s x:=by
 rcases h with h|h|⟨m',h1,h2⟩
 ·exact .inl h
 ·exact .inr (.inl h)
 ·cases h1
  exact .inr (.inr ⟨m,SU,h2⟩)
theorem AUg{m:Md}{p n:Int}(SU:s.md=some m)(h:GZ H ep Pl s):GZ H ep Pl (s.wrt m p n):=by
 have hi:∀x,EH (s.wrt m p n) x→EH s x:=fun x=>vW SU
 obtain⟨a1,a2,a3,a4,a5,a6,a7,a8,a9,a10,a11,a12,a13,a14⟩:=h;refine⟨a1,a2,a3,a4,?_,a6,a7,a8,a9,?_,fun x h=>a11 x (hi x h),fun x h=>a12 x (hi x h),fun x h h1 h2=> ?_,fun x y h k=>a14 x y (hi x h) (hi y k)⟩
 ·intro m' e;cases e;exact a5 m SU
 ·intro m' q x e;cases e;exact a10 m q x SU
 ·obtain⟨m',e,h3,h4,h5⟩:=a13 x (hi x h) h1 h2
  rw[SU]at e;cases e;exact⟨_,rfl,h3,h4,h5⟩
theorem AVG{m:Md}{p n:Int}(SU:s.md=some m)(j5:m.pl)(h1:s.nodes m.ep n)(h2: ¬s.lost n)(h3:s.kept n p=some (Uu s.len m p))(h:HV H ep off Pl s fin):HV H ep off Pl (s.wrt m p n) fin:=by
 have hi:∀x,EH (s.wrt m p n) x→EH s x:=fun x=>vW SU
 obtain⟨b1,b2,b3,b4,b5,b6,b7,b8,b9,HU⟩:=h;refine⟨b1,fun q a b=>⟨(b2 q a b).1,?_⟩,fun q w j a b c=>⟨(b3 q w j a b c).1,fun d=>⟨((b3 q w j a b c).2 d).1,?_⟩⟩,?_,fun x a=>b5 x (hi x a),?_,b7,?_,?_,fun q a b c d=>⟨(HU q a b c d).1,(HU q a b c d).2.1,fun x e=>(HU q a b c d).2.2.1 x (hi x e),(HU q a b c d).2.2.2⟩⟩
 ·have:=(b2 q a b).2
  simp only[St.wrt];intro m' e;cases e;exact this m SU
 ·have:=((b3 q w j a b c).2 d).2
  simp only[St.wrt];simp_all
 ·simp only[St.wrt];intro m' j e;cases e;simp_all
 ·simp only[St.wrt];intro m' q e;cases e;exact b6 m q SU
 ·intro m' q k e hq
  cases e;rcases hq with hq|⟨rfl,rfl⟩
  ·exact b8 m q k SU hq
  ·exact⟨h1,h2,j5,fun _=>h3⟩
 grind[St.wrt]
end
end Go.Sf
end
section
namespace Go.Sf
section
variable{H:(Int→Prop)→Prop} (hm:∀S T:Int→Prop,(∀n,S n→T n)→H S→H T) (h0: ¬H (fun _=>False)) {ep off:Int→Int} {Pl:Int→Prop} {s:St} {fin:Int→OD}
def St.add(s:St)(p:Int)(d:wQ):St:=
 { s with wd:=fun q=>if q=p then some ⟨d,fun _=>False,False⟩else s.wd q,HQ:=fun q=>if q=p then some (d,False)else s.HQ q }
structure ALS (ep:Int→Int) (Pl:Int→Prop) (s:St) (p:Int):Prop where
 pl:Pl p
 wr:s.uj (ep p)
 wd:s.wd p=none
 HQ:s.HQ p=none
include h0 in
theorem AUR{p:Int}{d:wQ}(k:ALS ep Pl s p)(h:GZ H ep Pl s):GZ H ep Pl (s.add p d):=by
 obtain⟨a1,a2,a3,a4,a5,a6,a7,a8,a9,a10,a11,a12,a13,a14⟩:=h;refine⟨a1,a2,a3,a4,a5,a6,fun q v hq=> ?_,fun q d' hq=> ?_,a9,a10,a11,fun x hx hh=> ?_,a13,a14⟩
 ·simp only[St.add]at*
  split at hq
  ·cases hq
   rename_i e;subst e;exact⟨k.pl,k.wr,⟨_,by simp,fun h=>h⟩,⟨fun h=>h.elim,fun h=>h0 h⟩,fun _ h=>h.elim⟩
  ·rename_i e
   obtain⟨b1,b2,b3,b4⟩:=a7 q v hq;exact⟨b1,b2,by simpa[e]using b3,b4⟩
 ·simp only[St.add]at hq
  split at hq
  ·rename_i e
   subst e;exact⟨k.pl,(a6 _ k.wr).2⟩
  ·exact a8 q d' hq
 ·obtain⟨z,hz⟩:=a12 x hx hh
  have:x.at_≠p:=fun e=>by rw[e,k.HQ]at hz;cases hz
  exact⟨z,by simpa[St.add,this]using hz⟩
theorem vO{p:Int}{d:wQ}{q:Int}(h:eE (s.add p d) q):eE s q:=by
 obtain⟨a,z,h1,h2⟩:=h;simp only[St.add]at h1;split at h1
 ·simp_all
 ·exact⟨a,z,h1,h2⟩
include hm in
theorem AVL{p:Int}{d:wQ}(h:HV H ep off Pl s fin):HV H ep off Pl (s.add p d) fin:=by
 have hN:∀q,Lu H ep s q→Lu H ep (s.add p d) q:=fun q hn=>by
  refine hn.of vO (ASj _) (fun h=>h) (fun hw m hn hd=>⟨hn,hd.imp id ?_⟩) hm
  rintro⟨w,h1,h2⟩
  simp only[St.add]at h1;split at h1
  ·cases h1;exact h2.elim
  ·exact⟨w,h1,h2⟩
 refine⟨h.WN,fun q hs hq=>h.sure q (vO hs) hq,fun q v m h1 h2 h3=> ?_,h.fD,fun x h1 h2 h3=>hN _ (h.T1 x h1 h2 h3),fun m q h1 h2 h3 h4 h5 h6=>hN _ (h.Yi m q h1 h2 h3 h4 h5 h6),fun q h1 h2 h3 h4=>hN _ (h.past q h1 h2 h3 h4),h.wrote,h.dR,h.closed⟩;simp only[St.add]at h1;split at h1
 ·cases h1;exact h3.elim
 ·exact h.RR q v m h1 h2 h3
def St.put(s:St)(n:Int)(x:OD):St:={ s with late:=fun m y=>s.late m y∨(m=n∧y=x) }
theorem Wm{n:Int}{x y:OD}(h:EH (s.put n x) y):EH s y∨y=x:=by
 rcases h with h|⟨m,h|⟨_,h⟩⟩|h
 ·exact .inl (.inl h)
 ·exact .inl (.inr (.inl ⟨m,h⟩))
 ·simp_all
 ·exact .inl (.inr (.inr h))
structure AAT (ep:Int→Int) (Pl:Int→Prop) (s:St) (x:OD):Prop where
 pl:Pl x.at_
 w0:0≤x.PC
 w1:x.PC≤s.len
 e1:ep x.at_≤s.len
 w2:0<x.PC→ep x.at_<x.PC
 h1:x.PC=0→x.hole=false
 h2:x.hole=true→x.data=[]
 HQ:x.hole=false→ ∃q,s.HQ x.at_=some (x.data,q)
 last:x.PC=s.len→ ¬s.cl (ep x.at_)→ ∃m,s.md=some m∧m.pl∧m.ep=ep x.at_∧x=Uu s.len m x.at_
 one:∀y,EH s y→x.at_=y.at_→x.PC=y.PC→x=y
theorem AUV{n:Int}{x:OD}(k:AAT ep Pl s x)(h:GZ H ep Pl s):GZ H ep Pl (s.put n x):=by
 obtain⟨a1,a2,a3,a4,a5,a6,a7,a8,a9,a10,a11,a12,a13,a14⟩:=h;refine⟨a1,a2,a3,a4,a5,a6,a7,a8,a9,a10,fun y hy=> ?_,fun y hy=> ?_,fun y hy=> ?_,fun y z hy hz e1 e2=> ?_⟩
 ·rcases Wm hy with hy|rfl
  ·exact a11 y hy
  ·exact⟨k.pl,k.w0,k.w1,k.e1,k.w2,k.h1,k.h2⟩
 ·rcases Wm hy with hy|rfl
  ·exact a12 y hy
  ·exact k.HQ
 ·rcases Wm hy with hy|rfl
  ·exact a13 y hy
  ·exact k.last
 ·rcases Wm hy with xN|ey<;>rcases Wm hz with hz'|ez
  ·grind
  ·rw[ez]at e1 e2⊢
   exact(k.one y xN e1.symm e2.symm).symm
  ·rw[ey]at e1 e2⊢
   exact k.one z hz' e1 e2
  simp_all
theorem AWc{n:Int}{x:OD}(hh:x.hole=true→s.trim<x.at_→Lu H ep s x.at_)
  (hc:s.cl (ep x.at_)→x.PC=0) (h:HV H ep off Pl s fin):HV H ep off Pl (s.put n x) fin:=by
 refine⟨h.WN,h.sure,h.RR,h.fD,fun y h1 h2 h3=> ?_,h.Yi,h.past,h.wrote,h.dR,fun p h1 h2 h3 h4=> ?_⟩
 ·rcases Wm h1 with hy|rfl
  ·exact h.T1 y hy h2 h3
  ·exact hh h2 h3
 ·obtain⟨c1,c2,c3,c4⟩:=h.closed p h1 h2 h3 h4
  refine⟨c1,c2,fun y hy hyp=> ?_,c4⟩;rcases Wm hy with hy|rfl
  ·grind
  ·have:=hc (by rw[hyp];exact h2)
   grind
theorem xV{p:Int}{w:Wd}(h:GZ H ep Pl s)(hw:s.wd p=some w):AAT ep Pl s ⟨p,0,false,w.data⟩:=by
 have h1:=h.wM p w hw;have h2:=h.wr1 _ h1.2.1;refine⟨h1.1,ASj _,h.lz,h2.2,fun h=>absurd h (Int.lt_irrefl _),fun _=>rfl,fun h=>(by cases h),fun _=> ?_,fun e=> ?_,fun y hy e1 e2=> ?_⟩
 ·grind
 ·grind
 ·simp only at e1 e2
  have h3:=(h.gH y hy).2.2.2.2.2.1 e2.symm;obtain⟨q,hq⟩:=h.gD y hy h3;obtain⟨q',hq',_⟩:=h1.2.2.1;rw[←e1,hq']at hq;simp only[ALW,APo]at hq;cases y;simp_all
theorem yr{p:Int}{m:Md}(h:GZ H ep Pl s)(SU:s.md=some m)(j5:m.pl)(he:ep p=m.ep)(hp:Pl p):AAT ep Pl s (Uu s.len m p):=by
 have h1:=h.zw m SU;have OV:(Uu s.len m p).at_=p:=by grind[Uu]
 have hwv:(Uu s.len m p).PC=s.len:=by grind[Uu]
 have hs:∀x,m.seen p=some x→EH s x∧x.at_=p:=fun x hx=>by
  have:=(h.im m p x SU hx).1;exact⟨.inr (.inr ⟨m,SU,by simp_all⟩),this⟩
 refine⟨by simp_all,by omega,by omega,by grind,fun _=>by simp_all,fun e=>by omega,fun e=> ?_,fun e=> ?_,fun _ _=>⟨m,SU,j5,by simp_all,by rw[OV]⟩,fun y hy e1 e2=> ?_⟩
 ·unfold Uu at e⊢
  split at e
  ·rename_i x hx
   exact(h.gH x (hs x hx).1).2.2.2.2.2.2 e
  rfl
 ·rw[OV]
  unfold Uu at e⊢;split at e
  ·rename_i x hx
   have:=h.gD x (hs x hx).1 e;simp_all
  simp_all
 ·rw[OV]at e1
  rw[hwv]at e2;obtain⟨m',k1,k2,k3,k4⟩:=h.pP y hy e2.symm (by simp_all);grind
end
end Go.Sf
end
section
namespace Go.Sf
section
variable{H:(Int→Prop)→Prop} (hm:∀S T:Int→Prop,(∀n,S n→T n)→H S→H T) (h0: ¬H (fun _=>False)) {ep off:Int→Int} {Pl:Int→Prop} {s:St} {fin:Int→OD}
def St.Va(H:(Int→Prop)→Prop)(s:St)(n:Int):St:=
 { s with kept:=fun m=>if m=n then fun _=>none else s.kept m,late:=fun m x=>m≠n∧s.late m x,sl:=fun m=>if m=n then 0 else s.sl m,lost:=fun m=>s.lost m∨m=n,wd:=fun p=>(s.wd p).map fun w=>⟨w.data,fun k=>w.nL k∧(w.done∨k≠n),w.done⟩,md:=s.md.map fun m=>{ m with wrote:=fun p k=>m.wrote p k∧k≠n },EC:=s.EC∨H (fun m=>s.lost m∨m=n) }
theorem sW{n:Int}{x:OD}(h:EH (s.Va H n) x):EH s x:=by
 rcases h with⟨m,h⟩|⟨m,h⟩|⟨m,h1,h2⟩
 ·simp only[St.Va]at h
  split at h
  ·cases h
  ·exact .inl ⟨m,h⟩
 ·exact .inr (.inl ⟨m,h.2⟩)
 ·simp only[St.Va,ALe]at h1
  obtain⟨m',h1,rfl⟩:=h1;exact .inr (.inr ⟨m',h1,h2⟩)
theorem YK{n:Int}{m:Md}(h:(s.Va H n).md=some m):∃m',s.md=some m'∧m={ m' with wrote:=fun p k=>m'.wrote p k∧k≠n }:=by
 simp only[St.Va,ALe]at h;grind
theorem uD{n p:Int}{w:Wd}(h:(s.Va H n).wd p=some w):∃w',s.wd p=some w'∧w=⟨w'.data,fun k=>w'.nL k∧(w'.done∨k≠n),w'.done⟩:=by
 simp only[St.Va,ALe]at h;grind
include hm in
theorem AOr{n:Int}(h:GZ H ep Pl s):GZ H ep Pl (s.Va H n):=by
 have hi:∀x,EH (s.Va H n) x→EH s x:=fun x=>sW
 refine⟨h.lz,h.Yh,h.qJ,h.ZH,fun m e=> ?_,h.wr1,fun p w e=> ?_,h.cv,fun k p x e=> ?_,fun m p x e=> ?_,fun x e=>h.gH x (hi x e),fun x e=>h.gD x (hi x e),fun x e e1 e2=> ?_,fun x y e e1=>h.qb x y (hi x e) (hi y e1)⟩
 ·obtain⟨m',e',rfl⟩:=YK e
  replace e:=e'
  exact h.zw m' e
 ·obtain⟨w',e',rfl⟩:=uD e
  clear e;have e:=e'
  obtain⟨b1,b2,b3,b4,b5⟩:=h.wM p w' e;refine⟨b1,b2,b3,⟨fun hd=>hm _ _ (fun k hk=>⟨hk,.inl hd⟩) (b4.1 hd),fun hH=>b4.2 (hm _ _ (fun k hk=>hk.1) hH)⟩,fun k hk=>b5 k hk.1⟩
 ·simp only[St.Va]at e
  split at e
  ·cases e
  ·exact h.Ua k p x e
 ·obtain⟨m',e',rfl⟩:=YK e
  replace e:=e'
  exact h.im m' p x e
 ·obtain⟨m,c1,c2,c3,c4⟩:=h.pP x (hi x e) e1 e2
  exact⟨{ m with wrote:=fun p k=>m.wrote p k∧k≠n },by simp[St.Va,c1],c2,c3,c4⟩
theorem ABf{n p m:Int}(h:Have s p m):Have (s.Va H n) p m:=by
 simp only[Have,St.Va]at*;grind
include hm in
theorem AOQ{n:Int}(hl: ¬H (fun m=>s.lost m∨m=n))(hA:GZ H ep Pl s)(h:HV H ep off Pl s fin):HV H ep off Pl (s.Va H n) fin:=by
 have hi:∀x,EH (s.Va H n) x→EH s x:=fun x=>sW
 have hh:=fun p m=>ABf (H:=H) (s:=s) (n:=n) (p:=p) (m:=m)
 have hN:∀q,Lu H ep s q→Lu H ep (s.Va H n) q:=fun q hn=>by
  refine hn.of (fun h=>h) (ASj _) (fun h=>h) (fun hw m rb hd=>⟨rb,?_⟩) hm;rcases hd with hd|⟨w,h1,h2⟩
  ·simp only[St.Va]at hd
   by_cases e:m=n
   ·simp[e]at hd
   ·simp only[e,or_false,AOV]at hd
    exact .inl hd
  ·obtain⟨w',e,rfl⟩:=uD h1
   exact .inr ⟨w',e,h2.1⟩
 refine⟨hl,fun p hs ht=> ?_,fun p w m e1 e2 e3=> ?_,fun m k e1 e2=> ?_,fun x a b c=>hN _ (h.T1 x (hi x a) b c),fun m p e a b c d f=> ?_,fun p a b c d=>hN _ (h.past p a b c d),fun m p k e e2=> ?_,fun m p x e=> ?_,fun p a b c d=> ?_⟩
 ·obtain⟨b1,b2⟩:=h.sure p hs ht
  refine⟨hm _ _ (fun m hq=>⟨hq.1,hh p m hq.2⟩) b1,fun m e1 e2=> ?_⟩;obtain⟨m',e1',rfl⟩:=YK e1
  replace e1:=e1'
  exact(b2 m' e1 e2).imp id fun hq=>hm _ _ (fun k hk=>⟨hk.1,hk.2.1,hh p k hk.2.2⟩) hq
 ·obtain⟨w',e,rfl⟩:=uD e1
  obtain⟨b1,b2⟩:=h.RR p w' m e e2 e3.1;have hmn:m≠n:=e3.2.resolve_left e2;refine⟨by simp[St.Va,hmn,b1],fun ht=>⟨by simpa[St.Va,hmn]using(b2 ht).1,fun m1 f1=> ?_⟩⟩;obtain⟨m',f1',rfl⟩:=YK f1
  replace f1:=f1'
  exact(b2 ht).2 m' f1
 ·obtain⟨m',e1',rfl⟩:=YK e1
  replace e1:=e1'
  have:=h.fD m' k e1 e2;simp only[St.Va];by_cases e:k=n
  ·exact .inl (.inr e)
  ·simpa[e]using this
 ·obtain⟨m',e',rfl⟩:=YK e
  replace e:=e'
  exact hN _ (h.Yi m' p e a b c d f)
 ·obtain⟨m',e',rfl⟩:=YK e
  replace e:=e'
  obtain⟨b1,b2,b3,b4⟩:=h.wrote m' p k e e2.1;refine⟨b1,by simp[St.Va,e2.2,b2],b3,fun ht=> ?_⟩;simp only[St.Va,e2.2,AOV];exact b4 ht
 ·obtain⟨m',e',rfl⟩:=YK e
  replace e:=e'
  exact h.dR m' p x e
 ·obtain⟨c1,c2,c3,c4⟩:=h.closed p a b c d
  refine⟨c1,c2,fun x hx=>c3 x (hi x hx),hm _ _ (fun m hq=>⟨hq.1,?_⟩) c4⟩;simp only[St.Va];by_cases e:m=n
  ·exact .inl (.inr e)
  ·simpa[e]using hq.2
def St.fill(s:St)(n:Int)(k':Int→Option OD)(v:Int):St:=
 { s with kept:=fun m=>if m=n then k' else s.kept m,late:=fun m x=>m≠n∧s.late m x,sl:=fun m=>if m=n then v else s.sl m,lost:=fun m=>s.lost m∧m≠n }
structure tb (s:St) (n:Int) (k':Int→Option OD) (v:Int):Prop where
 lost:s.lost n
 v1:s.len-1≤v
 of_:∀p y,k' p=some y→ ∃m,¬s.lost m∧s.kept m p=some y
 AGq:∀m p x,¬s.lost m→s.kept m p=some x→ ∃y,k' p=some y∧x.PC≤y.PC
theorem rM{n:Int}{k':Int→Option OD}{v:Int}(k:tb s n k' v){x:OD}(h:EH (s.fill n k' v) x):EH s x:=by
 rcases h with⟨m,h⟩|⟨m,h⟩|h
 ·simp only[St.fill]at h
  split at h
  ·obtain⟨m,_,h⟩:=k.of_ _ _ h
   exact .inl ⟨m,h⟩
  ·exact .inl ⟨m,h⟩
 ·exact .inr (.inl ⟨m,h.2⟩)
 ·exact .inr (.inr h)
theorem APC{n:Int}{k':Int→Option OD}{v:Int}(k:tb s n k' v)(h:GZ H ep Pl s):GZ H ep Pl (s.fill n k' v):=by
 have hi:∀x,EH (s.fill n k' v) x→EH s x:=fun x=>rM k
 refine⟨h.lz,h.Yh,h.qJ,h.ZH,h.zw,h.wr1,h.wM,h.cv,fun m p x e=> ?_,h.im,fun x e=>h.gH x (hi x e),fun x e=>h.gD x (hi x e),fun x e=>h.pP x (hi x e),fun x y e e1=>h.qb x y (hi x e) (hi y e1)⟩;simp only[St.fill]at e;split at e
 ·obtain⟨m,_,e⟩:=k.of_ _ _ e
  exact h.Ua m p x e
 ·exact h.Ua m p x e
include hm in
theorem APL{n:Int}{k':Int→Option OD}{v:Int}(k:tb s n k' v)(hA:GZ H ep Pl s)(h:HV H ep off Pl s fin):HV H ep off Pl (s.fill n k' v) fin:=by
 have hi:∀x,EH (s.fill n k' v) x→EH s x:=fun x=>rM k
 have some_:∀S:Int→Prop,H S→ ∃m,S m∧ ¬s.lost m:=fun S hS=>ATN fun hn=>h.WN (hm _ _ (fun m px=>ATN fun hl=>hn ⟨m,px,hl⟩) hS)
 have hN:∀q,Lu H ep s q→Lu H ep (s.fill n k' v) q:=fun q hn=>by
  refine hn.of (fun h=>h) (ASj _) (fun h=>h) (fun hw m rb hd=>⟨rb,hd.imp (fun hd=> ?_) id⟩) hm;simp only[St.fill]at hd;by_cases e:m=n
  ·have:=hn.2.1
   have:=k.v1;simp only[e,ne_eq,not_true,and_false,ASe,false_or]at hd;omega
  ·simpa[e]using hd
 have hh:∀p,eE s p→s.trim<p→ ∀m,Have s p m→Have (s.fill n k' v) p m:=fun p hs ht m hv=>by
  simp only[Have,St.fill]at*;by_cases e:m=n
  ·obtain⟨j,hj,qN⟩:=some_ _ (h.sure p hs ht).1
   obtain⟨x,hx⟩:=hj.2.resolve_right qN;obtain⟨y,hy,_⟩:=k.AGq j p x qN hx;exact .inl ⟨y,by simp[e,hy]⟩
  ·simpa[e]using hv
 refine⟨fun hl=>h.WN (hm _ _ (fun m hq=>hq.1) hl),fun p hs ht=> ?_,fun p w m e1 e2 e3=> ?_,fun m j e1 e2=> ?_,fun x a b c=>hN _ (h.T1 x (hi x a) b c),fun m p a b c d e f=>hN _ (h.Yi m p a b c d e f),fun p a b c d=>hN _ (h.past p a b c d),fun m p j e e2=> ?_,h.dR,fun p a b c d=> ?_⟩
 ·obtain⟨b1,b2⟩:=h.sure p hs ht
  exact⟨hm _ _ (fun m hq=>⟨hq.1,hh p hs ht m hq.2⟩) b1,fun m e1 e2=>(b2 m e1 e2).imp id fun hq=>hm _ _ (fun j hj=>⟨hj.1,hj.2.1,hh p hs ht j hj.2.2⟩) hq⟩
 ·obtain⟨b1,b2⟩:=h.RR p w m e1 e2 e3
  have hmn:m≠n:=fun e=>b1 (e▸k.lost)
  exact⟨fun hq=>b1 hq.1,fun ht=>⟨by simpa[St.fill,hmn]using(b2 ht).1,(b2 ht).2⟩⟩
 ·have:=h.fD m j e1 e2
  simp only[St.fill];by_cases e:j=n
  ·simpa[e]using k.v1
  ·simpa[e]using this
 ·obtain⟨b1,b2,b3,b4⟩:=h.wrote m p j e e2
  have hmn:j≠n:=fun e=>b2 (e▸k.lost)
  exact⟨b1,fun hq=>b2 hq.1,b3,fun ht=>by simpa[St.fill,hmn]using b4 ht⟩
 ·obtain⟨c1,c2,c3,c4⟩:=h.closed p a b c d
  refine⟨c1,c2,fun x hx=>c3 x (hi x hx),hm _ _ (fun m hq=>⟨hq.1,?_⟩) c4⟩;simp only[St.fill];by_cases e:m=n
  ·obtain⟨j,hj,qN⟩:=some_ _ c4
   have hx:=hj.2.resolve_left qN;obtain⟨y,hy,hyw⟩:=k.AGq j p _ qN hx;obtain⟨m2,_,hk2⟩:=k.of_ p y hy;have AWQ:=hA.Ua m2 p y hk2;have h3:=c3 y (.inl ⟨m2,by rw[AWQ];exact hk2⟩) AWQ;have:y=fin p:=h3.2 (by omega);exact .inr (by simp[e,hy,this])
  ·simpa[e]using hq.2
end
end Go.Sf
end
section
namespace Go.Sf
section
variable{H:(Int→Prop)→Prop} (hm:∀S T:Int→Prop,(∀n,S n→T n)→H S→H T) {ep off:Int→Int} {Pl:Int→Prop} {s:St} {fin:Int→OD}
def St.jn(s:St)(e:Int):St:={ s with md:=some ⟨e,fun _=>False,fun _=>none,False,0,fun _ _=>False⟩ }
theorem qD{e:Int}{x:OD}(h:EH (s.jn e) x):EH s x:=by
 rcases h with h|h|⟨m,h1,h2⟩
 ·exact .inl h
 ·exact .inr (.inl h)
 ·cases h1;cases h2
theorem AJE{e:Int}(SU:s.md=none)(h1:1≤e)(h2:e<s.len)(h3: ¬s.cl e)(h4:∀f,1≤f→f<e→s.cl f)(h:GZ H ep Pl s):GZ H ep Pl (s.jn e):=by
 have hi:∀x,EH (s.jn e) x→EH s x:=fun x=>qD
 refine⟨h.lz,h.Yh,h.qJ,h.ZH,fun m' a=> ?_,h.wr1,h.wM,h.cv,h.Ua,fun m' p x a b=> ?_,fun x e=>h.gH x (hi x e),fun x e=>h.gD x (hi x e),fun x e e1 e2=> ?_,fun x y e e1=>h.qb x y (hi x e) (hi y e1)⟩
 ·cases a;exact⟨h1,h2,h3,h4⟩
 ·cases a;cases b
 ·obtain⟨m,c,_⟩:=h.pP x (hi x e) e1 e2
  simp_all
include hm in
theorem AI_{e:Int}(SU:s.md=none)(h:HV H ep off Pl s fin):HV H ep off Pl (s.jn e) fin:=by
 have hi:∀x,EH (s.jn e) x→EH s x:=fun x=>qD
 refine⟨h.WN,fun p hs ht=>⟨(h.sure p hs ht).1,fun m a b=> .inr ?_⟩,fun p w n a b c=>⟨(h.RR p w n a b c).1,fun d=>⟨((h.RR p w n a b c).2 d).1,fun m f g k=> ?_⟩⟩,fun m n a b=> ?_,fun x a=>h.T1 x (hi x a),fun m p a b=> ?_,h.past,fun m p n a b=> ?_,fun m p x a b=> ?_,fun p a b c d=> ?_⟩
 ·cases a
  exact hm _ _ (fun n hn=>⟨hn.1,fun h=>h,hn.2⟩) (h.sure p hs ht).1
 ·cases f;exact k.elim
 ·cases a;exact b.elim
 ·cases a;exact b.elim
 ·cases a;exact b.elim
 ·cases a;exact b.elim
 ·obtain⟨c1,c2,c3,c4⟩:=h.closed p a b c d
  exact⟨c1,c2,fun x hx=>c3 x (hi x hx),c4⟩
def St.iD(s:St)(m:Md)(n:Int)(RG:Int→Option OD)(v:Int):St:=
 { s with sl:=fun k=>if k=n then v else s.sl k,md:=some { m with fD:=fun k=>m.fD k∨k=n,seen:=RG } }
structure si (ep:Int→Int) (s:St) (m:Md) (n:Int) (RG:Int→Option OD) (v:Int):Prop where
 md:s.md=some m
 there: ¬s.lost n
 pl: ¬m.pl
 v0:s.sl n≤v
 v1:s.len-1≤v
 s1:∀p x,m.seen p=some x→ ∃y,RG p=some y
 s2:∀p y,RG p=some y→m.seen p=some y∨s.kept n p=some y
 s3:∀p x,s.kept n p=some x→ep p=m.ep→ ∃y,RG p=some y
 s4:∀p y,RG p=some y→y.at_=p∧ep p=m.ep∧y.PC<s.len
theorem pq{m:Md}{n v:Int}{RG:Int→Option OD}(k:si ep s m n RG v){x:OD}(h:EH (s.iD m n RG v) x):EH s x:=by
 rcases h with h|h|⟨m',h1,h2⟩
 ·exact .inl h
 ·exact .inr (.inl h)
 ·cases h1
  rcases k.s2 _ _ h2 with h|h
  ·exact .inr (.inr ⟨m,k.md,h⟩)
  ·exact .inl ⟨n,h⟩
theorem ALC{m:Md}{n v:Int}{RG:Int→Option OD}(k:si ep s m n RG v)(h:GZ H ep Pl s):GZ H ep Pl (s.iD m n RG v):=by
 have hi:∀x,EH (s.iD m n RG v) x→EH s x:=fun x=>pq k
 refine⟨h.lz,h.Yh,h.qJ,h.ZH,fun m' a=> ?_,h.wr1,h.wM,h.cv,h.Ua,fun m' p x a b=> ?_,fun x e=>h.gH x (hi x e),fun x e=>h.gD x (hi x e),fun x e e1 e2=> ?_,fun x y e e1=>h.qb x y (hi x e) (hi y e1)⟩
 ·cases a;exact h.zw m k.md
 ·cases a;exact k.s4 p x b
 ·obtain⟨m',c1,c2,_⟩:=h.pP x (hi x e) e1 e2
  rw[k.md]at c1;cases c1;exact absurd c2 k.pl
include hm in
theorem AGT{m:Md}{n v:Int}{RG:Int→Option OD}(k:si ep s m n RG v)(hA:GZ H ep Pl s)(h:HV H ep off Pl s fin):HV H ep off Pl (s.iD m n RG v) fin:=by
 have hi:∀x,EH (s.iD m n RG v) x→EH s x:=fun x=>pq k
 have hN:∀q,Lu H ep s q→Lu H ep (s.iD m n RG v) q:=fun q hn=>by
  refine hn.of (fun h=>h) (ASj _) (fun h=>h) (fun hw j hnj hd=>⟨hnj,hd.imp (fun hd=> ?_) id⟩) hm;simp only[St.iD]at hd;by_cases e:j=n
  ·subst e
   have:=k.v0;simp only[ASe]at hd;intro hc;exact hd (hc.imp id fun hc=>by omega)
  ·simpa[e]using hd
 refine⟨h.WN,fun p hs ht=>⟨(h.sure p hs ht).1,fun m' a b=> ?_⟩,fun p w j a b c=>⟨(h.RR p w j a b c).1,fun d=>⟨((h.RR p w j a b c).2 d).1,fun m' f g hk=> ?_⟩⟩,fun m' j a b=> ?_,fun x a b c=>hN _ (h.T1 x (hi x a) b c),fun m' p a b=> ?_,fun p a b c d=>hN _ (h.past p a b c d),fun m' p j a b=> ?_,fun m' p x a b=> ?_,fun p a b c d=> ?_⟩
 ·cases a
  by_cases uz:∃x,RG p=some x
  ·exact .inl uz
  ·refine .inr ?_
   have:=((h.sure p hs ht).2 m k.md b).resolve_left fun⟨x,hx⟩=>uz (k.s1 p x hx)
   refine hm _ _ (fun j hj=>⟨hj.1,fun hq=> ?_,hj.2.2⟩) this;rcases hq with hq|rfl
   ·exact hj.2.1 hq
   ·rcases hj.2.2 with⟨x,hx⟩|hl
    ·exact uz (k.s3 p x hx b.symm)
    ·exact k.there hl
 ·cases f
  rcases hk with hk|rfl
  ·obtain⟨x,hx⟩:=((h.RR p w j a b c).2 d).2 m k.md g hk
   exact k.s1 p x hx
  ·obtain⟨x,hx⟩:=((h.RR p w j a b c).2 d).1
   exact k.s3 p x hx g.symm
 ·cases a
  simp only[St.iD];by_cases e:j=n
  ·simp[e,k.v1]
  ·have:=h.fD m j k.md (b.resolve_right e)
   simpa[e]using this
 ·cases a;exact absurd b k.pl
 ·cases a
  exact absurd (h.wrote m p j k.md b).2.2.1 k.pl
 ·cases a;exact absurd b k.pl
 ·obtain⟨c1,c2,c3,c4⟩:=h.closed p a b c d
  exact⟨c1,c2,fun x hx=>c3 x (hi x hx),c4⟩
def St.Yi(s:St)(m:Md)(L:Int):St:={ s with md:=some { m with pl:=True,n:=L } }
structure sr (H:(Int→Prop)→Prop) (off:Int→Int) (s:St) (m:Md) (L:Int):Prop where
 md:s.md=some m
 pl: ¬m.pl
 JJ: ¬H (fun k=>s.nodes m.ep k∧ ¬m.fD k)
 last:∀p x,m.seen p=some x→off p≤L
theorem sO{m:Md}{L:Int}(k:sr H off s m L){x:OD}(h:EH (s.Yi m L) x):EH s x:=by
 rcases h with h|h|⟨m',h1,h2⟩
 ·exact .inl h
 ·exact .inr (.inl h)
 ·cases h1;exact .inr (.inr ⟨m,k.md,h2⟩)
theorem APd{m:Md}{L:Int}(k:sr H off s m L)(h:GZ H ep Pl s):GZ H ep Pl (s.Yi m L):=by
 have hi:∀x,EH (s.Yi m L) x→EH s x:=fun x=>sO k
 refine⟨h.lz,h.Yh,h.qJ,h.ZH,fun m' a=> ?_,h.wr1,h.wM,h.cv,h.Ua,fun m' p x a b=> ?_,fun x e=>h.gH x (hi x e),fun x e=>h.gD x (hi x e),fun x e e1 e2=> ?_,fun x y e e1=>h.qb x y (hi x e) (hi y e1)⟩
 ·cases a;exact h.zw m k.md
 ·cases a;exact h.im m p x k.md b
 ·obtain⟨m',c1,c2,_⟩:=h.pP x (hi x e) e1 e2
  rw[k.md]at c1;cases c1;exact absurd c2 k.pl
include hm in
theorem ASU{m:Md}{L:Int}(k:sr H off s m L)(hA:GZ H ep Pl s)(h:HV H ep off Pl s fin):HV H ep off Pl (s.Yi m L) fin:=by
 have hi:∀x,EH (s.Yi m L) x→EH s x:=fun x=>sO k
 have hN:∀q,Lu H ep s q→Lu H ep (s.Yi m L) q:=fun q hn=>hn
 refine⟨h.WN,fun p hs ht=>⟨(h.sure p hs ht).1,fun m' a b=> ?_⟩,fun p w j a b c=>⟨(h.RR p w j a b c).1,fun d=>⟨((h.RR p w j a b c).2 d).1,fun m' f g hk=> ?_⟩⟩,fun m' j a b=> ?_,fun x a b c=>hN _ (h.T1 x (hi x a) b c),fun m' p a b hp he ht hn=> ?_,fun p a b c d=>hN _ (h.past p a b c d),fun m' p j a b=> ?_,fun m' p x a b=> ?_,fun p a b c d=> ?_⟩
 ·cases a;exact(h.sure p hs ht).2 m k.md b
 ·cases f;exact((h.RR p w j a b c).2 d).2 m k.md g hk
 ·cases a;exact h.fD m j k.md b
 ·cases a
  have SU:=hA.zw m k.md;simp only at he hn;have ns: ¬eE s p:=fun hs=>by
   rcases(h.sure p hs ht).2 m k.md he.symm with⟨x,hx⟩|hh
   ·rw[hn]at hx;cases hx
   ·exact k.JJ (hm _ _ (fun j hj=>⟨by rw[←he];exact hj.1,hj.2.1⟩) hh)
  refine⟨ns,by rw[he];exact SU.2.1,fun hw hH=>k.JJ (hm _ _ (fun j hj=>⟨by rw[←he];exact hj.1,fun zb=> ?_⟩) hH)⟩;rcases hj.2 with hd|⟨w,h1,h2⟩
  ·refine hd ((h.fD m j k.md zb).imp id fun h' => ?_)
   simp only[St.Yi]at*;omega
  ·have hw1:=hA.wM p w h1
   have qO: ¬w.done:=fun hd=>by
    obtain⟨q,hq,hq2⟩:=hw1.2.2.1;exact ns ⟨_,q,hq,hq2 hd⟩
   obtain⟨x,hx⟩:=((h.RR p w j h1 qO h2).2 ht).2 m k.md he.symm zb;rw[hn]at hx;cases hx
 ·cases a
  exact absurd (h.wrote m p j k.md b).2.2.1 k.pl
 ·cases a;exact fun hx=>k.last p x hx
 ·obtain⟨c1,c2,c3,c4⟩:=h.closed p a b c d
  exact⟨c1,c2,fun x hx=>c3 x (hi x hx),c4⟩
def St.close(s:St)(m:Md):St:={ s with cl:=fun e=>s.cl e∨e=m.ep,last:=fun e=>if e=m.ep then m.n else s.last e,md:=none }
structure nC (H:(Int→Prop)→Prop) (ep off:Int→Int) (Pl:Int→Prop) (s:St) (m:Md):Prop where
 md:s.md=some m
 pl:m.pl
 wrote:∀p,Pl p→ep p=m.ep→off p≤m.n→H (m.wrote p)
theorem ou{m:Md}{x:OD}(h:EH (s.close m) x):EH s x:=by
 rcases h with h|h|⟨m',h1,h2⟩
 ·exact .inl h
 ·exact .inr (.inl h)
 ·cases h1
theorem AJ3{m:Md}(k:nC H ep off Pl s m)(h:GZ H ep Pl s):GZ H ep Pl (s.close m):=by
 have hi:∀x,EH (s.close m) x→EH s x:=fun x=>ou
 have SU:=h.zw m k.md;refine⟨h.lz,h.Yh,fun e a=> ?_,fun e f a b c=> ?_,fun m a=> ?_,h.wr1,h.wM,h.cv,h.Ua,fun m p x a b=> ?_,fun x e=>h.gH x (hi x e),fun x e=>h.gD x (hi x e),fun x e e1 e2=> ?_,fun x y e e1=>h.qb x y (hi x e) (hi y e1)⟩
 ·rcases a with a|rfl
  ·exact h.qJ e a
  ·exact⟨SU.1,SU.2.1⟩
 ·rcases a with a|rfl
  ·exact .inl (h.ZH e f a b c)
  ·exact .inl (SU.2.2.2 f b c)
 ·cases a
 ·cases a
 ·have e2': ¬s.cl (ep x.at_):=fun c=>e2 (.inl c)
  obtain⟨m',c1,c2,c3,c4⟩:=h.pP x (hi x e) e1 e2';rw[k.md]at c1;cases c1;exact absurd (.inr c3.symm) e2
theorem AH0{m:Md}(k:nC H ep off Pl s m)(hA:GZ H ep Pl s)(h:HV H ep off Pl s fin)(hm:∀S T:Int→Prop,(∀n,S n→T n)→H S→H T)(hr:∀p,Pl p→ep p=m.ep→s.trim<p→eE s p→True):
  HV H ep off Pl (s.close m) (fun p=>open Classical in if ep p=m.ep then Uu s.len m p else fin p):=by
 have hi:∀x,EH (s.close m) x→EH s x:=fun x=>ou
 have SU:=hA.zw m k.md;have hN:∀q,Lu H ep s q→Lu H ep (s.close m) q:=fun q hn=>hn
 refine⟨h.WN,fun p hs ht=>⟨(h.sure p hs ht).1,fun m' a=>by cases a⟩,fun p w j a b c=>⟨(h.RR p w j a b c).1,fun d=>⟨((h.RR p w j a b c).2 d).1,fun m' f=>by cases f⟩⟩,fun m' j a=>(by cases a),fun x a b c=>hN _ (h.T1 x (hi x a) b c),fun m' p a=>(by cases a),fun p a b c d=>hN _ ?_,fun m' p j a=>(by cases a),fun m' p x a=>(by cases a),fun p a b c d=> ?_⟩
 ·simp only[St.close]at c
  by_cases e:ep p=m.ep
  ·refine h.Yi m p k.md k.pl a e d ?_
   cases hseen:m.seen p with
   |none=>rfl
   |some x=>
    have:=h.dR m p x k.md k.pl hseen;omega
  ·rw[ALT e]at c
   exact h.past p a (b.resolve_right e) c d
 ·simp only[St.close]at c
  by_cases e:ep p=m.ep
  ·rw[ALI e]at c⊢
   have OV:(Uu s.len m p).at_=p:=by grind[Uu]
   have hwv:(Uu s.len m p).PC=s.len:=by grind[Uu]
   refine⟨OV,by omega,fun x hx hxp=>⟨by rw[hwv];exact(hA.gH x (hi x hx)).2.2.1,fun hw=> ?_⟩,hm _ _ (fun j hj=> ?_) (k.wrote p a e c)⟩
   ·rw[hwv]at hw
    obtain⟨m',c1,c2,c3,c4⟩:=hA.pP x (hi x hx) hw (by simp_all);rw[k.md]at c1;grind
   ·obtain⟨d1,d2,d3,d4⟩:=h.wrote m p j k.md hj
    exact⟨by rw[e];exact d1,.inr (d4 d)⟩
  ·rw[ALT e]at c⊢
   obtain⟨c1,c2,c3,c4⟩:=h.closed p a (b.resolve_right e) c d;exact⟨c1,c2,fun x hx=>c3 x (hi x hx),c4⟩
theorem AP_{t:Int}(h:GZ H ep Pl s):GZ H ep Pl { s with trim:=t }:=
 ⟨h.lz,h.Yh,h.qJ,h.ZH,h.zw,h.wr1,h.wM,h.cv,h.Ua,h.im,h.gH,h.gD,h.pP,h.qb⟩
theorem AMi{t:Int}(ht:s.trim≤t)(h:HV H ep off Pl s fin):HV H ep off Pl { s with trim:=t } fin:=
 have l:∀{p:Int},t<p→s.trim<p:=fun h=>Int.lt_of_le_of_lt ht h
 ⟨h.WN,fun p a b=>h.sure p a (l b),fun p w n a b c=>⟨(h.RR p w n a b c).1,fun d=>(h.RR p w n a b c).2 (l d)⟩,h.fD,fun x a b c=>h.T1 x a b (l c),fun m p a b c d e f=>h.Yi m p a b c d (l e) f,
  fun p a b c d=>h.past p a b c (l d),fun m p n a b=>⟨(h.wrote m p n a b).1,(h.wrote m p n a b).2.1,(h.wrote m p n a b).2.2.1,fun d=>(h.wrote m p n a b).2.2.2 (l d)⟩,h.dR,fun p a b c d=>h.closed p a b c (l d)⟩
def St.drop(s:St)(Zp:Int→Prop)(wd':Int→Option Wd):St:={ s with uj:=Zp,wd:=wd' }
structure zD (ep:Int→Int) (s:St) (Zp:Int→Prop) (wd':Int→Option Wd):Prop where
 wr:∀e,Zp e→s.uj e
 wd:∀p w,wd' p=some w→s.wd p=some w∧Zp (ep p)
theorem AP1{Zp:Int→Prop}{wd':Int→Option Wd}(k:zD ep s Zp wd')(h:GZ H ep Pl s):GZ H ep Pl (s.drop Zp wd'):=by
 refine⟨h.lz,h.Yh,h.qJ,h.ZH,h.zw,fun e a=>h.wr1 e (k.wr e a),fun p w a=> ?_,h.cv,h.Ua,h.im,h.gH,h.gD,h.pP,h.qb⟩;obtain⟨b1,b2⟩:=k.wd p w a;obtain⟨c1,c2,c3⟩:=h.wM p w b1;exact⟨c1,b2,c3⟩
include hm in
theorem ARQ{Zp:Int→Prop}{wd':Int→Option Wd}(k:zD ep s Zp wd')(h:HV H ep off Pl s fin):HV H ep off Pl (s.drop Zp wd') fin:=by
 have hN:∀q,Lu H ep s q→Lu H ep (s.drop Zp wd') q:=fun q hn=>
  hn.of (fun h=>h) (ASj _) (fun h=>k.wr _ h) (fun hw m rb hd=>⟨rb,hd.imp id fun⟨w,h1,h2⟩=>⟨w,(k.wd _ w h1).1,h2⟩⟩) hm
 exact⟨h.WN,h.sure,fun p w n a=>h.RR p w n (k.wd p w a).1,h.fD,fun x a b c=>hN _ (h.T1 x a b c),fun m p a b c d e f=>hN _ (h.Yi m p a b c d e f),fun p a b c d=>hN _ (h.past p a b c d),h.wrote,h.dR,h.closed⟩
def St.prune(s:St)(n:Int)(k':Int→Option OD):St:={ s with kept:=fun m=>if m=n then k' else s.kept m }
structure nK (s:St) (n:Int) (k':Int→Option OD):Prop where
 of_:∀p x,k' p=some x→s.kept n p=some x
 AGq:∀p,s.trim<p→k' p=s.kept n p
theorem nU{n:Int}{k':Int→Option OD}(k:nK s n k'){x:OD}(h:EH (s.prune n k') x):EH s x:=by
 rcases h with⟨m,h⟩|h|h
 ·simp only[St.prune]at h
  split at h
  ·exact .inl ⟨n,k.of_ _ _ h⟩
  ·exact .inl ⟨m,h⟩
 ·exact .inr (.inl h)
 ·exact .inr (.inr h)
theorem AJg{n:Int}{k':Int→Option OD}(k:nK s n k')(h:GZ H ep Pl s):GZ H ep Pl (s.prune n k'):=by
 have hi:∀x,EH (s.prune n k') x→EH s x:=fun x=>nU k
 refine⟨h.lz,h.Yh,h.qJ,h.ZH,h.zw,h.wr1,h.wM,h.cv,fun m p x e=> ?_,h.im,fun x e=>h.gH x (hi x e),fun x e=>h.gD x (hi x e),fun x e=>h.pP x (hi x e),fun x y e e1=>h.qb x y (hi x e) (hi y e1)⟩;simp only[St.prune]at e;split at e
 ·exact h.Ua n p x (k.of_ _ _ e)
 ·exact h.Ua m p x e
theorem AGs{n:Int}{k':Int→Option OD}(k:nK s n k')(h:HV H ep off Pl s fin):HV H ep off Pl (s.prune n k') fin:=by
 have hi:∀x,EH (s.prune n k') x→EH s x:=fun x=>nU k
 have hk:∀p,s.trim<p→ ∀m,(s.prune n k').kept m p=s.kept m p:=fun p ht m=>by
  simp only[St.prune];split
  ·rename_i e;rw[k.AGq p ht,e]
  ·rfl
 have hh:∀p,s.trim<p→Have (s.prune n k') p=Have s p:=fun p ht=>by
  funext m
  simp only[Have];rw[hk p ht m];rfl
 refine⟨h.WN,fun p a b=> ?_,fun p w m a b c=>⟨(h.RR p w m a b c).1,fun d=> ?_⟩,h.fD,fun x a=>h.T1 x (hi x a),h.Yi,h.past,fun m p j a b=>⟨(h.wrote m p j a b).1,(h.wrote m p j a b).2.1,(h.wrote m p j a b).2.2.1,fun d=> ?_⟩,h.dR,fun p a b c d=> ?_⟩
 ·rw[hh p b];exact h.sure p a b
 ·rw[hk p d];exact(h.RR p w m a b c).2 d
 ·rw[hk p d];exact(h.wrote m p j a b).2.2.2 d
 ·obtain⟨c1,c2,c3,c4⟩:=h.closed p a b c d
  refine⟨c1,c2,fun x hx=>c3 x (hi x hx),?_⟩;simp only[hk p d];exact c4
def St.open_(s:St)(ns:Int→Prop):St:={ s with len:=s.len+1,nodes:=fun e=>if e=s.len+1 then ns else s.nodes e,uj:=fun e=>s.uj e∨e=s.len+1,md:=none }
theorem rq{ns:Int→Prop}{x:OD}(h:EH (s.open_ ns) x):EH s x:=by
 rcases h with h|h|⟨m,h1,h2⟩
 ·exact .inl h
 ·exact .inr (.inl h)
 ·cases h1
theorem AN1{ns:Int→Prop}(za:H ns)(h:GZ H ep Pl s):GZ H ep Pl (s.open_ ns):=by
 have hi:∀x,EH (s.open_ ns) x→EH s x:=fun x=>rq
 have h0:=h.lz;refine⟨by grind[St.open_],fun e a b=> ?_,fun e a=> ?_,h.ZH,fun m a=>(by cases a),fun e a=> ?_,fun p w a=> ?_,fun p d a=> ?_,h.Ua,fun m p x a=>(by cases a),fun x a=> ?_,fun x e=>h.gD x (hi x e),fun x e e1 e2=> ?_,fun x y e e1=>h.qb x y (hi x e) (hi y e1)⟩
 ·simp only[St.open_]at*
  split
  ·omega
  ·exact h.Yh e a (by omega)
 ·have:=h.qJ e a
  grind[St.open_]
 ·simp only[St.open_]at*
  rcases a with a|rfl
  ·have:=h.wr1 e a
   omega
  omega
 ·obtain⟨b1,b2,b3,b4,b5⟩:=h.wM p w a
  refine⟨b1,.inl b2,b3,b4,fun n hn=> ?_⟩;have:=h.wr1 _ b2;simp only[St.open_];grind
 ·have:=h.cv p d a
  grind[St.open_]
 ·obtain⟨b1,b2,b3,b4,b5⟩:=h.gH x (hi x a)
  grind[St.open_]
 ·have:=(h.gH x (hi x e)).2.2.1
  grind[St.open_]
theorem AR7{ns:Int→Prop}(hA:GZ H ep Pl s)(h:HV H ep off Pl s fin)(hm:∀S T:Int→Prop,(∀n,S n→T n)→H S→H T):HV H ep off Pl (s.open_ ns) fin:=by
 have hi:∀x,EH (s.open_ ns) x→EH s x:=fun x=>rq
 have qO:∀e,e≤s.len→(s.open_ ns).nodes e=s.nodes e:=fun e he=>by simp only[St.open_];grind
 have hN:∀q,Lu H ep s q→Lu H ep (s.open_ ns) q:=fun q hn=>by
  have h1:=hn.2.1;refine hn.of (fun h=>h) (by grind[St.open_]) (fun h=>h.resolve_right (by omega)) (fun hw m rb hd=>⟨?_,hd⟩) hm;grind
 refine⟨h.WN,fun p hs ht=>⟨?_,fun m' a=>by cases a⟩,fun p w j a b c=>⟨(h.RR p w j a b c).1,fun d=>⟨((h.RR p w j a b c).2 d).1,fun m' f=>by cases f⟩⟩,fun m' j a=>(by cases a),fun x a b c=>hN _ (h.T1 x (hi x a) b c),fun m' p a=>(by cases a),fun p a b c d=>hN _ (h.past p a b c d),fun m' p j a=>(by cases a),fun m' p x a=>(by cases a),fun p a b c d=> ?_⟩
 ·obtain⟨d,q,h1,h2⟩:=id hs
  rw[qO _ (hA.cv p _ h1).2];exact(h.sure p hs ht).1
 ·obtain⟨c1,c2,c3,c4⟩:=h.closed p a b c d
  refine⟨c1,c2,fun x hx=>c3 x (hi x hx),?_⟩;have:=hA.qJ _ b;rw[qO _ (by omega)];exact c4
end
end Go.Sf
end
section
namespace Go.Sf
structure Rd where
 e:Int
 o:Int
 told:Int→Option wQ
section
variable{H:(Int→Prop)→Prop} (hm:∀S T:Int→Prop,(∀n,S n→T n)→H S→H T) {ep off:Int→Int} {Pl:Int→Prop} {s:St} {fin:Int→OD}
def XK(ep off:Int→Int)(r:Rd)(p:Int):Prop:=ep p<r.e∨(ep p=r.e∧off p<r.o)
structure WQ (ep off:Int→Int) (Pl:Int→Prop) (s:St) (fin:Int→OD) (r:Rd):Prop where
 e1:1≤r.e
 left:∀p,Pl p→ep p<r.e→s.trim<p→s.cl (ep p)
 data:∀p,Pl p→XK ep off r p→s.trim<p→
  (s.cl (ep p)→off p≤s.last (ep p)→r.told p=if(fin p).hole then none else some (fin p).data)∧
  (s.cl (ep p)→s.last (ep p)<off p→r.told p=none)∧
  (¬s.cl (ep p)→ ∃d q,s.HQ p=some (d,q)∧q∧r.told p=some d)
 told:∀p d,r.told p=some d→XK ep off r p
theorem WQ.of{s':St}{r:Rd}(h:WQ ep off Pl s fin r)(h1:s'.cl=s.cl)(h2:s'.last=s.last)(h3:s.trim≤s'.trim)
  (h4:∀p d q,s.HQ p=some (d,q)→q→ ∃q',s'.HQ p=some (d,q')∧q'):WQ ep off Pl s' fin r:=by
 refine⟨h.e1,fun p a b c=> ?_,fun p a b c=> ?_,h.told⟩
 ·rw[h1];exact h.left p a b (by omega)
 ·obtain⟨b1,b2,b3⟩:=h.data p a b (by omega)
  grind
theorem WQ.close{m:Md}{r:Rd}(k:nC H ep off Pl s m)(hA:GZ H ep Pl s)(hB:HV H ep off Pl s fin)(h:WQ ep off Pl s fin r):
  WQ ep off Pl (s.close m) (fun p=>open Classical in if ep p=m.ep then Uu s.len m p else fin p) r:=by
 have SU:=hA.zw m k.md;refine⟨h.e1,fun p a b c=> .inl (h.left p a b c),fun p a b c=> ?_,h.told⟩;obtain⟨b1,b2,b3⟩:=h.data p a b c;by_cases e:ep p=m.ep
 ·obtain⟨d,q,c1,c2,c3⟩:=b3 (by simp_all)
  have hs:eE s p:=⟨d,q,c1,c2⟩;cases hx:m.seen p with
  |none=>exact absurd hs (hB.Yi m p k.md k.pl a e c hx).1
  |some x=>
   have hxp:=(hA.im m p x k.md hx).1;have hi:EH s x:= .inr (.inr ⟨m,k.md,by simp_all⟩);have hn:=hB.dR m p x k.md k.pl hx;have hh:x.hole=false:=by
    cases hh:x.hole with
    |false=>rfl
    |true=>exact absurd (by simp_all) (hB.T1 x hi hh (by rw[hxp];exact c)).1
   obtain⟨q',hq'⟩:=hA.gD x hi hh;rw[hxp,c1]at hq';simp only[ALW,APo]at hq';refine⟨fun _ _=> ?_,fun _ hl=> ?_,fun hc=>absurd (.inr e) hc⟩
   ·simp only[ALI e,Uu,hx,hh]
    simp_all
   ·simp only[St.close,ALI e]at hl
    omega
 ·refine⟨fun hc hl=> ?_,fun hc hl=> ?_,fun hc=>b3 fun ZL=>hc (.inl ZL)⟩
  ·simp only[St.close,ALT e]at hl⊢
   exact b1 (hc.resolve_right e) hl
  ·simp only[St.close,ALT e]at hl
   exact b2 (hc.resolve_right e) hl
structure yR (H:(Int→Prop)→Prop) (ep off:Int→Int) (Pl:Int→Prop) (s:St) (p:Int) (R:Int→Prop) (aM:Option OD):Prop where
 pl:Pl p
 trim:s.trim<p
 open_: ¬s.cl (ep p)→eE s p
 last:s.cl (ep p)→off p≤s.last (ep p)
 there:∀n,R n→ ¬s.lost n∧s.nodes (ep p) n
 JJ: ¬H (fun n=>s.nodes (ep p) n∧ ¬R n)
 none_:aM=none→ ∀n,R n→s.kept n p=none
 some_:∀x,aM=some x→(∃n,R n∧s.kept n p=some x)∧ ∀n y,R n→s.kept n p=some y→y.PC≤x.PC
include hm in
theorem nQ{p:Int}{R:Int→Prop}{aM:Option OD}(k:yR H ep off Pl s p R aM)(hA:GZ H ep Pl s)(hB:HV H ep off Pl s fin):
  ∃x,aM=some x∧(s.cl (ep p)→x=fin p)∧(¬s.cl (ep p)→x.hole=false∧ ∃q,s.HQ p=some (x.data,q)∧q):=by
 have meet:∀S:Int→Prop,H (fun n=>s.nodes (ep p) n∧S n)→ ∃n,R n∧S n:=fun S hS=>ATN fun hn=>
  k.JJ (hm _ _ (fun n hq=>⟨hq.1,fun hr=>hn ⟨n,hr,hq.2⟩⟩) hS)
 have AL_:∀n x,s.kept n p=some x→EH s x∧x.at_=p:=fun n x hx=>by
  have:=hA.Ua n p x hx;exact⟨.inl ⟨n,by rw[this];exact hx⟩,this⟩
 by_cases hc:s.cl (ep p)
 ·obtain⟨c1,c2,c3,c4⟩:=hB.closed p k.pl hc (k.last hc) k.trim
  obtain⟨n,hR,hn⟩:=meet _ c4;have hk:=hn.resolve_left (k.there n hR).1;cases hb:aM with
  |none=>rw[k.none_ hb n hR]at hk;cases hk
  |some x=>
   obtain⟨⟨j,hjR,hj⟩,hmax⟩:=k.some_ x hb;have hw:=hmax n _ hR hk;obtain⟨i1,i2⟩:=AL_ j x hj;have:=c3 x i1 i2;exact⟨x,rfl,fun _=>this.2 (by omega),fun h=>absurd hc h⟩
 ·have hs:=k.open_ hc
  obtain⟨n,hR,hn⟩:=meet _ (hB.sure p hs k.trim).1;obtain⟨y,hk⟩:=hn.resolve_right (k.there n hR).1;cases hb:aM with
  |none=>rw[k.none_ hb n hR]at hk;cases hk
  |some x=>
   obtain⟨⟨j,hjR,hj⟩,hmax⟩:=k.some_ x hb;obtain⟨i1,i2⟩:=AL_ j x hj;have hh:x.hole=false:=by
    cases hh:x.hole with
    |false=>rfl
    |true=>exact absurd (by rw[i2];exact hs) (hB.T1 x i1 hh (by rw[i2];exact k.trim)).1
   obtain⟨q,hq⟩:=hA.gD x i1 hh;rw[i2]at hq;obtain⟨d,q',h1,h2⟩:=hs;rw[hq]at h1;simp only[ALW,APo]at h1;exact⟨x,rfl,fun h=>absurd h hc,fun _=>⟨hh,q,hq,by rw[h1.2];exact h2⟩⟩
def Rd.read(r:Rd)(p:Int)(x:OD):Rd:={ r with o:=r.o+1,told:=fun q=>if q=p then(if x.hole then none else some x.data)else r.told q }
include hm in
theorem ARz{p:Int}{R:Int→Prop}{aM:Option OD}(k:yR H ep off Pl s p R aM)(hA:GZ H ep Pl s)(hB:HV H ep off Pl s fin){r:Rd}(he:ep p=r.e)(ho:off p=r.o)
  (inj:∀p q,Pl p→Pl q→ep p=ep q→off p=off q→p=q) (h:WQ ep off Pl s fin r) {x:OD} (hx:aM=some x):WQ ep off Pl s fin (r.read p x):=by
 obtain⟨x',y_,f1,f2⟩:=nQ hm k hA hB;rw[hx]at y_;cases y_;have np: ¬XK ep off r p:=by unfold XK;omega
 have tn:r.told p=none:=by
  cases ht:r.told p with
  |none=>rfl
  |some d=>exact absurd (h.told p d ht) np
 refine⟨h.e1,h.left,fun q a b c=> ?_,fun q d hd=> ?_⟩
 ·by_cases e:q=p
  ·subst e
   simp only[Rd.read,ASe];refine⟨fun hc hl=>by rw[f1 hc],fun hc hl=> ?_,fun hc=> ?_⟩
   ·have:=k.last hc;omega
   ·obtain⟨g1,q',g2,g3⟩:=f2 hc
    exact⟨x.data,q',g2,g3,by rw[g1];rfl⟩
  ·have hp:XK ep off r q:=by
    rcases b with b|⟨b1,b2⟩
    ·exact .inl b
    ·refine .inr ⟨b1,?_⟩
     simp only[Rd.read]at b1 b2;rcases Int.lt_or_le (off q) r.o with b3|b3
     ·exact b3
     ·exact absurd (inj q p a k.pl (by omega) (by omega)) e
   simp only[Rd.read,ALT e];exact h.data q a hp c
 ·simp only[Rd.read]at hd
  split at hd
  ·rename_i e
   subst e;exact .inr ⟨he,by simp only[Rd.read];omega⟩
  ·rcases h.told q d hd with t|⟨t1,t2⟩
   ·exact .inl t
   ·exact .inr ⟨t1,by simp only[Rd.read];omega⟩
theorem AUP{r:Rd}(hc:s.cl r.e)(hl:s.last r.e<r.o)(qE:∀p,Pl p→1≤off p)(h:WQ ep off Pl s fin r):WQ ep off Pl s fin { r with e:=r.e+1,o:=1 }:=by
 have h1:=h.e1;refine⟨by grind,fun p a b c=> ?_,fun p a b c=> ?_,fun p d hd=> ?_⟩
 ·simp only at b
  rcases Int.lt_or_le (ep p) r.e with b1|b1
  ·exact h.left p a b1 c
  grind
 ·have o1:=qE p a
  by_cases hp:XK ep off r p
  ·exact h.data p a hp c
  ·have hep:ep p=r.e∧r.o≤off p:=by
    grind[XK]
   have tn:r.told p=none:=by
    cases ht:r.told p with
    |none=>rfl
    |some d=>exact absurd (h.told p d ht) hp
   grind
 ·rcases h.told p d hd with t|⟨t1,t2⟩
  ·exact .inl (by grind)
  ·exact .inl (by grind)
theorem AOz{r:Rd}(ht:Pl s.trim)(hn: ¬XK ep off r s.trim)(ep1:∀p,Pl p→1≤ep p)(lex:∀p q,Pl p→Pl q→(ep p<ep q∨(ep p=ep q∧off p≤off q))→p≤q)(h:WQ ep off Pl s fin r):
  WQ ep off Pl s fin { r with e:=ep s.trim,o:=off s.trim+1 }:=by
 refine⟨ep1 _ ht,fun p a b c=> ?_,fun p a b c=> ?_,fun p d hd=> ?_⟩
 ·grind
 ·have:=lex p _ a ht (by
   rcases b with b|⟨b1,b2⟩
   all_goals grind)
  omega
 ·have:=h.told p d hd
  grind[XK]
end
end Go.Sf
end
section
namespace Go.M
open Go.M.H (AJ AN Au Ac AA CX AQ A9 AM Ab BG As BO)
open Go.Sf (OD Wd Md St Rd wQ Pf GZ HV WQ)
def Pl(p:Int):Prop:=BN p=true
def Uv(e:AJ):OD:=⟨e.1,e.2.1,e.2.2.1,e.2.2.2.1⟩
def kS(l:List AJ)(p:Int):Option OD:=(EA p l).map Uv
theorem Ps{l:List AJ}{p:Int}{x:OD}(h:kS l p=some x):∃e,EA p l=some e∧Uv e=x:=by
 grind[kS,Option.map_eq_some_iff]
theorem Z7{l:List AJ}{p:Int}{e:AJ}(h:EA p l=some e):kS l p=some (Uv e):=by
 grind[kS]
def Su(l:List AJ)(x:OD):Prop:= ∃e∈l,Uv e=x
theorem AEP{l m t:List AJ}(h:WD l)(hs:∀e∈m,e∈t):Pf (kS l) (kS (Db l m)) (Su t):=by
 refine⟨fun p x hx=> ?_,fun p y hy=> ?_⟩
 ·obtain⟨e,he,rfl⟩:=Ps hx
  obtain⟨y,hy,hw⟩:=XF (l:=m) h he;refine⟨Uv y,Z7 hy,hw.imp (fun e=>by rw[e]) (fun h=>h)⟩
 ·obtain⟨e,he,rfl⟩:=Ps hy
  obtain⟨h1,h2⟩:=Gr he;rcases Q4 h1 with h3|h3
  ·grind[Z7,Lt]
  ·exact .inr ⟨⟨e,hs e h3,rfl⟩,h2⟩
def Z_(x:A9):Wd:=⟨x.1,fun n=>n∈x.2.1,x.2.2.1=true⟩
def WJ(ws:List AM)(e:Int):Option AM:=ws.find? fun x=>x.1==e
def FM(ws:List AM)(p:Int):Option A9:=
 if BN p then(WJ ws (AO p)).bind fun x=>x.2.1[(A7 p-1).toNat]? else none
def eD(m:Au):Md:=
 ⟨m.2.1,fun n=>n∈m.2.2.1,kS m.2.2.2.1,m.2.2.2.2.1=true,m.2.2.2.2.2.1.length,fun p n=>Pl p∧AO p=m.2.1∧ ∃l,m.2.2.2.2.2.1[(A7 p-1).toNat]? =some l∧n∈l⟩
def IU(l:List Ac)(p:Int):Option Ac:=l.find? fun s=>s.1==p
def z7(s:Ac):wQ×Prop:=(s.2.1,s.2.2.1=true)
def Az(w:AA)(n:Int):AN:=if 0≤n∧n<(w.Aj.length:Int)then storeAt w n else Ci
def Gd(l:List CX)(e:Int):CX:=l.getD (e-1).toNat GL
def Bl(w:AA):St where
 len:=w.AY.length
 nodes e n:=n∈Ap w.AY e
 cl e:=(1≤e∧e≤(w.AY.length:Int))∧(Gd w.AY e).2.1=true
 last e:=if 1≤e then(Gd w.AY e).2.2.1 else 0
 trim:=w.trim
 lost n:=n∈w.lost
 EC:=w.EC=true
 kept n:=kS (Az w n).1
 late n:=Su (Az w n).2.1
 sl n:=(Az w n).2.2.1
 uj e:= ∃x∈w.AH,x.1=e
 wd p:=(FM w.AH p).map Z_
 md:=w.BW.head?.map eD
 HQ p:=(IU w.Aq p).map z7
def tlS(l:List BG)(p:Int):Option wQ:=(l.find? fun e=>e.1==1&&e.2.1==p).map fun e=>e.2.2.1
def xg(r:Ab):Rd:=⟨r.1,r.2.1,tlS r.2.2.1⟩
theorem St.eq{s t:St}(h1:s.len=t.len)(h2:s.nodes=t.nodes)(h3:s.cl=t.cl)(h4:s.last=t.last)(h5:s.trim=t.trim)(h6:s.lost=t.lost)(h7:s.EC=t.EC)(h8:s.kept=t.kept)(h9:s.late=t.late)
  (h10:s.sl=t.sl) (h11:s.uj=t.uj) (h12:s.wd=t.wd) (h13:s.md=t.md) (h14:s.HQ=t.HQ):s=t:=by
 cases s;simp_all
theorem Wd.eq{a b:Wd}(h1:a.data=b.data)(h2:a.nL=b.nL)(h3:a.done=b.done):a=b:=by
 cases a;simp_all
theorem Md.eq{a b:Md}(h1:a.ep=b.ep)(h2:a.fD=b.fD)(h3:a.seen=b.seen)(h4:a.pl=b.pl)(h5:a.n=b.n)(h6:a.wrote=b.wrote):a=b:=by
 cases a;simp_all
theorem S5{w:AA}{n:Int}(h:Al w n=0):Az w n=storeAt w n:=by
 obtain⟨h1,h2,_⟩:=EI h;unfold Az;simp_all
theorem F9{w:AA}{n m:Int}{s:AN}(h:0≤n∧n<(w.Aj.length:Int)):Az (w.A8 (w.Aj.set n.toNat s)) m=if m=n then s else Az w m:=by
 unfold Az storeAt;grind
structure Safe (w:AA):Prop where
 ok:Ml w
 a:GZ (GN (AS w)) AO Pl (Bl w)
 b:w.EC=false→ ∃fin,HV (GN (AS w)) AO A7 Pl (Bl w) fin∧ ∀r∈w.Aa,WQ AO A7 Pl (Bl w) fin (xg r)
def Grow(w v:AA):Prop:= ∀p d q,(Bl w).HQ p=some (d,q)→ ∃q',(Bl v).HQ p=some (d,q')∧(q→q')
theorem Safe.step{w v:AA}(h:Safe w)(Bz:Ml v)(hc:AS v=AS w)(hr:v.Aa=w.Aa)(ht:v.EC=false→w.EC=false)
  (ha:GZ (GN (AS w)) AO Pl (Bl v))
  (hb:w.EC=false→v.EC=false→ ∀fin,HV (GN (AS w)) AO A7 Pl (Bl w) fin→HV (GN (AS w)) AO A7 Pl (Bl v) fin)
  (h1:(Bl v).cl=(Bl w).cl) (h2:(Bl v).last=(Bl w).last) (h3:(Bl w).trim≤(Bl v).trim)
  (h4:Grow w v):Safe v∧Grow w v:=by
 refine⟨⟨Bz,by simp_all,fun hv=> ?_⟩,h4⟩;obtain⟨fin,b1,b2⟩:=h.b (ht hv);rw[hc,hr];exact⟨fin,hb (ht hv) hv fin b1,fun r hr=>(b2 r hr).of h1 h2 h3 fun p d q a b=>(h4 p d q a).imp fun _ k=>⟨k.1,k.2 b⟩⟩
theorem ep1{p:Int}(h:Pl p):1≤AO p:=(CJ h).1.1
theorem qE{p:Int}(h:Pl p):1≤A7 p:=(CJ h).2.1.1
theorem gS{w:AA}{n:Int}{s:AN}(h:0≤n∧n<(w.Aj.length:Int))(h2:s.2.1=[])(h3:s.2.2.1=(Az w n).2.2.1):Bl (w.A8 (w.Aj.set n.toNat s))=(Bl w).settle n (kS s.1):=by
 refine St.eq rfl rfl rfl rfl rfl rfl rfl ?_ ?_ ?_ rfl rfl rfl rfl
 ·funext m
  show kS (Az _ m).1=if m=n then kS s.1 else kS (Az w m).1
  rw[F9 h];grind
 ·funext m x
  show Su (Az _ m).2.1 x=(m≠n∧Su (Az w m).2.1 x)
  rw[F9 h];by_cases e:m=n
  ·rw[ALI e,h2]
   exact propext ⟨fun⟨e,he,_⟩=>by simp_all,fun hh=>absurd e hh.1⟩
  simp_all
 ·funext m
  show(Az _ m).2.2.1=(Az w m).2.2.1
  rw[F9 h];grind
theorem AJq{w:AA}{n:Int}{e:AJ}(h:0≤n∧n<(w.Aj.length:Int)):Bl (w.A8 (w.Aj.set n.toNat ((Az w n).1,(Az w n).2.1++[e],(Az w n).2.2.1,())))=(Bl w).put n (Uv e):=by
 refine St.eq rfl rfl rfl rfl rfl rfl rfl ?_ ?_ ?_ rfl rfl rfl rfl
 ·funext m
  show kS (Az _ m).1=kS (Az w m).1
  rw[F9 h];grind
 ·funext m x
  show Su (Az _ m).2.1 x=(Su (Az w m).2.1 x∨(m=n∧x=Uv e))
  rw[F9 h];by_cases em:m=n
  ·rw[ALI em,em]
   refine propext ⟨fun⟨y,hy,hx⟩=> ?_,fun hh=> ?_⟩
   ·rcases AOs.1 hy with hy|hy
    ·exact .inl ⟨y,hy,hx⟩
    simp_all
   ·rcases hh with⟨y,hy,hx⟩|⟨_,hx⟩
    ·exact⟨y,AOs.2 (.inl hy),hx⟩
    ·exact⟨e,by simp,hx.symm⟩
  simp_all
 ·funext m
  show(Az _ m).2.2.1=(Az w m).2.2.1
  rw[F9 h];grind
section
variable{w:AA} (h:Safe w)
include h
theorem yu{n k:Int}(e:(Ib w n k).2=0):Safe (Ib w n k).1∧Grow w (Ib w n k).1:=by
 have Bz:=vv h.ok e;unfold Ib at e Bz⊢
 try dsimp only at e Bz⊢
 by_cases hn:Al w n=0
 rotate_left
 ·simp_all
 rw[ALT (by omega)]at e Bz⊢;unfold putAt at e Bz⊢;by_cases hq:(D3 (storeAt w n) k).2=true
 rotate_left
 ·simp_all
 rw[ALI hq]at Bz⊢;obtain⟨s1,s2,s3⟩:=Km hq;obtain⟨n1,n2,n3⟩:=EI hn;have hs:=S5 hn;have ea:=gS (w:=w) (n:=n) (s:=(D3 (storeAt w n) k).1) ⟨n1,n2⟩ (by rw[s3]) (by simp_all);have hk:Pf ((Bl w).kept n) (kS (D3 (storeAt w n) k).1.1) ((Bl w).late n):=by
  show Pf (kS (Az w n).1) _ (Su (Az w n).2.1)
  rw[hs,s3];exact AEP s1.gf fun e=>Qb
 refine h.step Bz rfl rfl (fun t=>t) ?_ (fun _ _ fin hb=> ?_) rfl rfl (ASj _) fun p d q a=>⟨q,a,id⟩
 ·rw[ea];exact Sf.om hk h.a
 ·rw[ea];exact Sf.oJ GN.mono hk h.a hb
theorem xr{n:Int}(e:(Ii w n).2=0):Safe (Ii w n).1∧Grow w (Ii w n).1:=by
 have Bz:=wV h.ok e;unfold Ii at e Bz⊢
 try dsimp only at e Bz⊢
 by_cases hn:Al w n=0
 rotate_left
 ·simp_all
 rw[ALT (by omega)]at e Bz⊢;unfold putAt at e Bz⊢;by_cases hq:(F_ (storeAt w n) w.trim).2=true
 rotate_left
 ·simp_all
 rw[ALI hq]at Bz⊢;obtain⟨s1,s2,s3⟩:=jE hq;obtain⟨n1,n2,n3⟩:=EI hn;have hs:=S5 hn;have ea:Bl (w.A8 (w.Aj.set n.toNat (F_ (storeAt w n) w.trim).1))=(Bl w).prune n (kS (F_ (storeAt w n) w.trim).1.1):=by
  refine St.eq rfl rfl rfl rfl rfl rfl rfl ?_ ?_ ?_ rfl rfl rfl rfl
  ·funext m
   show kS (Az _ m).1=if m=n then _ else kS (Az w m).1
   rw[F9 ⟨n1,n2⟩];grind
  ·funext m x
   show Su (Az _ m).2.1 x=Su (Az w m).2.1 x
   rw[F9 ⟨n1,n2⟩];grind
  ·funext m
   show(Az _ m).2.2.1=(Az w m).2.2.1
   rw[F9 ⟨n1,n2⟩];grind
 have hk:Sf.nK (Bl w) n (kS (F_ (storeAt w n) w.trim).1.1):=by
  have ak:(Bl w).kept n=kS (storeAt w n).1:=by show kS (Az w n).1=_;rw[hs]
  rw[s3];refine⟨fun p x hx=> ?_,fun p hp=> ?_⟩
  ·obtain⟨y,hy,rfl⟩:=Ps hx
   obtain⟨y1,y2⟩:=Gr hy;rw[ak,←y2];exact Z7 (Lt s1.gf (ASp.1 y1).1)
  ·rw[ak]
   have hp':w.trim<p:=hp;grind[EA,storeAt,decide,Gr,absurd,ABu,kS,Lt,decide_eq_true]
 refine h.step Bz rfl rfl (fun t=>t) ?_ (fun _ _ fin hb=> ?_) rfl rfl (ASj _) fun p d q a=>⟨q,a,id⟩
 ·rw[ea];exact Sf.AJg hk h.a
 grind[Sf.AGs]
theorem ABr{a:Int}(e:(Nw w a).2=0):Safe (Nw w a).1∧Grow w (Nw w a).1:=by
 have Bz:=wh h.ok e;unfold Nw at e Bz⊢
 try dsimp only at e Bz⊢
 by_cases hq:(L8 (AS w) (B7 w) a).2=true
 rotate_left
 ·simp_all
 rw[hq]at Bz⊢;obtain⟨r1,r2,r3⟩:=qL hq;simp only[ALu,ALr,AOV]at Bz⊢;have ea:Bl (w.HE (L8 (AS w) (B7 w) a).1)={ Bl w with trim:=max w.trim a }:=by
  rw[r3];rfl
 have hle:w.trim≤max w.trim a:=Int.le_max_left _ _;refine h.step Bz rfl rfl (fun t=>t) ?_ (fun _ _ fin hb=> ?_) ?_ ?_ ?_ ?_
 ·rw[ea];exact Sf.AP_ h.a
 ·rw[ea];exact Sf.AMi hle hb
 ·rw[ea]
 ·rw[ea]
 ·rw[ea];exact hle
 ·exact fun p d q a=>⟨q,by simp_all,id⟩
end
end Go.M
end
section
namespace Go.M
open Go.M.H (AJ AN Au Ac AA CX AQ A9 AM Ab BG As BO)
open Go.Sf (OD Wd Md St Rd wQ Pf GZ HV WQ)
theorem ACy{w:AA}(h:w.BW=[]):(Bl w).md=none:=by
 show w.BW.head?.map eD=none
 simp_all
theorem cE{w:AA}{m:Au}{ms:List Au}(h:w.BW=m::ms):(Bl w).md=some (eD m):=by
 show w.BW.head?.map eD=some (eD m)
 simp_all
theorem ABg{l:List CX}{k:Nat}:Gd l ((k:Int)+1)=l.getD k GL:=by
 grind[Gd]
theorem AEh{w:AA}{k:Nat}(hk:k<w.AY.length):(Bl w).cl ((k:Int)+1)↔(w.AY.getD k GL).2.1=true:=by
 show((1≤(k:Int)+1∧(k:Int)+1≤(w.AY.length:Int))∧(Gd w.AY ((k:Int)+1)).2.1=true)↔_
 grind[ABg]
theorem AEH{c:CK}{m:Au}(hm:pV c m){p:Int}{x:OD}(hx:kS m.2.2.2.1 p=some x):A7 p≤Li m.2.2.2.1:=by
 obtain⟨e,he,_⟩:=Ps hx;obtain⟨e1,e2⟩:=Gr he;obtain⟨i,hi,hie⟩:=AQU e1;have hl:0<m.2.2.2.1.length:=by omega
 unfold Li;rw[show(m.2.2.2.1.length==0)=false from by grind,ALz,Me (by omega)];have hle:p≤(m.2.2.2.1[m.2.2.2.1.length-1]).1:=by
  by_cases hj:i=m.2.2.2.1.length-1
  ·simp_all
  ·have:=AWp.1 hm.gf i (m.2.2.2.1.length-1) hi (by omega) (by omega)
   grind
 have a1:=hm.seen e e1;have a2:=hm.seen _ (AL5 (show m.2.2.2.1.length-1<m.2.2.2.1.length by omega));have p1:=(FR.1 a1.1).pl;have p2:=(FR.1 a2.1).pl;grind[rH]
section
variable{w:AA} (h:Safe w)
include h
theorem ACY(e:(L5 w).2=0):Safe (L5 w).1∧Grow w (L5 w).1:=by
 have Bz:=AAP h.ok e;unfold L5 at e Bz⊢
 try dsimp only at e Bz⊢
 by_cases h1:(decide ((w.AY.length:Int)<2)||decide (A5 w.AY=w.AY.length))=true
 ·simp_all
 rw[ALT h1]at e Bz⊢;by_cases h2:w.BW.length>0
 ·simp_all
 rw[ALT h2]at Bz⊢;simp only[AR9,AMC,AXG]at h1;have th:w.BW=[]:=APc (by omega);obtain⟨k,k1,k2,k3,k4⟩:=N1 (r:=B7 w) h.ok.lf (by show 0<w.AY.length;omega);have k1':k<w.AY.length:=k1;have ZZ:A5 w.AY=(k:Int)+1:=k2;have ea:Bl (w.Bi [Vo (A5 w.AY) w.AY.length])=(Bl w).jn (A5 w.AY):=by
  refine St.eq rfl rfl rfl rfl rfl rfl rfl rfl rfl rfl rfl rfl ?_ rfl
  show some (eD (Vo (A5 w.AY) w.AY.length))=some _
  refine congrArg some (Md.eq rfl ?_ rfl ?_ rfl ?_)
  ·funext n;exact propext ⟨fun hh=>by simp[eD,Vo]at hh,fun hh=>hh.elim⟩
  ·exact propext ⟨fun hh=>by simp[eD,Vo]at hh,fun hh=>hh.elim⟩
  ·funext p n;exact propext ⟨fun⟨_,_,l,hl,_⟩=>by simp[Vo]at hl,fun hh=>hh.elim⟩
 have SU:=ACy th;refine h.step Bz rfl rfl (fun t=>t) ?_ (fun _ _ fin hb=> ?_) rfl rfl (ASj _) fun p d q a=>⟨q,a,id⟩
 ·rw[ea]
  refine Sf.AJE SU (by omega) (by show A5 w.AY<(w.AY.length:Int);omega) ?_ ?_ h.a
  ·rw[ZZ,AEh k1']
   have:(w.AY.getD k GL).2.1=false:=k3;simp_all
  ·intro f f1 f2
   rw[show f=((f-1).toNat:Int)+1 by omega,AEh (by omega)];exact k4 _ (by omega)
 grind[Sf.AI_,GN.mono]
theorem ABA(e:(MJ w).2=0):Safe (MJ w).1∧Grow w (MJ w).1:=by
 have Bz:=ze h.ok e;unfold MJ at e Bz⊢
 try dsimp only at e Bz⊢
 cases hms:w.BW with
 |nil=>simp_all
 |cons m ms=>
 rw[hms]at e Bz;simp only at e Bz⊢;by_cases hq:(IH (AS w) m (Ap w.AY m.2.1)).2=true
 rotate_left
 ·simp_all
 rw[hq]at Bz⊢;simp only[ALu,ALr,AOV]at Bz⊢;obtain⟨m1,m2,m3,m4,m5⟩:=lO hq;have SU:=cE hms;have ea:Bl (w.Bi ((IH (AS w) m (Ap w.AY m.2.1)).1::ms))=(Bl w).Yi (eD m) (Li m.2.2.2.1):=by
  refine St.eq rfl rfl rfl rfl rfl rfl rfl rfl rfl rfl rfl rfl ?_ rfl
  show some (eD (IH (AS w) m (Ap w.AY m.2.1)).1)=some _
  rw[m5];have hlb:=(Gm (l:=m.2.2.2.1)).1;refine congrArg some (Md.eq rfl rfl rfl (by simp[eD]) (by simp[eD];omega) ?_);funext p n;refine propext ⟨fun⟨_,_,l,hl,hn⟩=> ?_,fun⟨_,_,l,hl,hn⟩=> ?_⟩
  ·have:=ANO hl
   simp_all
  ·have:=m1.n
   simp_all
 have k:Sf.sr (GN (AS w)) A7 (Bl w) (eD m) (Li m.2.2.2.1):=by
  refine⟨SU,by simp[eD,m3],?_,fun p x hx=>AEH m1 hx⟩;unfold JJ at m4;simp only[ALp,ASY]at m4;obtain⟨g1,g2,g3,g4⟩:=m4;intro hH;have qO:Aw (AS w) (less (Ap w.AY m.2.1) (m.2.2.1.filter (Ap w.AY m.2.1).contains))=true:=LZ _ (Ny g1);have:GN (AS w) (fun n=>n∈less (Ap w.AY m.2.1) (m.2.2.1.filter (Ap w.AY m.2.1).contains)):=by
   refine GN.mono _ _ (fun n hn=> ?_) hH;rw[Rq];refine⟨hn.1,fun hh=>hn.2 ?_⟩;exact(ASp.1 hh).1
  grind[GN.list]
 refine h.step Bz rfl rfl (fun t=>t) ?_ (fun _ _ fin hb=> ?_) rfl rfl (ASj _) fun p d q a=>⟨q,a,id⟩
 ·rw[ea];exact Sf.APd k h.a
 ·rw[ea];exact Sf.ASU GN.mono k h.a hb
theorem AB1{n:Int}(e:(MH w n).2=0):Safe (MH w n).1∧Grow w (MH w n).1:=by
 have Bz:=AAB h.ok e;unfold MH at e Bz⊢
 try dsimp only at e Bz⊢
 cases hms:w.BW with
 |nil=>simp_all
 |cons m ms=>
 rw[hms]at e Bz;simp only at e Bz⊢;by_cases hn:Al w n=0
 rotate_left
 ·simp_all
 rw[ALT (by omega)]at e Bz⊢;by_cases O9:(Ap w.AY m.2.1).contains n=true
 rotate_left
 ·simp_all
 rw[O9]at e Bz⊢;simp only[ALu,ALr,AOV]at e Bz⊢;by_cases hq:(!(Bg (storeAt w n) (m.1-1)).2|| !(K6 (AS w) m n (GH (Bg (storeAt w n) (m.1-1)).1 m.2.1)).2)=true
 ·simp_all
 rw[ALT hq]at Bz⊢;simp only[AR9,ASY,AXG,Bool.not_eq_false]at hq;obtain⟨q1,q2⟩:=hq;obtain⟨s1,s2,s3,s4,s5⟩:=aH q1;obtain⟨m1,m2,m3,m4⟩:=lU q2;obtain⟨n1,n2,n3⟩:=EI hn;have hs:=S5 hn;have SU:=cE hms;have hm0:=h.ok.BW m (by simp_all)
 generalize hT:(K6 (AS w) m n (GH (Bg (storeAt w n) (m.1-1)).1 m.2.1)).1=T at m2 m4 Bz⊢
 generalize hS:(Bg (storeAt w n) (m.1-1)).1=S at s2 s3 Bz m4⊢
 let s':AN:=(S.1,[],(storeAt w n).2.2.1,())
 let w1:AA:=w.A8 (w.Aj.set n.toNat s')
 have hk:Pf ((Bl w).kept n) (kS S.1) ((Bl w).late n):=by
  show Pf (kS (Az w n).1) _ (Su (Az w n).2.1)
  rw[hs,s3];exact AEP s1.gf fun e=>Qb
 have vX:Bl w1=(Bl w).settle n (kS S.1):=gS (s:=s') ⟨n1,n2⟩ rfl (by rw[hs]);have hl1:(w.Aj.set n.toNat s').length=w.Aj.length:=ATZ;have ACD:GH S m.2.1=S.1.filter fun e=>AO e.1==m.2.1:=by unfold GH;rw[DC.2 s2,ALI rfl]
 have AZy:(GH S m.2.1).filter (fun e=>AO e.1==m.2.1)=S.1.filter fun e=>AO e.1==m.2.1:=by
  simp_all
 rw[AZy]at m4;have ea:Bl ((w.A8 (w.Aj.set n.toNat S)).Bi (T::ms))=(Bl w1).iD (eD m) n (kS T.2.2.2.1) (max (storeAt w n).2.2.1 (m.1-1)):=by
  have h1:∀k,Az ((w.A8 (w.Aj.set n.toNat S)).Bi (T::ms)) k=if k=n then S else Az w k:=fun k=>F9 ⟨n1,n2⟩
  have h2:∀k,Az w1 k=if k=n then s' else Az w k:=fun k=>F9 ⟨n1,n2⟩
  refine St.eq rfl rfl rfl rfl rfl rfl rfl ?_ ?_ ?_ rfl rfl ?_ rfl
  ·funext k
   show kS (Az _ k).1=kS (Az w1 k).1
   grind
  ·funext k
   show Su (Az _ k).2.1=Su (Az w1 k).2.1
   grind
  ·funext k
   show(Az _ k).2.2.1=if k=n then max (storeAt w n).2.2.1 (m.1-1)else(Az w1 k).2.2.1
   grind
  ·show some (eD T)=some _
   rw[m4];refine congrArg some (Md.eq rfl ?_ rfl rfl rfl rfl);funext k;exact propext ⟨fun hh=>(Nr.1 hh).symm,fun hh=>Nr.2 hh.symm⟩
 have hA1:GZ (GN (AS w)) AO Pl (Bl w1):=by rw[vX];exact Sf.om hk h.a
 have ek1:(Bl w1).kept n=kS S.1:=by rw[vX];show(if n=n then kS S.1 else _)=_;simp_all
 have k:Sf.si AO (Bl w1) (eD m) n (kS T.2.2.2.1) (max (storeAt w n).2.2.1 (m.1-1)):=by
  refine⟨SU,n3,by simp[eD,m3],?_,?_,fun p x hx=> ?_,fun p y hy=> ?_,fun p x hx he=> ?_,fun p y hy=> ?_⟩
  ·rw[vX]
   show(Az w n).2.2.1≤_
   grind
  ·show(w.AY.length:Int)-1≤_
   omega
  ·obtain⟨e,he,rfl⟩:=Ps hx
   obtain⟨y,hy,_⟩:=XF (l:=S.1.filter fun e=>AO e.1==m.2.1) m1.gf he;rw[m4];exact⟨_,Z7 hy⟩
  ·rw[m4]at hy
   obtain⟨e,he,rfl⟩:=Ps hy;obtain⟨e1,e2⟩:=Gr he;rcases Q4 e1 with e3|e3
   ·left
    show kS m.2.2.2.1 p=_
    rw[←e2];exact Z7 (Lt m1.gf e3)
   ·right
    rw[ek1,←e2];exact Z7 (Lt s2.gf (ASp.1 e3).1)
  ·rw[ek1]at hx
   obtain⟨e,he',rfl⟩:=Ps hx;obtain⟨e1,e2⟩:=Gr he';obtain⟨y,hy,_⟩:=fj (e:=e) (l:=S.1.filter fun e=>AO e.1==m.2.1) m1.gf (ASp.2 ⟨e1,by rw[e2];exact ASy.2 he⟩);rw[m4,←e2];exact⟨_,Z7 hy⟩
  ·obtain⟨e,he,rfl⟩:=Ps hy
   obtain⟨e1,e2⟩:=Gr he;have:=m2.seen e e1;rw[m4]at this;refine⟨e2,?_,?_⟩
   ·rw[←e2];exact this.2.1
   ·show e.2.1<(w.AY.length:Int)
    omega
 refine h.step Bz rfl rfl (fun t=>t) ?_ (fun _ _ fin hb=> ?_) rfl rfl (ASj _) fun p d q a=>⟨q,a,id⟩
 ·grind[Sf.ALC]
 ·rw[ea]
  refine Sf.AGT GN.mono k hA1 ?_
  rw[vX];exact Sf.oJ GN.mono hk h.a hb
end
end Go.M
end
section
namespace Go.M
open Go.M.H (AJ AN Au Ac AA CX AQ A9 AM Ab BG As BO)
open Go.Sf (OD Wd Md St Rd wQ Pf GZ HV WQ)
theorem XS{x:AM}:∀{ws:List AM},S8 (fun x:AM=>x.1) ws→x∈ws→WJ ws x.1=some x
 |[],_,h=>by simp at h
 |y::ws,ha,h=>by
  simp only[S8,AQc]at ha;unfold WJ;rw[AUO];rcases AO3.1 h with rfl|h
  ·rw[AW5]
  ·rw[APa.2 (fun e=>by grind)]
   exact XS ha.2 h
theorem Zh{ws:List AM}{e:Int}{x:AM}(h:WJ ws e=some x):x∈ws∧x.1=e:=
 ⟨ATE h,by simpa using List.find?_some h⟩
theorem lK{e:Int}{y:AM}(hy:y.1≠e):∀{ws:List AM} {i:Nat},(∀hi:i<ws.length,(ws[i]).1≠e)→WJ (ws.set i y) e=WJ ws e
 |[],i,_=>rfl
 |x::ws,0,h=>by
  grind[WJ,beq_eq_false_iff_ne]
 |x::ws,i+1,h=>by
  have ih:=lK hy (ws:=ws) (i:=i) fun hi=>h (Nat.succ_lt_succ hi)
  grind[WJ]
theorem wB{ws:List AM}{p:Int}{x:A9}(h:FM ws p=some x):Pl p∧ ∃y,WJ ws (AO p)=some y∧y.2.1[(A7 p-1).toNat]? =some x:=by
 unfold FM at h;split at h
 ·rename_i hp
  refine⟨hp,?_⟩;grind[Option.bind_eq_some_iff]
 simp_all
theorem J8{ws:List AM}{p:Int}{y:AM}(hp:Pl p)(h:WJ ws (AO p)=some y):FM ws p=y.2.1[(A7 p-1).toNat]?:=by
 unfold FM;rw[ALI (show BN p=true from hp),h];rfl
theorem r7{ws:List AM}{p:Int}(h:WJ ws (AO p)=none):FM ws p=none:=by
 grind[FM]
theorem jR{ws:List AM}{p:Int}(h: ¬Pl p):FM ws p=none:=by
 unfold FM;rw[ALT (show¬BN p=true from h)]
theorem xn{ws:List AM}{e p:Int}:FM (ws++[(e,[],())]) p=FM ws p:=by
 unfold FM WJ;split
 ·rw[List.find?_append]
  cases ws.find? (fun x=>x.1==AO p)with
  |some y=>rfl
  |none=>
   simp_all
 ·rfl
theorem YS{l:List Ac}{p:Int}{s:Ac}(h:IU l p=some s):s∈l∧s.1=p:=
 ⟨ATE h,by simpa using List.find?_some h⟩
theorem lk{s:Ac}{q:Int}:∀{l:List Ac},(∀x∈l,x.1≠s.1)→IU (Xa s l) q=if q=s.1 then some s else IU l q
 |[],_=>by
  unfold IU Xa;grind
 |x::l,h=>by
  have ih:=lk (q:=q) (l:=l) fun y hy=>h y (by simp[hy])
  have hx:=h x (by simp);unfold IU at*;rw[Xa];grind
theorem uO{l:List CX}{x:CX}{e:Int}:Ap (l++[x]) e=if e=(l.length:Int)+1 then x.1 else Ap l e:=by
 unfold Ap;simp only[APV,ANW,AQF];by_cases h:e=(l.length:Int)+1
 ·rw[ALI h,Ai.2 (by omega),ALI rfl,show(e-1).toNat=l.length by omega]
  simp[List.getD]
 ·rw[ALT h]
  by_cases h2:1≤e∧e≤(l.length:Int)
  ·rw[Ai.2 (by omega),Ai.2 h2,ALI rfl,ALI rfl]
   simp only[List.getD];rw[ANA (by omega)]
  ·rw[ALT (fun hh=>by grind[Ai]),ALT (fun hh=>h2 (Ai.1 hh))]
theorem kJ{l:List CX}{ns:AAH}{e:Int}(h1:1≤e):(Gd (l++[(ns,false,0,())]) e).2=(Gd l e).2:=by
 unfold Gd;simp only[List.getD];by_cases h:(e-1).toNat<l.length
 ·rw[ANA h]
 ·rw[AOU (by omega),ASu (l:=l) (by omega)]
  cases(e-1).toNat-l.length<;>rfl
section
variable{w:AA} (h:Safe w)
include h
theorem AAv{a:Int}(e:(MK w a).2=0):Safe (MK w a).1∧Grow w (MK w a).1:=by
 have Bz:=zM h.ok e;unfold MK at e Bz⊢
 try dsimp only at e Bz⊢
 by_cases h4:w.AH.length=4
 ·simp_all
 rw[ALT h4]at e Bz⊢;by_cases hq:(Ij (AS w) (B7 w) (Ao a)).2.2=true
 rotate_left
 ·simp_all
 simp only[hq,ALu,ALr,AOV]at Bz⊢;obtain⟨_,r1,r2,r3,r4,r5⟩:=oS hq;rw[r2,r3]at Bz⊢;have er:(B7 w).1=w.AY:=rfl;have ea:Bl (((w.HE ((B7 w).1++[(Ao a,false,0,())],(B7 w).2.1,())).A6 (w.AH++[(((B7 w).1.length:Int)+1,[],())])).Bi [])=(Bl w).open_ (fun n=>n∈Ao a):=by
  refine St.eq ?_ ?_ ?_ ?_ rfl rfl rfl rfl rfl rfl ?_ ?_ rfl rfl
  ·show((w.AY++[(Ao a,false,0,())]).length:Int)=(w.AY.length:Int)+1
   simp
  ·funext x n
   show(n∈Ap (w.AY++[(Ao a,false,0,())]) x)=(if x=(w.AY.length:Int)+1 then fun n=>n∈Ao a else(Bl w).nodes x) n
   rw[uO];by_cases hx:x=(w.AY.length:Int)+1
   ·simp_all
   ·rw[ALT hx,ALT hx];rfl
  ·funext x
   show((1≤x∧x≤((w.AY++[(Ao a,false,0,())]).length:Int))∧(Gd (w.AY++[(Ao a,false,0,())]) x).2.1=true)=((1≤x∧x≤(w.AY.length:Int))∧(Gd w.AY x).2.1=true)
   simp only[APV,ANW,AQF];refine propext ⟨fun⟨⟨h1,h2⟩,h3⟩=> ?_,fun⟨⟨h1,h2⟩,h3⟩=>⟨⟨h1,by omega⟩,by grind[kJ]⟩⟩;rw[kJ h1]at h3;refine⟨⟨h1,?_⟩,h3⟩;by_cases hh:x≤(w.AY.length:Int)
   ·omega
   ·unfold Gd at h3
    rw[List.getD,ASu (by omega)]at h3;cases h3
  ·funext x
   show(if 1≤x then(Gd (w.AY++[(Ao a,false,0,())]) x).2.2.1 else 0)=if 1≤x then(Gd w.AY x).2.2.1 else 0
   by_cases hx:1≤x
   ·rw[ALI hx,ALI hx,kJ hx]
   omega
  ·funext x
   show(∃y∈w.AH++[((w.AY.length:Int)+1,[],())],y.1=x)=((∃y∈w.AH,y.1=x)∨x=(w.AY.length:Int)+1)
   refine propext ⟨fun⟨y,hy,hx⟩=> ?_,fun hh=> ?_⟩
   ·grind
   ·rcases hh with⟨y,hy,hx⟩|hx
    ·grind
    simp_all
  ·funext p
   show(FM (w.AH++[((w.AY.length:Int)+1,[],())]) p).map Z_=(FM w.AH p).map Z_
   rw[xn]
 have za:GN (AS w) (fun n=>n∈Ao a):=⟨_,r4,fun _ hn=>hn⟩;refine h.step Bz rfl rfl (fun t=>t) ?_ (fun _ _ fin hb=> ?_) ?_ ?_ ?_ ?_
 ·rw[ea];exact Sf.AN1 za h.a
 ·rw[ea];exact Sf.AR7 h.a hb GN.mono
 ·rw[ea];rfl
 ·rw[ea];rfl
 ·rw[ea];exact ASj _
 ·exact fun p d q a=>⟨q,by rw[ea];exact a,id⟩
theorem yP(e:(Ie w).2=0):Safe (Ie w).1∧Grow w (Ie w).1:=by
 have Bz:=vn h.ok e;unfold Ie at e Bz⊢
 try dsimp only at e Bz⊢
 cases hms:w.BW with
 |nil=>simp_all
 |cons m ms=>
 rw[hms]at e Bz;simp only at e Bz⊢;by_cases hr:Oy (AS w) m=true
 rotate_left
 ·simp_all
 rw[hr]at e Bz⊢;simp only[ALu,ALr,AOV]at e Bz⊢;by_cases hq:(Mc (AS w) (B7 w) m.1 (m.2.2.2.2.2.1.length:Int)).2=true
 rotate_left
 ·simp_all
 rw[hq]at Bz⊢;simp only[ALu,ALr,AOV]at Bz⊢;obtain⟨r0,r1,k,k1,k2,k3,k4,k5,k6,k7,k8⟩:=lg hq;rw[k6]at Bz⊢;have k1':k<w.AY.length:=k1;have SU:=cE hms;have hm0:=h.ok.BW m (by simp_all);have hep:m.2.1=(k:Int)+1:=by rw[hm0.2.2];exact k2
 have hlen:(Gj w.AY k (m.2.2.2.2.2.1.length:Int)).length=w.AY.length:=by simp[Gj]
 have hg:=fun j=>Vz (l:=w.AY) (i:=k) (j:=j) (last:=(m.2.2.2.2.2.1.length:Int)) k1'
 have ea:Bl ((w.HE (Gj (B7 w).1 k (m.2.2.2.2.2.1.length:Int),(B7 w).2.1,())).Bi [])=(Bl w).close (eD m):=by
  refine St.eq ?_ ?_ ?_ ?_ rfl rfl rfl rfl rfl rfl rfl rfl rfl rfl
  ·show((Gj w.AY k (m.2.2.2.2.2.1.length:Int)).length:Int)=(w.AY.length:Int)
   omega
  ·funext x n
   show(n∈Ap (Gj w.AY k (m.2.2.2.2.2.1.length:Int)) x)=(n∈Ap w.AY x)
   unfold Ap;rw[hlen,hg];by_cases hx:k=(x-1).toNat
   all_goals simp_all
  ·funext x
   show((1≤x∧x≤((Gj w.AY k (m.2.2.2.2.2.1.length:Int)).length:Int))∧(Gd (Gj w.AY k (m.2.2.2.2.2.1.length:Int)) x).2.1=true)=(((1≤x∧x≤(w.AY.length:Int))∧(Gd w.AY x).2.1=true)∨x=m.2.1)
   unfold Gd;rw[hlen,hg,hep];by_cases hx:k=(x-1).toNat
   all_goals (simp_all;omega)
  ·funext x
   show(if 1≤x then(Gd (Gj w.AY k (m.2.2.2.2.2.1.length:Int)) x).2.2.1 else 0)=if x=m.2.1 then(m.2.2.2.2.2.1.length:Int)else if 1≤x then(Gd w.AY x).2.2.1 else 0
   unfold Gd;rw[hg,hep];by_cases h1:1≤x
   ·rw[ALI h1]
    by_cases hx:k=(x-1).toNat
    all_goals (simp_all;omega)
   omega
 unfold Oy at hr;simp only[ALp,AS0]at hr;have kk:Sf.nC (GN (AS w)) AO A7 Pl (Bl w) (eD m):=by
  refine⟨SU,hr.2.1,fun p hp he ho=> ?_⟩;have o1:=qE hp;have we:A7 p≤(m.2.2.2.2.2.1.length:Int):=ho;have hi:(A7 p-1).toNat<m.2.2.2.2.2.1.length:=by omega
  exact⟨_,hr.2.2 _ (AL5 hi),fun n hn=>⟨hp,he,_,ALR hi,hn⟩⟩
 refine⟨⟨Bz,?_,fun hv=> ?_⟩,fun p d q a=>⟨q,by rw[ea];exact a,id⟩⟩
 ·rw[ea];exact Sf.AJ3 kk h.a
 ·obtain⟨fin,b1,b2⟩:=h.b hv
  rw[ea];exact⟨_,Sf.AH0 kk h.a b1 GN.mono fun _ _ _ _ _=>trivial,fun r hr=>Sf.WQ.close kk h.a b1 (b2 r hr)⟩
theorem ADp{a:Int}{d:ABs}(hd:d.length≤40)(e:(doAdd w a d).2=0):Safe (doAdd w a d).1∧Grow w (doAdd w a d).1:=by
 have Bz:=AD4 h.ok hd e;unfold doAdd at e Bz⊢
 try dsimp only at e Bz⊢
 by_cases ha:BK a 0 ((w.AH.length:Int)-1)=true
 rotate_left
 ·simp_all
 rw[ha]at e Bz⊢;simp only[ALu,ALr,AOV]at e Bz⊢;by_cases hq:(!(CI (AS w) (w.AH.getD a.toNat Bo) d).2.2||(decide (w.Aq.length=120)||w.Aq.any fun s=>s.1==D9 (w.AH.getD a.toNat Bo).1 (CI (AS w) (w.AH.getD a.toNat Bo) d).2.1))=true
 ·simp_all
 rw[ALT hq]at Bz⊢;simp only[AR9,AXG,AO4,AO7,AS_,List.any_eq_false,ASy]at hq;obtain⟨hq,h120,hno⟩:=hq;rw[Ai]at ha;have hi:a.toNat<w.AH.length:=by omega
 have hxm:=BV (d:=Bo) hi;obtain⟨_,r1,r2,r3⟩:=Vr hq;rw[r2]at r1;rw[r2,r3]at Bz⊢;rw[r3]at hno;have hxw:=h.ok.AH _ hxm;have hgx:w.AH[a.toNat]=w.AH.getD a.toNat Bo:=(Me hi).symm
 generalize w.AH.getD a.toNat Bo=x at*
 have ya:=r1.n;simp only[APV,ANW,AQF]at ya;obtain⟨p1,p2,p3⟩:=I4 (e:=x.1) (o:=(x.2.1.length:Int)+1) hxw.1.ep (by omega)
 generalize hp:D9 x.1 ((x.2.1.length:Int)+1)=p at*
 have hwx:=XS h.ok.Xb hxm;have Aa1:=Bz.Xb;have Wb:WJ (w.AH.set a.toNat (x.1,x.2.1++[(d,[],false,())],())) x.1=some (x.1,x.2.1++[(d,[],false,())],()):=
  XS (x:=(x.1,x.2.1++[(d,[],false,())],())) Aa1 (List.mem_iff_getElem.2 ⟨a.toNat,by simp_all,by rw[AWk]⟩)
 have bM:∀q,AO q≠x.1→WJ (w.AH.set a.toNat (x.1,x.2.1++[(d,[],false,())],())) (AO q)=WJ w.AH (AO q):=fun q hq=>
  lK (y:=(x.1,x.2.1++[(d,[],false,())],())) (fun e=>hq e.symm) fun De=>by grind
 have ea:Bl ((w.A6 (w.AH.set a.toNat (x.1,x.2.1++[(d,[],false,())],()))).C2 (Xa (p,d,false,()) w.Aq))=(Bl w).add p d:=by
  refine St.eq rfl rfl rfl rfl rfl rfl rfl rfl rfl rfl ?_ ?_ rfl ?_
  ·funext q
   show(∃y∈w.AH.set a.toNat (x.1,x.2.1++[(d,[],false,())],()),y.1=q)=(∃y∈w.AH,y.1=q)
   refine propext ⟨fun⟨y,hy,hq⟩=> ?_,fun⟨y,hy,hq⟩=> ?_⟩
   ·grind
   ·by_cases hyx:q=x.1
    ·grind[Zh]
    ·obtain⟨i,De,rfl⟩:=AQU hy
     grind[List.mem_iff_getElem,List.length_set,List.getElem_set_ne]
  ·funext q
   show(FM _ q).map Z_=if q=p then some ⟨d,fun _=>False,False⟩else(FM w.AH q).map Z_
   by_cases hpq:Pl q
   rotate_left
   ·rw[jR hpq,jR hpq,ALT (fun e=>hpq (by rw[e];exact p1))]
   by_cases hqx:AO q=x.1
   ·rw[J8 hpq (by rw[hqx];omega),J8 hpq (by rw[hqx];omega)]
    have o1:=qE hpq;by_cases hqp:q=p
    ·rw[ALI hqp,hqp,p3,show((x.2.1.length:Int)+1-1).toNat=x.2.1.length by omega]
     show((x.2.1++[(d,[],false,())])[x.2.1.length]?).map Z_=_
     rw[AOU (by omega)];simp only[AXC,List.getElem?_cons_zero,AUI];refine congrArg some (Wd.eq rfl ?_ ?_)
     ·funext n;exact propext ⟨fun hh=>by simp[Z_]at hh,fun hh=>hh.elim⟩
     ·exact propext ⟨fun hh=>by simp[Z_]at hh,fun hh=>hh.elim⟩
    ·rw[ALT hqp]
     have hof:A7 q≠(x.2.1.length:Int)+1:=fun e=>hqp (rz hpq p1 (by omega) (by omega))
     show((x.2.1++[(d,[],false,())])[(A7 q-1).toNat]?).map Z_=_
     by_cases Jq:(A7 q-1).toNat<x.2.1.length
     ·grind
     simp_all;omega
   ·rw[ALT (fun e=>hqx (by simp_all))]
    grind[FM]
  ·funext q
   show(IU (Xa (p,d,false,()) w.Aq) q).map z7=if q=p then some (d,False)else(IU w.Aq q).map z7
   rw[lk (s:=(p,d,false,())) fun y hy=>by grind];by_cases hq:q=p
   ·rw[ALI hq,ALI hq]
    show some (d,false=true)=some (d,False)
    simp
   simp_all
 have ks:(Bl w).HQ p=none:=by
  show(IU w.Aq p).map z7=none
  grind[IU,YS,absurd]
 have k:Sf.ALS AO Pl (Bl w) p:=by
  refine⟨p1,⟨x,hxm,p2.symm⟩,?_,ks⟩
  show(FM w.AH p).map Z_=none
  rw[J8 p1 (by rw[p2];omega),p3,ASu (by omega)];rfl
 refine h.step Bz rfl rfl (fun t=>t) ?_ (fun _ _ fin hb=> ?_) ?_ ?_ ?_ ?_
 ·rw[ea];exact Sf.AUR GN.empty k h.a
 ·grind[Sf.AVL,GN.mono]
 ·rfl
 ·rfl
 ·rw[ea];exact ASj _
 ·intro q d' z a1
  rw[ea];refine⟨z,?_,id⟩
  show(if q=p then some (d,False)else(Bl w).HQ q)=_
  grind
end
end Go.M
end
section
namespace Go.M
open Go.M.H (AJ AN Au Ac AA CX AQ A9 AM Ab BG As BO)
open Go.Sf (OD Wd Md St Rd wQ Pf GZ HV WQ)
theorem sf{n:Int}{x:A9}:Z_ (Cx n x)=⟨(Z_ x).data,fun k=>(Z_ x).nL k∧((Z_ x).done∨k≠n),(Z_ x).done⟩:=by
 refine Wd.eq rfl ?_ rfl
 funext k
 show(k∈(if x.2.2.1 then x.2.1 else less x.2.1 [n]))=(k∈x.2.1∧(x.2.2.1=true∨k≠n))
 by_cases hd:x.2.2.1=true
 ·simp_all
 ·rw[ALT hd,Rq,AS2]
  simp_all
theorem yd{f:AM→AM}{g:A9→A9}(hf:∀x,(f x).1=x.1)(hg:∀x,(f x).2.1=x.2.1.map g){ws:List AM}{p:Int}:FM (ws.map f) p=(FM ws p).map g:=by
 unfold FM WJ;split
 ·rw[List.find?_map]
  have:((fun x:AM=>x.1==AO p)∘f)=fun x=>x.1==AO p:=by grind
  rw[this];cases ws.find? (fun x=>x.1==AO p)with
  |none=>rfl
  |some y=>
   simp_all
 ·rfl
theorem gN{lost:AAH}{s:AN}:∀{l:List AN} {i:Nat},s∈others lost i l↔ ∃j,∃hj:j<l.length,l[j]=s∧((i+j:Nat):Int)∉lost
 |[],i=>by simp[others]
 |x::l,i=>by
  unfold others;have ih:=gN (lost:=lost) (s:=s) (l:=l) (i:=i+1);have tail:(∃j,∃hj:j<l.length,l[j]=s∧((i+1+j:Nat):Int)∉lost)→ ∃j,∃hj:j<(x::l).length,(x::l)[j]=s∧((i+j:Nat):Int)∉lost:=fun⟨j,hj,h1,h2⟩=>
   ⟨j+1,by simp_all,by simp_all,by grind⟩
  split
  ·rename_i hc
   rw[ih];refine⟨tail,fun⟨j,hj,h1,h2⟩=> ?_⟩;grind
  grind
theorem n_{y:AJ}:∀{ss:List AN} {k:List AJ},y∈Ff k ss→y∈k∨ ∃s∈ss,y∈s.1
 |[],k,h=> .inl h
 |s::ss,k,h=>by
  rcases n_ (ss:=ss) h with h|⟨t,h1,h2⟩
  all_goals grind[Q4]
theorem rJ{p:Int}:∀{ss:List AN} {k:List AJ} {x:AJ},WD k→EA p k=some x→ ∃y,EA p (Ff k ss)=some y∧x.2.1≤y.2.1
 |[],k,x,h,hx=>⟨x,hx,ASj _⟩
 |s::ss,k,x,h,hx=>by
  obtain⟨y,h1,h2⟩:=XF (l:=s.1) h hx;obtain⟨z,h3,h4⟩:=rJ (ss:=ss) (Q1 h) h1;exact⟨z,h3,by grind⟩
theorem rh{e:AJ}:∀{ss:List AN} {k:List AJ} {s:AN},WD k→s∈ss→e∈s.1→ ∃y,EA e.1 (Ff k ss)=some y∧e.2.1≤y.2.1
 |s::ss,k,t,h,ht,he=>by
  rcases AO3.1 ht with rfl|ht
  ·obtain⟨y,h1,h2⟩:=fj h he
   obtain⟨z,h3,h4⟩:=rJ (ss:=ss) (Q1 h) h1;exact⟨z,h3,by omega⟩
  ·exact rh (ss:=ss) (k:=Db k s.1) (Q1 h) ht he
theorem lT{m:Au}{b len:Int}{en:AJ}(hl:m.1=len)(o7:Dc m b=some en):
  (m.2.2.2.2.1=true∧(1≤m.2.1∧m.2.1≤30)∧(1≤b∧b≤60)∧b≤m.2.2.2.2.2.1.length)∧Uv en=Sf.Uu len (eD m) (D9 m.2.1 b)∧en.1=D9 m.2.1 b:=by
 unfold Dc at o7;by_cases hc:(m.2.2.2.2.1&&(BK m.2.1 1 30&&(BK b 1 60&&decide (b≤m.2.2.2.2.2.1.length))))=true
 rotate_left
 ·simp_all
 rw[ALI hc]at o7;simp only[ALp,Ai,AMC]at hc;refine⟨hc,?_⟩;unfold Sf.Uu
 show(Uv en=match kS m.2.2.2.1 (D9 m.2.1 b)with|some x=>_|none=>_)∧_
 unfold kS;cases hg:EA (D9 m.2.1 b) m.2.2.2.1 with
 |none=>
  rw[hg]at o7;cases o7;refine⟨?_,rfl⟩
  show(⟨_,m.1,true,[]⟩:OD)=⟨_,len,true,[]⟩
  rw[hl]
 |some x=>
  rw[hg]at o7;cases o7;refine⟨?_,rfl⟩
  show(⟨_,m.1,x.2.2.1,x.2.2.2.1⟩:OD)=⟨_,len,x.2.2.1,x.2.2.2.1⟩
  rw[hl]
section
variable{w:AA} (h:Safe w)
include h
theorem vD{n:Int}{en:AJ}(hn:Al w n=0)(Bz:Ml (putAt w n (GD (storeAt w n) en)).1)(e:(putAt w n (GD (storeAt w n) en)).2=0)(k:Sf.AAT AO Pl (Bl w) (Uv en))
  (hh:∀fin,HV (GN (AS w)) AO A7 Pl (Bl w) fin→(Uv en).hole=true→(Bl w).trim<(Uv en).at_→Sf.Lu (GN (AS w)) AO (Bl w) (Uv en).at_)
  (hc:(Bl w).cl (AO (Uv en).at_)→(Uv en).PC=0):Safe (putAt w n (GD (storeAt w n) en)).1∧Grow w (putAt w n (GD (storeAt w n) en)).1:=by
 unfold putAt at e Bz⊢;by_cases hq:(GD (storeAt w n) en).2=true
 rotate_left
 ·simp_all
 rw[ALI hq]at Bz⊢;obtain⟨s1,s2,s3,s4⟩:=dK hq;obtain⟨n1,n2,n3⟩:=EI hn;have ea:Bl (w.A8 (w.Aj.set n.toNat (GD (storeAt w n) en).1))=(Bl w).put n (Uv en):=by
  grind[AJq,S5]
 refine h.step Bz rfl rfl (fun t=>t) ?_ (fun _ _ fin hb=> ?_) ?_ ?_ ?_ ?_
 ·rw[ea];exact Sf.AUV k h.a
 ·grind[Sf.AWc]
 ·rfl
 ·rfl
 ·rw[ea];exact ASj _
 ·exact fun p d q a=>⟨q,by rw[ea];exact a,id⟩
theorem yb{a b n:Int}(e:(IW w a b n).2=0):Safe (IW w a b n).1∧Grow w (IW w a b n).1:=by
 have Bz:=vE h.ok e;unfold IW at e Bz⊢
 try dsimp only at e Bz⊢
 by_cases ha:BK a 0 ((w.AH.length:Int)-1)=true
 rotate_left
 ·simp_all
 rw[ha]at e Bz⊢;simp only[ALu,ALr,AOV]at e Bz⊢;rw[Ai]at ha;have hi:a.toNat<w.AH.length:=by omega
 have hxm:=BV (d:=Bo) hi;have hxw:=h.ok.AH _ hxm;have hwx:=XS h.ok.Xb hxm
 generalize w.AH.getD a.toNat Bo=x at*
 by_cases hb:BK b 1 (x.2.1.length:Int)=true
 rotate_left
 ·simp_all
 rw[hb]at e Bz⊢;simp only[ALu,ALr,AOV]at e Bz⊢;rw[Ai]at hb;by_cases hn:Al w n=0
 rotate_left
 ·simp_all
 rw[ALT (by omega)]at e Bz⊢;by_cases O9:(Ap w.AY x.1).contains n=true
 rotate_left
 ·simp_all
 rw[O9]at e Bz⊢;simp only[ALu,ALr,AOV]at e Bz⊢;have AeB:=hxw.1.n;obtain⟨p1,p2,p3⟩:=I4 (e:=x.1) (o:=b) hxw.1.ep (by omega);have hwd:(Bl w).wd (D9 x.1 b)=some (Z_ (x.2.1.getD (b-1).toNat Kn)):=by
  show(FM w.AH (D9 x.1 b)).map Z_=_
  rw[J8 p1 (by rw[p2];omega),p3,ALR (by omega),Me (by omega)];rfl
 have kp:=Sf.xV h.a hwd;refine vD h hn Bz e kp (fun fin hb hh=>by cases hh) fun _=>rfl
theorem AEA{b n:Int}(e:(Rf w b n).2=0):Safe (Rf w b n).1∧Grow w (Rf w b n).1:=by
 have Bz:=AEN h.ok e;unfold Rf at e Bz⊢
 try dsimp only at e Bz⊢
 cases hms:w.BW with
 |nil=>simp_all
 |cons m ms=>
 rw[hms]at e Bz;simp only at e Bz⊢;cases o7:Dc m b with
 |none=>simp_all
 |some en=>
 rw[o7]at e Bz;simp only at e Bz⊢;by_cases hn:Al w n=0
 rotate_left
 ·simp_all
 rw[ALT (by omega)]at e Bz⊢;by_cases O9:(Ap w.AY m.2.1).contains n=true
 rotate_left
 ·simp_all
 rw[O9]at e Bz⊢;simp only[ALu,ALr,AOV]at e Bz⊢;have SU:=cE hms;have hm0:=h.ok.BW m (by simp_all);obtain⟨⟨c1,c2,c3,c4⟩,hen,_⟩:=lT hm0.2.1 o7;obtain⟨p1,p2,p3⟩:=I4 c2 c3
 replace hen:Uv en=Sf.Uu (Bl w).len (eD m) (D9 m.2.1 b):=hen
 have OV:(Uv en).at_=D9 m.2.1 b:=by grind[Sf.Uu]
 have kp:=Sf.yr h.a SU c1 (p:=D9 m.2.1 b) p2 p1;rw[←hen]at kp;refine vD h hn Bz e kp (fun fin hb hh ht=> ?_) fun cu=> ?_
 ·rw[OV]at ht⊢
  cases hs:(eD m).seen (D9 m.2.1 b)with
  |none=>exact hb.Yi _ _ SU c1 p1 p2 ht hs
  |some x=>
   have hx:=h.a.im _ _ _ SU hs;have hxh:x.hole=true:=by
    grind[Sf.Uu]
   have:=hb.T1 x (.inr (.inr ⟨_,SU,by simp_all⟩)) hxh (by omega);simp_all
 ·rw[OV,p2]at cu
  exact absurd cu (h.a.zw _ SU).2.2.1
theorem AB_{a:Int}(e:(NF w a).2=0):Safe (NF w a).1∧Grow w (NF w a).1:=by
 have Bz:=zi h.ok e;unfold NF at e Bz⊢
 try dsimp only at e Bz⊢
 by_cases ha:BK a 0 ((w.AH.length:Int)-1)=true
 rotate_left
 ·simp_all
 rw[ha]at Bz⊢;simp only[ALu,ALr,AOV]at Bz⊢;have AB4:∀x∈w.AH.eraseIdx a.toNat,x∈w.AH:=fun x hx=>(List.eraseIdx_sublist _ _).subset hx
 have ea:Bl (w.A6 (w.AH.eraseIdx a.toNat))=(Bl w).drop (Bl (w.A6 (w.AH.eraseIdx a.toNat))).uj (Bl (w.A6 (w.AH.eraseIdx a.toNat))).wd:=rfl;have k:Sf.zD AO (Bl w) (Bl (w.A6 (w.AH.eraseIdx a.toNat))).uj (Bl (w.A6 (w.AH.eraseIdx a.toNat))).wd:=by
  refine⟨fun e ⟨x,hx,he⟩=>⟨x,AB4 x hx,he⟩,fun p v hv=> ?_⟩
  replace hv:(FM (w.AH.eraseIdx a.toNat) p).map Z_=some v:=hv
  rw[ALe]at hv;obtain⟨x,hx,rfl⟩:=hv;obtain⟨hp,y,hy,hyx⟩:=wB hx;obtain⟨y1,y2⟩:=Zh hy;refine⟨?_,y,y1,y2⟩
  show(FM w.AH p).map Z_=_
  rw[J8 hp (y:=y) (by rw[←y2];exact XS h.ok.Xb (AB4 y y1)),hyx];rfl
 refine h.step Bz rfl rfl (fun t=>t) ?_ (fun _ _ fin hb=> ?_) rfl rfl (ASj _) fun p d q a=>⟨q,a,id⟩
 ·rw[ea];exact Sf.AP1 k h.a
 grind[Sf.ARQ,GN.mono]
theorem ABk{n:Int}(e:(MC w n).2=0):Safe (MC w n).1∧Grow w (MC w n).1:=by
 have Bz:=AAN h.ok e;unfold MC at e Bz⊢
 try dsimp only at e Bz⊢
 by_cases hn:Al w n=0
 rotate_left
 ·simp_all
 rw[ALT (by omega)]at e Bz⊢;simp only at e Bz⊢;obtain⟨n1,n2,n3⟩:=EI hn;have gm:=(h.ok.node hn).1;have AAj:GN (AS w) (fun m=>m∈JO n w.lost)↔holds (AS w) (JO n w.lost)=true:=GN.list (Ig h.ok.lost gm);have hor:(fun m=>m∈JO n w.lost)=fun m=>(m∈w.lost∨m=n):=by funext m;exact propext ⟨fun hh=>(Nr.1 hh).symm,fun hh=>Nr.2 hh.symm⟩
 rw[hor]at AAj;have fw:w.AH.map (fun x=>(CD (AS w) x n).1)=w.AH.map fun x=>(x.1,x.2.1.map (Cx n),()):=ASl fun x hx=>(Uj (h.ok.AH x hx).1).2
 have fm:w.BW.map (fun m=>(CB (AS w) m n).1)=w.BW.map fun m=>(m.1,m.2.1,m.2.2.1,m.2.2.2.1,m.2.2.2.2.1,m.2.2.2.2.2.1.map fun l=>less l [n],()):=ASl fun m hm=>(eY (h.ok.BW m hm).1).2
 rw[fw,fm]at Bz⊢;have cz:∀m,Az (w.A8 (w.Aj.set n.toNat Ci)) m=if m=n then Ci else Az w m:=fun m=>F9 ⟨n1,n2⟩
 generalize hv:((((w.A8 (w.Aj.set n.toNat Ci)).EV (JO n w.lost)).A6 (w.AH.map fun x=>(x.1,x.2.1.map (Cx n),()))).Bi (w.BW.map fun m=>(m.1,m.2.1,m.2.2.1,m.2.2.2.1,m.2.2.2.2.1,m.2.2.2.2.2.1.map fun l=>less l [n],()))).FA (w.EC||holds (AS w) (JO n w.lost))=v at Bz⊢
 have ea:Bl v=(Bl w).Va (GN (AS w)) n:=by
  subst hv;refine St.eq rfl rfl rfl rfl rfl hor ?_ ?_ ?_ ?_ ?_ ?_ ?_ rfl
  ·show((w.EC||holds (AS w) (JO n w.lost))=true)=(w.EC=true∨GN (AS w) fun m=>m∈w.lost∨m=n)
   simp_all
  ·funext m
   show kS (Az (w.A8 (w.Aj.set n.toNat Ci)) m).1=if m=n then fun _=>none else kS (Az w m).1
   rw[cz];by_cases em:m=n
   ·rw[ALI em,ALI em];rfl
   simp_all
  ·funext m x
   show Su (Az (w.A8 (w.Aj.set n.toNat Ci)) m).2.1 x=(m≠n∧Su (Az w m).2.1 x)
   rw[cz];by_cases em:m=n
   ·rw[ALI em]
    exact propext ⟨fun⟨y,hy,_⟩=>by simp_all,fun hh=>absurd em hh.1⟩
   simp_all
  ·funext m
   show(Az (w.A8 (w.Aj.set n.toNat Ci)) m).2.2.1=if m=n then 0 else(Az w m).2.2.1
   grind
  ·funext x
   show(∃y∈w.AH.map fun x=>(x.1,x.2.1.map (Cx n),()),y.1=x)=(∃y∈w.AH,y.1=x)
   refine propext ⟨fun⟨y,hy,hx⟩=> ?_,fun⟨y,hy,hx⟩=>⟨_,ASt.2 ⟨y,hy,rfl⟩,hx⟩⟩;grind
  ·funext p
   show(FM (w.AH.map fun x=>(x.1,x.2.1.map (Cx n),())) p).map Z_=((FM w.AH p).map Z_).map _
   rw[yd (f:=fun x:AM=>(x.1,x.2.1.map (Cx n),())) (g:=Cx n) (fun _=>rfl) (fun _=>rfl)];cases FM w.AH p with
   |none=>rfl
   |some x=>exact congrArg some sf
  ·show(w.BW.map _).head?.map eD=(w.BW.head?.map eD).map _
   cases w.BW with
   |nil=>rfl
   |cons m ms=>
    show some (eD (m.1,m.2.1,m.2.2.1,m.2.2.2.1,m.2.2.2.2.1,m.2.2.2.2.2.1.map fun l=>less l [n],()))=some _
    refine congrArg some (Md.eq rfl rfl rfl rfl (by simp[eD]) ?_);funext p k;refine propext ⟨fun⟨a1,a2,l,hl,hk⟩=> ?_,fun⟨⟨a1,a2,l,hl,hk⟩,bM⟩=> ?_⟩
    ·replace hl:(m.2.2.2.2.2.1.map fun l=>less l [n])[(A7 p-1).toNat]? =some l:=hl
     rw[ARB,ALe]at hl;obtain⟨l',gl,rfl⟩:=hl;obtain⟨k1,k2⟩:=Rq.1 hk;exact⟨⟨a1,a2,l',gl,k1⟩,by simp_all⟩
    ·refine⟨a1,a2,less l [n],?_,Rq.2 ⟨hk,by simp_all⟩⟩
     simp_all
 have et:v.EC=(w.EC||holds (AS w) (JO n w.lost)):=by grind
 refine h.step Bz (by rw[←hv];rfl) (by grind) (fun t=> ?_) ?_ (fun _ t fin hb=> ?_) ?_ ?_ ?_ ?_
 ·simp_all
 ·rw[ea];exact Sf.AOr GN.mono h.a
 ·rw[ea]
  refine Sf.AOQ GN.mono (fun hh=> ?_) h.a hb;rw[et,AAj.1 hh,Bool.or_true]at t;cases t
 ·rw[ea];rfl
 ·rw[ea];rfl
 ·rw[ea];exact ASj _
 ·exact fun p d q a=>⟨q,by rw[ea];exact a,id⟩
theorem AA5{n:Int}(e:(ME w n).2=0):Safe (ME w n).1∧Grow w (ME w n).1:=by
 have Bz:=z8 h.ok e;unfold ME at e Bz⊢
 try dsimp only at e Bz⊢
 by_cases h1:w.lost.contains n=true
 rotate_left
 ·simp_all
 rw[h1]at e Bz⊢;simp only[ALu,ALr,AOV]at e Bz⊢;by_cases hq:(WE (AS w) w.Aj w.lost n (max ((w.AY.length:Int)-1) 0)).2=true
 rotate_left
 ·simp_all
 rw[hq]at Bz⊢;simp only[ALu,ALr,AOV]at Bz⊢;obtain⟨s1,s2,s3,s4⟩:=wu hq;rw[List.contains_eq_mem,AMC]at h1;have ya:0≤n∧n<(w.1.length:Int):=(EN.1 h.ok.lost).2.1 n h1;have za:=h.ok.my;have O9:0≤n∧n<(w.Aj.length:Int):=by omega
 generalize (WE (AS w) w.Aj w.lost n (max ((w.AY.length:Int)-1) 0)).1=S at*
 have cz:∀m,Az (w.A8 (w.Aj.set n.toNat S)) m=if m=n then S else Az w m:=fun m=>F9 O9
 have ea:Bl ((w.A8 (w.Aj.set n.toNat S)).EV (less w.lost [n]))=(Bl w).fill n (kS S.1) (max ((w.AY.length:Int)-1) 0):=by
  refine St.eq rfl rfl rfl rfl rfl ?_ rfl ?_ ?_ ?_ rfl rfl rfl rfl
  ·funext m
   show(m∈less w.lost [n])=(m∈w.lost∧m≠n)
   rw[Rq,AS2]
  ·funext m
   show kS (Az (w.A8 (w.Aj.set n.toNat S)) m).1=if m=n then kS S.1 else kS (Az w m).1
   grind
  ·funext m x
   show Su (Az (w.A8 (w.Aj.set n.toNat S)) m).2.1 x=(m≠n∧Su (Az w m).2.1 x)
   rw[cz];by_cases em:m=n
   ·rw[ALI em,s2]
    exact propext ⟨fun⟨y,hy,_⟩=>by simp_all,fun hh=>absurd em hh.1⟩
   simp_all
  ·funext m
   show(Az (w.A8 (w.Aj.set n.toNat S)) m).2.2.1=if m=n then max ((w.AY.length:Int)-1) 0 else(Az w m).2.2.1
   grind
 have k:Sf.tb (Bl w) n (kS S.1) (max ((w.AY.length:Int)-1) 0):=by
  refine⟨h1,Int.le_max_left _ _,fun p y hy=> ?_,fun m p x hm hx=> ?_⟩
  ·rw[s2]at hy
   obtain⟨e,he,rfl⟩:=Ps hy;obtain⟨e1,e2⟩:=Gr he;rcases n_ e1 with e3|⟨s,e3,e4⟩
   ·simp_all
   ·obtain⟨j,hj,j1,j2⟩:=gN.1 e3
    rw[ASz]at j2;refine⟨(j:Int),j2,?_⟩
    show kS (Az w (j:Int)).1 p=_
    unfold Az storeAt;rw[ALI ⟨by omega,by omega⟩,AL2,Me hj,j1,←e2];exact Z7 (Lt (s4 s e3).gf e4)
  ·replace hx:kS (Az w m).1 p=some x:=hx
   obtain⟨e,he,rfl⟩:=Ps hx;obtain⟨e1,e2⟩:=Gr he;unfold Az at e1;by_cases hmn:0≤m∧m<(w.Aj.length:Int)
   rotate_left
   ·grind
   rw[ALI hmn]at e1;have uk:m.toNat<w.Aj.length:=by omega
   obtain⟨y,y1,y2⟩:=rh (ss:=others w.lost 0 w.Aj) (k:=[]) (s:=storeAt w m) (e:=e) List.Pairwise.nil (gN.2 ⟨m.toNat,uk,by grind[storeAt,Me],by rw[ASz,AUY hmn.1];exact hm⟩) e1;rw[s2,←e2];exact⟨_,Z7 y1,y2⟩
 refine h.step Bz rfl rfl (fun t=>t) ?_ (fun _ _ fin hb=> ?_) ?_ ?_ ?_ ?_
 ·rw[ea];exact Sf.APC k h.a
 ·rw[ea];exact Sf.APL GN.mono k h.a hb
 ·rfl
 ·rfl
 ·rw[ea];exact ASj _
 ·exact fun p d q a=>⟨q,by rw[ea];exact a,id⟩
end
end Go.M
end
section
namespace Go.Sf
section
variable{H:(Int→Prop)→Prop} (hm:∀S T:Int→Prop,(∀n,S n→T n)→H S→H T) {ep off:Int→Int} {Pl:Int→Prop} {fin:Int→OD}
open Classical in
noncomputable def St.tell (H:(Int→Prop)→Prop) (s:St) (n:Int) (D:Int→Prop):St:=
 { s with wd:=fun q=>(s.wd q).map fun w=>if D q then⟨w.data,fun k=>w.nL k∨k=n,H (fun k=>w.nL k∨k=n)⟩else w,HQ:=fun q=>(s.HQ q).map fun d=>(d.1,d.2∨(D q∧ ∃w,s.wd q=some w∧H (fun k=>w.nL k∨k=n))) }
theorem ABM{s:St}{n:Int}{D:Int→Prop}(h:∀q,¬D q):s.tell H n D=s:=by
 have h1:(s.tell H n D).wd=s.wd:=by
  funext q
  show(s.wd q).map _=_
  simp_all
 have h2:(s.tell H n D).HQ=s.HQ:=by
  funext q
  show(s.HQ q).map _=_
  simp_all
 unfold St.tell at*;simp_all
theorem ADK{s:St}{p n:Int}{w:Wd}{D:Int→Prop}(hp:D p)(hw:s.wd p=some w):s.tell H n D=(s.cO H p n w).tell H n (fun q=>D q∧q≠p):=by
 have h1:(s.tell H n D).wd=((s.cO H p n w).tell H n (fun q=>D q∧q≠p)).wd:=by
  funext q
  show(s.wd q).map _=(if q=p then some (⟨w.data,fun k=>w.nL k∨k=n,H (fun k=>w.nL k∨k=n)⟩:Wd)else s.wd q).map _
  grind
 have h2:(s.tell H n D).HQ=((s.cO H p n w).tell H n (fun q=>D q∧q≠p)).HQ:=by
  funext q
  show(s.HQ q).map _=(if q=p then(s.HQ p).map (fun d=>(d.1,d.2∨H (fun k=>w.nL k∨k=n)))else s.HQ q).map _
  by_cases e:q=p
  ·subst e
   rw[ALI rfl];cases s.HQ q with
   |none=>rfl
   |some v=>simp_all
  ·rw[ALT e]
   cases s.HQ q with
   |none=>rfl
   |some v=>simp[e,St.cO]
 grind[St.tell,St.cO]
include hm in
theorem nj{n:Int}{T:Prop}:∀(L:AAH) {s:St} {D:Int→Prop},(∀q,D q→q∈L)→(∀p,D p→ ∃w,zT ep s p n w)→GZ H ep Pl s→(T→HV H ep off Pl s fin)→
  GZ H ep Pl (s.tell H n D)∧(T→HV H ep off Pl (s.tell H n D) fin)
 |[],s,D,hD,_,ha,hb=>by
  rw[ABM fun q hq=>by simpa using hD q hq];exact⟨ha,hb⟩
 |p::L,s,D,hD,hk,ha,hb=>by
  by_cases hp:D p
  ·obtain⟨w,kw⟩:=hk p hp
   rw[ADK hp kw.wd];refine nj L (fun q hq=> ?_) (fun q hq=> ?_) (AT_ kw ha) fun t=>AWX hm kw ha (hb t)
   ·rcases AO3.1 (hD q hq.1)with e|e
    ·exact absurd e hq.2
    ·exact e
   ·obtain⟨v,kv⟩:=hk q hq.1
    exact⟨v,by simp only[St.cO];rw[ALT hq.2];exact kv.wd,kv.open_,kv.node,kv.there,kv.free,kv.has⟩
  ·exact nj L (fun q hq=>by
    rcases AO3.1 (hD q hq)with e|e
    ·exact absurd hq (e▸hp)
    ·exact e) hk ha hb
def St.wz(s:St)(m:Md)(n:Int)(D:Int→Prop):St:={ s with md:=some { m with wrote:=fun q k=>m.wrote q k∨(D q∧k=n) } }
theorem nn{n:Int}{T:Prop}:∀(L:AAH) {s:St} {m:Md} {D:Int→Prop},(∀q,D q→q∈L)→s.md=some m→(∀p,D p→m.pl∧s.nodes m.ep n∧ ¬s.lost n∧s.kept n p=some (Uu s.len m p))→GZ H ep Pl s→(T→HV H ep off Pl s fin)→
  GZ H ep Pl (s.wz m n D)∧(T→HV H ep off Pl (s.wz m n D) fin)
 |[],s,m,D,hD,SU,_,ha,hb=>by
  have e:s.wz m n D=s:=by
   have:(fun q k=>m.wrote q k∨(D q∧k=n))=m.wrote:=by
    simp_all
   unfold St.wz;rw[this];cases s;simp_all
  simp_all
 |p::L,s,m,D,hD,SU,hk,ha,hb=>by
  by_cases hp:D p
  ·obtain⟨k1,k2,k3,k4⟩:=hk p hp
   have e:s.wz m n D=(s.wrt m p n).wz { m with wrote:=fun q k=>m.wrote q k∨(q=p∧k=n) } n (fun q=>D q∧q≠p):=by
    grind[St.wz,St.wrt]
   rw[e];refine nn L (fun q hq=> ?_) rfl (fun q hq=> ?_) (AUg SU ha) fun t=>AVG SU k1 k2 k3 k4 (hb t)
   ·grind
   ·exact hk q hq.1
  ·exact nn L (fun q hq=>by
    grind) SU hk ha hb
end
end Go.Sf
namespace Go.M
open Go.M.H (AJ AN Au Ac AA CX AQ A9 AM Ab BG As BO)
open Go.Sf (OD Wd Md St Rd wQ Pf GZ HV WQ)
def w5:AAH:=(List.range 31).flatMap fun e:Nat=>(List.range 61).map fun o:Nat=>D9 (e:Int) (o:Int)
theorem rP{p:Int}(h:Pl p):p∈w5:=by
 obtain⟨h1,h2,h3⟩:=CJ h;unfold w5;rw[List.mem_flatMap];refine⟨(AO p).toNat,List.mem_range.2 (by omega),ASt.2 ⟨(A7 p).toNat,List.mem_range.2 (by omega),?_⟩⟩;grind
theorem Tl{c:CK}{s:AN}{ep n:Int}:∀{l:List A9} {o:Int} {i:Nat},(A_ c s ep n o l)[i]? =(l[i]?).map fun x=>if !x.2.2.1&&JA s (D9 ep (o+i))then EY c n x else x
 |[],o,i=>by rfl
 |x::l,o,0=>by simp[A_]
 |x::l,o,i+1=>by
  simp only[A_,AVD];rw[Tl (l:=l),show o+1+(i:Int)=o+((i+1:Nat):Int)by omega]
theorem fB{m:Au}{s:AN}{n:Int}:∀{l:List AAH} {o:Int} {i:Nat},(D1 m s n o l)[i]? =(l[i]?).map fun x=>if NT m s (o+i)then JO n x else x
 |[],o,i=>by rfl
 |x::l,o,0=>by simp[D1]
 |x::l,o,i+1=>by
  simp only[D1,AVD];rw[fB (l:=l),show o+1+(i:Int)=o+((i+1:Nat):Int)by omega]
def turns(c:CK)(s:AN)(l:List CX)(n:Int)(ws:List AM)(p:Int):Bool:=
 ws.any fun x=>K9 s l n x&&(AO p==x.1&&(QY (A_ c s x.1 n 1 x.2.1) (A7 p)&& !QY x.2.1 (A7 p)))
theorem aD{c:CK}{s:AN}{l:List CX}{n:Int}:∀{ws:List AM} {ss:List Ac},
  (FH false c s l n ws ss).2=ss.map fun t=>(t.1,t.2.1,t.2.2.1||turns c s l n ws t.1,())
 |[],ss=>by
  simp only[FH,turns,List.any_nil,AW7];simp_all
 |x::ws,ss=>by
  simp only[FH];split
  ·rename_i ht
   simp only;rw[aD,ATj];refine ASl fun t _=> ?_
   simp only[Function.comp,Nn,turns,List.any_cons,ht,AMD,ASR,Bool.or_assoc]
  ·rename_i ht
   simp only;rw[aD];refine ASl fun t _=> ?_
   have ht':K9 s l n x=false:=by simp_all
   simp only[turns,List.any_cons,ht',ASk,ASR]
theorem yg{g:Ac→Ac}(hg:∀t,(g t).1=t.1){l:List Ac}{q:Int}:IU (l.map g) q=(IU l q).map g:=by
 unfold IU;rw[List.find?_map];have:((fun s:Ac=>s.1==q)∘g)=fun s=>s.1==q:=by grind
 rw[this]
theorem W8{l:List A9}{o:Int}(h:1≤o):QY l o=true↔ ∃x,l[(o-1).toNat]? =some x∧x.2.2.1=true:=by
 unfold QY;by_cases hl:o≤(l.length:Int)
 ·rw[Ai.2 ⟨h,hl⟩,AMD,List.getD,ALR (by omega)]
  simp
 ·rw[AS1.2 (fun hh:BK o 1 (l.length:Int)=true=>hl (Ai.1 hh).2),ASk,ASu (by omega)]
  simp
theorem jU{c:CK}{n:Int}{x:A9}(h:Aw c (JO n x.2.1)=true):Z_ (EY c n x)=⟨(Z_ x).data,fun k=>(Z_ x).nL k∨k=n,GN c fun k=>(Z_ x).nL k∨k=n⟩:=by
 have e:(fun k=>k∈JO n x.2.1)=fun k=>(Z_ x).nL k∨k=n:=by funext k;exact propext ⟨fun hh=>(Nr.1 hh).symm,fun hh=>Nr.2 hh.symm⟩
 refine Wd.eq rfl e ?_
 rw[←e];exact propext (GN.list h).symm
section
variable{w:AA} (h:Safe w)
include h
theorem ABF{n:Int}(e:(Jn false w n).2=0):Safe (Jn false w n).1∧Grow w (Jn false w n).1:=by
 have Bz:=AAZ h.ok e;unfold Jn at e Bz⊢
 try dsimp only at e Bz⊢
 by_cases hn:Al w n=0
 rotate_left
 ·simp_all
 rw[ALT (by omega)]at e Bz⊢;by_cases hq:(Cf (storeAt w n)).2=true
 rotate_left
 ·simp_all
 simp only[hq,ALu,ALr,AOV]at Bz⊢;obtain⟨s1,s2,s3⟩:=Km (k:=1048575) hq;obtain⟨n1,n2,n3⟩:=EI hn;have gm:=(h.ok.node hn).1;have hs:=S5 hn;have hsy:(Cf (storeAt w n)).1=(D3 (storeAt w n) 1048575).1:=rfl;rw[←hsy]at s2 s3
 generalize (Cf (storeAt w n)).1=S at*
 have hk:Pf ((Bl w).kept n) (kS S.1) ((Bl w).late n):=by
  show Pf (kS (Az w n).1) _ (Su (Az w n).2.1)
  rw[hs,s3];exact AEP s1.gf fun e=>Qb
 have vX:=gS (w:=w) (n:=n) (s:=S) ⟨n1,n2⟩ (by rw[s3]) (by simp_all)
 generalize hw1:w.A8 (w.Aj.set n.toNat S)=w1 at vX
 obtain⟨t1,_⟩:=dr h.ok (all:=false) (s:=S) gm (ws:=w.AH) (ss:=w.Aq);rw[t1,aD]at Bz⊢;have wds:∀x∈w.AH,∀y∈x.2.1,Aw (AS w) (JO n y.2.1)=true∧y.2.2.1=holds (AS w) y.2.1:=fun x hx y hy=>
  ⟨Ig ((h.ok.AH x hx).1.words y hy).2.1 gm,((h.ok.AH x hx).1.words y hy).2.2⟩
 have rV:(Bl w1).kept n=kS S.1:=by rw[vX];show(if n=n then kS S.1 else _)=_;simp_all
 have zb:(Bl w1).sl n=S.2.2.1:=by
  rw[vX]
  show(Az w n).2.2.1=_
  simp_all
 let D:Int→Prop:=fun p=> ∃x y,Pl p∧WJ w.AH (AO p)=some x∧K9 S w.AY n x=true∧x.2.1[(A7 p-1).toNat]? =some y∧y.2.2.1=false∧JA S p=true
 have hDk:∀p,D p→ ∃v,Sf.zT AO (Bl w1) p n v:=fun p ⟨x,y,d1,d2,d3,d4,d5,d6⟩=>by
  unfold K9 at d3;simp only[ALp,AMC]at d3;obtain⟨g1,g2⟩:=Zh d2;refine⟨Z_ y,?_,?_,?_,?_,?_,?_⟩
  ·rw[vX]
   show(FM w.AH p).map Z_=_
   rw[J8 d1 d2,d4];rfl
  ·show¬(y.2.2.1=true)
   simp_all
  ·rw[vX]
   show n∈Ap w.AY (AO p)
   simp_all
  ·rw[vX];exact n3
  ·omega
  ·rw[rV]
   unfold JA at d6;cases hg:EA p S.1 with
   |none=>simp_all
   |some z=>exact⟨_,Z7 hg⟩
 have ea2:Bl ((w1.A6 (w.AH.map fun x=>if K9 S w.AY n x then(x.1,A_ (AS w) S x.1 n 1 x.2.1,())else x)).C2 (w.Aq.map fun t=>(t.1,t.2.1,t.2.2.1||turns (AS w) S w.AY n w.AH t.1,())))=(Bl w1).tell (GN (AS w)) n D:=by
  have e1:∀p,(Bl w1).wd p=(FM w.AH p).map Z_:=fun p=>by rw[vX];rfl
  have e2:∀p,(Bl w1).HQ p=(IU w.Aq p).map z7:=fun p=>by rw[vX];rfl
  refine St.eq rfl rfl rfl rfl rfl rfl rfl rfl rfl rfl ?_ ?_ rfl ?_
  ·rw[show((Bl w1).tell (GN (AS w)) n D).uj=(Bl w1).uj from rfl,vX]
   funext q
   show(∃y∈w.AH.map fun x=>if K9 S w.AY n x then(x.1,A_ (AS w) S x.1 n 1 x.2.1,())else x,y.1=q)=(∃y∈w.AH,y.1=q)
   refine propext ⟨fun⟨y,hy,hx⟩=> ?_,fun⟨y,hy,hx⟩=>⟨_,ASt.2 ⟨y,hy,rfl⟩,?_⟩⟩
   all_goals grind
  ·funext p
   show(FM (w.AH.map fun x=>if K9 S w.AY n x then(x.1,A_ (AS w) S x.1 n 1 x.2.1,())else x) p).map Z_=((Bl w1).wd p).map _
   rw[e1];by_cases hp:Pl p
   rotate_left
   ·grind[jR]
   have zg:WJ (w.AH.map fun x=>if K9 S w.AY n x then(x.1,A_ (AS w) S x.1 n 1 x.2.1,())else x) (AO p)=(WJ w.AH (AO p)).map fun x=>if K9 S w.AY n x then(x.1,A_ (AS w) S x.1 n 1 x.2.1,())else x:=by
    unfold WJ;rw[List.find?_map];congr 2;grind
   cases hx:WJ w.AH (AO p)with
   |none=>
    grind[r7]
   |some x=>
    rw[hx]at zg;rw[J8 hp hx,J8 hp zg];obtain⟨g1,g2⟩:=Zh hx;have o1:=qE hp;dsimp only;by_cases ht:K9 S w.AY n x=true
    ·rw[ALI ht]
     show((A_ (AS w) S x.1 n 1 x.2.1)[(A7 p-1).toNat]?).map Z_=_
     rw[Tl];have j5:D9 x.1 (1+(((A7 p-1).toNat:Nat):Int))=p:=by
      rw[AUY (by omega),g2,show 1+(A7 p-1)=A7 p by omega];exact(CJ hp).2.2
     rw[j5];cases hy:x.2.1[(A7 p-1).toNat]? with
     |none=>rfl
     |some y=>
      simp only[AUI];refine congrArg some ?_
      by_cases hd:(!y.2.2.1&&JA S p)=true
      ·rw[ALI hd]
       simp only[ALp,ASY]at hd;rw[ALI (show D p from⟨x,y,hp,hx,ht,hy,hd.1,hd.2⟩)];exact jU (wds x g1 y (ANO hy)).1
      ·rw[ALT hd,ALT]
       grind
    ·rw[ALT ht]
     cases hy:x.2.1[(A7 p-1).toNat]? with
     |none=>rfl
     |some y=>
      simp only[AUI];rw[ALT];grind
  ·funext p
   show(IU (w.Aq.map fun t=>(t.1,t.2.1,t.2.2.1||turns (AS w) S w.AY n w.AH t.1,())) p).map z7=((Bl w1).HQ p).map _
   rw[e2,yg (g:=fun t:Ac=>(t.1,t.2.1,t.2.2.1||turns (AS w) S w.AY n w.AH t.1,())) (fun _=>rfl)];cases cz:IU w.Aq p with
   |none=>rfl
   |some t=>
    obtain⟨g1,g2⟩:=YS cz;have hp:Pl p:=by rw[←g2];exact(h.ok.Aq t g1).1
    have o1:=qE hp;simp only[AUI];refine congrArg some ?_
    show(t.2.1,(t.2.2.1||turns (AS w) S w.AY n w.AH t.1)=true)=(t.2.1,t.2.2.1=true∨(D p∧ ∃v,(Bl w1).wd p=some v∧GN (AS w) fun k=>v.nL k∨k=n))
    refine congrArg (Prod.mk t.2.1) ?_
    rw[AR9,g2];refine propext (or_congr Iff.rfl ⟨fun ht=> ?_,fun⟨⟨x,y,d1,d2,d3,d4,d5,d6⟩,v,v1,v2⟩=> ?_⟩)
    ·unfold turns at ht
     rw[List.any_eq_true]at ht;obtain⟨x,hx,hh⟩:=ht;simp only[ALp,ASy,ASY]at hh;obtain⟨k1,k2,k3,k4⟩:=hh;rw[W8 o1]at k3;obtain⟨z,z1,z2⟩:=k3;rw[Tl]at z1;rw[ALe]at z1;obtain⟨y,y1,y2⟩:=z1;have j5:D9 x.1 (1+(((A7 p-1).toNat:Nat):Int))=p:=by
      rw[AUY (by omega),←k2,show 1+(A7 p-1)=A7 p by omega];exact(CJ hp).2.2
     rw[j5]at y2;have hy0:y.2.2.1=false:=by
      cases hy0:y.2.2.1 with
      |false=>rfl
      |true=>
       have:QY x.2.1 (A7 p)=true:=(W8 o1).2 ⟨y,y1,hy0⟩;simp_all
     have hwx:WJ w.AH (AO p)=some x:=by rw[k2];exact XS h.ok.Xb hx
     by_cases hnw:JA S p=true
     ·rw[hy0,hnw]at y2
      simp only[ARU,AMD,ASe]at y2;refine⟨⟨x,y,hp,hwx,k1,y1,hy0,hnw⟩,Z_ y,?_,?_⟩
      ·rw[e1,J8 hp hwx,y1];rfl
      ·have hS:=jU (c:=AS w) (n:=n) (x:=y) (wds x hx y (ANO y1)).1
       have hd:(Z_ (EY (AS w) n y)).done:=by rw[y2];exact z2
       simp_all
     simp_all
    ·obtain⟨g3,g4⟩:=Zh d2
     have j5:D9 x.1 (1+(((A7 p-1).toNat:Nat):Int))=p:=by
      rw[AUY (by omega),g4,show 1+(A7 p-1)=A7 p by omega];exact(CJ hp).2.2
     rw[e1,J8 d1 d2,d4]at v1;cases v1;have hS:=jU (c:=AS w) (n:=n) (x:=y) (wds x g3 y (ANO d4)).1;unfold turns;rw[List.any_eq_true];refine⟨x,g3,?_⟩;rw[d3,g4];simp only[AMD,AW5,ALp,ASY];refine⟨(W8 o1).2 ⟨EY (AS w) n y,?_,?_⟩,?_⟩
     ·rw[Tl,d4,←g4,j5,AUI,d5,d6]
      rfl
     ·show(Z_ (EY (AS w) n y)).done
      simp_all
     ·rw[AS1]
      intro hd;obtain⟨y',y1,y2⟩:=(W8 o1).1 hd;simp_all
 have hDl:∀q,D q→q∈w5:=fun q ⟨_,_,d1,_⟩=>rP d1
 generalize hw2:(w1.A6 (w.AH.map fun x=>if K9 S w.AY n x then(x.1,A_ (AS w) S x.1 n 1 x.2.1,())else x)).C2 (w.Aq.map fun t=>(t.1,t.2.1,t.2.2.1||turns (AS w) S w.AY n w.AH t.1,()))=w2 at ea2
 have i2:∀(T:Prop) (fin:Int→OD),(T→HV (GN (AS w)) AO A7 Pl (Bl w) fin)→GZ (GN (AS w)) AO Pl (Bl w2)∧(T→HV (GN (AS w)) AO A7 Pl (Bl w2) fin):=fun T fin hb=>by
  rw[ea2];refine Sf.nj GN.mono w5 hDl hDk ?_ fun t=> ?_
  ·rw[vX];exact Sf.om hk h.a
  ·rw[vX];exact Sf.oJ GN.mono hk h.a (hb t)
 have em:w2.BW=w.BW:=by grind
 have hf:(Bl w2).len=(w.AY.length:Int)∧(Bl w2).nodes=(Bl w).nodes∧(Bl w2).lost=(Bl w).lost∧(Bl w2).kept n=kS S.1:=by
  refine⟨by rw[←hw2,←hw1];rfl,by rw[←hw2,←hw1];rfl,by rw[←hw2,←hw1];rfl,?_⟩;rw[ea2];exact rV
 have i3:∀(T:Prop) (fin:Int→OD),(T→HV (GN (AS w)) AO A7 Pl (Bl w) fin)→GZ (GN (AS w)) AO Pl (Bl (w2.Bi (w.BW.map (G8 S w.AY n))))∧(T→HV (GN (AS w)) AO A7 Pl (Bl (w2.Bi (w.BW.map (G8 S w.AY n)))) fin):=fun T fin hb=>by
  obtain⟨ia,ib⟩:=i2 T fin hb;cases hms:w.BW with
  |nil=>
   grind
  |cons m ms=>
   have SU:(Bl w2).md=some (eD m):=cE (ms:=ms) (by simp_all);have hm0:=h.ok.BW m (by simp_all);by_cases hc:(Ap w.AY m.2.1).contains n=true
   rotate_left
   ·have e3:Bl (w2.Bi ((m::ms).map (G8 S w.AY n)))=Bl w2:=by
     refine St.eq rfl rfl rfl rfl rfl rfl rfl rfl rfl rfl rfl rfl ?_ rfl
     rw[SU]
     show some (eD (G8 S w.AY n m))=some (eD m)
     unfold G8;simp_all
    simp_all
   let E:Int→Prop:=fun p=>Pl p∧AO p=m.2.1∧(A7 p-1).toNat<m.2.2.2.2.2.1.length∧NT m S (A7 p)=true
   have e3:Bl (w2.Bi ((m::ms).map (G8 S w.AY n)))=(Bl w2).wz (eD m) n E:=by
    refine St.eq rfl rfl rfl rfl rfl rfl rfl rfl rfl rfl rfl rfl ?_ rfl
    show some (eD (G8 S w.AY n m))=some _
    unfold G8;rw[ALI hc];have hl:=(aE (c:=AS w) (m:=m) (s:=S) gm (l:=m.2.2.2.2.2.1) (o:=1) hm0.1.wrote).2;refine congrArg some (Md.eq rfl rfl rfl rfl (by grind[eD]) ?_);funext p k
    show(Pl p∧AO p=m.2.1∧ ∃l,(D1 m S n 1 m.2.2.2.2.2.1)[(A7 p-1).toNat]? =some l∧k∈l)=((Pl p∧AO p=m.2.1∧ ∃l,m.2.2.2.2.2.1[(A7 p-1).toNat]? =some l∧k∈l)∨(E p∧k=n))
    rw[fB];refine propext ⟨fun⟨a1,a2,l,hl,hk⟩=> ?_,fun hh=> ?_⟩
    ·have o1:=qE a1
     rw[ALe]at hl;obtain⟨l',gl,e'⟩:=hl;rw[AUY (by omega),show 1+(A7 p-1)=A7 p by omega]at e';by_cases px:NT m S (A7 p)=true
     ·rw[ALI px]at e'
      subst e';rcases Nr.1 hk with rfl|hk
      ·grind
      simp_all
     simp_all
    ·rcases hh with⟨a1,a2,l,hl,hk⟩|⟨⟨a1,a2,a3,a4⟩,rfl⟩
     ·refine⟨a1,a2,_,by rw[hl];rfl,?_⟩
      split
      ·exact Nr.2 (.inr hk)
      omega
     ·have o1:=qE a1
      refine⟨a1,a2,_,by rw[ALR a3];rfl,?_⟩;rw[AUY (by omega),show 1+(A7 p-1)=A7 p by omega];dsimp only;rw[ALI a4];exact Nr.2 (.inl rfl)
   rw[e3];refine Sf.nn w5 (fun q hq=>rP hq.1) SU (fun p ⟨a1,a2,a3,a4⟩=> ?_) ia ib;unfold NT at a4;cases o7:Dc m (A7 p)with
   |none=>simp_all
   |some en=>
    rw[o7]at a4;simp only[ASy]at a4;obtain⟨⟨c1,_⟩,c2,c3⟩:=lT hm0.2.1 o7;have j5:D9 m.2.1 (A7 p)=p:=by rw[←a2];exact(CJ a1).2.2
    rw[j5]at c2 c3;rw[hf.1,hf.2.1,hf.2.2.1,hf.2.2.2];refine⟨c1,by show n∈Ap w.AY m.2.1;simp_all,n3,?_⟩;grind[Z7]
 have ev:((w1.A6 (w.AH.map fun x=>if K9 S w.AY n x then(x.1,A_ (AS w) S x.1 n 1 x.2.1,())else x)).C2 (w.Aq.map fun t=>(t.1,t.2.1,t.2.2.1||turns (AS w) S w.AY n w.AH t.1,()))).Bi (w.BW.map (G8 S w.AY n))=w2.Bi (w.BW.map (G8 S w.AY n)):=by rw[hw2]
 rw[hw1,ev]at Bz;refine h.step Bz (by rw[←hw2,←hw1];rfl) (by grind) (fun t=>by grind) (i3 False (fun _=>⟨0,0,true,[]⟩) fun f=>f.elim).1 (fun _ _ fin hb=>(i3 True fin fun _=>hb).2 trivial) (by rw[←hw2,←hw1];rfl) (by rw[←hw2,←hw1];rfl) (by rw[←hw2,←hw1];exact ASj _) ?_
 intro p d q a1;have:(Bl (w2.Bi (w.BW.map (G8 S w.AY n)))).HQ p=(Bl w2).HQ p:=rfl;rw[this,ea2]
 show∃q',((Bl w1).HQ p).map _=some (d,q')∧(q→q')
 rw[vX]
 show∃q',((Bl w).HQ p).map _=some (d,q')∧(q→q')
 grind
end
end Go.M
end
section
namespace Go.M
open Go.M.H (AJ AN Au Ac AA CX AQ A9 AM Ab BG As BO)
open Go.Sf (OD Wd Md St Rd wQ Pf GZ HV WQ)
theorem ALP{p:Int}{l:List AJ}{e:AJ}(h:EA p l=some e):e.1=p:=(Gr h).2
theorem AAw{w:AA}{p n:Int}{e:AJ}(h:EA p (storeAt w n).1=some e):answer w p n=(n,true,e.1,e.2.1,e.2.2.1,e.2.2.2.1,()):=by
 unfold answer;rw[h]
theorem AB2{w:AA}{p n:Int}(h:EA p (storeAt w n).1=none):answer w p n=(n,false,0,0,false,[],()):=by
 unfold answer;rw[h]
theorem YL{w:AA}{s:AAH}{p:Int}(hp:∀n e,EA p (storeAt w n).1=some e→EU e=true):∀(ns:AAH) (b:Option AJ),
  (∀x,FW s p b (ns.map (answer w p))=some x→(b=some x∨ ∃n∈ns,n∈s∧EA p (storeAt w n).1=some x))∧
  (∀x,b=some x→ ∃y,FW s p b (ns.map (answer w p))=some y∧x.2.1≤y.2.1)∧
  ∀n x,n∈ns→n∈s→EA p (storeAt w n).1=some x→ ∃y,FW s p b (ns.map (answer w p))=some y∧x.2.1≤y.2.1
 |[],b=>⟨fun x h=> .inl h,fun x h=>⟨x,h,ASj _⟩,fun n x h=>by simp at h⟩
 |n::ns,b=>by
  simp only[ATb,FW];cases hg:EA p (storeAt w n).1 with
  |none=>
   rw[AB2 hg];simp only[ASk,ALr,AOV];obtain⟨h1,h2,h3⟩:=YL (s:=s) hp ns b;grind
  |some e=>
   have he:Ur (n,true,e.1,e.2.1,e.2.2.1,e.2.2.2.1,())=e:=rfl;rw[AAw hg,he];have OV:=ALP hg;by_cases hs:n∈s
   ·rw[show(true&&(s.contains n&&(EU e&&e.1==p)))=true by grind,ALI rfl]
    obtain⟨h1,h2,h3⟩:=YL (s:=s) hp ns (some (match b with|some x=>better x e|none=>e));refine⟨fun x hx=> ?_,fun x hx=> ?_,fun m x hm hsm hx=> ?_⟩
    ·grind[Option.some.injEq,better]
    ·subst hx
     obtain⟨y,y1,y2⟩:=h2 _ rfl;grind[better]
    ·rcases AO3.1 hm with rfl|hm
     ·rw[hg]at hx;cases hx
      obtain⟨y,y1,y2⟩:=h2 _ rfl;grind[better]
     grind
   ·rw[show(true&&(s.contains n&&(EU e&&e.1==p)))=false by simp[hs],ALT (by simp)]
    obtain⟨h1,h2,h3⟩:=YL (s:=s) hp ns b;grind
def oK(e:BG):Bool:=BK e.1 1 3
structure jI (ss:List Ac) (r:Ab):Prop where
 gf:(r.2.2.1.filter oK).Pairwise fun a b=>a.2.1<b.2.1
 below:∀e∈r.2.2.1,oK e=true→Pl e.2.1∧e.2.1<D9 r.1 r.2.1
 HQ:∀e∈r.2.2.1,e.1=1→ ∃s∈ss,s.1=e.2.1∧s.2.1=e.2.2.1
def AAa(r:Ab):Prop:= ∀e∈r.2.2.1,e.1≠3
theorem uN{l:List BG}{ev:BG}{p:Int}(h:tlS l p=none∨ev.2.1≠p∨ev.1≠1):tlS (l++[ev]) p=if ev.1=1∧ev.2.1=p then some ev.2.2.1 else tlS l p:=by
 unfold tlS at*;grind
theorem ANl{p:Int}{e o:Int}(hp:Pl p)(ho:1≤o∧o≤100):p<D9 e o↔AO p<e∨(AO p=e∧A7 p<o):=by
 obtain⟨h1,h2,h3⟩:=CJ hp;grind[D9]
theorem ja{c:CK}{g:AQ}{sure:Int}{r:Ab}{l:List As}(h:(B4 c g sure r l).2=0):
  zS c g∧AC8 r∧Aw c (l.map fun a=>a.1)=true∧r.1≤g.1.length∧
  (
   (g.2.1≥D9 r.1 r.2.1∧(B4 c g sure r l).1=(AO g.2.1,A7 g.2.1+1,r.2.2.1++[(5,g.2.1,[],())],()))∨
   (g.2.1<D9 r.1 r.2.1∧(Gd g.1 r.1).2.1=true∧r.2.1>(Gd g.1 r.1).2.2.1∧(B4 c g sure r l).1=(r.1+1,1,r.2.2.1++[(4,r.1+1,[],())],()))∨
   (g.2.1<D9 r.1 r.2.1∧((Gd g.1 r.1).2.1=true→r.2.1≤(Gd g.1 r.1).2.2.1)∧((Gd g.1 r.1).2.1=false→r.2.1≤sure)∧r.2.1≤60∧JJ c (Gd g.1 r.1).1 ((l.map fun a=>a.1).filter (Gd g.1 r.1).1.contains)=true∧
    (B4 c g sure r l).1=(r.1,r.2.1+1,r.2.2.1++[HK (D9 r.1 r.2.1) (FW (Gd g.1 r.1).1 (D9 r.1 r.2.1) none l)],()))):=by
 unfold B4 at h⊢;by_cases c1:(!(Mk c g&&(Wp r&&Aw c (l.map fun a=>a.1))))=true
 ·simp_all
 rw[ALT c1]at h⊢;have c1':Mk c g=true∧Wp r=true∧Aw c (l.map fun a=>a.1)=true:=by
  simp_all
 by_cases c2:(decide (r.1>g.1.length)||decide (r.2.2.1.length=120))=true
 ·simp_all
 rw[ALT c2]at h⊢;have hle:r.1≤g.1.length:=by
  simp_all
 refine⟨I1.1 c1'.1,Qg.1 c1'.2.1,c1'.2.2,hle,?_⟩;dsimp only at h⊢;by_cases c3:g.2.1≥D9 r.1 r.2.1
 ·simp_all
 rw[ALT c3]at h⊢
 right
 have c3':g.2.1<D9 r.1 r.2.1:=by omega
 rw[show g.1.getD (r.1-1).toNat GL=Gd g.1 r.1 from rfl]at h⊢;grind
theorem pJ:∀(l:List A9) (i:Nat),i<U5 l→ ∃x,l[i]? =some x∧x.2.2.1=true
 |[],i,h=>by simp[U5]at h
 |x::l,i,h=>by
  unfold U5 at h;split at h
  ·rename_i hx
   cases i with
   |zero=>simp_all
   |succ i=>exact pJ l i (by omega)
  omega
structure Reached (w:AA):Prop where
 safe:Safe w
 out:∀r∈w.Aa,jI w.Aq r
 whole:w.EC=false→ ∀r∈w.Aa,AAa r
theorem bB{s:Ac}:∀{l:List Ac},S8 (fun s:Ac=>s.1) l→s∈l→IU l s.1=some s
 |[],_,h=>by simp at h
 |y::l,ha,h=>by
  simp only[S8,AQc]at ha;unfold IU;rw[AUO];rcases AO3.1 h with rfl|h
  ·rw[AW5]
  ·rw[APa.2 (fun e=>by grind)]
   exact bB ha.2 h
theorem Grow.mem{w v:AA}(h:Grow w v)(hw:Ml w){s:Ac}(hs:s∈w.Aq):∃t∈v.Aq,t.1=s.1∧t.2.1=s.2.1∧(s.2.2.1=true→t.2.2.1=true):=by
 obtain⟨q',e,h2⟩:=h s.1 s.2.1 (s.2.2.1=true) (by
  show(IU w.Aq s.1).map z7=_
  rw[bB hw.XZ hs];rfl)
 replace e:(IU v.Aq s.1).map z7=some (s.2.1,q'):=e
 rw[ALe]at e;obtain⟨t,e1,e2⟩:=e;grind[YS,z7,Prod.mk.injEq]
theorem jI.grow{w v:AA}(h:Grow w v)(hw:Ml w){r:Ab}(k:jI w.Aq r):jI v.Aq r:=
 ⟨k.gf,k.below,fun e he h1=>by
  obtain⟨s,s1,s2,s3⟩:=k.HQ e he h1;obtain⟨t,t1,t2,t3,_⟩:=h.mem hw s1;grind⟩
theorem Reached.of{w v:AA}(h:Reached w)(k:Safe v∧Grow w v)(hr:v.Aa=w.Aa)(ht:v.EC=false→w.EC=false):Reached v:=
 ⟨k.1,fun r hm=>(h.out r (by simp_all)).grow k.2 h.safe.ok,fun hv r hm=>h.whole (ht hv) r (by simp_all)⟩
theorem uw{ss:List Ac}{r:Ab}(k:jI ss r){p:Int}(hp:D9 r.1 r.2.1≤p):tlS r.2.2.1 p=none:=by
 unfold tlS;rw[AWy,List.find?_eq_none];intro e he hh;simp only[ALp,ASy]at hh;have:=(k.below e he (by unfold oK;rw[hh.1];rfl)).2;omega
theorem jI.app{ss:List Ac}{r:Ab}(k:jI ss r){e o:Int}{ev:BG}(h1:D9 r.1 r.2.1≤D9 e o)(h2:oK ev=true→D9 r.1 r.2.1≤ev.2.1∧Pl ev.2.1∧ev.2.1<D9 e o)(h3:ev.1=1→ ∃s∈ss,s.1=ev.2.1∧s.2.1=ev.2.2.1):
  jI ss (e,o,r.2.2.1++[ev],()):=by
 refine⟨?_,fun x hx hp=> ?_,fun x hx h1=> ?_⟩
 ·show((r.2.2.1++[ev]).filter oK).Pairwise _
  rw[List.filter_append,List.pairwise_append];refine⟨k.gf,?_,fun a ha b hb=> ?_⟩
  ·grind
  ·obtain⟨b1,b2⟩:=ASp.1 hb
   rw[AS2.1 b1]at b2⊢;obtain⟨a1,a2⟩:=ASp.1 ha;have:=(k.below a a1 a2).2;grind
 ·show Pl x.2.1∧x.2.1<D9 e o
  rcases AOs.1 hx with hx|hx
  ·have:=k.below x hx hp
   grind
  simp_all
 ·rcases AOs.1 hx with hx|hx
  ·exact k.HQ x hx h1
  simp_all
theorem lN{l:List CX}{e:Int}(h:1≤e∧e≤(l.length:Int)):Ap l e=(Gd l e).1:=by
 unfold Ap;rw[Ai.2 h,ALI rfl];rfl
def Sm(w v:AA):Prop:=v.Aa=w.Aa∧(v.EC=false→w.EC=false)
theorem AQE{w:AA}(a:Int):Sm w (MK w a).1:=by
 unfold MK
 try dsimp only
 repeat' split
 all_goals exact⟨rfl,id⟩
theorem AV5{w:AA}(a:Int)(d:ABs):Sm w (doAdd w a d).1:=by
 unfold doAdd
 try dsimp only
 repeat' split
 all_goals exact⟨rfl,id⟩
theorem AGA{w:AA}(a b n:Int):Sm w (IW w a b n).1:=by
 unfold IW;unfold putAt
 try dsimp only
 repeat' split
 all_goals exact⟨rfl,id⟩
theorem AJU{w:AA}(n k:Int):Sm w (Ib w n k).1:=by
 unfold Ib;unfold putAt
 try dsimp only
 repeat' split
 all_goals exact⟨rfl,id⟩
theorem AQ1{w:AA}(n:Int):Sm w (ME w n).1:=by
 unfold ME
 try dsimp only
 repeat' split
 all_goals exact⟨rfl,id⟩
theorem ANN{w:AA}:Sm w (L5 w ).1:=by
 unfold L5
 try dsimp only
 repeat' split
 all_goals exact⟨rfl,id⟩
theorem APP{w:AA}(n:Int):Sm w (MH w n).1:=by
 unfold MH
 try dsimp only
 repeat' split
 all_goals exact⟨rfl,id⟩
theorem ANY{w:AA}:Sm w (MJ w ).1:=by
 unfold MJ
 try dsimp only
 repeat' split
 all_goals exact⟨rfl,id⟩
theorem ATo{w:AA}(b n:Int):Sm w (Rf w b n).1:=by
 unfold Rf;unfold putAt
 try dsimp only
 repeat' split
 all_goals exact⟨rfl,id⟩
theorem AGm{w:AA}:Sm w (Ie w ).1:=by
 unfold Ie
 try dsimp only
 repeat' split
 all_goals exact⟨rfl,id⟩
theorem AR0{w:AA}(a:Int):Sm w (Nw w a).1:=by
 unfold Nw
 try dsimp only
 repeat' split
 all_goals exact⟨rfl,id⟩
theorem AQ5{w:AA}(a:Int):Sm w (NF w a).1:=by
 unfold NF
 try dsimp only
 repeat' split
 all_goals exact⟨rfl,id⟩
theorem AGo{w:AA}(n:Int):Sm w (Ii w n).1:=by
 unfold Ii;unfold putAt
 try dsimp only
 repeat' split
 all_goals exact⟨rfl,id⟩
theorem AOB{w:AA}(n:Int):Sm w (Jn false w n).1:=by
 unfold Jn;dsimp only
 repeat' split
 all_goals exact⟨rfl,id⟩
theorem AOj{w:AA}(n:Int):Sm w (MC w n).1:=by
 unfold MC;dsimp only;split
 ·exact⟨rfl,id⟩
 ·refine⟨rfl,fun h=> ?_⟩
  grind
theorem Rd.eq{a b:Rd}(h1:a.e=b.e)(h2:a.o=b.o)(h3:a.told=b.told):a=b:=by
 cases a;simp_all
section
variable{w:AA} (h:Reached w)
include h
theorem yQ{a k:Int}(e:(IY w a k).2=0):Reached (IY w a k).1∧Grow w (IY w a k).1:=by
 have Bz:=so h.safe.ok e;unfold IY at e Bz⊢
 try dsimp only at e Bz⊢
 by_cases h1:BK a 0 1=true
 rotate_left
 ·simp_all
 rw[h1]at e Bz⊢;simp only[ALu,ALr,AOV]at e Bz⊢;rw[Ai]at h1;have hnr:=h.safe.ok.p_;have hrm:=BV (d:=Dj) (l:=w.Aa) (i:=a.toNat) (by omega)
 generalize w.Aa.getD a.toNat Dj=r at*
 by_cases h2:(B4 (AS w) (B7 w) (Uy w r.1) r (answers w (D9 r.1 r.2.1) (Ao k))).2=0
 rotate_left
 ·simp_all
 rw[ALT (by omega)]at Bz⊢;obtain⟨rg,ro,rn,rl,cases_⟩:=ja h2;have rl':r.1≤(w.AY.length:Int):=rl;have rgn:w.AY.length≤30:=rg.n;have re:=ro.ep;have rof:=ro.off;have ADN:=h.out r hrm
 generalize hq:(B4 (AS w) (B7 w) (Uy w r.1) r (answers w (D9 r.1 r.2.1) (Ao k))).1=q at Bz cases_⊢
 have cu:(Bl w).cl r.1↔(Gd w.AY r.1).2.1=true:=⟨fun hh=>hh.2,fun hh=>⟨⟨re.1,rl'⟩,hh⟩⟩;have hla:(Bl w).last r.1=(Gd w.AY r.1).2.2.1:=ALI re.1;have ea:Bl (w.Cy (w.Aa.set a.toNat q))=Bl w:=rfl
 suffices hs:jI w.Aq q∧(w.EC=false→AAa q∧ ∀fin,HV (GN (AS w)) AO A7 Pl (Bl w) fin→WQ AO A7 Pl (Bl w) fin (xg r)→WQ AO A7 Pl (Bl w) fin (xg q))by
  refine⟨⟨⟨Bz,by rw[ea];exact h.safe.a,fun hv=> ?_⟩,fun x hx=> ?_,fun hv x hx=> ?_⟩,fun p d q a=>⟨q,a,id⟩⟩
  ·obtain⟨fin,b1,b2⟩:=h.safe.b hv
   refine⟨fin,b1,fun x hx=> ?_⟩;grind
  ·rcases ASw hx with hx|rfl
   ·exact h.out x hx
   simp_all
  ·rcases ASw hx with hx|rfl
   ·exact h.whole hv x hx
   grind
 have AUL:∀(kd:Int) (x:Int),kd≠1→ ∀p,tlS (r.2.2.1++[(kd,x,[],())]) p=tlS r.2.2.1 p:=fun kd x hk p=>by
  rw[uN (.inr (.inr hk)),ALT (fun hh=>hk hh.1)]
 have ALq:∀(kd:Int) (x:Int),kd≠3→w.EC=false→ ∀e∈r.2.2.1++[(kd,x,[],())],e.1≠3:=fun kd x hk ht e he=>by
  rcases AOs.1 he with he|he
  ·exact h.whole ht r hrm e he
  simp_all
 rcases cases_ with⟨c1,rfl⟩|⟨c1,c2,c3,rfl⟩|⟨c1,c2,c3,c4,c5,rfl⟩
 ·
  have c1':w.trim≥D9 r.1 r.2.1:=c1;have ht:Pl w.trim:=by
   rcases rg.trim with h0|h0
   ·grind[D9]
   ·exact h0.1
  have htr:=(CJ ht).2.2;have hof:=(CJ ht).2.1;refine⟨ADN.app (by show D9 r.1 r.2.1≤D9 (AO w.trim) (A7 w.trim+1);grind[D9]) (fun hp=>by cases hp) (fun hh=>by omega),fun hv=>⟨ALq 5 _ (by decide) hv,fun fin hB hR=> ?_⟩⟩;have hn: ¬Sf.XK AO A7 (xg r) (Bl w).trim:=fun hh=>by
   have:=(ANl (e:=r.1) (o:=r.2.1) ht (by omega)).2 hh;omega
  have:=Sf.AOz (s:=Bl w) ht hn (fun p hp=>ep1 hp) (fun p q hp hq hh=>(rH hp hq).2 hh) hR;have er:xg (AO (B7 w).2.1,A7 (B7 w).2.1+1,r.2.2.1++[(5,(B7 w).2.1,[],())],())={ xg r with e:=AO (Bl w).trim,o:=A7 (Bl w).trim+1 }:=by
   exact Rd.eq rfl rfl (funext (AUL 5 _ (by decide)))
  simp_all
 ·refine⟨ADN.app (by unfold D9;omega) (fun hp=>by cases hp) (fun hh=>by omega),fun hv=>⟨ALq 4 _ (by decide) hv,fun fin hB hR=> ?_⟩⟩
  have:=Sf.AUP (s:=Bl w) (r:=xg r) (cu.2 c2) (by rw[show(xg r).e=r.1 from rfl,hla];exact c3) (fun p hp=>qE hp) hR;have er:xg (r.1+1,1,r.2.2.1++[(4,r.1+1,[],())],())={ xg r with e:=(xg r).e+1,o:=1 }:=by
   exact Rd.eq rfl rfl (funext (AUL 4 _ (by decide)))
  simp_all
 ·
  obtain⟨p1,p2,p3⟩:=I4 (e:=r.1) (o:=r.2.1) ⟨re.1,by omega⟩ ⟨rof.1,c4⟩;have Jq:D9 r.1 r.2.1<D9 r.1 (r.2.1+1):=by unfold D9;omega
  generalize hp:D9 r.1 r.2.1=p at*
  have AYE:∀n e,EA p (storeAt w n).1=some e→EU e=true:=fun n e he=>by
   obtain⟨e1,_⟩:=Gr he;unfold storeAt at e1;by_cases hn:n.toNat<w.Aj.length
   ·exact(h.safe.ok.Aj _ hn).1.kept e e1
   simp_all
  have AWG:answers w p (Ao k)=((Ao k).filter fun n=>Al w n==0).map (answer w p):=rfl;have AX4:(answers w p (Ao k)).map (fun a=>a.1)=(Ao k).filter fun n=>Al w n==0:=by
   rw[AWG,ATj];have:((fun a:As=>a.1)∘answer w p)=id:=by
    funext n
    simp only[Function.comp,answer];grind
   simp_all
  have hwe:(B7 w).1=w.AY:=rfl;rw[hwe]at c2 c3 c5⊢;rw[AX4]at c5;rw[AWG]
  generalize za:(Ao k).filter (fun n=>Al w n==0)=ns at*
  have hn0:∀n∈ns,Al w n=0:=fun n hn=>by
   grind
  obtain⟨b1,b2,b3⟩:=YL (w:=w) (s:=(Gd w.AY r.1).1) AYE ns none
  generalize Ac2:FW (Gd w.AY r.1).1 p none (ns.map (answer w p))=aM at*
  have O9:∀x,aM=some x→ ∃n∈ns,n∈(Gd w.AY r.1).1∧EA p (storeAt w n).1=some x:=fun x hx=>(b1 x hx).resolve_left (by simp)
  have rV:∀n∈ns,(Bl w).kept n p=kS (storeAt w n).1 p:=fun n hn=>by
   show kS (Az w n).1 p=_
   rw[S5 (hn0 n hn)]
  have hfe:(HK p aM).2.1=p:=by
   unfold HK;cases aM with
   |none=>rfl
   |some x=>grind
  have AD1:(HK p aM).1=1→ ∃s∈w.Aq,s.1=(HK p aM).2.1∧s.2.1=(HK p aM).2.2.1:=fun hk1=>by
   cases hb:aM with
   |none=>rw[hb]at hk1;cases hk1
   |some x=>
    rw[hb]at hk1;obtain⟨n,n1,n2,n3⟩:=O9 x hb;cases hx:x.2.2.1 with
    |true=>grind[HK]
    |false=>
     have hi:Sf.EH (Bl w) (Uv x):= .inl ⟨n,by
      show(Bl w).kept n x.1=_
      rw[(Gr n3).2,rV n n1];exact Z7 n3⟩
     obtain⟨z,hz⟩:=h.safe.a.gD _ hi hx
     replace hz:(IU w.Aq x.1).map z7=some (x.2.2.2.1,z):=hz
     rw[ALe]at hz;obtain⟨t,t1,t2⟩:=hz;obtain⟨t3,t4⟩:=YS t1;unfold z7 at t2;simp only[APo]at t2;refine⟨t,t3,?_,?_⟩
     ·rw[t4,(Gr n3).2];simp_all
     grind[HK]
  refine⟨ADN.app (by omega) (fun _=>by rw[hfe,hp];exact⟨ASj _,p1,Jq⟩) AD1,fun hv=> ?_⟩;have kk:∀fin,HV (GN (AS w)) AO A7 Pl (Bl w) fin→Sf.yR (GN (AS w)) AO A7 Pl (Bl w) p (fun n=>n∈ns∧n∈(Gd w.AY r.1).1) (aM.map Uv):=fun fin hB=>by
   refine⟨p1,c1,fun hc=> ?_,fun hc=> ?_,fun n hn=>⟨?_,?_⟩,fun hH=> ?_,fun hb n hn=> ?_,fun x hb=> ?_⟩
   ·rw[p2,cu]at hc
    have AEM:=c3 (by simp_all);unfold Uy at AEM;cases hf:w.AH.find? (fun x=>x.1==r.1)with
    |none=>grind
    |some x=>
     rw[hf]at AEM;simp only at AEM;obtain⟨y,y1,y2⟩:=pJ x.2.1 (r.2.1-1).toNat (by omega);have hwd:(Bl w).wd p=some (Z_ y):=by
      show(FM w.AH p).map Z_=_
      rw[J8 p1 (y:=x) (by rw[p2];exact hf),p3,y1];rfl
     obtain⟨z,z1,z2⟩:=(h.safe.a.wM p _ hwd).2.2.1;exact⟨_,z,z1,z2 y2⟩
   ·simp_all
   ·exact(EI (hn0 n hn.1)).2.2
   ·show n∈Ap w.AY (AO p)
    grind[lN]
   ·unfold JJ at c5
    simp only[ALp,ASY]at c5;obtain⟨g1,g2,g3,g4⟩:=c5;have qO:Aw (AS w) (less (Gd w.AY r.1).1 (ns.filter (Gd w.AY r.1).1.contains))=true:=LZ _ (Ny g1);have:GN (AS w) (fun n=>n∈less (Gd w.AY r.1).1 (ns.filter (Gd w.AY r.1).1.contains)):=by
     refine GN.mono _ _ (fun n hn=> ?_) hH;have hn1:n∈Ap w.AY (AO p):=hn.1;grind[lN,Rq]
    grind[GN.list]
   ·rw[AWy]at hb
    rw[rV n hn.1];unfold kS;rw[AWy];cases hg:EA p (storeAt w n).1 with
    |none=>rfl
    |some x=>
     grind
   ·rw[ALe]at hb
    obtain⟨y,y1,rfl⟩:=hb;obtain⟨n,n1,n2,n3⟩:=O9 y y1;refine⟨⟨n,⟨n1,n2⟩,by grind[Z7]⟩,fun m z hm hz=> ?_⟩;rw[rV m hm.1]at hz;obtain⟨u,u1,rfl⟩:=Ps hz;obtain⟨v,v1,v2⟩:=b3 m u hm.1 hm.2 u1;rw[y1]at v1;cases v1;exact v2
  obtain⟨fin0,hB0,_⟩:=h.safe.b hv;obtain⟨x0,hx0,_⟩:=Sf.nQ GN.mono (kk fin0 hB0) h.safe.a hB0;rw[ALe]at hx0;obtain⟨y,hy,rfl⟩:=hx0;subst hy;refine⟨fun ev hev=> ?_,fun fin hB hR=> ?_⟩
  ·rcases AOs.1 hev with hev|hev
   ·exact h.whole hv r hrm ev hev
   grind[List.mem_singleton,HK]
  ·have:=Sf.ARz GN.mono (kk fin hB) h.safe.a hB (r:=xg r) p2 p3 (fun p q hp hq h1 h2=>rz hp hq h1 h2) hR (x:=Uv y) rfl
   have er:xg (r.1,r.2.1+1,r.2.2.1++[HK p (some y)],())=(xg r).read p (Uv y):=by
    refine Rd.eq rfl rfl ?_
    funext x
    show tlS (r.2.2.1++[HK p (some y)]) x=if x=p then(if(Uv y).hole then none else some (Uv y).data)else tlS r.2.2.1 x
    by_cases ex:x=p
    ·subst ex
     rw[ALI rfl,uN (.inl (uw ADN (by omega)))];have hno:=uw ADN (p:=x) (by omega);grind[HK,Uv]
    ·rw[ALT ex,uN (.inr (.inl (by omega))),ALT (by omega)]
   simp_all
theorem ADF{d:BO}(hd:d.2.2.2.2.1.length≤40)(e:(LN false w d).2=0):Reached (LN false w d).1∧Grow w (LN false w d).1:=by
 have hs:=h.safe;have mk:∀{v:AA},Safe v∧Grow w v→Sm w v→Reached v∧Grow w v:=fun k hm=>⟨h.of k hm.1 hm.2,k.2⟩
 unfold LN at e⊢;by_cases hc:d.1=1
 ·rw[ALI hc]at e⊢;grind[AAv,AQE]
 rw[ALT hc]at e⊢;clear hc;by_cases hc:d.1=2
 ·rw[ALI hc]at e⊢;grind[ADp,AV5]
 rw[ALT hc]at e⊢;clear hc;by_cases hc:d.1=3
 ·rw[ALI hc]at e⊢;grind[yb,AGA]
 rw[ALT hc]at e⊢;clear hc;by_cases hc:d.1=4
 ·rw[ALI hc]at e⊢;grind[ABF,AOB]
 rw[ALT hc]at e⊢;clear hc;by_cases hc:d.1=5
 ·rw[ALI hc]at e⊢;grind[yu,AJU]
 rw[ALT hc]at e⊢;clear hc;by_cases hc:d.1=6
 ·rw[ALI hc]at e⊢;grind[ABk,AOj]
 rw[ALT hc]at e⊢;clear hc;by_cases hc:d.1=7
 ·rw[ALI hc]at e⊢;grind[AA5,AQ1]
 rw[ALT hc]at e⊢;clear hc;by_cases hc:d.1=8
 ·rw[ALI hc]at e⊢;grind[ACY,ANN]
 rw[ALT hc]at e⊢;clear hc;by_cases hc:d.1=9
 ·rw[ALI hc]at e⊢;grind[AB1,APP]
 rw[ALT hc]at e⊢;clear hc;by_cases hc:d.1=10
 ·rw[ALI hc]at e⊢;grind[ABA,ANY]
 rw[ALT hc]at e⊢;clear hc;by_cases hc:d.1=11
 ·rw[ALI hc]at e⊢;grind[AEA,ATo]
 rw[ALT hc]at e⊢;clear hc;by_cases hc:d.1=12
 ·rw[ALI hc]at e⊢;grind[yP,AGm]
 rw[ALT hc]at e⊢;clear hc;by_cases hc:d.1=13
 ·rw[ALI hc]at e⊢;grind[ABr,AR0]
 rw[ALT hc]at e⊢;clear hc;by_cases hc:d.1=14
 ·rw[ALI hc]at e⊢;exact yQ h e
 rw[ALT hc]at e⊢;by_cases ZL:d.1=15
 ·rw[ALI ZL]at e⊢;grind[AB_,AQ5]
 rw[ALT ZL]at e⊢;grind[xr,AGo]
end
end Go.M
end
section
namespace Go.M
open Go.M.H (AJ AN Au Ac AA CX AQ A9 AM Ab BG As BO)
open Go.Sf (OD Wd Md St Rd wQ Pf GZ HV WQ)
theorem eS{w:AA}{d:BO}(h:Reached w)(e:(DL false w d).2=0):Reached (DL false w d).1∧Grow w (DL false w d).1:=by
 unfold DL at e⊢;by_cases hc:(!IM w|| !PG d)=true
 ·rw[ALI hc]at e;cases e
 rw[ALT hc]at e⊢;simp only[AR9,ASY,AXG,Bool.not_eq_false]at hc;exact ADF h (bC hc.2) e
theorem ACW{c:CK}(hc:E6 c=true):Reached (Em c):=by
 have hw:=(cf hc).1;have cz:∀n,Az (Em c) n=Ci:=fun n=>by
  unfold Az storeAt;split
  ·rename_i hn
   have hl:n.toNat<(List.replicate c.1.length Ci).length:=by
    have:n<((List.replicate c.1.length Ci).length:Int):=hn.2;omega
   show(List.replicate c.1.length Ci).getD n.toNat Ci=Ci
   rw[Me hl,List.getElem_replicate]
  ·rfl
 have hk:∀n p,(Bl (Em c)).kept n p=none:=fun n p=>by
  show kS (Az _ n).1 p=none
  rw[cz];rfl
 have hl:∀n x,¬(Bl (Em c)).late n x:=fun n x hh=>by
  have:Su (Az (Em c) n).2.1 x:=hh;rw[cz]at this;obtain⟨e,he,_⟩:=this;simp[Ci]at he
 have hi:∀x,¬Sf.EH (Bl (Em c)) x:=fun x hh=>by
  rcases hh with⟨n,hn⟩|⟨n,hn⟩|⟨m,hm,_⟩
  ·rw[hk]at hn;cases hn
  ·exact hl n x hn
  ·cases hm
 have hwd:∀p v,(Bl (Em c)).wd p≠some v:=fun p v hh=>by
  replace hh:(FM [] p).map Z_=some v:=hh
  rw[r7 (ws:=[]) rfl]at hh;cases hh
 have ZK:∀p v,(Bl (Em c)).HQ p≠some v:=fun p v hh=>by cases hh
 have cu:∀e,¬(Bl (Em c)).cl e:=fun e hh=>by
  have h1:1≤e∧e≤((([]:List CX).length:Nat):Int):=hh.1;simp only[AQF]at h1;omega
 have hno:∀e n,¬(Bl (Em c)).nodes e n:=fun e n hh=>by
  have:n∈Ap [] e:=hh;unfold Ap at this;split at this
  ·rename_i h1
   have:=Ai.1 h1;simp only[AQF]at this;omega
  ·simp at this
 have hsu:∀p,¬Sf.eE (Bl (Em c)) p:=fun p ⟨d,q,h1,_⟩=>ZK p _ h1
 refine⟨⟨hw,⟨ASj _,fun e a b=> ?_,fun e a=>absurd a (cu e),fun e f a=>absurd a (cu e),fun m a=>(by cases a),fun e ⟨x,hx,_⟩=>(by cases(show x∈([]:List AM)from hx)),fun p v a=>absurd a (hwd p v),fun p v a=>absurd a (ZK p v),fun n p x a=>(by rw[hk]at a;cases a),fun m p x a=>(by cases a),fun x a=>absurd a (hi x),fun x a=>absurd a (hi x),fun x a=>absurd a (hi x),fun x y a=>absurd a (hi x)⟩,fun _=>⟨fun _=>⟨0,0,true,[]⟩,⟨fun hh=> ?_,fun p a=>absurd a (hsu p),fun p v n a=>absurd a (hwd p v),fun m n a=>(by cases a),fun x a=>absurd a (hi x),fun m p a=>(by cases a),fun p a b=>absurd b (cu _),fun m p n a=>(by cases a),fun m p x a=>(by cases a),fun p a b=>absurd b (cu _)⟩,fun r hr=> ?_⟩⟩,fun r hr=> ?_,fun _ r hr=> ?_⟩
 ·have:e≤((([]:List CX).length:Nat):Int):=b
  simp only[AQF]at this;omega
 ·obtain⟨l,l1,l2⟩:=hh
  cases l with
  |nil=>rw[holds_nil]at l1;cases l1
  |cons a l=>exact absurd (l2 a (by simp)) (by show¬a∈([]:AAH);simp)
 ·replace hr:r∈[((1,1,[],()):Ab),(1,1,[],())]:=hr
  have e:r=(1,1,[],()):=by simpa using hr
  subst e;have np:∀p,Pl p→ ¬Sf.XK AO A7 (xg (1,1,[],())) p:=fun p hp hh=>by
   have h1:=ep1 hp;have h2:=qE hp;rcases hh with hh|⟨_,hh⟩
   ·have:AO p<1:=hh;omega
   ·have:A7 p<1:=hh;omega
  exact⟨ASj _,fun p hp Jq=>by have h1:=ep1 hp;have:AO p<1:=Jq;omega,fun p hp hps=>absurd hps (np p hp),fun p d a=>by cases a⟩
 ·replace hr:r∈[((1,1,[],()):Ab),(1,1,[],())]:=hr
  have e:r=(1,1,[],()):=by simpa using hr
  subst e;exact⟨List.Pairwise.nil,fun e he=>by simp at he,fun e he=>by simp at he⟩
 ·replace hr:r∈[((1,1,[],()):Ab),(1,1,[],())]:=hr
  have e:r=(1,1,[],()):=by simpa using hr
  subst e;exact fun e he=>by simp at he
section
variable{w:AA} (h:Reached w)
include h
theorem Reached.sure{s:Ac}(hs:s∈w.Aq)(hq:s.2.2.1=true):Pl s.1∧Sf.eE (Bl w) s.1:=by
 refine⟨(h.safe.ok.Aq s hs).1,s.2.1,s.2.2.1=true,?_,hq⟩
 show(IU w.Aq s.1).map z7=_
 rw[bB h.safe.ok.XZ hs];rfl
theorem AB5(ht:w.EC=false){s:Ac}(hs:s∈w.Aq)(hq:s.2.2.1=true)(hg:w.trim<s.1):∃n,(0≤n∧n<(w.Aj.length:Int))∧n∉w.lost∧ ∃e,EA s.1 (storeAt w n).1=some e:=by
 obtain⟨fin,b1,b2⟩:=h.safe.b ht;obtain⟨p1,p2⟩:=h.sure hs hq;have hH:=(b1.sure _ p2 hg).1;obtain⟨n,hn,hl⟩:∃n,(Bl w).nodes (AO s.1) n∧Sf.Have (Bl w) s.1 n∧n∉w.lost:=ATN fun hno=>b1.WN (GN.mono _ _ (fun n hn=>ATN fun hl=>hno ⟨n,hn.1,hn.2,hl⟩) hH)
 rcases hl.1 with⟨x,hx⟩|hx
 ·replace hx:kS (Az w n).1 s.1=some x:=hx
  obtain⟨e,he,_⟩:=Ps hx;by_cases O9:0≤n∧n<(w.Aj.length:Int)
  ·unfold Az at he
   rw[ALI O9]at he;exact⟨n,O9,hl.2,e,he⟩
  ·unfold Az at he
   rw[ALT O9]at he;cases he
 ·exact absurd hx hl.2
end
section
variable{w:AA} (h:Reached w)
include h
end
end Go.M
end
section
namespace Go.M
open Go.M.H (AJ AN Au Ac AA CX AQ A9 AM Ab BG As BO)
def vJ(ws:List AM)(ss:List Ac):Prop:= ∀t∈ss,∀x∈ws,AO t.1=x.1→QY x.2.1 (A7 t.1)=true→t.2.2.1=true
theorem cI{c:CK}{s:AN}{l:List CX}{n:Int}:∀{ws:List AM} {ss:List Ac},vJ ws ss→FH true c s l n ws ss=FH false c s l n ws ss
 |[],ss,_=>rfl
 |x::ws,ss,h=>by
  simp only[FH];have hm:ss.map (Nn true x.1 x.2.1 (A_ c s x.1 n 1 x.2.1))=ss.map (Nn false x.1 x.2.1 (A_ c s x.1 n 1 x.2.1)):=ASl fun t ht=>by
   have k:=h t ht x (by simp);unfold Nn;by_cases he:AO t.1=x.1
   ·cases hd:QY x.2.1 (A7 t.1)with
    |true=>rw[k he hd];simp
    |false=>simp
   ·rw[APa.2 he];simp
  rw[hm,cI (ws:=ws) (ss:=ss.map (Nn false x.1 x.2.1 (A_ c s x.1 n 1 x.2.1))) fun t ht y hy he hd=>by
   obtain⟨u,hu,rfl⟩:=ASt.1 ht;have:=h u hu y (by simp[hy]) he hd
   show(u.2.2.1||_)=true
   rw[this];rfl,
   cI (ws:=ws) (ss:=ss) fun t ht y hy=>h t ht y (by simp[hy])]
theorem uG{w:AA}(h:Reached w):vJ w.AH w.Aq:=fun t ht x hx he hd=>by
 have hp:Pl t.1:=(h.safe.ok.Aq t ht).1;obtain⟨y,y1,y2⟩:=(W8 (qE hp)).1 hd;have hwx:WJ w.AH (AO t.1)=some x:=by rw[he];exact XS h.safe.ok.Xb hx
 have hwd:(Bl w).wd t.1=some (Z_ y):=by
  show(FM w.AH t.1).map Z_=_
  rw[J8 hp hwx,y1];rfl
 obtain⟨q,q1,q2⟩:=(h.safe.a.wM _ _ hwd).2.2.1
 replace q1:(IU w.Aq t.1).map z7=some ((Z_ y).data,q):=q1
 rw[bB h.safe.ok.XZ ht]at q1;simp only[AUI,z7,ALW,APo]at q1;rw[q1.2];exact q2 y2
theorem AJ6{w:AA}{d:BO}(h:Reached w):DL true w d=DL false w d:=by
 have key:∀n,Jn true w n=Jn false w n:=fun n=>by
  unfold Jn;simp only[cI (uG h)]
 unfold DL LN;simp only[key]
end Go.M
end
section
namespace Go.M
open Go.M.H (AJ AN Au Ac AA CX AQ A9 AM Ab BG As BO)
section
variable{w:AA} (h:Reached w)
include h
theorem AHP{s:Ac}(hs:s∈Xt w):s∈w.Aq∧s.2.2.1=true∧w.trim<s.1:=by
 unfold Xt at hs;rw[KI.2 h.safe.ok,AMJ]at hs;obtain⟨h1,h2⟩:=ASp.1 hs;unfold rI at h2;simp only[ALp,AMC]at h2;exact⟨h1,h2⟩
end
end Go.M
end
section
set_option maxRecDepth 8000
namespace Go.M
open Go.M.H (AJ AN Au Ac AA CX AQ A9 AM Ab BG As BO An Ca Af AW AZ Ar CL BU Ax BD Es Ch DF DN)
def ATM(w:AA)(l:List BO):FT:=(((w,(),()),()),(l,()))
theorem AA9{x:AAH}(hc:x.length≤2^30):∃c l,E6 c=true∧Fi x=some (ATM (Em c) l)∧l.length≤190∧ ∀d∈l,DJ d.2.1:=by
 obtain⟨h0,e0⟩:=AEp hc;unfold Fi;rw[e0];obtain⟨T,hT,hT2⟩:=yL hc;simp only[AD];rw[hT];simp only[AD];obtain⟨q,i1,h1,y,e1,eJ,⟨cc,qo,hcw⟩,hl,hd⟩:=ux hc (T:=T) (N:=190) ⟨by omega,by omega,by omega⟩ (i:=0) (hh:=h0) ⟨by omega,by omega⟩;rw[e1];simp only[AD];refine⟨cc,y.1,qo,?_,hl,hd⟩;rw[←hcw];rfl
end Go.M
end
section
set_option maxRecDepth 8000
namespace Go.M
open Go.M.H (AJ AN Au Ac AA CX AQ A9 AM Ab BG As BO An Ca Af AW AZ Ar CL BU Ax BD Es Ch DF DN)
structure eg (w:AA) (i:Nat):Prop where
 re:Reached w
 rd:Af BD w.Aa≤10002+41*i
 ev:gJ w
theorem eg.win{w:AA}{i:Nat}(h:eg w i)(hi:i≤1000):jX w:=h.re.safe.ok.AYn (by have:=h.rd;omega)
theorem eg.more{w:AA}{i:Nat}(h:eg w i):eg w (i+1):=⟨h.re,by have:=h.rd;omega,h.ev⟩
theorem eg.step{w:AA}{i:Nat}{d:BO}(h:eg w i)(e:(DL false w d).2=0):eg (DL false w d).1 (i+1):=
 ⟨(eS h.re e).1,by have:=yi h.re.safe.ok e;have:=h.rd;omega,yV h.ev e⟩
theorem ACX{c:CK}(hc:E6 c=true):eg (Em c) 0:=by
 obtain⟨h1,h2⟩:=cf hc;exact⟨ACW hc,by have:=AKc h1 h2;omega,wc⟩
theorem Reached.tF{w:AA}(h:Reached w):(Xt w).length≤120:=by
 unfold Xt;rw[KI.2 h.safe.ok,AMJ];exact ARE (ARK _ _) h.safe.ok.NN
section
variable{w:AA} (h:Reached w) (Tw:jX w) (hev:gJ w)
include h Tw hev
end
end Go.M
end
section
namespace Go.M
open Go.M.H (AJ AN Au Ac AA CX AQ A9 AM Ab BG As BO)
def ACx(w:AA)(k:Nat)(o:Int):A9:=(w.AH.getD k Bo).2.1.getD (o-1).toNat Kn
structure AYe (c:CK) (k:Nat) (ep o p:Int) (d:ABs) (N:Nat) (w:AA):Prop where
 ok:Ml w
 cfg:AS w=c
 wr:k<w.AH.length∧(w.AH.getD k Bo).1=ep∧(w.AH.getD k Bo).2.1.length=o
 o1:1≤o∧o≤60
 pl:Pl p∧AO p=ep∧A7 p=o
 HQ:∃s,IU w.Aq p=some s∧s.2.1=d∧(s.2.2.1=true↔(ACx w k o).2.2.1=true)
 RR:∀n∈(ACx w k o).2.1,n∉w.lost∧ ∃e,EA p (storeAt w n).1=some e
 ns:w.Aq.length=N
section
variable{c:CK} {k:Nat} {ep o p:Int} {d:ABs} {N:Nat} {w:AA} (h:AYe c k ep o p d N w)
include h
end
end Go.M
end
section
namespace Go.M
open Go.M.H (AJ AN Au Ac AA CX AQ A9 AM Ab BG As BO)
def V7(w:AA)(p:Int):AAH:=((List.range w.Aj.length).map fun i:Nat=>(i:Int)).filter fun n=>(EA p (storeAt w n).1).isSome
section
variable{c:CK} {k:Nat} {ep o p:Int} {d:ABs} {N:Nat}
end
section
variable{w:AA} (h:Ml w) {a:Int} {d:ABs} (hd:d.length≤40) (e:(doAdd w a d).2=0)
include h hd e
end
end Go.M
end
section
set_option maxRecDepth 8000
namespace Go.M
open Go.M.H (AJ AN Au Ac AA CX AQ A9 AM Ab BG As BO An Ca Af AW AZ Ar CL BU Ax BD Es Ch DF DN)
def og(w:AA)(p:Int):Nat→Nat→List Int
 |0,_=>[]
 |m+1,i=>if(EA p (storeAt w i).1).isSome then(i:Int)::og w p m (i+1)else og w p m (i+1)
theorem ve{w:AA}{p:Int}:∀(m i:Nat),((List.range' i m).map fun i:Nat=>(i:Int)).filter (fun n=>(EA p (storeAt w n).1).isSome)=og w p m i
 |0,i=>rfl
 |m+1,i=>by
  rw[List.range'_succ,ATb,ASf,ve m (i+1)];rfl
theorem uJ{w:AA}{p:Int}:V7 w p=og w p w.Aj.length 0:=by
 unfold V7;rw[List.range_eq_range',ve]
theorem iC{w:AA}(h:Ml w)(Tw:jX w){p:Int}:Gf w p=some (((),()),(V7 w p,())):=by
 have hc:=(Fq h.cfg).2.1;have hc8:w.1.length≤8:=hc;have cz:=h.my;have key:∀(m i n:Nat) (acc:AAH),i+m=w.Aj.length→m<n→acc.length≤i→H7 n p w.2.2.1 (w.2.2.1.length:Int) (i:Int) acc=some (((),()),(acc++og w p m i,())):=by
  intro m
  induction m with
  |zero=>
   intro i n acc hi hn ha;obtain⟨n,rfl⟩:∃n',n=n'+1:=⟨n-1,by omega⟩;simp only[H7,OU,AB];rw[ALT (by show¬((i:Int)<(w.Aj.length:Int));omega)];simp[og]
  |succ m ih=>
   intro i n acc hi hn ha;obtain⟨n,rfl⟩:∃n',n=n'+1:=⟨n-1,by omega⟩;simp only[H7,OU,AB];have Jq:i<w.Aj.length:=by omega
   have g:(0:Int)≤(i:Int)∧(i:Int)<(w.2.2.1.length:Int):=by show(0:Int)≤(i:Int)∧(i:Int)<(w.Aj.length:Int);omega
   rw[ALI g.2,ALI g,AL2];have e:storeAt w (i:Int)=w.2.2.1.getD i ([],[],0,()):=by unfold storeAt;rw[AL2]
   have hm:=BV (d:=Ci) Jq;have hs:=(h.Aj i Jq).1;rw[show w.Aj.getD i Ci=storeAt w (i:Int)by unfold storeAt;rw[AL2]]at hm hs;rw[←e];have hw:=AZ (f:=An) hm;rw[show((storeAt w (i:Int)).1,(storeAt w (i:Int)).2.1,(storeAt w (i:Int)).2.2.1,())=storeAt w (i:Int)from rfl,Oe (by have:=(Ml.PU h hm).w;omega) (Ml.PU h hm).sin p];unfold UO og;rw[DC.2 hs,ALI rfl,AL (x:=(i:Int)+1) (by omega) (by omega),show((i:Int)+1)=((i+1:Nat):Int)by omega];cases hg:EA p (storeAt w (i:Int)).1 with
   |none=>
    simp only[AD,ALz];rw[ih (i+1) n acc (by omega) (by omega) (by omega)];rfl
   |some x=>
    simp only[AD,AMJ];rw[ALI (by rw[BT];omega),ih (i+1) n (acc++[(i:Int)]) (by omega) (by omega) (by simp;omega)];simp
 unfold Gf UH;rw[show(w.1,w.2.1,w.2.2.1,w.2.2.2.1,w.2.2.2.2.1,w.2.2.2.2.2.1,w.2.2.2.2.2.2.1,w.2.2.2.2.2.2.2.1,w.2.2.2.2.2.2.2.2.1,w.2.2.2.2.2.2.2.2.2.1,w.2.2.2.2.2.2.2.2.2.2.1,())=w from rfl,MX Tw,KI.2 h];simp only[AD,ALu,ALz];rw[uJ];have:=key w.Aj.length 0 Ae [] (by omega) (Ag (by omega)) (by simp);simpa using this
section
variable{w:AA} (h:Reached w) (Tw:jX w)
include h Tw
theorem AAq(ht:w.EC=false){s:Ac}(hs:s∈Xt w):(((V7 w s.1).length:Int)==0)=false:=by
 obtain⟨h1,h2,h3⟩:=AHP h hs;obtain⟨n,n1,_,e,he⟩:=AB5 h ht h1 h2 h3;have:n∈V7 w s.1:=by
  unfold V7;refine ASp.2 ⟨ASt.2 ⟨n.toNat,List.mem_range.2 (by omega),by omega⟩,?_⟩;rw[he];rfl
 have:=List.length_pos_of_mem this;rw[APa];omega
theorem w9:∀(m i n:Nat),i+m=(Xt w).length→m+1≤n→CR n (i:Int) w.1 w.2.1 w.2.2.1 w.2.2.2.1 w.2.2.2.2.1 w.2.2.2.2.2.1 w.2.2.2.2.2.2.1 w.2.2.2.2.2.2.2.1 w.2.2.2.2.2.2.2.2.1 w.2.2.2.2.2.2.2.2.2.1 w.2.2.2.2.2.2.2.2.2.2.1 (Xt w)=some ((true,()),())
 |m,i,0,_,hn=>by omega
 |0,i,n+1,hi,hn=>by
  have hl:=h.tF;simp only[CR,MI,AB];rw[ALT (by omega),show(w.1,w.2.1,w.2.2.1,w.2.2.2.1,w.2.2.2.2.1,w.2.2.2.2.2.1,w.2.2.2.2.2.2.1,w.2.2.2.2.2.2.2.1,w.2.2.2.2.2.2.2.2.1,w.2.2.2.2.2.2.2.2.2.1,w.2.2.2.2.2.2.2.2.2.2.1,())=w from rfl,eV Tw];simp
 |m+1,i,n+1,hi,hn=>by
  have hl:=h.tF;have ih:=w9 m (i+1) n (by omega) (by omega);have Jq:i<(Xt w).length:=by omega
  simp only[CR,MI,AB];rw[ALI (by omega),show(w.1,w.2.1,w.2.2.1,w.2.2.2.1,w.2.2.2.2.1,w.2.2.2.2.2.1,w.2.2.2.2.2.2.1,w.2.2.2.2.2.2.2.1,w.2.2.2.2.2.2.2.2.1,w.2.2.2.2.2.2.2.2.2.1,w.2.2.2.2.2.2.2.2.2.2.1,())=w from rfl,eV Tw];cases ht:w.2.2.2.2.2.2.2.2.2.2.1 with
  |true=>simp
  |false=>
   rw[ht]at ih;have hm:=BV (d:=((0,[],false,()):Ac)) Jq;rw[ARU,AMJ,ALI (by omega),AL2]
   generalize (Xt w).getD i (0,[],false,())=s at hm⊢
   rw[iC h.safe.ok Tw];simp only[AD];rw[AAq h Tw ht hm,ALz,AL (x:=(i:Int)+1) (by omega) (by omega),show((i:Int)+1)=((i+1:Nat):Int)by omega];exact ih
end
theorem w4{w v:AA}(hw:Ml w)(hv:Ml v){l:List BO}{i k:Nat}(hk:k<w.Aq.length){B:Nat}(hB:∀n,B≤n→CH n (i:Int) ((k:Int)+1) w.1 w.2.1 w.2.2.1 w.2.2.2.1 w.2.2.2.2.1 w.2.2.2.2.2.1 w.2.2.2.2.2.2.1 w.2.2.2.2.2.2.2.1 w.2.2.2.2.2.2.2.2.1 w.2.2.2.2.2.2.2.2.2.1 w.2.2.2.2.2.2.2.2.2.2.1 l v.2.1 v.2.2.2.2.2.1 v.2.2.2.2.2.2.2.2.2.2.1 v.1 v.2.2.1 v.2.2.2.1 v.2.2.2.2.1 v.2.2.2.2.2.2.1 v.2.2.2.2.2.2.2.1 v.2.2.2.2.2.2.2.2.1 v.2.2.2.2.2.2.2.2.2.1=some ((true,()),())):∀(n j:Nat) (f:Bool),j≤v.Aq.length→v.Aq.length-j+B+1≤n→
  (f=true∨ ∃m,j≤m∧ ∃hm:m<v.Aq.length,(v.Aq[m]).1=(w.Aq[k]).1∧(v.Aq[m]).2.1=(w.Aq[k]).2.1∧((w.Aq[k]).2.2.1=true→(v.Aq[m]).2.2.1=true))→
  B_ n (i:Int) (k:Int) f (j:Int) w.1 w.2.1 w.2.2.1 w.2.2.2.1 w.2.2.2.2.1 w.2.2.2.2.2.1 w.2.2.2.2.2.2.1 w.2.2.2.2.2.2.2.1 w.2.2.2.2.2.2.2.2.1 w.2.2.2.2.2.2.2.2.2.1 w.2.2.2.2.2.2.2.2.2.2.1 l v.2.1 v.2.2.2.2.2.1 v.2.2.2.2.2.2.2.2.2.2.1 v.1 v.2.2.1 v.2.2.2.1 v.2.2.2.2.1 v.2.2.2.2.2.2.1 v.2.2.2.2.2.2.2.1 v.2.2.2.2.2.2.2.2.1 v.2.2.2.2.2.2.2.2.2.1=some ((true,()),())
 |0,j,f,_,hn,_=>by omega
 |n+1,j,f,hj,hn,hf=>by
  have za:=hv.NN;have hnw:=hw.NN;have ih:=fun f=>w4 hw hv hk hB n (j+1) f
  have g9:(0:Int)≤(k:Int)∧(k:Int)<(w.2.2.2.2.2.2.2.2.2.1.length:Int):=by show(0:Int)≤(k:Int)∧(k:Int)<(w.Aq.length:Int);omega
  simp only[B_,QU,AB];by_cases Jq:j<v.Aq.length
  rotate_left
  ·rw[ALT (by show¬((j:Int)<(v.Aq.length:Int));omega)]
   have hft:f=true:=hf.resolve_right fun⟨m,h1,h2,_⟩=>by omega
   rw[hft,AL (x:=(k:Int)+1) (by omega) (by omega)];simp only[ALu,ALz];exact hB n (by omega)
  have g8:(0:Int)≤(j:Int)∧(j:Int)<(v.2.2.2.2.2.2.2.2.2.1.length:Int):=by show(0:Int)≤(j:Int)∧(j:Int)<(v.Aq.length:Int);omega
  rw[ALI g8.2,AL (x:=(j:Int)+1) (by omega) (by omega),show((j:Int)+1)=((j+1:Nat):Int)by omega];simp only[ALI g8,ALI g9,AL2];have e8:v.2.2.2.2.2.2.2.2.2.1.getD j (0,[],false,())=v.Aq[j]:=Me Jq;have e9:w.2.2.2.2.2.2.2.2.2.1.getD k (0,[],false,())=w.Aq[k]:=Me hk;rw[e8,e9];cases f with
  |true=>
   rw[AMJ];exact ih true (by omega) (by omega) (.inl rfl)
  |false=>
   rw[ALz];obtain⟨m,m1,m2,m3,m4,m5⟩:=hf.resolve_left (by decide);by_cases hmj:m=j
   ·subst hmj
    rw[ASy.2 m3.symm,AMJ,ASy.2 m4.symm,AMJ];cases hs:(w.Aq[k]).2.2.1 with
    |false=>exact ih true (by omega) (by omega) (.inl rfl)
    |true=>
     rw[m5 hs];exact ih true (by omega) (by omega) (.inl rfl)
   ·have later:∃m,j+1≤m∧ ∃hm:m<v.Aq.length,(v.Aq[m]).1=(w.Aq[k]).1∧(v.Aq[m]).2.1=(w.Aq[k]).2.1∧((w.Aq[k]).2.2.1=true→(v.Aq[m]).2.2.1=true):=⟨m,by omega,m2,m3,m4,m5⟩
    have nx:=fun f=>ih f (by omega) (by omega) (.inr later)
    cases(w.Aq[k]).1==(v.Aq[j]).1<;>cases(w.Aq[k]).2.1==(v.Aq[j]).2.1<;>cases(w.Aq[k]).2.2.1<;>simp only[AMJ,ALz,ALu,ARU]<;>exact nx _
theorem uv{w v:AA}(hw:Ml w)(hv:Ml v)(hg:Grow w v){l:List BO}{i:Nat}(hi:i≤190){B:Nat}(hB:∀n,B≤n→CM n ((i:Int)+1) v.1 v.2.1 v.2.2.1 v.2.2.2.1 v.2.2.2.2.1 v.2.2.2.2.2.1 v.2.2.2.2.2.2.1 v.2.2.2.2.2.2.2.1 v.2.2.2.2.2.2.2.2.1 v.2.2.2.2.2.2.2.2.2.1 v.2.2.2.2.2.2.2.2.2.2.1 l=some ((true,()),())):∀(m k n:Nat),k+m=w.Aq.length→m*130+B+1≤n→
  CH n (i:Int) (k:Int) w.1 w.2.1 w.2.2.1 w.2.2.2.1 w.2.2.2.2.1 w.2.2.2.2.2.1 w.2.2.2.2.2.2.1 w.2.2.2.2.2.2.2.1 w.2.2.2.2.2.2.2.2.1 w.2.2.2.2.2.2.2.2.2.1 w.2.2.2.2.2.2.2.2.2.2.1 l v.2.1 v.2.2.2.2.2.1 v.2.2.2.2.2.2.2.2.2.2.1 v.1 v.2.2.1 v.2.2.2.1 v.2.2.2.2.1 v.2.2.2.2.2.2.1 v.2.2.2.2.2.2.2.1 v.2.2.2.2.2.2.2.2.1 v.2.2.2.2.2.2.2.2.2.1=some ((true,()),())
 |m,k,0,_,hn=>by omega
 |0,k,n+1,hk,hn=>by
  simp only[CH,L9,AB];rw[ALT (by show¬((k:Int)<(w.Aq.length:Int));omega),AL (x:=(i:Int)+1) (by omega) (by omega)];exact hB n (by omega)
 |m+1,k,n+1,hk,hn=>by
  have za:=hv.NN;have Jq:k<w.Aq.length:=by omega
  have ih:=uv hw hv hg hi hB m (k+1);simp only[CH,L9,AB];rw[ALI (by show(k:Int)<(w.Aq.length:Int);omega)];obtain⟨t,t1,t2,t3,t4⟩:=hg.mem hw (AL5 Jq);obtain⟨j,hj,rfl⟩:=AQU t1;exact w4 hw hv Jq (B:=m*130+B+1) (fun n hn=>by
   have:=ih n (by omega) hn;rw[show((k+1:Nat):Int)=(k:Int)+1 by omega]at this;exact this) n 0 false (by omega) (by omega) (.inr ⟨j,by omega,hj,t2,t3,t4⟩)
theorem AHL{l:List BO}(hl:l.length≤190)(h64:∀d∈l,DJ d.2.1){K:Nat}(hK:∀a,a≤120→a*130+2≤K):∀(m i n:Nat) (w:AA),i+m=l.length→m*K+200≤n→eg w i→
  CM n (i:Int) w.1 w.2.1 w.2.2.1 w.2.2.2.1 w.2.2.2.2.1 w.2.2.2.2.2.1 w.2.2.2.2.2.2.1 w.2.2.2.2.2.2.2.1 w.2.2.2.2.2.2.2.2.1 w.2.2.2.2.2.2.2.2.2.1 w.2.2.2.2.2.2.2.2.2.2.1 l=some ((true,()),()):=by
 intro m
 induction m with
 |zero=>
  intro i n w hi hn h;obtain⟨n,rfl⟩:∃n',n=n'+1:=⟨n-1,by omega⟩;have hl:=h.re.tF;simp only[CM,NR,AB];rw[ALT (by omega),show(w.1,w.2.1,w.2.2.1,w.2.2.2.1,w.2.2.2.2.1,w.2.2.2.2.2.1,w.2.2.2.2.2.2.1,w.2.2.2.2.2.2.2.1,w.2.2.2.2.2.2.2.2.1,w.2.2.2.2.2.2.2.2.2.1,w.2.2.2.2.2.2.2.2.2.2.1,())=w from rfl,MX (h.win (by omega)),KI.2 h.re.safe.ok,qv (h.win (by omega))];simp only[AD,ALu,ALz];exact w9 h.re (h.win (by omega)) (Xt w).length 0 n (by omega) (by omega)
 |succ m ih=>
  intro i n w hi hn h;obtain⟨n,rfl⟩:∃n',n=n'+1:=⟨n-1,by omega⟩;rw[Nat.succ_mul]at hn;have hn1:m*K+200≤n:=by have:=hK 0 (by omega);omega
  have za:=h.re.safe.ok.NN;have hn2:w.Aq.length*130+(m*K+200)+1≤n:=by have:=hK w.Aq.length za;omega
  clear hn
  have Tw:=h.win (by omega);have Jq:i<l.length:=by omega
  simp only[CM,NR,AB];have g:(0:Int)≤(i:Int)∧(i:Int)<(l.length:Int):=by omega
  rw[ALI g.2];simp only[ALI g,AL2];have hm:DJ (l.getD i (0,0,0,0,[],())).2.1:=h64 _ (BV Jq)
  generalize l.getD i (0,0,0,0,[],())=d at hm⊢
  rw[show(w.1,w.2.1,w.2.2.1,w.2.2.2.1,w.2.2.2.2.1,w.2.2.2.2.2.1,w.2.2.2.2.2.2.1,w.2.2.2.2.2.2.2.1,w.2.2.2.2.2.2.2.2.1,w.2.2.2.2.2.2.2.2.2.1,w.2.2.2.2.2.2.2.2.2.2.1,())=w from rfl,show(d.1,d.2.1,d.2.2.1,d.2.2.2.1,d.2.2.2.2.1,())=d from rfl,mH Tw hm,bX Tw hm,AJ6 h.re];simp only[AD,bne_self_eq_false,ALz];rw[show(pkD (DL false w d)).1.1.2.1=(DL false w d).2 from rfl];by_cases h0:(DL false w d).2=0
  ·rw[show((DL false w d).2 !=0)=false by simp[h0],ALz]
   obtain⟨r1,r2⟩:=eS h.re h0;have cz:=h.step h0;exact uv h.re.safe.ok r1.safe.ok r2 (by omega) (B:=m*K+200) (fun n hn=>by
    have:=ih (i+1) n _ (by omega) hn cz;rw[show((i+1:Nat):Int)=(i:Int)+1 by omega]at this;exact this) w.Aq.length 0 n (by omega) hn2
  ·rw[show((DL false w d).2 !=0)=true by simp[h0],AMJ,AL (x:=(i:Int)+1) (by omega) (by omega),show((i:Int)+1)=((i+1:Nat):Int)by omega]
   exact ih (i+1) n w (by omega) hn1 h.more
theorem wR{x:AAH}(hx:Go.Fw.Vd (.sl (.int .u8)) x):QZ x=some ((true,()),()):=by
 unfold QZ Q7 US;simp only[AMM,AB];by_cases hs:(x.length:Int)>1048576
 ·rw[ALI hs]
 rw[ALT hs];obtain⟨c,l,hc,e1,hl,h64⟩:=AA9 (x:=x) (by omega);rw[e1];simp only[AMM,ATM];exact AHL hl h64 (K:=15700) (fun a ha=>by omega) l.length 0 Ae (Em c) (by omega) (ATs (Ag (by omega))) (ACX hc)
end Go.M
end
