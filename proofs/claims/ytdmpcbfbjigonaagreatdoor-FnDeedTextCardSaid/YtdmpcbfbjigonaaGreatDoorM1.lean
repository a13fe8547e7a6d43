/- Plain facts on what the functions compute. -/
import Derived.Test.YtdmpcbfbjigonaaGreatDoorM0
import Derived.Lib.AtoiAllCases
set_option linter.unusedVariables false
set_option linter.unusedSimpArgs false
set_option linter.unusedSectionVars false
section
namespace Go.M
open Go.Lib (decDigits itoa parseUint10 parseMag atoiAll)
open Go.M.H (BO AR)
theorem N2{k:Nat}(h:k<10):(UInt8.ofNat (48+k)).toNat=48+k:=by
 rw[UInt8.toNat_ofNat'];omega
theorem Vc:∀(n u:Nat),u≤n→ ∀c∈decDigits u,48≤c.toNat∧c.toNat≤57
 |0,u,hu,c,hc=>by
  rw[LZ (by omega)]at hc;simp only[AFp]at hc;subst hc;rw[N2 (by omega)];omega
 |n+1,u,hu,c,hc=>by
  by_cases h:u<10
  ·rw[LZ h]at hc
   simp only[AFp]at hc;subst hc;rw[N2 h];omega
  ·rw[RO h,AEZ]at hc
   rcases hc with hc|hc
   ·exact Vc n (u/10) (by omega) c hc
   ·simp only[AFp]at hc
    subst hc;rw[N2 (by omega)];omega
theorem mo{u:Nat}{c:UInt8}(h:c.toNat<48):c∉decDigits u:=fun hc=>by
 have:=Vc u u (AE7 _) c hc;omega
theorem aE:∀(n u:Nat) (r:AAh),u≤n→u<10^18→parseUint10 0 (decDigits u++r)=parseUint10 u r
 |0,u,r,hn,hu=>by
  rw[LZ (by omega)]
  show parseUint10 0 (UInt8.ofNat (48+u)::r)=_
  simp only[parseUint10,N2 (show u<10 by omega)];rw[AEA (by omega),AEB (by omega),AEB (by omega)];congr 1;omega
 |n+1,u,r,hn,hu=>by
  by_cases h:u<10
  ·rw[LZ h]
   show parseUint10 0 (UInt8.ofNat (48+u)::r)=_
   simp only[parseUint10,N2 h];rw[AEA (by omega),AEB (by omega),AEB (by omega)];congr 1;omega
  ·rw[RO h,AEE,aE n (u/10) _ (by omega) (by omega)]
   show parseUint10 (u/10) (UInt8.ofNat (48+u%10)::r)=_
   simp only[parseUint10,N2 (show u%10<10 by omega)];rw[AEA (by omega),AEB (by omega),AEB (by omega)];congr 1;omega
theorem lQ{u:Nat}(h:u<10^18):atoiAll (decDigits u)= .ok (u:Int):=by
 have hp:parseMag (decDigits u)= .ok u:=by
  have:=Qz u;unfold parseMag;rw[AEB (by intro e;rw[e]at this;simp at this)];have:=aE u u [] (AE7 _) h;rw[AEX]at this;rw[this];rfl
 cases hd:decDigits u with
 |nil=>have:=Qz u;rw[hd]at this;simp at this
 |cons c r=>
  have hc:=Vc u u (AE7 _) c (by rw[hd];simp);rw[Go.Lib.atoiAll_plain c r (by omega) (by omega),←hd,hp];unfold Go.Lib.signless;simp only;rw[AEB (by omega)]
theorem jR{c:UInt8}{r:AAh}:∀{a:AAh},c∉a→Go.Lib.index (a++c::r) [c]=a.length
 |[],_=>by simp[Go.Lib.index,List.isPrefixOf]
 |b::a,h=>by
  simp only[AEd,AHO]at h;have ih:=jR (r:=r) h.2;rw[AGD];unfold Go.Lib.index;rw[show List.isPrefixOf [c] (b::(a++c::r))=false by simp[List.isPrefixOf,h.1],ih];simp only[AER,AFJ];rw[AEB (by simp)];simp
theorem et{c:UInt8}:∀{a:AAh},c∉a→Go.Lib.index a [c]= -1
 |[],_=>by simp[Go.Lib.index]
 |b::a,h=>by
  simp only[AEd,AHO]at h;have ih:=et h.2;unfold Go.Lib.index;rw[show List.isPrefixOf [c] (b::a)=false by simp[List.isPrefixOf,h.1],ih];simp
theorem dv{c:UInt8}{a r:AAh}(h:c∉a):Go.Lib.cut (a++c::r) [c]=(a,r,true):=by
 unfold Go.Lib.cut;rw[jR h,AEA (by omega)];simp
theorem e9{c:UInt8}{a:AAh}(h:c∉a):Go.Lib.cut a [c]=(a,[],false):=by
 unfold Go.Lib.cut;rw[et h,AEB (by omega)]
theorem dy{s p:AAh}:(Go.Lib.cut s p).1.length≤s.length∧(Go.Lib.cut s p).2.1.length≤s.length:=by
 unfold Go.Lib.cut;split
 ·simp only[AGm,AHC];omega
 ·simp
theorem O9{s p:AAh}(h:s.length≤2^21):strings_Cut s p=some (((((Go.Lib.cut s p).1,(Go.Lib.cut s p).2.1,(Go.Lib.cut s p).2.2,()),()),()):UF):=by
 unfold strings_Cut Go.Fw.su;rw[AEA (by omega)];rfl
def gS(s:AAh)(most:Int):Int×Bool:=
 match atoiAll s with
 | .ok v=>if 0≤v∧(s.length:Int)≤most∧itoa v=s then(v,true)else(0,false)
 |_=>(0,false)
theorem ny{s:AAh}{most:Int}(h:s.length≤1048576):GB s most=some ((((gS s most).1,(gS s most).2,()),()),()):=by
 unfold GB Go.Fw.CW;rw[AEA h];rfl
theorem ADh(s:AAh)(most:Int):BB (gS s most).1∧0≤(gS s most).1:=by
 unfold gS;split
 ·rename_i v hv
  have:=Go.Lib.atoiAll_bounds hv;split
  ·unfold BB;simp only;omega
  ·unfold BB;simp only;omega
 ·unfold BB;simp only;omega
theorem dR{n most:Int}(h0:0≤n)(h1:n<10^18)(hm:((HS n).length:Int)≤most):gS (HS n) most=(n,true):=by
 unfold gS;have e:atoiAll (HS n)= .ok n:=by
  have:=lQ (u:=n.toNat) (by omega);unfold HS;rw[this];congr 1;omega
 rw[e];simp only;rw[AEA ⟨h0,hm,itoa_nonneg h0⟩]
theorem Yg{n:Int}{c:UInt8}(h:c.toNat<48):c∉HS n:=mo h
theorem dW{p:Int}(h:BB p)(hp:Ay p=true):II (Ah p) (CY p)=p:=by
 have hb:=E_ hp;unfold II;rw[Aw.2 hb.1,Aw.2 hb.2];unfold Lu Ah CY NF;rw[AEA hp,hp];simp only[Bool.and_self,AGG,AEb];exact Int.mul_tdiv_add_tmod p 4294967296
def prF(A B:Int×Bool)(w:AAh):Option Qw:=
 cond (!A.2) (some (((0,false,()),()),()))
 (cond (!B.2) (some (((0,false,()),()),()))
 (cond (!(BX A.1 1 30&&BX B.1 1 60)) (some (((0,false,()),()),()))
 ((Gp (II A.1 B.1)).bind fun u6=>cond (!(u6.1.1==w)) (some (((0,false,()),()),())) (some (((II A.1 B.1,true,()),()),())))))
theorem Rf(e o:Int):BB (II e o):=by
 unfold II;split
 ·rename_i h
  simp only[AEF,Aw]at h;unfold BB Lu;omega
 ·unfold BB;omega
theorem zd(A B:Int×Bool)(w:AAh):∃x b,prF A B w=some (((x,b,()),()),())∧BB x∧ ∀p,BB p→Ay p=true→ET p=w→A=(Ah p,true)→B=(CY p,true)→x=p:=by
 have z:BB 0:=by unfold BB;omega
 unfold prF;rw[P0 (Rf _ _)];simp only[AF];rcases AD8 A.2 with h1|h1
 rotate_left
 ·rw[h1]
  exact⟨_,_,rfl,z,fun p _ _ _ e=>by rw[e]at h1;cases h1⟩
 rcases AD8 B.2 with h2|h2
 rotate_left
 ·rw[h1,h2]
  exact⟨_,_,rfl,z,fun p _ _ _ _ e=>by rw[e]at h2;cases h2⟩
 rcases AD8 (BX A.1 1 30&&BX B.1 1 60)with h3|h3
 rotate_left
 ·rw[h1,h2,h3]
  refine⟨_,_,rfl,z,fun p _ hp _ e e' => ?_⟩;have hb:=E_ hp;rw[e,e',Aw.2 hb.1,Aw.2 hb.2]at h3;cases h3
 rw[h1,h2,h3];simp only[AET,AEL];rcases AD8 (ET (II A.1 B.1)==w)with h4|h4
 ·rw[h4]
  refine⟨_,_,rfl,Rf _ _,fun p hp ZN _ e e' => ?_⟩;rw[e,e',dW hp ZN]
 ·rw[h4]
  refine⟨_,_,rfl,z,fun p hp ZN hw e e' => ?_⟩;rw[e,e',dW hp ZN,hw]at h4;simp at h4
theorem Vx{w:AAh}(hw:w.length≤1048576):∃x b,Ic w=some (((x,b,()),()),())∧BB x∧ ∀p,BB p→Ay p=true→ET p=w→x=p:=by
 have ht:(Go.Lib.trimPrefix w [101]).length≤w.length:=by
  unfold Go.Lib.trimPrefix;split
  ·simp
  ·exact AE7 _
 have hc:=dy (s:=Go.Lib.trimPrefix w [101]) (p:=[46]);have key:Ic w=prF (gS (Go.Lib.cut (Go.Lib.trimPrefix w [101]) [46]).1 2) (gS (Go.Lib.cut (Go.Lib.trimPrefix w [101]) [46]).2.1 2) w:=by
  unfold Ic;rw[show strings_TrimPrefix w [101]=some ((Go.Lib.trimPrefix w [101],()),())from rfl];simp only[AF];rw[O9 (by omega)];simp only[AF];rw[ny (by omega),ny (by omega)];simp only[AF];rw[VA];rfl
 obtain⟨x,b,h1,h2,h3⟩:=zd (gS (Go.Lib.cut (Go.Lib.trimPrefix w [101]) [46]).1 2) (gS (Go.Lib.cut (Go.Lib.trimPrefix w [101]) [46]).2.1 2) w;refine⟨x,b,key.trans h1,h2,fun p hp ZN he=>h3 p hp ZN he ?_ ?_⟩
 all_goals
  have hb:=E_ ZN;have e1:Go.Lib.trimPrefix w [101]=HS (Ah p)++46::HS (CY p):=by
   rw[←he];unfold ET;rw[AEA ZN];simp[Go.Lib.trimPrefix,Go.Lib.hasPrefix,List.isPrefixOf]
  have l1:=It (n:=Ah p) (by omega);have l2:=It (n:=CY p) (by omega);rw[e1,dv (Yg (by decide))]
 ·exact dR (by omega) (by omega) (by omega)
 ·exact dR (by omega) (by omega) (by omega)
end Go.M
end
section
namespace Go.M
open Go.Lib (decDigits itoa parseUint10 parseMag atoiAll)
open Go.M.H (BO AR)
def p_(D d:AR)(c:Int):AR:=
 if c=84 then(d.1,d.2.1,d.2.2.1,d.2.2.2.1,D.2.2.2.2.1,())else if c=66 then(d.1,d.2.1,D.2.2.1,d.2.2.2.1,d.2.2.2.2.1,())else if c=67 then(d.1,d.2.1,d.2.2.1,D.2.2.2.1,d.2.2.2.2.1,())else(d.1,D.2.1,d.2.2.1,d.2.2.2.1,d.2.2.2.2.1,())
def JP(D:AR):List Int→List UInt8
 |[]=>[]
 |[c]=>GD D c
 |c::c'::l=>GD D c++32::JP D (c'::l)
def je:List Int→Prop
 |[]=>True
 |[_]=>True
 |c::c'::l=>c≠84∧je (c'::l)
def letter(c:Int):Prop:=c=65∨c=66∨c=67∨c=80∨c=84
theorem lM{p:Int}:(32:UInt8)∉ET p:=by
 unfold ET;split
 ·simp only[AEZ,AFp,AHO]
  exact⟨⟨⟨by decide,Yg (by decide)⟩,by decide⟩,Yg (by decide)⟩
 ·simp
theorem aP{D:AR}{c:Int}(hc:c≠84)(ho:Fl D c=true):(32:UInt8)∉GD D c:=by
 unfold GD;unfold Fl at ho;rw[AEB hc]at ho⊢;by_cases h:c=80
 ·rw[AEA h];exact lM
 ·rw[AEB h]at ho⊢
  rw[RJ ho];exact Yg (by decide)
theorem gO{D:AR}{c:Int}{l:AAQ}(hc:c≠84)(ho:Fl D c=true):(Go.Lib.cut (JP D (c::l)) [32]).1=GD D c∧(Go.Lib.cut (JP D (c::l)) [32]).2.1=JP D l:=by
 cases l with
 |nil=>simp only[JP];rw[e9 (aP hc ho)];exact⟨rfl,rfl⟩
 |cons c' l=>simp only[JP];rw[dv (aP hc ho)];exact⟨rfl,rfl⟩
theorem nH{n:Int}(h:JM n=true):gS (itoa n) 10=(n,true):=by
 rw[RJ h];unfold JM BX at h;simp only[AEK]at h;have:=Mq 9 n.toNat (by omega);exact dR h.1 (by omega) (by unfold HS;omega)
theorem ec{c:Int}{r:AAh}{d:AR}(hc:letter c)(h:QK d)(hr:r.length≤1048576)(ht:d.2.2.2.2.1.length≤1048576):
  ∃r' d',HZ c r d.1 d.2.1 d.2.2.1 d.2.2.2.1 d.2.2.2.2.1=some ((r',()),(d',()))∧QK d'∧r'.length≤1048576∧d'.2.2.2.2.1.length≤1048576∧
   ∀(D:AR) (l:AAQ),QK D→Fl D c=true→(c=84→l=[])→r=JP D (c::l)→r' =JP D l∧d' =p_ D d c:=by
 have ha:=h.a;have hb:=h.b;have cq:=h.c;unfold HZ;by_cases c1:c=84
 ·subst c1
  refine⟨[],(d.1,d.2.1,d.2.2.1,d.2.2.2.1,r,()),rfl,⟨ha,hb,cq⟩,by simp,hr,fun D l _ _ hl e=> ?_⟩;obtain rfl:=hl rfl;exact⟨rfl,by rw[e];rfl⟩
 have hl:=dy (s:=r) (p:=[32]);rw[AEO.2 c1,AEL,O9 (by omega)];simp only[AF];rw[ny (by omega)];simp only[AF];have rin:=(ADh (Go.Lib.cut r [32]).1 10).1;have num:∀(D:AR) (l:AAQ),c≠80→Fl D c=true→r=JP D (c::l)→(Go.Lib.cut r [32]).2.1=JP D l∧(gS (Go.Lib.cut r [32]).1 10).1=Ou D c:=fun D l c2 ho e=>by
  obtain⟨e1,e2⟩:=gO (l:=l) c1 ho;rw[e,e1,e2];refine⟨rfl,?_⟩;unfold GD;unfold Fl at ho;rw[AEB c1,AEB c2]at ho⊢;rw[nH ho]
 by_cases c2:c=65
 ·subst c2
  refine⟨_,(d.1,(gS (Go.Lib.cut r [32]).1 10).1,d.2.2.1,d.2.2.2.1,d.2.2.2.2.1,()),rfl,⟨rin,hb,cq⟩,by omega,ht,fun D l _ ho _ e=> ?_⟩;obtain⟨e1,e2⟩:=num D l (by decide) ho e;exact⟨e1,by rw[e2];rfl⟩
 by_cases c3:c=66
 ·subst c3
  refine⟨_,(d.1,d.2.1,(gS (Go.Lib.cut r [32]).1 10).1,d.2.2.2.1,d.2.2.2.2.1,()),rfl,⟨ha,rin,cq⟩,by omega,ht,fun D l _ ho _ e=> ?_⟩;obtain⟨e1,e2⟩:=num D l (by decide) ho e;exact⟨e1,by rw[e2];rfl⟩
 by_cases c4:c=67
 ·subst c4
  refine⟨_,(d.1,d.2.1,d.2.2.1,(gS (Go.Lib.cut r [32]).1 10).1,d.2.2.2.2.1,()),rfl,⟨ha,hb,rin⟩,by omega,ht,fun D l _ ho _ e=> ?_⟩;obtain⟨e1,e2⟩:=num D l (by decide) ho e;exact⟨e1,by rw[e2];rfl⟩
 obtain rfl:c=80:=by rcases hc with h|h|h|h|h<;>omega
 obtain⟨x,b,h1,h2,h3⟩:=Vx (w:=(Go.Lib.cut r [32]).1) (by omega);rw[h1];refine⟨_,(d.1,x,d.2.2.1,d.2.2.2.1,d.2.2.2.2.1,()),rfl,⟨h2,hb,cq⟩,by omega,ht,fun D l hD ho _ e=> ?_⟩;obtain⟨e1,e2⟩:=gO (l:=l) c1 ho;refine⟨by rw[e];exact e2,?_⟩;rw[h3 D.2.1 hD.a ho (by rw[e,e1];rfl)];rfl
def fV:AR:=(0,0,0,0,[],())
def fin(line:AAh)(d:AR):AR×Bool×Unit:=if BG d=some line then(d,true,())else(fV,false,())
theorem jV{line:AAh}{all:AAQ}(OJ:all.length≤100)(RE:∀c∈all,letter c):∀(l:AAQ) (i:Nat) (r:AAh) (d:AR) (f:Nat),all.drop i=l→i≤all.length→l.length<f→QK d→r.length≤1048576→d.2.2.2.2.1.length≤1048576→
  ∃df,QK df∧EX f line r (all.length:Int) (i:Int) 0 0 0 0 [] d.1 d.2.1 d.2.2.1 d.2.2.2.1 d.2.2.2.2.1 all=some ((fin line df,()),())∧
   ∀D,QK D→(∀c∈l,Fl D c=true)→je l→r=JP D l→df=l.foldl (p_ D) d
 |l,i,r,d,0,_,_,hf,_,_,_=>by omega
 |[],i,r,d,f+1,hd,hi,hf,h,hr,ht=>by
  have:all.length≤i:=by simpa using hd
  refine⟨d,h,?_,fun D _ _ _ _=>rfl⟩
  show EH (EX f) _ _ _ _ _ _ _ _ _ _ _ _ _ _ _=_
  unfold EH;rw[AE,AEB (by omega),show(d.1,d.2.1,d.2.2.1,d.2.2.2.1,d.2.2.2.2.1,())=d from rfl,MB h];simp only[AF];unfold fin Im;cases hl:BG d with
  |none=>rfl
  |some t=>
   simp only[AGF,AET,AEL,AGC,AD_];by_cases e:t=line
   ·rw[AEA e,e];simp
   ·rw[AEB e,AEO.2 e];rfl
 |c::l,i,r,d,f+1,hd,hi,hf,h,hr,ht=>by
  have Er:i<all.length:=by
   by_cases hh:i<all.length
   ·exact hh
   ·rw[AEU (by omega)]at hd;cases hd
  rw[AFq Er]at hd;have hc:all[i]=c:=(AFs hd).1;have hl:all.drop (i+1)=l:=(AFs hd).2;obtain⟨r',d',e1,e2,e3,e4,e5⟩:=ec (c:=c) (r:=r) (d:=d) (RE c (by rw[←hc];exact AEa Er)) h hr ht;simp only[AEI]at hf;obtain⟨df,g1,g2,g3⟩:=jV (line:=line) OJ RE l (i+1) r' d' f hl (by omega) (by omega) e2 e3 e4;refine⟨df,g1,?_,fun D hD ho hT e=> ?_⟩
  ·show EH (EX f) _ _ _ _ _ _ _ _ _ _ _ _ _ _ _=_
   unfold EH;rw[AE,AEA (by omega),AEA (by omega),BC Er,hc,e1];simp only[AF];rw[AG (by omega) (by omega),←g2];rfl
  ·obtain⟨k1,k2⟩:=e5 D l hD (ho c (by simp)) (fun h84=>by
    cases l with
    |nil=>rfl
    |cons c' l=>exact absurd h84 hT.1) e
   have:=g3 D hD (fun x hx=>ho x (by simp[hx])) (by
    cases l with
    |nil=>trivial
    |cons c' l=>exact hT.2) k1
   rw[this,k2];rfl
theorem XY{D:AR}:∀(l:AAQ) (acc L:AAh),PH D l acc=some L→(∀c∈l,Fl D c=true)∧L=acc++(if l=[]then[]else 32::JP D l)
 |[],acc,L,h=>by
  simp only[PH,AD_]at h;exact⟨by simp,by simp[h]⟩
 |c::l,acc,L,h=>by
  simp only[PH]at h;split at h
  case isFalse=>cases h
  rename_i hc;obtain⟨h1,h2⟩:=XY l _ L h;refine⟨fun x hx=> ?_,?_⟩
  ·rcases AEd.1 hx with rfl|hx
   ·exact hc
   ·exact h1 x hx
  ·rw[AEB (show¬(c::l=[])by simp),h2]
   cases l with
   |nil=>simp[JP]
   |cons c' l=>simp[JP]
theorem Xh{k:Int}(h:1≤k∧k≤16):(32:UInt8)∉BD k:=by
 rcases Tn h with rfl|rfl|rfl|rfl|rfl|rfl|rfl|rfl|rfl|rfl|rfl|rfl|rfl|rfl|rfl|rfl<;>decide
theorem dH{k:Int}(h:1≤k∧k≤16):(∀c∈JL k,letter c)∧je (JL k):=by
 rcases Tn h with rfl|rfl|rfl|rfl|rfl|rfl|rfl|rfl|rfl|rfl|rfl|rfl|rfl|rfl|rfl|rfl<;>simp[JL,je,letter]
theorem tT{D:AR}(ho:Dq D=true):(JL D.1).foldl (p_ D) (D.1,0,0,0,[],())=D:=by
 obtain⟨hk,_⟩:=ES ho;obtain⟨k,a,b,n,t,⟨⟩⟩:=D;simp only at hk;unfold Dq at ho;simp only[AEF]at ho;obtain⟨_,h1,h2,h3,h4,_⟩:=ho;rcases Tn hk with rfl|rfl|rfl|rfl|rfl|rfl|rfl|rfl|rfl|rfl|rfl|rfl|rfl|rfl|rfl|rfl<;>simp[Nu]at h1 h2 h3 h4<;>simp[JL,p_, *]
theorem bu{x:ByteArray}:∀(zs:List ByteArray) (i:Nat),-1≤Go.Lib.idxFromS zs x i∧Go.Lib.idxFromS zs x i<(i+zs.length:Nat)∨Go.Lib.idxFromS zs x i= -1
 |[],i=>by right;rfl
 |z::zs,i=>by
  unfold Go.Lib.idxFromS;split
  ·left;simp only[AEI];omega
  ·rcases bu (x:=x) zs (i+1)with h|h
   ·left;simp only[AEI];omega
   ·right;exact h
theorem mE{k:Int}(h:1≤k∧k≤16):Go.Lib.idxOfS (Cj.map fun y=>⟨y.toArray⟩) ⟨(BD k).toArray⟩=k-1:=by
 rcases Tn h with rfl|rfl|rfl|rfl|rfl|rfl|rfl|rfl|rfl|rfl|rfl|rfl|rfl|rfl|rfl|rfl<;>decide
theorem IU{D:AR}{line:AAh}(h:BG D=some line):Dq D=true∧(∀c∈JL D.1,Fl D c=true)∧line=BD D.1++(if JL D.1=[]then[]else 32::JP D (JL D.1)):=by
 unfold BG at h;split at h
 case isFalse=>cases h
 rename_i ho;obtain⟨h1,h2⟩:=XY _ _ _ h;exact⟨ho,h1,h2⟩
def Um(line:AAh)(o:AR×Bool×Unit):Prop:=
 (∃d,QK d∧BG d=some line∧o=(d,true,())∧ ∀d',QK d'→BG d' =some line→d' =d)∨((∀d,QK d→BG d≠some line)∧o=(fV,false,()))
theorem cG{line:AAh}{df:AR}(h:QK df)(hc:∀d,QK d→BG d=some line→df=d):Um line (fin line df):=by
 unfold fin;by_cases e:BG df=some line
 ·rw[AEA e]
  exact .inl ⟨df,h,e,rfl,fun d' hd hl=>(hc d' hd hl).symm⟩
 ·rw[AEB e]
  refine .inr ⟨fun d hd hl=>e ?_,rfl⟩;rw[hc d hd hl];exact hl
theorem PT{line:AAh}(hl:line.length≤1048576):∃o,Gv line=some ((o,()),())∧Um line o:=by
 have cT:=dy (s:=line) (p:=[32]);unfold Gv Mm;rw[O9 (by omega),show Ik=some (((),()),(Cj,()))from rfl];simp only[AF];unfold FT Go.Fw.dC;rw[AEA (show Cj.length≤9223372036854775807 by decide)];simp only[AGV,AF];have kind:∀d,QK d→BG d=some line→(Go.Lib.cut line [32]).1=BD d.1∧(Go.Lib.cut line [32]).2.1=JP d (JL d.1):=fun d hd h=>by
  obtain⟨ho,h1,h2⟩:=IU h;obtain⟨hk,_⟩:=ES ho;by_cases he:JL d.1=[]
  ·rw[AEA he,AEX]at h2
   rw[h2,e9 (Xh hk),he];exact⟨rfl,rfl⟩
  ·rw[AEB he]at h2
   rw[h2,dv (Xh hk)];exact⟨rfl,rfl⟩
 have AAm:∀d,QK d→BG d=some line→1+Go.Lib.idxOfS (Cj.map fun y=>⟨y.toArray⟩) ⟨(Go.Lib.cut line [32]).1.toArray⟩=d.1:=fun d hd h=>by
  rw[(kind d hd h).1,mE (ES (IU h).1).1];omega
 have rng: -1≤Go.Lib.idxOfS (Cj.map fun y=>⟨y.toArray⟩) ⟨(Go.Lib.cut line [32]).1.toArray⟩∧Go.Lib.idxOfS (Cj.map fun y=>⟨y.toArray⟩) ⟨(Go.Lib.cut line [32]).1.toArray⟩<16:=by
  rcases bu (x:=⟨(Go.Lib.cut line [32]).1.toArray⟩) (Cj.map fun y=>⟨y.toArray⟩) 0 with h|h
  ·have h2:=h.2
   rw[AGc,show Cj.length=16 from rfl]at h2;unfold Go.Lib.idxOfS;omega
  ·unfold Go.Lib.idxOfS;rw[h];omega
 generalize Go.Lib.idxOfS (Cj.map fun y=>⟨y.toArray⟩) ⟨(Go.Lib.cut line [32]).1.toArray⟩=x at AAm rng
 rw[AG (by omega) (by omega)];by_cases hx:1+x=0
 ·rw[AGu.2 hx]
  refine⟨(fV,false,()),rfl,.inr ⟨fun d hd h=> ?_,rfl⟩⟩;have:=AAm d hd h;have:=ES (IU h).1;omega
 rw[AEO.2 hx,AEL];have hk:1≤1+x∧1+x≤16:=by omega
 obtain⟨s,e1,e2,e3⟩:=SV hk;rw[e1];simp only[AF];rw[AEA (by rw[Ao];omega),e3];obtain⟨hlet,hlast⟩:=dH hk;have h3:=cZ (1+x);have z:QK (1+x,0,0,0,[],()):=by constructor<;>(unfold BB;simp)
 obtain⟨df,g1,g2,g3⟩:=jV (line:=line) (by omega) hlet (JL (1+x)) 0 (Go.Lib.cut line [32]).2.1 (1+x,0,0,0,[],()) Ar rfl (by omega) (A0 (by omega)) z (by omega) (by simp);refine⟨fin line df,g2,cG g1 fun d hd h=> ?_⟩;obtain⟨ho,h1,h2⟩:=IU h;have hkx:=AAm d hd h;have:=g3 d hd (by rw[hkx];exact h1) hlast (by rw[hkx];exact(kind d hd h).2);rw[this,hkx];exact tT ho
end Go.M
end
section
namespace Go.M
open Go.Lib (decDigits itoa)
open Go.M.H (BO AR)
def fK(i j x:Int):Option Jf:=cond (i==j) (some ((((-1),i,()),()),())) (cond (decide (AX (i-j)>10)) (some ((((-1),i,()),()),())) (some (((x,i,()),()),())))
def Qn(s:AAh)(i:Nat):Bool:=decide (i<s.length)&&(decide (48≤(s.getD i 0).toNat)&&decide ((s.getD i 0).toNat≤57))
theorem fE{R:LU}{s:AAh}{i j:Nat}{x:Int}(hi:i≤2^40)(hj:j≤i)(hx:0≤x∧x<10^11):
  K8 R s (i:Int) (j:Int) x=if Qn s i=true∧i-j<11 then R s ((i+1:Nat):Int) (j:Int) (10*x+((s.getD i 0).toNat:Int)-48)else fK i j x:=by
 have hb:=(s.getD i 0).toNat_lt;have no:Qn s i=false→(if Qn s i=true∧i-j<11 then R s ((i+1:Nat):Int) (j:Int) (10*x+((s.getD i 0).toNat:Int)-48)else fK i j x)=fK i j x:=fun h=>AEB (by rw[h];simp)
 unfold K8;simp only[show((i:Int)).toNat=i by omega]
 generalize lU:s.getD i 0=c at*
 by_cases h1:i<s.length
 rotate_left
 ·rw[no (by unfold Qn;simp[h1]),AF0 (show¬((i:Int)<(s.length:Int))by omega)];rfl
 have hc:(0:Int)≤(i:Int)∧(i:Int)<(s.length:Int):=by omega
 simp only[AEA hc];rw[AFM (show(i:Int)<(s.length:Int)by omega),AEb];by_cases h2:48≤c.toNat
 rotate_left
 ·rw[no (by unfold Qn;rw[lU];simp[h2]),AF0 (show¬((c.toNat:Int)≥48)by omega)];rfl
 rw[AFM (show(c.toNat:Int)≥48 by omega),AEb];by_cases h3:c.toNat≤57
 rotate_left
 ·rw[no (by unfold Qn;rw[lU];simp[h3]),AF0 (show¬((c.toNat:Int)≤57)by omega)];rfl
 have hd:Qn s i=true:=by unfold Qn;rw[lU];simp[h1,h2,h3]
 rw[AFM (show(c.toNat:Int)≤57 by omega),AEb];by_cases h4:i-j<11
 ·rw[AEA (show Qn s i=true∧i-j<11 from⟨hd,h4⟩),AG (x:=(i:Int)-j) (by omega) (by omega),AFM (show(i:Int)-j<11 by omega),AEb,
   AG (x:=10*x) (by omega) (by omega),AG (x:=(c.toNat:Int)) (by omega) (by omega),AG (x:=10*x+(c.toNat:Int)) (by omega) (by omega),AG (x:=10*x+(c.toNat:Int)-48) (by omega) (by omega),AG (x:=(i:Int)+1) (by omega) (by omega)]
  rfl
 ·rw[AEB (show¬(Qn s i=true∧i-j<11)from fun h=>h4 h.2)]
  have e:decide (AX ((i:Int)-j)<11)=false:=by rw[AG (by omega) (by omega)];exact AF0 (by omega)
  rw[e,AEL];rfl
theorem nX{i j:Nat}{x:Int}(hi:i≤2^40)(hj:j≤i)(h11:i-j≤11)(hx:0≤x∧x<10^11):∃y:Int,fK i j x=some (((y,(i:Int),()),()),())∧ -1≤y∧y<10^11∧(j<i→i-j≤10→y=x):=by
 unfold fK;rw[AG (x:=(i:Int)-j) (by omega) (by omega)];by_cases h1:i=j
 ·subst h1
  exact⟨-1,by simp,by omega,by omega,fun h=>by omega⟩
 rw[AEO.2 (by omega),AEL,AE];by_cases h2:(i:Int)-j>10
 ·rw[AEA h2]
  exact⟨-1,rfl,by omega,by omega,fun _ h=>by omega⟩
 ·rw[AEB h2]
  exact⟨x,rfl,by omega,hx.2,fun _ _=>rfl⟩
theorem gC{s:AAh}{j:Nat}(hj:j≤2^30):∀(n i:Nat) (x:Int) (f:Nat),i-j+n=11→j≤i→n<f→0≤x→x<10^(i-j)→
  ∃(y:Int) (k:Nat),HB f s (i:Int) (j:Int) x=some (((y,(k:Int),()),()),())∧ -1≤y∧y<10^11∧k≤j+11∧
   ∀(ds post:AAh) (c:UInt8),s.drop i=ds++post→(∀c∈ds,48≤c.toNat∧c.toNat≤57)→(∀c r,post=c::r→ ¬(48≤c.toNat∧c.toNat≤57))→1≤i-j+ds.length→i-j+ds.length≤10→
    y=ds.foldl (fun(a:Int) c=>10*a+(c.toNat:Int)-48) x∧k=i+ds.length
 |n,i,x,0,_,_,hf,_,_=>by omega
 |n,i,x,f+1,hn,hi,hf,h0,h1=>by
  have hp:(10:Int)^(i-j)≤10^11:=by
   have:(10:Nat)^(i-j)≤10^11:=Nat.pow_le_pow_right (by omega) (by omega)
   exact_mod_cast this
  have hx:0≤x∧x<10^11:=⟨h0,by omega⟩;have st:HB (f+1) s (i:Int) (j:Int) x=_:=fE (R:=HB f) (s:=s) (i:=i) (j:=j) (x:=x) (by omega) hi hx;by_cases hd:Qn s i=true∧i-j<11
  ·rw[AEA hd]at st
   have ln:=hd.1;unfold Qn at ln;simp only[AEF,AEK]at ln
   match n,hn with
   |0,hn=>omega
   |n+1,hn=>
    have AE6:(10:Int)^(i+1-j)=10*10^(i-j):=by
     rw[show i+1-j=(i-j)+1 by omega,Int.pow_succ];omega
    obtain⟨y,k,e1,e2,e3,e4,e5⟩:=gC hj n (i+1) (10*x+((s.getD i 0).toNat:Int)-48) f (by omega) (by omega) (by omega) (by omega) (by rw[AE6];omega);refine⟨y,k,st.trans e1,e2,e3,e4,fun ds post c hs vd nT l1 l2=> ?_⟩;have vY:s.drop i=s.getD i 0::s.drop (i+1):=by
     rw[AFq ln.1];simp[List.getD,ln.1]
    cases ds with
    |nil=>
     rw[vY,AFa]at hs;exact absurd ⟨ln.2.1,ln.2.2⟩ (nT _ _ hs.symm)
    |cons b ds=>
     rw[vY,AGD]at hs;have hb:s.getD i 0=b:=(AFs hs).1;simp only[AEI]at l1 l2;have:=e5 ds post c (AFs hs).2 (fun c hc=>vd c (by simp[hc])) nT (by omega) (by omega);rw[this.1,this.2,hb];simp only[AG1,AEI];exact⟨trivial,by omega⟩
  ·rw[AEB hd]at st
   obtain⟨y,e1,e2,e3,e4⟩:=nX (i:=i) (j:=j) (x:=x) (by omega) hi (by omega) hx;refine⟨y,i,st.trans e1,e2,e3,by omega,fun ds post c hs vd nT l1 l2=> ?_⟩;cases ds with
   |nil=>
    simp only[AEc,AGS]at l1 l2;exact⟨e4 (by omega) l2,rfl⟩
   |cons b ds=>
    exfalso
    apply hd;have Er:i<s.length:=by
     by_cases hh:i<s.length
     ·exact hh
     ·rw[AEU (by omega)]at hs;cases hs
    have hb:s.getD i 0=b:=by
     rw[AFq Er]at hs;simp only[AGD,AEk]at hs;simp[List.getD,Er,hs.1]
    have:=vd b (by simp);simp only[AEI]at l2;refine⟨?_,by omega⟩;unfold Qn;rw[hb];simp[Er,this]
theorem cM:∀(n u:Nat) (x:Int),u≤n→(decDigits u).foldl (fun(a:Int) c=>10*a+(c.toNat:Int)-48) 0=u
 |0,u,x,h=>by
  rw[LZ (by omega)];simp only[AG1,List.foldl_nil,N2 (show u<10 by omega)];omega
 |n+1,u,x,h=>by
  by_cases hu:u<10
  ·rw[LZ hu]
   simp only[AG1,List.foldl_nil,N2 hu];omega
  ·rw[RO hu,List.foldl_append,cM n (u/10) x (by omega)]
   simp only[AG1,List.foldl_nil,N2 (show u%10<10 by omega)];omega
theorem O5{s:AAh}{j:Nat}(hj:j≤2^30):∃(y:Int) (k:Nat),Ma s (j:Int)=some (((y,(k:Int),()),()),())∧ -1≤y∧y<10^11∧k≤j+11∧
  ∀(m:Int) (post:AAh),JM m=true→s.drop j=HS m++post→(∀c r,post=c::r→ ¬(48≤c.toNat∧c.toNat≤57))→y=m∧k=j+(HS m).length:=by
 obtain⟨y,k,e1,e2,e3,e4,e5⟩:=gC (s:=s) hj 11 j 0 Ar (by omega) (AE7 _) (A0 (by omega)) (by omega) (by simp);refine⟨y,k,e1,e2,e3,e4,fun m post hm hs hp=> ?_⟩;unfold JM BX at hm;simp only[AEK]at hm;have l1:=Mq 9 m.toNat (by omega);have l2:=Qz m.toNat;have:=e5 (HS m) post 0 hs (fun c hc=>Vc _ _ (AE7 _) c hc) hp (by unfold HS;omega) (by unfold HS;omega);refine⟨?_,this.2⟩;rw[this.1];unfold HS;rw[cM _ _ 0 (AE7 _)];omega
theorem Vf{w:AAh}:∃x b,Kk w=some (((x,b,()),()),())∧BB x∧ ∀p,BB p→Ay p=true→ET p=w→x=p:=by
 have z:BB 0:=by unfold BB;omega
 unfold Kk;rw[AE];by_cases h4:(w.length:Int)<4
 ·rw[AEA h4]
  refine⟨_,_,rfl,z,fun p hp ZN hw=> ?_⟩;have l1:=Qz (Ah p).toNat;have l2:=Qz (CY p).toNat;have:w.length=1+(HS (Ah p)).length+1+(HS (CY p)).length:=by
   rw[←hw];unfold ET;rw[AEA ZN];simp only[AEM,AEI,AEc]
  unfold HS at this;omega
 rw[AEB h4];obtain⟨y,k,e1,e2,e3,e4,e5⟩:=O5 (s:=w) (j:=1) (by omega);rw[show((1:Nat):Int)=1 from rfl]at e1;rw[e1];simp only[AF];rw[AG (by omega) (by omega)];obtain⟨y',k',f1,f2,f3,f4,f5⟩:=O5 (s:=w) (j:=k+1) (by omega);rw[show((k:Int)+1)=((k+1:Nat):Int)by omega,f1];simp only[AF];rw[P4];simp only[AF];have comp:∀p,BB p→Ay p=true→ET p=w→y=Ah p∧y' =CY p:=fun p hp ZN hw=>by
  have hb:=E_ ZN;have oC:w=101::(HS (Ah p)++46::HS (CY p)):=by
   rw[←hw];unfold ET;rw[AEA ZN];simp
  have k1:=e5 (Ah p) (46::HS (CY p)) (by unfold JM BX;rw[AEK];omega) (by rw[oC];rfl) (fun c r h=>by
   have:=(AFs h).1;subst this
   decide)
  refine⟨k1.1,?_⟩;have k2:=f5 (CY p) [] (by unfold JM BX;rw[AEK];omega) (by
   rw[oC,k1.2,show 1+(HS (Ah p)).length+1=((HS (Ah p)).length+1)+1 by omega,List.drop_succ_cons,List.drop_append];simp) (fun c r h=>by cases h)
  exact k2.1
 rcases AD8 (BX y 1 30&&BX y' 1 60)with h3|h3
 rotate_left
 ·rw[h3]
  refine⟨_,_,rfl,z,fun p hp ZN hw=> ?_⟩;obtain⟨a,b⟩:=comp p hp ZN hw;have hb:=E_ ZN;rw[a,b,Aw.2 hb.1,Aw.2 hb.2]at h3;cases h3
 rw[h3];simp only[AET,AEL];rw[Py (Rf _ _)];simp only[AF];rcases AD8 (ET (II y y')==w)with h5|h5
 ·rw[h5]
  refine⟨_,_,rfl,Rf _ _,fun p hp ZN hw=> ?_⟩;obtain⟨a,b⟩:=comp p hp ZN hw;rw[a,b,dW hp ZN]
 ·rw[h5]
  refine⟨_,_,rfl,z,fun p hp ZN hw=> ?_⟩;obtain⟨a,b⟩:=comp p hp ZN hw;rw[a,b,dW hp ZN,hw]at h5;simp at h5
end Go.M
end
section
namespace Go.M
open Go.Lib (decDigits itoa)
open Go.M.H (BO AR)
def Xo(k:Int)(l:AAQ):AR:=if k=11 then(k,0,l.getD 0 0,l.getD 1 0,[],())else(k,l.getD 0 0,l.getD 1 0,l.getD 2 0,[],())
def VX(k:Int):Nat:=(numsOf (k,0,0,0,[],())).length
theorem fq(d:AR):(numsOf d).length=VX d.1:=by
 unfold VX numsOf;simp only;split
 ·rfl
 split
 ·rfl
 split
 ·rfl
 split<;>rfl
theorem bB{k:Int}{l:AAQ}(hl:l.length=VX k):Rg k l=some ((Xo k l,()),()):=by
 have h3:l.length≤3:=by rw[hl];exact L2 _
 have h11:k=11→l.length=2:=fun h=>by rw[hl,h];rfl
 unfold Rg Xo;by_cases hk:k=11
 ·have:=h11 hk
  rw[hk,AEA (by omega),AEA (by omega)]
  match l,this with
  |[a,b],_=>rfl
 rw[AEO.2 hk,AEL,AEB hk]
 match l,h3 with
 |[],_=>rfl
 |[a],_=>rfl
 |[a,b],_=>rfl
 |[a,b,c],_=>rfl
 |a::b::c::e::r,h=>simp at h
def Su(D d:AR):AR:=if d.1=2 then(d.1,d.2.1,d.2.2.1,d.2.2.2.1,D.2.2.2.2.1,())else if d.1=13 then(d.1,D.2.1,d.2.2.1,d.2.2.2.1,d.2.2.2.2.1,())else d
theorem Zy{D:AR}(ho:Dq D=true):Su D (Xo D.1 (numsOf D))=D:=by
 obtain⟨hk,_⟩:=ES ho;obtain⟨k,a,b,n,t,⟨⟩⟩:=D;simp only at hk;unfold Dq at ho;simp only[AEF]at ho;obtain⟨_,h1,h2,h3,h4,_⟩:=ho;rcases Tn hk with rfl|rfl|rfl|rfl|rfl|rfl|rfl|rfl|rfl|rfl|rfl|rfl|rfl|rfl|rfl|rfl<;>simp[Nu]at h1 h2 h3 h4<;>simp[numsOf,Xo,Su, *]
def behind(D:AR):List Int→List UInt8
 |[]=>if D.1=2 then 32::D.2.2.2.2.1 else if D.1=13 then 32::ET D.2.1 else[]
 |n::l=>32::(HS n++behind D l)
theorem fh{D:AR}:∀(l:AAQ) (c:UInt8) (r:AAh),behind D l=c::r→c=32
 |[],c,r,h=>by
  unfold behind at h;split at h
  ·exact(AFs h).1.symm
  ·split at h
   ·exact(AFs h).1.symm
   ·cases h
 |n::l,c,r,h=>by
  unfold behind at h;exact(AFs h).1.symm
theorem Xg{D:AR}:∀(l:AAQ) (acc L:AAh),(J6 l acc).map (IM D)=some L→(∀n∈l,JM n=true)∧L=acc++behind D l
 |[],acc,L,h=>by
  simp only[J6,AGV,AD_]at h;refine⟨by simp,?_⟩;rw[←h];unfold IM behind;split
  ·simp
  ·split
   ·simp
   ·simp
 |n::l,acc,L,h=>by
  simp only[J6]at h;split at h
  case isFalse=>cases h
  rename_i hn;obtain⟨h1,h2⟩:=Xg l _ L h;refine⟨fun x hx=> ?_,?_⟩
  ·rcases AEd.1 hx with rfl|hx
   ·exact hn
   ·exact h1 x hx
  ·rw[h2]
   simp[behind]
theorem GV{D:AR}{line:AAh}(h:BG D=some line):Dq D=true∧(D.1=13→Ay D.2.1=true)∧(∀n∈numsOf D,JM n=true)∧line=BD D.1++behind D (numsOf D):=by
 have ho:=(IU h).1;rw[UO ho]at h;split at h
 ·cases h
 ·rename_i hc
  obtain⟨h1,h2⟩:=Xg _ _ _ h;refine⟨ho,fun gp=> ?_,h1,h2⟩;rcases AD8 (Ay D.2.1)with hp|hp
  ·exact hp
  ·exact absurd (.inl ⟨gp,hp⟩) hc
theorem Yn{line:AAh}{d:AR}(h:QK d):((EB d).bind fun NM=>cond (!NM.1.1.2.1) (some ((((0,0,0,0,[],()),false,()),()),())) (cond (!(NM.1.1.1==line)) (some ((((0,0,0,0,[],()),false,()),()),())) (some (((d,true,()),()),()))))=(some ((fin line d,()),()):Option D5):=by
 rw[Lr h];simp only[AF];unfold fin Im;cases hl:BG d with
 |none=>rfl
 |some t=>
  simp only[AGF,AET,AEL,AGC,AD_];by_cases e:t=line
  ·rw[AEA e,e];simp
  ·rw[AEB e,AEO.2 e];rfl
end Go.M
end
section
namespace Go.M
open Go.Lib (decDigits itoa)
open Go.M.H (BO AR)
def qK(line:AAh)(X0:AR→Prop)(o:AR×Bool×Unit):Prop:=
 (∃df,QK df∧o=fin line df∧ ∀D,QK D→X0 D→df=D)∨(o=(fV,false,())∧ ∀D,QK D→ ¬X0 D)
theorem jP{line:AAh}{a:Nat}(h:a≤line.length):(line.drop a).take (line.length-a)=line.drop a:=AF7 (by simp)
theorem ym{k:Int}{l:AAQ}(h:∀n∈l,BB n):QK (Xo k l):=by
 have z:BB 0:=by unfold BB;omega
 have g:∀i,BB (l.getD i 0):=fun i=>by
  by_cases hi:i<l.length
  ·rw[List.getD,AD9 hi];exact h _ (AEa hi)
  ·rw[List.getD,AF2 (by omega)];exact z
 unfold Xo;split
 ·exact⟨z,g 0,g 1⟩
 ·exact⟨g 0,g 1,g 2⟩
theorem Ss{k:Int}{l:AAQ}:(Xo k l).1=k:=by unfold Xo;split<;>rfl
theorem fk{line:AAh}(jU:line.length≤1048576){k:Int}(hk:1≤k∧k≤16):∀(n i a:Nat) (b:AAQ) (f:Nat),i+n=VX k→b.length=i→n<f→(∀x∈b,BB x)→a≤2^20+20*i→
  ∃o,CM f line k (VX k:Int) (a:Int) (i:Int) 0 0 0 0 [] 0 0 0 0 [] b=some ((o,()),())∧
   qK line (fun D=>D.1=k∧BG D=some line∧b=(numsOf D).take i∧line.drop a=behind D ((numsOf D).drop i)) o
 |n,i,a,b,0,_,_,hf,_,_=>by omega
 |0,i,a,b,f+1,hn,hb,hf,RE,ha=>by
  have hc3:VX k≤3:=L2 _;have known:∀D,QK D→(D.1=k∧BG D=some line∧b=(numsOf D).take i∧line.drop a=behind D ((numsOf D).drop i))→b=numsOf D∧line.drop a=behind D []∧Dq D=true∧(k=13→Ay D.2.1=true):=fun D hD h=>by
   obtain⟨h1,h2,h3,h4⟩:=h;have hl:(numsOf D).length=i:=by rw[fq,h1];omega
   obtain⟨p1,p2,_,_⟩:=GV h2;rw[AF7 (by omega)]at h3;rw[show(numsOf D).drop i=[]from AEU (by omega)]at h4;exact⟨h3,h4,p1,fun e=>p2 (h1.trans e)⟩
  show∃o,Dw (CG f) (CM f) _ _ _ _ _ _ _ _ _ _ _ _ _ _ _ _=_∧_
  unfold Dw;rw[AE,AEB (by omega),bB (by omega)];simp only[AF];have cm:=ym (k:=k) RE;rw[Je,AG (x:=(a:Int)+1) (by omega) (by omega)];simp only[AF];by_cases k2:k=2
  ·rw[k2]at cm⊢
   simp only[AGl,AEb];obtain⟨m,hm⟩:∃m:Nat,min ((a:Int)+1) (line.length:Int)=(m:Int):=⟨min (a+1) line.length,by omega⟩;have gV:m≤line.length:=by omega
   rw[hm,AEA (by omega)];simp only[show((m:Int)).toNat=m by omega,show((line.length:Int)).toNat=line.length by omega];rw[jP gV];have hd:QK ((Xo 2 b).1,(Xo 2 b).2.1,(Xo 2 b).2.2.1,(Xo 2 b).2.2.2.1,line.drop m,()):=⟨cm.a,cm.b,cm.c⟩;refine⟨fin line ((Xo 2 b).1,(Xo 2 b).2.1,(Xo 2 b).2.2.1,(Xo 2 b).2.2.2.1,line.drop m,()),Yn hd,.inl ⟨_,hd,rfl,fun D hD h=> ?_⟩⟩;rw[←k2]at h;obtain⟨q1,q2,q3,_⟩:=known D hD h;have yR:D.1=2:=h.1.trans k2;have SY:line.drop a=32::D.2.2.2.2.1:=by rw[q2];unfold behind;rw[AEA yR]
   have jC:a<line.length:=by
    by_cases hh:a<line.length
    ·exact hh
    ·rw[AEU (by omega)]at SY;cases SY
   have htx:line.drop m=D.2.2.2.2.1:=by
    rw[show m=a+1 by omega,←List.tail_drop,SY];rfl
   rw[htx,q1,←yR];have:=Zy q3;unfold Su at this;rw[Ss,AEA yR]at this;rw[Ss];exact this
  rw[AEO.2 k2,AEL];by_cases k13:k=13
  ·rw[k13]at cm⊢
   simp only[AGl,AEb];obtain⟨m,hm⟩:∃m:Nat,min ((a:Int)+1) (line.length:Int)=(m:Int):=⟨min (a+1) line.length,by omega⟩;have gV:m≤line.length:=by omega
   rw[hm,AEA (by omega)];simp only[show((m:Int)).toNat=m by omega,show((line.length:Int)).toNat=line.length by omega];rw[jP gV];obtain⟨x,bb,e1,e2,e3⟩:=Vf (w:=line.drop m);rw[e1];simp only[AF];have hd:QK ((Xo 13 b).1,x,(Xo 13 b).2.2.1,(Xo 13 b).2.2.2.1,(Xo 13 b).2.2.2.2.1,()):=⟨e2,cm.b,cm.c⟩;refine⟨fin line ((Xo 13 b).1,x,(Xo 13 b).2.2.1,(Xo 13 b).2.2.2.1,(Xo 13 b).2.2.2.2.1,()),Yn hd,.inl ⟨_,hd,rfl,fun D hD h=> ?_⟩⟩;rw[←k13]at h;obtain⟨q1,q2,q3,q4⟩:=known D hD h;have yR:D.1=13:=h.1.trans k13;have SY:line.drop a=32::ET D.2.1:=by rw[q2];unfold behind;rw[AEB (by omega),AEA yR]
   have jC:a<line.length:=by
    by_cases hh:a<line.length
    ·exact hh
    ·rw[AEU (by omega)]at SY;cases SY
   have htx:line.drop m=ET D.2.1:=by
    rw[show m=a+1 by omega,←List.tail_drop,SY];rfl
   rw[e3 D.2.1 hD.a (q4 k13) htx.symm,q1,←yR];have:=Zy q3;unfold Su at this;rw[Ss,AEB (by omega),AEA yR]at this;rw[Ss];exact this
  rw[AEO.2 k13,AEL];refine⟨fin line (Xo k b),Yn cm,.inl ⟨_,cm,rfl,fun D hD h=> ?_⟩⟩;obtain⟨q1,q2,q3,q4⟩:=known D hD h;have:=Zy q3;unfold Su at this;rw[Ss,h.1,AEB k2,AEB k13]at this;rw[q1];exact this
 |n+1,i,a,b,f+1,hn,hb,hf,RE,ha=>by
  have hc3:VX k≤3:=L2 _
  show∃o,Dw (CG f) (CM f) _ _ _ _ _ _ _ _ _ _ _ _ _ _ _ _=_∧_
  unfold Dw;rw[AE,AEA (by omega),AG (x:=(a:Int)+1) (by omega) (by omega)];obtain⟨y,p,e1,e2,e3,e4,e5⟩:=O5 (s:=line) (j:=a+1) (by omega);rw[show((a:Int)+1)=((a+1:Nat):Int)by omega,e1];simp only[AF,AE];have known:∀D,QK D→(D.1=k∧BG D=some line∧b=(numsOf D).take i∧line.drop a=behind D ((numsOf D).drop i))→y=(numsOf D).getD i 0∧0≤y∧b++[y]=(numsOf D).take (i+1)∧line.drop p=behind D ((numsOf D).drop (i+1)):=fun D hD h=>by
   obtain⟨h1,h2,h3,h4⟩:=h;have hl:i<(numsOf D).length:=by rw[fq,h1];omega
   obtain⟨_,_,p3,_⟩:=GV h2;rw[AFq hl]at h4;have hm:=p3 _ (AEa hl);simp only[behind]at h4;have h5:line.drop (a+1)=HS (numsOf D)[i]++behind D ((numsOf D).drop (i+1)):=by rw[←List.tail_drop,h4];rfl
   obtain⟨r1,r2⟩:=e5 _ _ hm h5 fun c r hcr=>by
    rw[fh _ _ _ hcr]
    decide
   refine⟨by rw[r1,List.getD,AD9 hl];rfl,?_,?_,?_⟩
   ·rw[r1]
    unfold JM BX at hm;simp only[AEK]at hm;exact hm.1
   ·rw[r1,h3,List.take_succ_eq_append_getElem hl]
   ·rw[r2,←AHK,h5,List.drop_append]
    simp
  by_cases hy:y<0
  ·rw[AEA hy]
   exact⟨_,rfl,.inr ⟨rfl,fun D hD h=>by have:=known D hD h;omega⟩⟩
  rw[AEB hy,AEA (by rw[Ao];omega),AG (x:=(i:Int)+1) (by omega) (by omega)];obtain⟨o,g1,g2⟩:=fk jU hk n (i+1) p (b++[y]) f (by omega) (by simp[hb]) (by omega) (fun x hx=>by
   rcases AEZ.1 hx with hx|hx
   ·exact RE x hx
   ·simp only[AFp]at hx
    subst hx;unfold BB;omega) (by omega)
  refine⟨o,g1,?_⟩;rcases g2 with⟨df,q1,q2,q3⟩|⟨q1,q2⟩
  ·exact .inl ⟨df,q1,q2,fun D hD h=>q3 D hD ⟨h.1,h.2.1,(known D hD h).2.2.1,(known D hD h).2.2.2⟩⟩
  ·exact .inr ⟨q1,fun D hD h=>q2 D hD ⟨h.1,h.2.1,(known D hD h).2.2.1,(known D hD h).2.2.2⟩⟩
theorem gL:∀j∈List.range 16,∀i∈List.range 16,j≠i→ ∀m,m≤(Cj.getD j []).length→m≤(Cj.getD i []).length→(m=(Cj.getD j []).length∨m=(Cj.getD i []).length)→(Cj.getD j []).take m≠(Cj.getD i []).take m:=by
 decide
theorem kH{j k:Int}(hj:1≤j∧j≤16)(hk:1≤k∧k≤16){r:AAh}(h:(BD k++r).take (BD j).length=BD j):j=k:=by
 by_cases e:(j-1).toNat=(k-1).toNat
 ·omega
 exfalso
 have key:=gL (j-1).toNat (List.mem_range.2 (by omega)) (k-1).toNat (List.mem_range.2 (by omega)) e (min (BD j).length (BD k).length) (by unfold BD;omega) (by unfold BD;omega) (by unfold BD;omega);apply key
 show(BD j).take _=(BD k).take _
 have e1:(BD j).take (min (BD j).length (BD k).length)=(BD k++r).take (min (BD j).length (BD k).length):=by
  conv=>lhs;rw[←h]
  rw[List.take_take];congr 1;rw[h];omega
 rw[e1,List.take_append_of_le_length (by omega)]
theorem i_{line:AAh}(jU:line.length≤1048576):∀(n:Nat) (k:Int) (f:Nat),k+n=17→1≤k→n+10<f→
  (∀D,QK D→BG D=some line→k≤D.1)→
  ∃o,CG f line k 0 0 0 0 [] 0 0 0 0 []=some ((o,()),())∧Um line o
 |n,k,0,_,_,hf,_=>by omega
 |0,k,f+1,hn,h1,hf,lV=>by
  show∃o,EO (CG f) (CM f) _ _ _ _ _ _ _ _ _ _ _ _=_∧_
  unfold EO;rw[AE,AEB (by omega)];refine⟨_,rfl,.inr ⟨fun d hd h=> ?_,rfl⟩⟩;have:=lV d hd h;have:=(ES (GV h).1).1;omega
 |n+1,k,f+1,hn,h1,hf,lV=>by
  have hk:1≤k∧k≤16:=by omega
  show∃o,EO (CG f) (CM f) _ _ _ _ _ _ _ _ _ _ _ _=_∧_
  unfold EO;have hw:=Nz k;rw[AE,AEA (by omega),SO hk,AG (x:=k+1) (by omega) (by omega)];simp only[AF,AE];have next:(∀D,QK D→BG D=some line→D.1≠k)→ ∃o,CG f line (k+1) 0 0 0 0 [] 0 0 0 0 []=some ((o,()),())∧Um line o:=fun SY=>
   i_ jU n (k+1) f (by omega) (by omega) (by omega) fun D hD h=>by
    have:=lV D hD h;have:=SY D hD h;omega
  have pre:∀D,QK D→BG D=some line→D.1=k→(BD k).length≤line.length∧line.take (BD k).length=BD k:=fun D hD h e=>by
   obtain⟨_,_,_,h4⟩:=GV h;rw[←e,h4];simp
  by_cases hl:(line.length:Int)<((BD k).length:Int)
  ·rw[AEA hl]
   exact next fun D hD h e=>by have:=(pre D hD h e).1;omega
  rw[AEB hl,AEA (by omega)];rw[show((((BD k).length:Nat):Int)).toNat-0=(BD k).length by omega,AGH];by_cases hp:line.take (BD k).length=BD k
  rotate_left
  ·rw[AEO.2 hp]
   exact next fun D hD h e=>hp (pre D hD h e).2
  rw[hp];simp only[AGl,AET,AEL];rw[show((k,0,0,0,[],()):AR)=(k,0,0,0,[],())from rfl,SD];simp only[AF];obtain⟨o,g1,g2⟩:=fk jU hk (VX k) 0 (BD k).length [] f (by omega) rfl (by have:=L2 (k,0,0,0,[],());unfold VX;omega) (by simp) (by omega);refine⟨o,g1,?_⟩;have all:∀D,QK D→BG D=some line→D.1=k∧BG D=some line∧[]=(numsOf D).take 0∧line.drop (BD k).length=behind D ((numsOf D).drop 0):=fun D hD h=>by
   obtain⟨p1,_,_,h4⟩:=GV h;have e:k=D.1:=kH hk (ES p1).1 (r:=behind D (numsOf D)) (by rw[←h4];exact hp);refine⟨e.symm,h,rfl,?_⟩;rw[h4,e];simp
  rcases g2 with⟨df,q1,q2,q3⟩|⟨q1,q2⟩
  ·rw[q2]
   exact cG q1 fun D hD h=>q3 D hD (all D hD h)
  ·rw[q1]
   exact .inr ⟨fun D hD h=>q2 D hD (all D hD h),rfl⟩
theorem Vh{line:AAh}(hl:line.length≤1048576):∃o,Ig line=some ((o,()),())∧Um line o:=by
 unfold Ig Mb;exact i_ hl 16 1 Ar (by omega) (by omega) (A0 (by omega)) fun D hD h=>(ES (GV h).1).1.1
theorem gv{line:AAh}{o o':AR×Bool×Unit}(h:Um line o)(h':Um line o'):o=o':=by
 rcases h with⟨d,h1,h2,rfl,h3⟩|⟨h1,rfl⟩
 ·rcases h' with⟨d',k1,k2,rfl,_⟩|⟨k1,rfl⟩
  ·rw[h3 d' k1 k2]
  ·exact absurd h2 (k1 d h1)
 ·rcases h' with⟨d',k1,k2,rfl,_⟩|⟨k1,rfl⟩
  ·exact absurd k2 (h1 d' k1)
  ·rfl
end Go.M
end
section
set_option maxRecDepth 8000
namespace Go.M
open Go.M.H (AH AN A7 A3 AA Co AK BQ AQ Aj BO A_ AR Ax Ce Af AW Ac Az CN Bf A4 Bq Ek Cp C1 Dm)
abbrev ACi:AR×Unit→Unit→Prop:=fun x _=>QK x.1∧x.1.2.2.2.2.1.length≤100
theorem ZM{D:AR}(hd:QK D)(ho:Dq D=true):∀l:List Int,(∀n∈l,BB n)→(behind D l).length≤20*l.length+41
 |[],_=>by
  have h40:=(ES ho).2;have:=U2 D.2.1;unfold behind;split
  ·simp only[AEI,AEc];omega
  ·split
   ·simp only[AEI,AEc];omega
   ·simp
 |n::l,h=>by
  have:=ZM hd ho l fun x hx=>h x (by simp[hx])
  have hn:BB n:=h n (by simp);have:=cD hn.2;simp only[behind,AEI,AEM];omega
theorem VC{D:AR}(hd:QK D):(Im (BG D)).1.length≤1000:=by
 cases h:BG D with
 |none=>simp[Im]
 |some t=>
  obtain⟨h1,_,_,h4⟩:=GV h;have:=ZM hd h1 (numsOf D) (bh hd);have:=L2 D;have:=Nz D.1
  show t.length≤1000
  rw[h4,AEM];omega
theorem bT{D:AR}(hd:QK D){t:AAh}(h:BG D=some t):t.length≤1048576:=by
 have:=VC hd;rw[h]at this;have e:(Im (some t)).1.length=t.length:=rfl;omega
section
variable{code:AAQ} (hc:code.length≤2^30)
include hc
theorem ki{d:AR}(hd:QK d)(ht:d.2.2.2.2.1.length≤100){i h:Int}(hi:Ch code i):OK code ACi (ME d code i h):=by
 unfold ME;refine OK.bind (Ej hc hi (by omega)) fun x i1 h1 y MT hq=> ?_
 dsimp only;refine OK.Pg (fun _=> ?_) (fun _=> ?_)
 ·refine OK.bind (Ej hc MT (by omega)) fun x2 i2 h2 y2 Sb gW=> ?_
  exact OK.some Sb ⟨⟨hd.a,hd.b,hd.c⟩,ht⟩
 refine OK.Pg (fun _=> ?_) (fun _=> ?_)
 ·refine OK.bind (RZ hc MT (by simp) (by simp)) fun x2 i2 h2 y2 Sb gW=> ?_
  refine OK.some Sb ⟨⟨?_,hd.b,hd.c⟩,ht⟩
  show BB x2.1
  simp only[AEd,AHD,or_false]at gW;unfold BB;omega
 refine OK.Pg (fun _=> ?_) (fun _=> ?_)
 ·refine OK.bind (RZ hc MT (by simp) (by simp)) fun x2 i2 h2 y2 Sb gW=> ?_
  refine OK.some Sb ⟨⟨hd.a,?_,hd.c⟩,ht⟩
  show BB x2.1
  simp only[AEd,AHD,or_false]at gW;unfold BB;omega
 refine OK.Pg (fun _=> ?_) (fun _=> ?_)
 ·exact OK.some MT ⟨⟨hd.a,hd.b,iS _⟩,ht⟩
 refine OK.Pg (fun _=> ?_) (fun _=> ?_)
 ·refine OK.bind (Ej hc MT (by omega)) fun x2 i2 h2 y2 Sb gW=> ?_
  have b:=gW.2.1 (by omega);have b0:=gW.1;dsimp only;rw[AG (x:=40+x2.1) (by omega) (by omega)];refine OK.ite (by rw[Ao];omega) ?_
  refine OK.some Sb ⟨⟨hd.a,hd.b,hd.c⟩,?_⟩
  show((List.replicate (40+x2.1).toNat (0:Int)).map fun n:Int=>UInt8.ofNat n.toNat).length≤100
  rw[AGc,AGZ];omega
 ·exact OK.some MT ⟨⟨hd.a,hd.b,hd.c⟩,ht⟩
theorem pq{s:AAh}{l:List AAh}(hs:s.length≤1000)(hl:l≠[])(hn:l.length≤100)(hm:∀x∈l,x.length≤100){i h:Int}(hi:Ch code i):OK code (fun(x:ABR) (_:Unit)=>x.1.length≤3000) (HD s l code i h):=by
 unfold HD;rw[AG (x:=(s.length:Int)+1) (by omega) (by omega)];refine OK.bind (Ej hc hi (by omega)) fun x i1 h1 y MT hq=> ?_
 dsimp only;have b:=hq.2.1 (by omega);have b0:=hq.1;obtain⟨k,hk⟩:∃k:Nat,x.1=k:=⟨x.1.toNat,by omega⟩;rw[hk]at b b0⊢;refine OK.bind (Ej hc MT (by omega)) fun x2 i2 h2 y2 Sb gW=> ?_
 dsimp only;have e0:(s.drop 0).take ((k:Int).toNat-0)=s.take k:=by simp
 simp only[e0];refine OK.Pg (fun _=> ?_) (fun _=> ?_)
 ·refine OK.ite (by omega) ?_
  refine OK.some Sb ?_
  show(s.take k).length≤3000
  rw[AGm];omega
 refine OK.Pg (fun _=> ?_) (fun _=> ?_)
 ·refine OK.ite (by omega) ?_
  refine OK.bind (Tw hc Sb hl (by omega)) fun x3 i3 h3 y3 gd hq3=> ?_
  dsimp only;have hx:=hm _ hq3;have ht:(s.take k).length≤1000:=by rw[AGm];omega
  refine OK.ite (by rw[Ao];omega) ?_
  rw[AG (x:=(k:Int)+1) (by omega) (by omega)];refine OK.pure Je ?_
  dsimp only;refine OK.ite (by omega) ?_
  have hd:((s.drop (min ((k:Int)+1) (s.length:Int)).toNat).take ((s.length:Int).toNat-(min ((k:Int)+1) (s.length:Int)).toNat)).length≤1000:=by
   rw[AGm,AHC];omega
  refine OK.ite (by rw[Ao,AEM];omega) ?_
  refine OK.some gd ?_
  dsimp only;simp only[AEM];omega
 ·refine OK.ite (by omega) ?_
  refine OK.ite (by omega) ?_
  refine OK.bind (Tw hc Sb hl (by omega)) fun x3 i3 h3 y3 gd hq3=> ?_
  dsimp only;have hx:=hm _ hq3;have ht:(s.take k).length≤1000:=by rw[AGm];omega
  have hd:((s.drop (k:Int).toNat).take ((s.length:Int).toNat-(k:Int).toNat)).length≤1000:=by
   rw[AGm,AHC];omega
  refine OK.ite (by rw[Ao];omega) ?_
  refine OK.ite (by rw[Ao,AEM];omega) ?_
  refine OK.some gd ?_
  dsimp only;simp only[AEM];omega
theorem VD{s:AAh}(hs:s.length≤1000){i h:Int}(hi:Ch code i):OK code (fun(x:ABR) (_:Unit)=>x.1.length≤3000) ((Al 12 code i h).bind fun u6=>cond (u6.1.1)
   ((HD s [[32],[48],[120],[57],[35],[97,100,100],[101,49,46,49]] u6.2.1.1 u6.2.1.2.1 u6.2.1.2.2.1).bind fun u7=>
   some ((u7.1.1,()),((u7.2.1.1,u7.2.1.2.1,u7.2.1.2.2.1,()),())))
  (some ((s,()),((u6.2.1.1,u6.2.1.2.1,u6.2.1.2.2.1,()),())))):=by
 refine OK.bind (Ny hc hi (by omega)) fun x i1 h1 y MT hq=> ?_
 dsimp only;refine OK.cond (fun _=> ?_) (fun _=>OK.some MT (by show s.length≤3000;omega));refine OK.bind (pq hc hs (by simp) (by simp) (by decide) MT) fun x2 i2 h2 y2 Sb gW=> ?_
 exact OK.some Sb gW
theorem fZ{w:AA}(hw:LD w)(hr:eL w){i h:Int}(hi:Ch code i):OK code (fun(x:ABR) (_:Unit)=>x.1.length≤3000) (I0 w code i h):=by
 unfold I0;rw[show(w.1,w.2.1,w.2.2.1,w.2.2.2.1,w.2.2.2.2.1,w.2.2.2.2.2.1,w.2.2.2.2.2.2.1,w.2.2.2.2.2.2.2.1,w.2.2.2.2.2.2.2.2.1,w.2.2.2.2.2.2.2.2.2.1,w.2.2.2.2.2.2.2.2.2.2.1,())=w from rfl];refine OK.bind (Tw hc hi (by simp) (by simp)) fun x i1 h1 y MT hq=> ?_
 have hx:x.1.length≤1000:=by
  have:∀z∈([[106,117,100,103,101],[111,117,116,32,48],[111,117,116,32,49],[],[35],[104,101,108,112],[111,117,116,32,50],[109,101,110,100,32],[116,114,105,109,32,101,49,46,49],[112,108,97,110]]:List AAh),z.length≤1000:=by decide
  exact this _ hq
 dsimp only;refine OK.bind (Ny hc MT (by omega)) fun x2 i2 h2 y2 Sb gW=> ?_
 dsimp only;refine OK.cond (fun _=> ?_) (fun _=>VD hc hx Sb);refine OK.pure (SH (hw.win hr)) ?_
 dsimp only;refine OK.cond (fun _=> ?_) (fun _=>VD hc hx Sb);refine OK.bind (Sx hc hw Sb) fun d i3 h3 y3 gd hq3=> ?_
 obtain⟨q1,q2,q3,q4⟩:=hq3;have hd:QK d.1:=⟨q1,q2,q3⟩;refine OK.pure (Lr hd) ?_
 dsimp only;refine OK.cond (fun ho=> ?_) (fun _=>VD hc hx gd);refine VD hc ?_ gd
 show(Im (BG d.1)).1.length≤1000
 exact VC hd
end
theorem lJ{x:AAQ}(hc:x.length≤2^30):∃d,IA x=some ((d,()),())∧QK d:=by
 obtain⟨h0,e0⟩:=fU hc;unfold IA;rw[e0];simp only[AF];obtain⟨x,i1,h1,y,e1,MT,hq⟩:=Zh hc (T:=20) (by omega) (i:=0) (hh:=h0) ⟨by omega,by omega⟩;rw[e1];simp only[AF];rw[show(y.2.2.2.2.2.2.2.2.2.1,x.1.2.2.1.2.1,y.2.2.2.2.2.2.2.2.2.2.1,y.2.2.2.2.2.2.2.2.2.2.2.1,y.2.2.2.2.2.2.2.2.2.2.2.2.1,x.1.2.2.1.2.2.2.2.2.1,y.2.2.2.2.2.2.2.2.2.2.2.2.2.1,y.2.2.2.2.2.2.2.2.2.2.2.2.2.2.1,y.2.2.2.2.2.2.2.2.2.2.2.2.2.2.2.1,y.2.2.2.2.2.2.2.2.2.2.2.2.2.2.2.2.1,x.1.2.2.1.2.2.2.2.2.2.2.2.2.2.1,())=RH x y from rfl]
 generalize RH x y=w at hq
 obtain⟨hw,hr,_⟩:=hq;obtain⟨d,i2,h2,y2,e2,Sb,q1,q2,q3,q4⟩:=Sx hc hw (hh:=h1) MT;rw[e2];simp only[AF];obtain⟨d',i3,h3,y3,e3,gd,hd,ht⟩:=ki hc (d:=d.1) ⟨q1,q2,q3⟩ (by omega) (h:=h2) Sb;rw[show(d.1.1,d.1.2.1,d.1.2.2.1,d.1.2.2.2.1,d.1.2.2.2.2.1,())=d.1 from rfl,e3];simp only[AF];obtain⟨x4,i4,h4,y4,e4,hi4,_⟩:=Ej hc (n:=20) (h:=h3) gd (by omega);rw[e4];simp only[AF];cases x4.1==0
 rotate_left
 ·rw[AEb,AEA (by rw[Ao];omega)]
  exact⟨_,rfl,hd.a,hd.b,hd.c⟩
 rw[AEL];cases x4.1==1
 rotate_left
 ·rw[AEb]
  obtain⟨x5,i5,h5,y5,e5,hi5,hq5⟩:=RZ hc (l:=[9999999999,10000000000]) (h:=h4) hi4 (by simp) (by simp);rw[e5];refine⟨_,rfl,?_,hd.b,hd.c⟩
  show BB x5.1
  simp only[AEd,AHD,or_false]at hq5;unfold BB;omega
 rw[AEL];cases x4.1==2
 rotate_left
 ·rw[AEb]
  obtain⟨x5,i5,h5,y5,e5,hi5,hq5⟩:=dA hc (hh:=h4) hi4;rw[e5];have z:BB 0:=Hc (by omega);exact⟨_,rfl,hq5,z,z⟩
 rw[AEL];exact⟨_,rfl,hd.a,hd.b,hd.c⟩
theorem ky{x:AAQ}(hc:x.length≤2^30):∃s,FZ x=some ((s,()),())∧s.length≤3000:=by
 obtain⟨h0,e0⟩:=fU hc;unfold FZ;rw[e0];simp only[AF];obtain⟨x,i1,h1,y,e1,MT,hq⟩:=Zh hc (T:=20) (by omega) (i:=0) (hh:=h0) ⟨by omega,by omega⟩;rw[e1];simp only[AF];rw[show(y.2.2.2.2.2.2.2.2.2.1,x.1.2.2.1.2.1,y.2.2.2.2.2.2.2.2.2.2.1,y.2.2.2.2.2.2.2.2.2.2.2.1,y.2.2.2.2.2.2.2.2.2.2.2.2.1,x.1.2.2.1.2.2.2.2.2.1,y.2.2.2.2.2.2.2.2.2.2.2.2.2.1,y.2.2.2.2.2.2.2.2.2.2.2.2.2.2.1,y.2.2.2.2.2.2.2.2.2.2.2.2.2.2.2.1,y.2.2.2.2.2.2.2.2.2.2.2.2.2.2.2.2.1,x.1.2.2.1.2.2.2.2.2.2.2.2.2.2.1,())=RH x y from rfl]
 generalize RH x y=w at hq
 obtain⟨hw,hr,_⟩:=hq;obtain⟨s,i2,h2,y2,e2,Sb,hs⟩:=fZ hc hw hr (h:=h1) MT;rw[e2];exact⟨s.1,rfl,hs⟩
theorem YI{x:AAQ}(hx:Go.Fw.Vd (.sl (.int .u8)) x):Hh x=some ((true,()),()):=by
 unfold Hh aa;simp only[AEV,AE];by_cases hs:(x.length:Int)>1048576
 ·rw[AEA hs]
 rw[AEB hs];obtain⟨d,e1,hd⟩:=lJ (x:=x) (by omega);obtain⟨s,e2,zH⟩:=ky (x:=x) (by omega);rw[e1,e2];simp only[AEV];rw[show(d.1,d.2.1,d.2.2.1,d.2.2.2.1,d.2.2.2.2.1,())=d from rfl,MB hd,Lr hd,Sl,Ol];simp only[AEV,bne_self_eq_false,AEL];obtain⟨o,f1,g1⟩:=PT (line:=s) (by omega);obtain⟨o',f2,g2⟩:=Vh (line:=s) (by omega);obtain rfl:=gv g1 g2;have hod:QK o.1:=by
  rcases g1 with⟨d',k1,_,rfl,_⟩|⟨_,rfl⟩
  ·exact k1
  ·have z:BB 0:=Hc (by omega)
   exact⟨z,z,z⟩
 rw[f1,f2];simp only[AEV,bne_self_eq_false,AEL];rw[show(o.1.1,o.1.2.1,o.1.2.2.1,o.1.2.2.2.1,o.1.2.2.2.2.1,())=o.1 from rfl,MB hod];simp only[AEV];have last:∀Z:Option Pk,Z=(cond (!o.2.1)
    (cond (((o.1.1==0)&&((o.1.2.1==0)&&((o.1.2.2.1==0)&&((o.1.2.2.2.1==0)&&((o.1.2.2.2.2.1==[])&&true))))))
     (some ((true,()),()))
    (cond (o.2.1)
     (cond ((Im (BG o.1)).2.1)
      (some (((Im (BG o.1)).1==s,()),()))
     (some ((false,()),())))
    (some ((false,()),()))))
   (cond (o.2.1)
    (cond ((Im (BG o.1)).2.1)
     (some (((Im (BG o.1)).1==s,()),()))
    (some ((false,()),())))
   (some ((false,()),()))))→Z=some ((true,()),()):=fun Z hZ=>by
  rw[hZ];rcases g1 with⟨d',_,k2,rfl,_⟩|⟨_,rfl⟩
  ·simp[Im,k2]
  ·simp[fV]
 by_cases hl:BG d=none
 ·rw[hl]
  exact last _ rfl
 obtain⟨t,ht⟩:∃t,BG d=some t:=by
  cases hh:BG d with
  |none=>exact absurd hh hl
  |some t=>exact⟨t,rfl⟩
 rw[ht];simp only[Im,AGC,AGF,AEb];obtain⟨b,b1,b2⟩:=PT (line:=t) (bT hd ht);rw[b1];have hb:b=(d,true,()):=by
  rcases b2 with⟨d',_,k2,rfl,k4⟩|⟨k1,_⟩
  ·rw[k4 d hd ht]
  ·exact absurd ht (k1 d hd)
 subst hb;simp only[AEV,AET,AEL,AGl,Bool.and_self];exact last _ rfl
end Go.M
end
