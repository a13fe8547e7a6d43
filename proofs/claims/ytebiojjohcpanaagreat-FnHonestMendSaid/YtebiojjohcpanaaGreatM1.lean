/- Plain facts on what the functions compute. -/
import Derived.Test.YtebiojjohcpanaaGreatM0
set_option linter.unusedVariables false
set_option linter.unusedSimpArgs false
set_option linter.unusedSectionVars false
section
set_option maxRecDepth 8000
namespace Go.M
open Go.M.H (AA AJ AN AO AR AS AU AY Af Ag Ah Aj Ak Ao Aq Av Az BA BD BU Bk C8 CK CL CW Cn D9)
abbrev AXr:AJ×Unit->Unit->Prop:=fun x _=>CB x.1.1/\x.1.2.2.2.1.length<=41
section
variable{code:AAB} (hc:code.length<=2^30)
include hc
theorem XG{i hh:Int}(hi:Cl code i):OK code (fun(x:ABq) (_:Unit)=>CB x.1) (FV code i hh):=by
 obtain⟨v,i1,h1,e,a,b,MJ⟩:=r7 hc (h:=hh) hi;exact⟨(v,()),i1,h1,(),e,MJ,by unfold CB;omega⟩
theorem nz{i hh:Int}(hi:Cl code i):OK code AXr (Me code i hh):=by
 unfold Me;dsimp only;refine OK.bind (CJ hc hi (by omega)) fun x1 i1 h1 y1 MJ hq1=> ?_
 dsimp only at*;refine OK.bind (CJ hc MJ (by omega)) fun x2 i2 h2 y2 Ig sy=> ?_
 dsimp only at*;rw[AH (by omega) (by omega),AH (x:=1+x2.1) (by omega) (by omega)];refine OK.pure (GH (by omega) (by omega)) ?_
 dsimp only;have hp:=Jn (e:=1+x1.1) (o:=1+x2.1) (by omega) (by omega);have hpi:=HG hp.1;refine OK.bind (py hc Ig (by simp) (by simp)) fun x3 i3 h3 y3 Lq WE=> ?_
 dsimp only at*;have hl:x3.1.length<=41:=by
  simp only[ASY,AY6,or_false]at WE;rcases WE with h|h|h|h|h<;>rw[h]<;>simp
 refine OK.bind (QM hc Lq (by omega)) fun x4 i4 h4 y4 wk hq4=> ?_
 dsimp only;refine OK.cond (fun _=> ?_) (fun _=>OK.some wk ⟨hpi,hl⟩);refine OK.pure (EW hpi) ?_
 dsimp only;refine OK.bind (CJ hc wk (by omega)) fun x5 i5 h5 y5 hi5 hq5=> ?_
 dsimp only;refine OK.bind (QM hc hi5 (by omega)) fun x6 i6 h6 y6 hi6 hq6=> ?_
 dsimp only;exact OK.cond (fun _=>OK.some hi6 ⟨hpi,by show 0<=41;omega⟩) (fun _=>OK.some hi6 ⟨hpi,hl⟩)
theorem iy{i hh:Int}(hi:Cl code i):OK code AXr (SD code i hh):=by
 unfold SD;refine OK.bind (nz hc hi) fun x i h y hi hq=> ?_
 dsimp only at*;refine OK.bind (CJ hc hi (by omega)) fun x2 i2 h2 y2 Ig sy=> ?_
 dsimp only at*;refine OK.GO (fun _=> ?_) (fun _=> ?_)
 ·refine OK.bind (XG hc Ig) fun x3 i3 h3 y3 Lq WE=> ?_
  exact OK.some Lq ⟨WE,hq.2⟩
 refine OK.GO (fun _=> ?_) (fun _=> ?_)
 ·refine OK.bind (Rg hc Ig (by simp) (by simp)) fun x3 i3 h3 y3 Lq WE=> ?_
  exact OK.some Lq hq
 refine OK.GO (fun _=>OK.some Ig hq) (fun _=> ?_);refine OK.GO (fun _=> ?_) (fun _=>OK.some Ig hq);refine OK.bind (CJ hc Ig (by omega)) fun x3 i3 h3 y3 Lq WE=> ?_
 dsimp only at*;rw[AH (by omega) (by omega)];refine OK.ite (by rw[Ap];omega) ?_
 refine OK.some Lq ⟨hq.1,?_⟩;simp only[AWA,AVz];omega
abbrev StQ:AFW->((List AJ)×(List AJ)×Unit)->Prop:=fun x y=>kC (y.1,y.2.1,x.1.2.2.1,())/\y.1.length<=300/\y.2.1.length<=300/\(∀e∈y.1,Ah e<=41)/\(∀e∈y.2.1,Ah e<=41)
theorem ASj{s:AO}(h:dO s):kC s/\s.1.length<=200/\s.2.1.length<=20/\(∀e∈s.1,Ah e<=41)/\(∀e∈s.2.1,Ah e<=41):=
 ⟨h.sin,h.nk,h.nl,fun e he=>by have:=(Fp.1 (h.kept e he)).len;unfold Ah;omega,fun e he=>by have:=(Fp.1 (h.late e he)).len;unfold Ah;omega⟩
theorem zM{x2 x3:List AJ}{z:Int}{sl:Int}{l6:List AJ}{i hh:Int}(hi:Cl code i)(h6:gu l6/\l6.length<=20/\ ∀e∈l6,Ah e<=41):∀n:Nat,
  (∀(k:Nat) (b:List AJ),1<=k->k<=5->(5-k)*60+1<=n->b.length<=(k-1)*50->gu b->(∀e∈b,Ah e<=41)->OK code StQ (FJ n k code i hh z x2 x3 sl b l6))/\
  (∀(k j:Nat) (b:List AJ),1<=k->k<=4->1<=j->j<=51->(4-k)*60+1+(51-j)+1<=n->b.length<=(k-1)*50+(j-1)->gu b->(∀e∈b,Ah e<=41)->OK code StQ (FF n k j code i hh z x2 x3 sl b l6)):=by
 intro n
 induction n with
 |zero=>exact⟨fun k b _ _ h=>by omega,fun k j b _ _ _ _ h=>by omega⟩
 |succ n ih=>
  refine⟨fun k b h1 h2 hn hb we rk=> ?_,fun k j b h1 h2 h3 h4 hn hb we rk=> ?_⟩
  ·simp only[FJ,R_]
   refine OK.Qq (fun Ha=>ih.2 k 1 b h1 (by omega) (by omega) (by omega) (by omega) (by omega) we rk) (fun yz=> ?_);exact OK.some hi ⟨⟨we,h6.1⟩,by show b.length<=300;omega,by show l6.length<=300;omega,rk,h6.2.2⟩
  ·simp only[FF,Si]
   refine OK.Qq (fun Ha=> ?_) (fun yz=> ?_)
   ·refine OK.pure (GH (by omega) (by omega)) ?_
    dsimp only;refine OK.ite (by rw[Ap];omega) ?_
    rw[AH (by omega) (by omega),show((j:Int)+1)=((j+1:Nat):Int)by omega];have hp:=HG (Jn (e:=(k:Int)) (o:=(j:Int)) (by omega) (by omega)).1;refine ih.2 k (j+1) _ h1 h2 (by omega) (by omega) (by omega) (by simp;omega) (fun e he=> ?_) (fun e he=> ?_)
    ·rcases ARh.1 he with he|he
     ·exact we e he
     ·rw[AU4.1 he];exact hp
    ·rcases ARh.1 he with he|he
     ·exact rk e he
     ·rw[AU4.1 he];show 0<=41;omega
   ·rw[AH (by omega) (by omega),show((k:Int)+1)=((k+1:Nat):Int)by omega]
    exact ih.1 (k+1) b (by omega) (by omega) (by omega) (by omega) we rk
theorem ACJ{x2 x3:List AJ}{z:Int}{T:Int}(hT:T<=100):∀(n k:Nat) (i hh:Int) (s:AO),Cl code i->(k:Int)<=max T 0->(T-k).toNat+400<=n->dO s->
  OK code StQ (Eh n T k code i hh z x2 x3 s.2.2.1 s.1 s.2.1):=by
 intro n
 induction n with
 |zero=>intro k i hh s _ _ h;omega
 |succ n ih=>
  intro k i hh s hi hk hn hs;have hsw:=hs.w;simp only[Eh,Sv];refine OK.Qq (fun Ha=> ?_) (fun yz=> ?_)
  ·rw[AH (x:=(k:Int)+1) (by omega) (by omega),show((k:Int)+1)=((k+1:Nat):Int)by omega]
   have next:∀(i hh:Int) (s:AO),Cl code i->dO s->OK code StQ (Eh n T ((k+1:Nat):Int) code i hh z x2 x3 s.2.2.1 s.1 s.2.1):=fun i hh s hi hs=>ih (k+1) i hh s hi (by omega) (by omega) hs
   refine OK.bind (nz hc hi) fun x i1 h1 y MJ hq=> ?_
   dsimp only at*;rw[QD s,cu x.1];refine OK.pure (U1 (by omega) hs.sin hq.1) ?_
   dsimp only[jv];have AEL:dO (Hd s x.1).1:=by
    rcases AOB (Hd s x.1).2 with h2|h2
    ·exact(fN h2).1
    ·unfold Hd at h2|-
     rw[De.2 hs]at h2|-;simp only[AOx,AO5,ATF]at h2|-;split at h2
     ·cases h2
     ·rename_i hn;rw[AOK hn];exact hs
   have AfU:=AEL.w;have AOF:∀s:AO,dO s->(CI s).2=true->dO (CI s).1:=fun s hs h2=>(N2 h2).2.1
   refine OK.bind (CJ hc MJ (by omega)) fun x2' i2 h2 y2 Ig sy=> ?_
   dsimp only at*;refine OK.GO (fun _=> ?_) (fun _=> ?_)
   ·refine OK.pure (Oj (by omega) hs.sin) ?_
    dsimp only[jv];exact OK.cond (fun hb=>next _ _ _ Ig (AOF s hs hb)) (fun _=>next _ _ _ Ig hs)
   refine OK.GO (fun _=> ?_) (fun _=> ?_)
   ·refine OK.pure (Oj (s:=(Hd s x.1).1) (by omega) AEL.sin) ?_
    dsimp only[jv];exact OK.cond (fun hb=>next _ _ _ Ig (AOF _ AEL hb)) (fun _=>next _ _ _ Ig hs)
   refine OK.GO (fun _=> ?_) (fun _=> ?_)
   ·refine OK.bind (QM hc Ig (by omega)) fun x3 i3 h3 y3 Lq WE=> ?_
    dsimp only;refine OK.cond (fun _=> ?_) (fun _=> ?_)
    ·refine OK.bind (CJ hc Lq (by omega)) fun x4 i4 h4 y4 wk hq4=> ?_
     dsimp only at*;refine OK.pure (Z7 (by omega) hs.sin) ?_
     dsimp only[jv];exact OK.cond (fun hb=>next _ _ _ wk (qg hs)) (fun _=>next _ _ _ wk hs)
    ·exact OK.cond (fun hb=>next _ _ _ Lq AEL) (fun _=>next _ _ _ Lq hs)
   ·exact OK.cond (fun hb=>next _ _ _ Ig AEL) (fun _=>next _ _ _ Ig hs)
  ·refine OK.bind (QM hc hi (by omega)) fun x3 i3 h3 y3 Lq WE=> ?_
   dsimp only;have hq:=ASj hc hs;refine OK.cond (fun _=> ?_) (fun _=>OK.some Lq ⟨hq.1,by have:=hq.2.1;show s.1.length<=300;omega,by have:=hq.2.2.1;show s.2.1.length<=300;omega,hq.2.2.2.1,hq.2.2.2.2⟩);exact(zM hc Lq ⟨hq.1.2,hq.2.2.1,hq.2.2.2.2⟩ n).1 1 [] (by omega) (by omega) (by omega) (by simp) (fun e he=>by simp at he) (fun e he=>by simp at he)
theorem qt{i hh:Int}(hi:Cl code i):OK code StQ (GW code i hh):=by
 unfold GW S3;refine OK.bind (CJ hc hi (by omega)) fun x2' i2 h2 y2 Ig sy=> ?_
 dsimp only at*;exact ACJ hc (T:=x2'.1) (by omega) AZ 0 i2 h2 EN Ig (by omega) (AW6 (Ac (by omega))) dO.nil
abbrev AYP:AFW->((List AJ)×(List AJ)×Unit)->Prop:=fun x y=>kC (y.1,y.2.1,x.1.2.2.1,())/\Aj (y.1,y.2.1,x.1.2.2.1,())<=40000
theorem kK{s:AO}(h1:kC s)(h2:s.1.length<=310)(h3:s.2.1.length<=330)(h4:∀e∈s.1,Ah e<=41)(h5:∀e∈s.2.1,Ah e<=41):kC s/\Aj s<=40000:=by
 have a:=ET (f:=Ah) (B:=41) h2 h4;have b:=ET (f:=Ah) (B:=41) h3 h5;refine⟨h1,?_⟩;unfold Aj;omega
theorem ADt{x2 x3:List AJ}{z sl:Int}{l5:List AJ}(h5:gu l5/\l5.length<=300/\ ∀e∈l5,Ah e<=41):∀(n:Nat) (i hh:Int) (b:List AJ),Cl code i->330-b.length<n->b.length<=310->gu b->(∀e∈b,Ah e<=41)->
  OK code AYP (NZ n code i hh z x2 x3 sl l5 b):=by
 intro n
 induction n with
 |zero=>intro i hh b _ h;omega
 |succ n ih=>
  intro i hh b hi hn hb we rk;simp only[NZ,Yk];refine OK.bind (CJ hc hi (by omega)) fun x i2 h2 y2 Ig sy=> ?_
  dsimp only at*;rw[AH (by omega) (by omega)];refine OK.Qq (fun Ha=> ?_) (fun _=>OK.some Ig (kK hc ⟨h5.1,we⟩ (by show l5.length<=_;omega) (by show b.length<=_;omega) h5.2.2 rk));refine OK.pure (GH (by omega) (by omega)) ?_
  dsimp only;refine OK.ite (by rw[Ap];omega) ?_
  have hp:=HG (Jn (e:=5) (o:=1) (by omega) (by omega)).1;refine ih i2 h2 _ Ig (by simp;omega) (by simp;omega) (fun e he=> ?_) (fun e he=> ?_)
  ·rcases ARh.1 he with he|he
   ·exact we e he
   ·rw[AU4.1 he];exact hp
  ·rcases ARh.1 he with he|he
   ·exact rk e he
   ·rw[AU4.1 he];show 0<=41;omega
theorem ADr{i hh:Int}(hi:Cl code i):OK code AYP (V9 code i hh):=by
 unfold V9 aD;refine OK.bind (qt hc hi) fun x i1 h1 y MJ hq=> ?_
 dsimp only at*;obtain⟨q1,q2,q3,q4,q5⟩:=hq;have base:kC (y.1,y.2.1,x.1.2.2.1,())/\Aj (y.1,y.2.1,x.1.2.2.1,())<=40000:=kK hc q1 (by show y.1.length<=_;omega) (by show y.2.1.length<=_;omega) q4 q5;have add:∀{l:List AJ} {e:AJ},(∀x∈l,Ah x<=41)->Ah e<=41-> ∀x∈l++[e],Ah x<=41:=fun h1 h2 x hx=>by
  rcases ARh.1 hx with hx|hx
  ·exact h1 x hx
  ·rw[AU4.1 hx];exact h2
 have AXv:∀{l:List AJ} {e:AJ},gu l->CB e.1->gu (l++[e]):=fun h1 h2 x hx=>by
  rcases ARh.1 hx with hx|hx
  ·exact h1 x hx
  ·rw[AU4.1 hx];exact h2
 refine OK.bind (CJ hc MJ (by omega)) fun x2 i2 h2 y2 Ig sy=> ?_
 dsimp only at*;refine OK.GO (fun _=> ?_) (fun _=> ?_)
 ·refine OK.bind (Rg hc Ig (by simp) (by simp)) fun x3 i3 h3 y3 Lq WE=> ?_
  exact OK.some Lq base
 refine OK.GO (fun _=> ?_) (fun _=> ?_)
 ·refine OK.bind (iy hc Ig) fun x3 i3 h3 y3 Lq WE=> ?_
  dsimp only;refine OK.ite (by rw[Ap];omega) ?_
  exact OK.some Lq (kK hc ⟨AXv q1.1 WE.1,q1.2⟩ (by show(y.1++[_]).length<=_;simp;omega) (by show y.2.1.length<=_;omega) (add q4 WE.2) q5)
 refine OK.GO (fun _=> ?_) (fun _=> ?_)
 ·refine OK.bind (iy hc Ig) fun x3 i3 h3 y3 Lq WE=> ?_
  dsimp only;refine OK.ite (by rw[Ap];omega) ?_
  exact OK.some Lq (kK hc ⟨q1.1,AXv q1.2 WE.1⟩ (by show y.1.length<=_;omega) (by show(y.2.1++[_]).length<=_;simp;omega) q4 (add q5 WE.2))
 refine OK.GO (fun _=> ?_) (fun _=>OK.some Ig base);exact ADt hc ⟨q1.1,q2,q4⟩ AZ i2 h2 y.2.1 Ig (Ac (by omega)) (by omega) q1.2 q5
end
theorem ll{α:Type}{f:α->Nat}{x:α}:∀{l:List α} {i:Nat},AS f (l.set i x)<=AS f l+f x
 |[],i=>by simp[AS]
 |y::l,0=>by simp only[AY7,AS];omega
 |y::l,i+1=>by
  have:=ll (f:=f) (x:=x) (l:=l) (i:=i);simp only[List.set_cons_succ,AS];omega
abbrev AYv:AEJ->((List CW)×Unit)->Prop:=fun x y=>AS Bk y.1<=300000/\CB x.1.2.1
def qX(c:CG)(r:AN):Prop:=ROk c r\/r=([],0,())
theorem qX.w{c:CG}{r:AN}(h:qX c r):AS Bk r.1<=270:=by
 rcases h with h|rfl
 ·exact h.w
 ·show 0<=270;omega
theorem qX.n{c:CG}{r:AN}(h:qX c r):r.1.length<=30:=by
 rcases h with h|rfl
 ·exact h.n
 ·show 0<=30;omega
theorem qX.tin{c:CG}{r:AN}(h:qX c r):CB r.2.1:=by
 rcases h with h|rfl
 ·exact h.tin
 ·exact Of (by show-1000<=(0:Int)/\(0:Int)<=1000;omega)
section
variable{code:AAB} (hc:code.length<=2^30) {c:CG} (Xq:c.1.length<=2^10)
include hc Xq
theorem zz{z:Int}{x3:List CW}:∀(n k:Nat) (i hh:Int) (r:AN),Cl code i->k<=7->7-k<n->qX c r->
  OK code (fun(x:AEJ) (y:List CW×Unit)=>qX c (y.1,x.1.2.1,())) (HL n k code i hh c.1 c.2.1 z x3 r.2.1 r.1):=by
 intro n
 induction n with
 |zero=>intro k i hh r _ _ h;omega
 |succ n ih=>
  intro k i hh r hi hk hn hr;have hrw:=hr.w;have hrt:=hr.tin;simp only[HL,Ti];refine OK.bind (CJ hc hi (by omega)) fun x i1 h1 y MJ hq=> ?_
  dsimp only at*;refine OK.Qq (fun Ha=> ?_) (fun _=>OK.some MJ hr);rw[AH (x:=(k:Int)+1) (by omega) (by omega),show((k:Int)+1)=((k+1:Nat):Int)by omega];have next:∀(i hh:Int) (r:AN),Cl code i->qX c r->OK code (fun(x:AEJ) (y:List CW×Unit)=>qX c (y.1,x.1.2.1,())) (HL n ((k+1:Nat):Int) code i hh c.1 c.2.1 z x3 r.2.1 r.1):=fun i hh r hi hr=>ih (k+1) i hh r hi (by omega) (by omega) hr
  rw[show(c.1,c.2.1,())=c from rfl,show(r.1,r.2.1,())=r from rfl];refine OK.bind (dN hc (by omega) MJ) fun x2 i2 h2 y2 Ig sy=> ?_
  dsimp only at*;refine OK.pure (d_ (by omega) (by omega) hrt (by omega)) ?_
  dsimp only;refine OK.bind (CJ hc Ig (by omega)) fun x3 i3 h3 y3 Lq WE=> ?_
  dsimp only at*;refine OK.GO (fun _=> ?_) (fun _=> ?_)
  ·refine OK.bind (CJ hc Lq (by omega)) fun x4 i4 h4 y4 wk hq4=> ?_
   dsimp only at*;refine OK.pure (bY (by omega) (by omega) hrt) ?_
   dsimp only[pkR];exact OK.cond (fun hb=>next _ _ (LU c r _ _).1 wk (.inl (fZ hb).2.1)) (fun _=>next _ _ r wk hr)
  refine OK.GO (fun _=> ?_) (fun _=> ?_)
  ·refine OK.bind (CJ hc Lq (by omega)) fun x4 i4 h4 y4 wk hq4=> ?_
   dsimp only at*;refine OK.bind (CJ hc wk (by omega)) fun x5 i5 h5 y5 hi5 hq5=> ?_
   dsimp only at*;rw[AH (by omega) (by omega),AH (x:=1+x5.1) (by omega) (by omega)];refine OK.pure (GH (by omega) (by omega)) ?_
   dsimp only;have hp:=HG (Jn (e:=1+x4.1) (o:=1+x5.1) (by omega) (by omega)).1;refine OK.pure (eK (by omega) (by omega) hrt hp) ?_
   dsimp only[pkR];exact OK.cond (fun hb=>next _ _ (Oh c r _).1 hi5 (.inl (qz hb).2.1)) (fun _=>next _ _ r hi5 hr)
  ·exact OK.cond (fun hb=>next _ _ (JG c r _).1 Lq (.inl (ru hb).2.1)) (fun _=>next _ _ r Lq hr)
theorem xE{i hh:Int}(hi:Cl code i):OK code (fun(x:AEJ) (y:List CW×Unit)=>qX c (y.1,x.1.2.1,())) (Pv c code i hh):=by
 unfold Pv T2;exact zz hc Xq AZ 0 i hh ([],0,()) hi (by omega) (Ac (by omega)) (.inr rfl)
omit Xq in
theorem zw{ns:AAB}(wj:ns.length<=2^13){z t:Int}{x2:List CW}(ht:CB t):∀(n:Nat) (i hh:Int) (b:List CW),Cl code i->40-b.length<n->b.length<=31->AS Bk b<=300+b.length*(2^13+1)->
  OK code AYv (Ng n ns code i hh z x2 t b):=by
 intro n
 induction n with
 |zero=>intro i hh b _ h;omega
 |succ n ih=>
  intro i hh b hi hn hb hw;simp only[Ng,ZE];refine OK.bind (CJ hc hi (by omega)) fun x i1 h1 y MJ hq=> ?_
  dsimp only at*;rw[AH (by omega) (by omega)];refine OK.Qq (fun Ha=> ?_) (fun _=>OK.some MJ ⟨by show AS Bk b<=_;omega,ht⟩);refine OK.ite (by rw[Ap];omega) ?_
  refine ih i1 h1 _ MJ (by simp;omega) (by simp;omega) ?_
  have:Bk (ns,false,0,())=ns.length:=rfl;rw[JX];simp only[AS,ASB,ART,AS0];omega
theorem AA1{i hh:Int}(hi:Cl code i):OK code AYv (Vp c code i hh):=by
 unfold Vp Zw;rw[show(c.1,c.2.1,())=c from rfl];refine OK.bind (xE hc Xq hi) fun x i1 h1 y MJ hq=> ?_
 dsimp only at*;have hrw:AS Bk y.1<=270:=hq.w;have hrn:y.1.length<=30:=hq.n;have hrt:CB x.1.2.1:=hq.tin;have Va:∀{i:Nat} {e:CW},Bk e<=2^13->AS Bk (y.1.set i e)<=300000:=fun he=>by
  have:=ll (f:=Bk) (x:= ‹CW›) (l:=y.1) (i:= ‹Nat›);omega
 have yn:∀i,i<y.1.length->Bk (y.1.getD i ([],false,0,()))<=270:=fun i hi=>by
  have:=AY (f:=Bk) (Bm (d:=GB) hi);have h2:Bk (y.1.getD i GB)<=270:=by omega
  exact h2
 have base:AS Bk y.1<=300000/\CB x.1.2.1:=⟨by omega,hrt⟩;refine OK.bind (CJ hc MJ (by omega)) fun x2 i2 h2 y2 Ig sy=> ?_
 dsimp only at*;refine OK.GO (fun _=> ?_) (fun _=> ?_)
 ·refine OK.bind (XG hc Ig) fun x3 i3 h3 y3 Lq WE=> ?_
  exact OK.some Lq ⟨by show AS Bk y.1<=_;omega,WE⟩
 refine OK.GO (fun _=> ?_) (fun _=> ?_)
 ·refine OK.Qq (fun Ha=> ?_) (fun _=>OK.some Ig base)
  rw[AH (by omega) (by omega)];refine OK.ite (by omega) ?_
  refine OK.some Ig ⟨Va ?_,hrt⟩;have:=yn ((y.1.length:Int)-1).toNat (by omega);have h3:Bk ((y.1.getD ((y.1.length:Int)-1).toNat ([],false,0,())).1,true,(y.1.getD ((y.1.length:Int)-1).toNat ([],false,0,())).2.2.1,())=Bk (y.1.getD ((y.1.length:Int)-1).toNat ([],false,0,())):=rfl;rw[h3];omega
 refine OK.GO (fun _=> ?_) (fun _=> ?_)
 ·refine OK.Qq (fun Ha=> ?_) (fun _=>OK.some Ig base)
  refine OK.bind (Rg hc Ig (by simp) (by simp)) fun x3 i3 h3 y3 Lq WE=> ?_
  dsimp only;refine OK.ite (by omega) ?_
  refine OK.some Lq ⟨Va ?_,hrt⟩;have:=yn 0 (by omega);have h4:Bk ((y.1.getD 0 ([],false,0,())).1,(y.1.getD 0 ([],false,0,())).2.1,x3.1,())=Bk (y.1.getD 0 ([],false,0,())):=rfl;rw[h4];omega
 refine OK.GO (fun _=> ?_) (fun _=> ?_)
 ·refine OK.Qq (fun Ha=> ?_) (fun _=>OK.some Ig base)
  refine OK.bind (TS hc (by omega) Ig) fun x3 i3 h3 y3 Lq WE=> ?_
  dsimp only;refine OK.ite (by omega) ?_
  refine OK.some Lq ⟨Va ?_,hrt⟩
  show y3.1.length<=_
  omega
 refine OK.GO (fun _=> ?_) (fun _=>OK.some Ig base);refine OK.bind (dN hc (by omega) Ig) fun x3 i3 h3 y3 Lq WE=> ?_
 dsimp only;exact zw hc WE hrt AZ i3 h3 y.1 Lq (Ac (by omega)) (by omega) (by omega)
end
section
variable{code:AAB} (hc:code.length<=2^30) {c:CG} (hcf:GI c=true)
include hc hcf
theorem AHW{l:AAB}(hl:l.length<=100){m:Av}(hm:m.2.2.1.length<=100):∃l',NJ c m=some (((),()),(l',()))/\l'.length<=1000:=by
 have Xq:=(D8 hcf).2.1;have key:∀(n k:Nat) (b:AAB),k<=c.1.length->c.1.length-k<n->b.length<=100+k-> ∃l',Ni n k c.1 c.2.1 b=some (((),()),(l',()))/\l'.length<=1000:=by
  intro n
  induction n with
  |zero=>intro k b _ h;omega
  |succ n ih=>
   intro k b hk hn hb;simp only[Ni,Yb,AB,BB];by_cases Ha:(k:Int)<(c.1.length:Int)
   ·rw[AOJ Ha,show(c.1,c.2.1,())=c from rfl,EC (by omega) (by omega),Lf (by omega)]
    simp only[AD];rw[AH (by omega) (by omega),show((k:Int)+1)=((k+1:Nat):Int)by omega];have:=Tj (n:=(k:Int)) (l:=b);obtain⟨l',e,h'⟩:=ih (k+1) (OH (k:Int) b) (by omega) (by omega) (by omega);rw[e];cases holds c b with
    |true=>exact⟨b,rfl,by omega⟩
    |false=>exact⟨l',rfl,h'⟩
   ·rw[AOK Ha]
    exact⟨b,rfl,by omega⟩
 unfold NJ YR;rw[AOJ (by rw[Ap];omega)];exact key AZ 0 m.2.2.1 (by omega) (Ac (by omega)) (by omega)
theorem yU{m:Av}{o n:Int}(h:(TG c m o n).2=true):lx c (TG c m o n).1:=by
 unfold TG at*;rcases AOB (G9 c m)with hm|hm
 rotate_left
 ·rw[hm]at h;cases h
 rw[hm]at h|-;simp only[AOx,AO5,ATF]at h|-;split at h
 ·rename_i hq
  rw[AOJ hq];have pO:=G8.1 hm;rw[AOw,As,As]at hq;refine⟨pO.cfg,pO.ep,pO.b,pO.zx,pO.tf,pO.seen,fun l hl=> ?_,by simp only[AVj];exact pO.n⟩;rcases AVQ hl with hl|rfl
  ·exact pO.wrote l hl
  ·exact LF (pO.wrote _ (Bm (by omega))) (by omega)
 ·cases h
abbrev AGY(x:AFE)(y:List Int×(List AJ)×List AAB×Unit):Av:=(x.1.1,x.1.2.1,y.1,y.2.1,x.1.2.2.2.2.1,y.2.2.1,())
theorem oR{z1 z2:Int}{z3:Bool}{x3:AAB}{x4:List AJ}{x5:List AAB}:∀(n k:Nat) (i hh:Int) (m:Av),Cl code i->k<=9->9-k<n->lx c m->
  OK code (fun x y=>lx c (AGY x y)) (Bc n k code i hh c.1 c.2.1 z1 z2 z3 x3 x4 x5 m.1 m.2.1 m.2.2.2.2.1 m.2.2.1 m.2.2.2.1 m.2.2.2.2.2.1):=by
 have Xq:=(D8 hcf).2.1;intro n
 induction n with
 |zero=>intro k i hh m _ _ h;omega
 |succ n ih=>
  intro k i hh m hi hk hn hm;have hmw:=hm.w;have Acm:=(Hw (m:=m) (by omega)).2.2.1;simp only[Bc,Ml];refine OK.bind (CJ hc hi (by omega)) fun x i1 h1 y MJ hq=> ?_
  dsimp only at*;refine OK.Qq (fun Ha=> ?_) (fun _=>OK.some MJ hm);rw[AH (x:=(k:Int)+1) (by omega) (by omega),show((k:Int)+1)=((k+1:Nat):Int)by omega];refine OK.pure JP ?_
  dsimp only;refine OK.bind (CJ hc MJ (by omega)) fun x2 i2 h2 y2 Ig sy=> ?_
  dsimp only at*;refine OK.bind (CJ hc Ig (by omega)) fun x3 i3 h3 y3 Lq WE=> ?_
  dsimp only at*;rw[show(c.1,c.2.1,())=c from rfl,T5 m];refine OK.pure (dz (by omega) (by omega) hm.zF) ?_
  dsimp only[iB];exact OK.cond (fun hb=>ih (k+1) _ _ _ Lq (by omega) (by omega) (yU hc hcf hb)) (fun _=>ih (k+1) _ _ m Lq (by omega) (by omega) hm)
theorem AAr{T:Int}(hT:T<=100){z1 z2:Int}{z3:Bool}{x3:AAB}{x4:List AJ}{x5:List AAB}:∀(n k:Nat) (i hh:Int) (m:Av),Cl code i->(k:Int)<=max T 0->(T-k).toNat+20<=n->lx c m->
  OK code (fun x y=>lx c (AGY x y)) (CF n T k code i hh c.1 c.2.1 z1 z2 z3 x3 x4 x5 m.1 m.2.1 m.2.2.2.2.1 m.2.2.1 m.2.2.2.1 m.2.2.2.2.2.1):=by
 have Xq:=(D8 hcf).2.1;intro n
 induction n with
 |zero=>intro k i hh m _ _ h;omega
 |succ n ih=>
  intro k i hh m hi hk hn hm;have hmw:=hm.w;have Acm:=Hw (m:=m) (by omega);have hsl:=Fl hm.zx;simp only[CF,NI];rw[show(c.1,c.2.1,())=c from rfl,T5 m];refine OK.Qq (fun Ha=> ?_) (fun _=> ?_)
  ·rw[AH (x:=(k:Int)+1) (by omega) (by omega),show((k:Int)+1)=((k+1:Nat):Int)by omega]
   refine OK.bind (CJ hc hi (by omega)) fun x i1 h1 y MJ hq=> ?_
   dsimp only at*;refine OK.bind (qt hc MJ) fun x2 i2 h2 y2 Ig sy=> ?_
   dsimp only at*;obtain⟨q1,q2,q3,q4,q5⟩:=sy;have sq:=kK hc (s:=(y2.1,y2.2.1,x2.1.2.2.1,())) q1 (by show y2.1.length<=_;omega) (by show y2.2.1.length<=_;omega) q4 q5;refine OK.pure (bR (s:=(y2.1,y2.2.1,x2.1.2.2.1,())) (by omega) q1) ?_
   dsimp only;have hes:(HC (y2.1,y2.2.1,x2.1.2.2.1,()) m.2.1).length<=300/\gu (HC (y2.1,y2.2.1,x2.1.2.2.1,()) m.2.1)/\AS Ah (HC (y2.1,y2.2.1,x2.1.2.2.1,()) m.2.1)<=40000:=by
    unfold HC;split
    ·refine⟨AVG (AUc _ _) q2,fun e he=>q1.1 e (AWB.1 he).1,AVG gL ?_⟩
     have h2:=sq.2;unfold Aj at h2;dsimp only at h2|-;omega
    ·exact⟨by simp,fun e he=>(by simp at he),by simp[AS]⟩
   refine OK.pure (cB (by omega) (by omega) hm.zF (by omega) hes.2.1 (by omega)) ?_
   dsimp only[iB];exact OK.cond (fun hb=>ih (k+1) _ _ _ Ig (by omega) (by omega) (oM hb).2.1) (fun _=>ih (k+1) _ _ m Ig (by omega) (by omega) hm)
  ·refine OK.bind (QM hc hi (by omega)) fun x i1 h1 y MJ hq=> ?_
   dsimp only;refine OK.cond (fun _=>OK.some MJ hm) (fun _=> ?_);obtain⟨l',e,mT⟩:=AHW hc hcf (l:=[]) (by simp) (m:=m) (by omega);refine OK.pure e ?_
   dsimp only;refine OK.pure (cF (by omega) (by omega) hm.zF (by omega)) ?_
   dsimp only[iB];exact OK.cond (fun hb=>oR hc hcf n 0 i1 h1 _ MJ (by omega) (by omega) (oe hb).2.1) (fun _=>oR hc hcf n 0 i1 h1 m MJ (by omega) (by omega) hm)
theorem yV{i hh:Int}(hi:Cl code i):OK code (fun x y=>lx c (AGY x y)) (MM c code i hh):=by
 unfold MM M7;refine OK.bind (CJ hc hi (by omega)) fun x i1 h1 y MJ hq=> ?_
 dsimp only at*;rw[AH (by omega) (by omega)];unfold NM;simp only[AD];refine OK.bind (CJ hc MJ (by omega)) fun x2 i2 h2 y2 Ig sy=> ?_
 dsimp only at*;exact AAr hc hcf (T:=x2.1) (by omega) AZ 0 i2 h2 (4,1+x.1,[],[],false,[],()) Ig (by omega) (AW6 (Ac (by omega))) ⟨hcf,by show 1<=1+x.1/\1+x.1<=30;omega,by show 1+x.1+1<=4/\(4:Int)<=30;omega,Zs hcf,List.Pairwise.nil,fun e he=>(by cases he),fun l hl=>(by cases hl),rfl⟩
abbrev AWd:AHv×Unit->List Int×(List AJ)×List AAB×Unit->Prop:=fun x y=>CK (AGY x y)<=20000/\gu y.2.1
theorem AAt{i hh:Int}(hi:Cl code i):OK code AWd (V2 c code i hh):=by
 have Xq:=(D8 hcf).2.1;unfold V2;rw[show(c.1,c.2.1,())=c from rfl];refine OK.bind (yV hc hcf hi) fun x i1 h1 y MJ hq=> ?_
 dsimp only at*;have hw:=hq.w;have he:gu y.2.1:=hq.zF;have hu:CK (AGY x y)=y.1.length+AS Ah y.2.1+AS C8 y.2.2.1:=rfl;have hl1:=AU (f:=C8) (l:=y.2.2.1);have vq:=AU (f:=Ah) (l:=y.2.1);have mk:∀{x':AFE} {a:AAB} {b:List AJ} {d:List AAB},a.length+AS Ah b+AS C8 d<=20000->gu b->AWd x' (a,b,d,()):=fun h1 h2=>⟨h1,h2⟩
 refine OK.bind (CJ hc MJ (by omega)) fun x2 i2 h2 y2 Ig sy=> ?_
 dsimp only at*;refine OK.GO (fun _=> ?_) (fun _=> ?_)
 ·refine OK.bind (Rg hc Ig (by simp) (by simp)) fun x3 i3 h3 y3 Lq WE=> ?_
  exact OK.some Lq (mk (by omega) he)
 refine OK.GO (fun _=>OK.some Ig (mk (by omega) he)) (fun _=> ?_);refine OK.GO (fun _=> ?_) (fun _=> ?_)
 ·refine OK.bind (TS hc (by omega) Ig) fun x3 i3 h3 y3 Lq WE=> ?_
  dsimp only;refine OK.ite (by rw[Ap];omega) ?_
  refine OK.some Lq (mk ?_ he);rw[JX];have:C8 y3.1=y3.1.length:=rfl;simp only[AS];omega
 refine OK.GO (fun _=> ?_) (fun _=> ?_)
 ·refine OK.bind (iy hc Ig) fun x3 i3 h3 y3 Lq WE=> ?_
  dsimp only;refine OK.ite (by rw[Ap];omega) ?_
  refine OK.some Lq (mk ?_ (fun e he' => ?_))
  ·rw[JX]
   have:Ah (x3.1.1,x3.1.2.1,x3.1.2.2.1,x3.1.2.2.2.1,())=x3.1.2.2.2.1.length:=rfl;simp only[AS];have:=WE.2;omega
  ·rcases ARh.1 he' with he'|he'
   ·exact he e he'
   ·rw[AU4.1 he'];exact WE.1
 refine OK.GO (fun _=> ?_) (fun _=>OK.some Ig (mk (by omega) he));refine OK.bind (TS hc (by omega) Ig) fun x3 i3 h3 y3 Lq WE=> ?_
 dsimp only at*;exact OK.some Lq (mk (by omega) he)
end
abbrev AX3:AGn->((List BU)×Unit)->Prop:=fun x y=>y.1.length<=130/\ ∀e∈y.1,CL e<=40/\CB e.2.1
section
variable{code:AAB} (hc:code.length<=2^30)
include hc
theorem ADf{z1 z2 e o:Int}{x3:List BU}:∀(n k:Nat) (i hh:Int) (b:List BU),Cl code i->k<=4->4-k<n->b.length<=k->(∀e∈b,CL e<=40/\CB e.2.1)->
  OK code AX3 (Hh n k code i hh z1 z2 x3 e o b):=by
 intro n
 induction n with
 |zero=>intro k i hh b _ _ h;omega
 |succ n ih=>
  intro k i hh b hi hk hn hb rk;simp only[Hh,Qp];refine OK.bind (CJ hc hi (by omega)) fun x i1 h1 y MJ hq=> ?_
  dsimp only at*;have base:b.length<=130/\ ∀e∈b,CL e<=40/\CB e.2.1:=⟨by omega,rk⟩;refine OK.Qq (fun Ha=> ?_) (fun _=> ?_)
  ·refine OK.bind (CJ hc MJ (by omega)) fun x2 i2 h2 y2 Ig sy=> ?_
   dsimp only at*;refine OK.bind (XG hc Ig) fun x3 i3 h3 y3 Lq WE=> ?_
   dsimp only;refine OK.ite (by rw[Ap];omega) ?_
   rw[AH (x:=(k:Int)+1) (by omega) (by omega),show((k:Int)+1)=((k+1:Nat):Int)by omega];refine ih (k+1) _ _ _ Lq (by omega) (by omega) (by simp;omega) (fun e he=> ?_);rcases ARh.1 he with he|he
   ·exact rk e he
   ·rw[AU4.1 he];exact⟨by show 0<=40;omega,WE⟩
  ·refine OK.bind (CJ hc MJ (by omega)) fun x2 i2 h2 y2 Ig sy=> ?_
   dsimp only at*;refine OK.GO (fun _=> ?_) (fun _=> ?_)
   ·refine OK.bind (Rg hc Ig (by simp) (by simp)) fun x3 i3 h3 y3 Lq WE=> ?_
    exact OK.some Lq base
   refine OK.GO (fun _=> ?_) (fun _=> ?_)
   ·refine OK.bind (Rg hc Ig (by simp) (by simp)) fun x3 i3 h3 y3 Lq WE=> ?_
    exact OK.some Lq base
   refine OK.GO (fun _=> ?_) (fun _=>OK.some Ig base);refine OK.bind (CJ hc Ig (by omega)) fun x3 i3 h3 y3 Lq WE=> ?_
   dsimp only at*;rw[AH (by omega) (by omega)];refine OK.ite (by rw[Ap];omega) ?_
   refine OK.some Lq ⟨by show(List.replicate _ _).length<=130;rw[AVz];omega,fun e he=> ?_⟩;rw[(List.mem_replicate.1 he).2];exact⟨by show 0<=40;omega,Of (by show-1000<=(0:Int)/\(0:Int)<=1000;omega)⟩
theorem zc{i hh:Int}(hi:Cl code i):OK code AX3 (KI code i hh):=by
 unfold KI Qz;refine OK.bind (CJ hc hi (by omega)) fun x i1 h1 y MJ hq=> ?_
 dsimp only at*;refine OK.bind (CJ hc MJ (by omega)) fun x2 i2 h2 y2 Ig sy=> ?_
 exact ADf hc AZ 0 _ _ [] Ig (by omega) (Ac (by omega)) (by simp) (fun e he=>by simp at he)
theorem ACe{c:CG}(Xq:c.1.length<=2^10){i hh:Int}(hi:Cl code i):OK code (fun(x:AGU) (y:(List BD)×Unit)=>AS Az y.1<=4000) (Pe c code i hh):=by
 obtain⟨w',i1,h1,e,hw,MJ⟩:=ACU hc (c:=c) (by omega) (h:=hh) hi;exact⟨_,i1,h1,_,e,MJ,hw⟩
theorem AAV{i hh:Int}(hi:Cl code i):OK code (fun(x:AEJ) (y:AAB×Unit)=>y.1.length<=9) (Sa code i hh):=by
 obtain⟨l,c',i1,h1,e,hl,MJ⟩:=AC4 hc (h:=hh) hi;exact⟨_,i1,h1,(l,()),e,MJ,hl⟩
abbrev dwW(x:AG7)(y:List Int×(List AO)×List Int×(List CW)×(List AR)×(List Av)×(List Ag)×(List Af)×Unit):AA:=
 (y.1,x.1.2.1,y.2.1,y.2.2.1,y.2.2.2.1,x.1.2.2.2.2.2.1,y.2.2.2.2.1,y.2.2.2.2.2.1,y.2.2.2.2.2.2.1,y.2.2.2.2.2.2.2.1,x.1.2.2.2.2.2.2.2.2.2.2.1,())
def APE(w:AA):Prop:=(dX w/\bq w)/\Cn w<=730000/\AS Ak w.2.2.2.2.2.2.2.2.1<=50000
omit hc in
theorem mkW{c:AAB}{m tr:Int}{st:List AO}{lo:AAB}{er:List CW}{wr:List AR}{md:List Av}{rd:List Ag}{se:List Af}{to:Bool}
  (h1:c.length<=100) (h2:AS Aj st<=200000) (h3:lo.length<=5000) (h4:AS Bk er<=300000) (h5:AS Aq wr<=50000) (h6:AS CK md<=100000) (h7:AS Ak rd<=50000) (h8:AS D9 se<=20000)
  (k1:∀s∈st,kC s) (k2:CB tr) (k3:∀m∈md,gu m.2.2.2.1) (k4:∀s∈se,CB s.1) (k5:∀r∈rd,∀e∈r.2.2.1,CB e.2.1):APE (c,m,st,lo,er,tr,wr,md,rd,se,to,()):=
 ⟨⟨⟨by unfold Cn;dsimp only;omega,k1,k2,k3,k4⟩,k5⟩,by unfold Cn;dsimp only;omega,h7⟩
theorem vv{i hh:Int}(hi:Cl code i){p:AAB}(hp:p.length<=2^30):OK code (fun x y=>APE (dwW x y)) (Ik p code i hh):=by
 unfold Ik;dsimp only;have AFu:∃T,Vk p 40 90=some ((T,()),())/\0<=T/\T<=500:=by
  unfold Vk;dsimp only;have hd:(p.length:Int).tdiv 4=(p.length:Int)/4:=Int.tdiv_eq_ediv_of_nonneg (by omega);rw[hd,AH (x:=(p.length:Int)/4) (by omega) (by omega),AH (by omega) (by omega),AB];split
  ·exact⟨90,rfl,by omega⟩
  ·exact⟨_,rfl,by omega⟩
 obtain⟨T,hT,hT2⟩:=AFu;refine OK.pure hT ?_
 dsimp only;refine OK.bind (zX hc hT2 hi) fun x i1 h1 y MJ hq=> ?_
 dsimp only;obtain⟨hw,hr,hv⟩:=hq
 generalize sF:gj x y=w at hw hr hv
 have k:=hw.nums;have e0:y.2.2.2.2.2.2.2.2.2.1=w.1:=by rw[<-sF];rfl
 have e1:y.2.2.2.2.2.2.2.2.2.2.1=w.2.2.1:=by rw[<-sF];rfl
 have e2:y.2.2.2.2.2.2.2.2.2.2.2.1=w.2.2.2.1:=by rw[<-sF];rfl
 have e3:y.2.2.2.2.2.2.2.2.2.2.2.2.1=w.2.2.2.2.1:=by rw[<-sF];rfl
 have e4:y.2.2.2.2.2.2.2.2.2.2.2.2.2.1=w.2.2.2.2.2.2.1:=by rw[<-sF];rfl
 have e5:y.2.2.2.2.2.2.2.2.2.2.2.2.2.2.1=w.2.2.2.2.2.2.2.1:=by rw[<-sF];rfl
 have e6:y.2.2.2.2.2.2.2.2.2.2.2.2.2.2.2.1=w.2.2.2.2.2.2.2.2.1:=by rw[<-sF];rfl
 have e7:y.2.2.2.2.2.2.2.2.2.2.2.2.2.2.2.2.1=w.2.2.2.2.2.2.2.2.2.1:=by rw[<-sF];rfl
 have e8:x.1.2.2.1.2.1=w.2.1:=by rw[<-sF];rfl
 have e9:x.1.2.2.1.2.2.2.2.2.1=w.2.2.2.2.2.1:=by rw[<-sF];rfl
 have e10:x.1.2.2.1.2.2.2.2.2.2.2.2.2.2.1=w.2.2.2.2.2.2.2.2.2.2.1:=by rw[<-sF];rfl
 rw[e0,e1,e2,e3,e4,e5,e6,e7,e8,e9,e10];have Kx:=hw.win hr;have k1:=k.c;have k2:=k.ws;have k3:=k.lost;have k4:=k.era;have k5:=k.ww;have k9:=k.st;have k10:=k.rd;have k6:AS CK w.2.2.2.2.2.2.2.1<=5001:=by
  have:=ET (f:=CK) (B:=5000) hw.xO fun x hx=>(hw.An x hx).1.w
  exact this
 have k7:AS Ak w.2.2.2.2.2.2.2.2.1<=10002:=by
  have:=ET (f:=Ak) (B:=5000) (N:=2) (l:=w.AX) (by rw[hw.sg];omega) fun r hx=>by
   have:=ET (f:=CL) (B:=40) (hw.AX r hx).n (hr r hx);unfold Ak;omega
  exact this
 have k8:AS D9 w.2.2.2.2.2.2.2.2.2.1<=4920:=by
  have:=ET (f:=D9) (B:=40) hw.SF fun s hs=>(hw.Ai s hs).2.2
  exact this
 have j1:=Kx.BX;have j2:=Kx.trim;have j3:=Kx.An;have j4:=Kx.aj;have hc1:=(D8 hw.cfg).1;have Ag5:1<=w.1.length:=hc1;refine OK.bind (CJ hc MJ (by omega)) fun x2 i2 h2 y2 Ig sy=> ?_
 dsimp only at*;have base:∀{to:Bool},APE (w.1,w.2.1,w.2.2.1,w.2.2.2.1,w.2.2.2.2.1,w.2.2.2.2.2.1,w.2.2.2.2.2.2.1,w.2.2.2.2.2.2.2.1,w.2.2.2.2.2.2.2.2.1,w.2.2.2.2.2.2.2.2.2.1,to,()):=mkW (by omega) (by omega) (by omega) (by omega) (by omega) (by omega) (by omega) (by omega) j1 j2 j3 j4 hv;refine OK.GO (fun _=> ?_) (fun _=> ?_)
 ·refine OK.bind (TS hc (c:=(w.1,w.2.1,())) (by show w.1.length<=_;omega) Ig) fun x3 i3 h3 y3 Lq WE=> ?_
  dsimp only at*;refine OK.some Lq ?_
  dsimp only[dwW];exact mkW (by omega) (by omega) (by omega) (by omega) (by omega) (by omega) (by omega) (by omega) j1 j2 j3 j4 hv
 refine OK.GO (fun _=> ?_) (fun _=> ?_)
 ·refine OK.bind (ADr hc Ig) fun x3 i3 h3 y3 Lq WE=> ?_
  dsimp only at*;refine OK.ite (by omega) ?_
  have:=ll (f:=Aj) (x:=(y3.1,y3.2.1,x3.1.2.2.1,())) (l:=w.2.2.1) (i:=0);refine OK.some Lq ?_
  dsimp only[dwW];refine mkW (by omega) (by omega) (by omega) (by omega) (by omega) (by omega) (by omega) (by omega) (fun s hs=> ?_) j2 j3 j4 hv;rcases AVQ hs with hs|rfl
  ·exact j1 s hs
  ·exact WE.1
 refine OK.GO (fun _=> ?_) (fun _=> ?_)
 ·refine OK.bind (AA1 hc (c:=(w.1,w.2.1,())) (by show w.1.length<=_;omega) Ig) fun x3 i3 h3 y3 Lq WE=> ?_
  dsimp only at*;refine OK.some Lq ?_
  dsimp only[dwW];exact mkW (by omega) (by omega) (by omega) WE.1 (by omega) (by omega) (by omega) (by omega) j1 WE.2 j3 j4 hv
 refine OK.GO (fun _=> ?_) (fun _=> ?_)
 ·refine OK.bind (ACe hc (c:=(w.1,w.2.1,())) (by show w.1.length<=_;omega) Ig) fun x3 i3 h3 y3 Lq WE=> ?_
  dsimp only at*;have hk:=k.wr;refine OK.ite (by rw[Ap];omega) ?_
  refine OK.some Lq ?_
  dsimp only[dwW];refine mkW (by omega) (by omega) (by omega) (by omega) ?_ (by omega) (by omega) (by omega) j1 j2 j3 j4 hv
  rw[JX];have:Aq (x3.1.1,y3.1,())=AS Az y3.1:=rfl;simp only[AS];omega
 refine OK.GO (fun _=> ?_) (fun _=> ?_)
 ·refine OK.bind (AAt hc (c:=(w.1,w.2.1,())) hw.cfg Ig) fun x3 i3 h3 y3 Lq WE=> ?_
  dsimp only at*;have hk:=k.md;refine OK.ite (by rw[Ap];omega) ?_
  refine OK.some Lq ?_
  dsimp only[dwW];refine mkW (by omega) (by omega) (by omega) (by omega) (by omega) ?_ (by omega) (by omega) j1 j2 (fun m hm=> ?_) j4 hv
  ·rw[JX]
   have h8:CK (x3.1.1,x3.1.2.1,y3.1,y3.2.1,x3.1.2.2.2.2.1,y3.2.2.1,())<=20000:=WE.1;simp only[AS];omega
  ·rcases ARh.1 hm with hm|hm
   ·exact j3 m hm
   ·rw[AU4.1 hm];exact WE.2
 refine OK.GO (fun _=> ?_) (fun _=> ?_)
 ·refine OK.bind (zc hc Ig) fun x3 i3 h3 y3 Lq WE=> ?_
  dsimp only at*;refine OK.ite (by omega) ?_
  have:=ll (f:=Ak) (x:=(x3.1.1,x3.1.2.1,y3.1,())) (l:=w.2.2.2.2.2.2.2.2.1) (i:=0);have h9:=ET (f:=CL) (B:=40) WE.1 (fun e he=>(WE.2 e he).1);have:Ak (x3.1.1,x3.1.2.1,y3.1,())=AS CL y3.1:=rfl;refine OK.some Lq ?_
  dsimp only[dwW];refine mkW (by omega) (by omega) (by omega) (by omega) (by omega) (by omega) (by omega) (by omega) j1 j2 j3 j4 (fun r hr' => ?_);rcases AVQ hr' with hr'|rfl
  ·exact hv r hr'
  ·exact fun e he=>(WE.2 e he).2
 refine OK.GO (fun _=> ?_) (fun _=> ?_)
 ·refine OK.bind (XG hc Ig) fun x3 i3 h3 y3 Lq WE=> ?_
  dsimp only at*;have hk:=k.se;refine OK.ite (by rw[Ap];omega) ?_
  refine OK.some Lq ?_
  dsimp only[dwW];refine mkW (by omega) (by omega) (by omega) (by omega) (by omega) (by omega) (by omega) ?_ j1 j2 j3 (fun s hs=> ?_) hv
  ·rw[JX]
   have:D9 (x3.1,[],false,())=0:=rfl;simp only[AS];omega
  ·rcases ARh.1 hs with hs|hs
   ·exact j4 s hs
   ·rw[AU4.1 hs];exact WE
 refine OK.GO (fun _=>OK.some Ig base) (fun _=> ?_);refine OK.GO (fun _=> ?_) (fun _=>OK.some Ig base);refine OK.bind (AAV hc Ig) fun x3 i3 h3 y3 Lq WE=> ?_
 dsimp only at*;refine OK.some Lq ?_
 dsimp only[dwW];exact mkW (by omega) (by omega) (by omega) (by omega) (by omega) (by omega) (by omega) (by omega) j1 j2 j3 j4 hv
end
theorem D5{l:AAB}(h:l.length<=2^30):DU l=some (((),()),(l,())):=by
 unfold DU;rw[AOJ (by rw[Ap];omega)]
theorem Wn{l:List AJ}(h:l.length<=2^30):Je l=some (((),()),(l,())):=by
 unfold Je;rw[AOJ (by rw[Ap];omega)]
theorem Ys{r:Ag}(h:r.2.2.1.length<=2^30):Nf r=some (((r.1,r.2.1,(),()),()),(r.2.2.1,())):=by
 unfold Nf;rw[AOJ (by rw[Ap];omega)]
theorem jL{c:CG}(h:c.1.length<=2^30):RS c=some ((((),c.2.1,()),()),(c.1,())):=by
 grind[RS,D5]
theorem Iq{s:AO}(h1:s.1.length<=2^30)(h2:s.2.1.length<=2^30):DJ s=some ((((),(),s.2.2.1,()),()),(s.1,s.2.1,())):=by
 grind[DJ,Wn]
theorem IX{r:AN}(h:AS Bk r.1<=2^30):Eo r=some ((((),r.2.1,()),()),(r.1,())):=by
 have hl:=AU (f:=Bk) (l:=r.1);have key:∀(n i:Nat) (acc:List CW),i<=r.1.length->r.1.length-i<n->acc.length<=i->IW n r.1 r.1.length i 0 [] r.2.1 acc=some ((((),r.2.1,()),()),(acc++r.1.drop i,())):=by
  intro n
  induction n with
  |zero=>omega
  |succ n ih=>
   intro i acc hi hn ha;simp only[IW,SM,AB];by_cases hc:i<r.1.length
   ·have hm:=AY (f:=Bk) (AO7 hc)
    have hw:Bk r.1[i]=r.1[i].1.length:=rfl;rw[AOJ (by omega),AOJ (by omega),Al hc,D5 (by omega),AH (by omega) (by omega),show((i:Int)+1)=((i+1:Nat):Int)by omega];simp only[AD];rw[AOJ (by rw[Ap];omega),ih (i+1) _ (by omega) (by omega) (by simp_all),drop_cons hc,AQM];rfl
   grind
 grind[Eo,SA,AZ,Ac]
theorem J0{x:AR}(h:Aq x<=2^30):GF x=some (((x.1,(),()),()),(x.2.1,())):=by
 have h':AS Az x.2.1<=2^30:=h;have hl:=AU (f:=Az) (l:=x.2.1);have key:∀(n i:Nat) (acc:List BD),i<=x.2.1.length->x.2.1.length-i<n->acc.length<=i->KG n x.2.1 x.2.1.length i 0 [] x.1 acc=some (((x.1,(),()),()),(acc++x.2.1.drop i,())):=by
  intro n
  induction n with
  |zero=>omega
  |succ n ih=>
   intro i acc hi hn ha;simp only[KG,UI,AB];by_cases hc:i<x.2.1.length
   ·have hm:=AY (f:=Az) (AO7 hc)
    have hw:Az x.2.1[i]=x.2.1[i].1.length+x.2.1[i].2.1.length:=rfl;rw[AOJ (by omega),AOJ (by omega),Al hc,D5 (by omega),AH (by omega) (by omega),show((i:Int)+1)=((i+1:Nat):Int)by omega];simp only[AD];rw[AOJ (by rw[Ap];omega),ih (i+1) _ (by omega) (by omega) (by simp_all),drop_cons hc,AQM];rfl
   grind
 grind[GF,UL,AZ,Ac]
theorem Hr{m:Av}(h:CK m<=2^30):Gn m=some (((m.1,m.2.1,(),(),m.2.2.2.2.1,(),()),()),(m.2.2.1,m.2.2.2.1,m.2.2.2.2.2.1,())):=by
 have h':m.2.2.1.length+AS Ah m.2.2.2.1+AS C8 m.2.2.2.2.2.1<=2^30:=h;have hl:=AU (f:=C8) (l:=m.2.2.2.2.2.1);have vq:=AU (f:=Ah) (l:=m.2.2.2.1);have key:∀(n i:Nat) (acc:List AAB),i<=m.2.2.2.2.2.1.length->m.2.2.2.2.2.1.length-i<n->acc.length<=i->Mm n m.2.2.2.2.2.1 m.2.2.2.2.2.1.length i 0 0 false [] [] [] m.1 m.2.1 m.2.2.2.2.1 m.2.2.1 m.2.2.2.1 acc=some (((m.1,m.2.1,(),(),m.2.2.2.2.1,(),()),()),(m.2.2.1,m.2.2.2.1,acc++m.2.2.2.2.2.1.drop i,())):=by
  intro n
  induction n with
  |zero=>omega
  |succ n ih=>
   intro i acc hi hn ha;simp only[Mm,W9,AB];by_cases hc:i<m.2.2.2.2.2.1.length
   ·have hm:=AY (f:=C8) (AO7 hc)
    have hw:C8 m.2.2.2.2.2.1[i]=m.2.2.2.2.2.1[i].length:=rfl;rw[AOJ (by omega),AOJ (by omega),Al hc,D5 (by omega),AH (by omega) (by omega),show((i:Int)+1)=((i+1:Nat):Int)by omega];simp only[AD];rw[AOJ (by rw[Ap];omega),ih (i+1) _ (by omega) (by omega) (by simp_all),drop_cons hc,AQM];rfl
   grind
 grind[Gn,W8,D5,Wn,AD,AZ,Ac]
section
variable{w:AA} (h:dX w)
include h
theorem AGD:∀(n i:Nat) (DY:List AO) (ES:List AR) (Ey:List Av) (Fq:List Ag),i<=w.2.2.2.2.2.2.2.2.1.length->w.2.2.2.2.2.2.2.2.1.length-i+1<=n->Fq.length<=i->
  FC n w.2.2.2.2.2.2.2.2.1 w.2.2.2.2.2.2.2.2.1.length i w.1 w.2.1 w.2.2.1 w.2.2.2.1 w.2.2.2.2.1 w.2.2.2.2.2.1 w.2.2.2.2.2.2.1 w.2.2.2.2.2.2.2.1 w.2.2.2.2.2.2.2.2.1 w.2.2.2.2.2.2.2.2.2.1 w.2.2.2.2.2.2.2.2.2.2.1 0 0 false [] [] [] [] [] [] [] [] w.2.1 w.2.2.2.2.2.1 w.2.2.2.2.2.2.2.2.2.2.1 w.1 DY w.2.2.2.1 w.2.2.2.2.1 ES Ey Fq []=some ((((),w.2.1,(),(),(),w.2.2.2.2.2.1,(),(),(),(),w.2.2.2.2.2.2.2.2.2.2.1,()),()),(w.1,DY,w.2.2.2.1,w.2.2.2.2.1,ES,Ey,(Fq++w.2.2.2.2.2.2.2.2.1.drop i),w.2.2.2.2.2.2.2.2.2.1,())):=by
 have vq:=h.TN;have hl:=h.lens;intro n
 induction n with
 |zero=>omega
 |succ n ih=>
  intro i DY ES Ey Fq hi hn hb;simp only[FC,UO,AB];by_cases Du:i<w.2.2.2.2.2.2.2.2.1.length
  ·have hm:=AY (f:=Ak) (AO7 Du)
   have hw:Ak w.2.2.2.2.2.2.2.2.1[i]=AS CL w.2.2.2.2.2.2.2.2.1[i].2.2.1:=rfl;have hlw:=AU (f:=CL) (l:=w.2.2.2.2.2.2.2.2.1[i].2.2.1);rw[AOJ (by omega),AOJ (by omega),Al Du,AH (by omega) (by omega),show((i:Int)+1)=((i+1:Nat):Int)by omega,drop_cons Du];rw[QD (w.2.2.2.2.2.2.2.2.1[i]),Ys (by omega)];simp only[AD];rw[AOJ (by rw[Ap];omega),ih (i+1) _ _ _ _ (by omega) (by omega) (by simp_all),AQM];rfl
  ·rw[AOK (by omega),AOJ (by rw[Ap];omega),APk (by omega),AQO]
theorem AHM:∀(n i:Nat) (DY:List AO) (ES:List AR) (Ey:List Av),i<=w.2.2.2.2.2.2.2.1.length->(w.2.2.2.2.2.2.2.1.length-i)+w.2.2.2.2.2.2.2.2.1.length+2<=n->Ey.length<=i->
  FG n w.2.2.2.2.2.2.2.1 w.2.2.2.2.2.2.2.1.length i w.1 w.2.1 w.2.2.1 w.2.2.2.1 w.2.2.2.2.1 w.2.2.2.2.2.1 w.2.2.2.2.2.2.1 w.2.2.2.2.2.2.2.1 w.2.2.2.2.2.2.2.2.1 w.2.2.2.2.2.2.2.2.2.1 w.2.2.2.2.2.2.2.2.2.2.1 0 0 false [] [] [] [] [] [] [] [] w.2.1 w.2.2.2.2.2.1 w.2.2.2.2.2.2.2.2.2.2.1 w.1 DY w.2.2.2.1 w.2.2.2.2.1 ES Ey [] []=some ((((),w.2.1,(),(),(),w.2.2.2.2.2.1,(),(),(),(),w.2.2.2.2.2.2.2.2.2.2.1,()),()),(w.1,DY,w.2.2.2.1,w.2.2.2.2.1,ES,(Ey++w.2.2.2.2.2.2.2.1.drop i),w.2.2.2.2.2.2.2.2.1,w.2.2.2.2.2.2.2.2.2.1,())):=by
 have vq:=h.TN;have hl:=h.lens;intro n
 induction n with
 |zero=>omega
 |succ n ih=>
  intro i DY ES Ey hi hn hb;simp only[FG,UT,AB];by_cases Du:i<w.2.2.2.2.2.2.2.1.length
  ·have hm:=AY (f:=CK) (AO7 Du)
   rw[AOJ (by omega),AOJ (by omega),Al Du,AH (by omega) (by omega),show((i:Int)+1)=((i+1:Nat):Int)by omega,drop_cons Du];rw[T5 (w.2.2.2.2.2.2.2.1[i]),Hr (by omega)];simp only[AD];rw[AOJ (by rw[Ap];omega),ih (i+1) _ _ _ (by omega) (by omega) (by simp_all),AQM];rfl
  ·have:=AGD h n 0 DY ES Ey [] (by omega) (by omega) (by simp)
   grind
theorem AIS:∀(n i:Nat) (DY:List AO) (ES:List AR),i<=w.2.2.2.2.2.2.1.length->(w.2.2.2.2.2.2.1.length-i)+w.2.2.2.2.2.2.2.1.length+w.2.2.2.2.2.2.2.2.1.length+3<=n->ES.length<=i->
  Fo n w.2.2.2.2.2.2.1 w.2.2.2.2.2.2.1.length i w.1 w.2.1 w.2.2.1 w.2.2.2.1 w.2.2.2.2.1 w.2.2.2.2.2.1 w.2.2.2.2.2.2.1 w.2.2.2.2.2.2.2.1 w.2.2.2.2.2.2.2.2.1 w.2.2.2.2.2.2.2.2.2.1 w.2.2.2.2.2.2.2.2.2.2.1 0 0 false [] [] [] [] [] [] [] [] w.2.1 w.2.2.2.2.2.1 w.2.2.2.2.2.2.2.2.2.2.1 w.1 DY w.2.2.2.1 w.2.2.2.2.1 ES [] [] []=some ((((),w.2.1,(),(),(),w.2.2.2.2.2.1,(),(),(),(),w.2.2.2.2.2.2.2.2.2.2.1,()),()),(w.1,DY,w.2.2.2.1,w.2.2.2.2.1,(ES++w.2.2.2.2.2.2.1.drop i),w.2.2.2.2.2.2.2.1,w.2.2.2.2.2.2.2.2.1,w.2.2.2.2.2.2.2.2.2.1,())):=by
 have vq:=h.TN;have hl:=h.lens;intro n
 induction n with
 |zero=>omega
 |succ n ih=>
  intro i DY ES hi hn hb;simp only[Fo,V6,AB];by_cases Du:i<w.2.2.2.2.2.2.1.length
  ·have hm:=AY (f:=Aq) (AO7 Du)
   rw[AOJ (by omega),AOJ (by omega),Al Du,AH (by omega) (by omega),show((i:Int)+1)=((i+1:Nat):Int)by omega,drop_cons Du];rw[show(w.2.2.2.2.2.2.1[i].1,w.2.2.2.2.2.2.1[i].2.1,())=w.2.2.2.2.2.2.1[i]from rfl,J0 (by omega)];simp only[AD];rw[AOJ (by rw[Ap];omega),ih (i+1) _ _ (by omega) (by omega) (by simp_all),AQM];rfl
  ·have:=AHM h n 0 DY ES [] (by omega) (by omega) (by simp)
   grind
theorem AKk:∀(n i:Nat) (DY:List AO),i<=w.2.2.1.length->(w.2.2.1.length-i)+w.2.2.2.2.2.2.1.length+w.2.2.2.2.2.2.2.1.length+w.2.2.2.2.2.2.2.2.1.length+4<=n->DY.length<=i->
  Fm n w.2.2.1 w.2.2.1.length i w.1 w.2.1 w.2.2.1 w.2.2.2.1 w.2.2.2.2.1 w.2.2.2.2.2.1 w.2.2.2.2.2.2.1 w.2.2.2.2.2.2.2.1 w.2.2.2.2.2.2.2.2.1 w.2.2.2.2.2.2.2.2.2.1 w.2.2.2.2.2.2.2.2.2.2.1 0 0 false [] [] [] [] [] [] [] [] w.2.1 w.2.2.2.2.2.1 w.2.2.2.2.2.2.2.2.2.2.1 w.1 DY w.2.2.2.1 w.2.2.2.2.1 [] [] [] []=some ((((),w.2.1,(),(),(),w.2.2.2.2.2.1,(),(),(),(),w.2.2.2.2.2.2.2.2.2.2.1,()),()),(w.1,(DY++w.2.2.1.drop i),w.2.2.2.1,w.2.2.2.2.1,w.2.2.2.2.2.2.1,w.2.2.2.2.2.2.2.1,w.2.2.2.2.2.2.2.2.1,w.2.2.2.2.2.2.2.2.2.1,())):=by
 have vq:=h.TN;have hl:=h.lens;intro n
 induction n with
 |zero=>omega
 |succ n ih=>
  intro i DY hi hn hb;simp only[Fm,Vv,AB];by_cases Du:i<w.2.2.1.length
  ·have hm:=AY (f:=Aj) (AO7 Du)
   have hw:=GL (s:=w.2.2.1[i]) (by omega);rw[AOJ (by omega),AOJ (by omega),Al Du,AH (by omega) (by omega),show((i:Int)+1)=((i+1:Nat):Int)by omega,drop_cons Du];rw[QD (w.2.2.1[i]),Iq hw.1 hw.2];simp only[AD];rw[AOJ (by rw[Ap];omega),ih (i+1) _ (by omega) (by omega) (by simp_all),AQM];rfl
  ·have:=AIS h n 0 DY [] (by omega) (by omega) (by simp)
   grind
theorem Oq:HA w=some ((((),w.2.1,(),(),(),w.2.2.2.2.2.1,(),(),(),(),w.2.2.2.2.2.2.2.2.2.2.1,()),()),(w.1,w.2.2.1,w.2.2.2.1,w.2.2.2.2.1,w.2.2.2.2.2.2.1,w.2.2.2.2.2.2.2.1,w.2.2.2.2.2.2.2.2.1,w.2.2.2.2.2.2.2.2.2.1,())):=by
 have vq:=h.TN;have hl:=h.lens;unfold HA Vc;have:=AKk h AZ 0 [] (by omega) (AW6 (Ac (by omega))) (by simp);rw[show((0:Nat):Int)=0 from rfl,AVJ,AUN]at this;rw[show(w.1,w.2.1,())=Ae w from rfl,jL (by show w.1.length<=_;omega),D5 (by omega),show(w.2.2.2.2.1,w.2.2.2.2.2.1,())=(CQ w)from rfl,IX (by show AS Bk w.2.2.2.2.1<=_;omega)];simp only[AD];exact this
end
theorem wH{a b:Nat}(h:a+b<2^40):AW ((IntKind.wrap .u64 (AW ((a:Int)+(b:Int)))).fdiv (2^1))=(((a+b)/2:Nat):Int):=by
 grind[AH,IntKind.wrap,IntKind.bits,IntKind.signed,Int.fdiv_eq_ediv_of_nonneg]
structure lV {α:Type} (f:α->Int) (p:Int) (l:List α) (q:Nat):Prop where
 le:q<=l.length
 lt:∀(i:Nat) (h:i<l.length),i<q->f l[i]<p
 ge:∀(i:Nat) (h:i<l.length),q<=i->p<=f l[i]
theorem dI{α:Type}{f:α->Int}{l:List α}(h:WD f l){i j:Nat}(hi:i<l.length)(hj:j<l.length)(hij:i<=j):f l[i]<=f l[j]:=by
 grind[Int.le_of_lt,List.pairwise_iff_getElem]
theorem ei{l:List AJ}(ha:gp l)(hl:l.length<=2^30)(p:Int):∃q,lV (fun e:AJ=>e.1) p l q/\
  S9 l p=some ((((q:Int),(match l[q]? with|some e=>e.1==p|none=>false),()),()),()):=by
 have key:∀(n a b:Nat),a<=b->b<=l.length->b-a<n->(∀(i:Nat) (h:i<l.length),i<a->l[i].1<p)->(∀(i:Nat) (h:i<l.length),b<=i->p<=l[i].1)->
   ∃q,lV (fun e:AJ=>e.1) p l q/\BC n l p l.length a b=some ((((q:Int),(match l[q]? with|some e=>e.1==p|none=>false),()),()),()):=by
  intro n
  induction n with
  |zero=>omega
  |succ n ih=>
   intro a b s6 hb hn h1 h2;simp only[BC,C5,AB,TL];by_cases Ha:a<b
   ·have hm:(a+b)/2<l.length:=by omega
    rw[AOJ (by omega),wH (by omega),AOJ (by omega),Al hm];by_cases hc:l[(a+b)/2].1<p
    ·rw[AOJ hc]
     simp only[AD];rw[AOJ (by omega),AH (by omega) (by omega),show((((a+b)/2:Nat):Int)+1)=(((a+b)/2+1:Nat):Int)by omega];refine ih _ b (by omega) hb (by omega) (fun i h hi=> ?_) h2;exact Int.lt_of_le_of_lt (dI (f:=fun e:AJ=>e.1) ha h hm (by omega)) hc
    ·rw[AOK hc]
     have yz:∀(i:Nat) (h:i<l.length),(a+b)/2<=i->p<=l[i].1:=fun i h hi=>Int.le_trans (by omega) (dI (f:=fun e:AJ=>e.1) ha hm h hi)
     by_cases hd:l[(a+b)/2].1>p
     ·rw[AOJ hd]
      simp only[AD];rw[AOK (by omega)];exact ih a _ (by omega) (by omega) (by omega) h1 yz
     ·rw[AOK hd]
      simp only[AD];rw[AOK (by omega)];exact ih a _ (by omega) (by omega) (by omega) h1 yz
   ·have AHh:a=b:=by omega
    subst AHh;refine⟨a,⟨hb,h1,h2⟩,?_⟩;rw[AOK (by omega)];by_cases ha':a<l.length
    ·have:=h2 a ha' (ATX _)
     rw[AOJ (by omega),AOJ (by omega),Al ha',AOM ha',AOK (by omega)];by_cases hd:l[a].1>p
     ·simp_all;omega
     grind
    grind
 obtain⟨q,hq,e⟩:=key AZ 0 l.length (by omega) (by omega) (Ac (by omega)) (fun i h hi=>by omega) (fun i h hi=>by omega);refine⟨q,hq,?_⟩;unfold S9 CP C7;simp_all
theorem lV.get_eq{p:Int}{l:List AJ}{q:Nat}(h:lV (fun e:AJ=>e.1) p l q)(ha:gp l):OO p l=match l[q]? with|some e=>if e.1=p then some e else none|none=>none:=by
 by_cases hq:q<l.length
 ·rw[AOM hq]
  dsimp only;by_cases he:l[q].1=p
  ·rw[AOJ he,<-he]
   exact oI ha (AO7 hq)
  ·rw[AOK he]
   cases hg:OO p l with
   |none=>rfl
   |some x=>
    obtain⟨hm,hx⟩:=uP hg;obtain⟨i,hi,rfl⟩:=AVO hm;exfalso;have h2:=h.ge q hq (ATX _);rcases Nat.lt_or_ge i q with hiq|hiq
    ·have:=h.lt i hi hiq
     omega
    ·have:=dI (f:=fun e:AJ=>e.1) ha hq hi hiq
     omega
 ·rw[AYF (by omega)]
  dsimp only;cases hg:OO p l with
  |none=>rfl
  |some x=>
   obtain⟨hm,hx⟩:=uP hg;obtain⟨i,hi,rfl⟩:=AVO hm;have:=h.lt i hi (by omega);omega
theorem Um{s:AO}(h0:Aj s<=2^30)(h1:kC s)(p:Int):Gt s p=some (((match X6 s p with|some e=>(e,true,())|none=>((0,0,false,[],()),false,())),()),()):=by
 unfold Gt X6;rw[QD s,FN h0 h1];simp only[AD];rcases AOB (CN s)with EP|EP
 rotate_left
 ·simp_all
 have hs:=De.1 EP;have hn:=hs.nk;obtain⟨q,hq,e⟩:=ei hs.tf (by omega) p;rw[EP,e,AOJ rfl,hq.get_eq hs.tf];grind
theorem Il{e o:Int}:D2 e o=some (((HE e o,Bd e 1 30&&Bd o 1 60,()),()),()):=by
 unfold D2 H0 X1 HE;rw[A_,A_];simp only[AD];rcases AOB (Bd e 1 30)with he|he
 rotate_left
 ·simp_all
 rcases AOB (Bd o 1 60)with ho|ho
 rotate_left
 ·simp_all
 rw[he,ho];have h1:=As.1 he;have h2:=As.1 ho;simp only[AOx,AOk,Bool.and_self,AVR];rw[AH (x:=4294967296*e) (by omega) (by omega),AH (by omega) (by omega)];rfl
theorem ZZ{k:Int}:IE k=some (((),()),(BZ k,())):=by
 unfold IE VZ BZ;rw[A_];simp only[AD];rcases AOB (Bd k 0 255)with hk|hk
 rotate_left
 ·simp_all
 rw[hk,AOJ rfl];have hk':=As.1 hk;have key:∀(n i:Nat) (b:AAB),i<=8->8-i<n->b.length<=i->
   LM n k i b=some (((),()),(b++(([0,1,2,3,4,5,6,7]:AAB).drop i).filter (fun i=>(k/2^i.toNat)%2==1),())):=by
  intro n
  induction n with
  |zero=>omega
  |succ n ih=>
   intro i b hi h hb;simp only[LM,Vq,AB];by_cases Du:i<8
   ·have AC_:=wF (k:=k) (i:=i) (by omega) (by omega)
    rw[AOJ (show(i:Int)<8 by omega),AOK (by omega),AO2,uF i Du,AVV,AO2,AH (by omega) (by omega),show((i:Int)+1)=((i+1:Nat):Int)by omega];rw[AC_];simp only[AB];have c2:b.length+1<=C_:=by rw[Ap];omega
    by_cases hb':(k/2^i)%2=1
    ·rw[AOJ hb',AOJ c2,AOJ (by simp_all),ih (i+1) _ (by omega) (by omega) (by simp_all),AQM]
     rfl
    grind
   ·have:i=8:=by omega
    simp_all
 have:=key AZ 0 [] (by omega) (Ac (by omega)) (by simp);simp_all
theorem MN{r:AN}(h:AS Bk r.1<=2^30){e:Int}(he:CB e):H8 r e=some (((),()),(BK r.1 e,())):=by
 unfold H8 BK;have hl:=AU (f:=Bk) (l:=r.1);rw[A_];simp only[AD];rcases AOB (Bd e 1 r.1.length)with hk|hk
 rotate_left
 ·simp_all
 rw[hk,AOJ rfl];have hk':=As.1 hk;have hm:=AY (f:=Bk) (Bm (d:=GB) (i:=(e-1).toNat) (by omega:(e-1).toNat<r.1.length));have hw:Bk (r.1.getD (e-1).toNat GB)=(r.1.getD (e-1).toNat GB).1.length:=rfl;rw[AH (by omega) (by omega)];simp only[AOx,AOk];rw[AOJ (by omega),show(r.1.getD (e-1).toNat ([],false,0,()))=r.1.getD (e-1).toNat GB from rfl,D5 (by omega)];rfl
theorem MV{w:AA}(h1:w.BX.length<=2^30)(h2:w.lost.length<=2^30){n:Int}:Ej w n=some ((Ay w n,()),()):=by
 unfold Ej Ay;have h1':w.2.2.1.length<=2^30:=h1;rw[AH (by omega) (by omega),A_,bu (by grind)];grind
theorem P2{b:Bool}:Kt b=some ((if b then 0 else 4,()),()):=by cases b<;>rfl
theorem js{x:AR}(h:x.2.1.length<=2^30):RG x=some (((cG x.2.1:Int),()),()):=by
 have key:∀(n i:Nat),i<=x.2.1.length->x.2.1.length-i<n->i+cG (x.2.1.drop i)=cG x.2.1->Jw n x.2.1 x.2.1.length i x.1 x.2.1=some (((cG x.2.1:Int),()),()):=by
  intro n
  induction n with
  |zero=>omega
  |succ n ih=>
   intro i hi hn hs;simp only[Jw,UM,AB];by_cases hc:i<x.2.1.length
   ·rw[drop_cons hc]at hs
    simp only[cG]at hs;rw[AOJ (by omega),AOJ (by omega),Al hc,AH (by omega) (by omega),show((i:Int)+1)=((i+1:Nat):Int)by omega];cases hd:x.2.1[i].2.2.1 with
    |true=>
     grind
    |false=>
     simp_all
   ·rw[APk (by omega)]at hs
    simp only[cG]at hs;grind
 grind[RG,UF,AZ,Ac]
theorem qH{w:AA}(h:dX w)(e:Int):Sb w e=some ((dF w e,()),()):=by
 have vq:=h.TN;have hl:=h.lens;have key:∀(n i:Nat),i<=w.AQ.length->w.AQ.length-i<n->PJ n e w.AQ w.AQ.length i=some (((match(w.AQ.drop i).find? (fun x=>x.1==e)with|some x=>(cG x.2.1:Int)|none=>0),()),()):=by
  intro n
  induction n with
  |zero=>omega
  |succ n ih=>
   intro i hi hn;simp only[PJ,aH,AB];by_cases hc:i<w.AQ.length
   ·have eS:i<w.2.2.2.2.2.2.1.length:=hc
    have hm:Aq w.AQ[i]<=AS Aq w.2.2.2.2.2.2.1:=AY (f:=Aq) (AO7 hc);have hw:Aq w.AQ[i]=AS Az w.AQ[i].2.1:=rfl;have hlw:=AU (f:=Az) (l:=w.AQ[i].2.1);rw[AOJ (by omega),AOJ (by omega),Al hc,AH (by omega) (by omega),show((i:Int)+1)=((i+1:Nat):Int)by omega,drop_cons hc,AZZ,show(w.AQ[i].1,w.AQ[i].2.1,())=w.AQ[i]from rfl,js (by omega),ih (i+1) (by omega) (by omega)];cases w.AQ[i].1==e<;>rfl
   grind
 grind[Sb,aE,dF,AZ,Ac]
theorem yD{x:Int}{t:ADM}(h:t.1.length<=2^30):SR x t=some ((!t.1.contains x,()),()):=by
 grind[SR,JT]
theorem oB{x:Int}{t:ABq}:NV x t=some ((x==t.1,()),()):=rfl
theorem pM{t:ADM×Unit}(h:t.1.1.length<=2^30){l:AAB}(hl:l.length<=2^30):Cx t l=some (((),()),((),l.filter (fun x=> !(!t.1.1.contains x)),())):=by
 have key:∀(n i j:Nat) (b:AAB),i<=j->j<=b.length->b.length<=2^30->b.length-j<n->B7 n t i j b=some (((),()),((),b.take i++(b.drop j).filter (fun x=> !(!t.1.1.contains x)),())):=by
  intro n
  induction n with
  |zero=>omega
  |succ n ih=>
   intro i j b hij hj hb hn;simp only[B7,EF,AB];by_cases hc:j<b.length
   ·rw[AOJ (by omega),AOJ (by omega),Al hc,yD h]
    simp only[AD];rw[AH (x:=(j:Int)+1) (by omega) (by omega),AH (x:=(i:Int)+1) (by omega) (by omega),show((j:Int)+1)=((j+1:Nat):Int)by omega,show((i:Int)+1)=((i+1:Nat):Int)by omega,drop_cons hc,AVV];have n1:=ih (i+1) (j+1) (b.set i b[j]) (by omega) (by grind) (by simp_all) (by grind);have n2:=ih i (j+1) b (by omega) (by omega) hb (by omega);rw[show(t.1,())=t from rfl,n2];rw[AZ5 (by omega),AVa (by grind),AZ6 (ATX _),AZy,AQM,AV2]at n1;rw[AOJ (by omega),AO2,n1]
    generalize hx:b[j]=x
    cases(!t.1.1.contains x)<;>rfl
   ·rw[AOK (by omega),APk (i:=j) (by omega),AO2,AO2]
    simp_all;omega
 have fnd:∀(n i:Nat),i<=l.length->l.length-i<n-> ∃r:Int,CC n l t l.length i=some ((r,()),())/\((r= -1/\(l.drop i).filter (fun x=> !(!t.1.1.contains x))=l.drop i)\/ ∃q:Nat,r=q/\i<=q/\q<l.length/\((l.take q).drop i).filter (fun x=> !(!t.1.1.contains x))=(l.take q).drop i/\ ∀(h:q<l.length) x,x=l[q]->(!t.1.1.contains x)=true):=by
  intro n
  induction n with
  |zero=>omega
  |succ n ih=>
   intro i hi hn;simp only[CC,EO,AB];by_cases hc:i<l.length
   ·rw[AOJ (by omega),AOJ (by omega),Al hc,yD h]
    simp only[AD];rw[AH (x:=(i:Int)+1) (by omega) (by omega),show((i:Int)+1)=((i+1:Nat):Int)by omega,show(t.1,())=t from rfl];obtain⟨r,e,hr⟩:=ih (i+1) (by omega) (by omega);rw[e]
    generalize hx:l[i]=x
    cases hp:(!t.1.1.contains x)with
    |true=>
     grind
    |false=>
     refine⟨r,rfl,?_⟩;rcases hr with⟨h1,h2⟩|⟨q,h1,h2,h3,h4,h5⟩
     ·grind[drop_cons]
     ·refine .inr ⟨q,h1,by omega,h3,?_,h5⟩
      grind[drop_cons]
   grind
 obtain⟨r,e,hr⟩:=fnd AZ 0 (by omega) (Ac (by omega));rw[show((0:Nat):Int)=0 from rfl]at e;unfold Cx EE Dx EL;rw[show(t.1,())=t from rfl,e];simp only[AD];rcases hr with⟨h1,h2⟩|⟨q,h1,h2,h3,h4,h5⟩
 ·grind
 ·rw[h1,AS8.2 (by omega),AOk,AH (by omega) (by omega),show((q:Int)+1)=((q+1:Nat):Int)by omega,key AZ q (q+1) l (by omega) (by omega) hl (Ac (by omega))]
  rw[AUN]at h4;have hd:=h5 h3 _ rfl;grind[List.take_append_drop,drop_cons]
theorem dK{t:AEB}{l:AAB}(hl:l.length<=2^30):C0 t l=some (((),()),((),l.filter (fun x=> !(x==t.1.1)),())):=by
 have key:∀(n i j:Nat) (b:AAB),i<=j->j<=b.length->b.length<=2^30->b.length-j<n->B4 n t i j b=some (((),()),((),b.take i++(b.drop j).filter (fun x=> !(x==t.1.1)),())):=by
  intro n
  induction n with
  |zero=>omega
  |succ n ih=>
   intro i j b hij hj hb hn;simp only[B4,E6,AB];by_cases hc:j<b.length
   ·rw[AOJ (by omega),AOJ (by omega),Al hc,oB]
    simp only[AD];rw[AH (x:=(j:Int)+1) (by omega) (by omega),AH (x:=(i:Int)+1) (by omega) (by omega),show((j:Int)+1)=((j+1:Nat):Int)by omega,show((i:Int)+1)=((i+1:Nat):Int)by omega,drop_cons hc,AVV];have n1:=ih (i+1) (j+1) (b.set i b[j]) (by omega) (by grind) (by simp_all) (by grind);have n2:=ih i (j+1) b (by omega) (by omega) hb (by omega);rw[show(t.1,())=t from rfl,n2];rw[AZ5 (by omega),AVa (by grind),AZ6 (ATX _),AZy,AQM,AV2]at n1;rw[AOJ (by omega),AO2,n1]
    generalize hx:b[j]=x
    cases(x==t.1.1)<;>rfl
   ·rw[AOK (by omega),APk (i:=j) (by omega),AO2,AO2]
    simp_all;omega
 have fnd:∀(n i:Nat),i<=l.length->l.length-i<n-> ∃r:Int,B9 n l t l.length i=some ((r,()),())/\((r= -1/\(l.drop i).filter (fun x=> !(x==t.1.1))=l.drop i)\/ ∃q:Nat,r=q/\i<=q/\q<l.length/\((l.take q).drop i).filter (fun x=> !(x==t.1.1))=(l.take q).drop i/\ ∀(h:q<l.length) x,x=l[q]->(x==t.1.1)=true):=by
  intro n
  induction n with
  |zero=>omega
  |succ n ih=>
   intro i hi hn;simp only[B9,FQ,AB];by_cases hc:i<l.length
   ·rw[AOJ (by omega),AOJ (by omega),Al hc,oB]
    simp only[AD];rw[AH (x:=(i:Int)+1) (by omega) (by omega),show((i:Int)+1)=((i+1:Nat):Int)by omega,show(t.1,())=t from rfl];obtain⟨r,e,hr⟩:=ih (i+1) (by omega) (by omega);rw[e]
    generalize hx:l[i]=x
    cases hp:(x==t.1.1)with
    |true=>
     grind
    |false=>
     refine⟨r,rfl,?_⟩;rcases hr with⟨h1,h2⟩|⟨q,h1,h2,h3,h4,h5⟩
     ·grind[drop_cons]
     ·refine .inr ⟨q,h1,by omega,h3,?_,h5⟩
      grind[drop_cons]
   grind
 obtain⟨r,e,hr⟩:=fnd AZ 0 (by omega) (Ac (by omega));rw[show((0:Nat):Int)=0 from rfl]at e;unfold C0 FB ED FR;rw[show(t.1,())=t from rfl,e];simp only[AD];rcases hr with⟨h1,h2⟩|⟨q,h1,h2,h3,h4,h5⟩
 ·grind
 ·rw[h1,AS8.2 (by omega),AOk,AH (by omega) (by omega),show((q:Int)+1)=((q+1:Nat):Int)by omega,key AZ q (q+1) l (by omega) (by omega) hl (Ac (by omega))]
  rw[AUN]at h4;have hd:=h5 h3 _ rfl;grind[List.take_append_drop,drop_cons]
theorem cT{a b:AAB}(ha:a.length<=2^30)(hb:b.length<=2^30):Nw a b=some (((),()),(a.filter b.contains,())):=by
 unfold Nw;rw[D5 ha];simp only[AD];rw[pM hb ha];grind
theorem Lv{a:AAB}{x:Int}(ha:a.length<=2^30):GV a x=some (((),()),(less a [x],())):=by
 unfold GV less;rw[D5 ha];simp only[AD];rw[dK ha];grind
theorem qQ{d:Ao}:ZW d=some ((OP d,()),()):=by
 obtain⟨k,a,b,n,t,⟨⟩⟩:=d;obtain⟨m,hm⟩:∃m,AZ=m+4:=⟨AZ-4,by have:=gS;omega⟩;have fin:∀(a' b' n':Int) (t':ACH),(((BE k 1 16).bind fun u4=>cond (u4.1.1) (cond ((((0:Int)==0)&&((a' ==0)&&((b' ==0)&&((n' ==0)&&((t' ==[])&&true))))) ) ((GR t).bind fun u6=>some ((u6.1.1,()),())) (some ((false,()),()))) (some ((false,()),()))):Option Qw)=some ((Bd k 1 16&&((a' ==0)&&((b' ==0)&&((n' ==0)&&((t' ==[])&&decide (t.length<=40))))),()),()):=by
  intro a' b' n' t';rw[A_];simp only[AD,GR,AZz,APr,AVm];have e:decide ((t.length:Int)<=40)=decide (t.length<=40):=by grind
  grind
 unfold ZW Zg dQ OP gP;rw[hm];have h1:((1:Nat):Int)=1:=rfl;have w1:AW (1:Int)=1:=AH (by omega) (by omega);have w2:AW (2:Int)=2:=AH (by omega) (by omega);have w3:AW (3:Int)=3:=AH (by omega) (by omega);have lim:(3:Nat)<=C_:=by rw[Ap];omega
 have l0:(0:Nat)<=C_:=by omega
 have l1:(1:Nat)<=C_:=by omega
 have l2:(2:Nat)<=C_:=by omega
 dsimp only;by_cases k8:k=8
 ·subst k8
  simpa[Dz,Di]using fin a b n t
 by_cases k10:k=10
 ·subst k10
  simpa[Dz,Di]using fin a b n t
 by_cases k12:k=12
 ·subst k12
  simpa[Dz,Di]using fin a b n t
 by_cases k2:k=2
 ·subst k2
  simpa[Dz,Di,l2,w1,w2]using fin 0 b n []
 by_cases k3:k=3
 ·subst k3
  simpa[Dz,Di,lim,w1,w2,w3]using fin 0 0 0 t
 by_cases k5:k=5
 ·subst k5
  simpa[Dz,Di,l2,w1,w2]using fin 0 0 n t
 by_cases k14:k=14
 ·subst k14
  simpa[Dz,Di,l2,w1,w2]using fin 0 0 n t
 by_cases k11:k=11
 ·subst k11
  simpa[Dz,Di,l2,w1,w2]using fin a 0 0 t
 by_cases k13:k=13
 ·subst k13
  simpa[Dz,Di,l1,w1]using fin 0 b n t
 have e8:(k==8)=false:=AS8.2 k8;have e10:(k==10)=false:=AS8.2 k10;have e12:(k==12)=false:=AS8.2 k12;have e2:(k==2)=false:=AS8.2 k2;have e3:(k==3)=false:=AS8.2 k3;have e5:(k==5)=false:=AS8.2 k5;have e14:(k==14)=false:=AS8.2 k14;have e11:(k==11)=false:=AS8.2 k11;have e13:(k==13)=false:=AS8.2 k13;simpa[k8,k10,k12,k2,k3,k5,k14,k11,k13,e8,e10,e12,e2,e3,e5,e14,e11,e13,Dz,Di,l1,w1]using fin 0 b n t
theorem pe{l:List BA}(hl:l.length<=2^20):Pz l=some (((),()),(l.map (fun a=>a.1),())):=by
 have key:∀(n i:Nat) (b:AAB),i<=l.length->l.length-i<n->b.length=i->Na n l l.length i b=some (((),()),(b++(l.drop i).map (fun a=>a.1),())):=by
  intro n
  induction n with
  |zero=>omega
  |succ n ih=>
   intro i b hi h hb;simp only[Na,Yz,AB];by_cases eS:i<l.length
   ·have c1:(0:Int)<=(i:Int)/\(i:Int)<(l.length:Int):=by omega
    have c2:b.length+1<=C_:=by rw[Ap];omega
    rw[AOJ c1.2,AOJ c1,AOJ c2,AH (by omega) (by omega),show((i:Int)+1)=((i+1:Nat):Int)by omega,Al eS,ih (i+1) _ (by omega) (by omega) (by simp_all),drop_cons eS];grind
   grind
 unfold Pz YN;have:=key AZ 0 [] (by omega) (Ac (by omega)) rfl;simp_all
theorem vL{c:CG}{s l:AAB}(hc:c.1.length<=2^40)(hl:l.length<=2^20)(hs:s.length<=2^20):gI c s l=some (((),()),(if BH c s&&BH c l then less s l else[],())):=by
 have key:∀(n i:Nat) (b:AAB),i<=s.length->s.length-i<n->b.length<=i->TU n l s s.length i b=some (((),()),(b++less (s.drop i) l,())):=by
  intro n
  induction n with
  |zero=>omega
  |succ n ih=>
   intro i b hi h hb;simp only[TU,dW,AB,BB];by_cases eS:i<s.length
   ·have c1:(0:Int)<=(i:Int)/\(i:Int)<(s.length:Int):=by omega
    have c2:b.length+1<=C_:=by rw[Ap];omega
    rw[AOJ c1.2,AOJ c1,Al eS,JT (by omega),AH (by omega) (by omega),show((i:Int)+1)=((i+1:Nat):Int)by omega,drop_cons eS];simp only[AD,AOJ c2];rw[ih (i+1) b (by omega) (by omega) (by omega),ih (i+1) (b++[s[i]]) (by omega) (by omega) (by simp_all)];grind[less]
   ·rw[AOK (by omega),APk (by omega)]
    simp[less]
 unfold gI dS;rw[show(c.1,c.2.1,())=c from rfl,EU hc (by omega),EU hc (by omega)];simp only[AD];cases BH c s with
 |false=>rfl
 |true=>
  cases BH c l with
  |false=>rfl
  |true=>
   have:=key AZ 0 [] (by omega) (Ac (by omega)) (by simp);simp_all
theorem filter_all{l:AAB}{p:Int->Bool}:((((l.filter p).length:Nat):Int) !=(l.length:Int))= !l.all p:=by
 rw[AZ7];simp only[bne_iff_ne,ne_eq,AVg,AWt];grind[List.filter_eq_self,List.all_eq_true,List.length_filter_eq_length_iff]
theorem ey{c:CG}{s l:AAB}(hc:c.1.length<=2^40)(hl:l.length<=2^20)(hs:s.length<=2^20):HT c s l=some ((Rc c s l,()),()):=by
 unfold HT Rc;rw[show(c.1,c.2.1,())=c from rfl,EU hc (by omega),Gq hc (by omega),cT (by omega) (by omega),vL hc hl hs];simp only[AD,BB,filter_all];have hh:holds c s=true->BH c s=true:=fun h=>by
  unfold holds at h;simp_all
 cases h1:BH c l with
 |false=>simp
 |true=>
  cases h2:holds c s with
  |false=>rfl
  |true=>
   cases h3:l.all s.contains with
   |false=>rfl
   |true=>
    have h4:(less s l).length<=2^20:=AVG (AUc _ _) hs;rw[hh h2];simp only[APm,Bool.and_self,AVR,AOx,AOk,APr];grind[Gq]
theorem ZF{a b:AJ}:SE a b=some ((better a b,()),()):=by
 unfold SE better;grind
theorem sa{s:AAB}{p:Int}{l:List BA}(hs:s.length<=2^20)(hl:l.length<=2^20)(VP:∀a∈l,CB a.2.2.1):
  Z5 l s p=some (((((IA s p none l).getD D6),(IA s p none l).isSome,()),()),()):=by
 have key:∀(n i:Nat) (b:Option AJ),i<=l.length->l.length-i<n->
   Pg n s p b.isSome l l.length i 0 0 false [] (b.getD D6).1 (b.getD D6).2.1 (b.getD D6).2.2.1 (b.getD D6).2.2.2.1=some (((((IA s p b (l.drop i)).getD D6),(IA s p b (l.drop i)).isSome,()),()),()):=by
  intro n
  induction n with
  |zero=>omega
  |succ n ih=>
   intro i b hi h;simp only[Pg,Zp,AB,BB];by_cases eS:i<l.length
   ·have c1:(0:Int)<=(i:Int)/\(i:Int)<(l.length:Int):=by omega
    rw[AOJ c1.2,AOJ c1,AH (by omega) (by omega),show((i:Int)+1)=((i+1:Nat):Int)by omega,Al eS,drop_cons eS];have ih':=fun b=>ih (i+1) b (by omega) (by omega)
    simp only[ih'];rw[JT (by omega),show(l[i].2.2.1,l[i].2.2.2.1,l[i].2.2.2.2.1,l[i].2.2.2.2.2.1,())=Xe l[i]from rfl];rw[RC (e:=Xe l[i]) (VP _ (AO7 eS))];simp only[AD,IA];cases h1:l[i].2.1 with
    |false=>simp
    |true=>
     cases h2:s.contains l[i].1 with
     |false=>simp
     |true=>
      cases h3:GG (Xe l[i])with
      |false=>simp
      |true=>
       simp only[APm,APr];by_cases h4:l[i].2.2.1=p
       ·rw[C6,AOJ h4,AOJ (by show((Xe l[i]).1==p)=true;rw[AVi];exact h4)]
        cases b with
        |none=>
         simp only[AVb,AOk,ZF,AD,Option.getD_none];have:=ih' (some (Xe l[i]));simp only[AVT,AVc]at this;have hb:better (Xe l[i]) (Xe l[i])=Xe l[i]:=by unfold better;simp_all
         simp_all
        |some x=>
         simp only[AVT,APm,AVc];rw[cu x];grind[ZF,AD,better,Xe,Option.isSome_some]
       ·rw[C6,AOK h4,AOK (by show¬((Xe l[i]).1==p)=true;rw[AVi];exact h4)]
   ·rw[AOK (by omega),APk (by omega)]
    rfl
 unfold Z5 aC;exact key AZ 0 none (by omega) (Ac (by omega))
theorem cK{s t:AAB}{p:Int}:∀{l:List BA} {b:Option AJ},(∀a∈l,s.contains a.1=t.contains a.1)->IA s p b l=IA t p b l
 |[],b,_=>rfl
 |a::l,b,h=>by
  simp only[IA];rw[h a (by simp),cK (fun x hx=>h x (by simp[hx])),cK (fun x hx=>h x (by simp[hx]))]
theorem Wf{e:BU}{a b:Int}{l:List BU}(h:l.length<=2^30):FX e a b l=some (((),()),((a,b,(),()),(),l++[e],())):=by
 unfold FX;rw[AOJ (by rw[Ap];omega)]
theorem fb{s:AAB}{l:List BA}{a b:Int}{o:List BU}(ha:1<=a/\a<=30)(hb:1<=b/\b<=60)(ho:o.length<=2^20)(hs:s.length<=2^20)(hl:l.length<=2^20)(VP:∀a∈l,CB a.2.2.1):
  DG l s a b o=some (((),()),((a,b+1,(),()),(),o++[Rj (HN a b) (IA s (HN a b) none l)],())):=by
 unfold DG;rw[Il];have hp:HE a b=HN a b:=by
  unfold HE;rw[AOJ (by rw[AOw,As,As];omega)]
 simp only[AD];rw[hp,sa hs hl VP];simp only[AD,Wf (AVG ho (by omega))];rw[AH (by omega) (by omega)];cases IA s (HN a b) none l with
 |none=>rfl
 |some x=>
  simp only[AVT,AOx,AOk,AVc,Rj];grind
theorem AAS{x e o:Int}(hx:x=0\/Bp x=true)(he:1<=e/\e<=31)(ho:1<=o/\o<=61):
  decide (x>=HN e o)=(decide (x>0)&& !(decide (Ar x<e)||((Ar x==e)&&decide (DX x<o)))):=by
 rcases hx with rfl|hx
 ·grind[decide_eq_false,HN]
 ·have h:=HX hx
  rw[AZ7];simp only[AOw,AVg,Bool.or_eq_false_iff,APo,AW8,Bool.and_eq_false_iff,AS8];grind[HN]
theorem pW{x:Int}{r:Ag}(hx:CB x):Xn x r=some ((decide (Ar x<r.1)||((Ar x==r.1)&&decide (DX x<r.2.1)),()),()):=by
 grind[Xn,FP,aY,AD,decide,Ar]
theorem jh{c:CG}{g:AN}{sure:Int}{r:Ag}{l:List BA}(hc:c.1.length<=2^20)(hg:AS Bk g.1<=2^20)(ht:CB g.2.1)(hl:l.length<=2^20)(VP:∀a∈l,CB a.2.2.1):
  Kr c g sure r l=some (z7 (C2 c g sure r l)):=by
 unfold Kr C2;rw[show(c.1,c.2.1,())=c from rfl,show(g.1,g.2.1,())=g from rfl,QD r,pe hl,N4 (by omega) (by omega) ht,cC];simp only[AD,BB,AB];rw[EU (by omega) (by grind)];simp only[AD];cases h1:Pp c g with
 |false=>rfl
 |true=>
 cases h2:bp r with
 |false=>rfl
 |true=>
 cases h3:BH c (l.map fun a=>a.1)with
 |false=>rfl
 |true=>
 have hr:=Uy.1 h2;have hre:=hr.ep;have hro:=hr.off;have hrn:=hr.n;have hR:=Ke.1 h1;have hRn:=hR.n;simp only[APm,APr,AOx,AO5,ATF];rw[Ys (by omega)];simp only[AD];by_cases h4:r.1>(g.1.length:Int)
 ·rw[AOJ h4,AVH h4];rfl
 rw[AOK h4,AVY h4];by_cases h5:r.2.2.1.length=120
 ·rw[show(((r.2.2.1.length:Nat):Int)==120)=true by simp_all,AVH h5];rfl
 rw[show(((r.2.2.1.length:Nat):Int)==120)=false by grind,AVY h5];simp only[AOk,AVP,AO5,ATF];rw[AH (x:=r.1-1) (by omega) (by omega),pW ht,FP ht,aY ht];simp only[AD];have hto:=kj (x:=g.2.1);rw[AH (x:=DX g.2.1+1) (by omega) (by omega),AH (x:=r.1+1) (by omega) (by omega)];simp only[Wf (l:=r.2.2.1) (by omega),AD];have hta:=AAS (x:=g.2.1) (e:=r.1) (o:=r.2.1) (hR.trim.imp id fun h=>h.1) hre hro
 generalize AHA:g.1.getD (r.1-1).toNat GB=era
 have Ha:(r.1-1).toNat<g.1.length:=by omega
 have Vb:era.1.length<=2^20:=by
  have h7:=AY (f:=Bk) (Bm (d:=GB) Ha);rw[AHA]at h7;have:Bk era=era.1.length:=rfl;omega
 have hd:g.1.getD (r.1-1).toNat ([],false,0,())=era:=AHA;rw[hd];have hf:((l.map fun a=>a.1).filter era.1.contains).length<=2^20:=AVG (AUc _ _) (by simp_all);rw[cT (by grind) (by omega)];simp only[AD];rw[ey (by omega) hf Vb];simp only[AD];have AdQ:(0:Int)<=r.1-1/\r.1-1<(g.1.length:Int):=by omega
 simp only[AOJ AdQ]
 generalize hT:(cond (era.2.1) _ _:Option LH)=T
 have zB:T=some (z7 (if era.2.1&&decide (r.2.1>era.2.2.1)then((r.1+1,1,r.2.2.1++[(4,r.1+1,[],())],()),0)else
   if(!era.2.1&&decide (r.2.1>sure))||decide (r.2.1>60)then(r,2)else
   if !Rc c era.1 ((l.map fun a=>a.1).filter era.1.contains)then(r,3)else
   ((r.1,r.2.1+1,r.2.2.1++[Rj (HN r.1 r.2.1) (IA era.1 (HN r.1 r.2.1) none l)],()),0))):=by
  rw[<-hT];clear hT;have tail:r.2.1<=60->(cond (Rc c era.1 ((l.map fun a=>a.1).filter era.1.contains))
    ((DG l ((l.map fun a=>a.1).filter era.1.contains) r.1 r.2.1 r.2.2.1).bind fun Lt=>some ((((Lt.2.1.1,Lt.2.1.2.1,(),()),0,()),()),(Lt.2.2.2.1,())))
    (some ((((r.1,r.2.1,(),()),3,()),()),(r.2.2.1,()))):Option LH)=some (z7 (if !Rc c era.1 ((l.map fun a=>a.1).filter era.1.contains)then(r,3)else
    ((r.1,r.2.1+1,r.2.2.1++[Rj (HN r.1 r.2.1) (IA era.1 (HN r.1 r.2.1) none l)],()),0))):=by
   intro h60;rw[fb (by omega) (by omega) (by omega) hf hl VP];rw[cK (s:=(l.map fun a=>a.1).filter era.1.contains) (t:=era.1) (fun a ha=>by
    rw[AZ7,AX1,AWB];exact⟨fun h=>by simp_all,fun h=>⟨List.mem_map_of_mem ha,by omega⟩⟩)]
   cases Rc c era.1 ((l.map fun a=>a.1).filter era.1.contains)<;>rfl
  cases h7:era.2.1 with
  |true=>
   simp only[APm,AOk,APr,AOx,AVZ,AVP,APo];by_cases h8:r.2.1>era.2.2.1
   ·rw[AOJ h8,AOJ h8];rfl
   rw[AOK h8,AOK h8];by_cases h9:r.2.1>60
   ·rw[AOJ h9,AOJ h9];rfl
   grind
  |false=>
   simp only[APm,AOk,APr,AVN,AVZ,AO5,ATF,AVX,APo];by_cases h8:r.2.1>sure
   ·rw[AOJ h8,AOJ (.inl h8)];rfl
   rw[AOK h8];by_cases h9:r.2.1>60
   ·rw[AOJ h9,AOJ (.inr h9)];rfl
   grind
 rw[zB];clear hT zB
 generalize (decide (Ar g.2.1<r.1)||((Ar g.2.1==r.1)&&decide (DX g.2.1<r.2.1)))=B at hta|-
 by_cases h6:g.2.1>=HN r.1 r.2.1
 ·rw[AVH h6]at hta
  rw[AOJ h6];by_cases h0:g.2.1>0
  ·rw[AOJ h0]
   cases B with
   |true=>grind
   |false=>rfl
  simp_all
 ·rw[AOK h6]
  simp_all
theorem AC7{w:AA}{p n:Int}:(answer w p n).1=n:=by
 grind[answer]
theorem r8{w:AA}{p:Int}{ns:AAB}:(answers w p ns).map (fun a=>a.1)=ns.filter fun n=>Ay w n==0:=by
 unfold answers;rw[AXP]
 conv=>rhs;rw[<-List.map_id (ns.filter fun n=>Ay w n==0)]
 grind[List.map_congr_left,AC7]
theorem mo{c:CG}{g:AN}{s:Int}{r:Ag}{w:AA}{ns:AAB}:
  C2 c g s r (answers w (HE r.1 r.2.1) ns)=C2 c g s r (answers w (HN r.1 r.2.1) ns):=by
 unfold C2;rw[r8,r8];cases h1:Pp c g with
 |false=>rfl
 |true=>
 cases h2:bp r with
 |false=>rfl
 |true=>
 have hr:=Uy.1 h2;have hre:=hr.ep;have hro:=hr.off;have hRn:=(Ke.1 h1).n;by_cases h3:r.1<=30/\r.2.1<=60
 ·have:HE r.1 r.2.1=HN r.1 r.2.1:=by
   unfold HE;rw[AOJ (by rw[AOw,As,As];omega)]
  rw[this]
 ·by_cases h4:r.1>(g.1.length:Int)
  ·simp_all
  ·have h5:r.2.1>60:=by omega
   simp_all
def l3(q:AA×Int):LD:=((q.2,()),(((),q.1.2.1,(),(),(),q.1.2.2.2.2.2.1,(),(),(),(),q.1.2.2.2.2.2.2.2.2.2.2.1,()),q.1.1,q.1.2.2.1,q.1.2.2.2.1,q.1.2.2.2.2.1,q.1.2.2.2.2.2.2.1,q.1.2.2.2.2.2.2.2.1,q.1.2.2.2.2.2.2.2.2.1,q.1.2.2.2.2.2.2.2.2.2.1,()))
theorem ALg{k n:Int}(h:n∈BZ k):0<=n/\n<=7:=by
 unfold BZ at h;simp_all;omega
theorem yQ{k:Int}:(BZ k).length<=8:=by
 unfold BZ;split
 ·exact AVG (AUc _ _) (by simp)
 ·simp
section
variable{w:AA} (h:KU w) (Kx:dX w)
include h Kx
omit Kx in
theorem AA7{p:Int}{ns:AAB}:∀a∈answers w p ns,CB a.2.2.1:=fun a ha=>by
 unfold answers at ha;obtain⟨n,hn,rfl⟩:=AVh.1 ha;have hn':Ay w n=0:=by have:=(AWB.1 hn).2;rwa [AVi]at this
 unfold answer;split
 ·rename_i e he
  have:=(h.store hn').kept e (AYG he);exact HG (Fp.1 this).pl
 ·exact⟨by show-9223372036854775808<=(0:Int);omega,by show(0:Int)<9223372036854775808;omega⟩
theorem iZ{a k:Int}:Np a k w.2.1 w.2.2.2.2.2.1 w.2.2.2.2.2.2.2.2.2.2.1 w.1 w.2.2.1 w.2.2.2.1 w.2.2.2.2.1 w.2.2.2.2.2.2.1 w.2.2.2.2.2.2.2.1 w.2.2.2.2.2.2.2.2.1 w.2.2.2.2.2.2.2.2.2.1=some (l3 (IY w a k)):=by
 have kn:=h.nums;have k1:=kn.c;have k3:=kn.lost;have k4:=kn.st;have jz:=kn.KY;have lu:=kn.jw;have k5:=kn.era;have k6:=kn.ws;have k6':AS Aj w.BX<=80008:=kn.ws;have k8:=kn.rd;unfold Np OS IY;rw[AH (by omega) (by omega),show((w.2.2.2.2.2.2.2.2.1.length:Int)-1)=1 by omega,A_];simp only[AD,BB];rcases AOB (Bd a 0 1)with h1|h1
 rotate_left
 ·rw[h1];rfl
 have h1':=As.1 h1;have hb:0<=a/\a<(w.2.2.2.2.2.2.2.2.1.length:Int):=by omega
 have Ha:a.toNat<w.AX.length:=by
  simp_all
 have ZH:=h.AX _ (Bm (d:=ER) Ha);rw[h1,GK,APm,AOJ hb,ZZ];simp only[show w.2.2.2.2.2.2.2.2.1.getD a.toNat (0,0,[],())=w.AX.getD a.toNat ER from rfl]
 generalize hx:w.AX.getD a.toNat ER=r at ZH|-
 have hre:=ZH.ep;have hro:=ZH.off;rw[Il];simp only[AD];have y8:=yQ (k:=k);have hmi:=fun n=>ALg (k:=k) (n:=n)
 rw[<-mo]
 generalize hp:HE r.1 r.2.1=p
 have VP:=fun ns=>AA7 h (p:=p) (ns:=ns)
 generalize BZ k=ms at y8 hmi
 have key:∀(n i:Nat) (b:List BA),i<=ms.length->ms.length-i<n->b.length<=i->b=answers w p (ms.take i)->
   DP n a p ms.length i w.2.1 w.2.2.2.2.2.1 w.2.2.2.2.2.2.2.2.2.2.1 w.1 w.2.2.1 w.2.2.2.1 w.2.2.2.2.1 w.2.2.2.2.2.2.1 w.2.2.2.2.2.2.2.1 w.2.2.2.2.2.2.2.2.1 w.2.2.2.2.2.2.2.2.2.1 r.1 r.2.1 r.2.2.1 b ms=
    some (l3 (if(C2 (Ae w) (CQ w) (dF w r.1) r (answers w p ms)).2≠0 then(w,5)else(w.DN (w.AX.set a.toNat (C2 (Ae w) (CQ w) (dF w r.1) r (answers w p ms)).1),0))):=by
  intro n
  induction n with
  |zero=>omega
  |succ n ih=>
   intro i b hi hn hb' he;simp only[DP,OJ,AB,BB];by_cases Du:i<ms.length
   ·have c1:(0:Int)<=(i:Int)/\(i:Int)<(ms.length:Int):=by omega
    have c2:b.length+1<=C_:=by rw[Ap];omega
    have ht:ms.take (i+1)=ms.take i++[ms[i]]:=AVa Du;rw[AOJ c1.2,AOJ c1,Al Du,AH (by omega) (by omega),show((i:Int)+1)=((i+1:Nat):Int)by omega,Gk w,bu (by omega)];simp only[AD];have hm:=hmi _ (AO7 Du);by_cases hn0:Ay w ms[i]=0
    ·obtain⟨n1,n2,n3⟩:=Qt hn0
     have n2':ms[i]<(w.2.2.1.length:Int):=n2;have n3':w.2.2.2.1.contains ms[i]=false:=by
      simp_all
     have hs1:(ms[i]).toNat<w.2.2.1.length:=by omega
     have cU:w.2.2.1.getD (ms[i]).toNat ([],[],0,())=storeAt w ms[i]:=rfl;have hsm:Aj (storeAt w ms[i])<=2^30:=AVG (AY (f:=Aj) (Bm (d:=EN) hs1)) (by omega);have Aar:CN (storeAt w ms[i])=true:=De.2 (h.store hn0);rw[AOJ n2',n3',AOk,AOJ ⟨n1,n2'⟩,cU,show((storeAt w ms[i]).1,(storeAt w ms[i]).2.1,(storeAt w ms[i]).2.2.1,())=storeAt w ms[i]from rfl,Um hsm (h.store hn0).sin];simp only[AD];rw[AOJ c2];refine ih (i+1) _ (by omega) (by omega) (by simp_all) ?_
     rw[ht,he];unfold answers;rw[List.filter_append,List.map_append];congr 1;rw[AVV,AOJ (by simp_all),AZ4,AW2,AZm];congr 1;unfold answer X6;rw[AOJ Aar];cases OO p (storeAt w ms[i]).1<;>rfl
    ·have n1:=ih (i+1) b (by omega) (by omega) (by omega) (by
      rw[ht,he];unfold answers;rw[List.filter_append,List.map_append,AVV,AOK (by simp_all),AZ4,AZm,AQO])
     by_cases hl:ms[i]<(w.2.2.1.length:Int)
     ·rw[AOJ hl]
      have AWu:w.2.2.2.1.contains ms[i]=true:=by
       cases hc:w.2.2.2.1.contains ms[i]with
       |true=>rfl
       |false=>
        exfalso
        apply hn0;unfold Ay;have e1:Bd ms[i] 0 ((w.BX.length:Int)-1)=true:=As.2 (by omega);simp_all
      simp_all
     grind
   ·have e0:ms.take i=ms:=AVU (by omega)
    rw[e0]at he;subst he;have hal:(answers w p ms).length<=8:=by omega
    rw[AOK (by omega),Gk w,qH Kx,QD r,show(w.1,w.2.1,())=Ae w from rfl,show(w.2.2.2.2.1,w.2.2.2.2.2.1,())=CQ w from rfl];simp only[AD];rw[jh (c:=Ae w) (g:=CQ w) (by show w.1.length<=_;omega) (by show AS Bk w.2.2.2.2.1<=_;omega) kn.trim (by omega) (VP ms)];simp only[AD,z7,C6];by_cases h2:(C2 (Ae w) (CQ w) (dF w r.1) r (answers w p ms)).2=0
    ·rw[AOJ h2,AOJ hb,AOK (fun hh=>hh h2)];rfl
    ·rw[AOK h2,AOJ h2];rfl
 grind[AZ,Ac,answers]
end
theorem sL{c:CG}{g:AN}{sure:Int}{r:Ag}{l:List BA}(h0:(C2 c g sure r l).2=0):
  (∃e:BU,(C2 c g sure r l).1.2.2.1=r.2.2.1++[e]/\e.2.2.1.length<=40)/\r.2.2.1.length<120:=by
 have hf:∀p,(Rj p (IA (g.1.getD (r.1-1).toNat GB).1 p none l)).2.2.1.length<=40:=fun p=>by
  cases hb:IA (g.1.getD (r.1-1).toNat GB).1 p none l with
  |none=>show 0<=40;omega
  |some x=>
   have:=(Fp.1 (gB (b:=none) (fun x hx=>by cases hx) x hb)).len;unfold Rj;dsimp only;split
   all_goals simp_all
 revert h0
 unfold C2;dsimp only;split
 ·omega
 rename_i hs;simp only[ASw,AS2,AOw,Uy]at hs;have r3:=hs.2.1.n;split
 ·omega
 rename_i h1;simp only[AVX,APo,not_or]at h1;have Ha:r.2.2.1.length<120:=by omega
 split
 ·simp_all
 split
 ·simp_all
 split
 ·omega
 split
 all_goals simp_all
theorem KU.AFA{w:AA}(h:KU w)(hr:AS Ak w.AX<=900000):dX w:=by
 have hc:=(D8 h.cfg).2.1;have eS:w.1.length<=8:=hc;have a1:=ET (f:=Aj) (B:=10000) (N:=8) (l:=w.BX) (by rw[h.sn];omega) fun s hs=>(h.Vo hs).w
 have a2:=Fl h.lost;have a3:=h.jx.w;have a4:=ET (f:=Aq) (B:=3000) h.tK fun x hx=>(h.AQ x hx).1.w
 have a5:=ET (f:=CK) (B:=5000) h.xO fun x hx=>(h.An x hx).1.w
 have a7:=ET (f:=D9) (B:=40) h.SF fun s hs=>(h.Ai s hs).2.2
 refine⟨?_,fun s hs=>(h.Vo hs).sin,h.jx.tin,fun m hm=>(h.An m hm).1.zF,fun s hs=>HG (h.Ai s hs).1⟩;have a3':AS Bk w.Am<=270:=a3;grind[AS,Ak,Aj,Bk,Aq,CK,D9,Cn]
def ADL(w:AA)(a:Int):Nat:=(w.AX.getD a.toNat ER).2.2.1.length
theorem uz{α:Type}{f:α->Nat}{x:α}:∀{l:List α} {i:Nat} (h:i<l.length),AS f (l.set i x)+f l[i]=AS f l+f x
 |y::l,0,_=>by simp[AS];omega
 |y::l,i+1,h=>by
  have:=uz (f:=f) (x:=x) (l:=l) (i:=i) (by simp_all);grind[AS]
theorem ux{α:Type}{f:α->Nat}{x:α}:∀{l:List α},AS f (l++[x])=AS f l+(1+f x)
 |[]=>by simp[AS]
 |y::l=>by
  have:=ux (f:=f) (x:=x) (l:=l);grind[AS]
theorem xR{w:AA}{a k:Int}(h:KU w)(e:(IY w a k).2=0):Bd a 0 1=true/\KU (IY w a k).1/\ADL (IY w a k).1 a=ADL w a+1/\ADL w a<120/\
  ADL (IY w a k).1 (1-a)=ADL w (1-a)/\AS Ak (IY w a k).1.AX<=AS Ak w.AX+41:=by
 have EP:=ABC h e;unfold IY at e EP|-;split at e
 ·omega
 rename_i h1;rw[AOK h1]at EP;rw[AOK h1];dsimp only at e EP|-;split at e
 ·omega
 rename_i h2;rw[AOK h2]at EP;rw[AOK h2];simp only[ne_eq,AZf]at h2;simp only[ASw,AS2]at h1;have h1':=As.1 h1;have hl:a.toNat<w.AX.length:=by rw[h.sg];omega
 obtain⟨⟨ev,q1,q2⟩,q3⟩:=sL h2
 generalize hq:(C2 (Ae w) (CQ w) (dF w (w.AX.getD a.toNat ER).1) (w.AX.getD a.toNat ER) (answers w (HN (w.AX.getD a.toNat ER).1 (w.AX.getD a.toNat ER).2.1) (BZ k))).1=q at q1 EP
 have hg:(w.AX.set a.toNat q).getD a.toNat ER=q:=by simp_all
 have ew:(1-a).toNat≠a.toNat:=by omega
 refine⟨h1,EP,?_,q3,?_,?_⟩
 ·show((w.AX.set a.toNat q).getD a.toNat ER).2.2.1.length=_
  grind[ADL]
 ·show((w.AX.set a.toNat q).getD (1-a).toNat ER).2.2.1.length=_
  simp only[List.getD,AVL (Ne.symm ew)];rfl
 ·show AS Ak (w.AX.set a.toNat q)<=_
  have:=uz (f:=Ak) (x:=q) hl;have e1:Ak q=AS CL q.2.2.1:=rfl;have e2:Ak w.AX[a.toNat]=AS CL w.AX[a.toNat].2.2.1:=rfl;rw[q1,ux,Ph hl]at e1;have e3:CL ev=ev.2.2.1.length:=rfl;omega
theorem lg{α:Type}{q:Nat}{v l:List α}(hq:q<=l.length)(hl:l.length+v.length<=2^30):xq (q:Int) v l=some (l.take q++v++l.drop q):=by
 unfold xq;rw[AOJ ⟨by omega,by omega,by rw[Ap];omega⟩,AO2]
theorem yL{l:AAB}(ha:WD id l)(hl:l.length<=2^30)(p:Int):∃q,lV id p l q/\
  Gh l p=some ((((q:Int),(match l[q]? with|some e=>e==p|none=>false),()),()),()):=by
 have key:∀(n a b:Nat),a<=b->b<=l.length->b-a<n->(∀(i:Nat) (h:i<l.length),i<a->l[i]<p)->(∀(i:Nat) (h:i<l.length),b<=i->p<=l[i])->
   ∃q,lV id p l q/\D1 n l p l.length a b=some ((((q:Int),(match l[q]? with|some e=>e==p|none=>false),()),()),()):=by
  intro n
  induction n with
  |zero=>omega
  |succ n ih=>
   intro a b s6 hb hn h1 h2;simp only[D1,KW,AB,cmp_Less_int,cmp_isNaN_int,P7,bne_self_eq_false,AD,AOk];by_cases Ha:a<b
   ·have hm:(a+b)/2<l.length:=by omega
    rw[AOJ (by omega),wH (by omega),AOJ (by omega),Al hm];by_cases hc:l[(a+b)/2]<p
    ·rw[AOJ hc,AH (by omega) (by omega),show((((a+b)/2:Nat):Int)+1)=(((a+b)/2+1:Nat):Int)by omega]
     refine ih _ b (by omega) hb (by omega) (fun i h hi=> ?_) h2;have:=dI (f:=id) ha h hm (by omega);grind
    ·have yz:∀(i:Nat) (h:i<l.length),(a+b)/2<=i->p<=l[i]:=fun i h hi=>by
      have:=dI (f:=id) ha hm h hi;grind
     rw[AOK hc];exact ih a _ (by omega) (by omega) (by omega) h1 yz
   ·have AHh:a=b:=by omega
    subst AHh;refine⟨a,⟨hb,h1,h2⟩,?_⟩;rw[AOK (by omega)];by_cases ha':a<l.length
    ·rw[AOJ (by omega),AOJ (by omega),Al ha',AOM ha']
     dsimp only;cases l[a]==p<;>simp[ha']
    grind
 obtain⟨q,hq,e⟩:=key AZ 0 l.length (by omega) (by omega) (Ac (by omega)) (fun i h hi=>by omega) (fun i h hi=>by omega);refine⟨q,hq,?_⟩;unfold Gh KX;omega
theorem qd{x:Int}:∀{l:AAB} {q:Nat},lV id x l q->(∀h:q<l.length,l[q]≠x)->jM x l=l.take q++[x]++l.drop q
 |[],q,h,_=>by
  have:=h.le;have:q=0:=by simp_all
  subst this;rfl
 |y::l,0,h,hn=>by
  have h1:=h.ge 0 (by simp) (ATX _);have h2:=hn (by simp);simp only[AXj,id]at h1 h2;simp only[jM];grind
 |y::l,q+1,h,hn=>by
  have h1:=h.lt 0 (by simp) (by omega);simp only[AXj,id]at h1;simp only[jM];rw[AOK (by omega),qd (l:=l) (q:=q) ⟨by have:=h.le;simp_all,fun i hi hiq=>by have:=h.lt (i+1) (by simp_all) (by omega);simp_all,fun i hi hiq=>by have:=h.ge (i+1) (by simp_all) (by omega);simp_all⟩ (fun hq=>by simp_all)];rfl
theorem P1{l:AAB}{x:Int}(ha:WD id l)(hl:l.length<=2^29):Lh l x=some (((),()),(OH x l,())):=by
 unfold Lh OH;rw[D5 (by omega)];simp only[AD];obtain⟨q,hq,e⟩:=yL ha (by omega) x;rw[e];simp only[AD,BB];by_cases hc:q<l.length
 ·rw[AOM hc]
  dsimp only;by_cases he:l[q]=x
  ·grind
  ·rw[AS8.2 he,AOk]
   have hn:l.contains x=false:=by
    rw[AWt,ne_eq,AX1];intro hm;obtain⟨i,hi,rfl⟩:=AVO hm;rcases Nat.lt_or_ge i q with hiq|hiq
    ·have:=hq.lt i hi hiq;simp_all
    ·have h1:=dI (f:=id) ha hc hi hiq
     have h2:=hq.ge q hc (ATX _);grind
   rw[hn,AOK (by simp)];grind[KP,lg,qd]
 ·rw[AYF (by omega)]
  dsimp only;rw[AOk];have hn:l.contains x=false:=by
   rw[AWt,ne_eq,AX1];intro hm;obtain⟨i,hi,rfl⟩:=AVO hm;have:=hq.lt i hi (by omega);simp_all
  rw[hn,AOK (by simp)];unfold KP;rw[lg hq.le (by grind),qd hq (fun h=>absurd h hc)];rfl
theorem xN{e:AJ}:∀{l:List AJ} {q:Nat},lV (fun x:AJ=>x.1) e.1 l q->gp l->
  keep e l=if h:q<l.length then(if l[q].1=e.1 then l.set q (better l[q] e)else l.take q++[e]++l.drop q)else l++[e]
 |[],q,h,_=>by
  rfl
 |y::l,0,h,_=>by
  have h1:=h.ge 0 (by simp) (ATX _);simp only[AXj]at h1;simp only[keep,ART,Nat.zero_lt_succ,AZv,AXj];grind
 |y::l,q+1,h,ha=>by
  have h1:=h.lt 0 (by simp) (by omega);simp only[AXj]at h1;have ih:=xN (e:=e) (l:=l) (q:=q) ⟨by have:=h.le;simp_all,fun i hi hiq=>by have:=h.lt (i+1) (by simp_all) (by omega);simp_all,fun i hi hiq=>by have:=h.ge (i+1) (by simp_all) (by omega);simp_all⟩ (AVM.1 ha).2;simp only[keep];grind
theorem cZ{e:AJ}{l:List AJ}(ha:gp l)(hl:l.length<=2^29):Xs e l=some (((),()),((),keep e l,())):=by
 unfold Xs;obtain⟨q,hq,hs⟩:=ei ha (by omega) e.1;rw[hs,xN hq ha];simp only[AD,BB];by_cases hc:q<l.length
 ·rw[dif_pos hc,AOM hc]
  dsimp only;have hb:(0:Int)<=(q:Int)/\(q:Int)<(l.length:Int):=by omega
  by_cases he:l[q].1=e.1
  ·rw[AVi.2 he,APm,AOJ he,AOJ hb,Al hc,cu (l[q]),cu e,ZF]
   simp_all
  ·rw[AS8.2 he,AOk,AOK he]
   grind[EB,lg]
 ·have hql:q=l.length:=by have:=hq.le;omega
  rw[dif_neg hc,AYF (by omega)];dsimp only;rw[AOk];grind[EB,lg,List.take_length,List.drop_length]
theorem M5{s:AO}(hw:Aj s<=2^30)(hs:kC s):Dy s=some (if CN s then((((),(),s.2.2.1,()),()),(s.1,s.2.1,()))else((((),(),0,()),()),([],[],()))):=by
 obtain⟨l1,l2⟩:=GL hw;unfold Dy;rw[QD s,FN hw hs,Iq l1 l2];grind
theorem nC{s:AO}{e:AJ}(hw:Aj s<=2^30)(hs:kC s)(he:CB e.1):VC s e=some (jv (Hd s e)):=by
 obtain⟨l1,l2⟩:=GL hw;unfold VC Hd;rw[QD s,cu e,FN hw hs,M5 hw hs,Iq l1 l2,RC he,FP he];simp only[AD,BB,AB,Dh];cases h1:CN s with
 |false=>rfl
 |true=>
  have EP:=De.1 h1;have w6:=EP.nl;cases h2:GG e with
  |false=>rfl
  |true=>
   have hE:=(Fp.1 h2).w0;simp only[APm,APr,AOx,AO5,ATF,AVR];have lim:s.2.1.length+1<=C_:=by rw[Ap];omega
   by_cases h3:s.2.1.length=20
   ·rw[AOJ (by omega),AVY (fun h=>h h3),AZj]
    rfl
   ·rw[AOK (by omega),AVH (show s.2.1.length≠20 from h3),AVm]
    unfold takes;by_cases h4:e.2.1=0
    ·rw[AOJ h4,AOJ h4]
     by_cases h5:Ar e.1<=s.2.2.1
     ·rw[AOJ h5,AVY (by omega)];rfl
     ·rw[AOK h5,AOK (by omega),AOJ lim,AVH (by omega)];rfl
    ·rw[AOK h4,AOK h4,AOJ (by omega)]
     by_cases h5:e.2.1<=s.2.2.1
     ·rw[AOJ h5,AVY (by omega)];rfl
     ·rw[AOK h5,AOJ lim,AVH (by omega)];rfl
theorem Yi{s:AO}{k:Int}(hw:Aj s<=2^30)(hs:kC s):Nj s k=some (jv (GN s k)):=by
 obtain⟨l1,l2⟩:=GL hw;unfold Nj UX GN;rw[QD s,FN hw hs,M5 hw hs,Iq l1 l2,A_];simp only[AD,BB];cases h1:CN s with
 |false=>rfl
 |true=>
  have EP:=De.1 h1;have w6:=EP.nl;have hnk:=EP.nk;simp only[APm,AOx,AO5,ATF,AVR];cases h2:Bd k 0 1048575 with
  |false=>rfl
  |true=>
   have hk:=As.1 h2;have Ac8:0<=k/\k<2^63:=by omega
   simp only[APm,APr];have key:∀(n i:Nat) (b:List AJ),i<=s.2.1.length->s.2.1.length-i<n->b.length<=200+i->gp b->
     J_ n k s.2.1 s.2.1.length i s.1 s.2.1 s.2.2.1 0 [] [] s.2.2.1 b []=
      some (jv (if decide ((EY b (NN k i (s.2.1.drop i))).length<=200)then((EY b (NN k i (s.2.1.drop i)),[],s.2.2.1,()),true)else(s,false))):=by
    intro n
    induction n with
    |zero=>omega
    |succ n ih=>
     intro i b hi hn hb s6;simp only[J_,UU,AB];by_cases hc:i<s.2.1.length
     ·have AC_:=wF Ac8 (i:=i) (by omega)
      rw[AOJ (by omega),AOJ (by omega),AOK (by omega),AO2,AC_,AB,Ph hc,AH (by omega) (by omega),show((i:Int)+1)=((i+1:Nat):Int)by omega,drop_cons hc];rw[cu (s.2.1[i]),cZ s6 (by omega)];simp only[AD];rw[show NN k i (s.2.1[i]::s.2.1.drop (i+1))=if(k/2^i)%2=1 then s.2.1[i]::NN k (i+1) (s.2.1.drop (i+1))else NN k (i+1) (s.2.1.drop (i+1))from rfl];by_cases hbt:(k/2^i)%2=1
      ·rw[AOJ hbt,AOJ hbt,ih (i+1) _ (by omega) (by omega) (by grind[Yw]) (ea s6)]
       rfl
      ·rw[AOK hbt,AOK hbt,ih (i+1) _ (by omega) (by omega) (by omega) s6]
     ·rw[AOK (by omega),APk (by omega),QD s,Iq l1 l2]
      simp only[AD,NN,EY];by_cases hg:b.length<=200
      ·rw[AOK (by omega),AOJ (AVH hg)];rfl
      ·rw[AOJ (by omega),AOK (by simp_all)];rfl
   have:=key AZ 0 s.1 (by omega) (Ac (by omega)) (by omega) EP.tf;simp_all
theorem ZU{s:AO}(hw:Aj s<=2^30)(hs:kC s):O4 s=some (jv (CI s)):=by
 unfold O4 CI;rw[QD s,Yi hw hs];rfl
theorem kX{s:AO}{u:Int}(hw:Aj s<=2^30)(hs:kC s):Po s u=some (jv (B8 s u)):=by
 unfold Po B8;rw[QD s,ZU hw hs,M5 hw hs,A_];simp only[AD,BB,jv];cases h1:CN s with
 |false=>
  grind[CI,GN]
 |true=>
  grind
theorem nL{s:AO}{ep:Int}(hw:Aj s<=2^30)(hs:kC s):Q1 s ep=some (((),()),(HC s ep,())):=by
 obtain⟨l1,l2⟩:=GL hw;unfold Q1 XA HC;rw[QD s,FN hw hs];simp only[AD,BB];cases h1:CN s with
 |false=>rfl
 |true=>
  have key:∀(n i:Nat) (b:List AJ),i<=s.1.length->s.1.length-i<n->b.length<=i->
    Mo n ep s.1 s.1.length i b=some (((),()),(b++(s.1.drop i).filter (fun e=>Ar e.1==ep),())):=by
   intro n
   induction n with
   |zero=>omega
   |succ n ih=>
    intro i b hi hn hb;simp only[Mo,Wg,AB];by_cases hc:i<s.1.length
    ·rw[AOJ (by omega),AOJ (by omega),Al hc,FP (hs.1 _ (AO7 hc)),AH (by omega) (by omega),show((i:Int)+1)=((i+1:Nat):Int)by omega,drop_cons hc,AVV]
     simp only[AD];rw[AOJ (by rw[Ap];omega),cu (s.1[i]),ih (i+1) _ (by omega) (by omega) (by simp_all),ih (i+1) b (by omega) (by omega) (by omega)];grind
    grind
  have:=key AZ 0 [] (by omega) (Ac (by omega)) (by simp);simp_all
theorem xX{x:AJ}{t:ABq}:QP (x.1,x.2.1,x.2.2.1,x.2.2.2.1,()) t=some ((decide (x.1<=t.1),()),()):=rfl
theorem eU{t:AEB}{l:List AJ}(hl:l.length<=2^30):B5 t l=some (((),()),((),l.filter (fun x=> !(decide (x.1<=t.1.1))),())):=by
 have key:∀(n i j:Nat) (b:List AJ),i<=j->j<=b.length->b.length<=2^30->b.length-j<n->BR n t i j b=some (((),()),((),b.take i++(b.drop j).filter (fun x=> !(decide (x.1<=t.1.1))),())):=by
  intro n
  induction n with
  |zero=>omega
  |succ n ih=>
   intro i j b hij hj hb hn;simp only[BR,Dc,AB];by_cases hc:j<b.length
   ·rw[AOJ (by omega),AOJ (by omega),Al hc,xX]
    simp only[AD];rw[AH (x:=(j:Int)+1) (by omega) (by omega),AH (x:=(i:Int)+1) (by omega) (by omega),show((j:Int)+1)=((j+1:Nat):Int)by omega,show((i:Int)+1)=((i+1:Nat):Int)by omega,drop_cons hc,AVV];have n1:=ih (i+1) (j+1) (b.set i b[j]) (by omega) (by grind) (by simp_all) (by grind);have n2:=ih i (j+1) b (by omega) (by omega) hb (by omega);rw[show(t.1,())=t from rfl,n2];rw[AZ5 (by omega),AVa (by grind),AZ6 (ATX _),AZy,AQM,AV2]at n1;rw[AOJ (by omega),AO2,n1]
    generalize hx:b[j]=x
    cases(decide (x.1<=t.1.1))<;>rfl
   ·rw[AOK (by omega),APk (i:=j) (by omega),AO2,AO2]
    simp_all;omega
 have fnd:∀(n i:Nat),i<=l.length->l.length-i<n-> ∃r:Int,BV n l t l.length i=some ((r,()),())/\((r= -1/\(l.drop i).filter (fun x=> !(decide (x.1<=t.1.1)))=l.drop i)\/ ∃q:Nat,r=q/\i<=q/\q<l.length/\((l.take q).drop i).filter (fun x=> !(decide (x.1<=t.1.1)))=(l.take q).drop i/\ ∀(h:q<l.length) x,x=l[q]->(decide (x.1<=t.1.1))=true):=by
  intro n
  induction n with
  |zero=>omega
  |succ n ih=>
   intro i hi hn;simp only[BV,Dm,AB];by_cases hc:i<l.length
   ·rw[AOJ (by omega),AOJ (by omega),Al hc,xX]
    simp only[AD];rw[AH (x:=(i:Int)+1) (by omega) (by omega),show((i:Int)+1)=((i+1:Nat):Int)by omega,show(t.1,())=t from rfl];obtain⟨r,e,hr⟩:=ih (i+1) (by omega) (by omega);rw[e]
    generalize hx:l[i]=x
    cases hp:(decide (x.1<=t.1.1))with
    |true=>
     grind
    |false=>
     refine⟨r,rfl,?_⟩;rcases hr with⟨h1,h2⟩|⟨q,h1,h2,h3,h4,h5⟩
     ·grind[drop_cons]
     ·refine .inr ⟨q,h1,by omega,h3,?_,h5⟩
      grind[drop_cons]
   grind
 obtain⟨r,e,hr⟩:=fnd AZ 0 (by omega) (Ac (by omega));rw[show((0:Nat):Int)=0 from rfl]at e;unfold B5 Dj Cw Dk;rw[show(t.1,())=t from rfl,e];simp only[AD];rcases hr with⟨h1,h2⟩|⟨q,h1,h2,h3,h4,h5⟩
 ·grind
 ·rw[h1,AS8.2 (by omega),AOk,AH (by omega) (by omega),show((q:Int)+1)=((q+1:Nat):Int)by omega,key AZ q (q+1) l (by omega) (by omega) hl (Ac (by omega))]
  rw[AUN]at h4;have hd:=h5 h3 _ rfl;grind[List.take_append_drop,drop_cons]
theorem lN{s:AO}{u:Int}(hw:Aj s<=2^30)(hs:kC s)(hu:CB u):Su s u=some (jv (Jk s u)):=by
 obtain⟨l1,l2⟩:=GL hw;unfold Su Jk;rw[QD s,FN hw hs,M5 hw hs,Iq l1 l2,Q9 hu];simp only[AD];cases CN s with
 |false=>rfl
 |true=>
  cases Bp u with
  |false=>rfl
  |true=>
   rw[eU l1];simp only[AD,AOx,AOk,AO5,ATF,AVR];rw[show(fun x:AJ=> !decide (x.1<=(((u,()),()):AEB).1.1))=fun e=>decide (e.1>u)from funext fun x=>by
    grind]
   rfl
theorem zu{p:Int}{n:Nat}:Bd (Ar p) 1 n=(Bp p&&decide (Ar p<=n)):=by
 cases h:Bp p with
 |false=>
  unfold Ar;rw[h];rfl
 |true=>
  obtain⟨⟨h1,h2⟩,_⟩:=HX h;unfold Bd;simp_all
section
variable{c:CG} {r:AN} (hc:c.1.length<=2^40) (hl:AS Bk r.1<=2^30) (ht:CB r.2.1)
include hc hl ht
theorem Uc:Ed c r=some (if Pp c r then((((),r.2.1,()),()),(r.1,()))else((((),0,()),()),([],()))):=by
 unfold Ed;rw[show(c.1,c.2.1,())=c from rfl,show(r.1,r.2.1,())=r from rfl,N4 hc hl ht,IX hl];grind
theorem o4{ns:AAB}(hn:ns.length<=2^30):M3 c r ns=some (((((),(JG c r ns).1.2.1,()),(JG c r ns).2.1,(JG c r ns).2.2,()),()),((JG c r ns).1.1,())):=by
 have l1:=AU (f:=Bk) (l:=r.1);unfold M3 JG;rw[show(c.1,c.2.1,())=c from rfl,show(r.1,r.2.1,())=r from rfl,N4 hc hl ht,Uc hc hl ht,IX hl,Gq hc (by omega),D5 hn];simp only[AD];cases Pp c r with
 |false=>rfl
 |true=>
  cases holds c ns with
  |false=>rfl
  |true=>
   simp only[AOx,AOk,AO5,ATF,APr,AVR];by_cases h30:r.1.length=30
   ·simp_all
   ·rw[show((r.1.length:Int)==30)=false by grind,show decide (r.1.length≠30)=true by simp[h30],AOk,AOJ (by rw[Ap];omega)]
    simp
theorem nu{b last:Int}:Qu c r b last=some (pkR (LU c r b last)):=by
 have l1:=AU (f:=Bk) (l:=r.1);unfold Qu LU;rw[show(c.1,c.2.1,())=c from rfl,show(r.1,r.2.1,())=r from rfl,N4 hc hl ht,Uc hc hl ht,IX hl,K5 (by omega)];simp only[AD];rcases AOB (Pp c r)with hr|hr
 rotate_left
 ·rw[hr];rfl
 have EP:=Ke.1 hr;rw[hr];simp only[AOx,AOk,AO5,ATF,AVR];by_cases h1:b=r.1.length
 rotate_left
 ·rw[show(b !=(r.1.length:Int))=true by simp_all,show decide (b=(r.1.length:Int))=false by simp_all]
  rfl
 rw[show(b !=(r.1.length:Int))=false by simp_all,show decide (b=(r.1.length:Int))=true by simp_all];simp only[AOk,APr];by_cases h3:b=BF r.1
 ·rw[show(BF r.1==b)=true by simp_all,show decide (b≠BF r.1)=false by simp_all,AVZ,AZj]
  rfl
 have ALe:0<r.1.length:=by
  rcases AZp r.1.length with hz|hz
  ·exact absurd (by rw[h1,hz];unfold BF;rw[hz];rfl) h3
  omega
 obtain⟨k,k1,k2,k3,k4⟩:=Pf EP ALe;rw[show(BF r.1==b)=false by grind,show decide (b≠BF r.1)=true by simp_all,show decide (BF r.1≠0)=true by grind,A_];simp only[AOk,APr,AD];cases Bd last 0 60 with
 |false=>rfl
 |true=>
  simp only[AOx,AOk,AVR];rw[k2,AH (by omega) (by omega),show((k:Int)+1-1)=(k:Int)by omega,AOJ (by omega),AOJ (by simp_all),AO2];unfold pkR F5;simp_all
theorem pH{p:Int}(hp:CB p):Xa c r p=some (pkR (Oh c r p)):=by
 unfold Xa Oh;rw[show(c.1,c.2.1,())=c from rfl,show(r.1,r.2.1,())=r from rfl,N4 hc hl ht,Uc hc hl ht,IX hl,FP hp];simp only[AD];rw[A_,zu];simp only[AD];cases Pp c r with
 |false=>rfl
 |true=>
  cases Bp p&&decide (Ar p<=(r.1.length:Int))with
  |false=>rfl
  |true=>
   simp only[AOx,AOk,AO5,ATF,AVR];rw[show(if p>r.2.1 then p else r.2.1)=max r.2.1 p by omega];rfl
end
section
variable{c:CG} {w:AR} (hc:c.1.length<=2^40) (hl:AS Az w.2.1<=2^20)
include hc hl
theorem XB:Ea c w=some (if EX c w then(((w.1,(),()),()),(w.2.1,()))else(((0,(),()),()),([],()))):=by
 unfold Ea;rw[show(c.1,c.2.1,())=c from rfl,show(w.1,w.2.1,())=w from rfl,Jm hc (by omega),J0 (by show AS Az w.2.1<=2^30;omega)];grind
theorem lR{d:ACH}(hd:d.length<=2^20):KC c w d=some (((((CD c w d).1.1,(),()),(CD c w d).2.1,(CD c w d).2.2,()),()),((CD c w d).1.2.1,())):=by
 have l1:=AU (f:=Az) (l:=w.2.1);unfold KC CD;rw[show(c.1,c.2.1,())=c from rfl,show(w.1,w.2.1,())=w from rfl,J0 (by show AS Az w.2.1<=2^30;omega),XB hc hl];simp only[AD];rw[AOJ (by rw[Ap];omega),Jm hc (by omega),Jm hc (by
  grind[AS,Az,JX,List.length_nil])]
 grind
theorem kb{o n:Int}:Tt c w o n=some (pkW (SK c w o n)):=by
 have l1:=AU (f:=Az) (l:=w.2.1);unfold Tt SK;rw[show(c.1,c.2.1,())=c from rfl,show(w.1,w.2.1,())=w from rfl,Jm hc (by omega),XB hc hl,J0 (by show AS Az w.2.1<=2^30;omega),A_,A_];simp only[AD];rcases AOB (EX c w)with hw|hw
 rotate_left
 ·rw[hw];rfl
 have EP:=JC.1 hw;have zh:=D8 EP.cfg;rw[hw,AH (x:=(c.1.length:Int)-1) (by omega) (by omega)];simp only[AOx,AOk,AO5,ATF,AVR];rcases AOB (Bd o 1 (w.2.1.length:Int))with ho|ho
 rotate_left
 ·rw[ho];rfl
 have y9:=As.1 ho;rw[ho];have hi:(o-1).toNat<w.2.1.length:=by omega
 have yn:w.2.1.getD (o-1).toNat MB∈w.2.1:=Bm (d:=MB) hi;have hm:(w.2.1.getD (o-1).toNat MB).1.length+(w.2.1.getD (o-1).toNat MB).2.1.length<=AS Az w.2.1:=AY (f:=Az) yn;have AG0:=(FA.1 (EP.words _ yn).2.1).2.2;simp only[AOx,AOk,APr];rw[AH (x:=o-1) (by omega) (by omega),AOJ (by omega)]
 show cond (w.2.1.getD (o-1).toNat MB).2.2.1 _ _=_
 cases(w.2.1.getD (o-1).toNat MB).2.2.1 with
 |true=>
  cases Bd n 0 ((c.1.length:Int)-1)<;>rfl
 |false=>
  cases Bd n 0 ((c.1.length:Int)-1)with
  |false=>rfl
  |true=>
   simp only[AOk,AVN,AVR,AOx,Bool.and_self];rw[AOJ (by omega),show(w.2.1.getD (o-1).toNat ([],[],false,())).2.1=(w.2.1.getD (o-1).toNat MB).2.1 from rfl,P1 AG0 (by omega)];simp only[AD];have hg:∀x:BD,(w.2.1.set (o-1).toNat x).getD (o-1).toNat ([],[],false,())=x:=fun x=>Ny hi
   rw[hg,Gq hc (by
    grind[Tj,MB])]
   simp only[AD];rw[AZu];rfl
theorem eo{n:Int}:O0 c w n=some (pkW (CT c w n)):=by
 have l1:=AU (f:=Az) (l:=w.2.1);unfold O0 SW CT;rw[show(c.1,c.2.1,())=c from rfl,show(w.1,w.2.1,())=w from rfl,Jm hc (by omega),J0 (by show AS Az w.2.1<=2^30;omega)];simp only[AD];cases EX c w with
 |false=>rfl
 |true=>
  simp only[AOx,AOk,AO5,ATF];have key:∀(k i:Nat),i<=w.2.1.length->w.2.1.length-i<k->II k n w.2.1 w.2.1.length i 0 [] w.1 ((w.2.1.map (E5 n)).take i++w.2.1.drop i)=some (pkW ((w.1,w.2.1.map (E5 n),()),true)):=by
   intro k
   induction k with
   |zero=>omega
   |succ k ih=>
    intro i hi hk;have hlen:((w.2.1.map (E5 n)).take i++w.2.1.drop i).length=w.2.1.length:=QN hi;simp only[II,SG,AB,hlen];by_cases Du:i<w.2.1.length
    ·have c1:(0:Int)<=(i:Int)/\(i:Int)<(w.2.1.length:Int):=by omega
     have hm:w.2.1[i].1.length+w.2.1[i].2.1.length<=AS Az w.2.1:=AY (f:=Az) (AO7 Du);have hg:((w.2.1.map (E5 n)).take i++w.2.1.drop i).getD ((i:Int).toNat) ([],[],false,())=w.2.1[i]:=Ns Du;rw[AOJ c1.2];simp only[AOJ c1,hg];rw[Al Du,AH (by omega) (by omega),show((i:Int)+1)=((i+1:Nat):Int)by omega];rcases AOB (w.2.1[i].2.2.1)with hd|hd
     ·rw[hd]
      simp only[AOx,AOk];grind[lY,oV]
     ·rw[hd]
      simp only[AVN,APm];rw[Lv (by omega)];grind[AD,Int.toNat_natCast,Q7,E5]
    ·rw[AOK (by omega),APk (by omega)]
     have:i=w.2.1.length:=by omega
     subst this;rw[AQO,AVU (by simp)];rfl
  have:=key AZ 0 (by omega) (Ac (by omega));simp_all
end
section
variable{c:CG} {m:Av} (hc:c.1.length<=2^40) (hm:CK m<=2^20) (h:gu m.2.2.2.1)
include hc hm h
theorem Tg:FI c m=some (if G9 c m then(((m.1,m.2.1,(),(),m.2.2.2.2.1,(),()),()),(m.2.2.1,m.2.2.2.1,m.2.2.2.2.2.1,()))else(((0,0,(),(),false,(),()),()),([],[],[],()))):=by
 unfold FI;rw[show(c.1,c.2.1,())=c from rfl,T5 m,IJ hc (by omega) h,Hr (by omega)];grind
theorem pk{o n:Int}:QU c m o n=some (iB (TG c m o n)):=by
 obtain⟨h1,h2,h3,h4⟩:=Hw hm;unfold QU TG;rw[show(c.1,c.2.1,())=c from rfl,T5 m,IJ hc (by omega) h,Tg hc hm h,Hr (by omega),A_,A_];simp only[AD];rcases AOB (G9 c m)with hw|hw
 rotate_left
 ·rw[hw];rfl
 have EP:=G8.1 hw;have zh:=D8 EP.cfg;rw[hw,AH (x:=(c.1.length:Int)-1) (by omega) (by omega)];simp only[AOx,AOk,AO5,ATF,AVR];rcases AOB (Bd o 1 (m.2.2.2.2.2.1.length:Int))with ho|ho
 rotate_left
 ·rw[ho];rfl
 have y9:=As.1 ho;rw[ho];cases Bd n 0 ((c.1.length:Int)-1)with
 |false=>rfl
 |true=>
  have hi:(o-1).toNat<m.2.2.2.2.2.1.length:=by omega
  have yn:=Bm (d:=([]:AAB)) hi;have hq:=h4 _ yn;have AG0:=(FA.1 (EP.wrote _ yn)).2.2;simp only[AOx,AOk,APr,AVR];rw[AH (by omega) (by omega),AOJ (by omega),P1 AG0 (by omega)];simp only[AD];rw[AOJ (by omega)];rfl
theorem jX{n:Int}:RP c m n=some (iB (CO c m n)):=by
 obtain⟨h1,h2,h3,h4⟩:=Hw hm;unfold RP US CO;rw[show(c.1,c.2.1,())=c from rfl,T5 m,IJ hc (by omega) h,Hr (by omega)];simp only[AD];cases G9 c m with
 |false=>rfl
 |true=>
  simp only[AOx,AOk,AO5,ATF];have key:∀(k i:Nat),i<=m.2.2.2.2.2.1.length->m.2.2.2.2.2.1.length-i<k->KE k n m.2.2.2.2.2.1 m.2.2.2.2.2.1.length i 0 0 false [] [] [] m.1 m.2.1 m.2.2.2.2.1 m.2.2.1 m.2.2.2.1 ((m.2.2.2.2.2.1.map (fun l=>less l [n])).take i++m.2.2.2.2.2.1.drop i)=
    some (iB ((m.1,m.2.1,m.2.2.1,m.2.2.2.1,m.2.2.2.2.1,m.2.2.2.2.2.1.map (fun l=>less l [n]),()),true)):=by
   intro k
   induction k with
   |zero=>omega
   |succ k ih=>
    intro i hi hk;have hlen:=QN (f:=fun l=>less l [n]) hi;simp only[KE,UY,AB,hlen];by_cases Du:i<m.2.2.2.2.2.1.length
    ·have c1:(0:Int)<=(i:Int)/\(i:Int)<(m.2.2.2.2.2.1.length:Int):=by omega
     have hq:=h4 _ (AO7 Du);rw[AOJ c1.2];simp only[AOJ c1];rw[Al Du,AH (by omega) (by omega),show((i:Int)+1)=((i+1:Nat):Int)by omega,Lv (by omega)];simp only[AD];rw[AO2,Q7 Du rfl];grind
    ·rw[AOK (by omega),APk (by omega)]
     have:i=m.2.2.2.2.2.1.length:=by omega
     subst this;rw[AQO,AVU (by simp)];rfl
  have:=key AZ 0 (by omega) (Ac (by omega));simp_all
theorem kv:Pn c m=some ((QH c m,()),()):=by
 obtain⟨h1,h2,h3,h4⟩:=Hw hm;unfold Pn V3 QH;rw[show(c.1,c.2.1,())=c from rfl,T5 m,IJ hc (by omega) h];simp only[AD];cases G9 c m with
 |false=>rfl
 |true=>
  rcases AOB m.2.2.2.2.1 with hp|hp
  rotate_left
  ·simp_all
  have key:∀(k i:Nat),i<=m.2.2.2.2.2.1.length->m.2.2.2.2.2.1.length-i<k->K8 k m.2.2.2.2.2.1 m.2.2.2.2.2.1.length i c.1 c.2.1=some (((m.2.2.2.2.2.1.drop i).all (holds c),()),()):=by
   intro k
   induction k with
   |zero=>omega
   |succ k ih=>
    intro i hi hk;simp only[K8,Vu,AB];by_cases Du:i<m.2.2.2.2.2.1.length
    ·have c1:(0:Int)<=(i:Int)/\(i:Int)<(m.2.2.2.2.2.1.length:Int):=by omega
     have hq:=h4 _ (AO7 Du);rw[AOJ c1.2,AOJ c1,AH (by omega) (by omega),show((i:Int)+1)=((i+1:Nat):Int)by omega,Al Du,drop_cons Du,show(c.1,c.2.1,())=c from rfl,Gq hc (by omega),ih (i+1) (by omega) (by omega)];simp only[AD,AVl];cases holds c m.2.2.2.2.2.1[i]<;>rfl
    grind
  have:=key AZ 0 (by omega) (Ac (by omega));simp_all
omit hc h in
theorem Z9{o:Int}:KA m o=some ((((Ec m o).getD D6,(Ec m o).isSome,()),()),()):=by
 obtain⟨h1,h2,h3,h4⟩:=Hw hm;unfold KA Vh Ec;rw[Il];simp only[AD];cases m.2.2.2.2.1 with
 |false=>
  simp only[AVZ,AO5,ATF,AVN,APm];cases(Bd m.2.1 1 30&&Bd o 1 60)<;>rfl
 |true=>
  simp only[AOx,AOk,APr];rcases AOB (Bd m.2.1 1 30)with he|he
  rotate_left
  ·rw[he];rfl
  rcases AOB (Bd o 1 60)with ho|ho
  rotate_left
  ·rw[he,ho];rfl
  have hp:HE m.2.1 o=HN m.2.1 o:=by unfold HE;rw[he,ho];rfl
  rw[he,ho,hp];simp only[AVm,AOx,AOk,APr];by_cases hl:o<=m.2.2.2.2.2.1.length
  ·rw[show decide (o>(m.2.2.2.2.2.1.length:Int))=false by simpa using hl,show decide (o<=(m.2.2.2.2.2.1.length:Int))=true by simpa using hl]
   simp only[AOk,AVR];have key:∀(k i:Nat),i<=m.2.2.2.1.length->m.2.2.2.1.length-i<k->Kw k (HN m.2.1 o) m.2.2.2.1 m.2.2.2.1.length i m.1 m.2.1 m.2.2.1 m.2.2.2.1 true m.2.2.2.2.2.1 0 0 false []=
     some ((((match OO (HN m.2.1 o) (m.2.2.2.1.drop i)with
      |some x=>(HN m.2.1 o,m.1,x.2.2.1,x.2.2.2.1,())
      |none=>(HN m.2.1 o,m.1,true,[],())),true,()),()),()):=by
    intro k
    induction k with
    |zero=>intro i _ h;omega
    |succ k ih=>
     intro i hi hk;simp only[Kw,V0,AB];by_cases Du:i<m.2.2.2.1.length
     ·have c1:(0:Int)<=(i:Int)/\(i:Int)<(m.2.2.2.1.length:Int):=by omega
      rw[AOJ c1.2,AOJ c1,AH (by omega) (by omega),show((i:Int)+1)=((i+1:Nat):Int)by omega,Al Du,drop_cons Du,ih (i+1) (by omega) (by omega)];unfold OO;rw[AZZ];cases hx:m.2.2.2.1[i].1==HN m.2.1 o<;>rfl
     ·rw[AOK (by omega),APk (by omega)]
      rfl
   have:=key AZ 0 (by omega) (Ac (by omega));rw[show((0:Nat):Int)=0 from rfl,AUN]at this;rw[this];cases OO (HN m.2.1 o) m.2.2.2.1<;>rfl
  ·rw[show decide (o>(m.2.2.2.2.2.1.length:Int))=true by simp;omega,show decide (o<=(m.2.2.2.2.2.1.length:Int))=false by simp;omega]
   rfl
theorem ng{s:AAB}(hs:s.length<=2^20):Qx c m s=some (iB (MU c m s)):=by
 obtain⟨h1,h2,h3,h4⟩:=Hw hm;unfold Qx MU;rw[show(c.1,c.2.1,())=c from rfl,T5 m,IJ hc (by omega) h,Tg hc hm h,Hr (by omega),eE (by omega) h];simp only[AD];rcases AOB (G9 c m)with EP|EP
 rotate_left
 ·rw[EP];rfl
 have hmo:=G8.1 EP;rw[EP];simp only[AVR];rcases AOB m.2.2.2.2.1 with hp|hp
 ·rw[hp]
  simp only[AOx,AOk,APm,AVZ,AO5,ATF,iB,hp]
 have zC:(m.2.2.1.filter s.contains).length<=m.2.2.1.length:=AUc _ _;rw[hp];simp only[AOx,AVN,AOk,AO5,ATF,APr];rw[cT (by omega) (by omega)];simp only[AD];rw[ey hc (by omega) hs];simp only[AD];cases Rc c s (m.2.2.1.filter s.contains)with
 |false=>simp[iB,hp]
 |true=>
  simp only[AOx,AOk,AVR];have hlb:=Gw (l:=m.2.2.2.1);rw[AOJ ⟨hlb.1,Int.le_refl _,by rw[Ap];omega⟩];rfl
theorem mf{n:Int}{l:List AJ}(hl:l.length<=2^20)(VP:gu l)(hw:AS Ah l<=2^20):Qs c m n l=some (iB (Pj c m n l)):=by
 obtain⟨h1,h2,h3,h4⟩:=Hw hm;unfold Qs W5 Pj;rw[show(c.1,c.2.1,())=c from rfl,T5 m,IJ hc (by omega) h,Tg hc hm h,Hr (by omega)];simp only[AD];rcases AOB (G9 c m)with EP|EP
 rotate_left
 ·rw[EP];rfl
 have hmo:=G8.1 EP;have AG0:=(FA.1 hmo.zx).2.2;rw[EP];simp only[AOx,AOk,AO5,ATF,AVR];rcases AOB m.2.2.2.2.1 with hp|hp
 ·grind[iB]
 rw[hp,P1 AG0 (by omega)];simp only[AD,AOk,AVN,APr];have key:∀(k i:Nat) (b:List AJ),i<=l.length->l.length-i<k->b.length<=2^20+i->gp b->gu b->AS Ah b+AS Ah (l.drop i)<=2^21->
   Mg k l l.length i c.1 c.2.1 m.1 m.2.1 m.2.2.1 m.2.2.2.1 false m.2.2.2.2.2.1 0 0 false [] [] [] m.1 m.2.1 false (OH n m.2.2.1) b m.2.2.2.2.2.1=
   some (iB (if G9 c (m.1,m.2.1,OH n m.2.2.1,EY b ((l.drop i).filter fun e=>Ar e.1==m.2.1),false,m.2.2.2.2.2.1,())then
    ((m.1,m.2.1,OH n m.2.2.1,EY b ((l.drop i).filter fun e=>Ar e.1==m.2.1),false,m.2.2.2.2.2.1,()),true)else(m,false))):=by
  intro k
  induction k with
  |zero=>omega
  |succ k ih=>
   intro i b hi hk hb s6 we rk;simp only[Mg,Wl,AB];by_cases Du:i<l.length
   ·have c1:(0:Int)<=(i:Int)/\(i:Int)<(l.length:Int):=by omega
    rw[AOJ c1.2];simp only[AOJ c1];rw[AH (by omega) (by omega),show((i:Int)+1)=((i+1:Nat):Int)by omega,Al Du,drop_cons Du,cu (l[i]),FP (VP _ (AO7 Du)),cZ s6 (by omega)];rw[drop_cons Du]at rk;simp only[AS]at rk;simp only[AD,AVV];rcases AOB (Ar l[i].1==m.2.1)with he|he
    ·simp only[he,APm,AVR,EY]
     have:=Yw (e:=l[i]) (l:=b);have hwk:=zb l[i] b;exact ih (i+1) _ (by omega) (by omega) (by omega) (ea s6) (fun x hx=>by
      rcases ft hx with rfl|hx
      ·exact VP _ (AO7 Du)
      ·exact we x hx) (by omega)
    grind
   ·rw[AOK (by omega),APk (by omega),show(c.1,c.2.1,())=c from rfl,Hr (m:=(m.1,m.2.1,m.2.2.1,m.2.2.2.1,false,m.2.2.2.2.2.1,())) (by
     grind)]
    simp only[AZ4,EY];rw[APk (by omega)]at rk;simp only[AS]at rk;have zH:=Tj (n:=n) (l:=m.2.2.1);have hb2:=AU (f:=Ah) (l:=b);rw[IJ (m:=(m.1,m.2.1,OH n m.2.2.1,b,false,m.2.2.2.2.2.1,())) hc (by
     grind[CK]) we]
    grind[AD,G9,OH,iB]
 have hsw:AS Ah m.2.2.2.1<=2^20:=by
  grind[CK]
 have:=key AZ 0 m.2.2.2.1 (by omega) (Ac (by omega)) (by omega) hmo.tf h (by grind);simp_all
end
theorem qj{c:CG}{l:AAB}(hc:c.1.length<=2^20)(hl:l.length<=2^20):Zy c l=some ((BH c l&& !holds c l,()),()):=by
 unfold Zy;rw[show(c.1,c.2.1,())=c from rfl,EU (by omega) (by omega),Gq (by omega) (by omega)];grind
theorem sw{ss:List AO}(hs:ss.length<=1024)(h:∀s∈ss,s.1.length<=1024)(hw:∀s∈ss,Aj s<=2^30)(VP:∀s∈ss,kC s)(EP:∀s∈ss,CN s=true):i7 ss=some (((),()),(HF [] ss,())):=by
 have key:∀n:Nat,
   (∀(i:Nat) (b:List AJ),i<=ss.length->(ss.length-i)*1026+1<=n->b.length<=i*1024->gp b->
    N3 n ss ss.length i b=some (((),()),(HF b (ss.drop i),())))/\
   (∀(i j:Nat) (b:List AJ),(hi:i<ss.length)->j<=ss[i].1.length->(ss.length-i-1)*1026+1+(ss[i].1.length-j)+1<=n->b.length<=i*1024+j->gp b->
    Nt n ss ss.length i ss[i].1 ss[i].1.length j b=some (((),()),(HF (EY b (ss[i].1.drop j)) (ss.drop (i+1)),()))):=by
  intro n
  induction n with
  |zero=>simp_all
  |succ n ih=>
   refine⟨fun i b hi h' hb s6=> ?_,fun i j b hi hj h' hb s6=> ?_⟩
   ·simp only[N3,bK,AB]
    by_cases hc:i<ss.length
    ·have hmm:=AO7 hc
     have hm:=h _ hmm;rw[AOJ (by omega),AOJ (by omega),Al hc,QD (ss[i]),FN (hw _ hmm) (VP _ hmm),EP _ hmm];have e1:(ss.length-i)*1026=(ss.length-i-1)*1026+1026:=by
      omega
     have:=ih.2 i 0 b hc (by omega) (by omega) (by omega) s6;rw[show((0:Nat):Int)=0 from rfl,AUN]at this;simp only[AD,AOx,AOk];rw[this,drop_cons hc];rfl
    ·rw[AOK (by omega),APk (by omega)]
     rfl
   ·have hm:=h _ (AO7 hi)
    simp only[Nt,bM,AB];have hbb:i*1024<=2^20:=by
     omega
    by_cases hc:j<ss[i].1.length
    ·have c2:(0:Int)<=(j:Int)/\(j:Int)<(ss[i].1.length:Int):=by omega
     rw[AOJ c2.2,AOJ c2,Al hc,cu (ss[i].1[j]),cZ s6 (by omega)];simp only[AD];rw[AH (by omega) (by omega),show((j:Int)+1)=((j+1:Nat):Int)by omega,drop_cons hc];have hk:=Yw (e:=ss[i].1[j]) (l:=b);exact ih.2 i (j+1) _ hi (by omega) (by omega) (by omega) (ea s6)
    ·rw[AOK (by omega),AH (by omega) (by omega),show((i:Int)+1)=((i+1:Nat):Int)by omega,APk (by omega)]
     exact ih.1 (i+1) b (by omega) (by grind) (by omega) s6
 have hf:(ss.length-0)*1026+1<=AZ:=by
  have:ss.length*1026<=1024*1026:=ASH _ hs;exact AW6 (Ac (by omega))
 exact(key AZ).1 0 [] (by omega) hf (by simp) List.Pairwise.nil
theorem wQ{c:CG}{ss:List AO}{lost:AAB}{n upto:Int}(hc:c.1.length<=2^20)(hs:ss.length<=1024)(hn:∀s∈ss,s.1.length<=1024)(hw:AS Aj ss<=2^24)(VP:∀s∈ss,kC s)(hl:lost.length<=2^20):
  bT c lost n upto ss=some (pkF ss (bJ c ss lost n upto)):=by
 have hfs:bJ c ss lost n upto=xe (GI c&&(decide (ss.length=c.1.length)&&(BH c lost&&(!holds c lost&&(lost.contains n&&((others lost 0 ss).all CN&&CN (HF [] (others lost 0 ss),[],upto,()))))))) (HF [] (others lost 0 ss),[],upto,()):=rfl;rw[hfs];unfold bT dw;rw[show(c.1,c.2.1,())=c from rfl,qj hc hl,JT (by omega)];simp only[AD,BB,C6];have key:∀(k i:Nat) (o:List AO),(∀s∈o,s∈ss)->(∀s∈o,CN s=true)->i<=ss.length->ss.length-i<k->o.length<=i->AS Aj o+AS Aj (ss.drop i)<=2^24->
   Ts k lost upto ss.length i ss 0 [] [] o=some (pkF ss (xe ((others lost i (ss.drop i)).all CN&&CN (HF [] (o++others lost i (ss.drop i)),[],upto,())) (HF [] (o++others lost i (ss.drop i)),[],upto,()))):=by
  intro k
  induction k with
  |zero=>omega
  |succ k ih=>
   intro i o ho EP hi h hol how;simp only[Ts,eI,AB,BB];by_cases Du:i<ss.length
   ·have c1:(0:Int)<=(i:Int)/\(i:Int)<(ss.length:Int):=by omega
    have c2:o.length+1<=C_:=by rw[Ap];omega
    have hmm:=AO7 Du;have AiK:=AY (f:=Aj) hmm;rw[drop_cons Du]at how;simp only[AS]at how;rw[AOJ c1.2,AOJ c1,JT (by omega),Al Du,QD (ss[i]),FN (by omega) (VP _ hmm),AH (by omega) (by omega),show((i:Int)+1)=((i+1:Nat):Int)by omega];simp only[AD];rw[drop_cons Du];simp only[others];rcases AOB (lost.contains (i:Int))with hb|hb
    ·rw[hb]
     simp only[APm,AVR];exact ih (i+1) o ho EP (by omega) (by omega) (by omega) (by omega)
    ·rw[hb]
     simp only[AOk,AO5,ATF];rcases AOB (CN ss[i])with hg|hg
     ·rw[hg]
      simp only[APm,AVl,hg,APr];rw[AOJ c2,ih (i+1) (o++[ss[i]]) (fun s hs=>by
       grind) (fun s hs=>by
       grind) (by omega) (by omega) (by simp_all) (by grind[JX,AS])]
      simp_all
     ·rw[hg]
      simp only[AOk,AVl,hg,AVZ];rfl
   ·have hu:=AAo (l:=o) (k:=[])
    simp only[AS]at hu;have Ahq:AS Aj o<=2^24:=by omega
    rw[AOK (by omega),APk (by omega),sw (by omega) (fun s hs=>hn s (ho s hs)) (fun s hs=>by grind[AY,Aj]) (fun s hs=>VP s (ho s hs)) EP];simp only[AD,others,AQO,List.all_nil,APr];rw[FN (s:=(HF [] o,[],upto,())) (by show AS Ah (HF [] o)+AS Ah []<=_;grind[AS]) ⟨fun e he=>by
     rcases mu he with he|⟨t,ht,he⟩
     ·simp_all
     ·exact(VP t (ho t ht)).1 e he,fun e he=>by simp_all⟩]
    simp only[AD];rcases AOB (CN (HF [] o,[],upto,()))with hb|hb<;>rw[hb]<;>rfl
 have:=key AZ 0 [] (by simp) (by simp) (by omega) (Ac (by omega)) (by simp) (by grind[AS]);rw[show((0:Nat):Int)=0 from rfl,AUN,AVJ]at this;rw[this];rcases AOB (BH c lost)with h1|h1
 rotate_left
 ·rw[h1]
  by_cases h2:ss.length=c.1.length
  ·rw[AOJ (by omega)]
   simp only[AVZ,AZj,AOk];rfl
  ·rw[AOK (by omega)]
   simp only[AVZ,AZj];rfl
 have zh:GI c=true:=(FA.1 h1).1;rw[h1,zh];simp only[APr];by_cases h2:ss.length=c.1.length
 rotate_left
 ·rw[AOK (by omega),AVY h2]
  rfl
 rw[AOJ (by omega),AVH h2];simp only[APr];cases holds c lost with
 |true=>rfl
 |false=>
  cases lost.contains n with
  |false=>rfl
  |true=>rfl
def Ac9(q:AA×Int):Zo:=((q.2,()),(((),q.1.2.1,(),(),(),q.1.2.2.2.2.2.1,(),(),(),(),q.1.2.2.2.2.2.2.2.2.2.2.1,()),q.1.1,q.1.2.2.1,q.1.2.2.2.1,(),(),(),q.1.2.2.2.2.2.2.2.2.1,q.1.2.2.2.2.2.2.2.2.2.1,q.1.2.2.2.2.1,q.1.2.2.2.2.2.2.1,q.1.2.2.2.2.2.2.2.1,()))
def AVv(q:AA×Int):bI:=((q.2,()),(((),q.1.2.1,(),(),(),q.1.2.2.2.2.2.1,(),(),(),(),q.1.2.2.2.2.2.2.2.2.2.2.1,()),q.1.1,q.1.2.2.1,q.1.2.2.2.1,q.1.2.2.2.2.1,q.1.2.2.2.2.2.2.1,q.1.2.2.2.2.2.2.2.1,q.1.2.2.2.2.2.2.2.2.1,(),q.1.2.2.2.2.2.2.2.2.2.1,()))
def AL_(q:AA×Int):G7:=((q.2,()),(((),q.1.2.1,(),(),(),q.1.2.2.2.2.2.1,(),(),(),(),q.1.2.2.2.2.2.2.2.2.2.2.1,()),q.1.1,q.1.2.2.1,(),q.1.2.2.2.2.1,q.1.2.2.2.2.2.2.1,q.1.2.2.2.2.2.2.2.1,q.1.2.2.2.2.2.2.2.2.1,q.1.2.2.2.2.2.2.2.2.2.1,q.1.2.2.2.1,()))
def Adv(q:AA×Int):Z2:=((q.2,()),(((),q.1.2.1,(),(),(),q.1.2.2.2.2.2.1,(),(),(),(),q.1.2.2.2.2.2.2.2.2.2.2.1,()),q.1.1,q.1.2.2.1,q.1.2.2.2.1,q.1.2.2.2.2.1,q.1.2.2.2.2.2.2.1,(),q.1.2.2.2.2.2.2.2.2.1,q.1.2.2.2.2.2.2.2.2.2.1,q.1.2.2.2.2.2.2.2.1,()))
def AcS(q:AA×Int):YV:=((q.2,()),(((),q.1.2.1,(),(),(),q.1.2.2.2.2.2.1,(),(),(),(),q.1.2.2.2.2.2.2.2.2.2.2.1,()),q.1.1,q.1.2.2.1,q.1.2.2.2.1,(),q.1.2.2.2.2.2.2.1,(),q.1.2.2.2.2.2.2.2.2.1,q.1.2.2.2.2.2.2.2.2.2.1,q.1.2.2.2.2.1,q.1.2.2.2.2.2.2.2.1,()))
theorem wI{m:Av}{b:Int}{e:AJ}(h:Ec m b=some e):CB e.1:=by
 unfold Ec at h;split at h
 ·rename_i hc
  simp only[AOw,As]at hc;grind[Jn,HG]
 simp_all
theorem kH{α:Type}{l:List α}{i:Nat}{d:α}:l.set i (l.getD i d)=l:=by
 by_cases h:i<l.length
 ·simp_all
 grind[List.set_eq_of_length_le]
def rF(w:AA)(n ep:Int):Int:=if Ay w n=0 then if(BK w.Am ep).contains n then 0 else 2 else Ay w n
section
variable{w:AA} (h:KU w)
include h
theorem Rx{n ep:Int}(he:CB ep):Dt w n ep=some ((rF w n ep,()),()):=by
 have k:=h.nums;have k1:=k.c;have k2:=k.wr;have k3:=k.lost;have k4:=k.st;have cw:=k.ja;have jz:=k.KY;have lu:=k.jw;have k5:=k.era;have k7:=k.cS;unfold Dt rF;rw[MV (by omega) (by omega),show(w.2.2.2.2.1,w.2.2.2.2.2.1,())=CQ w from rfl,MN (r:=CQ w) (by show AS Bk w.2.2.2.2.1<=_;omega) he];have Vb:(BK w.Am ep).length<=8:=Er h;rw[show(CQ w).1=w.Am from rfl];simp only[AD,Dh];rw[JT (by omega)];grind
theorem Zi{n:Int}{e:AJ}(hn:Ay w n=0)(he:CB e.1):MC n e w.2.1 w.2.2.2.2.2.1 w.2.2.2.2.2.2.2.2.2.2.1 w.1 w.2.2.1 w.2.2.2.1 w.2.2.2.2.1 w.2.2.2.2.2.2.1 w.2.2.2.2.2.2.2.1 w.2.2.2.2.2.2.2.2.1 w.2.2.2.2.2.2.2.2.2.1=some (l3 (putAt w n (Hd (storeAt w n) e))):=by
 obtain⟨hr,s1,s2,s3⟩:=h.MS hn;have cU:w.2.2.1.getD n.toNat ([],[],0,())=storeAt w n:=rfl;unfold MC putAt;simp only[AOJ hr,cU];rw[show((storeAt w n).1,(storeAt w n).2.1,(storeAt w n).2.2.1,())=storeAt w n from rfl,cu e,nC s1 s2 he];simp only[AD,jv,P2];cases(Hd (storeAt w n) e).2<;>rfl
theorem jV{a:Int}:Km a w.2.1 w.2.2.2.2.2.1 w.2.2.2.2.2.2.2.2.2.2.1 w.1 w.2.2.1 w.2.2.2.1 w.2.2.2.2.1 w.2.2.2.2.2.2.1 w.2.2.2.2.2.2.2.1 w.2.2.2.2.2.2.2.2.1 w.2.2.2.2.2.2.2.2.2.1=some (Ac9 (M9 w a)):=by
 have k:=h.nums;have k1:=k.c;have k2:=k.wr;have k3:=k.lost;have k4:=k.st;have cw:=k.ja;have jz:=k.KY;have lu:=k.jw;have k5:=k.era;have k7:=k.cS;unfold Km M9;rw[Dh];by_cases h4:w.2.2.2.2.2.2.1.length=4
 ·rw[AOJ (by omega),AOJ h4];rfl
 have hm:(BZ a).length<=8:=yQ;rw[AOK (by omega),AOK h4,ZZ];simp only[AD];rw[show(w.1,w.2.1,())=Ae w from rfl,show(w.2.2.2.2.1,w.2.2.2.2.2.1,())=CQ w from rfl,o4 (c:=Ae w) (r:=CQ w) (by show w.1.length<=_;omega) (by show AS Bk w.2.2.2.2.1<=_;omega) k.trim (by omega)];simp only[AD,BB];rcases AOB (JG (Ae w) (CQ w) (BZ a)).2.2 with hq|hq
 ·rw[hq,AOJ (by rw[Ap];omega),GK];rfl
 ·rw[hq,JA];rfl
theorem ga{d:Ao}:Jl d w.2.1 w.2.2.2.2.2.1 w.2.2.2.2.2.2.2.2.2.2.1 w.1 w.2.2.1 w.2.2.2.1 w.2.2.2.2.1 w.2.2.2.2.2.2.1 w.2.2.2.2.2.2.2.1 w.2.2.2.2.2.2.2.2.1 w.2.2.2.2.2.2.2.2.2.1=some (l3 (JL w d.2.1 d.2.2.1 d.2.2.2.1)):=by
 have k:=h.nums;have k1:=k.c;have k2:=k.wr;have k3:=k.lost;have k4:=k.st;have cw:=k.ja;have jz:=k.KY;have lu:=k.jw;have k5:=k.era;have k7:=k.cS;unfold Jl JL;rw[Gk w,AH (x:=(w.2.2.2.2.2.2.1.length:Int)-1) (by omega) (by omega),A_];simp only[AD,BB,C6];rw[show Bd d.2.1 0 ((w.2.2.2.2.2.2.1.length:Int)-1)=Bd d.2.1 0 ((w.AQ.length:Int)-1)from rfl];rcases AOB (Bd d.2.1 0 ((w.AQ.length:Int)-1))with h1|h1
 rotate_left
 ·rw[h1,JA];rfl
 obtain⟨x1,x2,x3⟩:=h.fo h1;rw[h1,APm,GK,AOJ x1,A_];simp only[AD];rw[show w.2.2.2.2.2.2.1.getD d.2.1.toNat (0,[],())=w.AQ.getD d.2.1.toNat B3 from rfl]
 generalize hx:w.AQ.getD d.2.1.toNat B3=x at*
 rcases AOB (Bd d.2.2.1 1 (x.2.1.length:Int))with h2|h2
 rotate_left
 ·rw[h2,JA];rfl
 have h2':=As.1 h2;have hxl:=x2.n;have hxe:=x2.ep;have zH:=Jn (e:=x.1) (o:=d.2.2.1) hxe (by omega);have hpm:HE x.1 d.2.2.1=HN x.1 d.2.2.1:=by
  grind[HE,As]
 rw[h2,APm,GK,Rx h ⟨by omega,by omega⟩,Il,hpm,AH (by omega) (by omega)];simp only[AD,AOJ (show(0:Int)<=d.2.2.1-1/\d.2.2.1-1<(x.2.1.length:Int)by omega)];unfold rF;by_cases h3:Ay w d.2.2.2.1=0
 rotate_left
 ·rw[AOK h3,AOK h3,AOJ h3];rfl
 rw[AOJ h3,AOK (show¬(Ay w d.2.2.2.1≠0)from fun hh=>hh h3)];rcases AOB ((BK w.Am x.1).contains d.2.2.2.1)with h5|h5
 rotate_left
 ·rw[h5,JA];rfl
 rw[h5,GK,AOJ rfl,AOJ rfl,Zi h h3 (HG zH.1)];rfl
theorem gb{n k:Int}:QA n k w.2.1 w.2.2.2.2.2.1 w.2.2.2.2.2.2.2.2.2.2.1 w.1 w.2.2.1 w.2.2.2.1 w.2.2.2.2.1 w.2.2.2.2.2.2.1 w.2.2.2.2.2.2.2.1 w.2.2.2.2.2.2.2.2.1 w.2.2.2.2.2.2.2.2.2.1=some (l3 (JM w n k)):=by
 have kk:=h.nums;have k1:=kk.c;have k2:=kk.wr;have k3:=kk.lost;have k4:=kk.st;have cw:=kk.ja;have jz:=kk.KY;have lu:=kk.jw;have k5:=kk.era;have k7:=kk.cS;unfold QA JM;rw[Gk w,MV (by omega) (by omega)];simp only[AD,C6];by_cases h3:Ay w n=0
 rotate_left
 ·rw[AOK h3,AOJ h3];rfl
 obtain⟨hr,s1,s2,s3⟩:=h.MS h3;have cU:w.2.2.1.getD n.toNat ([],[],0,())=storeAt w n:=rfl;rw[AOJ h3,AOK (show¬(Ay w n≠0)from fun hh=>hh h3)];simp only[AOJ hr,cU];rw[show((storeAt w n).1,(storeAt w n).2.1,(storeAt w n).2.2.1,())=storeAt w n from rfl,Yi s1 s2];simp only[AD,jv,P2];unfold putAt;rcases AOB (GN (storeAt w n) k).2 with hq|hq
 ·rw[hq];rfl
 ·have e:(GN (storeAt w n) k).1=storeAt w n:=by
   unfold GN at hq|-;rw[De.2 s3]at hq|-;grind
  rw[hq,e];have:w.2.2.1.set n.toNat ((storeAt w n).1,(storeAt w n).2.1,(storeAt w n).2.2.1,())=w.2.2.1:=kH;rw[this];rfl
theorem gd{n:Int}:P4 n w.2.1 w.2.2.2.2.2.1 w.2.2.2.2.2.2.2.2.2.2.1 w.1 w.2.2.1 w.2.2.2.1 w.2.2.2.2.1 w.2.2.2.2.2.2.1 w.2.2.2.2.2.2.2.1 w.2.2.2.2.2.2.2.2.1 w.2.2.2.2.2.2.2.2.2.1=some (l3 (JI w n)):=by
 have k:=h.nums;have k1:=k.c;have k2:=k.wr;have k3:=k.lost;have k4:=k.st;have cw:=k.ja;have jz:=k.KY;have lu:=k.jw;have k5:=k.era;have k7:=k.cS;unfold P4 JI;rw[Gk w,MV (by omega) (by omega)];simp only[AD,C6];by_cases h3:Ay w n=0
 rotate_left
 ·rw[AOK h3,AOJ h3];rfl
 obtain⟨hr,s1,s2,s3⟩:=h.MS h3;have cU:w.2.2.1.getD n.toNat ([],[],0,())=storeAt w n:=rfl;rw[AOJ h3,AOK (show¬(Ay w n≠0)from fun hh=>hh h3)];simp only[AOJ hr,cU];rw[show((storeAt w n).1,(storeAt w n).2.1,(storeAt w n).2.2.1,())=storeAt w n from rfl,lN s1 s2 k.trim];simp only[AD,jv,P2];unfold putAt;rw[show w.trim=w.2.2.2.2.2.1 from rfl];rcases AOB (Jk (storeAt w n) w.2.2.2.2.2.1).2 with hq|hq
 ·rw[hq];rfl
 ·have e:(Jk (storeAt w n) w.2.2.2.2.2.1).1=storeAt w n:=by
   unfold Jk at hq|-;rw[De.2 s3]at hq|-;grind
  rw[hq,e];have:w.2.2.1.set n.toNat ((storeAt w n).1,(storeAt w n).2.1,(storeAt w n).2.2.1,())=w.2.2.1:=kH;rw[this];rfl
theorem jt:RM w.2.1 w.2.2.2.2.2.1 w.2.2.2.2.2.2.2.2.2.2.1 w.1 w.2.2.1 w.2.2.2.1 w.2.2.2.2.1 w.2.2.2.2.2.2.1 w.2.2.2.2.2.2.2.1 w.2.2.2.2.2.2.2.2.1 w.2.2.2.2.2.2.2.2.2.1=some (Adv (Jr w)):=by
 have k:=h.nums;have k1:=k.c;have k2:=k.wr;have k3:=k.lost;have k4:=k.st;have cw:=k.ja;have jz:=k.KY;have lu:=k.jw;have k5:=k.era;have k7:=k.cS;unfold RM Jr;rw[show(w.2.2.2.2.1,w.2.2.2.2.2.1,())=CQ w from rfl,K5 (r:=CQ w) (by show w.2.2.2.2.1.length<=_;omega)];simp only[AD,Dh,AB];rw[show(CQ w).1=w.Am from rfl];by_cases h1:(w.2.2.2.2.1.length:Int)<2
 ·rw[AOJ h1,show(decide ((w.2.2.2.2.1.length:Int)<2)||decide (BF w.2.2.2.2.1=(w.2.2.2.2.1.length:Int)))=true by simp_all];rfl
 rw[AOK h1];by_cases h2:BF w.2.2.2.2.1=(w.2.2.2.2.1.length:Int)
 ·rw[AOJ h2,show(decide ((w.2.2.2.2.1.length:Int)<2)||decide (BF w.2.2.2.2.1=(w.2.2.2.2.1.length:Int)))=true by simp_all];rfl
 rw[AOK h2,show(decide ((w.2.2.2.2.1.length:Int)<2)||decide (BF w.2.2.2.2.1=(w.2.2.2.2.1.length:Int)))=false by simp_all];rw[AOK (show¬(false=true)by simp)];by_cases h3:w.2.2.2.2.2.2.2.1.length>0
 ·rw[AOJ (by omega),AOJ h3];rfl
 ·rw[AOK (by omega),AOK h3];rfl
theorem jm{n:Int}:Ko n w.2.1 w.2.2.2.2.2.1 w.2.2.2.2.2.2.2.2.2.2.1 w.1 w.2.2.1 w.2.2.2.1 w.2.2.2.2.1 w.2.2.2.2.2.2.1 w.2.2.2.2.2.2.2.1 w.2.2.2.2.2.2.2.2.1 w.2.2.2.2.2.2.2.2.2.1=some (AL_ (NT w n)):=by
 have k:=h.nums;have k1:=k.c;have k2:=k.wr;have k3:=k.lost;have k4:=k.st;have cw:=k.ja;have jz:=k.KY;have lu:=k.jw;have k5:=k.era;have k7:=k.cS;have k6:=k.ws;unfold Ko NT;rw[Gk w,AH (x:=(w.2.2.1.length:Int)-1) (by omega) (by omega),AH (x:=(w.2.2.2.2.1.length:Int)-1) (by omega) (by omega),A_];simp only[AD,BB];rcases AOB (w.lost.contains n)with hl|hl
 rotate_left
 ·rw[hl]
  have e:DH w n=some ((w.lost.contains n,()),()):=bu (by omega);rw[e,hl];cases Bd n 0 ((w.2.2.1.length:Int)-1)<;>rfl
 have VP:=(FA.1 h.lost).2.1 n (by simp_all);have hn1:Bd n 0 ((w.2.2.1.length:Int)-1)=true:=As.2 ⟨VP.1,by
  have:n<(w.1.length:Int):=VP.2;omega⟩
 have Ahg:=As.1 hn1;rw[hn1,show DH w n=some ((w.lost.contains n,()),())from bu (by omega),hl,GK];simp only[AD,APm];rw[show(if(0:Int)>(w.2.2.2.2.1.length:Int)-1 then 0 else(w.2.2.2.2.1.length:Int)-1)=max ((w.Am.length:Int)-1) 0 by
  grind]
 have AXx:∀s∈w.2.2.1,dO s:=fun s hs=>h.Vo hs
 rw[show(w.1,w.2.1,())=Ae w from rfl,wQ (c:=Ae w) (by show w.1.length<=_;omega) (by omega) (fun s hs=>by have:=(AXx s hs).nk;omega) (by omega) (fun s hs=>(AXx s hs).sin) (by omega)];simp only[AD,pkF];rw[show bJ (Ae w) w.BX w.lost n (max ((w.Am.length:Int)-1) 0)=bJ (Ae w) w.2.2.1 w.2.2.2.1 n (max ((w.Am.length:Int)-1) 0)from rfl];rcases AOB (bJ (Ae w) w.2.2.1 w.2.2.2.1 n (max ((w.Am.length:Int)-1) 0)).2 with hq|hq
 rotate_left
 ·rw[hq,JA];rfl
 rw[hq,APm,GK,AOJ (by omega),Lv (by omega)];rfl
theorem jP{n:Int}:Kc n w.2.1 w.2.2.2.2.2.1 w.2.2.2.2.2.2.2.2.2.2.1 w.1 w.2.2.1 w.2.2.2.1 w.2.2.2.2.1 w.2.2.2.2.2.2.1 w.2.2.2.2.2.2.2.1 w.2.2.2.2.2.2.2.2.1 w.2.2.2.2.2.2.2.2.2.1=some (l3 (La w n)):=by
 have k:=h.nums;have k1:=k.c;have k2:=k.wr;have k3:=k.lost;have k4:=k.st;have cw:=k.ja;have jz:=k.KY;have lu:=k.jw;have k5:=k.era;have k7:=k.cS;unfold Kc La;rcases hm:w.An with _|⟨m,ms⟩
 ·rw[Dh,AOJ (by simp_all)];rfl
 have pO:w.2.2.2.2.2.2.2.1=m::ms:=hm;have y8:w.2.2.2.2.2.2.2.1.length=ms.length+1:=by simp_all
 have g0:w.2.2.2.2.2.2.2.1.getD 0 (0,0,[],[],false,[],())=m:=by simp_all
 have hr0:(0:Int)<=(0:Int)/\(0:Int)<(w.2.2.2.2.2.2.2.1.length:Int):=by omega
 have bC:=(h.An m (by simp_all)).1;have hmw:=bC.w;have hme:=bC.ep;have hmb:=bC.b;simp only[Dh,BB,C6,AOJ hr0,g0];rw[AOK (by omega)];rw[Gk w,Rx h ⟨by omega,by omega⟩];simp only[AD];unfold rF;by_cases h3:Ay w n=0
 rotate_left
 ·rw[AOK h3,AOK h3,AOJ h3];rfl
 obtain⟨hr,s1,s2,s3⟩:=h.MS h3;have cU:w.2.2.1.getD n.toNat ([],[],0,())=storeAt w n:=rfl;have hn3: ¬(Ay w n≠0):=fun hh=>hh h3
 rw[AOJ h3,AOK hn3];simp only[AOJ hr,cU];rcases AOB ((BK w.Am m.2.1).contains n)with h5|h5
 rotate_left
 ·rw[h5,JA];rfl
 rw[h5,GK,AOJ rfl,AOJ rfl,AH (by omega) (by omega),show((storeAt w n).1,(storeAt w n).2.1,(storeAt w n).2.2.1,())=storeAt w n from rfl,kX s1 s2];have hq:=qg (u:=m.1-1) s3;have hqw:=hq.w;simp only[AD,jv];rw[show((B8 (storeAt w n) (m.1-1)).1.1,(B8 (storeAt w n) (m.1-1)).1.2.1,(B8 (storeAt w n) (m.1-1)).1.2.2.1,())=(B8 (storeAt w n) (m.1-1)).1 from rfl,nL (by omega) hq.sin];simp only[AD];have hes:(HC (B8 (storeAt w n) (m.1-1)).1 m.2.1).length<=200/\gu (HC (B8 (storeAt w n) (m.1-1)).1 m.2.1)/\AS Ah (HC (B8 (storeAt w n) (m.1-1)).1 m.2.1)<=10000:=by
  unfold HC;rw[De.2 hq,AOJ rfl];refine⟨AVG (AUc _ _) hq.nk,fun e he=>hq.sin.1 e (AWB.1 he).1,AVG gL ?_⟩;have:Aj (B8 (storeAt w n) (m.1-1)).1=AS Ah (B8 (storeAt w n) (m.1-1)).1.1+AS Ah (B8 (storeAt w n) (m.1-1)).1.2.1:=rfl;omega
 rw[T5 m,show(w.1,w.2.1,())=Ae w from rfl,mf (c:=Ae w) (by show w.1.length<=_;omega) (by omega) bC.zF (by omega) hes.2.1 (by omega)];simp only[AD,iB];rcases AOB (B8 (storeAt w n) (m.1-1)).2 with h6|h6
 rotate_left
 ·rw[h6,AVN,AZx,AOJ rfl];rfl
 rw[h6,AOx,AVP];rcases AOB (Pj (Ae w) m n (HC (B8 (storeAt w n) (m.1-1)).1 m.2.1)).2 with h7|h7
 rotate_left
 ·rw[h7,JA];rfl
 rw[h7,GK,APm,APm,pO];rfl
theorem jY:Kl w.2.1 w.2.2.2.2.2.1 w.2.2.2.2.2.2.2.2.2.2.1 w.1 w.2.2.1 w.2.2.2.1 w.2.2.2.2.1 w.2.2.2.2.2.2.1 w.2.2.2.2.2.2.2.1 w.2.2.2.2.2.2.2.2.1 w.2.2.2.2.2.2.2.2.2.1=some (l3 (Jx w)):=by
 have k:=h.nums;have k1:=k.c;have k2:=k.wr;have k3:=k.lost;have k4:=k.st;have cw:=k.ja;have jz:=k.KY;have lu:=k.jw;have k5:=k.era;have k7:=k.cS;unfold Kl Jx;rcases hm:w.An with _|⟨m,ms⟩
 ·rw[Dh,AOJ (by simp_all)];rfl
 have pO:w.2.2.2.2.2.2.2.1=m::ms:=hm;have y8:w.2.2.2.2.2.2.2.1.length=ms.length+1:=by simp_all
 have g0:w.2.2.2.2.2.2.2.1.getD 0 (0,0,[],[],false,[],())=m:=by simp_all
 have hr0:(0:Int)<=(0:Int)/\(0:Int)<(w.2.2.2.2.2.2.2.1.length:Int):=by omega
 have bC:=(h.An m (by simp_all)).1;have hmw:=bC.w;have hme:=bC.ep;simp only[Dh,BB,C6,AOJ hr0,g0];rw[AOK (by omega)];rw[show(w.2.2.2.2.1,w.2.2.2.2.2.1,())=CQ w from rfl,MN (r:=CQ w) (by show AS Bk w.2.2.2.2.1<=_;omega) ⟨by omega,by omega⟩];have Vb:(BK w.Am m.2.1).length<=8:=Er h;rw[show(CQ w).1=w.Am from rfl];simp only[AD];rw[T5 m,show(w.1,w.2.1,())=Ae w from rfl,ng (c:=Ae w) (by show w.1.length<=_;omega) (by omega) bC.zF (by omega)];simp only[AD,iB,P2];rcases AOB (MU (Ae w) m (BK w.Am m.2.1)).2 with h6|h6
 ·rw[h6,GK,pO];rfl
 ·have e:(MU (Ae w) m (BK w.Am m.2.1)).1=m:=by
   unfold MU at h6|-;rw[G8.2 bC]at h6|-;grind
  rw[h6,JA,e,pO]
  show some ((4,()),_,_,_,_,_,_,(m::ms),_)=some ((4,()),_,_,_,_,_,_,w.2.2.2.2.2.2.2.1,_)
  rw[pO]
theorem j5{b n:Int}:TM b n w.2.1 w.2.2.2.2.2.1 w.2.2.2.2.2.2.2.2.2.2.1 w.1 w.2.2.1 w.2.2.2.1 w.2.2.2.2.1 w.2.2.2.2.2.2.1 w.2.2.2.2.2.2.2.1 w.2.2.2.2.2.2.2.2.1 w.2.2.2.2.2.2.2.2.2.1=some (l3 (Q2 w b n)):=by
 have k:=h.nums;have k1:=k.c;have k2:=k.wr;have k3:=k.lost;have k4:=k.st;have cw:=k.ja;have jz:=k.KY;have lu:=k.jw;have k5:=k.era;have k7:=k.cS;unfold TM Q2;rcases hm:w.An with _|⟨m,ms⟩
 ·rw[Dh,AOJ (by simp_all)];rfl
 have pO:w.2.2.2.2.2.2.2.1=m::ms:=hm;have y8:w.2.2.2.2.2.2.2.1.length=ms.length+1:=by simp_all
 have g0:w.2.2.2.2.2.2.2.1.getD 0 (0,0,[],[],false,[],())=m:=by simp_all
 have hr0:(0:Int)<=(0:Int)/\(0:Int)<(w.2.2.2.2.2.2.2.1.length:Int):=by omega
 have bC:=(h.An m (by simp_all)).1;have hmw:=bC.w;have hme:=bC.ep;simp only[Dh,BB,C6,AOJ hr0,g0];rw[AOK (by omega),T5 m,Z9 (by omega)];simp only[AD];rcases he:Ec m b with _|e
 ·rfl
 simp only[AVc,AVT,APm];rw[Gk w,Rx h ⟨by omega,by omega⟩];simp only[AD];unfold rF;by_cases h3:Ay w n=0
 rotate_left
 ·rw[AOK h3,AOK h3,AOJ h3];rfl
 rw[AOJ h3,AOK (show¬(Ay w n≠0)from fun hh=>hh h3)];rcases AOB ((BK w.Am m.2.1).contains n)with h5|h5
 rotate_left
 ·rw[h5,JA];rfl
 rw[h5,GK,AOJ rfl,AOJ rfl,cu e,Zi h h3 (wI he)];rfl
theorem gz:Ja w.2.1 w.2.2.2.2.2.1 w.2.2.2.2.2.2.2.2.2.2.1 w.1 w.2.2.1 w.2.2.2.1 w.2.2.2.2.1 w.2.2.2.2.2.2.1 w.2.2.2.2.2.2.2.1 w.2.2.2.2.2.2.2.2.1 w.2.2.2.2.2.2.2.2.2.1=some (AcS (Im w)):=by
 have k:=h.nums;have k1:=k.c;have k2:=k.wr;have k3:=k.lost;have k4:=k.st;have cw:=k.ja;have jz:=k.KY;have lu:=k.jw;have k5:=k.era;have k7:=k.cS;unfold Ja Im;rcases hm:w.An with _|⟨m,ms⟩
 ·rw[Dh,AOJ (by simp_all)];rfl
 have pO:w.2.2.2.2.2.2.2.1=m::ms:=hm;have y8:w.2.2.2.2.2.2.2.1.length=ms.length+1:=by simp_all
 have g0:w.2.2.2.2.2.2.2.1.getD 0 (0,0,[],[],false,[],())=m:=by simp_all
 have hr0:(0:Int)<=(0:Int)/\(0:Int)<(w.2.2.2.2.2.2.2.1.length:Int):=by omega
 have bC:=(h.An m (by simp_all)).1;have hmw:=bC.w;simp only[Dh,BB,C6,AOJ hr0,g0];rw[AOK (by omega),T5 m,show(w.1,w.2.1,())=Ae w from rfl,show(w.2.2.2.2.1,w.2.2.2.2.2.1,())=CQ w from rfl,kv (c:=Ae w) (by show w.1.length<=_;omega) (by omega) bC.zF];simp only[AD];rcases AOB (QH (Ae w) m)with h6|h6
 rotate_left
 ·rw[h6,JA];rfl
 rw[h6,GK,APm,nu (c:=Ae w) (r:=CQ w) (by show w.1.length<=_;omega) (by show AS Bk w.2.2.2.2.1<=_;omega) k.trim];simp only[AD,pkR,P2];rcases AOB (LU (Ae w) (CQ w) m.1 (m.2.2.2.2.2.1.length:Int)).2 with h7|h7
 ·rw[h7,APm,GK];rfl
 ·rw[h7,AOk,JA];rfl
end
abbrev o0(l:List Af):Prop:=WD (fun s:Af=>s.1) l
abbrev ADn(p:Int)(l:List Af)(q:Nat):Prop:=lV (fun s:Af=>s.1) p l q
def bz(p:Int)(l:List Af)(q:Nat):Bool:=match l[q]? with|some e=>e.1==p|none=>false
theorem oJ{l:List Af}(ha:o0 l)(hl:l.length<=2^30)(hp:∀s∈l,0<=s.1/\s.1<2^40){p:Int}(hpp:0<=p/\p<2^40):∃q,ADn p l q/\
  Bb l p=some ((((q:Int),bz p l q,()),()),()):=by
 have key:∀(n a b:Nat),a<=b->b<=l.length->b-a<n->(∀(i:Nat) (h:i<l.length),i<a->l[i].1<p)->(∀(i:Nat) (h:i<l.length),b<=i->p<=l[i].1)->
   ∃q,ADn p l q/\Aw n l p l.length a b=some ((((q:Int),bz p l q,()),()),()):=by
  intro n
  induction n with
  |zero=>omega
  |succ n ih=>
   intro a b s6 hb hn h1 h2;simp only[Aw,Cs,AB,L5,AD];by_cases Ha:a<b
   ·have hm:(a+b)/2<l.length:=by omega
    have hq:=hp _ (AO7 hm);rw[AOJ (by omega),wH (by omega),AOJ (by omega),Al hm,AH (by omega) (by omega)];by_cases hc:l[(a+b)/2].1<p
    ·rw[AOJ (by omega),AH (by omega) (by omega),show((((a+b)/2:Nat):Int)+1)=(((a+b)/2+1:Nat):Int)by omega]
     refine ih _ b (by omega) hb (by omega) (fun i h hi=> ?_) h2;exact Int.lt_of_le_of_lt (dI (f:=fun s:Af=>s.1) ha h hm (by omega)) hc
    ·rw[AOK (by omega)]
     exact ih a _ (by omega) (by omega) (by omega) h1 fun i h hi=>Int.le_trans (by omega) (dI (f:=fun s:Af=>s.1) ha hm h hi)
   ·have AHh:a=b:=by omega
    subst AHh;refine⟨a,⟨hb,h1,h2⟩,?_⟩;rw[AOK (by omega)];unfold bz;by_cases ha':a<l.length
    ·have hq:=hp _ (AO7 ha')
     rw[AOJ (by omega),AOJ (by omega),Al ha',AOM ha',AH (by omega) (by omega)];dsimp only;by_cases hd:l[a].1=p
     ·simp_all
     ·rw[AS8.2 hd,AS8.2 (by omega:l[a].1-p≠0)]
    grind
 obtain⟨q,hq,e⟩:=key AZ 0 l.length (by omega) (by omega) (Ac (by omega)) (fun i h hi=>by omega) (fun i h hi=>by omega);refine⟨q,hq,?_⟩;unfold Bb Ct;omega
theorem wt{p:Int}{l:List Af}{q:Nat}(h:bz p l q=true):∃hq:q<l.length,l[q].1=p:=by
 unfold bz at h;grind
theorem uE{p:Int}{l:List Af}{q:Nat}(hp:ADn p l q)(ha:o0 l)(h:bz p l q=false):∀s∈l,s.1≠p:=by
 intro s hs e;obtain⟨i,hi,rfl⟩:=List.mem_iff_getElem.1 hs;have h1:=hp.lt i hi;by_cases hiq:i<q
 ·omega
 ·have hq:q<l.length:=by omega
  have h3:p<=l[q].1:=hp.ge q hq (ATX _);have h4:=dI (f:=fun s:Af=>s.1) ha hq hi (by omega);grind[bz,List.getElem?_eq_getElem,beq_eq_false_iff_ne]
theorem ALE{p:Int}{l:List Af}{q:Nat}(hp:ADn p l q)(ha:o0 l):(l.any fun s=>s.1==p)=bz p l q:=by
 rcases AOB (bz p l q)with h|h
 ·obtain⟨hq,e⟩:=wt h
  grind
 ·rw[h,List.any_eq_false]
  intro s hs;grind[uE]
def Ra(p:Int)(l:List Af):List Af:=l.map fun s=>if s.1=p then(s.1,s.2.1,true,())else s
theorem ABD{p:Int}{l:List Af}(h:∀s∈l,s.1≠p):Ra p l=l:=by
 unfold Ra
 conv=>rhs;rw[<-List.map_id l]
 refine AVf fun s hs=> ?_
 grind
theorem AHO{p:Int}:∀{l:List Af} {q:Nat} (hq:q<l.length),o0 l->l[q].1=p->l.set q (l[q].1,l[q].2.1,true,())=Ra p l
 |[],q,hq,_,_=>by rfl
 |s::l,0,_,ha,e=>by
  have h1:=AVM.1 ha;have e':s.1=p:=e;have h2:Ra p l=l:=ABD fun y hy=>by grind
  show(s.1,s.2.1,true,())::l=(if s.1=p then(s.1,s.2.1,true,())else s)::Ra p l
  simp_all
 |s::l,q+1,hq,ha,e=>by
  have h1:=AVM.1 ha;have hq':q<l.length:=by grind
  have e':l[q].1=p:=e;have h3:s.1<l[q].1:=h1.1 _ (AO7 hq');have h4:s.1≠p:=by omega
  have:=AHO hq' h1.2 e'
  show s::l.set q (l[q].1,l[q].2.1,true,())=(if s.1=p then(s.1,s.2.1,true,())else s)::Ra p l
  simp_all
theorem sm_at{p:Int}{l:List Af}:∀{s:Af},s∈Ra p l-> ∃t∈l,t.1=s.1:=by
 intro s hs;obtain⟨t,ht,rfl⟩:=AVh.1 hs;grind
theorem ATg{p:Int}{l:List Af}(h:o0 l):o0 (Ra p l):=by
 unfold Ra o0 WD;grind
theorem AQ9{p:Int}{l:List Af}:(Ra p l).length=l.length:=by unfold Ra;rw[AWA]
theorem xS{s:Af}:∀{l:List Af} {q:Nat},ADn s.1 l q->bz s.1 l q=false->af s l=l.take q++[s]++l.drop q
 |[],q,h,_=>by
  have:=h.le;have:q=0:=by simp_all
  subst this;rfl
 |y::l,0,h,hn=>by
  have h1:=h.ge 0 (by simp) (ATX _);have h2:(y.1==s.1)=false:=hn;have h2':=AS8.1 h2;have h1':s.1<=y.1:=h1;simp only[af];grind
 |y::l,q+1,h,hn=>by
  have h1:y.1<s.1:=h.lt 0 (by simp) (by omega);have hp:ADn s.1 l q:=⟨by have:=h.le;simp_all,fun i hi hiq=>h.lt (i+1) (by simp_all) (by omega),fun i hi hiq=>h.ge (i+1) (by simp_all) (by omega)⟩;simp only[af];rw[AOK (by omega),xS hp hn];rfl
section
variable{w:AA} (h:KU w)
include h
theorem KU.APc:∀s∈w.2.2.2.2.2.2.2.2.2.1,0<=s.1/\s.1<2^40:=fun s hs=>by
 have hp:=(h.Ai s hs).1;have h1:=HX hp;grind[HN,Ar,DX]
theorem kF{a:Int}{d:ACH}(hd:d.length<=40):ME a d w.2.1 w.2.2.2.2.2.1 w.2.2.2.2.2.2.2.2.2.2.1 w.1 w.2.2.1 w.2.2.2.1 w.2.2.2.2.1 w.2.2.2.2.2.2.1 w.2.2.2.2.2.2.2.1 w.2.2.2.2.2.2.2.2.1 w.2.2.2.2.2.2.2.2.2.1=some (AVv (doAdd w a d)):=by
 have k:=h.nums;have k1:=k.c;have k2:=k.wr;have k3:=k.lost;have k4:=k.st;have cw:=k.ja;have jz:=k.KY;have lu:=k.jw;have k5:=k.era;have k7:=k.cS;have k6:=k.se;unfold ME doAdd;rw[AH (x:=(w.2.2.2.2.2.2.1.length:Int)-1) (by omega) (by omega),A_];simp only[AD,BB,C6,Dh];rw[show Bd a 0 ((w.2.2.2.2.2.2.1.length:Int)-1)=Bd a 0 ((w.AQ.length:Int)-1)from rfl];rcases AOB (Bd a 0 ((w.AQ.length:Int)-1))with h1|h1
 rotate_left
 ·rw[h1,JA];rfl
 obtain⟨x1,x2,x3⟩:=h.fo h1;rw[h1,APm,GK];simp only[AOJ x1];rw[show w.2.2.2.2.2.2.1.getD a.toNat (0,[],())=w.AQ.getD a.toNat B3 from rfl]
 generalize hx:w.AQ.getD a.toNat B3=x at*
 rw[show(x.1,x.2.1,())=x from rfl,show(w.1,w.2.1,())=Ae w from rfl,lR (c:=Ae w) (by show w.1.length<=_;omega) (by omega) (by omega)];simp only[AD];rw[Il];simp only[AD];have hxl:=x2.n;have hxe:=x2.ep;have hq1:(CD (Ae w) x d).1.1=x.1:=by
  unfold CD;rw[JC.2 x2];grind
 have hpm:0<=HE (CD (Ae w) x d).1.1 (CD (Ae w) x d).2.1/\HE (CD (Ae w) x d).1.1 (CD (Ae w) x d).2.1<2^40:=by
  unfold HE HN;split
  ·rename_i hc
   rw[AOw,As,As]at hc;omega
  omega
 obtain⟨q,hq,es⟩:=oJ (l:=w.2.2.2.2.2.2.2.2.2.1) h.an (by omega) h.APc hpm;unfold Ir;rw[es];simp only[AD];rcases AOB (CD (Ae w) x d).2.2 with h2|h2
 rotate_left
 ·rw[h2,AVN,AZx,AOJ rfl,AOk];rfl
 obtain⟨y1,y2,y3,y4⟩:=cy h2;have hyl:=y2.n;rw[y3]at hyl;simp only[ASB,ART,AS0]at hyl;have zH:=Jn (e:=x.1) (o:=(CD (Ae w) x d).2.1) hxe (by omega);have hpe:HE (CD (Ae w) x d).1.1 (CD (Ae w) x d).2.1=HN x.1 (CD (Ae w) x d).2.1:=by
  grind[HE,As]
 rw[hpe]at hq|-;rw[h2,APm];simp only[AOx,AVP];have AdK:(w.Ai.any fun s=>s.1==HN x.1 (CD (Ae w) x d).2.1)=bz (HN x.1 (CD (Ae w) x d).2.1) w.2.2.2.2.2.2.2.2.2.1 q:=ALE hq h.an;rw[AdK];by_cases h3:w.2.2.2.2.2.2.2.2.2.1.length=120
 ·rw[AOJ (by omega),show decide (w.Ai.length=120)=true from AVH h3,AZx,AOJ rfl]
  rfl
 rw[AOK (by omega),show decide (w.Ai.length=120)=false from AVY h3];simp only[AVP];rcases AOB (bz (HN x.1 (CD (Ae w) x d).2.1) w.2.2.2.2.2.2.2.2.2.1 q)with h4|h4
 ·rw[h4,APm,AOJ rfl];rfl
 rw[h4,AOk,AOK (by simp)];have hql:=hq.le;grind[EZ,lg,xS,HN,CD,Ae,AVv,List.append_assoc,af]
end
def hY(c:CG)(s:AO)(ep n:Int):Int->List BD->List Af->List Af
 |_,[],se=>se
 |o,x::l,se=>hY c s ep n (o+1) l (if !x.2.2.1&&OD s (HN ep o)&&(Gj c n x).2.2.1 then Ra (HN ep o) se else se)
def pkT(c0:AAB)(c1 tr:Int)(tn:Bool)(ss:List AO)(lo:AAB)(er:List CW)(ws:List AR)(ms:List Av)(rs:List Ag)(se:List Af):Ge:=
 (((()),()),(((),c1,(),(),(),tr,(),(),(),(),tn,()),c0,ss,lo,er,ws,ms,rs,se,()))
section
variable{c:CG} {st:AO} {SS:List AO} {n:Int} (hc:c.1.length<=8) (hs:dO st) (hn:0<=n/\n<c.1.length) (hnS:n<(SS.length:Int)) (cU:SS.getD n.toNat EN=st)
include hc hs hn hnS cU
theorem AAi{tr:Int}{tn:Bool}{lo:AAB}{er:List CW}{ms:List Av}{rs:List Ag}{a:Nat}{ep:Int}:∀(rest dn:List BD) (ws:List AR) (se:List Af) (f:Nat),a<ws.length->a<=4->ws.getD a B3=(ep,dn++rest,())->cX c (ep,dn++rest,())->
  o0 se->(∀s∈se,0<=s.1/\s.1<2^40)->se.length<=120->rest.length<f->
  DD f (a:Int) n ((dn.length:Int)+1) c.2.1 tr tn c.1 SS lo er ws ms rs se=some (pkT c.1 c.2.1 tr tn SS lo er (ws.set a (ep,dn++Bu c st ep n ((dn.length:Int)+1) rest,())) ms rs (hY c st ep n ((dn.length:Int)+1) rest se)):=by
 have sk:=hs.w;intro rest
 induction rest with
 |nil=>
  intro dn ws se f ha ha4 hw EP zr AJk ASN hf;obtain⟨f,rfl⟩:∃f',f=f'+1:=⟨f-1,by omega⟩;have tL:ws.getD a (0,[],())=(ep,dn++[],()):=hw;simp only[DD,JH,AB,AO2,tL,AQO];rw[AOJ (by omega),AOK (by omega)];unfold Bu hY pkT;rw[show((ep,dn++[],()):AR)=ws.getD a B3 from hw.symm,kH]
 |cons x rest ih=>
  intro dn ws se f ha ha4 hw EP zr AJk ASN hf;obtain⟨f,rfl⟩:∃f',f=f'+1:=⟨f-1,by omega⟩;simp only[ART]at hf;have tL:ws.getD a (0,[],())=(ep,dn++x::rest,()):=hw;have hwe:1<=ep/\ep<=30:=EP.ep;have hwn:(dn++x::rest).length<=60:=EP.n;have hww:AS Az (dn++x::rest)<=3000:=EP.w;have hwl:=hwn;simp only[ASB,ART]at hwl;have ca:(0:Int)<=(a:Int)/\(a:Int)<(ws.length:Int):=by omega
  have cn:(0:Int)<=n/\n<(SS.length:Int):=⟨hn.1,hnS⟩;have zH:=Jn (e:=ep) (o:=(dn.length:Int)+1) hwe (by omega);have hpm:HE ep ((dn.length:Int)+1)=HN ep ((dn.length:Int)+1):=by
   grind[HE,As]
  have cd:(0:Int)<=(dn.length:Int)+1-1/\(dn.length:Int)+1-1<((dn++x::rest).length:Int):=by
   grind
  have e1:((dn.length:Int)+1-1).toNat=dn.length:=by omega
  have e2:(dn++x::rest).getD dn.length ([],[],false,())=x:=by simp[List.getD]
  have ARc:SS.getD n.toNat ([],[],0,())=st:=cU;simp only[DD,JH,AB,BB,C6,AO2,tL,AOJ ca,AOJ cn];rw[AOJ (by omega),Il,hpm];simp only[AD,ARc];rw[QD st,Um (by omega) hs.sin];simp only[AD];rw[AH (x:=(dn.length:Int)+1+1) (by omega) (by omega),AH (x:=(dn.length:Int)+1-1) (by omega) (by omega)];simp only[AOJ cd,e1,e2];have go:∀(y:BD) (ws':List AR) (dH:List Af),ws'.length=ws.length->ws'.getD a B3=(ep,dn++y::rest,())->(∀z,ws'.set a z=ws.set a z)->cX c (ep,dn++y::rest,())->o0 dH->(∀s∈dH,0<=s.1/\s.1<2^40)->dH.length<=120->
    (if !x.2.2.1&&OD st (HN ep ((dn.length:Int)+1))then Gj c n x else x)=y->(if !x.2.2.1&&OD st (HN ep ((dn.length:Int)+1))&&(Gj c n x).2.2.1 then Ra (HN ep ((dn.length:Int)+1)) se else se)=dH->
    DD f (a:Int) n ((dn.length:Int)+1+1) c.2.1 tr tn c.1 SS lo er ws' ms rs dH=some (pkT c.1 c.2.1 tr tn SS lo er (ws.set a (ep,dn++Bu c st ep n ((dn.length:Int)+1) (x::rest),())) ms rs (hY c st ep n ((dn.length:Int)+1) (x::rest) se)):=fun y ws' dH g1 g2 g3 g4 g5 g6 g7 g8 g9=>by
   have:=ih (dn++[y]) ws' dH f (by omega) ha4 (by simp_all) (by simp_all) g5 g6 g7 (by omega);simp only[ASB,ART,AS0,AQM,AV2]at this;grind[Bu,hY]
  have stay:(if !x.2.2.1&&OD st (HN ep ((dn.length:Int)+1))then Gj c n x else x)=x->(if !x.2.2.1&&OD st (HN ep ((dn.length:Int)+1))&&(Gj c n x).2.2.1 then Ra (HN ep ((dn.length:Int)+1)) se else se)=se->
    DD f (a:Int) n ((dn.length:Int)+1+1) c.2.1 tr tn c.1 SS lo er ws ms rs se=some (pkT c.1 c.2.1 tr tn SS lo er (ws.set a (ep,dn++Bu c st ep n ((dn.length:Int)+1) (x::rest),())) ms rs (hY c st ep n ((dn.length:Int)+1) (x::rest) se)):=fun g8 g9=>go x ws se rfl hw (fun _=>rfl) EP zr AJk ASN g8 g9
  have hsg:X6 st (HN ep ((dn.length:Int)+1))=OO (HN ep ((dn.length:Int)+1)) st.1:=by unfold X6;rw[De.2 hs,AOJ rfl]
  rw[hsg];cases hxd:x.2.2.1 with
  |true=>
   grind
  |false=>
   rw[AOk];cases hg:OO (HN ep ((dn.length:Int)+1)) st.1 with
   |none=>
    grind[OD,HN]
   |some e=>
    simp only[APm];by_cases he0:e.2.1=0
    rotate_left
    ·have hh:OD st (HN ep ((dn.length:Int)+1))=false:=by grind[OD]
     simp_all
    have hh:OD st (HN ep ((dn.length:Int)+1))=true:=by grind[OD]
    rw[AOJ he0];have hx:=EP.words x (by simp);have hb:cX c (ep,dn++Gj c n x::rest,()):=⟨EP.cfg,EP.ep,by grind,fun b hb=>by
     simp only[ARh,ASY]at hb;rcases hb with hb|rfl|hb
     ·exact EP.words b (by simp[hb])
     ·exact⟨hx.1,LF hx.2.1 hn,rfl⟩
     ·exact EP.words b (by simp[hb]),AVG (mD hxd) EP.opn⟩
    rw[show(c.1,c.2.1,())=c from rfl,kb (c:=c) (w:=(ep,dn++x::rest,())) (by omega) (by grind)];have AFx:SK c (ep,dn++x::rest,()) ((dn.length:Int)+1) n=((ep,dn++Gj c n x::rest,()),true):=by
     unfold SK;rw[JC.2 EP];simp only[AOx,AO5,ATF];rw[e1,show(dn++x::rest).getD dn.length MB=x from e2,hxd];rw[AOJ (by
      rw[AOw,AOw,As,As];grind)]
     grind
    rw[AFx];simp only[AD,pkW];have hx7:(ws.set a (ep,dn++Gj c n x::rest,())).getD a (0,[],())=(ep,dn++Gj c n x::rest,()):=Ny ha;have ca7:(0:Int)<=(a:Int)/\(a:Int)<((ws.set a (ep,dn++Gj c n x::rest,())).length:Int):=by grind
    have cd7:(0:Int)<=(dn.length:Int)+1-1/\(dn.length:Int)+1-1<((dn++Gj c n x::rest).length:Int):=by
     grind
    have e27:(dn++Gj c n x::rest).getD dn.length ([],[],false,())=Gj c n x:=by simp[List.getD]
    have hpr:0<=HN ep ((dn.length:Int)+1)/\HN ep ((dn.length:Int)+1)<2^40:=by unfold HN;omega
    obtain⟨q,hq,es⟩:=oJ zr (by omega) AJk hpr;unfold Ir;rw[es];simp only[AD,hx7,AOJ ca7,AOJ cd7,e27];have Va:∀z,(ws.set a (ep,dn++Gj c n x::rest,())).set a z=ws.set a z:=fun z=>AZu ..
    have AOD:(if !x.2.2.1&&OD st (HN ep ((dn.length:Int)+1))then Gj c n x else x)=Gj c n x:=by grind
    rcases AOB (bz (HN ep ((dn.length:Int)+1)) se q)with hf|hf
    rotate_left
    ·rw[hf,AOk]
     refine go _ _ se (AVj ..) hx7 Va hb zr AJk ASN AOD ?_
     rw[ABD (uE hq zr hf)];grind
    obtain⟨hql,hqe⟩:=wt hf;rw[hf,APm];cases hd:(Gj c n x).2.2.1 with
    |false=>
     grind
    |true=>
     rw[APm,AOJ (by omega),AO2,show se.getD q (0,[],false,())=se[q]from Ph hql,AHO hql zr hqe];refine go _ _ _ (AVj ..) hx7 Va hb (ATg zr) (fun s hs' => ?_) (by rw[AQ9];omega) AOD (by grind);grind[sm_at]
theorem zi{tr:Int}{tn:Bool}{lo:AAB}{er:List CW}{ws:List AR}{rs:List Ag}{se:List Af}{a:Nat}{m:Av}(hm:lx c m):∀(rest dn:List AAB) (ms:List Av) (f:Nat),a<ms.length->a<=4->ms.getD a Ei=(m.1,m.2.1,m.2.2.1,m.2.2.2.1,m.2.2.2.2.1,dn++rest,())->(dn++rest).length=m.2.2.2.2.2.1.length->(∀l∈dn++rest,BH c l=true)->
  rest.length<f->
  Bf f (a:Int) n ((dn.length:Int)+1) c.2.1 tr tn c.1 SS lo er ws ms rs se=some (pkT c.1 c.2.1 tr tn SS lo er ws (ms.set a (m.1,m.2.1,m.2.2.1,m.2.2.2.1,m.2.2.2.2.1,dn++Fu m st n ((dn.length:Int)+1) rest,())) rs se):=by
 have sk:=hs.w;have hmn:m.2.2.2.2.2.1.length<=60:=by
  have:=hm.n;have hb:=Gw (l:=m.2.2.2.1);omega
 intro rest
 induction rest with
 |nil=>
  intro dn ms f ha ha4 hw hl ho hf;obtain⟨f,rfl⟩:∃f',f=f'+1:=⟨f-1,by omega⟩;have tL:ms.getD a (0,0,[],[],false,[],())=(m.1,m.2.1,m.2.2.1,m.2.2.2.1,m.2.2.2.2.1,dn++[],()):=hw;simp only[Bf,Hb,AB,AO2,tL,AQO];rw[AOJ (by omega),AOK (by omega)];unfold Fu pkT;rw[show((m.1,m.2.1,m.2.2.1,m.2.2.2.1,m.2.2.2.2.1,dn++[],()):Av)=ms.getD a Ei from hw.symm,kH]
 |cons x rest ih=>
  intro dn ms f ha ha4 hw hl ho hf;obtain⟨f,rfl⟩:∃f',f=f'+1:=⟨f-1,by omega⟩;simp only[ART]at hf;have tL:ms.getD a (0,0,[],[],false,[],())=(m.1,m.2.1,m.2.2.1,m.2.2.2.1,m.2.2.2.2.1,dn++x::rest,()):=hw;have mT:=hl;simp only[ASB,ART]at mT;have ca:(0:Int)<=(a:Int)/\(a:Int)<(ms.length:Int):=by omega
  have cn:(0:Int)<=n/\n<(SS.length:Int):=⟨hn.1,hnS⟩;have ARc:SS.getD n.toNat ([],[],0,())=st:=cU;have bC:lx c (m.1,m.2.1,m.2.2.1,m.2.2.2.1,m.2.2.2.2.1,dn++x::rest,()):=⟨hm.cfg,hm.ep,hm.b,hm.zx,hm.tf,hm.seen,ho,by show((dn++x::rest).length:Int)=_;rw[hl];exact hm.n⟩;have hmw:=bC.w;simp only[Bf,Hb,AB,BB,C6,AO2,tL,AOJ ca,AOJ cn];rw[AOJ (by omega),Z9 (m:=(m.1,m.2.1,m.2.2.1,m.2.2.2.1,m.2.2.2.2.1,dn++x::rest,())) (by omega),dx hl];simp only[AD,ARc];rw[QD st,Um (by omega) hs.sin];simp only[AD];rw[AH (x:=(dn.length:Int)+1+1) (by omega) (by omega)];have go:∀(y:AAB) (ms':List Av),ms'.length=ms.length->ms'.getD a Ei=(m.1,m.2.1,m.2.2.1,m.2.2.2.1,m.2.2.2.2.1,dn++y::rest,())->(∀z,ms'.set a z=ms.set a z)->BH c y=true->
    (if VO m st ((dn.length:Int)+1)then OH n x else x)=y->
    Bf f (a:Int) n ((dn.length:Int)+1+1) c.2.1 tr tn c.1 SS lo er ws ms' rs se=some (pkT c.1 c.2.1 tr tn SS lo er ws (ms.set a (m.1,m.2.1,m.2.2.1,m.2.2.2.1,m.2.2.2.2.1,dn++Fu m st n ((dn.length:Int)+1) (x::rest),())) rs se):=fun y ms' g1 g2 g3 g4 g5=>by
   have:=ih (dn++[y]) ms' f (by omega) ha4 (by simp_all) (by simp_all) (fun l hl=>by
    grind) (by omega)
   simp only[ASB,ART,AS0,AQM,AV2]at this;grind[Fu]
  have hx:=ho x (by simp);have stay:VO m st ((dn.length:Int)+1)=false->Bf f (a:Int) n ((dn.length:Int)+1+1) c.2.1 tr tn c.1 SS lo er ws ms rs se=some (pkT c.1 c.2.1 tr tn SS lo er ws (ms.set a (m.1,m.2.1,m.2.2.1,m.2.2.2.1,m.2.2.2.2.1,dn++Fu m st n ((dn.length:Int)+1) (x::rest),())) rs se):=fun g=>go x ms rfl hw (fun _=>rfl) hx (by simp_all)
  have hsg:∀p,X6 st p=OO p st.1:=fun p=>by unfold X6;rw[De.2 hs,AOJ rfl]
  rw[hsg];cases he:Ec m ((dn.length:Int)+1)with
  |none=>
   simp only[AVb,AOk];grind[VO]
  |some e=>
   simp only[AVT,APm,AVc];cases hg:OO e.1 st.1 with
   |none=>
    grind[VO]
   |some y=>
    simp only[APm,eqE,AB];by_cases hye:y=e
    rotate_left
    ·rw[AOK hye]
     grind[VO]
    have hh:VO m st ((dn.length:Int)+1)=true:=by grind[VO]
    rw[AOJ hye,show(c.1,c.2.1,())=c from rfl,pk (c:=c) (m:=(m.1,m.2.1,m.2.2.1,m.2.2.2.1,m.2.2.2.2.1,dn++x::rest,())) (by omega) (by omega) bC.zF];have AFx:TG c (m.1,m.2.1,m.2.2.1,m.2.2.2.1,m.2.2.2.2.1,dn++x::rest,()) ((dn.length:Int)+1) n=((m.1,m.2.1,m.2.2.1,m.2.2.2.1,m.2.2.2.2.1,dn++OH n x::rest,()),true):=by
     unfold TG;rw[G8.2 bC];have hq:(Bd ((dn.length:Int)+1) 1 ((dn++x::rest).length:Int)&&Bd n 0 ((c.1.length:Int)-1))=true:=by
      rw[AOw,As,As];omega
     grind
    grind[AD,iB,OH,List.length_set,Ny,List.set_set,LF]
end
def iw(c:CG)(s:AO)(ep n:Int):Int->List BD->Int->Bool
 |_,[],_=>false
 |o,x::l,p=>(decide (p=HN ep o)&&(!x.2.2.1&&OD s (HN ep o)&&(Gj c n x).2.2.1))||iw c s ep n (o+1) l p
theorem vD{c:CG}{st:AO}{ep n:Int}:∀{l:List BD} {o:Int} {se:List Af},hY c st ep n o l se=se.map fun s=>(s.1,s.2.1,s.2.2.1||iw c st ep n o l s.1,())
 |[],o,se=>by
  simp only[hY,iw,AZ2];simp_all
 |x::l,o,se=>by
  simp only[hY];rw[vD];rcases AOB (!x.2.2.1&&OD st (HN ep o)&&(Gj c n x).2.2.1)with hb|hb
  ·rw[hb,AOJ rfl]
   unfold Ra;rw[AXP];refine AVf fun s _=> ?_
   simp only[Function.comp_apply,iw,hb,AVm];grind
  ·rw[hb]
   simp only[AO5,ATF];refine AVf fun s _=> ?_
   simp only[iw,hb,AZj,AVP]
theorem uX{c:CG}{st:AO}{ep n p:Int}(hep:1<=ep/\ep<=30)(hp:Bp p=true):∀{l:List BD} {o:Int},1<=o->o+l.length<=61->
  iw c st ep n o l p=(Ar p==ep&&(decide (o<=DX p)&&(decide (DX p<o+l.length)&&(((Bu c st ep n o l).getD (DX p-o).toNat MB).2.2.1&& !(l.getD (DX p-o).toNat MB).2.2.1))))
 |[],o,_,_=>by
  have:(decide (o<=DX p)&&decide (DX p<o+(([]:List BD).length:Int)))=false:=by
   simp_all
  rw[<-Bool.and_assoc (decide (o<=DX p)),this,AVZ,AZj];rfl
 |x::l,o,ho,hl=>by
  simp only[ART]at hl;have hf:=HX hp;simp only[iw];rw[uX hep hp (l:=l) (o:=o+1) (by omega) (by omega)];by_cases he:Ar p=ep
  rotate_left
  ·grind[HN,Jn,beq_eq_false_iff_ne,decide_eq_false]
  rw[AVi.2 he];simp only[APr,ART];by_cases h1:DX p=o
  ·have hpe:p=HN ep o:=by simp_all
   have e0:(DX p-o).toNat=0:=by omega
   rw[AVH hpe,AVY (show¬o+1<=DX p by omega),AVH (show o<=DX p by omega),AVH (show DX p<o+((l.length+1:Nat):Int)by omega),e0];simp only[APr,AVZ,AZ2,Bu,List.getD_cons_zero];grind
  ·have ew:p≠HN ep o:=fun e=>h1 (by grind[Jn])
   rw[AVY ew,AVZ,AVP];by_cases h2:o<=DX p
   ·rw[AVH h2,AVH (show o+1<=DX p by omega)]
    have e1:(DX p-o).toNat=(DX p-(o+1)).toNat+1:=by omega
    rw[e1];simp only[Bu,List.getD_cons_succ];grind
   grind
theorem iO{c:CG}{st:AO}{ep n:Int}:∀{l:List BD} {o:Int},(Bu c st ep n o l).length=l.length
 |[],_=>rfl
 |x::l,o=>by simp only[Bu,ART,iO]
theorem AAv{c:CG}{st:AO}{ep n:Int}(hep:1<=ep/\ep<=30){l:List BD}(hl:l.length<=60){se:List Af}(hs:∀s∈se,Bp s.1=true):hY c st ep n 1 l se=se.map (QZ false ep l (Bu c st ep n 1 l)):=by
 rw[vD];refine AVf fun s hm=> ?_
 have hf:=HX (hs s hm);unfold QZ ae;rw[uX hep (hs s hm) (by omega) (by omega),iO];by_cases h1:DX s.1<=l.length
 ·have:Bd (DX s.1) 1 (l.length:Int)=true:=As.2 (by omega)
  grind
 ·have:Bd (DX s.1) 1 (l.length:Int)=false:=by
   rw[<-ASw,As];omega
  grind
def AEy(q:AA×Int):eM:=((q.2,()),(((),q.1.2.1,(),(),(),q.1.2.2.2.2.2.1,(),(),(),(),q.1.2.2.2.2.2.2.2.2.2.2.1,()),q.1.1,q.1.2.2.1,(),(),(),(),q.1.2.2.2.2.2.2.2.2.1,(),q.1.2.2.2.1,q.1.2.2.2.2.1,q.1.2.2.2.2.2.2.1,q.1.2.2.2.2.2.2.2.1,q.1.2.2.2.2.2.2.2.2.2.1,()))
def ww(w:AA)(SS:List AO)(ws:List AR)(ms:List Av)(se:List Af):AA:=(((w.CV SS).Bl ws).Ax se).Cy ms
section
variable{w:AA} (h:KU w) {st:AO} {SS:List AO} {n:Int} (hs:dO st) (hn:0<=n/\n<(Ae w).1.length) (hnS:n<(SS.length:Int)) (cU:SS.getD n.toNat EN=st)
include h hs hn hnS cU
theorem AHH{ws:List AR}{se:List Af}:∀(k i:Nat),w.2.2.2.2.2.2.2.1.length-i=k->i<=w.2.2.2.2.2.2.2.1.length-> ∀f,k<f->
  Fh f n w.2.2.2.2.2.2.2.1.length i w.2.1 w.2.2.2.2.2.1 w.2.2.2.2.2.2.2.2.2.2.1 w.1 SS w.2.2.2.1 w.2.2.2.2.1 ws ((w.2.2.2.2.2.2.2.1.map (Mt st w.Am n)).take i++w.2.2.2.2.2.2.2.1.drop i) w.2.2.2.2.2.2.2.2.1 se=some (l3 (ww w SS ws (w.2.2.2.2.2.2.2.1.map (Mt st w.Am n)) se,0)):=by
 have k:=h.nums;have k1:=k.c;have k5:=k.era;have k6:=k.md;intro k
 induction k with
 |zero=>
  intro i hk hi f hf;obtain⟨f,rfl⟩:∃f',f=f'+1:=⟨f-1,by omega⟩;have:i=w.2.2.2.2.2.2.2.1.length:=by omega
  simp only[Fh,NF,AB];rw[AOK (by omega),this,AWl,AQO,AVU (by simp)];rfl
 |succ k ih=>
  intro i hk hi f hf;obtain⟨f,rfl⟩:∃f',f=f'+1:=⟨f-1,by omega⟩;have Du:i<w.2.2.2.2.2.2.2.1.length:=by omega
  have hm:=(h.An _ (AO7 Du)).1;have hme:=hm.ep;have Vb:(BK w.Am w.2.2.2.2.2.2.2.1[i].2.1).length<=8:=Er h;simp only[Fh,NF,AB];rw[QN hi,AOJ (by omega),AOJ (by omega),AO2,Ns Du,show(w.2.2.2.2.1,w.2.2.2.2.2.1,())=CQ w from rfl,MN (r:=CQ w) (by show AS Bk w.2.2.2.2.1<=_;omega) ⟨by omega,by omega⟩];rw[show(CQ w).1=w.Am from rfl];simp only[AD];rw[JT (by omega),AH (x:=(i:Int)+1) (by omega) (by omega),show((i:Int)+1)=((i+1:Nat):Int)by omega];simp only[AD];have nx:=ih (i+1) (by omega) (by omega) f (by omega);rcases AOB ((BK w.Am w.2.2.2.2.2.2.2.1[i].2.1).contains n)with hc|hc
  ·have hT:Mt st w.Am n w.2.2.2.2.2.2.2.1[i]=(w.2.2.2.2.2.2.2.1[i].1,w.2.2.2.2.2.2.2.1[i].2.1,w.2.2.2.2.2.2.2.1[i].2.2.1,w.2.2.2.2.2.2.2.1[i].2.2.2.1,w.2.2.2.2.2.2.2.1[i].2.2.2.2.1,Fu w.2.2.2.2.2.2.2.1[i] st n 1 w.2.2.2.2.2.2.2.1[i].2.2.2.2.2.1,()):=by
    unfold Mt;simp_all
   have hmn:w.2.2.2.2.2.2.2.1[i].2.2.2.2.2.1.length<=60:=by
    have:=hm.n;have hb:=Gw (l:=w.2.2.2.2.2.2.2.1[i].2.2.2.1);omega
   have:=zi (c:=Ae w) (tr:=w.2.2.2.2.2.1) (tn:=w.2.2.2.2.2.2.2.2.2.2.1) (lo:=w.2.2.2.1) (er:=w.2.2.2.2.1) (ws:=ws) (rs:=w.2.2.2.2.2.2.2.2.1) (se:=se) (a:=i) k1 hs hn hnS cU hm w.2.2.2.2.2.2.2.1[i].2.2.2.2.2.1 [] ((w.2.2.2.2.2.2.2.1.map (Mt st w.Am n)).take i++w.2.2.2.2.2.2.2.1.drop i) AZ (by simp_all) (by omega) (Ns Du) rfl (by simpa using hm.wrote) (Ac (by omega));rw[hc,APm];unfold Lx KZ;simp only[AS0,AVJ]at this;have e1:(((0:Nat):Int)+1)=1:=rfl;rw[e1]at this;rw[show(w.2.1:Int)=(Ae w).2.1 from rfl,show w.1=(Ae w).1 from rfl,this];simp only[AD,pkT];rw[Q7 Du hT.symm];exact nx
  ·have hT:Mt st w.Am n w.2.2.2.2.2.2.2.1[i]=w.2.2.2.2.2.2.2.1[i]:=by
    unfold Mt;simp_all
   rw[hc,AOk,lY Du hT];omega
theorem AII:∀(rest pre:List AR) (se:List Af) (f:Nat),pre.length+rest.length=w.2.2.2.2.2.2.1.length->(∀x∈rest,cX (Ae w) x)->o0 se->(∀s∈se,Bp s.1=true)->se.length<=120->rest.length+w.2.2.2.2.2.2.2.1.length+1<f->
  FM f n w.2.2.2.2.2.2.1.length pre.length w.2.1 w.2.2.2.2.2.1 w.2.2.2.2.2.2.2.2.2.2.1 w.1 SS w.2.2.2.1 w.2.2.2.2.1 (pre++rest) w.2.2.2.2.2.2.2.1 w.2.2.2.2.2.2.2.2.1 se st.2.2.1=
   some (l3 (ww w SS (pre++(EV false (Ae w) st w.Am n rest se).1) (w.2.2.2.2.2.2.2.1.map (Mt st w.Am n)) (EV false (Ae w) st w.Am n rest se).2,0)):=by
 have k:=h.nums;have k1:=k.c;have k2:=k.wr;have k5:=k.era;have k6:=k.md;have hb:∀{p:Int},Bp p=true->0<=p/\p<2^40:=fun{p} hp=>by
  have h1:=HX hp;grind[HN]
 intro rest
 induction rest with
 |nil=>
  intro pre se f hl hw ha hp hsl hf;obtain⟨f,rfl⟩:∃f',f=f'+1:=⟨f-1,by omega⟩;simp only[AS0]at hl hf;simp only[FM,OT,AB,AQO];rw[AOK (by omega)];have:=AHH h hs hn hnS cU (ws:=pre) (se:=se) w.2.2.2.2.2.2.2.1.length 0 (by omega) (by omega) f (by omega);rw[show((0:Nat):Int)=0 from rfl,AUN,AZ_,AVJ]at this;grind[EV]
 |cons x rest ih=>
  intro pre se f hl hw ha hp hsl hf;obtain⟨f,rfl⟩:∃f',f=f'+1:=⟨f-1,by omega⟩;simp only[ART]at hl hf;have hx:=hw x (by simp);have hxe:=hx.ep;have hxn:=hx.n;have zH:(pre++x::rest).length=pre.length+(rest.length+1):=by simp
  have cp:(0:Int)<=(pre.length:Int)/\(pre.length:Int)<((pre++x::rest).length:Int):=by omega
  have e2:(pre++x::rest).getD pre.length (0,[],())=x:=by simp[List.getD]
  have Vb:(BK w.Am x.1).length<=8:=Er h;simp only[FM,OT,AB,AO2,AOJ cp,e2];rw[AOJ (by omega),show(w.2.2.2.2.1,w.2.2.2.2.2.1,())=CQ w from rfl,MN (r:=CQ w) (by show AS Bk w.2.2.2.2.1<=_;omega) ⟨by omega,by omega⟩];rw[show(CQ w).1=w.Am from rfl];simp only[AD];rw[JT (by omega),AH (x:=(pre.length:Int)+1) (by omega) (by omega),show((pre.length:Int)+1)=((pre.length+1:Nat):Int)by omega];simp only[AD];have next:∀(b:AR) (dH:List Af),o0 dH->(∀s∈dH,Bp s.1=true)->dH.length<=120->
    FM f n w.2.2.2.2.2.2.1.length ((pre.length+1:Nat):Int) w.2.1 w.2.2.2.2.2.1 w.2.2.2.2.2.2.2.2.2.2.1 w.1 SS w.2.2.2.1 w.2.2.2.2.1 (pre++b::rest) w.2.2.2.2.2.2.2.1 w.2.2.2.2.2.2.2.2.1 dH st.2.2.1=
     some (l3 (ww w SS (pre++b::(EV false (Ae w) st w.Am n rest dH).1) (w.2.2.2.2.2.2.2.1.map (Mt st w.Am n)) (EV false (Ae w) st w.Am n rest dH).2,0)):=fun b dH h1 h2 h3=>by
   have:=ih (pre++[b]) dH f (by grind) (fun x hx=>hw x (by simp[hx])) h1 h2 h3 (by omega);simp_all
  simp only[EV];rcases AOB (aa st w.Am n x)with ht|ht
  rotate_left
  ·rw[ht]
   simp only[AO5,ATF];unfold aa at ht;by_cases Ha:x.1>st.2.2.1
   ·grind
   grind
  ·rw[ht]
   simp only[AVR];unfold aa at ht;rw[AOw,APo]at ht;rw[AOJ (show x.1>st.2.2.1 from ht.2),ht.1,APm];have:=AAi (c:=Ae w) (tr:=w.2.2.2.2.2.1) (tn:=w.2.2.2.2.2.2.2.2.2.2.1) (lo:=w.2.2.2.1) (er:=w.2.2.2.2.1) (ms:=w.2.2.2.2.2.2.2.1) (rs:=w.2.2.2.2.2.2.2.2.1) (a:=pre.length) (ep:=x.1) k1 hs hn hnS cU x.2.1 [] (pre++x::rest) se AZ (by omega) (by omega) (show(pre++x::rest).getD pre.length (0,[],())=x from e2) hx ha (fun s hs' =>hb (hp s hs')) hsl (Ac (by omega));unfold OI Oi;simp only[AS0,AVJ]at this;have e1:(((0:Nat):Int)+1)=1:=rfl;rw[e1,AAv hxe hxn hp,AZw _ _ (by omega),Nat.sub_self,AY7]at this;rw[show(w.2.1:Int)=(Ae w).2.1 from rfl,show w.1=(Ae w).1 from rfl,this];simp only[AD,pkT];refine next _ _ ?_ (fun s hs' => ?_) (by simp_all)
   ·unfold o0 WD
    rw[AZg];exact List.Pairwise.imp (fun{a b} s6=>s6) ha
   ·obtain⟨s',h1,rfl⟩:=AVh.1 hs'
    exact hp s' h1
end
section
variable{w:AA} (h:KU w)
include h
theorem ij{n:Int}:RI n w.2.1 w.2.2.2.2.2.1 w.2.2.2.2.2.2.2.2.2.2.1 w.1 w.2.2.1 w.2.2.2.1 w.2.2.2.2.1 w.2.2.2.2.2.2.1 w.2.2.2.2.2.2.2.1 w.2.2.2.2.2.2.2.2.1 w.2.2.2.2.2.2.2.2.2.1=some (l3 (Mr false w n)):=by
 have k:=h.nums;have k1:=k.c;have k2:=k.wr;have k3:=k.lost;have k4:=k.st;have cw:=k.ja;have jz:=k.KY;have lu:=k.jw;have k5:=k.era;have k7:=k.cS;unfold RI UA Mr;rw[Gk w,MV (by omega) (by omega)];simp only[AD,C6,BB];by_cases h3:Ay w n=0
 rotate_left
 ·rw[AOK h3,AOJ h3];rfl
 obtain⟨hr,s1,s2,s3⟩:=h.MS h3;have cU:w.2.2.1.getD n.toNat ([],[],0,())=storeAt w n:=rfl;rw[AOJ h3,AOK (show¬(Ay w n≠0)from fun hh=>hh h3)];simp only[AOJ hr,cU];rw[show((storeAt w n).1,(storeAt w n).2.1,(storeAt w n).2.2.1,())=storeAt w n from rfl,ZU s1 s2];simp only[AD,jv];rcases AOB (CI (storeAt w n)).2 with hq|hq
 rotate_left
 ·rw[hq,JA];rfl
 rw[hq,GK,APm];have EP:dO (CI (storeAt w n)).1:=(N2 hq).2.1;have Acb:n.toNat<w.2.2.1.length:=by omega
 have:=AII h (st:=(CI (storeAt w n)).1) (SS:=w.2.2.1.set n.toNat (CI (storeAt w n)).1) (n:=n) EP (h.node h3).1 (by simp_all) (Ny Acb) w.2.2.2.2.2.2.1 [] w.2.2.2.2.2.2.2.2.2.1 AZ (by simp) (fun x hx=>(h.AQ x hx).1) h.an (fun s hs=>(h.Ai s hs).1) k.se (Ac (by have:=k.md;omega));simp only[AS0,AVJ]at this;rw[show((0:Nat):Int)=0 from rfl]at this;exact this
theorem AGg{n:Int}{ss:List AO}{ls:AAB}{ws:List AR}(hls:ls.length<=2^20):∀(f i:Nat),i<=w.2.2.2.2.2.2.2.1.length->w.2.2.2.2.2.2.2.1.length-i<f->
  HI f n w.2.2.2.2.2.2.2.1.length i w.2.1 w.2.2.2.2.2.1 w.2.2.2.2.2.2.2.2.2.2.1 w.1 ss w.2.2.2.1 w.2.2.2.2.1 ws ((w.2.2.2.2.2.2.2.1.map fun m=>(CO (Ae w) m n).1).take i++w.2.2.2.2.2.2.2.1.drop i) w.2.2.2.2.2.2.2.2.1 w.2.2.2.2.2.2.2.2.2.1 ls=
   some (AL_ (((((w.CV ss).Fb ls).Bl ws).Cy (w.2.2.2.2.2.2.2.1.map fun m=>(CO (Ae w) m n).1)).Fj (w.GP||holds (Ae w) ls),0)):=by
 have k:=h.nums;have k1:=k.c;have k6:=k.md;intro f
 induction f with
 |zero=>omega
 |succ f ih=>
  intro i hi hn;have hlen:=QN (f:=fun m:Av=>(CO (Ae w) m n).1) hi;simp only[HI,T3,AB,BB,hlen];by_cases Du:i<w.2.2.2.2.2.2.2.1.length
  ·have c1:(0:Int)<=(i:Int)/\(i:Int)<(w.2.2.2.2.2.2.2.1.length:Int):=by omega
   have hm:=(h.An _ (AO7 Du)).1;have hmw:=hm.w;have hg:((w.2.2.2.2.2.2.2.1.map fun m=>(CO (Ae w) m n).1).take i++w.2.2.2.2.2.2.2.1.drop i).getD i (0,0,[],[],false,[],())=w.2.2.2.2.2.2.2.1[i]:=Ns Du;simp only[AOJ c1,AOJ c1.2,AO2,hg];rw[AH (by omega) (by omega),show((i:Int)+1)=((i+1:Nat):Int)by omega,T5 (w.2.2.2.2.2.2.2.1[i]),show(w.1,w.2.1,())=Ae w from rfl,jX (c:=Ae w) (by show w.1.length<=_;omega) (by omega) hm.zF];simp only[AD,iB];rw[show((CO (Ae w) w.2.2.2.2.2.2.2.1[i] n).1.1,(CO (Ae w) w.2.2.2.2.2.2.2.1[i] n).1.2.1,(CO (Ae w) w.2.2.2.2.2.2.2.1[i] n).1.2.2.1,(CO (Ae w) w.2.2.2.2.2.2.2.1[i] n).1.2.2.2.1,(CO (Ae w) w.2.2.2.2.2.2.2.1[i] n).1.2.2.2.2.1,(CO (Ae w) w.2.2.2.2.2.2.2.1[i] n).1.2.2.2.2.2.1,())=(CO (Ae w) w.2.2.2.2.2.2.2.1[i] n).1 from rfl,Q7 Du rfl];grind
  ·have:i=w.2.2.2.2.2.2.2.1.length:=by omega
   rw[AOK (by omega),this,AWl,AQO,AVU (by simp),show(w.1,w.2.1,())=Ae w from rfl,Gq (by show w.1.length<=_;omega) (by omega)];simp only[AD];cases ht:w.2.2.2.2.2.2.2.2.2.2.1 with
   |true=>
    have ht':w.GP=true:=ht;rw[ht'];rfl
   |false=>
    have ht':w.GP=false:=ht;rw[ht'];rfl
theorem AMr{n:Int}{ss:List AO}{ls:AAB}(hls:ls.length<=2^20):∀(f i:Nat),i<=w.2.2.2.2.2.2.1.length->(w.2.2.2.2.2.2.1.length-i)+w.2.2.2.2.2.2.2.1.length+2<=f->
  Hl f n w.2.2.2.2.2.2.1.length i w.2.1 w.2.2.2.2.2.1 w.2.2.2.2.2.2.2.2.2.2.1 w.1 ss w.2.2.2.1 w.2.2.2.2.1 ((w.2.2.2.2.2.2.1.map fun x=>(CT (Ae w) x n).1).take i++w.2.2.2.2.2.2.1.drop i) w.2.2.2.2.2.2.2.1 w.2.2.2.2.2.2.2.2.1 w.2.2.2.2.2.2.2.2.2.1 ls=
   some (AL_ (((((w.CV ss).Fb ls).Bl (w.2.2.2.2.2.2.1.map fun x=>(CT (Ae w) x n).1)).Cy (w.2.2.2.2.2.2.2.1.map fun m=>(CO (Ae w) m n).1)).Fj (w.GP||holds (Ae w) ls),0)):=by
 have k:=h.nums;have k1:=k.c;have k6:=k.wr;intro f
 induction f with
 |zero=>omega
 |succ f ih=>
  intro i hi hn;have hlen:=QN (f:=fun x:AR=>(CT (Ae w) x n).1) hi;simp only[Hl,UW,AB,BB,hlen];by_cases Du:i<w.2.2.2.2.2.2.1.length
  ·have c1:(0:Int)<=(i:Int)/\(i:Int)<(w.2.2.2.2.2.2.1.length:Int):=by omega
   have hm:=(h.AQ _ (AO7 Du)).1;have hmw:=hm.w;have hg:((w.2.2.2.2.2.2.1.map fun x=>(CT (Ae w) x n).1).take i++w.2.2.2.2.2.2.1.drop i).getD i (0,[],())=w.2.2.2.2.2.2.1[i]:=Ns Du;simp only[AOJ c1,AOJ c1.2,AO2,hg];rw[AH (by omega) (by omega),show((i:Int)+1)=((i+1:Nat):Int)by omega,show(w.2.2.2.2.2.2.1[i].1,w.2.2.2.2.2.2.1[i].2.1,())=w.2.2.2.2.2.2.1[i]from rfl,show(w.1,w.2.1,())=Ae w from rfl,eo (c:=Ae w) (by show w.1.length<=_;omega) (by have:Aq w.2.2.2.2.2.2.1[i]=AS Az w.2.2.2.2.2.2.1[i].2.1:=rfl;omega)];simp only[AD,pkW];rw[show((CT (Ae w) w.2.2.2.2.2.2.1[i] n).1.1,(CT (Ae w) w.2.2.2.2.2.2.1[i] n).1.2.1,())=(CT (Ae w) w.2.2.2.2.2.2.1[i] n).1 from rfl,Q7 Du rfl];grind
  ·have:i=w.2.2.2.2.2.2.1.length:=by omega
   have k12:=AGg h (n:=n) (ss:=ss) (ws:=w.2.2.2.2.2.2.1.map fun x=>(CT (Ae w) x n).1) hls f 0 (by omega) (by omega);grind
theorem jr{n:Int}:RF n w.2.1 w.2.2.2.2.2.1 w.2.2.2.2.2.2.2.2.2.2.1 w.1 w.2.2.1 w.2.2.2.1 w.2.2.2.2.1 w.2.2.2.2.2.2.1 w.2.2.2.2.2.2.2.1 w.2.2.2.2.2.2.2.2.1 w.2.2.2.2.2.2.2.2.2.1=some (AL_ (NR w n)):=by
 have k:=h.nums;have k1:=k.c;have k2:=k.wr;have k3:=k.lost;have k4:=k.st;have cw:=k.ja;have jz:=k.KY;have lu:=k.jw;have k5:=k.era;have k7:=k.cS;have k6:=k.md;unfold RF UB NR;rw[Gk w,MV (by omega) (by omega)];simp only[AD,C6];by_cases h3:Ay w n=0
 rotate_left
 ·rw[AOK h3,AOJ h3];rfl
 obtain⟨hr,s1,s2,s3⟩:=h.MS h3;rw[AOJ h3,AOK (show¬(Ay w n≠0)from fun hh=>hh h3),AOJ hr,P1 (FA.1 h.lost).2.2 (by omega)];simp only[AD];have hp:=Tj (n:=n) (l:=w.2.2.2.1);have:=AMr h (n:=n) (ss:=w.2.2.1.set n.toNat ([],[],0,())) (ls:=OH n w.2.2.2.1) (by omega) AZ 0 (by omega) (AW6 (Ac (by omega)));simp_all
theorem nJ{d:Ao}(Kx:dX w)(h64:CB d.2.1)(hd:d.2.2.2.2.1.length<=40)(hk:1<=d.1/\d.1<=16):VH d w.2.1 w.2.2.2.2.2.1 w.2.2.2.2.2.2.2.2.2.2.1 w.1 w.2.2.1 w.2.2.2.1 w.2.2.2.2.1 w.2.2.2.2.2.2.1 w.2.2.2.2.2.2.2.1 w.2.2.2.2.2.2.2.2.1 w.2.2.2.2.2.2.2.2.2.1=some (AEy (K9 false w d)):=by
 have k:=h.nums;have k1:=k.c;have k2:=k.wr;have k3:=k.lost;have k4:=k.st;have cw:=k.ja;have jz:=k.KY;have lu:=k.jw;have k5:=k.era;have k7:=k.cS;unfold VH K9;rw[zy d];simp only[Dh];by_cases c1:d.1=1
 ·rw[AOJ c1,AOJ c1,jV h];rfl
 rw[AOK c1,AOK c1];by_cases c2:d.1=2
 ·rw[AOJ c2,AOJ c2,kF h hd];rfl
 rw[AOK c2,AOK c2];by_cases c3:d.1=3
 ·rw[AOJ c3,AOJ c3,ga h];rfl
 rw[AOK c3,AOK c3];by_cases c4:d.1=4
 ·rw[AOJ c4,AOJ c4,ij h];rfl
 rw[AOK c4,AOK c4];by_cases c5:d.1=5
 ·rw[AOJ c5,AOJ c5,gb h];rfl
 rw[AOK c5,AOK c5];by_cases c6:d.1=6
 ·rw[AOJ c6,AOJ c6,jr h];rfl
 rw[AOK c6,AOK c6];by_cases c7:d.1=7
 ·rw[AOJ c7,AOJ c7,jm h];rfl
 rw[AOK c7,AOK c7];by_cases c8:d.1=8
 ·rw[AOJ c8,AOJ c8,jt h];rfl
 rw[AOK c8,AOK c8];by_cases c9:d.1=9
 ·rw[AOJ c9,AOJ c9,jP h];rfl
 rw[AOK c9,AOK c9];by_cases c10:d.1=10
 ·rw[AOJ c10,AOJ c10,jY h];rfl
 rw[AOK c10,AOK c10];by_cases c11:d.1=11
 ·rw[AOJ c11,AOJ c11,j5 h];rfl
 rw[AOK c11,AOK c11];by_cases c12:d.1=12
 ·rw[AOJ c12,AOJ c12,gz h];rfl
 rw[AOK c12,AOK c12];by_cases c13:d.1=13
 ·rw[AOJ c13,AOJ c13,show(w.1,w.2.1,())=Ae w from rfl,show(w.2.2.2.2.1,w.2.2.2.2.2.1,())=CQ w from rfl,pH (c:=Ae w) (r:=CQ w) (by show w.1.length<=_;omega) (by show AS Bk w.2.2.2.2.1<=_;omega) k.trim h64]
  simp only[AD,pkR,P2];unfold PB;dsimp only;rcases AOB (Oh (Ae w) (CQ w) d.2.1).2 with hq|hq
  ·rw[hq,GK];rfl
  ·have e:(Oh (Ae w) (CQ w) d.2.1).1=CQ w:=by
    unfold Oh at hq|-;rw[Ke.2 h.jx]at hq|-;grind
   rw[hq,e,JA];rfl
 rw[AOK c13,AOK c13];by_cases c14:d.1=14
 ·rw[AOJ c14,AOJ c14,iZ h Kx];rfl
 rw[AOK c14,AOK c14];by_cases c16:d.1=16
 ·rw[AOJ c16,AOK (show¬d.1=15 by omega),gd h];rfl
 rw[AOK c16,AOJ (show d.1=15 by omega),AH (x:=(w.2.2.2.2.2.2.1.length:Int)-1) (by omega) (by omega),A_];simp only[AD,BB];unfold OQ;rw[show Bd d.2.1 0 ((w.2.2.2.2.2.2.1.length:Int)-1)=Bd d.2.1 0 ((w.AQ.length:Int)-1)from rfl];rcases AOB (Bd d.2.1 0 ((w.AQ.length:Int)-1))with h1|h1
 rotate_left
 ·rw[h1,JA];rfl
 obtain⟨x1,x2,x3⟩:=h.fo h1;rw[h1,APm,GK,AH (x:=d.2.1+1) (by omega) (by omega)];unfold FT AG_;rw[AOJ (by omega)];simp only[Option.map_some,AD];rw[show(d.2.1+1).toNat=d.2.1.toNat+1 by omega,<-List.eraseIdx_eq_take_drop_succ];rfl
theorem mv{d:Ao}(Kx:dX w)(h64:CB d.2.1):QG w d=some (gT (BJ false w d)):=by
 unfold QG BJ;rw[Gk w,zy d,Iy Kx,qQ,Oq Kx];simp only[AD,BB,C6];rw[Co.2 h];rcases AOB (OP d)with hd|hd
 rotate_left
 ·rw[hd];rfl
 have hk:1<=d.1/\d.1<=16:=by
  unfold OP at hd;exact As.1 (AOw _ _▸hd).1
 rw[hd,APm,APm,nJ h Kx h64 (iz hd) hk];simp only[AD,AOx,AZ2,AO5,ATF];by_cases hc:(K9 false w d).2=0
 ·rw[AOJ (show(AEy (K9 false w d)).1.1=0 from hc)]
  generalize hg:K9 false w d=q at hc|-
  obtain⟨v,co⟩:=q;dsimp only at hc;subst hc;rfl
 ·rw[AOK (show¬(AEy (K9 false w d)).1.1=0 from hc)]
  have:=w5 hc;rw[show K9 false w d=(w,(K9 false w d).2)by grind];rfl
end
theorem dq{w:AA}{d:Ao}(Kx:dX w)(h64:CB d.2.1):QG w d=some (gT (BJ false w d)):=by
 rcases AOB (Cq w)with hw|hw
 ·grind[mv,Co]
 ·unfold QG BJ
  rw[Gk w,Iy Kx,hw];rfl
def bare(se:List Af):List (Int×List UInt8):=se.map fun s=>(s.1,s.2.1)
def XL(se:List Af)(q:Yl):Yl:=(q.1.Ax se,q.2)
section
variable{w:AA} {se:List Af}
theorem ABr{a:Int}:M9 (w.Ax se) a=XL se (M9 w a):=by
 unfold M9;simp only[AYf (XL se)];rfl
theorem AB5{n:Int}:NR (w.Ax se) n=XL se (NR w n):=by
 unfold NR;simp only[AYf (XL se)];rfl
theorem AB7{n:Int}:NT (w.Ax se) n=XL se (NT w n):=by
 unfold NT;simp only[AYf (XL se)];rfl
theorem ABQ:Jr (w.Ax se)=XL se (Jr w):=by
 unfold Jr;simp only[AYf (XL se)];rfl
theorem ABw{a:Int}:PB (w.Ax se) a=XL se (PB w a):=by
 unfold PB;simp only[AYf (XL se)];rfl
theorem ABb{a k:Int}:IY (w.Ax se) a k=XL se (IY w a k):=by
 unfold IY;simp only[AYf (XL se)];rfl
theorem ABT{a:Int}:OQ (w.Ax se) a=XL se (OQ w a):=by
 unfold OQ;simp only[AYf (XL se)];rfl
theorem yJ{a b n:Int}:JL (w.Ax se) a b n=XL se (JL w a b n):=by
 unfold JL putAt;simp only[AYf (XL se)];rfl
theorem yH{n k:Int}:JM (w.Ax se) n k=XL se (JM w n k):=by
 unfold JM putAt;simp only[AYf (XL se)];rfl
theorem xT{n:Int}:JI (w.Ax se) n=XL se (JI w n):=by
 unfold JI putAt;simp only[AYf (XL se)];rfl
theorem ABM{n:Int}:La (w.Ax se) n=XL se (La w n):=by
 obtain⟨c,k,st,lo,er,tr,wr,md,rd,s0,tn,u⟩:=w;unfold La;cases md with
 |nil=>rfl
 |cons m ms=>
  dsimp only;simp only[AYf (XL se)];rfl
theorem ABG:Jx (w.Ax se)=XL se (Jx w):=by
 obtain⟨c,k,st,lo,er,tr,wr,md,rd,s0,tn,u⟩:=w;unfold Jx;cases md with
 |nil=>rfl
 |cons m ms=>
  dsimp only;simp only[AYf (XL se)];rfl
theorem yW:Im (w.Ax se)=XL se (Im w):=by
 obtain⟨c,k,st,lo,er,tr,wr,md,rd,s0,tn,u⟩:=w;unfold Im;cases md with
 |nil=>rfl
 |cons m ms=>
  dsimp only;simp only[AYf (XL se)];rfl
theorem AFY{b n:Int}:Q2 (w.Ax se) b n=XL se (Q2 w b n):=by
 obtain⟨c,k,st,lo,er,tr,wr,md,rd,s0,tn,u⟩:=w;unfold Q2 putAt;cases md with
 |nil=>rfl
 |cons m ms=>
  dsimp only;cases Ec m b with
  |none=>rfl
  |some e=>
   dsimp only;simp only[AYf (XL se)];rfl
end
theorem AGr{l m:List Af}(h:bare l=bare m)(p:Int):(l.any fun s=>s.1==p)=m.any fun s=>s.1==p:=by
 have e:∀l:List Af,(l.any fun s=>s.1==p)=(bare l).any fun s=>s.1==p:=fun l=>by
  grind[bare,List.any_map]
 simp_all
theorem x_{l m:List Af}(h:bare l=bare m):l.length=m.length:=by
 have:=congrArg List.length h;grind[bare]
theorem yY{p:Int}{d:ACH}{b:Bool}:∀{l m:List Af},bare l=bare m->bare (af (p,d,b,()) l)=bare (af (p,d,b,()) m)
 |[],[],_=>rfl
 |[],_::_,h=>by simp[bare]at h
 |_::_,[],h=>by simp[bare]at h
 |x::l,y::m,h=>by
  simp only[bare,AW2,ATj,AUW]at h;obtain⟨⟨h1,h2⟩,h3⟩:=h;have h3':bare l=bare m:=h3;simp only[af,h1];split
  ·grind[bare]
  ·have:=yY (p:=p) (d:=d) (b:=b) h3'
   grind[bare]
theorem AS6{w:AA}{se:List Af}(h:bare se=bare w.Ai){a:Int}{d:ACH}:∃dH,bare dH=bare (doAdd w a d).1.Ai/\doAdd (w.Ax se) a d=XL dH (doAdd w a d):=by
 have e1:doAdd (w.Ax se) a d=if(!Bd a 0 ((w.AQ.length:Int)-1))=true then(w.Ax se,2)else
   if(!(CD (Ae w) (w.AQ.getD a.toNat B3) d).2.2||(decide (se.length=120)||se.any fun s=>s.1==HN (w.AQ.getD a.toNat B3).1 (CD (Ae w) (w.AQ.getD a.toNat B3) d).2.1))=true then(w.Ax se,4)else
   (((w.Ax se).Bl (w.AQ.set a.toNat (CD (Ae w) (w.AQ.getD a.toNat B3) d).1)).Ax (af (HN (w.AQ.getD a.toNat B3).1 (CD (Ae w) (w.AQ.getD a.toNat B3) d).2.1,d,false,()) se),0):=rfl
 rw[e1,AGr h,x_ h];unfold doAdd;dsimp only;split
 ·exact⟨se,h,rfl⟩
 split
 ·exact⟨se,h,rfl⟩
 ·exact⟨_,yY h,rfl⟩
theorem ADB{all:Bool}{ep:Int}{old new:List BD}{l:List Af}:bare (l.map (QZ all ep old new))=bare l:=by
 unfold bare;rw[AXP];rfl
theorem nI{a b:Bool}{c:CG}{s:AO}{l:List CW}{n:Int}:∀{ws:List AR} {x y:List Af},bare x=bare y->(EV a c s l n ws x).1=(EV b c s l n ws y).1/\bare (EV a c s l n ws x).2=bare (EV b c s l n ws y).2
 |[],x,y,h=>⟨rfl,h⟩
 |w::ws,x,y,h=>by
  simp only[EV];split
  ·have:=nI (a:=a) (b:=b) (c:=c) (s:=s) (l:=l) (n:=n) (ws:=ws) (x:=x.map (QZ a w.1 w.2.1 (Bu c s w.1 n 1 w.2.1))) (y:=y.map (QZ b w.1 w.2.1 (Bu c s w.1 n 1 w.2.1))) (by grind[ADB])
   simp_all
  ·have:=nI (a:=a) (b:=b) (c:=c) (s:=s) (l:=l) (n:=n) (ws:=ws) h
   simp_all
theorem AKb{a b:Bool}{w:AA}{se:List Af}(h:bare se=bare w.Ai){n:Int}:∃dH,bare dH=bare (Mr b w n).1.Ai/\Mr a (w.Ax se) n=XL dH (Mr b w n):=by
 have e1:Mr a (w.Ax se) n=if Ay w n≠0 then(w.Ax se,Ay w n)else if(!(CI (storeAt w n)).2)=true then(w.Ax se,4)else
   (((((w.Ax se).CV (w.BX.set n.toNat (CI (storeAt w n)).1)).Bl (EV a (Ae w) (CI (storeAt w n)).1 w.Am n w.AQ se).1).Ax (EV a (Ae w) (CI (storeAt w n)).1 w.Am n w.AQ se).2).Cy (w.An.map (Mt (CI (storeAt w n)).1 w.Am n)),0):=rfl
 have ht:=nI (a:=a) (b:=b) (c:=Ae w) (s:=(CI (storeAt w n)).1) (l:=w.Am) (n:=n) (ws:=w.AQ) h;rw[e1,ht.1];unfold Mr;dsimp only;split
 ·exact⟨se,h,rfl⟩
 split
 ·exact⟨se,h,rfl⟩
 ·exact⟨_,ht.2,rfl⟩
theorem LG{f:Yl}{se:List Af}(h:f=XL se f):f.1.Ai=se:=by rw[h];rfl
section
variable{w:AA}
theorem AJ9{a:Int}:(M9 w a).1.Ai=w.Ai:=LG (show M9 w a=XL w.Ai (M9 w a)from ABr (w:=w) (se:=w.Ai))
theorem AHT{a b n:Int}:(JL w a b n).1.Ai=w.Ai:=LG (show JL w a b n=XL w.Ai (JL w a b n)from yJ (w:=w) (se:=w.Ai))
theorem AGC{n k:Int}:(JM w n k).1.Ai=w.Ai:=LG (show JM w n k=XL w.Ai (JM w n k)from yH (w:=w) (se:=w.Ai))
theorem AI0{n:Int}:(NR w n).1.Ai=w.Ai:=LG (show NR w n=XL w.Ai (NR w n)from AB5 (w:=w) (se:=w.Ai))
theorem AJQ{n:Int}:(NT w n).1.Ai=w.Ai:=LG (show NT w n=XL w.Ai (NT w n)from AB7 (w:=w) (se:=w.Ai))
theorem AMT:(Jr w).1.Ai=w.Ai:=LG (show Jr w=XL w.Ai (Jr w)from ABQ (w:=w) (se:=w.Ai))
theorem AMz{n:Int}:(La w n).1.Ai=w.Ai:=LG (show La w n=XL w.Ai (La w n)from ABM (w:=w) (se:=w.Ai))
theorem AKV:(Jx w).1.Ai=w.Ai:=LG (show Jx w=XL w.Ai (Jx w)from ABG (w:=w) (se:=w.Ai))
theorem ARr{b n:Int}:(Q2 w b n).1.Ai=w.Ai:=LG (show Q2 w b n=XL w.Ai (Q2 w b n)from AFY (w:=w) (se:=w.Ai))
theorem AHc:(Im w).1.Ai=w.Ai:=LG (show Im w=XL w.Ai (Im w)from yW (w:=w) (se:=w.Ai))
theorem AKG{a:Int}:(PB w a).1.Ai=w.Ai:=LG (show PB w a=XL w.Ai (PB w a)from ABw (w:=w) (se:=w.Ai))
theorem AJn{a k:Int}:(IY w a k).1.Ai=w.Ai:=LG (show IY w a k=XL w.Ai (IY w a k)from ABb (w:=w) (se:=w.Ai))
theorem AH8{a:Int}:(OQ w a).1.Ai=w.Ai:=LG (show OQ w a=XL w.Ai (OQ w a)from ABT (w:=w) (se:=w.Ai))
theorem AFB{n:Int}:(JI w n).1.Ai=w.Ai:=LG (show JI w n=XL w.Ai (JI w n)from xT (w:=w) (se:=w.Ai))
end
theorem AKw{a b:Bool}{w:AA}{se:List Af}(h:bare se=bare w.Ai){d:Ao}:∃dH,bare dH=bare (K9 b w d).1.Ai/\K9 a (w.Ax se) d=XL dH (K9 b w d):=by
 unfold K9;by_cases c1:d.1=1
 ·rw[AOJ c1,AOJ c1]
  exact⟨se,h.trans (congrArg bare AJ9.symm),ABr⟩
 rw[AOK c1,AOK c1];by_cases c2:d.1=2
 ·rw[AOJ c2,AOJ c2]
  exact AS6 h
 rw[AOK c2,AOK c2];by_cases c3:d.1=3
 ·rw[AOJ c3,AOJ c3]
  exact⟨se,h.trans (congrArg bare AHT.symm),yJ⟩
 rw[AOK c3,AOK c3];by_cases c4:d.1=4
 ·rw[AOJ c4,AOJ c4]
  exact AKb h
 rw[AOK c4,AOK c4];by_cases c5:d.1=5
 ·rw[AOJ c5,AOJ c5]
  exact⟨se,h.trans (congrArg bare AGC.symm),yH⟩
 rw[AOK c5,AOK c5];by_cases c6:d.1=6
 ·rw[AOJ c6,AOJ c6]
  exact⟨se,h.trans (congrArg bare AI0.symm),AB5⟩
 rw[AOK c6,AOK c6];by_cases c7:d.1=7
 ·rw[AOJ c7,AOJ c7]
  exact⟨se,h.trans (congrArg bare AJQ.symm),AB7⟩
 rw[AOK c7,AOK c7];by_cases c8:d.1=8
 ·rw[AOJ c8,AOJ c8]
  exact⟨se,h.trans (congrArg bare AMT.symm),ABQ⟩
 rw[AOK c8,AOK c8];by_cases c9:d.1=9
 ·rw[AOJ c9,AOJ c9]
  exact⟨se,h.trans (congrArg bare AMz.symm),ABM⟩
 rw[AOK c9,AOK c9];by_cases c10:d.1=10
 ·rw[AOJ c10,AOJ c10]
  exact⟨se,h.trans (congrArg bare AKV.symm),ABG⟩
 rw[AOK c10,AOK c10];by_cases c11:d.1=11
 ·rw[AOJ c11,AOJ c11]
  exact⟨se,h.trans (congrArg bare ARr.symm),AFY⟩
 rw[AOK c11,AOK c11];by_cases c12:d.1=12
 ·rw[AOJ c12,AOJ c12]
  exact⟨se,h.trans (congrArg bare AHc.symm),yW⟩
 rw[AOK c12,AOK c12];by_cases c13:d.1=13
 ·rw[AOJ c13,AOJ c13]
  exact⟨se,h.trans (congrArg bare AKG.symm),ABw⟩
 rw[AOK c13,AOK c13];by_cases c14:d.1=14
 ·rw[AOJ c14,AOJ c14]
  exact⟨se,h.trans (congrArg bare AJn.symm),ABb⟩
 rw[AOK c14,AOK c14];by_cases c15:d.1=15
 ·rw[AOJ c15,AOJ c15]
  exact⟨se,h.trans (congrArg bare AH8.symm),ABT⟩
 rw[AOK c15,AOK c15];exact⟨se,h.trans (congrArg bare AFB.symm),xT⟩
theorem AG3{l m:List Af}(h:bare l=bare m){s:Af}(hs:s∈l):∃t∈m,t.1=s.1/\t.2.1=s.2.1:=by
 have h1:(s.1,s.2.1)∈bare m:=by rw[<-h];exact AVh.2 ⟨s,hs,rfl⟩
 obtain⟨t,ht,e⟩:=AVh.1 h1;grind
theorem AF8{l m:List Af}(h:bare l=bare m)(ha:WD (fun s:Af=>s.1) l):WD (fun s:Af=>s.1) m:=by
 have e:∀l:List Af,WD (fun s:Af=>s.1) l↔(bare l).Pairwise fun x y=>x.1<y.1:=fun l=>by
  unfold bare WD;rw[AZg]
 simp_all
theorem KU.Ax{w:AA}{se:List Af}(hw:KU w)(h:bare se=bare w.Ai):KU (w.Ax se) where
 cfg:=hw.cfg
 sn:=hw.sn
 lost:=hw.lost
 GP:=hw.GP
 BX:=hw.BX
 jx:=hw.jx
 tK:=hw.tK
 xO:=hw.xO
 AQ:=hw.AQ
 gg:=hw.gg
 An:=hw.An
 sg:=hw.sg
 AX:=hw.AX
 SF:=by
  have:=hw.SF;grind[x_]
 Ai:=fun s hs=>by
  obtain⟨t,ht,e1,e2⟩:=AG3 h (show s∈se from hs);have:=hw.Ai t ht;simp_all
 an:=AF8 h.symm hw.an
theorem AAn{w:AA}{se:List Af}(h:bare se=bare w.Ai):Cq (w.Ax se)=Cq w:=by
 rw[AZ7,Co,Co];refine⟨fun hw=> ?_,fun hw=>hw.Ax h⟩;exact hw.Ax (se:=w.Ai) h.symm
theorem zT{a b:Bool}{w:AA}{se:List Af}(h:bare se=bare w.Ai){d:Ao}:∃dH,bare dH=bare (BJ b w d).1.Ai/\BJ a (w.Ax se) d=XL dH (BJ b w d):=by
 unfold BJ;rw[AAn h];by_cases hc:(!Cq w|| !OP d)=true
 ·rw[AOJ hc,AOJ hc]
  exact⟨[],rfl,rfl⟩
 ·rw[AOK hc,AOK hc]
  exact AKw h
structure Up (w v:AA):Prop where
 rd:∀k,k<2->HN (w.AX.getD k ER).1 (w.AX.getD k ER).2.1<=HN (v.AX.getD k ER).1 (v.AX.getD k ER).2.1/\(w.AX.getD k ER).2.2.1.length<=(v.AX.getD k ER).2.2.1.length
 er:w.Am.length<=v.Am.length/\ ∀i,i<w.Am.length->(w.Am.getD i GB).2.1=true->(v.Am.getD i GB).2.1=true/\(v.Am.getD i GB).2.2.1=(w.Am.getD i GB).2.2.1
 GP:w.GP=true->v.GP=true
 se:w.Ai.length<=v.Ai.length
theorem Up.of{w v:AA}(h1:v.AX=w.AX)(h2:v.Am=w.Am)(h3:w.GP=true->v.GP=true)(h4:w.Ai.length<=v.Ai.length):Up w v:=
 ⟨fun k _=>by simp_all,by simp_all,h3,h4⟩
section
variable{w:AA} (hw:KU w)
end
structure Xw (w:AA) (q:Yl):Prop where
 code:q.2≠1
 keep:q.2≠0->q.1=w
 rd:q.1.AX=w.AX
theorem Xw.no{w:AA}{k:Int}(h:k≠1):Xw w (w,k):=⟨h,fun _=>rfl,rfl⟩
theorem Xw.yes{w v:AA}(h:v.AX=w.AX):Xw w (v,0):=⟨by simp,fun h=>absurd rfl h,h⟩
section
variable{w:AA}
theorem PU{n:Int}:Ay w n≠1:=by
 unfold Ay;split
 ·decide
 ·split<;>decide
theorem gW{n:Int}{q:AO×Bool}:Xw w (putAt w n q):=by
 unfold putAt;split
 ·exact .yes rfl
 ·exact .no (by decide)
theorem AFR{a:Int}:Xw w (M9 w a):=by
 unfold M9;split
 ·exact .no (by decide)
 dsimp only;split
 ·exact .no (by decide)
 ·exact .yes rfl
theorem AJx{a:Int}{d:ACH}:Xw w (doAdd w a d):=by
 unfold doAdd;split
 ·exact .no (by decide)
 dsimp only;split
 ·exact .no (by decide)
 ·exact .yes rfl
theorem AD2{a b n:Int}:Xw w (JL w a b n):=by
 unfold JL;split
 ·exact .no (by decide)
 dsimp only;split
 ·exact .no (by decide)
 split
 ·exact .no PU
 split
 ·exact .no (by decide)
 ·exact gW
theorem AGf{all:Bool}{n:Int}:Xw w (Mr all w n):=by
 unfold Mr;split
 ·exact .no PU
 dsimp only;split
 ·exact .no (by decide)
 ·exact .yes rfl
theorem ADy{n k:Int}:Xw w (JM w n k):=by
 unfold JM;split
 ·exact .no PU
 ·exact gW
theorem AFm{n:Int}:Xw w (NR w n):=by
 unfold NR;split
 ·exact .no PU
 ·exact .yes rfl
theorem AFn{n:Int}:Xw w (NT w n):=by
 unfold NT;split
 ·exact .no (by decide)
 dsimp only;split
 ·exact .no (by decide)
 ·exact .yes rfl
theorem AGX:Xw w (Jr w):=by
 unfold Jr;split
 ·exact .no (by decide)
 split
 ·exact .no (by decide)
 ·exact .yes rfl
theorem AGV{n:Int}:Xw w (La w n):=by
 unfold La;split
 ·exact .no (by decide)
 split
 ·exact .no PU
 split
 ·exact .no (by decide)
 dsimp only;split
 ·exact .no (by decide)
 ·exact .yes rfl
theorem AHF:Xw w (Jx w):=by
 unfold Jx;split
 ·exact .no (by decide)
 dsimp only;split
 ·exact .no (by decide)
 ·exact .yes rfl
theorem AMo{b n:Int}:Xw w (Q2 w b n):=by
 unfold Q2;split
 ·exact .no (by decide)
 split
 ·exact .no (by decide)
 split
 ·exact .no PU
 split
 ·exact .no (by decide)
 ·exact gW
theorem AD3:Xw w (Im w):=by
 unfold Im;split
 ·exact .no (by decide)
 split
 ·exact .no (by decide)
 dsimp only;split
 ·exact .no (by decide)
 ·exact .yes rfl
theorem AHX{a:Int}:Xw w (PB w a):=by
 unfold PB;dsimp only;split
 ·exact .no (by decide)
 ·exact .yes rfl
theorem AF9{a:Int}:Xw w (OQ w a):=by
 unfold OQ;split
 ·exact .no (by decide)
 ·exact .yes rfl
theorem AC2{n:Int}:Xw w (JI w n):=by
 unfold JI;split
 ·exact .no PU
 ·exact gW
theorem AG8{all:Bool}{d:Ao}(h:d.1≠14):Xw w (K9 all w d):=by
 unfold K9;by_cases c1:d.1=1
 ·rw[AOJ c1];exact AFR
 rw[AOK c1];by_cases c2:d.1=2
 ·rw[AOJ c2];exact AJx
 rw[AOK c2];by_cases c3:d.1=3
 ·rw[AOJ c3];exact AD2
 rw[AOK c3];by_cases c4:d.1=4
 ·rw[AOJ c4];exact AGf
 rw[AOK c4];by_cases c5:d.1=5
 ·rw[AOJ c5];exact ADy
 rw[AOK c5];by_cases c6:d.1=6
 ·rw[AOJ c6];exact AFm
 rw[AOK c6];by_cases c7:d.1=7
 ·rw[AOJ c7];exact AFn
 rw[AOK c7];by_cases c8:d.1=8
 ·rw[AOJ c8];exact AGX
 rw[AOK c8];by_cases c9:d.1=9
 ·rw[AOJ c9];exact AGV
 rw[AOK c9];by_cases c10:d.1=10
 ·rw[AOJ c10];exact AHF
 rw[AOK c10];by_cases c11:d.1=11
 ·rw[AOJ c11];exact AMo
 rw[AOK c11];by_cases c12:d.1=12
 ·rw[AOJ c12];exact AD3
 rw[AOK c12];by_cases c13:d.1=13
 ·rw[AOJ c13];exact AHX
 rw[AOK c13,AOK h];by_cases c15:d.1=15
 ·rw[AOJ c15];exact AF9
 rw[AOK c15];exact AC2
theorem AJ2{all:Bool}{d:Ao}(h:d.1=14):K9 all w d=IY w d.2.1 d.2.2.1:=by
 unfold K9;rw[h];simp
theorem AM9(hw:KU w){all:Bool}{d:Ao}(e:(K9 all w d).2=0):AS Ak (K9 all w d).1.AX<=AS Ak w.AX+41:=by
 by_cases h:d.1=14
 ·rw[AJ2 h]at e|-
  exact(xR hw e).2.2.2.2.2
 ·rw[(AG8 h).rd];omega
end
section
variable{code:AAB} (hc:code.length<=2^30)
include hc
end
theorem Yr{w:AA}{d:Ao}{all:Bool}(hw:KU w)(h0:(BJ all w d).2=0):AS Ak (BJ all w d).1.AX<=AS Ak w.AX+41:=by
 have:BJ all w d=K9 all w d:=by
  revert h0
  unfold BJ;cases Cq w<;>cases OP d<;>simp
 rw[this]at h0|-;exact AM9 hw h0
end Go.M
end
section
namespace Go.Sf
abbrev Txt:=List UInt8
structure uy where
 at_:Int
 gx:Int
 hole:Bool
 data:Txt
structure Wd where
 data:Txt
 ack:Int->Prop
 done:Prop
structure Md where
 ep:Int
 zx:Int->Prop
 seen:Int->Option uy
 pl:Prop
 n:Int
 wrote:Int->Int->Prop
structure St where
 len:Int
 nodes:Int->Int->Prop
 cl:Int->Prop
 last:Int->Int
 trim:Int
 lost:Int->Prop
 GP:Prop
 kept:Int->Int->Option uy
 late:Int->uy->Prop
 sl:Int->Int
 wrE:Int->Prop
 wd:Int->Option Wd
 md:Option Md
 aj:Int->Option (Txt×Prop)
section
variable(H:(Int->Prop)->Prop) (ep off:Int->Int) (Pl:Int->Prop)
def AWh(len:Int)(m:Md)(p:Int):uy:=
 match m.seen p with
 |some x=>⟨p,len,x.hole,x.data⟩
 |none=>⟨p,len,true,[]⟩
def zN(s:St)(x:uy):Prop:=(∃n,s.kept n x.at_=some x)\/(∃n,s.late n x)\/(∃m,s.md=some m/\m.seen x.at_=some x)
def ARp(s:St)(p n:Int):Prop:= ∃w,s.wd p=some w/\w.ack n
def AFK(s:St)(p:Int):Prop:= ∃d q,s.aj p=some (d,q)/\q
def ub(s:St)(p:Int):Prop:= ¬AFK s p/\ep p<s.len/\(s.wrE (ep p)-> ¬H (fun n=>s.nodes (ep p) n/\(¬(s.lost n\/ep p<=s.sl n)\/ARp s p n)))
def Have(s:St)(p n:Int):Prop:=(∃x,s.kept n p=some x)\/s.lost n
structure AB9 (s:St):Prop where
 Aax:0<=s.len
 Adj:∀e,1<=e->e<=s.len->H (s.nodes e)
 Agj:∀e,s.cl e->1<=e/\e<s.len
 AcK:∀e f,s.cl e->1<=f->f<e->s.cl f
 md1:∀m,s.md=some m->1<=m.ep/\m.ep<s.len/\ ¬s.cl m.ep/\ ∀e,1<=e->e<m.ep->s.cl e
 wr1:∀e,s.wrE e->1<=e/\e<=s.len
 wd1:∀p w,s.wd p=some w->Pl p/\s.wrE (ep p)/\(∃q,s.aj p=some (w.data,q)/\(w.done->q))/\(w.done↔H w.ack)/\(∀n,w.ack n->s.nodes (ep p) n)
 AfK:∀p d,s.aj p=some d->Pl p/\ep p<=s.len
 AfE:∀n p x,s.kept n p=some x->x.at_=p
 Aey:∀m p x,s.md=some m->m.seen p=some x->x.at_=p/\ep p=m.ep/\x.gx<s.len
 AgS:∀x,zN s x->Pl x.at_/\0<=x.gx/\x.gx<=s.len/\ep x.at_<=s.len/\(0<x.gx->ep x.at_<x.gx)/\(x.gx=0->x.hole=false)/\(x.hole=true->x.data=[])
 AhJ:∀x,zN s x->x.hole=false-> ∃q,s.aj x.at_=some (x.data,q)
 AiO:∀x,zN s x->x.gx=s.len-> ¬s.cl (ep x.at_)-> ∃m,s.md=some m/\m.pl/\m.ep=ep x.at_/\x=AWh s.len m x.at_
 Agm:∀x y,zN s x->zN s y->x.at_=y.at_->x.gx=y.gx->x=y
structure AAz (s:St) (fin:Int->uy):Prop where
 Afp: ¬H s.lost
 sure:∀p,AFK s p->s.trim<p->H (fun n=>s.nodes (ep p) n/\Have s p n)/\ ∀m,s.md=some m->m.ep=ep p->(∃x,m.seen p=some x)\/H (fun n=>s.nodes (ep p) n/\ ¬m.zx n/\Have s p n)
 Adc:∀p w n,s.wd p=some w-> ¬w.done->w.ack n-> ¬s.lost n/\(s.trim<p->(∃x,s.kept n p=some x)/\ ∀m,s.md=some m->m.ep=ep p->m.zx n-> ∃x,m.seen p=some x)
 zx:∀m n,s.md=some m->m.zx n->s.lost n\/s.len-1<=s.sl n
 AfN:∀x,zN s x->x.hole=true->s.trim<x.at_->ub H ep s x.at_
 Ad6:∀m p,s.md=some m->m.pl->Pl p->ep p=m.ep->s.trim<p->m.seen p=none->ub H ep s p
 past:∀p,Pl p->s.cl (ep p)->s.last (ep p)<off p->s.trim<p->ub H ep s p
 wrote:∀m p n,s.md=some m->m.wrote p n->s.nodes m.ep n/\ ¬s.lost n/\m.pl/\(s.trim<p->s.kept n p=some (AWh s.len m p))
 Ael:∀m p x,s.md=some m->m.pl->m.seen p=some x->off p<=m.n
 closed:∀p,Pl p->s.cl (ep p)->off p<=s.last (ep p)->s.trim<p->(fin p).at_=p/\0<(fin p).gx/\(∀x,zN s x->x.at_=p->x.gx<=(fin p).gx/\(x.gx=(fin p).gx->x=fin p))/\
  H (fun n=>s.nodes (ep p) n/\(s.lost n\/s.kept n p=some (fin p)))
end
end Go.Sf
end
section
namespace Go.Sf
section
variable{H:(Int->Prop)->Prop} (hm:∀S T:Int->Prop,(∀n,S n->T n)->H S->H T) {ep off:Int->Int} {Pl:Int->Prop} {s:St} {fin:Int->uy}
def ABh(k k':Int->Option uy)(L:uy->Prop):Prop:=
 (∀p x,k p=some x-> ∃y,k' p=some y/\(y=x\/x.gx<y.gx))/\ ∀p y,k' p=some y->k p=some y\/(L y/\y.at_=p)
theorem ub.of{s s':St}{p:Int}(hn:ub H ep s p)(h1:AFK s' p->AFK s p)(h2:s.len<=s'.len)(h3:s'.wrE (ep p)->s.wrE (ep p))
  (h4:s'.wrE (ep p)-> ∀n,s'.nodes (ep p) n->(¬(s'.lost n\/ep p<=s'.sl n)\/ARp s' p n)->s.nodes (ep p) n/\(¬(s.lost n\/ep p<=s.sl n)\/ARp s p n))
  (hm:∀S T:Int->Prop,(∀n,S n->T n)->H S->H T):ub H ep s' p:=
 ⟨fun h=>hn.1 (h1 h),Int.lt_of_lt_of_le hn.2.1 h2,fun hw h=>hn.2.2 (h3 hw) (hm _ _ (fun n hq=>h4 hw n hq.1 hq.2) h)⟩
end
end Go.Sf
end
section
namespace Go.Sf
section
variable{H:(Int->Prop)->Prop} (hm:∀S T:Int->Prop,(∀n,S n->T n)->H S->H T) (h0: ¬H (fun _=>False)) {ep off:Int->Int} {Pl:Int->Prop} {s:St} {fin:Int->uy}
def St.add(s:St)(p:Int)(d:Txt):St:=
 { s with wd:=fun q=>if q=p then some ⟨d,fun _=>False,False⟩else s.wd q,aj:=fun q=>if q=p then some (d,False)else s.aj q }
end
end Go.Sf
end
section
namespace Go.Sf
section
variable{H:(Int->Prop)->Prop} (hm:∀S T:Int->Prop,(∀n,S n->T n)->H S->H T) {ep off:Int->Int} {Pl:Int->Prop} {s:St} {fin:Int->uy}
def St.Ad6(s:St)(m:Md)(L:Int):St:={ s with md:=some { m with pl:=True,n:=L } }
def St.drop(s:St)(ja:Int->Prop)(wd':Int->Option Wd):St:={ s with wrE:=ja,wd:=wd' }
end
end Go.Sf
end
section
namespace Go.Sf
structure Rd where
 e:Int
 o:Int
 told:Int->Option Txt
section
variable{H:(Int->Prop)->Prop} (hm:∀S T:Int->Prop,(∀n,S n->T n)->H S->H T) {ep off:Int->Int} {Pl:Int->Prop} {s:St} {fin:Int->uy}
def AEn(ep off:Int->Int)(r:Rd)(p:Int):Prop:=ep p<r.e\/(ep p=r.e/\off p<r.o)
structure ye (ep off:Int->Int) (Pl:Int->Prop) (s:St) (fin:Int->uy) (r:Rd):Prop where
 e1:1<=r.e
 left:∀p,Pl p->ep p<r.e->s.trim<p->s.cl (ep p)
 data:∀p,Pl p->AEn ep off r p->s.trim<p->
  (s.cl (ep p)->off p<=s.last (ep p)->r.told p=if(fin p).hole then none else some (fin p).data)/\
  (s.cl (ep p)->s.last (ep p)<off p->r.told p=none)/\
  (¬s.cl (ep p)-> ∃d q,s.aj p=some (d,q)/\q/\r.told p=some d)
 told:∀p d,r.told p=some d->AEn ep off r p
theorem ye.of{s':St}{r:Rd}(h:ye ep off Pl s fin r)(h1:s'.cl=s.cl)(h2:s'.last=s.last)(h3:s.trim<=s'.trim)
  (h4:∀p d q,s.aj p=some (d,q)->q-> ∃q',s'.aj p=some (d,q')/\q'):ye ep off Pl s' fin r:=by
 refine⟨h.e1,fun p a b c=> ?_,fun p a b c=> ?_,h.told⟩
 ·rw[h1];exact h.left p a b (by omega)
 ·obtain⟨b1,b2,b3⟩:=h.data p a b (by omega)
  grind
end
end Go.Sf
end
section
namespace Go.M
open Go.M.H (AJ AO Av Af AA CW AN BD AR Ag BU BA Ao)
open Go.Sf (uy Wd Md St Rd Txt ABh AB9 AAz ye)
def Pl(p:Int):Prop:=Bp p=true
def AXG(e:AJ):uy:=⟨e.1,e.2.1,e.2.2.1,e.2.2.2.1⟩
def kS(l:List AJ)(p:Int):Option uy:=(OO p l).map AXG
def AYb(l:List AJ)(x:uy):Prop:= ∃e∈l,AXG e=x
def wdS(x:BD):Wd:=⟨x.1,fun n=>n∈x.2.1,x.2.2.1=true⟩
def Ad0(ws:List AR)(e:Int):Option AR:=ws.find? fun x=>x.1==e
def AT_(ws:List AR)(p:Int):Option BD:=
 if Bp p then(Ad0 ws (Ar p)).bind fun x=>x.2.1[(DX p-1).toNat]? else none
def mdS(m:Av):Md:=
 ⟨m.2.1,fun n=>n∈m.2.2.1,kS m.2.2.2.1,m.2.2.2.2.1=true,m.2.2.2.2.2.1.length,fun p n=>Pl p/\Ar p=m.2.1/\ ∃l,m.2.2.2.2.2.1[(DX p-1).toNat]? =some l/\n∈l⟩
def fP(l:List Af)(p:Int):Option Af:=l.find? fun s=>s.1==p
def seS(s:Af):Txt×Prop:=(s.2.1,s.2.2.1=true)
def wT(w:AA)(n:Int):AO:=if 0<=n/\n<(w.BX.length:Int)then storeAt w n else EN
def AOr(l:List CW)(e:Int):CW:=l.getD (e-1).toNat GB
def jI(w:AA):St where
 len:=w.Am.length
 nodes e n:=n∈BK w.Am e
 cl e:=(1<=e/\e<=(w.Am.length:Int))/\(AOr w.Am e).2.1=true
 last e:=if 1<=e then(AOr w.Am e).2.2.1 else 0
 trim:=w.trim
 lost n:=n∈w.lost
 GP:=w.GP=true
 kept n:=kS (wT w n).1
 late n:=AYb (wT w n).2.1
 sl n:=(wT w n).2.2.1
 wrE e:= ∃x∈w.AQ,x.1=e
 wd p:=(AT_ w.AQ p).map wdS
 md:=w.An.head?.map mdS
 aj p:=(fP w.Ai p).map seS
def tlS(l:List BU)(p:Int):Option Txt:=(l.find? fun e=>e.1==1&&e.2.1==p).map fun e=>e.2.2.1
def rdS(r:Ag):Rd:=⟨r.1,r.2.1,tlS r.2.2.1⟩
structure Safe (w:AA):Prop where
 ok:KU w
 a:AB9 (AGG (Ae w)) Ar Pl (jI w)
 b:w.GP=false-> ∃fin,AAz (AGG (Ae w)) Ar DX Pl (jI w) fin/\ ∀r∈w.AX,ye Ar DX Pl (jI w) fin (rdS r)
def Grow(w v:AA):Prop:= ∀p d q,(jI w).aj p=some (d,q)-> ∃q',(jI v).aj p=some (d,q')/\(q->q')
theorem Safe.step{w v:AA}(h:Safe w)(EP:KU v)(hc:Ae v=Ae w)(hr:v.AX=w.AX)(ht:v.GP=false->w.GP=false)
  (ha:AB9 (AGG (Ae w)) Ar Pl (jI v))
  (hb:w.GP=false->v.GP=false-> ∀fin,AAz (AGG (Ae w)) Ar DX Pl (jI w) fin->AAz (AGG (Ae w)) Ar DX Pl (jI v) fin)
  (h1:(jI v).cl=(jI w).cl) (h2:(jI v).last=(jI w).last) (h3:(jI w).trim<=(jI v).trim)
  (h4:Grow w v):Safe v/\Grow w v:=by
 refine⟨⟨EP,by simp_all,fun hv=> ?_⟩,h4⟩;obtain⟨fin,b1,b2⟩:=h.b (ht hv);rw[hc,hr];exact⟨fin,hb (ht hv) hv fin b1,fun r hr=>(b2 r hr).of h1 h2 h3 fun p d q a b=>(h4 p d q a).imp fun _ k=>⟨k.1,k.2 b⟩⟩
section
variable{w:AA} (h:Safe w)
include h
end
end Go.M
end
section
namespace Go.M
open Go.M.H (AJ AO Av Af AA CW AN BD AR Ag BU BA Ao)
open Go.Sf (uy Wd Md St Rd Txt ABh AB9 AAz ye)
theorem ya{l:List Af}{p:Int}{s:Af}(h:fP l p=some s):s∈l/\s.1=p:=
 ⟨AYG h,by simpa using List.find?_some h⟩
section
variable{w:AA} (h:Safe w)
include h
end
end Go.M
end
section
namespace Go.M
open Go.M.H (AJ AO Av Af AA CW AN BD AR Ag BU BA Ao)
open Go.Sf (uy Wd Md St Rd Txt ABh AB9 AAz ye)
def vm(e:BU):Bool:=Bd e.1 1 3
structure ry (ss:List Af) (r:Ag):Prop where
 tf:(r.2.2.1.filter vm).Pairwise fun a b=>a.2.1<b.2.1
 below:∀e∈r.2.2.1,vm e=true->Pl e.2.1/\e.2.1<HN r.1 r.2.1
 aj:∀e∈r.2.2.1,e.1=1-> ∃s∈ss,s.1=e.2.1/\s.2.1=e.2.2.1
def AJo(r:Ag):Prop:= ∀e∈r.2.2.1,e.1≠3
structure Reached (w:AA):Prop where
 safe:Safe w
 out:∀r∈w.AX,ry w.Ai r
 whole:w.GP=false-> ∀r∈w.AX,AJo r
theorem i_{s:Af}:∀{l:List Af},WD (fun s:Af=>s.1) l->s∈l->fP l s.1=some s
 |[],_,h=>by simp at h
 |y::l,ha,h=>by
  simp only[WD,AVM]at ha;unfold fP;rw[AZZ];rcases ASY.1 h with rfl|h
  ·rw[AZz]
  ·rw[AS8.2 (fun e=>by grind)]
   exact i_ ha.2 h
theorem Grow.mem{w v:AA}(h:Grow w v)(hw:KU w){s:Af}(hs:s∈w.Ai):∃t∈v.Ai,t.1=s.1/\t.2.1=s.2.1/\(s.2.2.1=true->t.2.2.1=true):=by
 obtain⟨q',e,h2⟩:=h s.1 s.2.1 (s.2.2.1=true) (by
  show(fP w.Ai s.1).map seS=_
  rw[i_ hw.an hs];rfl)
 replace e:(fP v.Ai s.1).map seS=some (s.2.1,q'):=e
 rw[AOP]at e;obtain⟨t,e1,e2⟩:=e;grind[ya,seS,Prod.mk.injEq]
theorem ry.grow{w v:AA}(h:Grow w v)(hw:KU w){r:Ag}(k:ry w.Ai r):ry v.Ai r:=
 ⟨k.tf,k.below,fun e he h1=>by
  obtain⟨s,s1,s2,s3⟩:=k.aj e he h1;obtain⟨t,t1,t2,t3,_⟩:=h.mem hw s1;grind⟩
theorem Reached.of{w v:AA}(h:Reached w)(k:Safe v/\Grow w v)(hr:v.AX=w.AX)(ht:v.GP=false->w.GP=false):Reached v:=
 ⟨k.1,fun r hm=>(h.out r (by simp_all)).grow k.2 h.safe.ok,fun hv r hm=>h.whole (ht hv) r (by simp_all)⟩
theorem ry.app{ss:List Af}{r:Ag}(k:ry ss r){e o:Int}{ev:BU}(h1:HN r.1 r.2.1<=HN e o)(h2:vm ev=true->HN r.1 r.2.1<=ev.2.1/\Pl ev.2.1/\ev.2.1<HN e o)(h3:ev.1=1-> ∃s∈ss,s.1=ev.2.1/\s.2.1=ev.2.2.1):
  ry ss (e,o,r.2.2.1++[ev],()):=by
 refine⟨?_,fun x hx hp=> ?_,fun x hx h1=> ?_⟩
 ·show((r.2.2.1++[ev]).filter vm).Pairwise _
  rw[List.filter_append,List.pairwise_append];refine⟨k.tf,?_,fun a ha b hb=> ?_⟩
  ·grind
  ·obtain⟨b1,b2⟩:=AWB.1 hb
   rw[AU4.1 b1]at b2|-;obtain⟨a1,a2⟩:=AWB.1 ha;have:=(k.below a a1 a2).2;grind
 ·show Pl x.2.1/\x.2.1<HN e o
  rcases ARh.1 hx with hx|hx
  ·have:=k.below x hx hp
   grind
  simp_all
 ·rcases ARh.1 hx with hx|hx
  ·exact k.aj x hx h1
  simp_all
section
variable{w:AA} (h:Reached w)
include h
end
end Go.M
end
section
namespace Go.M
open Go.M.H (AJ AO Av Af AA CW AN BD AR Ag BU BA Ao)
open Go.Sf (uy Wd Md St Rd Txt ABh AB9 AAz ye)
section
variable{w:AA} (h:Reached w)
include h
theorem Reached.sure{s:Af}(hs:s∈w.Ai)(hq:s.2.2.1=true):Pl s.1/\Sf.AFK (jI w) s.1:=by
 refine⟨(h.safe.ok.Ai s hs).1,s.2.1,s.2.2.1=true,?_,hq⟩
 show(fP w.Ai s.1).map seS=_
 rw[i_ h.safe.ok.an hs];rfl
end
section
variable{w:AA} (h:Reached w)
include h
end
end Go.M
end
section
set_option maxRecDepth 8000
namespace Go.M
open Go.M.H (AA AJ AN AO AR AS AU AY Af Ag Ah Aj Ak Ao Aq Av Az BA BD BU Bk C8 CK CL CW Cn D9)
def AE4(w:AA)(k:Nat)(o:Int):BD:=(w.AQ.getD k B3).2.1.getD (o-1).toNat MB
structure Aby (c:CG) (k:Nat) (ep o p:Int) (d:ACH) (N:Nat) (w:AA):Prop where
 ok:KU w
 cfg:Ae w=c
 wr:k<w.AQ.length/\(w.AQ.getD k B3).1=ep/\(w.AQ.getD k B3).2.1.length=o
 o1:1<=o/\o<=60
 pl:Pl p/\Ar p=ep/\DX p=o
 aj:∃s,fP w.Ai p=some s/\s.2.1=d/\(s.2.2.1=true↔(AE4 w k o).2.2.1=true)
 Adc:∀n∈(AE4 w k o).2.1,n∉w.lost/\ ∃e,OO p (storeAt w n).1=some e
 ns:w.Ai.length=N
theorem a_{all:Bool}{c:CG}{s:AO}{l:List CW}{n:Int}:∀{ws:List AR} {ss:List Af},
  (EV all c s l n ws ss).2=ss.map fun t=>(t.1,t.2.1,t.2.2.1||(ws.any fun x=>aa s l n x&&(Ar t.1==x.1&&(ae (Bu c s x.1 n 1 x.2.1) (DX t.1)&&(all|| !ae x.2.1 (DX t.1))))),())
 |[],ss=>by
  simp only[EV,List.any_nil,AZ2];exact(List.map_id' ss).symm
 |x::ws,ss=>by
  simp only[EV];split
  ·rename_i ht
   simp only;rw[a_,AXP];refine AVf fun t _=> ?_
   simp only[Function.comp,QZ,List.any_cons,ht,APr,Bool.or_assoc]
  ·rename_i ht
   simp only;rw[a_];refine AVf fun t _=> ?_
   have ht':aa s l n x=false:=by simpa using ht
   simp only[List.any_cons,ht',AVZ,AVP]
section
variable{c:CG} {k:Nat} {ep o p:Int} {d:ACH} {N:Nat} {w:AA} (h:Aby c k ep o p d N w)
include h
end
theorem AEW{a l:AAB}{x:Int}:less (less a [x]) l=less a (x::l):=by
 unfold less;rw[List.filter_filter];refine List.filter_congr fun y _=> ?_
 simp[Bool.and_comm]
theorem xg{a l:AAB}:(less a l).length<=a.length:=by
 unfold less;exact AUc _ _
theorem AFI{a:AAB}:less a []=a:=by
 unfold less;exact List.filter_eq_self.2 fun _ _=>by simp
theorem X8{w:AA}(h:KU w){e:Int}(he:CB e):Nq w e=some (((),()),(less (BK w.Am e) w.lost,())):=by
 have hl:=Fl h.lost;have key:∀(m i n:Nat) (b:AAB),i+m=w.lost.length->m<n->b.length<=2^30->Hv n w.lost (w.lost.length:Int) (i:Int) b=some (((),()),(less b (w.lost.drop i),())):=by
  intro m
  induction m with
  |zero=>
   intro i n b hi hn hb;obtain⟨n,rfl⟩:∃n',n=n'+1:=⟨n-1,by omega⟩;simp only[Hv,OE,AB];rw[AOK (by omega),APk (by omega),AFI]
  |succ m ih=>
   intro i n b hi hn hb;obtain⟨n,rfl⟩:∃n',n=n'+1:=⟨n-1,by omega⟩;simp only[Hv,OE,AB];have Ha:i<w.lost.length:=by omega
   rw[AOJ (by omega),AOJ (by omega),Lv hb];simp only[AD];rw[AH (x:=(i:Int)+1) (by omega) (by omega)];have:=ih (i+1) n (less b [w.lost.getD i 0]) (by omega) (by omega) (by have:=xg (a:=b) (l:=[w.lost.getD i 0]);omega);rw[show((i+1:Nat):Int)=(i:Int)+1 by omega]at this;rw[AO2];refine this.trans ?_
   rw[AVd Ha,AEW,Ph Ha]
 unfold Nq UN;have h3:AS Bk w.Am<=270:=h.jx.w;rw[show(w.2.2.2.2.1,w.2.2.2.2.2.1,())=CQ w from rfl,MN (by show AS Bk w.Am<=_;omega) he];simp only[AD];have hb:(BK w.Am e).length<=2^30:=by
  have:(BK w.Am e).length<=8:=Er h;omega
 have:=key w.lost.length 0 AZ (BK w.Am e) (by omega) (Ac (by omega)) hb;exact this
section
variable{c:CG} {k:Nat} {ep o p:Int} {d:ACH} {N:Nat}
end
def T7(q:AA×Bool):mZ:=(((((),q.1.2.1,(),(),(),q.1.2.2.2.2.2.1,(),(),(),(),q.1.2.2.2.2.2.2.2.2.2.2.1,()),q.2,()),()),(q.1.1,q.1.2.2.1,q.1.2.2.2.1,q.1.2.2.2.2.1,q.1.2.2.2.2.2.2.1,q.1.2.2.2.2.2.2.2.1,q.1.2.2.2.2.2.2.2.2.1,q.1.2.2.2.2.2.2.2.2.2.1,()))
section
variable{c:CG} {k:Nat} {ep o p a:Int} {d:ACH} {N:Nat} {w:AA} (hw:dX w) (ha:CB a)
include hw ha
end
section
variable{c:CG} {k:Nat} {ep o p a:Int} {d:ACH} {N:Nat} {w:AA} (hw:dX w) (ha:CB a)
include hw ha
end
theorem yg{w:AA}(h:KU w){e:Int}:∀x∈BK w.Am e,0<=x/\x<8:=by
 by_cases he:Bd e 1 (w.Am.length:Int)=true
 ·exact(h.AAq (code:=[]) (by simp) (As.1 he)).2.2
 ·intro x hx
  unfold BK at hx;rw[AOK he]at hx;cases hx
theorem AFd{a l:AAB}:∀x∈less a l,x∈a:=fun x hx=>by
 unfold less at hx;exact(AWB.1 hx).1
theorem iX{w:AA}(Kx:dX w):Kk w=some ((((),(if Cq w=true then w else ON).2.1,(),(),(),(if Cq w=true then w else ON).2.2.2.2.2.1,(),(),(),(),(if Cq w=true then w else ON).2.2.2.2.2.2.2.2.2.2.1,()),()),((if Cq w=true then w else ON).1,(if Cq w=true then w else ON).2.2.1,(if Cq w=true then w else ON).2.2.2.1,(if Cq w=true then w else ON).2.2.2.2.1,(if Cq w=true then w else ON).2.2.2.2.2.2.1,(if Cq w=true then w else ON).2.2.2.2.2.2.2.1,(if Cq w=true then w else ON).2.2.2.2.2.2.2.2.1,(if Cq w=true then w else ON).2.2.2.2.2.2.2.2.2.1,())):=by
 unfold Kk;rw[Gk w,Iy Kx,Oq Kx];simp only[AD];cases Cq w with
 |true=>rfl
 |false=>rfl
def allM(all:Bool):AA->List Ao->Option AA
 |w,[]=>some w
 |w,d::l=>if(BJ all w d).2=0 then allM all (BJ all w d).1 l else none
theorem fQ{all:Bool}:∀{l m:List Ao} {w:AA},allM all w (l++m)=(allM all w l).bind fun v=>allM all v m
 |[],m,w=>rfl
 |d::l,m,w=>by
  simp only[AWJ,allM];split
  ·exact fQ
  ·rfl
def OC(count:Nat)(ns:AAB):List Ao:=(List.range count).flatMap fun i:Nat=>ns.flatMap fun n:Int=>[(11,0,(i:Int)+1,n,[],()),(4,n,0,0,[],())]
def Lo(v:AA):AAB:=less (BK v.Am (v.An.getD 0 Ei).2.1) v.lost
def W7(all:Bool)(w:AA):Option AA:=
 if Cq w=true then
  (if w.An.length=0 then allM all w [(8,0,0,0,[],())]else some w).bind fun v0=>
  (allM all v0 ((Lo v0).map (fun n=>(9,n,0,0,[],()))++[(10,0,0,0,[],())])).bind fun v1=>
  allM all v1 (OC (v1.An.getD 0 Ei).2.2.2.2.2.1.length (Lo v0)++[(12,0,0,0,[],())])
 else none
theorem qD{a b:Bool}:∀{l:List Ao} {w:AA} {se:List Af},bare se=bare w.Ai->
  (allM b w l=none/\allM a (w.Ax se) l=none)\/ ∃v dH,allM b w l=some v/\bare dH=bare v.Ai/\allM a (w.Ax se) l=some (v.Ax dH)
 |[],w,se,h=> .inr ⟨w,se,rfl,h,rfl⟩
 |d::l,w,se,h=>by
  obtain⟨se1,h1,e1⟩:=zT (a:=a) (b:=b) h (d:=d);simp only[allM];rw[e1];by_cases hc:(BJ b w d).2=0
  ·rw[AOJ (show(XL se1 (BJ b w d)).2=0 from hc),AOJ hc]
   exact qD (l:=l) h1
  ·rw[AOK (show¬(XL se1 (BJ b w d)).2=0 from hc),AOK hc]
   exact .inl ⟨rfl,rfl⟩
theorem AAu{w:AA}:(W7 true w).isSome=(W7 false w).isSome:=by
 unfold W7;split
 rotate_left
 ·rfl
 have h0:((if w.An.length=0 then allM false w [(8,0,0,0,[],())]else some w)=none/\(if w.An.length=0 then allM true w [(8,0,0,0,[],())]else some w)=none)\/
   ∃v se,(if w.An.length=0 then allM false w [(8,0,0,0,[],())]else some w)=some v/\bare se=bare v.Ai/\(if w.An.length=0 then allM true w [(8,0,0,0,[],())]else some w)=some (v.Ax se):=by
  split
  ·have:=qD (a:=true) (b:=false) (l:=[(8,0,0,0,[],())]) (w:=w) (se:=w.Ai) rfl
   rw[show w.Ax w.Ai=w from rfl]at this;exact this
  ·exact .inr ⟨w,w.Ai,rfl,rfl,rfl⟩
 rcases h0 with⟨e0,e1⟩|⟨v,se,e0,hb,e1⟩
 ·rw[e0,e1,AZl,AZl]
 rw[e0,e1,AOv,AOv];have hn:Lo (v.Ax se)=Lo v:=rfl;rw[hn];rcases qD (a:=true) (b:=false) (l:=(Lo v).map (fun n=>(9,n,0,0,[],()))++[(10,0,0,0,[],())]) hb with⟨e2,e3⟩|⟨v1,se1,e2,hb1,e3⟩
 ·rw[e2,e3,AZl,AZl]
 rw[e2,e3,AOv,AOv];rw[show(v1.Ax se1).An=v1.An from rfl];rcases qD (a:=true) (b:=false) (l:=OC (v1.An.getD 0 Ei).2.2.2.2.2.1.length (Lo v)++[(12,0,0,0,[],())]) hb1 with⟨e4,e5⟩|⟨v2,se2,e4,hb2,e5⟩
 ·rw[e4,e5]
 ·rw[e4,e5,AVT,AVT]
structure AFT (w v:AA):Prop where
 ok:KU v
 Am:v.Am=w.Am
 ns:v.Ai.length=w.Ai.length
theorem ACY{all:Bool}{w:AA}{d:Ao}(hd:d.1=4\/d.1=8\/d.1=9\/d.1=10\/d.1=11)(h0:(BJ all w d).2=0):AFT w (BJ all w d).1:=by
 have EP:=Co.1 (PR h0);refine⟨EP,?_,?_⟩
 all_goals
  unfold BJ at h0|-;by_cases hc:(!Cq w|| !OP d)=true
  ·rw[AOJ hc]at h0;cases h0
  rw[AOK hc];unfold K9;rcases hd with hd|hd|hd|hd|hd<;>rw[hd]<;>simp only[Int.reduceEq,ATF,AVR]
 ·unfold Mr;try dsimp only
  repeat' split
  all_goals rfl
 ·unfold Jr;try dsimp only
  repeat' split
  all_goals rfl
 ·unfold La;try dsimp only
  repeat' split
  all_goals rfl
 ·unfold Jx;dsimp only;repeat' split
  all_goals rfl
 ·unfold Q2 putAt;try dsimp only
  repeat' split
  all_goals rfl
 ·unfold Mr;try dsimp only
  repeat' split
  all_goals first
   |rfl
   |(show(EV all _ _ _ _ _ _).2.length=_;rw[a_,AWA])
 ·unfold Jr;try dsimp only
  repeat' split
  all_goals rfl
 ·unfold La;try dsimp only
  repeat' split
  all_goals rfl
 ·unfold Jx;dsimp only;repeat' split
  all_goals rfl
 ·unfold Q2 putAt;try dsimp only
  repeat' split
  all_goals rfl
theorem gO{all:Bool}:∀{l:List Ao} {w v:AA},KU w->(∀d∈l,d.1=4\/d.1=8\/d.1=9\/d.1=10\/d.1=11)->allM all w l=some v->AFT w v
 |[],w,v,hw,_,h=>by
  cases h;exact⟨hw,rfl,rfl⟩
 |d::l,w,v,hw,hl,h=>by
  simp only[allM]at h;split at h
  ·rename_i h0
   have k:=ACY (hl d (by simp)) h0;have k2:=gO k.ok (fun x hx=>hl x (by simp[hx])) h;exact⟨k2.ok,k2.Am.trans k.Am,k2.ns.trans k.ns⟩
  ·cases h
theorem xy{all:Bool}{w:AA}(h0:(BJ all w (12,0,0,0,[],())).2=0):
  ∃k:Nat,k<w.Am.length/\BF w.Am=(k:Int)+1/\k<(BJ all w (12,0,0,0,[],())).1.Am.length/\((BJ all w (12,0,0,0,[],())).1.Am.getD k GB).2.1=true/\
   BF (BJ all w (12,0,0,0,[],())).1.Am=(k:Int)+2/\(BJ all w (12,0,0,0,[],())).1.An=[]/\KU (BJ all w (12,0,0,0,[],())).1/\(BJ all w (12,0,0,0,[],())).1.Ai=w.Ai:=by
 have EP:=Co.1 (PR h0);unfold BJ at h0 EP|-;by_cases hc:(!Cq w|| !OP (12,0,0,0,[],()))=true
 ·rw[AOJ hc]at h0;cases h0
 rw[AOK hc]at h0 EP|-;unfold K9 at h0 EP|-;simp only[Int.reduceEq,ATF,AVR]at h0 EP|-;unfold Im at h0 EP|-;cases hms:w.An with
 |nil=>rw[hms]at h0;cases h0
 |cons m ms=>
 rw[hms]at h0 EP;simp only at h0 EP|-;by_cases hr:QH (Ae w) m=true
 rotate_left
 ·have hr':QH (Ae w) m=false:=by simpa using hr
  rw[hr']at h0;cases h0
 rw[hr]at h0 EP|-;simp only[AOx,AO5,ATF]at h0 EP|-;by_cases hq:(LU (Ae w) (CQ w) m.1 (m.2.2.2.2.2.1.length:Int)).2=true
 rotate_left
 ·have hq':(LU (Ae w) (CQ w) m.1 (m.2.2.2.2.2.1.length:Int)).2=false:=by simpa using hq
  rw[hq']at h0;cases h0
 rw[hq]at EP|-;simp only[AOx,AO5,ATF]at EP|-;obtain⟨r0,r1,k,k1,k2,k3,k4,k5,k6,k7,k8⟩:=fZ hq;rw[k6]at EP r1|-;have k1':k<w.Am.length:=k1;have hlen:(F5 w.Am k (m.2.2.2.2.2.1.length:Int)).length=w.Am.length:=by simp[F5]
 have hg:=fun j=>XF (l:=w.Am) (i:=k) (j:=j) (last:=(m.2.2.2.2.2.1.length:Int)) k1'
 have Xq:((F5 w.Am k (m.2.2.2.2.2.1.length:Int)).getD k GB).2.1=true:=by rw[hg,AOJ rfl]
 refine⟨k,k1',k2,by show k<(F5 w.Am k _).length;rw[hlen];exact k1',Xq,?_,by first|rfl|trivial,EP,by first|rfl|trivial⟩;obtain⟨j,j1,j2,j3,j4⟩:=Pf r1 (by show 0<(F5 w.Am k _).length;omega)
 replace j1:j<(F5 w.Am k (m.2.2.2.2.2.1.length:Int)).length:=j1
 replace j3:((F5 w.Am k (m.2.2.2.2.2.1.length:Int)).getD j GB).2.1=false:=j3
 replace j4:∀i,i<j->((F5 w.Am k (m.2.2.2.2.2.1.length:Int)).getD i GB).2.1=true:=j4
 show BF (F5 w.Am k (m.2.2.2.2.2.1.length:Int))=_
 rw[show BF (F5 w.Am k (m.2.2.2.2.2.1.length:Int))=(j:Int)+1 from j2];have hjk:j≠k:=fun e=>by rw[e,Xq]at j3;cases j3
 have hj1: ¬j<k:=fun hh=>by
  rw[hg,AOK (by omega)]at j3;have:=k8 j hh;rw[show(CQ w).1=w.Am from rfl]at this;rw[this]at j3;cases j3
 have hj2: ¬k+1<j:=fun hh=>by
  have h1:=j4 (k+1) hh;rw[hg,AOK (by omega)]at h1;have:=(r0.down (k+1) (by show k+1<w.Am.length;omega) h1).2 k (by omega);rw[k7]at this;cases this
 omega
theorem w4{all:Bool}{w v:AA}(h:W7 all w=some v):∃k:Nat,k<v.Am.length/\BF w.Am=(k:Int)+1/\(v.Am.getD k GB).2.1=true/\BF v.Am=(k:Int)+2/\v.An=[]/\KU v/\v.Ai.length=w.Ai.length:=by
 unfold W7 at h;by_cases hw:Cq w=true
 rotate_left
 ·rw[AOK hw]at h;cases h
 rw[AOJ hw]at h;rw[AOc]at h;obtain⟨v0,e0,h⟩:=h;rw[AOc]at h;obtain⟨v1,e1,h⟩:=h;rw[fQ,AOc]at h;obtain⟨v2,e2,h⟩:=h;have i0:AFT w v0:=by
  split at e0
  ·exact gO (Co.1 hw) (fun d hd=>by simp only[AU4]at hd;subst hd;exact .inr (.inl rfl)) e0
  ·cases e0;exact⟨Co.1 hw,rfl,rfl⟩
 have i1:AFT v0 v1:=gO i0.ok (fun d hd=>by
  rcases ARh.1 hd with hd|hd
  ·obtain⟨n,_,rfl⟩:=AVh.1 hd;simp
  ·simp only[AU4]at hd;subst hd;simp) e1
 have i2:AFT v1 v2:=gO i1.ok (fun d hd=>by
  unfold OC at hd;rw[AZ0]at hd;obtain⟨i,_,hd⟩:=hd;rw[AZ0]at hd;obtain⟨n,_,hd⟩:=hd;simp only[ASY,AY6,or_false]at hd;rcases hd with rfl|rfl<;>simp) e2
 simp only[allM]at h;split at h
 rotate_left
 ·cases h
 rename_i hc;cases h;obtain⟨k,k1,k2,k3,k4,k5,k6,k7,k8⟩:=xy hc;refine⟨k,k3,?_,k4,k5,k6,k7,?_⟩
 ·rw[<-k2,i2.Am,i1.Am,i0.Am]
 ·rw[k8,i2.ns,i1.ns,i0.ns]
def QV:Option AA->S_
 |none=>(((((),0,(),(),(),0,(),(),(),(),false,()),false,()),()),((),(),(),(),(),(),(),(),[],[],[],[],[],[],[],[],()))
 |some v=>(((((),v.2.1,(),(),(),v.2.2.2.2.2.1,(),(),(),(),v.2.2.2.2.2.2.2.2.2.2.1,()),true,()),()),((),(),(),(),(),(),(),(),v.1,v.2.2.1,v.2.2.2.1,v.2.2.2.2.1,v.2.2.2.2.2.2.1,v.2.2.2.2.2.2.2.1,v.2.2.2.2.2.2.2.2.1,v.2.2.2.2.2.2.2.2.2.1,()))
theorem ld:∀(m i f:Nat) {l:List Ao} {w:AA},KU w->AS Ak w.AX+41*m<=900000->(∀d∈l,CB d.2.1)->l.length<=10000->i+m=l.length->m<f->
  Ln f l (l.length:Int) (i:Int) w.2.1 w.2.2.2.2.2.1 w.2.2.2.2.2.2.2.2.2.2.1 w.1 w.2.2.1 w.2.2.2.1 w.2.2.2.2.1 w.2.2.2.2.2.2.1 w.2.2.2.2.2.2.2.1 w.2.2.2.2.2.2.2.2.1 w.2.2.2.2.2.2.2.2.2.1 0 0 false [] [] [] [] [] [] [] []=some (QV (allM false w (l.drop i)))
 |m,i,0,l,w,_,_,_,_,_,hf=>by omega
 |0,i,f+1,l,w,h,hr,hl,hn,hi,hf=>by
  simp only[Ln,QJ,AB];rw[AOK (by omega),APk (by omega)];rfl
 |m+1,i,f+1,l,w,h,hr,hl,hn,hi,hf=>by
  have Ha:i<l.length:=by omega
  simp only[Ln,QJ,AB];have hg:l.getD i (0,0,0,0,[],())=l[i]:=Ph Ha;have hd:=hl _ (AO7 Ha);rw[AOJ (by omega),AOJ (by omega),AO2,hg,AVd Ha]
  generalize l[i]=d at*
  rw[Gk w,zy d,dq (h.AFA (by omega)) hd];simp only[AD,allM];by_cases h0:(BJ false w d).2=0
  ·rw[AOJ h0,show((gT (BJ false w d)).1.1.2.1 !=0)=false by show((BJ false w d).2 !=0)=false;rw[h0];rfl,AOk,AH (x:=(i:Int)+1) (by omega) (by omega)]
   have hr':=Yr h h0;have ih:=ld m (i+1) f (l:=l) (Co.1 (PR h0)) (by omega) hl hn (by omega) (by omega);rw[show((i+1:Nat):Int)=(i:Int)+1 by omega]at ih;exact ih
  ·rw[AOK h0,show((gT (BJ false w d)).1.1.2.1 !=0)=true by show((BJ false w d).2 !=0)=true;simpa using h0,APm]
   rfl
theorem aN{l:List Ao}{w:AA}(h:KU w)(hr:AS Ak w.AX+41*l.length<=900000)(hl:∀d∈l,CB d.2.1)(hn:l.length<=10000):
  RW w.2.1 w.2.2.2.2.2.1 w.2.2.2.2.2.2.2.2.2.2.1 l w.1 w.2.2.1 w.2.2.2.1 w.2.2.2.2.1 w.2.2.2.2.2.2.1 w.2.2.2.2.2.2.2.1 w.2.2.2.2.2.2.2.2.1 w.2.2.2.2.2.2.2.2.2.1=some (QV (allM false w l)):=
 ld l.length 0 AZ h hr hl hn (by omega) (Ac (by omega))
def APf(w:AA)(l:List Ao)(r:Option Kq):Prop:= ∃v:AA,r=some (((v,(allM true w l).isSome,()),()),())/\ ∀u,allM true w l=some u->v=u
theorem dU:∀(m i f:Nat) {l:List Ao} {w:AA},KU w->AS Ak w.AX+41*m<=900000->(∀d∈l,CB d.2.1)->l.length<=10000->i+m=l.length->m<f->
  APf w (l.drop i) (Jh f l (i:Int) w.1 w.2.1 w.2.2.1 w.2.2.2.1 w.2.2.2.2.1 w.2.2.2.2.2.1 w.2.2.2.2.2.2.1 w.2.2.2.2.2.2.2.1 w.2.2.2.2.2.2.2.2.1 w.2.2.2.2.2.2.2.2.2.1 w.2.2.2.2.2.2.2.2.2.2.1 0 0 false [] [] [] [] [] [] [] [])
 |m,i,0,l,w,_,_,_,_,_,hf=>by omega
 |0,i,f+1,l,w,h,hr,hl,hn,hi,hf=>by
  simp only[Jh,Qm,AB];rw[AOK (by omega),APk (by omega)];exact⟨w,rfl,fun u hu=>Option.some.inj hu⟩
 |m+1,i,f+1,l,w,h,hr,hl,hn,hi,hf=>by
  have Ha:i<l.length:=by omega
  simp only[Jh,Qm,AB];have hg:l.getD i (0,0,0,0,[],())=l[i]:=Ph Ha;have hd:=hl _ (AO7 Ha);rw[AOJ (by omega),AOJ (by omega),AO2,hg,AVd Ha]
  generalize l[i]=d at*
  rw[Gk w,zy d,RN (h.AFA (by omega)) hd];simp only[AD];unfold APf;simp only[allM];by_cases h0:(BJ true w d).2=0
  ·rw[AOJ h0,show((gT (BJ true w d)).1.1.2.1 !=0)=false by show((BJ true w d).2 !=0)=false;rw[h0];rfl,AOk,AH (x:=(i:Int)+1) (by omega) (by omega)]
   have hr':=Yr h h0;have ih:=dU m (i+1) f (l:=l) (Co.1 (PR h0)) (by omega) hl hn (by omega) (by omega);rw[show((i+1:Nat):Int)=(i:Int)+1 by omega]at ih;exact ih
  ·rw[AOK h0,show((gT (BJ true w d)).1.1.2.1 !=0)=true by show((BJ true w d).2 !=0)=true;simpa using h0,APm]
   exact⟨w,rfl,fun u hu=>by cases hu⟩
theorem cE{l:List Ao}{w:AA}(h:KU w)(hr:AS Ak w.AX+41*l.length<=900000)(hl:∀d∈l,CB d.2.1)(hn:l.length<=10000):
  APf w l (N6 w.1 w.2.1 w.2.2.1 w.2.2.2.1 w.2.2.2.2.1 w.2.2.2.2.2.1 w.2.2.2.2.2.2.1 w.2.2.2.2.2.2.2.1 w.2.2.2.2.2.2.2.2.1 w.2.2.2.2.2.2.2.2.2.1 w.2.2.2.2.2.2.2.2.2.2.1 l):=
 dU l.length 0 AZ h hr hl hn (by omega) (Ac (by omega))
def iP(ns:AAB):Nat->Nat->List Ao
 |0,_=>[]
 |m+1,i=>(ns.flatMap fun n:Int=>[(11,0,(i:Int)+1,n,[],()),(4,n,0,0,[],())])++iP ns m (i+1)
theorem xQ{ns:AAB}:∀(m i:Nat),(List.range' i m).flatMap (fun i:Nat=>ns.flatMap fun n:Int=>[(11,0,(i:Int)+1,n,[],()),(4,n,0,0,[],())])=iP ns m i
 |0,i=>rfl
 |m+1,i=>by
  rw[List.range'_succ,AZt,xQ m (i+1)];rfl
theorem fY{c:Nat}{ns:AAB}:OC c ns=iP ns c 0:=by
 unfold OC;rw[List.range_eq_range',xQ]
theorem lA{c t:Int}{ns:AAB}(hk:ns.length<=8)(ht:0<=t/\t<=1000):∀(m j f:Nat) {b:List Ao},j+m=ns.length->b.length+2*m<=5000->
  G6 (f+m+1) c ns t ns (ns.length:Int) (j:Int) b=Ep f c ns (t+1) (b++(ns.drop j).flatMap fun n:Int=>[(11,0,t,n,[],()),(4,n,0,0,[],())])
 |0,j,f,b,hj,hb=>by
  simp only[G6,Kv,AB];rw[AOK (by omega),APk (by omega),AH (x:=t+1) (by omega) (by omega)];simp
 |m+1,j,f,b,hj,hb=>by
  have Ha:j<ns.length:=by omega
  have hg:ns.getD j 0=ns[j]:=Ph Ha;rw[show f+(m+1)+1=(f+m+1)+1 by omega]
  show Kv (Ep (f+m+1)) (G6 (f+m+1)) _ _ _ _ _ _ _=_
  unfold Kv;simp only[AB];rw[AOJ (by omega),AOJ (by omega),AOJ (by rw[Ap];omega),AO2,hg,AH (x:=(j:Int)+1) (by omega) (by omega)];have ih:=lA (c:=c) hk ht m (j+1) f (b:=b++[(11,0,t,ns[j],[],()),(4,ns[j],0,0,[],())]) (by omega) (by simp;omega);rw[show((j+1:Nat):Int)=(j:Int)+1 by omega]at ih;rw[ih,AVd Ha,AZt,AQM]
theorem lf{t:Int}:∀{ns:AAB},(ns.flatMap fun n:Int=>[((11,0,t,n,[],()):Ao),(4,n,0,0,[],())]).length=2*ns.length
 |[]=>rfl
 |x::ns=>by
  have:=lf (t:=t) (ns:=ns);rw[AZt,ASB,this];simp only[ART,AS0];omega
theorem lH{c:Nat}{ns:AAB}(hk:ns.length<=8)(hc:c<=60):∀(m i f:Nat) {b:List Ao},i+m=c->b.length+16*m<=2000->m*10+1<=f->
  Ep f (c:Int) ns ((i:Int)+1) b=some (((),()),(b++(iP ns m i++[(12,0,0,0,[],())]),()))
 |m,i,0,b,_,_,hf=>by omega
 |0,i,f+1,b,hi,hb,hf=>by
  simp only[Ep,PH,AB];rw[AOK (by omega),AOJ (by rw[Ap];omega)];rfl
 |m+1,i,f+1,b,hi,hb,hf=>by
  simp only[Ep,PH,AB];rw[AOJ (by omega)];obtain⟨g,rfl⟩:∃g,f=g+ns.length+1:=⟨f-ns.length-1,by omega⟩;have h6:=lA (c:=(c:Int)) (t:=(i:Int)+1) hk (by omega) ns.length 0 g (b:=b) (by omega) (by omega);refine h6.trans ?_
  have hlen:((ns.drop 0).flatMap fun n:Int=>[((11,0,(i:Int)+1,n,[],()):Ao),(4,n,0,0,[],())]).length=2*ns.length:=by
   rw[AUN];exact lf
  have ih:=lH hk hc m (i+1) g (b:=b++(ns.drop 0).flatMap fun n:Int=>[(11,0,(i:Int)+1,n,[],()),(4,n,0,0,[],())]) (by omega) (by rw[ASB,hlen];omega) (by omega);rw[show((i+1:Nat):Int)=(i:Int)+1 by omega]at ih;rw[ih];simp only[iP,AUN,AQM]
theorem lj{c:Nat}{ns:AAB}(hk:ns.length<=8)(hc:c<=60):Xz (c:Int) ns=some (((),()),(OC c ns++[(12,0,0,0,[],())],())):=by
 rw[fY];exact lH hk hc c 0 AZ (b:=[]) (by omega) (by simp;omega) (AW6 (Ac (by omega)))
theorem iS{w v:AA}{ns:AAB}(hk:ns.length<=8):∀(m i f:Nat) {b:List Ao},i+m=ns.length->b.length+m<=100->
  C4 (f+m) (ns.length:Int) (i:Int) w.1 w.2.1 w.2.2.1 w.2.2.2.1 w.2.2.2.2.1 w.2.2.2.2.2.1 w.2.2.2.2.2.2.1 w.2.2.2.2.2.2.2.1 w.2.2.2.2.2.2.2.2.1 w.2.2.2.2.2.2.2.2.2.1 w.2.2.2.2.2.2.2.2.2.2.1 0 0 false [] [] [] [] [] [] [] [] v.2.1 v.2.2.2.2.2.1 v.2.2.2.2.2.2.2.2.2.2.1 v.1 v.2.2.1 v.2.2.2.1 v.2.2.2.2.1 v.2.2.2.2.2.2.1 v.2.2.2.2.2.2.2.1 v.2.2.2.2.2.2.2.2.1 v.2.2.2.2.2.2.2.2.2.1 ns b=C4 f (ns.length:Int) (ns.length:Int) w.1 w.2.1 w.2.2.1 w.2.2.2.1 w.2.2.2.2.1 w.2.2.2.2.2.1 w.2.2.2.2.2.2.1 w.2.2.2.2.2.2.2.1 w.2.2.2.2.2.2.2.2.1 w.2.2.2.2.2.2.2.2.2.1 w.2.2.2.2.2.2.2.2.2.2.1 0 0 false [] [] [] [] [] [] [] [] v.2.1 v.2.2.2.2.2.1 v.2.2.2.2.2.2.2.2.2.2.1 v.1 v.2.2.1 v.2.2.2.1 v.2.2.2.2.1 v.2.2.2.2.2.2.1 v.2.2.2.2.2.2.2.1 v.2.2.2.2.2.2.2.2.1 v.2.2.2.2.2.2.2.2.2.1 ns (b++(ns.drop i).map fun n:Int=>(9,n,0,0,[],()))
 |0,i,f,b,hi,hb=>by
  rw[APk (by omega),show i=ns.length by omega];simp
 |m+1,i,f,b,hi,hb=>by
  have Ha:i<ns.length:=by omega
  have hg:ns.getD i 0=ns[i]:=Ph Ha;rw[show f+(m+1)=(f+m)+1 by omega]
  show Ek (C4 (f+m)) _ _ _ _ _ _ _ _ _ _ _ _ _ _ _ _ _ _ _ _ _ _ _ _ _ _ _ _ _ _ _ _ _ _ _ _ _=_
  unfold Ek;simp only[AB];rw[AOJ (by omega),AOJ (by omega),AOJ (by rw[Ap];omega),AO2,hg,AH (x:=(i:Int)+1) (by omega) (by omega)];have ih:=iS (w:=w) (v:=v) hk m (i+1) f (b:=b++[(9,ns[i],0,0,[],())]) (by omega) (by simp;omega);rw[show((i+1:Nat):Int)=(i:Int)+1 by omega]at ih;refine ih.trans ?_
  rw[AVd Ha,AW2,AQM];rfl
theorem z8{all:Bool}{w:AA}(h0:(BJ all w (10,0,0,0,[],())).2=0):0<(BJ all w (10,0,0,0,[],())).1.An.length:=by
 unfold BJ at h0|-;split at h0
 ·cases h0
 rename_i hc;rw[AOK hc];rw[show K9 all w (10,0,0,0,[],())=Jx w from rfl]at h0|-;unfold Jx at h0|-;cases hm:w.An with
 |nil=>rw[hm]at h0;cases h0
 |cons m ms=>
  rw[hm]at h0;dsimp only at h0|-;split at h0
  ·cases h0
  ·rename_i hq
   rw[AOK hq]
   show 0<(_::ms).length
   simp
theorem ui{all:Bool}{w v:AA}{l:List Ao}(h:allM all w (l++[(10,0,0,0,[],())])=some v):0<v.An.length:=by
 rw[fQ]at h;cases hu:allM all w l with
 |none=>rw[hu]at h;cases h
 |some u=>
  rw[hu]at h;simp only[AOv,allM]at h;split at h
  ·rename_i h0
   cases h;exact z8 h0
  ·cases h
theorem dB{all:Bool}:∀{l:List Ao} {w v:AA},KU w->allM all w l=some v->KU v/\AS Ak v.AX<=AS Ak w.AX+41*l.length
 |[],w,v,hw,h=>by
  cases h;exact⟨hw,by simp⟩
 |d::l,w,v,hw,h=>by
  simp only[allM]at h;split at h
  ·rename_i h0
   obtain⟨a,b⟩:=dB (Co.1 (PR h0)) h;have:=Yr hw h0;refine⟨a,?_⟩;simp only[ART];omega
  ·cases h
def hmR(w:AA):Option AA->AA×Bool
 |none=>(w,false)
 |some u=>(u,true)
theorem wW{u:AA}(h:KU u):(u.An.getD 0 Ei).2.2.2.2.2.1.length<=60:=by
 cases hm:u.An with
 |nil=>simp[Ei]
 |cons m ms=>
  have h1:=(h.An m (by rw[hm];simp)).1.n;have hb:=Gw (l:=m.2.2.2.1)
  show m.2.2.2.2.2.1.length<=60
  split at h1<;>omega
theorem uh{c:Nat}{ns:AAB}(wj:∀x∈ns,CB x):∀d∈OC c ns++[(12,0,0,0,[],())],CB d.2.1:=fun d hd=>by
 have h0:CB 0:=by unfold CB;omega
 rcases ARh.1 hd with hd|hd
 ·unfold OC at hd
  rw[AZ0]at hd;obtain⟨i,_,hd⟩:=hd;rw[AZ0]at hd;obtain⟨n,hn,hd⟩:=hd;simp only[ASY,AY6,or_false]at hd;rcases hd with rfl|rfl
  ·exact h0
  ·exact wj n hn
 ·simp only[ASY,AY6,or_false]at hd
  subst hd;exact h0
theorem vE{ns:AAB}(hk:ns.length<=8):∀(m i:Nat),(iP ns m i).length<=16*m
 |0,i=>by simp[iP]
 |m+1,i=>by
  have:=vE hk m (i+1);have h2:=lf (t:=(i:Int)+1) (ns:=ns);simp only[iP,ASB,h2];omega
theorem jd{c:Nat}{ns:AAB}(hk:ns.length<=8)(hc:c<=60):(OC c ns++[((12,0,0,0,[],()):Ao)]).length<=961:=by
 rw[fY,ASB];have:=vE hk c 0;simp only[ART,AS0];omega
theorem xk{b:List Ao}(we:∀d∈b,CB d.2.1):∀d∈b++[((10,0,0,0,[],()):Ao)],CB d.2.1:=fun d hd=>by
 rcases ARh.1 hd with hd|hd
 ·exact we d hd
 ·simp only[ASY,AY6,or_false]at hd
  subst hd
  show CB 0
  unfold CB;omega
theorem yq{w v:AA}(hw:dX w)(h:KU v)(hr:AS Ak v.AX<=100000){ns:AAB}(hk:ns.length<=8)(wj:∀x∈ns,CB x){b:List Ao}(hb:b.length<=8)(we:∀d∈b,CB d.2.1)(f:Nat):
  C4 (f+1) (ns.length:Int) (ns.length:Int) w.1 w.2.1 w.2.2.1 w.2.2.2.1 w.2.2.2.2.1 w.2.2.2.2.2.1 w.2.2.2.2.2.2.1 w.2.2.2.2.2.2.2.1 w.2.2.2.2.2.2.2.2.1 w.2.2.2.2.2.2.2.2.2.1 w.2.2.2.2.2.2.2.2.2.2.1 0 0 false [] [] [] [] [] [] [] [] v.2.1 v.2.2.2.2.2.1 v.2.2.2.2.2.2.2.2.2.2.1 v.1 v.2.2.1 v.2.2.2.1 v.2.2.2.2.1 v.2.2.2.2.2.2.1 v.2.2.2.2.2.2.2.1 v.2.2.2.2.2.2.2.2.1 v.2.2.2.2.2.2.2.2.2.1 ns b=some (T7 (hmR w ((allM false v (b++[(10,0,0,0,[],())])).bind fun v1=>allM false v1 (OC (v1.An.getD 0 Ei).2.2.2.2.2.1.length ns++[(12,0,0,0,[],())])))):=by
 show Ek (C4 f) _ _ _ _ _ _ _ _ _ _ _ _ _ _ _ _ _ _ _ _ _ _ _ _ _ _ _ _ _ _ _ _ _ _ _ _ _=_
 unfold Ek;simp only[AB];have hl1:(b++[((10,0,0,0,[],()):Ao)]).length<=9:=by simp;omega
 rw[AOK (by omega),AOJ (by rw[Ap];omega),aN h (by omega) (xk we) (by omega),Gk w,Oq hw];simp only[AD];cases hA:allM false v (b++[(10,0,0,0,[],())])with
 |none=>rfl
 |some v1=>
  obtain⟨uC,rd1⟩:=dB h hA;have hm:=ui hA;have hc:=wW uC;have zQ:=jd hk hc;rw[show(!(QV (some v1)).1.1.2.1)=false from rfl,AOk];rw[AOJ (show(0:Int)<=(0:Int)/\(0:Int)<((QV (some v1)).2.2.2.2.2.2.2.2.2.2.2.2.2.2.1.length:Int)from⟨by omega,by have:(QV (some v1)).2.2.2.2.2.2.2.2.2.2.2.2.2.2.1.length=v1.An.length:=rfl;omega⟩)];rw[show(QV (some v1)).2.2.2.2.2.2.2.2.2.2.2.2.2.2.1.getD 0 (0,0,[],[],false,[],())=v1.An.getD 0 Ei from rfl,lj hk hc];simp only[AD,AOv];have h2:=aN (l:=OC (v1.An.getD 0 Ei).2.2.2.2.2.1.length ns++[(12,0,0,0,[],())]) uC (by omega) (uh wj) (by omega);refine(congrArg (fun o=>Option.bind o _) h2).trans ?_
  simp only[AD];cases allM false v1 (OC (v1.An.getD 0 Ei).2.2.2.2.2.1.length ns++[(12,0,0,0,[],())])with
  |none=>rfl
  |some v2=>rfl
def lq(w:AA):Option AA->AA×Bool
 |none=>(if Cq w=true then w else ON,false)
 |some u=>(u,true)
theorem rm{w:AA}(Kx:dX w)(hw:Cq w=false){d:Ao}(hd:CB d.2.1):RW w.2.1 w.2.2.2.2.2.1 w.2.2.2.2.2.2.2.2.2.2.1 [d] w.1 w.2.2.1 w.2.2.2.1 w.2.2.2.2.1 w.2.2.2.2.2.2.1 w.2.2.2.2.2.2.2.1 w.2.2.2.2.2.2.2.2.1 w.2.2.2.2.2.2.2.2.2.1=some (QV none):=by
 have e1:BJ false w d=(ON,1):=by unfold BJ;rw[hw];rfl
 unfold RW bN;rw[show AZ=(AZ-1)+1 by have:=Ac (n:=0) (by omega);omega];simp only[Ln,QJ,AB];rw[AOJ (by simp),AOJ (by simp)];rw[show([d]:List Ao).getD (0:Int).toNat (0,0,0,0,[],())=d from rfl,Gk w,zy d,dq Kx hd,e1];rfl
theorem yR{ns:AAB}(hk:ns.length<=8):((ns.drop 0).map fun n:Int=>((9,n,0,0,[],()):Ao)).length<=8:=by
 rw[AWA,AUN];exact hk
theorem ABE{ns:AAB}(wj:∀x∈ns,CB x):∀d∈(ns.drop 0).map (fun n:Int=>((9,n,0,0,[],()):Ao)),CB d.2.1:=fun d hd=>by
 rw[AUN]at hd;obtain⟨n,hn,rfl⟩:=AVh.1 hd;exact wj n hn
theorem jK{v:AA}(h:KU v):(Lo v).length<=8:=by
 have h1:(BK v.Am (v.An.getD 0 Ei).2.1).length<=8:=Er h;have h2:=xg (a:=BK v.Am (v.An.getD 0 Ei).2.1) (l:=v.lost);unfold Lo;omega
theorem tv{v:AA}(h:KU v):∀x∈Lo v,CB x:=fun x hx=>by
 have:=yg h x (AFd x hx);unfold CB;omega
theorem j7{w v:AA}(hw:dX w)(h:KU v)(hr:AS Ak v.AX<=100000):
  C4 AZ ((Lo v).length:Int) 0 w.1 w.2.1 w.2.2.1 w.2.2.2.1 w.2.2.2.2.1 w.2.2.2.2.2.1 w.2.2.2.2.2.2.1 w.2.2.2.2.2.2.2.1 w.2.2.2.2.2.2.2.2.1 w.2.2.2.2.2.2.2.2.2.1 w.2.2.2.2.2.2.2.2.2.2.1 0 0 false [] [] [] [] [] [] [] [] v.2.1 v.2.2.2.2.2.1 v.2.2.2.2.2.2.2.2.2.2.1 v.1 v.2.2.1 v.2.2.2.1 v.2.2.2.2.1 v.2.2.2.2.2.2.1 v.2.2.2.2.2.2.2.1 v.2.2.2.2.2.2.2.2.1 v.2.2.2.2.2.2.2.2.2.1 (Lo v) []=some (T7 (hmR w ((allM false v ((Lo v).map (fun n=>(9,n,0,0,[],()))++[(10,0,0,0,[],())])).bind fun v1=>allM false v1 (OC (v1.An.getD 0 Ei).2.2.2.2.2.1.length (Lo v)++[(12,0,0,0,[],())])))):=by
 have hk:=jK h;have wj:=tv h
 generalize Lo v=ns at*
 obtain⟨g,hg⟩:∃g,AZ=(g+1)+ns.length:=⟨AZ-ns.length-1,by have:=Ac (n:=10) (by omega);omega⟩;rw[hg];refine(iS (w:=w) (v:=v) hk ns.length 0 (g+1) (b:=[]) (by omega) (by simp;omega)).trans ?_
 have:=yq hw h hr hk wj (b:=[]++(ns.drop 0).map fun n:Int=>(9,n,0,0,[],())) (yR hk) (ABE wj) g;rw[AVJ,AUN]at this|-;exact this
theorem xr{v:AA}(h:KU v)(hm:0<v.An.length):CB (v.An.getD 0 Ei).2.1:=by
 have:=(h.An _ (Bm (d:=Ei) hm)).1.ep;unfold CB;omega
theorem AGb{all:Bool}{w:AA}(h0:(BJ all w (8,0,0,0,[],())).2=0):0<(BJ all w (8,0,0,0,[],())).1.An.length:=by
 unfold BJ at h0|-;split at h0
 ·cases h0
 rename_i hc;rw[AOK hc];rw[show K9 all w (8,0,0,0,[],())=Jr w from rfl]at h0|-;unfold Jr at h0|-;split at h0
 ·cases h0
 rename_i h1;rw[AOK h1];split at h0
 ·cases h0
 rename_i h2;rw[AOK h2]
 show 0<[_].length
 simp
theorem ABz{w:AA}(h:Cq w=true)(o:Option AA):hmR w o=lq w o:=by
 cases o with
 |none=>unfold hmR lq;rw[AOJ h]
 |some u=>rfl
theorem jT{w:AA}(Kx:dX w)(hr:AS Ak w.AX<=60000):Nr w=some (T7 (lq w (W7 false w))):=by
 unfold Nr OL;rw[Gk w,Oq Kx,iX Kx];simp only[AD];rw[show w.2.2.2.2.2.2.2.1.length=w.An.length from rfl];rcases AOB (Cq w)with hw|hw
 rotate_left
 ·rw[show W7 false w=none by unfold W7;rw[AOK (by rw[hw];simp)]]
  rw[rm Kx hw (by show CB 0;unfold CB;omega),Gk w,Iy Kx,hw];simp only[AD];by_cases hm:w.An.length=0
  ·rw[AVi.2 (show(w.An.length:Int)=0 by omega),APm]
   unfold lq;rw[hw];rfl
  ·rw[AS8.2 (show(w.An.length:Int)≠0 by omega),AOk]
   unfold lq;rw[hw];rfl
 have EP:=Co.1 hw;rw[show W7 false w=((if w.An.length=0 then allM false w [(8,0,0,0,[],())]else some w).bind fun v0=>(allM false v0 ((Lo v0).map (fun n=>(9,n,0,0,[],()))++[(10,0,0,0,[],())])).bind fun v1=>allM false v1 (OC (v1.An.getD 0 Ei).2.2.2.2.2.1.length (Lo v0)++[(12,0,0,0,[],())]))by unfold W7;rw[AOJ hw]];by_cases hm:w.An.length=0
 ·rw[AVi.2 (show(w.An.length:Int)=0 by omega),APm,AOJ hm,aN EP (by simp;omega) (fun d hd=>by
   simp only[ASY,AY6,or_false]at hd;subst hd
   show CB 0
   unfold CB;omega) (by simp)]
  simp only[AD];cases hA:allM false w [(8,0,0,0,[],())]with
  |none=>
   unfold lq;rw[hw];rfl
  |some v=>
   obtain⟨uC,rd1⟩:=dB EP hA;simp only[ART,AS0]at rd1;have hwv:=uC.AFA (by omega);have hmv:0<v.An.length:=by
    simp only[allM]at hA;split at hA
    ·rename_i h0
     cases hA;exact AGb h0
    ·cases hA
   have key:=j7 (w:=w) Kx uC (by omega);rw[ABz hw]at key;refine Eq.trans ?_ key
   rw[show(!(QV (some v)).1.1.2.1)=false from rfl,AOk];rw[show((QV (some v)).2.2.2.2.2.2.2.2.2.1,(QV (some v)).1.1.1.2.1,(QV (some v)).2.2.2.2.2.2.2.2.2.2.1,(QV (some v)).2.2.2.2.2.2.2.2.2.2.2.1,(QV (some v)).2.2.2.2.2.2.2.2.2.2.2.2.1,(QV (some v)).1.1.1.2.2.2.2.2.1,(QV (some v)).2.2.2.2.2.2.2.2.2.2.2.2.2.1,(QV (some v)).2.2.2.2.2.2.2.2.2.2.2.2.2.2.1,(QV (some v)).2.2.2.2.2.2.2.2.2.2.2.2.2.2.2.1,(QV (some v)).2.2.2.2.2.2.2.2.2.2.2.2.2.2.2.2.1,(QV (some v)).1.1.1.2.2.2.2.2.2.2.2.2.2.1,())=v from rfl,Iy hwv,Co.2 uC];simp only[AD];rw[AOx,AOk,AOJ (show(0:Int)<=(0:Int)/\(0:Int)<((QV (some v)).2.2.2.2.2.2.2.2.2.2.2.2.2.2.1.length:Int)from⟨by omega,by have:(QV (some v)).2.2.2.2.2.2.2.2.2.2.2.2.2.2.1.length=v.An.length:=rfl;omega⟩)];rw[show(QV (some v)).2.2.2.2.2.2.2.2.2.2.2.2.2.2.1.getD 0 (0,0,[],[],false,[],())=v.An.getD 0 Ei from rfl,X8 uC (xr uC hmv)];rfl
 ·have hmv:0<w.An.length:=by omega
  have key:=j7 (w:=w) Kx EP (by omega);rw[ABz hw]at key;rw[AS8.2 (show(w.An.length:Int)≠0 by omega),AOk,AOK hm,AOv];refine Eq.trans ?_ key
  rw[Gk w,Iy Kx,hw];simp only[AD];rw[AOx,AOk,AOJ (show(0:Int)<=(0:Int)/\(0:Int)<(w.2.2.2.2.2.2.2.1.length:Int)from⟨by omega,by have:w.2.2.2.2.2.2.2.1.length=w.An.length:=rfl;omega⟩)];rw[show w.2.2.2.2.2.2.2.1.getD 0 (0,0,[],[],false,[],())=w.An.getD 0 Ei from rfl,X8 EP (xr EP hmv)];rfl
noncomputable def AFi (n:Nat) (t:Int) (w v:AA) (ns:AAB) (b:List Ao):Option Ca:=
 HJ n t w.1 w.2.1 w.2.2.1 w.2.2.2.1 w.2.2.2.2.1 w.2.2.2.2.2.1 w.2.2.2.2.2.2.1 w.2.2.2.2.2.2.2.1 w.2.2.2.2.2.2.2.2.1 w.2.2.2.2.2.2.2.2.2.1 w.2.2.2.2.2.2.2.2.2.2.1 0 0 false [] [] [] [] [] [] [] [] v.1 v.2.1 v.2.2.1 v.2.2.2.1 v.2.2.2.2.1 v.2.2.2.2.2.1 v.2.2.2.2.2.2.1 v.2.2.2.2.2.2.2.1 v.2.2.2.2.2.2.2.2.1 v.2.2.2.2.2.2.2.2.2.1 v.2.2.2.2.2.2.2.2.2.2.1 ns b
noncomputable def AAP (n:Nat) (o:Bool) (t:Int) (w v:AA) (ns:AAB) (b:List Ao):Option Ca:=
 HH n o t w.1 w.2.1 w.2.2.1 w.2.2.2.1 w.2.2.2.2.1 w.2.2.2.2.2.1 w.2.2.2.2.2.2.1 w.2.2.2.2.2.2.2.1 w.2.2.2.2.2.2.2.2.1 w.2.2.2.2.2.2.2.2.2.1 w.2.2.2.2.2.2.2.2.2.2.1 0 0 false [] [] [] [] [] [] [] [] v.1 v.2.1 v.2.2.1 v.2.2.2.1 v.2.2.2.2.1 v.2.2.2.2.2.1 v.2.2.2.2.2.2.1 v.2.2.2.2.2.2.2.1 v.2.2.2.2.2.2.2.2.1 v.2.2.2.2.2.2.2.2.2.1 v.2.2.2.2.2.2.2.2.2.2.1 ns b
noncomputable def ADE (n:Nat) (o:Bool) (t i:Int) (w v:AA) (ns:AAB) (b:List Ao):Option Ca:=
 HK n o t i w.1 w.2.1 w.2.2.1 w.2.2.2.1 w.2.2.2.2.1 w.2.2.2.2.2.1 w.2.2.2.2.2.2.1 w.2.2.2.2.2.2.2.1 w.2.2.2.2.2.2.2.2.1 w.2.2.2.2.2.2.2.2.2.1 w.2.2.2.2.2.2.2.2.2.2.1 0 0 false [] [] [] [] [] [] [] [] v.1 v.2.1 v.2.2.1 v.2.2.2.1 v.2.2.2.2.1 v.2.2.2.2.2.1 v.2.2.2.2.2.2.1 v.2.2.2.2.2.2.2.1 v.2.2.2.2.2.2.2.2.1 v.2.2.2.2.2.2.2.2.2.1 v.2.2.2.2.2.2.2.2.2.2.1 ns b
def wa(q:AA×Bool):Ca:=(((q.1,q.2,()),()),())
noncomputable def sEv (v:AA) (l:List Ao):Option Kq:=N6 v.1 v.2.1 v.2.2.1 v.2.2.2.1 v.2.2.2.2.1 v.2.2.2.2.2.1 v.2.2.2.2.2.2.1 v.2.2.2.2.2.2.2.1 v.2.2.2.2.2.2.2.2.1 v.2.2.2.2.2.2.2.2.2.1 v.2.2.2.2.2.2.2.2.2.2.1 l
theorem vA{n:Nat}{t:Int}{w v:AA}{ns:AAB}{b:List Ao}:AFi (n+1) t w v ns b=
 cond (decide (t<(ns.length:Int)))
  (if(0:Int)<=t/\t<(ns.length:Int)then if b.length+1<=C_ then AFi n (AW (t+1)) w v ns (b++[(9,ns.getD t.toNat 0,0,0,[],())])else none else none)
  (if b.length+1<=C_ then(sEv v (b++[(10,0,0,0,[],())])).bind fun u=>AAP n u.1.1.2.1 1 w u.1.1.1 ns []else none):=rfl
theorem uY{n:Nat}{o:Bool}{t i:Int}{w v:AA}{ns:AAB}{b:List Ao}:ADE (n+1) o t i w v ns b=
 cond (decide (i<(ns.length:Int)))
  (if(0:Int)<=i/\i<(ns.length:Int)then if(0:Int)<=i/\i<(ns.length:Int)then if b.length+2<=C_ then ADE n o t (AW (i+1)) w v ns (b++[(11,0,t,ns.getD i.toNat 0,[],()),(4,ns.getD i.toNat 0,0,0,[],())])else none else none else none)
  (AAP n o (AW (t+1)) w v ns b):=rfl
theorem AMX{n:Nat}{t:Int}{w v:AA}(hw:dX w){ns:AAB}:AAP (n+1) false t w v ns []=some (wa (w,false)):=by
 show(if([]:List Ao).length+1<=C_ then(Fa (w.1,w.2.1,w.2.2.1,w.2.2.2.1,w.2.2.2.2.1,w.2.2.2.2.2.1,w.2.2.2.2.2.2.1,w.2.2.2.2.2.2.2.1,w.2.2.2.2.2.2.2.2.1,w.2.2.2.2.2.2.2.2.2.1,w.2.2.2.2.2.2.2.2.2.2.1,())).bind (fun QK=>some ((((QK.2.1,QK.1.1.2.1,QK.2.2.1,QK.2.2.2.1,QK.2.2.2.2.1,QK.1.1.2.2.2.2.2.1,QK.2.2.2.2.2.1,QK.2.2.2.2.2.2.1,QK.2.2.2.2.2.2.2.1,QK.2.2.2.2.2.2.2.2.1,QK.1.1.2.2.2.2.2.2.2.2.2.2.1,()),false,()),()),()))else none)=_
 rw[AOJ (by rw[Ap];simp),Gk w,Q_ hw];rfl
theorem ANe{n:Nat}{t:Int}{w v:AA}{ns:AAB}{b:List Ao}(hm:0<v.An.length)(ht:t<=((v.An.getD 0 Ei).2.2.2.2.2.1.length:Int)):AAP (n+1) true t w v ns b=ADE n true t 0 w v ns b:=by
 show(if(0:Int)<=(0:Int)/\(0:Int)<(v.An.length:Int)then cond (decide (t<=((v.An.getD 0 Ei).2.2.2.2.2.1.length:Int))) (ADE n true t 0 w v ns b) _ else none)=_
 rw[AOJ (by omega),AVH ht,APm]
theorem AEZ{n:Nat}{t:Int}{w v:AA}(hw:dX w){ns:AAB}{b:List Ao}(hm:0<v.An.length)(ht: ¬t<=((v.An.getD 0 Ei).2.2.2.2.2.1.length:Int))(hb:b.length<=2000):AAP (n+1) true t w v ns b=
  (sEv v (b++[(12,0,0,0,[],())])).bind fun u=>cond (!u.1.1.2.1) (some (wa (w,false))) (some (wa (u.1.1.1,true))):=by
 show(if(0:Int)<=(0:Int)/\(0:Int)<(v.An.length:Int)then cond (decide (t<=((v.An.getD 0 Ei).2.2.2.2.2.1.length:Int))) (ADE n true t 0 w v ns b) (if b.length+1<=C_ then(sEv v (b++[(12,0,0,0,[],())])).bind (fun QR=>cond (!QR.1.1.2.1) ((Fa (w.1,w.2.1,w.2.2.1,w.2.2.2.1,w.2.2.2.2.1,w.2.2.2.2.2.1,w.2.2.2.2.2.2.1,w.2.2.2.2.2.2.2.1,w.2.2.2.2.2.2.2.2.1,w.2.2.2.2.2.2.2.2.2.1,w.2.2.2.2.2.2.2.2.2.2.1,())).bind (fun QK=>some ((((QK.2.1,QK.1.1.2.1,QK.2.2.1,QK.2.2.2.1,QK.2.2.2.2.1,QK.1.1.2.2.2.2.2.1,QK.2.2.2.2.2.1,QK.2.2.2.2.2.2.1,QK.2.2.2.2.2.2.2.1,QK.2.2.2.2.2.2.2.2.1,QK.1.1.2.2.2.2.2.2.2.2.2.2.1,()),false,()),()),()))) (some (wa (QR.1.1.1,true))))else none)else none)=_
 rw[AOJ (by omega),AVY ht,AOk,AOJ (by rw[Ap];omega),Gk w,Q_ hw];rfl
theorem iR{w v:AA}{t:Int}{ns:AAB}(hk:ns.length<=8)(ht:0<=t/\t<=1000):∀(m j f:Nat) {b:List Ao},j+m=ns.length->b.length+2*m<=5000->
  ADE (f+m+1) true t (j:Int) w v ns b=AAP f true (t+1) w v ns (b++(ns.drop j).flatMap fun n:Int=>[(11,0,t,n,[],()),(4,n,0,0,[],())])
 |0,j,f,b,hj,hb=>by
  rw[uY];simp only[AB];rw[AOK (by omega),APk (by omega),AH (x:=t+1) (by omega) (by omega)];simp
 |m+1,j,f,b,hj,hb=>by
  have Ha:j<ns.length:=by omega
  have hg:ns.getD j 0=ns[j]:=Ph Ha;rw[show f+(m+1)+1=(f+m+1)+1 by omega,uY];simp only[AB];rw[AOJ (by omega),AOJ (by omega),AOJ (by omega),AOJ (by rw[Ap];omega),AO2,hg,AH (x:=(j:Int)+1) (by omega) (by omega)];have ih:=iR (w:=w) (v:=v) hk ht m (j+1) f (b:=b++[(11,0,t,ns[j],[],()),(4,ns[j],0,0,[],())]) (by omega) (by simp;omega);rw[show((j+1:Nat):Int)=(j:Int)+1 by omega]at ih;rw[ih,AVd Ha,AZt,AQM]
noncomputable def AW5 (w v:AA) (l:List Ao):Option Ca:=(sEv v l).bind fun u=>cond (!u.1.1.2.1) (some (wa (w,false))) (some (wa (u.1.1.1,true)))
theorem hU{w v:AA}{ns:AAB}(hw:dX w)(hm:0<v.An.length)(hk:ns.length<=8)(hc:(v.An.getD 0 Ei).2.2.2.2.2.1.length<=60):∀(m i f:Nat) {b:List Ao},i+m=(v.An.getD 0 Ei).2.2.2.2.2.1.length->b.length+16*m<=2000->m*11+1<=f->
  AAP f true ((i:Int)+1) w v ns b=AW5 w v (b++(iP ns m i++[(12,0,0,0,[],())]))
 |m,i,0,b,_,_,hf=>by omega
 |0,i,f+1,b,hi,hb,hf=>by
  rw[AEZ hw hm (by omega) (by omega)];rfl
 |m+1,i,f+1,b,hi,hb,hf=>by
  rw[ANe hm (by omega)];obtain⟨g,rfl⟩:∃g,f=g+ns.length+1:=⟨f-ns.length-1,by omega⟩;have h6:=iR (w:=w) (v:=v) (t:=(i:Int)+1) hk (by omega) ns.length 0 g (b:=b) (by omega) (by omega);refine h6.trans ?_
  have hlen:((ns.drop 0).flatMap fun n:Int=>[((11,0,(i:Int)+1,n,[],()):Ao),(4,n,0,0,[],())]).length=2*ns.length:=by
   rw[AUN];exact lf
  have ih:=hU hw hm hk hc m (i+1) g (b:=b++(ns.drop 0).flatMap fun n:Int=>[(11,0,(i:Int)+1,n,[],()),(4,n,0,0,[],())]) (by omega) (by rw[ASB,hlen];omega) (by omega);rw[show((i+1:Nat):Int)=(i:Int)+1 by omega]at ih;rw[ih];simp only[iP,AUN,AQM]
def AYJ(b:Bool)(r:Option Ca):Prop:= ∃u:AA,r=some (wa (u,b))
theorem iK{w v:AA}{ns:AAB}(hk:ns.length<=8):∀(m i f:Nat) {b:List Ao},i+m=ns.length->b.length+m<=100->
  AFi (f+m) (i:Int) w v ns b=AFi f (ns.length:Int) w v ns (b++(ns.drop i).map fun n:Int=>(9,n,0,0,[],()))
 |0,i,f,b,hi,hb=>by
  rw[APk (by omega),show i=ns.length by omega];simp
 |m+1,i,f,b,hi,hb=>by
  have Ha:i<ns.length:=by omega
  have hg:ns.getD i 0=ns[i]:=Ph Ha;rw[show f+(m+1)=(f+m)+1 by omega,vA];simp only[AB];rw[AOJ (by omega),AOJ (by omega),AOJ (by rw[Ap];omega),AO2,hg,AH (x:=(i:Int)+1) (by omega) (by omega)];have ih:=iK (w:=w) (v:=v) hk m (i+1) f (b:=b++[(9,ns[i],0,0,[],())]) (by omega) (by simp;omega);rw[show((i+1:Nat):Int)=(i:Int)+1 by omega]at ih;refine ih.trans ?_
  rw[AVd Ha,AW2,AQM];rfl
theorem lK{w v:AA}(hw:dX w)(h:KU v)(hr:AS Ak v.AX<=100000):
  AYJ ((allM true v ((Lo v).map (fun n=>(9,n,0,0,[],()))++[(10,0,0,0,[],())])).bind fun v1=>allM true v1 (OC (v1.An.getD 0 Ei).2.2.2.2.2.1.length (Lo v)++[(12,0,0,0,[],())])).isSome (AFi AZ 0 w v (Lo v) []):=by
 have hk:=jK h;have wj:=tv h
 generalize Lo v=ns at*
 obtain⟨g,hg⟩:∃g,AZ=(g+700+1+1)+ns.length:=⟨AZ-ns.length-702,by have:=Ac (n:=1000) (by omega);omega⟩;have hb:=iK (w:=w) (v:=v) hk ns.length 0 (g+700+1+1) (b:=[]) (by omega) (by simp;omega);rw[<-hg]at hb;rw[show((0:Nat):Int)=0 from rfl]at hb;rw[hb,vA];simp only[AB];have hsl:=yR hk;have hsi:=ABE wj;rw[AVJ];rw[AOK (by omega),AOJ (by rw[Ap];omega)];have hl1:((ns.drop 0).map (fun n:Int=>((9,n,0,0,[],()):Ao))++[((10,0,0,0,[],()):Ao)]).length<=9:=by rw[ASB];simp only[ART,AS0];omega
 obtain⟨v1,e1,f1⟩:=cE (l:=(ns.drop 0).map (fun n:Int=>((9,n,0,0,[],()):Ao))++[(10,0,0,0,[],())]) h (by omega) (xk hsi) (by omega);rw[AUN]at e1 f1|-;rw[show sEv v (ns.map (fun n:Int=>((9,n,0,0,[],()):Ao))++[(10,0,0,0,[],())])=_ from e1];simp only[AD];cases hA:allM true v (ns.map (fun n:Int=>((9,n,0,0,[],()):Ao))++[(10,0,0,0,[],())])with
 |none=>
  rw[AZl];exact⟨w,AMX hw⟩
 |some v2=>
  have:=f1 v2 hA;subst this;obtain⟨uC,rd1⟩:=dB h hA;rw[AUN]at hl1;have hm:=ui hA;have hc:=wW uC;have zQ:=jd hk hc;rw[AOv,AVT];have h19:=hU (w:=w) hw hm hk hc (v1.An.getD 0 Ei).2.2.2.2.2.1.length 0 (g+700+1) (b:=[]) (by omega) (by show 0+16*_<=2000;omega) (by omega);rw[show((0:Nat):Int)+1=1 from rfl,AVJ,<-fY]at h19;rw[h19];obtain⟨v3,e3,f3⟩:=cE (l:=OC (v1.An.getD 0 Ei).2.2.2.2.2.1.length ns++[(12,0,0,0,[],())]) uC (by omega) (uh wj) (by omega);unfold AW5;rw[show sEv v1 (OC (v1.An.getD 0 Ei).2.2.2.2.2.1.length ns++[(12,0,0,0,[],())])=_ from e3];simp only[AD];cases allM true v1 (OC (v1.An.getD 0 Ei).2.2.2.2.2.1.length ns++[(12,0,0,0,[],())])with
  |none=>exact⟨w,rfl⟩
  |some v4=>exact⟨v3,rfl⟩
theorem iC{u:AA}(h:KU u){e:Int}:Qr u (BK u.Am e)=some (((),()),(less (BK u.Am e) u.lost,())):=by
 have h1:(BK u.Am e).length<=8:=Er h;have h4:u.lost.length<=8:=Fl h.lost;unfold Qr;rw[show u.2.2.2.1=u.lost from rfl,H_ (by omega) (by omega)];rfl
theorem jS{w:AA}(Kx:dX w)(hr:AS Ak w.AX<=60000):AYJ (W7 true w).isSome (RU w.1 w.2.1 w.2.2.1 w.2.2.2.1 w.2.2.2.2.1 w.2.2.2.2.2.1 w.2.2.2.2.2.2.1 w.2.2.2.2.2.2.2.1 w.2.2.2.2.2.2.2.2.1 w.2.2.2.2.2.2.2.2.2.1 w.2.2.2.2.2.2.2.2.2.2.1):=by
 unfold RU UQ;rw[Gk w,WO Kx,Q_ Kx];simp only[AD];rw[show w.2.2.2.2.2.2.2.1.length=w.An.length from rfl];unfold W7;rcases AOB (Cq w)with hw|hw
 rotate_left
 ·rw[hw]
  exact⟨ON,rfl⟩
 have EP:=Co.1 hw;rw[AOJ hw,hw,AOx,AOk];by_cases hm:w.An.length=0
 ·rw[AVi.2 (show(w.An.length:Int)=0 by omega),APm,AOJ hm,RN Kx (d:=(8,0,0,0,[],())) (by show CB 0;unfold CB;omega)]
  simp only[AD,allM];by_cases h0:(BJ true w (8,0,0,0,[],())).2=0
  rotate_left
  ·rw[AOK h0,show((gT (BJ true w (8,0,0,0,[],()))).1.1.2.1 !=0)=true by show((BJ true w (8,0,0,0,[],())).2 !=0)=true;simpa using h0,APm]
   exact⟨w,rfl⟩
  rw[AOJ h0,show((gT (BJ true w (8,0,0,0,[],()))).1.1.2.1 !=0)=false by show((BJ true w (8,0,0,0,[],())).2 !=0)=false;rw[h0];rfl,AOk,AOv];have uC:=Co.1 (PR h0);have rd1:=Yr EP h0;have hmv:=AGb h0
  generalize hq:BJ true w (8,0,0,0,[],())=q at*
  have key:=lK (w:=w) Kx uC (by omega);have h3:AS Bk q.1.Am<=270:=uC.jx.w;rw[AOJ (show(0:Int)<=(0:Int)/\(0:Int)<((gT q).2.2.2.2.2.2.1.length:Int)from⟨by omega,by have:(gT q).2.2.2.2.2.2.1.length=q.1.An.length:=rfl;omega⟩),show(gT q).2.2.2.2.2.2.1.getD 0 (0,0,[],[],false,[],())=q.1.An.getD 0 Ei from rfl,show((gT q).2.1,(gT q).1.1.1.2.1,(gT q).2.2.1,(gT q).2.2.2.1,(gT q).2.2.2.2.1,(gT q).1.1.1.2.2.2.2.2.1,(gT q).2.2.2.2.2.1,(gT q).2.2.2.2.2.2.1,(gT q).2.2.2.2.2.2.2.1,(gT q).2.2.2.2.2.2.2.2.1,(gT q).1.1.1.2.2.2.2.2.2.2.2.2.2.1,())=q.1 from rfl,show((gT q).2.2.2.2.1,(gT q).1.1.1.2.2.2.2.2.1,())=CQ q.1 from rfl,D4 (by show AS Bk q.1.Am<=_;omega)];simp only[AD];rw[show(CQ q.1).1=q.1.Am from rfl,iC uC];simp only[AD];exact key
 ·have hmv:0<w.An.length:=by omega
  have key:=lK (w:=w) Kx EP (by omega);have h3:AS Bk w.Am<=270:=EP.jx.w;rw[AS8.2 (show(w.An.length:Int)≠0 by omega),AOk,AOK hm,AOv];rw[AOJ (show(0:Int)<=(0:Int)/\(0:Int)<(w.An.length:Int)from⟨by omega,by omega⟩),show w.2.2.2.2.2.2.2.1.getD 0 (0,0,[],[],false,[],())=w.An.getD 0 Ei from rfl,show(w.2.2.2.2.1,w.2.2.2.2.2.1,())=CQ w from rfl,D4 (by show AS Bk w.Am<=_;omega)];simp only[AD];rw[show(CQ w).1=w.Am from rfl,iC EP];simp only[AD];exact key
theorem ADm{x:AAB}(hc:x.length<=2^30):∃w:AA,KQ x=some ((w,()),())/\dX w/\AS Ak w.AX<=60000:=by
 obtain⟨h0,e0⟩:=AGi hc;unfold KQ;rw[e0];simp only[AD];obtain⟨q,i1,h1,y,e1,MJ,hq⟩:=vv hc (i:=0) (hh:=h0) ⟨by omega,by omega⟩ hc;rw[e1];simp only[AD]
 generalize sF:dwW q y=w at hq
 obtain⟨⟨Kx,hvin⟩,hwt,hwr⟩:=hq;have a0:y.1=w.1:=by rw[<-sF]
 have a1:y.2.1=w.2.2.1:=by rw[<-sF]
 have a2:y.2.2.1=w.2.2.2.1:=by rw[<-sF]
 have a3:y.2.2.2.1=w.2.2.2.2.1:=by rw[<-sF]
 have a4:y.2.2.2.2.1=w.2.2.2.2.2.2.1:=by rw[<-sF]
 have a5:y.2.2.2.2.2.1=w.2.2.2.2.2.2.2.1:=by rw[<-sF]
 have a6:y.2.2.2.2.2.2.1=w.2.2.2.2.2.2.2.2.1:=by rw[<-sF]
 have a7:y.2.2.2.2.2.2.2.1=w.2.2.2.2.2.2.2.2.2.1:=by rw[<-sF]
 have a8:q.1.2.1=w.2.1:=by rw[<-sF]
 have a9:q.1.2.2.2.2.2.1=w.2.2.2.2.2.1:=by rw[<-sF]
 have a10:q.1.2.2.2.2.2.2.2.2.2.2.1=w.2.2.2.2.2.2.2.2.2.2.1:=by rw[<-sF]
 rw[a0,a1,a2,a3,a4,a5,a6,a7,a8,a9,a10,Gk w,WO Kx];simp only[AD];have xM:∃w':AA,(some ((w,()),()):Option SI)=some ((w',()),())/\dX w'/\AS Ak w'.AX<=60000:=⟨w,rfl,Kx,by
  have:AS Ak w.AX<=50000:=hwr;omega⟩
 cases hw:Cq w with
 |false=>rw[AOk];exact xM
 |true=>
  rw[APm];obtain⟨x5,i5,h5,y5,e5,hi5,_⟩:=QM hc (code:=x) (n:=2) (h:=h1) MJ (by omega);rw[e5];simp only[AD];cases x5.1 with
  |false=>rw[AOk];exact xM
  |true=>
   rw[APm];have EP:=Co.1 hw;have Xq:=(D8 EP.cfg).2.1;have Aa2:w.1.length<=8:=Xq;obtain⟨x6,i6,h6,y6,e6,hi6,hq6⟩:=dN hc (code:=x) (c:=(w.1,w.2.1,())) (by show w.1.length<=_;omega) (h:=h5) hi5;rw[e6];simp only[AD];obtain⟨r,e7,hr7⟩:=ln (l:=y6.1) (by omega);rw[e7];simp only[AD];rw[RN Kx (d:=(1,r,0,0,[],())) hr7];simp only[AD];by_cases h0:(BJ true w (1,r,0,0,[],())).2=0
   ·rw[show((gT (BJ true w (1,r,0,0,[],()))).1.1.2.1==0)=true by show((BJ true w (1,r,0,0,[],())).2==0)=true;simpa using h0,APm]
    have uC:=Co.1 (PR h0);have rd1:=Yr EP h0;have AgF:AS Ak w.AX<=50000:=hwr;exact⟨(BJ true w (1,r,0,0,[],())).1,rfl,uC.AFA (by omega),by omega⟩
   ·rw[show((gT (BJ true w (1,r,0,0,[],()))).1.1.2.1==0)=false by show((BJ true w (1,r,0,0,[],())).2==0)=false;simpa using h0,AOk]
    exact xM
theorem AHK{all:Bool}{w v:AA}(h:W7 all w=some v):AS Ak v.AX<=AS Ak w.AX+41000:=by
 unfold W7 at h;by_cases hw:Cq w=true
 rotate_left
 ·rw[AOK hw]at h;cases h
 rw[AOJ hw]at h;rw[AOc]at h;obtain⟨v0,e0,h⟩:=h;rw[AOc]at h;obtain⟨v1,e1,h⟩:=h;have EP:=Co.1 hw;have i0:KU v0/\AS Ak v0.AX<=AS Ak w.AX+41:=by
  split at e0
  ·have:=dB EP e0
   simp only[ART,AS0]at this;exact⟨this.1,by omega⟩
  ·cases e0;exact⟨EP,by omega⟩
 obtain⟨uC,r1⟩:=dB i0.1 e1;obtain⟨ok2,r2⟩:=dB uC h;have hk:=jK i0.1;have hl1:((Lo v0).map (fun n:Int=>((9,n,0,0,[],()):Ao))++[((10,0,0,0,[],()):Ao)]).length<=9:=by rw[ASB,AWA];simp only[ART,AS0];omega
 have vq:=jd hk (wW uC);omega
theorem lh{x:AAB}(hx:Go.Fw.Vd (.sl (.int .u8)) x):K7 x=some ((true,()),()):=by
 unfold K7 sX;simp only[AOv,AB];by_cases hs:(x.length:Int)>1048576
 ·rw[AOJ hs]
 rw[AOK hs];obtain⟨w,e1,Kx,ZH⟩:=ADm (x:=x) (by omega);rw[e1];simp only[AOv];obtain⟨u,hu⟩:=jS Kx ZH;rw[Gk w,jT Kx ZH,hu];simp only[AOv];rw[AAu];cases hA:W7 false w with
 |none=>
  rw[show((T7 (lq w none)).1.1.2.1 !=(wa (u,(none:Option AA).isSome)).1.1.2.1)=false from rfl,AOk,show(!(T7 (lq w none)).1.1.2.1)=true from rfl,APm];unfold lq;cases hw:Cq w with
  |true=>
   rw[show(((T7 (if true=true then w else ON,false)).2.2.2.2.1.length:Int)==(w.2.2.2.2.1.length:Int))=true from AZz _,APm]
  |false=>
   rw[show(((T7 (if false=true then w else ON,false)).2.2.1.length:Int)==0)=true from rfl];cases((((T7 (if false=true then w else ON,false)).2.2.2.2.1.length:Int))==(w.2.2.2.2.1.length:Int))<;>rfl
 |some v=>
  obtain⟨k,k1,k2,k3,k4,k5,k6,k7⟩:=w4 hA;have hev:v.Am.length<=30:=k6.jx.n;have hew:w.Am.length<=30:=by
   unfold W7 at hA;by_cases hw:Cq w=true
   ·exact(Co.1 hw).jx.n
   ·rw[AOK hw]at hA;cases hA
  rw[show((T7 (lq w (some v))).1.1.2.1 !=(wa (u,(some v).isSome)).1.1.2.1)=false from rfl,AOk,show(!(T7 (lq w (some v))).1.1.2.1)=false from rfl,AOk,K5 (by show w.Am.length<=_;omega)];simp only[AOv];rw[show(w.2.2.2.2.1,w.2.2.2.2.2.1,()).1=w.Am from rfl,k2,AH (x:=(k:Int)+1-1) (by omega) (by omega),AH (x:=(k:Int)+1+1) (by omega) (by omega)];rw[AOJ (show(0:Int)<=(k:Int)+1-1/\(k:Int)+1-1<((T7 (lq w (some v))).2.2.2.2.1.length:Int)from⟨by omega,by have:(T7 (lq w (some v))).2.2.2.2.1.length=v.Am.length:=rfl;omega⟩),show((k:Int)+1-1).toNat=k by omega,show((T7 (lq w (some v))).2.2.2.2.1.getD k ([],false,0,())).2.1=true from k3,APm,K5 (by show v.Am.length<=_;omega)];simp only[AOv];rw[show((T7 (lq w (some v))).2.2.2.2.1,(T7 (lq w (some v))).1.1.1.2.2.2.2.2.1,()).1=v.Am from rfl,k4,show((k:Int)+2==(k:Int)+1+1)=true by rw[AVi];omega,APm];rw[show(((T7 (lq w (some v))).2.2.2.2.2.2.1.length:Int)==0)=true by
   rw[show(T7 (lq w (some v))).2.2.2.2.2.2.1=v.An from rfl,k5];rfl,APm]
  have aP:AS Ak v.AX<=900000:=by
   have:=AHK hA;omega
  rw[show((T7 (lq w (some v))).2.1,(T7 (lq w (some v))).1.1.1.2.1,(T7 (lq w (some v))).2.2.1,(T7 (lq w (some v))).2.2.2.1,v.Am,(T7 (lq w (some v))).1.1.1.2.2.2.2.2.1,(T7 (lq w (some v))).2.2.2.2.2.1,(T7 (lq w (some v))).2.2.2.2.2.2.1,(T7 (lq w (some v))).2.2.2.2.2.2.2.1,(T7 (lq w (some v))).2.2.2.2.2.2.2.2.1,(T7 (lq w (some v))).1.1.1.2.2.2.2.2.2.2.2.2.2.1,())=v from rfl,Iy (k6.AFA aP),Co.2 k6];simp only[AOv];rw[APm,show(T7 (lq w (some v))).2.2.2.2.2.2.2.2.1.length=v.Ai.length from rfl,k7,show(w.2.2.2.2.2.2.2.2.2.1.length:Int)=(w.Ai.length:Int)from rfl,AZz]
end Go.M
end
