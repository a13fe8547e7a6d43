/- Plain facts on what the functions compute. -/
import Derived.Test.YtebiojjohcpanaaGreatM0
set_option linter.unusedVariables false
set_option linter.unusedSimpArgs false
set_option linter.unusedSectionVars false
section
set_option maxRecDepth 8000
namespace Go.M
open Go.M.H (AK AQ Av Af AA CR AO Ay AR Ah BR A6 BN Al CD AX AW Aa Ai Bh A4 Ap A_ EH CP Cv C3)
abbrev AXh:AK×Unit→Unit→Prop:=fun x _=>CO x.1.1∧x.1.2.2.2.1.length≤41
section
variable{code:AAG} (hc:code.length≤2^30)
include hc
theorem XK{i hh:Int}(hi:Cb code i):OK code (fun(x:AB5) (_:Unit)=>CO x.1) (FJ code i hh):=by
 obtain⟨v,i1,h1,e,a,b,MI⟩:=rO hc (h:=hh) hi;exact⟨(v,()),i1,h1,(),e,MI,by unfold CO;omega⟩
theorem nB{i hh:Int}(hi:Cb code i):OK code AXh (MZ code i hh):=by
 unfold MZ;dsimp only;refine OK.bind (B5 hc hi (by omega)) fun x1 i1 h1 y1 MI hq1=> ?_
 dsimp only at*;refine OK.bind (B5 hc MI (by omega)) fun x2 i2 h2 y2 IY sf=> ?_
 dsimp only at*;rw[AJ (by omega) (by omega),AJ (x:=1+x2.1) (by omega) (by omega)];refine OK.pure (FD (by omega) (by omega)) ?_
 dsimp only;have hp:=IU (e:=1+x1.1) (o:=1+x2.1) (by omega) (by omega);have hpi:=Gr hp.1;refine OK.bind (fi hc IY (by simp) (by simp)) fun x3 i3 h3 y3 LQ V1=> ?_
 dsimp only at*;have hl:x3.1.length≤41:=by
  simp only[AQQ,List.not_mem_nil,or_false]at V1;rcases V1 with h|h|h|h|h<;>rw[h]<;>simp
 refine OK.bind (P3 hc LQ (by omega)) fun x4 i4 h4 y4 wG hq4=> ?_
 dsimp only;refine OK.cond (fun _=> ?_) (fun _=>OK.some wG ⟨hpi,hl⟩);refine OK.pure (EN hpi) ?_
 dsimp only;refine OK.bind (B5 hc wG (by omega)) fun x5 i5 h5 y5 hi5 hq5=> ?_
 dsimp only;refine OK.bind (P3 hc hi5 (by omega)) fun x6 i6 h6 y6 hi6 hq6=> ?_
 dsimp only;exact OK.cond (fun _=>OK.some hi6 ⟨hpi,by show 0≤41;omega⟩) (fun _=>OK.some hi6 ⟨hpi,hl⟩)
theorem jD{i hh:Int}(hi:Cb code i):OK code AXh (Re code i hh):=by
 unfold Re;refine OK.bind (nB hc hi) fun x i h y hi hq=> ?_
 dsimp only at*;refine OK.bind (B5 hc hi (by omega)) fun x2 i2 h2 y2 IY sf=> ?_
 dsimp only at*;refine OK.GP (fun _=> ?_) (fun _=> ?_)
 ·refine OK.bind (XK hc IY) fun x3 i3 h3 y3 LQ V1=> ?_
  exact OK.some LQ ⟨V1,hq.2⟩
 refine OK.GP (fun _=> ?_) (fun _=> ?_)
 ·refine OK.bind (Q8 hc IY (by simp) (by simp)) fun x3 i3 h3 y3 LQ V1=> ?_
  exact OK.some LQ hq
 refine OK.GP (fun _=>OK.some IY hq) (fun _=> ?_);refine OK.GP (fun _=> ?_) (fun _=>OK.some IY hq);refine OK.bind (B5 hc IY (by omega)) fun x3 i3 h3 y3 LQ V1=> ?_
 dsimp only at*;rw[AJ (by omega) (by omega)];refine OK.ite (by rw[Au];omega) ?_
 refine OK.some LQ ⟨hq.1,?_⟩;simp only[AWH,AUf];omega
abbrev StQ:AEp→((List AK)×(List AK)×Unit)→Prop:=fun x y=>kH (y.1,y.2.1,x.1.2.2.1,())∧y.1.length≤300∧y.2.1.length≤300∧(∀e∈y.1,Ai e≤41)∧(∀e∈y.2.1,Ai e≤41)
theorem AR1{s:AQ}(h:cZ s):kH s∧s.1.length≤200∧s.2.1.length≤20∧(∀e∈s.1,Ai e≤41)∧(∀e∈s.2.1,Ai e≤41):=
 ⟨h.sin,h.nk,h.nl,fun e he=>by have:=(GS.1 (h.kept e he)).len;unfold Ai;omega,fun e he=>by have:=(GS.1 (h.late e he)).len;unfold Ai;omega⟩
theorem zo{x2 x3:List AK}{z:Int}{sl:Int}{l6:List AK}{i hh:Int}(hi:Cb code i)(h6:gB l6∧l6.length≤20∧ ∀e∈l6,Ai e≤41):∀n:Nat,
  (∀(k:Nat) (b:List AK),1≤k→k≤5→(5-k)*60+1≤n→b.length≤(k-1)*50→gB b→(∀e∈b,Ai e≤41)→OK code StQ (Eu n k code i hh z x2 x3 sl b l6))∧
  (∀(k j:Nat) (b:List AK),1≤k→k≤4→1≤j→j≤51→(4-k)*60+1+(51-j)+1≤n→b.length≤(k-1)*50+(j-1)→gB b→(∀e∈b,Ai e≤41)→OK code StQ (Et n k j code i hh z x2 x3 sl b l6)):=by
 intro n
 induction n with
 |zero=>exact⟨fun k b _ _ h=>by omega,fun k j b _ _ _ _ h=>by omega⟩
 |succ n ih=>
  refine⟨fun k b h1 h2 hn hb hbi q8=> ?_,fun k j b h1 h2 h3 h4 hn hb hbi q8=> ?_⟩
  ·simp only[Eu,Rx]
   refine OK.Qa (fun Hh=>ih.2 k 1 b h1 (by omega) (by omega) (by omega) (by omega) (by omega) hbi q8) (fun yS=> ?_);exact OK.some hi ⟨⟨hbi,h6.1⟩,by show b.length≤300;omega,by show l6.length≤300;omega,q8,h6.2.2⟩
  ·simp only[Et,Rt]
   refine OK.Qa (fun Hh=> ?_) (fun yS=> ?_)
   ·refine OK.pure (FD (by omega) (by omega)) ?_
    dsimp only;refine OK.ite (by rw[Au];omega) ?_
    rw[AJ (by omega) (by omega),show((j:Int)+1)=((j+1:Nat):Int)by omega];have hp:=Gr (IU (e:=(k:Int)) (o:=(j:Int)) (by omega) (by omega)).1;refine ih.2 k (j+1) _ h1 h2 (by omega) (by omega) (by omega) (by simp;omega) (fun e he=> ?_) (fun e he=> ?_)
    ·rcases AOt.1 he with he|he
     ·exact hbi e he
     ·rw[AT3.1 he];exact hp
    ·rcases AOt.1 he with he|he
     ·exact q8 e he
     ·rw[AT3.1 he];show 0≤41;omega
   ·rw[AJ (by omega) (by omega),show((k:Int)+1)=((k+1:Nat):Int)by omega]
    exact ih.1 (k+1) b (by omega) (by omega) (by omega) (by omega) hbi q8
theorem ACy{x2 x3:List AK}{z:Int}{T:Int}(hT:T≤100):∀(n k:Nat) (i hh:Int) (s:AQ),Cb code i→(k:Int)≤max T 0→(T-k).toNat+400≤n→cZ s→
  OK code StQ (EY n T k code i hh z x2 x3 s.2.2.1 s.1 s.2.1):=by
 intro n
 induction n with
 |zero=>intro k i hh s _ _ h;omega
 |succ n ih=>
  intro k i hh s hi hk hn hs;have hsw:=hs.w;simp only[EY,S_];refine OK.Qa (fun Hh=> ?_) (fun yS=> ?_)
  ·rw[AJ (x:=(k:Int)+1) (by omega) (by omega),show((k:Int)+1)=((k+1:Nat):Int)by omega]
   have next:∀(i hh:Int) (s:AQ),Cb code i→cZ s→OK code StQ (EY n T ((k+1:Nat):Int) code i hh z x2 x3 s.2.2.1 s.1 s.2.1):=fun i hh s hi hs=>ih (k+1) i hh s hi (by omega) (by omega) hs
   refine OK.bind (nB hc hi) fun x i1 h1 y MI hq=> ?_
   dsimp only at*;rw[show(s.1,s.2.1,s.2.2.1,())=s from rfl,show(x.1.1,x.1.2.1,x.1.2.2.1,x.1.2.2.2.1,())=x.1 from rfl];refine OK.pure (UH (by omega) hs.sin hq.1) ?_
   dsimp only[jI];have AF4:cZ (GM s x.1).1:=by
    rcases AMo (GM s x.1).2 with h2|h2
    ·exact(Zg h2).1
    ·unfold GM at h2⊢
     rw[DC.2 hs]at h2⊢;simp only[ANX,ANZ,AQ7]at h2⊢;split at h2
     ·cases h2
     ·rename_i hn;rw[AM5 hn];exact hs
   have AdB:=AF4.w;have AMm:∀s:AQ,cZ s→(Bk s).2=true→cZ (Bk s).1:=fun s hs h2=>(K8 h2).2.1
   refine OK.bind (B5 hc MI (by omega)) fun x2' i2 h2 y2 IY sf=> ?_
   dsimp only at*;refine OK.GP (fun _=> ?_) (fun _=> ?_)
   ·refine OK.pure (OJ (by omega) hs.sin) ?_
    dsimp only[jI];exact OK.cond (fun hb=>next _ _ _ IY (AMm s hs hb)) (fun _=>next _ _ _ IY hs)
   refine OK.GP (fun _=> ?_) (fun _=> ?_)
   ·refine OK.pure (OJ (s:=(GM s x.1).1) (by omega) AF4.sin) ?_
    dsimp only[jI];exact OK.cond (fun hb=>next _ _ _ IY (AMm _ AF4 hb)) (fun _=>next _ _ _ IY hs)
   refine OK.GP (fun _=> ?_) (fun _=> ?_)
   ·refine OK.bind (P3 hc IY (by omega)) fun x3 i3 h3 y3 LQ V1=> ?_
    dsimp only;refine OK.cond (fun _=> ?_) (fun _=> ?_)
    ·refine OK.bind (B5 hc LQ (by omega)) fun x4 i4 h4 y4 wG hq4=> ?_
     dsimp only at*;refine OK.pure (ZD (by omega) hs.sin) ?_
     dsimp only[jI];exact OK.cond (fun hb=>next _ _ _ wG (qt hs)) (fun _=>next _ _ _ wG hs)
    ·exact OK.cond (fun hb=>next _ _ _ LQ AF4) (fun _=>next _ _ _ LQ hs)
   ·exact OK.cond (fun hb=>next _ _ _ IY AF4) (fun _=>next _ _ _ IY hs)
  ·refine OK.bind (P3 hc hi (by omega)) fun x3 i3 h3 y3 LQ V1=> ?_
   dsimp only;have hq:=AR1 hc hs;refine OK.cond (fun _=> ?_) (fun _=>OK.some LQ ⟨hq.1,by have:=hq.2.1;show s.1.length≤300;omega,by have:=hq.2.2.1;show s.2.1.length≤300;omega,hq.2.2.2.1,hq.2.2.2.2⟩);exact(zo hc LQ ⟨hq.1.2,hq.2.2.1,hq.2.2.2.2⟩ n).1 1 [] (by omega) (by omega) (by omega) (by simp) (fun e he=>by simp at he) (fun e he=>by simp at he)
theorem qE{i hh:Int}(hi:Cb code i):OK code StQ (GJ code i hh):=by
 unfold GJ TK;refine OK.bind (B5 hc hi (by omega)) fun x2' i2 h2 y2 IY sf=> ?_
 dsimp only at*;exact ACy hc (T:=x2'.1) (by omega) Ac 0 i2 h2 Dk IY (by omega) (AV2 (Ae (by omega))) cZ.nil
abbrev AU4:AEp→((List AK)×(List AK)×Unit)→Prop:=fun x y=>kH (y.1,y.2.1,x.1.2.2.1,())∧Al (y.1,y.2.1,x.1.2.2.1,())≤40000
theorem kd{s:AQ}(h1:kH s)(h2:s.1.length≤310)(h3:s.2.1.length≤330)(h4:∀e∈s.1,Ai e≤41)(h5:∀e∈s.2.1,Ai e≤41):kH s∧Al s≤40000:=by
 have a:=EK (f:=Ai) (B:=41) h2 h4;have b:=EK (f:=Ai) (B:=41) h3 h5;refine⟨h1,?_⟩;unfold Al;omega
theorem ACQ{x2 x3:List AK}{z sl:Int}{l5:List AK}(h5:gB l5∧l5.length≤300∧ ∀e∈l5,Ai e≤41):∀(n:Nat) (i hh:Int) (b:List AK),Cb code i→330-b.length<n→b.length≤310→gB b→(∀e∈b,Ai e≤41)→
  OK code AU4 (NL n code i hh z x2 x3 sl l5 b):=by
 intro n
 induction n with
 |zero=>intro i hh b _ h;omega
 |succ n ih=>
  intro i hh b hi hn hb hbi q8;simp only[NL,Yh];refine OK.bind (B5 hc hi (by omega)) fun x i2 h2 y2 IY sf=> ?_
  dsimp only at*;rw[AJ (by omega) (by omega)];refine OK.Qa (fun Hh=> ?_) (fun _=>OK.some IY (kd hc ⟨h5.1,hbi⟩ (by show l5.length≤_;omega) (by show b.length≤_;omega) h5.2.2 q8));refine OK.pure (FD (by omega) (by omega)) ?_
  dsimp only;refine OK.ite (by rw[Au];omega) ?_
  have hp:=Gr (IU (e:=5) (o:=1) (by omega) (by omega)).1;refine ih i2 h2 _ IY (by simp;omega) (by simp;omega) (fun e he=> ?_) (fun e he=> ?_)
  ·rcases AOt.1 he with he|he
   ·exact hbi e he
   ·rw[AT3.1 he];exact hp
  ·rcases AOt.1 he with he|he
   ·exact q8 e he
   ·rw[AT3.1 he];show 0≤41;omega
theorem ACk{i hh:Int}(hi:Cb code i):OK code AU4 (VX code i hh):=by
 unfold VX ZI;refine OK.bind (qE hc hi) fun x i1 h1 y MI hq=> ?_
 dsimp only at*;obtain⟨q1,q2,q3,q4,q5⟩:=hq;have base:kH (y.1,y.2.1,x.1.2.2.1,())∧Al (y.1,y.2.1,x.1.2.2.1,())≤40000:=kd hc q1 (by show y.1.length≤_;omega) (by show y.2.1.length≤_;omega) q4 q5;have add:∀{l:List AK} {e:AK},(∀x∈l,Ai x≤41)→Ai e≤41→ ∀x∈l++[e],Ai x≤41:=fun h1 h2 x hx=>by
  rcases AOt.1 hx with hx|hx
  ·exact h1 x hx
  ·rw[AT3.1 hx];exact h2
 have AVi:∀{l:List AK} {e:AK},gB l→CO e.1→gB (l++[e]):=fun h1 h2 x hx=>by
  rcases AOt.1 hx with hx|hx
  ·exact h1 x hx
  ·rw[AT3.1 hx];exact h2
 refine OK.bind (B5 hc MI (by omega)) fun x2 i2 h2 y2 IY sf=> ?_
 dsimp only at*;refine OK.GP (fun _=> ?_) (fun _=> ?_)
 ·refine OK.bind (Q8 hc IY (by simp) (by simp)) fun x3 i3 h3 y3 LQ V1=> ?_
  exact OK.some LQ base
 refine OK.GP (fun _=> ?_) (fun _=> ?_)
 ·refine OK.bind (jD hc IY) fun x3 i3 h3 y3 LQ V1=> ?_
  dsimp only;refine OK.ite (by rw[Au];omega) ?_
  exact OK.some LQ (kd hc ⟨AVi q1.1 V1.1,q1.2⟩ (by show(y.1++[_]).length≤_;simp;omega) (by show y.2.1.length≤_;omega) (add q4 V1.2) q5)
 refine OK.GP (fun _=> ?_) (fun _=> ?_)
 ·refine OK.bind (jD hc IY) fun x3 i3 h3 y3 LQ V1=> ?_
  dsimp only;refine OK.ite (by rw[Au];omega) ?_
  exact OK.some LQ (kd hc ⟨q1.1,AVi q1.2 V1.1⟩ (by show y.1.length≤_;omega) (by show(y.2.1++[_]).length≤_;simp;omega) q4 (add q5 V1.2))
 refine OK.GP (fun _=> ?_) (fun _=>OK.some IY base);exact ACQ hc ⟨q1.1,q2,q4⟩ Ac i2 h2 y.2.1 IY (Ae (by omega)) (by omega) q1.2 q5
end
end Go.M
end
section
set_option maxRecDepth 8000
namespace Go.M
open Go.M.H (AK AQ Av Af AA CR AO Ay AR Ah BR A6 BN Al CD AX AW Aa Ai Bh A4 Ap A_ EH CP Cv C3)
theorem jz{α:Type}{f:α→Nat}{x:α}:∀{l:List α} {i:Nat},AX f (l.set i x)≤AX f l+f x
 |[],i=>by simp[AX]
 |y::l,0=>by simp only[AXz,AX];omega
 |y::l,i+1=>by
  have:=jz (f:=f) (x:=x) (l:=l) (i:=i);simp only[List.set_cons_succ,AX];omega
abbrev AWJ:ADg→((List CR)×Unit)→Prop:=fun x y=>AX Bh y.1≤300000∧CO x.1.2.1
def qg(c:Bz)(r:AO):Prop:=ROk c r∨r=([],0,())
theorem qg.w{c:Bz}{r:AO}(h:qg c r):AX Bh r.1≤270:=by
 rcases h with h|rfl
 ·exact h.w
 ·show 0≤270;omega
theorem qg.n{c:Bz}{r:AO}(h:qg c r):r.1.length≤30:=by
 rcases h with h|rfl
 ·exact h.n
 ·show 0≤30;omega
theorem qg.tin{c:Bz}{r:AO}(h:qg c r):CO r.2.1:=by
 rcases h with h|rfl
 ·exact h.tin
 ·exact OE (by show-1000≤(0:Int)∧(0:Int)≤1000;omega)
section
variable{code:AAG} (hc:code.length≤2^30) {c:Bz} (aS:c.1.length≤2^10)
include hc aS
theorem AAQ{z:Int}{x3:List CR}:∀(n k:Nat) (i hh:Int) (r:AO),Cb code i→k≤7→7-k<n→qg c r→
  OK code (fun(x:ADg) (y:List CR×Unit)=>qg c (y.1,x.1.2.1,())) (G7 n k code i hh c.1 c.2.1 z x3 r.2.1 r.1):=by
 intro n
 induction n with
 |zero=>intro k i hh r _ _ h;omega
 |succ n ih=>
  intro k i hh r hi hk hn hr;have hrw:=hr.w;have hrt:=hr.tin;simp only[G7,TX];refine OK.bind (B5 hc hi (by omega)) fun x i1 h1 y MI hq=> ?_
  dsimp only at*;refine OK.Qa (fun Hh=> ?_) (fun _=>OK.some MI hr);rw[AJ (x:=(k:Int)+1) (by omega) (by omega),show((k:Int)+1)=((k+1:Nat):Int)by omega];have next:∀(i hh:Int) (r:AO),Cb code i→qg c r→OK code (fun(x:ADg) (y:List CR×Unit)=>qg c (y.1,x.1.2.1,())) (G7 n ((k+1:Nat):Int) code i hh c.1 c.2.1 z x3 r.2.1 r.1):=fun i hh r hi hr=>ih (k+1) i hh r hi (by omega) (by omega) hr
  rw[show(c.1,c.2.1,())=c from rfl,show(r.1,r.2.1,())=r from rfl];refine OK.bind (gl hc (by omega) MI) fun x2 i2 h2 y2 IY sf=> ?_
  dsimp only at*;refine OK.pure (ct (by omega) (by omega) hrt (by omega)) ?_
  dsimp only;refine OK.bind (B5 hc IY (by omega)) fun x3 i3 h3 y3 LQ V1=> ?_
  dsimp only at*;refine OK.GP (fun _=> ?_) (fun _=> ?_)
  ·refine OK.bind (B5 hc LQ (by omega)) fun x4 i4 h4 y4 wG hq4=> ?_
   dsimp only at*;refine OK.pure (bR (by omega) (by omega) hrt) ?_
   dsimp only[pkR];exact OK.cond (fun hb=>next _ _ (NY c r _ _).1 wG (.inl (nY hb).2.1)) (fun _=>next _ _ r wG hr)
  refine OK.GP (fun _=> ?_) (fun _=> ?_)
  ·refine OK.bind (B5 hc LQ (by omega)) fun x4 i4 h4 y4 wG hq4=> ?_
   dsimp only at*;refine OK.bind (B5 hc wG (by omega)) fun x5 i5 h5 y5 hi5 hq5=> ?_
   dsimp only at*;rw[AJ (by omega) (by omega),AJ (x:=1+x5.1) (by omega) (by omega)];refine OK.pure (FD (by omega) (by omega)) ?_
   dsimp only;have hp:=Gr (IU (e:=1+x4.1) (o:=1+x5.1) (by omega) (by omega)).1;refine OK.pure (dB (by omega) (by omega) hrt hp) ?_
   dsimp only[pkR];exact OK.cond (fun hb=>next _ _ (OT c r _).1 hi5 (.inl (p8 hb).2.1)) (fun _=>next _ _ r hi5 hr)
  ·exact OK.cond (fun hb=>next _ _ (Iu c r _).1 LQ (.inl (rX hb).2.1)) (fun _=>next _ _ r LQ hr)
theorem xE{i hh:Int}(hi:Cb code i):OK code (fun(x:ADg) (y:List CR×Unit)=>qg c (y.1,x.1.2.1,())) (Pf c code i hh):=by
 unfold Pf Ta;exact AAQ hc aS Ac 0 i hh ([],0,()) hi (by omega) (Ae (by omega)) (.inr rfl)
omit aS in
theorem zD{ns:AAG}(tP:ns.length≤2^13){z t:Int}{x2:List CR}(ht:CO t):∀(n:Nat) (i hh:Int) (b:List CR),Cb code i→40-b.length<n→b.length≤31→AX Bh b≤300+b.length*(2^13+1)→
  OK code AWJ (NT n ns code i hh z x2 t b):=by
 intro n
 induction n with
 |zero=>intro i hh b _ h;omega
 |succ n ih=>
  intro i hh b hi hn hb hw;simp only[NT,YY];refine OK.bind (B5 hc hi (by omega)) fun x i1 h1 y MI hq=> ?_
  dsimp only at*;rw[AJ (by omega) (by omega)];refine OK.Qa (fun Hh=> ?_) (fun _=>OK.some MI ⟨by show AX Bh b≤_;omega,ht⟩);refine OK.ite (by rw[Au];omega) ?_
  refine ih i1 h1 _ MI (by simp;omega) (by simp;omega) ?_
  have:Bh (ns,false,0,())=ns.length:=rfl;rw[I8];simp only[AX,AQU,AOw,ARW];omega
theorem yj{i hh:Int}(hi:Cb code i):OK code AWJ (VN c code i hh):=by
 unfold VN Zk;rw[show(c.1,c.2.1,())=c from rfl];refine OK.bind (xE hc aS hi) fun x i1 h1 y MI hq=> ?_
 dsimp only at*;have hrw:AX Bh y.1≤270:=hq.w;have hrn:y.1.length≤30:=hq.n;have hrt:CO x.1.2.1:=hq.tin;have VW:∀{i:Nat} {e:CR},Bh e≤2^13→AX Bh (y.1.set i e)≤300000:=fun he=>by
  have:=jz (f:=Bh) (x:= ‹CR›) (l:=y.1) (i:= ‹Nat›);omega
 have xQ:∀i,i<y.1.length→Bh (y.1.getD i ([],false,0,()))≤270:=fun i hi=>by
  have:=Aa (f:=Bh) (Ba (d:=HG) hi);have h2:Bh (y.1.getD i HG)≤270:=by omega
  exact h2
 have base:AX Bh y.1≤300000∧CO x.1.2.1:=⟨by omega,hrt⟩;refine OK.bind (B5 hc MI (by omega)) fun x2 i2 h2 y2 IY sf=> ?_
 dsimp only at*;refine OK.GP (fun _=> ?_) (fun _=> ?_)
 ·refine OK.bind (XK hc IY) fun x3 i3 h3 y3 LQ V1=> ?_
  exact OK.some LQ ⟨by show AX Bh y.1≤_;omega,V1⟩
 refine OK.GP (fun _=> ?_) (fun _=> ?_)
 ·refine OK.Qa (fun Hh=> ?_) (fun _=>OK.some IY base)
  rw[AJ (by omega) (by omega)];refine OK.ite (by omega) ?_
  refine OK.some IY ⟨VW ?_,hrt⟩;have:=xQ ((y.1.length:Int)-1).toNat (by omega);have h3:Bh ((y.1.getD ((y.1.length:Int)-1).toNat ([],false,0,())).1,true,(y.1.getD ((y.1.length:Int)-1).toNat ([],false,0,())).2.2.1,())=Bh (y.1.getD ((y.1.length:Int)-1).toNat ([],false,0,())):=rfl;rw[h3];omega
 refine OK.GP (fun _=> ?_) (fun _=> ?_)
 ·refine OK.Qa (fun Hh=> ?_) (fun _=>OK.some IY base)
  refine OK.bind (Q8 hc IY (by simp) (by simp)) fun x3 i3 h3 y3 LQ V1=> ?_
  dsimp only;refine OK.ite (by omega) ?_
  refine OK.some LQ ⟨VW ?_,hrt⟩;have:=xQ 0 (by omega);have h4:Bh ((y.1.getD 0 ([],false,0,())).1,(y.1.getD 0 ([],false,0,())).2.1,x3.1,())=Bh (y.1.getD 0 ([],false,0,())):=rfl;rw[h4];omega
 refine OK.GP (fun _=> ?_) (fun _=> ?_)
 ·refine OK.Qa (fun Hh=> ?_) (fun _=>OK.some IY base)
  refine OK.bind (Sw hc (by omega) IY) fun x3 i3 h3 y3 LQ V1=> ?_
  dsimp only;refine OK.ite (by omega) ?_
  refine OK.some LQ ⟨VW ?_,hrt⟩
  show y3.1.length≤_
  omega
 refine OK.GP (fun _=> ?_) (fun _=>OK.some IY base);refine OK.bind (gl hc (by omega) IY) fun x3 i3 h3 y3 LQ V1=> ?_
 dsimp only;exact zD hc V1 hrt Ac i3 h3 y.1 LQ (Ae (by omega)) (by omega) (by omega)
end
section
variable{code:AAG} (hc:code.length≤2^30) {c:Bz} (hcf:GB c=true)
include hc hcf
theorem AEq{l:AAG}(hl:l.length≤100){m:Av}(hm:m.2.2.1.length≤100):∃l',Mq c m=some (((),()),(l',()))∧l'.length≤1000:=by
 have aS:=(Db hcf).2.1;have key:∀(n k:Nat) (b:AAG),k≤c.1.length→c.1.length-k<n→b.length≤100+k→ ∃l',NM n k c.1 c.2.1 b=some (((),()),(l',()))∧l'.length≤1000:=by
  intro n
  induction n with
  |zero=>intro k b _ h;omega
  |succ n ih=>
   intro k b hk hn hb;simp only[NM,Xv,AB,A0];by_cases Hh:(k:Int)<(c.1.length:Int)
   ·rw[AMp Hh,show(c.1,c.2.1,())=c from rfl,D3 (by omega) (by omega),K_ (by omega)]
    simp only[AD];rw[AJ (by omega) (by omega),show((k:Int)+1)=((k+1:Nat):Int)by omega];have:=TA (n:=(k:Int)) (l:=b);obtain⟨l',e,h'⟩:=ih (k+1) (N2 (k:Int) b) (by omega) (by omega) (by omega);rw[e];cases holds c b with
    |true=>exact⟨b,rfl,by omega⟩
    |false=>exact⟨l',rfl,h'⟩
   ·rw[AM5 Hh]
    exact⟨b,rfl,by omega⟩
 unfold Mq X6;rw[AMp (by rw[Au];omega)];exact key Ac 0 m.2.2.1 (by omega) (Ae (by omega)) (by omega)
theorem wW{m:Av}{o n:Int}(h:(Td c m o n).2=true):ku c (Td c m o n).1:=by
 unfold Td at*;rcases AMo (Gv c m)with hm|hm
 rotate_left
 ·rw[hm]at h;cases h
 rw[hm]at h⊢;simp only[ANX,ANZ,AQ7]at h⊢;split at h
 ·rename_i hq
  rw[AMp hq];have n_:=Gq.1 hm;rw[ANB,Ak,Ak]at hq;refine⟨n_.cfg,n_.ep,n_.b,n_.yd,n_.sA,n_.seen,fun l hl=> ?_,by simp only[AUM];exact n_.n⟩;rcases AT7 hl with hl|rfl
  ·exact n_.wrote l hl
  ·exact Ka (n_.wrote _ (Ba (by omega))) (by omega)
 ·cases h
abbrev AGC(x:AEO)(y:List Int×(List AK)×List AAG×Unit):Av:=(x.1.1,x.1.2.1,y.1,y.2.1,x.1.2.2.2.2.1,y.2.2.1,())
theorem nC{z1 z2:Int}{z3:Bool}{x3:AAG}{x4:List AK}{x5:List AAG}:∀(n k:Nat) (i hh:Int) (m:Av),Cb code i→k≤9→9-k<n→ku c m→
  OK code (fun x y=>ku c (AGC x y)) (BT n k code i hh c.1 c.2.1 z1 z2 z3 x3 x4 x5 m.1 m.2.1 m.2.2.2.2.1 m.2.2.1 m.2.2.2.1 m.2.2.2.2.2.1):=by
 have aS:=(Db hcf).2.1;intro n
 induction n with
 |zero=>intro k i hh m _ _ h;omega
 |succ n ih=>
  intro k i hh m hi hk hn hm;have hmw:=hm.w;have AcE:=(HZ (m:=m) (by omega)).2.2.1;simp only[BT,Lo];refine OK.bind (B5 hc hi (by omega)) fun x i1 h1 y MI hq=> ?_
  dsimp only at*;refine OK.Qa (fun Hh=> ?_) (fun _=>OK.some MI hm);rw[AJ (x:=(k:Int)+1) (by omega) (by omega),show((k:Int)+1)=((k+1:Nat):Int)by omega];refine OK.pure I_ ?_
  dsimp only;refine OK.bind (B5 hc MI (by omega)) fun x2 i2 h2 y2 IY sf=> ?_
  dsimp only at*;refine OK.bind (B5 hc IY (by omega)) fun x3 i3 h3 y3 LQ V1=> ?_
  dsimp only at*;rw[show(c.1,c.2.1,())=c from rfl,show(m.1,m.2.1,m.2.2.1,m.2.2.2.1,m.2.2.2.2.1,m.2.2.2.2.2.1,())=m from rfl];refine OK.pure (cu (by omega) (by omega) hm.yT) ?_
  dsimp only[gZ];exact OK.cond (fun hb=>ih (k+1) _ _ _ LQ (by omega) (by omega) (wW hc hcf hb)) (fun _=>ih (k+1) _ _ m LQ (by omega) (by omega) hm)
theorem zq{T:Int}(hT:T≤100){z1 z2:Int}{z3:Bool}{x3:AAG}{x4:List AK}{x5:List AAG}:∀(n k:Nat) (i hh:Int) (m:Av),Cb code i→(k:Int)≤max T 0→(T-k).toNat+20≤n→ku c m→
  OK code (fun x y=>ku c (AGC x y)) (B6 n T k code i hh c.1 c.2.1 z1 z2 z3 x3 x4 x5 m.1 m.2.1 m.2.2.2.2.1 m.2.2.1 m.2.2.2.1 m.2.2.2.2.2.1):=by
 have aS:=(Db hcf).2.1;intro n
 induction n with
 |zero=>intro k i hh m _ _ h;omega
 |succ n ih=>
  intro k i hh m hi hk hn hm;have hmw:=hm.w;have AcE:=HZ (m:=m) (by omega);have hsl:=Fj hm.yd;simp only[B6,Mo];rw[show(c.1,c.2.1,())=c from rfl,show(m.1,m.2.1,m.2.2.1,m.2.2.2.1,m.2.2.2.2.1,m.2.2.2.2.2.1,())=m from rfl];refine OK.Qa (fun Hh=> ?_) (fun _=> ?_)
  ·rw[AJ (x:=(k:Int)+1) (by omega) (by omega),show((k:Int)+1)=((k+1:Nat):Int)by omega]
   refine OK.bind (B5 hc hi (by omega)) fun x i1 h1 y MI hq=> ?_
   dsimp only at*;refine OK.bind (qE hc MI) fun x2 i2 h2 y2 IY sf=> ?_
   dsimp only at*;obtain⟨q1,q2,q3,q4,q5⟩:=sf;have sq:=kd hc (s:=(y2.1,y2.2.1,x2.1.2.2.1,())) q1 (by show y2.1.length≤_;omega) (by show y2.2.1.length≤_;omega) q4 q5;refine OK.pure (ay (s:=(y2.1,y2.2.1,x2.1.2.2.1,())) (by omega) q1) ?_
   dsimp only;have hes:(G2 (y2.1,y2.2.1,x2.1.2.2.1,()) m.2.1).length≤300∧gB (G2 (y2.1,y2.2.1,x2.1.2.2.1,()) m.2.1)∧AX Ai (G2 (y2.1,y2.2.1,x2.1.2.2.1,()) m.2.1)≤40000:=by
    unfold G2;split
    ·refine⟨ASX (ARp _ _) q2,fun e he=>q1.1 e (AUN.1 he).1,ASX fS ?_⟩
     have h2:=sq.2;unfold Al at h2;dsimp only at h2⊢;omega
    ·exact⟨by simp,fun e he=>(by simp at he),by simp[AX]⟩
   refine OK.pure (ai (by omega) (by omega) hm.yT (by omega) hes.2.1 (by omega)) ?_
   dsimp only[gZ];exact OK.cond (fun hb=>ih (k+1) _ _ _ IY (by omega) (by omega) (nL hb).2.1) (fun _=>ih (k+1) _ _ m IY (by omega) (by omega) hm)
  ·refine OK.bind (P3 hc hi (by omega)) fun x i1 h1 y MI hq=> ?_
   dsimp only;refine OK.cond (fun _=>OK.some MI hm) (fun _=> ?_);obtain⟨l',e,mM⟩:=AEq hc hcf (l:=[]) (by simp) (m:=m) (by omega);refine OK.pure e ?_
   dsimp only;refine OK.pure (bc (by omega) (by omega) hm.yT (by omega)) ?_
   dsimp only[gZ];exact OK.cond (fun hb=>nC hc hcf n 0 i1 h1 _ MI (by omega) (by omega) (nt hb).2.1) (fun _=>nC hc hcf n 0 i1 h1 m MI (by omega) (by omega) hm)
theorem wk{i hh:Int}(hi:Cb code i):OK code (fun x y=>ku c (AGC x y)) (Ma c code i hh):=by
 unfold Ma M7;refine OK.bind (B5 hc hi (by omega)) fun x i1 h1 y MI hq=> ?_
 dsimp only at*;rw[AJ (by omega) (by omega)];unfold My;simp only[AD];refine OK.bind (B5 hc MI (by omega)) fun x2 i2 h2 y2 IY sf=> ?_
 dsimp only at*;exact zq hc hcf (T:=x2.1) (by omega) Ac 0 i2 h2 (4,1+x.1,[],[],false,[],()) IY (by omega) (AV2 (Ae (by omega))) ⟨hcf,by show 1≤1+x.1∧1+x.1≤30;omega,by show 1+x.1+1≤4∧(4:Int)≤30;omega,Ys hcf,List.Pairwise.nil,fun e he=>(by cases he),fun l hl=>(by cases hl),rfl⟩
abbrev AXA:AGs×Unit→List Int×(List AK)×List AAG×Unit→Prop:=fun x y=>CD (AGC x y)≤20000∧gB y.2.1
theorem y8{i hh:Int}(hi:Cb code i):OK code AXA (VP c code i hh):=by
 have aS:=(Db hcf).2.1;unfold VP;rw[show(c.1,c.2.1,())=c from rfl];refine OK.bind (wk hc hcf hi) fun x i1 h1 y MI hq=> ?_
 dsimp only at*;have hw:=hq.w;have he:gB y.2.1:=hq.yT;have hu:CD (AGC x y)=y.1.length+AX Ai y.2.1+AX C3 y.2.2.1:=rfl;have hl1:=AW (f:=C3) (l:=y.2.2.1);have wH:=AW (f:=Ai) (l:=y.2.1);have mk:∀{x':AEO} {a:AAG} {b:List AK} {d:List AAG},a.length+AX Ai b+AX C3 d≤20000→gB b→AXA x' (a,b,d,()):=fun h1 h2=>⟨h1,h2⟩
 refine OK.bind (B5 hc MI (by omega)) fun x2 i2 h2 y2 IY sf=> ?_
 dsimp only at*;refine OK.GP (fun _=> ?_) (fun _=> ?_)
 ·refine OK.bind (Q8 hc IY (by simp) (by simp)) fun x3 i3 h3 y3 LQ V1=> ?_
  exact OK.some LQ (mk (by omega) he)
 refine OK.GP (fun _=>OK.some IY (mk (by omega) he)) (fun _=> ?_);refine OK.GP (fun _=> ?_) (fun _=> ?_)
 ·refine OK.bind (Sw hc (by omega) IY) fun x3 i3 h3 y3 LQ V1=> ?_
  dsimp only;refine OK.ite (by rw[Au];omega) ?_
  refine OK.some LQ (mk ?_ he);rw[I8];have:C3 y3.1=y3.1.length:=rfl;simp only[AX];omega
 refine OK.GP (fun _=> ?_) (fun _=> ?_)
 ·refine OK.bind (jD hc IY) fun x3 i3 h3 y3 LQ V1=> ?_
  dsimp only;refine OK.ite (by rw[Au];omega) ?_
  refine OK.some LQ (mk ?_ (fun e he' => ?_))
  ·rw[I8]
   have:Ai (x3.1.1,x3.1.2.1,x3.1.2.2.1,x3.1.2.2.2.1,())=x3.1.2.2.2.1.length:=rfl;simp only[AX];have:=V1.2;omega
  ·rcases AOt.1 he' with he'|he'
   ·exact he e he'
   ·rw[AT3.1 he'];exact V1.1
 refine OK.GP (fun _=> ?_) (fun _=>OK.some IY (mk (by omega) he));refine OK.bind (Sw hc (by omega) IY) fun x3 i3 h3 y3 LQ V1=> ?_
 dsimp only at*;exact OK.some LQ (mk (by omega) he)
end
end Go.M
end
section
set_option maxRecDepth 8000
namespace Go.M
open Go.M.H (AK AQ Av Af AA CR AO Ay AR Ah BR A6 BN Al CD AX AW Aa Ai Bh A4 Ap A_ EH CP Cv C3)
abbrev AXy:AFB→((List BR)×Unit)→Prop:=fun x y=>y.1.length≤130∧ ∀e∈y.1,CP e≤40∧CO e.2.1
section
variable{code:AAG} (hc:code.length≤2^30)
include hc
theorem ACb{z1 z2 e o:Int}{x3:List BR}:∀(n k:Nat) (i hh:Int) (b:List BR),Cb code i→k≤4→4-k<n→b.length≤k→(∀e∈b,CP e≤40∧CO e.2.1)→
  OK code AXy (HN n k code i hh z1 z2 x3 e o b):=by
 intro n
 induction n with
 |zero=>intro k i hh b _ _ h;omega
 |succ n ih=>
  intro k i hh b hi hk hn hb q8;simp only[HN,QR];refine OK.bind (B5 hc hi (by omega)) fun x i1 h1 y MI hq=> ?_
  dsimp only at*;have base:b.length≤130∧ ∀e∈b,CP e≤40∧CO e.2.1:=⟨by omega,q8⟩;refine OK.Qa (fun Hh=> ?_) (fun _=> ?_)
  ·refine OK.bind (B5 hc MI (by omega)) fun x2 i2 h2 y2 IY sf=> ?_
   dsimp only at*;refine OK.bind (XK hc IY) fun x3 i3 h3 y3 LQ V1=> ?_
   dsimp only;refine OK.ite (by rw[Au];omega) ?_
   rw[AJ (x:=(k:Int)+1) (by omega) (by omega),show((k:Int)+1)=((k+1:Nat):Int)by omega];refine ih (k+1) _ _ _ LQ (by omega) (by omega) (by simp;omega) (fun e he=> ?_);rcases AOt.1 he with he|he
   ·exact q8 e he
   ·rw[AT3.1 he];exact⟨by show 0≤40;omega,V1⟩
  ·refine OK.bind (B5 hc MI (by omega)) fun x2 i2 h2 y2 IY sf=> ?_
   dsimp only at*;refine OK.GP (fun _=> ?_) (fun _=> ?_)
   ·refine OK.bind (Q8 hc IY (by simp) (by simp)) fun x3 i3 h3 y3 LQ V1=> ?_
    exact OK.some LQ base
   refine OK.GP (fun _=> ?_) (fun _=> ?_)
   ·refine OK.bind (Q8 hc IY (by simp) (by simp)) fun x3 i3 h3 y3 LQ V1=> ?_
    exact OK.some LQ base
   refine OK.GP (fun _=> ?_) (fun _=>OK.some IY base);refine OK.bind (B5 hc IY (by omega)) fun x3 i3 h3 y3 LQ V1=> ?_
   dsimp only at*;rw[AJ (by omega) (by omega)];refine OK.ite (by rw[Au];omega) ?_
   refine OK.some LQ ⟨by show(List.replicate _ _).length≤130;rw[AUf];omega,fun e he=> ?_⟩;rw[(List.mem_replicate.1 he).2];exact⟨by show 0≤40;omega,OE (by show-1000≤(0:Int)∧(0:Int)≤1000;omega)⟩
theorem zy{i hh:Int}(hi:Cb code i):OK code AXy (Ja code i hh):=by
 unfold Ja Qh;refine OK.bind (B5 hc hi (by omega)) fun x i1 h1 y MI hq=> ?_
 dsimp only at*;refine OK.bind (B5 hc MI (by omega)) fun x2 i2 h2 y2 IY sf=> ?_
 exact ACb hc Ac 0 _ _ [] IY (by omega) (Ae (by omega)) (by simp) (fun e he=>by simp at he)
theorem ACv{c:Bz}(aS:c.1.length≤2^10){i hh:Int}(hi:Cb code i):OK code (fun(x:AE9) (y:(List Ay)×Unit)=>AX A4 y.1≤4000) (Oi c code i hh):=by
 obtain⟨w',i1,h1,e,hw,MI⟩:=ACf hc (c:=c) (by omega) (h:=hh) hi;exact⟨_,i1,h1,_,e,MI,hw⟩
theorem AAS{i hh:Int}(hi:Cb code i):OK code (fun(x:ADg) (y:AAG×Unit)=>y.1.length≤9) (Rl code i hh):=by
 obtain⟨l,c',i1,h1,e,hl,MI⟩:=ADM hc (h:=hh) hi;exact⟨_,i1,h1,(l,()),e,MI,hl⟩
abbrev dwW(x:AFn)(y:List Int×(List AQ)×List Int×(List CR)×(List AR)×(List Av)×(List Ah)×(List Af)×Unit):AA:=
 (y.1,x.1.2.1,y.2.1,y.2.2.1,y.2.2.2.1,x.1.2.2.2.2.2.1,y.2.2.2.2.1,y.2.2.2.2.2.1,y.2.2.2.2.2.2.1,y.2.2.2.2.2.2.2.1,x.1.2.2.2.2.2.2.2.2.2.2.1,())
def ASh(w:AA):Prop:=(fW w∧bL w)∧Cv w≤730000∧AX A_ w.2.2.2.2.2.2.2.2.1≤50000
omit hc in
theorem mkW{c:AAG}{m tr:Int}{st:List AQ}{lo:AAG}{er:List CR}{wr:List AR}{md:List Av}{rd:List Ah}{se:List Af}{to:Bool}
  (h1:c.length≤100) (h2:AX Al st≤200000) (h3:lo.length≤5000) (h4:AX Bh er≤300000) (h5:AX Ap wr≤50000) (h6:AX CD md≤100000) (h7:AX A_ rd≤50000) (h8:AX EH se≤20000)
  (k1:∀s∈st,kH s) (k2:CO tr) (k3:∀m∈md,gB m.2.2.2.1) (k4:∀s∈se,CO s.1) (k5:∀r∈rd,∀e∈r.2.2.1,CO e.2.1):ASh (c,m,st,lo,er,tr,wr,md,rd,se,to,()):=
 ⟨⟨⟨by unfold Cv;dsimp only;omega,k1,k2,k3,k4⟩,k5⟩,by unfold Cv;dsimp only;omega,h7⟩
theorem vh{i hh:Int}(hi:Cb code i){p:AAG}(hp:p.length≤2^30):OK code (fun x y=>ASh (dwW x y)) (IX p code i hh):=by
 unfold IX;dsimp only;have AGD:∃T,Vh p 40 90=some ((T,()),())∧0≤T∧T≤500:=by
  unfold Vh;dsimp only;have hd:(p.length:Int).tdiv 4=(p.length:Int)/4:=Int.tdiv_eq_ediv_of_nonneg (by omega);rw[hd,AJ (x:=(p.length:Int)/4) (by omega) (by omega),AJ (by omega) (by omega),AB];split
  ·exact⟨90,rfl,by omega⟩
  ·exact⟨_,rfl,by omega⟩
 obtain⟨T,hT,hT2⟩:=AGD;refine OK.pure hT ?_
 dsimp only;refine OK.bind (AAP hc hT2 hi) fun x i1 h1 y MI hq=> ?_
 dsimp only;obtain⟨hw,hr,hv⟩:=hq
 generalize pQ:f_ x y=w at hw hr hv
 have k:=hw.nums;have e0:y.2.2.2.2.2.2.2.2.2.1=w.1:=by rw[←pQ];rfl
 have e1:y.2.2.2.2.2.2.2.2.2.2.1=w.2.2.1:=by rw[←pQ];rfl
 have e2:y.2.2.2.2.2.2.2.2.2.2.2.1=w.2.2.2.1:=by rw[←pQ];rfl
 have e3:y.2.2.2.2.2.2.2.2.2.2.2.2.1=w.2.2.2.2.1:=by rw[←pQ];rfl
 have e4:y.2.2.2.2.2.2.2.2.2.2.2.2.2.1=w.2.2.2.2.2.2.1:=by rw[←pQ];rfl
 have e5:y.2.2.2.2.2.2.2.2.2.2.2.2.2.2.1=w.2.2.2.2.2.2.2.1:=by rw[←pQ];rfl
 have e6:y.2.2.2.2.2.2.2.2.2.2.2.2.2.2.2.1=w.2.2.2.2.2.2.2.2.1:=by rw[←pQ];rfl
 have e7:y.2.2.2.2.2.2.2.2.2.2.2.2.2.2.2.2.1=w.2.2.2.2.2.2.2.2.2.1:=by rw[←pQ];rfl
 have e8:x.1.2.2.1.2.1=w.2.1:=by rw[←pQ];rfl
 have e9:x.1.2.2.1.2.2.2.2.2.1=w.2.2.2.2.2.1:=by rw[←pQ];rfl
 have e10:x.1.2.2.1.2.2.2.2.2.2.2.2.2.2.1=w.2.2.2.2.2.2.2.2.2.2.1:=by rw[←pQ];rfl
 rw[e0,e1,e2,e3,e4,e5,e6,e7,e8,e9,e10];have LH:=hw.win hr;have k1:=k.c;have k2:=k.ws;have k3:=k.lost;have k4:=k.era;have k5:=k.ww;have k9:=k.st;have k10:=k.rd;have k6:AX CD w.2.2.2.2.2.2.2.1≤5001:=by
  have:=EK (f:=CD) (B:=5000) hw.x_ fun x hx=>(hw.CE x hx).1.w
  exact this
 have k7:AX A_ w.2.2.2.2.2.2.2.2.1≤10002:=by
  have:=EK (f:=A_) (B:=5000) (N:=2) (l:=w.Aj) (by rw[hw.sv];omega) fun r hx=>by
   have:=EK (f:=CP) (B:=40) (hw.Aj r hx).n (hr r hx);unfold A_;omega
  exact this
 have k8:AX EH w.2.2.2.2.2.2.2.2.2.1≤4920:=by
  have:=EK (f:=EH) (B:=40) hw.OS fun s hs=>(hw.AU s hs).2.2
  exact this
 have j1:=LH.Aq;have j2:=LH.trim;have j3:=LH.CE;have j4:=LH.VS;have hc1:=(Db hw.cfg).1;have Ae9:1≤w.1.length:=hc1;refine OK.bind (B5 hc MI (by omega)) fun x2 i2 h2 y2 IY sf=> ?_
 dsimp only at*;have base:∀{to:Bool},ASh (w.1,w.2.1,w.2.2.1,w.2.2.2.1,w.2.2.2.2.1,w.2.2.2.2.2.1,w.2.2.2.2.2.2.1,w.2.2.2.2.2.2.2.1,w.2.2.2.2.2.2.2.2.1,w.2.2.2.2.2.2.2.2.2.1,to,()):=mkW (by omega) (by omega) (by omega) (by omega) (by omega) (by omega) (by omega) (by omega) j1 j2 j3 j4 hv;refine OK.GP (fun _=> ?_) (fun _=> ?_)
 ·refine OK.bind (Sw hc (c:=(w.1,w.2.1,())) (by show w.1.length≤_;omega) IY) fun x3 i3 h3 y3 LQ V1=> ?_
  dsimp only at*;refine OK.some LQ ?_
  dsimp only[dwW];exact mkW (by omega) (by omega) (by omega) (by omega) (by omega) (by omega) (by omega) (by omega) j1 j2 j3 j4 hv
 refine OK.GP (fun _=> ?_) (fun _=> ?_)
 ·refine OK.bind (ACk hc IY) fun x3 i3 h3 y3 LQ V1=> ?_
  dsimp only at*;refine OK.ite (by omega) ?_
  have:=jz (f:=Al) (x:=(y3.1,y3.2.1,x3.1.2.2.1,())) (l:=w.2.2.1) (i:=0);refine OK.some LQ ?_
  dsimp only[dwW];refine mkW (by omega) (by omega) (by omega) (by omega) (by omega) (by omega) (by omega) (by omega) (fun s hs=> ?_) j2 j3 j4 hv;rcases AT7 hs with hs|rfl
  ·exact j1 s hs
  ·exact V1.1
 refine OK.GP (fun _=> ?_) (fun _=> ?_)
 ·refine OK.bind (yj hc (c:=(w.1,w.2.1,())) (by show w.1.length≤_;omega) IY) fun x3 i3 h3 y3 LQ V1=> ?_
  dsimp only at*;refine OK.some LQ ?_
  dsimp only[dwW];exact mkW (by omega) (by omega) (by omega) V1.1 (by omega) (by omega) (by omega) (by omega) j1 V1.2 j3 j4 hv
 refine OK.GP (fun _=> ?_) (fun _=> ?_)
 ·refine OK.bind (ACv hc (c:=(w.1,w.2.1,())) (by show w.1.length≤_;omega) IY) fun x3 i3 h3 y3 LQ V1=> ?_
  dsimp only at*;have hk:=k.wr;refine OK.ite (by rw[Au];omega) ?_
  refine OK.some LQ ?_
  dsimp only[dwW];refine mkW (by omega) (by omega) (by omega) (by omega) ?_ (by omega) (by omega) (by omega) j1 j2 j3 j4 hv
  rw[I8];have:Ap (x3.1.1,y3.1,())=AX A4 y3.1:=rfl;simp only[AX];omega
 refine OK.GP (fun _=> ?_) (fun _=> ?_)
 ·refine OK.bind (y8 hc (c:=(w.1,w.2.1,())) hw.cfg IY) fun x3 i3 h3 y3 LQ V1=> ?_
  dsimp only at*;have hk:=k.md;refine OK.ite (by rw[Au];omega) ?_
  refine OK.some LQ ?_
  dsimp only[dwW];refine mkW (by omega) (by omega) (by omega) (by omega) (by omega) ?_ (by omega) (by omega) j1 j2 (fun m hm=> ?_) j4 hv
  ·rw[I8]
   have h8:CD (x3.1.1,x3.1.2.1,y3.1,y3.2.1,x3.1.2.2.2.2.1,y3.2.2.1,())≤20000:=V1.1;simp only[AX];omega
  ·rcases AOt.1 hm with hm|hm
   ·exact j3 m hm
   ·rw[AT3.1 hm];exact V1.2
 refine OK.GP (fun _=> ?_) (fun _=> ?_)
 ·refine OK.bind (zy hc IY) fun x3 i3 h3 y3 LQ V1=> ?_
  dsimp only at*;refine OK.ite (by omega) ?_
  have:=jz (f:=A_) (x:=(x3.1.1,x3.1.2.1,y3.1,())) (l:=w.2.2.2.2.2.2.2.2.1) (i:=0);have h9:=EK (f:=CP) (B:=40) V1.1 (fun e he=>(V1.2 e he).1);have:A_ (x3.1.1,x3.1.2.1,y3.1,())=AX CP y3.1:=rfl;refine OK.some LQ ?_
  dsimp only[dwW];refine mkW (by omega) (by omega) (by omega) (by omega) (by omega) (by omega) (by omega) (by omega) j1 j2 j3 j4 (fun r hr' => ?_);rcases AT7 hr' with hr'|rfl
  ·exact hv r hr'
  ·exact fun e he=>(V1.2 e he).2
 refine OK.GP (fun _=> ?_) (fun _=> ?_)
 ·refine OK.bind (XK hc IY) fun x3 i3 h3 y3 LQ V1=> ?_
  dsimp only at*;have hk:=k.se;refine OK.ite (by rw[Au];omega) ?_
  refine OK.some LQ ?_
  dsimp only[dwW];refine mkW (by omega) (by omega) (by omega) (by omega) (by omega) (by omega) (by omega) ?_ j1 j2 j3 (fun s hs=> ?_) hv
  ·rw[I8]
   have:EH (x3.1,[],false,())=0:=rfl;simp only[AX];omega
  ·rcases AOt.1 hs with hs|hs
   ·exact j4 s hs
   ·rw[AT3.1 hs];exact V1
 refine OK.GP (fun _=>OK.some IY base) (fun _=> ?_);refine OK.GP (fun _=> ?_) (fun _=>OK.some IY base);refine OK.bind (AAS hc IY) fun x3 i3 h3 y3 LQ V1=> ?_
 dsimp only at*;refine OK.some LQ ?_
 dsimp only[dwW];exact mkW (by omega) (by omega) (by omega) (by omega) (by omega) (by omega) (by omega) (by omega) j1 j2 j3 j4 hv
end
end Go.M
end
section
set_option maxRecDepth 8000
namespace Go.M
open Go.M.H (AK AQ Av Af AA CR AO Ay AR Ah BR A6 BN Al CD AX AW Aa Ai Bh A4 Ap A_ EH CP Cv C3)
theorem Dw{l:AAG}(h:l.length≤2^30):DF l=some (((),()),(l,())):=by
 unfold DF;rw[AMp (by rw[Au];omega)]
theorem Wt{l:List AK}(h:l.length≤2^30):JO l=some (((),()),(l,())):=by
 unfold JO;rw[AMp (by rw[Au];omega)]
theorem X1{r:Ah}(h:r.2.2.1.length≤2^30):NS r=some (((r.1,r.2.1,(),()),()),(r.2.2.1,())):=by
 unfold NS;rw[AMp (by rw[Au];omega)]
theorem iD{c:Bz}(h:c.1.length≤2^30):Qw c=some ((((),c.2.1,()),()),(c.1,())):=by
 grind[Qw,Dw]
theorem IG{s:AQ}(h1:s.1.length≤2^30)(h2:s.2.1.length≤2^30):C_ s=some ((((),(),s.2.2.1,()),()),(s.1,s.2.1,())):=by
 grind[C_,Wt]
theorem IA{r:AO}(h:AX Bh r.1≤2^30):Ef r=some ((((),r.2.1,()),()),(r.1,())):=by
 have hl:=AW (f:=Bh) (l:=r.1);have key:∀(n i:Nat) (acc:List CR),i≤r.1.length→r.1.length-i<n→acc.length≤i→Hw n r.1 r.1.length i 0 [] r.2.1 acc=some ((((),r.2.1,()),()),(acc++r.1.drop i,())):=by
  intro n
  induction n with
  |zero=>omega
  |succ n ih=>
   intro i acc hi hn ha;simp only[Hw,RX,AB];by_cases hc:i<r.1.length
   ·have hm:=Aa (f:=Bh) (ANa hc)
    have hw:Bh r.1[i]=r.1[i].1.length:=rfl;rw[AMp (by omega),AMp (by omega),Am hc,Dw (by omega),AJ (by omega) (by omega),show((i:Int)+1)=((i+1:Nat):Int)by omega];simp only[AD];rw[AMp (by rw[Au];omega),ih (i+1) _ (by omega) (by omega) (by simp_all),drop_cons hc,AOj];rfl
   grind
 grind[Ef,Ry,Ac,Ae]
theorem Jd{x:AR}(h:Ap x≤2^30):F4 x=some (((x.1,(),()),()),(x.2.1,())):=by
 have h':AX A4 x.2.1≤2^30:=h;have hl:=AW (f:=A4) (l:=x.2.1);have key:∀(n i:Nat) (acc:List Ay),i≤x.2.1.length→x.2.1.length-i<n→acc.length≤i→JZ n x.2.1 x.2.1.length i 0 [] x.1 acc=some (((x.1,(),()),()),(acc++x.2.1.drop i,())):=by
  intro n
  induction n with
  |zero=>omega
  |succ n ih=>
   intro i acc hi hn ha;simp only[JZ,Tz,AB];by_cases hc:i<x.2.1.length
   ·have hm:=Aa (f:=A4) (ANa hc)
    have hw:A4 x.2.1[i]=x.2.1[i].1.length+x.2.1[i].2.1.length:=rfl;rw[AMp (by omega),AMp (by omega),Am hc,Dw (by omega),AJ (by omega) (by omega),show((i:Int)+1)=((i+1:Nat):Int)by omega];simp only[AD];rw[AMp (by rw[Au];omega),ih (i+1) _ (by omega) (by omega) (by simp_all),drop_cons hc,AOj];rfl
   grind
 grind[F4,Ts,Ac,Ae]
theorem HV{m:Av}(h:CD m≤2^30):Gi m=some (((m.1,m.2.1,(),(),m.2.2.2.2.1,(),()),()),(m.2.2.1,m.2.2.2.1,m.2.2.2.2.2.1,())):=by
 have h':m.2.2.1.length+AX Ai m.2.2.2.1+AX C3 m.2.2.2.2.2.1≤2^30:=h;have hl:=AW (f:=C3) (l:=m.2.2.2.2.2.1);have wH:=AW (f:=Ai) (l:=m.2.2.2.1);have key:∀(n i:Nat) (acc:List AAG),i≤m.2.2.2.2.2.1.length→m.2.2.2.2.2.1.length-i<n→acc.length≤i→L5 n m.2.2.2.2.2.1 m.2.2.2.2.2.1.length i 0 0 false [] [] [] m.1 m.2.1 m.2.2.2.2.1 m.2.2.1 m.2.2.2.1 acc=some (((m.1,m.2.1,(),(),m.2.2.2.2.1,(),()),()),(m.2.2.1,m.2.2.2.1,acc++m.2.2.2.2.2.1.drop i,())):=by
  intro n
  induction n with
  |zero=>omega
  |succ n ih=>
   intro i acc hi hn ha;simp only[L5,WS,AB];by_cases hc:i<m.2.2.2.2.2.1.length
   ·have hm:=Aa (f:=C3) (ANa hc)
    have hw:C3 m.2.2.2.2.2.1[i]=m.2.2.2.2.2.1[i].length:=rfl;rw[AMp (by omega),AMp (by omega),Am hc,Dw (by omega),AJ (by omega) (by omega),show((i:Int)+1)=((i+1:Nat):Int)by omega];simp only[AD];rw[AMp (by rw[Au];omega),ih (i+1) _ (by omega) (by omega) (by simp_all),drop_cons hc,AOj];rfl
   grind
 grind[Gi,Wr,Dw,Wt,AD,Ac,Ae]
section
variable{w:AA} (h:fW w)
include h
theorem AFy:∀(n i:Nat) (DR:List AQ) (Dq:List AR) (EB:List Av) (EJ:List Ah),i≤w.2.2.2.2.2.2.2.2.1.length→w.2.2.2.2.2.2.2.2.1.length-i+1≤n→EJ.length≤i→
  Ep n w.2.2.2.2.2.2.2.2.1 w.2.2.2.2.2.2.2.2.1.length i w.1 w.2.1 w.2.2.1 w.2.2.2.1 w.2.2.2.2.1 w.2.2.2.2.2.1 w.2.2.2.2.2.2.1 w.2.2.2.2.2.2.2.1 w.2.2.2.2.2.2.2.2.1 w.2.2.2.2.2.2.2.2.2.1 w.2.2.2.2.2.2.2.2.2.2.1 0 0 false [] [] [] [] [] [] [] [] w.2.1 w.2.2.2.2.2.1 w.2.2.2.2.2.2.2.2.2.2.1 w.1 DR w.2.2.2.1 w.2.2.2.2.1 Dq EB EJ []=some ((((),w.2.1,(),(),(),w.2.2.2.2.2.1,(),(),(),(),w.2.2.2.2.2.2.2.2.2.2.1,()),()),(w.1,DR,w.2.2.2.1,w.2.2.2.2.1,Dq,EB,(EJ++w.2.2.2.2.2.2.2.2.1.drop i),w.2.2.2.2.2.2.2.2.2.1,())):=by
 have wH:=h.TH;have hl:=h.lens;intro n
 induction n with
 |zero=>omega
 |succ n ih=>
  intro i DR Dq EB EJ hi hn hb;simp only[Ep,Tq,AB];by_cases Dn:i<w.2.2.2.2.2.2.2.2.1.length
  ·have hm:=Aa (f:=A_) (ANa Dn)
   have hw:A_ w.2.2.2.2.2.2.2.2.1[i]=AX CP w.2.2.2.2.2.2.2.2.1[i].2.2.1:=rfl;have hlw:=AW (f:=CP) (l:=w.2.2.2.2.2.2.2.2.1[i].2.2.1);rw[AMp (by omega),AMp (by omega),Am Dn,AJ (by omega) (by omega),show((i:Int)+1)=((i+1:Nat):Int)by omega,drop_cons Dn];rw[show(w.2.2.2.2.2.2.2.2.1[i].1,w.2.2.2.2.2.2.2.2.1[i].2.1,w.2.2.2.2.2.2.2.2.1[i].2.2.1,())=w.2.2.2.2.2.2.2.2.1[i]from rfl,X1 (by omega)];simp only[AD];rw[AMp (by rw[Au];omega),ih (i+1) _ _ _ _ (by omega) (by omega) (by simp_all),AOj];rfl
  ·rw[AM5 (by omega),AMp (by rw[Au];omega),ANl (by omega),AN6]
theorem AEC:∀(n i:Nat) (DR:List AQ) (Dq:List AR) (EB:List Av),i≤w.2.2.2.2.2.2.2.1.length→(w.2.2.2.2.2.2.2.1.length-i)+w.2.2.2.2.2.2.2.2.1.length+2≤n→EB.length≤i→
  E8 n w.2.2.2.2.2.2.2.1 w.2.2.2.2.2.2.2.1.length i w.1 w.2.1 w.2.2.1 w.2.2.2.1 w.2.2.2.2.1 w.2.2.2.2.2.1 w.2.2.2.2.2.2.1 w.2.2.2.2.2.2.2.1 w.2.2.2.2.2.2.2.2.1 w.2.2.2.2.2.2.2.2.2.1 w.2.2.2.2.2.2.2.2.2.2.1 0 0 false [] [] [] [] [] [] [] [] w.2.1 w.2.2.2.2.2.1 w.2.2.2.2.2.2.2.2.2.2.1 w.1 DR w.2.2.2.1 w.2.2.2.2.1 Dq EB [] []=some ((((),w.2.1,(),(),(),w.2.2.2.2.2.1,(),(),(),(),w.2.2.2.2.2.2.2.2.2.2.1,()),()),(w.1,DR,w.2.2.2.1,w.2.2.2.2.1,Dq,(EB++w.2.2.2.2.2.2.2.1.drop i),w.2.2.2.2.2.2.2.2.1,w.2.2.2.2.2.2.2.2.2.1,())):=by
 have wH:=h.TH;have hl:=h.lens;intro n
 induction n with
 |zero=>omega
 |succ n ih=>
  intro i DR Dq EB hi hn hb;simp only[E8,UC,AB];by_cases Dn:i<w.2.2.2.2.2.2.2.1.length
  ·have hm:=Aa (f:=CD) (ANa Dn)
   rw[AMp (by omega),AMp (by omega),Am Dn,AJ (by omega) (by omega),show((i:Int)+1)=((i+1:Nat):Int)by omega,drop_cons Dn];rw[show(w.2.2.2.2.2.2.2.1[i].1,w.2.2.2.2.2.2.2.1[i].2.1,w.2.2.2.2.2.2.2.1[i].2.2.1,w.2.2.2.2.2.2.2.1[i].2.2.2.1,w.2.2.2.2.2.2.2.1[i].2.2.2.2.1,w.2.2.2.2.2.2.2.1[i].2.2.2.2.2.1,())=w.2.2.2.2.2.2.2.1[i]from rfl,HV (by omega)];simp only[AD];rw[AMp (by rw[Au];omega),ih (i+1) _ _ _ (by omega) (by omega) (by simp_all),AOj];rfl
  ·have:=AFy h n 0 DR Dq EB [] (by omega) (by omega) (by simp)
   grind
theorem AG2:∀(n i:Nat) (DR:List AQ) (Dq:List AR),i≤w.2.2.2.2.2.2.1.length→(w.2.2.2.2.2.2.1.length-i)+w.2.2.2.2.2.2.2.1.length+w.2.2.2.2.2.2.2.2.1.length+3≤n→Dq.length≤i→
  Fg n w.2.2.2.2.2.2.1 w.2.2.2.2.2.2.1.length i w.1 w.2.1 w.2.2.1 w.2.2.2.1 w.2.2.2.2.1 w.2.2.2.2.2.1 w.2.2.2.2.2.2.1 w.2.2.2.2.2.2.2.1 w.2.2.2.2.2.2.2.2.1 w.2.2.2.2.2.2.2.2.2.1 w.2.2.2.2.2.2.2.2.2.2.1 0 0 false [] [] [] [] [] [] [] [] w.2.1 w.2.2.2.2.2.1 w.2.2.2.2.2.2.2.2.2.2.1 w.1 DR w.2.2.2.1 w.2.2.2.2.1 Dq [] [] []=some ((((),w.2.1,(),(),(),w.2.2.2.2.2.1,(),(),(),(),w.2.2.2.2.2.2.2.2.2.2.1,()),()),(w.1,DR,w.2.2.2.1,w.2.2.2.2.1,(Dq++w.2.2.2.2.2.2.1.drop i),w.2.2.2.2.2.2.2.1,w.2.2.2.2.2.2.2.2.1,w.2.2.2.2.2.2.2.2.2.1,())):=by
 have wH:=h.TH;have hl:=h.lens;intro n
 induction n with
 |zero=>omega
 |succ n ih=>
  intro i DR Dq hi hn hb;simp only[Fg,Vl,AB];by_cases Dn:i<w.2.2.2.2.2.2.1.length
  ·have hm:=Aa (f:=Ap) (ANa Dn)
   rw[AMp (by omega),AMp (by omega),Am Dn,AJ (by omega) (by omega),show((i:Int)+1)=((i+1:Nat):Int)by omega,drop_cons Dn];rw[show(w.2.2.2.2.2.2.1[i].1,w.2.2.2.2.2.2.1[i].2.1,())=w.2.2.2.2.2.2.1[i]from rfl,Jd (by omega)];simp only[AD];rw[AMp (by rw[Au];omega),ih (i+1) _ _ (by omega) (by omega) (by simp_all),AOj];rfl
  ·have:=AEC h n 0 DR Dq [] (by omega) (by omega) (by simp)
   grind
theorem AMG:∀(n i:Nat) (DR:List AQ),i≤w.2.2.1.length→(w.2.2.1.length-i)+w.2.2.2.2.2.2.1.length+w.2.2.2.2.2.2.2.1.length+w.2.2.2.2.2.2.2.2.1.length+4≤n→DR.length≤i→
  Fb n w.2.2.1 w.2.2.1.length i w.1 w.2.1 w.2.2.1 w.2.2.2.1 w.2.2.2.2.1 w.2.2.2.2.2.1 w.2.2.2.2.2.2.1 w.2.2.2.2.2.2.2.1 w.2.2.2.2.2.2.2.2.1 w.2.2.2.2.2.2.2.2.2.1 w.2.2.2.2.2.2.2.2.2.2.1 0 0 false [] [] [] [] [] [] [] [] w.2.1 w.2.2.2.2.2.1 w.2.2.2.2.2.2.2.2.2.2.1 w.1 DR w.2.2.2.1 w.2.2.2.2.1 [] [] [] []=some ((((),w.2.1,(),(),(),w.2.2.2.2.2.1,(),(),(),(),w.2.2.2.2.2.2.2.2.2.2.1,()),()),(w.1,(DR++w.2.2.1.drop i),w.2.2.2.1,w.2.2.2.2.1,w.2.2.2.2.2.2.1,w.2.2.2.2.2.2.2.1,w.2.2.2.2.2.2.2.2.1,w.2.2.2.2.2.2.2.2.2.1,())):=by
 have wH:=h.TH;have hl:=h.lens;intro n
 induction n with
 |zero=>omega
 |succ n ih=>
  intro i DR hi hn hb;simp only[Fb,Vk,AB];by_cases Dn:i<w.2.2.1.length
  ·have hm:=Aa (f:=Al) (ANa Dn)
   have hw:=GG (s:=w.2.2.1[i]) (by omega);rw[AMp (by omega),AMp (by omega),Am Dn,AJ (by omega) (by omega),show((i:Int)+1)=((i+1:Nat):Int)by omega,drop_cons Dn];rw[show(w.2.2.1[i].1,w.2.2.1[i].2.1,w.2.2.1[i].2.2.1,())=w.2.2.1[i]from rfl,IG hw.1 hw.2];simp only[AD];rw[AMp (by rw[Au];omega),ih (i+1) _ (by omega) (by omega) (by simp_all),AOj];rfl
  ·have:=AG2 h n 0 DR [] (by omega) (by omega) (by simp)
   grind
theorem TN:H8 w=some ((((),w.2.1,(),(),(),w.2.2.2.2.2.1,(),(),(),(),w.2.2.2.2.2.2.2.2.2.2.1,()),()),(w.1,w.2.2.1,w.2.2.2.1,w.2.2.2.2.1,w.2.2.2.2.2.2.1,w.2.2.2.2.2.2.2.1,w.2.2.2.2.2.2.2.2.1,w.2.2.2.2.2.2.2.2.2.1,())):=by
 have wH:=h.TH;have hl:=h.lens;unfold H8 VH;have:=AMG h Ac 0 [] (by omega) (AV2 (Ae (by omega))) (by simp);rw[show((0:Nat):Int)=0 from rfl,AT6,AT_]at this;rw[show(w.1,w.2.1,())=AY w from rfl,iD (by show w.1.length≤_;omega),Dw (by omega),show(w.2.2.2.2.1,w.2.2.2.2.2.1,())=(CJ w)from rfl,IA (by show AX Bh w.2.2.2.2.1≤_;omega)];simp only[AD];exact this
end
end Go.M
end
section
set_option maxRecDepth 8000
namespace Go.M
open Go.M.H (AK AQ Av Af AA CR AO Ay AR Ah BR A6 BN Al CD AX AW Aa Ai Bh A4 Ap A_ EH CP Cv C3)
theorem vk{a b:Nat}(h:a+b<2^40):AS ((IntKind.wrap .u64 (AS ((a:Int)+(b:Int)))).fdiv (2^1))=(((a+b)/2:Nat):Int):=by
 grind[AJ,IntKind.wrap,IntKind.bits,IntKind.signed,Int.fdiv_eq_ediv_of_nonneg]
structure jb {α:Type} (f:α→Int) (p:Int) (l:List α) (q:Nat):Prop where
 le:q≤l.length
 lt:∀(i:Nat) (h:i<l.length),i<q→f l[i]<p
 ge:∀(i:Nat) (h:i<l.length),q≤i→p≤f l[i]
theorem cL{α:Type}{f:α→Int}{l:List α}(h:Uc f l){i j:Nat}(hi:i<l.length)(hj:j<l.length)(hij:i≤j):f l[i]≤f l[j]:=by
 grind[Int.le_of_lt,List.pairwise_iff_getElem]
theorem eH{l:List AK}(ha:bu l)(hl:l.length≤2^30)(p:Int):∃q,jb (fun e:AK=>e.1) p l q∧
  S9 l p=some ((((q:Int),(match l[q]? with|some e=>e.1==p|none=>false),()),()),()):=by
 have key:∀(n a b:Nat),a≤b→b≤l.length→b-a<n→(∀(i:Nat) (h:i<l.length),i<a→l[i].1<p)→(∀(i:Nat) (h:i<l.length),b≤i→p≤l[i].1)→
   ∃q,jb (fun e:AK=>e.1) p l q∧A3 n l p l.length a b=some ((((q:Int),(match l[q]? with|some e=>e.1==p|none=>false),()),()),()):=by
  intro n
  induction n with
  |zero=>omega
  |succ n ih=>
   intro a b sC hb hn h1 h2;simp only[A3,Ct,AB,SY];by_cases Hh:a<b
   ·have hm:(a+b)/2<l.length:=by omega
    rw[AMp (by omega),vk (by omega),AMp (by omega),Am hm];by_cases hc:l[(a+b)/2].1<p
    ·rw[AMp hc]
     simp only[AD];rw[AMp (by omega),AJ (by omega) (by omega),show((((a+b)/2:Nat):Int)+1)=(((a+b)/2+1:Nat):Int)by omega];refine ih _ b (by omega) hb (by omega) (fun i h hi=> ?_) h2;exact Int.lt_of_le_of_lt (cL (f:=fun e:AK=>e.1) ha h hm (by omega)) hc
    ·rw[AM5 hc]
     have yS:∀(i:Nat) (h:i<l.length),(a+b)/2≤i→p≤l[i].1:=fun i h hi=>Int.le_trans (by omega) (cL (f:=fun e:AK=>e.1) ha hm h hi)
     by_cases hd:l[(a+b)/2].1>p
     ·rw[AMp hd]
      simp only[AD];rw[AM5 (by omega)];exact ih a _ (by omega) (by omega) (by omega) h1 yS
     ·rw[AM5 hd]
      simp only[AD];rw[AM5 (by omega)];exact ih a _ (by omega) (by omega) (by omega) h1 yS
   ·have ADk:a=b:=by omega
    subst ADk;refine⟨a,⟨hb,h1,h2⟩,?_⟩;rw[AM5 (by omega)];by_cases ha':a<l.length
    ·have:=h2 a ha' (AQm _)
     rw[AMp (by omega),AMp (by omega),Am ha',AMt ha',AM5 (by omega)];by_cases hd:l[a].1>p
     ·simp_all;omega
     grind
    grind
 obtain⟨q,hq,e⟩:=key Ac 0 l.length (by omega) (by omega) (Ae (by omega)) (fun i h hi=>by omega) (fun i h hi=>by omega);refine⟨q,hq,?_⟩;unfold S9 CA Cw;simp_all
theorem jb.get_eq{p:Int}{l:List AK}{q:Nat}(h:jb (fun e:AK=>e.1) p l q)(ha:bu l):G_ p l=match l[q]? with|some e=>if e.1=p then some e else none|none=>none:=by
 by_cases hq:q<l.length
 ·rw[AMt hq]
  dsimp only;by_cases he:l[q].1=p
  ·rw[AMp he,←he]
   exact mz ha (ANa hq)
  ·rw[AM5 he]
   cases hg:G_ p l with
   |none=>rfl
   |some x=>
    obtain⟨hm,hx⟩:=lP hg;obtain⟨i,hi,rfl⟩:=AT2 hm;exfalso;have h2:=h.ge q hq (AQm _);rcases Nat.lt_or_ge i q with hiq|hiq
    ·have:=h.lt i hi hiq
     omega
    ·have:=cL (f:=fun e:AK=>e.1) ha hq hi hiq
     omega
 ·rw[AVj (by omega)]
  dsimp only;cases hg:G_ p l with
  |none=>rfl
  |some x=>
   obtain⟨hm,hx⟩:=lP hg;obtain⟨i,hi,rfl⟩:=AT2 hm;have:=h.lt i hi (by omega);omega
theorem Ps{s:AQ}(h0:Al s≤2^30)(h1:kH s)(p:Int):Fq s p=some (((match VZ s p with|some e=>(e,true,())|none=>((0,0,false,[],()),false,())),()),()):=by
 unfold Fq VZ;rw[show(s.1,s.2.1,s.2.2.1,())=s from rfl,FE h0 h1];simp only[AD];rcases AMo (B8 s)with Ei|Ei
 rotate_left
 ·simp_all
 have hs:=DC.1 Ei;have hn:=hs.nk;obtain⟨q,hq,e⟩:=eH hs.sA (by omega) p;rw[Ei,e,AMp rfl,hq.get_eq hs.sA];grind
theorem Fe{e o:Int}:DA e o=some (((F_ e o,BF e 1 30&&BF o 1 60,()),()),()):=by
 unfold DA Hp X3 F_;rw[Az,Az];simp only[AD];rcases AMo (BF e 1 30)with he|he
 rotate_left
 ·simp_all
 rcases AMo (BF o 1 60)with ho|ho
 rotate_left
 ·simp_all
 rw[he,ho];have h1:=Ak.1 he;have h2:=Ak.1 ho;simp only[ANX,ANI,Bool.and_self,AT8];rw[AJ (x:=4294967296*e) (by omega) (by omega),AJ (by omega) (by omega)];rfl
theorem Ze{k:Int}:IB k=some (((),()),(BU k,())):=by
 unfold IB VT BU;rw[Az];simp only[AD];rcases AMo (BF k 0 255)with hk|hk
 rotate_left
 ·simp_all
 rw[hk,AMp rfl];have hk':=Ak.1 hk;have key:∀(n i:Nat) (b:AAG),i≤8→8-i<n→b.length≤i→
   Kp n k i b=some (((),()),(b++(([0,1,2,3,4,5,6,7]:AAG).drop i).filter (fun i=>(k/2^i.toNat)%2==1),())):=by
  intro n
  induction n with
  |zero=>omega
  |succ n ih=>
   intro i b hi h hb;simp only[Kp,VL,AB];by_cases Dn:i<8
   ·have ADX:=vC (k:=k) (i:=i) (by omega) (by omega)
    rw[AMp (show(i:Int)<8 by omega),AM5 (by omega),ANN,uT i Dn,AUA,ANN,AJ (by omega) (by omega),show((i:Int)+1)=((i+1:Nat):Int)by omega];rw[ADX];simp only[AB];have c2:b.length+1≤DE:=by rw[Au];omega
    by_cases hb':(k/2^i)%2=1
    ·rw[AMp hb',AMp c2,AMp (by simp_all),ih (i+1) _ (by omega) (by omega) (by simp_all),AOj]
     rfl
    grind
   ·have:i=8:=by omega
    simp_all
 have:=key Ac 0 [] (by omega) (Ae (by omega)) (by simp);simp_all
theorem Ly{r:AO}(h:AX Bh r.1≤2^30){e:Int}(he:CO e):Hl r e=some (((),()),(A5 r.1 e,())):=by
 unfold Hl A5;have hl:=AW (f:=Bh) (l:=r.1);rw[Az];simp only[AD];rcases AMo (BF e 1 r.1.length)with hk|hk
 rotate_left
 ·simp_all
 rw[hk,AMp rfl];have hk':=Ak.1 hk;have hm:=Aa (f:=Bh) (Ba (d:=HG) (i:=(e-1).toNat) (by omega:(e-1).toNat<r.1.length));have hw:Bh (r.1.getD (e-1).toNat HG)=(r.1.getD (e-1).toNat HG).1.length:=rfl;rw[AJ (by omega) (by omega)];simp only[ANX,ANI];rw[AMp (by omega),show(r.1.getD (e-1).toNat ([],false,0,()))=r.1.getD (e-1).toNat HG from rfl,Dw (by omega)];rfl
theorem MN{w:AA}(h1:w.Aq.length≤2^30)(h2:w.lost.length≤2^30){n:Int}:EZ w n=some ((Aw w n,()),()):=by
 unfold EZ Aw;have h1':w.2.2.1.length≤2^30:=h1;rw[AJ (by omega) (by omega),Az,av (by grind)];grind
theorem Pj{b:Bool}:KK b=some ((if b then 0 else 4,()),()):=by cases b<;>rfl
theorem ig{x:AR}(h:x.2.1.length≤2^30):Q0 x=some (((bJ x.2.1:Int),()),()):=by
 have key:∀(n i:Nat),i≤x.2.1.length→x.2.1.length-i<n→i+bJ (x.2.1.drop i)=bJ x.2.1→Jh n x.2.1 x.2.1.length i x.1 x.2.1=some (((bJ x.2.1:Int),()),()):=by
  intro n
  induction n with
  |zero=>omega
  |succ n ih=>
   intro i hi hn hs;simp only[Jh,T9,AB];by_cases hc:i<x.2.1.length
   ·rw[drop_cons hc]at hs
    simp only[bJ]at hs;rw[AMp (by omega),AMp (by omega),Am hc,AJ (by omega) (by omega),show((i:Int)+1)=((i+1:Nat):Int)by omega];cases hd:x.2.1[i].2.2.1 with
    |true=>
     grind
    |false=>
     simp_all
   ·rw[ANl (by omega)]at hs
    simp only[bJ]at hs;grind
 grind[Q0,Tt,Ac,Ae]
theorem rj{w:AA}(h:fW w)(e:Int):R0 w e=some ((eY w e,()),()):=by
 have wH:=h.TH;have hl:=h.lens;have key:∀(n i:Nat),i≤w.AG.length→w.AG.length-i<n→Oh n e w.AG w.AG.length i=some (((match(w.AG.drop i).find? (fun x=>x.1==e)with|some x=>(bJ x.2.1:Int)|none=>0),()),()):=by
  intro n
  induction n with
  |zero=>omega
  |succ n ih=>
   intro i hi hn;simp only[Oh,Zn,AB];by_cases hc:i<w.AG.length
   ·have dj:i<w.2.2.2.2.2.2.1.length:=hc
    have hm:Ap w.AG[i]≤AX Ap w.2.2.2.2.2.2.1:=Aa (f:=Ap) (ANa hc);have hw:Ap w.AG[i]=AX A4 w.AG[i].2.1:=rfl;have hlw:=AW (f:=A4) (l:=w.AG[i].2.1);rw[AMp (by omega),AMp (by omega),Am hc,AJ (by omega) (by omega),show((i:Int)+1)=((i+1:Nat):Int)by omega,drop_cons hc,AVh,show(w.AG[i].1,w.AG[i].2.1,())=w.AG[i]from rfl,ig (by omega),ih (i+1) (by omega) (by omega)];cases w.AG[i].1==e<;>rfl
   grind
 grind[R0,ZN,eY,Ac,Ae]
end Go.M
end
section
set_option maxRecDepth 8000
namespace Go.M
open Go.M.H (AK AQ Av Af AA CR AO Ay AR Ah BR A6 BN Al CD AX AW Aa Ai Bh A4 Ap A_ EH CP Cv C3)
theorem yI{x:Int}{t:ADA}(h:t.1.length≤2^30):Rb x t=some ((!t.1.contains x,()),()):=by
 grind[Rb,JD]
theorem nD{x:Int}{t:AB5}:Mi x t=some ((x==t.1,()),()):=rfl
theorem nu{t:ADA×Unit}(h:t.1.1.length≤2^30){l:AAG}(hl:l.length≤2^30):Ck t l=some (((),()),((),l.filter (fun x=> !(!t.1.1.contains x)),())):=by
 have key:∀(n i j:Nat) (b:AAG),i≤j→j≤b.length→b.length≤2^30→b.length-j<n→Bt n t i j b=some (((),()),((),b.take i++(b.drop j).filter (fun x=> !(!t.1.1.contains x)),())):=by
  intro n
  induction n with
  |zero=>omega
  |succ n ih=>
   intro i j b hij hj hb hn;simp only[Bt,D5,AB];by_cases hc:j<b.length
   ·rw[AMp (by omega),AMp (by omega),Am hc,yI h]
    simp only[AD];rw[AJ (x:=(j:Int)+1) (by omega) (by omega),AJ (x:=(i:Int)+1) (by omega) (by omega),show((j:Int)+1)=((j+1:Nat):Int)by omega,show((i:Int)+1)=((i+1:Nat):Int)by omega,drop_cons hc,AUA];have n1:=ih (i+1) (j+1) (b.set i b[j]) (by omega) (by grind) (by simp_all) (by grind);have n2:=ih i (j+1) b (by omega) (by omega) hb (by omega);rw[show(t.1,())=t from rfl,n2];rw[AYh (by omega),AUF (by grind),AYi (AQm _),AYa,AOj,AUk]at n1;rw[AMp (by omega),ANN,n1]
    generalize hx:b[j]=x
    cases(!t.1.1.contains x)<;>rfl
   ·rw[AM5 (by omega),ANl (i:=j) (by omega),ANN,ANN]
    simp_all;omega
 have fnd:∀(n i:Nat),i≤l.length→l.length-i<n→ ∃r:Int,B4 n l t l.length i=some ((r,()),())∧((r= -1∧(l.drop i).filter (fun x=> !(!t.1.1.contains x))=l.drop i)∨ ∃q:Nat,r=q∧i≤q∧q<l.length∧((l.take q).drop i).filter (fun x=> !(!t.1.1.contains x))=(l.take q).drop i∧ ∀(h:q<l.length) x,x=l[q]→(!t.1.1.contains x)=true):=by
  intro n
  induction n with
  |zero=>omega
  |succ n ih=>
   intro i hi hn;simp only[B4,EC,AB];by_cases hc:i<l.length
   ·rw[AMp (by omega),AMp (by omega),Am hc,yI h]
    simp only[AD];rw[AJ (x:=(i:Int)+1) (by omega) (by omega),show((i:Int)+1)=((i+1:Nat):Int)by omega,show(t.1,())=t from rfl];obtain⟨r,e,hr⟩:=ih (i+1) (by omega) (by omega);rw[e]
    generalize hx:l[i]=x
    cases hp:(!t.1.1.contains x)with
    |true=>
     grind
    |false=>
     refine⟨r,rfl,?_⟩;rcases hr with⟨h1,h2⟩|⟨q,h1,h2,h3,h4,h5⟩
     ·grind[drop_cons]
     ·refine .inr ⟨q,h1,by omega,h3,?_,h5⟩
      grind[drop_cons]
   grind
 obtain⟨r,e,hr⟩:=fnd Ac 0 (by omega) (Ae (by omega));rw[show((0:Nat):Int)=0 from rfl]at e;unfold Ck D6 Dp EG;rw[show(t.1,())=t from rfl,e];simp only[AD];rcases hr with⟨h1,h2⟩|⟨q,h1,h2,h3,h4,h5⟩
 ·grind
 ·rw[h1,ARG.2 (by omega),ANI,AJ (by omega) (by omega),show((q:Int)+1)=((q+1:Nat):Int)by omega,key Ac q (q+1) l (by omega) (by omega) hl (Ae (by omega))]
  rw[AT_]at h4;have hd:=h5 h3 _ rfl;grind[List.take_append_drop,drop_cons]
theorem bn{t:ADb}{l:AAG}(hl:l.length≤2^30):Cm t l=some (((),()),((),l.filter (fun x=> !(x==t.1.1)),())):=by
 have key:∀(n i j:Nat) (b:AAG),i≤j→j≤b.length→b.length≤2^30→b.length-j<n→Br n t i j b=some (((),()),((),b.take i++(b.drop j).filter (fun x=> !(x==t.1.1)),())):=by
  intro n
  induction n with
  |zero=>omega
  |succ n ih=>
   intro i j b hij hj hb hn;simp only[Br,Er,AB];by_cases hc:j<b.length
   ·rw[AMp (by omega),AMp (by omega),Am hc,nD]
    simp only[AD];rw[AJ (x:=(j:Int)+1) (by omega) (by omega),AJ (x:=(i:Int)+1) (by omega) (by omega),show((j:Int)+1)=((j+1:Nat):Int)by omega,show((i:Int)+1)=((i+1:Nat):Int)by omega,drop_cons hc,AUA];have n1:=ih (i+1) (j+1) (b.set i b[j]) (by omega) (by grind) (by simp_all) (by grind);have n2:=ih i (j+1) b (by omega) (by omega) hb (by omega);rw[show(t.1,())=t from rfl,n2];rw[AYh (by omega),AUF (by grind),AYi (AQm _),AYa,AOj,AUk]at n1;rw[AMp (by omega),ANN,n1]
    generalize hx:b[j]=x
    cases(x==t.1.1)<;>rfl
   ·rw[AM5 (by omega),ANl (i:=j) (by omega),ANN,ANN]
    simp_all;omega
 have fnd:∀(n i:Nat),i≤l.length→l.length-i<n→ ∃r:Int,Bv n l t l.length i=some ((r,()),())∧((r= -1∧(l.drop i).filter (fun x=> !(x==t.1.1))=l.drop i)∨ ∃q:Nat,r=q∧i≤q∧q<l.length∧((l.take q).drop i).filter (fun x=> !(x==t.1.1))=(l.take q).drop i∧ ∀(h:q<l.length) x,x=l[q]→(x==t.1.1)=true):=by
  intro n
  induction n with
  |zero=>omega
  |succ n ih=>
   intro i hi hn;simp only[Bv,FI,AB];by_cases hc:i<l.length
   ·rw[AMp (by omega),AMp (by omega),Am hc,nD]
    simp only[AD];rw[AJ (x:=(i:Int)+1) (by omega) (by omega),show((i:Int)+1)=((i+1:Nat):Int)by omega,show(t.1,())=t from rfl];obtain⟨r,e,hr⟩:=ih (i+1) (by omega) (by omega);rw[e]
    generalize hx:l[i]=x
    cases hp:(x==t.1.1)with
    |true=>
     grind
    |false=>
     refine⟨r,rfl,?_⟩;rcases hr with⟨h1,h2⟩|⟨q,h1,h2,h3,h4,h5⟩
     ·grind[drop_cons]
     ·refine .inr ⟨q,h1,by omega,h3,?_,h5⟩
      grind[drop_cons]
   grind
 obtain⟨r,e,hr⟩:=fnd Ac 0 (by omega) (Ae (by omega));rw[show((0:Nat):Int)=0 from rfl]at e;unfold Cm E6 D7 FH;rw[show(t.1,())=t from rfl,e];simp only[AD];rcases hr with⟨h1,h2⟩|⟨q,h1,h2,h3,h4,h5⟩
 ·grind
 ·rw[h1,ARG.2 (by omega),ANI,AJ (by omega) (by omega),show((q:Int)+1)=((q+1:Nat):Int)by omega,key Ac q (q+1) l (by omega) (by omega) hl (Ae (by omega))]
  rw[AT_]at h4;have hd:=h5 h3 _ rfl;grind[List.take_append_drop,drop_cons]
theorem bj{a b:AAG}(ha:a.length≤2^30)(hb:b.length≤2^30):Ng a b=some (((),()),(a.filter b.contains,())):=by
 unfold Ng;rw[Dw ha];simp only[AD];rw[nu hb ha];grind
theorem Lm{a:AAG}{x:Int}(ha:a.length≤2^30):GI a x=some (((),()),(less a [x],())):=by
 unfold GI less;rw[Dw ha];simp only[AD];rw[bn ha];grind
theorem pY{d:BN}:ZE d=some ((K9 d,()),()):=by
 obtain⟨k,a,b,n,t,⟨⟩⟩:=d;obtain⟨m,hm⟩:∃m,Ac=m+4:=⟨Ac-4,by have:=fo;omega⟩;have fin:∀(a' b' n':Int) (t':ABp),(((A7 k 1 16).bind fun u4=>cond (u4.1.1) (cond ((((0:Int)==0)&&((a' ==0)&&((b' ==0)&&((n' ==0)&&((t' ==[])&&true))))) ) ((GL t).bind fun u6=>some ((u6.1.1,()),())) (some ((false,()),()))) (some ((false,()),()))):Option Qb)=some ((BF k 1 16&&((a' ==0)&&((b' ==0)&&((n' ==0)&&((t' ==[])&&decide (t.length≤40))))),()),()):=by
  intro a' b' n' t';rw[Az];simp only[AD,GL,AYb,ANr,AUU];have e:decide ((t.length:Int)≤40)=decide (t.length≤40):=by grind
  grind
 unfold ZE Yt cX K9 fU;rw[hm];have h1:((1:Nat):Int)=1:=rfl;have w1:AS (1:Int)=1:=AJ (by omega) (by omega);have w2:AS (2:Int)=2:=AJ (by omega) (by omega);have w3:AS (3:Int)=3:=AJ (by omega) (by omega);have lim:(3:Nat)≤DE:=by rw[Au];omega
 have l0:(0:Nat)≤DE:=by omega
 have l1:(1:Nat)≤DE:=by omega
 have l2:(2:Nat)≤DE:=by omega
 dsimp only;by_cases k8:k=8
 ·subst k8
  simpa[Dx,DU]using fin a b n t
 by_cases k10:k=10
 ·subst k10
  simpa[Dx,DU]using fin a b n t
 by_cases k12:k=12
 ·subst k12
  simpa[Dx,DU]using fin a b n t
 by_cases k2:k=2
 ·subst k2
  simpa[Dx,DU,l2,w1,w2]using fin 0 b n []
 by_cases k3:k=3
 ·subst k3
  simpa[Dx,DU,lim,w1,w2,w3]using fin 0 0 0 t
 by_cases k5:k=5
 ·subst k5
  simpa[Dx,DU,l2,w1,w2]using fin 0 0 n t
 by_cases k14:k=14
 ·subst k14
  simpa[Dx,DU,l2,w1,w2]using fin 0 0 n t
 by_cases k11:k=11
 ·subst k11
  simpa[Dx,DU,l2,w1,w2]using fin a 0 0 t
 by_cases k13:k=13
 ·subst k13
  simpa[Dx,DU,l1,w1]using fin 0 b n t
 have e8:(k==8)=false:=ARG.2 k8;have e10:(k==10)=false:=ARG.2 k10;have e12:(k==12)=false:=ARG.2 k12;have e2:(k==2)=false:=ARG.2 k2;have e3:(k==3)=false:=ARG.2 k3;have e5:(k==5)=false:=ARG.2 k5;have e14:(k==14)=false:=ARG.2 k14;have e11:(k==11)=false:=ARG.2 k11;have e13:(k==13)=false:=ARG.2 k13;simpa[k8,k10,k12,k2,k3,k5,k14,k11,k13,e8,e10,e12,e2,e3,e5,e14,e11,e13,Dx,DU,l1,w1]using fin 0 b n t
end Go.M
end
section
set_option maxRecDepth 8000
namespace Go.M
open Go.M.H (AK AQ Av Af AA CR AO Ay AR Ah BR A6 BN Al CD AX AW Aa Ai Bh A4 Ap A_ EH CP Cv C3)
theorem oP{l:List A6}(hl:l.length≤2^20):Pv l=some (((),()),(l.map (fun a=>a.1),())):=by
 have key:∀(n i:Nat) (b:AAG),i≤l.length→l.length-i<n→b.length=i→NR n l l.length i b=some (((),()),(b++(l.drop i).map (fun a=>a.1),())):=by
  intro n
  induction n with
  |zero=>omega
  |succ n ih=>
   intro i b hi h hb;simp only[NR,Xp,AB];by_cases dj:i<l.length
   ·have c1:(0:Int)≤(i:Int)∧(i:Int)<(l.length:Int):=by omega
    have c2:b.length+1≤DE:=by rw[Au];omega
    rw[AMp c1.2,AMp c1,AMp c2,AJ (by omega) (by omega),show((i:Int)+1)=((i+1:Nat):Int)by omega,Am dj,ih (i+1) _ (by omega) (by omega) (by simp_all),drop_cons dj];grind
   grind
 unfold Pv YE;have:=key Ac 0 [] (by omega) (Ae (by omega)) rfl;simp_all
theorem u_{c:Bz}{s l:AAG}(hc:c.1.length≤2^40)(hl:l.length≤2^20)(hs:s.length≤2^20):fZ c s l=some (((),()),(if A9 c s&&A9 c l then less s l else[],())):=by
 have key:∀(n i:Nat) (b:AAG),i≤s.length→s.length-i<n→b.length≤i→SM n l s s.length i b=some (((),()),(b++less (s.drop i) l,())):=by
  intro n
  induction n with
  |zero=>omega
  |succ n ih=>
   intro i b hi h hb;simp only[SM,dJ,AB,A0];by_cases dj:i<s.length
   ·have c1:(0:Int)≤(i:Int)∧(i:Int)<(s.length:Int):=by omega
    have c2:b.length+1≤DE:=by rw[Au];omega
    rw[AMp c1.2,AMp c1,Am dj,JD (by omega),AJ (by omega) (by omega),show((i:Int)+1)=((i+1:Nat):Int)by omega,drop_cons dj];simp only[AD,AMp c2];rw[ih (i+1) b (by omega) (by omega) (by omega),ih (i+1) (b++[s[i]]) (by omega) (by omega) (by simp_all)];grind[less]
   ·rw[AM5 (by omega),ANl (by omega)]
    simp[less]
 unfold fZ dV;rw[show(c.1,c.2.1,())=c from rfl,EL hc (by omega),EL hc (by omega)];simp only[AD];cases A9 c s with
 |false=>rfl
 |true=>
  cases A9 c l with
  |false=>rfl
  |true=>
   have:=key Ac 0 [] (by omega) (Ae (by omega)) (by simp);simp_all
theorem filter_all{l:AAG}{p:Int→Bool}:((((l.filter p).length:Nat):Int) !=(l.length:Int))= !l.all p:=by
 rw[AYH];simp only[bne_iff_ne,ne_eq,AUO,AUQ];grind[List.filter_eq_self,List.all_eq_true,List.length_filter_eq_length_iff]
theorem eM{c:Bz}{s l:AAG}(hc:c.1.length≤2^40)(hl:l.length≤2^20)(hs:s.length≤2^20):HE c s l=some ((Q_ c s l,()),()):=by
 unfold HE Q_;rw[show(c.1,c.2.1,())=c from rfl,EL hc (by omega),Fp hc (by omega),bj (by omega) (by omega),u_ hc hl hs];simp only[AD,A0,filter_all];have hh:holds c s=true→A9 c s=true:=fun h=>by
  unfold holds at h;simp_all
 cases h1:A9 c l with
 |false=>simp
 |true=>
  cases h2:holds c s with
  |false=>rfl
  |true=>
   cases h3:l.all s.contains with
   |false=>rfl
   |true=>
    have h4:(less s l).length≤2^20:=ASX (ARp _ _) hs;rw[hh h2];simp only[ANk,Bool.and_self,AT8,ANX,ANI,ANr];grind[Fp]
theorem X7{a b:AK}:Rv a b=some ((better a b,()),()):=by
 unfold Rv better;grind
theorem r7{s:AAG}{p:Int}{l:List A6}(hs:s.length≤2^20)(hl:l.length≤2^20)(U2:∀a∈l,CO a.2.2.1):
  ZV l s p=some (((((I2 s p none l).getD Dy),(I2 s p none l).isSome,()),()),()):=by
 have key:∀(n i:Nat) (b:Option AK),i≤l.length→l.length-i<n→
   Of n s p b.isSome l l.length i 0 0 false [] (b.getD Dy).1 (b.getD Dy).2.1 (b.getD Dy).2.2.1 (b.getD Dy).2.2.2.1=some (((((I2 s p b (l.drop i)).getD Dy),(I2 s p b (l.drop i)).isSome,()),()),()):=by
  intro n
  induction n with
  |zero=>omega
  |succ n ih=>
   intro i b hi h;simp only[Of,ZR,AB,A0];by_cases dj:i<l.length
   ·have c1:(0:Int)≤(i:Int)∧(i:Int)<(l.length:Int):=by omega
    rw[AMp c1.2,AMp c1,AJ (by omega) (by omega),show((i:Int)+1)=((i+1:Nat):Int)by omega,Am dj,drop_cons dj];have ih':=fun b=>ih (i+1) b (by omega) (by omega)
    simp only[ih'];rw[JD (by omega),show(l[i].2.2.1,l[i].2.2.2.1,l[i].2.2.2.2.1,l[i].2.2.2.2.2.1,())=XD l[i]from rfl];rw[Qr (e:=XD l[i]) (U2 _ (ANa dj))];simp only[AD,I2];cases h1:l[i].2.1 with
    |false=>simp
    |true=>
     cases h2:s.contains l[i].1 with
     |false=>simp
     |true=>
      cases h3:F7 (XD l[i])with
      |false=>simp
      |true=>
       simp only[ANk,ANr];by_cases h4:l[i].2.2.1=p
       ·rw[Cs,AMp h4,AMp (by show((XD l[i]).1==p)=true;rw[AUP];exact h4)]
        cases b with
        |none=>
         simp only[AUH,ANI,X7,AD,Option.getD_none];have:=ih' (some (XD l[i]));simp only[AUI,AUJ]at this;have hb:better (XD l[i]) (XD l[i])=XD l[i]:=by unfold better;simp_all
         simp_all
        |some x=>
         simp only[AUI,ANk,AUJ];rw[show(x.1,x.2.1,x.2.2.1,x.2.2.2.1,())=x from rfl];grind[X7,AD,better,XD,Option.isSome_some]
       ·rw[Cs,AM5 h4,AM5 (by show¬((XD l[i]).1==p)=true;rw[AUP];exact h4)]
   ·rw[AM5 (by omega),ANl (by omega)]
    rfl
 unfold ZV Zs;exact key Ac 0 none (by omega) (Ae (by omega))
theorem cC{s t:AAG}{p:Int}:∀{l:List A6} {b:Option AK},(∀a∈l,s.contains a.1=t.contains a.1)→I2 s p b l=I2 t p b l
 |[],b,_=>rfl
 |a::l,b,h=>by
  simp only[I2];rw[h a (by simp),cC (fun x hx=>h x (by simp[hx])),cC (fun x hx=>h x (by simp[hx]))]
theorem Wg{e:BR}{a b:Int}{l:List BR}(h:l.length≤2^30):FR e a b l=some (((),()),((a,b,(),()),(),l++[e],())):=by
 unfold FR;rw[AMp (by rw[Au];omega)]
theorem eN{s:AAG}{l:List A6}{a b:Int}{o:List BR}(ha:1≤a∧a≤30)(hb:1≤b∧b≤60)(ho:o.length≤2^20)(hs:s.length≤2^20)(hl:l.length≤2^20)(U2:∀a∈l,CO a.2.2.1):
  C6 l s a b o=some (((),()),((a,b+1,(),()),(),o++[UT (Ge a b) (I2 s (Ge a b) none l)],())):=by
 unfold C6;rw[Fe];have hp:F_ a b=Ge a b:=by
  unfold F_;rw[AMp (by rw[ANB,Ak,Ak];omega)]
 simp only[AD];rw[hp,r7 hs hl U2];simp only[AD,Wg (ASX ho (by omega))];rw[AJ (by omega) (by omega)];cases I2 s (Ge a b) none l with
 |none=>rfl
 |some x=>
  simp only[AUI,ANX,ANI,AUJ,UT];grind
theorem zi{x e o:Int}(hx:x=0∨Bf x=true)(he:1≤e∧e≤31)(ho:1≤o∧o≤61):
  decide (x≥Ge e o)=(decide (x>0)&& !(decide (An x<e)||((An x==e)&&decide (Cp x<o)))):=by
 rcases hx with rfl|hx
 ·grind[decide_eq_false,Ge]
 ·have h:=EV hx
  rw[AYH];simp only[ANB,AUO,Bool.or_eq_false_iff,ANo,AUu,Bool.and_eq_false_iff,ARG];grind[Ge]
theorem oW{x:Int}{r:Ah}(hx:CO x):Ww x r=some ((decide (An x<r.1)||((An x==r.1)&&decide (Cp x<r.2.1)),()),()):=by
 grind[Ww,FB,aA,AD,decide,An]
end Go.M
end
section
set_option maxRecDepth 8000
namespace Go.M
open Go.M.H (AK AQ Av Af AA CR AO Ay AR Ah BR A6 BN Al CD AX AW Aa Ai Bh A4 Ap A_ EH CP Cv C3)
theorem iQ{c:Bz}{g:AO}{sure:Int}{r:Ah}{l:List A6}(hc:c.1.length≤2^20)(hg:AX Bh g.1≤2^20)(ht:CO g.2.1)(hl:l.length≤2^20)(U2:∀a∈l,CO a.2.2.1):
  KL c g sure r l=some (AAU (Df c g sure r l)):=by
 unfold KL Df;rw[show(c.1,c.2.1,())=c from rfl,show(g.1,g.2.1,())=g from rfl,show(r.1,r.2.1,r.2.2.1,())=r from rfl,oP hl,Nq (by omega) (by omega) ht,bC];simp only[AD,A0,AB];rw[EL (by omega) (by grind)];simp only[AD];cases h1:On c g with
 |false=>rfl
 |true=>
 cases h2:ae r with
 |false=>rfl
 |true=>
 cases h3:A9 c (l.map fun a=>a.1)with
 |false=>rfl
 |true=>
 have hr:=Xd.1 h2;have hre:=hr.ep;have hro:=hr.off;have hrn:=hr.n;have hR:=KC.1 h1;have hRn:=hR.n;simp only[ANk,ANr,ANX,ANZ,AQ7];rw[X1 (by omega)];simp only[AD];by_cases h4:r.1>(g.1.length:Int)
 ·rw[AMp h4,ATy h4];rfl
 rw[AM5 h4,AUG h4];by_cases h5:r.2.2.1.length=120
 ·rw[show(((r.2.2.1.length:Nat):Int)==120)=true by simp_all,ATy h5];rfl
 rw[show(((r.2.2.1.length:Nat):Int)==120)=false by grind,AUG h5];simp only[ANI,AT5,ANZ,AQ7];rw[AJ (x:=r.1-1) (by omega) (by omega),oW ht,FB ht,aA ht];simp only[AD];have hto:=jm (x:=g.2.1);rw[AJ (x:=Cp g.2.1+1) (by omega) (by omega),AJ (x:=r.1+1) (by omega) (by omega)];simp only[Wg (l:=r.2.2.1) (by omega),AD];have hta:=zi (x:=g.2.1) (e:=r.1) (o:=r.2.1) (hR.trim.imp id fun h=>h.1) hre hro
 generalize ADw:g.1.getD (r.1-1).toNat HG=era
 have Hh:(r.1-1).toNat<g.1.length:=by omega
 have VO:era.1.length≤2^20:=by
  have h7:=Aa (f:=Bh) (Ba (d:=HG) Hh);rw[ADw]at h7;have:Bh era=era.1.length:=rfl;omega
 have hd:g.1.getD (r.1-1).toNat ([],false,0,())=era:=ADw;rw[hd];have hf:((l.map fun a=>a.1).filter era.1.contains).length≤2^20:=ASX (ARp _ _) (by simp_all);rw[bj (by grind) (by omega)];simp only[AD];rw[eM (by omega) hf VO];simp only[AD];have AaN:(0:Int)≤r.1-1∧r.1-1<(g.1.length:Int):=by omega
 simp only[AMp AaN]
 generalize hT:(cond (era.2.1) _ _:Option Kv)=T
 have yV:T=some (AAU (if era.2.1&&decide (r.2.1>era.2.2.1)then((r.1+1,1,r.2.2.1++[(4,r.1+1,[],())],()),0)else
   if(!era.2.1&&decide (r.2.1>sure))||decide (r.2.1>60)then(r,2)else
   if !Q_ c era.1 ((l.map fun a=>a.1).filter era.1.contains)then(r,3)else
   ((r.1,r.2.1+1,r.2.2.1++[UT (Ge r.1 r.2.1) (I2 era.1 (Ge r.1 r.2.1) none l)],()),0))):=by
  rw[←hT];clear hT;have tail:r.2.1≤60→(cond (Q_ c era.1 ((l.map fun a=>a.1).filter era.1.contains))
    ((C6 l ((l.map fun a=>a.1).filter era.1.contains) r.1 r.2.1 r.2.2.1).bind fun Li=>some ((((Li.2.1.1,Li.2.1.2.1,(),()),0,()),()),(Li.2.2.2.1,())))
    (some ((((r.1,r.2.1,(),()),3,()),()),(r.2.2.1,()))):Option Kv)=some (AAU (if !Q_ c era.1 ((l.map fun a=>a.1).filter era.1.contains)then(r,3)else
    ((r.1,r.2.1+1,r.2.2.1++[UT (Ge r.1 r.2.1) (I2 era.1 (Ge r.1 r.2.1) none l)],()),0))):=by
   intro h60;rw[eN (by omega) (by omega) (by omega) hf hl U2];rw[cC (s:=(l.map fun a=>a.1).filter era.1.contains) (t:=era.1) (fun a ha=>by
    rw[AYH,AWw,AUN];exact⟨fun h=>by simp_all,fun h=>⟨List.mem_map_of_mem ha,by omega⟩⟩)]
   cases Q_ c era.1 ((l.map fun a=>a.1).filter era.1.contains)<;>rfl
  cases h7:era.2.1 with
  |true=>
   simp only[ANk,ANI,ANr,ANX,AUC,AT5,ANo];by_cases h8:r.2.1>era.2.2.1
   ·rw[AMp h8,AMp h8];rfl
   rw[AM5 h8,AM5 h8];by_cases h9:r.2.1>60
   ·rw[AMp h9,AMp h9];rfl
   grind
  |false=>
   simp only[ANk,ANI,ANr,ATb,AUC,ANZ,AQ7,AUE,ANo];by_cases h8:r.2.1>sure
   ·rw[AMp h8,AMp (.inl h8)];rfl
   rw[AM5 h8];by_cases h9:r.2.1>60
   ·rw[AMp h9,AMp (.inr h9)];rfl
   grind
 rw[yV];clear hT yV
 generalize (decide (An g.2.1<r.1)||((An g.2.1==r.1)&&decide (Cp g.2.1<r.2.1)))=B at hta⊢
 by_cases h6:g.2.1≥Ge r.1 r.2.1
 ·rw[ATy h6]at hta
  rw[AMp h6];by_cases h0:g.2.1>0
  ·rw[AMp h0]
   cases B with
   |true=>grind
   |false=>rfl
  simp_all
 ·rw[AM5 h6]
  simp_all
end Go.M
end
section
set_option maxRecDepth 8000
namespace Go.M
open Go.M.H (AK AQ Av Af AA CR AO Ay AR Ah BR A6 BN Al CD AX AW Aa Ai Bh A4 Ap A_ EH CP Cv C3)
theorem AB_{w:AA}{p n:Int}:(answer w p n).1=n:=by
 grind[answer]
theorem pn{w:AA}{p:Int}{ns:AAG}:(answers w p ns).map (fun a=>a.1)=ns.filter fun n=>Aw w n==0:=by
 unfold answers;rw[AVu]
 conv=>rhs;rw[←List.map_id (ns.filter fun n=>Aw w n==0)]
 grind[List.map_congr_left,AB_]
theorem mR{c:Bz}{g:AO}{s:Int}{r:Ah}{w:AA}{ns:AAG}:
  Df c g s r (answers w (F_ r.1 r.2.1) ns)=Df c g s r (answers w (Ge r.1 r.2.1) ns):=by
 unfold Df;rw[pn,pn];cases h1:On c g with
 |false=>rfl
 |true=>
 cases h2:ae r with
 |false=>rfl
 |true=>
 have hr:=Xd.1 h2;have hre:=hr.ep;have hro:=hr.off;have hRn:=(KC.1 h1).n;by_cases h3:r.1≤30∧r.2.1≤60
 ·have:F_ r.1 r.2.1=Ge r.1 r.2.1:=by
   unfold F_;rw[AMp (by rw[ANB,Ak,Ak];omega)]
  rw[this]
 ·by_cases h4:r.1>(g.1.length:Int)
  ·simp_all
  ·have h5:r.2.1>60:=by omega
   simp_all
def lr(q:AA×Int):KX:=((q.2,()),(((),q.1.2.1,(),(),(),q.1.2.2.2.2.2.1,(),(),(),(),q.1.2.2.2.2.2.2.2.2.2.2.1,()),q.1.1,q.1.2.2.1,q.1.2.2.2.1,q.1.2.2.2.2.1,q.1.2.2.2.2.2.2.1,q.1.2.2.2.2.2.2.2.1,q.1.2.2.2.2.2.2.2.2.1,q.1.2.2.2.2.2.2.2.2.2.1,()))
theorem AL_{k n:Int}(h:n∈BU k):0≤n∧n≤7:=by
 unfold BU at h;simp_all;omega
theorem wb{k:Int}:(BU k).length≤8:=by
 unfold BU;split
 ·exact ASX (ARp _ _) (by simp)
 ·simp
section
variable{w:AA} (h:Me w) (LH:fW w)
include h LH
omit LH in
theorem zO{p:Int}{ns:AAG}:∀a∈answers w p ns,CO a.2.2.1:=fun a ha=>by
 unfold answers at ha;obtain⟨n,hn,rfl⟩:=AUR.1 ha;have hn':Aw w n=0:=by have:=(AUN.1 hn).2;rwa [AUP]at this
 unfold answer;split
 ·rename_i e he
  have:=(h.store hn').kept e (AWy he);exact Gr (GS.1 this).pl
 ·exact⟨by show-9223372036854775808≤(0:Int);omega,by show(0:Int)<9223372036854775808;omega⟩
theorem il{a k:Int}:NK a k w.2.1 w.2.2.2.2.2.1 w.2.2.2.2.2.2.2.2.2.2.1 w.1 w.2.2.1 w.2.2.2.1 w.2.2.2.2.1 w.2.2.2.2.2.2.1 w.2.2.2.2.2.2.2.1 w.2.2.2.2.2.2.2.2.1 w.2.2.2.2.2.2.2.2.2.1=some (lr (NF w a k)):=by
 have kn:=h.nums;have k1:=kn.c;have k3:=kn.lost;have k4:=kn.st;have jH:=kn.J6;have kq:=kn.jL;have k5:=kn.era;have k6:=kn.ws;have k6':AX Al w.Aq≤80008:=kn.ws;have k8:=kn.rd;unfold NK N9 NF;rw[AJ (by omega) (by omega),show((w.2.2.2.2.2.2.2.2.1.length:Int)-1)=1 by omega,Az];simp only[AD,A0];rcases AMo (BF a 0 1)with h1|h1
 rotate_left
 ·rw[h1];rfl
 have h1':=Ak.1 h1;have hb:0≤a∧a<(w.2.2.2.2.2.2.2.2.1.length:Int):=by omega
 have Hh:a.toNat<w.Aj.length:=by
  simp_all
 have Xc:=h.Aj _ (Ba (d:=Gn) Hh);rw[h1,GH,ANk,AMp hb,Ze];simp only[show w.2.2.2.2.2.2.2.2.1.getD a.toNat (0,0,[],())=w.Aj.getD a.toNat Gn from rfl]
 generalize hx:w.Aj.getD a.toNat Gn=r at Xc⊢
 have hre:=Xc.ep;have hro:=Xc.off;rw[Fe];simp only[AD];have yQ:=wb (k:=k);have hmi:=fun n=>AL_ (k:=k) (n:=n)
 rw[←mR]
 generalize hp:F_ r.1 r.2.1=p
 have U2:=fun ns=>zO h (p:=p) (ns:=ns)
 generalize BU k=ms at yQ hmi
 have key:∀(n i:Nat) (b:List A6),i≤ms.length→ms.length-i<n→b.length≤i→b=answers w p (ms.take i)→
   C9 n a p ms.length i w.2.1 w.2.2.2.2.2.1 w.2.2.2.2.2.2.2.2.2.2.1 w.1 w.2.2.1 w.2.2.2.1 w.2.2.2.2.1 w.2.2.2.2.2.2.1 w.2.2.2.2.2.2.2.1 w.2.2.2.2.2.2.2.2.1 w.2.2.2.2.2.2.2.2.2.1 r.1 r.2.1 r.2.2.1 b ms=
    some (lr (if(Df (AY w) (CJ w) (eY w r.1) r (answers w p ms)).2≠0 then(w,5)else(w.DB (w.Aj.set a.toNat (Df (AY w) (CJ w) (eY w r.1) r (answers w p ms)).1),0))):=by
  intro n
  induction n with
  |zero=>omega
  |succ n ih=>
   intro i b hi hn hb' he;simp only[C9,Nv,AB,A0];by_cases Dn:i<ms.length
   ·have c1:(0:Int)≤(i:Int)∧(i:Int)<(ms.length:Int):=by omega
    have c2:b.length+1≤DE:=by rw[Au];omega
    have ht:ms.take (i+1)=ms.take i++[ms[i]]:=AUF Dn;rw[AMp c1.2,AMp c1,Am Dn,AJ (by omega) (by omega),show((i:Int)+1)=((i+1:Nat):Int)by omega,show(w.1,w.2.1,w.2.2.1,w.2.2.2.1,w.2.2.2.2.1,w.2.2.2.2.2.1,w.2.2.2.2.2.2.1,w.2.2.2.2.2.2.2.1,w.2.2.2.2.2.2.2.2.1,w.2.2.2.2.2.2.2.2.2.1,w.2.2.2.2.2.2.2.2.2.2.1,())=w from rfl,av (by omega)];simp only[AD];have hm:=hmi _ (ANa Dn);by_cases hn0:Aw w ms[i]=0
    ·obtain⟨n1,n2,n3⟩:=LK hn0
     have n2':ms[i]<(w.2.2.1.length:Int):=n2;have n3':w.2.2.2.1.contains ms[i]=false:=by
      simp_all
     have hs1:(ms[i]).toNat<w.2.2.1.length:=by omega
     have cM:w.2.2.1.getD (ms[i]).toNat ([],[],0,())=storeAt w ms[i]:=rfl;have hsm:Al (storeAt w ms[i])≤2^30:=ASX (Aa (f:=Al) (Ba (d:=Dk) hs1)) (by omega);have Aav:B8 (storeAt w ms[i])=true:=DC.2 (h.store hn0);rw[AMp n2',n3',ANI,AMp ⟨n1,n2'⟩,cM,show((storeAt w ms[i]).1,(storeAt w ms[i]).2.1,(storeAt w ms[i]).2.2.1,())=storeAt w ms[i]from rfl,Ps hsm (h.store hn0).sin];simp only[AD];rw[AMp c2];refine ih (i+1) _ (by omega) (by omega) (by simp_all) ?_
     rw[ht,he];unfold answers;rw[List.filter_append,List.map_append];congr 1;rw[AUA,AMp (by simp_all),AYg,AVt,AYM];congr 1;unfold answer VZ;rw[AMp Aav];cases G_ p (storeAt w ms[i]).1<;>rfl
    ·have n1:=ih (i+1) b (by omega) (by omega) (by omega) (by
      rw[ht,he];unfold answers;rw[List.filter_append,List.map_append,AUA,AM5 (by simp_all),AYg,AYM,AN6])
     by_cases hl:ms[i]<(w.2.2.1.length:Int)
     ·rw[AMp hl]
      have AXn:w.2.2.2.1.contains ms[i]=true:=by
       cases hc:w.2.2.2.1.contains ms[i]with
       |true=>rfl
       |false=>
        exfalso
        apply hn0;unfold Aw;have e1:BF ms[i] 0 ((w.Aq.length:Int)-1)=true:=Ak.2 (by omega);simp_all
      simp_all
     grind
   ·have e0:ms.take i=ms:=AUB (by omega)
    rw[e0]at he;subst he;have xS:(answers w p ms).length≤8:=by omega
    rw[AM5 (by omega),show(w.1,w.2.1,w.2.2.1,w.2.2.2.1,w.2.2.2.2.1,w.2.2.2.2.2.1,w.2.2.2.2.2.2.1,w.2.2.2.2.2.2.2.1,w.2.2.2.2.2.2.2.2.1,w.2.2.2.2.2.2.2.2.2.1,w.2.2.2.2.2.2.2.2.2.2.1,())=w from rfl,rj LH,show(r.1,r.2.1,r.2.2.1,())=r from rfl,show(w.1,w.2.1,())=AY w from rfl,show(w.2.2.2.2.1,w.2.2.2.2.2.1,())=CJ w from rfl];simp only[AD];rw[iQ (c:=AY w) (g:=CJ w) (by show w.1.length≤_;omega) (by show AX Bh w.2.2.2.2.1≤_;omega) kn.trim (by omega) (U2 ms)];simp only[AD,AAU,Cs];by_cases h2:(Df (AY w) (CJ w) (eY w r.1) r (answers w p ms)).2=0
    ·rw[AMp h2,AMp hb,AM5 (fun hh=>hh h2)];rfl
    ·rw[AM5 h2,AMp h2];rfl
 grind[Ac,Ae,answers]
end
end Go.M
end
section
set_option maxRecDepth 8000
namespace Go.M
open Go.M.H (AK AQ Av Af AA CR AO Ay AR Ah BR A6 BN Al CD AX AW Aa Ai Bh A4 Ap A_ EH CP Cv C3)
theorem Me.ABn{w:AA}(h:Me w)(hr:AX A_ w.Aj≤900000):fW w:=by
 have hc:=(Db h.cfg).2.1;have dj:w.1.length≤8:=hc;have a1:=EK (f:=Al) (B:=10000) (N:=8) (l:=w.Aq) (by rw[h.nw];omega) fun s hs=>(h.QU hs).w
 have a2:=Fj h.lost;have a3:=h.lU.w;have a4:=EK (f:=Ap) (B:=3000) h.sU fun x hx=>(h.AG x hx).1.w
 have a5:=EK (f:=CD) (B:=5000) h.x_ fun x hx=>(h.CE x hx).1.w
 have a7:=EK (f:=EH) (B:=40) h.OS fun s hs=>(h.AU s hs).2.2
 refine⟨?_,fun s hs=>(h.QU hs).sin,h.lU.tin,fun m hm=>(h.CE m hm).1.yT,fun s hs=>Gr (h.AU s hs).1⟩;have a3':AX Bh w.Ao≤270:=a3;grind[AX,A_,Al,Bh,Ap,CD,EH,Cv]
end Go.M
end
section
set_option maxRecDepth 8000
namespace Go.M
open Go.M.H (AK AQ Av Af AA CR AO Ay AR Ah BR A6 BN Al CD AX AW Aa Ai Bh A4 Ap A_ EH CP Cv C3)
theorem kJ{α:Type}{q:Nat}{v l:List α}(hq:q≤l.length)(hl:l.length+v.length≤2^30):yD (q:Int) v l=some (l.take q++v++l.drop q):=by
 unfold yD;rw[AMp ⟨by omega,by omega,by rw[Au];omega⟩,ANN]
theorem yF{l:AAG}(ha:Uc id l)(hl:l.length≤2^30)(p:Int):∃q,jb id p l q∧
  Gf l p=some ((((q:Int),(match l[q]? with|some e=>e==p|none=>false),()),()),()):=by
 have key:∀(n a b:Nat),a≤b→b≤l.length→b-a<n→(∀(i:Nat) (h:i<l.length),i<a→l[i]<p)→(∀(i:Nat) (h:i<l.length),b≤i→p≤l[i])→
   ∃q,jb id p l q∧Du n l p l.length a b=some ((((q:Int),(match l[q]? with|some e=>e==p|none=>false),()),()),()):=by
  intro n
  induction n with
  |zero=>omega
  |succ n ih=>
   intro a b sC hb hn h1 h2;simp only[Du,J4,AB,cmp_Less_int,cmp_isNaN_int,Pm,bne_self_eq_false,AD,ANI];by_cases Hh:a<b
   ·have hm:(a+b)/2<l.length:=by omega
    rw[AMp (by omega),vk (by omega),AMp (by omega),Am hm];by_cases hc:l[(a+b)/2]<p
    ·rw[AMp hc,AJ (by omega) (by omega),show((((a+b)/2:Nat):Int)+1)=(((a+b)/2+1:Nat):Int)by omega]
     refine ih _ b (by omega) hb (by omega) (fun i h hi=> ?_) h2;have:=cL (f:=id) ha h hm (by omega);grind
    ·have yS:∀(i:Nat) (h:i<l.length),(a+b)/2≤i→p≤l[i]:=fun i h hi=>by
      have:=cL (f:=id) ha hm h hi;grind
     rw[AM5 hc];exact ih a _ (by omega) (by omega) (by omega) h1 yS
   ·have ADk:a=b:=by omega
    subst ADk;refine⟨a,⟨hb,h1,h2⟩,?_⟩;rw[AM5 (by omega)];by_cases ha':a<l.length
    ·rw[AMp (by omega),AMp (by omega),Am ha',AMt ha']
     dsimp only;cases l[a]==p<;>simp[ha']
    grind
 obtain⟨q,hq,e⟩:=key Ac 0 l.length (by omega) (by omega) (Ae (by omega)) (fun i h hi=>by omega) (fun i h hi=>by omega);refine⟨q,hq,?_⟩;unfold Gf J5;omega
theorem rv{x:Int}:∀{l:AAG} {q:Nat},jb id x l q→(∀h:q<l.length,l[q]≠x)→gw x l=l.take q++[x]++l.drop q
 |[],q,h,_=>by
  have:=h.le;have:q=0:=by simp_all
  subst this;rfl
 |y::l,0,h,hn=>by
  have h1:=h.ge 0 (by simp) (AQm _);have h2:=hn (by simp);simp only[AWZ,id]at h1 h2;simp only[gw];grind
 |y::l,q+1,h,hn=>by
  have h1:=h.lt 0 (by simp) (by omega);simp only[AWZ,id]at h1;simp only[gw];rw[AM5 (by omega),rv (l:=l) (q:=q) ⟨by have:=h.le;simp_all,fun i hi hiq=>by have:=h.lt (i+1) (by simp_all) (by omega);simp_all,fun i hi hiq=>by have:=h.ge (i+1) (by simp_all) (by omega);simp_all⟩ (fun hq=>by simp_all)];rfl
theorem Pq{l:AAG}{x:Int}(ha:Uc id l)(hl:l.length≤2^29):LB l x=some (((),()),(N2 x l,())):=by
 unfold LB N2;rw[Dw (by omega)];simp only[AD];obtain⟨q,hq,e⟩:=yF ha (by omega) x;rw[e];simp only[AD,A0];by_cases hc:q<l.length
 ·rw[AMt hc]
  dsimp only;by_cases he:l[q]=x
  ·grind
  ·rw[ARG.2 he,ANI]
   have hn:l.contains x=false:=by
    rw[AUQ,ne_eq,AWw];intro hm;obtain⟨i,hi,rfl⟩:=AT2 hm;rcases Nat.lt_or_ge i q with hiq|hiq
    ·have:=hq.lt i hi hiq;simp_all
    ·have h1:=cL (f:=id) ha hc hi hiq
     have h2:=hq.ge q hc (AQm _);grind
   rw[hn,AM5 (by simp)];grind[J3,kJ,rv]
 ·rw[AVj (by omega)]
  dsimp only;rw[ANI];have hn:l.contains x=false:=by
   rw[AUQ,ne_eq,AWw];intro hm;obtain⟨i,hi,rfl⟩:=AT2 hm;have:=hq.lt i hi (by omega);simp_all
  rw[hn,AM5 (by simp)];unfold J3;rw[kJ hq.le (by grind),rv hq (fun h=>absurd h hc)];rfl
theorem wt{e:AK}:∀{l:List AK} {q:Nat},jb (fun x:AK=>x.1) e.1 l q→bu l→
  keep e l=if h:q<l.length then(if l[q].1=e.1 then l.set q (better l[q] e)else l.take q++[e]++l.drop q)else l++[e]
 |[],q,h,_=>by
  rfl
 |y::l,0,h,_=>by
  have h1:=h.ge 0 (by simp) (AQm _);simp only[AWZ]at h1;simp only[keep,AOw,Nat.zero_lt_succ,AYX,AWZ];grind
 |y::l,q+1,h,ha=>by
  have h1:=h.lt 0 (by simp) (by omega);simp only[AWZ]at h1;have ih:=wt (e:=e) (l:=l) (q:=q) ⟨by have:=h.le;simp_all,fun i hi hiq=>by have:=h.lt (i+1) (by simp_all) (by omega);simp_all,fun i hi hiq=>by have:=h.ge (i+1) (by simp_all) (by omega);simp_all⟩ (ARx.1 ha).2;simp only[keep];grind
theorem cY{e:AK}{l:List AK}(ha:bu l)(hl:l.length≤2^29):Xg e l=some (((),()),((),keep e l,())):=by
 unfold Xg;obtain⟨q,hq,hs⟩:=eH ha (by omega) e.1;rw[hs,wt hq ha];simp only[AD,A0];by_cases hc:q<l.length
 ·rw[dif_pos hc,AMt hc]
  dsimp only;have hb:(0:Int)≤(q:Int)∧(q:Int)<(l.length:Int):=by omega
  by_cases he:l[q].1=e.1
  ·rw[AUP.2 he,ANk,AMp he,AMp hb,Am hc,show(l[q].1,l[q].2.1,l[q].2.2.1,l[q].2.2.2.1,())=l[q]from rfl,show(e.1,e.2.1,e.2.2.1,e.2.2.2.1,())=e from rfl,X7]
   simp_all
  ·rw[ARG.2 he,ANI,AM5 he]
   grind[D1,kJ]
 ·have hql:q=l.length:=by have:=hq.le;omega
  rw[dif_neg hc,AVj (by omega)];dsimp only;rw[ANI];grind[D1,kJ,List.take_length,List.drop_length]
theorem M8{s:AQ}(hw:Al s≤2^30)(hs:kH s):Ds s=some (if B8 s then((((),(),s.2.2.1,()),()),(s.1,s.2.1,()))else((((),(),0,()),()),([],[],()))):=by
 obtain⟨l1,l2⟩:=GG hw;unfold Ds;rw[show(s.1,s.2.1,s.2.2.1,())=s from rfl,FE hw hs,IG l1 l2];grind
theorem l9{s:AQ}{e:AK}(hw:Al s≤2^30)(hs:kH s)(he:CO e.1):Uw s e=some (jI (GM s e)):=by
 obtain⟨l1,l2⟩:=GG hw;unfold Uw GM;rw[show(s.1,s.2.1,s.2.2.1,())=s from rfl,show(e.1,e.2.1,e.2.2.1,e.2.2.2.1,())=e from rfl,FE hw hs,M8 hw hs,IG l1 l2,Qr he,FB he];simp only[AD,A0,AB,DS];cases h1:B8 s with
 |false=>rfl
 |true=>
  have Ei:=DC.1 h1;have wu:=Ei.nl;cases h2:F7 e with
  |false=>rfl
  |true=>
   have hE:=(GS.1 h2).w0;simp only[ANk,ANr,ANX,ANZ,AQ7,AT8];have lim:s.2.1.length+1≤DE:=by rw[Au];omega
   by_cases h3:s.2.1.length=20
   ·rw[AMp (by omega),AUG (fun h=>h h3),AYK]
    rfl
   ·rw[AM5 (by omega),ATy (show s.2.1.length≠20 from h3),AUU]
    unfold takes;by_cases h4:e.2.1=0
    ·rw[AMp h4,AMp h4]
     by_cases h5:An e.1≤s.2.2.1
     ·rw[AMp h5,AUG (by omega)];rfl
     ·rw[AM5 h5,AM5 (by omega),AMp lim,ATy (by omega)];rfl
    ·rw[AM5 h4,AM5 h4,AMp (by omega)]
     by_cases h5:e.2.1≤s.2.2.1
     ·rw[AMp h5,AUG (by omega)];rfl
     ·rw[AM5 h5,AMp lim,ATy (by omega)];rfl
theorem X_{s:AQ}{k:Int}(hw:Al s≤2^30)(hs:kH s):NI s k=some (jI (FX s k)):=by
 obtain⟨l1,l2⟩:=GG hw;unfold NI Tu FX;rw[show(s.1,s.2.1,s.2.2.1,())=s from rfl,FE hw hs,M8 hw hs,IG l1 l2,Az];simp only[AD,A0];cases h1:B8 s with
 |false=>rfl
 |true=>
  have Ei:=DC.1 h1;have wu:=Ei.nl;have hnk:=Ei.nk;simp only[ANk,ANX,ANZ,AQ7,AT8];cases h2:BF k 0 1048575 with
  |false=>rfl
  |true=>
   have hk:=Ak.1 h2;have Acr:0≤k∧k<2^63:=by omega
   simp only[ANk,ANr];have key:∀(n i:Nat) (b:List AK),i≤s.2.1.length→s.2.1.length-i<n→b.length≤200+i→bu b→
     JY n k s.2.1 s.2.1.length i s.1 s.2.1 s.2.2.1 0 [] [] s.2.2.1 b []=
      some (jI (if decide ((ED b (LW k i (s.2.1.drop i))).length≤200)then((ED b (LW k i (s.2.1.drop i)),[],s.2.2.1,()),true)else(s,false))):=by
    intro n
    induction n with
    |zero=>omega
    |succ n ih=>
     intro i b hi hn hb sC;simp only[JY,T_,AB];by_cases hc:i<s.2.1.length
     ·have ADX:=vC Acr (i:=i) (by omega)
      rw[AMp (by omega),AMp (by omega),AM5 (by omega),ANN,ADX,AB,NU hc,AJ (by omega) (by omega),show((i:Int)+1)=((i+1:Nat):Int)by omega,drop_cons hc];rw[show(s.2.1[i].1,s.2.1[i].2.1,s.2.1[i].2.2.1,s.2.1[i].2.2.2.1,())=s.2.1[i]from rfl,cY sC (by omega)];simp only[AD];rw[show LW k i (s.2.1[i]::s.2.1.drop (i+1))=if(k/2^i)%2=1 then s.2.1[i]::LW k (i+1) (s.2.1.drop (i+1))else LW k (i+1) (s.2.1.drop (i+1))from rfl];by_cases hbt:(k/2^i)%2=1
      ·rw[AMp hbt,AMp hbt,ih (i+1) _ (by omega) (by omega) (by grind[YN]) (ax sC)]
       rfl
      ·rw[AM5 hbt,AM5 hbt,ih (i+1) _ (by omega) (by omega) (by omega) sC]
     ·rw[AM5 (by omega),ANl (by omega),show(s.1,s.2.1,s.2.2.1,())=s from rfl,IG l1 l2]
      simp only[AD,LW,ED];by_cases hg:b.length≤200
      ·rw[AM5 (by omega),AMp (ATy hg)];rfl
      ·rw[AMp (by omega),AM5 (by simp_all)];rfl
   have:=key Ac 0 s.1 (by omega) (Ae (by omega)) (by omega) Ei.sA;simp_all
theorem ZS{s:AQ}(hw:Al s≤2^30)(hs:kH s):PC s=some (jI (Bk s)):=by
 unfold PC Bk;rw[show(s.1,s.2.1,s.2.2.1,())=s from rfl,X_ hw hs];rfl
theorem ji{s:AQ}{u:Int}(hw:Al s≤2^30)(hs:kH s):O7 s u=some (jI (Bu s u)):=by
 unfold O7 Bu;rw[show(s.1,s.2.1,s.2.2.1,())=s from rfl,ZS hw hs,M8 hw hs,Az];simp only[AD,A0,jI];cases h1:B8 s with
 |false=>
  grind[Bk,FX]
 |true=>
  grind
theorem lk{s:AQ}{ep:Int}(hw:Al s≤2^30)(hs:kH s):Qe s ep=some (((),()),(G2 s ep,())):=by
 obtain⟨l1,l2⟩:=GG hw;unfold Qe Wm G2;rw[show(s.1,s.2.1,s.2.2.1,())=s from rfl,FE hw hs];simp only[AD,A0];cases h1:B8 s with
 |false=>rfl
 |true=>
  have key:∀(n i:Nat) (b:List AK),i≤s.1.length→s.1.length-i<n→b.length≤i→
    MJ n ep s.1 s.1.length i b=some (((),()),(b++(s.1.drop i).filter (fun e=>An e.1==ep),())):=by
   intro n
   induction n with
   |zero=>omega
   |succ n ih=>
    intro i b hi hn hb;simp only[MJ,Wj,AB];by_cases hc:i<s.1.length
    ·rw[AMp (by omega),AMp (by omega),Am hc,FB (hs.1 _ (ANa hc)),AJ (by omega) (by omega),show((i:Int)+1)=((i+1:Nat):Int)by omega,drop_cons hc,AUA]
     simp only[AD];rw[AMp (by rw[Au];omega),show(s.1[i].1,s.1[i].2.1,s.1[i].2.2.1,s.1[i].2.2.2.1,())=s.1[i]from rfl,ih (i+1) _ (by omega) (by omega) (by simp_all),ih (i+1) b (by omega) (by omega) (by omega)];grind
    grind
  have:=key Ac 0 [] (by omega) (Ae (by omega)) (by simp);simp_all
end Go.M
end
section
set_option maxRecDepth 8000
namespace Go.M
open Go.M.H (AK AQ Av Af AA CR AO Ay AR Ah BR A6 BN Al CD AX AW Aa Ai Bh A4 Ap A_ EH CP Cv C3)
theorem xy{x:AK}{t:AB5}:Pg (x.1,x.2.1,x.2.2.1,x.2.2.2.1,()) t=some ((decide (x.1≤t.1),()),()):=rfl
theorem ew{t:ADb}{l:List AK}(hl:l.length≤2^30):Bq t l=some (((),()),((),l.filter (fun x=> !(decide (x.1≤t.1.1))),())):=by
 have key:∀(n i j:Nat) (b:List AK),i≤j→j≤b.length→b.length≤2^30→b.length-j<n→BG n t i j b=some (((),()),((),b.take i++(b.drop j).filter (fun x=> !(decide (x.1≤t.1.1))),())):=by
  intro n
  induction n with
  |zero=>omega
  |succ n ih=>
   intro i j b hij hj hb hn;simp only[BG,DV,AB];by_cases hc:j<b.length
   ·rw[AMp (by omega),AMp (by omega),Am hc,xy]
    simp only[AD];rw[AJ (x:=(j:Int)+1) (by omega) (by omega),AJ (x:=(i:Int)+1) (by omega) (by omega),show((j:Int)+1)=((j+1:Nat):Int)by omega,show((i:Int)+1)=((i+1:Nat):Int)by omega,drop_cons hc,AUA];have n1:=ih (i+1) (j+1) (b.set i b[j]) (by omega) (by grind) (by simp_all) (by grind);have n2:=ih i (j+1) b (by omega) (by omega) hb (by omega);rw[show(t.1,())=t from rfl,n2];rw[AYh (by omega),AUF (by grind),AYi (AQm _),AYa,AOj,AUk]at n1;rw[AMp (by omega),ANN,n1]
    generalize hx:b[j]=x
    cases(decide (x.1≤t.1.1))<;>rfl
   ·rw[AM5 (by omega),ANl (i:=j) (by omega),ANN,ANN]
    simp_all;omega
 have fnd:∀(n i:Nat),i≤l.length→l.length-i<n→ ∃r:Int,BL n l t l.length i=some ((r,()),())∧((r= -1∧(l.drop i).filter (fun x=> !(decide (x.1≤t.1.1)))=l.drop i)∨ ∃q:Nat,r=q∧i≤q∧q<l.length∧((l.take q).drop i).filter (fun x=> !(decide (x.1≤t.1.1)))=(l.take q).drop i∧ ∀(h:q<l.length) x,x=l[q]→(decide (x.1≤t.1.1))=true):=by
  intro n
  induction n with
  |zero=>omega
  |succ n ih=>
   intro i hi hn;simp only[BL,DZ,AB];by_cases hc:i<l.length
   ·rw[AMp (by omega),AMp (by omega),Am hc,xy]
    simp only[AD];rw[AJ (x:=(i:Int)+1) (by omega) (by omega),show((i:Int)+1)=((i+1:Nat):Int)by omega,show(t.1,())=t from rfl];obtain⟨r,e,hr⟩:=ih (i+1) (by omega) (by omega);rw[e]
    generalize hx:l[i]=x
    cases hp:(decide (x.1≤t.1.1))with
    |true=>
     grind
    |false=>
     refine⟨r,rfl,?_⟩;rcases hr with⟨h1,h2⟩|⟨q,h1,h2,h3,h4,h5⟩
     ·grind[drop_cons]
     ·refine .inr ⟨q,h1,by omega,h3,?_,h5⟩
      grind[drop_cons]
   grind
 obtain⟨r,e,hr⟩:=fnd Ac 0 (by omega) (Ae (by omega));rw[show((0:Nat):Int)=0 from rfl]at e;unfold Bq DN Cj DY;rw[show(t.1,())=t from rfl,e];simp only[AD];rcases hr with⟨h1,h2⟩|⟨q,h1,h2,h3,h4,h5⟩
 ·grind
 ·rw[h1,ARG.2 (by omega),ANI,AJ (by omega) (by omega),show((q:Int)+1)=((q+1:Nat):Int)by omega,key Ac q (q+1) l (by omega) (by omega) hl (Ae (by omega))]
  rw[AT_]at h4;have hd:=h5 h3 _ rfl;grind[List.take_append_drop,drop_cons]
theorem jl{s:AQ}{u:Int}(hw:Al s≤2^30)(hs:kH s)(hu:CO u):SZ s u=some (jI (JS s u)):=by
 obtain⟨l1,l2⟩:=GG hw;unfold SZ JS;rw[show(s.1,s.2.1,s.2.2.1,())=s from rfl,FE hw hs,M8 hw hs,IG l1 l2,Qy hu];simp only[AD];cases B8 s with
 |false=>rfl
 |true=>
  cases Bf u with
  |false=>rfl
  |true=>
   rw[ew l1];simp only[AD,ANX,ANI,ANZ,AQ7,AT8];rw[show(fun x:AK=> !decide (x.1≤(((u,()),()):ADb).1.1))=fun e=>decide (e.1>u)from funext fun x=>by
    grind]
   rfl
theorem zt{p:Int}{n:Nat}:BF (An p) 1 n=(Bf p&&decide (An p≤n)):=by
 cases h:Bf p with
 |false=>
  unfold An;rw[h];rfl
 |true=>
  obtain⟨⟨h1,h2⟩,_⟩:=EV h;unfold BF;simp_all
section
variable{c:Bz} {r:AO} (hc:c.1.length≤2^40) (hl:AX Bh r.1≤2^30) (ht:CO r.2.1)
include hc hl ht
theorem UG:EP c r=some (if On c r then((((),r.2.1,()),()),(r.1,()))else((((),0,()),()),([],()))):=by
 unfold EP;rw[show(c.1,c.2.1,())=c from rfl,show(r.1,r.2.1,())=r from rfl,Nq hc hl ht,IA hl];grind
theorem oK{ns:AAG}(hn:ns.length≤2^30):NA c r ns=some (((((),(Iu c r ns).1.2.1,()),(Iu c r ns).2.1,(Iu c r ns).2.2,()),()),((Iu c r ns).1.1,())):=by
 have l1:=AW (f:=Bh) (l:=r.1);unfold NA Iu;rw[show(c.1,c.2.1,())=c from rfl,show(r.1,r.2.1,())=r from rfl,Nq hc hl ht,UG hc hl ht,IA hl,Fp hc (by omega),Dw hn];simp only[AD];cases On c r with
 |false=>rfl
 |true=>
  cases holds c ns with
  |false=>rfl
  |true=>
   simp only[ANX,ANI,ANZ,AQ7,ANr,AT8];by_cases h30:r.1.length=30
   ·simp_all
   ·rw[show((r.1.length:Int)==30)=false by grind,show decide (r.1.length≠30)=true by simp[h30],ANI,AMp (by rw[Au];omega)]
    simp
theorem lz{b last:Int}:QY c r b last=some (pkR (NY c r b last)):=by
 have l1:=AW (f:=Bh) (l:=r.1);unfold QY NY;rw[show(c.1,c.2.1,())=c from rfl,show(r.1,r.2.1,())=r from rfl,Nq hc hl ht,UG hc hl ht,IA hl,S7 (by omega)];simp only[AD];rcases AMo (On c r)with hr|hr
 rotate_left
 ·rw[hr];rfl
 have Ei:=KC.1 hr;rw[hr];simp only[ANX,ANI,ANZ,AQ7,AT8];by_cases h1:b=r.1.length
 rotate_left
 ·rw[show(b !=(r.1.length:Int))=true by simp_all,show decide (b=(r.1.length:Int))=false by simp_all]
  rfl
 rw[show(b !=(r.1.length:Int))=false by simp_all,show decide (b=(r.1.length:Int))=true by simp_all];simp only[ANI,ANr];by_cases h3:b=BK r.1
 ·rw[show(BK r.1==b)=true by simp_all,show decide (b≠BK r.1)=false by simp_all,AUC,AYK]
  rfl
 have AIj:0<r.1.length:=by
  rcases AYQ r.1.length with hz|hz
  ·exact absurd (by rw[h1,hz];unfold BK;rw[hz];rfl) h3
  omega
 obtain⟨k,k1,k2,k3,k4⟩:=TL Ei AIj;rw[show(BK r.1==b)=false by grind,show decide (b≠BK r.1)=true by simp_all,show decide (BK r.1≠0)=true by grind,Az];simp only[ANI,ANr,AD];cases BF last 0 60 with
 |false=>rfl
 |true=>
  simp only[ANX,ANI,AT8];rw[k2,AJ (by omega) (by omega),show((k:Int)+1-1)=(k:Int)by omega,AMp (by omega),AMp (by simp_all),ANN];unfold pkR O1;simp_all
theorem oZ{p:Int}(hp:CO p):W8 c r p=some (pkR (OT c r p)):=by
 unfold W8 OT;rw[show(c.1,c.2.1,())=c from rfl,show(r.1,r.2.1,())=r from rfl,Nq hc hl ht,UG hc hl ht,IA hl,FB hp];simp only[AD];rw[Az,zt];simp only[AD];cases On c r with
 |false=>rfl
 |true=>
  cases Bf p&&decide (An p≤(r.1.length:Int))with
  |false=>rfl
  |true=>
   simp only[ANX,ANI,ANZ,AQ7,AT8];rw[show(if p>r.2.1 then p else r.2.1)=max r.2.1 p by omega];rfl
end
section
variable{c:Bz} {w:AR} (hc:c.1.length≤2^40) (hl:AX A4 w.2.1≤2^20)
include hc hl
theorem Wp:EU c w=some (if EM c w then(((w.1,(),()),()),(w.2.1,()))else(((0,(),()),()),([],()))):=by
 unfold EU;rw[show(c.1,c.2.1,())=c from rfl,show(w.1,w.2.1,())=w from rfl,JF hc (by omega),Jd (by show AX A4 w.2.1≤2^30;omega)];grind
theorem kP{d:ABp}(hd:d.length≤2^20):Jb c w d=some (((((Bn c w d).1.1,(),()),(Bn c w d).2.1,(Bn c w d).2.2,()),()),((Bn c w d).1.2.1,())):=by
 have l1:=AW (f:=A4) (l:=w.2.1);unfold Jb Bn;rw[show(c.1,c.2.1,())=c from rfl,show(w.1,w.2.1,())=w from rfl,Jd (by show AX A4 w.2.1≤2^30;omega),Wp hc hl];simp only[AD];rw[AMp (by rw[Au];omega),JF hc (by omega),JF hc (by
  grind[AX,A4,I8,List.length_nil])]
 grind
theorem kf{o n:Int}:TW c w o n=some (pkW (Ra c w o n)):=by
 have l1:=AW (f:=A4) (l:=w.2.1);unfold TW Ra;rw[show(c.1,c.2.1,())=c from rfl,show(w.1,w.2.1,())=w from rfl,JF hc (by omega),Wp hc hl,Jd (by show AX A4 w.2.1≤2^30;omega),Az,Az];simp only[AD];rcases AMo (EM c w)with hw|hw
 rotate_left
 ·rw[hw];rfl
 have Ei:=Ir.1 hw;have zd:=Db Ei.cfg;rw[hw,AJ (x:=(c.1.length:Int)-1) (by omega) (by omega)];simp only[ANX,ANI,ANZ,AQ7,AT8];rcases AMo (BF o 1 (w.2.1.length:Int))with ho|ho
 rotate_left
 ·rw[ho];rfl
 have yY:=Ak.1 ho;rw[ho];have hi:(o-1).toNat<w.2.1.length:=by omega
 have xQ:w.2.1.getD (o-1).toNat LR∈w.2.1:=Ba (d:=LR) hi;have hm:(w.2.1.getD (o-1).toNat LR).1.length+(w.2.1.getD (o-1).toNat LR).2.1.length≤AX A4 w.2.1:=Aa (f:=A4) xQ;have AED:=(DO.1 (Ei.words _ xQ).2.1).2.2;simp only[ANX,ANI,ANr];rw[AJ (x:=o-1) (by omega) (by omega),AMp (by omega)]
 show cond (w.2.1.getD (o-1).toNat LR).2.2.1 _ _=_
 cases(w.2.1.getD (o-1).toNat LR).2.2.1 with
 |true=>
  cases BF n 0 ((c.1.length:Int)-1)<;>rfl
 |false=>
  cases BF n 0 ((c.1.length:Int)-1)with
  |false=>rfl
  |true=>
   simp only[ANI,ATb,AT8,ANX,Bool.and_self];rw[AMp (by omega),show(w.2.1.getD (o-1).toNat ([],[],false,())).2.1=(w.2.1.getD (o-1).toNat LR).2.1 from rfl,Pq AED (by omega)];simp only[AD];have hg:∀x:Ay,(w.2.1.set (o-1).toNat x).getD (o-1).toNat ([],[],false,())=x:=fun x=>Np hi
   rw[hg,Fp hc (by
    grind[TA,LR])]
   simp only[AD];rw[AYW];rfl
theorem eJ{n:Int}:OI c w n=some (pkW (CF c w n)):=by
 have l1:=AW (f:=A4) (l:=w.2.1);unfold OI Rr CF;rw[show(c.1,c.2.1,())=c from rfl,show(w.1,w.2.1,())=w from rfl,JF hc (by omega),Jd (by show AX A4 w.2.1≤2^30;omega)];simp only[AD];cases EM c w with
 |false=>rfl
 |true=>
  simp only[ANX,ANI,ANZ,AQ7];have key:∀(k i:Nat),i≤w.2.1.length→w.2.1.length-i<k→Hq k n w.2.1 w.2.1.length i 0 [] w.1 ((w.2.1.map (E4 n)).take i++w.2.1.drop i)=some (pkW ((w.1,w.2.1.map (E4 n),()),true)):=by
   intro k
   induction k with
   |zero=>omega
   |succ k ih=>
    intro i hi hk;have hlen:((w.2.1.map (E4 n)).take i++w.2.1.drop i).length=w.2.1.length:=Pr hi;simp only[Hq,Rs,AB,hlen];by_cases Dn:i<w.2.1.length
    ·have c1:(0:Int)≤(i:Int)∧(i:Int)<(w.2.1.length:Int):=by omega
     have hm:w.2.1[i].1.length+w.2.1[i].2.1.length≤AX A4 w.2.1:=Aa (f:=A4) (ANa Dn);have hg:((w.2.1.map (E4 n)).take i++w.2.1.drop i).getD ((i:Int).toNat) ([],[],false,())=w.2.1[i]:=NN Dn;rw[AMp c1.2];simp only[AMp c1,hg];rw[Am Dn,AJ (by omega) (by omega),show((i:Int)+1)=((i+1:Nat):Int)by omega];rcases AMo (w.2.1[i].2.2.1)with hd|hd
     ·rw[hd]
      simp only[ANX,ANI];grind[kj,my]
     ·rw[hd]
      simp only[ATb,ANk];rw[Lm (by omega)];grind[AD,Int.toNat_natCast,Qv,E4]
    ·rw[AM5 (by omega),ANl (by omega)]
     have:i=w.2.1.length:=by omega
     subst this;rw[AN6,AUB (by simp)];rfl
  have:=key Ac 0 (by omega) (Ae (by omega));simp_all
end
end Go.M
end
section
set_option maxRecDepth 8000
namespace Go.M
open Go.M.H (AK AQ Av Af AA CR AO Ay AR Ah BR A6 BN Al AX AW Aa Ai Bh A4 Ap CD C3)
section
variable{c:Bz} {m:Av} (hc:c.1.length≤2^40) (hm:CD m≤2^20) (h:gB m.2.2.2.1)
include hc hm h
theorem TS:E_ c m=some (if Gv c m then(((m.1,m.2.1,(),(),m.2.2.2.2.1,(),()),()),(m.2.2.1,m.2.2.2.1,m.2.2.2.2.2.1,()))else(((0,0,(),(),false,(),()),()),([],[],[],()))):=by
 unfold E_;rw[show(c.1,c.2.1,())=c from rfl,show(m.1,m.2.1,m.2.2.1,m.2.2.2.1,m.2.2.2.2.1,m.2.2.2.2.2.1,())=m from rfl,Hy hc (by omega) h,HV (by omega)];grind
theorem oh{o n:Int}:PU c m o n=some (gZ (Td c m o n)):=by
 obtain⟨h1,h2,h3,h4⟩:=HZ hm;unfold PU Td;rw[show(c.1,c.2.1,())=c from rfl,show(m.1,m.2.1,m.2.2.1,m.2.2.2.1,m.2.2.2.2.1,m.2.2.2.2.2.1,())=m from rfl,Hy hc (by omega) h,TS hc hm h,HV (by omega),Az,Az];simp only[AD];rcases AMo (Gv c m)with hw|hw
 rotate_left
 ·rw[hw];rfl
 have Ei:=Gq.1 hw;have zd:=Db Ei.cfg;rw[hw,AJ (x:=(c.1.length:Int)-1) (by omega) (by omega)];simp only[ANX,ANI,ANZ,AQ7,AT8];rcases AMo (BF o 1 (m.2.2.2.2.2.1.length:Int))with ho|ho
 rotate_left
 ·rw[ho];rfl
 have yY:=Ak.1 ho;rw[ho];cases BF n 0 ((c.1.length:Int)-1)with
 |false=>rfl
 |true=>
  have hi:(o-1).toNat<m.2.2.2.2.2.1.length:=by omega
  have xQ:=Ba (d:=([]:AAG)) hi;have hq:=h4 _ xQ;have AED:=(DO.1 (Ei.wrote _ xQ)).2.2;simp only[ANX,ANI,ANr,AT8];rw[AJ (by omega) (by omega),AMp (by omega),Pq AED (by omega)];simp only[AD];rw[AMp (by omega)];rfl
theorem iT{n:Int}:Qi c m n=some (gZ (B9 c m n)):=by
 obtain⟨h1,h2,h3,h4⟩:=HZ hm;unfold Qi T5 B9;rw[show(c.1,c.2.1,())=c from rfl,show(m.1,m.2.1,m.2.2.1,m.2.2.2.1,m.2.2.2.2.1,m.2.2.2.2.2.1,())=m from rfl,Hy hc (by omega) h,HV (by omega)];simp only[AD];cases Gv c m with
 |false=>rfl
 |true=>
  simp only[ANX,ANI,ANZ,AQ7];have key:∀(k i:Nat),i≤m.2.2.2.2.2.1.length→m.2.2.2.2.2.1.length-i<k→Jn k n m.2.2.2.2.2.1 m.2.2.2.2.2.1.length i 0 0 false [] [] [] m.1 m.2.1 m.2.2.2.2.1 m.2.2.1 m.2.2.2.1 ((m.2.2.2.2.2.1.map (fun l=>less l [n])).take i++m.2.2.2.2.2.1.drop i)=
    some (gZ ((m.1,m.2.1,m.2.2.1,m.2.2.2.1,m.2.2.2.2.1,m.2.2.2.2.2.1.map (fun l=>less l [n]),()),true)):=by
   intro k
   induction k with
   |zero=>omega
   |succ k ih=>
    intro i hi hk;have hlen:=Pr (f:=fun l=>less l [n]) hi;simp only[Jn,Tx,AB,hlen];by_cases Dn:i<m.2.2.2.2.2.1.length
    ·have c1:(0:Int)≤(i:Int)∧(i:Int)<(m.2.2.2.2.2.1.length:Int):=by omega
     have hq:=h4 _ (ANa Dn);rw[AMp c1.2];simp only[AMp c1];rw[Am Dn,AJ (by omega) (by omega),show((i:Int)+1)=((i+1:Nat):Int)by omega,Lm (by omega)];simp only[AD];rw[ANN,Qv Dn rfl];grind
    ·rw[AM5 (by omega),ANl (by omega)]
     have:i=m.2.2.2.2.2.1.length:=by omega
     subst this;rw[AN6,AUB (by simp)];rfl
  have:=key Ac 0 (by omega) (Ae (by omega));simp_all
theorem jY:PM c m=some ((UF c m,()),()):=by
 obtain⟨h1,h2,h3,h4⟩:=HZ hm;unfold PM VM UF;rw[show(c.1,c.2.1,())=c from rfl,show(m.1,m.2.1,m.2.2.1,m.2.2.2.1,m.2.2.2.2.1,m.2.2.2.2.2.1,())=m from rfl,Hy hc (by omega) h];simp only[AD];cases Gv c m with
 |false=>rfl
 |true=>
  rcases AMo m.2.2.2.2.1 with hp|hp
  rotate_left
  ·simp_all
  have key:∀(k i:Nat),i≤m.2.2.2.2.2.1.length→m.2.2.2.2.2.1.length-i<k→KY k m.2.2.2.2.2.1 m.2.2.2.2.2.1.length i c.1 c.2.1=some (((m.2.2.2.2.2.1.drop i).all (holds c),()),()):=by
   intro k
   induction k with
   |zero=>omega
   |succ k ih=>
    intro i hi hk;simp only[KY,Vg,AB];by_cases Dn:i<m.2.2.2.2.2.1.length
    ·have c1:(0:Int)≤(i:Int)∧(i:Int)<(m.2.2.2.2.2.1.length:Int):=by omega
     have hq:=h4 _ (ANa Dn);rw[AMp c1.2,AMp c1,AJ (by omega) (by omega),show((i:Int)+1)=((i+1:Nat):Int)by omega,Am Dn,drop_cons Dn,show(c.1,c.2.1,())=c from rfl,Fp hc (by omega),ih (i+1) (by omega) (by omega)];simp only[AD,AUT];cases holds c m.2.2.2.2.2.1[i]<;>rfl
    grind
  have:=key Ac 0 (by omega) (Ae (by omega));simp_all
omit hc h in
theorem Zq{o:Int}:JX m o=some ((((ES m o).getD Dy,(ES m o).isSome,()),()),()):=by
 obtain⟨h1,h2,h3,h4⟩:=HZ hm;unfold JX Vo ES;rw[Fe];simp only[AD];cases m.2.2.2.2.1 with
 |false=>
  simp only[AUC,ANZ,AQ7,ATb,ANk];cases(BF m.2.1 1 30&&BF o 1 60)<;>rfl
 |true=>
  simp only[ANX,ANI,ANr];rcases AMo (BF m.2.1 1 30)with he|he
  rotate_left
  ·rw[he];rfl
  rcases AMo (BF o 1 60)with ho|ho
  rotate_left
  ·rw[he,ho];rfl
  have hp:F_ m.2.1 o=Ge m.2.1 o:=by unfold F_;rw[he,ho];rfl
  rw[he,ho,hp];simp only[AUU,ANX,ANI,ANr];by_cases hl:o≤m.2.2.2.2.2.1.length
  ·rw[show decide (o>(m.2.2.2.2.2.1.length:Int))=false by simpa using hl,show decide (o≤(m.2.2.2.2.2.1.length:Int))=true by simpa using hl]
   simp only[ANI,AT8];have key:∀(k i:Nat),i≤m.2.2.2.1.length→m.2.2.2.1.length-i<k→K5 k (Ge m.2.1 o) m.2.2.2.1 m.2.2.2.1.length i m.1 m.2.1 m.2.2.1 m.2.2.2.1 true m.2.2.2.2.2.1 0 0 false []=
     some ((((match G_ (Ge m.2.1 o) (m.2.2.2.1.drop i)with
      |some x=>(Ge m.2.1 o,m.1,x.2.2.1,x.2.2.2.1,())
      |none=>(Ge m.2.1 o,m.1,true,[],())),true,()),()),()):=by
    intro k
    induction k with
    |zero=>intro i _ h;omega
    |succ k ih=>
     intro i hi hk;simp only[K5,Vc,AB];by_cases Dn:i<m.2.2.2.1.length
     ·have c1:(0:Int)≤(i:Int)∧(i:Int)<(m.2.2.2.1.length:Int):=by omega
      rw[AMp c1.2,AMp c1,AJ (by omega) (by omega),show((i:Int)+1)=((i+1:Nat):Int)by omega,Am Dn,drop_cons Dn,ih (i+1) (by omega) (by omega)];unfold G_;rw[AVh];cases hx:m.2.2.2.1[i].1==Ge m.2.1 o<;>rfl
     ·rw[AM5 (by omega),ANl (by omega)]
      rfl
   have:=key Ac 0 (by omega) (Ae (by omega));rw[show((0:Nat):Int)=0 from rfl,AT_]at this;rw[this];cases G_ (Ge m.2.1 o) m.2.2.2.1<;>rfl
  ·rw[show decide (o>(m.2.2.2.2.2.1.length:Int))=true by simp;omega,show decide (o≤(m.2.2.2.2.2.1.length:Int))=false by simp;omega]
   rfl
theorem mV{s:AAG}(hs:s.length≤2^20):QP c m s=some (gZ (MC c m s)):=by
 obtain⟨h1,h2,h3,h4⟩:=HZ hm;unfold QP MC;rw[show(c.1,c.2.1,())=c from rfl,show(m.1,m.2.1,m.2.2.1,m.2.2.2.1,m.2.2.2.2.1,m.2.2.2.2.2.1,())=m from rfl,Hy hc (by omega) h,TS hc hm h,HV (by omega),cy (by omega) h];simp only[AD];rcases AMo (Gv c m)with Ei|Ei
 rotate_left
 ·rw[Ei];rfl
 have hmo:=Gq.1 Ei;rw[Ei];simp only[AT8];rcases AMo m.2.2.2.2.1 with hp|hp
 ·rw[hp]
  simp only[ANX,ANI,ANk,AUC,ANZ,AQ7,gZ,hp]
 have yZ:(m.2.2.1.filter s.contains).length≤m.2.2.1.length:=ARp _ _;rw[hp];simp only[ANX,ATb,ANI,ANZ,AQ7,ANr];rw[bj (by omega) (by omega)];simp only[AD];rw[eM hc (by omega) hs];simp only[AD];cases Q_ c s (m.2.2.1.filter s.contains)with
 |false=>simp[gZ,hp]
 |true=>
  simp only[ANX,ANI,AT8];have hlb:=Ho (l:=m.2.2.2.1);rw[AMp ⟨hlb.1,Int.le_refl _,by rw[Au];omega⟩];rfl
theorem mA{n:Int}{l:List AK}(hl:l.length≤2^20)(U2:gB l)(hw:AX Ai l≤2^20):QV c m n l=some (gZ (Oz c m n l)):=by
 obtain⟨h1,h2,h3,h4⟩:=HZ hm;unfold QV WV Oz;rw[show(c.1,c.2.1,())=c from rfl,show(m.1,m.2.1,m.2.2.1,m.2.2.2.1,m.2.2.2.2.1,m.2.2.2.2.2.1,())=m from rfl,Hy hc (by omega) h,TS hc hm h,HV (by omega)];simp only[AD];rcases AMo (Gv c m)with Ei|Ei
 rotate_left
 ·rw[Ei];rfl
 have hmo:=Gq.1 Ei;have AED:=(DO.1 hmo.yd).2.2;rw[Ei];simp only[ANX,ANI,ANZ,AQ7,AT8];rcases AMo m.2.2.2.2.1 with hp|hp
 ·grind[gZ]
 rw[hp,Pq AED (by omega)];simp only[AD,ANI,ATb,ANr];have key:∀(k i:Nat) (b:List AK),i≤l.length→l.length-i<k→b.length≤2^20+i→bu b→gB b→AX Ai b+AX Ai (l.drop i)≤2^21→
   Lu k l l.length i c.1 c.2.1 m.1 m.2.1 m.2.2.1 m.2.2.2.1 false m.2.2.2.2.2.1 0 0 false [] [] [] m.1 m.2.1 false (N2 n m.2.2.1) b m.2.2.2.2.2.1=
   some (gZ (if Gv c (m.1,m.2.1,N2 n m.2.2.1,ED b ((l.drop i).filter fun e=>An e.1==m.2.1),false,m.2.2.2.2.2.1,())then
    ((m.1,m.2.1,N2 n m.2.2.1,ED b ((l.drop i).filter fun e=>An e.1==m.2.1),false,m.2.2.2.2.2.1,()),true)else(m,false))):=by
  intro k
  induction k with
  |zero=>omega
  |succ k ih=>
   intro i b hi hk hb sC hbi q8;simp only[Lu,Wl,AB];by_cases Dn:i<l.length
   ·have c1:(0:Int)≤(i:Int)∧(i:Int)<(l.length:Int):=by omega
    rw[AMp c1.2];simp only[AMp c1];rw[AJ (by omega) (by omega),show((i:Int)+1)=((i+1:Nat):Int)by omega,Am Dn,drop_cons Dn,show(l[i].1,l[i].2.1,l[i].2.2.1,l[i].2.2.2.1,())=l[i]from rfl,FB (U2 _ (ANa Dn)),cY sC (by omega)];rw[drop_cons Dn]at q8;simp only[AX]at q8;simp only[AD,AUA];rcases AMo (An l[i].1==m.2.1)with he|he
    ·simp only[he,ANk,AT8,ED]
     have:=YN (e:=l[i]) (l:=b);have hwk:=zj l[i] b;exact ih (i+1) _ (by omega) (by omega) (by omega) (ax sC) (fun x hx=>by
      rcases dw hx with rfl|hx
      ·exact U2 _ (ANa Dn)
      ·exact hbi x hx) (by omega)
    grind
   ·rw[AM5 (by omega),ANl (by omega),show(c.1,c.2.1,())=c from rfl,HV (m:=(m.1,m.2.1,m.2.2.1,m.2.2.2.1,false,m.2.2.2.2.2.1,())) (by
     grind)]
    simp only[AYg,ED];rw[ANl (by omega)]at q8;simp only[AX]at q8;have wo:=TA (n:=n) (l:=m.2.2.1);have hb2:=AW (f:=Ai) (l:=b);rw[Hy (m:=(m.1,m.2.1,N2 n m.2.2.1,b,false,m.2.2.2.2.2.1,())) hc (by
     grind[CD]) hbi]
    grind[AD,Gv,N2,gZ]
 have hsw:AX Ai m.2.2.2.1≤2^20:=by
  grind[CD]
 have:=key Ac 0 m.2.2.2.1 (by omega) (Ae (by omega)) (by omega) hmo.sA h (by grind);simp_all
end
end Go.M
end
section
set_option maxRecDepth 8000
namespace Go.M
open Go.M.H (AK AQ Av Af AA CR AO Ay AR Ah BR A6 BN Al AX AW Aa Ai Bh A4 Ap CD C3)
theorem pX{c:Bz}{l:AAG}(hc:c.1.length≤2^20)(hl:l.length≤2^20):Zi c l=some ((A9 c l&& !holds c l,()),()):=by
 unfold Zi;rw[show(c.1,c.2.1,())=c from rfl,EL (by omega) (by omega),Fp (by omega) (by omega)];grind
theorem sF{ss:List AQ}(hs:ss.length≤1024)(h:∀s∈ss,s.1.length≤1024)(hw:∀s∈ss,Al s≤2^30)(U2:∀s∈ss,kH s)(Ei:∀s∈ss,B8 s=true):iv ss=some (((),()),(Gz [] ss,())):=by
 have key:∀n:Nat,
   (∀(i:Nat) (b:List AK),i≤ss.length→(ss.length-i)*1026+1≤n→b.length≤i*1024→bu b→
    Nd n ss ss.length i b=some (((),()),(Gz b (ss.drop i),())))∧
   (∀(i j:Nat) (b:List AK),(hi:i<ss.length)→j≤ss[i].1.length→(ss.length-i-1)*1026+1+(ss[i].1.length-j)+1≤n→b.length≤i*1024+j→bu b→
    Nu n ss ss.length i ss[i].1 ss[i].1.length j b=some (((),()),(Gz (ED b (ss[i].1.drop j)) (ss.drop (i+1)),()))):=by
  intro n
  induction n with
  |zero=>simp_all
  |succ n ih=>
   refine⟨fun i b hi h' hb sC=> ?_,fun i j b hi hj h' hb sC=> ?_⟩
   ·simp only[Nd,bU,AB]
    by_cases hc:i<ss.length
    ·have hmm:=ANa hc
     have hm:=h _ hmm;rw[AMp (by omega),AMp (by omega),Am hc,show(ss[i].1,ss[i].2.1,ss[i].2.2.1,())=ss[i]from rfl,FE (hw _ hmm) (U2 _ hmm),Ei _ hmm];have e1:(ss.length-i)*1026=(ss.length-i-1)*1026+1026:=by
      omega
     have:=ih.2 i 0 b hc (by omega) (by omega) (by omega) sC;rw[show((0:Nat):Int)=0 from rfl,AT_]at this;simp only[AD,ANX,ANI];rw[this,drop_cons hc];rfl
    ·rw[AM5 (by omega),ANl (by omega)]
     rfl
   ·have hm:=h _ (ANa hi)
    simp only[Nu,bG,AB];have hbb:i*1024≤2^20:=by
     omega
    by_cases hc:j<ss[i].1.length
    ·have c2:(0:Int)≤(j:Int)∧(j:Int)<(ss[i].1.length:Int):=by omega
     rw[AMp c2.2,AMp c2,Am hc,show(ss[i].1[j].1,ss[i].1[j].2.1,ss[i].1[j].2.2.1,ss[i].1[j].2.2.2.1,())=ss[i].1[j]from rfl,cY sC (by omega)];simp only[AD];rw[AJ (by omega) (by omega),show((j:Int)+1)=((j+1:Nat):Int)by omega,drop_cons hc];have hk:=YN (e:=ss[i].1[j]) (l:=b);exact ih.2 i (j+1) _ hi (by omega) (by omega) (by omega) (ax sC)
    ·rw[AM5 (by omega),AJ (by omega) (by omega),show((i:Int)+1)=((i+1:Nat):Int)by omega,ANl (by omega)]
     exact ih.1 (i+1) b (by omega) (by grind) (by omega) sC
 have hf:(ss.length-0)*1026+1≤Ac:=by
  have:ss.length*1026≤1024*1026:=AP0 _ hs;exact AV2 (Ae (by omega))
 exact(key Ac).1 0 [] (by omega) hf (by simp) List.Pairwise.nil
theorem v8{c:Bz}{ss:List AQ}{lost:AAG}{n upto:Int}(hc:c.1.length≤2^20)(hs:ss.length≤1024)(hn:∀s∈ss,s.1.length≤1024)(hw:AX Al ss≤2^24)(U2:∀s∈ss,kH s)(hl:lost.length≤2^20):
  bW c lost n upto ss=some (pkF ss (al c ss lost n upto)):=by
 have hfs:al c ss lost n upto=xg (GB c&&(decide (ss.length=c.1.length)&&(A9 c lost&&(!holds c lost&&(lost.contains n&&((others lost 0 ss).all B8&&B8 (Gz [] (others lost 0 ss),[],upto,()))))))) (Gz [] (others lost 0 ss),[],upto,()):=rfl;rw[hfs];unfold bW dY;rw[show(c.1,c.2.1,())=c from rfl,pX hc hl,JD (by omega)];simp only[AD,A0,Cs];have key:∀(k i:Nat) (o:List AQ),(∀s∈o,s∈ss)→(∀s∈o,B8 s=true)→i≤ss.length→ss.length-i<k→o.length≤i→AX Al o+AX Al (ss.drop i)≤2^24→
   SF k lost upto ss.length i ss 0 [] [] o=some (pkF ss (xg ((others lost i (ss.drop i)).all B8&&B8 (Gz [] (o++others lost i (ss.drop i)),[],upto,())) (Gz [] (o++others lost i (ss.drop i)),[],upto,()))):=by
  intro k
  induction k with
  |zero=>omega
  |succ k ih=>
   intro i o ho Ei hi h hol how;simp only[SF,dE,AB,A0];by_cases Dn:i<ss.length
   ·have c1:(0:Int)≤(i:Int)∧(i:Int)<(ss.length:Int):=by omega
    have c2:o.length+1≤DE:=by rw[Au];omega
    have hmm:=ANa Dn;have Agg:=Aa (f:=Al) hmm;rw[drop_cons Dn]at how;simp only[AX]at how;rw[AMp c1.2,AMp c1,JD (by omega),Am Dn,show(ss[i].1,ss[i].2.1,ss[i].2.2.1,())=ss[i]from rfl,FE (by omega) (U2 _ hmm),AJ (by omega) (by omega),show((i:Int)+1)=((i+1:Nat):Int)by omega];simp only[AD];rw[drop_cons Dn];simp only[others];rcases AMo (lost.contains (i:Int))with hb|hb
    ·rw[hb]
     simp only[ANk,AT8];exact ih (i+1) o ho Ei (by omega) (by omega) (by omega) (by omega)
    ·rw[hb]
     simp only[ANI,ANZ,AQ7];rcases AMo (B8 ss[i])with hg|hg
     ·rw[hg]
      simp only[ANk,AUT,hg,ANr];rw[AMp c2,ih (i+1) (o++[ss[i]]) (fun s hs=>by
       grind) (fun s hs=>by
       grind) (by omega) (by omega) (by simp_all) (by grind[I8,AX])]
      simp_all
     ·rw[hg]
      simp only[ANI,AUT,hg,AUC];rfl
   ·have hu:=y_ (l:=o) (k:=[])
    simp only[AX]at hu;have AfB:AX Al o≤2^24:=by omega
    rw[AM5 (by omega),ANl (by omega),sF (by omega) (fun s hs=>hn s (ho s hs)) (fun s hs=>by grind[Aa,Al]) (fun s hs=>U2 s (ho s hs)) Ei];simp only[AD,others,AN6,List.all_nil,ANr];rw[FE (s:=(Gz [] o,[],upto,())) (by show AX Ai (Gz [] o)+AX Ai []≤_;grind[AX]) ⟨fun e he=>by
     rcases lA he with he|⟨t,ht,he⟩
     ·simp_all
     ·exact(U2 t (ho t ht)).1 e he,fun e he=>by simp_all⟩]
    simp only[AD];rcases AMo (B8 (Gz [] o,[],upto,()))with hb|hb<;>rw[hb]<;>rfl
 have:=key Ac 0 [] (by simp) (by simp) (by omega) (Ae (by omega)) (by simp) (by grind[AX]);rw[show((0:Nat):Int)=0 from rfl,AT_,AT6]at this;rw[this];rcases AMo (A9 c lost)with h1|h1
 rotate_left
 ·rw[h1]
  by_cases h2:ss.length=c.1.length
  ·rw[AMp (by omega)]
   simp only[AUC,AYK,ANI];rfl
  ·rw[AM5 (by omega)]
   simp only[AUC,AYK];rfl
 have zd:GB c=true:=(DO.1 h1).1;rw[h1,zd];simp only[ANr];by_cases h2:ss.length=c.1.length
 rotate_left
 ·rw[AM5 (by omega),AUG h2]
  rfl
 rw[AMp (by omega),ATy h2];simp only[ANr];cases holds c lost with
 |true=>rfl
 |false=>
  cases lost.contains n with
  |false=>rfl
  |true=>rfl
end Go.M
end
section
set_option maxRecDepth 8000
namespace Go.M
open Go.M.H (AK AQ Av Af AA CR AO Ay AR Ah BR A6 BN Al CD AX AW Aa Ai Bh A4 Ap A_ EH CP Cv C3)
def AaK(q:AA×Int):Yr:=((q.2,()),(((),q.1.2.1,(),(),(),q.1.2.2.2.2.2.1,(),(),(),(),q.1.2.2.2.2.2.2.2.2.2.2.1,()),q.1.1,q.1.2.2.1,q.1.2.2.2.1,(),(),(),q.1.2.2.2.2.2.2.2.2.1,q.1.2.2.2.2.2.2.2.2.2.1,q.1.2.2.2.2.1,q.1.2.2.2.2.2.2.1,q.1.2.2.2.2.2.2.2.1,()))
def AWc(q:AA×Int):bK:=((q.2,()),(((),q.1.2.1,(),(),(),q.1.2.2.2.2.2.1,(),(),(),(),q.1.2.2.2.2.2.2.2.2.2.2.1,()),q.1.1,q.1.2.2.1,q.1.2.2.2.1,q.1.2.2.2.2.1,q.1.2.2.2.2.2.2.1,q.1.2.2.2.2.2.2.2.1,q.1.2.2.2.2.2.2.2.2.1,(),q.1.2.2.2.2.2.2.2.2.2.1,()))
def AJW(q:AA×Int):Gy:=((q.2,()),(((),q.1.2.1,(),(),(),q.1.2.2.2.2.2.1,(),(),(),(),q.1.2.2.2.2.2.2.2.2.2.2.1,()),q.1.1,q.1.2.2.1,(),q.1.2.2.2.2.1,q.1.2.2.2.2.2.2.1,q.1.2.2.2.2.2.2.2.1,q.1.2.2.2.2.2.2.2.2.1,q.1.2.2.2.2.2.2.2.2.2.1,q.1.2.2.2.1,()))
def AZe(q:AA×Int):Yy:=((q.2,()),(((),q.1.2.1,(),(),(),q.1.2.2.2.2.2.1,(),(),(),(),q.1.2.2.2.2.2.2.2.2.2.2.1,()),q.1.1,q.1.2.2.1,q.1.2.2.2.1,q.1.2.2.2.2.1,q.1.2.2.2.2.2.2.1,(),q.1.2.2.2.2.2.2.2.2.1,q.1.2.2.2.2.2.2.2.2.2.1,q.1.2.2.2.2.2.2.2.1,()))
def Aa7(q:AA×Int):Xk:=((q.2,()),(((),q.1.2.1,(),(),(),q.1.2.2.2.2.2.1,(),(),(),(),q.1.2.2.2.2.2.2.2.2.2.2.1,()),q.1.1,q.1.2.2.1,q.1.2.2.2.1,(),q.1.2.2.2.2.2.2.1,(),q.1.2.2.2.2.2.2.2.2.1,q.1.2.2.2.2.2.2.2.2.2.1,q.1.2.2.2.2.1,q.1.2.2.2.2.2.2.2.1,()))
theorem wA{m:Av}{b:Int}{e:AK}(h:ES m b=some e):CO e.1:=by
 unfold ES at h;split at h
 ·rename_i hc
  simp only[ANB,Ak]at hc;grind[IU,Gr]
 simp_all
theorem jW{α:Type}{l:List α}{i:Nat}{d:α}:l.set i (l.getD i d)=l:=by
 by_cases h:i<l.length
 ·simp_all
 grind[List.set_eq_of_length_le]
def qi(w:AA)(n ep:Int):Int:=if Aw w n=0 then if(A5 w.Ao ep).contains n then 0 else 2 else Aw w n
section
variable{w:AA} (h:Me w)
include h
theorem RO{n ep:Int}(he:CO ep):Dm w n ep=some ((qi w n ep,()),()):=by
 have k:=h.nums;have k1:=k.c;have k2:=k.wr;have k3:=k.lost;have k4:=k.st;have cD:=k.jF;have jH:=k.J6;have kq:=k.jL;have k5:=k.era;have k7:=k.cP;unfold Dm qi;rw[MN (by omega) (by omega),show(w.2.2.2.2.1,w.2.2.2.2.2.1,())=CJ w from rfl,Ly (r:=CJ w) (by show AX Bh w.2.2.2.2.1≤_;omega) he];have VO:(A5 w.Ao ep).length≤8:=Ee h;rw[show(CJ w).1=w.Ao from rfl];simp only[AD,DS];rw[JD (by omega)];grind
theorem Zt{n:Int}{e:AK}(hn:Aw w n=0)(he:CO e.1):MD n e w.2.1 w.2.2.2.2.2.1 w.2.2.2.2.2.2.2.2.2.2.1 w.1 w.2.2.1 w.2.2.2.1 w.2.2.2.2.1 w.2.2.2.2.2.2.1 w.2.2.2.2.2.2.2.1 w.2.2.2.2.2.2.2.2.1 w.2.2.2.2.2.2.2.2.2.1=some (lr (putAt w n (GM (storeAt w n) e))):=by
 obtain⟨hr,s1,s2,s3⟩:=h.Mb hn;have cM:w.2.2.1.getD n.toNat ([],[],0,())=storeAt w n:=rfl;unfold MD putAt;simp only[AMp hr,cM];rw[show((storeAt w n).1,(storeAt w n).2.1,(storeAt w n).2.2.1,())=storeAt w n from rfl,show(e.1,e.2.1,e.2.2.1,e.2.2.2.1,())=e from rfl,l9 s1 s2 he];simp only[AD,jI,Pj];cases(GM (storeAt w n) e).2<;>rfl
theorem iz{a:Int}:KD a w.2.1 w.2.2.2.2.2.1 w.2.2.2.2.2.2.2.2.2.2.1 w.1 w.2.2.1 w.2.2.2.1 w.2.2.2.2.1 w.2.2.2.2.2.2.1 w.2.2.2.2.2.2.2.1 w.2.2.2.2.2.2.2.2.1 w.2.2.2.2.2.2.2.2.2.1=some (AaK (PR w a)):=by
 have k:=h.nums;have k1:=k.c;have k2:=k.wr;have k3:=k.lost;have k4:=k.st;have cD:=k.jF;have jH:=k.J6;have kq:=k.jL;have k5:=k.era;have k7:=k.cP;unfold KD PR;rw[DS];by_cases h4:w.2.2.2.2.2.2.1.length=4
 ·rw[AMp (by omega),AMp h4];rfl
 have hm:(BU a).length≤8:=wb;rw[AM5 (by omega),AM5 h4,Ze];simp only[AD];rw[show(w.1,w.2.1,())=AY w from rfl,show(w.2.2.2.2.1,w.2.2.2.2.2.1,())=CJ w from rfl,oK (c:=AY w) (r:=CJ w) (by show w.1.length≤_;omega) (by show AX Bh w.2.2.2.2.1≤_;omega) k.trim (by omega)];simp only[AD,A0];rcases AMo (Iu (AY w) (CJ w) (BU a)).2.2 with hq|hq
 ·rw[hq,AMp (by rw[Au];omega),GH];rfl
 ·rw[hq,Iy];rfl
theorem fz{d:BN}:JI d w.2.1 w.2.2.2.2.2.1 w.2.2.2.2.2.2.2.2.2.2.1 w.1 w.2.2.1 w.2.2.2.1 w.2.2.2.2.1 w.2.2.2.2.2.2.1 w.2.2.2.2.2.2.2.1 w.2.2.2.2.2.2.2.2.1 w.2.2.2.2.2.2.2.2.2.1=some (lr (Gt w d.2.1 d.2.2.1 d.2.2.2.1)):=by
 have k:=h.nums;have k1:=k.c;have k2:=k.wr;have k3:=k.lost;have k4:=k.st;have cD:=k.jF;have jH:=k.J6;have kq:=k.jL;have k5:=k.era;have k7:=k.cP;unfold JI Gt;rw[show(w.1,w.2.1,w.2.2.1,w.2.2.2.1,w.2.2.2.2.1,w.2.2.2.2.2.1,w.2.2.2.2.2.2.1,w.2.2.2.2.2.2.2.1,w.2.2.2.2.2.2.2.2.1,w.2.2.2.2.2.2.2.2.2.1,w.2.2.2.2.2.2.2.2.2.2.1,())=w from rfl,AJ (x:=(w.2.2.2.2.2.2.1.length:Int)-1) (by omega) (by omega),Az];simp only[AD,A0,Cs];rw[show BF d.2.1 0 ((w.2.2.2.2.2.2.1.length:Int)-1)=BF d.2.1 0 ((w.AG.length:Int)-1)from rfl];rcases AMo (BF d.2.1 0 ((w.AG.length:Int)-1))with h1|h1
 rotate_left
 ·rw[h1,Iy];rfl
 obtain⟨x1,x2,x3⟩:=h.d_ h1;rw[h1,ANk,GH,AMp x1,Az];simp only[AD];rw[show w.2.2.2.2.2.2.1.getD d.2.1.toNat (0,[],())=w.AG.getD d.2.1.toNat Ag from rfl]
 generalize hx:w.AG.getD d.2.1.toNat Ag=x at*
 rcases AMo (BF d.2.2.1 1 (x.2.1.length:Int))with h2|h2
 rotate_left
 ·rw[h2,Iy];rfl
 have h2':=Ak.1 h2;have hxl:=x2.n;have hxe:=x2.ep;have wo:=IU (e:=x.1) (o:=d.2.2.1) hxe (by omega);have hpm:F_ x.1 d.2.2.1=Ge x.1 d.2.2.1:=by
  grind[F_,Ak]
 rw[h2,ANk,GH,RO h ⟨by omega,by omega⟩,Fe,hpm,AJ (by omega) (by omega)];simp only[AD,AMp (show(0:Int)≤d.2.2.1-1∧d.2.2.1-1<(x.2.1.length:Int)by omega)];unfold qi;by_cases h3:Aw w d.2.2.2.1=0
 rotate_left
 ·rw[AM5 h3,AM5 h3,AMp h3];rfl
 rw[AMp h3,AM5 (show¬(Aw w d.2.2.2.1≠0)from fun hh=>hh h3)];rcases AMo ((A5 w.Ao x.1).contains d.2.2.2.1)with h5|h5
 rotate_left
 ·rw[h5,Iy];rfl
 rw[h5,GH,AMp rfl,AMp rfl,Zt h h3 (Gr wo.1)];rfl
theorem fy{n k:Int}:Po n k w.2.1 w.2.2.2.2.2.1 w.2.2.2.2.2.2.2.2.2.2.1 w.1 w.2.2.1 w.2.2.2.1 w.2.2.2.2.1 w.2.2.2.2.2.2.1 w.2.2.2.2.2.2.2.1 w.2.2.2.2.2.2.2.2.1 w.2.2.2.2.2.2.2.2.2.1=some (lr (Kj w n k)):=by
 have kk:=h.nums;have k1:=kk.c;have k2:=kk.wr;have k3:=kk.lost;have k4:=kk.st;have cD:=kk.jF;have jH:=kk.J6;have kq:=kk.jL;have k5:=kk.era;have k7:=kk.cP;unfold Po Kj;rw[show(w.1,w.2.1,w.2.2.1,w.2.2.2.1,w.2.2.2.2.1,w.2.2.2.2.2.1,w.2.2.2.2.2.2.1,w.2.2.2.2.2.2.2.1,w.2.2.2.2.2.2.2.2.1,w.2.2.2.2.2.2.2.2.2.1,w.2.2.2.2.2.2.2.2.2.2.1,())=w from rfl,MN (by omega) (by omega)];simp only[AD,Cs];by_cases h3:Aw w n=0
 rotate_left
 ·rw[AM5 h3,AMp h3];rfl
 obtain⟨hr,s1,s2,s3⟩:=h.Mb h3;have cM:w.2.2.1.getD n.toNat ([],[],0,())=storeAt w n:=rfl;rw[AMp h3,AM5 (show¬(Aw w n≠0)from fun hh=>hh h3)];simp only[AMp hr,cM];rw[show((storeAt w n).1,(storeAt w n).2.1,(storeAt w n).2.2.1,())=storeAt w n from rfl,X_ s1 s2];simp only[AD,jI,Pj];unfold putAt;rcases AMo (FX (storeAt w n) k).2 with hq|hq
 ·rw[hq];rfl
 ·have e:(FX (storeAt w n) k).1=storeAt w n:=by
   unfold FX at hq⊢;rw[DC.2 s3]at hq⊢;grind
  rw[hq,e];have:w.2.2.1.set n.toNat ((storeAt w n).1,(storeAt w n).2.1,(storeAt w n).2.2.1,())=w.2.2.1:=jW;rw[this];rfl
theorem gH{n:Int}:Pb n w.2.1 w.2.2.2.2.2.1 w.2.2.2.2.2.2.2.2.2.2.1 w.1 w.2.2.1 w.2.2.2.1 w.2.2.2.2.1 w.2.2.2.2.2.2.1 w.2.2.2.2.2.2.2.1 w.2.2.2.2.2.2.2.2.1 w.2.2.2.2.2.2.2.2.2.1=some (lr (K0 w n)):=by
 have k:=h.nums;have k1:=k.c;have k2:=k.wr;have k3:=k.lost;have k4:=k.st;have cD:=k.jF;have jH:=k.J6;have kq:=k.jL;have k5:=k.era;have k7:=k.cP;unfold Pb K0;rw[show(w.1,w.2.1,w.2.2.1,w.2.2.2.1,w.2.2.2.2.1,w.2.2.2.2.2.1,w.2.2.2.2.2.2.1,w.2.2.2.2.2.2.2.1,w.2.2.2.2.2.2.2.2.1,w.2.2.2.2.2.2.2.2.2.1,w.2.2.2.2.2.2.2.2.2.2.1,())=w from rfl,MN (by omega) (by omega)];simp only[AD,Cs];by_cases h3:Aw w n=0
 rotate_left
 ·rw[AM5 h3,AMp h3];rfl
 obtain⟨hr,s1,s2,s3⟩:=h.Mb h3;have cM:w.2.2.1.getD n.toNat ([],[],0,())=storeAt w n:=rfl;rw[AMp h3,AM5 (show¬(Aw w n≠0)from fun hh=>hh h3)];simp only[AMp hr,cM];rw[show((storeAt w n).1,(storeAt w n).2.1,(storeAt w n).2.2.1,())=storeAt w n from rfl,jl s1 s2 k.trim];simp only[AD,jI,Pj];unfold putAt;rw[show w.trim=w.2.2.2.2.2.1 from rfl];rcases AMo (JS (storeAt w n) w.2.2.2.2.2.1).2 with hq|hq
 ·rw[hq];rfl
 ·have e:(JS (storeAt w n) w.2.2.2.2.2.1).1=storeAt w n:=by
   unfold JS at hq⊢;rw[DC.2 s3]at hq⊢;grind
  rw[hq,e];have:w.2.2.1.set n.toNat ((storeAt w n).1,(storeAt w n).2.1,(storeAt w n).2.2.1,())=w.2.2.1:=jW;rw[this];rfl
theorem gp:Qm w.2.1 w.2.2.2.2.2.1 w.2.2.2.2.2.2.2.2.2.2.1 w.1 w.2.2.1 w.2.2.2.1 w.2.2.2.2.1 w.2.2.2.2.2.2.1 w.2.2.2.2.2.2.2.1 w.2.2.2.2.2.2.2.2.1 w.2.2.2.2.2.2.2.2.2.1=some (AZe (O9 w)):=by
 have k:=h.nums;have k1:=k.c;have k2:=k.wr;have k3:=k.lost;have k4:=k.st;have cD:=k.jF;have jH:=k.J6;have kq:=k.jL;have k5:=k.era;have k7:=k.cP;unfold Qm O9;rw[show(w.2.2.2.2.1,w.2.2.2.2.2.1,())=CJ w from rfl,S7 (r:=CJ w) (by show w.2.2.2.2.1.length≤_;omega)];simp only[AD,DS,AB];rw[show(CJ w).1=w.Ao from rfl];by_cases h1:(w.2.2.2.2.1.length:Int)<2
 ·rw[AMp h1,show(decide ((w.2.2.2.2.1.length:Int)<2)||decide (BK w.2.2.2.2.1=(w.2.2.2.2.1.length:Int)))=true by simp_all];rfl
 rw[AM5 h1];by_cases h2:BK w.2.2.2.2.1=(w.2.2.2.2.1.length:Int)
 ·rw[AMp h2,show(decide ((w.2.2.2.2.1.length:Int)<2)||decide (BK w.2.2.2.2.1=(w.2.2.2.2.1.length:Int)))=true by simp_all];rfl
 rw[AM5 h2,show(decide ((w.2.2.2.2.1.length:Int)<2)||decide (BK w.2.2.2.2.1=(w.2.2.2.2.1.length:Int)))=false by simp_all];rw[AM5 (show¬(false=true)by simp)];by_cases h3:w.2.2.2.2.2.2.2.1.length>0
 ·rw[AMp (by omega),AMp h3];rfl
 ·rw[AM5 (by omega),AM5 h3];rfl
theorem iw{n:Int}:KT n w.2.1 w.2.2.2.2.2.1 w.2.2.2.2.2.2.2.2.2.2.1 w.1 w.2.2.1 w.2.2.2.1 w.2.2.2.2.1 w.2.2.2.2.2.2.1 w.2.2.2.2.2.2.2.1 w.2.2.2.2.2.2.2.2.1 w.2.2.2.2.2.2.2.2.2.1=some (AJW (O0 w n)):=by
 have k:=h.nums;have k1:=k.c;have k2:=k.wr;have k3:=k.lost;have k4:=k.st;have cD:=k.jF;have jH:=k.J6;have kq:=k.jL;have k5:=k.era;have k7:=k.cP;have k6:=k.ws;unfold KT O0;rw[show(w.1,w.2.1,w.2.2.1,w.2.2.2.1,w.2.2.2.2.1,w.2.2.2.2.2.1,w.2.2.2.2.2.2.1,w.2.2.2.2.2.2.2.1,w.2.2.2.2.2.2.2.2.1,w.2.2.2.2.2.2.2.2.2.1,w.2.2.2.2.2.2.2.2.2.2.1,())=w from rfl,AJ (x:=(w.2.2.1.length:Int)-1) (by omega) (by omega),AJ (x:=(w.2.2.2.2.1.length:Int)-1) (by omega) (by omega),Az];simp only[AD,A0];rcases AMo (w.lost.contains n)with hl|hl
 rotate_left
 ·rw[hl]
  have e:C5 w n=some ((w.lost.contains n,()),()):=av (by omega);rw[e,hl];cases BF n 0 ((w.2.2.1.length:Int)-1)<;>rfl
 have U2:=(DO.1 h.lost).2.1 n (by simp_all);have hn1:BF n 0 ((w.2.2.1.length:Int)-1)=true:=Ak.2 ⟨U2.1,by
  have:n<(w.1.length:Int):=U2.2;omega⟩
 have Af0:=Ak.1 hn1;rw[hn1,show C5 w n=some ((w.lost.contains n,()),())from av (by omega),hl,GH];simp only[AD,ANk];rw[show(if(0:Int)>(w.2.2.2.2.1.length:Int)-1 then 0 else(w.2.2.2.2.1.length:Int)-1)=max ((w.Ao.length:Int)-1) 0 by
  grind]
 have AX2:∀s∈w.2.2.1,cZ s:=fun s hs=>h.QU hs
 rw[show(w.1,w.2.1,())=AY w from rfl,v8 (c:=AY w) (by show w.1.length≤_;omega) (by omega) (fun s hs=>by have:=(AX2 s hs).nk;omega) (by omega) (fun s hs=>(AX2 s hs).sin) (by omega)];simp only[AD,pkF];rw[show al (AY w) w.Aq w.lost n (max ((w.Ao.length:Int)-1) 0)=al (AY w) w.2.2.1 w.2.2.2.1 n (max ((w.Ao.length:Int)-1) 0)from rfl];rcases AMo (al (AY w) w.2.2.1 w.2.2.2.1 n (max ((w.Ao.length:Int)-1) 0)).2 with hq|hq
 rotate_left
 ·rw[hq,Iy];rfl
 rw[hq,ANk,GH,AMp (by omega),Lm (by omega)];rfl
theorem iS{n:Int}:KS n w.2.1 w.2.2.2.2.2.1 w.2.2.2.2.2.2.2.2.2.2.1 w.1 w.2.2.1 w.2.2.2.1 w.2.2.2.2.1 w.2.2.2.2.2.2.1 w.2.2.2.2.2.2.2.1 w.2.2.2.2.2.2.2.2.1 w.2.2.2.2.2.2.2.2.2.1=some (lr (PH w n)):=by
 have k:=h.nums;have k1:=k.c;have k2:=k.wr;have k3:=k.lost;have k4:=k.st;have cD:=k.jF;have jH:=k.J6;have kq:=k.jL;have k5:=k.era;have k7:=k.cP;unfold KS PH;rcases hm:w.CE with _|⟨m,ms⟩
 ·rw[DS,AMp (by simp_all)];rfl
 have n_:w.2.2.2.2.2.2.2.1=m::ms:=hm;have yQ:w.2.2.2.2.2.2.2.1.length=ms.length+1:=by simp_all
 have g0:w.2.2.2.2.2.2.2.1.getD 0 (0,0,[],[],false,[],())=m:=by simp_all
 have yq:(0:Int)≤(0:Int)∧(0:Int)<(w.2.2.2.2.2.2.2.1.length:Int):=by omega
 have Z9:=(h.CE m (by simp_all)).1;have hmw:=Z9.w;have hme:=Z9.ep;have hmb:=Z9.b;simp only[DS,A0,Cs,AMp yq,g0];rw[AM5 (by omega)];rw[show(w.1,w.2.1,w.2.2.1,w.2.2.2.1,w.2.2.2.2.1,w.2.2.2.2.2.1,w.2.2.2.2.2.2.1,w.2.2.2.2.2.2.2.1,w.2.2.2.2.2.2.2.2.1,w.2.2.2.2.2.2.2.2.2.1,w.2.2.2.2.2.2.2.2.2.2.1,())=w from rfl,RO h ⟨by omega,by omega⟩];simp only[AD];unfold qi;by_cases h3:Aw w n=0
 rotate_left
 ·rw[AM5 h3,AM5 h3,AMp h3];rfl
 obtain⟨hr,s1,s2,s3⟩:=h.Mb h3;have cM:w.2.2.1.getD n.toNat ([],[],0,())=storeAt w n:=rfl;have hn3: ¬(Aw w n≠0):=fun hh=>hh h3
 rw[AMp h3,AM5 hn3];simp only[AMp hr,cM];rcases AMo ((A5 w.Ao m.2.1).contains n)with h5|h5
 rotate_left
 ·rw[h5,Iy];rfl
 rw[h5,GH,AMp rfl,AMp rfl,AJ (by omega) (by omega),show((storeAt w n).1,(storeAt w n).2.1,(storeAt w n).2.2.1,())=storeAt w n from rfl,ji s1 s2];have hq:=qt (u:=m.1-1) s3;have hqw:=hq.w;simp only[AD,jI];rw[show((Bu (storeAt w n) (m.1-1)).1.1,(Bu (storeAt w n) (m.1-1)).1.2.1,(Bu (storeAt w n) (m.1-1)).1.2.2.1,())=(Bu (storeAt w n) (m.1-1)).1 from rfl,lk (by omega) hq.sin];simp only[AD];have hes:(G2 (Bu (storeAt w n) (m.1-1)).1 m.2.1).length≤200∧gB (G2 (Bu (storeAt w n) (m.1-1)).1 m.2.1)∧AX Ai (G2 (Bu (storeAt w n) (m.1-1)).1 m.2.1)≤10000:=by
  unfold G2;rw[DC.2 hq,AMp rfl];refine⟨ASX (ARp _ _) hq.nk,fun e he=>hq.sin.1 e (AUN.1 he).1,ASX fS ?_⟩;have:Al (Bu (storeAt w n) (m.1-1)).1=AX Ai (Bu (storeAt w n) (m.1-1)).1.1+AX Ai (Bu (storeAt w n) (m.1-1)).1.2.1:=rfl;omega
 rw[show(m.1,m.2.1,m.2.2.1,m.2.2.2.1,m.2.2.2.2.1,m.2.2.2.2.2.1,())=m from rfl,show(w.1,w.2.1,())=AY w from rfl,mA (c:=AY w) (by show w.1.length≤_;omega) (by omega) Z9.yT (by omega) hes.2.1 (by omega)];simp only[AD,gZ];rcases AMo (Bu (storeAt w n) (m.1-1)).2 with h6|h6
 rotate_left
 ·rw[h6,ATb,AYZ,AMp rfl];rfl
 rw[h6,ANX,AT5];rcases AMo (Oz (AY w) m n (G2 (Bu (storeAt w n) (m.1-1)).1 m.2.1)).2 with h7|h7
 rotate_left
 ·rw[h7,Iy];rfl
 rw[h7,GH,ANk,ANk,n_];rfl
theorem jA:KJ w.2.1 w.2.2.2.2.2.1 w.2.2.2.2.2.2.2.2.2.2.1 w.1 w.2.2.1 w.2.2.2.1 w.2.2.2.2.1 w.2.2.2.2.2.2.1 w.2.2.2.2.2.2.2.1 w.2.2.2.2.2.2.2.2.1 w.2.2.2.2.2.2.2.2.2.1=some (lr (O_ w)):=by
 have k:=h.nums;have k1:=k.c;have k2:=k.wr;have k3:=k.lost;have k4:=k.st;have cD:=k.jF;have jH:=k.J6;have kq:=k.jL;have k5:=k.era;have k7:=k.cP;unfold KJ O_;rcases hm:w.CE with _|⟨m,ms⟩
 ·rw[DS,AMp (by simp_all)];rfl
 have n_:w.2.2.2.2.2.2.2.1=m::ms:=hm;have yQ:w.2.2.2.2.2.2.2.1.length=ms.length+1:=by simp_all
 have g0:w.2.2.2.2.2.2.2.1.getD 0 (0,0,[],[],false,[],())=m:=by simp_all
 have yq:(0:Int)≤(0:Int)∧(0:Int)<(w.2.2.2.2.2.2.2.1.length:Int):=by omega
 have Z9:=(h.CE m (by simp_all)).1;have hmw:=Z9.w;have hme:=Z9.ep;simp only[DS,A0,Cs,AMp yq,g0];rw[AM5 (by omega)];rw[show(w.2.2.2.2.1,w.2.2.2.2.2.1,())=CJ w from rfl,Ly (r:=CJ w) (by show AX Bh w.2.2.2.2.1≤_;omega) ⟨by omega,by omega⟩];have VO:(A5 w.Ao m.2.1).length≤8:=Ee h;rw[show(CJ w).1=w.Ao from rfl];simp only[AD];rw[show(m.1,m.2.1,m.2.2.1,m.2.2.2.1,m.2.2.2.2.1,m.2.2.2.2.2.1,())=m from rfl,show(w.1,w.2.1,())=AY w from rfl,mV (c:=AY w) (by show w.1.length≤_;omega) (by omega) Z9.yT (by omega)];simp only[AD,gZ,Pj];rcases AMo (MC (AY w) m (A5 w.Ao m.2.1)).2 with h6|h6
 ·rw[h6,GH,n_];rfl
 ·have e:(MC (AY w) m (A5 w.Ao m.2.1)).1=m:=by
   unfold MC at h6⊢;rw[Gq.2 Z9]at h6⊢;grind
  rw[h6,Iy,e,n_]
  show some ((4,()),_,_,_,_,_,_,(m::ms),_)=some ((4,()),_,_,_,_,_,_,w.2.2.2.2.2.2.2.1,_)
  rw[n_]
theorem jy{b n:Int}:SR b n w.2.1 w.2.2.2.2.2.1 w.2.2.2.2.2.2.2.2.2.2.1 w.1 w.2.2.1 w.2.2.2.1 w.2.2.2.2.1 w.2.2.2.2.2.2.1 w.2.2.2.2.2.2.2.1 w.2.2.2.2.2.2.2.2.1 w.2.2.2.2.2.2.2.2.2.1=some (lr (VV w b n)):=by
 have k:=h.nums;have k1:=k.c;have k2:=k.wr;have k3:=k.lost;have k4:=k.st;have cD:=k.jF;have jH:=k.J6;have kq:=k.jL;have k5:=k.era;have k7:=k.cP;unfold SR VV;rcases hm:w.CE with _|⟨m,ms⟩
 ·rw[DS,AMp (by simp_all)];rfl
 have n_:w.2.2.2.2.2.2.2.1=m::ms:=hm;have yQ:w.2.2.2.2.2.2.2.1.length=ms.length+1:=by simp_all
 have g0:w.2.2.2.2.2.2.2.1.getD 0 (0,0,[],[],false,[],())=m:=by simp_all
 have yq:(0:Int)≤(0:Int)∧(0:Int)<(w.2.2.2.2.2.2.2.1.length:Int):=by omega
 have Z9:=(h.CE m (by simp_all)).1;have hmw:=Z9.w;have hme:=Z9.ep;simp only[DS,A0,Cs,AMp yq,g0];rw[AM5 (by omega),show(m.1,m.2.1,m.2.2.1,m.2.2.2.1,m.2.2.2.2.1,m.2.2.2.2.2.1,())=m from rfl,Zq (by omega)];simp only[AD];rcases he:ES m b with _|e
 ·rfl
 simp only[AUJ,AUI,ANk];rw[show(w.1,w.2.1,w.2.2.1,w.2.2.2.1,w.2.2.2.2.1,w.2.2.2.2.2.1,w.2.2.2.2.2.2.1,w.2.2.2.2.2.2.2.1,w.2.2.2.2.2.2.2.2.1,w.2.2.2.2.2.2.2.2.2.1,w.2.2.2.2.2.2.2.2.2.2.1,())=w from rfl,RO h ⟨by omega,by omega⟩];simp only[AD];unfold qi;by_cases h3:Aw w n=0
 rotate_left
 ·rw[AM5 h3,AM5 h3,AMp h3];rfl
 rw[AMp h3,AM5 (show¬(Aw w n≠0)from fun hh=>hh h3)];rcases AMo ((A5 w.Ao m.2.1).contains n)with h5|h5
 rotate_left
 ·rw[h5,Iy];rfl
 rw[h5,GH,AMp rfl,AMp rfl,show(e.1,e.2.1,e.2.2.1,e.2.2.2.1,())=e from rfl,Zt h h3 (wA he)];rfl
theorem gM:JJ w.2.1 w.2.2.2.2.2.1 w.2.2.2.2.2.2.2.2.2.2.1 w.1 w.2.2.1 w.2.2.2.1 w.2.2.2.2.1 w.2.2.2.2.2.2.1 w.2.2.2.2.2.2.2.1 w.2.2.2.2.2.2.2.2.1 w.2.2.2.2.2.2.2.2.2.1=some (Aa7 (KZ w)):=by
 have k:=h.nums;have k1:=k.c;have k2:=k.wr;have k3:=k.lost;have k4:=k.st;have cD:=k.jF;have jH:=k.J6;have kq:=k.jL;have k5:=k.era;have k7:=k.cP;unfold JJ KZ;rcases hm:w.CE with _|⟨m,ms⟩
 ·rw[DS,AMp (by simp_all)];rfl
 have n_:w.2.2.2.2.2.2.2.1=m::ms:=hm;have yQ:w.2.2.2.2.2.2.2.1.length=ms.length+1:=by simp_all
 have g0:w.2.2.2.2.2.2.2.1.getD 0 (0,0,[],[],false,[],())=m:=by simp_all
 have yq:(0:Int)≤(0:Int)∧(0:Int)<(w.2.2.2.2.2.2.2.1.length:Int):=by omega
 have Z9:=(h.CE m (by simp_all)).1;have hmw:=Z9.w;simp only[DS,A0,Cs,AMp yq,g0];rw[AM5 (by omega),show(m.1,m.2.1,m.2.2.1,m.2.2.2.1,m.2.2.2.2.1,m.2.2.2.2.2.1,())=m from rfl,show(w.1,w.2.1,())=AY w from rfl,show(w.2.2.2.2.1,w.2.2.2.2.2.1,())=CJ w from rfl,jY (c:=AY w) (by show w.1.length≤_;omega) (by omega) Z9.yT];simp only[AD];rcases AMo (UF (AY w) m)with h6|h6
 rotate_left
 ·rw[h6,Iy];rfl
 rw[h6,GH,ANk,lz (c:=AY w) (r:=CJ w) (by show w.1.length≤_;omega) (by show AX Bh w.2.2.2.2.1≤_;omega) k.trim];simp only[AD,pkR,Pj];rcases AMo (NY (AY w) (CJ w) m.1 (m.2.2.2.2.2.1.length:Int)).2 with h7|h7
 ·rw[h7,ANk,GH];rfl
 ·rw[h7,ANI,Iy];rfl
end
end Go.M
end
section
set_option maxRecDepth 8000
namespace Go.M
open Go.M.H (AK AQ Av Af AA CR AO Ay AR Ah BR A6 BN Al CD AX AW Aa Ai Bh A4 Ap A_ EH CP Cv C3)
abbrev ov(l:List Af):Prop:=Uc (fun s:Af=>s.1) l
abbrev zm(p:Int)(l:List Af)(q:Nat):Prop:=jb (fun s:Af=>s.1) p l q
def VQ(p:Int)(l:List Af)(q:Nat):Bool:=match l[q]? with|some e=>e.1==p|none=>false
theorem ed{l:List Af}(ha:ov l)(hl:l.length≤2^30)(hp:∀s∈l,0≤s.1∧s.1<2^40){p:Int}(hpp:0≤p∧p<2^40):∃q,zm p l q∧
  BO l p=some ((((q:Int),VQ p l q,()),()),()):=by
 have key:∀(n a b:Nat),a≤b→b≤l.length→b-a<n→(∀(i:Nat) (h:i<l.length),i<a→l[i].1<p)→(∀(i:Nat) (h:i<l.length),b≤i→p≤l[i].1)→
   ∃q,zm p l q∧As n l p l.length a b=some ((((q:Int),VQ p l q,()),()),()):=by
  intro n
  induction n with
  |zero=>omega
  |succ n ih=>
   intro a b sC hb hn h1 h2;simp only[As,Ch,AB,Lk,AD];by_cases Hh:a<b
   ·have hm:(a+b)/2<l.length:=by omega
    have hq:=hp _ (ANa hm);rw[AMp (by omega),vk (by omega),AMp (by omega),Am hm,AJ (by omega) (by omega)];by_cases hc:l[(a+b)/2].1<p
    ·rw[AMp (by omega),AJ (by omega) (by omega),show((((a+b)/2:Nat):Int)+1)=(((a+b)/2+1:Nat):Int)by omega]
     refine ih _ b (by omega) hb (by omega) (fun i h hi=> ?_) h2;exact Int.lt_of_le_of_lt (cL (f:=fun s:Af=>s.1) ha h hm (by omega)) hc
    ·rw[AM5 (by omega)]
     exact ih a _ (by omega) (by omega) (by omega) h1 fun i h hi=>Int.le_trans (by omega) (cL (f:=fun s:Af=>s.1) ha hm h hi)
   ·have ADk:a=b:=by omega
    subst ADk;refine⟨a,⟨hb,h1,h2⟩,?_⟩;rw[AM5 (by omega)];unfold VQ;by_cases ha':a<l.length
    ·have hq:=hp _ (ANa ha')
     rw[AMp (by omega),AMp (by omega),Am ha',AMt ha',AJ (by omega) (by omega)];dsimp only;by_cases hd:l[a].1=p
     ·simp_all
     ·rw[ARG.2 hd,ARG.2 (by omega:l[a].1-p≠0)]
    grind
 obtain⟨q,hq,e⟩:=key Ac 0 l.length (by omega) (by omega) (Ae (by omega)) (fun i h hi=>by omega) (fun i h hi=>by omega);refine⟨q,hq,?_⟩;unfold BO Cg;omega
theorem rV{p:Int}{l:List Af}{q:Nat}(h:VQ p l q=true):∃hq:q<l.length,l[q].1=p:=by
 unfold VQ at h;grind
theorem uX{p:Int}{l:List Af}{q:Nat}(hp:zm p l q)(ha:ov l)(h:VQ p l q=false):∀s∈l,s.1≠p:=by
 intro s hs e;obtain⟨i,hi,rfl⟩:=List.mem_iff_getElem.1 hs;have h1:=hp.lt i hi;by_cases hiq:i<q
 ·omega
 ·have hq:q<l.length:=by omega
  have h3:p≤l[q].1:=hp.ge q hq (AQm _);have h4:=cL (f:=fun s:Af=>s.1) ha hq hi (by omega);grind[VQ,List.getElem?_eq_getElem,beq_eq_false_iff_ne]
theorem AAb{p:Int}{l:List Af}{q:Nat}(hp:zm p l q)(ha:ov l):(l.any fun s=>s.1==p)=VQ p l q:=by
 rcases AMo (VQ p l q)with h|h
 ·obtain⟨hq,e⟩:=rV h
  grind
 ·rw[h,AYT]
  intro s hs;grind[uX]
def Q6(p:Int)(l:List Af):List Af:=l.map fun s=>if s.1=p then(s.1,s.2.1,true,())else s
theorem ABM{p:Int}{l:List Af}(h:∀s∈l,s.1≠p):Q6 p l=l:=by
 unfold Q6
 conv=>rhs;rw[←List.map_id l]
 refine AUL fun s hs=> ?_
 grind
theorem AFW{p:Int}:∀{l:List Af} {q:Nat} (hq:q<l.length),ov l→l[q].1=p→l.set q (l[q].1,l[q].2.1,true,())=Q6 p l
 |[],q,hq,_,_=>by rfl
 |s::l,0,_,ha,e=>by
  have h1:=ARx.1 ha;have e':s.1=p:=e;have h2:Q6 p l=l:=ABM fun y hy=>by grind
  show(s.1,s.2.1,true,())::l=(if s.1=p then(s.1,s.2.1,true,())else s)::Q6 p l
  simp_all
 |s::l,q+1,hq,ha,e=>by
  have h1:=ARx.1 ha;have hq':q<l.length:=by grind
  have e':l[q].1=p:=e;have h3:s.1<l[q].1:=h1.1 _ (ANa hq');have h4:s.1≠p:=by omega
  have:=AFW hq' h1.2 e'
  show s::l.set q (l[q].1,l[q].2.1,true,())=(if s.1=p then(s.1,s.2.1,true,())else s)::Q6 p l
  simp_all
theorem sm_at{p:Int}{l:List Af}:∀{s:Af},s∈Q6 p l→ ∃t∈l,t.1=s.1:=by
 intro s hs;obtain⟨t,ht,rfl⟩:=AUR.1 hs;grind
theorem ATG{p:Int}{l:List Af}(h:ov l):ov (Q6 p l):=by
 unfold Q6 ov Uc;grind
theorem AOO{p:Int}{l:List Af}:(Q6 p l).length=l.length:=by unfold Q6;rw[AWH]
theorem wQ{s:Af}:∀{l:List Af} {q:Nat},zm s.1 l q→VQ s.1 l q=false→V2 s l=l.take q++[s]++l.drop q
 |[],q,h,_=>by
  have:=h.le;have:q=0:=by simp_all
  subst this;rfl
 |y::l,0,h,hn=>by
  have h1:=h.ge 0 (by simp) (AQm _);have h2:(y.1==s.1)=false:=hn;have h2':=ARG.1 h2;have h1':s.1≤y.1:=h1;simp only[V2];grind
 |y::l,q+1,h,hn=>by
  have h1:y.1<s.1:=h.lt 0 (by simp) (by omega);have hp:zm s.1 l q:=⟨by have:=h.le;simp_all,fun i hi hiq=>h.lt (i+1) (by simp_all) (by omega),fun i hi hiq=>h.ge (i+1) (by simp_all) (by omega)⟩;simp only[V2];rw[AM5 (by omega),wQ hp hn];rfl
section
variable{w:AA} (h:Me w)
include h
theorem Me.AFc:∀s∈w.2.2.2.2.2.2.2.2.2.1,0≤s.1∧s.1<2^40:=fun s hs=>by
 have hp:=(h.AU s hs).1;have h1:=EV hp;grind[Ge,An,Cp]
theorem j8{a:Int}{d:ABp}(hd:d.length≤40):L3 a d w.2.1 w.2.2.2.2.2.1 w.2.2.2.2.2.2.2.2.2.2.1 w.1 w.2.2.1 w.2.2.2.1 w.2.2.2.2.1 w.2.2.2.2.2.2.1 w.2.2.2.2.2.2.2.1 w.2.2.2.2.2.2.2.2.1 w.2.2.2.2.2.2.2.2.2.1=some (AWc (doAdd w a d)):=by
 have k:=h.nums;have k1:=k.c;have k2:=k.wr;have k3:=k.lost;have k4:=k.st;have cD:=k.jF;have jH:=k.J6;have kq:=k.jL;have k5:=k.era;have k7:=k.cP;have k6:=k.se;unfold L3 doAdd;rw[AJ (x:=(w.2.2.2.2.2.2.1.length:Int)-1) (by omega) (by omega),Az];simp only[AD,A0,Cs,DS];rw[show BF a 0 ((w.2.2.2.2.2.2.1.length:Int)-1)=BF a 0 ((w.AG.length:Int)-1)from rfl];rcases AMo (BF a 0 ((w.AG.length:Int)-1))with h1|h1
 rotate_left
 ·rw[h1,Iy];rfl
 obtain⟨x1,x2,x3⟩:=h.d_ h1;rw[h1,ANk,GH];simp only[AMp x1];rw[show w.2.2.2.2.2.2.1.getD a.toNat (0,[],())=w.AG.getD a.toNat Ag from rfl]
 generalize hx:w.AG.getD a.toNat Ag=x at*
 rw[show(x.1,x.2.1,())=x from rfl,show(w.1,w.2.1,())=AY w from rfl,kP (c:=AY w) (by show w.1.length≤_;omega) (by omega) (by omega)];simp only[AD];rw[Fe];simp only[AD];have hxl:=x2.n;have hxe:=x2.ep;have hq1:(Bn (AY w) x d).1.1=x.1:=by
  unfold Bn;rw[Ir.2 x2];grind
 have hpm:0≤F_ (Bn (AY w) x d).1.1 (Bn (AY w) x d).2.1∧F_ (Bn (AY w) x d).1.1 (Bn (AY w) x d).2.1<2^40:=by
  unfold F_ Ge;split
  ·rename_i hc
   rw[ANB,Ak,Ak]at hc;omega
  omega
 obtain⟨q,hq,es⟩:=ed (l:=w.2.2.2.2.2.2.2.2.2.1) h.XF (by omega) h.AFc hpm;unfold Ed;rw[es];simp only[AD];rcases AMo (Bn (AY w) x d).2.2 with h2|h2
 rotate_left
 ·rw[h2,ATb,AYZ,AMp rfl,ANI];rfl
 obtain⟨y1,y2,y3,y4⟩:=W_ h2;have hyl:=y2.n;rw[y3]at hyl;simp only[AQU,AOw,ARW]at hyl;have wo:=IU (e:=x.1) (o:=(Bn (AY w) x d).2.1) hxe (by omega);have hpe:F_ (Bn (AY w) x d).1.1 (Bn (AY w) x d).2.1=Ge x.1 (Bn (AY w) x d).2.1:=by
  grind[F_,Ak]
 rw[hpe]at hq⊢;rw[h2,ANk];simp only[ANX,AT5];have Abu:(w.AU.any fun s=>s.1==Ge x.1 (Bn (AY w) x d).2.1)=VQ (Ge x.1 (Bn (AY w) x d).2.1) w.2.2.2.2.2.2.2.2.2.1 q:=AAb hq h.XF;rw[Abu];by_cases h3:w.2.2.2.2.2.2.2.2.2.1.length=120
 ·rw[AMp (by omega),show decide (w.AU.length=120)=true from ATy h3,AYZ,AMp rfl]
  rfl
 rw[AM5 (by omega),show decide (w.AU.length=120)=false from AUG h3];simp only[AT5];rcases AMo (VQ (Ge x.1 (Bn (AY w) x d).2.1) w.2.2.2.2.2.2.2.2.2.1 q)with h4|h4
 ·rw[h4,ANk,AMp rfl];rfl
 rw[h4,ANI,AM5 (by simp)];have hql:=hq.le;grind[EO,kJ,wQ,Ge,Bn,AY,AWc,List.append_assoc,V2]
end
end Go.M
end
section
set_option maxRecDepth 8000
namespace Go.M
open Go.M.H (AK AQ Av Af AA CR AO Ay AR Ah BR A6 BN Al CD AX AW Aa Ai Bh A4 Ap A_ EH CP Cv C3)
def gg(c:Bz)(s:AQ)(ep n:Int):Int→List Ay→List Af→List Af
 |_,[],se=>se
 |o,x::l,se=>gg c s ep n (o+1) l (if !x.2.2.1&&KA s (Ge ep o)&&(Fc c n x).2.2.1 then Q6 (Ge ep o) se else se)
def pkT(c0:AAG)(c1 tr:Int)(tn:Bool)(ss:List AQ)(lo:AAG)(er:List CR)(ws:List AR)(ms:List Av)(rs:List Ah)(se:List Af):Gc:=
 (((()),()),(((),c1,(),(),(),tr,(),(),(),(),tn,()),c0,ss,lo,er,ws,ms,rs,se,()))
section
variable{c:Bz} {st:AQ} {SS:List AQ} {n:Int} (hc:c.1.length≤8) (hs:cZ st) (hn:0≤n∧n<c.1.length) (hnS:n<(SS.length:Int)) (cM:SS.getD n.toNat Dk=st)
include hc hs hn hnS cM
theorem zJ{tr:Int}{tn:Bool}{lo:AAG}{er:List CR}{ms:List Av}{rs:List Ah}{a:Nat}{ep:Int}:∀(rest dn:List Ay) (ws:List AR) (se:List Af) (f:Nat),a<ws.length→a≤4→ws.getD a Ag=(ep,dn++rest,())→cO c (ep,dn++rest,())→
  ov se→(∀s∈se,0≤s.1∧s.1<2^40)→se.length≤120→rest.length<f→
  C1 f (a:Int) n ((dn.length:Int)+1) c.2.1 tr tn c.1 SS lo er ws ms rs se=some (pkT c.1 c.2.1 tr tn SS lo er (ws.set a (ep,dn++A8 c st ep n ((dn.length:Int)+1) rest,())) ms rs (gg c st ep n ((dn.length:Int)+1) rest se)):=by
 have pE:=hs.w;intro rest
 induction rest with
 |nil=>
  intro dn ws se f ha ha4 hw Ei AAW AIM AR_ hf;obtain⟨f,rfl⟩:∃f',f=f'+1:=⟨f-1,by omega⟩;have sZ:ws.getD a (0,[],())=(ep,dn++[],()):=hw;simp only[C1,I3,AB,ANN,sZ,AN6];rw[AMp (by omega),AM5 (by omega)];unfold A8 gg pkT;rw[show((ep,dn++[],()):AR)=ws.getD a Ag from hw.symm,jW]
 |cons x rest ih=>
  intro dn ws se f ha ha4 hw Ei AAW AIM AR_ hf;obtain⟨f,rfl⟩:∃f',f=f'+1:=⟨f-1,by omega⟩;simp only[AOw]at hf;have sZ:ws.getD a (0,[],())=(ep,dn++x::rest,()):=hw;have hwe:1≤ep∧ep≤30:=Ei.ep;have hwn:(dn++x::rest).length≤60:=Ei.n;have hww:AX A4 (dn++x::rest)≤3000:=Ei.w;have hwl:=hwn;simp only[AQU,AOw]at hwl;have ca:(0:Int)≤(a:Int)∧(a:Int)<(ws.length:Int):=by omega
  have cn:(0:Int)≤n∧n<(SS.length:Int):=⟨hn.1,hnS⟩;have wo:=IU (e:=ep) (o:=(dn.length:Int)+1) hwe (by omega);have hpm:F_ ep ((dn.length:Int)+1)=Ge ep ((dn.length:Int)+1):=by
   grind[F_,Ak]
  have cd:(0:Int)≤(dn.length:Int)+1-1∧(dn.length:Int)+1-1<((dn++x::rest).length:Int):=by
   grind
  have e1:((dn.length:Int)+1-1).toNat=dn.length:=by omega
  have e2:(dn++x::rest).getD dn.length ([],[],false,())=x:=by simp[List.getD]
  have APK:SS.getD n.toNat ([],[],0,())=st:=cM;simp only[C1,I3,AB,A0,Cs,ANN,sZ,AMp ca,AMp cn];rw[AMp (by omega),Fe,hpm];simp only[AD,APK];rw[show(st.1,st.2.1,st.2.2.1,())=st from rfl,Ps (by omega) hs.sin];simp only[AD];rw[AJ (x:=(dn.length:Int)+1+1) (by omega) (by omega),AJ (x:=(dn.length:Int)+1-1) (by omega) (by omega)];simp only[AMp cd,e1,e2];have go:∀(y:Ay) (ws':List AR) (b_:List Af),ws'.length=ws.length→ws'.getD a Ag=(ep,dn++y::rest,())→(∀z,ws'.set a z=ws.set a z)→cO c (ep,dn++y::rest,())→ov b_→(∀s∈b_,0≤s.1∧s.1<2^40)→b_.length≤120→
    (if !x.2.2.1&&KA st (Ge ep ((dn.length:Int)+1))then Fc c n x else x)=y→(if !x.2.2.1&&KA st (Ge ep ((dn.length:Int)+1))&&(Fc c n x).2.2.1 then Q6 (Ge ep ((dn.length:Int)+1)) se else se)=b_→
    C1 f (a:Int) n ((dn.length:Int)+1+1) c.2.1 tr tn c.1 SS lo er ws' ms rs b_=some (pkT c.1 c.2.1 tr tn SS lo er (ws.set a (ep,dn++A8 c st ep n ((dn.length:Int)+1) (x::rest),())) ms rs (gg c st ep n ((dn.length:Int)+1) (x::rest) se)):=fun y ws' b_ g1 g2 g3 g4 g5 g6 g7 g8 g9=>by
   have:=ih (dn++[y]) ws' b_ f (by omega) ha4 (by simp_all) (by simp_all) g5 g6 g7 (by omega);simp only[AQU,AOw,ARW,AOj,AUk]at this;grind[A8,gg]
  have stay:(if !x.2.2.1&&KA st (Ge ep ((dn.length:Int)+1))then Fc c n x else x)=x→(if !x.2.2.1&&KA st (Ge ep ((dn.length:Int)+1))&&(Fc c n x).2.2.1 then Q6 (Ge ep ((dn.length:Int)+1)) se else se)=se→
    C1 f (a:Int) n ((dn.length:Int)+1+1) c.2.1 tr tn c.1 SS lo er ws ms rs se=some (pkT c.1 c.2.1 tr tn SS lo er (ws.set a (ep,dn++A8 c st ep n ((dn.length:Int)+1) (x::rest),())) ms rs (gg c st ep n ((dn.length:Int)+1) (x::rest) se)):=fun g8 g9=>go x ws se rfl hw (fun _=>rfl) Ei AAW AIM AR_ g8 g9
  have hsg:VZ st (Ge ep ((dn.length:Int)+1))=G_ (Ge ep ((dn.length:Int)+1)) st.1:=by unfold VZ;rw[DC.2 hs,AMp rfl]
  rw[hsg];cases hxd:x.2.2.1 with
  |true=>
   grind
  |false=>
   rw[ANI];cases hg:G_ (Ge ep ((dn.length:Int)+1)) st.1 with
   |none=>
    grind[KA,Ge]
   |some e=>
    simp only[ANk];by_cases he0:e.2.1=0
    rotate_left
    ·have hh:KA st (Ge ep ((dn.length:Int)+1))=false:=by grind[KA]
     simp_all
    have hh:KA st (Ge ep ((dn.length:Int)+1))=true:=by grind[KA]
    rw[AMp he0];have hx:=Ei.words x (by simp);have hb:cO c (ep,dn++Fc c n x::rest,()):=⟨Ei.cfg,Ei.ep,by grind,fun b hb=>by
     simp only[AOt,AQQ]at hb;rcases hb with hb|rfl|hb
     ·exact Ei.words b (by simp[hb])
     ·exact⟨hx.1,Ka hx.2.1 hn,rfl⟩
     ·exact Ei.words b (by simp[hb]),ASX (lR hxd) Ei.opn⟩
    rw[show(c.1,c.2.1,())=c from rfl,kf (c:=c) (w:=(ep,dn++x::rest,())) (by omega) (by grind)];have AEg:Ra c (ep,dn++x::rest,()) ((dn.length:Int)+1) n=((ep,dn++Fc c n x::rest,()),true):=by
     unfold Ra;rw[Ir.2 Ei];simp only[ANX,ANZ,AQ7];rw[e1,show(dn++x::rest).getD dn.length LR=x from e2,hxd];rw[AMp (by
      rw[ANB,ANB,Ak,Ak];grind)]
     grind
    rw[AEg];simp only[AD,pkW];have hx7:(ws.set a (ep,dn++Fc c n x::rest,())).getD a (0,[],())=(ep,dn++Fc c n x::rest,()):=Np ha;have ca7:(0:Int)≤(a:Int)∧(a:Int)<((ws.set a (ep,dn++Fc c n x::rest,())).length:Int):=by grind
    have cd7:(0:Int)≤(dn.length:Int)+1-1∧(dn.length:Int)+1-1<((dn++Fc c n x::rest).length:Int):=by
     grind
    have e27:(dn++Fc c n x::rest).getD dn.length ([],[],false,())=Fc c n x:=by simp[List.getD]
    have hpr:0≤Ge ep ((dn.length:Int)+1)∧Ge ep ((dn.length:Int)+1)<2^40:=by unfold Ge;omega
    obtain⟨q,hq,es⟩:=ed AAW (by omega) AIM hpr;unfold Ed;rw[es];simp only[AD,hx7,AMp ca7,AMp cd7,e27];have VW:∀z,(ws.set a (ep,dn++Fc c n x::rest,())).set a z=ws.set a z:=fun z=>AYW ..
    have AMd:(if !x.2.2.1&&KA st (Ge ep ((dn.length:Int)+1))then Fc c n x else x)=Fc c n x:=by grind
    rcases AMo (VQ (Ge ep ((dn.length:Int)+1)) se q)with hf|hf
    rotate_left
    ·rw[hf,ANI]
     refine go _ _ se (AUM ..) hx7 VW hb AAW AIM AR_ AMd ?_
     rw[ABM (uX hq AAW hf)];grind
    obtain⟨hql,hqe⟩:=rV hf;rw[hf,ANk];cases hd:(Fc c n x).2.2.1 with
    |false=>
     grind
    |true=>
     rw[ANk,AMp (by omega),ANN,show se.getD q (0,[],false,())=se[q]from NU hql,AFW hql AAW hqe];refine go _ _ _ (AUM ..) hx7 VW hb (ATG AAW) (fun s hs' => ?_) (by rw[AOO];omega) AMd (by grind);grind[sm_at]
theorem zM{tr:Int}{tn:Bool}{lo:AAG}{er:List CR}{ws:List AR}{rs:List Ah}{se:List Af}{a:Nat}{m:Av}(hm:ku c m):∀(rest dn:List AAG) (ms:List Av) (f:Nat),a<ms.length→a≤4→ms.getD a Rc=(m.1,m.2.1,m.2.2.1,m.2.2.2.1,m.2.2.2.2.1,dn++rest,())→(dn++rest).length=m.2.2.2.2.2.1.length→(∀l∈dn++rest,A9 c l=true)→
  rest.length<f→
  BX f (a:Int) n ((dn.length:Int)+1) c.2.1 tr tn c.1 SS lo er ws ms rs se=some (pkT c.1 c.2.1 tr tn SS lo er ws (ms.set a (m.1,m.2.1,m.2.2.1,m.2.2.2.1,m.2.2.2.2.1,dn++Fm m st n ((dn.length:Int)+1) rest,())) rs se):=by
 have pE:=hs.w;have hmn:m.2.2.2.2.2.1.length≤60:=by
  have:=hm.n;have hb:=Ho (l:=m.2.2.2.1);omega
 intro rest
 induction rest with
 |nil=>
  intro dn ms f ha ha4 hw hl ho hf;obtain⟨f,rfl⟩:∃f',f=f'+1:=⟨f-1,by omega⟩;have sZ:ms.getD a (0,0,[],[],false,[],())=(m.1,m.2.1,m.2.2.1,m.2.2.2.1,m.2.2.2.2.1,dn++[],()):=hw;simp only[BX,HH,AB,ANN,sZ,AN6];rw[AMp (by omega),AM5 (by omega)];unfold Fm pkT;rw[show((m.1,m.2.1,m.2.2.1,m.2.2.2.1,m.2.2.2.2.1,dn++[],()):Av)=ms.getD a Rc from hw.symm,jW]
 |cons x rest ih=>
  intro dn ms f ha ha4 hw hl ho hf;obtain⟨f,rfl⟩:∃f',f=f'+1:=⟨f-1,by omega⟩;simp only[AOw]at hf;have sZ:ms.getD a (0,0,[],[],false,[],())=(m.1,m.2.1,m.2.2.1,m.2.2.2.1,m.2.2.2.2.1,dn++x::rest,()):=hw;have mM:=hl;simp only[AQU,AOw]at mM;have ca:(0:Int)≤(a:Int)∧(a:Int)<(ms.length:Int):=by omega
  have cn:(0:Int)≤n∧n<(SS.length:Int):=⟨hn.1,hnS⟩;have APK:SS.getD n.toNat ([],[],0,())=st:=cM;have Z9:ku c (m.1,m.2.1,m.2.2.1,m.2.2.2.1,m.2.2.2.2.1,dn++x::rest,()):=⟨hm.cfg,hm.ep,hm.b,hm.yd,hm.sA,hm.seen,ho,by show((dn++x::rest).length:Int)=_;rw[hl];exact hm.n⟩;have hmw:=Z9.w;simp only[BX,HH,AB,A0,Cs,ANN,sZ,AMp ca,AMp cn];rw[AMp (by omega),Zq (m:=(m.1,m.2.1,m.2.2.1,m.2.2.2.1,m.2.2.2.2.1,dn++x::rest,())) (by omega),dQ hl];simp only[AD,APK];rw[show(st.1,st.2.1,st.2.2.1,())=st from rfl,Ps (by omega) hs.sin];simp only[AD];rw[AJ (x:=(dn.length:Int)+1+1) (by omega) (by omega)];have go:∀(y:AAG) (ms':List Av),ms'.length=ms.length→ms'.getD a Rc=(m.1,m.2.1,m.2.2.1,m.2.2.2.1,m.2.2.2.2.1,dn++y::rest,())→(∀z,ms'.set a z=ms.set a z)→A9 c y=true→
    (if U5 m st ((dn.length:Int)+1)then N2 n x else x)=y→
    BX f (a:Int) n ((dn.length:Int)+1+1) c.2.1 tr tn c.1 SS lo er ws ms' rs se=some (pkT c.1 c.2.1 tr tn SS lo er ws (ms.set a (m.1,m.2.1,m.2.2.1,m.2.2.2.1,m.2.2.2.2.1,dn++Fm m st n ((dn.length:Int)+1) (x::rest),())) rs se):=fun y ms' g1 g2 g3 g4 g5=>by
   have:=ih (dn++[y]) ms' f (by omega) ha4 (by simp_all) (by simp_all) (fun l hl=>by
    grind) (by omega)
   simp only[AQU,AOw,ARW,AOj,AUk]at this;grind[Fm]
  have hx:=ho x (by simp);have stay:U5 m st ((dn.length:Int)+1)=false→BX f (a:Int) n ((dn.length:Int)+1+1) c.2.1 tr tn c.1 SS lo er ws ms rs se=some (pkT c.1 c.2.1 tr tn SS lo er ws (ms.set a (m.1,m.2.1,m.2.2.1,m.2.2.2.1,m.2.2.2.2.1,dn++Fm m st n ((dn.length:Int)+1) (x::rest),())) rs se):=fun g=>go x ms rfl hw (fun _=>rfl) hx (by simp_all)
  have hsg:∀p,VZ st p=G_ p st.1:=fun p=>by unfold VZ;rw[DC.2 hs,AMp rfl]
  rw[hsg];cases he:ES m ((dn.length:Int)+1)with
  |none=>
   simp only[AUH,ANI];grind[U5]
  |some e=>
   simp only[AUI,ANk,AUJ];cases hg:G_ e.1 st.1 with
   |none=>
    grind[U5]
   |some y=>
    simp only[ANk,eqE,AB];by_cases hye:y=e
    rotate_left
    ·rw[AM5 hye]
     grind[U5]
    have hh:U5 m st ((dn.length:Int)+1)=true:=by grind[U5]
    rw[AMp hye,show(c.1,c.2.1,())=c from rfl,oh (c:=c) (m:=(m.1,m.2.1,m.2.2.1,m.2.2.2.1,m.2.2.2.2.1,dn++x::rest,())) (by omega) (by omega) Z9.yT];have AEg:Td c (m.1,m.2.1,m.2.2.1,m.2.2.2.1,m.2.2.2.2.1,dn++x::rest,()) ((dn.length:Int)+1) n=((m.1,m.2.1,m.2.2.1,m.2.2.2.1,m.2.2.2.2.1,dn++N2 n x::rest,()),true):=by
     unfold Td;rw[Gq.2 Z9];have hq:(BF ((dn.length:Int)+1) 1 ((dn++x::rest).length:Int)&&BF n 0 ((c.1.length:Int)-1))=true:=by
      rw[ANB,Ak,Ak];omega
     grind
    grind[AD,gZ,N2,List.length_set,Np,List.set_set,Ka]
end
def iu(c:Bz)(s:AQ)(ep n:Int):Int→List Ay→Int→Bool
 |_,[],_=>false
 |o,x::l,p=>(decide (p=Ge ep o)&&(!x.2.2.1&&KA s (Ge ep o)&&(Fc c n x).2.2.1))||iu c s ep n (o+1) l p
theorem tH{c:Bz}{st:AQ}{ep n:Int}:∀{l:List Ay} {o:Int} {se:List Af},gg c st ep n o l se=se.map fun s=>(s.1,s.2.1,s.2.2.1||iu c st ep n o l s.1,())
 |[],o,se=>by
  simp only[gg,iu,AYd];simp_all
 |x::l,o,se=>by
  simp only[gg];rw[tH];rcases AMo (!x.2.2.1&&KA st (Ge ep o)&&(Fc c n x).2.2.1)with hb|hb
  ·rw[hb,AMp rfl]
   unfold Q6;rw[AVu];refine AUL fun s _=> ?_
   simp only[Function.comp_apply,iu,hb,AUU];grind
  ·rw[hb]
   simp only[ANZ,AQ7];refine AUL fun s _=> ?_
   simp only[iu,hb,AYK,AT5]
theorem tf{c:Bz}{st:AQ}{ep n p:Int}(hep:1≤ep∧ep≤30)(hp:Bf p=true):∀{l:List Ay} {o:Int},1≤o→o+l.length≤61→
  iu c st ep n o l p=(An p==ep&&(decide (o≤Cp p)&&(decide (Cp p<o+l.length)&&(((A8 c st ep n o l).getD (Cp p-o).toNat LR).2.2.1&& !(l.getD (Cp p-o).toNat LR).2.2.1))))
 |[],o,_,_=>by
  have:(decide (o≤Cp p)&&decide (Cp p<o+(([]:List Ay).length:Int)))=false:=by
   simp_all
  rw[←Bool.and_assoc (decide (o≤Cp p)),this,AUC,AYK];rfl
 |x::l,o,ho,hl=>by
  simp only[AOw]at hl;have hf:=EV hp;simp only[iu];rw[tf hep hp (l:=l) (o:=o+1) (by omega) (by omega)];by_cases he:An p=ep
  rotate_left
  ·grind[Ge,IU,beq_eq_false_iff_ne,decide_eq_false]
  rw[AUP.2 he];simp only[ANr,AOw];by_cases h1:Cp p=o
  ·have hpe:p=Ge ep o:=by simp_all
   have e0:(Cp p-o).toNat=0:=by omega
   rw[ATy hpe,AUG (show¬o+1≤Cp p by omega),ATy (show o≤Cp p by omega),ATy (show Cp p<o+((l.length+1:Nat):Int)by omega),e0];simp only[ANr,AUC,AYd,A8,List.getD_cons_zero];grind
  ·have fT:p≠Ge ep o:=fun e=>h1 (by grind[IU])
   rw[AUG fT,AUC,AT5];by_cases h2:o≤Cp p
   ·rw[ATy h2,ATy (show o+1≤Cp p by omega)]
    have e1:(Cp p-o).toNat=(Cp p-(o+1)).toNat+1:=by omega
    rw[e1];simp only[A8,List.getD_cons_succ];grind
   grind
theorem gk{c:Bz}{st:AQ}{ep n:Int}:∀{l:List Ay} {o:Int},(A8 c st ep n o l).length=l.length
 |[],_=>rfl
 |x::l,o=>by simp only[A8,AOw,gk]
theorem yx{c:Bz}{st:AQ}{ep n:Int}(hep:1≤ep∧ep≤30){l:List Ay}(hl:l.length≤60){se:List Af}(hs:∀s∈se,Bf s.1=true):gg c st ep n 1 l se=se.map (P_ false ep l (A8 c st ep n 1 l)):=by
 rw[tH];refine AUL fun s hm=> ?_
 have hf:=EV (hs s hm);unfold P_ LA;rw[tf hep (hs s hm) (by omega) (by omega),gk];by_cases h1:Cp s.1≤l.length
 ·have:BF (Cp s.1) 1 (l.length:Int)=true:=Ak.2 (by omega)
  grind
 ·have:BF (Cp s.1) 1 (l.length:Int)=false:=by
   rw[←AQS,Ak];omega
  grind
end Go.M
end
section
set_option maxRecDepth 8000
namespace Go.M
open Go.M.H (AK AQ Av Af AA CR AO Ay AR Ah BR A6 BN Al CD AX AW Aa Ai Bh A4 Ap A_ EH CP Cv C3)
def AFi(q:AA×Int):dI:=((q.2,()),(((),q.1.2.1,(),(),(),q.1.2.2.2.2.2.1,(),(),(),(),q.1.2.2.2.2.2.2.2.2.2.2.1,()),q.1.1,q.1.2.2.1,(),(),(),(),q.1.2.2.2.2.2.2.2.2.1,(),q.1.2.2.2.1,q.1.2.2.2.2.1,q.1.2.2.2.2.2.2.1,q.1.2.2.2.2.2.2.2.1,q.1.2.2.2.2.2.2.2.2.2.1,()))
def ww(w:AA)(SS:List AQ)(ws:List AR)(ms:List Av)(se:List Af):AA:=(((w.Bj SS).BZ ws).Ax se).Cd ms
section
variable{w:AA} (h:Me w) {st:AQ} {SS:List AQ} {n:Int} (hs:cZ st) (hn:0≤n∧n<(AY w).1.length) (hnS:n<(SS.length:Int)) (cM:SS.getD n.toNat Dk=st)
include h hs hn hnS cM
theorem AFz{ws:List AR}{se:List Af}:∀(k i:Nat),w.2.2.2.2.2.2.2.1.length-i=k→i≤w.2.2.2.2.2.2.2.1.length→ ∀f,k<f→
  FW f n w.2.2.2.2.2.2.2.1.length i w.2.1 w.2.2.2.2.2.1 w.2.2.2.2.2.2.2.2.2.2.1 w.1 SS w.2.2.2.1 w.2.2.2.2.1 ws ((w.2.2.2.2.2.2.2.1.map (LP st w.Ao n)).take i++w.2.2.2.2.2.2.2.1.drop i) w.2.2.2.2.2.2.2.2.1 se=some (lr (ww w SS ws (w.2.2.2.2.2.2.2.1.map (LP st w.Ao n)) se,0)):=by
 have k:=h.nums;have k1:=k.c;have k5:=k.era;have k6:=k.md;intro k
 induction k with
 |zero=>
  intro i hk hi f hf;obtain⟨f,rfl⟩:∃f',f=f'+1:=⟨f-1,by omega⟩;have:i=w.2.2.2.2.2.2.2.1.length:=by omega
  simp only[FW,M3,AB];rw[AM5 (by omega),this,AU_,AN6,AUB (by simp)];rfl
 |succ k ih=>
  intro i hk hi f hf;obtain⟨f,rfl⟩:∃f',f=f'+1:=⟨f-1,by omega⟩;have Dn:i<w.2.2.2.2.2.2.2.1.length:=by omega
  have hm:=(h.CE _ (ANa Dn)).1;have hme:=hm.ep;have VO:(A5 w.Ao w.2.2.2.2.2.2.2.1[i].2.1).length≤8:=Ee h;simp only[FW,M3,AB];rw[Pr hi,AMp (by omega),AMp (by omega),ANN,NN Dn,show(w.2.2.2.2.1,w.2.2.2.2.2.1,())=CJ w from rfl,Ly (r:=CJ w) (by show AX Bh w.2.2.2.2.1≤_;omega) ⟨by omega,by omega⟩];rw[show(CJ w).1=w.Ao from rfl];simp only[AD];rw[JD (by omega),AJ (x:=(i:Int)+1) (by omega) (by omega),show((i:Int)+1)=((i+1:Nat):Int)by omega];simp only[AD];have nx:=ih (i+1) (by omega) (by omega) f (by omega);rcases AMo ((A5 w.Ao w.2.2.2.2.2.2.2.1[i].2.1).contains n)with hc|hc
  ·have hT:LP st w.Ao n w.2.2.2.2.2.2.2.1[i]=(w.2.2.2.2.2.2.2.1[i].1,w.2.2.2.2.2.2.2.1[i].2.1,w.2.2.2.2.2.2.2.1[i].2.2.1,w.2.2.2.2.2.2.2.1[i].2.2.2.1,w.2.2.2.2.2.2.2.1[i].2.2.2.2.1,Fm w.2.2.2.2.2.2.2.1[i] st n 1 w.2.2.2.2.2.2.2.1[i].2.2.2.2.2.1,()):=by
    unfold LP;simp_all
   have hmn:w.2.2.2.2.2.2.2.1[i].2.2.2.2.2.1.length≤60:=by
    have:=hm.n;have hb:=Ho (l:=w.2.2.2.2.2.2.2.1[i].2.2.2.1);omega
   have:=zM (c:=AY w) (tr:=w.2.2.2.2.2.1) (tn:=w.2.2.2.2.2.2.2.2.2.2.1) (lo:=w.2.2.2.1) (er:=w.2.2.2.2.1) (ws:=ws) (rs:=w.2.2.2.2.2.2.2.2.1) (se:=se) (a:=i) k1 hs hn hnS cM hm w.2.2.2.2.2.2.2.1[i].2.2.2.2.2.1 [] ((w.2.2.2.2.2.2.2.1.map (LP st w.Ao n)).take i++w.2.2.2.2.2.2.2.1.drop i) Ac (by simp_all) (by omega) (NN Dn) rfl (by simpa using hm.wrote) (Ae (by omega));rw[hc,ANk];unfold LZ J8;simp only[ARW,AT6]at this;have e1:(((0:Nat):Int)+1)=1:=rfl;rw[e1]at this;rw[show(w.2.1:Int)=(AY w).2.1 from rfl,show w.1=(AY w).1 from rfl,this];simp only[AD,pkT];rw[Qv Dn hT.symm];exact nx
  ·have hT:LP st w.Ao n w.2.2.2.2.2.2.2.1[i]=w.2.2.2.2.2.2.2.1[i]:=by
    unfold LP;simp_all
   rw[hc,ANI,kj Dn hT];omega
theorem AIo:∀(rest pre:List AR) (se:List Af) (f:Nat),pre.length+rest.length=w.2.2.2.2.2.2.1.length→(∀x∈rest,cO (AY w) x)→ov se→(∀s∈se,Bf s.1=true)→se.length≤120→rest.length+w.2.2.2.2.2.2.2.1.length+1<f→
  Ex f n w.2.2.2.2.2.2.1.length pre.length w.2.1 w.2.2.2.2.2.1 w.2.2.2.2.2.2.2.2.2.2.1 w.1 SS w.2.2.2.1 w.2.2.2.2.1 (pre++rest) w.2.2.2.2.2.2.2.1 w.2.2.2.2.2.2.2.2.1 se st.2.2.1=
   some (lr (ww w SS (pre++(Ec false (AY w) st w.Ao n rest se).1) (w.2.2.2.2.2.2.2.1.map (LP st w.Ao n)) (Ec false (AY w) st w.Ao n rest se).2,0)):=by
 have k:=h.nums;have k1:=k.c;have k2:=k.wr;have k5:=k.era;have k6:=k.md;have hb:∀{p:Int},Bf p=true→0≤p∧p<2^40:=fun{p} hp=>by
  have h1:=EV hp;grind[Ge]
 intro rest
 induction rest with
 |nil=>
  intro pre se f hl hw ha hp hsl hf;obtain⟨f,rfl⟩:∃f',f=f'+1:=⟨f-1,by omega⟩;simp only[ARW]at hl hf;simp only[Ex,N7,AB,AN6];rw[AM5 (by omega)];have:=AFz h hs hn hnS cM (ws:=pre) (se:=se) w.2.2.2.2.2.2.2.1.length 0 (by omega) (by omega) f (by omega);rw[show((0:Nat):Int)=0 from rfl,AT_,AYl,AT6]at this;grind[Ec]
 |cons x rest ih=>
  intro pre se f hl hw ha hp hsl hf;obtain⟨f,rfl⟩:∃f',f=f'+1:=⟨f-1,by omega⟩;simp only[AOw]at hl hf;have hx:=hw x (by simp);have hxe:=hx.ep;have hxn:=hx.n;have wo:(pre++x::rest).length=pre.length+(rest.length+1):=by simp
  have cp:(0:Int)≤(pre.length:Int)∧(pre.length:Int)<((pre++x::rest).length:Int):=by omega
  have e2:(pre++x::rest).getD pre.length (0,[],())=x:=by simp[List.getD]
  have VO:(A5 w.Ao x.1).length≤8:=Ee h;simp only[Ex,N7,AB,ANN,AMp cp,e2];rw[AMp (by omega),show(w.2.2.2.2.1,w.2.2.2.2.2.1,())=CJ w from rfl,Ly (r:=CJ w) (by show AX Bh w.2.2.2.2.1≤_;omega) ⟨by omega,by omega⟩];rw[show(CJ w).1=w.Ao from rfl];simp only[AD];rw[JD (by omega),AJ (x:=(pre.length:Int)+1) (by omega) (by omega),show((pre.length:Int)+1)=((pre.length+1:Nat):Int)by omega];simp only[AD];have next:∀(b:AR) (b_:List Af),ov b_→(∀s∈b_,Bf s.1=true)→b_.length≤120→
    Ex f n w.2.2.2.2.2.2.1.length ((pre.length+1:Nat):Int) w.2.1 w.2.2.2.2.2.1 w.2.2.2.2.2.2.2.2.2.2.1 w.1 SS w.2.2.2.1 w.2.2.2.2.1 (pre++b::rest) w.2.2.2.2.2.2.2.1 w.2.2.2.2.2.2.2.2.1 b_ st.2.2.1=
     some (lr (ww w SS (pre++b::(Ec false (AY w) st w.Ao n rest b_).1) (w.2.2.2.2.2.2.2.1.map (LP st w.Ao n)) (Ec false (AY w) st w.Ao n rest b_).2,0)):=fun b b_ h1 h2 h3=>by
   have:=ih (pre++[b]) b_ f (by grind) (fun x hx=>hw x (by simp[hx])) h1 h2 h3 (by omega);simp_all
  simp only[Ec];rcases AMo (J_ st w.Ao n x)with ht|ht
  rotate_left
  ·rw[ht]
   simp only[ANZ,AQ7];unfold J_ at ht;by_cases Hh:x.1>st.2.2.1
   ·grind
   grind
  ·rw[ht]
   simp only[AT8];unfold J_ at ht;rw[ANB,ANo]at ht;rw[AMp (show x.1>st.2.2.1 from ht.2),ht.1,ANk];have:=zJ (c:=AY w) (tr:=w.2.2.2.2.2.1) (tn:=w.2.2.2.2.2.2.2.2.2.2.1) (lo:=w.2.2.2.1) (er:=w.2.2.2.2.1) (ms:=w.2.2.2.2.2.2.2.1) (rs:=w.2.2.2.2.2.2.2.2.1) (a:=pre.length) (ep:=x.1) k1 hs hn hnS cM x.2.1 [] (pre++x::rest) se Ac (by omega) (by omega) (show(pre++x::rest).getD pre.length (0,[],())=x from e2) hx ha (fun s hs' =>hb (hp s hs')) hsl (Ae (by omega));unfold N1 OU;simp only[ARW,AT6]at this;have e1:(((0:Nat):Int)+1)=1:=rfl;rw[e1,yx hxe hxn hp,AYY _ _ (by omega),Nat.sub_self,AXz]at this;rw[show(w.2.1:Int)=(AY w).2.1 from rfl,show w.1=(AY w).1 from rfl,this];simp only[AD,pkT];refine next _ _ ?_ (fun s hs' => ?_) (by simp_all)
   ·unfold ov Uc
    rw[AXI];exact List.Pairwise.imp (fun{a b} sC=>sC) ha
   ·obtain⟨s',h1,rfl⟩:=AUR.1 hs'
    exact hp s' h1
end
section
variable{w:AA} (h:Me w)
include h
theorem iH{n:Int}:Qj n w.2.1 w.2.2.2.2.2.1 w.2.2.2.2.2.2.2.2.2.2.1 w.1 w.2.2.1 w.2.2.2.1 w.2.2.2.2.1 w.2.2.2.2.2.2.1 w.2.2.2.2.2.2.2.1 w.2.2.2.2.2.2.2.2.1 w.2.2.2.2.2.2.2.2.2.1=some (lr (MT false w n)):=by
 have k:=h.nums;have k1:=k.c;have k2:=k.wr;have k3:=k.lost;have k4:=k.st;have cD:=k.jF;have jH:=k.J6;have kq:=k.jL;have k5:=k.era;have k7:=k.cP;unfold Qj T8 MT;rw[show(w.1,w.2.1,w.2.2.1,w.2.2.2.1,w.2.2.2.2.1,w.2.2.2.2.2.1,w.2.2.2.2.2.2.1,w.2.2.2.2.2.2.2.1,w.2.2.2.2.2.2.2.2.1,w.2.2.2.2.2.2.2.2.2.1,w.2.2.2.2.2.2.2.2.2.2.1,())=w from rfl,MN (by omega) (by omega)];simp only[AD,Cs,A0];by_cases h3:Aw w n=0
 rotate_left
 ·rw[AM5 h3,AMp h3];rfl
 obtain⟨hr,s1,s2,s3⟩:=h.Mb h3;have cM:w.2.2.1.getD n.toNat ([],[],0,())=storeAt w n:=rfl;rw[AMp h3,AM5 (show¬(Aw w n≠0)from fun hh=>hh h3)];simp only[AMp hr,cM];rw[show((storeAt w n).1,(storeAt w n).2.1,(storeAt w n).2.2.1,())=storeAt w n from rfl,ZS s1 s2];simp only[AD,jI];rcases AMo (Bk (storeAt w n)).2 with hq|hq
 rotate_left
 ·rw[hq,Iy];rfl
 rw[hq,GH,ANk];have Ei:cZ (Bk (storeAt w n)).1:=(K8 hq).2.1;have AaM:n.toNat<w.2.2.1.length:=by omega
 have:=AIo h (st:=(Bk (storeAt w n)).1) (SS:=w.2.2.1.set n.toNat (Bk (storeAt w n)).1) (n:=n) Ei (h.node h3).1 (by simp_all) (Np AaM) w.2.2.2.2.2.2.1 [] w.2.2.2.2.2.2.2.2.2.1 Ac (by simp) (fun x hx=>(h.AG x hx).1) h.XF (fun s hs=>(h.AU s hs).1) k.se (Ae (by have:=k.md;omega));simp only[ARW,AT6]at this;rw[show((0:Nat):Int)=0 from rfl]at this;exact this
theorem AFG{n:Int}{ss:List AQ}{ls:AAG}{ws:List AR}(hls:ls.length≤2^20):∀(f i:Nat),i≤w.2.2.2.2.2.2.2.1.length→w.2.2.2.2.2.2.2.1.length-i<f→
  G6 f n w.2.2.2.2.2.2.2.1.length i w.2.1 w.2.2.2.2.2.1 w.2.2.2.2.2.2.2.2.2.2.1 w.1 ss w.2.2.2.1 w.2.2.2.2.1 ws ((w.2.2.2.2.2.2.2.1.map fun m=>(B9 (AY w) m n).1).take i++w.2.2.2.2.2.2.2.1.drop i) w.2.2.2.2.2.2.2.2.1 w.2.2.2.2.2.2.2.2.2.1 ls=
   some (AJW (((((w.Bj ss).FO ls).BZ ws).Cd (w.2.2.2.2.2.2.2.1.map fun m=>(B9 (AY w) m n).1)).Ff (w.GU||holds (AY w) ls),0)):=by
 have k:=h.nums;have k1:=k.c;have k6:=k.md;intro f
 induction f with
 |zero=>omega
 |succ f ih=>
  intro i hi hn;have hlen:=Pr (f:=fun m:Av=>(B9 (AY w) m n).1) hi;simp only[G6,S4,AB,A0,hlen];by_cases Dn:i<w.2.2.2.2.2.2.2.1.length
  ·have c1:(0:Int)≤(i:Int)∧(i:Int)<(w.2.2.2.2.2.2.2.1.length:Int):=by omega
   have hm:=(h.CE _ (ANa Dn)).1;have hmw:=hm.w;have hg:((w.2.2.2.2.2.2.2.1.map fun m=>(B9 (AY w) m n).1).take i++w.2.2.2.2.2.2.2.1.drop i).getD i (0,0,[],[],false,[],())=w.2.2.2.2.2.2.2.1[i]:=NN Dn;simp only[AMp c1,AMp c1.2,ANN,hg];rw[AJ (by omega) (by omega),show((i:Int)+1)=((i+1:Nat):Int)by omega,show(w.2.2.2.2.2.2.2.1[i].1,w.2.2.2.2.2.2.2.1[i].2.1,w.2.2.2.2.2.2.2.1[i].2.2.1,w.2.2.2.2.2.2.2.1[i].2.2.2.1,w.2.2.2.2.2.2.2.1[i].2.2.2.2.1,w.2.2.2.2.2.2.2.1[i].2.2.2.2.2.1,())=w.2.2.2.2.2.2.2.1[i]from rfl,show(w.1,w.2.1,())=AY w from rfl,iT (c:=AY w) (by show w.1.length≤_;omega) (by omega) hm.yT];simp only[AD,gZ];rw[show((B9 (AY w) w.2.2.2.2.2.2.2.1[i] n).1.1,(B9 (AY w) w.2.2.2.2.2.2.2.1[i] n).1.2.1,(B9 (AY w) w.2.2.2.2.2.2.2.1[i] n).1.2.2.1,(B9 (AY w) w.2.2.2.2.2.2.2.1[i] n).1.2.2.2.1,(B9 (AY w) w.2.2.2.2.2.2.2.1[i] n).1.2.2.2.2.1,(B9 (AY w) w.2.2.2.2.2.2.2.1[i] n).1.2.2.2.2.2.1,())=(B9 (AY w) w.2.2.2.2.2.2.2.1[i] n).1 from rfl,Qv Dn rfl];grind
  ·have:i=w.2.2.2.2.2.2.2.1.length:=by omega
   rw[AM5 (by omega),this,AU_,AN6,AUB (by simp),show(w.1,w.2.1,())=AY w from rfl,Fp (by show w.1.length≤_;omega) (by omega)];simp only[AD];cases ht:w.2.2.2.2.2.2.2.2.2.2.1 with
   |true=>
    have ht':w.GU=true:=ht;rw[ht'];rfl
   |false=>
    have ht':w.GU=false:=ht;rw[ht'];rfl
theorem AIr{n:Int}{ss:List AQ}{ls:AAG}(hls:ls.length≤2^20):∀(f i:Nat),i≤w.2.2.2.2.2.2.1.length→(w.2.2.2.2.2.2.1.length-i)+w.2.2.2.2.2.2.2.1.length+2≤f→
  Hc f n w.2.2.2.2.2.2.1.length i w.2.1 w.2.2.2.2.2.1 w.2.2.2.2.2.2.2.2.2.2.1 w.1 ss w.2.2.2.1 w.2.2.2.2.1 ((w.2.2.2.2.2.2.1.map fun x=>(CF (AY w) x n).1).take i++w.2.2.2.2.2.2.1.drop i) w.2.2.2.2.2.2.2.1 w.2.2.2.2.2.2.2.2.1 w.2.2.2.2.2.2.2.2.2.1 ls=
   some (AJW (((((w.Bj ss).FO ls).BZ (w.2.2.2.2.2.2.1.map fun x=>(CF (AY w) x n).1)).Cd (w.2.2.2.2.2.2.2.1.map fun m=>(B9 (AY w) m n).1)).Ff (w.GU||holds (AY w) ls),0)):=by
 have k:=h.nums;have k1:=k.c;have k6:=k.wr;intro f
 induction f with
 |zero=>omega
 |succ f ih=>
  intro i hi hn;have hlen:=Pr (f:=fun x:AR=>(CF (AY w) x n).1) hi;simp only[Hc,T2,AB,A0,hlen];by_cases Dn:i<w.2.2.2.2.2.2.1.length
  ·have c1:(0:Int)≤(i:Int)∧(i:Int)<(w.2.2.2.2.2.2.1.length:Int):=by omega
   have hm:=(h.AG _ (ANa Dn)).1;have hmw:=hm.w;have hg:((w.2.2.2.2.2.2.1.map fun x=>(CF (AY w) x n).1).take i++w.2.2.2.2.2.2.1.drop i).getD i (0,[],())=w.2.2.2.2.2.2.1[i]:=NN Dn;simp only[AMp c1,AMp c1.2,ANN,hg];rw[AJ (by omega) (by omega),show((i:Int)+1)=((i+1:Nat):Int)by omega,show(w.2.2.2.2.2.2.1[i].1,w.2.2.2.2.2.2.1[i].2.1,())=w.2.2.2.2.2.2.1[i]from rfl,show(w.1,w.2.1,())=AY w from rfl,eJ (c:=AY w) (by show w.1.length≤_;omega) (by have:Ap w.2.2.2.2.2.2.1[i]=AX A4 w.2.2.2.2.2.2.1[i].2.1:=rfl;omega)];simp only[AD,pkW];rw[show((CF (AY w) w.2.2.2.2.2.2.1[i] n).1.1,(CF (AY w) w.2.2.2.2.2.2.1[i] n).1.2.1,())=(CF (AY w) w.2.2.2.2.2.2.1[i] n).1 from rfl,Qv Dn rfl];grind
  ·have:i=w.2.2.2.2.2.2.1.length:=by omega
   have k12:=AFG h (n:=n) (ss:=ss) (ws:=w.2.2.2.2.2.2.1.map fun x=>(CF (AY w) x n).1) hls f 0 (by omega) (by omega);grind
theorem jG{n:Int}:Q3 n w.2.1 w.2.2.2.2.2.1 w.2.2.2.2.2.2.2.2.2.2.1 w.1 w.2.2.1 w.2.2.2.1 w.2.2.2.2.1 w.2.2.2.2.2.2.1 w.2.2.2.2.2.2.2.1 w.2.2.2.2.2.2.2.2.1 w.2.2.2.2.2.2.2.2.2.1=some (AJW (PA w n)):=by
 have k:=h.nums;have k1:=k.c;have k2:=k.wr;have k3:=k.lost;have k4:=k.st;have cD:=k.jF;have jH:=k.J6;have kq:=k.jL;have k5:=k.era;have k7:=k.cP;have k6:=k.md;unfold Q3 Tv PA;rw[show(w.1,w.2.1,w.2.2.1,w.2.2.2.1,w.2.2.2.2.1,w.2.2.2.2.2.1,w.2.2.2.2.2.2.1,w.2.2.2.2.2.2.2.1,w.2.2.2.2.2.2.2.2.1,w.2.2.2.2.2.2.2.2.2.1,w.2.2.2.2.2.2.2.2.2.2.1,())=w from rfl,MN (by omega) (by omega)];simp only[AD,Cs];by_cases h3:Aw w n=0
 rotate_left
 ·rw[AM5 h3,AMp h3];rfl
 obtain⟨hr,s1,s2,s3⟩:=h.Mb h3;rw[AMp h3,AM5 (show¬(Aw w n≠0)from fun hh=>hh h3),AMp hr,Pq (DO.1 h.lost).2.2 (by omega)];simp only[AD];have hp:=TA (n:=n) (l:=w.2.2.2.1);have:=AIr h (n:=n) (ss:=w.2.2.1.set n.toNat ([],[],0,())) (ls:=N2 n w.2.2.2.1) (by omega) Ac 0 (by omega) (AV2 (Ae (by omega)));simp_all
theorem mh{d:BN}(LH:fW w)(h64:CO d.2.1)(hd:d.2.2.2.2.1.length≤40)(hk:1≤d.1∧d.1≤16):Ux d w.2.1 w.2.2.2.2.2.1 w.2.2.2.2.2.2.2.2.2.2.1 w.1 w.2.2.1 w.2.2.2.1 w.2.2.2.2.1 w.2.2.2.2.2.2.1 w.2.2.2.2.2.2.2.1 w.2.2.2.2.2.2.2.2.1 w.2.2.2.2.2.2.2.2.2.1=some (AFi (Nx false w d)):=by
 have k:=h.nums;have k1:=k.c;have k2:=k.wr;have k3:=k.lost;have k4:=k.st;have cD:=k.jF;have jH:=k.J6;have kq:=k.jL;have k5:=k.era;have k7:=k.cP;unfold Ux Nx;rw[show(d.1,d.2.1,d.2.2.1,d.2.2.2.1,d.2.2.2.2.1,())=d from rfl];simp only[DS];by_cases c1:d.1=1
 ·rw[AMp c1,AMp c1,iz h];rfl
 rw[AM5 c1,AM5 c1];by_cases c2:d.1=2
 ·rw[AMp c2,AMp c2,j8 h hd];rfl
 rw[AM5 c2,AM5 c2];by_cases c3:d.1=3
 ·rw[AMp c3,AMp c3,fz h];rfl
 rw[AM5 c3,AM5 c3];by_cases c4:d.1=4
 ·rw[AMp c4,AMp c4,iH h];rfl
 rw[AM5 c4,AM5 c4];by_cases c5:d.1=5
 ·rw[AMp c5,AMp c5,fy h];rfl
 rw[AM5 c5,AM5 c5];by_cases c6:d.1=6
 ·rw[AMp c6,AMp c6,jG h];rfl
 rw[AM5 c6,AM5 c6];by_cases c7:d.1=7
 ·rw[AMp c7,AMp c7,iw h];rfl
 rw[AM5 c7,AM5 c7];by_cases c8:d.1=8
 ·rw[AMp c8,AMp c8,gp h];rfl
 rw[AM5 c8,AM5 c8];by_cases c9:d.1=9
 ·rw[AMp c9,AMp c9,iS h];rfl
 rw[AM5 c9,AM5 c9];by_cases c10:d.1=10
 ·rw[AMp c10,AMp c10,jA h];rfl
 rw[AM5 c10,AM5 c10];by_cases c11:d.1=11
 ·rw[AMp c11,AMp c11,jy h];rfl
 rw[AM5 c11,AM5 c11];by_cases c12:d.1=12
 ·rw[AMp c12,AMp c12,gM h];rfl
 rw[AM5 c12,AM5 c12];by_cases c13:d.1=13
 ·rw[AMp c13,AMp c13,show(w.1,w.2.1,())=AY w from rfl,show(w.2.2.2.2.1,w.2.2.2.2.2.1,())=CJ w from rfl,oZ (c:=AY w) (r:=CJ w) (by show w.1.length≤_;omega) (by show AX Bh w.2.2.2.2.1≤_;omega) k.trim h64]
  simp only[AD,pkR,Pj];unfold RL;dsimp only;rcases AMo (OT (AY w) (CJ w) d.2.1).2 with hq|hq
  ·rw[hq,GH];rfl
  ·have e:(OT (AY w) (CJ w) d.2.1).1=CJ w:=by
    unfold OT at hq⊢;rw[KC.2 h.lU]at hq⊢;grind
   rw[hq,e,Iy];rfl
 rw[AM5 c13,AM5 c13];by_cases c14:d.1=14
 ·rw[AMp c14,AMp c14,il h LH];rfl
 rw[AM5 c14,AM5 c14];by_cases c16:d.1=16
 ·rw[AMp c16,AM5 (show¬d.1=15 by omega),gH h];rfl
 rw[AM5 c16,AMp (show d.1=15 by omega),AJ (x:=(w.2.2.2.2.2.2.1.length:Int)-1) (by omega) (by omega),Az];simp only[AD,A0];unfold QE;rw[show BF d.2.1 0 ((w.2.2.2.2.2.2.1.length:Int)-1)=BF d.2.1 0 ((w.AG.length:Int)-1)from rfl];rcases AMo (BF d.2.1 0 ((w.AG.length:Int)-1))with h1|h1
 rotate_left
 ·rw[h1,Iy];rfl
 obtain⟨x1,x2,x3⟩:=h.d_ h1;rw[h1,ANk,GH,AJ (x:=d.2.1+1) (by omega) (by omega)];unfold FQ AEe;rw[AMp (by omega)];simp only[AYe,AD];rw[show(d.2.1+1).toNat=d.2.1.toNat+1 by omega,←List.eraseIdx_eq_take_drop_succ];rfl
theorem lY{d:BN}(LH:fW w)(h64:CO d.2.1):Kd w d=some (Uf (CT false w d)):=by
 unfold Kd CT;rw[show(w.1,w.2.1,w.2.2.1,w.2.2.2.1,w.2.2.2.2.1,w.2.2.2.2.2.1,w.2.2.2.2.2.2.1,w.2.2.2.2.2.2.2.1,w.2.2.2.2.2.2.2.2.1,w.2.2.2.2.2.2.2.2.2.1,w.2.2.2.2.2.2.2.2.2.2.1,())=w from rfl,show(d.1,d.2.1,d.2.2.1,d.2.2.2.1,d.2.2.2.2.1,())=d from rfl,NV LH,pY,TN LH];simp only[AD,A0,Cs];rw[GV.2 h];rcases AMo (K9 d)with hd|hd
 rotate_left
 ·rw[hd];rfl
 have hk:1≤d.1∧d.1≤16:=by
  unfold K9 at hd;exact Ak.1 (ANB _ _▸hd).1
 rw[hd,ANk,ANk,mh h LH h64 (iq hd) hk];simp only[AD,ANX,AYd,ANZ,AQ7];by_cases hc:(Nx false w d).2=0
 ·rw[AMp (show(AFi (Nx false w d)).1.1=0 from hc)]
  generalize hg:Nx false w d=q at hc⊢
  obtain⟨v,co⟩:=q;dsimp only at hc;subst hc;rfl
 ·rw[AM5 (show¬(AFi (Nx false w d)).1.1=0 from hc)]
  have:=pr hc;rw[show Nx false w d=(w,(Nx false w d).2)by grind];rfl
end
theorem WE{w:AA}{d:BN}(LH:fW w)(h64:CO d.2.1):Kd w d=some (Uf (CT false w d)):=by
 rcases AMo (Dg w)with hw|hw
 ·grind[lY,GV]
 ·unfold Kd CT
  rw[show(w.1,w.2.1,w.2.2.1,w.2.2.2.1,w.2.2.2.2.1,w.2.2.2.2.2.1,w.2.2.2.2.2.2.1,w.2.2.2.2.2.2.2.1,w.2.2.2.2.2.2.2.2.1,w.2.2.2.2.2.2.2.2.2.1,w.2.2.2.2.2.2.2.2.2.2.1,())=w from rfl,NV LH,hw];rfl
end Go.M
end
section
set_option maxRecDepth 8000
namespace Go.M
open Go.M.H (AK AQ Av Af AA CR AO Ay AR Ah BR A6 BN Al CD AX AW Aa Ai Bh A4 Ap A_ EH CP Cv C3)
def bare(se:List Af):List (Int×List UInt8):=se.map fun s=>(s.1,s.2.1)
def XH(se:List Af)(q:Yq):Yq:=(q.1.Ax se,q.2)
section
variable{w:AA} {se:List Af}
theorem AAc{a:Int}:PR (w.Ax se) a=XH se (PR w a):=by
 unfold PR;simp only[AXM (XH se)];rfl
theorem ABS{n:Int}:PA (w.Ax se) n=XH se (PA w n):=by
 unfold PA;simp only[AXM (XH se)];rfl
theorem AAz{n:Int}:O0 (w.Ax se) n=XH se (O0 w n):=by
 unfold O0;simp only[AXM (XH se)];rfl
theorem AAd:O9 (w.Ax se)=XH se (O9 w):=by
 unfold O9;simp only[AXM (XH se)];rfl
theorem ABg{a:Int}:RL (w.Ax se) a=XH se (RL w a):=by
 unfold RL;simp only[AXM (XH se)];rfl
theorem AAv{a k:Int}:NF (w.Ax se) a k=XH se (NF w a k):=by
 unfold NF;simp only[AXM (XH se)];rfl
theorem AAj{a:Int}:QE (w.Ax se) a=XH se (QE w a):=by
 unfold QE;simp only[AXM (XH se)];rfl
theorem wY{a b n:Int}:Gt (w.Ax se) a b n=XH se (Gt w a b n):=by
 unfold Gt putAt;simp only[AXM (XH se)];rfl
theorem we{n k:Int}:Kj (w.Ax se) n k=XH se (Kj w n k):=by
 unfold Kj putAt;simp only[AXM (XH se)];rfl
theorem wz{n:Int}:K0 (w.Ax se) n=XH se (K0 w n):=by
 unfold K0 putAt;simp only[AXM (XH se)];rfl
theorem ABR{n:Int}:PH (w.Ax se) n=XH se (PH w n):=by
 obtain⟨c,k,st,lo,er,tr,wr,md,rd,s0,tn,u⟩:=w;unfold PH;cases md with
 |nil=>rfl
 |cons m ms=>
  dsimp only;simp only[AXM (XH se)];rfl
theorem ABK:O_ (w.Ax se)=XH se (O_ w):=by
 obtain⟨c,k,st,lo,er,tr,wr,md,rd,s0,tn,u⟩:=w;unfold O_;cases md with
 |nil=>rfl
 |cons m ms=>
  dsimp only;simp only[AXM (XH se)];rfl
theorem yG:KZ (w.Ax se)=XH se (KZ w):=by
 obtain⟨c,k,st,lo,er,tr,wr,md,rd,s0,tn,u⟩:=w;unfold KZ;cases md with
 |nil=>rfl
 |cons m ms=>
  dsimp only;simp only[AXM (XH se)];rfl
theorem AFX{b n:Int}:VV (w.Ax se) b n=XH se (VV w b n):=by
 obtain⟨c,k,st,lo,er,tr,wr,md,rd,s0,tn,u⟩:=w;unfold VV putAt;cases md with
 |nil=>rfl
 |cons m ms=>
  dsimp only;cases ES m b with
  |none=>rfl
  |some e=>
   dsimp only;simp only[AXM (XH se)];rfl
end
theorem AD6{l m:List Af}(h:bare l=bare m)(p:Int):(l.any fun s=>s.1==p)=m.any fun s=>s.1==p:=by
 have e:∀l:List Af,(l.any fun s=>s.1==p)=(bare l).any fun s=>s.1==p:=fun l=>by
  grind[bare,List.any_map]
 simp_all
theorem xp{l m:List Af}(h:bare l=bare m):l.length=m.length:=by
 have:=congrArg List.length h;grind[bare]
theorem xu{p:Int}{d:ABp}{b:Bool}:∀{l m:List Af},bare l=bare m→bare (V2 (p,d,b,()) l)=bare (V2 (p,d,b,()) m)
 |[],[],_=>rfl
 |[],_::_,h=>by simp[bare]at h
 |_::_,[],h=>by simp[bare]at h
 |x::l,y::m,h=>by
  simp only[bare,AVt,AQ_,ARb]at h;obtain⟨⟨h1,h2⟩,h3⟩:=h;have h3':bare l=bare m:=h3;simp only[V2,h1];split
  ·grind[bare]
  ·have:=xu (p:=p) (d:=d) (b:=b) h3'
   grind[bare]
theorem ASV{w:AA}{se:List Af}(h:bare se=bare w.AU){a:Int}{d:ABp}:∃b_,bare b_=bare (doAdd w a d).1.AU∧doAdd (w.Ax se) a d=XH b_ (doAdd w a d):=by
 have e1:doAdd (w.Ax se) a d=if(!BF a 0 ((w.AG.length:Int)-1))=true then(w.Ax se,2)else
   if(!(Bn (AY w) (w.AG.getD a.toNat Ag) d).2.2||(decide (se.length=120)||se.any fun s=>s.1==Ge (w.AG.getD a.toNat Ag).1 (Bn (AY w) (w.AG.getD a.toNat Ag) d).2.1))=true then(w.Ax se,4)else
   (((w.Ax se).BZ (w.AG.set a.toNat (Bn (AY w) (w.AG.getD a.toNat Ag) d).1)).Ax (V2 (Ge (w.AG.getD a.toNat Ag).1 (Bn (AY w) (w.AG.getD a.toNat Ag) d).2.1,d,false,()) se),0):=rfl
 rw[e1,AD6 h,xp h];unfold doAdd;dsimp only;split
 ·exact⟨se,h,rfl⟩
 split
 ·exact⟨se,h,rfl⟩
 ·exact⟨_,xu h,rfl⟩
theorem AC6{all:Bool}{ep:Int}{old new:List Ay}{l:List Af}:bare (l.map (P_ all ep old new))=bare l:=by
 unfold bare;rw[AVu];rfl
theorem mB{a b:Bool}{c:Bz}{s:AQ}{l:List CR}{n:Int}:∀{ws:List AR} {x y:List Af},bare x=bare y→(Ec a c s l n ws x).1=(Ec b c s l n ws y).1∧bare (Ec a c s l n ws x).2=bare (Ec b c s l n ws y).2
 |[],x,y,h=>⟨rfl,h⟩
 |w::ws,x,y,h=>by
  simp only[Ec];split
  ·have:=mB (a:=a) (b:=b) (c:=c) (s:=s) (l:=l) (n:=n) (ws:=ws) (x:=x.map (P_ a w.1 w.2.1 (A8 c s w.1 n 1 w.2.1))) (y:=y.map (P_ b w.1 w.2.1 (A8 c s w.1 n 1 w.2.1))) (by grind[AC6])
   simp_all
  ·have:=mB (a:=a) (b:=b) (c:=c) (s:=s) (l:=l) (n:=n) (ws:=ws) h
   simp_all
theorem AK4{a b:Bool}{w:AA}{se:List Af}(h:bare se=bare w.AU){n:Int}:∃b_,bare b_=bare (MT b w n).1.AU∧MT a (w.Ax se) n=XH b_ (MT b w n):=by
 have e1:MT a (w.Ax se) n=if Aw w n≠0 then(w.Ax se,Aw w n)else if(!(Bk (storeAt w n)).2)=true then(w.Ax se,4)else
   (((((w.Ax se).Bj (w.Aq.set n.toNat (Bk (storeAt w n)).1)).BZ (Ec a (AY w) (Bk (storeAt w n)).1 w.Ao n w.AG se).1).Ax (Ec a (AY w) (Bk (storeAt w n)).1 w.Ao n w.AG se).2).Cd (w.CE.map (LP (Bk (storeAt w n)).1 w.Ao n)),0):=rfl
 have ht:=mB (a:=a) (b:=b) (c:=AY w) (s:=(Bk (storeAt w n)).1) (l:=w.Ao) (n:=n) (ws:=w.AG) h;rw[e1,ht.1];unfold MT;dsimp only;split
 ·exact⟨se,h,rfl⟩
 split
 ·exact⟨se,h,rfl⟩
 ·exact⟨_,ht.2,rfl⟩
theorem Kr{f:Yq}{se:List Af}(h:f=XH se f):f.1.AU=se:=by rw[h];rfl
section
variable{w:AA}
theorem AIS{a:Int}:(PR w a).1.AU=w.AU:=Kr (show PR w a=XH w.AU (PR w a)from AAc (w:=w) (se:=w.AU))
theorem AGf{a b n:Int}:(Gt w a b n).1.AU=w.AU:=Kr (show Gt w a b n=XH w.AU (Gt w a b n)from wY (w:=w) (se:=w.AU))
theorem AGJ{n k:Int}:(Kj w n k).1.AU=w.AU:=Kr (show Kj w n k=XH w.AU (Kj w n k)from we (w:=w) (se:=w.AU))
theorem ALx{n:Int}:(PA w n).1.AU=w.AU:=Kr (show PA w n=XH w.AU (PA w n)from ABS (w:=w) (se:=w.AU))
theorem AKA{n:Int}:(O0 w n).1.AU=w.AU:=Kr (show O0 w n=XH w.AU (O0 w n)from AAz (w:=w) (se:=w.AU))
theorem AJD:(O9 w).1.AU=w.AU:=Kr (show O9 w=XH w.AU (O9 w)from AAd (w:=w) (se:=w.AU))
theorem AJl{n:Int}:(PH w n).1.AU=w.AU:=Kr (show PH w n=XH w.AU (PH w n)from ABR (w:=w) (se:=w.AU))
theorem AKP:(O_ w).1.AU=w.AU:=Kr (show O_ w=XH w.AU (O_ w)from ABK (w:=w) (se:=w.AU))
theorem AN0{b n:Int}:(VV w b n).1.AU=w.AU:=Kr (show VV w b n=XH w.AU (VV w b n)from AFX (w:=w) (se:=w.AU))
theorem AGQ:(KZ w).1.AU=w.AU:=Kr (show KZ w=XH w.AU (KZ w)from yG (w:=w) (se:=w.AU))
theorem AKc{a:Int}:(RL w a).1.AU=w.AU:=Kr (show RL w a=XH w.AU (RL w a)from ABg (w:=w) (se:=w.AU))
theorem AKK{a k:Int}:(NF w a k).1.AU=w.AU:=Kr (show NF w a k=XH w.AU (NF w a k)from AAv (w:=w) (se:=w.AU))
theorem AMF{a:Int}:(QE w a).1.AU=w.AU:=Kr (show QE w a=XH w.AU (QE w a)from AAj (w:=w) (se:=w.AU))
theorem AFD{n:Int}:(K0 w n).1.AU=w.AU:=Kr (show K0 w n=XH w.AU (K0 w n)from wz (w:=w) (se:=w.AU))
end
theorem AIB{a b:Bool}{w:AA}{se:List Af}(h:bare se=bare w.AU){d:BN}:∃b_,bare b_=bare (Nx b w d).1.AU∧Nx a (w.Ax se) d=XH b_ (Nx b w d):=by
 unfold Nx;by_cases c1:d.1=1
 ·rw[AMp c1,AMp c1]
  exact⟨se,h.trans (congrArg bare AIS.symm),AAc⟩
 rw[AM5 c1,AM5 c1];by_cases c2:d.1=2
 ·rw[AMp c2,AMp c2]
  exact ASV h
 rw[AM5 c2,AM5 c2];by_cases c3:d.1=3
 ·rw[AMp c3,AMp c3]
  exact⟨se,h.trans (congrArg bare AGf.symm),wY⟩
 rw[AM5 c3,AM5 c3];by_cases c4:d.1=4
 ·rw[AMp c4,AMp c4]
  exact AK4 h
 rw[AM5 c4,AM5 c4];by_cases c5:d.1=5
 ·rw[AMp c5,AMp c5]
  exact⟨se,h.trans (congrArg bare AGJ.symm),we⟩
 rw[AM5 c5,AM5 c5];by_cases c6:d.1=6
 ·rw[AMp c6,AMp c6]
  exact⟨se,h.trans (congrArg bare ALx.symm),ABS⟩
 rw[AM5 c6,AM5 c6];by_cases c7:d.1=7
 ·rw[AMp c7,AMp c7]
  exact⟨se,h.trans (congrArg bare AKA.symm),AAz⟩
 rw[AM5 c7,AM5 c7];by_cases c8:d.1=8
 ·rw[AMp c8,AMp c8]
  exact⟨se,h.trans (congrArg bare AJD.symm),AAd⟩
 rw[AM5 c8,AM5 c8];by_cases c9:d.1=9
 ·rw[AMp c9,AMp c9]
  exact⟨se,h.trans (congrArg bare AJl.symm),ABR⟩
 rw[AM5 c9,AM5 c9];by_cases c10:d.1=10
 ·rw[AMp c10,AMp c10]
  exact⟨se,h.trans (congrArg bare AKP.symm),ABK⟩
 rw[AM5 c10,AM5 c10];by_cases c11:d.1=11
 ·rw[AMp c11,AMp c11]
  exact⟨se,h.trans (congrArg bare AN0.symm),AFX⟩
 rw[AM5 c11,AM5 c11];by_cases c12:d.1=12
 ·rw[AMp c12,AMp c12]
  exact⟨se,h.trans (congrArg bare AGQ.symm),yG⟩
 rw[AM5 c12,AM5 c12];by_cases c13:d.1=13
 ·rw[AMp c13,AMp c13]
  exact⟨se,h.trans (congrArg bare AKc.symm),ABg⟩
 rw[AM5 c13,AM5 c13];by_cases c14:d.1=14
 ·rw[AMp c14,AMp c14]
  exact⟨se,h.trans (congrArg bare AKK.symm),AAv⟩
 rw[AM5 c14,AM5 c14];by_cases c15:d.1=15
 ·rw[AMp c15,AMp c15]
  exact⟨se,h.trans (congrArg bare AMF.symm),AAj⟩
 rw[AM5 c15,AM5 c15];exact⟨se,h.trans (congrArg bare AFD.symm),wz⟩
theorem AFN{l m:List Af}(h:bare l=bare m){s:Af}(hs:s∈l):∃t∈m,t.1=s.1∧t.2.1=s.2.1:=by
 have h1:(s.1,s.2.1)∈bare m:=by rw[←h];exact AUR.2 ⟨s,hs,rfl⟩
 obtain⟨t,ht,e⟩:=AUR.1 h1;grind
theorem AEX{l m:List Af}(h:bare l=bare m)(ha:Uc (fun s:Af=>s.1) l):Uc (fun s:Af=>s.1) m:=by
 have e:∀l:List Af,Uc (fun s:Af=>s.1) l↔(bare l).Pairwise fun x y=>x.1<y.1:=fun l=>by
  unfold bare Uc;rw[AXI]
 simp_all
theorem Me.Ax{w:AA}{se:List Af}(hw:Me w)(h:bare se=bare w.AU):Me (w.Ax se) where
 cfg:=hw.cfg
 nw:=hw.nw
 lost:=hw.lost
 GU:=hw.GU
 Aq:=hw.Aq
 lU:=hw.lU
 sU:=hw.sU
 x_:=hw.x_
 AG:=hw.AG
 dm:=hw.dm
 CE:=hw.CE
 sv:=hw.sv
 Aj:=hw.Aj
 OS:=by
  have:=hw.OS;grind[xp]
 AU:=fun s hs=>by
  obtain⟨t,ht,e1,e2⟩:=AFN h (show s∈se from hs);have:=hw.AU t ht;simp_all
 XF:=AEX h.symm hw.XF
theorem yh{w:AA}{se:List Af}(h:bare se=bare w.AU):Dg (w.Ax se)=Dg w:=by
 rw[AYH,GV,GV];refine⟨fun hw=> ?_,fun hw=>hw.Ax h⟩;exact hw.Ax (se:=w.AU) h.symm
theorem zT{a b:Bool}{w:AA}{se:List Af}(h:bare se=bare w.AU){d:BN}:∃b_,bare b_=bare (CT b w d).1.AU∧CT a (w.Ax se) d=XH b_ (CT b w d):=by
 unfold CT;rw[yh h];by_cases hc:(!Dg w|| !K9 d)=true
 ·rw[AMp hc,AMp hc]
  exact⟨[],rfl,rfl⟩
 ·rw[AM5 hc,AM5 hc]
  exact AIB h
end Go.M
end
section
set_option maxRecDepth 8000
namespace Go.M
open Go.M.H (AK AQ Av Af AA CR AO Ay AR Ah BR A6 BN Al CD AX AW Aa Ai Bh A4 Ap A_ EH CP Cv C3)
structure Up (w v:AA):Prop where
 rd:∀k,k<2→Ge (w.Aj.getD k Gn).1 (w.Aj.getD k Gn).2.1≤Ge (v.Aj.getD k Gn).1 (v.Aj.getD k Gn).2.1∧(w.Aj.getD k Gn).2.2.1.length≤(v.Aj.getD k Gn).2.2.1.length
 er:w.Ao.length≤v.Ao.length∧ ∀i,i<w.Ao.length→(w.Ao.getD i HG).2.1=true→(v.Ao.getD i HG).2.1=true∧(v.Ao.getD i HG).2.2.1=(w.Ao.getD i HG).2.2.1
 GU:w.GU=true→v.GU=true
 se:w.AU.length≤v.AU.length
theorem Up.of{w v:AA}(h1:v.Aj=w.Aj)(h2:v.Ao=w.Ao)(h3:w.GU=true→v.GU=true)(h4:w.AU.length≤v.AU.length):Up w v:=
 ⟨fun k _=>by simp_all,by simp_all,h3,h4⟩
section
variable{w:AA} (hw:Me w)
end
end Go.M
end
section
namespace Go.M
open Go.M.H (AK AQ Av Af AA CR AO Ay AR Ah BR A6 BN)
def runM(all:Bool):AA→List BN→AA×List Int
 |w,[]=>(w,[])
 |w,d::l=>
  let q:=CT all w d
  let r:=runM all (if q.2=0 then q.1 else w) l
  (r.1,q.2::r.2)
theorem ue{a b:Bool}:∀{l:List BN} {w:AA} {se:List Af},bare se=bare w.AU→ ∃b_,bare b_=bare (runM b w l).1.AU∧(runM a (w.Ax se) l).1=(runM b w l).1.Ax b_∧(runM a (w.Ax se) l).2=(runM b w l).2
 |[],w,se,h=>⟨se,h,rfl,rfl⟩
 |d::l,w,se,h=>by
  obtain⟨se1,h1,e1⟩:=zT (a:=a) (b:=b) h (d:=d);simp only[runM];rw[e1];by_cases hc:(CT b w d).2=0
  ·rw[AMp (show(XH se1 (CT b w d)).2=0 from hc),AMp hc]
   obtain⟨se2,h2,e2,e3⟩:=ue (a:=a) (b:=b) (l:=l) h1;exact⟨se2,h2,e2,congrArg (List.cons _) e3⟩
  ·rw[AM5 (show¬(XH se1 (CT b w d)).2=0 from hc),AM5 hc]
   obtain⟨se2,h2,e2,e3⟩:=ue (a:=a) (b:=b) (l:=l) h;exact⟨se2,h2,e2,congrArg (List.cons _) e3⟩
end Go.M
end
section
namespace Go.Sf
abbrev Txt:=List UInt8
structure sE where
 at_:Int
 gI:Int
 hole:Bool
 data:Txt
structure Wd where
 data:Txt
 ack:Int→Prop
 done:Prop
structure Md where
 ep:Int
 yd:Int→Prop
 seen:Int→Option sE
 pl:Prop
 n:Int
 wrote:Int→Int→Prop
structure St where
 len:Int
 nodes:Int→Int→Prop
 cl:Int→Prop
 last:Int→Int
 trim:Int
 lost:Int→Prop
 GU:Prop
 kept:Int→Int→Option sE
 late:Int→sE→Prop
 sl:Int→Int
 wrE:Int→Prop
 wd:Int→Option Wd
 md:Option Md
 VS:Int→Option (Txt×Prop)
section
variable(H:(Int→Prop)→Prop) (ep off:Int→Int) (Pl:Int→Prop)
def AU1(len:Int)(m:Md)(p:Int):sE:=
 match m.seen p with
 |some x=>⟨p,len,x.hole,x.data⟩
 |none=>⟨p,len,true,[]⟩
def zn(s:St)(x:sE):Prop:=(∃n,s.kept n x.at_=some x)∨(∃n,s.late n x)∨(∃m,s.md=some m∧m.seen x.at_=some x)
def ART(s:St)(p n:Int):Prop:= ∃w,s.wd p=some w∧w.ack n
def AFh(s:St)(p:Int):Prop:= ∃d q,s.VS p=some (d,q)∧q
def uS(s:St)(p:Int):Prop:= ¬AFh s p∧ep p<s.len∧(s.wrE (ep p)→ ¬H (fun n=>s.nodes (ep p) n∧(¬(s.lost n∨ep p≤s.sl n)∨ART s p n)))
def Have(s:St)(p n:Int):Prop:=(∃x,s.kept n p=some x)∨s.lost n
structure zS (s:St):Prop where
 AZM:0≤s.len
 AZP:∀e,1≤e→e≤s.len→H (s.nodes e)
 Af8:∀e,s.cl e→1≤e∧e<s.len
 AZ6:∀e f,s.cl e→1≤f→f<e→s.cl f
 md1:∀m,s.md=some m→1≤m.ep∧m.ep<s.len∧ ¬s.cl m.ep∧ ∀e,1≤e→e<m.ep→s.cl e
 wr1:∀e,s.wrE e→1≤e∧e≤s.len
 wd1:∀p w,s.wd p=some w→Pl p∧s.wrE (ep p)∧(∃q,s.VS p=some (w.data,q)∧(w.done→q))∧(w.done↔H w.ack)∧(∀n,w.ack n→s.nodes (ep p) n)
 Adu:∀p d,s.VS p=some d→Pl p∧ep p≤s.len
 AdG:∀n p x,s.kept n p=some x→x.at_=p
 Ad0:∀m p x,s.md=some m→m.seen p=some x→x.at_=p∧ep p=m.ep∧x.gI<s.len
 AgU:∀x,zn s x→Pl x.at_∧0≤x.gI∧x.gI≤s.len∧ep x.at_≤s.len∧(0<x.gI→ep x.at_<x.gI)∧(x.gI=0→x.hole=false)∧(x.hole=true→x.data=[])
 AgM:∀x,zn s x→x.hole=false→ ∃q,s.VS x.at_=some (x.data,q)
 AgP:∀x,zn s x→x.gI=s.len→ ¬s.cl (ep x.at_)→ ∃m,s.md=some m∧m.pl∧m.ep=ep x.at_∧x=AU1 s.len m x.at_
 Af6:∀x y,zn s x→zn s y→x.at_=y.at_→x.gI=y.gI→x=y
structure yA (s:St) (fin:Int→sE):Prop where
 AeA: ¬H s.lost
 sure:∀p,AFh s p→s.trim<p→H (fun n=>s.nodes (ep p) n∧Have s p n)∧ ∀m,s.md=some m→m.ep=ep p→(∃x,m.seen p=some x)∨H (fun n=>s.nodes (ep p) n∧ ¬m.yd n∧Have s p n)
 yv:∀p w n,s.wd p=some w→ ¬w.done→w.ack n→ ¬s.lost n∧(s.trim<p→(∃x,s.kept n p=some x)∧ ∀m,s.md=some m→m.ep=ep p→m.yd n→ ∃x,m.seen p=some x)
 yd:∀m n,s.md=some m→m.yd n→s.lost n∨s.len-1≤s.sl n
 AeI:∀x,zn s x→x.hole=true→s.trim<x.at_→uS H ep s x.at_
 AaQ:∀m p,s.md=some m→m.pl→Pl p→ep p=m.ep→s.trim<p→m.seen p=none→uS H ep s p
 past:∀p,Pl p→s.cl (ep p)→s.last (ep p)<off p→s.trim<p→uS H ep s p
 wrote:∀m p n,s.md=some m→m.wrote p n→s.nodes m.ep n∧ ¬s.lost n∧m.pl∧(s.trim<p→s.kept n p=some (AU1 s.len m p))
 AeH:∀m p x,s.md=some m→m.pl→m.seen p=some x→off p≤m.n
 closed:∀p,Pl p→s.cl (ep p)→off p≤s.last (ep p)→s.trim<p→(fin p).at_=p∧0<(fin p).gI∧(∀x,zn s x→x.at_=p→x.gI≤(fin p).gI∧(x.gI=(fin p).gI→x=fin p))∧
  H (fun n=>s.nodes (ep p) n∧(s.lost n∨s.kept n p=some (fin p)))
end
end Go.Sf
end
section
namespace Go.Sf
section
variable{H:(Int→Prop)→Prop} (hm:∀S T:Int→Prop,(∀n,S n→T n)→H S→H T) {ep off:Int→Int} {Pl:Int→Prop} {s:St} {fin:Int→sE}
def w7(k k':Int→Option sE)(L:sE→Prop):Prop:=
 (∀p x,k p=some x→ ∃y,k' p=some y∧(y=x∨x.gI<y.gI))∧ ∀p y,k' p=some y→k p=some y∨(L y∧y.at_=p)
theorem uS.of{s s':St}{p:Int}(hn:uS H ep s p)(h1:AFh s' p→AFh s p)(h2:s.len≤s'.len)(h3:s'.wrE (ep p)→s.wrE (ep p))
  (h4:s'.wrE (ep p)→ ∀n,s'.nodes (ep p) n→(¬(s'.lost n∨ep p≤s'.sl n)∨ART s' p n)→s.nodes (ep p) n∧(¬(s.lost n∨ep p≤s.sl n)∨ART s p n))
  (hm:∀S T:Int→Prop,(∀n,S n→T n)→H S→H T):uS H ep s' p:=
 ⟨fun h=>hn.1 (h1 h),Int.lt_of_lt_of_le hn.2.1 h2,fun hw h=>hn.2.2 (h3 hw) (hm _ _ (fun n hq=>h4 hw n hq.1 hq.2) h)⟩
end
end Go.Sf
end
section
namespace Go.Sf
section
variable{H:(Int→Prop)→Prop} (hm:∀S T:Int→Prop,(∀n,S n→T n)→H S→H T) (h0: ¬H (fun _=>False)) {ep off:Int→Int} {Pl:Int→Prop} {s:St} {fin:Int→sE}
def St.add(s:St)(p:Int)(d:Txt):St:=
 { s with wd:=fun q=>if q=p then some ⟨d,fun _=>False,False⟩else s.wd q,VS:=fun q=>if q=p then some (d,False)else s.VS q }
end
end Go.Sf
end
section
namespace Go.Sf
section
variable{H:(Int→Prop)→Prop} (hm:∀S T:Int→Prop,(∀n,S n→T n)→H S→H T) {ep off:Int→Int} {Pl:Int→Prop} {s:St} {fin:Int→sE}
def St.AaQ(s:St)(m:Md)(L:Int):St:={ s with md:=some { m with pl:=True,n:=L } }
def St.drop(s:St)(jF:Int→Prop)(wd':Int→Option Wd):St:={ s with wrE:=jF,wd:=wd' }
end
end Go.Sf
end
section
namespace Go.Sf
structure Rd where
 e:Int
 o:Int
 told:Int→Option Txt
section
variable{H:(Int→Prop)→Prop} (hm:∀S T:Int→Prop,(∀n,S n→T n)→H S→H T) {ep off:Int→Int} {Pl:Int→Prop} {s:St} {fin:Int→sE}
def AES(ep off:Int→Int)(r:Rd)(p:Int):Prop:=ep p<r.e∨(ep p=r.e∧off p<r.o)
structure vS (ep off:Int→Int) (Pl:Int→Prop) (s:St) (fin:Int→sE) (r:Rd):Prop where
 e1:1≤r.e
 left:∀p,Pl p→ep p<r.e→s.trim<p→s.cl (ep p)
 data:∀p,Pl p→AES ep off r p→s.trim<p→
  (s.cl (ep p)→off p≤s.last (ep p)→r.told p=if(fin p).hole then none else some (fin p).data)∧
  (s.cl (ep p)→s.last (ep p)<off p→r.told p=none)∧
  (¬s.cl (ep p)→ ∃d q,s.VS p=some (d,q)∧q∧r.told p=some d)
 told:∀p d,r.told p=some d→AES ep off r p
theorem vS.of{s':St}{r:Rd}(h:vS ep off Pl s fin r)(h1:s'.cl=s.cl)(h2:s'.last=s.last)(h3:s.trim≤s'.trim)
  (h4:∀p d q,s.VS p=some (d,q)→q→ ∃q',s'.VS p=some (d,q')∧q'):vS ep off Pl s' fin r:=by
 refine⟨h.e1,fun p a b c=> ?_,fun p a b c=> ?_,h.told⟩
 ·rw[h1];exact h.left p a b (by omega)
 ·obtain⟨b1,b2,b3⟩:=h.data p a b (by omega)
  grind
end
end Go.Sf
end
section
namespace Go.M
open Go.M.H (AK AQ Av Af AA CR AO Ay AR Ah BR A6 BN)
open Go.Sf (sE Wd Md St Rd Txt w7 zS yA vS)
def Pl(p:Int):Prop:=Bf p=true
def AVb(e:AK):sE:=⟨e.1,e.2.1,e.2.2.1,e.2.2.2.1⟩
def kS(l:List AK)(p:Int):Option sE:=(G_ p l).map AVb
def AVf(l:List AK)(x:sE):Prop:= ∃e∈l,AVb e=x
def wdS(x:Ay):Wd:=⟨x.1,fun n=>n∈x.2.1,x.2.2.1=true⟩
def AOo(ws:List AR)(e:Int):Option AR:=ws.find? fun x=>x.1==e
def APr(ws:List AR)(p:Int):Option Ay:=
 if Bf p then(AOo ws (An p)).bind fun x=>x.2.1[(Cp p-1).toNat]? else none
def mdS(m:Av):Md:=
 ⟨m.2.1,fun n=>n∈m.2.2.1,kS m.2.2.2.1,m.2.2.2.2.1=true,m.2.2.2.2.2.1.length,fun p n=>Pl p∧An p=m.2.1∧ ∃l,m.2.2.2.2.2.1[(Cp p-1).toNat]? =some l∧n∈l⟩
def K6(l:List Af)(p:Int):Option Af:=l.find? fun s=>s.1==p
def seS(s:Af):Txt×Prop:=(s.2.1,s.2.2.1=true)
def uu(w:AA)(n:Int):AQ:=if 0≤n∧n<(w.Aq.length:Int)then storeAt w n else Dk
def AMf(l:List CR)(e:Int):CR:=l.getD (e-1).toNat HG
def hI(w:AA):St where
 len:=w.Ao.length
 nodes e n:=n∈A5 w.Ao e
 cl e:=(1≤e∧e≤(w.Ao.length:Int))∧(AMf w.Ao e).2.1=true
 last e:=if 1≤e then(AMf w.Ao e).2.2.1 else 0
 trim:=w.trim
 lost n:=n∈w.lost
 GU:=w.GU=true
 kept n:=kS (uu w n).1
 late n:=AVf (uu w n).2.1
 sl n:=(uu w n).2.2.1
 wrE e:= ∃x∈w.AG,x.1=e
 wd p:=(APr w.AG p).map wdS
 md:=w.CE.head?.map mdS
 VS p:=(K6 w.AU p).map seS
def tlS(l:List BR)(p:Int):Option Txt:=(l.find? fun e=>e.1==1&&e.2.1==p).map fun e=>e.2.2.1
def rdS(r:Ah):Rd:=⟨r.1,r.2.1,tlS r.2.2.1⟩
structure Safe (w:AA):Prop where
 ok:Me w
 a:zS (AEn (AY w)) An Pl (hI w)
 b:w.GU=false→ ∃fin,yA (AEn (AY w)) An Cp Pl (hI w) fin∧ ∀r∈w.Aj,vS An Cp Pl (hI w) fin (rdS r)
def Grow(w v:AA):Prop:= ∀p d q,(hI w).VS p=some (d,q)→ ∃q',(hI v).VS p=some (d,q')∧(q→q')
theorem Safe.step{w v:AA}(h:Safe w)(Ei:Me v)(hc:AY v=AY w)(hr:v.Aj=w.Aj)(ht:v.GU=false→w.GU=false)
  (ha:zS (AEn (AY w)) An Pl (hI v))
  (hb:w.GU=false→v.GU=false→ ∀fin,yA (AEn (AY w)) An Cp Pl (hI w) fin→yA (AEn (AY w)) An Cp Pl (hI v) fin)
  (h1:(hI v).cl=(hI w).cl) (h2:(hI v).last=(hI w).last) (h3:(hI w).trim≤(hI v).trim)
  (h4:Grow w v):Safe v∧Grow w v:=by
 refine⟨⟨Ei,by simp_all,fun hv=> ?_⟩,h4⟩;obtain⟨fin,b1,b2⟩:=h.b (ht hv);rw[hc,hr];exact⟨fin,hb (ht hv) hv fin b1,fun r hr=>(b2 r hr).of h1 h2 h3 fun p d q a b=>(h4 p d q a).imp fun _ k=>⟨k.1,k.2 b⟩⟩
section
variable{w:AA} (h:Safe w)
include h
end
end Go.M
end
section
namespace Go.M
open Go.M.H (AK AQ Av Af AA CR AO Ay AR Ah BR A6 BN)
open Go.Sf (sE Wd Md St Rd Txt w7 zS yA vS)
theorem rI{x:AR}:∀{ws:List AR},Uc (fun x:AR=>x.1) ws→x∈ws→AOo ws x.1=some x
 |[],_,h=>by simp at h
 |y::ws,ha,h=>by
  simp only[Uc,ARx]at ha;unfold AOo;rw[AVh];rcases AQQ.1 h with rfl|h
  ·rw[AYb]
  ·rw[ARG.2 (fun e=>by grind)]
   exact rI ha.2 h
theorem fH{l:List Af}{p:Int}{s:Af}(h:K6 l p=some s):s∈l∧s.1=p:=
 ⟨AWy h,by simpa using List.find?_some h⟩
theorem nJ{s:Af}{q:Int}:∀{l:List Af},(∀x∈l,x.1≠s.1)→K6 (V2 s l) q=if q=s.1 then some s else K6 l q
 |[],_=>by
  unfold K6 V2;grind
 |x::l,h=>by
  have ih:=nJ (q:=q) (l:=l) fun y hy=>h y (by simp[hy])
  have hx:=h x (by simp);unfold K6 at*;rw[V2];grind
section
variable{w:AA} (h:Safe w)
include h
end
end Go.M
end
section
namespace Go.Sf
section
variable{H:(Int→Prop)→Prop} (hm:∀S T:Int→Prop,(∀n,S n→T n)→H S→H T) {ep off:Int→Int} {Pl:Int→Prop} {fin:Int→sE}
end
end Go.Sf
namespace Go.M
open Go.M.H (AK AQ Av Af AA CR AO Ay AR Ah BR A6 BN)
open Go.Sf (sE Wd Md St Rd Txt w7 zS yA vS)
theorem gf{c:Bz}{s:AQ}{ep n:Int}:∀{l:List Ay} {o:Int} {i:Nat},(A8 c s ep n o l)[i]? =(l[i]?).map fun x=>if !x.2.2.1&&KA s (Ge ep (o+i))then Fc c n x else x
 |[],o,i=>by rfl
 |x::l,o,0=>by simp[A8]
 |x::l,o,i+1=>by
  simp only[A8,AYO];rw[gf (l:=l),show o+1+(i:Int)=o+((i+1:Nat):Int)by omega]
theorem AAV{g:Af→Af}(hg:∀t,(g t).1=t.1){l:List Af}{q:Int}:K6 (l.map g) q=(K6 l q).map g:=by
 unfold K6;rw[List.find?_map];have:((fun s:Af=>s.1==q)∘g)=fun s=>s.1==q:=by grind
 rw[this]
theorem yr{l:List Ay}{o:Int}(h:1≤o):LA l o=true↔ ∃x,l[(o-1).toNat]? =some x∧x.2.2.1=true:=by
 unfold LA;by_cases hl:o≤(l.length:Int)
 ·rw[Ak.2 ⟨h,hl⟩,ANr,List.getD,AMt (by omega)]
  simp
 ·rw[AUQ.2 (fun hh:BF o 1 (l.length:Int)=true=>hl (Ak.1 hh).2),AUC,AVj (by omega)]
  simp
section
variable{w:AA} (h:Safe w)
include h
end
end Go.M
end
section
namespace Go.M
open Go.M.H (AK AQ Av Af AA CR AO Ay AR Ah BR A6 BN)
open Go.Sf (sE Wd Md St Rd Txt w7 zS yA vS)
def vp(e:BR):Bool:=BF e.1 1 3
structure rH (ss:List Af) (r:Ah):Prop where
 sA:(r.2.2.1.filter vp).Pairwise fun a b=>a.2.1<b.2.1
 below:∀e∈r.2.2.1,vp e=true→Pl e.2.1∧e.2.1<Ge r.1 r.2.1
 VS:∀e∈r.2.2.1,e.1=1→ ∃s∈ss,s.1=e.2.1∧s.2.1=e.2.2.1
def AHf(r:Ah):Prop:= ∀e∈r.2.2.1,e.1≠3
structure Reached (w:AA):Prop where
 safe:Safe w
 out:∀r∈w.Aj,rH w.AU r
 whole:w.GU=false→ ∀r∈w.Aj,AHf r
theorem cN{s:Af}:∀{l:List Af},Uc (fun s:Af=>s.1) l→s∈l→K6 l s.1=some s
 |[],_,h=>by simp at h
 |y::l,ha,h=>by
  simp only[Uc,ARx]at ha;unfold K6;rw[AVh];rcases AQQ.1 h with rfl|h
  ·rw[AYb]
  ·rw[ARG.2 (fun e=>by grind)]
   exact cN ha.2 h
theorem Grow.mem{w v:AA}(h:Grow w v)(hw:Me w){s:Af}(hs:s∈w.AU):∃t∈v.AU,t.1=s.1∧t.2.1=s.2.1∧(s.2.2.1=true→t.2.2.1=true):=by
 obtain⟨q',e,h2⟩:=h s.1 s.2.1 (s.2.2.1=true) (by
  show(K6 w.AU s.1).map seS=_
  rw[cN hw.XF hs];rfl)
 replace e:(K6 v.AU s.1).map seS=some (s.2.1,q'):=e
 rw[AM9]at e;obtain⟨t,e1,e2⟩:=e;grind[fH,seS,Prod.mk.injEq]
theorem rH.grow{w v:AA}(h:Grow w v)(hw:Me w){r:Ah}(k:rH w.AU r):rH v.AU r:=
 ⟨k.sA,k.below,fun e he h1=>by
  obtain⟨s,s1,s2,s3⟩:=k.VS e he h1;obtain⟨t,t1,t2,t3,_⟩:=h.mem hw s1;grind⟩
theorem Reached.of{w v:AA}(h:Reached w)(k:Safe v∧Grow w v)(hr:v.Aj=w.Aj)(ht:v.GU=false→w.GU=false):Reached v:=
 ⟨k.1,fun r hm=>(h.out r (by simp_all)).grow k.2 h.safe.ok,fun hv r hm=>h.whole (ht hv) r (by simp_all)⟩
theorem rH.app{ss:List Af}{r:Ah}(k:rH ss r){e o:Int}{ev:BR}(h1:Ge r.1 r.2.1≤Ge e o)(h2:vp ev=true→Ge r.1 r.2.1≤ev.2.1∧Pl ev.2.1∧ev.2.1<Ge e o)(h3:ev.1=1→ ∃s∈ss,s.1=ev.2.1∧s.2.1=ev.2.2.1):
  rH ss (e,o,r.2.2.1++[ev],()):=by
 refine⟨?_,fun x hx hp=> ?_,fun x hx h1=> ?_⟩
 ·show((r.2.2.1++[ev]).filter vp).Pairwise _
  rw[List.filter_append,List.pairwise_append];refine⟨k.sA,?_,fun a ha b hb=> ?_⟩
  ·grind
  ·obtain⟨b1,b2⟩:=AUN.1 hb
   rw[AT3.1 b1]at b2⊢;obtain⟨a1,a2⟩:=AUN.1 ha;have:=(k.below a a1 a2).2;grind
 ·show Pl x.2.1∧x.2.1<Ge e o
  rcases AOt.1 hx with hx|hx
  ·have:=k.below x hx hp
   grind
  simp_all
 ·rcases AOt.1 hx with hx|hx
  ·exact k.VS x hx h1
  simp_all
section
variable{w:AA} (h:Reached w)
include h
end
end Go.M
end
section
namespace Go.M
open Go.M.H (AK AQ Av Af AA CR AO Ay AR Ah BR A6 BN)
open Go.Sf (sE Wd Md St Rd Txt w7 zS yA vS)
section
variable{w:AA} (h:Reached w)
include h
theorem Reached.sure{s:Af}(hs:s∈w.AU)(hq:s.2.2.1=true):Pl s.1∧Sf.AFh (hI w) s.1:=by
 refine⟨(h.safe.ok.AU s hs).1,s.2.1,s.2.2.1=true,?_,hq⟩
 show(K6 w.AU s.1).map seS=_
 rw[cN h.safe.ok.XF hs];rfl
end
section
variable{w:AA} (h:Reached w)
include h
end
end Go.M
end
section
namespace Go.M
open Go.M.H (AK AQ Av Af AA CR AO Ay AR Ah BR A6 BN)
def I0(w:AA)(k:Nat)(o:Int):Ay:=(w.AG.getD k Ag).2.1.getD (o-1).toNat LR
structure dq (c:Bz) (k:Nat) (ep o p:Int) (d:ABp) (N:Nat) (w:AA):Prop where
 ok:Me w
 cfg:AY w=c
 wr:k<w.AG.length∧(w.AG.getD k Ag).1=ep∧(w.AG.getD k Ag).2.1.length=o
 o1:1≤o∧o≤60
 pl:Pl p∧An p=ep∧Cp p=o
 VS:∃s,K6 w.AU p=some s∧s.2.1=d∧(s.2.2.1=true↔(I0 w k o).2.2.1=true)
 yv:∀n∈(I0 w k o).2.1,n∉w.lost∧ ∃e,G_ p (storeAt w n).1=some e
 ns:w.AU.length=N
theorem nK{w:AA}{n m:Int}{s:AQ}(hn:0≤n∧n<(w.Aq.length:Int))(hm:0≤m):storeAt (w.Bj (w.Aq.set n.toNat s)) m=if m=n then s else storeAt w m:=by
 unfold storeAt
 show(w.Aq.set n.toNat s).getD m.toNat Dk=_
 rw[fK (by omega)];by_cases e:m=n
 ·rw[AMp (by omega),AMp e]
 ·rw[AM5 (by omega),AM5 e]
theorem aW{all:Bool}{c:Bz}{s:AQ}{l:List CR}{n:Int}:∀{ws:List AR} {ss:List Af},
  (Ec all c s l n ws ss).2=ss.map fun t=>(t.1,t.2.1,t.2.2.1||(ws.any fun x=>J_ s l n x&&(An t.1==x.1&&(LA (A8 c s x.1 n 1 x.2.1) (Cp t.1)&&(all|| !LA x.2.1 (Cp t.1))))),())
 |[],ss=>by
  simp only[Ec,List.any_nil,AYd];exact(List.map_id' ss).symm
 |x::ws,ss=>by
  simp only[Ec];split
  ·rename_i ht
   simp only;rw[aW,AVu];refine AUL fun t _=> ?_
   simp only[Function.comp,P_,List.any_cons,ht,ANr,Bool.or_assoc]
  ·rename_i ht
   simp only;rw[aW];refine AUL fun t _=> ?_
   have ht':J_ s l n x=false:=by simpa using ht
   simp only[List.any_cons,ht',AUC,AT5]
section
variable{c:Bz} {k:Nat} {ep o p:Int} {d:ABp} {N:Nat} {w:AA} (h:dq c k ep o p d N w)
include h
theorem dq.word:(w.AG.getD k Ag).2.1[(o-1).toNat]? =some (I0 w k o):=by
 have:=h.o1;have:=h.wr.2.2;unfold I0
 generalize (w.AG.getD k Ag).2.1=l at*
 have hi:(o-1).toNat<l.length:=by omega
 rw[AMt hi,NU hi]
theorem dq.AGV:A9 (AY w) (I0 w k o).2.1=true∧(I0 w k o).2.2.1=holds (AY w) (I0 w k o).2.1:=
 ((h.ok.AG _ (Ba h.wr.1)).1.words _ (APy h.word)).2
theorem AAY{a b n:Int}(e:(Gt w a b n).2=0):dq c k ep o p d N (Gt w a b n).1:=by
 have Ei:=xF h.ok e;have hz:(Gt w a b n).1=w∨ ∃en,Aw w n=0∧(GM (storeAt w n) en).2=true∧(Gt w a b n).1=w.Bj (w.Aq.set n.toNat (GM (storeAt w n) en).1):=by
  unfold Gt putAt;dsimp only
  repeat' split
  all_goals first
   |exact .inl rfl
   |exact .inr ⟨_,by rename_i h1 _ _;simpa using h1,by assumption,rfl⟩
   |exact .inr ⟨_,by simp_all,by simp_all,rfl⟩
 rcases hz with hz|⟨en,n0,q,hz⟩
 ·rw[hz];exact h
 rw[hz]at Ei⊢;obtain⟨n1,n2,n3⟩:=LK n0;obtain⟨_,s2,_,_⟩:=Zg q;refine⟨Ei,h.cfg,h.wr,h.o1,h.pl,h.VS,fun m hm=>⟨(h.yv m hm).1,?_⟩,h.ns⟩;have hm0:=(DO.1 h.AGV.1).2.1 m hm;rw[nK ⟨n1,n2⟩ hm0.1];by_cases em:m=n
 ·rw[AMp em,s2,←em];exact(h.yv m hm).2
 ·rw[AM5 em];exact(h.yv m hm).2
theorem AC4{all:Bool}{n:Int}(e:(MT all w n).2=0):dq c k ep o p d N (MT all w n).1:=by
 have Ei:=ABF h.ok e;unfold MT at e Ei⊢;by_cases hn:Aw w n=0
 rotate_left
 ·rw[AMp hn]at e;exact absurd e hn
 rw[AM5 (by simpa using hn)]at e Ei⊢;by_cases hq:(Bk (storeAt w n)).2=true
 rotate_left
 ·have hq':(Bk (storeAt w n)).2=false:=by simpa using hq
  simp only[hq',ATb,AT8]at e;cases e
 simp only[hq,ANX,ANZ,AQ7]at Ei⊢;obtain⟨s1,s2,s3⟩:=K8 (k:=1048575) hq;obtain⟨n1,n2,n3⟩:=LK hn;have tD:=(h.ok.node hn).1;have hsy:(Bk (storeAt w n)).1=(FX (storeAt w n) 1048575).1:=rfl;rw[←hsy]at s2 s3
 generalize (Bk (storeAt w n)).1=S at*
 obtain⟨t1,_⟩:=fY h.ok (all:=all) (s:=S) tD (ws:=w.AG) (ss:=w.AU);rw[t1,aW]at Ei⊢;have hkl:k<w.AG.length:=h.wr.1;have hx:=Ba (d:=Ag) hkl;have hwg:(w.AG.map fun x=>if J_ S w.Ao n x then(x.1,A8 (AY w) S x.1 n 1 x.2.1,())else x).getD k Ag=if J_ S w.Ao n (w.AG.getD k Ag)then((w.AG.getD k Ag).1,A8 (AY w) S (w.AG.getD k Ag).1 n 1 (w.AG.getD k Ag).2.1,())else w.AG.getD k Ag:=by
  rw[NU (by simpa using hkl),List.getElem_map,NU hkl]
 have AFC:=h.word;obtain⟨a1,a2⟩:=h.AGV;obtain⟨w1,w2,w3⟩:=h.wr;obtain⟨o1,o2⟩:=h.o1;obtain⟨p1,p2,p3⟩:=h.pl;have wo:Ge ep (1+(((o-1).toNat:Nat):Int))=p:=by
  rw[Int.toNat_of_nonneg (by omega),show 1+(o-1)=o by omega,←p2,←p3];exact(EV p1).2.2
 have ATq:=gf (c:=AY w) (s:=S) (ep:=(w.AG.getD k Ag).1) (n:=n) (l:=(w.AG.getD k Ag).2.1) (o:=1) (i:=(o-1).toNat);rw[AFC,w2,wo]at ATq;simp only[AYe]at ATq;have ALn:∃y,(A8 (AY w) S ep n 1 (w.AG.getD k Ag).2.1)[(o-1).toNat]? =some y∧((I0 w k o).2.2.1=true→y=I0 w k o)∧(y=I0 w k o∨(y=Fc (AY w) n (I0 w k o)∧KA S p=true)):=by
  refine⟨_,ATq,fun hd=> ?_,?_⟩
  ·rw[hd];rfl
  ·by_cases hc:(!(I0 w k o).2.2.1&&KA S p)=true
   ·rw[AMp hc]
    simp only[ANB]at hc;exact .inr ⟨rfl,hc.2⟩
   ·rw[AM5 hc];exact .inl rfl
 obtain⟨y,y1,y2,y3⟩:=ALn;have hlw:=(XT (c:=AY w) (s:=S) (ep:=ep) tD (l:=(w.AG.getD k Ag).2.1) (o:=1) ((h.ok.AG _ hx).1.words)).2.2;have hSt:∀m,0≤m→storeAt (w.Bj (w.Aq.set n.toNat S)) m=if m=n then S else storeAt w m:=fun m hm=>nK ⟨n1,n2⟩ hm
 have up:∀m,0≤m→(∃e,G_ p (storeAt w m).1=some e)→ ∃e,G_ p (storeAt (w.Bj (w.Aq.set n.toNat S)) m).1=some e:=fun m hm ⟨e,he⟩=>by
  rw[hSt m hm];by_cases em:m=n
  ·rw[AMp em,s3]
   rw[em]at he;obtain⟨z,hz,_⟩:=rD (l:=LW 1048575 0 (storeAt w n).2.1) s1.sA he;exact⟨z,hz⟩
  ·rw[AM5 em];exact⟨e,he⟩
 generalize hv:(((w.Bj (w.Aq.set n.toNat S)).BZ (w.AG.map fun x=>if J_ S w.Ao n x then(x.1,A8 (AY w) S x.1 n 1 x.2.1,())else x)).Ax (w.AU.map fun t=>(t.1,t.2.1,t.2.2.1||(w.AG.any fun x=>J_ S w.Ao n x&&(An t.1==x.1&&(LA (A8 (AY w) S x.1 n 1 x.2.1) (Cp t.1)&&(all|| !LA x.2.1 (Cp t.1))))),()))).Cd (w.CE.map (LP S w.Ao n))=v at Ei⊢
 have hvw:v.AG=w.AG.map fun x=>if J_ S w.Ao n x then(x.1,A8 (AY w) S x.1 n 1 x.2.1,())else x:=by rw[←hv]
 have Vu:v.AU=w.AU.map fun t=>(t.1,t.2.1,t.2.2.1||(w.AG.any fun x=>J_ S w.Ao n x&&(An t.1==x.1&&(LA (A8 (AY w) S x.1 n 1 x.2.1) (Cp t.1)&&(all|| !LA x.2.1 (Cp t.1))))),()):=by rw[←hv]
 have Ab2:∀m,storeAt v m=storeAt (w.Bj (w.Aq.set n.toNat S)) m:=fun m=>by rw[←hv];rfl
 have hvl:v.lost=w.lost:=by rw[←hv]
 have hvc:AY v=AY w:=by rw[←hv];rfl
 have hwx:=rI h.ok.dm hx;have AAp:∀(l:List Ay) (z:Ay),l[(o-1).toNat]? =some z→(LA l o=z.2.2.1):=fun l z hz=>by
  have:=yr (l:=l) o1;cases hz2:z.2.2.1 with
  |true=>exact this.2 ⟨z,hz,hz2⟩
  |false=>
   rw[AUQ];intro hd;obtain⟨u,u1,u2⟩:=this.1 hd;rw[hz]at u1;cases u1;rw[hz2]at u2;cases u2
 have AU9:∀t:Af,t.1=p→(w.AG.any fun x=>J_ S w.Ao n x&&(An t.1==x.1&&(LA (A8 (AY w) S x.1 n 1 x.2.1) (Cp t.1)&&(all|| !LA x.2.1 (Cp t.1)))))=(J_ S w.Ao n (w.AG.getD k Ag)&&(y.2.2.1&&(all|| !(I0 w k o).2.2.1))):=fun(t:Af) ht=>by
  rw[ht,p2,p3,AYH,List.any_eq_true];constructor
  ·rintro⟨x,hxm,hh⟩
   simp only[ANB,AUP]at hh;have hxx:=rI h.ok.dm hxm;rw[←hh.2.1,←w2,hwx]at hxx;cases hxx;rw[w2,AAp _ y y1,AAp _ _ AFC]at hh;rw[hh.1,hh.2.2.1,ANr,ANr];exact hh.2.2.2
  ·intro hh
   simp only[ANB]at hh;refine⟨_,hx,?_⟩;rw[hh.1,w2,AAp _ y y1,AAp _ _ AFC,hh.2.1,hh.2.2];simp
 obtain⟨s,q1,q2,q3⟩:=h.VS;have AcX:K6 v.AU p=some (s.1,s.2.1,s.2.2.1||(J_ S w.Ao n (w.AG.getD k Ag)&&(y.2.2.1&&(all|| !(I0 w k o).2.2.1))),()):=by
  rw[Vu,AAV (g:=fun t:Af=>(t.1,t.2.1,t.2.2.1||(w.AG.any fun x=>J_ S w.Ao n x&&(An t.1==x.1&&(LA (A8 (AY w) S x.1 n 1 x.2.1) (Cp t.1)&&(all|| !LA x.2.1 (Cp t.1))))),())) (fun _=>rfl),q1,AYe,AU9 s (fH q1).2]
 have hwv:I0 v k o=if J_ S w.Ao n (w.AG.getD k Ag)then y else I0 w k o:=by
  unfold I0;rw[hvw,hwg];split
  ·rw[w2]
   show(A8 (AY w) S ep n 1 (w.AG.getD k Ag).2.1).getD (o-1).toNat LR=y
   rw[List.getD,y1];rfl
  ·rfl
 refine⟨Ei,hvc.trans h.cfg,⟨by rw[hvw];simpa using hkl,?_,?_⟩,h.o1,h.pl,⟨_,AcX,q2,?_⟩,fun m hm=> ?_,by rw[Vu,AWH];exact h.ns⟩
 ·rw[hvw,hwg];split<;>exact w2
 ·rw[hvw,hwg];split
  ·rw[w2];show((A8 (AY w) S ep n 1 (w.AG.getD k Ag).2.1).length:Int)=o;rw[hlw];exact w3
  ·exact w3
 ·rw[hwv]
  show(s.2.2.1||_)=true↔_
  cases ht:J_ S w.Ao n (w.AG.getD k Ag)with
  |false=>simpa using q3
  |true=>
   simp only[AT8,ANr];cases hd:(I0 w k o).2.2.1 with
   |true=>rw[y2 hd,hd,q3.2 hd];simp
   |false=>
    have:s.2.2.1=false:=by
     cases hs:s.2.2.1 with
     |false=>rfl
     |true=>rw[q3.1 hs]at hd;cases hd
    rw[this];simp
 ·rw[hvl,Ab2]
  rw[hwv]at hm;have old:m∈(I0 w k o).2.1→m∉w.lost∧ ∃e,G_ p (storeAt (w.Bj (w.Aq.set n.toNat S)) m).1=some e:=fun hm=>by
   have hm0:=(DO.1 a1).2.1 m hm;exact⟨(h.yv m hm).1,up m hm0.1 (h.yv m hm).2⟩
  split at hm
  ·rcases y3 with rfl|⟨rfl,hnw⟩
   ·exact old hm
   ·rcases pk.1 hm with rfl|hm
    ·refine⟨n3,?_⟩
     rw[hSt _ n1,AMp rfl];unfold KA at hnw;cases hg:G_ p S.1 with
     |none=>rw[hg]at hnw;cases hnw
     |some z=>exact⟨z,rfl⟩
    ·exact old hm
  ·exact old hm
end
end Go.M
end
section
namespace Go.M
open Go.M.H (AK AQ Av Af AA CR AO Ay AR Ah BR A6 BN)
def Xl(a o:Int)(ns:AAG):List BN:=ns.flatMap fun n=>[(3,a,o,n,[],()),(4,n,0,0,[],())]
def Oa(w:AA)(p:Int):Bool:=match K6 w.AU p with|some s=>s.2.2.1|none=>false
def oL(all:Bool)(v:AA)(a:Int):AA:=
 (runM all v (Xl a (v.AG.getD a.toNat Ag).2.1.length (less (A5 v.Ao (v.AG.getD a.toNat Ag).1) v.lost))).1
def Ti(v:AA)(a:Int):Int:=Ge (v.AG.getD a.toNat Ag).1 (v.AG.getD a.toNat Ag).2.1.length
def Pt(w:AA)(p:Int):AAG:=((List.range w.Aq.length).map fun i:Nat=>(i:Int)).filter fun n=>(G_ p (storeAt w n).1).isSome
section
variable{c:Bz} {k:Nat} {ep o p:Int} {d:ABp} {N:Nat}
theorem ABZ{w:AA}(h:dq c k ep o p d N w){all:Bool}{e:BN}(he:e.1=3∨e.1=4)(h0:(CT all w e).2=0):dq c k ep o p d N (CT all w e).1:=by
 unfold CT at h0⊢;by_cases hc:(!Dg w|| !K9 e)=true
 ·rw[AMp hc]at h0;cases h0
 rw[AM5 hc]at h0⊢;unfold Nx at h0⊢;rcases he with he|he
 ·rw[AM5 (by omega),AM5 (by omega),AMp he]at h0⊢
  exact AAY h h0
 ·rw[AM5 (by omega),AM5 (by omega),AM5 (by omega),AMp he]at h0⊢
  exact AC4 h h0
theorem xP{all:Bool}:∀{l:List BN} {w:AA},(∀e∈l,e.1=3∨e.1=4)→dq c k ep o p d N w→dq c k ep o p d N (runM all w l).1
 |[],w,_,h=>h
 |e::l,w,hl,h=>by
  simp only[runM];refine xP (fun x hx=>hl x (by simp[hx])) ?_
  split
  ·rename_i h0
   exact ABZ h (hl e (by simp)) h0
  ·exact h
end
theorem nj{a o:Int}{ns:AAG}:∀e∈Xl a o ns,e.1=3∨e.1=4:=fun e he=>by
 unfold Xl at he;rw[List.mem_flatMap]at he;obtain⟨n,_,hn⟩:=he;simp only[AQQ,List.not_mem_nil,or_false]at hn;rcases hn with rfl|rfl
 ·exact .inl rfl
 ·exact .inr rfl
theorem kL{w:AA}(h:Me w){a:Int}{d:ABp}(hd:d.length≤40)(e:(doAdd w a d).2=0):
  dq (AY w) a.toNat ((doAdd w a d).1.AG.getD a.toNat Ag).1 ((doAdd w a d).1.AG.getD a.toNat Ag).2.1.length (Ti (doAdd w a d).1 a) d (w.AU.length+1) (doAdd w a d).1:=by
 have Ei:=AFb h hd e;unfold Ti;unfold doAdd at e Ei⊢;by_cases ha:BF a 0 ((w.AG.length:Int)-1)=true
 rotate_left
 ·have ha':BF a 0 ((w.AG.length:Int)-1)=false:=by simpa using ha
  rw[ha']at e;cases e
 rw[ha]at e Ei⊢;simp only[ANX,ANZ,AQ7]at e Ei⊢;by_cases hq:(!(Bn (AY w) (w.AG.getD a.toNat Ag) d).2.2||(decide (w.AU.length=120)||w.AU.any fun s=>s.1==Ge (w.AG.getD a.toNat Ag).1 (Bn (AY w) (w.AG.getD a.toNat Ag) d).2.1))=true
 ·rw[AMp hq]at e;cases e
 rw[AM5 hq]at Ei⊢;simp only[AUE,not_or,AQS,AQk,AUu,AYT,AUP]at hq;obtain⟨hq,h120,hno⟩:=hq;rw[Ak]at ha;have hi:a.toNat<w.AG.length:=by omega
 have hxm:=Ba (d:=Ag) hi;obtain⟨_,r1,r2,r3⟩:=W_ hq;rw[r2]at r1;rw[r2,r3]at Ei⊢;rw[r3]at hno;have hxw:=h.AG _ hxm
 generalize w.AG.getD a.toNat Ag=x at*
 have hnn:=r1.n;simp only[AQU,AOw,ARW]at hnn;have hg:(w.AG.set a.toNat (x.1,x.2.1++[(d,[],false,())],())).getD a.toNat Ag=(x.1,x.2.1++[(d,[],false,())],()):=by rw[fK hi,AMp rfl]
 obtain⟨p1,p2,p3⟩:=IU (e:=x.1) (o:=(x.2.1.length:Int)+1) hxw.1.ep (by omega);have hlen:(((x.2.1++[(d,[],false,())]).length:Nat):Int)=(x.2.1.length:Int)+1:=by simp
 dsimp only at Ei⊢;rw[hg];dsimp only;rw[hlen]
 generalize hp:Ge x.1 ((x.2.1.length:Int)+1)=p at*
 have hw:I0 ((w.BZ (w.AG.set a.toNat (x.1,x.2.1++[(d,[],false,())],()))).Ax (V2 (p,d,false,()) w.AU)) a.toNat ((x.2.1.length:Int)+1)=(d,[],false,()):=by
  unfold I0;rw[hg];dsimp only;rw[show((x.2.1.length:Int)+1-1).toNat=x.2.1.length by omega];simp[List.getD]
 refine⟨Ei,rfl,⟨by rw[AUM];exact hi,by rw[hg],by rw[hg];exact hlen⟩,by omega,⟨p1,p2,p3⟩,⟨(p,d,false,()),?_,rfl,?_⟩,fun n hn=> ?_,?_⟩
 ·rw[nJ (s:=(p,d,false,())) fun y hy=>by simpa using hno y hy,AMp rfl]
 ·rw[hw]
 ·rw[hw]at hn;simp at hn
 ·exact rY
section
variable{w:AA} (h:Me w) {a:Int} {d:ABp} (hd:d.length≤40) (e:(doAdd w a d).2=0)
include h hd e
theorem vD(all:Bool):dq (AY w) a.toNat ((doAdd w a d).1.AG.getD a.toNat Ag).1 ((doAdd w a d).1.AG.getD a.toNat Ag).2.1.length (Ti (doAdd w a d).1 a) d (w.AU.length+1) (oL all (doAdd w a d).1 a):=
 xP nj (kL h hd e)
theorem AFQ:Oa (oL true (doAdd w a d).1 a) (Ti (doAdd w a d).1 a)=Oa (oL false (doAdd w a d).1 a) (Ti (doAdd w a d).1 a):=by
 have i1:=vD h hd e true;have i0:=vD h hd e false;obtain⟨se,_,k2,_⟩:=ue (a:=true) (b:=false) (l:=Xl a ((doAdd w a d).1.AG.getD a.toNat Ag).2.1.length (less (A5 (doAdd w a d).1.Ao ((doAdd w a d).1.AG.getD a.toNat Ag).1) (doAdd w a d).1.lost)) (w:=(doAdd w a d).1) (se:=(doAdd w a d).1.AU) rfl;have hw:∀o,I0 (oL true (doAdd w a d).1 a) a.toNat o=I0 (oL false (doAdd w a d).1 a) a.toNat o:=fun o=>by
  unfold I0 oL;rw[show runM true (doAdd w a d).1 _=runM true ((doAdd w a d).1.Ax (doAdd w a d).1.AU) _ from rfl,k2]
 obtain⟨s1,a1,_,a3⟩:=i1.VS;obtain⟨s0,b1,_,b3⟩:=i0.VS;unfold Oa;rw[a1,b1];rw[hw]at a3;exact AYH.2 (a3.trans b3.symm)
theorem ADF{all:Bool}(hs:Oa (oL all (doAdd w a d).1 a) (Ti (doAdd w a d).1 a)=true):
  (∃s∈(oL all (doAdd w a d).1 a).AU,s.1=Ti (doAdd w a d).1 a∧s.2.2.1=true∧s.2.1=d)∧holds (AY (oL all (doAdd w a d).1 a)) (Pt (oL all (doAdd w a d).1 a) (Ti (doAdd w a d).1 a))=true∧
  (oL all (doAdd w a d).1 a).AU.length=w.AU.length+1∧Me (oL all (doAdd w a d).1 a)∧
  ((oL all (doAdd w a d).1 a).AG.getD a.toNat Ag).1=((doAdd w a d).1.AG.getD a.toNat Ag).1∧(((oL all (doAdd w a d).1 a).AG.getD a.toNat Ag).2.1.length:Int)=((doAdd w a d).1.AG.getD a.toNat Ag).2.1.length∧a.toNat<(oL all (doAdd w a d).1 a).AG.length:=by
 have i:=vD h hd e all
 generalize Ti (doAdd w a d).1 a=p at*
 generalize oL all (doAdd w a d).1 a=v at*
 obtain⟨s,a1,a2,a3⟩:=i.VS;unfold Oa at hs;rw[a1]at hs;obtain⟨m1,m2⟩:=fH a1;obtain⟨k1,k2⟩:=i.AGV;refine⟨⟨s,m1,m2,hs,a2⟩,?_,i.ns,i.ok,i.wr.2.1,i.wr.2.2,i.wr.1⟩;have hh:=a3.1 hs;rw[k2]at hh;have hn:v.Aq.length=(AY v).1.length:=i.ok.nw;refine gq hh ?_ fun n hn' => ?_
 ·rw[DO]
  refine⟨i.ok.cfg,fun x hx=> ?_,?_⟩
  ·unfold Pt at hx
   obtain⟨y,hy,rfl⟩:=AUR.1 (AUN.1 hx).1;have:=List.mem_range.1 hy;omega
  ·unfold Pt
   refine List.Pairwise.filter _ ?_
   rw[AXI];exact List.pairwise_lt_range.imp fun sC=>by simp only[id];omega
 ·have hn0:=(DO.1 k1).2.1 n hn'
  obtain⟨_,z,hz⟩:=i.yv n hn';unfold Pt;refine AUN.2 ⟨AUR.2 ⟨n.toNat,List.mem_range.2 (by omega),by omega⟩,?_⟩;rw[hz];rfl
end
end Go.M
end
section
set_option maxRecDepth 8000
namespace Go.M
open Go.M.H (AK AQ Av Af AA CR AO Ay AR Ah BR A6 BN Al CD AX AW Aa Ai Bh A4 Ap A_ EH CP Cv C3)
def jj(w:AA)(p:Int):Nat→Nat→List Int
 |0,_=>[]
 |m+1,i=>if(G_ p (storeAt w i).1).isSome then(i:Int)::jj w p m (i+1)else jj w p m (i+1)
theorem xC{w:AA}{p:Int}:∀(m i:Nat),((List.range' i m).map fun i:Nat=>(i:Int)).filter (fun n=>(G_ p (storeAt w n).1).isSome)=jj w p m i
 |0,i=>rfl
 |m+1,i=>by
  rw[List.range'_succ,AVt,AUA,xC m (i+1)];rfl
theorem kO{w:AA}{p:Int}:Pt w p=jj w p w.Aq.length 0:=by
 unfold Pt;rw[List.range_eq_range',xC]
theorem tN{w:AA}{p:Int}:∀(m i:Nat),(jj w p m i).length≤m
 |0,i=>AQm _
 |m+1,i=>by
  have:=tN (w:=w) (p:=p) m (i+1);unfold jj;split
  ·simp only[AOw];omega
  ·omega
theorem j7{w:AA}(h:Me w)(LH:fW w){p:Int}:TF w p=some (((),()),(Pt w p,())):=by
 have hc:=(Db h.cfg).2.1;have hc8:w.1.length≤8:=hc;have pE:=h.nw;have key:∀(m i n:Nat) (acc:AAG),i+m=w.Aq.length→m<n→acc.length≤i→IW n p w.2.2.1 (w.2.2.1.length:Int) (i:Int) acc=some (((),()),(acc++jj w p m i,())):=by
  intro m
  induction m with
  |zero=>
   intro i n acc hi hn ha;obtain⟨n,rfl⟩:∃n',n=n'+1:=⟨n-1,by omega⟩;simp only[IW,Ov,AB];rw[AM5 (by show¬((i:Int)<(w.Aq.length:Int));omega)];simp[jj]
  |succ m ih=>
   intro i n acc hi hn ha;obtain⟨n,rfl⟩:∃n',n=n'+1:=⟨n-1,by omega⟩;simp only[IW,Ov,AB];have Hh:i<w.Aq.length:=by omega
   have g:(0:Int)≤(i:Int)∧(i:Int)<(w.2.2.1.length:Int):=by show(0:Int)≤(i:Int)∧(i:Int)<(w.Aq.length:Int);omega
   rw[AMp g.2,AMp g,ANN];have e:storeAt w (i:Int)=w.2.2.1.getD i ([],[],0,()):=by unfold storeAt;rw[ANN]
   have hm:=Ba (d:=Dk) Hh;have hs:=(h.Aq i Hh).1;rw[show w.Aq.getD i Dk=storeAt w (i:Int)by unfold storeAt;rw[ANN]]at hm hs;rw[←e];have hw:=Aa (f:=Al) hm;rw[show((storeAt w (i:Int)).1,(storeAt w (i:Int)).2.1,(storeAt w (i:Int)).2.2.1,())=storeAt w (i:Int)from rfl,Ps (by have:=(Me.QU h hm).w;omega) (Me.QU h hm).sin p];unfold VZ jj;rw[DC.2 hs,AMp rfl,AJ (x:=(i:Int)+1) (by omega) (by omega),show((i:Int)+1)=((i+1:Nat):Int)by omega];cases hg:G_ p (storeAt w (i:Int)).1 with
   |none=>
    simp only[AD,ANI];rw[ih (i+1) n acc (by omega) (by omega) (by omega)];rfl
   |some x=>
    simp only[AD,ANk];rw[AMp (by rw[Au];omega),ih (i+1) n (acc++[(i:Int)]) (by omega) (by omega) (by simp;omega)];simp
 unfold TF Vp;rw[show(w.1,w.2.1,w.2.2.1,w.2.2.2.1,w.2.2.2.2.1,w.2.2.2.2.2.1,w.2.2.2.2.2.2.1,w.2.2.2.2.2.2.2.1,w.2.2.2.2.2.2.2.2.1,w.2.2.2.2.2.2.2.2.2.1,w.2.2.2.2.2.2.2.2.2.2.1,())=w from rfl,NV LH,GV.2 h];simp only[AD,ANX,ANI];rw[kO];have:=key w.Aq.length 0 Ac [] (by omega) (Ae (by omega)) (by simp);simpa using this
section
variable{w:AA} (h:Reached w) (LH:fW w)
include h LH
end
end Go.M
end
section
set_option maxRecDepth 8000
namespace Go.M
open Go.M.H (AK AQ Av Af AA CR AO Ay AR Ah BR A6 BN Al CD AX AW Aa Ai Bh A4 Ap A_ EH CP Cv C3)
theorem ADr{a l:AAG}{x:Int}:less (less a [x]) l=less a (x::l):=by
 unfold less;rw[List.filter_filter];refine List.filter_congr fun y _=> ?_
 simp[Bool.and_comm]
theorem qT{a l:AAG}:(less a l).length≤a.length:=by
 unfold less;exact ARp _ _
theorem AGK{a:AAG}:less a []=a:=by
 unfold less;exact List.filter_eq_self.2 fun _ _=>by simp
theorem hY{w:AA}(h:Me w){e:Int}(he:CO e):Qn w e=some (((),()),(less (A5 w.Ao e) w.lost,())):=by
 have hl:=Fj h.lost;have key:∀(m i n:Nat) (b:AAG),i+m=w.lost.length→m<n→b.length≤2^30→HT n w.lost (w.lost.length:Int) (i:Int) b=some (((),()),(less b (w.lost.drop i),())):=by
  intro m
  induction m with
  |zero=>
   intro i n b hi hn hb;obtain⟨n,rfl⟩:∃n',n=n'+1:=⟨n-1,by omega⟩;simp only[HT,N5,AB];rw[AM5 (by omega),ANl (by omega),AGK]
  |succ m ih=>
   intro i n b hi hn hb;obtain⟨n,rfl⟩:∃n',n=n'+1:=⟨n-1,by omega⟩;simp only[HT,N5,AB];have Hh:i<w.lost.length:=by omega
   rw[AMp (by omega),AMp (by omega),Lm hb];simp only[AD];rw[AJ (x:=(i:Int)+1) (by omega) (by omega)];have:=ih (i+1) n (less b [w.lost.getD i 0]) (by omega) (by omega) (by have:=qT (a:=b) (l:=[w.lost.getD i 0]);omega);rw[show((i+1:Nat):Int)=(i:Int)+1 by omega]at this;rw[ANN];refine this.trans ?_
   rw[AW1 Hh,ADr,NU Hh]
 unfold Qn T3;have h3:AX Bh w.Ao≤270:=h.lU.w;rw[show(w.2.2.2.2.1,w.2.2.2.2.2.1,())=CJ w from rfl,Ly (by show AX Bh w.Ao≤_;omega) he];simp only[AD];have hb:(A5 w.Ao e).length≤2^30:=by
  have:(A5 w.Ao e).length≤8:=Ee h;omega
 have:=key w.lost.length 0 Ac (A5 w.Ao e) (by omega) (Ae (by omega)) hb;exact this
theorem cm{all:Bool}{w:AA}(h:Me w){e:BN}(hd:K9 e=true):CT all w e=Nx all w e:=by
 unfold CT;rw[GV.2 h,hd];rfl
theorem tu{all:Bool}{w:AA}{e:BN}(he:e.1=3∨e.1=4):(Nx all w e).1.Aj=w.Aj:=by
 unfold Nx;rcases he with he|he
 ·rw[AM5 (by omega),AM5 (by omega),AMp he]
  unfold Gt putAt;dsimp only
  repeat' split
  all_goals rfl
 ·rw[AM5 (by omega),AM5 (by omega),AM5 (by omega),AMp he]
  unfold MT;dsimp only
  repeat' split
  all_goals rfl
def Mh(all:Bool)(w:AA)(e:BN):AA:=if(CT all w e).2=0 then(CT all w e).1 else w
theorem lh{all:Bool}{w:AA}{e:BN}{l:List BN}:(runM all w (e::l)).1=(runM all (Mh all w e) l).1:=by
 simp only[runM,Mh]
theorem qN{all:Bool}{w:AA}(h:Me w){e:BN}(hd:K9 e=true):(CT all w e).1=Mh all w e:=by
 unfold Mh;split
 ·rfl
 ·rename_i h0
  rw[cm h hd]at h0⊢;exact pr h0
theorem jR{all:Bool}{w:AA}(h:Me w){e:BN}(hd:K9 e=true)(he:e.1=3∨e.1=4):(Mh all w e).Aj=w.Aj:=by
 rw[←qN h hd,cm h hd];exact tu he
section
variable{c:Bz} {k:Nat} {ep o p:Int} {d:ABp} {N:Nat}
theorem bQ{w:AA}(h:dq c k ep o p d N w){all:Bool}{e:BN}(he:e.1=3∨e.1=4):dq c k ep o p d N (Mh all w e):=by
 unfold Mh;split
 ·rename_i h0
  exact ABZ h he h0
 ·exact h
end
theorem tT{all:Bool}{c:Bz}{k:Nat}{ep o p:Int}{d:ABp}{N:Nat}:∀{l:List BN} {w:AA},dq c k ep o p d N w→(∀e∈l,(e.1=3∨e.1=4))→(runM all w l).1.Aj=w.Aj
 |[],w,_,_=>rfl
 |e::l,w,h,hl=>by
  rw[lh,tT (bQ h (hl e (by simp))) fun x hx=>hl x (by simp[hx])];unfold Mh;split
  ·rename_i h0
   unfold CT at h0⊢;split at h0
   ·cases h0
   ·rename_i hc
    rw[AM5 hc];exact tu (hl e (by simp))
  ·rfl
theorem q_{w:AA}(h:Me w){p:Int}(hp:0≤p∧p<2^40):∃q:Nat,zm p w.AU q∧Ed w p=some ((((q:Int),VQ p w.AU q,()),()),())∧
  (VQ p w.AU q=true→ ∃hq:q<w.AU.length,Oa w p=(w.AU[q]).2.2.1)∧(VQ p w.AU q=false→Oa w p=false):=by
 obtain⟨q,hq,e⟩:=ed (l:=w.AU) h.XF (by have:=h.OS;omega) h.AFc hp;refine⟨q,hq,?_,fun ht=> ?_,fun hf=> ?_⟩
 ·unfold Ed
  rw[show w.2.2.2.2.2.2.2.2.2.1=w.AU from rfl,e];rfl
 ·obtain⟨h1,h2⟩:=rV ht
  refine⟨h1,?_⟩;unfold Oa;have:=cN h.XF (ANa h1);rw[h2]at this;rw[this]
 ·unfold Oa
  have:(w.AU.any fun s=>s.1==p)=false:=(AAb hq h.XF).trans hf;have hn:K6 w.AU p=none:=by
   unfold K6;rw[List.find?_eq_none];intro x hx;rw[AYT]at this;exact this x hx
  rw[hn]
theorem oC{w:AA}(hl:w.AU.length≤2^30){p:Int}:bm w p=some ((Oa w p,()),()):=by
 have key:∀(m i n:Nat),i+m=w.AU.length→m<n→KP n p (i:Int) w.1 w.2.1 w.2.2.1 w.2.2.2.1 w.2.2.2.2.1 w.2.2.2.2.2.1 w.2.2.2.2.2.2.1 w.2.2.2.2.2.2.2.1 w.2.2.2.2.2.2.2.2.1 w.AU w.2.2.2.2.2.2.2.2.2.2.1=some (((match K6 (w.AU.drop i) p with|some s=>s.2.2.1|none=>false),()),()):=by
  intro m
  induction m with
  |zero=>
   intro i n hi hn;obtain⟨n,rfl⟩:∃n',n=n'+1:=⟨n-1,by omega⟩;simp only[KP,RN,AB];rw[AM5 (by omega),ANl (by omega)];rfl
  |succ m ih=>
   intro i n hi hn;obtain⟨n,rfl⟩:∃n',n=n'+1:=⟨n-1,by omega⟩;simp only[KP,RN,AB];have Hh:i<w.AU.length:=by omega
   rw[AMp (by omega)];simp only[AMp (show(0:Int)≤(i:Int)∧(i:Int)<(w.AU.length:Int)by omega),ANN];rw[show w.AU.getD i (0,[],false,())=w.AU[i]from NU Hh,AW1 Hh];unfold K6;rw[AVh];cases hb:(w.AU[i]).1==p with
   |true=>rw[ANk]
   |false=>
    rw[ANI,AJ (x:=(i:Int)+1) (by omega) (by omega)];have:=ih (i+1) n (by omega) (by omega);rw[show((i+1:Nat):Int)=(i:Int)+1 by omega]at this;exact this
 exact key w.AU.length 0 Ac (by omega) (Ae (by omega))
def cr(q:AA×Bool):MS:=(((((),q.1.2.1,(),(),(),q.1.2.2.2.2.2.1,(),(),(),(),q.1.2.2.2.2.2.2.2.2.2.2.1,()),q.2,()),()),(q.1.1,q.1.2.2.1,q.1.2.2.2.1,q.1.2.2.2.2.1,q.1.2.2.2.2.2.2.1,q.1.2.2.2.2.2.2.2.1,q.1.2.2.2.2.2.2.2.2.1,q.1.2.2.2.2.2.2.2.2.2.1,()))
def hDo(all:Bool)(w:AA)(a o n:Int):AA:=Mh all (Mh all w (3,a,o,n,[],())) (4,n,0,0,[],())
theorem nf{all:Bool}{w:AA}{a o n:Int}{ns:AAG}:(runM all w (Xl a o (n::ns))).1=(runM all (hDo all w a o n) (Xl a o ns)).1:=by
 show(runM all w ((3,a,o,n,[],())::(4,n,0,0,[],())::Xl a o ns)).1=_
 rw[lh,lh];rfl
theorem dq.plM{c:Bz}{k:Nat}{ep o p:Int}{d:ABp}{N:Nat}{w:AA}(h:dq c k ep o p d N w):F_ ep o=p∧Ge ep o=p∧(BF ep 1 30&&BF o 1 60)=true∧(0≤p∧p<2^40):=by
 obtain⟨p1,p2,p3⟩:=h.pl;obtain⟨q1,q2,q3⟩:=EV p1;rw[p2,p3]at q3;rw[p2]at q1;rw[p3]at q2;have e1:(BF ep 1 30&&BF o 1 60)=true:=by
  rw[ANB,Ak,Ak];omega
 refine⟨by unfold F_;rw[AMp e1,q3],q3,e1,?_⟩;rw[←q3];unfold Ge;omega
section
variable{c:Bz} {k:Nat} {ep o p a:Int} {d:ABp} {N:Nat} {w:AA} (hw:fW w) (ha:CO a)
include hw ha
theorem uC:∀(m i:Nat) {ns:AAG} {v:AA} {f:Nat},dq c k ep o p d N v→AX A_ v.Aj≤900000→(∀x∈ns,CO x)→ns.length≤1000→i+m=ns.length→m<f→
  IZ f a o (ns.length:Int) (i:Int) w.1 w.2.1 w.2.2.1 w.2.2.2.1 w.2.2.2.2.1 w.2.2.2.2.2.1 w.2.2.2.2.2.2.1 w.2.2.2.2.2.2.2.1 w.2.2.2.2.2.2.2.2.1 w.2.2.2.2.2.2.2.2.2.1 w.2.2.2.2.2.2.2.2.2.2.1 0 0 false [] [] [] [] [] [] [] [] v.2.1 v.2.2.2.2.2.1 v.2.2.2.2.2.2.2.2.2.2.1 v.1 v.2.2.1 v.2.2.2.1 v.2.2.2.2.1 v.2.2.2.2.2.2.1 v.2.2.2.2.2.2.2.1 v.2.2.2.2.2.2.2.2.1 v.2.2.2.2.2.2.2.2.2.1 ep ns
   =some (cr (if Oa (runM false v (Xl a o (ns.drop i))).1 p=true then((runM false v (Xl a o (ns.drop i))).1,true)else(w,false)))
 |m,i,ns,v,0,_,_,_,_,_,hf=>by omega
 |0,i,ns,v,f+1,h,hr,tP,hl,hi,hf=>by
  have hv:=h.ok.ABn hr;obtain⟨e1,_,e3,e4⟩:=h.plM;obtain⟨q,_,q1,q2,q3⟩:=q_ h.ok e4;simp only[IZ,O4,AB];rw[AM5 (by omega),ANl (by omega),Fe];simp only[AD];rw[show(v.1,v.2.1,v.2.2.1,v.2.2.2.1,v.2.2.2.2.1,v.2.2.2.2.2.1,v.2.2.2.2.2.2.1,v.2.2.2.2.2.2.2.1,v.2.2.2.2.2.2.2.2.1,v.2.2.2.2.2.2.2.2.2.1,v.2.2.2.2.2.2.2.2.2.2.1,())=v from rfl,show(w.1,w.2.1,w.2.2.1,w.2.2.2.1,w.2.2.2.2.1,w.2.2.2.2.2.1,w.2.2.2.2.2.2.1,w.2.2.2.2.2.2.2.1,w.2.2.2.2.2.2.2.2.1,w.2.2.2.2.2.2.2.2.2.1,w.2.2.2.2.2.2.2.2.2.2.1,())=w from rfl,e1,q1,TN hw];simp only[AD]
  show _=some (cr (if Oa v p=true then(v,true)else(w,false)))
  cases hh:VQ p v.AU q with
  |false=>
   rw[q3 hh,ATb,ANk];rfl
  |true=>
   obtain⟨hq,es⟩:=q2 hh;rw[ANX,ANI,AMp (show(0:Int)≤(q:Int)∧(q:Int)<(v.AU.length:Int)by omega),ANN,show v.2.2.2.2.2.2.2.2.2.1.getD q (0,[],false,())=v.AU[q]from NU hq,es];cases(v.AU[q]).2.2.1 with
   |true=>rfl
   |false=>rfl
 |m+1,i,ns,v,f+1,h,hr,tP,hl,hi,hf=>by
  have Hh:i<ns.length:=by omega
  simp only[IZ,O4,AB];have hg:ns.getD i 0=ns[i]:=NU Hh;have hx:=tP _ (ANa Hh);rw[AMp (by omega),AMp (by omega),ANN,hg,AW1 Hh,nf]
  generalize ns[i]=x at*
  have hv:=h.ok.ABn hr;have h1:=bQ h (all:=false) (e:=(3,a,o,x,[],())) (.inl rfl);have r1:=jR h.ok (all:=false) (e:=(3,a,o,x,[],())) rfl (.inl rfl);rw[show(v.1,v.2.1,v.2.2.1,v.2.2.2.1,v.2.2.2.2.1,v.2.2.2.2.2.1,v.2.2.2.2.2.2.1,v.2.2.2.2.2.2.2.1,v.2.2.2.2.2.2.2.2.1,v.2.2.2.2.2.2.2.2.2.1,v.2.2.2.2.2.2.2.2.2.2.1,())=v from rfl,WE (d:=(3,a,o,x,[],())) hv ha];have s1:=qN h.ok (all:=false) (e:=(3,a,o,x,[],())) rfl;simp only[AD]
  generalize CT false v (3,a,o,x,[],())=z at*
  obtain⟨z1,z2⟩:=z;simp only at s1;subst s1;unfold hDo
  generalize Mh false v (3,a,o,x,[],())=v1 at*
  have hr1:AX A_ v1.Aj≤900000:=by rw[r1];exact hr
  have aa:=h1.ok.ABn hr1;have h2:=bQ h1 (all:=false) (e:=(4,x,0,0,[],())) (.inr rfl);have r2:=jR h1.ok (all:=false) (e:=(4,x,0,0,[],())) rfl (.inr rfl);rw[show((Uf (v1,z2)).2.1,(Uf (v1,z2)).1.1.1.2.1,(Uf (v1,z2)).2.2.1,(Uf (v1,z2)).2.2.2.1,(Uf (v1,z2)).2.2.2.2.1,(Uf (v1,z2)).1.1.1.2.2.2.2.2.1,(Uf (v1,z2)).2.2.2.2.2.1,(Uf (v1,z2)).2.2.2.2.2.2.1,(Uf (v1,z2)).2.2.2.2.2.2.2.1,(Uf (v1,z2)).2.2.2.2.2.2.2.2.1,(Uf (v1,z2)).1.1.1.2.2.2.2.2.2.2.2.2.2.1,())=v1 from rfl,WE (d:=(4,x,0,0,[],())) aa hx];have s2:=qN h1.ok (all:=false) (e:=(4,x,0,0,[],())) rfl;simp only[AD]
  generalize CT false v1 (4,x,0,0,[],())=z at*
  obtain⟨y1,y2⟩:=z;simp only at s2;subst s2
  generalize Mh false v1 (4,x,0,0,[],())=v2 at*
  have hr2:AX A_ v2.Aj≤900000:=by rw[r2];exact hr1
  rw[AJ (x:=(i:Int)+1) (by omega) (by omega)];have ih:=uC m (i+1) (ns:=ns) (v:=v2) (f:=f) h2 hr2 tP hl (by omega) (by omega);rw[show((i+1:Nat):Int)=(i:Int)+1 by omega]at ih;exact ih
end
theorem nZ{w v:AA}{a o ep i:Int}{ws:List Ay}{ns:AAG}{D:List BN}{e:BN}{j f:Nat}(hj:j<2)(hD:D.length=2)(he:D.getD j (0,0,0,0,[],())=e)(hv:fW v)(h64:CO e.2.1):
  Dc (f+1) a o i (j:Int) w.1 w.2.1 w.2.2.1 w.2.2.2.1 w.2.2.2.2.1 w.2.2.2.2.2.1 w.2.2.2.2.2.2.1 w.2.2.2.2.2.2.2.1 w.2.2.2.2.2.2.2.2.1 w.2.2.2.2.2.2.2.2.2.1 w.2.2.2.2.2.2.2.2.2.2.1 0 0 false [] [] [] [] [] [] [] [] v.2.1 v.2.2.2.2.2.1 v.2.2.2.2.2.2.2.2.2.2.1 v.1 v.2.2.1 v.2.2.2.1 v.2.2.2.2.1 v.2.2.2.2.2.2.1 v.2.2.2.2.2.2.2.1 v.2.2.2.2.2.2.2.2.1 v.2.2.2.2.2.2.2.2.2.1 ep ws ns D=Dc f a o i ((j+1:Nat):Int) w.1 w.2.1 w.2.2.1 w.2.2.2.1 w.2.2.2.2.1 w.2.2.2.2.2.1 w.2.2.2.2.2.2.1 w.2.2.2.2.2.2.2.1 w.2.2.2.2.2.2.2.2.1 w.2.2.2.2.2.2.2.2.2.1 w.2.2.2.2.2.2.2.2.2.2.1 0 0 false [] [] [] [] [] [] [] [] (Mh true v e).2.1 (Mh true v e).2.2.2.2.2.1 (Mh true v e).2.2.2.2.2.2.2.2.2.2.1 (Mh true v e).1 (Mh true v e).2.2.1 (Mh true v e).2.2.2.1 (Mh true v e).2.2.2.2.1 (Mh true v e).2.2.2.2.2.2.1 (Mh true v e).2.2.2.2.2.2.2.1 (Mh true v e).2.2.2.2.2.2.2.2.1 (Mh true v e).2.2.2.2.2.2.2.2.2.1 ep ws ns D:=by
 rw[show((j+1:Nat):Int)=(j:Int)+1 by omega]
 show HL (EE f) (Dc f) _ _ _ _ _ _ _ _ _ _ _ _ _ _ _ _ _ _ _ _ _ _ _ _ _ _ _ _ _ _ _ _ _ _ _ _ _ _ _ _ _=_
 unfold HL;simp only[AB];rw[AMp (by omega),AMp (by omega),ANN,he,show(v.1,v.2.1,v.2.2.1,v.2.2.2.1,v.2.2.2.2.1,v.2.2.2.2.2.1,v.2.2.2.2.2.2.1,v.2.2.2.2.2.2.2.1,v.2.2.2.2.2.2.2.2.1,v.2.2.2.2.2.2.2.2.2.1,v.2.2.2.2.2.2.2.2.2.2.1,())=v from rfl,show(e.1,e.2.1,e.2.2.1,e.2.2.2.1,e.2.2.2.2.1,())=e from rfl,V_ hv h64];simp only[AD];rw[AJ (x:=(j:Int)+1) (by omega) (by omega)];unfold Mh;by_cases h0:(CT true v e).2=0
 ·rw[AMp h0,show((Uf (CT true v e)).1.1.2.1==0)=true by show((CT true v e).2==0)=true;rw[h0];rfl,ANk]
  rfl
 ·rw[AM5 h0,show((Uf (CT true v e)).1.1.2.1==0)=false by show((CT true v e).2==0)=false;simpa using h0,ANI]
section
variable{c:Bz} {k:Nat} {ep o p a:Int} {d:ABp} {N:Nat} {w:AA} (hw:fW w) (ha:CO a)
include hw ha
theorem tq{ws:List Ay}:∀(m i:Nat) {ns:AAG} {v:AA} {f:Nat},dq c k ep o p d N v→AX A_ v.Aj≤900000→(∀x∈ns,CO x)→ns.length≤1000→i+m=ns.length→4*m<f→
  EE f a o (i:Int) w.1 w.2.1 w.2.2.1 w.2.2.2.1 w.2.2.2.2.1 w.2.2.2.2.2.1 w.2.2.2.2.2.2.1 w.2.2.2.2.2.2.2.1 w.2.2.2.2.2.2.2.2.1 w.2.2.2.2.2.2.2.2.2.1 w.2.2.2.2.2.2.2.2.2.2.1 0 0 false [] [] [] [] [] [] [] [] v.2.1 v.2.2.2.2.2.1 v.2.2.2.2.2.2.2.2.2.2.1 v.1 v.2.2.1 v.2.2.2.1 v.2.2.2.2.1 v.2.2.2.2.2.2.1 v.2.2.2.2.2.2.2.1 v.2.2.2.2.2.2.2.2.1 v.2.2.2.2.2.2.2.2.2.1 ep ws ns
   =some (cr (if Oa (runM true v (Xl a o (ns.drop i))).1 p=true then((runM true v (Xl a o (ns.drop i))).1,true)else(w,false)))
 |m,i,ns,v,0,_,_,_,_,_,hf=>by omega
 |0,i,ns,v,f+1,h,hr,tP,hl,hi,hf=>by
  obtain⟨_,e2,e3,e4⟩:=h.plM;rw[ANB,Ak,Ak]at e3;have hs:=h.ok.OS
  show HP (EE f) (Dc f) _ _ _ _ _ _ _ _ _ _ _ _ _ _ _ _ _ _ _ _ _ _ _ _ _ _ _ _ _ _ _ _ _ _ _ _ _ _ _=_
  unfold HP;simp only[AB];rw[AM5 (by omega),ANl (by omega),FD (by omega) (by omega)];simp only[AD];rw[show(v.1,v.2.1,v.2.2.1,v.2.2.2.1,v.2.2.2.2.1,v.2.2.2.2.2.1,v.2.2.2.2.2.2.1,v.2.2.2.2.2.2.2.1,v.2.2.2.2.2.2.2.2.1,v.2.2.2.2.2.2.2.2.2.1,v.2.2.2.2.2.2.2.2.2.2.1,())=v from rfl,show(w.1,w.2.1,w.2.2.1,w.2.2.2.1,w.2.2.2.2.1,w.2.2.2.2.2.1,w.2.2.2.2.2.2.1,w.2.2.2.2.2.2.2.1,w.2.2.2.2.2.2.2.2.1,w.2.2.2.2.2.2.2.2.2.1,w.2.2.2.2.2.2.2.2.2.2.1,())=w from rfl,e2,oC (by omega),WJ hw];simp only[AD]
  show _=some (cr (if Oa v p=true then(v,true)else(w,false)))
  cases Oa v p with
  |true=>rfl
  |false=>rfl
 |m+1,i,ns,v,f+1,h,hr,tP,hl,hi,hf=>by
  have Hh:i<ns.length:=by omega
  have hg:ns.getD i 0=ns[i]:=NU Hh;have hx:=tP _ (ANa Hh)
  show HP (EE f) (Dc f) _ _ _ _ _ _ _ _ _ _ _ _ _ _ _ _ _ _ _ _ _ _ _ _ _ _ _ _ _ _ _ _ _ _ _ _ _ _ _=_
  unfold HP;simp only[AB];rw[AMp (by omega),AMp (by omega),AMp (by omega),ANN,hg,AW1 Hh,nf]
  generalize ns[i]=x at*
  have hv:=h.ok.ABn hr;have h1:=bQ h (all:=true) (e:=(3,a,o,x,[],())) (.inl rfl);have r1:=jR h.ok (all:=true) (e:=(3,a,o,x,[],())) rfl (.inl rfl);obtain⟨f,rfl⟩:∃g,f=g+3:=⟨f-3,by omega⟩;have t1:=nZ (w:=w) (e:=(3,a,o,x,[],())) (v:=v) (a:=a) (o:=o) (ep:=ep) (i:=i) (ws:=ws) (ns:=ns) (D:=[(3,a,o,x,[],()),(4,x,0,0,[],())]) (j:=0) (f:=f+2) (by omega) rfl rfl hv ha;refine t1.trans ?_
  clear t1
  unfold hDo
  generalize Mh true v (3,a,o,x,[],())=v1 at*
  have hr1:AX A_ v1.Aj≤900000:=by rw[r1];exact hr
  have aa:=h1.ok.ABn hr1;have h2:=bQ h1 (all:=true) (e:=(4,x,0,0,[],())) (.inr rfl);have r2:=jR h1.ok (all:=true) (e:=(4,x,0,0,[],())) rfl (.inr rfl);have t2:=nZ (w:=w) (e:=(4,x,0,0,[],())) (v:=v1) (a:=a) (o:=o) (ep:=ep) (i:=i) (ws:=ws) (ns:=ns) (D:=[(3,a,o,x,[],()),(4,x,0,0,[],())]) (j:=1) (f:=f+1) (by omega) rfl rfl aa hx;refine t2.trans ?_
  clear t2
  generalize Mh true v1 (4,x,0,0,[],())=v2 at*
  have hr2:AX A_ v2.Aj≤900000:=by rw[r2];exact hr1
  show HL (EE f) (Dc f) _ _ _ _ _ _ _ _ _ _ _ _ _ _ _ _ _ _ _ _ _ _ _ _ _ _ _ _ _ _ _ _ _ _ _ _ _ _ _ _ _=_
  unfold HL;simp only[AB];rw[AM5 (by omega),AJ (x:=(i:Int)+1) (by omega) (by omega)];have ih:=tq (ws:=ws) m (i+1) (ns:=ns) (v:=v2) (f:=f) h2 hr2 tP hl (by omega) (by omega);rw[show((i+1:Nat):Int)=(i:Int)+1 by omega]at ih;exact ih
end
def hAdd(all:Bool)(w:AA)(a:Int)(d:ABp):AA×Bool:=
 if(doAdd w a d).2=0 then(if Oa (oL all (doAdd w a d).1 a) (Ti (doAdd w a d).1 a)=true then(oL all (doAdd w a d).1 a,true)else(w,false))else(w,false)
theorem nX{all:Bool}{w:AA}(h:Me w){a:Int}{d:ABp}(hd:d.length≤40):CT all w (2,a,0,0,d,())=doAdd w a d:=by
 have:K9 (2,a,0,0,d,())=true:=by
  unfold K9
  show(true&&(true&&(true&&(true&&(true&&decide (d.length≤40))))))=true
  simp[hd]
 rw[cm h this];rfl
theorem nH{w:AA}(h:Me w){e:Int}:∀x∈A5 w.Ao e,0≤x∧x<8:=by
 by_cases he:BF e 1 (w.Ao.length:Int)=true
 ·exact(h.AAN (code:=[]) (by simp) (Ak.1 he)).2.2
 ·intro x hx
  unfold A5 at hx;rw[AM5 he]at hx;cases hx
theorem wc{a l:AAG}:∀x∈less a l,x∈a:=fun x hx=>by
 unfold less at hx;exact(AUN.1 hx).1
theorem py{w:AA}{a:Int}{d:ABp}:(doAdd w a d).1.Aj=w.Aj:=by
 unfold doAdd;dsimp only
 repeat' split
 all_goals rfl
theorem ij{w:AA}(LH:fW w):Qu w=some ((((),(if Dg w=true then w else QB).2.1,(),(),(),(if Dg w=true then w else QB).2.2.2.2.2.1,(),(),(),(),(if Dg w=true then w else QB).2.2.2.2.2.2.2.2.2.2.1,()),()),((if Dg w=true then w else QB).1,(if Dg w=true then w else QB).2.2.1,(if Dg w=true then w else QB).2.2.2.1,(if Dg w=true then w else QB).2.2.2.2.1,(if Dg w=true then w else QB).2.2.2.2.2.2.1,(if Dg w=true then w else QB).2.2.2.2.2.2.2.1,(if Dg w=true then w else QB).2.2.2.2.2.2.2.2.1,(if Dg w=true then w else QB).2.2.2.2.2.2.2.2.2.1,())):=by
 unfold Qu;rw[show(w.1,w.2.1,w.2.2.1,w.2.2.2.1,w.2.2.2.2.1,w.2.2.2.2.2.1,w.2.2.2.2.2.2.1,w.2.2.2.2.2.2.2.1,w.2.2.2.2.2.2.2.2.1,w.2.2.2.2.2.2.2.2.2.1,w.2.2.2.2.2.2.2.2.2.2.1,())=w from rfl,NV LH,TN LH];simp only[AD];cases Dg w with
 |true=>rfl
 |false=>rfl
theorem jX{w:AA}{a:Int}{d:ABp}(LH:fW w)(ha:CO a)(hd:d.length≤40)(hr:AX A_ w.Aj≤900000):
  Sx w a d=some (cr (if Dg w=true then hAdd false w a d else(QB,false))):=by
 unfold Sx Vn;rw[show(w.1,w.2.1,w.2.2.1,w.2.2.2.1,w.2.2.2.2.1,w.2.2.2.2.2.1,w.2.2.2.2.2.2.1,w.2.2.2.2.2.2.2.1,w.2.2.2.2.2.2.2.2.1,w.2.2.2.2.2.2.2.2.2.1,w.2.2.2.2.2.2.2.2.2.2.1,())=w from rfl,WE (d:=(2,a,0,0,d,())) LH ha,ij LH];simp only[AD];rcases AMo (Dg w)with hw|hw
 rotate_left
 ·have e1:CT false w (2,a,0,0,d,())=(QB,1):=by unfold CT;rw[hw];rfl
  rw[e1,hw];rfl
 have Ei:=GV.1 hw;rw[hw,AMp rfl,AMp rfl,nX Ei hd];unfold hAdd;by_cases h0:(doAdd w a d).2=0
 rotate_left
 ·rw[AM5 h0,show((Uf (doAdd w a d)).1.1.2.1 !=0)=true by show((doAdd w a d).2 !=0)=true;simpa using h0,ANk]
  rfl
 rw[AMp h0,show((Uf (doAdd w a d)).1.1.2.1 !=0)=false by show((doAdd w a d).2 !=0)=false;rw[h0];rfl,ANI];have hi:=kL Ei hd h0;have Xc:=py (w:=w) (a:=a) (d:=d);have ASb:0≤a∧a<(w.AG.length:Int):=by
  unfold doAdd at h0;by_cases hx:BF a 0 ((w.AG.length:Int)-1)=true
  ·have:=Ak.1 hx;omega
  ·have wF:BF a 0 ((w.AG.length:Int)-1)=false:=by simpa using hx
   rw[wF]at h0;cases h0
 unfold oL
 generalize Ti (doAdd w a d).1 a=p at*
 generalize doAdd w a d=q at*
 have xS:a<(q.1.AG.length:Int):=by have:=hi.wr.1;omega
 have hep:=EV hi.pl.1;rw[hi.pl.2.1]at hep;rw[AMp (show(0:Int)≤a∧a<((Uf q).2.2.2.2.2.1.length:Int)from⟨ASb.1,xS⟩),show(Uf q).2.2.2.2.2.1.getD a.toNat (0,[],())=q.1.AG.getD a.toNat Ag from rfl,show((Uf q).2.1,(Uf q).1.1.1.2.1,(Uf q).2.2.1,(Uf q).2.2.2.1,(Uf q).2.2.2.2.1,(Uf q).1.1.1.2.2.2.2.2.1,(Uf q).2.2.2.2.2.1,(Uf q).2.2.2.2.2.2.1,(Uf q).2.2.2.2.2.2.2.1,(Uf q).2.2.2.2.2.2.2.2.1,(Uf q).1.1.1.2.2.2.2.2.2.2.2.2.2.1,())=q.1 from rfl,hY hi.ok (by unfold CO;omega)];simp only[AD];have tP:∀x∈less (A5 q.1.Ao (q.1.AG.getD a.toNat Ag).1) q.1.lost,CO x:=fun x hx=>by
  have:=nH hi.ok x (wc x hx);unfold CO;omega
 have hl8:(less (A5 q.1.Ao (q.1.AG.getD a.toNat Ag).1) q.1.lost).length≤8:=by
  have h1:(A5 q.1.Ao (q.1.AG.getD a.toNat Ag).1).length≤8:=Ee hi.ok;have h2:=qT (a:=A5 q.1.Ao (q.1.AG.getD a.toNat Ag).1) (l:=q.1.lost);omega
 have:=uC LH ha (less (A5 q.1.Ao (q.1.AG.getD a.toNat Ag).1) q.1.lost).length 0 (f:=Ac) hi (by rw[Xc];exact hr) tP (by omega) (by omega) (Ae (by omega));exact this
theorem ja{w:AA}{a:Int}{d:ABp}(LH:fW w)(ha:CO a)(hd:d.length≤40)(hr:AX A_ w.Aj≤900000):
  SI w a d=some (cr (if Dg w=true then hAdd true w a d else(QB,false))):=by
 unfold SI VG;rw[show(w.1,w.2.1,w.2.2.1,w.2.2.2.1,w.2.2.2.2.1,w.2.2.2.2.2.1,w.2.2.2.2.2.2.1,w.2.2.2.2.2.2.2.1,w.2.2.2.2.2.2.2.2.1,w.2.2.2.2.2.2.2.2.2.1,w.2.2.2.2.2.2.2.2.2.2.1,())=w from rfl,V_ (d:=(2,a,0,0,d,())) LH ha,dZ LH,WJ LH];simp only[AD];rcases AMo (Dg w)with hw|hw
 rotate_left
 ·rw[hw]
  rfl
 have Ei:=GV.1 hw;rw[hw,AMp rfl,nX Ei hd,ANX,ANI];unfold hAdd;by_cases h0:(doAdd w a d).2=0
 rotate_left
 ·rw[AM5 h0,show((Uf (doAdd w a d)).1.1.2.1 !=0)=true by show((doAdd w a d).2 !=0)=true;simpa using h0,ANk]
  rfl
 rw[AMp h0,show((Uf (doAdd w a d)).1.1.2.1 !=0)=false by show((doAdd w a d).2 !=0)=false;rw[h0];rfl,ANI];have hi:=kL Ei hd h0;have Xc:=py (w:=w) (a:=a) (d:=d);have ASb:0≤a∧a<(w.AG.length:Int):=by
  unfold doAdd at h0;by_cases hx:BF a 0 ((w.AG.length:Int)-1)=true
  ·have:=Ak.1 hx;omega
  ·have wF:BF a 0 ((w.AG.length:Int)-1)=false:=by simpa using hx
   rw[wF]at h0;cases h0
 unfold oL
 generalize Ti (doAdd w a d).1 a=p at*
 generalize doAdd w a d=q at*
 have xS:a<(q.1.AG.length:Int):=by have:=hi.wr.1;omega
 have hep:=EV hi.pl.1;rw[hi.pl.2.1]at hep;have h1:(A5 q.1.Ao (q.1.AG.getD a.toNat Ag).1).length≤8:=Ee hi.ok;have h2:=qT (a:=A5 q.1.Ao (q.1.AG.getD a.toNat Ag).1) (l:=q.1.lost);have h3:AX Bh q.1.Ao≤270:=hi.ok.lU.w;have h4:q.1.lost.length≤8:=Fj hi.ok.lost;rw[AMp (show(0:Int)≤a∧a<((Uf q).2.2.2.2.2.1.length:Int)from⟨ASb.1,xS⟩),show(Uf q).2.2.2.2.2.1.getD a.toNat (0,[],())=q.1.AG.getD a.toNat Ag from rfl,show((Uf q).2.1,(Uf q).1.1.1.2.1,(Uf q).2.2.1,(Uf q).2.2.2.1,(Uf q).2.2.2.2.1,(Uf q).1.1.1.2.2.2.2.2.1,(Uf q).2.2.2.2.2.1,(Uf q).2.2.2.2.2.2.1,(Uf q).2.2.2.2.2.2.2.1,(Uf q).2.2.2.2.2.2.2.2.1,(Uf q).1.1.1.2.2.2.2.2.2.2.2.2.2.1,())=q.1 from rfl,show((Uf q).2.2.2.2.1,(Uf q).1.1.1.2.2.2.2.2.1,())=CJ q.1 from rfl,ET (by show AX Bh q.1.Ao≤_;omega)];simp only[AD];unfold aY;rw[show q.1.2.2.2.1=q.1.lost from rfl,show(CJ q.1).1=q.1.Ao from rfl,Hr (by omega) (by omega)];simp only[AD];have tP:∀x∈less (A5 q.1.Ao (q.1.AG.getD a.toNat Ag).1) q.1.lost,CO x:=fun x hx=>by
  have:=nH hi.ok x (wc x hx);unfold CO;omega
 have:=tq (ws:=(q.1.AG.getD a.toNat Ag).2.1) LH ha (less (A5 q.1.Ao (q.1.AG.getD a.toNat Ag).1) q.1.lost).length 0 (f:=Ac) hi (by rw[Xc];exact hr) tP (by omega) (by omega) (Ae (by omega));exact this
def AVc(w:AA)(a:Int)(d:ABp):Vq:=(((((),w.2.1,(),(),(),w.2.2.2.2.2.1,(),(),(),(),w.2.2.2.2.2.2.2.2.2.2.1,()),a,d,()),()),(w.1,w.2.2.1,w.2.2.2.1,w.2.2.2.2.1,w.2.2.2.2.2.2.1,w.2.2.2.2.2.2.2.1,w.2.2.2.2.2.2.2.2.1,w.2.2.2.2.2.2.2.2.2.1,()))
theorem uD{x:ABp}(h:x∈[[],[97],[98,99]]):x.length≤40:=by
 simp only[AQQ,List.not_mem_nil,or_false]at h;rcases h with rfl|rfl|rfl<;>simp
theorem ADH{x:AAG}(hc:x.length≤2^30):∃w a d,Mm x=some (AVc w a d)∧fW w∧AX A_ w.Aj≤50000∧CO a∧d.length≤40:=by
 obtain⟨h0,e0⟩:=AD_ hc;unfold Mm;rw[e0];simp only[AD];obtain⟨q,i1,h1,y,e1,MI,hq⟩:=vh hc (i:=0) (hh:=h0) ⟨by omega,by omega⟩ hc;rw[e1];simp only[AD];obtain⟨x5,i5,h5,y5,e5,hi5,_⟩:=P3 hc (code:=x) (n:=5) (h:=h1) MI (by omega);rw[e5];simp only[AD]
 generalize pQ:dwW q y=w at hq
 obtain⟨⟨LH,hvin⟩,hwt,hwr⟩:=hq;have a0:y.1=w.1:=by rw[←pQ]
 have a1:y.2.1=w.2.2.1:=by rw[←pQ]
 have a2:y.2.2.1=w.2.2.2.1:=by rw[←pQ]
 have a3:y.2.2.2.1=w.2.2.2.2.1:=by rw[←pQ]
 have a4:y.2.2.2.2.1=w.2.2.2.2.2.2.1:=by rw[←pQ]
 have a5:y.2.2.2.2.2.1=w.2.2.2.2.2.2.2.1:=by rw[←pQ]
 have a6:y.2.2.2.2.2.2.1=w.2.2.2.2.2.2.2.2.1:=by rw[←pQ]
 have a7:y.2.2.2.2.2.2.2.1=w.2.2.2.2.2.2.2.2.2.1:=by rw[←pQ]
 have a8:q.1.2.1=w.2.1:=by rw[←pQ]
 have a9:q.1.2.2.2.2.2.1=w.2.2.2.2.2.1:=by rw[←pQ]
 have a10:q.1.2.2.2.2.2.2.2.2.2.2.1=w.2.2.2.2.2.2.2.2.2.2.1:=by rw[←pQ]
 cases x5.1 with
 |true=>
  obtain⟨x6,i6,h6,y6,e6,hi6,hq6⟩:=B5 hc (code:=x) (n:=5) (h:=h5) hi5 (by omega);rw[ANk,e6];simp only[AD];obtain⟨x7,i7,h7,y7,e7,hi7,hq7⟩:=fi hc (code:=x) (l:=[[],[97],[98,99]]) (h:=h6) hi6 (by simp) (by simp);rw[e7];simp only[AD];rw[a0,a1,a2,a3,a4,a5,a6,a7,a8,a9,a10];exact⟨w,_,x7.1,rfl,LH,hwr,um _,uD hq7⟩
 |false=>
  obtain⟨x7,i7,h7,y7,e7,hi7,hq7⟩:=fi hc (code:=x) (l:=[[],[97],[98,99]]) (h:=h5) hi5 (by simp) (by simp);rw[ANI,e7];simp only[AD];rw[a0,a1,a2,a3,a4,a5,a6,a7,a8,a9,a10];exact⟨w,_,x7.1,rfl,LH,hwr,um _,uD hq7⟩
theorem ALy{w u:AA}{d:ABp}{p:Int}(hu:Me u)(LH:fW u)(hh:holds (AY u) (Pt u p)=true)(hl:u.AU.length=w.AU.length+1):∀(m i n:Nat) (f:Bool),i+m=u.AU.length→m<n→
  (f=true∨ ∃j,i≤j∧ ∃hj:j<u.AU.length,(u.AU[j]).1=p∧(u.AU[j]).2.2.1=true∧(u.AU[j]).2.1=d)→
  E9 n d p true f (i:Int) w.2.1 w.2.2.2.2.2.1 w.2.2.2.2.2.2.2.2.2.2.1 w.1 w.2.2.1 w.2.2.2.1 w.2.2.2.2.1 w.2.2.2.2.2.2.1 w.2.2.2.2.2.2.2.1 w.2.2.2.2.2.2.2.2.1 w.2.2.2.2.2.2.2.2.2.1 u.2.1 u.2.2.2.2.2.1 u.2.2.2.2.2.2.2.2.2.2.1 u.1 u.2.2.1 u.2.2.2.1 u.2.2.2.2.1 u.2.2.2.2.2.2.1 u.2.2.2.2.2.2.2.1 u.2.2.2.2.2.2.2.2.1 u.2.2.2.2.2.2.2.2.2.1=some ((true,()),()):=by
 have tP:=hu.OS;have hc:=(Db hu.cfg).2.1;have pE:u.Aq.length≤8:=by rw[hu.nw];exact hc
 have hlu:u.2.2.2.2.2.2.2.2.2.1.length=u.AU.length:=rfl;intro m
 induction m with
 |zero=>
  intro i n f hi hn hf;obtain⟨n,rfl⟩:∃n',n=n'+1:=⟨n-1,by omega⟩;have hf':f=true:=by
   rcases hf with hf|⟨j,j1,j2,_⟩
   ·exact hf
   ·omega
  subst hf';simp only[E9,L6,AB];have hlen:(Pt u p).length≤2^40:=by
   have:=tN (w:=u) (p:=p) u.Aq.length 0;rw[kO];omega
  rw[AM5 (by omega),ANk,ANk,show(u.1,u.2.1,u.2.2.1,u.2.2.2.1,u.2.2.2.2.1,u.2.2.2.2.2.1,u.2.2.2.2.2.2.1,u.2.2.2.2.2.2.2.1,u.2.2.2.2.2.2.2.2.1,u.2.2.2.2.2.2.2.2.2.1,u.2.2.2.2.2.2.2.2.2.2.1,())=u from rfl,j7 hu LH];simp only[AD];rw[show(u.1,u.2.1,())=AY u from rfl,Fp (by omega) hlen,hh,NV LH,GV.2 hu];simp only[AD];rw[ANk,show((u.2.2.2.2.2.2.2.2.2.1.length:Int)==AS ((w.2.2.2.2.2.2.2.2.2.1.length:Int)+1))=true by
   rw[AUP,show u.2.2.2.2.2.2.2.2.2.1.length=w.2.2.2.2.2.2.2.2.2.1.length+1 from hl,AJ (by omega) (by have:u.2.2.2.2.2.2.2.2.2.1.length=w.2.2.2.2.2.2.2.2.2.1.length+1:=hl;have:u.2.2.2.2.2.2.2.2.2.1.length≤120:=tP;omega)];omega,ANk]
 |succ m ih=>
  intro i n f hi hn hf;obtain⟨n,rfl⟩:∃n',n=n'+1:=⟨n-1,by omega⟩;have Hh:i<u.AU.length:=by omega
  simp only[E9,L6,AB];have go:∀g:Bool,(g=true∨ ∃j,i+1≤j∧ ∃hj:j<u.AU.length,(u.AU[j]).1=p∧(u.AU[j]).2.2.1=true∧(u.AU[j]).2.1=d)→
    E9 n d p true g (AS ((i:Int)+1)) w.2.1 w.2.2.2.2.2.1 w.2.2.2.2.2.2.2.2.2.2.1 w.1 w.2.2.1 w.2.2.2.1 w.2.2.2.2.1 w.2.2.2.2.2.2.1 w.2.2.2.2.2.2.2.1 w.2.2.2.2.2.2.2.2.1 w.2.2.2.2.2.2.2.2.2.1 u.2.1 u.2.2.2.2.2.1 u.2.2.2.2.2.2.2.2.2.2.1 u.1 u.2.2.1 u.2.2.2.1 u.2.2.2.2.1 u.2.2.2.2.2.2.1 u.2.2.2.2.2.2.2.1 u.2.2.2.2.2.2.2.2.1 u.2.2.2.2.2.2.2.2.2.1=some ((true,()),()):=fun g hg=>by
   rw[AJ (by omega) (by omega),show(i:Int)+1=((i+1:Nat):Int)by omega];exact ih (i+1) n g (by omega) (by omega) hg
  rw[AMp (by omega)];cases f with
  |true=>rw[ANk];exact go true (.inl rfl)
  |false=>
   rw[ANI];simp only[AMp (show(0:Int)≤(i:Int)∧(i:Int)<(u.2.2.2.2.2.2.2.2.2.1.length:Int)from⟨by omega,by have:u.2.2.2.2.2.2.2.2.2.1.length=u.AU.length:=rfl;omega⟩),ANN];rw[show u.2.2.2.2.2.2.2.2.2.1.getD i (0,[],false,())=u.AU[i]from NU Hh];obtain⟨j,j1,j2,j3,j4,j5⟩:=hf.resolve_left (by decide);by_cases hji:j=i
   ·subst hji
    rw[AUP.2 j3,ANk,j4,ANk,AUP.2 j5];exact go true (.inl rfl)
   ·have later:∀g:Bool,(g=true∨ ∃j,i+1≤j∧ ∃hj:j<u.AU.length,(u.AU[j]).1=p∧(u.AU[j]).2.2.1=true∧(u.AU[j]).2.1=d):=fun g=> .inr ⟨j,by omega,j2,j3,j4,j5⟩
    cases(u.AU[i]).1==p with
    |false=>rw[ANI];exact go _ (later _)
    |true=>
     rw[ANk];cases(u.AU[i]).2.2.1 with
     |false=>rw[ANI];exact go _ (later _)
     |true=>rw[ANk];exact go _ (later _)
theorem lG{x:AAG}(hx:Go.Fw.Vd (.sl (.int .u8)) x):MH x=some ((true,()),()):=by
 unfold MH SX rr;simp only[ANY,AB];by_cases hs:(x.length:Int)>1048576
 ·rw[AMp hs]
 rw[AM5 hs];obtain⟨w,a,d,e1,LH,Xc,ha,hd⟩:=ADH (x:=x) (by omega);rw[e1];simp only[ANY,AVc];rw[show(w.1,w.2.1,w.2.2.1,w.2.2.2.1,w.2.2.2.2.1,w.2.2.2.2.2.1,w.2.2.2.2.2.2.1,w.2.2.2.2.2.2.2.1,w.2.2.2.2.2.2.2.2.1,w.2.2.2.2.2.2.2.2.2.1,w.2.2.2.2.2.2.2.2.2.2.1,())=w from rfl,jX LH ha hd (by omega),ja LH ha hd (by omega)];simp only[ANY];rcases AMo (Dg w)with hw|hw
 rotate_left
 ·rw[hw]
  show cond (false !=false) _ (cond (!false) (cond _ (some ((true,()),())) (some ((((QB.2.2.1.length:Int)==0),()),()))) _)=_
  rw[bne_self_eq_false,ANI,ATb,ANk];cases((_:Int)==_)<;>rfl
 have Ei:=GV.1 hw;rw[hw,AMp rfl,AMp rfl];have hno:∀R,cond (((cr (w,false)).1.1.2.1 !=(cr (w,false)).1.1.2.1)) (some ((false,()),())) (cond (!(cr (w,false)).1.1.2.1) (cond (((cr (w,false)).2.2.2.2.2.2.2.2.1.length:Int)==(w.2.2.2.2.2.2.2.2.2.1.length:Int)) (some ((true,()),())) (some ((((cr (w,false)).2.2.1.length:Int)==0,()),()))) R)=some ((true,()),()):=fun R=>by
  rw[bne_self_eq_false,ANI,show(!(cr (w,false)).1.1.2.1)=true from rfl,ANk,show(((cr (w,false)).2.2.2.2.2.2.2.2.1.length:Int)==(w.2.2.2.2.2.2.2.2.2.1.length:Int))=true from AYb _,ANk]
 unfold hAdd;by_cases h0:(doAdd w a d).2=0
 rotate_left
 ·rw[AM5 h0,AM5 h0]
  exact hno _
 rw[AMp h0,AMp h0,AFQ Ei hd h0];rcases AMo (Oa (oL false (doAdd w a d).1 a) (Ti (doAdd w a d).1 a))with hsu|hsu
 rotate_left
 ·rw[hsu]
  exact hno _
 rw[hsu,AMp rfl,AMp rfl];obtain⟨⟨sn,f1,f2,f3,f4⟩,g1,g2,g3,g4,g5,g6⟩:=ADF Ei hd h0 hsu;have hi:=kL Ei hd h0;have AUx:(oL false (doAdd w a d).1 a).Aj=w.Aj:=by
  unfold oL;rw[tT hi nj];exact py
 have hwu:=g3.ABn (by rw[AUx];omega);have hpm:=hi.plM;have ha0:0≤a:=by
  unfold doAdd at h0;by_cases hx:BF a 0 ((w.AG.length:Int)-1)=true
  ·have:=Ak.1 hx;omega
  ·have wF:BF a 0 ((w.AG.length:Int)-1)=false:=by simpa using hx
   rw[wF]at h0;cases h0
 rw[←g4,←g5]at hpm;obtain⟨j,hj,ej⟩:=AT2 f1
 generalize oL false (doAdd w a d).1 a=u at*
 generalize oL true (doAdd w a d).1 a=u' at*
 generalize Ti (doAdd w a d).1 a=p at*
 rw[show((cr (u,true)).1.1.2.1 !=(cr (u',true)).1.1.2.1)=false from rfl,ANI,show(!(cr (u,true)).1.1.2.1)=false from rfl,ANI,AMp (show(0:Int)≤a∧a<((cr (u,true)).2.2.2.2.2.1.length:Int)from⟨ha0,by have:(cr (u,true)).2.2.2.2.2.1.length=u.AG.length:=rfl;omega⟩),show(cr (u,true)).2.2.2.2.2.1.getD a.toNat (0,[],())=u.AG.getD a.toNat Ag from rfl,Fe,hpm.1,hpm.2.2.1];simp only[ANY];subst ej;exact ALy g3 hwu g1 g2 u.AU.length 0 Ac false (by omega) (Ae (by have:=g3.OS;omega)) (.inr ⟨j,by omega,hj,f2,f3,f4⟩)
end Go.M
end
