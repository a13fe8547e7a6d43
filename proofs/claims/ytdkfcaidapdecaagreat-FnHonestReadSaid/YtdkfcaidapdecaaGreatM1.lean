/- Plain facts on what the functions compute. -/
import Derived.Test.YtdkfcaidapdecaaGreatM0
set_option linter.unusedVariables false
set_option linter.unusedSimpArgs false
set_option linter.unusedSectionVars false
section
set_option maxRecDepth 8000
namespace Go.M
open Go.M.H (AK AO Ax Al AA Cp AN A6 AQ Aj Bc A7 Br Ai B5 AU AW AX Ag Bb As Am A0 D8 CG Ct C3)
theorem eK{s:AAM}{p:Int}:∀{l:List A7} {b:Option AK},(∀x,b=some x→FZ x=true)→ ∀x,HG s p b l=some x→FZ x=true
 |[],b,hb,x,h=>hb x h
 |a::l,b,hb,x,h=>by
  simp only[HG]at h;split at h
  ·rename_i hc
   simp only[ALo]at hc;refine eK (l:=l) ?_ x h
   intro z hz;split at hz
   ·rename_i z' hz'
    unfold better at hz;split at hz
    ·rw[←AVB hz];exact hc.2.2.1
    ·rw[←AVB hz];exact hb _ rfl
   ·rw[←AVB hz];exact hc.2.2.1
  ·exact eK (l:=l) hb x h
theorem kD{c:B_}{g:AN}{sure:Int}{r:Aj}{l:List A7}(h:∀e∈r.2.2.1,e.2.2.1.length≤40)(h0:(Ck c g sure r l).2=0):∀e∈(Ck c g sure r l).1.2.2.1,e.2.2.1.length≤40:=by
 have app:∀(ev:Bc),ev.2.2.1.length≤40→ ∀e∈r.2.2.1++[ev],e.2.2.1.length≤40:=fun ev hev e he=>by
  rcases AOO.1 he with he|he
  ·exact h e he
  ·rw[AP_.1 he];exact hev
 have hf:∀p,(Qa p (HG (g.1.getD (r.1-1).toNat Gt).1 p none l)).2.2.1.length≤40:=fun p=>by
  cases hb:HG (g.1.getD (r.1-1).toNat Gt).1 p none l with
  |none=>show 0≤40;omega
  |some x=>
   have:=(FI.1 (eK (b:=none) (fun x hx=>by cases hx) x hb)).len;unfold Qa;dsimp only;split
   ·show 0≤40;omega
   ·exact this
 revert h0
 unfold Ck;dsimp only;split
 ·intro h0;cases h0
 split
 ·intro h0;cases h0
 split
 ·intro _;exact app _ (by show 0≤40;omega)
 split
 ·intro _;exact app _ (by show 0≤40;omega)
 split
 ·intro h0;cases h0
 split
 ·intro h0;cases h0
 intro _;exact app _ (hf _)
theorem BA{w:AA}{n:Int}{q:AO×Bool}:(putAt w n q).1.Af=w.Af:=by
 unfold putAt;split<;>rfl
theorem tM{w:AA}{a k:Int}(h:uH w):uH (CY w a k).1:=by
 unfold CY;split
 ·exact h
 dsimp only;split
 ·exact h
 rename_i h2;intro r hr;rcases AQX hr with hr|rfl
 ·exact h r hr
 ·refine kD ?_ (by simpa using h2)
  by_cases hl:a.toNat<w.Af.length
  ·exact h _ (BU hl)
  ·rw[List.getD,AQU (by omega)]
   intro e he;exact absurd he (by simp)
theorem DS{w w':AA}(h:uH w)(e:w'.Af=w.Af):uH w':=by
 unfold uH;rw[e];exact h
theorem xV{all:Bool}{w:AA}{d:Br}(h:uH w):uH (Qm all w d).1:=by
 unfold Qm;by_cases c:d.1=1
 ·rw[ALC c]
  clear c
  refine DS h ?_
  unfold We
  try dsimp only
  repeat' split
  all_goals first|rfl|exact BA
 rw[ALG c];clear c;by_cases c:d.1=2
 ·rw[ALC c]
  clear c
  refine DS h ?_
  unfold doAdd
  try dsimp only
  repeat' split
  all_goals first|rfl|exact BA
 rw[ALG c];clear c;by_cases c:d.1=3
 ·rw[ALC c]
  clear c
  refine DS h ?_
  unfold Sy
  try dsimp only
  repeat' split
  all_goals first|rfl|exact BA
 rw[ALG c];clear c;by_cases c:d.1=4
 ·rw[ALC c]
  clear c
  refine DS h ?_
  unfold Xa
  try dsimp only
  repeat' split
  all_goals first|rfl|exact BA
 rw[ALG c];clear c;by_cases c:d.1=5
 ·rw[ALC c]
  clear c
  refine DS h ?_
  unfold RW
  try dsimp only
  repeat' split
  all_goals first|rfl|exact BA
 rw[ALG c];clear c;by_cases c:d.1=6
 ·rw[ALC c]
  clear c
  refine DS h ?_
  unfold Xm
  try dsimp only
  repeat' split
  all_goals first|rfl|exact BA
 rw[ALG c];clear c;by_cases c:d.1=7
 ·rw[ALC c]
  clear c
  refine DS h ?_
  unfold Xd
  try dsimp only
  repeat' split
  all_goals first|rfl|exact BA
 rw[ALG c];clear c;by_cases c:d.1=8
 ·rw[ALC c]
  clear c
  refine DS h ?_
  unfold Xb
  try dsimp only
  repeat' split
  all_goals first|rfl|exact BA
 rw[ALG c];clear c;by_cases c:d.1=9
 ·rw[ALC c]
  clear c
  refine DS h ?_
  unfold W0
  try dsimp only
  repeat' split
  all_goals first|rfl|exact BA
 rw[ALG c];clear c;by_cases c:d.1=10
 ·rw[ALC c]
  clear c
  refine DS h ?_
  unfold XN
  try dsimp only
  repeat' split
  all_goals first|rfl|exact BA
 rw[ALG c];clear c;by_cases c:d.1=11
 ·rw[ALC c]
  clear c
  refine DS h ?_
  unfold cc
  try dsimp only
  repeat' split
  all_goals first|rfl|exact BA
 rw[ALG c];clear c;by_cases c:d.1=12
 ·rw[ALC c]
  clear c
  refine DS h ?_
  unfold RS
  try dsimp only
  repeat' split
  all_goals first|rfl|exact BA
 rw[ALG c];clear c;by_cases c:d.1=13
 ·rw[ALC c]
  clear c
  refine DS h ?_
  unfold bK
  try dsimp only
  repeat' split
  all_goals first|rfl|exact BA
 rw[ALG c];clear c;by_cases c:d.1=14
 ·rw[ALC c];exact tM h
 rw[ALG c];clear c;by_cases c:d.1=15
 ·rw[ALC c]
  clear c
  refine DS h ?_
  unfold Zd
  try dsimp only
  repeat' split
  all_goals first|rfl|exact BA
 rw[ALG c];clear c;refine DS h ?_
 unfold RX;split
 ·rfl
 ·exact BA
theorem qH{c:B_}{g:AN}{sure:Int}{r:Aj}{l:List A7}(h:∀e∈r.2.2.1,Ce e.2.1)(h0:(Ck c g sure r l).2=0):∀e∈(Ck c g sure r l).1.2.2.1,Ce e.2.1:=by
 have app:∀(ev:Bc),Ce ev.2.1→ ∀e∈r.2.2.1++[ev],Ce e.2.1:=fun ev hev e he=>by
  rcases AOO.1 he with he|he
  ·exact h e he
  ·rw[AP_.1 he];exact hev
 have hf:∀p b,(Qa p b).2.1=p:=fun p b=>by
  cases b with
  |none=>rfl
  |some x=>unfold Qa;dsimp only;split<;>rfl
 revert h0
 unfold Ck;dsimp only;split
 ·intro h0;cases h0
 rename_i FX;have ARX:Mr c g=true∧Yt r=true:=by
  rcases AK_ (Mr c g)with h1|h1
  ·rcases AK_ (Yt r)with h2|h2
   ·exact⟨h1,h2⟩
   ·rw[h1,h2]at FX;exact absurd rfl FX
  ·rw[h1]at FX;exact absurd rfl FX
 have hrg:=(J5.1 ARX.1).tin;have Xu:=TY.1 ARX.2;have hre:=Xu.ep;have hro:=Xu.off;split
 ·intro h0;cases h0
 split
 ·intro _;exact app _ hrg
 split
 ·intro _;exact app _ (Nq (by show-1000≤r.1+1∧r.1+1≤1000;omega))
 split
 ·intro h0;cases h0
 split
 ·intro h0;cases h0
 intro _;refine app _ ?_
 rw[hf];unfold Ce HB;omega
theorem AAB{w:AA}{a k:Int}(h:Zc w):Zc (CY w a k).1:=by
 unfold CY;split
 ·exact h
 dsimp only;split
 ·exact h
 rename_i h2;intro r hr;rcases AQX hr with hr|rfl
 ·exact h r hr
 ·refine qH ?_ (by simpa using h2)
  by_cases hl:a.toNat<w.Af.length
  ·exact h _ (BU hl)
  ·rw[List.getD,AQU (by omega)]
   intro e he;exact absurd he (by simp)
theorem Fm{w w':AA}(h:Zc w)(e:w'.Af=w.Af):Zc w':=by
 unfold Zc;rw[show w'.2.2.2.2.2.2.2.2.1=w.2.2.2.2.2.2.2.2.1 from e];exact h
theorem AHZ{all:Bool}{w:AA}{d:Br}(h:Zc w):Zc (Qm all w d).1:=by
 unfold Qm;by_cases c:d.1=1
 ·rw[ALC c]
  clear c
  refine Fm h ?_
  unfold We
  try dsimp only
  repeat' split
  all_goals first|rfl|exact BA
 rw[ALG c];clear c;by_cases c:d.1=2
 ·rw[ALC c]
  clear c
  refine Fm h ?_
  unfold doAdd
  try dsimp only
  repeat' split
  all_goals first|rfl|exact BA
 rw[ALG c];clear c;by_cases c:d.1=3
 ·rw[ALC c]
  clear c
  refine Fm h ?_
  unfold Sy
  try dsimp only
  repeat' split
  all_goals first|rfl|exact BA
 rw[ALG c];clear c;by_cases c:d.1=4
 ·rw[ALC c]
  clear c
  refine Fm h ?_
  unfold Xa
  try dsimp only
  repeat' split
  all_goals first|rfl|exact BA
 rw[ALG c];clear c;by_cases c:d.1=5
 ·rw[ALC c]
  clear c
  refine Fm h ?_
  unfold RW
  try dsimp only
  repeat' split
  all_goals first|rfl|exact BA
 rw[ALG c];clear c;by_cases c:d.1=6
 ·rw[ALC c]
  clear c
  refine Fm h ?_
  unfold Xm
  try dsimp only
  repeat' split
  all_goals first|rfl|exact BA
 rw[ALG c];clear c;by_cases c:d.1=7
 ·rw[ALC c]
  clear c
  refine Fm h ?_
  unfold Xd
  try dsimp only
  repeat' split
  all_goals first|rfl|exact BA
 rw[ALG c];clear c;by_cases c:d.1=8
 ·rw[ALC c]
  clear c
  refine Fm h ?_
  unfold Xb
  try dsimp only
  repeat' split
  all_goals first|rfl|exact BA
 rw[ALG c];clear c;by_cases c:d.1=9
 ·rw[ALC c]
  clear c
  refine Fm h ?_
  unfold W0
  try dsimp only
  repeat' split
  all_goals first|rfl|exact BA
 rw[ALG c];clear c;by_cases c:d.1=10
 ·rw[ALC c]
  clear c
  refine Fm h ?_
  unfold XN
  try dsimp only
  repeat' split
  all_goals first|rfl|exact BA
 rw[ALG c];clear c;by_cases c:d.1=11
 ·rw[ALC c]
  clear c
  refine Fm h ?_
  unfold cc
  try dsimp only
  repeat' split
  all_goals first|rfl|exact BA
 rw[ALG c];clear c;by_cases c:d.1=12
 ·rw[ALC c]
  clear c
  refine Fm h ?_
  unfold RS
  try dsimp only
  repeat' split
  all_goals first|rfl|exact BA
 rw[ALG c];clear c;by_cases c:d.1=13
 ·rw[ALC c]
  clear c
  refine Fm h ?_
  unfold bK
  try dsimp only
  repeat' split
  all_goals first|rfl|exact BA
 rw[ALG c];clear c;by_cases c:d.1=14
 ·rw[ALC c];exact AAB h
 rw[ALG c];clear c;by_cases c:d.1=15
 ·rw[ALC c]
  clear c
  refine Fm h ?_
  unfold Zd
  try dsimp only
  repeat' split
  all_goals first|rfl|exact BA
 rw[ALG c];clear c;refine Fm h ?_
 unfold RX;split
 ·rfl
 ·exact BA
theorem wN{all:Bool}{w:AA}{d:Br}(h:Zc w)(e:(Ij all w d).2=0):Zc (Ij all w d).1:=by
 unfold Ij at*;by_cases hc:(!Jq w|| !Qe d)=true
 ·rw[ALC hc]at e;cases e
 ·rw[ALG hc];exact AHZ h
theorem uz{c:B_}:Zc (aJ c):=fun r hr=>by
 have:r=(1,1,[],()):=by
  have hr':r∈([(1,1,[],()),(1,1,[],())]:List Aj):=hr;simpa using hr'
 subst this;intro e he;cases he
theorem qM{all:Bool}{w:AA}{d:Br}(h:uH w)(e:(Ij all w d).2=0):uH (Ij all w d).1:=by
 unfold Ij at*;by_cases hc:(!Jq w|| !Qe d)=true
 ·rw[ALC hc]at e;cases e
 ·rw[ALG hc];exact xV h
theorem ud{c:B_}(hc:Fi c=true):On (aJ c)∧uH (aJ c):=by
 refine⟨⟨hc,by simp[aJ,H.AA.BG],YM hc,.inr holds_nil,fun i hi=> ?_,⟨hc,by show 0≤30;omega,.inl rfl,fun e he=>(by cases he),fun i hi=>by exact absurd hi (by show¬i<0;omega)⟩,by show 0≤4;omega,by show 0≤1;omega,fun x hx=>(by cases hx),List.Pairwise.nil,fun x hx=>(by cases hx),rfl,fun r hr=> ?_,by show 0≤120;omega,fun x hx=>(by cases hx),List.Pairwise.nil⟩,fun r hr=> ?_⟩
 ·have:(aJ c).BG.getD i D9=D9:=by
   show(List.replicate c.1.length D9).getD i D9=D9
   rw[List.getD,List.getElem?_replicate];split<;>rfl
  rw[this];exact⟨bQ.nil,fun _=>rfl⟩
 ·have:r=(1,1,[],()):=by
   have hr':r∈([(1,1,[],()),(1,1,[],())]:List Aj):=hr;simpa using hr'
  subst this;exact⟨by show(1:Int)≤1∧(1:Int)≤31;omega,by show(1:Int)≤1∧(1:Int)≤61;omega,by show 0≤120;omega⟩
 ·have:r=(1,1,[],()):=by
   have hr':r∈([(1,1,[],()),(1,1,[],())]:List Aj):=hr;simpa using hr'
  subst this;intro e he;cases he
theorem km{c:B_}(hc:Fi c=true):Hc c=some (((((),c.2.1,(),(),(),0,(),(),(),(),false,()),true,()),()),(c.1,List.replicate c.1.length D9,[],[],[],[],[(1,1,[],()),(1,1,[],())],[],())):=by
 have hl:=(Dw hc).2.1;unfold Hc;rw[show(c.1,c.2.1,())=c from rfl,HS (by omega),hc];simp only[AD,ALW,AL5];rw[ALC (by rw[An];omega),ALC ⟨by omega,by omega,by rw[An];omega⟩];rfl
def eg(x:(AKD×Unit))(y:Unit×Unit×Unit×Unit×Unit×Unit×Unit×Unit×(List Br)×List Int×(List AO)×List Int×(List Cp)×(List AQ)×(List Ax)×(List Aj)×(List Al)×Unit):AA:=
 (y.2.2.2.2.2.2.2.2.2.1,x.1.2.2.1.2.1,y.2.2.2.2.2.2.2.2.2.2.1,y.2.2.2.2.2.2.2.2.2.2.2.1,y.2.2.2.2.2.2.2.2.2.2.2.2.1,x.1.2.2.1.2.2.2.2.2.1,y.2.2.2.2.2.2.2.2.2.2.2.2.2.1,y.2.2.2.2.2.2.2.2.2.2.2.2.2.2.1,y.2.2.2.2.2.2.2.2.2.2.2.2.2.2.2.1,y.2.2.2.2.2.2.2.2.2.2.2.2.2.2.2.2.1,x.1.2.2.1.2.2.2.2.2.2.2.2.2.2.1,())
section
variable{code:AAM} (hc:code.length≤2^30)
include hc
theorem AOK{T:Int}(hT:T≤1000){z1 z2:Int}{z3:Bool}:∀(n k:Nat) (i hh:Int) (w:AA) (acc:List Br),CS code i→(k:Int)≤max T 0→(T-k).toNat<n→acc.length≤k→On w→uH w→Zc w→
  OK code (fun x y=>On (eg x y)∧uH (eg x y)∧Zc (eg x y)) (DY n T k code i hh 0 0 false [] [] [] [] [] [] [] [] 0 0 false [] [] [] [] [] [] [] [] z1 z2 z3 w.2.1 w.2.2.2.2.2.1 w.2.2.2.2.2.2.2.2.2.2.1 w.1 w.2.2.1 w.2.2.2.1 w.2.2.2.2.1 w.2.2.2.2.2.2.1 w.2.2.2.2.2.2.2.1 w.2.2.2.2.2.2.2.2.1 w.2.2.2.2.2.2.2.2.2.1 acc):=by
 intro n
 induction n with
 |zero=>intro k i hh w acc _ _ h;omega
 |succ n ih=>
  intro k i hh w acc hi hk hn hb hw hr hv;simp only[DY,Ps];refine OK.Pk (fun Hw=> ?_) (fun wK=>OK.some hi ⟨hw,hr,hv⟩);rw[show(w.1,w.2.1,w.2.2.1,w.2.2.2.1,w.2.2.2.2.1,w.2.2.2.2.2.1,w.2.2.2.2.2.2.1,w.2.2.2.2.2.2.2.1,w.2.2.2.2.2.2.2.2.1,w.2.2.2.2.2.2.2.2.2.1,w.2.2.2.2.2.2.2.2.2.2.1,())=w from rfl];refine OK.bind (vE hc hw hi) fun x i1 h1 y K3 hq=> ?_
  dsimp only;refine OK.ite (by rw[An];omega) ?_
  refine OK.pure (bw (d:=x.1) (hw.win hr) hq.1) ?_
  rw[AH (by omega) (by omega),show((k:Int)+1)=((k+1:Nat):Int)by omega];refine OK.Fj (fun h0=> ?_) (fun h0=> ?_)
  ·have h0':(Ij true w x.1).2=0:=h0
   exact ih (k+1) i1 h1 (Ij true w x.1).1 (acc++[x.1]) K3 (by omega) (by omega) (by simp;omega) (KQ.1 (xu h0')) (qM hr h0') (wN hv h0')
  ·exact ih (k+1) i1 h1 w (acc++[x.1]) K3 (by omega) (by omega) (by simp;omega) hw hr hv
theorem AUP{T:Int}(hT:0≤T∧T≤500){dom:AAM}{b21:AAM}(hbl:b21.length≤100)(hd:bB dom 1):∀(n:Nat) (c i hh:Int),CS code i→1≤c∧c≤3→c.toNat+1000≤n→
  OK code (fun x y=>On (eg x y)∧uH (eg x y)∧Zc (eg x y)) (Eh n T code i hh 0 0 false [] [] [] [] [] [] [] [] 0 0 false [] [] [] [] [] [] [] [] c dom b21):=by
 intro n
 induction n with
 |zero=>intro c i hh _ _ h;omega
 |succ n ih=>
  intro c i hh hi sJ hn;have hg:bB dom c:=⟨hd.1,hd.2.1,sJ.1,sJ.2,hd.2.2.2.2⟩;have hdl:=hd.2.1;simp only[Eh,Q9];have fin:OK code (fun x y=>On (eg x y)∧uH (eg x y)∧Zc (eg x y)) ((Hc (dom,c,())).bind fun u6=>
    (AJ (AS (T+1)) code i hh).bind fun u7=>
    DY n u7.1.1 0 u7.2.1.1 u7.2.1.2.1 u7.2.1.2.2.1 0 0 false [] [] [] [] [] [] [] [] 0 0 false [] [] [] [] [] [] [] [] u6.1.1.1.2.1 u6.1.1.1.2.2.2.2.2.1 u6.1.1.1.2.2.2.2.2.2.2.2.2.2.1 u6.1.1.1.2.1 u6.1.1.1.2.2.2.2.2.1 u6.1.1.1.2.2.2.2.2.2.2.2.2.2.1 u6.2.1 u6.2.2.1 u6.2.2.2.1 u6.2.2.2.2.1 u6.2.2.2.2.2.1 u6.2.2.2.2.2.2.1 u6.2.2.2.2.2.2.2.1 u6.2.2.2.2.2.2.2.2.1 []):=by
   refine OK.pure (km hg.ok) ?_
   rw[AH (by omega) (by omega)];refine OK.bind (Bo hc hi (by omega)) fun x i1 h1 y K3 hq=> ?_
   have hwn:=ud hg.ok;exact AOK hc (T:=x.1) (by omega) n 0 i1 h1 (aJ (dom,c,())) [] K3 (by omega) (by omega) (by simp) hwn.1 hwn.2 uz
  refine OK.Pk (fun Hw=> ?_) (fun wK=>fin);refine OK.pure (Dm (by show dom.length≤_;omega) (by omega)) ?_
  refine OK.cond (fun _=> ?_) (fun _=>fin);rw[AH (by omega) (by omega)];exact ih (c-1) i hh hi (by omega) (by omega)
theorem ARE{T:Int}(hT:0≤T∧T≤500){dom:AAM}{c:Int}(hd:bB dom c):∀(n k:Nat) (i hh:Int) (b:AAM),CS code i→k≤dom.length→dom.length-k+1010≤n→b.length≤k→
  OK code (fun x y=>On (eg x y)∧uH (eg x y)∧Zc (eg x y)) (EZ n T k code i hh 0 0 false [] [] [] [] [] [] [] [] 0 0 false [] [] [] [] [] [] [] [] c dom b):=by
 have hdl:=hd.2.1;intro n
 induction n with
 |zero=>intro k i hh b _ _ h;omega
 |succ n ih=>
  intro k i hh b hi hk hn hb;simp only[EZ,Qu];refine OK.Pk (fun Hw=> ?_) (fun wK=> ?_)
  ·refine OK.ite (by rw[An];omega) ?_
   rw[AH (by omega) (by omega),show((k:Int)+1)=((k+1:Nat):Int)by omega];exact ih (k+1) i hh _ hi (by omega) (by omega) (by simp;omega)
  ·exact AUP hc hT (by omega) ⟨hd.1,hd.2.1,by omega,by omega,hd.2.2.2.2⟩ n c i hh hi ⟨hd.2.2.1,hd.2.2.2.1⟩ (by have:=hd.2.2.2.1;omega)
theorem wt{T:Int}(hT:0≤T∧T≤500){i hh:Int}(hi:CS code i):OK code (fun x y=>On (eg x y)∧uH (eg x y)∧Zc (eg x y)) (KH T code i hh):=by
 unfold KH Qt;obtain⟨l,c,i1,h1,e,hg,K3⟩:=df hc (h:=hh) hi;rw[e];have hgl:=hg.2.1;exact ARE hc hT hg AY 0 i1 h1 [] K3 (by omega) (AQ3 (Aa (by omega))) (by simp)
end
end Go.M
end
section
set_option maxRecDepth 8000
namespace Go.M
open Go.M.H (AK AO Ax Al AA Cp AN A6 AQ Aj Bc A7 Br Ai B5 AU AW AX Ag Bb As Am A0 D8 CG Ct C3)
abbrev AUm:AK×Unit→Unit→Prop:=fun x _=>Ce x.1.1∧x.1.2.2.2.1.length≤41
section
variable{code:AAM} (hc:code.length≤2^30)
include hc
theorem WC{i hh:Int}(hi:CS code i):OK code (fun(x:AA3) (_:Unit)=>Ce x.1) (E_ code i hh):=by
 obtain⟨v,i1,h1,e,a,b,K3⟩:=nP hc (h:=hh) hi;exact⟨(v,()),i1,h1,(),e,K3,by unfold Ce;omega⟩
theorem lM{i hh:Int}(hi:CS code i):OK code AUm (L5 code i hh):=by
 unfold L5;dsimp only;refine OK.bind (Bo hc hi (by omega)) fun x1 i1 h1 y1 K3 hq1=> ?_
 dsimp only at*;refine OK.bind (Bo hc K3 (by omega)) fun x2 i2 h2 y2 H0 qZ=> ?_
 dsimp only at*;rw[AH (by omega) (by omega),AH (x:=1+x2.1) (by omega) (by omega)];refine OK.pure (Ff (by omega) (by omega)) ?_
 dsimp only;have hp:=JE (e:=1+x1.1) (o:=1+x2.1) (by omega) (by omega);have hpi:=Gd hp.1;refine OK.bind (mw hc H0 (by simp) (by simp)) fun x3 i3 h3 y3 Kn Tc=> ?_
 dsimp only at*;have hl:x3.1.length≤41:=by
  simp only[APr,List.not_mem_nil,or_false]at Tc;rcases Tc with h|h|h|h|h<;>rw[h]<;>simp
 refine OK.bind (P_ hc Kn (by omega)) fun x4 i4 h4 y4 sU hq4=> ?_
 dsimp only;refine OK.cond (fun _=> ?_) (fun _=>OK.some sU ⟨hpi,hl⟩);refine OK.pure (D7 hpi) ?_
 dsimp only;refine OK.bind (Bo hc sU (by omega)) fun x5 i5 h5 y5 hi5 hq5=> ?_
 dsimp only;refine OK.bind (P_ hc hi5 (by omega)) fun x6 i6 h6 y6 hi6 hq6=> ?_
 dsimp only;exact OK.cond (fun _=>OK.some hi6 ⟨hpi,by show 0≤41;omega⟩) (fun _=>OK.some hi6 ⟨hpi,hl⟩)
theorem fy{i hh:Int}(hi:CS code i):OK code AUm (Qr code i hh):=by
 unfold Qr;refine OK.bind (lM hc hi) fun x i h y hi hq=> ?_
 dsimp only at*;refine OK.bind (Bo hc hi (by omega)) fun x2 i2 h2 y2 H0 qZ=> ?_
 dsimp only at*;refine OK.Fj (fun _=> ?_) (fun _=> ?_)
 ·refine OK.bind (WC hc H0) fun x3 i3 h3 y3 Kn Tc=> ?_
  exact OK.some Kn ⟨Tc,hq.2⟩
 refine OK.Fj (fun _=> ?_) (fun _=> ?_)
 ·refine OK.bind (Qc hc H0 (by simp) (by simp)) fun x3 i3 h3 y3 Kn Tc=> ?_
  exact OK.some Kn hq
 refine OK.Fj (fun _=>OK.some H0 hq) (fun _=> ?_);refine OK.Fj (fun _=> ?_) (fun _=>OK.some H0 hq);refine OK.bind (Bo hc H0 (by omega)) fun x3 i3 h3 y3 Kn Tc=> ?_
 dsimp only at*;rw[AH (by omega) (by omega)];refine OK.ite (by rw[An];omega) ?_
 refine OK.some Kn ⟨hq.1,?_⟩;simp only[AQ6,AQv];omega
abbrev StQ:ADu→((List AK)×(List AK)×Unit)→Prop:=fun x y=>iS (y.1,y.2.1,x.1.2.2.1,())∧y.1.length≤300∧y.2.1.length≤300∧(∀e∈y.1,Ag e≤41)∧(∀e∈y.2.1,Ag e≤41)
theorem AOM{s:AO}(h:bQ s):iS s∧s.1.length≤200∧s.2.1.length≤20∧(∀e∈s.1,Ag e≤41)∧(∀e∈s.2.1,Ag e≤41):=
 ⟨h.sin,h.nk,h.nl,fun e he=>by have:=(FI.1 (h.kept e he)).len;unfold Ag;omega,fun e he=>by have:=(FI.1 (h.late e he)).len;unfold Ag;omega⟩
theorem xt{x2 x3:List AK}{z:Int}{sl:Int}{l6:List AK}{i hh:Int}(hi:CS code i)(h6:eo l6∧l6.length≤20∧ ∀e∈l6,Ag e≤41):∀n:Nat,
  (∀(k:Nat) (b:List AK),1≤k→k≤5→(5-k)*60+1≤n→b.length≤(k-1)*50→eo b→(∀e∈b,Ag e≤41)→OK code StQ (Ed n k code i hh z x2 x3 sl b l6))∧
  (∀(k j:Nat) (b:List AK),1≤k→k≤4→1≤j→j≤51→(4-k)*60+1+(51-j)+1≤n→b.length≤(k-1)*50+(j-1)→eo b→(∀e∈b,Ag e≤41)→OK code StQ (Eo n k j code i hh z x2 x3 sl b l6)):=by
 intro n
 induction n with
 |zero=>exact⟨fun k b _ _ h=>by omega,fun k j b _ _ _ _ h=>by omega⟩
 |succ n ih=>
  refine⟨fun k b h1 h2 hn hb wz qA=> ?_,fun k j b h1 h2 h3 h4 hn hb wz qA=> ?_⟩
  ·simp only[Ed,RN]
   refine OK.Pk (fun Hw=>ih.2 k 1 b h1 (by omega) (by omega) (by omega) (by omega) (by omega) wz qA) (fun wK=> ?_);exact OK.some hi ⟨⟨wz,h6.1⟩,by show b.length≤300;omega,by show l6.length≤300;omega,qA,h6.2.2⟩
  ·simp only[Eo,Q0]
   refine OK.Pk (fun Hw=> ?_) (fun wK=> ?_)
   ·refine OK.pure (Ff (by omega) (by omega)) ?_
    dsimp only;refine OK.ite (by rw[An];omega) ?_
    rw[AH (by omega) (by omega),show((j:Int)+1)=((j+1:Nat):Int)by omega];have hp:=Gd (JE (e:=(k:Int)) (o:=(j:Int)) (by omega) (by omega)).1;refine ih.2 k (j+1) _ h1 h2 (by omega) (by omega) (by omega) (by simp;omega) (fun e he=> ?_) (fun e he=> ?_)
    ·rcases AOO.1 he with he|he
     ·exact wz e he
     ·rw[AP_.1 he];exact hp
    ·rcases AOO.1 he with he|he
     ·exact qA e he
     ·rw[AP_.1 he];show 0≤41;omega
   ·rw[AH (by omega) (by omega),show((k:Int)+1)=((k+1:Nat):Int)by omega]
    exact ih.1 (k+1) b (by omega) (by omega) (by omega) (by omega) wz qA
theorem AAu{x2 x3:List AK}{z:Int}{T:Int}(hT:T≤100):∀(n k:Nat) (i hh:Int) (s:AO),CS code i→(k:Int)≤max T 0→(T-k).toNat+400≤n→bQ s→
  OK code StQ (EG n T k code i hh z x2 x3 s.2.2.1 s.1 s.2.1):=by
 intro n
 induction n with
 |zero=>intro k i hh s _ _ h;omega
 |succ n ih=>
  intro k i hh s hi hk hn hs;have hsw:=hs.w;simp only[EG,SM];refine OK.Pk (fun Hw=> ?_) (fun wK=> ?_)
  ·rw[AH (x:=(k:Int)+1) (by omega) (by omega),show((k:Int)+1)=((k+1:Nat):Int)by omega]
   have next:∀(i hh:Int) (s:AO),CS code i→bQ s→OK code StQ (EG n T ((k+1:Nat):Int) code i hh z x2 x3 s.2.2.1 s.1 s.2.1):=fun i hh s hi hs=>ih (k+1) i hh s hi (by omega) (by omega) hs
   refine OK.bind (lM hc hi) fun x i1 h1 y K3 hq=> ?_
   dsimp only at*;rw[show(s.1,s.2.1,s.2.2.1,())=s from rfl,show(x.1.1,x.1.2.1,x.1.2.2.1,x.1.2.2.2.1,())=x.1 from rfl];refine OK.pure (Ti (by omega) hs.sin hq.1) ?_
   dsimp only[gp];have ACk:bQ (G8 s x.1).1:=by
    rcases AK_ (G8 s x.1).2 with h2|h2
    ·exact(dQ h2).1
    ·unfold G8 at h2⊢
     rw[DF.2 hs]at h2⊢;simp only[ALW,AL6,APB]at h2⊢;split at h2
     ·cases h2
     ·rename_i hn;rw[ALG hn];exact hs
   have AaK:=ACk.w;have AJ8:∀s:AO,bQ s→(B6 s).2=true→bQ (B6 s).1:=fun s hs h2=>(NF h2).2.1
   refine OK.bind (Bo hc K3 (by omega)) fun x2' i2 h2 y2 H0 qZ=> ?_
   dsimp only at*;refine OK.Fj (fun _=> ?_) (fun _=> ?_)
   ·refine OK.pure (Nk (by omega) hs.sin) ?_
    dsimp only[gp];exact OK.cond (fun hb=>next _ _ _ H0 (AJ8 s hs hb)) (fun _=>next _ _ _ H0 hs)
   refine OK.Fj (fun _=> ?_) (fun _=> ?_)
   ·refine OK.pure (Nk (s:=(G8 s x.1).1) (by omega) ACk.sin) ?_
    dsimp only[gp];exact OK.cond (fun hb=>next _ _ _ H0 (AJ8 _ ACk hb)) (fun _=>next _ _ _ H0 hs)
   refine OK.Fj (fun _=> ?_) (fun _=> ?_)
   ·refine OK.bind (P_ hc H0 (by omega)) fun x3 i3 h3 y3 Kn Tc=> ?_
    dsimp only;refine OK.cond (fun _=> ?_) (fun _=> ?_)
    ·refine OK.bind (Bo hc Kn (by omega)) fun x4 i4 h4 y4 sU hq4=> ?_
     dsimp only at*;refine OK.pure (YJ (by omega) hs.sin) ?_
     dsimp only[gp];exact OK.cond (fun hb=>next _ _ _ sU (p8 hs)) (fun _=>next _ _ _ sU hs)
    ·exact OK.cond (fun hb=>next _ _ _ Kn ACk) (fun _=>next _ _ _ Kn hs)
   ·exact OK.cond (fun hb=>next _ _ _ H0 ACk) (fun _=>next _ _ _ H0 hs)
  ·refine OK.bind (P_ hc hi (by omega)) fun x3 i3 h3 y3 Kn Tc=> ?_
   dsimp only;have hq:=AOM hc hs;refine OK.cond (fun _=> ?_) (fun _=>OK.some Kn ⟨hq.1,by have:=hq.2.1;show s.1.length≤300;omega,by have:=hq.2.2.1;show s.2.1.length≤300;omega,hq.2.2.2.1,hq.2.2.2.2⟩);exact(xt hc Kn ⟨hq.1.2,hq.2.2.1,hq.2.2.2.2⟩ n).1 1 [] (by omega) (by omega) (by omega) (by simp) (fun e he=>by simp at he) (fun e he=>by simp at he)
theorem pq{i hh:Int}(hi:CS code i):OK code StQ (GB code i hh):=by
 unfold GB SB;refine OK.bind (Bo hc hi (by omega)) fun x2' i2 h2 y2 H0 qZ=> ?_
 dsimp only at*;exact AAu hc (T:=x2'.1) (by omega) AY 0 i2 h2 D9 H0 (by omega) (AQ3 (Aa (by omega))) bQ.nil
abbrev ARw:ADu→((List AK)×(List AK)×Unit)→Prop:=fun x y=>iS (y.1,y.2.1,x.1.2.2.1,())∧Ai (y.1,y.2.1,x.1.2.2.1,())≤40000
theorem ia{s:AO}(h1:iS s)(h2:s.1.length≤310)(h3:s.2.1.length≤330)(h4:∀e∈s.1,Ag e≤41)(h5:∀e∈s.2.1,Ag e≤41):iS s∧Ai s≤40000:=by
 have a:=D6 (f:=Ag) (B:=41) h2 h4;have b:=D6 (f:=Ag) (B:=41) h3 h5;refine⟨h1,?_⟩;unfold Ai;omega
theorem zP{x2 x3:List AK}{z sl:Int}{l5:List AK}(h5:eo l5∧l5.length≤300∧ ∀e∈l5,Ag e≤41):∀(n:Nat) (i hh:Int) (b:List AK),CS code i→330-b.length<n→b.length≤310→eo b→(∀e∈b,Ag e≤41)→
  OK code ARw (M1 n code i hh z x2 x3 sl l5 b):=by
 intro n
 induction n with
 |zero=>intro i hh b _ h;omega
 |succ n ih=>
  intro i hh b hi hn hb wz qA;simp only[M1,XW];refine OK.bind (Bo hc hi (by omega)) fun x i2 h2 y2 H0 qZ=> ?_
  dsimp only at*;rw[AH (by omega) (by omega)];refine OK.Pk (fun Hw=> ?_) (fun _=>OK.some H0 (ia hc ⟨h5.1,wz⟩ (by show l5.length≤_;omega) (by show b.length≤_;omega) h5.2.2 qA));refine OK.pure (Ff (by omega) (by omega)) ?_
  dsimp only;refine OK.ite (by rw[An];omega) ?_
  have hp:=Gd (JE (e:=5) (o:=1) (by omega) (by omega)).1;refine ih i2 h2 _ H0 (by simp;omega) (by simp;omega) (fun e he=> ?_) (fun e he=> ?_)
  ·rcases AOO.1 he with he|he
   ·exact wz e he
   ·rw[AP_.1 he];exact hp
  ·rcases AOO.1 he with he|he
   ·exact qA e he
   ·rw[AP_.1 he];show 0≤41;omega
theorem zt{i hh:Int}(hi:CS code i):OK code ARw (US code i hh):=by
 unfold US Yc;refine OK.bind (pq hc hi) fun x i1 h1 y K3 hq=> ?_
 dsimp only at*;obtain⟨q1,q2,q3,q4,q5⟩:=hq;have base:iS (y.1,y.2.1,x.1.2.2.1,())∧Ai (y.1,y.2.1,x.1.2.2.1,())≤40000:=ia hc q1 (by show y.1.length≤_;omega) (by show y.2.1.length≤_;omega) q4 q5;have add:∀{l:List AK} {e:AK},(∀x∈l,Ag x≤41)→Ag e≤41→ ∀x∈l++[e],Ag x≤41:=fun h1 h2 x hx=>by
  rcases AOO.1 hx with hx|hx
  ·exact h1 x hx
  ·rw[AP_.1 hx];exact h2
 have ARj:∀{l:List AK} {e:AK},eo l→Ce e.1→eo (l++[e]):=fun h1 h2 x hx=>by
  rcases AOO.1 hx with hx|hx
  ·exact h1 x hx
  ·rw[AP_.1 hx];exact h2
 refine OK.bind (Bo hc K3 (by omega)) fun x2 i2 h2 y2 H0 qZ=> ?_
 dsimp only at*;refine OK.Fj (fun _=> ?_) (fun _=> ?_)
 ·refine OK.bind (Qc hc H0 (by simp) (by simp)) fun x3 i3 h3 y3 Kn Tc=> ?_
  exact OK.some Kn base
 refine OK.Fj (fun _=> ?_) (fun _=> ?_)
 ·refine OK.bind (fy hc H0) fun x3 i3 h3 y3 Kn Tc=> ?_
  dsimp only;refine OK.ite (by rw[An];omega) ?_
  exact OK.some Kn (ia hc ⟨ARj q1.1 Tc.1,q1.2⟩ (by show(y.1++[_]).length≤_;simp;omega) (by show y.2.1.length≤_;omega) (add q4 Tc.2) q5)
 refine OK.Fj (fun _=> ?_) (fun _=> ?_)
 ·refine OK.bind (fy hc H0) fun x3 i3 h3 y3 Kn Tc=> ?_
  dsimp only;refine OK.ite (by rw[An];omega) ?_
  exact OK.some Kn (ia hc ⟨q1.1,ARj q1.2 Tc.1⟩ (by show y.1.length≤_;omega) (by show(y.2.1++[_]).length≤_;simp;omega) q4 (add q5 Tc.2))
 refine OK.Fj (fun _=> ?_) (fun _=>OK.some H0 base);exact zP hc ⟨q1.1,q2,q4⟩ AY i2 h2 y.2.1 H0 (Aa (by omega)) (by omega) q1.2 q5
end
end Go.M
end
section
set_option maxRecDepth 8000
namespace Go.M
open Go.M.H (AK AO Ax Al AA Cp AN A6 AQ Aj Bc A7 Br Ai B5 AU AW AX Ag Bb As Am A0 D8 CG Ct C3)
theorem jF{α:Type}{f:α→Nat}{x:α}:∀{l:List α} {i:Nat},AU f (l.set i x)≤AU f l+f x
 |[],i=>by simp[AU]
 |y::l,0=>by simp only[ARg,AU];omega
 |y::l,i+1=>by
  have:=jF (f:=f) (x:=x) (l:=l) (i:=i);simp only[List.set_cons_succ,AU];omega
abbrev ASP:ACt→((List Cp)×Unit)→Prop:=fun x y=>AU Bb y.1≤300000∧Ce x.1.2.1
def pv(c:B_)(r:AN):Prop:=yn c r∨r=([],0,())
theorem pv.w{c:B_}{r:AN}(h:pv c r):AU Bb r.1≤270:=by
 rcases h with h|rfl
 ·exact h.w
 ·show 0≤270;omega
theorem pv.n{c:B_}{r:AN}(h:pv c r):r.1.length≤30:=by
 rcases h with h|rfl
 ·exact h.n
 ·show 0≤30;omega
theorem pv.tin{c:B_}{r:AN}(h:pv c r):Ce r.2.1:=by
 rcases h with h|rfl
 ·exact h.tin
 ·exact Nq (by show-1000≤(0:Int)∧(0:Int)≤1000;omega)
section
variable{code:AAM} (hc:code.length≤2^30) {c:B_} (YF:c.1.length≤2^10)
include hc YF
theorem xl{z:Int}{x3:List Cp}:∀(n k:Nat) (i hh:Int) (r:AN),CS code i→k≤7→7-k<n→pv c r→
  OK code (fun(x:ACt) (y:List Cp×Unit)=>pv c (y.1,x.1.2.1,())) (Gk n k code i hh c.1 c.2.1 z x3 r.2.1 r.1):=by
 intro n
 induction n with
 |zero=>intro k i hh r _ _ h;omega
 |succ n ih=>
  intro k i hh r hi hk hn hr;have hrw:=hr.w;have hrt:=hr.tin;simp only[Gk,Si];refine OK.bind (Bo hc hi (by omega)) fun x i1 h1 y K3 hq=> ?_
  dsimp only at*;refine OK.Pk (fun Hw=> ?_) (fun _=>OK.some K3 hr);rw[AH (x:=(k:Int)+1) (by omega) (by omega),show((k:Int)+1)=((k+1:Nat):Int)by omega];have next:∀(i hh:Int) (r:AN),CS code i→pv c r→OK code (fun(x:ACt) (y:List Cp×Unit)=>pv c (y.1,x.1.2.1,())) (Gk n ((k+1:Nat):Int) code i hh c.1 c.2.1 z x3 r.2.1 r.1):=fun i hh r hi hr=>ih (k+1) i hh r hi (by omega) (by omega) hr
  rw[show(c.1,c.2.1,())=c from rfl,show(r.1,r.2.1,())=r from rfl];refine OK.bind (gf hc (by omega) K3) fun x2 i2 h2 y2 H0 qZ=> ?_
  dsimp only at*;refine OK.pure (b_ (by omega) (by omega) hrt (by omega)) ?_
  dsimp only;refine OK.bind (Bo hc H0 (by omega)) fun x3 i3 h3 y3 Kn Tc=> ?_
  dsimp only at*;refine OK.Fj (fun _=> ?_) (fun _=> ?_)
  ·refine OK.bind (Bo hc Kn (by omega)) fun x4 i4 h4 y4 sU hq4=> ?_
   dsimp only at*;refine OK.pure (Zu (by omega) (by omega) hrt) ?_
   dsimp only[pkR];exact OK.cond (fun hb=>next _ _ (Mp c r _ _).1 sU (.inl (lf hb).2.1)) (fun _=>next _ _ r sU hr)
  refine OK.Fj (fun _=> ?_) (fun _=> ?_)
  ·refine OK.bind (Bo hc Kn (by omega)) fun x4 i4 h4 y4 sU hq4=> ?_
   dsimp only at*;refine OK.bind (Bo hc sU (by omega)) fun x5 i5 h5 y5 hi5 hq5=> ?_
   dsimp only at*;rw[AH (by omega) (by omega),AH (x:=1+x5.1) (by omega) (by omega)];refine OK.pure (Ff (by omega) (by omega)) ?_
   dsimp only;have hp:=Gd (JE (e:=1+x4.1) (o:=1+x5.1) (by omega) (by omega)).1;refine OK.pure (bU (by omega) (by omega) hrt hp) ?_
   dsimp only[pkR];exact OK.cond (fun hb=>next _ _ (Nv c r _).1 hi5 (.inl (pj hb).2.1)) (fun _=>next _ _ r hi5 hr)
  ·exact OK.cond (fun hb=>next _ _ (Ie c r _).1 Kn (.inl (pf hb).2.1)) (fun _=>next _ _ r Kn hr)
theorem uI{i hh:Int}(hi:CS code i):OK code (fun(x:ACt) (y:List Cp×Unit)=>pv c (y.1,x.1.2.1,())) (Ou c code i hh):=by
 unfold Ou Rz;exact xl hc YF AY 0 i hh ([],0,()) hi (by omega) (Aa (by omega)) (.inr rfl)
omit YF in
theorem xW{ns:AAM}(hns:ns.length≤2^13){z t:Int}{x2:List Cp}(ht:Ce t):∀(n:Nat) (i hh:Int) (b:List Cp),CS code i→40-b.length<n→b.length≤31→AU Bb b≤300+b.length*(2^13+1)→
  OK code ASP (Mn n ns code i hh z x2 t b):=by
 intro n
 induction n with
 |zero=>intro i hh b _ h;omega
 |succ n ih=>
  intro i hh b hi hn hb hw;simp only[Mn,XL];refine OK.bind (Bo hc hi (by omega)) fun x i1 h1 y K3 hq=> ?_
  dsimp only at*;rw[AH (by omega) (by omega)];refine OK.Pk (fun Hw=> ?_) (fun _=>OK.some K3 ⟨by show AU Bb b≤_;omega,ht⟩);refine OK.ite (by rw[An];omega) ?_
  refine ih i1 h1 _ K3 (by simp;omega) (by simp;omega) ?_
  have:Bb (ns,false,0,())=ns.length:=rfl;rw[Iw];simp only[AU,AOc,AN2,APp];omega
theorem xn{i hh:Int}(hi:CS code i):OK code ASP (Us c code i hh):=by
 unfold Us YL;rw[show(c.1,c.2.1,())=c from rfl];refine OK.bind (uI hc YF hi) fun x i1 h1 y K3 hq=> ?_
 dsimp only at*;have hrw:AU Bb y.1≤270:=hq.w;have hrn:y.1.length≤30:=hq.n;have hrt:Ce x.1.2.1:=hq.tin;have UZ:∀{i:Nat} {e:Cp},Bb e≤2^13→AU Bb (y.1.set i e)≤300000:=fun he=>by
  have:=jF (f:=Bb) (x:= ‹Cp›) (l:=y.1) (i:= ‹Nat›);omega
 have uB:∀i,i<y.1.length→Bb (y.1.getD i ([],false,0,()))≤270:=fun i hi=>by
  have:=AX (f:=Bb) (BU (d:=Gt) hi);have h2:Bb (y.1.getD i Gt)≤270:=by omega
  exact h2
 have base:AU Bb y.1≤300000∧Ce x.1.2.1:=⟨by omega,hrt⟩;refine OK.bind (Bo hc K3 (by omega)) fun x2 i2 h2 y2 H0 qZ=> ?_
 dsimp only at*;refine OK.Fj (fun _=> ?_) (fun _=> ?_)
 ·refine OK.bind (WC hc H0) fun x3 i3 h3 y3 Kn Tc=> ?_
  exact OK.some Kn ⟨by show AU Bb y.1≤_;omega,Tc⟩
 refine OK.Fj (fun _=> ?_) (fun _=> ?_)
 ·refine OK.Pk (fun Hw=> ?_) (fun _=>OK.some H0 base)
  rw[AH (by omega) (by omega)];refine OK.ite (by omega) ?_
  refine OK.some H0 ⟨UZ ?_,hrt⟩;have:=uB ((y.1.length:Int)-1).toNat (by omega);have h3:Bb ((y.1.getD ((y.1.length:Int)-1).toNat ([],false,0,())).1,true,(y.1.getD ((y.1.length:Int)-1).toNat ([],false,0,())).2.2.1,())=Bb (y.1.getD ((y.1.length:Int)-1).toNat ([],false,0,())):=rfl;rw[h3];omega
 refine OK.Fj (fun _=> ?_) (fun _=> ?_)
 ·refine OK.Pk (fun Hw=> ?_) (fun _=>OK.some H0 base)
  refine OK.bind (Qc hc H0 (by simp) (by simp)) fun x3 i3 h3 y3 Kn Tc=> ?_
  dsimp only;refine OK.ite (by omega) ?_
  refine OK.some Kn ⟨UZ ?_,hrt⟩;have:=uB 0 (by omega);have h4:Bb ((y.1.getD 0 ([],false,0,())).1,(y.1.getD 0 ([],false,0,())).2.1,x3.1,())=Bb (y.1.getD 0 ([],false,0,())):=rfl;rw[h4];omega
 refine OK.Fj (fun _=> ?_) (fun _=> ?_)
 ·refine OK.Pk (fun Hw=> ?_) (fun _=>OK.some H0 base)
  refine OK.bind (SN hc (by omega) H0) fun x3 i3 h3 y3 Kn Tc=> ?_
  dsimp only;refine OK.ite (by omega) ?_
  refine OK.some Kn ⟨UZ ?_,hrt⟩
  show y3.1.length≤_
  omega
 refine OK.Fj (fun _=> ?_) (fun _=>OK.some H0 base);refine OK.bind (gf hc (by omega) H0) fun x3 i3 h3 y3 Kn Tc=> ?_
 dsimp only;exact xW hc Tc hrt AY i3 h3 y.1 Kn (Aa (by omega)) (by omega) (by omega)
end
section
variable{code:AAM} (hc:code.length≤2^30) {c:B_} (zw:Fi c=true)
include hc zw
theorem ADQ{l:AAM}(hl:l.length≤100){m:Ax}(hm:m.2.2.1.length≤100):∃l',MR c m=some (((),()),(l',()))∧l'.length≤1000:=by
 have YF:=(Dw zw).2.1;have key:∀(n k:Nat) (b:AAM),k≤c.1.length→c.1.length-k<n→b.length≤100+k→ ∃l',M3 n k c.1 c.2.1 b=some (((),()),(l',()))∧l'.length≤1000:=by
  intro n
  induction n with
  |zero=>intro k b _ h;omega
  |succ n ih=>
   intro k b hk hn hb;simp only[M3,Wx,AB,Au];by_cases Hw:(k:Int)<(c.1.length:Int)
   ·rw[ALC Hw,show(c.1,c.2.1,())=c from rfl,Dm (by omega) (by omega),Ku (by omega)]
    simp only[AD];rw[AH (by omega) (by omega),show((k:Int)+1)=((k+1:Nat):Int)by omega];have:=Sx (n:=(k:Int)) (l:=b);obtain⟨l',e,h'⟩:=ih (k+1) (NY (k:Int) b) (by omega) (by omega) (by omega);rw[e];cases holds c b with
    |true=>exact⟨b,rfl,by omega⟩
    |false=>exact⟨l',rfl,h'⟩
   ·rw[ALG Hw]
    exact⟨b,rfl,by omega⟩
 unfold MR Wp;rw[ALC (by rw[An];omega)];exact key AY 0 m.2.2.1 (by omega) (Aa (by omega)) (by omega)
theorem vi{m:Ax}{o n:Int}(h:(SJ c m o n).2=true):jW c (SJ c m o n).1:=by
 unfold SJ at*;rcases AK_ (GG c m)with hm|hm
 rotate_left
 ·rw[hm]at h;cases h
 rw[hm]at h⊢;simp only[ALW,AL6,APB]at h⊢;split at h
 ·rename_i hq
  rw[ALC hq];have Xw:=Gh.1 hm;rw[ALo,Ak,Ak]at hq;refine⟨Xw.cfg,Xw.ep,Xw.b,Xw.sld,Xw.tz,Xw.seen,fun l hl=> ?_,by simp only[AQk];exact Xw.n⟩;rcases AQX hl with hl|rfl
  ·exact Xw.wrote l hl
  ·exact KK (Xw.wrote _ (BU (by omega))) (by omega)
 ·cases h
abbrev ADd(x:ADs)(y:List Int×(List AK)×List AAM×Unit):Ax:=(x.1.1,x.1.2.1,y.1,y.2.1,x.1.2.2.2.2.1,y.2.2.1,())
theorem lT{z1 z2:Int}{z3:Bool}{x3:AAM}{x4:List AK}{x5:List AAM}:∀(n k:Nat) (i hh:Int) (m:Ax),CS code i→k≤9→9-k<n→jW c m→
  OK code (fun x y=>jW c (ADd x y)) (BL n k code i hh c.1 c.2.1 z1 z2 z3 x3 x4 x5 m.1 m.2.1 m.2.2.2.2.1 m.2.2.1 m.2.2.2.1 m.2.2.2.2.2.1):=by
 have YF:=(Dw zw).2.1;intro n
 induction n with
 |zero=>intro k i hh m _ _ h;omega
 |succ n ih=>
  intro k i hh m hi hk hn hm;have xy:=hm.w;have AW6:=(HE (m:=m) (by omega)).2.2.1;simp only[BL,LO];refine OK.bind (Bo hc hi (by omega)) fun x i1 h1 y K3 hq=> ?_
  dsimp only at*;refine OK.Pk (fun Hw=> ?_) (fun _=>OK.some K3 hm);rw[AH (x:=(k:Int)+1) (by omega) (by omega),show((k:Int)+1)=((k+1:Nat):Int)by omega];refine OK.pure Iv ?_
  dsimp only;refine OK.bind (Bo hc K3 (by omega)) fun x2 i2 h2 y2 H0 qZ=> ?_
  dsimp only at*;refine OK.bind (Bo hc H0 (by omega)) fun x3 i3 h3 y3 Kn Tc=> ?_
  dsimp only at*;rw[show(c.1,c.2.1,())=c from rfl,show(m.1,m.2.1,m.2.2.1,m.2.2.2.1,m.2.2.2.2.1,m.2.2.2.2.2.1,())=m from rfl];refine OK.pure (cE (by omega) (by omega) hm.wG) ?_
  dsimp only[fL];exact OK.cond (fun hb=>ih (k+1) _ _ _ Kn (by omega) (by omega) (vi hc zw hb)) (fun _=>ih (k+1) _ _ m Kn (by omega) (by omega) hm)
theorem w9{T:Int}(hT:T≤100){z1 z2:Int}{z3:Bool}{x3:AAM}{x4:List AK}{x5:List AAM}:∀(n k:Nat) (i hh:Int) (m:Ax),CS code i→(k:Int)≤max T 0→(T-k).toNat+20≤n→jW c m→
  OK code (fun x y=>jW c (ADd x y)) (Bt n T k code i hh c.1 c.2.1 z1 z2 z3 x3 x4 x5 m.1 m.2.1 m.2.2.2.2.1 m.2.2.1 m.2.2.2.1 m.2.2.2.2.2.1):=by
 have YF:=(Dw zw).2.1;intro n
 induction n with
 |zero=>intro k i hh m _ _ h;omega
 |succ n ih=>
  intro k i hh m hi hk hn hm;have xy:=hm.w;have AW6:=HE (m:=m) (by omega);have zT:=G2 hm.sld;simp only[Bt,Mb];rw[show(c.1,c.2.1,())=c from rfl,show(m.1,m.2.1,m.2.2.1,m.2.2.2.1,m.2.2.2.2.1,m.2.2.2.2.2.1,())=m from rfl];refine OK.Pk (fun Hw=> ?_) (fun _=> ?_)
  ·rw[AH (x:=(k:Int)+1) (by omega) (by omega),show((k:Int)+1)=((k+1:Nat):Int)by omega]
   refine OK.bind (Bo hc hi (by omega)) fun x i1 h1 y K3 hq=> ?_
   dsimp only at*;refine OK.bind (pq hc K3) fun x2 i2 h2 y2 H0 qZ=> ?_
   dsimp only at*;obtain⟨q1,q2,q3,q4,q5⟩:=qZ;have sq:=ia hc (s:=(y2.1,y2.2.1,x2.1.2.2.1,())) q1 (by show y2.1.length≤_;omega) (by show y2.2.1.length≤_;omega) q4 q5;refine OK.pure (Zm (s:=(y2.1,y2.2.1,x2.1.2.2.1,())) (by omega) q1) ?_
   dsimp only;have hes:(GS (y2.1,y2.2.1,x2.1.2.2.1,()) m.2.1).length≤300∧eo (GS (y2.1,y2.2.1,x2.1.2.2.1,()) m.2.1)∧AU Ag (GS (y2.1,y2.2.1,x2.1.2.2.1,()) m.2.1)≤40000:=by
    unfold GS;split
    ·refine⟨AQL (AQM _ _) q2,fun e he=>q1.1 e (AQ7.1 he).1,AQL eT ?_⟩
     have h2:=sq.2;unfold Ai at h2;dsimp only at h2⊢;omega
    ·exact⟨by simp,fun e he=>(by simp at he),by simp[AU]⟩
   refine OK.pure (Zk (by omega) (by omega) hm.wG (by omega) hes.2.1 (by omega)) ?_
   dsimp only[fL];exact OK.cond (fun hb=>ih (k+1) _ _ _ H0 (by omega) (by omega) (lH hb).2.1) (fun _=>ih (k+1) _ _ m H0 (by omega) (by omega) hm)
  ·refine OK.bind (P_ hc hi (by omega)) fun x i1 h1 y K3 hq=> ?_
   dsimp only;refine OK.cond (fun _=>OK.some K3 hm) (fun _=> ?_);obtain⟨l',e,kV⟩:=ADQ hc zw (l:=[]) (by simp) (m:=m) (by omega);refine OK.pure e ?_
   dsimp only;refine OK.pure (Z4 (by omega) (by omega) hm.wG (by omega)) ?_
   dsimp only[fL];exact OK.cond (fun hb=>lT hc zw n 0 i1 h1 _ K3 (by omega) (by omega) (lE hb).2.1) (fun _=>lT hc zw n 0 i1 h1 m K3 (by omega) (by omega) hm)
theorem uE{i hh:Int}(hi:CS code i):OK code (fun x y=>jW c (ADd x y)) (Lh c code i hh):=by
 unfold Lh MX;refine OK.bind (Bo hc hi (by omega)) fun x i1 h1 y K3 hq=> ?_
 dsimp only at*;rw[AH (by omega) (by omega)];unfold Mf;simp only[AD];refine OK.bind (Bo hc K3 (by omega)) fun x2 i2 h2 y2 H0 qZ=> ?_
 dsimp only at*;exact w9 hc zw (T:=x2.1) (by omega) AY 0 i2 h2 (4,1+x.1,[],[],false,[],()) H0 (by omega) (AQ3 (Aa (by omega))) ⟨zw,by show 1≤1+x.1∧1+x.1≤30;omega,by show 1+x.1+1≤4∧(4:Int)≤30;omega,YM zw,List.Pairwise.nil,fun e he=>(by cases he),fun l hl=>(by cases hl),rfl⟩
abbrev ARp:AHb×Unit→List Int×(List AK)×List AAM×Unit→Prop:=fun x y=>B5 (ADd x y)≤20000∧eo y.2.1
theorem w_{i hh:Int}(hi:CS code i):OK code ARp (Ub c code i hh):=by
 have YF:=(Dw zw).2.1;unfold Ub;rw[show(c.1,c.2.1,())=c from rfl];refine OK.bind (uE hc zw hi) fun x i1 h1 y K3 hq=> ?_
 dsimp only at*;have hw:=hq.w;have he:eo y.2.1:=hq.wG;have hu:B5 (ADd x y)=y.1.length+AU Ag y.2.1+AU C3 y.2.2.1:=rfl;have hl1:=AW (f:=C3) (l:=y.2.2.1);have tu:=AW (f:=Ag) (l:=y.2.1);have mk:∀{x':ADs} {a:AAM} {b:List AK} {d:List AAM},a.length+AU Ag b+AU C3 d≤20000→eo b→ARp x' (a,b,d,()):=fun h1 h2=>⟨h1,h2⟩
 refine OK.bind (Bo hc K3 (by omega)) fun x2 i2 h2 y2 H0 qZ=> ?_
 dsimp only at*;refine OK.Fj (fun _=> ?_) (fun _=> ?_)
 ·refine OK.bind (Qc hc H0 (by simp) (by simp)) fun x3 i3 h3 y3 Kn Tc=> ?_
  exact OK.some Kn (mk (by omega) he)
 refine OK.Fj (fun _=>OK.some H0 (mk (by omega) he)) (fun _=> ?_);refine OK.Fj (fun _=> ?_) (fun _=> ?_)
 ·refine OK.bind (SN hc (by omega) H0) fun x3 i3 h3 y3 Kn Tc=> ?_
  dsimp only;refine OK.ite (by rw[An];omega) ?_
  refine OK.some Kn (mk ?_ he);rw[Iw];have:C3 y3.1=y3.1.length:=rfl;simp only[AU];omega
 refine OK.Fj (fun _=> ?_) (fun _=> ?_)
 ·refine OK.bind (fy hc H0) fun x3 i3 h3 y3 Kn Tc=> ?_
  dsimp only;refine OK.ite (by rw[An];omega) ?_
  refine OK.some Kn (mk ?_ (fun e he' => ?_))
  ·rw[Iw]
   have:Ag (x3.1.1,x3.1.2.1,x3.1.2.2.1,x3.1.2.2.2.1,())=x3.1.2.2.2.1.length:=rfl;simp only[AU];have:=Tc.2;omega
  ·rcases AOO.1 he' with he'|he'
   ·exact he e he'
   ·rw[AP_.1 he'];exact Tc.1
 refine OK.Fj (fun _=> ?_) (fun _=>OK.some H0 (mk (by omega) he));refine OK.bind (SN hc (by omega) H0) fun x3 i3 h3 y3 Kn Tc=> ?_
 dsimp only at*;exact OK.some Kn (mk (by omega) he)
end
end Go.M
end
section
set_option maxRecDepth 8000
namespace Go.M
open Go.M.H (AK AO Ax Al AA Cp AN A6 AQ Aj Bc A7 Br Ai B5 AU AW AX Ag Bb As Am A0 D8 CG Ct C3)
abbrev AQ8:ADy→((List Bc)×Unit)→Prop:=fun x y=>y.1.length≤130∧ ∀e∈y.1,CG e≤40∧Ce e.2.1
section
variable{code:AAM} (hc:code.length≤2^30)
include hc
theorem AAD{z1 z2 e o:Int}{x3:List Bc}:∀(n k:Nat) (i hh:Int) (b:List Bc),CS code i→k≤4→4-k<n→b.length≤k→(∀e∈b,CG e≤40∧Ce e.2.1)→
  OK code AQ8 (G_ n k code i hh z1 z2 x3 e o b):=by
 intro n
 induction n with
 |zero=>intro k i hh b _ _ h;omega
 |succ n ih=>
  intro k i hh b hi hk hn hb qA;simp only[G_,Py];refine OK.bind (Bo hc hi (by omega)) fun x i1 h1 y K3 hq=> ?_
  dsimp only at*;have base:b.length≤130∧ ∀e∈b,CG e≤40∧Ce e.2.1:=⟨by omega,qA⟩;refine OK.Pk (fun Hw=> ?_) (fun _=> ?_)
  ·refine OK.bind (Bo hc K3 (by omega)) fun x2 i2 h2 y2 H0 qZ=> ?_
   dsimp only at*;refine OK.bind (WC hc H0) fun x3 i3 h3 y3 Kn Tc=> ?_
   dsimp only;refine OK.ite (by rw[An];omega) ?_
   rw[AH (x:=(k:Int)+1) (by omega) (by omega),show((k:Int)+1)=((k+1:Nat):Int)by omega];refine ih (k+1) _ _ _ Kn (by omega) (by omega) (by simp;omega) (fun e he=> ?_);rcases AOO.1 he with he|he
   ·exact qA e he
   ·rw[AP_.1 he];exact⟨by show 0≤40;omega,Tc⟩
  ·refine OK.bind (Bo hc K3 (by omega)) fun x2 i2 h2 y2 H0 qZ=> ?_
   dsimp only at*;refine OK.Fj (fun _=> ?_) (fun _=> ?_)
   ·refine OK.bind (Qc hc H0 (by simp) (by simp)) fun x3 i3 h3 y3 Kn Tc=> ?_
    exact OK.some Kn base
   refine OK.Fj (fun _=> ?_) (fun _=> ?_)
   ·refine OK.bind (Qc hc H0 (by simp) (by simp)) fun x3 i3 h3 y3 Kn Tc=> ?_
    exact OK.some Kn base
   refine OK.Fj (fun _=> ?_) (fun _=>OK.some H0 base);refine OK.bind (Bo hc H0 (by omega)) fun x3 i3 h3 y3 Kn Tc=> ?_
   dsimp only at*;rw[AH (by omega) (by omega)];refine OK.ite (by rw[An];omega) ?_
   refine OK.some Kn ⟨by show(List.replicate _ _).length≤130;rw[AQv];omega,fun e he=> ?_⟩;rw[(List.mem_replicate.1 he).2];exact⟨by show 0≤40;omega,Nq (by show-1000≤(0:Int)∧(0:Int)≤1000;omega)⟩
theorem xA{i hh:Int}(hi:CS code i):OK code AQ8 (JU code i hh):=by
 unfold JU Pu;refine OK.bind (Bo hc hi (by omega)) fun x i1 h1 y K3 hq=> ?_
 dsimp only at*;refine OK.bind (Bo hc K3 (by omega)) fun x2 i2 h2 y2 H0 qZ=> ?_
 exact AAD hc AY 0 _ _ [] H0 (by omega) (Aa (by omega)) (by simp) (fun e he=>by simp at he)
theorem AAp{c:B_}(YF:c.1.length≤2^10){i hh:Int}(hi:CS code i):OK code (fun(x:ADx) (y:(List A6)×Unit)=>AU As y.1≤4000) (OA c code i hh):=by
 obtain⟨w',i1,h1,e,hw,K3⟩:=AAX hc (c:=c) (by omega) (h:=hh) hi;exact⟨_,i1,h1,_,e,K3,hw⟩
theorem wU{i hh:Int}(hi:CS code i):OK code (fun(x:ACt) (y:AAM×Unit)=>y.1.length≤9) (RC code i hh):=by
 obtain⟨l,c',i1,h1,e,hl,K3⟩:=zY hc (h:=hh) hi;exact⟨_,i1,h1,(l,()),e,K3,hl⟩
abbrev dwW(x:AD0)(y:List Int×(List AO)×List Int×(List Cp)×(List AQ)×(List Ax)×(List Aj)×(List Al)×Unit):AA:=
 (y.1,x.1.2.1,y.2.1,y.2.2.1,y.2.2.2.1,x.1.2.2.2.2.2.1,y.2.2.2.2.1,y.2.2.2.2.2.1,y.2.2.2.2.2.2.1,y.2.2.2.2.2.2.2.1,x.1.2.2.2.2.2.2.2.2.2.2.1,())
def AOe(w:AA):Prop:=(kQ w∧Zc w)∧Ct w≤730000∧AU A0 w.2.2.2.2.2.2.2.2.1≤50000
omit hc in
theorem mkW{c:AAM}{m tr:Int}{st:List AO}{lo:AAM}{er:List Cp}{wr:List AQ}{md:List Ax}{rd:List Aj}{se:List Al}{to:Bool}
  (h1:c.length≤100) (h2:AU Ai st≤200000) (h3:lo.length≤5000) (h4:AU Bb er≤300000) (h5:AU Am wr≤50000) (h6:AU B5 md≤100000) (h7:AU A0 rd≤50000) (h8:AU D8 se≤20000)
  (k1:∀s∈st,iS s) (k2:Ce tr) (k3:∀m∈md,eo m.2.2.2.1) (k4:∀s∈se,Ce s.1) (k5:∀r∈rd,∀e∈r.2.2.1,Ce e.2.1):AOe (c,m,st,lo,er,tr,wr,md,rd,se,to,()):=
 ⟨⟨⟨by unfold Ct;dsimp only;omega,k1,k2,k3,k4⟩,k5⟩,by unfold Ct;dsimp only;omega,h7⟩
theorem tQ{i hh:Int}(hi:CS code i){p:AAM}(hp:p.length≤2^30):OK code (fun x y=>AOe (dwW x y)) (H6 p code i hh):=by
 unfold H6;dsimp only;have ABc:∃T,U4 p 40 90=some ((T,()),())∧0≤T∧T≤500:=by
  unfold U4;dsimp only;have hd:(p.length:Int).tdiv 4=(p.length:Int)/4:=Int.tdiv_eq_ediv_of_nonneg (by omega);rw[hd,AH (x:=(p.length:Int)/4) (by omega) (by omega),AH (by omega) (by omega),AB];split
  ·exact⟨90,rfl,by omega⟩
  ·exact⟨_,rfl,by omega⟩
 obtain⟨T,hT,hT2⟩:=ABc;refine OK.pure hT ?_
 dsimp only;refine OK.bind (wt hc hT2 hi) fun x i1 h1 y K3 hq=> ?_
 dsimp only;obtain⟨hw,hr,hv⟩:=hq
 generalize ph:eg x y=w at hw hr hv
 have k:=hw.nums;have e0:y.2.2.2.2.2.2.2.2.2.1=w.1:=by rw[←ph];rfl
 have e1:y.2.2.2.2.2.2.2.2.2.2.1=w.2.2.1:=by rw[←ph];rfl
 have e2:y.2.2.2.2.2.2.2.2.2.2.2.1=w.2.2.2.1:=by rw[←ph];rfl
 have e3:y.2.2.2.2.2.2.2.2.2.2.2.2.1=w.2.2.2.2.1:=by rw[←ph];rfl
 have e4:y.2.2.2.2.2.2.2.2.2.2.2.2.2.1=w.2.2.2.2.2.2.1:=by rw[←ph];rfl
 have e5:y.2.2.2.2.2.2.2.2.2.2.2.2.2.2.1=w.2.2.2.2.2.2.2.1:=by rw[←ph];rfl
 have e6:y.2.2.2.2.2.2.2.2.2.2.2.2.2.2.2.1=w.2.2.2.2.2.2.2.2.1:=by rw[←ph];rfl
 have e7:y.2.2.2.2.2.2.2.2.2.2.2.2.2.2.2.2.1=w.2.2.2.2.2.2.2.2.2.1:=by rw[←ph];rfl
 have e8:x.1.2.2.1.2.1=w.2.1:=by rw[←ph];rfl
 have e9:x.1.2.2.1.2.2.2.2.2.1=w.2.2.2.2.2.1:=by rw[←ph];rfl
 have e10:x.1.2.2.1.2.2.2.2.2.2.2.2.2.2.1=w.2.2.2.2.2.2.2.2.2.2.1:=by rw[←ph];rfl
 rw[e0,e1,e2,e3,e4,e5,e6,e7,e8,e9,e10];have QV:=hw.win hr;have k1:=k.c;have k2:=k.ws;have k3:=k.lost;have k4:=k.era;have k5:=k.ww;have k9:=k.st;have k10:=k.rd;have k6:AU B5 w.2.2.2.2.2.2.2.1≤5001:=by
  have:=D6 (f:=B5) (B:=5000) hw.vK fun x hx=>(hw.CB x hx).1.w
  exact this
 have k7:AU A0 w.2.2.2.2.2.2.2.2.1≤10002:=by
  have:=D6 (f:=A0) (B:=5000) (N:=2) (l:=w.Af) (by rw[hw.mS];omega) fun r hx=>by
   have:=D6 (f:=CG) (B:=40) (hw.Af r hx).n (hr r hx);unfold A0;omega
  exact this
 have k8:AU D8 w.2.2.2.2.2.2.2.2.2.1≤4920:=by
  have:=D6 (f:=D8) (B:=40) hw.Q3 fun s hs=>(hw.CK s hs).2.2
  exact this
 have j1:=QV.BG;have j2:=QV.trim;have j3:=QV.CB;have j4:=QV.AJj;have hc1:=(Dw hw.cfg).1;have AbX:1≤w.1.length:=hc1;refine OK.bind (Bo hc K3 (by omega)) fun x2 i2 h2 y2 H0 qZ=> ?_
 dsimp only at*;have base:∀{to:Bool},AOe (w.1,w.2.1,w.2.2.1,w.2.2.2.1,w.2.2.2.2.1,w.2.2.2.2.2.1,w.2.2.2.2.2.2.1,w.2.2.2.2.2.2.2.1,w.2.2.2.2.2.2.2.2.1,w.2.2.2.2.2.2.2.2.2.1,to,()):=mkW (by omega) (by omega) (by omega) (by omega) (by omega) (by omega) (by omega) (by omega) j1 j2 j3 j4 hv;refine OK.Fj (fun _=> ?_) (fun _=> ?_)
 ·refine OK.bind (SN hc (c:=(w.1,w.2.1,())) (by show w.1.length≤_;omega) H0) fun x3 i3 h3 y3 Kn Tc=> ?_
  dsimp only at*;refine OK.some Kn ?_
  dsimp only[dwW];exact mkW (by omega) (by omega) (by omega) (by omega) (by omega) (by omega) (by omega) (by omega) j1 j2 j3 j4 hv
 refine OK.Fj (fun _=> ?_) (fun _=> ?_)
 ·refine OK.bind (zt hc H0) fun x3 i3 h3 y3 Kn Tc=> ?_
  dsimp only at*;refine OK.ite (by omega) ?_
  have:=jF (f:=Ai) (x:=(y3.1,y3.2.1,x3.1.2.2.1,())) (l:=w.2.2.1) (i:=0);refine OK.some Kn ?_
  dsimp only[dwW];refine mkW (by omega) (by omega) (by omega) (by omega) (by omega) (by omega) (by omega) (by omega) (fun s hs=> ?_) j2 j3 j4 hv;rcases AQX hs with hs|rfl
  ·exact j1 s hs
  ·exact Tc.1
 refine OK.Fj (fun _=> ?_) (fun _=> ?_)
 ·refine OK.bind (xn hc (c:=(w.1,w.2.1,())) (by show w.1.length≤_;omega) H0) fun x3 i3 h3 y3 Kn Tc=> ?_
  dsimp only at*;refine OK.some Kn ?_
  dsimp only[dwW];exact mkW (by omega) (by omega) (by omega) Tc.1 (by omega) (by omega) (by omega) (by omega) j1 Tc.2 j3 j4 hv
 refine OK.Fj (fun _=> ?_) (fun _=> ?_)
 ·refine OK.bind (AAp hc (c:=(w.1,w.2.1,())) (by show w.1.length≤_;omega) H0) fun x3 i3 h3 y3 Kn Tc=> ?_
  dsimp only at*;have hk:=k.wr;refine OK.ite (by rw[An];omega) ?_
  refine OK.some Kn ?_
  dsimp only[dwW];refine mkW (by omega) (by omega) (by omega) (by omega) ?_ (by omega) (by omega) (by omega) j1 j2 j3 j4 hv
  rw[Iw];have:Am (x3.1.1,y3.1,())=AU As y3.1:=rfl;simp only[AU];omega
 refine OK.Fj (fun _=> ?_) (fun _=> ?_)
 ·refine OK.bind (w_ hc (c:=(w.1,w.2.1,())) hw.cfg H0) fun x3 i3 h3 y3 Kn Tc=> ?_
  dsimp only at*;have hk:=k.md;refine OK.ite (by rw[An];omega) ?_
  refine OK.some Kn ?_
  dsimp only[dwW];refine mkW (by omega) (by omega) (by omega) (by omega) (by omega) ?_ (by omega) (by omega) j1 j2 (fun m hm=> ?_) j4 hv
  ·rw[Iw]
   have h8:B5 (x3.1.1,x3.1.2.1,y3.1,y3.2.1,x3.1.2.2.2.2.1,y3.2.2.1,())≤20000:=Tc.1;simp only[AU];omega
  ·rcases AOO.1 hm with hm|hm
   ·exact j3 m hm
   ·rw[AP_.1 hm];exact Tc.2
 refine OK.Fj (fun _=> ?_) (fun _=> ?_)
 ·refine OK.bind (xA hc H0) fun x3 i3 h3 y3 Kn Tc=> ?_
  dsimp only at*;refine OK.ite (by omega) ?_
  have:=jF (f:=A0) (x:=(x3.1.1,x3.1.2.1,y3.1,())) (l:=w.2.2.2.2.2.2.2.2.1) (i:=0);have h9:=D6 (f:=CG) (B:=40) Tc.1 (fun e he=>(Tc.2 e he).1);have:A0 (x3.1.1,x3.1.2.1,y3.1,())=AU CG y3.1:=rfl;refine OK.some Kn ?_
  dsimp only[dwW];refine mkW (by omega) (by omega) (by omega) (by omega) (by omega) (by omega) (by omega) (by omega) j1 j2 j3 j4 (fun r hr' => ?_);rcases AQX hr' with hr'|rfl
  ·exact hv r hr'
  ·exact fun e he=>(Tc.2 e he).2
 refine OK.Fj (fun _=> ?_) (fun _=> ?_)
 ·refine OK.bind (WC hc H0) fun x3 i3 h3 y3 Kn Tc=> ?_
  dsimp only at*;have hk:=k.se;refine OK.ite (by rw[An];omega) ?_
  refine OK.some Kn ?_
  dsimp only[dwW];refine mkW (by omega) (by omega) (by omega) (by omega) (by omega) (by omega) (by omega) ?_ j1 j2 j3 (fun s hs=> ?_) hv
  ·rw[Iw]
   have:D8 (x3.1,[],false,())=0:=rfl;simp only[AU];omega
  ·rcases AOO.1 hs with hs|hs
   ·exact j4 s hs
   ·rw[AP_.1 hs];exact Tc
 refine OK.Fj (fun _=>OK.some H0 base) (fun _=> ?_);refine OK.Fj (fun _=> ?_) (fun _=>OK.some H0 base);refine OK.bind (wU hc H0) fun x3 i3 h3 y3 Kn Tc=> ?_
 dsimp only at*;refine OK.some Kn ?_
 dsimp only[dwW];exact mkW (by omega) (by omega) (by omega) (by omega) (by omega) (by omega) (by omega) (by omega) j1 j2 j3 j4 hv
def pkw(w:AA):Oj:=((((),w.2.1,(),(),(),w.2.2.2.2.2.1,(),(),(),(),w.2.2.2.2.2.2.2.2.2.2.1,()),()),(w.1,w.2.2.1,w.2.2.2.1,w.2.2.2.2.1,w.2.2.2.2.2.2.1,w.2.2.2.2.2.2.2.1,w.2.2.2.2.2.2.2.2.1,w.2.2.2.2.2.2.2.2.2.1,()))
def OKW(o:Option Oj):Prop:= ∃w,o=some (pkw w)∧kQ w∧Zc w
omit hc in
theorem OKW.bind{X Y:Type}{Q:X→Y→Prop}{o:Option (X×(ACP×Y))}{f:X×(ACP×Y)→Option Oj}
  (ho:OK code Q o) (hf:∀x i h y,CS code i→Q x y→OKW (f (x,((code,i,h,()),y)))):OKW (o.bind f):=by
 obtain⟨x,i,h,y,e,hi,hq⟩:=ho;rw[e];exact hf x i h y hi hq
omit hc in
theorem OKW.ite{p:Prop}[Decidable p]{x y:Option Oj}(hp:p)(h1:OKW x):OKW (if p then x else y):=by
 rw[ALC hp];exact h1
omit hc in
theorem OKW.Fj{a b:Int}{x y:Option Oj}(h1:a=b→OKW x)(h2:a≠b→OKW y):OKW (_root_.cond (a==b) x y):=by
 rw[C9];by_cases hp:a=b
 ·rw[ALC hp];exact h1 hp
 ·rw[ALG hp];exact h2 hp
end
end Go.M
end
section
set_option maxRecDepth 8000
namespace Go.M
open Go.M.H (AK AO Ax Al AA Cp AN A6 AQ Aj Bc A7 Br Ai B5 AU AW AX Ag Bb As Am A0 D8 CG Ct C3)
theorem De{l:AAM}(h:l.length≤2^30):DB l=some (((),()),(l,())):=by
 unfold DB;rw[ALC (by rw[An];omega)]
theorem Pe{l:List AK}(h:l.length≤2^30):JC l=some (((),()),(l,())):=by
 unfold JC;rw[ALC (by rw[An];omega)]
theorem XO{r:Aj}(h:r.2.2.1.length≤2^30):Mo r=some (((r.1,r.2.1,(),()),()),(r.2.2.1,())):=by
 unfold Mo;rw[ALC (by rw[An];omega)]
theorem fo{c:B_}(h:c.1.length≤2^30):QK c=some ((((),c.2.1,()),()),(c.1,())):=by
 unfold QK;rw[De h];rfl
theorem H7{s:AO}(h1:s.1.length≤2^30)(h2:s.2.1.length≤2^30):C8 s=some ((((),(),s.2.2.1,()),()),(s.1,s.2.1,())):=by
 unfold C8;rw[Pe h1,Pe h2];rfl
theorem Hm{r:AN}(h:AU Bb r.1≤2^30):EN r=some ((((),r.2.1,()),()),(r.1,())):=by
 have hl:=AW (f:=Bb) (l:=r.1);have key:∀(n i:Nat) (acc:List Cp),i≤r.1.length→r.1.length-i<n→acc.length≤i→Hg n r.1 r.1.length i 0 [] r.2.1 acc=some ((((),r.2.1,()),()),(acc++r.1.drop i,())):=by
  intro n
  induction n with
  |zero=>intro i _ _ h;omega
  |succ n ih=>
   intro i acc hi hn ha;simp only[Hg,RM,AB];by_cases hc:i<r.1.length
   ·have hm:=AX (f:=Bb) (AMx hc)
    have hw:Bb r.1[i]=r.1[i].1.length:=rfl;rw[ALC (by omega),ALC (by omega),Ah hc,De (by omega),AH (by omega) (by omega),show((i:Int)+1)=((i+1:Nat):Int)by omega];simp only[AD];rw[ALC (by rw[An];omega),ih (i+1) _ (by omega) (by omega) (by simp;omega),drop_cons hc,ANi];rfl
   ·rw[ALG (by omega),AMG (by omega),ANI]
 unfold EN RD;have:=key AY 0 [] (by omega) (Aa (by omega)) (by simp);simpa using this
theorem Jg{x:AQ}(h:Am x≤2^30):Fe x=some (((x.1,(),()),()),(x.2.1,())):=by
 have h':AU As x.2.1≤2^30:=h;have hl:=AW (f:=As) (l:=x.2.1);have key:∀(n i:Nat) (acc:List A6),i≤x.2.1.length→x.2.1.length-i<n→acc.length≤i→JP n x.2.1 x.2.1.length i 0 [] x.1 acc=some (((x.1,(),()),()),(acc++x.2.1.drop i,())):=by
  intro n
  induction n with
  |zero=>intro i _ _ h;omega
  |succ n ih=>
   intro i acc hi hn ha;simp only[JP,TH,AB];by_cases hc:i<x.2.1.length
   ·have hm:=AX (f:=As) (AMx hc)
    have hw:As x.2.1[i]=x.2.1[i].1.length+x.2.1[i].2.1.length:=rfl;rw[ALC (by omega),ALC (by omega),Ah hc,De (by omega),AH (by omega) (by omega),show((i:Int)+1)=((i+1:Nat):Int)by omega];simp only[AD];rw[ALC (by rw[An];omega),ih (i+1) _ (by omega) (by omega) (by simp;omega),drop_cons hc,ANi];rfl
   ·rw[ALG (by omega),AMG (by omega),ANI]
 unfold Fe S9;have:=key AY 0 [] (by omega) (Aa (by omega)) (by simp);simpa using this
theorem HF{m:Ax}(h:B5 m≤2^30):GM m=some (((m.1,m.2.1,(),(),m.2.2.2.2.1,(),()),()),(m.2.2.1,m.2.2.2.1,m.2.2.2.2.2.1,())):=by
 have h':m.2.2.1.length+AU Ag m.2.2.2.1+AU C3 m.2.2.2.2.2.1≤2^30:=h;have hl:=AW (f:=C3) (l:=m.2.2.2.2.2.1);have tu:=AW (f:=Ag) (l:=m.2.2.2.1);have key:∀(n i:Nat) (acc:List AAM),i≤m.2.2.2.2.2.1.length→m.2.2.2.2.2.1.length-i<n→acc.length≤i→Lg n m.2.2.2.2.2.1 m.2.2.2.2.2.1.length i 0 0 false [] [] [] m.1 m.2.1 m.2.2.2.2.1 m.2.2.1 m.2.2.2.1 acc=some (((m.1,m.2.1,(),(),m.2.2.2.2.1,(),()),()),(m.2.2.1,m.2.2.2.1,acc++m.2.2.2.2.2.1.drop i,())):=by
  intro n
  induction n with
  |zero=>intro i _ _ h;omega
  |succ n ih=>
   intro i acc hi hn ha;simp only[Lg,Va,AB];by_cases hc:i<m.2.2.2.2.2.1.length
   ·have hm:=AX (f:=C3) (AMx hc)
    have hw:C3 m.2.2.2.2.2.1[i]=m.2.2.2.2.2.1[i].length:=rfl;rw[ALC (by omega),ALC (by omega),Ah hc,De (by omega),AH (by omega) (by omega),show((i:Int)+1)=((i+1:Nat):Int)by omega];simp only[AD];rw[ALC (by rw[An];omega),ih (i+1) _ (by omega) (by omega) (by simp;omega),drop_cons hc,ANi];rfl
   ·rw[ALG (by omega),AMG (by omega),ANI]
 unfold GM Vv;rw[De (by omega),Pe (by omega)];simp only[AD];have:=key AY 0 [] (by omega) (Aa (by omega)) (by simp);simpa using this
section
variable{w:AA} (h:kQ w)
include h
theorem ACj:∀(n i:Nat) (DX:List AO) (Dy:List AQ) (EP:List Ax) (FD:List Aj),i≤w.2.2.2.2.2.2.2.2.1.length→w.2.2.2.2.2.2.2.2.1.length-i+1≤n→FD.length≤i→
  Er n w.2.2.2.2.2.2.2.2.1 w.2.2.2.2.2.2.2.2.1.length i w.1 w.2.1 w.2.2.1 w.2.2.2.1 w.2.2.2.2.1 w.2.2.2.2.2.1 w.2.2.2.2.2.2.1 w.2.2.2.2.2.2.2.1 w.2.2.2.2.2.2.2.2.1 w.2.2.2.2.2.2.2.2.2.1 w.2.2.2.2.2.2.2.2.2.2.1 0 0 false [] [] [] [] [] [] [] [] w.2.1 w.2.2.2.2.2.1 w.2.2.2.2.2.2.2.2.2.2.1 w.1 DX w.2.2.2.1 w.2.2.2.2.1 Dy EP FD []=some ((((),w.2.1,(),(),(),w.2.2.2.2.2.1,(),(),(),(),w.2.2.2.2.2.2.2.2.2.2.1,()),()),(w.1,DX,w.2.2.2.1,w.2.2.2.2.1,Dy,EP,(FD++w.2.2.2.2.2.2.2.2.1.drop i),w.2.2.2.2.2.2.2.2.2.1,())):=by
 have tu:=h.SW;have hl:=h.lens;intro n
 induction n with
 |zero=>intro i DX Dy EP FD _ h;omega
 |succ n ih=>
  intro i DX Dy EP FD hi hn hb;simp only[Er,S2,AB];by_cases DG:i<w.2.2.2.2.2.2.2.2.1.length
  ·have hm:=AX (f:=A0) (AMx DG)
   have hw:A0 w.2.2.2.2.2.2.2.2.1[i]=AU CG w.2.2.2.2.2.2.2.2.1[i].2.2.1:=rfl;have hlw:=AW (f:=CG) (l:=w.2.2.2.2.2.2.2.2.1[i].2.2.1);rw[ALC (by omega),ALC (by omega),Ah DG,AH (by omega) (by omega),show((i:Int)+1)=((i+1:Nat):Int)by omega,drop_cons DG];rw[show(w.2.2.2.2.2.2.2.2.1[i].1,w.2.2.2.2.2.2.2.2.1[i].2.1,w.2.2.2.2.2.2.2.2.1[i].2.2.1,())=w.2.2.2.2.2.2.2.2.1[i]from rfl,XO (by omega)];simp only[AD];rw[ALC (by rw[An];omega),ih (i+1) _ _ _ _ (by omega) (by omega) (by simp;omega),ANi];rfl
  ·rw[ALG (by omega),ALC (by rw[An];omega),AMG (by omega),ANI]
theorem ACm:∀(n i:Nat) (DX:List AO) (Dy:List AQ) (EP:List Ax),i≤w.2.2.2.2.2.2.2.1.length→(w.2.2.2.2.2.2.2.1.length-i)+w.2.2.2.2.2.2.2.2.1.length+2≤n→EP.length≤i→
  Ee n w.2.2.2.2.2.2.2.1 w.2.2.2.2.2.2.2.1.length i w.1 w.2.1 w.2.2.1 w.2.2.2.1 w.2.2.2.2.1 w.2.2.2.2.2.1 w.2.2.2.2.2.2.1 w.2.2.2.2.2.2.2.1 w.2.2.2.2.2.2.2.2.1 w.2.2.2.2.2.2.2.2.2.1 w.2.2.2.2.2.2.2.2.2.2.1 0 0 false [] [] [] [] [] [] [] [] w.2.1 w.2.2.2.2.2.1 w.2.2.2.2.2.2.2.2.2.2.1 w.1 DX w.2.2.2.1 w.2.2.2.2.1 Dy EP [] []=some ((((),w.2.1,(),(),(),w.2.2.2.2.2.1,(),(),(),(),w.2.2.2.2.2.2.2.2.2.2.1,()),()),(w.1,DX,w.2.2.2.1,w.2.2.2.2.1,Dy,(EP++w.2.2.2.2.2.2.2.1.drop i),w.2.2.2.2.2.2.2.2.1,w.2.2.2.2.2.2.2.2.2.1,())):=by
 have tu:=h.SW;have hl:=h.lens;intro n
 induction n with
 |zero=>intro i DX Dy EP _ h;omega
 |succ n ih=>
  intro i DX Dy EP hi hn hb;simp only[Ee,TE,AB];by_cases DG:i<w.2.2.2.2.2.2.2.1.length
  ·have hm:=AX (f:=B5) (AMx DG)
   rw[ALC (by omega),ALC (by omega),Ah DG,AH (by omega) (by omega),show((i:Int)+1)=((i+1:Nat):Int)by omega,drop_cons DG];rw[show(w.2.2.2.2.2.2.2.1[i].1,w.2.2.2.2.2.2.2.1[i].2.1,w.2.2.2.2.2.2.2.1[i].2.2.1,w.2.2.2.2.2.2.2.1[i].2.2.2.1,w.2.2.2.2.2.2.2.1[i].2.2.2.2.1,w.2.2.2.2.2.2.2.1[i].2.2.2.2.2.1,())=w.2.2.2.2.2.2.2.1[i]from rfl,HF (by omega)];simp only[AD];rw[ALC (by rw[An];omega),ih (i+1) _ _ _ (by omega) (by omega) (by simp;omega),ANi];rfl
  ·have:=ACj h n 0 DX Dy EP [] (by omega) (by omega) (by simp)
   rw[show((0:Nat):Int)=0 from rfl,APq,AOu]at this;rw[ALG (by omega),AMG (by omega),ANI,this]
theorem AFj:∀(n i:Nat) (DX:List AO) (Dy:List AQ),i≤w.2.2.2.2.2.2.1.length→(w.2.2.2.2.2.2.1.length-i)+w.2.2.2.2.2.2.2.1.length+w.2.2.2.2.2.2.2.2.1.length+3≤n→Dy.length≤i→
  FJ n w.2.2.2.2.2.2.1 w.2.2.2.2.2.2.1.length i w.1 w.2.1 w.2.2.1 w.2.2.2.1 w.2.2.2.2.1 w.2.2.2.2.2.1 w.2.2.2.2.2.2.1 w.2.2.2.2.2.2.2.1 w.2.2.2.2.2.2.2.2.1 w.2.2.2.2.2.2.2.2.2.1 w.2.2.2.2.2.2.2.2.2.2.1 0 0 false [] [] [] [] [] [] [] [] w.2.1 w.2.2.2.2.2.1 w.2.2.2.2.2.2.2.2.2.2.1 w.1 DX w.2.2.2.1 w.2.2.2.2.1 Dy [] [] []=some ((((),w.2.1,(),(),(),w.2.2.2.2.2.1,(),(),(),(),w.2.2.2.2.2.2.2.2.2.2.1,()),()),(w.1,DX,w.2.2.2.1,w.2.2.2.2.1,(Dy++w.2.2.2.2.2.2.1.drop i),w.2.2.2.2.2.2.2.1,w.2.2.2.2.2.2.2.2.1,w.2.2.2.2.2.2.2.2.2.1,())):=by
 have tu:=h.SW;have hl:=h.lens;intro n
 induction n with
 |zero=>intro i DX Dy _ h;omega
 |succ n ih=>
  intro i DX Dy hi hn hb;simp only[FJ,Ua,AB];by_cases DG:i<w.2.2.2.2.2.2.1.length
  ·have hm:=AX (f:=Am) (AMx DG)
   rw[ALC (by omega),ALC (by omega),Ah DG,AH (by omega) (by omega),show((i:Int)+1)=((i+1:Nat):Int)by omega,drop_cons DG];rw[show(w.2.2.2.2.2.2.1[i].1,w.2.2.2.2.2.2.1[i].2.1,())=w.2.2.2.2.2.2.1[i]from rfl,Jg (by omega)];simp only[AD];rw[ALC (by rw[An];omega),ih (i+1) _ _ (by omega) (by omega) (by simp;omega),ANi];rfl
  ·have:=ACm h n 0 DX Dy [] (by omega) (by omega) (by simp)
   rw[show((0:Nat):Int)=0 from rfl,APq,AOu]at this;rw[ALG (by omega),AMG (by omega),ANI,this]
theorem AE5:∀(n i:Nat) (DX:List AO),i≤w.2.2.1.length→(w.2.2.1.length-i)+w.2.2.2.2.2.2.1.length+w.2.2.2.2.2.2.2.1.length+w.2.2.2.2.2.2.2.2.1.length+4≤n→DX.length≤i→
  FK n w.2.2.1 w.2.2.1.length i w.1 w.2.1 w.2.2.1 w.2.2.2.1 w.2.2.2.2.1 w.2.2.2.2.2.1 w.2.2.2.2.2.2.1 w.2.2.2.2.2.2.2.1 w.2.2.2.2.2.2.2.2.1 w.2.2.2.2.2.2.2.2.2.1 w.2.2.2.2.2.2.2.2.2.2.1 0 0 false [] [] [] [] [] [] [] [] w.2.1 w.2.2.2.2.2.1 w.2.2.2.2.2.2.2.2.2.2.1 w.1 DX w.2.2.2.1 w.2.2.2.2.1 [] [] [] []=some ((((),w.2.1,(),(),(),w.2.2.2.2.2.1,(),(),(),(),w.2.2.2.2.2.2.2.2.2.2.1,()),()),(w.1,(DX++w.2.2.1.drop i),w.2.2.2.1,w.2.2.2.2.1,w.2.2.2.2.2.2.1,w.2.2.2.2.2.2.2.1,w.2.2.2.2.2.2.2.2.1,w.2.2.2.2.2.2.2.2.2.1,())):=by
 have tu:=h.SW;have hl:=h.lens;intro n
 induction n with
 |zero=>intro i DX _ h;omega
 |succ n ih=>
  intro i DX hi hn hb;simp only[FK,Uz,AB];by_cases DG:i<w.2.2.1.length
  ·have hm:=AX (f:=Ai) (AMx DG)
   have hw:=Fp (s:=w.2.2.1[i]) (by omega);rw[ALC (by omega),ALC (by omega),Ah DG,AH (by omega) (by omega),show((i:Int)+1)=((i+1:Nat):Int)by omega,drop_cons DG];rw[show(w.2.2.1[i].1,w.2.2.1[i].2.1,w.2.2.1[i].2.2.1,())=w.2.2.1[i]from rfl,H7 hw.1 hw.2];simp only[AD];rw[ALC (by rw[An];omega),ih (i+1) _ (by omega) (by omega) (by simp;omega),ANi];rfl
  ·have:=AFj h n 0 DX [] (by omega) (by omega) (by simp)
   rw[show((0:Nat):Int)=0 from rfl,APq,AOu]at this;rw[ALG (by omega),AMG (by omega),ANI,this]
theorem YY:Lb w=some ((((),w.2.1,(),(),(),w.2.2.2.2.2.1,(),(),(),(),w.2.2.2.2.2.2.2.2.2.2.1,()),()),(w.1,w.2.2.1,w.2.2.2.1,w.2.2.2.2.1,w.2.2.2.2.2.2.1,w.2.2.2.2.2.2.2.1,w.2.2.2.2.2.2.2.2.1,w.2.2.2.2.2.2.2.2.2.1,())):=by
 have tu:=h.SW;have hl:=h.lens;unfold Lb U8;have:=AE5 h AY 0 [] (by omega) (AQ3 (Aa (by omega))) (by simp);rw[show((0:Nat):Int)=0 from rfl,APq,AOu]at this;rw[show(w.1,w.2.1,())=Ac w from rfl,fo (by show w.1.length≤_;omega),De (by omega),show(w.2.2.2.2.1,w.2.2.2.2.2.1,())=(CJ w)from rfl,Hm (by show AU Bb w.2.2.2.2.1≤_;omega)];simp only[AD];exact this
end
end Go.M
end
section
set_option maxRecDepth 8000
namespace Go.M
open Go.M.H (AK AO Ax Al AA Cp AN A6 AQ Aj Bc A7 Br Ai B5 AU AW AX Ag Bb As Am A0 D8 CG Ct C3)
theorem sM{a b:Nat}(h:a+b<2^40):AS ((IntKind.wrap .u64 (AS ((a:Int)+(b:Int)))).fdiv (2^1))=(((a+b)/2:Nat):Int):=by
 rw[AH (x:=(a:Int)+(b:Int)) (by omega) (by omega),show IntKind.wrap .u64 ((a:Int)+(b:Int))=(a:Int)+b by simp only[IntKind.wrap,IntKind.bits,IntKind.signed];simp;omega,Int.fdiv_eq_ediv_of_nonneg _ (by omega),AH (by omega) (by omega)];omega
structure jP {α:Type} (f:α→Int) (p:Int) (l:List α) (q:Nat):Prop where
 le:q≤l.length
 lt:∀(i:Nat) (h:i<l.length),i<q→f l[i]<p
 ge:∀(i:Nat) (h:i<l.length),q≤i→p≤f l[i]
theorem ak{α:Type}{f:α→Int}{l:List α}(h:VW f l){i j:Nat}(hi:i<l.length)(hj:j<l.length)(hij:i≤j):f l[i]≤f l[j]:=by
 by_cases e:i=j
 ·subst e;omega
 ·exact Int.le_of_lt (AT8.1 h i j hi hj (by omega))
theorem dU{l:List AK}(ha:en l)(hl:l.length≤2^30)(p:Int):∃q,jP (fun e:AK=>e.1) p l q∧
  Rv l p=some ((((q:Int),(match l[q]? with|some e=>e.1==p|none=>false),()),()),()):=by
 have key:∀(n a b:Nat),a≤b→b≤l.length→b-a<n→(∀(i:Nat) (h:i<l.length),i<a→l[i].1<p)→(∀(i:Nat) (h:i<l.length),b≤i→p≤l[i].1)→
   ∃q,jP (fun e:AK=>e.1) p l q∧Av n l p l.length a b=some ((((q:Int),(match l[q]? with|some e=>e.1==p|none=>false),()),()),()):=by
  intro n
  induction n with
  |zero=>intro a b _ _ h;omega
  |succ n ih=>
   intro a b nA hb hn h1 h2;simp only[Av,Cn,AB,RZ];by_cases Hw:a<b
   ·have hm:(a+b)/2<l.length:=by omega
    rw[ALC (by omega),sM (by omega),ALC (by omega),Ah hm];by_cases hc:l[(a+b)/2].1<p
    ·rw[ALC hc]
     simp only[AD];rw[ALC (by omega),AH (by omega) (by omega),show((((a+b)/2:Nat):Int)+1)=(((a+b)/2+1:Nat):Int)by omega];refine ih _ b (by omega) hb (by omega) (fun i h hi=> ?_) h2;exact Int.lt_of_le_of_lt (ak (f:=fun e:AK=>e.1) ha h hm (by omega)) hc
    ·rw[ALG hc]
     have wK:∀(i:Nat) (h:i<l.length),(a+b)/2≤i→p≤l[i].1:=fun i h hi=>Int.le_trans (by omega) (ak (f:=fun e:AK=>e.1) ha hm h hi)
     by_cases hd:l[(a+b)/2].1>p
     ·rw[ALC hd]
      simp only[AD];rw[ALG (by omega)];exact ih a _ (by omega) (by omega) (by omega) h1 wK
     ·rw[ALG hd]
      simp only[AD];rw[ALG (by omega)];exact ih a _ (by omega) (by omega) (by omega) h1 wK
   ·have AB8:a=b:=by omega
    subst AB8;refine⟨a,⟨hb,h1,h2⟩,?_⟩;rw[ALG (by omega)];by_cases ha':a<l.length
    ·have:=h2 a ha' (APM _)
     rw[ALC (by omega),ALC (by omega),Ah ha',ALD ha',ALG (by omega)];by_cases hd:l[a].1>p
     ·rw[ALC hd]
      dsimp only;rw[APA.2 (by omega:l[a].1≠p)];rfl
     ·rw[ALG hd]
      dsimp only;rw[AQb.2 (by omega:l[a].1=p)];rfl
    ·rw[ALG (by omega),AQU (by omega)]
 obtain⟨q,hq,e⟩:=key AY 0 l.length (by omega) (by omega) (Aa (by omega)) (fun i h hi=>by omega) (fun i h hi=>by omega);refine⟨q,hq,?_⟩;unfold Rv B3 Cm;rw[show((0:Nat):Int)=0 from rfl]at e;rw[e];rfl
theorem jP.get_eq{p:Int}{l:List AK}{q:Nat}(h:jP (fun e:AK=>e.1) p l q)(ha:en l):Od p l=match l[q]? with|some e=>if e.1=p then some e else none|none=>none:=by
 by_cases hq:q<l.length
 ·rw[ALD hq]
  dsimp only;by_cases he:l[q].1=p
  ·rw[ALC he,←he]
   exact lp ha (AMx hq)
  ·rw[ALG he]
   cases hg:Od p l with
   |none=>rfl
   |some x=>
    obtain⟨hm,hx⟩:=rp hg;obtain⟨i,hi,rfl⟩:=AQS hm;exfalso;have h2:=h.ge q hq (APM _);rcases Nat.lt_or_ge i q with w8|w8
    ·have:=h.lt i hi w8
     omega
    ·have:=ak (f:=fun e:AK=>e.1) ha hq hi w8
     omega
 ·rw[AQU (by omega)]
  dsimp only;cases hg:Od p l with
  |none=>rfl
  |some x=>
   obtain⟨hm,hx⟩:=rp hg;obtain⟨i,hi,rfl⟩:=AQS hm;have:=h.lt i hi (by have:=h.le;omega);omega
theorem Tm{s:AO}(h0:Ai s≤2^30)(h1:iS s)(p:Int):GL s p=some (((match XJ s p with|some e=>(e,true,())|none=>((0,0,false,[],()),false,())),()),()):=by
 unfold GL XJ;rw[show(s.1,s.2.1,s.2.2.1,())=s from rfl,Et h0 h1];simp only[AD];rcases AK_ (Bu s)with FX|FX
 rotate_left
 ·rw[FX];rfl
 have hs:=DF.1 FX;have hn:=hs.nk;obtain⟨q,hq,e⟩:=dU hs.tz (by omega) p;rw[FX,e,ALC rfl,hq.get_eq hs.tz];simp only[AD,ALW,AL5];by_cases hc:q<s.1.length
 ·rw[ALD hc]
  dsimp only;by_cases he:s.1[q].1=p
  ·rw[ALC he,AQb.2 he]
   simp only[ALW,AL5];rw[ALC (by omega),Ah hc]
  ·rw[ALG he,APA.2 he]
   rfl
 ·rw[AQU (by omega)]
  rfl
theorem IC{e o:Int}:Dg e o=some (((Gi e o,BF e 1 30&&BF o 1 60,()),()),()):=by
 unfold Dg HZ Wg Gi;rw[Aq,Aq];simp only[AD];rcases AK_ (BF e 1 30)with he|he
 rotate_left
 ·rw[he];rfl
 rcases AK_ (BF o 1 60)with ho|ho
 rotate_left
 ·rw[he,ho];rfl
 rw[he,ho];have h1:=Ak.1 he;have h2:=Ak.1 ho;simp only[ALW,AL5,Bool.and_self,AQV];rw[AH (x:=4294967296*e) (by omega) (by omega),AH (by omega) (by omega)];rfl
theorem Yl{k:Int}:Hl k=some (((),()),(BH k,())):=by
 unfold Hl U0 BH;rw[Aq];simp only[AD];rcases AK_ (BF k 0 255)with hk|hk
 rotate_left
 ·rw[hk];rfl
 rw[hk,ALC rfl];have hk':=Ak.1 hk;have key:∀(n i:Nat) (b:AAM),i≤8→8-i<n→b.length≤i→
   KX n k i b=some (((),()),(b++(([0,1,2,3,4,5,6,7]:AAM).drop i).filter (fun i=>(k/2^i.toNat)%2==1),())):=by
  intro n
  induction n with
  |zero=>intro i b _ h;omega
  |succ n ih=>
   intro i b hi h hb;simp only[KX,U7,AB];by_cases DG:i<8
   ·have zS:=sH (k:=k) (i:=i) (by omega) (by omega)
    rw[ALC (show(i:Int)<8 by omega),ALG (by omega),AMp,rq i DG,AP6,AMp,AH (by omega) (by omega),show((i:Int)+1)=((i+1:Nat):Int)by omega];rw[zS];simp only[AB];have c2:b.length+1≤DA:=by rw[An];omega
    by_cases uv:(k/2^i)%2=1
    ·rw[ALC uv,ALC c2,ALC (by rw[AQb];exact uv),ih (i+1) _ (by omega) (by omega) (by simp;omega),ANi]
     rfl
    ·rw[ALG uv,ALG (by rw[AQb];exact uv),ih (i+1) _ (by omega) (by omega) (by omega)]
   ·have:i=8:=by omega
    subst this;rw[ALG (by omega)];simp
 have:=key AY 0 [] (by omega) (Aa (by omega)) (by simp);simpa using this
theorem O3{r:AN}(h:AU Bb r.1≤2^30){e:Int}(he:Ce e):Iz r e=some (((),()),(Bd r.1 e,())):=by
 unfold Iz Bd;have hl:=AW (f:=Bb) (l:=r.1);rw[Aq];simp only[AD];rcases AK_ (BF e 1 r.1.length)with hk|hk
 rotate_left
 ·rw[hk];rfl
 rw[hk,ALC rfl];have hk':=Ak.1 hk;have hm:=AX (f:=Bb) (BU (d:=Gt) (i:=(e-1).toNat) (by omega:(e-1).toNat<r.1.length));have hw:Bb (r.1.getD (e-1).toNat Gt)=(r.1.getD (e-1).toNat Gt).1.length:=rfl;rw[AH (by omega) (by omega)];simp only[ALW,AL5];rw[ALC (by omega),show(r.1.getD (e-1).toNat ([],false,0,()))=r.1.getD (e-1).toNat Gt from rfl,De (by omega)];rfl
theorem Ln{w:AA}(h1:w.BG.length≤2^30)(h2:w.lost.length≤2^30){n:Int}:EF w n=some ((Aw w n,()),()):=by
 unfold EF Aw;have h1':w.2.2.1.length≤2^30:=h1;rw[AH (by omega) (by omega),Aq,Zp (by show w.lost.length≤_;omega)];simp only[AD];rcases AK_ (BF n 0 ((w.BG.length:Int)-1))with hk|hk
 rotate_left
 ·rw[show BF n 0 ((w.2.2.1.length:Int)-1)=false from hk];rfl
 rw[show BF n 0 ((w.2.2.1.length:Int)-1)=true from hk];rcases AK_ (w.lost.contains n)with hc|hc
 ·rw[show w.2.2.2.1.contains n=true from hc];rfl
 ·rw[show w.2.2.2.1.contains n=false from hc];rfl
theorem PE{b:Bool}:KF b=some ((if b then 0 else 4,()),()):=by cases b<;>rfl
theorem gL{x:AQ}(h:x.2.1.length≤2^30):P5 x=some (((XU x.2.1:Int),()),()):=by
 have key:∀(n i:Nat),i≤x.2.1.length→x.2.1.length-i<n→i+XU (x.2.1.drop i)=XU x.2.1→Jd n x.2.1 x.2.1.length i x.1 x.2.1=some (((XU x.2.1:Int),()),()):=by
  intro n
  induction n with
  |zero=>intro i _ h;omega
  |succ n ih=>
   intro i hi hn hs;simp only[Jd,S5,AB];by_cases hc:i<x.2.1.length
   ·rw[drop_cons hc]at hs
    simp only[XU]at hs;rw[ALC (by omega),ALC (by omega),Ah hc,AH (by omega) (by omega),show((i:Int)+1)=((i+1:Nat):Int)by omega];cases hd:x.2.1[i].2.2.1 with
    |true=>
     rw[hd,ALC rfl]at hs;simp only[ALW,AL5];exact ih (i+1) (by omega) (by omega) (by omega)
    |false=>
     rw[hd,ALG (by simp)]at hs;simp only[AQR,ANZ];rw[show(i:Int)=(XU x.2.1:Int)by omega]
   ·rw[AMG (by omega)]at hs
    simp only[XU]at hs;rw[ALG (by omega),show((x.2.1.length:Nat):Int)=(XU x.2.1:Int)by omega]
 unfold P5 S3;exact key AY 0 (by omega) (Aa (by omega)) (by simp)
theorem nK{w:AA}(h:kQ w)(e:Int):Qv w e=some ((bN w e,()),()):=by
 have tu:=h.SW;have hl:=h.lens;have key:∀(n i:Nat),i≤w.AR.length→w.AR.length-i<n→N9 n e w.AR w.AR.length i=some (((match(w.AR.drop i).find? (fun x=>x.1==e)with|some x=>(XU x.2.1:Int)|none=>0),()),()):=by
  intro n
  induction n with
  |zero=>intro i _ h;omega
  |succ n ih=>
   intro i hi hn;simp only[N9,YB,AB];by_cases hc:i<w.AR.length
   ·have cR:i<w.2.2.2.2.2.2.1.length:=hc
    have hm:Am w.AR[i]≤AU Am w.2.2.2.2.2.2.1:=AX (f:=Am) (AMx hc);have hw:Am w.AR[i]=AU As w.AR[i].2.1:=rfl;have hlw:=AW (f:=As) (l:=w.AR[i].2.1);rw[ALC (by omega),ALC (by omega),Ah hc,AH (by omega) (by omega),show((i:Int)+1)=((i+1:Nat):Int)by omega,drop_cons hc,AUM,show(w.AR[i].1,w.AR[i].2.1,())=w.AR[i]from rfl,gL (by omega),ih (i+1) (by omega) (by omega)];cases w.AR[i].1==e<;>rfl
   ·rw[ALG (by omega),AMG (by omega)]
    rfl
 unfold Qv Yi bN;have:=key AY 0 (by omega) (Aa (by show w.2.2.2.2.2.2.1.length-0<_;omega));rw[AOu]at this;exact this
end Go.M
end
section
set_option maxRecDepth 8000
namespace Go.M
open Go.M.H (AK AO Ax Al AA Cp AN A6 AQ Aj Bc A7 Br Ai B5 AU AW AX Ag Bb As Am A0 D8 CG Ct C3)
theorem vZ{x:Int}{t:AA_}(h:t.1.length≤2^30):Qx x t=some ((!t.1.contains x,()),()):=by
 unfold Qx;rw[Ix (by omega)];rfl
theorem lB{x:Int}{t:AA3}:Mc x t=some ((x==t.1,()),()):=rfl
theorem mJ{t:AA_×Unit}(h:t.1.1.length≤2^30){l:AAM}(hl:l.length≤2^30):Cg t l=some (((),()),((),l.filter (fun x=> !(!t.1.1.contains x)),())):=by
 have key:∀(n i j:Nat) (b:AAM),i≤j→j≤b.length→b.length≤2^30→b.length-j<n→Bl n t i j b=some (((),()),((),b.take i++(b.drop j).filter (fun x=> !(!t.1.1.contains x)),())):=by
  intro n
  induction n with
  |zero=>intro i j b _ _ _ h;omega
  |succ n ih=>
   intro i j b hij hj hb hn;simp only[Bl,Dq,AB];by_cases hc:j<b.length
   ·rw[ALC (by omega),ALC (by omega),Ah hc,vZ h]
    simp only[AD];rw[AH (x:=(j:Int)+1) (by omega) (by omega),AH (x:=(i:Int)+1) (by omega) (by omega),show((j:Int)+1)=((j+1:Nat):Int)by omega,show((i:Int)+1)=((i+1:Nat):Int)by omega,drop_cons hc,AP6];have n1:=ih (i+1) (j+1) (b.set i b[j]) (by omega) (by simp;omega) (by simp;omega) (by simp;omega);have n2:=ih i (j+1) b (by omega) (by omega) hb (by omega);rw[show(t.1,())=t from rfl,n2];rw[AVC (by omega),AQf (by simp;omega),AVD (APM _),AU8,ANi,AQY]at n1;rw[ALC (by omega),AMp,n1]
    generalize hx:b[j]=x
    cases(!t.1.1.contains x)<;>rfl
   ·rw[ALG (by omega),AMG (i:=j) (by omega),AMp,AMp]
    have h1:((b.take i++List.replicate (b.length-i) 0++b.drop (i+(b.length-i))).length:Int)=b.length:=by simp;omega
    rw[ALC (by omega),ALC (by rw[h1];omega)];rw[AOu,Nat.sub_zero,ANi,ASV (by simp;omega),List.take_take,Nat.min_self,ARq,ANI]
 have fnd:∀(n i:Nat),i≤l.length→l.length-i<n→ ∃r:Int,Bq n l t l.length i=some ((r,()),())∧((r= -1∧(l.drop i).filter (fun x=> !(!t.1.1.contains x))=l.drop i)∨ ∃q:Nat,r=q∧i≤q∧q<l.length∧((l.take q).drop i).filter (fun x=> !(!t.1.1.contains x))=(l.take q).drop i∧ ∀(h:q<l.length) x,x=l[q]→(!t.1.1.contains x)=true):=by
  intro n
  induction n with
  |zero=>intro i _ h;omega
  |succ n ih=>
   intro i hi hn;simp only[Bq,Dx,AB];by_cases hc:i<l.length
   ·rw[ALC (by omega),ALC (by omega),Ah hc,vZ h]
    simp only[AD];rw[AH (x:=(i:Int)+1) (by omega) (by omega),show((i:Int)+1)=((i+1:Nat):Int)by omega,show(t.1,())=t from rfl];obtain⟨r,e,hr⟩:=ih (i+1) (by omega) (by omega);rw[e]
    generalize hx:l[i]=x
    cases hp:(!t.1.1.contains x)with
    |true=>
     refine⟨i,rfl,.inr ⟨i,rfl,APM _,hc,?_,fun h y hy=> ?_⟩⟩
     ·rw[AMG (by simp;omega)];rfl
     ·rw[hy,hx];exact hp
    |false=>
     refine⟨r,rfl,?_⟩;rcases hr with⟨h1,h2⟩|⟨q,h1,h2,h3,h4,h5⟩
     ·refine .inl ⟨h1,?_⟩
      rw[drop_cons hc,AP6,h2,hx,hp];rfl
     ·refine .inr ⟨q,h1,by omega,h3,?_,h5⟩
      have Hw:i<(l.take q).length:=by simp;omega
      rw[drop_cons Hw,AP6,h4,List.getElem_take,hx,hp];rfl
   ·refine⟨-1,by rw[ALG (by omega)],.inl ⟨rfl,?_⟩⟩
    rw[AMG (by omega)];rfl
 obtain⟨r,e,hr⟩:=fnd AY 0 (by omega) (Aa (by omega));rw[show((0:Nat):Int)=0 from rfl]at e;unfold Cg Dp DZ Dv;rw[show(t.1,())=t from rfl,e];simp only[AD];rcases hr with⟨h1,h2⟩|⟨q,h1,h2,h3,h4,h5⟩
 ·rw[h1]
  rw[AOu]at h2;rw[h2];rfl
 ·rw[h1,APA.2 (by omega),AL5,AH (by omega) (by omega),show((q:Int)+1)=((q+1:Nat):Int)by omega,key AY q (q+1) l (by omega) (by omega) hl (Aa (by omega))]
  rw[AOu]at h4;have hd:=h5 h3 _ rfl;congr 3
  conv=>rhs;rw[←ATK q l,ASt,h4,drop_cons h3,AP6]
  rw[hd];rfl
theorem ax{t:ACY}{l:AAM}(hl:l.length≤2^30):Ch t l=some (((),()),((),l.filter (fun x=> !(x==t.1.1)),())):=by
 have key:∀(n i j:Nat) (b:AAM),i≤j→j≤b.length→b.length≤2^30→b.length-j<n→Bi n t i j b=some (((),()),((),b.take i++(b.drop j).filter (fun x=> !(x==t.1.1)),())):=by
  intro n
  induction n with
  |zero=>intro i j b _ _ _ h;omega
  |succ n ih=>
   intro i j b hij hj hb hn;simp only[Bi,Ea,AB];by_cases hc:j<b.length
   ·rw[ALC (by omega),ALC (by omega),Ah hc,lB]
    simp only[AD];rw[AH (x:=(j:Int)+1) (by omega) (by omega),AH (x:=(i:Int)+1) (by omega) (by omega),show((j:Int)+1)=((j+1:Nat):Int)by omega,show((i:Int)+1)=((i+1:Nat):Int)by omega,drop_cons hc,AP6];have n1:=ih (i+1) (j+1) (b.set i b[j]) (by omega) (by simp;omega) (by simp;omega) (by simp;omega);have n2:=ih i (j+1) b (by omega) (by omega) hb (by omega);rw[show(t.1,())=t from rfl,n2];rw[AVC (by omega),AQf (by simp;omega),AVD (APM _),AU8,ANi,AQY]at n1;rw[ALC (by omega),AMp,n1]
    generalize hx:b[j]=x
    cases(x==t.1.1)<;>rfl
   ·rw[ALG (by omega),AMG (i:=j) (by omega),AMp,AMp]
    have h1:((b.take i++List.replicate (b.length-i) 0++b.drop (i+(b.length-i))).length:Int)=b.length:=by simp;omega
    rw[ALC (by omega),ALC (by rw[h1];omega)];rw[AOu,Nat.sub_zero,ANi,ASV (by simp;omega),List.take_take,Nat.min_self,ARq,ANI]
 have fnd:∀(n i:Nat),i≤l.length→l.length-i<n→ ∃r:Int,Bm n l t l.length i=some ((r,()),())∧((r= -1∧(l.drop i).filter (fun x=> !(x==t.1.1))=l.drop i)∨ ∃q:Nat,r=q∧i≤q∧q<l.length∧((l.take q).drop i).filter (fun x=> !(x==t.1.1))=(l.take q).drop i∧ ∀(h:q<l.length) x,x=l[q]→(x==t.1.1)=true):=by
  intro n
  induction n with
  |zero=>intro i _ h;omega
  |succ n ih=>
   intro i hi hn;simp only[Bm,Ex,AB];by_cases hc:i<l.length
   ·rw[ALC (by omega),ALC (by omega),Ah hc,lB]
    simp only[AD];rw[AH (x:=(i:Int)+1) (by omega) (by omega),show((i:Int)+1)=((i+1:Nat):Int)by omega,show(t.1,())=t from rfl];obtain⟨r,e,hr⟩:=ih (i+1) (by omega) (by omega);rw[e]
    generalize hx:l[i]=x
    cases hp:(x==t.1.1)with
    |true=>
     refine⟨i,rfl,.inr ⟨i,rfl,APM _,hc,?_,fun h y hy=> ?_⟩⟩
     ·rw[AMG (by simp;omega)];rfl
     ·rw[hy,hx];exact hp
    |false=>
     refine⟨r,rfl,?_⟩;rcases hr with⟨h1,h2⟩|⟨q,h1,h2,h3,h4,h5⟩
     ·refine .inl ⟨h1,?_⟩
      rw[drop_cons hc,AP6,h2,hx,hp];rfl
     ·refine .inr ⟨q,h1,by omega,h3,?_,h5⟩
      have Hw:i<(l.take q).length:=by simp;omega
      rw[drop_cons Hw,AP6,h4,List.getElem_take,hx,hp];rfl
   ·refine⟨-1,by rw[ALG (by omega)],.inl ⟨rfl,?_⟩⟩
    rw[AMG (by omega)];rfl
 obtain⟨r,e,hr⟩:=fnd AY 0 (by omega) (Aa (by omega));rw[show((0:Nat):Int)=0 from rfl]at e;unfold Ch Eg Dn Ey;rw[show(t.1,())=t from rfl,e];simp only[AD];rcases hr with⟨h1,h2⟩|⟨q,h1,h2,h3,h4,h5⟩
 ·rw[h1]
  rw[AOu]at h2;rw[h2];rfl
 ·rw[h1,APA.2 (by omega),AL5,AH (by omega) (by omega),show((q:Int)+1)=((q+1:Nat):Int)by omega,key AY q (q+1) l (by omega) (by omega) hl (Aa (by omega))]
  rw[AOu]at h4;have hd:=h5 h3 _ rfl;congr 3
  conv=>rhs;rw[←ATK q l,ASt,h4,drop_cons h3,AP6]
  rw[hd];rfl
theorem av{a b:AAM}(ha:a.length≤2^30)(hb:b.length≤2^30):M7 a b=some (((),()),(a.filter b.contains,())):=by
 unfold M7;rw[De ha];simp only[AD];rw[mJ hb ha];simp only[AD,Bool.not_not]
theorem PW{a:AAM}{x:Int}(ha:a.length≤2^30):HL a x=some (((),()),(less a [x],())):=by
 unfold HL less;rw[De ha];simp only[AD];rw[ax ha];simp only[AD];congr 3;congr 1;funext y;simp only[List.contains_cons,List.contains_nil,AU_]
theorem nu{d:Br}:YV d=some ((Qe d,()),()):=by
 obtain⟨k,a,b,n,t,⟨⟩⟩:=d;obtain⟨m,hm⟩:∃m,AY=m+4:=⟨AY-4,by have:=eO;omega⟩;have fin:∀(a' b' n':Int) (t':AA7),(((Ay k 1 16).bind fun u4=>cond (u4.1.1) (cond ((((0:Int)==0)&&((a' ==0)&&((b' ==0)&&((n' ==0)&&((t' ==[])&&true))))) ) ((F4 t).bind fun u6=>some ((u6.1.1,()),())) (some ((false,()),()))) (some ((false,()),()))):Option Pp)=some ((BF k 1 16&&((a' ==0)&&((b' ==0)&&((n' ==0)&&((t' ==[])&&decide (t.length≤40))))),()),()):=by
  intro a' b' n' t';rw[Aq];simp only[AD,F4,beq_self_eq_true,ANm,AQp];have e:decide ((t.length:Int)≤40)=decide (t.length≤40):=by rw[decide_eq_decide];omega
  rw[e];cases BF k 1 16<;>cases a' ==0<;>cases b' ==0<;>cases n' ==0<;>cases t' ==[]<;>rfl
 unfold YV Yg af Qe eV;rw[hm];have h1:((1:Nat):Int)=1:=rfl;have w1:AS (1:Int)=1:=AH (by omega) (by omega);have w2:AS (2:Int)=2:=AH (by omega) (by omega);have w3:AS (3:Int)=3:=AH (by omega) (by omega);have lim:(3:Nat)≤DA:=by rw[An];omega
 have l0:(0:Nat)≤DA:=by omega
 have l1:(1:Nat)≤DA:=by rw[An];omega
 have l2:(2:Nat)≤DA:=by rw[An];omega
 dsimp only;by_cases k8:k=8
 ·subst k8
  simpa[Db,DL]using fin a b n t
 by_cases k10:k=10
 ·subst k10
  simpa[Db,DL]using fin a b n t
 by_cases k12:k=12
 ·subst k12
  simpa[Db,DL]using fin a b n t
 by_cases k2:k=2
 ·subst k2
  simpa[Db,DL,l2,w1,w2]using fin 0 b n []
 by_cases k3:k=3
 ·subst k3
  simpa[Db,DL,lim,w1,w2,w3]using fin 0 0 0 t
 by_cases k5:k=5
 ·subst k5
  simpa[Db,DL,l2,w1,w2]using fin 0 0 n t
 by_cases k14:k=14
 ·subst k14
  simpa[Db,DL,l2,w1,w2]using fin 0 0 n t
 by_cases k11:k=11
 ·subst k11
  simpa[Db,DL,l2,w1,w2]using fin a 0 0 t
 by_cases k13:k=13
 ·subst k13
  simpa[Db,DL,l1,w1]using fin 0 b n t
 have e8:(k==8)=false:=APA.2 k8;have e10:(k==10)=false:=APA.2 k10;have e12:(k==12)=false:=APA.2 k12;have e2:(k==2)=false:=APA.2 k2;have e3:(k==3)=false:=APA.2 k3;have e5:(k==5)=false:=APA.2 k5;have e14:(k==14)=false:=APA.2 k14;have e11:(k==11)=false:=APA.2 k11;have e13:(k==13)=false:=APA.2 k13;simpa[k8,k10,k12,k2,k3,k5,k14,k11,k13,e8,e10,e12,e2,e3,e5,e14,e11,e13,Db,DL,l1,w1]using fin 0 b n t
end Go.M
end
section
set_option maxRecDepth 8000
namespace Go.M
open Go.M.H (AK AO Ax Al AA Cp AN A6 AQ Aj Bc A7 Br Ai B5 AU AW AX Ag Bb As Am A0 D8 CG Ct C3)
theorem ly{l:List A7}(hl:l.length≤2^20):O7 l=some (((),()),(l.map (fun a=>a.1),())):=by
 have key:∀(n i:Nat) (b:AAM),i≤l.length→l.length-i<n→b.length=i→Mq n l l.length i b=some (((),()),(b++(l.drop i).map (fun a=>a.1),())):=by
  intro n
  induction n with
  |zero=>intro i b _ h;omega
  |succ n ih=>
   intro i b hi h hb;simp only[Mq,Wh,AB];by_cases cR:i<l.length
   ·have c1:(0:Int)≤(i:Int)∧(i:Int)<(l.length:Int):=by omega
    have c2:b.length+1≤DA:=by rw[An];omega
    rw[ALC c1.2,ALC c1,ALC c2,AH (by omega) (by omega),show((i:Int)+1)=((i+1:Nat):Int)by omega,Ah cR,ih (i+1) _ (by omega) (by omega) (by simp;omega),drop_cons cR];simp only[ANi,AQY,ARf]
   ·rw[ALG (by omega),AMG (by omega),AS4,ANI]
 unfold O7 Wv;have:=key AY 0 [] (by omega) (Aa (by omega)) rfl;rw[show((0:Nat):Int)=0 from rfl,AOu,APq]at this;exact this
theorem tC{c:B_}{s l:AAM}(hc:c.1.length≤2^40)(hl:l.length≤2^20)(hs:s.length≤2^20):eM c s l=some (((),()),(if Az c s&&Az c l then less s l else[],())):=by
 have key:∀(n i:Nat) (b:AAM),i≤s.length→s.length-i<n→b.length≤i→RY n l s s.length i b=some (((),()),(b++less (s.drop i) l,())):=by
  intro n
  induction n with
  |zero=>intro i b _ h;omega
  |succ n ih=>
   intro i b hi h hb;simp only[RY,cA,AB,Au];by_cases cR:i<s.length
   ·have c1:(0:Int)≤(i:Int)∧(i:Int)<(s.length:Int):=by omega
    have c2:b.length+1≤DA:=by rw[An];omega
    rw[ALC c1.2,ALC c1,Ah cR,Ix (by omega),AH (by omega) (by omega),show((i:Int)+1)=((i+1:Nat):Int)by omega,drop_cons cR];simp only[AD,ALC c2];rw[ih (i+1) b (by omega) (by omega) (by omega),ih (i+1) (b++[s[i]]) (by omega) (by omega) (by simp;omega)];unfold less;rw[AP6];cases l.contains s[i]with
    |true=>rfl
    |false=>simp
   ·rw[ALG (by omega),AMG (by omega)]
    simp[less]
 unfold eM bm;rw[show(c.1,c.2.1,())=c from rfl,D5 hc (by omega),D5 hc (by omega)];simp only[AD];cases Az c s with
 |false=>rfl
 |true=>
  cases Az c l with
  |false=>rfl
  |true=>
   have:=key AY 0 [] (by omega) (Aa (by omega)) (by simp);rw[show((0:Nat):Int)=0 from rfl,AOu,APq]at this;exact this
theorem filter_all{l:AAM}{p:Int→Bool}:((((l.filter p).length:Nat):Int) !=(l.length:Int))= !l.all p:=by
 rw[Bool.eq_iff_iff];simp only[bne_iff_ne,ne_eq,AQo,AQy];constructor
 ·intro h ha
  exact h (by rw[List.filter_eq_self.2 (AQj.1 ha)])
 ·intro h ha
  refine h (AQj.2 ?_);exact List.length_filter_eq_length_iff.1 (by omega)
theorem dJ{c:B_}{s l:AAM}(hc:c.1.length≤2^40)(hl:l.length≤2^20)(hs:s.length≤2^20):G1 c s l=some ((Qo c s l,()),()):=by
 unfold G1 Qo;rw[show(c.1,c.2.1,())=c from rfl,D5 hc (by omega),GK hc (by omega),av (by omega) (by omega),tC hc hl hs];simp only[AD,Au,filter_all];have hh:holds c s=true→Az c s=true:=fun h=>by
  unfold holds at h;simp only[ALo]at h;exact h.1
 cases h1:Az c l with
 |false=>simp
 |true=>
  cases h2:holds c s with
  |false=>rfl
  |true=>
   cases h3:l.all s.contains with
   |false=>rfl
   |true=>
    have h4:(less s l).length≤2^20:=AQL (AQM _ _) hs;rw[hh h2];simp only[ANZ,Bool.and_self,AQV,ALW,AL5,ANm];rw[GK hc (by omega)];rfl
theorem Xf{a b:AK}:Q8 a b=some ((better a b,()),()):=by
 unfold Q8 better;rw[AB];split<;>rfl
theorem oW{s:AAM}{p:Int}{l:List A7}(hs:s.length≤2^20)(hl:l.length≤2^20)(TQ:∀a∈l,Ce a.2.2.1):
  Yo l s p=some (((((HG s p none l).getD Di),(HG s p none l).isSome,()),()),()):=by
 have key:∀(n i:Nat) (b:Option AK),i≤l.length→l.length-i<n→
   OX n s p b.isSome l l.length i 0 0 false [] (b.getD Di).1 (b.getD Di).2.1 (b.getD Di).2.2.1 (b.getD Di).2.2.2.1=some (((((HG s p b (l.drop i)).getD Di),(HG s p b (l.drop i)).isSome,()),()),()):=by
  intro n
  induction n with
  |zero=>intro i b _ h;omega
  |succ n ih=>
   intro i b hi h;simp only[OX,Yb,AB,Au];by_cases cR:i<l.length
   ·have c1:(0:Int)≤(i:Int)∧(i:Int)<(l.length:Int):=by omega
    rw[ALC c1.2,ALC c1,AH (by omega) (by omega),show((i:Int)+1)=((i+1:Nat):Int)by omega,Ah cR,drop_cons cR];have ih':=fun b=>ih (i+1) b (by omega) (by omega)
    simp only[ih'];rw[Ix (by omega),show(l[i].2.2.1,l[i].2.2.2.1,l[i].2.2.2.2.1,l[i].2.2.2.2.2.1,())=WL l[i]from rfl];rw[QI (e:=WL l[i]) (TQ _ (AMx cR))];simp only[AD,HG];cases h1:l[i].2.1 with
    |false=>simp
    |true=>
     cases h2:s.contains l[i].1 with
     |false=>simp
     |true=>
      cases h3:FZ (WL l[i])with
      |false=>simp
      |true=>
       simp only[ANZ,ANm];by_cases h4:l[i].2.2.1=p
       ·rw[Co,ALC h4,ALC (by show((WL l[i]).1==p)=true;rw[AQb];exact h4)]
        cases b with
        |none=>
         simp only[AQh,AL5,Xf,AD,Option.getD_none];have:=ih' (some (WL l[i]));simp only[AQe,AQg]at this;have hb:better (WL l[i]) (WL l[i])=WL l[i]:=by unfold better;rw[ALG (by omega)]
         rw[hb];exact this
        |some x=>
         simp only[AQe,ANZ,AQg];rw[show(x.1,x.2.1,x.2.2.1,x.2.2.2.1,())=x from rfl];simp only[Xf,AD];have:=ih' (some (better x (WL l[i])));simp only[AQe,AQg]at this;exact this
       ·rw[Co,ALG h4,ALG (by show¬((WL l[i]).1==p)=true;rw[AQb];exact h4)]
   ·rw[ALG (by omega),AMG (by omega)]
    simp only[HG]
 unfold Yo Yh;exact key AY 0 none (by omega) (Aa (by omega))
theorem bS{s t:AAM}{p:Int}:∀{l:List A7} {b:Option AK},(∀a∈l,s.contains a.1=t.contains a.1)→HG s p b l=HG t p b l
 |[],b,_=>rfl
 |a::l,b,h=>by
  simp only[HG];rw[h a (by simp),bS (fun x hx=>h x (by simp[hx])),bS (fun x hx=>h x (by simp[hx]))]
theorem Vp{e:Bc}{a b:Int}{l:List Bc}(h:l.length≤2^30):E6 e a b l=some (((),()),((a,b,(),()),(),l++[e],())):=by
 unfold E6;rw[ALC (by rw[An];omega)]
theorem dN{s:AAM}{l:List A7}{a b:Int}{o:List Bc}(ha:1≤a∧a≤30)(hb:1≤b∧b≤60)(ho:o.length≤2^20)(hs:s.length≤2^20)(hl:l.length≤2^20)(TQ:∀a∈l,Ce a.2.2.1):
  C1 l s a b o=some (((),()),((a,b+1,(),()),(),o++[Qa (HB a b) (HG s (HB a b) none l)],())):=by
 unfold C1;rw[IC];have hp:Gi a b=HB a b:=by
  unfold Gi;rw[ALC (by rw[ALo,Ak,Ak];omega)]
 simp only[AD];rw[hp,oW hs hl TQ];simp only[AD,Vp (AQL ho (by omega))];rw[AH (by omega) (by omega)];cases HG s (HB a b) none l with
 |none=>rfl
 |some x=>
  simp only[AQe,ALW,AL5,AQg,Qa];cases x.2.2.1<;>rfl
theorem xU{x e o:Int}(hx:x=0∨Ba x=true)(he:1≤e∧e≤31)(ho:1≤o∧o≤61):
  decide (x≥HB e o)=(decide (x>0)&& !(decide (Ar x<e)||((Ar x==e)&&decide (D4 x<o)))):=by
 rcases hx with rfl|hx
 ·rw[AQO (by unfold HB;omega)]
  rfl
 ·have h:=Gw hx
  rw[Bool.eq_iff_iff];simp only[ALo,AQo,Bool.or_eq_false_iff,ANR,AQ4,Bool.and_eq_false_iff,APA];have h3:=h.2.2;unfold HB at h3⊢;omega
theorem mo{x:Int}{r:Aj}(hx:Ce x):WV x r=some ((decide (Ar x<r.1)||((Ar x==r.1)&&decide (D4 x<r.2.1)),()),()):=by
 unfold WV;rw[Eu hx,ZI hx];simp only[AD];cases decide (Ar x<r.1)with
 |true=>rfl
 |false=>cases Ar x==r.1<;>rfl
end Go.M
end
section
set_option maxRecDepth 8000
namespace Go.M
open Go.M.H (AK AO Ax Al AA Cp AN A6 AQ Aj Bc A7 Br Ai B5 AU AW AX Ag Bb As Am A0 D8 CG Ct C3)
theorem fh{c:B_}{g:AN}{sure:Int}{r:Aj}{l:List A7}(hc:c.1.length≤2^20)(hg:AU Bb g.1≤2^20)(ht:Ce g.2.1)(hl:l.length≤2^20)(TQ:∀a∈l,Ce a.2.2.1):
  J1 c g sure r l=some (xG (Ck c g sure r l)):=by
 unfold J1 Ck;rw[show(c.1,c.2.1,())=c from rfl,show(g.1,g.2.1,())=g from rfl,show(r.1,r.2.1,r.2.2.1,())=r from rfl,ly hl,NH (by omega) (by omega) ht,aE];simp only[AD,Au,AB];rw[D5 (by omega) (by simp;omega)];simp only[AD];cases h1:Mr c g with
 |false=>rfl
 |true=>
 cases h2:Yt r with
 |false=>rfl
 |true=>
 cases h3:Az c (l.map fun a=>a.1)with
 |false=>rfl
 |true=>
 have hr:=TY.1 h2;have hre:=hr.ep;have hro:=hr.off;have hrn:=hr.n;have hR:=J5.1 h1;have hRn:=hR.n;simp only[ANZ,ANm,ALW,AL6,APB];rw[XO (by omega)];simp only[AD];by_cases h4:r.1>(g.1.length:Int)
 ·rw[ALC h4,APl h4];rfl
 rw[ALG h4,AQO h4];by_cases h5:r.2.2.1.length=120
 ·rw[show(((r.2.2.1.length:Nat):Int)==120)=true by rw[AQb];omega,APl h5];rfl
 rw[show(((r.2.2.1.length:Nat):Int)==120)=false by rw[APA];omega,AQO h5];simp only[AL5,AQW,AL6,APB];rw[AH (x:=r.1-1) (by omega) (by omega),mo ht,Eu ht,ZI ht];simp only[AD];have hto:=i_ (x:=g.2.1);rw[AH (x:=D4 g.2.1+1) (by omega) (by omega),AH (x:=r.1+1) (by omega) (by omega)];simp only[Vp (l:=r.2.2.1) (by omega),AD];have hta:=xU (x:=g.2.1) (e:=r.1) (o:=r.2.1) (hR.trim.imp id fun h=>h.1) hre hro
 generalize ABR:g.1.getD (r.1-1).toNat Gt=era
 have Hw:(r.1-1).toNat<g.1.length:=by omega
 have Uj:era.1.length≤2^20:=by
  have h7:=AX (f:=Bb) (BU (d:=Gt) Hw);rw[ABR]at h7;have:Bb era=era.1.length:=rfl;omega
 have hd:g.1.getD (r.1-1).toNat ([],false,0,())=era:=ABR;rw[hd];have hf:((l.map fun a=>a.1).filter era.1.contains).length≤2^20:=AQL (AQM _ _) (by simpa using hl);rw[av (by simp;omega) (by omega)];simp only[AD];rw[dJ (by omega) hf Uj];simp only[AD];have AYe:(0:Int)≤r.1-1∧r.1-1<(g.1.length:Int):=by omega
 simp only[ALC AYe]
 generalize hT:(cond (era.2.1) _ _:Option Ke)=T
 have wH:T=some (xG (if era.2.1&&decide (r.2.1>era.2.2.1)then((r.1+1,1,r.2.2.1++[(4,r.1+1,[],())],()),0)else
   if(!era.2.1&&decide (r.2.1>sure))||decide (r.2.1>60)then(r,2)else
   if !Qo c era.1 ((l.map fun a=>a.1).filter era.1.contains)then(r,3)else
   ((r.1,r.2.1+1,r.2.2.1++[Qa (HB r.1 r.2.1) (HG era.1 (HB r.1 r.2.1) none l)],()),0))):=by
  rw[←hT];clear hT;have tail:r.2.1≤60→(cond (Qo c era.1 ((l.map fun a=>a.1).filter era.1.contains))
    ((C1 l ((l.map fun a=>a.1).filter era.1.contains) r.1 r.2.1 r.2.2.1).bind fun L9=>some ((((L9.2.1.1,L9.2.1.2.1,(),()),0,()),()),(L9.2.2.2.1,())))
    (some ((((r.1,r.2.1,(),()),3,()),()),(r.2.2.1,()))):Option Ke)=some (xG (if !Qo c era.1 ((l.map fun a=>a.1).filter era.1.contains)then(r,3)else
    ((r.1,r.2.1+1,r.2.2.1++[Qa (HB r.1 r.2.1) (HG era.1 (HB r.1 r.2.1) none l)],()),0))):=by
   intro h60;rw[dN (by omega) (by omega) (by omega) hf hl TQ];rw[bS (s:=(l.map fun a=>a.1).filter era.1.contains) (t:=era.1) (fun a ha=>by
    rw[Bool.eq_iff_iff,AQx,AQ7];exact⟨fun h=>by simpa using h.2,fun h=>⟨List.mem_map_of_mem ha,by simpa using h⟩⟩)]
   cases Qo c era.1 ((l.map fun a=>a.1).filter era.1.contains)<;>rfl
  cases h7:era.2.1 with
  |true=>
   simp only[ANZ,AL5,ANm,ALW,AQi,AQW,ANR];by_cases h8:r.2.1>era.2.2.1
   ·rw[ALC h8,ALC h8];rfl
   rw[ALG h8,ALG h8];by_cases h9:r.2.1>60
   ·rw[ALC h9,ALC h9];rfl
   rw[ALG h9,ALG h9];exact tail (by omega)
  |false=>
   simp only[ANZ,AL5,ANm,AQR,AQi,AL6,APB,AQd,ANR];by_cases h8:r.2.1>sure
   ·rw[ALC h8,ALC (.inl h8)];rfl
   rw[ALG h8];by_cases h9:r.2.1>60
   ·rw[ALC h9,ALC (.inr h9)];rfl
   rw[ALG h9,ALG (show¬(r.2.1>sure∨r.2.1>60)by omega)];exact tail (by omega)
 rw[wH];clear hT wH
 generalize (decide (Ar g.2.1<r.1)||((Ar g.2.1==r.1)&&decide (D4 g.2.1<r.2.1)))=B at hta⊢
 by_cases h6:g.2.1≥HB r.1 r.2.1
 ·rw[APl h6]at hta
  rw[ALC h6];by_cases h0:g.2.1>0
  ·rw[ALC h0]
   cases B with
   |true=>rw[ALW,ASW]at hta;cases hta
   |false=>rfl
  ·rw[AQO h0]at hta;cases hta
 ·rw[ALG h6]
  rw[AQO h6]at hta;by_cases h0:g.2.1>0
  ·rw[ALC h0]
   cases B with
   |true=>rfl
   |false=>rw[APl h0]at hta;cases hta
  ·rw[ALG h0]
end Go.M
end
section
set_option maxRecDepth 8000
namespace Go.M
open Go.M.H (AK AO Ax Al AA Cp AN A6 AQ Aj Bc A7 Br Ai B5 AU AW AX Ag Bb As Am A0 D8 CG Ct C3)
theorem zB{w:AA}{p n:Int}:(answer w p n).1=n:=by
 unfold answer;split<;>rfl
theorem o0{w:AA}{p:Int}{ns:AAM}:(answers w p ns).map (fun a=>a.1)=ns.filter fun n=>Aw w n==0:=by
 unfold answers;rw[ARt]
 conv=>rhs;rw[←List.map_id (ns.filter fun n=>Aw w n==0)]
 exact AQs fun n _=>zB
theorem jh{c:B_}{g:AN}{s:Int}{r:Aj}{w:AA}{ns:AAM}:
  Ck c g s r (answers w (Gi r.1 r.2.1) ns)=Ck c g s r (answers w (HB r.1 r.2.1) ns):=by
 unfold Ck;rw[o0,o0];cases h1:Mr c g with
 |false=>rfl
 |true=>
 cases h2:Yt r with
 |false=>rfl
 |true=>
 have hr:=TY.1 h2;have hre:=hr.ep;have hro:=hr.off;have hRn:=(J5.1 h1).n;by_cases h3:r.1≤30∧r.2.1≤60
 ·have:Gi r.1 r.2.1=HB r.1 r.2.1:=by
   unfold Gi;rw[ALC (by rw[ALo,Ak,Ak];omega)]
  rw[this]
 ·by_cases h4:r.1>(g.1.length:Int)
  ·rw[APl h4];rfl
  ·have h5:r.2.1>60:=by omega
   rw[APl h5];simp only[Bool.or_true,AQV]
def kY(q:AA×Int):KY:=((q.2,()),(((),q.1.2.1,(),(),(),q.1.2.2.2.2.2.1,(),(),(),(),q.1.2.2.2.2.2.2.2.2.2.2.1,()),q.1.1,q.1.2.2.1,q.1.2.2.2.1,q.1.2.2.2.2.1,q.1.2.2.2.2.2.2.1,q.1.2.2.2.2.2.2.2.1,q.1.2.2.2.2.2.2.2.2.1,q.1.2.2.2.2.2.2.2.2.2.1,()))
theorem AFa{k n:Int}(h:n∈BH k):0≤n∧n≤7:=by
 unfold BH at h;split at h
 ·have:=(AQ7.1 h).1
  simp at this;omega
 ·simp at h
theorem vV{k:Int}:(BH k).length≤8:=by
 unfold BH;split
 ·exact AQL (AQM _ _) (by simp)
 ·simp
section
variable{w:AA} (h:On w) (QV:kQ w)
include h QV
omit QV in
theorem xY{p:Int}{ns:AAM}:∀a∈answers w p ns,Ce a.2.2.1:=fun a ha=>by
 unfold answers at ha;obtain⟨n,hn,rfl⟩:=AQ0.1 ha;have hn':Aw w n=0:=by have:=(AQ7.1 hn).2;rwa [AQb]at this
 unfold answer;split
 ·rename_i e he
  have:=(h.store hn').kept e (ATl he);exact Gd (FI.1 this).pl
 ·exact⟨by show-9223372036854775808≤(0:Int);omega,by show(0:Int)<9223372036854775808;omega⟩
theorem fZ{a k:Int}:Mt a k w.2.1 w.2.2.2.2.2.1 w.2.2.2.2.2.2.2.2.2.2.1 w.1 w.2.2.1 w.2.2.2.1 w.2.2.2.2.1 w.2.2.2.2.2.2.1 w.2.2.2.2.2.2.2.1 w.2.2.2.2.2.2.2.2.1 w.2.2.2.2.2.2.2.2.2.1=some (kY (CY w a k)):=by
 have kn:=h.nums;have k1:=kn.c;have k3:=kn.lost;have k4:=kn.st;have gq:=kn.Jt;have jU:=kn.gv;have k5:=kn.era;have k6:=kn.ws;have k6':AU Ai w.BG≤80008:=kn.ws;have k8:=kn.rd;unfold Mt NX CY;rw[AH (by omega) (by omega),show((w.2.2.2.2.2.2.2.2.1.length:Int)-1)=1 by omega,Aq];simp only[AD,Au];rcases AK_ (BF a 0 1)with h1|h1
 rotate_left
 ·rw[h1];rfl
 have h1':=Ak.1 h1;have hb:0≤a∧a<(w.2.2.2.2.2.2.2.2.1.length:Int):=by omega
 have Hw:a.toNat<w.Af.length:=by
  have:w.Af.length=2:=h.mS;omega
 have Xu:=h.Af _ (BU (d:=EX) Hw);rw[h1,Fq,ANZ,ALC hb,Yl];simp only[show w.2.2.2.2.2.2.2.2.1.getD a.toNat (0,0,[],())=w.Af.getD a.toNat EX from rfl]
 generalize hx:w.Af.getD a.toNat EX=r at Xu⊢
 have hre:=Xu.ep;have hro:=Xu.off;rw[IC];simp only[AD];have wA:=vV (k:=k);have hmi:=fun n=>AFa (k:=k) (n:=n)
 rw[←jh]
 generalize hp:Gi r.1 r.2.1=p
 have TQ:=fun ns=>xY h (p:=p) (ns:=ns)
 generalize BH k=ms at wA hmi
 have key:∀(n i:Nat) (b:List A7),i≤ms.length→ms.length-i<n→b.length≤i→b=answers w p (ms.take i)→
   C6 n a p ms.length i w.2.1 w.2.2.2.2.2.1 w.2.2.2.2.2.2.2.2.2.2.1 w.1 w.2.2.1 w.2.2.2.1 w.2.2.2.2.1 w.2.2.2.2.2.2.1 w.2.2.2.2.2.2.2.1 w.2.2.2.2.2.2.2.2.1 w.2.2.2.2.2.2.2.2.2.1 r.1 r.2.1 r.2.2.1 b ms=
    some (kY (if(Ck (Ac w) (CJ w) (bN w r.1) r (answers w p ms)).2≠0 then(w,5)else(w.C2 (w.Af.set a.toNat (Ck (Ac w) (CJ w) (bN w r.1) r (answers w p ms)).1),0))):=by
  intro n
  induction n with
  |zero=>intro i b _ h;omega
  |succ n ih=>
   intro i b hi hn uv he;simp only[C6,Nb,AB,Au];by_cases DG:i<ms.length
   ·have c1:(0:Int)≤(i:Int)∧(i:Int)<(ms.length:Int):=by omega
    have c2:b.length+1≤DA:=by rw[An];omega
    have ht:ms.take (i+1)=ms.take i++[ms[i]]:=AQf DG;rw[ALC c1.2,ALC c1,Ah DG,AH (by omega) (by omega),show((i:Int)+1)=((i+1:Nat):Int)by omega,show(w.1,w.2.1,w.2.2.1,w.2.2.2.1,w.2.2.2.2.1,w.2.2.2.2.2.1,w.2.2.2.2.2.2.1,w.2.2.2.2.2.2.2.1,w.2.2.2.2.2.2.2.2.1,w.2.2.2.2.2.2.2.2.2.1,w.2.2.2.2.2.2.2.2.2.2.1,())=w from rfl,Zp (by omega)];simp only[AD];have hm:=hmi _ (AMx DG);by_cases hn0:Aw w ms[i]=0
    ·obtain⟨n1,n2,n3⟩:=Pn hn0
     have n2':ms[i]<(w.2.2.1.length:Int):=n2;have n3':w.2.2.2.1.contains ms[i]=false:=by
      rw[AQy,ne_eq,AQx];exact n3
     have hs1:(ms[i]).toNat<w.2.2.1.length:=by omega
     have an:w.2.2.1.getD (ms[i]).toNat ([],[],0,())=storeAt w ms[i]:=rfl;have hsm:Ai (storeAt w ms[i])≤2^30:=AQL (AX (f:=Ai) (BU (d:=D9) hs1)) (by omega);have AXE:Bu (storeAt w ms[i])=true:=DF.2 (h.store hn0);rw[ALC n2',n3',AL5,ALC ⟨n1,n2'⟩,an,show((storeAt w ms[i]).1,(storeAt w ms[i]).2.1,(storeAt w ms[i]).2.2.1,())=storeAt w ms[i]from rfl,Tm hsm (h.store hn0).sin];simp only[AD];rw[ALC c2];refine ih (i+1) _ (by omega) (by omega) (by simp;omega) ?_
     rw[ht,he];unfold answers;rw[ASt,List.map_append];congr 1;rw[AP6,ALC (by rw[AQb];exact hn0),ARq,ARf,AS4];congr 1;unfold answer XJ;rw[ALC AXE];cases Od p (storeAt w ms[i]).1<;>rfl
    ·have n1:=ih (i+1) b (by omega) (by omega) (by omega) (by
      rw[ht,he];unfold answers;rw[ASt,List.map_append,AP6,ALG (by rw[AQb];exact hn0),ARq,AS4,ANI])
     by_cases hl:ms[i]<(w.2.2.1.length:Int)
     ·rw[ALC hl]
      have ANn:w.2.2.2.1.contains ms[i]=true:=by
       cases hc:w.2.2.2.1.contains ms[i]with
       |true=>rfl
       |false=>
        exfalso
        apply hn0;unfold Aw;have e1:BF ms[i] 0 ((w.BG.length:Int)-1)=true:=Ak.2 (by have:(w.BG.length:Int)=w.2.2.1.length:=rfl;omega);have e2:w.lost.contains ms[i]=false:=hc;rw[e1,e2];rfl
      rw[ANn,ANZ,n1]
     ·rw[ALG hl,n1]
   ·have e0:ms.take i=ms:=AQa (by omega)
    rw[e0]at he;subst he;have zm:(answers w p ms).length≤8:=by omega
    rw[ALG (by omega),show(w.1,w.2.1,w.2.2.1,w.2.2.2.1,w.2.2.2.2.1,w.2.2.2.2.2.1,w.2.2.2.2.2.2.1,w.2.2.2.2.2.2.2.1,w.2.2.2.2.2.2.2.2.1,w.2.2.2.2.2.2.2.2.2.1,w.2.2.2.2.2.2.2.2.2.2.1,())=w from rfl,nK QV,show(r.1,r.2.1,r.2.2.1,())=r from rfl,show(w.1,w.2.1,())=Ac w from rfl,show(w.2.2.2.2.1,w.2.2.2.2.2.1,())=CJ w from rfl];simp only[AD];rw[fh (c:=Ac w) (g:=CJ w) (by show w.1.length≤_;omega) (by show AU Bb w.2.2.2.2.1≤_;omega) kn.trim (by omega) (TQ ms)];simp only[AD,xG,Co];by_cases h2:(Ck (Ac w) (CJ w) (bN w r.1) r (answers w p ms)).2=0
    ·rw[ALC h2,ALC hb,ALG (fun hh=>hh h2)];rfl
    ·rw[ALG h2,ALC h2];rfl
 exact key AY 0 [] (by omega) (Aa (by omega)) (by simp) (by simp[answers])
end
end Go.M
end
section
set_option maxRecDepth 8000
namespace Go.M
open Go.M.H (AK AO Ax Al AA Cp AN A6 AQ Aj Bc A7 Br Ai B5 AU AW AX Ag Bb As Am A0 D8 CG Ct C3)
theorem nh{c:B_}{g:AN}{sure:Int}{r:Aj}{l:List A7}(h0:(Ck c g sure r l).2=0):
  (∃e:Bc,(Ck c g sure r l).1.2.2.1=r.2.2.1++[e]∧e.2.2.1.length≤40)∧r.2.2.1.length<120:=by
 have hf:∀p,(Qa p (HG (g.1.getD (r.1-1).toNat Gt).1 p none l)).2.2.1.length≤40:=fun p=>by
  cases hb:HG (g.1.getD (r.1-1).toNat Gt).1 p none l with
  |none=>show 0≤40;omega
  |some x=>
   have:=(FI.1 (eK (b:=none) (fun x hx=>by cases hx) x hb)).len;unfold Qa;dsimp only;split
   ·show 0≤40;omega
   ·exact this
 revert h0
 unfold Ck;dsimp only;split
 ·intro h0;cases h0
 rename_i hs;simp only[APR,APd,ALo,TY]at hs;have r3:=hs.2.1.n;split
 ·intro h0;cases h0
 rename_i h1;simp only[AQd,ANR,not_or]at h1;have Hw:r.2.2.1.length<120:=by omega
 split
 ·intro _;exact⟨⟨_,rfl,by show 0≤40;omega⟩,Hw⟩
 split
 ·intro _;exact⟨⟨_,rfl,by show 0≤40;omega⟩,Hw⟩
 split
 ·intro h0;cases h0
 split
 ·intro h0;cases h0
 intro _;exact⟨⟨_,rfl,hf _⟩,Hw⟩
theorem On.ANk{w:AA}(h:On w)(hr:AU A0 w.Af≤900000):kQ w:=by
 have hc:=(Dw h.cfg).2.1;have cR:w.1.length≤8:=hc;have a1:=D6 (f:=Ai) (B:=10000) (N:=8) (l:=w.BG) (by rw[h.qD];exact hc) fun s hs=>(h.UR hs).w
 have a2:=G2 h.lost;have a3:=h.mC.w;have a4:=D6 (f:=Am) (B:=3000) h.qu fun x hx=>(h.AR x hx).1.w
 have a5:=D6 (f:=B5) (B:=5000) h.vK fun x hx=>(h.CB x hx).1.w
 have a7:=D6 (f:=D8) (B:=40) h.Q3 fun s hs=>(h.CK s hs).2.2
 refine⟨?_,fun s hs=>(h.UR hs).sin,h.mC.tin,fun m hm=>(h.CB m hm).1.wG,fun s hs=>Gd (h.CK s hs).1⟩;have a3':AU Bb w.A8≤270:=a3;have hr':AU A0 w.2.2.2.2.2.2.2.2.1≤900000:=hr;have b1:AU Ai w.2.2.1≤8*(1+10000):=a1;have b2:w.2.2.2.1.length≤8:=a2;have b3:AU Bb w.2.2.2.2.1≤270:=a3;have b4:AU Am w.2.2.2.2.2.2.1≤4*(1+3000):=a4;have b5:AU B5 w.2.2.2.2.2.2.2.1≤1*(1+5000):=a5;have b7:AU D8 w.2.2.2.2.2.2.2.2.2.1≤120*(1+40):=a7;unfold Ct;omega
def X1(w:AA)(a:Int):Nat:=(w.Af.getD a.toNat EX).2.2.1.length
theorem rz{α:Type}{f:α→Nat}{x:α}:∀{l:List α} {i:Nat} (h:i<l.length),AU f (l.set i x)+f l[i]=AU f l+f x
 |y::l,0,_=>by simp[AU];omega
 |y::l,i+1,h=>by
  have:=rz (f:=f) (x:=x) (l:=l) (i:=i) (by simpa using h);simp only[List.set_cons_succ,AU,List.getElem_cons_succ];omega
theorem rR{α:Type}{f:α→Nat}{x:α}:∀{l:List α},AU f (l++[x])=AU f l+(1+f x)
 |[]=>by simp[AU]
 |y::l=>by
  have:=rR (f:=f) (x:=x) (l:=l);simp only[AQq,AU,this];omega
theorem dM{w:AA}{a k:Int}(h:On w)(e:(CY w a k).2=0):BF a 0 1=true∧On (CY w a k).1∧X1 (CY w a k).1 a=X1 w a+1∧X1 w a<120∧
  X1 (CY w a k).1 (1-a)=X1 w (1-a)∧AU A0 (CY w a k).1.Af≤AU A0 w.Af+41:=by
 have FX:=ym h e;unfold CY at e FX⊢;split at e
 ·cases e
 rename_i h1;rw[ALG h1]at FX;rw[ALG h1];dsimp only at e FX⊢;split at e
 ·cases e
 rename_i h2;rw[ALG h2]at FX;rw[ALG h2];simp only[ne_eq,ATS]at h2;simp only[APR,APd]at h1;have h1':=Ak.1 h1;have hl:a.toNat<w.Af.length:=by rw[h.mS];omega
 obtain⟨⟨ev,q1,q2⟩,q3⟩:=nh h2
 generalize hq:(Ck (Ac w) (CJ w) (bN w (w.Af.getD a.toNat EX).1) (w.Af.getD a.toNat EX) (answers w (HB (w.Af.getD a.toNat EX).1 (w.Af.getD a.toNat EX).2.1) (BH k))).1=q at q1 FX
 have hg:(w.Af.set a.toNat q).getD a.toNat EX=q:=by simp[List.getD,hl]
 have cq:(1-a).toNat≠a.toNat:=by omega
 refine⟨h1,FX,?_,q3,?_,?_⟩
 ·show((w.Af.set a.toNat q).getD a.toNat EX).2.2.1.length=_
  rw[hg,q1];simp[X1]
 ·show((w.Af.set a.toNat q).getD (1-a).toNat EX).2.2.1.length=_
  simp only[List.getD,AQQ (Ne.symm cq)];rfl
 ·show AU A0 (w.Af.set a.toNat q)≤_
  have:=rz (f:=A0) (x:=q) hl;have e1:A0 q=AU CG q.2.2.1:=rfl;have e2:A0 w.Af[a.toNat]=AU CG w.Af[a.toNat].2.2.1:=rfl;rw[q1,rR,iX hl]at e1;have e3:CG ev=ev.2.2.1.length:=rfl;omega
def MB:Nat→AA→Int→AA×Int
 |0,w,_=>(w,0)
 |n+1,w,a=>if(CY w a 255).2=0 then((MB n (CY w a 255).1 a).1,(MB n (CY w a 255).1 a).2+1)else(w,0)
structure HR (w v:AA) (a m:Int):Prop where
 ok:On v
 win:kQ v
 stop:(CY v a 255).2≠0
 cnt:0≤m∧m≤120
 len:(X1 v a:Int)=X1 w a+m
 cP:X1 v (1-a)=X1 w (1-a)
theorem uD:∀(n:Nat) {w:AA} {a:Int},On w→120-X1 w a<n→AU A0 w.Af+41*(120-X1 w a)≤900000→HR w (MB n w a).1 a (MB n w a).2
 |0,_,_,_,h,_=>by omega
 |n+1,w,a,h,hn,hw=>by
  simp only[MB];by_cases hd:(CY w a 255).2=0
  ·rw[ALC hd]
   obtain⟨_,k1,k2,k3,k4,k5⟩:=dM h hd;have ih:=uD n (w:=(CY w a 255).1) (a:=a) k1 (by omega) (by rw[k2];omega);have hl:=ih.len;have hc:=ih.cnt;have hro:X1 (MB n (CY w a 255).1 a).1 a≤120:=by
    unfold X1;by_cases Hw:a.toNat<(MB n (CY w a 255).1 a).1.Af.length
    ·exact(ih.ok.Af _ (BU (d:=EX) Hw)).n
    ·rw[List.getD,AQU (by omega)]
     show 0≤120
     omega
   exact⟨ih.ok,ih.win,ih.stop,by show 0≤_+1∧_+1≤120;omega,by show(X1 (MB n (CY w a 255).1 a).1 a:Int)=X1 w a+((MB n (CY w a 255).1 a).2+1);omega,ih.cP.trans k4⟩
  ·rw[ALG hd]
   exact⟨h,h.ANk (by omega),hd,by show(0:Int)≤0∧(0:Int)≤120;omega,by simp,rfl⟩
theorem bL{all:Bool}{w:AA}(h:On w){a k:Int}:Ij all w (14,a,k,0,[],())=CY w a k:=by
 unfold Ij;have hd:Qe (14,a,k,0,[],())=true:=rfl;rw[KQ.2 h,hd];rfl
end Go.M
end
section
set_option maxRecDepth 8000
namespace Go.M
open Go.M.H (AK AO Ax Al AA Cp AN A6 AQ Aj Bc A7 Br Ai B5 AU AW AX Ag Bb As Am A0 D8 CG Ct C3)
theorem ib{α:Type}{q:Nat}{v l:List α}(hq:q≤l.length)(hl:l.length+v.length≤2^30):v7 (q:Int) v l=some (l.take q++v++l.drop q):=by
 unfold v7;rw[ALC ⟨by omega,by omega,by rw[An];omega⟩,AMp]
theorem vP{l:AAM}(ha:VW id l)(hl:l.length≤2^30)(p:Int):∃q,jP id p l q∧
  GC l p=some ((((q:Int),(match l[q]? with|some e=>e==p|none=>false),()),()),()):=by
 have key:∀(n a b:Nat),a≤b→b≤l.length→b-a<n→(∀(i:Nat) (h:i<l.length),i<a→l[i]<p)→(∀(i:Nat) (h:i<l.length),b≤i→p≤l[i])→
   ∃q,jP id p l q∧Dc n l p l.length a b=some ((((q:Int),(match l[q]? with|some e=>e==p|none=>false),()),()),()):=by
  intro n
  induction n with
  |zero=>intro a b _ _ h;omega
  |succ n ih=>
   intro a b nA hb hn h1 h2;simp only[Dc,Jv,AB,cmp_Less_int,cmp_isNaN_int,O5,bne_self_eq_false,AD,AL5];by_cases Hw:a<b
   ·have hm:(a+b)/2<l.length:=by omega
    rw[ALC (by omega),sM (by omega),ALC (by omega),Ah hm];by_cases hc:l[(a+b)/2]<p
    ·rw[ALC hc,AH (by omega) (by omega),show((((a+b)/2:Nat):Int)+1)=(((a+b)/2+1:Nat):Int)by omega]
     refine ih _ b (by omega) hb (by omega) (fun i h hi=> ?_) h2;have:=ak (f:=id) ha h hm (by omega);simp only[id]at this;omega
    ·have wK:∀(i:Nat) (h:i<l.length),(a+b)/2≤i→p≤l[i]:=fun i h hi=>by
      have:=ak (f:=id) ha hm h hi;simp only[id]at this;omega
     rw[ALG hc];exact ih a _ (by omega) (by omega) (by omega) h1 wK
   ·have AB8:a=b:=by omega
    subst AB8;refine⟨a,⟨hb,h1,h2⟩,?_⟩;rw[ALG (by omega)];by_cases ha':a<l.length
    ·rw[ALC (by omega),ALC (by omega),Ah ha',ALD ha']
     dsimp only;cases l[a]==p<;>simp[ha']
    ·rw[ALG (by omega),AQU (by omega)]
 obtain⟨q,hq,e⟩:=key AY 0 l.length (by omega) (by omega) (Aa (by omega)) (fun i h hi=>by omega) (fun i h hi=>by omega);refine⟨q,hq,?_⟩;unfold GC Ju;rw[show((0:Nat):Int)=0 from rfl]at e;exact e
theorem pR{x:Int}:∀{l:AAM} {q:Nat},jP id x l q→(∀h:q<l.length,l[q]≠x)→fc x l=l.take q++[x]++l.drop q
 |[],q,h,_=>by
  have:=h.le;have:q=0:=by simpa using this
  subst this;rfl
 |y::l,0,h,hn=>by
  have h1:=h.ge 0 (by simp) (APM _);have h2:=hn (by simp);simp only[ARY,id]at h1 h2;simp only[fc];rw[ALC (by omega)];rfl
 |y::l,q+1,h,hn=>by
  have h1:=h.lt 0 (by simp) (by omega);simp only[ARY,id]at h1;simp only[fc];rw[ALG (by omega),pR (l:=l) (q:=q) ⟨by have:=h.le;simp at this;omega,fun i hi w8=>by have:=h.lt (i+1) (by simp;omega) (by omega);simpa using this,fun i hi w8=>by have:=h.ge (i+1) (by simp;omega) (by omega);simpa using this⟩ (fun hq=>by have:=hn (by simp;omega);simpa using this)];rfl
theorem Oo{l:AAM}{x:Int}(ha:VW id l)(hl:l.length≤2^29):Kv l x=some (((),()),(NY x l,())):=by
 unfold Kv NY;rw[De (by omega)];simp only[AD];obtain⟨q,hq,e⟩:=vP ha (by omega) x;rw[e];simp only[AD,Au];by_cases hc:q<l.length
 ·rw[ALD hc]
  dsimp only;by_cases he:l[q]=x
  ·rw[AQb.2 he,ANZ,ALC (by rw[AQx,←he];exact AMx hc)]
  ·rw[APA.2 he,AL5]
   have hn:l.contains x=false:=by
    rw[AQy,ne_eq,AQx];intro hm;obtain⟨i,hi,rfl⟩:=AQS hm;rcases Nat.lt_or_ge i q with w8|w8
    ·have:=hq.lt i hi w8;simp only[id]at this;omega
    ·have h1:=ak (f:=id) ha hc hi w8
     have h2:=hq.ge q hc (APM _);simp only[id]at h1 h2;omega
   rw[hn,ALG (by simp)];unfold Jp;rw[ib (by omega) (by simp;omega),pR hq (fun _=>he)];rfl
 ·rw[AQU (by omega)]
  dsimp only;rw[AL5];have hn:l.contains x=false:=by
   rw[AQy,ne_eq,AQx];intro hm;obtain⟨i,hi,rfl⟩:=AQS hm;have:=hq.lt i hi (by have:=hq.le;omega);simp only[id]at this;omega
  rw[hn,ALG (by simp)];unfold Jp;rw[ib hq.le (by simp;omega),pR hq (fun h=>absurd h hc)];rfl
theorem uc{e:AK}:∀{l:List AK} {q:Nat},jP (fun x:AK=>x.1) e.1 l q→en l→
  keep e l=if h:q<l.length then(if l[q].1=e.1 then l.set q (better l[q] e)else l.take q++[e]++l.drop q)else l++[e]
 |[],q,h,_=>by
  have:=h.le;have:q=0:=by simpa using this
  subst this;rfl
 |y::l,0,h,_=>by
  have h1:=h.ge 0 (by simp) (APM _);simp only[ARY]at h1;simp only[keep,AN2,Nat.zero_lt_succ,AUk,ARY];by_cases he:y.1=e.1
  ·rw[ALC he,ALC he];rfl
  ·rw[ALG he,ALG he,ALC (by omega)];rfl
 |y::l,q+1,h,ha=>by
  have h1:=h.lt 0 (by simp) (by omega);simp only[ARY]at h1;have ih:=uc (e:=e) (l:=l) (q:=q) ⟨by have:=h.le;simp at this;omega,fun i hi w8=>by have:=h.lt (i+1) (by simp;omega) (by omega);simpa using this,fun i hi w8=>by have:=h.ge (i+1) (by simp;omega) (by omega);simpa using this⟩ (AQT.1 ha).2;simp only[keep];rw[ALG (by omega),ALG (by omega),ih];by_cases hq:q<l.length
  ·rw[dif_pos hq,dif_pos (by simp;omega)]
   simp only[List.getElem_cons_succ];by_cases he:l[q].1=e.1
   ·rw[ALC he,ALC he];rfl
   ·rw[ALG he,ALG he];rfl
  ·rw[dif_neg hq,dif_neg (by simp;omega)]
   rfl
theorem aS{e:AK}{l:List AK}(ha:en l)(hl:l.length≤2^29):WY e l=some (((),()),((),keep e l,())):=by
 unfold WY;obtain⟨q,hq,hs⟩:=dU ha (by omega) e.1;rw[hs,uc hq ha];simp only[AD,Au];by_cases hc:q<l.length
 ·rw[dif_pos hc,ALD hc]
  dsimp only;have hb:(0:Int)≤(q:Int)∧(q:Int)<(l.length:Int):=by omega
  by_cases he:l[q].1=e.1
  ·rw[AQb.2 he,ANZ,ALC he,ALC hb,Ah hc,show(l[q].1,l[q].2.1,l[q].2.2.1,l[q].2.2.2.1,())=l[q]from rfl,show(e.1,e.2.1,e.2.2.1,e.2.2.2.1,())=e from rfl,Xf]
   simp only[AD];rw[ALC hb,AMp]
  ·rw[APA.2 he,AL5,ALG he]
   unfold Dl;rw[ib (by omega) (by simp;omega)];rfl
 ·have hql:q=l.length:=by have:=hq.le;omega
  rw[dif_neg hc,AQU (by omega)];dsimp only;rw[AL5];unfold Dl;rw[ib (by omega) (by simp;omega),hql,List.take_length,AQn,ANI];rfl
theorem MJ{s:AO}(hw:Ai s≤2^30)(hs:iS s):Da s=some (if Bu s then((((),(),s.2.2.1,()),()),(s.1,s.2.1,()))else((((),(),0,()),()),([],[],()))):=by
 obtain⟨l1,l2⟩:=Fp hw;unfold Da;rw[show(s.1,s.2.1,s.2.2.1,())=s from rfl,Et hw hs,H7 l1 l2];simp only[AD];cases Bu s<;>rfl
theorem jn{s:AO}{e:AK}(hw:Ai s≤2^30)(hs:iS s)(he:Ce e.1):T9 s e=some (gp (G8 s e)):=by
 obtain⟨l1,l2⟩:=Fp hw;unfold T9 G8;rw[show(s.1,s.2.1,s.2.2.1,())=s from rfl,show(e.1,e.2.1,e.2.2.1,e.2.2.2.1,())=e from rfl,Et hw hs,MJ hw hs,H7 l1 l2,QI he,Eu he];simp only[AD,Au,AB,C9];cases h1:Bu s with
 |false=>rfl
 |true=>
  have FX:=DF.1 h1;have vh:=FX.nl;cases h2:FZ e with
  |false=>rfl
  |true=>
   have hE:=(FI.1 h2).w0;simp only[ANZ,ANm,ALW,AL6,APB,AQV];have lim:s.2.1.length+1≤DA:=by rw[An];omega
   by_cases h3:s.2.1.length=20
   ·rw[ALC (by omega),AQO (fun h=>h h3),ASW]
    rfl
   ·rw[ALG (by omega),APl (show s.2.1.length≠20 from h3),AQp]
    unfold takes;by_cases h4:e.2.1=0
    ·rw[ALC h4,ALC h4]
     by_cases h5:Ar e.1≤s.2.2.1
     ·rw[ALC h5,AQO (by omega)];rfl
     ·rw[ALG h5,ALG (by omega),ALC lim,APl (by omega)];rfl
    ·rw[ALG h4,ALG h4,ALC (by omega)]
     by_cases h5:e.2.1≤s.2.2.1
     ·rw[ALC h5,AQO (by omega)];rfl
     ·rw[ALG h5,ALC lim,APl (by omega)];rfl
theorem XT{s:AO}{k:Int}(hw:Ai s≤2^30)(hs:iS s):Mz s k=some (gp (Fl s k)):=by
 obtain⟨l1,l2⟩:=Fp hw;unfold Mz TK Fl;rw[show(s.1,s.2.1,s.2.2.1,())=s from rfl,Et hw hs,MJ hw hs,H7 l1 l2,Aq];simp only[AD,Au];cases h1:Bu s with
 |false=>rfl
 |true=>
  have FX:=DF.1 h1;have vh:=FX.nl;have hnk:=FX.nk;simp only[ANZ,ALW,AL6,APB,AQV];cases h2:BF k 0 1048575 with
  |false=>rfl
  |true=>
   have hk:=Ak.1 h2;have AWp:0≤k∧k<2^63:=by omega
   simp only[ANZ,ANm];have key:∀(n i:Nat) (b:List AK),i≤s.2.1.length→s.2.1.length-i<n→b.length≤200+i→en b→
     Jb n k s.2.1 s.2.1.length i s.1 s.2.1 s.2.2.1 0 [] [] s.2.2.1 b []=
      some (gp (if decide ((EA b (Me k i (s.2.1.drop i))).length≤200)then((EA b (Me k i (s.2.1.drop i)),[],s.2.2.1,()),true)else(s,false))):=by
    intro n
    induction n with
    |zero=>intro i b _ h;omega
    |succ n ih=>
     intro i b hi hn hb nA;simp only[Jb,TT,AB];by_cases hc:i<s.2.1.length
     ·have zS:=sH AWp (i:=i) (by omega)
      rw[ALC (by omega),ALC (by omega),ALG (by omega),AMp,zS,AB,iX hc,AH (by omega) (by omega),show((i:Int)+1)=((i+1:Nat):Int)by omega,drop_cons hc];rw[show(s.2.1[i].1,s.2.1[i].2.1,s.2.1[i].2.2.1,s.2.1[i].2.2.2.1,())=s.2.1[i]from rfl,aS nA (by omega)];simp only[AD];rw[show Me k i (s.2.1[i]::s.2.1.drop (i+1))=if(k/2^i)%2=1 then s.2.1[i]::Me k (i+1) (s.2.1.drop (i+1))else Me k (i+1) (s.2.1.drop (i+1))from rfl];by_cases hbt:(k/2^i)%2=1
      ·rw[ALC hbt,ALC hbt,ih (i+1) _ (by omega) (by omega) (by have:=(Wn (e:=s.2.1[i]) (l:=b)).1;omega) (dF nA)]
       rfl
      ·rw[ALG hbt,ALG hbt,ih (i+1) _ (by omega) (by omega) (by omega) nA]
     ·rw[ALG (by omega),AMG (by omega),show(s.1,s.2.1,s.2.2.1,())=s from rfl,H7 l1 l2]
      simp only[AD,Me,EA];by_cases hg:b.length≤200
      ·rw[ALG (by omega),ALC (APl hg)];rfl
      ·rw[ALC (by omega),ALG (by simpa using hg)];rfl
   have:=key AY 0 s.1 (by omega) (Aa (by omega)) (by omega) FX.tz;rw[AOu]at this;exact this
theorem Yk{s:AO}(hw:Ai s≤2^30)(hs:iS s):ON s=some (gp (B6 s)):=by
 unfold ON B6;rw[show(s.1,s.2.1,s.2.2.1,())=s from rfl,XT hw hs];rfl
theorem jO{s:AO}{u:Int}(hw:Ai s≤2^30)(hs:iS s):Oh s u=some (gp (Bk s u)):=by
 unfold Oh Bk;rw[show(s.1,s.2.1,s.2.2.1,())=s from rfl,Yk hw hs,MJ hw hs,Aq];simp only[AD,Au,gp];cases h1:Bu s with
 |false=>
  have:(B6 s).2=false:=by unfold B6 Fl;rw[h1];rfl
  rw[this];rfl
 |true=>
  simp only[ALW,AL6,APB,AQV];cases h2:(B6 s).2 with
  |false=>rfl
  |true=>
   cases h3:BF u 0 30 with
   |false=>rfl
   |true=>
    simp only[ANZ,Bool.and_self,AQV];rw[show(if u>(B6 s).1.2.2.1 then u else(B6 s).1.2.2.1)=max (B6 s).1.2.2.1 u by rw[Int.max_def];split<;>split<;>omega]
theorem ji{s:AO}{ep:Int}(hw:Ai s≤2^30)(hs:iS s):Pl s ep=some (((),()),(GS s ep,())):=by
 obtain⟨l1,l2⟩:=Fp hw;unfold Pl Vw GS;rw[show(s.1,s.2.1,s.2.2.1,())=s from rfl,Et hw hs];simp only[AD,Au];cases h1:Bu s with
 |false=>rfl
 |true=>
  have key:∀(n i:Nat) (b:List AK),i≤s.1.length→s.1.length-i<n→b.length≤i→
    Lw n ep s.1 s.1.length i b=some (((),()),(b++(s.1.drop i).filter (fun e=>Ar e.1==ep),())):=by
   intro n
   induction n with
   |zero=>intro i b _ h;omega
   |succ n ih=>
    intro i b hi hn hb;simp only[Lw,Vg,AB];by_cases hc:i<s.1.length
    ·rw[ALC (by omega),ALC (by omega),Ah hc,Eu (hs.1 _ (AMx hc)),AH (by omega) (by omega),show((i:Int)+1)=((i+1:Nat):Int)by omega,drop_cons hc,AP6]
     simp only[AD];rw[ALC (by rw[An];omega),show(s.1[i].1,s.1[i].2.1,s.1[i].2.2.1,s.1[i].2.2.2.1,())=s.1[i]from rfl,ih (i+1) _ (by omega) (by omega) (by simp;omega),ih (i+1) b (by omega) (by omega) (by omega)];cases Ar s.1[i].1==ep with
     |true=>simp
     |false=>rfl
    ·rw[ALG (by omega),AMG (by omega)]
     simp
  have:=key AY 0 [] (by omega) (Aa (by omega)) (by simp);rw[show((0:Nat):Int)=0 from rfl,AOu,APq]at this;simp only[ANZ,AQV];exact this
end Go.M
end
section
set_option maxRecDepth 8000
namespace Go.M
open Go.M.H (AK AO Ax Al AA Cp AN A6 AQ Aj Bc A7 Br Ai B5 AU AW AX Ag Bb As Am A0 D8 CG Ct C3)
theorem vJ{x:AK}{t:AA3}:PH (x.1,x.2.1,x.2.2.1,x.2.2.2.1,()) t=some ((decide (x.1≤t.1),()),()):=rfl
theorem dY{t:ACY}{l:List AK}(hl:l.length≤2^30):Bj t l=some (((),()),((),l.filter (fun x=> !(decide (x.1≤t.1.1))),())):=by
 have key:∀(n i j:Nat) (b:List AK),i≤j→j≤b.length→b.length≤2^30→b.length-j<n→A_ n t i j b=some (((),()),((),b.take i++(b.drop j).filter (fun x=> !(decide (x.1≤t.1.1))),())):=by
  intro n
  induction n with
  |zero=>intro i j b _ _ _ h;omega
  |succ n ih=>
   intro i j b hij hj hb hn;simp only[A_,DH,AB];by_cases hc:j<b.length
   ·rw[ALC (by omega),ALC (by omega),Ah hc,vJ]
    simp only[AD];rw[AH (x:=(j:Int)+1) (by omega) (by omega),AH (x:=(i:Int)+1) (by omega) (by omega),show((j:Int)+1)=((j+1:Nat):Int)by omega,show((i:Int)+1)=((i+1:Nat):Int)by omega,drop_cons hc,AP6];have n1:=ih (i+1) (j+1) (b.set i b[j]) (by omega) (by simp;omega) (by simp;omega) (by simp;omega);have n2:=ih i (j+1) b (by omega) (by omega) hb (by omega);rw[show(t.1,())=t from rfl,n2];rw[AVC (by omega),AQf (by simp;omega),AVD (APM _),AU8,ANi,AQY]at n1;rw[ALC (by omega),AMp,n1]
    generalize hx:b[j]=x
    cases(decide (x.1≤t.1.1))<;>rfl
   ·rw[ALG (by omega),AMG (i:=j) (by omega),AMp,AMp]
    have h1:((b.take i++List.replicate (b.length-i) (0,0,false,[],())++b.drop (i+(b.length-i))).length:Int)=b.length:=by simp;omega
    rw[ALC (by omega),ALC (by rw[h1];omega)];rw[AOu,Nat.sub_zero,ANi,ASV (by simp;omega),List.take_take,Nat.min_self,ARq,ANI]
 have fnd:∀(n i:Nat),i≤l.length→l.length-i<n→ ∃r:Int,BD n l t l.length i=some ((r,()),())∧((r= -1∧(l.drop i).filter (fun x=> !(decide (x.1≤t.1.1)))=l.drop i)∨ ∃q:Nat,r=q∧i≤q∧q<l.length∧((l.take q).drop i).filter (fun x=> !(decide (x.1≤t.1.1)))=(l.take q).drop i∧ ∀(h:q<l.length) x,x=l[q]→(decide (x.1≤t.1.1))=true):=by
  intro n
  induction n with
  |zero=>intro i _ h;omega
  |succ n ih=>
   intro i hi hn;simp only[BD,DO,AB];by_cases hc:i<l.length
   ·rw[ALC (by omega),ALC (by omega),Ah hc,vJ]
    simp only[AD];rw[AH (x:=(i:Int)+1) (by omega) (by omega),show((i:Int)+1)=((i+1:Nat):Int)by omega,show(t.1,())=t from rfl];obtain⟨r,e,hr⟩:=ih (i+1) (by omega) (by omega);rw[e]
    generalize hx:l[i]=x
    cases hp:(decide (x.1≤t.1.1))with
    |true=>
     refine⟨i,rfl,.inr ⟨i,rfl,APM _,hc,?_,fun h y hy=> ?_⟩⟩
     ·rw[AMG (by simp;omega)];rfl
     ·rw[hy,hx];exact hp
    |false=>
     refine⟨r,rfl,?_⟩;rcases hr with⟨h1,h2⟩|⟨q,h1,h2,h3,h4,h5⟩
     ·refine .inl ⟨h1,?_⟩
      rw[drop_cons hc,AP6,h2,hx,hp];rfl
     ·refine .inr ⟨q,h1,by omega,h3,?_,h5⟩
      have Hw:i<(l.take q).length:=by simp;omega
      rw[drop_cons Hw,AP6,h4,List.getElem_take,hx,hp];rfl
   ·refine⟨-1,by rw[ALG (by omega)],.inl ⟨rfl,?_⟩⟩
    rw[AMG (by omega)];rfl
 obtain⟨r,e,hr⟩:=fnd AY 0 (by omega) (Aa (by omega));rw[show((0:Nat):Int)=0 from rfl]at e;unfold Bj DJ Cd DP;rw[show(t.1,())=t from rfl,e];simp only[AD];rcases hr with⟨h1,h2⟩|⟨q,h1,h2,h3,h4,h5⟩
 ·rw[h1]
  rw[AOu]at h2;rw[h2];rfl
 ·rw[h1,APA.2 (by omega),AL5,AH (by omega) (by omega),show((q:Int)+1)=((q+1:Nat):Int)by omega,key AY q (q+1) l (by omega) (by omega) hl (Aa (by omega))]
  rw[AOu]at h4;have hd:=h5 h3 _ rfl;congr 3
  conv=>rhs;rw[←ATK q l,ASt,h4,drop_cons h3,AP6]
  rw[hd];rfl
theorem jH{s:AO}{u:Int}(hw:Ai s≤2^30)(hs:iS s)(hu:Ce u):Rh s u=some (gp (I7 s u)):=by
 obtain⟨l1,l2⟩:=Fp hw;unfold Rh I7;rw[show(s.1,s.2.1,s.2.2.1,())=s from rfl,Et hw hs,MJ hw hs,H7 l1 l2,QD hu];simp only[AD];cases Bu s with
 |false=>rfl
 |true=>
  cases Ba u with
  |false=>rfl
  |true=>
   rw[dY l1];simp only[AD,ALW,AL5,AL6,APB,AQV];rw[show(fun x:AK=> !decide (x.1≤(((u,()),()):ACY).1.1))=fun e=>decide (e.1>u)from funext fun x=>by
    rw[←decide_not,decide_eq_decide]
    show¬x.1≤u↔x.1>u
    omega]
   rfl
theorem xE{p:Int}{n:Nat}:BF (Ar p) 1 n=(Ba p&&decide (Ar p≤n)):=by
 cases h:Ba p with
 |false=>
  unfold Ar;rw[h];rfl
 |true=>
  obtain⟨⟨h1,h2⟩,_⟩:=Gw h;unfold BF;rw[ANm,decide_eq_decide];omega
section
variable{c:B_} {r:AN} (hc:c.1.length≤2^40) (hl:AU Bb r.1≤2^30) (ht:Ce r.2.1)
include hc hl ht
theorem Tv:ED c r=some (if Mr c r then((((),r.2.1,()),()),(r.1,()))else((((),0,()),()),([],()))):=by
 unfold ED;rw[show(c.1,c.2.1,())=c from rfl,show(r.1,r.2.1,())=r from rfl,NH hc hl ht,Hm hl];simp only[AD];cases Mr c r<;>rfl
theorem mK{ns:AAM}(hn:ns.length≤2^30):ME c r ns=some (((((),(Ie c r ns).1.2.1,()),(Ie c r ns).2.1,(Ie c r ns).2.2,()),()),((Ie c r ns).1.1,())):=by
 have l1:=AW (f:=Bb) (l:=r.1);unfold ME Ie;rw[show(c.1,c.2.1,())=c from rfl,show(r.1,r.2.1,())=r from rfl,NH hc hl ht,Tv hc hl ht,Hm hl,GK hc (by omega),De hn];simp only[AD];cases Mr c r with
 |false=>rfl
 |true=>
  cases holds c ns with
  |false=>rfl
  |true=>
   simp only[ALW,AL5,AL6,APB,ANm,AQV];by_cases h30:r.1.length=30
   ·rw[show((r.1.length:Int)==30)=true by simp[h30],show decide (r.1.length≠30)=false by simp[h30]]
    rfl
   ·rw[show((r.1.length:Int)==30)=false by rw[APA];omega,show decide (r.1.length≠30)=true by simp[h30],AL5,ALC (by rw[An];omega)]
    simp
theorem kf{b last:Int}:Pm c r b last=some (pkR (Mp c r b last)):=by
 have l1:=AW (f:=Bb) (l:=r.1);unfold Pm Mp;rw[show(c.1,c.2.1,())=c from rfl,show(r.1,r.2.1,())=r from rfl,NH hc hl ht,Tv hc hl ht,Hm hl,Sj (by omega)];simp only[AD];rcases AK_ (Mr c r)with hr|hr
 rotate_left
 ·rw[hr];rfl
 have FX:=J5.1 hr;rw[hr];simp only[ALW,AL5,AL6,APB,AQV];by_cases h1:b=r.1.length
 rotate_left
 ·rw[show(b !=(r.1.length:Int))=true by simpa using h1,show decide (b=(r.1.length:Int))=false by simpa using h1]
  rfl
 rw[show(b !=(r.1.length:Int))=false by simpa using h1,show decide (b=(r.1.length:Int))=true by simpa using h1];simp only[AL5,ANm];by_cases h3:b=BC r.1
 ·rw[show(BC r.1==b)=true by simpa using h3.symm,show decide (b≠BC r.1)=false by simpa using h3,AQi,ASW]
  rfl
 have AEX:0<r.1.length:=by
  rcases AUQ r.1.length with hz|hz
  ·exact absurd (by rw[h1,hz];unfold BC;rw[hz];rfl) h3
  ·exact hz
 obtain⟨k,k1,k2,k3,k4⟩:=SZ FX AEX;rw[show(BC r.1==b)=false by simpa using fun h=>h3 h.symm,show decide (b≠BC r.1)=true by simpa using h3,show decide (BC r.1≠0)=true by rw[k2];exact APl (by omega),Aq];simp only[AL5,ANm,AD];cases BF last 0 60 with
 |false=>rfl
 |true=>
  simp only[ALW,AL5,AQV];rw[k2,AH (by omega) (by omega),show((k:Int)+1-1)=(k:Int)by omega,ALC (by omega),ALC (by rw[AQk];omega),AMp];unfold pkR OP;simp[List.getD,k1]
theorem mU{p:Int}(hp:Ce p):V4 c r p=some (pkR (Nv c r p)):=by
 unfold V4 Nv;rw[show(c.1,c.2.1,())=c from rfl,show(r.1,r.2.1,())=r from rfl,NH hc hl ht,Tv hc hl ht,Hm hl,Eu hp];simp only[AD];rw[Aq,xE];simp only[AD];cases Mr c r with
 |false=>rfl
 |true=>
  cases Ba p&&decide (Ar p≤(r.1.length:Int))with
  |false=>rfl
  |true=>
   simp only[ALW,AL5,AL6,APB,AQV];rw[show(if p>r.2.1 then p else r.2.1)=max r.2.1 p by rw[Int.max_def];split<;>split<;>omega];rfl
end
section
variable{c:B_} {w:AQ} (hc:c.1.length≤2^40) (hl:AU As w.2.1≤2^20)
include hc hl
theorem VY:EC c w=some (if DU c w then(((w.1,(),()),()),(w.2.1,()))else(((0,(),()),()),([],()))):=by
 unfold EC;rw[show(c.1,c.2.1,())=c from rfl,show(w.1,w.2.1,())=w from rfl,I8 hc (by omega),Jg (by show AU As w.2.1≤2^30;omega)];simp only[AD];cases DU c w<;>rfl
theorem jB{d:AA7}(hd:d.length≤2^20):JT c w d=some (((((B9 c w d).1.1,(),()),(B9 c w d).2.1,(B9 c w d).2.2,()),()),((B9 c w d).1.2.1,())):=by
 have l1:=AW (f:=As) (l:=w.2.1);unfold JT B9;rw[show(c.1,c.2.1,())=c from rfl,show(w.1,w.2.1,())=w from rfl,Jg (by show AU As w.2.1≤2^30;omega),VY hc hl];simp only[AD];rw[ALC (by rw[An];omega),I8 hc (by omega),I8 hc (by
   show AU As (w.2.1++[(d,[],false,())])≤2^30
   rw[Iw];simp only[AU,As,APp];omega)]
 simp only[AD];cases DU c w with
 |false=>rfl
 |true=>
  simp only[ALW,AL5,AL6,APB];cases DU c (w.1,w.2.1++[(d,[],false,())],())with
  |false=>rfl
  |true=>simp
theorem iV{o n:Int}:Sg c w o n=some (pkW (RO c w o n)):=by
 have l1:=AW (f:=As) (l:=w.2.1);unfold Sg RO;rw[show(c.1,c.2.1,())=c from rfl,show(w.1,w.2.1,())=w from rfl,I8 hc (by omega),VY hc hl,Jg (by show AU As w.2.1≤2^30;omega),Aq,Aq];simp only[AD];rcases AK_ (DU c w)with hw|hw
 rotate_left
 ·rw[hw];rfl
 have FX:=Ig.1 hw;have wm:=Dw FX.cfg;rw[hw,AH (x:=(c.1.length:Int)-1) (by omega) (by omega)];simp only[ALW,AL5,AL6,APB,AQV];rcases AK_ (BF o 1 (w.2.1.length:Int))with ho|ho
 rotate_left
 ·rw[ho];rfl
 have wB:=Ak.1 ho;rw[ho];have hi:(o-1).toNat<w.2.1.length:=by omega
 have uB:w.2.1.getD (o-1).toNat MA∈w.2.1:=BU (d:=MA) hi;have hm:(w.2.1.getD (o-1).toNat MA).1.length+(w.2.1.getD (o-1).toNat MA).2.1.length≤AU As w.2.1:=AX (f:=As) uB;have ACz:=(EY.1 (FX.words _ uB).2.1).2.2;simp only[ALW,AL5,ANm];rw[AH (x:=o-1) (by omega) (by omega),ALC (by omega)]
 show cond (w.2.1.getD (o-1).toNat MA).2.2.1 _ _=_
 cases(w.2.1.getD (o-1).toNat MA).2.2.1 with
 |true=>
  cases BF n 0 ((c.1.length:Int)-1)<;>rfl
 |false=>
  cases BF n 0 ((c.1.length:Int)-1)with
  |false=>rfl
  |true=>
   simp only[AL5,AQR,AQV,ALW,Bool.and_self];rw[ALC (by omega),show(w.2.1.getD (o-1).toNat ([],[],false,())).2.1=(w.2.1.getD (o-1).toNat MA).2.1 from rfl,Oo ACz (by omega)];simp only[AD];have hg:∀x:A6,(w.2.1.set (o-1).toNat x).getD (o-1).toNat ([],[],false,())=x:=fun x=>M8 hi
   rw[hg,GK hc (by
    simp only;have:=Sx (n:=n) (l:=(w.2.1.getD (o-1).toNat MA).2.1);omega)]
   simp only[AD];rw[AUf];rfl
theorem cf{n:Int}:Nr c w n=some (pkW (B7 c w n)):=by
 have l1:=AW (f:=As) (l:=w.2.1);unfold Nr Qy B7;rw[show(c.1,c.2.1,())=c from rfl,show(w.1,w.2.1,())=w from rfl,I8 hc (by omega),Jg (by show AU As w.2.1≤2^30;omega)];simp only[AD];cases DU c w with
 |false=>rfl
 |true=>
  simp only[ALW,AL5,AL6,APB];have key:∀(k i:Nat),i≤w.2.1.length→w.2.1.length-i<k→He k n w.2.1 w.2.1.length i 0 [] w.1 ((w.2.1.map (Ep n)).take i++w.2.1.drop i)=some (pkW ((w.1,w.2.1.map (Ep n),()),true)):=by
   intro k
   induction k with
   |zero=>intro i _ h;omega
   |succ k ih=>
    intro i hi hk;have hlen:((w.2.1.map (Ep n)).take i++w.2.1.drop i).length=w.2.1.length:=Np hi;simp only[He,Q_,AB,hlen];by_cases DG:i<w.2.1.length
    ·have c1:(0:Int)≤(i:Int)∧(i:Int)<(w.2.1.length:Int):=by omega
     have hm:w.2.1[i].1.length+w.2.1[i].2.1.length≤AU As w.2.1:=AX (f:=As) (AMx DG);have hg:((w.2.1.map (Ep n)).take i++w.2.1.drop i).getD ((i:Int).toNat) ([],[],false,())=w.2.1[i]:=Mw DG;rw[ALC c1.2];simp only[ALC c1,hg];rw[Ah DG,AH (by omega) (by omega),show((i:Int)+1)=((i+1:Nat):Int)by omega];rcases AK_ (w.2.1[i].2.2.1)with hd|hd
     ·rw[hd]
      simp only[ALW,AL5];have:=ih (i+1) (by omega) (by omega);rw[←h_ DG (lI hd)]at this;exact this
     ·rw[hd]
      simp only[AQR,ANZ];rw[PW (by omega)];simp only[AD];have:=ih (i+1) (by omega) (by omega);rw[AMp,QE DG (by simp[Ep,hd])];exact this
    ·rw[ALG (by omega),AMG (by omega)]
     have:i=w.2.1.length:=by omega
     subst this;rw[ANI,AQa (by simp)];rfl
  have:=key AY 0 (by omega) (Aa (by omega));simpa using this
end
end Go.M
end
section
set_option maxRecDepth 8000
namespace Go.M
open Go.M.H (AK AO Ax Al AA Cp AN A6 AQ Aj Bc A7 Br Ai AU AW AX Ag Bb As Am B5 C3)
section
variable{c:B_} {m:Ax} (hc:c.1.length≤2^40) (hm:B5 m≤2^20) (h:eo m.2.2.2.1)
include hc hm h
theorem Sk:Ef c m=some (if GG c m then(((m.1,m.2.1,(),(),m.2.2.2.2.1,(),()),()),(m.2.2.1,m.2.2.2.1,m.2.2.2.2.2.1,()))else(((0,0,(),(),false,(),()),()),([],[],[],()))):=by
 unfold Ef;rw[show(c.1,c.2.1,())=c from rfl,show(m.1,m.2.1,m.2.2.1,m.2.2.2.1,m.2.2.2.2.1,m.2.2.2.2.2.1,())=m from rfl,Hf hc (by omega) h,HF (by omega)];simp only[AD];cases GG c m<;>rfl
theorem mW{o n:Int}:O1 c m o n=some (fL (SJ c m o n)):=by
 obtain⟨h1,h2,h3,h4⟩:=HE hm;unfold O1 SJ;rw[show(c.1,c.2.1,())=c from rfl,show(m.1,m.2.1,m.2.2.1,m.2.2.2.1,m.2.2.2.2.1,m.2.2.2.2.2.1,())=m from rfl,Hf hc (by omega) h,Sk hc hm h,HF (by omega),Aq,Aq];simp only[AD];rcases AK_ (GG c m)with hw|hw
 rotate_left
 ·rw[hw];rfl
 have FX:=Gh.1 hw;have wm:=Dw FX.cfg;rw[hw,AH (x:=(c.1.length:Int)-1) (by omega) (by omega)];simp only[ALW,AL5,AL6,APB,AQV];rcases AK_ (BF o 1 (m.2.2.2.2.2.1.length:Int))with ho|ho
 rotate_left
 ·rw[ho];rfl
 have wB:=Ak.1 ho;rw[ho];cases BF n 0 ((c.1.length:Int)-1)with
 |false=>rfl
 |true=>
  have hi:(o-1).toNat<m.2.2.2.2.2.1.length:=by omega
  have uB:=BU (d:=([]:AAM)) hi;have hq:=h4 _ uB;have ACz:=(EY.1 (FX.wrote _ uB)).2.2;simp only[ALW,AL5,ANm,AQV];rw[AH (by omega) (by omega),ALC (by omega),Oo ACz (by omega)];simp only[AD];rw[ALC (by omega)];rfl
theorem f_{n:Int}:QH c m n=some (fL (B4 c m n)):=by
 obtain⟨h1,h2,h3,h4⟩:=HE hm;unfold QH TM B4;rw[show(c.1,c.2.1,())=c from rfl,show(m.1,m.2.1,m.2.2.1,m.2.2.2.1,m.2.2.2.2.1,m.2.2.2.2.2.1,())=m from rfl,Hf hc (by omega) h,HF (by omega)];simp only[AD];cases GG c m with
 |false=>rfl
 |true=>
  simp only[ALW,AL5,AL6,APB];have key:∀(k i:Nat),i≤m.2.2.2.2.2.1.length→m.2.2.2.2.2.1.length-i<k→JY k n m.2.2.2.2.2.1 m.2.2.2.2.2.1.length i 0 0 false [] [] [] m.1 m.2.1 m.2.2.2.2.1 m.2.2.1 m.2.2.2.1 ((m.2.2.2.2.2.1.map (fun l=>less l [n])).take i++m.2.2.2.2.2.1.drop i)=
    some (fL ((m.1,m.2.1,m.2.2.1,m.2.2.2.1,m.2.2.2.2.1,m.2.2.2.2.2.1.map (fun l=>less l [n]),()),true)):=by
   intro k
   induction k with
   |zero=>intro i _ h;omega
   |succ k ih=>
    intro i hi hk;have hlen:=Np (f:=fun l=>less l [n]) hi;simp only[JY,TF,AB,hlen];by_cases DG:i<m.2.2.2.2.2.1.length
    ·have c1:(0:Int)≤(i:Int)∧(i:Int)<(m.2.2.2.2.2.1.length:Int):=by omega
     have hq:=h4 _ (AMx DG);rw[ALC c1.2];simp only[ALC c1];rw[Ah DG,AH (by omega) (by omega),show((i:Int)+1)=((i+1:Nat):Int)by omega,PW (by omega)];simp only[AD];rw[AMp,QE DG rfl];exact ih (i+1) (by omega) (by omega)
    ·rw[ALG (by omega),AMG (by omega)]
     have:i=m.2.2.2.2.2.1.length:=by omega
     subst this;rw[ANI,AQa (by simp)];rfl
  have:=key AY 0 (by omega) (Aa (by omega));simpa using this
theorem iy:Ob c m=some ((TX c m,()),()):=by
 obtain⟨h1,h2,h3,h4⟩:=HE hm;unfold Ob Uu TX;rw[show(c.1,c.2.1,())=c from rfl,show(m.1,m.2.1,m.2.2.1,m.2.2.2.1,m.2.2.2.2.1,m.2.2.2.2.2.1,())=m from rfl,Hf hc (by omega) h];simp only[AD];cases GG c m with
 |false=>rfl
 |true=>
  rcases AK_ m.2.2.2.2.1 with hp|hp
  rotate_left
  ·rw[hp];rfl
  have key:∀(k i:Nat),i≤m.2.2.2.2.2.1.length→m.2.2.2.2.2.1.length-i<k→Kj k m.2.2.2.2.2.1 m.2.2.2.2.2.1.length i c.1 c.2.1=some (((m.2.2.2.2.2.1.drop i).all (holds c),()),()):=by
   intro k
   induction k with
   |zero=>intro i _ h;omega
   |succ k ih=>
    intro i hi hk;simp only[Kj,Ug,AB];by_cases DG:i<m.2.2.2.2.2.1.length
    ·have c1:(0:Int)≤(i:Int)∧(i:Int)<(m.2.2.2.2.2.1.length:Int):=by omega
     have hq:=h4 _ (AMx DG);rw[ALC c1.2,ALC c1,AH (by omega) (by omega),show((i:Int)+1)=((i+1:Nat):Int)by omega,Ah DG,drop_cons DG,show(c.1,c.2.1,())=c from rfl,GK hc (by omega),ih (i+1) (by omega) (by omega)];simp only[AD,AQr];cases holds c m.2.2.2.2.2.1[i]<;>rfl
    ·rw[ALG (by omega),AMG (by omega)]
     rfl
  have:=key AY 0 (by omega) (Aa (by omega));rw[show((0:Nat):Int)=0 from rfl,AOu]at this;rw[this,hp];rfl
omit hc h in
theorem YE{o:Int}:Jj m o=some ((((EU m o).getD Di,(EU m o).isSome,()),()),()):=by
 obtain⟨h1,h2,h3,h4⟩:=HE hm;unfold Jj UU EU;rw[IC];simp only[AD];cases m.2.2.2.2.1 with
 |false=>
  simp only[AQi,AL6,APB,AQR,ANZ];cases(BF m.2.1 1 30&&BF o 1 60)<;>rfl
 |true=>
  simp only[ALW,AL5,ANm];rcases AK_ (BF m.2.1 1 30)with he|he
  rotate_left
  ·rw[he];rfl
  rcases AK_ (BF o 1 60)with ho|ho
  rotate_left
  ·rw[he,ho];rfl
  have hp:Gi m.2.1 o=HB m.2.1 o:=by unfold Gi;rw[he,ho];rfl
  rw[he,ho,hp];simp only[AQp,ALW,AL5,ANm];by_cases hl:o≤m.2.2.2.2.2.1.length
  ·rw[show decide (o>(m.2.2.2.2.2.1.length:Int))=false by simpa using hl,show decide (o≤(m.2.2.2.2.2.1.length:Int))=true by simpa using hl]
   simp only[AL5,AQV];have key:∀(k i:Nat),i≤m.2.2.2.1.length→m.2.2.2.1.length-i<k→KL k (HB m.2.1 o) m.2.2.2.1 m.2.2.2.1.length i m.1 m.2.1 m.2.2.1 m.2.2.2.1 true m.2.2.2.2.2.1 0 0 false []=
     some ((((match Od (HB m.2.1 o) (m.2.2.2.1.drop i)with
      |some x=>(HB m.2.1 o,m.1,x.2.2.1,x.2.2.2.1,())
      |none=>(HB m.2.1 o,m.1,true,[],())),true,()),()),()):=by
    intro k
    induction k with
    |zero=>intro i _ h;omega
    |succ k ih=>
     intro i hi hk;simp only[KL,Ux,AB];by_cases DG:i<m.2.2.2.1.length
     ·have c1:(0:Int)≤(i:Int)∧(i:Int)<(m.2.2.2.1.length:Int):=by omega
      rw[ALC c1.2,ALC c1,AH (by omega) (by omega),show((i:Int)+1)=((i+1:Nat):Int)by omega,Ah DG,drop_cons DG,ih (i+1) (by omega) (by omega)];unfold Od;rw[AUM];cases hx:m.2.2.2.1[i].1==HB m.2.1 o<;>rfl
     ·rw[ALG (by omega),AMG (by omega)]
      rfl
   have:=key AY 0 (by omega) (Aa (by omega));rw[show((0:Nat):Int)=0 from rfl,AOu]at this;rw[this];cases Od (HB m.2.1 o) m.2.2.2.1<;>rfl
  ·rw[show decide (o>(m.2.2.2.2.2.1.length:Int))=true by simp;omega,show decide (o≤(m.2.2.2.2.2.1.length:Int))=false by simp;omega]
   rfl
theorem kp{s:AAM}(hs:s.length≤2^20):Pg c m s=some (fL (Ld c m s)):=by
 obtain⟨h1,h2,h3,h4⟩:=HE hm;unfold Pg Ld;rw[show(c.1,c.2.1,())=c from rfl,show(m.1,m.2.1,m.2.2.1,m.2.2.2.1,m.2.2.2.2.1,m.2.2.2.2.2.1,())=m from rfl,Hf hc (by omega) h,Sk hc hm h,HF (by omega),bW (by omega) h];simp only[AD];rcases AK_ (GG c m)with FX|FX
 rotate_left
 ·rw[FX];rfl
 have hmo:=Gh.1 FX;rw[FX];simp only[AQV];rcases AK_ m.2.2.2.2.1 with hp|hp
 ·rw[hp]
  simp only[ALW,AL5,ANZ,AQi,AL6,APB,fL,hp]
 have wC:(m.2.2.1.filter s.contains).length≤m.2.2.1.length:=AQM _ _;rw[hp];simp only[ALW,AQR,AL5,AL6,APB,ANm];rw[av (by omega) (by omega)];simp only[AD];rw[dJ hc (by omega) hs];simp only[AD];cases Qo c s (m.2.2.1.filter s.contains)with
 |false=>simp[fL,hp]
 |true=>
  simp only[ALW,AL5,AQV];have hlb:=HX (l:=m.2.2.2.1);rw[ALC ⟨hlb.1,Int.le_refl _,by rw[An];omega⟩];rfl
theorem kW{n:Int}{l:List AK}(hl:l.length≤2^20)(TQ:eo l)(hw:AU Ag l≤2^20):Pq c m n l=some (fL (OS c m n l)):=by
 obtain⟨h1,h2,h3,h4⟩:=HE hm;unfold Pq Vs OS;rw[show(c.1,c.2.1,())=c from rfl,show(m.1,m.2.1,m.2.2.1,m.2.2.2.1,m.2.2.2.2.1,m.2.2.2.2.2.1,())=m from rfl,Hf hc (by omega) h,Sk hc hm h,HF (by omega)];simp only[AD];rcases AK_ (GG c m)with FX|FX
 rotate_left
 ·rw[FX];rfl
 have hmo:=Gh.1 FX;have ACz:=(EY.1 hmo.sld).2.2;rw[FX];simp only[ALW,AL5,AL6,APB,AQV];rcases AK_ m.2.2.2.2.1 with hp|hp
 ·rw[hp]
  simp[fL,hp]
 rw[hp,Oo ACz (by omega)];simp only[AD,AL5,AQR,ANm];have key:∀(k i:Nat) (b:List AK),i≤l.length→l.length-i<k→b.length≤2^20+i→en b→eo b→AU Ag b+AU Ag (l.drop i)≤2^21→
   La k l l.length i c.1 c.2.1 m.1 m.2.1 m.2.2.1 m.2.2.2.1 false m.2.2.2.2.2.1 0 0 false [] [] [] m.1 m.2.1 false (NY n m.2.2.1) b m.2.2.2.2.2.1=
   some (fL (if GG c (m.1,m.2.1,NY n m.2.2.1,EA b ((l.drop i).filter fun e=>Ar e.1==m.2.1),false,m.2.2.2.2.2.1,())then
    ((m.1,m.2.1,NY n m.2.2.1,EA b ((l.drop i).filter fun e=>Ar e.1==m.2.1),false,m.2.2.2.2.2.1,()),true)else(m,false))):=by
  intro k
  induction k with
  |zero=>intro i b _ h;omega
  |succ k ih=>
   intro i b hi hk hb nA wz qA;simp only[La,Vr,AB];by_cases DG:i<l.length
   ·have c1:(0:Int)≤(i:Int)∧(i:Int)<(l.length:Int):=by omega
    rw[ALC c1.2];simp only[ALC c1];rw[AH (by omega) (by omega),show((i:Int)+1)=((i+1:Nat):Int)by omega,Ah DG,drop_cons DG,show(l[i].1,l[i].2.1,l[i].2.2.1,l[i].2.2.2.1,())=l[i]from rfl,Eu (TQ _ (AMx DG)),aS nA (by omega)];rw[drop_cons DG]at qA;simp only[AU]at qA;simp only[AD,AP6];rcases AK_ (Ar l[i].1==m.2.1)with he|he
    ·simp only[he,ANZ,AQV,EA]
     have:=Wn (e:=l[i]) (l:=b);have hwk:=xg l[i] b;exact ih (i+1) _ (by omega) (by omega) (by omega) (dF nA) (fun x hx=>by
      rcases dk hx with rfl|hx
      ·exact TQ _ (AMx DG)
      ·exact wz x hx) (by omega)
    ·simp only[he,AL5,AL6,APB]
     exact ih (i+1) _ (by omega) (by omega) (by omega) nA wz (by omega)
   ·rw[ALG (by omega),AMG (by omega),show(c.1,c.2.1,())=c from rfl,HF (m:=(m.1,m.2.1,m.2.2.1,m.2.2.2.1,false,m.2.2.2.2.2.1,())) (by
     have:B5 (m.1,m.2.1,m.2.2.1,m.2.2.2.1,false,m.2.2.2.2.2.1,())=B5 m:=rfl;omega)]
    simp only[ARq,EA];rw[AMG (by omega)]at qA;simp only[AU]at qA;have wR:=Sx (n:=n) (l:=m.2.2.1);have hb2:=AW (f:=Ag) (l:=b);rw[Hf (m:=(m.1,m.2.1,NY n m.2.2.1,b,false,m.2.2.2.2.2.1,())) hc (by
     have Xw:=hm;unfold B5 at Xw⊢;simp only at Xw⊢;omega) wz]
    simp only[AD];cases GG c (m.1,m.2.1,NY n m.2.2.1,b,false,m.2.2.2.2.2.1,())with
    |false=>simp[fL,hp]
    |true=>rfl
 have hsw:AU Ag m.2.2.2.1≤2^20:=by
  have Xw:=hm;unfold B5 at Xw;omega
 have:=key AY 0 m.2.2.2.1 (by omega) (Aa (by omega)) (by omega) hmo.tz h (by rw[AOu];omega);rw[show((0:Nat):Int)=0 from rfl,AOu]at this;exact this
end
end Go.M
end
section
set_option maxRecDepth 8000
namespace Go.M
open Go.M.H (AK AO Ax Al AA Cp AN A6 AQ Aj Bc A7 Br Ai AU AW AX Ag Bb As Am B5 C3)
theorem pk{c:B_}{l:AAM}(hc:c.1.length≤2^20)(hl:l.length≤2^20):YK c l=some ((Az c l&& !holds c l,()),()):=by
 unfold YK;rw[show(c.1,c.2.1,())=c from rfl,D5 (by omega) (by omega),GK (by omega) (by omega)];simp only[AD];cases Az c l<;>cases holds c l<;>rfl
theorem qR{ss:List AO}(hs:ss.length≤1024)(h:∀s∈ss,s.1.length≤1024)(hw:∀s∈ss,Ai s≤2^30)(TQ:∀s∈ss,iS s)(FX:∀s∈ss,Bu s=true):gC ss=some (((),()),(GY [] ss,())):=by
 have key:∀n:Nat,
   (∀(i:Nat) (b:List AK),i≤ss.length→(ss.length-i)*1026+1≤n→b.length≤i*1024→en b→
    NJ n ss ss.length i b=some (((),()),(GY b (ss.drop i),())))∧
   (∀(i j:Nat) (b:List AK),(hi:i<ss.length)→j≤ss[i].1.length→(ss.length-i-1)*1026+1+(ss[i].1.length-j)+1≤n→b.length≤i*1024+j→en b→
    M9 n ss ss.length i ss[i].1 ss[i].1.length j b=some (((),()),(GY (EA b (ss[i].1.drop j)) (ss.drop (i+1)),()))):=by
  intro n
  induction n with
  |zero=>exact⟨fun i b _ h=>by omega,fun i j b _ _ h=>by omega⟩
  |succ n ih=>
   refine⟨fun i b hi h' hb nA=> ?_,fun i j b hi hj h' hb nA=> ?_⟩
   ·simp only[NJ,Z0,AB]
    by_cases hc:i<ss.length
    ·have hmm:=AMx hc
     have hm:=h _ hmm;rw[ALC (by omega),ALC (by omega),Ah hc,show(ss[i].1,ss[i].2.1,ss[i].2.2.1,())=ss[i]from rfl,Et (hw _ hmm) (TQ _ hmm),FX _ hmm];have e1:(ss.length-i)*1026=(ss.length-i-1)*1026+1026:=by
      rw[show ss.length-i=(ss.length-i-1)+1 by omega,AQm];simp
     have:=ih.2 i 0 b hc (by omega) (by omega) (by omega) nA;rw[show((0:Nat):Int)=0 from rfl,AOu]at this;simp only[AD,ALW,AL5];rw[this,drop_cons hc];rfl
    ·rw[ALG (by omega),AMG (by omega)]
     rfl
   ·have hm:=h _ (AMx hi)
    simp only[M9,aB,AB];have hbb:i*1024≤2^20:=by
     have:i*1024≤1024*1024:=AOr _ (by omega);omega
    by_cases hc:j<ss[i].1.length
    ·have c2:(0:Int)≤(j:Int)∧(j:Int)<(ss[i].1.length:Int):=by omega
     rw[ALC c2.2,ALC c2,Ah hc,show(ss[i].1[j].1,ss[i].1[j].2.1,ss[i].1[j].2.2.1,ss[i].1[j].2.2.2.1,())=ss[i].1[j]from rfl,aS nA (by omega)];simp only[AD];rw[AH (by omega) (by omega),show((j:Int)+1)=((j+1:Nat):Int)by omega,drop_cons hc];have hk:=Wn (e:=ss[i].1[j]) (l:=b);exact ih.2 i (j+1) _ hi (by omega) (by omega) (by omega) (dF nA)
    ·rw[ALG (by omega),AH (by omega) (by omega),show((i:Int)+1)=((i+1:Nat):Int)by omega,AMG (by omega)]
     exact ih.1 (i+1) b (by omega) (by rw[show ss.length-(i+1)=ss.length-i-1 by omega];omega) (by rw[AQm];omega) nA
 have hf:(ss.length-0)*1026+1≤AY:=by
  have:ss.length*1026≤1024*1026:=AOr _ hs;exact AQ3 (Aa (by omega))
 exact(key AY).1 0 [] (by omega) hf (by simp) List.Pairwise.nil
theorem tg{c:B_}{ss:List AO}{lost:AAM}{n upto:Int}(hc:c.1.length≤2^20)(hs:ss.length≤1024)(hn:∀s∈ss,s.1.length≤1024)(hw:AU Ai ss≤2^24)(TQ:∀s∈ss,iS s)(hl:lost.length≤2^20):
  Z8 c lost n upto ss=some (pkF ss (Z5 c ss lost n upto)):=by
 have hfs:Z5 c ss lost n upto=uN (Fi c&&(decide (ss.length=c.1.length)&&(Az c lost&&(!holds c lost&&(lost.contains n&&((others lost 0 ss).all Bu&&Bu (GY [] (others lost 0 ss),[],upto,()))))))) (GY [] (others lost 0 ss),[],upto,()):=rfl;rw[hfs];unfold Z8 br;rw[show(c.1,c.2.1,())=c from rfl,pk hc hl,Ix (by omega)];simp only[AD,Au,Co];have key:∀(k i:Nat) (o:List AO),(∀s∈o,s∈ss)→(∀s∈o,Bu s=true)→i≤ss.length→ss.length-i<k→o.length≤i→AU Ai o+AU Ai (ss.drop i)≤2^24→
   RT k lost upto ss.length i ss 0 [] [] o=some (pkF ss (uN ((others lost i (ss.drop i)).all Bu&&Bu (GY [] (o++others lost i (ss.drop i)),[],upto,())) (GY [] (o++others lost i (ss.drop i)),[],upto,()))):=by
  intro k
  induction k with
  |zero=>intro i o _ _ _ h;omega
  |succ k ih=>
   intro i o ho FX hi h hol how;simp only[RT,cK,AB,Au];by_cases DG:i<ss.length
   ·have c1:(0:Int)≤(i:Int)∧(i:Int)<(ss.length:Int):=by omega
    have c2:o.length+1≤DA:=by rw[An];omega
    have hmm:=AMx DG;have AbQ:=AX (f:=Ai) hmm;rw[drop_cons DG]at how;simp only[AU]at how;rw[ALC c1.2,ALC c1,Ix (by omega),Ah DG,show(ss[i].1,ss[i].2.1,ss[i].2.2.1,())=ss[i]from rfl,Et (by omega) (TQ _ hmm),AH (by omega) (by omega),show((i:Int)+1)=((i+1:Nat):Int)by omega];simp only[AD];rw[drop_cons DG];simp only[others];rcases AK_ (lost.contains (i:Int))with hb|hb
    ·rw[hb]
     simp only[ANZ,AQV];exact ih (i+1) o ho FX (by omega) (by omega) (by omega) (by omega)
    ·rw[hb]
     simp only[AL5,AL6,APB];rcases AK_ (Bu ss[i])with hg|hg
     ·rw[hg]
      simp only[ANZ,AQr,hg,ANm];rw[ALC c2,ih (i+1) (o++[ss[i]]) (fun s hs=>by
       rcases AOO.1 hs with hs|hs
       ·exact ho s hs
       ·rw[AP_.1 hs];exact hmm) (fun s hs=>by
       rcases AOO.1 hs with hs|hs
       ·exact FX s hs
       ·rw[AP_.1 hs];exact hg) (by omega) (by omega) (by simp;omega) (by rw[Iw];simp only[AU];omega)]
      simp only[ANi,AQY]
     ·rw[hg]
      simp only[AL5,AQr,hg,AQi];rfl
   ·have hu:=w4 (l:=o) (k:=[])
    simp only[AU]at hu;have AdB:AU Ai o≤2^24:=by omega
    rw[ALG (by omega),AMG (by omega),qR (by omega) (fun s hs=>hn s (ho s hs)) (fun s hs=>by have:=AX (f:=Ai) hs;omega) (fun s hs=>TQ s (ho s hs)) FX];simp only[AD,others,ANI,List.all_nil,ANm];rw[Et (s:=(GY [] o,[],upto,())) (by show AU Ag (GY [] o)+AU Ag []≤_;simp only[AU];omega) ⟨fun e he=>by
     rcases jk he with he|⟨t,ht,he⟩
     ·simp at he
     ·exact(TQ t (ho t ht)).1 e he,fun e he=>by simp at he⟩]
    simp only[AD];rcases AK_ (Bu (GY [] o,[],upto,()))with hb|hb<;>rw[hb]<;>rfl
 have:=key AY 0 [] (by simp) (by simp) (by omega) (Aa (by omega)) (by simp) (by simpa[AU]using hw);rw[show((0:Nat):Int)=0 from rfl,AOu,APq]at this;rw[this];rcases AK_ (Az c lost)with h1|h1
 rotate_left
 ·rw[h1]
  by_cases h2:ss.length=c.1.length
  ·rw[ALC (by omega)]
   simp only[AQi,ASW,AL5];rfl
  ·rw[ALG (by omega)]
   simp only[AQi,ASW];rfl
 have wm:Fi c=true:=(EY.1 h1).1;rw[h1,wm];simp only[ANm];by_cases h2:ss.length=c.1.length
 rotate_left
 ·rw[ALG (by omega),AQO h2]
  rfl
 rw[ALC (by omega),APl h2];simp only[ANm];cases holds c lost with
 |true=>rfl
 |false=>
  cases lost.contains n with
  |false=>rfl
  |true=>rfl
end Go.M
end
section
set_option maxRecDepth 8000
namespace Go.M
open Go.M.H (AK AO Ax Al AA Cp AN A6 AQ Aj Bc A7 Br Ai B5 AU AW AX Ag Bb As Am A0 D8 CG Ct C3)
def AYY(q:AA×Int):YA:=((q.2,()),(((),q.1.2.1,(),(),(),q.1.2.2.2.2.2.1,(),(),(),(),q.1.2.2.2.2.2.2.2.2.2.2.1,()),q.1.1,q.1.2.2.1,q.1.2.2.2.1,(),(),(),q.1.2.2.2.2.2.2.2.2.1,q.1.2.2.2.2.2.2.2.2.2.1,q.1.2.2.2.2.1,q.1.2.2.2.2.2.2.1,q.1.2.2.2.2.2.2.2.1,()))
def AUr(q:AA×Int):Zn:=((q.2,()),(((),q.1.2.1,(),(),(),q.1.2.2.2.2.2.1,(),(),(),(),q.1.2.2.2.2.2.2.2.2.2.2.1,()),q.1.1,q.1.2.2.1,q.1.2.2.2.1,q.1.2.2.2.2.1,q.1.2.2.2.2.2.2.1,q.1.2.2.2.2.2.2.2.1,q.1.2.2.2.2.2.2.2.2.1,(),q.1.2.2.2.2.2.2.2.2.2.1,()))
def AJi(q:AA×Int):GZ:=((q.2,()),(((),q.1.2.1,(),(),(),q.1.2.2.2.2.2.1,(),(),(),(),q.1.2.2.2.2.2.2.2.2.2.2.1,()),q.1.1,q.1.2.2.1,(),q.1.2.2.2.2.1,q.1.2.2.2.2.2.2.1,q.1.2.2.2.2.2.2.2.1,q.1.2.2.2.2.2.2.2.2.1,q.1.2.2.2.2.2.2.2.2.2.1,q.1.2.2.2.1,()))
def AXv(q:AA×Int):YD:=((q.2,()),(((),q.1.2.1,(),(),(),q.1.2.2.2.2.2.1,(),(),(),(),q.1.2.2.2.2.2.2.2.2.2.2.1,()),q.1.1,q.1.2.2.1,q.1.2.2.2.1,q.1.2.2.2.2.1,q.1.2.2.2.2.2.2.1,(),q.1.2.2.2.2.2.2.2.2.1,q.1.2.2.2.2.2.2.2.2.2.1,q.1.2.2.2.2.2.2.2.1,()))
def AXP(q:AA×Int):Wf:=((q.2,()),(((),q.1.2.1,(),(),(),q.1.2.2.2.2.2.1,(),(),(),(),q.1.2.2.2.2.2.2.2.2.2.2.1,()),q.1.1,q.1.2.2.1,q.1.2.2.2.1,(),q.1.2.2.2.2.2.2.1,(),q.1.2.2.2.2.2.2.2.2.1,q.1.2.2.2.2.2.2.2.2.2.1,q.1.2.2.2.2.1,q.1.2.2.2.2.2.2.2.1,()))
theorem sG{m:Ax}{b:Int}{e:AK}(h:EU m b=some e):Ce e.1:=by
 unfold EU at h;split at h
 ·rename_i hc
  simp only[ALo,Ak]at hc;have hp:=(JE (e:=m.2.1) (o:=b) hc.2.1 hc.2.2.1).1;split at h<;>cases h<;>exact Gd hp
 ·cases h
theorem hD{α:Type}{l:List α}{i:Nat}{d:α}:l.set i (l.getD i d)=l:=by
 by_cases h:i<l.length
 ·simp[List.getD,h]
 ·rw[List.set_eq_of_length_le (by omega)]
def oO(w:AA)(n ep:Int):Int:=if Aw w n=0 then if(Bd w.A8 ep).contains n then 0 else 2 else Aw w n
section
variable{w:AA} (h:On w)
include h
theorem QT{n ep:Int}(he:Ce ep):DW w n ep=some ((oO w n ep,()),()):=by
 have k:=h.nums;have k1:=k.c;have k2:=k.wr;have k3:=k.lost;have k4:=k.st;have bD:=k.iK;have gq:=k.Jt;have jU:=k.gv;have k5:=k.era;have k7:=k.aj;unfold DW oO;rw[Ln (by omega) (by omega),show(w.2.2.2.2.1,w.2.2.2.2.2.1,())=CJ w from rfl,O3 (r:=CJ w) (by show AU Bb w.2.2.2.2.1≤_;omega) he];have Uj:(Bd w.A8 ep).length≤8:=GX h;rw[show(CJ w).1=w.A8 from rfl];simp only[AD,C9];rw[Ix (by omega)];simp only[AD];by_cases h0:Aw w n=0
 ·rw[ALC h0,ALC h0,h0]
  cases(Bd w.A8 ep).contains n<;>rfl
 ·rw[ALG h0,ALG h0]
theorem X7{n:Int}{e:AK}(hn:Aw w n=0)(he:Ce e.1):LR n e w.2.1 w.2.2.2.2.2.1 w.2.2.2.2.2.2.2.2.2.2.1 w.1 w.2.2.1 w.2.2.2.1 w.2.2.2.2.1 w.2.2.2.2.2.2.1 w.2.2.2.2.2.2.2.1 w.2.2.2.2.2.2.2.2.1 w.2.2.2.2.2.2.2.2.2.1=some (kY (putAt w n (G8 (storeAt w n) e))):=by
 obtain⟨hr,s1,s2,s3⟩:=h.L7 hn;have an:w.2.2.1.getD n.toNat ([],[],0,())=storeAt w n:=rfl;unfold LR putAt;simp only[ALC hr,an];rw[show((storeAt w n).1,(storeAt w n).2.1,(storeAt w n).2.2.1,())=storeAt w n from rfl,show(e.1,e.2.1,e.2.2.1,e.2.2.2.1,())=e from rfl,jn s1 s2 he];simp only[AD,gp,PE];cases(G8 (storeAt w n) e).2<;>rfl
theorem fk{a:Int}:J2 a w.2.1 w.2.2.2.2.2.1 w.2.2.2.2.2.2.2.2.2.2.1 w.1 w.2.2.1 w.2.2.2.1 w.2.2.2.2.1 w.2.2.2.2.2.2.1 w.2.2.2.2.2.2.2.1 w.2.2.2.2.2.2.2.2.1 w.2.2.2.2.2.2.2.2.2.1=some (AYY (We w a)):=by
 have k:=h.nums;have k1:=k.c;have k2:=k.wr;have k3:=k.lost;have k4:=k.st;have bD:=k.iK;have gq:=k.Jt;have jU:=k.gv;have k5:=k.era;have k7:=k.aj;unfold J2 We;rw[C9];by_cases h4:w.2.2.2.2.2.2.1.length=4
 ·rw[ALC (by omega),ALC h4];rfl
 have hm:(BH a).length≤8:=vV;rw[ALG (by omega),ALG h4,Yl];simp only[AD];rw[show(w.1,w.2.1,())=Ac w from rfl,show(w.2.2.2.2.1,w.2.2.2.2.2.1,())=CJ w from rfl,mK (c:=Ac w) (r:=CJ w) (by show w.1.length≤_;omega) (by show AU Bb w.2.2.2.2.1≤_;omega) k.trim (by omega)];simp only[AD,Au];rcases AK_ (Ie (Ac w) (CJ w) (BH a)).2.2 with hq|hq
 ·rw[hq,ALC (by rw[An];omega),Fq];rfl
 ·rw[hq,Ic];rfl
theorem fC{d:Br}:I5 d w.2.1 w.2.2.2.2.2.1 w.2.2.2.2.2.2.2.2.2.2.1 w.1 w.2.2.1 w.2.2.2.1 w.2.2.2.2.1 w.2.2.2.2.2.2.1 w.2.2.2.2.2.2.2.1 w.2.2.2.2.2.2.2.2.1 w.2.2.2.2.2.2.2.2.2.1=some (kY (Sy w d.2.1 d.2.2.1 d.2.2.2.1)):=by
 have k:=h.nums;have k1:=k.c;have k2:=k.wr;have k3:=k.lost;have k4:=k.st;have bD:=k.iK;have gq:=k.Jt;have jU:=k.gv;have k5:=k.era;have k7:=k.aj;unfold I5 Sy;rw[show(w.1,w.2.1,w.2.2.1,w.2.2.2.1,w.2.2.2.2.1,w.2.2.2.2.2.1,w.2.2.2.2.2.2.1,w.2.2.2.2.2.2.2.1,w.2.2.2.2.2.2.2.2.1,w.2.2.2.2.2.2.2.2.2.1,w.2.2.2.2.2.2.2.2.2.2.1,())=w from rfl,AH (x:=(w.2.2.2.2.2.2.1.length:Int)-1) (by omega) (by omega),Aq];simp only[AD,Au,Co];rw[show BF d.2.1 0 ((w.2.2.2.2.2.2.1.length:Int)-1)=BF d.2.1 0 ((w.AR.length:Int)-1)from rfl];rcases AK_ (BF d.2.1 0 ((w.AR.length:Int)-1))with h1|h1
 rotate_left
 ·rw[h1,Ic];rfl
 obtain⟨x1,x2,x3⟩:=h.dm h1;rw[h1,ANZ,Fq,ALC x1,Aq];simp only[AD];rw[show w.2.2.2.2.2.2.1.getD d.2.1.toNat (0,[],())=w.AR.getD d.2.1.toNat CM from rfl]
 generalize hx:w.AR.getD d.2.1.toNat CM=x at*
 rcases AK_ (BF d.2.2.1 1 (x.2.1.length:Int))with h2|h2
 rotate_left
 ·rw[h2,Ic];rfl
 have h2':=Ak.1 h2;have hxl:=x2.n;have hxe:=x2.ep;have wR:=JE (e:=x.1) (o:=d.2.2.1) hxe (by omega);have hpm:Gi x.1 d.2.2.1=HB x.1 d.2.2.1:=by
  unfold Gi;rw[Ak.2 ⟨hxe.1,hxe.2⟩,Ak.2 ⟨h2'.1,by omega⟩];rfl
 rw[h2,ANZ,Fq,QT h ⟨by omega,by omega⟩,IC,hpm,AH (by omega) (by omega)];simp only[AD,ALC (show(0:Int)≤d.2.2.1-1∧d.2.2.1-1<(x.2.1.length:Int)by omega)];unfold oO;by_cases h3:Aw w d.2.2.2.1=0
 rotate_left
 ·rw[ALG h3,ALG h3,ALC h3];rfl
 rw[ALC h3,ALG (show¬(Aw w d.2.2.2.1≠0)from fun hh=>hh h3)];rcases AK_ ((Bd w.A8 x.1).contains d.2.2.2.1)with h5|h5
 rotate_left
 ·rw[h5,Ic];rfl
 rw[h5,Fq,ALC rfl,ALC rfl,X7 h h3 (Gd wR.1)];rfl
theorem ec{n k:Int}:Ox n k w.2.1 w.2.2.2.2.2.1 w.2.2.2.2.2.2.2.2.2.2.1 w.1 w.2.2.1 w.2.2.2.1 w.2.2.2.2.1 w.2.2.2.2.2.2.1 w.2.2.2.2.2.2.2.1 w.2.2.2.2.2.2.2.2.1 w.2.2.2.2.2.2.2.2.2.1=some (kY (RW w n k)):=by
 have kk:=h.nums;have k1:=kk.c;have k2:=kk.wr;have k3:=kk.lost;have k4:=kk.st;have bD:=kk.iK;have gq:=kk.Jt;have jU:=kk.gv;have k5:=kk.era;have k7:=kk.aj;unfold Ox RW;rw[show(w.1,w.2.1,w.2.2.1,w.2.2.2.1,w.2.2.2.2.1,w.2.2.2.2.2.1,w.2.2.2.2.2.2.1,w.2.2.2.2.2.2.2.1,w.2.2.2.2.2.2.2.2.1,w.2.2.2.2.2.2.2.2.2.1,w.2.2.2.2.2.2.2.2.2.2.1,())=w from rfl,Ln (by omega) (by omega)];simp only[AD,Co];by_cases h3:Aw w n=0
 rotate_left
 ·rw[ALG h3,ALC h3];rfl
 obtain⟨hr,s1,s2,s3⟩:=h.L7 h3;have an:w.2.2.1.getD n.toNat ([],[],0,())=storeAt w n:=rfl;rw[ALC h3,ALG (show¬(Aw w n≠0)from fun hh=>hh h3)];simp only[ALC hr,an];rw[show((storeAt w n).1,(storeAt w n).2.1,(storeAt w n).2.2.1,())=storeAt w n from rfl,XT s1 s2];simp only[AD,gp,PE];unfold putAt;rcases AK_ (Fl (storeAt w n) k).2 with hq|hq
 ·rw[hq];rfl
 ·have e:(Fl (storeAt w n) k).1=storeAt w n:=by
   unfold Fl at hq⊢;rw[DF.2 s3]at hq⊢;simp only[ALW,AL6,APB]at hq⊢;split at hq
   ·cases hq
   ·rename_i hn;rw[ALG hn]
  rw[hq,e];have:w.2.2.1.set n.toNat ((storeAt w n).1,(storeAt w n).2.1,(storeAt w n).2.2.1,())=w.2.2.1:=hD;rw[this];rfl
theorem ed{n:Int}:Ot n w.2.1 w.2.2.2.2.2.1 w.2.2.2.2.2.2.2.2.2.2.1 w.1 w.2.2.1 w.2.2.2.1 w.2.2.2.2.1 w.2.2.2.2.2.2.1 w.2.2.2.2.2.2.2.1 w.2.2.2.2.2.2.2.2.1 w.2.2.2.2.2.2.2.2.2.1=some (kY (RX w n)):=by
 have k:=h.nums;have k1:=k.c;have k2:=k.wr;have k3:=k.lost;have k4:=k.st;have bD:=k.iK;have gq:=k.Jt;have jU:=k.gv;have k5:=k.era;have k7:=k.aj;unfold Ot RX;rw[show(w.1,w.2.1,w.2.2.1,w.2.2.2.1,w.2.2.2.2.1,w.2.2.2.2.2.1,w.2.2.2.2.2.2.1,w.2.2.2.2.2.2.2.1,w.2.2.2.2.2.2.2.2.1,w.2.2.2.2.2.2.2.2.2.1,w.2.2.2.2.2.2.2.2.2.2.1,())=w from rfl,Ln (by omega) (by omega)];simp only[AD,Co];by_cases h3:Aw w n=0
 rotate_left
 ·rw[ALG h3,ALC h3];rfl
 obtain⟨hr,s1,s2,s3⟩:=h.L7 h3;have an:w.2.2.1.getD n.toNat ([],[],0,())=storeAt w n:=rfl;rw[ALC h3,ALG (show¬(Aw w n≠0)from fun hh=>hh h3)];simp only[ALC hr,an];rw[show((storeAt w n).1,(storeAt w n).2.1,(storeAt w n).2.2.1,())=storeAt w n from rfl,jH s1 s2 k.trim];simp only[AD,gp,PE];unfold putAt;rw[show w.trim=w.2.2.2.2.2.1 from rfl];rcases AK_ (I7 (storeAt w n) w.2.2.2.2.2.1).2 with hq|hq
 ·rw[hq];rfl
 ·have e:(I7 (storeAt w n) w.2.2.2.2.2.1).1=storeAt w n:=by
   unfold I7 at hq⊢;rw[DF.2 s3]at hq⊢;simp only[ALW,AL6,APB]at hq⊢;split at hq
   ·cases hq
   ·rename_i hn;rw[ALG hn]
  rw[hq,e];have:w.2.2.1.set n.toNat ((storeAt w n).1,(storeAt w n).2.1,(storeAt w n).2.2.1,())=w.2.2.1:=hD;rw[this];rfl
theorem gP:P6 w.2.1 w.2.2.2.2.2.1 w.2.2.2.2.2.2.2.2.2.2.1 w.1 w.2.2.1 w.2.2.2.1 w.2.2.2.2.1 w.2.2.2.2.2.2.1 w.2.2.2.2.2.2.2.1 w.2.2.2.2.2.2.2.2.1 w.2.2.2.2.2.2.2.2.2.1=some (AXv (Xb w)):=by
 have k:=h.nums;have k1:=k.c;have k2:=k.wr;have k3:=k.lost;have k4:=k.st;have bD:=k.iK;have gq:=k.Jt;have jU:=k.gv;have k5:=k.era;have k7:=k.aj;unfold P6 Xb;rw[show(w.2.2.2.2.1,w.2.2.2.2.2.1,())=CJ w from rfl,Sj (r:=CJ w) (by show w.2.2.2.2.1.length≤_;omega)];simp only[AD,C9,AB];rw[show(CJ w).1=w.A8 from rfl];by_cases h1:(w.2.2.2.2.1.length:Int)<2
 ·rw[ALC h1,show(decide ((w.2.2.2.2.1.length:Int)<2)||decide (BC w.2.2.2.2.1=(w.2.2.2.2.1.length:Int)))=true by rw[APl h1];rfl];rfl
 rw[ALG h1];by_cases h2:BC w.2.2.2.2.1=(w.2.2.2.2.1.length:Int)
 ·rw[ALC h2,show(decide ((w.2.2.2.2.1.length:Int)<2)||decide (BC w.2.2.2.2.1=(w.2.2.2.2.1.length:Int)))=true by rw[APl h2,Bool.or_true]];rfl
 rw[ALG h2,show(decide ((w.2.2.2.2.1.length:Int)<2)||decide (BC w.2.2.2.2.1=(w.2.2.2.2.1.length:Int)))=false by rw[AQO h1,AQO h2];rfl];rw[ALG (show¬(false=true)by simp)];by_cases h3:w.2.2.2.2.2.2.2.1.length>0
 ·rw[ALC (by omega),ALC h3];rfl
 ·rw[ALG (by omega),ALG h3];rfl
theorem gb{n:Int}:KA n w.2.1 w.2.2.2.2.2.1 w.2.2.2.2.2.2.2.2.2.2.1 w.1 w.2.2.1 w.2.2.2.1 w.2.2.2.2.1 w.2.2.2.2.2.2.1 w.2.2.2.2.2.2.2.1 w.2.2.2.2.2.2.2.2.1 w.2.2.2.2.2.2.2.2.2.1=some (AJi (Xd w n)):=by
 have k:=h.nums;have k1:=k.c;have k2:=k.wr;have k3:=k.lost;have k4:=k.st;have bD:=k.iK;have gq:=k.Jt;have jU:=k.gv;have k5:=k.era;have k7:=k.aj;have k6:=k.ws;unfold KA Xd;rw[show(w.1,w.2.1,w.2.2.1,w.2.2.2.1,w.2.2.2.2.1,w.2.2.2.2.2.1,w.2.2.2.2.2.2.1,w.2.2.2.2.2.2.2.1,w.2.2.2.2.2.2.2.2.1,w.2.2.2.2.2.2.2.2.2.1,w.2.2.2.2.2.2.2.2.2.2.1,())=w from rfl,AH (x:=(w.2.2.1.length:Int)-1) (by omega) (by omega),AH (x:=(w.2.2.2.2.1.length:Int)-1) (by omega) (by omega),Aq];simp only[AD,Au];rcases AK_ (w.lost.contains n)with hl|hl
 rotate_left
 ·rw[hl]
  have e:Cz w n=some ((w.lost.contains n,()),()):=Zp (by omega);rw[e,hl];cases BF n 0 ((w.2.2.1.length:Int)-1)<;>rfl
 have TQ:=(EY.1 h.lost).2.1 n (by simpa using hl);have hn1:BF n 0 ((w.2.2.1.length:Int)-1)=true:=Ak.2 ⟨TQ.1,by
  have:n<(w.1.length:Int):=TQ.2;omega⟩
 have AbT:=Ak.1 hn1;rw[hn1,show Cz w n=some ((w.lost.contains n,()),())from Zp (by omega),hl,Fq];simp only[AD,ANZ];rw[show(if(0:Int)>(w.2.2.2.2.1.length:Int)-1 then 0 else(w.2.2.2.2.1.length:Int)-1)=max ((w.A8.length:Int)-1) 0 by
  show _=max ((w.2.2.2.2.1.length:Int)-1) 0
  rw[Int.max_def];split<;>split<;>omega]
 have AUW:∀s∈w.2.2.1,bQ s:=fun s hs=>h.UR hs
 rw[show(w.1,w.2.1,())=Ac w from rfl,tg (c:=Ac w) (by show w.1.length≤_;omega) (by omega) (fun s hs=>by have:=(AUW s hs).nk;omega) (by omega) (fun s hs=>(AUW s hs).sin) (by omega)];simp only[AD,pkF];rw[show Z5 (Ac w) w.BG w.lost n (max ((w.A8.length:Int)-1) 0)=Z5 (Ac w) w.2.2.1 w.2.2.2.1 n (max ((w.A8.length:Int)-1) 0)from rfl];rcases AK_ (Z5 (Ac w) w.2.2.1 w.2.2.2.1 n (max ((w.A8.length:Int)-1) 0)).2 with hq|hq
 rotate_left
 ·rw[hq,Ic];rfl
 rw[hq,ANZ,Fq,ALC (by omega),PW (by omega)];rfl
theorem gI{n:Int}:KB n w.2.1 w.2.2.2.2.2.1 w.2.2.2.2.2.2.2.2.2.2.1 w.1 w.2.2.1 w.2.2.2.1 w.2.2.2.2.1 w.2.2.2.2.2.2.1 w.2.2.2.2.2.2.2.1 w.2.2.2.2.2.2.2.2.1 w.2.2.2.2.2.2.2.2.2.1=some (kY (W0 w n)):=by
 have k:=h.nums;have k1:=k.c;have k2:=k.wr;have k3:=k.lost;have k4:=k.st;have bD:=k.iK;have gq:=k.Jt;have jU:=k.gv;have k5:=k.era;have k7:=k.aj;unfold KB W0;rcases hm:w.CB with _|⟨m,ms⟩
 ·rw[C9,ALC (by have Xw:w.2.2.2.2.2.2.2.1=[]:=hm;rw[Xw];rfl)];rfl
 have Xw:w.2.2.2.2.2.2.2.1=m::ms:=hm;have wA:w.2.2.2.2.2.2.2.1.length=ms.length+1:=by rw[Xw];rfl
 have g0:w.2.2.2.2.2.2.2.1.getD 0 (0,0,[],[],false,[],())=m:=by rw[Xw];rfl
 have wQ:(0:Int)≤(0:Int)∧(0:Int)<(w.2.2.2.2.2.2.2.1.length:Int):=by omega
 have ZS:=(h.CB m (by rw[hm];simp)).1;have xy:=ZS.w;have hme:=ZS.ep;have hmb:=ZS.b;simp only[C9,Au,Co,ALC wQ,g0];rw[ALG (by omega)];rw[show(w.1,w.2.1,w.2.2.1,w.2.2.2.1,w.2.2.2.2.1,w.2.2.2.2.2.1,w.2.2.2.2.2.2.1,w.2.2.2.2.2.2.2.1,w.2.2.2.2.2.2.2.2.1,w.2.2.2.2.2.2.2.2.2.1,w.2.2.2.2.2.2.2.2.2.2.1,())=w from rfl,QT h ⟨by omega,by omega⟩];simp only[AD];unfold oO;by_cases h3:Aw w n=0
 rotate_left
 ·rw[ALG h3,ALG h3,ALC h3];rfl
 obtain⟨hr,s1,s2,s3⟩:=h.L7 h3;have an:w.2.2.1.getD n.toNat ([],[],0,())=storeAt w n:=rfl;have hn3: ¬(Aw w n≠0):=fun hh=>hh h3
 rw[ALC h3,ALG hn3];simp only[ALC hr,an];rcases AK_ ((Bd w.A8 m.2.1).contains n)with h5|h5
 rotate_left
 ·rw[h5,Ic];rfl
 rw[h5,Fq,ALC rfl,ALC rfl,AH (by omega) (by omega),show((storeAt w n).1,(storeAt w n).2.1,(storeAt w n).2.2.1,())=storeAt w n from rfl,jO s1 s2];have hq:=p8 (u:=m.1-1) s3;have hqw:=hq.w;simp only[AD,gp];rw[show((Bk (storeAt w n) (m.1-1)).1.1,(Bk (storeAt w n) (m.1-1)).1.2.1,(Bk (storeAt w n) (m.1-1)).1.2.2.1,())=(Bk (storeAt w n) (m.1-1)).1 from rfl,ji (by omega) hq.sin];simp only[AD];have hes:(GS (Bk (storeAt w n) (m.1-1)).1 m.2.1).length≤200∧eo (GS (Bk (storeAt w n) (m.1-1)).1 m.2.1)∧AU Ag (GS (Bk (storeAt w n) (m.1-1)).1 m.2.1)≤10000:=by
  unfold GS;rw[DF.2 hq,ALC rfl];refine⟨AQL (AQM _ _) hq.nk,fun e he=>hq.sin.1 e (AQ7.1 he).1,AQL eT ?_⟩;have:Ai (Bk (storeAt w n) (m.1-1)).1=AU Ag (Bk (storeAt w n) (m.1-1)).1.1+AU Ag (Bk (storeAt w n) (m.1-1)).1.2.1:=rfl;omega
 rw[show(m.1,m.2.1,m.2.2.1,m.2.2.2.1,m.2.2.2.2.1,m.2.2.2.2.2.1,())=m from rfl,show(w.1,w.2.1,())=Ac w from rfl,kW (c:=Ac w) (by show w.1.length≤_;omega) (by omega) ZS.wG (by omega) hes.2.1 (by omega)];simp only[AD,fL];rcases AK_ (Bk (storeAt w n) (m.1-1)).2 with h6|h6
 rotate_left
 ·rw[h6,AQR,AUy,ALC rfl];rfl
 rw[h6,ALW,AQW];rcases AK_ (OS (Ac w) m n (GS (Bk (storeAt w n) (m.1-1)).1 m.2.1)).2 with h7|h7
 rotate_left
 ·rw[h7,Ic];rfl
 rw[h7,Fq,ANZ,ANZ,Xw];rfl
theorem fY:KD w.2.1 w.2.2.2.2.2.1 w.2.2.2.2.2.2.2.2.2.2.1 w.1 w.2.2.1 w.2.2.2.1 w.2.2.2.2.1 w.2.2.2.2.2.2.1 w.2.2.2.2.2.2.2.1 w.2.2.2.2.2.2.2.2.1 w.2.2.2.2.2.2.2.2.2.1=some (kY (XN w)):=by
 have k:=h.nums;have k1:=k.c;have k2:=k.wr;have k3:=k.lost;have k4:=k.st;have bD:=k.iK;have gq:=k.Jt;have jU:=k.gv;have k5:=k.era;have k7:=k.aj;unfold KD XN;rcases hm:w.CB with _|⟨m,ms⟩
 ·rw[C9,ALC (by have Xw:w.2.2.2.2.2.2.2.1=[]:=hm;rw[Xw];rfl)];rfl
 have Xw:w.2.2.2.2.2.2.2.1=m::ms:=hm;have wA:w.2.2.2.2.2.2.2.1.length=ms.length+1:=by rw[Xw];rfl
 have g0:w.2.2.2.2.2.2.2.1.getD 0 (0,0,[],[],false,[],())=m:=by rw[Xw];rfl
 have wQ:(0:Int)≤(0:Int)∧(0:Int)<(w.2.2.2.2.2.2.2.1.length:Int):=by omega
 have ZS:=(h.CB m (by rw[hm];simp)).1;have xy:=ZS.w;have hme:=ZS.ep;simp only[C9,Au,Co,ALC wQ,g0];rw[ALG (by omega)];rw[show(w.2.2.2.2.1,w.2.2.2.2.2.1,())=CJ w from rfl,O3 (r:=CJ w) (by show AU Bb w.2.2.2.2.1≤_;omega) ⟨by omega,by omega⟩];have Uj:(Bd w.A8 m.2.1).length≤8:=GX h;rw[show(CJ w).1=w.A8 from rfl];simp only[AD];rw[show(m.1,m.2.1,m.2.2.1,m.2.2.2.1,m.2.2.2.2.1,m.2.2.2.2.2.1,())=m from rfl,show(w.1,w.2.1,())=Ac w from rfl,kp (c:=Ac w) (by show w.1.length≤_;omega) (by omega) ZS.wG (by omega)];simp only[AD,fL,PE];rcases AK_ (Ld (Ac w) m (Bd w.A8 m.2.1)).2 with h6|h6
 ·rw[h6,Fq,Xw];rfl
 ·have e:(Ld (Ac w) m (Bd w.A8 m.2.1)).1=m:=by
   unfold Ld at h6⊢;rw[Gh.2 ZS]at h6⊢;simp only[ALW,AL6,APB]at h6⊢;split at h6
   ·cases h6
   ·rename_i hn;rw[ALG hn]
  rw[h6,Ic,e,Xw]
  show some ((4,()),_,_,_,_,_,_,(m::ms),_)=some ((4,()),_,_,_,_,_,_,w.2.2.2.2.2.2.2.1,_)
  rw[Xw]
theorem jS{b n:Int}:SR b n w.2.1 w.2.2.2.2.2.1 w.2.2.2.2.2.2.2.2.2.2.1 w.1 w.2.2.1 w.2.2.2.1 w.2.2.2.2.1 w.2.2.2.2.2.2.1 w.2.2.2.2.2.2.2.1 w.2.2.2.2.2.2.2.2.1 w.2.2.2.2.2.2.2.2.2.1=some (kY (cc w b n)):=by
 have k:=h.nums;have k1:=k.c;have k2:=k.wr;have k3:=k.lost;have k4:=k.st;have bD:=k.iK;have gq:=k.Jt;have jU:=k.gv;have k5:=k.era;have k7:=k.aj;unfold SR cc;rcases hm:w.CB with _|⟨m,ms⟩
 ·rw[C9,ALC (by have Xw:w.2.2.2.2.2.2.2.1=[]:=hm;rw[Xw];rfl)];rfl
 have Xw:w.2.2.2.2.2.2.2.1=m::ms:=hm;have wA:w.2.2.2.2.2.2.2.1.length=ms.length+1:=by rw[Xw];rfl
 have g0:w.2.2.2.2.2.2.2.1.getD 0 (0,0,[],[],false,[],())=m:=by rw[Xw];rfl
 have wQ:(0:Int)≤(0:Int)∧(0:Int)<(w.2.2.2.2.2.2.2.1.length:Int):=by omega
 have ZS:=(h.CB m (by rw[hm];simp)).1;have xy:=ZS.w;have hme:=ZS.ep;simp only[C9,Au,Co,ALC wQ,g0];rw[ALG (by omega),show(m.1,m.2.1,m.2.2.1,m.2.2.2.1,m.2.2.2.2.1,m.2.2.2.2.2.1,())=m from rfl,YE (by omega)];simp only[AD];rcases he:EU m b with _|e
 ·rfl
 simp only[AQg,AQe,ANZ];rw[show(w.1,w.2.1,w.2.2.1,w.2.2.2.1,w.2.2.2.2.1,w.2.2.2.2.2.1,w.2.2.2.2.2.2.1,w.2.2.2.2.2.2.2.1,w.2.2.2.2.2.2.2.2.1,w.2.2.2.2.2.2.2.2.2.1,w.2.2.2.2.2.2.2.2.2.2.1,())=w from rfl,QT h ⟨by omega,by omega⟩];simp only[AD];unfold oO;by_cases h3:Aw w n=0
 rotate_left
 ·rw[ALG h3,ALG h3,ALC h3];rfl
 rw[ALC h3,ALG (show¬(Aw w n≠0)from fun hh=>hh h3)];rcases AK_ ((Bd w.A8 m.2.1).contains n)with h5|h5
 rotate_left
 ·rw[h5,Ic];rfl
 rw[h5,Fq,ALC rfl,ALC rfl,show(e.1,e.2.1,e.2.2.1,e.2.2.2.1,())=e from rfl,X7 h h3 (sG he)];rfl
theorem eu:I6 w.2.1 w.2.2.2.2.2.1 w.2.2.2.2.2.2.2.2.2.2.1 w.1 w.2.2.1 w.2.2.2.1 w.2.2.2.2.1 w.2.2.2.2.2.2.1 w.2.2.2.2.2.2.2.1 w.2.2.2.2.2.2.2.2.1 w.2.2.2.2.2.2.2.2.2.1=some (AXP (RS w)):=by
 have k:=h.nums;have k1:=k.c;have k2:=k.wr;have k3:=k.lost;have k4:=k.st;have bD:=k.iK;have gq:=k.Jt;have jU:=k.gv;have k5:=k.era;have k7:=k.aj;unfold I6 RS;rcases hm:w.CB with _|⟨m,ms⟩
 ·rw[C9,ALC (by have Xw:w.2.2.2.2.2.2.2.1=[]:=hm;rw[Xw];rfl)];rfl
 have Xw:w.2.2.2.2.2.2.2.1=m::ms:=hm;have wA:w.2.2.2.2.2.2.2.1.length=ms.length+1:=by rw[Xw];rfl
 have g0:w.2.2.2.2.2.2.2.1.getD 0 (0,0,[],[],false,[],())=m:=by rw[Xw];rfl
 have wQ:(0:Int)≤(0:Int)∧(0:Int)<(w.2.2.2.2.2.2.2.1.length:Int):=by omega
 have ZS:=(h.CB m (by rw[hm];simp)).1;have xy:=ZS.w;simp only[C9,Au,Co,ALC wQ,g0];rw[ALG (by omega),show(m.1,m.2.1,m.2.2.1,m.2.2.2.1,m.2.2.2.2.1,m.2.2.2.2.2.1,())=m from rfl,show(w.1,w.2.1,())=Ac w from rfl,show(w.2.2.2.2.1,w.2.2.2.2.2.1,())=CJ w from rfl,iy (c:=Ac w) (by show w.1.length≤_;omega) (by omega) ZS.wG];simp only[AD];rcases AK_ (TX (Ac w) m)with h6|h6
 rotate_left
 ·rw[h6,Ic];rfl
 rw[h6,Fq,ANZ,kf (c:=Ac w) (r:=CJ w) (by show w.1.length≤_;omega) (by show AU Bb w.2.2.2.2.1≤_;omega) k.trim];simp only[AD,pkR,PE];rcases AK_ (Mp (Ac w) (CJ w) m.1 (m.2.2.2.2.2.1.length:Int)).2 with h7|h7
 ·rw[h7,ANZ,Fq];rfl
 ·rw[h7,AL5,Ic];rfl
end
end Go.M
end
section
set_option maxRecDepth 8000
namespace Go.M
open Go.M.H (AK AO Ax Al AA Cp AN A6 AQ Aj Bc A7 Br Ai B5 AU AW AX Ag Bb As Am A0 D8 CG Ct C3)
abbrev mN(l:List Al):Prop:=VW (fun s:Al=>s.1) l
abbrev zH(p:Int)(l:List Al)(q:Nat):Prop:=jP (fun s:Al=>s.1) p l q
def aL(p:Int)(l:List Al)(q:Nat):Bool:=match l[q]? with|some e=>e.1==p|none=>false
theorem lS{l:List Al}(ha:mN l)(hl:l.length≤2^30)(hp:∀s∈l,0≤s.1∧s.1<2^40){p:Int}(hpp:0≤p∧p<2^40):∃q,zH p l q∧
  BJ l p=some ((((q:Int),aL p l q,()),()),()):=by
 have key:∀(n a b:Nat),a≤b→b≤l.length→b-a<n→(∀(i:Nat) (h:i<l.length),i<a→l[i].1<p)→(∀(i:Nat) (h:i<l.length),b≤i→p≤l[i].1)→
   ∃q,zH p l q∧Ao n l p l.length a b=some ((((q:Int),aL p l q,()),()),()):=by
  intro n
  induction n with
  |zero=>intro a b _ _ h;omega
  |succ n ih=>
   intro a b nA hb hn h1 h2;simp only[Ao,Cc,AB,K9,AD];by_cases Hw:a<b
   ·have hm:(a+b)/2<l.length:=by omega
    have hq:=hp _ (AMx hm);rw[ALC (by omega),sM (by omega),ALC (by omega),Ah hm,AH (by omega) (by omega)];by_cases hc:l[(a+b)/2].1<p
    ·rw[ALC (by omega),AH (by omega) (by omega),show((((a+b)/2:Nat):Int)+1)=(((a+b)/2+1:Nat):Int)by omega]
     refine ih _ b (by omega) hb (by omega) (fun i h hi=> ?_) h2;exact Int.lt_of_le_of_lt (ak (f:=fun s:Al=>s.1) ha h hm (by omega)) hc
    ·rw[ALG (by omega)]
     exact ih a _ (by omega) (by omega) (by omega) h1 fun i h hi=>Int.le_trans (by omega) (ak (f:=fun s:Al=>s.1) ha hm h hi)
   ·have AB8:a=b:=by omega
    subst AB8;refine⟨a,⟨hb,h1,h2⟩,?_⟩;rw[ALG (by omega)];unfold aL;by_cases ha':a<l.length
    ·have hq:=hp _ (AMx ha')
     rw[ALC (by omega),ALC (by omega),Ah ha',ALD ha',AH (by omega) (by omega)];dsimp only;by_cases hd:l[a].1=p
     ·rw[AQb.2 hd,AQb.2 (by omega:l[a].1-p=0)]
     ·rw[APA.2 hd,APA.2 (by omega:l[a].1-p≠0)]
    ·rw[ALG (by omega),AQU (by omega)]
 obtain⟨q,hq,e⟩:=key AY 0 l.length (by omega) (by omega) (Aa (by omega)) (fun i h hi=>by omega) (fun i h hi=>by omega);refine⟨q,hq,?_⟩;unfold BJ Cb;rw[show((0:Nat):Int)=0 from rfl]at e;exact e
theorem vv{p:Int}{l:List Al}{q:Nat}(h:aL p l q=true):∃hq:q<l.length,l[q].1=p:=by
 unfold aL at h;by_cases hq:q<l.length
 ·rw[ALD hq]at h
  exact⟨hq,AQb.1 h⟩
 ·rw[AQU (by omega)]at h
  cases h
theorem rB{p:Int}{l:List Al}{q:Nat}(hp:zH p l q)(ha:mN l)(h:aL p l q=false):∀s∈l,s.1≠p:=by
 intro s hs e;obtain⟨i,hi,rfl⟩:=List.mem_iff_getElem.1 hs;have h1:=hp.lt i hi;by_cases w8:i<q
 ·have:l[i].1<p:=h1 w8
  omega
 ·have hq:q<l.length:=by omega
  have h3:p≤l[q].1:=hp.ge q hq (APM _);have h4:=ak (f:=fun s:Al=>s.1) ha hq hi (by omega);unfold aL at h;rw[ALD hq]at h;have h5:=APA.1 h;have h4':l[q].1≤l[i].1:=h4;omega
theorem AI8{p:Int}{l:List Al}{q:Nat}(hp:zH p l q)(ha:mN l):(l.any fun s=>s.1==p)=aL p l q:=by
 rcases AK_ (aL p l q)with h|h
 ·obtain⟨hq,e⟩:=vv h
  rw[h,List.any_eq_true];exact⟨_,AMx hq,AQb.2 e⟩
 ·rw[h,List.any_eq_false]
  intro s hs;simpa using rB hp ha h s hs
def Qi(p:Int)(l:List Al):List Al:=l.map fun s=>if s.1=p then(s.1,s.2.1,true,())else s
theorem yj{p:Int}{l:List Al}(h:∀s∈l,s.1≠p):Qi p l=l:=by
 unfold Qi
 conv=>rhs;rw[←List.map_id l]
 refine AQs fun s hs=> ?_
 rw[ALG (h s hs)];rfl
theorem ADA{p:Int}:∀{l:List Al} {q:Nat} (hq:q<l.length),mN l→l[q].1=p→l.set q (l[q].1,l[q].2.1,true,())=Qi p l
 |[],q,hq,_,_=>by simp at hq
 |s::l,0,_,ha,e=>by
  have h1:=AQT.1 ha;have e':s.1=p:=e;have h2:Qi p l=l:=yj fun y hy=>by have:s.1<y.1:=h1.1 y hy;omega
  show(s.1,s.2.1,true,())::l=(if s.1=p then(s.1,s.2.1,true,())else s)::Qi p l
  rw[ALC e',h2]
 |s::l,q+1,hq,ha,e=>by
  have h1:=AQT.1 ha;have hq':q<l.length:=by simpa using hq
  have e':l[q].1=p:=e;have h3:s.1<l[q].1:=h1.1 _ (AMx hq');have h4:s.1≠p:=by omega
  have:=ADA hq' h1.2 e'
  show s::l.set q (l[q].1,l[q].2.1,true,())=(if s.1=p then(s.1,s.2.1,true,())else s)::Qi p l
  rw[ALG h4,this]
theorem sm_at{p:Int}{l:List Al}:∀{s:Al},s∈Qi p l→ ∃t∈l,t.1=s.1:=by
 intro s hs;obtain⟨t,ht,rfl⟩:=AQ0.1 hs;exact⟨t,ht,by split<;>rfl⟩
theorem ANV{p:Int}{l:List Al}(h:mN l):mN (Qi p l):=by
 unfold Qi mN VW;rw[ARr];refine List.Pairwise.imp (fun{a b} nA=> ?_) h;have e:∀s:Al,(if s.1=p then((s.1,s.2.1,true,()):Al)else s).1=s.1:=fun s=>by split<;>rfl
 show(if a.1=p then((a.1,a.2.1,true,()):Al)else a).1<(if b.1=p then((b.1,b.2.1,true,()):Al)else b).1
 rw[e,e];exact nA
theorem AME{p:Int}{l:List Al}:(Qi p l).length=l.length:=by unfold Qi;rw[AQ6]
theorem uk{s:Al}:∀{l:List Al} {q:Nat},zH s.1 l q→aL s.1 l q=false→dD s l=l.take q++[s]++l.drop q
 |[],q,h,_=>by
  have:=h.le;have:q=0:=by simpa using this
  subst this;rfl
 |y::l,0,h,hn=>by
  have h1:=h.ge 0 (by simp) (APM _);have h2:(y.1==s.1)=false:=hn;have h2':=APA.1 h2;have h1':s.1≤y.1:=h1;simp only[dD];rw[ALC (by omega)];rfl
 |y::l,q+1,h,hn=>by
  have h1:y.1<s.1:=h.lt 0 (by simp) (by omega);have hp:zH s.1 l q:=⟨by have:=h.le;simpa using this,fun i hi w8=>h.lt (i+1) (by simpa using hi) (by omega),fun i hi w8=>h.ge (i+1) (by simpa using hi) (by omega)⟩;simp only[dD];rw[ALG (by omega),uk hp hn];rfl
section
variable{w:AA} (h:On w)
include h
theorem On.ANT:∀s∈w.2.2.2.2.2.2.2.2.2.1,0≤s.1∧s.1<2^40:=fun s hs=>by
 have hp:=(h.CK s hs).1;have h1:=Gw hp;have h2:HB (Ar s.1) (D4 s.1)=s.1:=h1.2.2;unfold HB at h2;omega
theorem iY{a:Int}{d:AA7}(hd:d.length≤40):LU a d w.2.1 w.2.2.2.2.2.1 w.2.2.2.2.2.2.2.2.2.2.1 w.1 w.2.2.1 w.2.2.2.1 w.2.2.2.2.1 w.2.2.2.2.2.2.1 w.2.2.2.2.2.2.2.1 w.2.2.2.2.2.2.2.2.1 w.2.2.2.2.2.2.2.2.2.1=some (AUr (doAdd w a d)):=by
 have k:=h.nums;have k1:=k.c;have k2:=k.wr;have k3:=k.lost;have k4:=k.st;have bD:=k.iK;have gq:=k.Jt;have jU:=k.gv;have k5:=k.era;have k7:=k.aj;have k6:=k.se;unfold LU doAdd;rw[AH (x:=(w.2.2.2.2.2.2.1.length:Int)-1) (by omega) (by omega),Aq];simp only[AD,Au,Co,C9];rw[show BF a 0 ((w.2.2.2.2.2.2.1.length:Int)-1)=BF a 0 ((w.AR.length:Int)-1)from rfl];rcases AK_ (BF a 0 ((w.AR.length:Int)-1))with h1|h1
 rotate_left
 ·rw[h1,Ic];rfl
 obtain⟨x1,x2,x3⟩:=h.dm h1;rw[h1,ANZ,Fq];simp only[ALC x1];rw[show w.2.2.2.2.2.2.1.getD a.toNat (0,[],())=w.AR.getD a.toNat CM from rfl]
 generalize hx:w.AR.getD a.toNat CM=x at*
 rw[show(x.1,x.2.1,())=x from rfl,show(w.1,w.2.1,())=Ac w from rfl,jB (c:=Ac w) (by show w.1.length≤_;omega) (by omega) (by omega)];simp only[AD];rw[IC];simp only[AD];have hxl:=x2.n;have hxe:=x2.ep;have hq1:(B9 (Ac w) x d).1.1=x.1:=by
  unfold B9;rw[Ig.2 x2];simp only[ALW,AL6,APB];split<;>rfl
 have hpm:0≤Gi (B9 (Ac w) x d).1.1 (B9 (Ac w) x d).2.1∧Gi (B9 (Ac w) x d).1.1 (B9 (Ac w) x d).2.1<2^40:=by
  unfold Gi HB;split
  ·rename_i hc
   rw[ALo,Ak,Ak]at hc;omega
  ·omega
 obtain⟨q,hq,es⟩:=lS (l:=w.2.2.2.2.2.2.2.2.2.1) h.aT (by omega) h.ANT hpm;unfold IA;rw[es];simp only[AD];rcases AK_ (B9 (Ac w) x d).2.2 with h2|h2
 rotate_left
 ·rw[h2,AQR,AUy,ALC rfl,AL5];rfl
 obtain⟨y1,y2,y3,y4⟩:=bP h2;have hyl:=y2.n;rw[y3]at hyl;simp only[AOc,AN2,APp]at hyl;have wR:=JE (e:=x.1) (o:=(B9 (Ac w) x d).2.1) hxe (by omega);have hpe:Gi (B9 (Ac w) x d).1.1 (B9 (Ac w) x d).2.1=HB x.1 (B9 (Ac w) x d).2.1:=by
  unfold Gi;rw[hq1,Ak.2 ⟨hxe.1,hxe.2⟩,Ak.2 (by omega)];rfl
 rw[hpe]at hq⊢;rw[h2,ANZ];simp only[ALW,AQW];have AZO:(w.CK.any fun s=>s.1==HB x.1 (B9 (Ac w) x d).2.1)=aL (HB x.1 (B9 (Ac w) x d).2.1) w.2.2.2.2.2.2.2.2.2.1 q:=AI8 hq h.aT;rw[AZO];by_cases h3:w.2.2.2.2.2.2.2.2.2.1.length=120
 ·rw[ALC (by omega),show decide (w.CK.length=120)=true from APl h3,AUy,ALC rfl]
  rfl
 rw[ALG (by omega),show decide (w.CK.length=120)=false from AQO h3];simp only[AQW];rcases AK_ (aL (HB x.1 (B9 (Ac w) x d).2.1) w.2.2.2.2.2.2.2.2.2.1 q)with h4|h4
 ·rw[h4,ANZ,ALC rfl];rfl
 rw[h4,AL5,ALG (by simp)];have hql:=hq.le;unfold D_;rw[ib hql (by simp;omega)];have hi:=uk (s:=(HB x.1 (B9 (Ac w) x d).2.1,d,false,())) hq h4
 show some _=some _
 unfold AUr;simp only[ANi]at hi⊢;rw[show dD (HB x.1 (B9 (Ac w) x d).2.1,d,false,()) w.CK=_ from hi]
end
end Go.M
end
section
set_option maxRecDepth 8000
namespace Go.M
open Go.M.H (AK AO Ax Al AA Cp AN A6 AQ Aj Bc A7 Br Ai B5 AU AW AX Ag Bb As Am A0 D8 CG Ct C3)
def fI(c:B_)(s:AO)(ep n:Int):Int→List A6→List Al→List Al
 |_,[],se=>se
 |o,x::l,se=>fI c s ep n (o+1) l (if !x.2.2.1&&NN s (HB ep o)&&(GF c n x).2.2.1 then Qi (HB ep o) se else se)
def pkT(c0:AAM)(c1 tr:Int)(tn:Bool)(ss:List AO)(lo:AAM)(er:List Cp)(ws:List AQ)(ms:List Ax)(rs:List Aj)(se:List Al):Fz:=
 (((()),()),(((),c1,(),(),(),tr,(),(),(),(),tn,()),c0,ss,lo,er,ws,ms,rs,se,()))
section
variable{c:B_} {st:AO} {SS:List AO} {n:Int} (hc:c.1.length≤8) (hs:bQ st) (hn:0≤n∧n<c.1.length) (hnS:n<(SS.length:Int)) (an:SS.getD n.toNat D9=st)
include hc hs hn hnS an
theorem wX{tr:Int}{tn:Bool}{lo:AAM}{er:List Cp}{ms:List Ax}{rs:List Aj}{a:Nat}{ep:Int}:∀(rest dn:List A6) (ws:List AQ) (se:List Al) (f:Nat),a<ws.length→a≤4→ws.getD a CM=(ep,dn++rest,())→bF c (ep,dn++rest,())→
  mN se→(∀s∈se,0≤s.1∧s.1<2^40)→se.length≤120→rest.length<f→
  Cw f (a:Int) n ((dn.length:Int)+1) c.2.1 tr tn c.1 SS lo er ws ms rs se=some (pkT c.1 c.2.1 tr tn SS lo er (ws.set a (ep,dn++Bv c st ep n ((dn.length:Int)+1) rest,())) ms rs (fI c st ep n ((dn.length:Int)+1) rest se)):=by
 have qE:=hs.w;intro rest
 induction rest with
 |nil=>
  intro dn ws se f ha ha4 hw FX xJ AIl AO2 hf;obtain⟨f,rfl⟩:∃f',f=f'+1:=⟨f-1,by omega⟩;have qw:ws.getD a (0,[],())=(ep,dn++[],()):=hw;simp only[Cw,Ii,AB,AMp,qw,ANI];rw[ALC (by omega),ALG (by omega)];unfold Bv fI pkT;rw[show((ep,dn++[],()):AQ)=ws.getD a CM from hw.symm,hD]
 |cons x rest ih=>
  intro dn ws se f ha ha4 hw FX xJ AIl AO2 hf;obtain⟨f,rfl⟩:∃f',f=f'+1:=⟨f-1,by omega⟩;simp only[AN2]at hf;have qw:ws.getD a (0,[],())=(ep,dn++x::rest,()):=hw;have hwe:1≤ep∧ep≤30:=FX.ep;have hwn:(dn++x::rest).length≤60:=FX.n;have hww:AU As (dn++x::rest)≤3000:=FX.w;have hwl:=hwn;simp only[AOc,AN2]at hwl;have ca:(0:Int)≤(a:Int)∧(a:Int)<(ws.length:Int):=by omega
  have cn:(0:Int)≤n∧n<(SS.length:Int):=⟨hn.1,hnS⟩;have wR:=JE (e:=ep) (o:=(dn.length:Int)+1) hwe (by omega);have hpm:Gi ep ((dn.length:Int)+1)=HB ep ((dn.length:Int)+1):=by
   grind[Gi,Ak]
  have cd:(0:Int)≤(dn.length:Int)+1-1∧(dn.length:Int)+1-1<((dn++x::rest).length:Int):=by
   grind
  have e1:((dn.length:Int)+1-1).toNat=dn.length:=by omega
  have e2:(dn++x::rest).getD dn.length ([],[],false,())=x:=by simp[List.getD]
  have AOz:SS.getD n.toNat ([],[],0,())=st:=an;simp only[Cw,Ii,AB,Au,Co,AMp,qw,ALC ca,ALC cn];rw[ALC (by omega),IC,hpm];simp only[AD,AOz];rw[show(st.1,st.2.1,st.2.2.1,())=st from rfl,Tm (by omega) hs.sin];simp only[AD];rw[AH (x:=(dn.length:Int)+1+1) (by omega) (by omega),AH (x:=(dn.length:Int)+1-1) (by omega) (by omega)];simp only[ALC cd,e1,e2];have go:∀(y:A6) (ws':List AQ) (m_:List Al),ws'.length=ws.length→ws'.getD a CM=(ep,dn++y::rest,())→(∀z,ws'.set a z=ws.set a z)→bF c (ep,dn++y::rest,())→mN m_→(∀s∈m_,0≤s.1∧s.1<2^40)→m_.length≤120→
    (if !x.2.2.1&&NN st (HB ep ((dn.length:Int)+1))then GF c n x else x)=y→(if !x.2.2.1&&NN st (HB ep ((dn.length:Int)+1))&&(GF c n x).2.2.1 then Qi (HB ep ((dn.length:Int)+1)) se else se)=m_→
    Cw f (a:Int) n ((dn.length:Int)+1+1) c.2.1 tr tn c.1 SS lo er ws' ms rs m_=some (pkT c.1 c.2.1 tr tn SS lo er (ws.set a (ep,dn++Bv c st ep n ((dn.length:Int)+1) (x::rest),())) ms rs (fI c st ep n ((dn.length:Int)+1) (x::rest) se)):=fun y ws' m_ g1 g2 g3 g4 g5 g6 g7 g8 g9=>by
   have:=ih (dn++[y]) ws' m_ f (by omega) ha4 (by simp_all) (by simp_all) g5 g6 g7 (by omega);simp only[AOc,AN2,APp,ANi,AQY]at this;grind[Bv,fI]
  have stay:(if !x.2.2.1&&NN st (HB ep ((dn.length:Int)+1))then GF c n x else x)=x→(if !x.2.2.1&&NN st (HB ep ((dn.length:Int)+1))&&(GF c n x).2.2.1 then Qi (HB ep ((dn.length:Int)+1)) se else se)=se→
    Cw f (a:Int) n ((dn.length:Int)+1+1) c.2.1 tr tn c.1 SS lo er ws ms rs se=some (pkT c.1 c.2.1 tr tn SS lo er (ws.set a (ep,dn++Bv c st ep n ((dn.length:Int)+1) (x::rest),())) ms rs (fI c st ep n ((dn.length:Int)+1) (x::rest) se)):=fun g8 g9=>go x ws se rfl hw (fun _=>rfl) FX xJ AIl AO2 g8 g9
  have hsg:XJ st (HB ep ((dn.length:Int)+1))=Od (HB ep ((dn.length:Int)+1)) st.1:=by unfold XJ;rw[DF.2 hs,ALC rfl]
  rw[hsg];cases hxd:x.2.2.1 with
  |true=>
   grind
  |false=>
   rw[AL5];cases hg:Od (HB ep ((dn.length:Int)+1)) st.1 with
   |none=>
    grind[NN,HB]
   |some e=>
    simp only[ANZ];by_cases he0:e.2.1=0
    rotate_left
    ·have hh:NN st (HB ep ((dn.length:Int)+1))=false:=by grind[NN]
     simp_all
    have hh:NN st (HB ep ((dn.length:Int)+1))=true:=by grind[NN]
    rw[ALC he0];have hx:=FX.words x (by simp);have hb:bF c (ep,dn++GF c n x::rest,()):=⟨FX.cfg,FX.ep,by grind,fun b hb=>by
     simp only[AOO,APr]at hb;rcases hb with hb|rfl|hb
     ·exact FX.words b (by simp[hb])
     ·exact⟨hx.1,KK hx.2.1 hn,rfl⟩
     ·exact FX.words b (by simp[hb]),AQL (jo hxd) FX.opn⟩
    rw[show(c.1,c.2.1,())=c from rfl,iV (c:=c) (w:=(ep,dn++x::rest,())) (by omega) (by grind)];have AAF:RO c (ep,dn++x::rest,()) ((dn.length:Int)+1) n=((ep,dn++GF c n x::rest,()),true):=by
     unfold RO;rw[Ig.2 FX];simp only[ALW,AL6,APB];rw[e1,show(dn++x::rest).getD dn.length MA=x from e2,hxd];rw[ALC (by
      rw[ALo,ALo,Ak,Ak];grind)]
     grind
    rw[AAF];simp only[AD,pkW];have hx7:(ws.set a (ep,dn++GF c n x::rest,())).getD a (0,[],())=(ep,dn++GF c n x::rest,()):=M8 ha;have ca7:(0:Int)≤(a:Int)∧(a:Int)<((ws.set a (ep,dn++GF c n x::rest,())).length:Int):=by grind
    have cd7:(0:Int)≤(dn.length:Int)+1-1∧(dn.length:Int)+1-1<((dn++GF c n x::rest).length:Int):=by
     grind
    have e27:(dn++GF c n x::rest).getD dn.length ([],[],false,())=GF c n x:=by simp[List.getD]
    have hpr:0≤HB ep ((dn.length:Int)+1)∧HB ep ((dn.length:Int)+1)<2^40:=by unfold HB;omega
    obtain⟨q,hq,es⟩:=lS xJ (by omega) AIl hpr;unfold IA;rw[es];simp only[AD,hx7,ALC ca7,ALC cd7,e27];have UZ:∀z,(ws.set a (ep,dn++GF c n x::rest,())).set a z=ws.set a z:=fun z=>AUf ..
    have AKS:(if !x.2.2.1&&NN st (HB ep ((dn.length:Int)+1))then GF c n x else x)=GF c n x:=by grind
    rcases AK_ (aL (HB ep ((dn.length:Int)+1)) se q)with hf|hf
    rotate_left
    ·rw[hf,AL5]
     refine go _ _ se (AQk ..) hx7 UZ hb xJ AIl AO2 AKS ?_
     rw[yj (rB hq xJ hf)];grind
    obtain⟨hql,hqe⟩:=vv hf;rw[hf,ANZ];cases hd:(GF c n x).2.2.1 with
    |false=>
     grind
    |true=>
     rw[ANZ,ALC (by omega),AMp,show se.getD q (0,[],false,())=se[q]from iX hql,ADA hql xJ hqe];refine go _ _ _ (AQk ..) hx7 UZ hb (ANV xJ) (fun s hs' => ?_) (by rw[AME];omega) AKS (by grind);grind[sm_at]
theorem x_{tr:Int}{tn:Bool}{lo:AAM}{er:List Cp}{ws:List AQ}{rs:List Aj}{se:List Al}{a:Nat}{m:Ax}(hm:jW c m):∀(rest dn:List AAM) (ms:List Ax) (f:Nat),a<ms.length→a≤4→ms.getD a Q7=(m.1,m.2.1,m.2.2.1,m.2.2.2.1,m.2.2.2.2.1,dn++rest,())→(dn++rest).length=m.2.2.2.2.2.1.length→(∀l∈dn++rest,Az c l=true)→
  rest.length<f→
  BO f (a:Int) n ((dn.length:Int)+1) c.2.1 tr tn c.1 SS lo er ws ms rs se=some (pkT c.1 c.2.1 tr tn SS lo er ws (ms.set a (m.1,m.2.1,m.2.2.1,m.2.2.2.1,m.2.2.2.2.1,dn++FP m st n ((dn.length:Int)+1) rest,())) rs se):=by
 have qE:=hs.w;have hmn:m.2.2.2.2.2.1.length≤60:=by
  have:=hm.n;have hb:=HX (l:=m.2.2.2.1);omega
 intro rest
 induction rest with
 |nil=>
  intro dn ms f ha ha4 hw hl ho hf;obtain⟨f,rfl⟩:∃f',f=f'+1:=⟨f-1,by omega⟩;have qw:ms.getD a (0,0,[],[],false,[],())=(m.1,m.2.1,m.2.2.1,m.2.2.2.1,m.2.2.2.2.1,dn++[],()):=hw;simp only[BO,G4,AB,AMp,qw,ANI];rw[ALC (by omega),ALG (by omega)];unfold FP pkT;rw[show((m.1,m.2.1,m.2.2.1,m.2.2.2.1,m.2.2.2.2.1,dn++[],()):Ax)=ms.getD a Q7 from hw.symm,hD]
 |cons x rest ih=>
  intro dn ms f ha ha4 hw hl ho hf;obtain⟨f,rfl⟩:∃f',f=f'+1:=⟨f-1,by omega⟩;simp only[AN2]at hf;have qw:ms.getD a (0,0,[],[],false,[],())=(m.1,m.2.1,m.2.2.1,m.2.2.2.1,m.2.2.2.2.1,dn++x::rest,()):=hw;have kV:=hl;simp only[AOc,AN2]at kV;have ca:(0:Int)≤(a:Int)∧(a:Int)<(ms.length:Int):=by omega
  have cn:(0:Int)≤n∧n<(SS.length:Int):=⟨hn.1,hnS⟩;have AOz:SS.getD n.toNat ([],[],0,())=st:=an;have ZS:jW c (m.1,m.2.1,m.2.2.1,m.2.2.2.1,m.2.2.2.2.1,dn++x::rest,()):=⟨hm.cfg,hm.ep,hm.b,hm.sld,hm.tz,hm.seen,ho,by show((dn++x::rest).length:Int)=_;rw[hl];exact hm.n⟩;have xy:=ZS.w;simp only[BO,G4,AB,Au,Co,AMp,qw,ALC ca,ALC cn];rw[ALC (by omega),YE (m:=(m.1,m.2.1,m.2.2.1,m.2.2.2.1,m.2.2.2.2.1,dn++x::rest,())) (by omega),bp hl];simp only[AD,AOz];rw[show(st.1,st.2.1,st.2.2.1,())=st from rfl,Tm (by omega) hs.sin];simp only[AD];rw[AH (x:=(dn.length:Int)+1+1) (by omega) (by omega)];have go:∀(y:AAM) (ms':List Ax),ms'.length=ms.length→ms'.getD a Q7=(m.1,m.2.1,m.2.2.1,m.2.2.2.1,m.2.2.2.2.1,dn++y::rest,())→(∀z,ms'.set a z=ms.set a z)→Az c y=true→
    (if T7 m st ((dn.length:Int)+1)then NY n x else x)=y→
    BO f (a:Int) n ((dn.length:Int)+1+1) c.2.1 tr tn c.1 SS lo er ws ms' rs se=some (pkT c.1 c.2.1 tr tn SS lo er ws (ms.set a (m.1,m.2.1,m.2.2.1,m.2.2.2.1,m.2.2.2.2.1,dn++FP m st n ((dn.length:Int)+1) (x::rest),())) rs se):=fun y ms' g1 g2 g3 g4 g5=>by
   have:=ih (dn++[y]) ms' f (by omega) ha4 (by simp_all) (by simp_all) (fun l hl=>by
    grind) (by omega)
   simp only[AOc,AN2,APp,ANi,AQY]at this;grind[FP]
  have hx:=ho x (by simp);have stay:T7 m st ((dn.length:Int)+1)=false→BO f (a:Int) n ((dn.length:Int)+1+1) c.2.1 tr tn c.1 SS lo er ws ms rs se=some (pkT c.1 c.2.1 tr tn SS lo er ws (ms.set a (m.1,m.2.1,m.2.2.1,m.2.2.2.1,m.2.2.2.2.1,dn++FP m st n ((dn.length:Int)+1) (x::rest),())) rs se):=fun g=>go x ms rfl hw (fun _=>rfl) hx (by simp_all)
  have hsg:∀p,XJ st p=Od p st.1:=fun p=>by unfold XJ;rw[DF.2 hs,ALC rfl]
  rw[hsg];cases he:EU m ((dn.length:Int)+1)with
  |none=>
   simp only[AQh,AL5];grind[T7]
  |some e=>
   simp only[AQe,ANZ,AQg];cases hg:Od e.1 st.1 with
   |none=>
    grind[T7]
   |some y=>
    simp only[ANZ,eqE,AB];by_cases hye:y=e
    rotate_left
    ·rw[ALG hye]
     grind[T7]
    have hh:T7 m st ((dn.length:Int)+1)=true:=by grind[T7]
    rw[ALC hye,show(c.1,c.2.1,())=c from rfl,mW (c:=c) (m:=(m.1,m.2.1,m.2.2.1,m.2.2.2.1,m.2.2.2.2.1,dn++x::rest,())) (by omega) (by omega) ZS.wG];have AAF:SJ c (m.1,m.2.1,m.2.2.1,m.2.2.2.1,m.2.2.2.2.1,dn++x::rest,()) ((dn.length:Int)+1) n=((m.1,m.2.1,m.2.2.1,m.2.2.2.1,m.2.2.2.2.1,dn++NY n x::rest,()),true):=by
     unfold SJ;rw[Gh.2 ZS];have hq:(BF ((dn.length:Int)+1) 1 ((dn++x::rest).length:Int)&&BF n 0 ((c.1.length:Int)-1))=true:=by
      rw[ALo,Ak,Ak];omega
     grind
    grind[AD,fL,NY,List.length_set,M8,List.set_set,KK]
end
def gM(c:B_)(s:AO)(ep n:Int):Int→List A6→Int→Bool
 |_,[],_=>false
 |o,x::l,p=>(decide (p=HB ep o)&&(!x.2.2.1&&NN s (HB ep o)&&(GF c n x).2.2.1))||gM c s ep n (o+1) l p
theorem rM{c:B_}{st:AO}{ep n:Int}:∀{l:List A6} {o:Int} {se:List Al},fI c st ep n o l se=se.map fun s=>(s.1,s.2.1,s.2.2.1||gM c st ep n o l s.1,())
 |[],o,se=>by
  simp only[fI,gM,AU_];simp_all
 |x::l,o,se=>by
  simp only[fI];rw[rM];rcases AK_ (!x.2.2.1&&NN st (HB ep o)&&(GF c n x).2.2.1)with hb|hb
  ·rw[hb,ALC rfl]
   unfold Qi;rw[ARt];refine AQs fun s _=> ?_
   simp only[Function.comp_apply,gM,hb,AQp];grind
  ·rw[hb]
   simp only[AL6,APB];refine AQs fun s _=> ?_
   simp only[gM,hb,ASW,AQW]
theorem rm{c:B_}{st:AO}{ep n p:Int}(hep:1≤ep∧ep≤30)(hp:Ba p=true):∀{l:List A6} {o:Int},1≤o→o+l.length≤61→
  gM c st ep n o l p=(Ar p==ep&&(decide (o≤D4 p)&&(decide (D4 p<o+l.length)&&(((Bv c st ep n o l).getD (D4 p-o).toNat MA).2.2.1&& !(l.getD (D4 p-o).toNat MA).2.2.1))))
 |[],o,_,_=>by
  have:(decide (o≤D4 p)&&decide (D4 p<o+(([]:List A6).length:Int)))=false:=by
   simp_all
  rw[←Bool.and_assoc (decide (o≤D4 p)),this,AQi,ASW];rfl
 |x::l,o,ho,hl=>by
  simp only[AN2]at hl;have hf:=Gw hp;simp only[gM];rw[rm hep hp (l:=l) (o:=o+1) (by omega) (by omega)];by_cases he:Ar p=ep
  rotate_left
  ·grind[HB,JE,beq_eq_false_iff_ne,decide_eq_false]
  rw[AQb.2 he];simp only[ANm,AN2];by_cases h1:D4 p=o
  ·have hpe:p=HB ep o:=by simp_all
   have e0:(D4 p-o).toNat=0:=by omega
   rw[APl hpe,AQO (show¬o+1≤D4 p by omega),APl (show o≤D4 p by omega),APl (show D4 p<o+((l.length+1:Nat):Int)by omega),e0];simp only[ANm,AQi,AU_,Bv,List.getD_cons_zero];grind
  ·have cq:p≠HB ep o:=fun e=>h1 (by grind[JE])
   rw[AQO cq,AQi,AQW];by_cases h2:o≤D4 p
   ·rw[APl h2,APl (show o+1≤D4 p by omega)]
    have e1:(D4 p-o).toNat=(D4 p-(o+1)).toNat+1:=by omega
    rw[e1];simp only[Bv,List.getD_cons_succ];grind
   grind
theorem fR{c:B_}{st:AO}{ep n:Int}:∀{l:List A6} {o:Int},(Bv c st ep n o l).length=l.length
 |[],_=>rfl
 |x::l,o=>by simp only[Bv,AN2,fR]
theorem wZ{c:B_}{st:AO}{ep n:Int}(hep:1≤ep∧ep≤30){l:List A6}(hl:l.length≤60){se:List Al}(hs:∀s∈se,Ba s.1=true):fI c st ep n 1 l se=se.map (S_ false ep l (Bv c st ep n 1 l)):=by
 rw[rM];refine AQs fun s hm=> ?_
 have hf:=Gw (hs s hm);unfold S_ dK;rw[rm hep (hs s hm) (by omega) (by omega),fR];by_cases h1:D4 s.1≤l.length
 ·have:BF (D4 s.1) 1 (l.length:Int)=true:=Ak.2 (by omega)
  grind
 ·have:BF (D4 s.1) 1 (l.length:Int)=false:=by
   rw[←APR,Ak];omega
  grind
end Go.M
end
section
set_option maxRecDepth 8000
namespace Go.M
open Go.M.H (AK AO Ax Al AA Cp AN A6 AQ Aj Bc A7 Br Ai B5 AU AW AX Ag Bb As Am A0 D8 CG Ct C3)
def ADn(q:AA×Int):cD:=((q.2,()),(((),q.1.2.1,(),(),(),q.1.2.2.2.2.2.1,(),(),(),(),q.1.2.2.2.2.2.2.2.2.2.2.1,()),q.1.1,q.1.2.2.1,(),(),(),(),q.1.2.2.2.2.2.2.2.2.1,(),q.1.2.2.2.1,q.1.2.2.2.2.1,q.1.2.2.2.2.2.2.1,q.1.2.2.2.2.2.2.2.1,q.1.2.2.2.2.2.2.2.2.2.1,()))
def ww(w:AA)(SS:List AO)(ws:List AQ)(ms:List Ax)(se:List Al):AA:=(((w.CD SS).BZ ws).DT se).Cq ms
section
variable{w:AA} (h:On w) {st:AO} {SS:List AO} {n:Int} (hs:bQ st) (hn:0≤n∧n<(Ac w).1.length) (hnS:n<(SS.length:Int)) (an:SS.getD n.toNat D9=st)
include h hs hn hnS an
theorem ADc{ws:List AQ}{se:List Al}:∀(k i:Nat),w.2.2.2.2.2.2.2.1.length-i=k→i≤w.2.2.2.2.2.2.2.1.length→ ∀f,k<f→
  FH f n w.2.2.2.2.2.2.2.1.length i w.2.1 w.2.2.2.2.2.1 w.2.2.2.2.2.2.2.2.2.2.1 w.1 SS w.2.2.2.1 w.2.2.2.2.1 ws ((w.2.2.2.2.2.2.2.1.map (MD st w.A8 n)).take i++w.2.2.2.2.2.2.2.1.drop i) w.2.2.2.2.2.2.2.2.1 se=some (kY (ww w SS ws (w.2.2.2.2.2.2.2.1.map (MD st w.A8 n)) se,0)):=by
 have k:=h.nums;have k1:=k.c;have k5:=k.era;have k6:=k.md;intro k
 induction k with
 |zero=>
  intro i hk hi f hf;obtain⟨f,rfl⟩:∃f',f=f'+1:=⟨f-1,by omega⟩;have:i=w.2.2.2.2.2.2.2.1.length:=by omega
  simp only[FH,MQ,AB];rw[ALG (by omega),this,AQn,ANI,AQa (by simp)];rfl
 |succ k ih=>
  intro i hk hi f hf;obtain⟨f,rfl⟩:∃f',f=f'+1:=⟨f-1,by omega⟩;have DG:i<w.2.2.2.2.2.2.2.1.length:=by omega
  have hm:=(h.CB _ (AMx DG)).1;have hme:=hm.ep;have Uj:(Bd w.A8 w.2.2.2.2.2.2.2.1[i].2.1).length≤8:=GX h;simp only[FH,MQ,AB];rw[Np hi,ALC (by omega),ALC (by omega),AMp,Mw DG,show(w.2.2.2.2.1,w.2.2.2.2.2.1,())=CJ w from rfl,O3 (r:=CJ w) (by show AU Bb w.2.2.2.2.1≤_;omega) ⟨by omega,by omega⟩];rw[show(CJ w).1=w.A8 from rfl];simp only[AD];rw[Ix (by omega),AH (x:=(i:Int)+1) (by omega) (by omega),show((i:Int)+1)=((i+1:Nat):Int)by omega];simp only[AD];have nx:=ih (i+1) (by omega) (by omega) f (by omega);rcases AK_ ((Bd w.A8 w.2.2.2.2.2.2.2.1[i].2.1).contains n)with hc|hc
  ·have hT:MD st w.A8 n w.2.2.2.2.2.2.2.1[i]=(w.2.2.2.2.2.2.2.1[i].1,w.2.2.2.2.2.2.2.1[i].2.1,w.2.2.2.2.2.2.2.1[i].2.2.1,w.2.2.2.2.2.2.2.1[i].2.2.2.1,w.2.2.2.2.2.2.2.1[i].2.2.2.2.1,FP w.2.2.2.2.2.2.2.1[i] st n 1 w.2.2.2.2.2.2.2.1[i].2.2.2.2.2.1,()):=by
    unfold MD;rw[ALC hc]
   have hmn:w.2.2.2.2.2.2.2.1[i].2.2.2.2.2.1.length≤60:=by
    have:=hm.n;have hb:=HX (l:=w.2.2.2.2.2.2.2.1[i].2.2.2.1);split at this<;>omega
   have:=x_ (c:=Ac w) (tr:=w.2.2.2.2.2.1) (tn:=w.2.2.2.2.2.2.2.2.2.2.1) (lo:=w.2.2.2.1) (er:=w.2.2.2.2.1) (ws:=ws) (rs:=w.2.2.2.2.2.2.2.2.1) (se:=se) (a:=i) k1 hs hn hnS an hm w.2.2.2.2.2.2.2.1[i].2.2.2.2.2.1 [] ((w.2.2.2.2.2.2.2.1.map (MD st w.A8 n)).take i++w.2.2.2.2.2.2.2.1.drop i) AY (by rw[Np hi];exact DG) (by omega) (Mw DG) rfl (by simpa using hm.wrote) (Aa (by omega));rw[hc,ANZ];unfold LG Jy;simp only[APp,APq]at this;have e1:(((0:Nat):Int)+1)=1:=rfl;rw[e1]at this;rw[show(w.2.1:Int)=(Ac w).2.1 from rfl,show w.1=(Ac w).1 from rfl,this];simp only[AD,pkT];rw[QE DG hT.symm];exact nx
  ·have hT:MD st w.A8 n w.2.2.2.2.2.2.2.1[i]=w.2.2.2.2.2.2.2.1[i]:=by
    unfold MD;rw[ALG (by rw[hc];simp)]
   rw[hc,AL5,h_ DG hT];exact nx
theorem AEF:∀(rest pre:List AQ) (se:List Al) (f:Nat),pre.length+rest.length=w.2.2.2.2.2.2.1.length→(∀x∈rest,bF (Ac w) x)→mN se→(∀s∈se,Ba s.1=true)→se.length≤120→rest.length+w.2.2.2.2.2.2.2.1.length+1<f→
  Eb f n w.2.2.2.2.2.2.1.length pre.length w.2.1 w.2.2.2.2.2.1 w.2.2.2.2.2.2.2.2.2.2.1 w.1 SS w.2.2.2.1 w.2.2.2.2.1 (pre++rest) w.2.2.2.2.2.2.2.1 w.2.2.2.2.2.2.2.2.1 se st.2.2.1=
   some (kY (ww w SS (pre++(HQ false (Ac w) st w.A8 n rest se).1) (w.2.2.2.2.2.2.2.1.map (MD st w.A8 n)) (HQ false (Ac w) st w.A8 n rest se).2,0)):=by
 have k:=h.nums;have k1:=k.c;have k2:=k.wr;have k5:=k.era;have k6:=k.md;have hb:∀{p:Int},Ba p=true→0≤p∧p<2^40:=fun{p} hp=>by
  have h1:=Gw hp;have h2:=h1.2.2;unfold HB at h2;omega
 intro rest
 induction rest with
 |nil=>
  intro pre se f hl hw ha hp zT hf;obtain⟨f,rfl⟩:∃f',f=f'+1:=⟨f-1,by omega⟩;simp only[APp]at hl hf;simp only[Eb,NS,AB,ANI];rw[ALG (by omega)];have:=ADc h hs hn hnS an (ws:=pre) (se:=se) w.2.2.2.2.2.2.2.1.length 0 (by omega) (by omega) f (by omega);rw[show((0:Nat):Int)=0 from rfl,AOu,AT9,APq]at this;rw[this];simp only[HQ,ANI]
 |cons x rest ih=>
  intro pre se f hl hw ha hp zT hf;obtain⟨f,rfl⟩:∃f',f=f'+1:=⟨f-1,by omega⟩;simp only[AN2]at hl hf;have hx:=hw x (by simp);have hxe:=hx.ep;have hxn:=hx.n;have wR:(pre++x::rest).length=pre.length+(rest.length+1):=by simp
  have cp:(0:Int)≤(pre.length:Int)∧(pre.length:Int)<((pre++x::rest).length:Int):=by omega
  have e2:(pre++x::rest).getD pre.length (0,[],())=x:=by simp[List.getD]
  have Uj:(Bd w.A8 x.1).length≤8:=GX h;simp only[Eb,NS,AB,AMp,ALC cp,e2];rw[ALC (by omega),show(w.2.2.2.2.1,w.2.2.2.2.2.1,())=CJ w from rfl,O3 (r:=CJ w) (by show AU Bb w.2.2.2.2.1≤_;omega) ⟨by omega,by omega⟩];rw[show(CJ w).1=w.A8 from rfl];simp only[AD];rw[Ix (by omega),AH (x:=(pre.length:Int)+1) (by omega) (by omega),show((pre.length:Int)+1)=((pre.length+1:Nat):Int)by omega];simp only[AD];have next:∀(b:AQ) (m_:List Al),mN m_→(∀s∈m_,Ba s.1=true)→m_.length≤120→
    Eb f n w.2.2.2.2.2.2.1.length ((pre.length+1:Nat):Int) w.2.1 w.2.2.2.2.2.1 w.2.2.2.2.2.2.2.2.2.2.1 w.1 SS w.2.2.2.1 w.2.2.2.2.1 (pre++b::rest) w.2.2.2.2.2.2.2.1 w.2.2.2.2.2.2.2.2.1 m_ st.2.2.1=
     some (kY (ww w SS (pre++b::(HQ false (Ac w) st w.A8 n rest m_).1) (w.2.2.2.2.2.2.2.1.map (MD st w.A8 n)) (HQ false (Ac w) st w.A8 n rest m_).2,0)):=fun b m_ h1 h2 h3=>by
   have:=ih (pre++[b]) m_ f (by simp only[AOc,AN2,APp];omega) (fun x hx=>hw x (by simp[hx])) h1 h2 h3 (by omega);simp only[AOc,AN2,APp,ANi,AQY]at this;exact this
  simp only[HQ];rcases AK_ (dE st w.A8 n x)with ht|ht
  rotate_left
  ·rw[ht]
   simp only[AL6,APB];unfold dE at ht;by_cases Hw:x.1>st.2.2.1
   ·rw[APl (show st.2.2.1<x.1 from Hw),AQp]at ht
    rw[ALC Hw,ht,AL5];exact next x se ha hp zT
   ·rw[ALG Hw]
    exact next x se ha hp zT
  ·rw[ht]
   simp only[AQV];unfold dE at ht;rw[ALo,ANR]at ht;rw[ALC (show x.1>st.2.2.1 from ht.2),ht.1,ANZ];have:=wX (c:=Ac w) (tr:=w.2.2.2.2.2.1) (tn:=w.2.2.2.2.2.2.2.2.2.2.1) (lo:=w.2.2.2.1) (er:=w.2.2.2.2.1) (ms:=w.2.2.2.2.2.2.2.1) (rs:=w.2.2.2.2.2.2.2.2.1) (a:=pre.length) (ep:=x.1) k1 hs hn hnS an x.2.1 [] (pre++x::rest) se AY (by omega) (by omega) (show(pre++x::rest).getD pre.length (0,[],())=x from e2) hx ha (fun s hs' =>hb (hp s hs')) zT (Aa (by omega));unfold NO Nt;simp only[APp,APq]at this;have e1:(((0:Nat):Int)+1)=1:=rfl;rw[e1,wZ hxe hxn hp,ATL _ _ (by omega),AVE,ARg]at this;rw[show(w.2.1:Int)=(Ac w).2.1 from rfl,show w.1=(Ac w).1 from rfl,this];simp only[AD,pkT];refine next _ _ ?_ (fun s hs' => ?_) (by rw[AQ6];exact zT)
   ·unfold mN VW
    rw[ARr];exact List.Pairwise.imp (fun{a b} nA=>nA) ha
   ·obtain⟨s',h1,rfl⟩:=AQ0.1 hs'
    exact hp s' h1
end
section
variable{w:AA} (h:On w)
include h
theorem gZ{n:Int}:P1 n w.2.1 w.2.2.2.2.2.1 w.2.2.2.2.2.2.2.2.2.2.1 w.1 w.2.2.1 w.2.2.2.1 w.2.2.2.2.1 w.2.2.2.2.2.2.1 w.2.2.2.2.2.2.2.1 w.2.2.2.2.2.2.2.2.1 w.2.2.2.2.2.2.2.2.2.1=some (kY (Xa false w n)):=by
 have k:=h.nums;have k1:=k.c;have k2:=k.wr;have k3:=k.lost;have k4:=k.st;have bD:=k.iK;have gq:=k.Jt;have jU:=k.gv;have k5:=k.era;have k7:=k.aj;unfold P1 TJ Xa;rw[show(w.1,w.2.1,w.2.2.1,w.2.2.2.1,w.2.2.2.2.1,w.2.2.2.2.2.1,w.2.2.2.2.2.2.1,w.2.2.2.2.2.2.2.1,w.2.2.2.2.2.2.2.2.1,w.2.2.2.2.2.2.2.2.2.1,w.2.2.2.2.2.2.2.2.2.2.1,())=w from rfl,Ln (by omega) (by omega)];simp only[AD,Co,Au];by_cases h3:Aw w n=0
 rotate_left
 ·rw[ALG h3,ALC h3];rfl
 obtain⟨hr,s1,s2,s3⟩:=h.L7 h3;have an:w.2.2.1.getD n.toNat ([],[],0,())=storeAt w n:=rfl;rw[ALC h3,ALG (show¬(Aw w n≠0)from fun hh=>hh h3)];simp only[ALC hr,an];rw[show((storeAt w n).1,(storeAt w n).2.1,(storeAt w n).2.2.1,())=storeAt w n from rfl,Yk s1 s2];simp only[AD,gp];rcases AK_ (B6 (storeAt w n)).2 with hq|hq
 rotate_left
 ·rw[hq,Ic];rfl
 rw[hq,Fq,ANZ];have FX:bQ (B6 (storeAt w n)).1:=(NF hq).2.1;have AWc:n.toNat<w.2.2.1.length:=by omega
 have:=AEF h (st:=(B6 (storeAt w n)).1) (SS:=w.2.2.1.set n.toNat (B6 (storeAt w n)).1) (n:=n) FX (h.node h3).1 (by rw[AQk];exact hr.2) (M8 AWc) w.2.2.2.2.2.2.1 [] w.2.2.2.2.2.2.2.2.2.1 AY (by simp) (fun x hx=>(h.AR x hx).1) h.aT (fun s hs=>(h.CK s hs).1) k.se (Aa (by have:=k.md;omega));simp only[APp,APq]at this;rw[show((0:Nat):Int)=0 from rfl]at this;exact this
theorem AB7{n:Int}{ss:List AO}{ls:AAM}{ws:List AQ}(hls:ls.length≤2^20):∀(f i:Nat),i≤w.2.2.2.2.2.2.2.1.length→w.2.2.2.2.2.2.2.1.length-i<f→
  Gn f n w.2.2.2.2.2.2.2.1.length i w.2.1 w.2.2.2.2.2.1 w.2.2.2.2.2.2.2.2.2.2.1 w.1 ss w.2.2.2.1 w.2.2.2.2.1 ws ((w.2.2.2.2.2.2.2.1.map fun m=>(B4 (Ac w) m n).1).take i++w.2.2.2.2.2.2.2.1.drop i) w.2.2.2.2.2.2.2.2.1 w.2.2.2.2.2.2.2.2.2.1 ls=
   some (AJi (((((w.CD ss).Ez ls).BZ ws).Cq (w.2.2.2.2.2.2.2.1.map fun m=>(B4 (Ac w) m n).1)).FM (w.IL||holds (Ac w) ls),0)):=by
 have k:=h.nums;have k1:=k.c;have k6:=k.md;intro f
 induction f with
 |zero=>intro i _ h;omega
 |succ f ih=>
  intro i hi hn;have hlen:=Np (f:=fun m:Ax=>(B4 (Ac w) m n).1) hi;simp only[Gn,Rt,AB,Au,hlen];by_cases DG:i<w.2.2.2.2.2.2.2.1.length
  ·have c1:(0:Int)≤(i:Int)∧(i:Int)<(w.2.2.2.2.2.2.2.1.length:Int):=by omega
   have hm:=(h.CB _ (AMx DG)).1;have xy:=hm.w;have hg:((w.2.2.2.2.2.2.2.1.map fun m=>(B4 (Ac w) m n).1).take i++w.2.2.2.2.2.2.2.1.drop i).getD i (0,0,[],[],false,[],())=w.2.2.2.2.2.2.2.1[i]:=Mw DG;simp only[ALC c1,ALC c1.2,AMp,hg];rw[AH (by omega) (by omega),show((i:Int)+1)=((i+1:Nat):Int)by omega,show(w.2.2.2.2.2.2.2.1[i].1,w.2.2.2.2.2.2.2.1[i].2.1,w.2.2.2.2.2.2.2.1[i].2.2.1,w.2.2.2.2.2.2.2.1[i].2.2.2.1,w.2.2.2.2.2.2.2.1[i].2.2.2.2.1,w.2.2.2.2.2.2.2.1[i].2.2.2.2.2.1,())=w.2.2.2.2.2.2.2.1[i]from rfl,show(w.1,w.2.1,())=Ac w from rfl,f_ (c:=Ac w) (by show w.1.length≤_;omega) (by omega) hm.wG];simp only[AD,fL];rw[show((B4 (Ac w) w.2.2.2.2.2.2.2.1[i] n).1.1,(B4 (Ac w) w.2.2.2.2.2.2.2.1[i] n).1.2.1,(B4 (Ac w) w.2.2.2.2.2.2.2.1[i] n).1.2.2.1,(B4 (Ac w) w.2.2.2.2.2.2.2.1[i] n).1.2.2.2.1,(B4 (Ac w) w.2.2.2.2.2.2.2.1[i] n).1.2.2.2.2.1,(B4 (Ac w) w.2.2.2.2.2.2.2.1[i] n).1.2.2.2.2.2.1,())=(B4 (Ac w) w.2.2.2.2.2.2.2.1[i] n).1 from rfl,QE DG rfl];exact ih (i+1) (by omega) (by omega)
  ·have:i=w.2.2.2.2.2.2.2.1.length:=by omega
   rw[ALG (by omega),this,AQn,ANI,AQa (by simp),show(w.1,w.2.1,())=Ac w from rfl,GK (by show w.1.length≤_;omega) (by omega)];simp only[AD];cases ht:w.2.2.2.2.2.2.2.2.2.2.1 with
   |true=>
    have ht':w.IL=true:=ht;rw[ht'];rfl
   |false=>
    have ht':w.IL=false:=ht;rw[ht'];rfl
theorem AFU{n:Int}{ss:List AO}{ls:AAM}(hls:ls.length≤2^20):∀(f i:Nat),i≤w.2.2.2.2.2.2.1.length→(w.2.2.2.2.2.2.1.length-i)+w.2.2.2.2.2.2.2.1.length+2≤f→
  HC f n w.2.2.2.2.2.2.1.length i w.2.1 w.2.2.2.2.2.1 w.2.2.2.2.2.2.2.2.2.2.1 w.1 ss w.2.2.2.1 w.2.2.2.2.1 ((w.2.2.2.2.2.2.1.map fun x=>(B7 (Ac w) x n).1).take i++w.2.2.2.2.2.2.1.drop i) w.2.2.2.2.2.2.2.1 w.2.2.2.2.2.2.2.2.1 w.2.2.2.2.2.2.2.2.2.1 ls=
   some (AJi (((((w.CD ss).Ez ls).BZ (w.2.2.2.2.2.2.1.map fun x=>(B7 (Ac w) x n).1)).Cq (w.2.2.2.2.2.2.2.1.map fun m=>(B4 (Ac w) m n).1)).FM (w.IL||holds (Ac w) ls),0)):=by
 have k:=h.nums;have k1:=k.c;have k6:=k.wr;intro f
 induction f with
 |zero=>intro i _ h;omega
 |succ f ih=>
  intro i hi hn;have hlen:=Np (f:=fun x:AQ=>(B7 (Ac w) x n).1) hi;simp only[HC,TB,AB,Au,hlen];by_cases DG:i<w.2.2.2.2.2.2.1.length
  ·have c1:(0:Int)≤(i:Int)∧(i:Int)<(w.2.2.2.2.2.2.1.length:Int):=by omega
   have hm:=(h.AR _ (AMx DG)).1;have xy:=hm.w;have hg:((w.2.2.2.2.2.2.1.map fun x=>(B7 (Ac w) x n).1).take i++w.2.2.2.2.2.2.1.drop i).getD i (0,[],())=w.2.2.2.2.2.2.1[i]:=Mw DG;simp only[ALC c1,ALC c1.2,AMp,hg];rw[AH (by omega) (by omega),show((i:Int)+1)=((i+1:Nat):Int)by omega,show(w.2.2.2.2.2.2.1[i].1,w.2.2.2.2.2.2.1[i].2.1,())=w.2.2.2.2.2.2.1[i]from rfl,show(w.1,w.2.1,())=Ac w from rfl,cf (c:=Ac w) (by show w.1.length≤_;omega) (by have:Am w.2.2.2.2.2.2.1[i]=AU As w.2.2.2.2.2.2.1[i].2.1:=rfl;omega)];simp only[AD,pkW];rw[show((B7 (Ac w) w.2.2.2.2.2.2.1[i] n).1.1,(B7 (Ac w) w.2.2.2.2.2.2.1[i] n).1.2.1,())=(B7 (Ac w) w.2.2.2.2.2.2.1[i] n).1 from rfl,QE DG rfl];exact ih (i+1) (by omega) (by omega)
  ·have:i=w.2.2.2.2.2.2.1.length:=by omega
   have k12:=AB7 h (n:=n) (ss:=ss) (ws:=w.2.2.2.2.2.2.1.map fun x=>(B7 (Ac w) x n).1) hls f 0 (by omega) (by omega);rw[show((0:Nat):Int)=0 from rfl,AOu,AT9,APq]at k12;rw[ALG (by omega),this,AQn,ANI,AQa (by simp),k12]
theorem fg{n:Int}:QC n w.2.1 w.2.2.2.2.2.1 w.2.2.2.2.2.2.2.2.2.2.1 w.1 w.2.2.1 w.2.2.2.1 w.2.2.2.2.1 w.2.2.2.2.2.2.1 w.2.2.2.2.2.2.2.1 w.2.2.2.2.2.2.2.2.1 w.2.2.2.2.2.2.2.2.2.1=some (AJi (Xm w n)):=by
 have k:=h.nums;have k1:=k.c;have k2:=k.wr;have k3:=k.lost;have k4:=k.st;have bD:=k.iK;have gq:=k.Jt;have jU:=k.gv;have k5:=k.era;have k7:=k.aj;have k6:=k.md;unfold QC TN Xm;rw[show(w.1,w.2.1,w.2.2.1,w.2.2.2.1,w.2.2.2.2.1,w.2.2.2.2.2.1,w.2.2.2.2.2.2.1,w.2.2.2.2.2.2.2.1,w.2.2.2.2.2.2.2.2.1,w.2.2.2.2.2.2.2.2.2.1,w.2.2.2.2.2.2.2.2.2.2.1,())=w from rfl,Ln (by omega) (by omega)];simp only[AD,Co];by_cases h3:Aw w n=0
 rotate_left
 ·rw[ALG h3,ALC h3];rfl
 obtain⟨hr,s1,s2,s3⟩:=h.L7 h3;rw[ALC h3,ALG (show¬(Aw w n≠0)from fun hh=>hh h3),ALC hr,Oo (EY.1 h.lost).2.2 (by omega)];simp only[AD];have hp:=Sx (n:=n) (l:=w.2.2.2.1);have:=AFU h (n:=n) (ss:=w.2.2.1.set n.toNat ([],[],0,())) (ls:=NY n w.2.2.2.1) (by omega) AY 0 (by omega) (AQ3 (Aa (by omega)));rw[show((0:Nat):Int)=0 from rfl,AOu,AT9,APq]at this;exact this
theorem ja{d:Br}(QV:kQ w)(h64:Ce d.2.1)(hd:d.2.2.2.2.1.length≤40)(hk:1≤d.1∧d.1≤16):UB d w.2.1 w.2.2.2.2.2.1 w.2.2.2.2.2.2.2.2.2.2.1 w.1 w.2.2.1 w.2.2.2.1 w.2.2.2.2.1 w.2.2.2.2.2.2.1 w.2.2.2.2.2.2.2.1 w.2.2.2.2.2.2.2.2.1 w.2.2.2.2.2.2.2.2.2.1=some (ADn (Qm false w d)):=by
 have k:=h.nums;have k1:=k.c;have k2:=k.wr;have k3:=k.lost;have k4:=k.st;have bD:=k.iK;have gq:=k.Jt;have jU:=k.gv;have k5:=k.era;have k7:=k.aj;unfold UB Qm;rw[show(d.1,d.2.1,d.2.2.1,d.2.2.2.1,d.2.2.2.2.1,())=d from rfl];simp only[C9];by_cases c1:d.1=1
 ·rw[ALC c1,ALC c1,fk h];rfl
 rw[ALG c1,ALG c1];by_cases c2:d.1=2
 ·rw[ALC c2,ALC c2,iY h hd];rfl
 rw[ALG c2,ALG c2];by_cases c3:d.1=3
 ·rw[ALC c3,ALC c3,fC h];rfl
 rw[ALG c3,ALG c3];by_cases c4:d.1=4
 ·rw[ALC c4,ALC c4,gZ h];rfl
 rw[ALG c4,ALG c4];by_cases c5:d.1=5
 ·rw[ALC c5,ALC c5,ec h];rfl
 rw[ALG c5,ALG c5];by_cases c6:d.1=6
 ·rw[ALC c6,ALC c6,fg h];rfl
 rw[ALG c6,ALG c6];by_cases c7:d.1=7
 ·rw[ALC c7,ALC c7,gb h];rfl
 rw[ALG c7,ALG c7];by_cases c8:d.1=8
 ·rw[ALC c8,ALC c8,gP h];rfl
 rw[ALG c8,ALG c8];by_cases c9:d.1=9
 ·rw[ALC c9,ALC c9,gI h];rfl
 rw[ALG c9,ALG c9];by_cases c10:d.1=10
 ·rw[ALC c10,ALC c10,fY h];rfl
 rw[ALG c10,ALG c10];by_cases c11:d.1=11
 ·rw[ALC c11,ALC c11,jS h];rfl
 rw[ALG c11,ALG c11];by_cases c12:d.1=12
 ·rw[ALC c12,ALC c12,eu h];rfl
 rw[ALG c12,ALG c12];by_cases c13:d.1=13
 ·rw[ALC c13,ALC c13,show(w.1,w.2.1,())=Ac w from rfl,show(w.2.2.2.2.1,w.2.2.2.2.2.1,())=CJ w from rfl,mU (c:=Ac w) (r:=CJ w) (by show w.1.length≤_;omega) (by show AU Bb w.2.2.2.2.1≤_;omega) k.trim h64]
  simp only[AD,pkR,PE];unfold bK;dsimp only;rcases AK_ (Nv (Ac w) (CJ w) d.2.1).2 with hq|hq
  ·rw[hq,Fq];rfl
  ·have e:(Nv (Ac w) (CJ w) d.2.1).1=CJ w:=by
    unfold Nv at hq⊢;rw[J5.2 h.mC]at hq⊢;simp only[ALW,AL6,APB]at hq⊢;split at hq
    ·cases hq
    ·rename_i hn;rw[ALG hn]
   rw[hq,e,Ic];rfl
 rw[ALG c13,ALG c13];by_cases c14:d.1=14
 ·rw[ALC c14,ALC c14,fZ h QV];rfl
 rw[ALG c14,ALG c14];by_cases c16:d.1=16
 ·rw[ALC c16,ALG (show¬d.1=15 by omega),ed h];rfl
 rw[ALG c16,ALC (show d.1=15 by omega),AH (x:=(w.2.2.2.2.2.2.1.length:Int)-1) (by omega) (by omega),Aq];simp only[AD,Au];unfold Zd;rw[show BF d.2.1 0 ((w.2.2.2.2.2.2.1.length:Int)-1)=BF d.2.1 0 ((w.AR.length:Int)-1)from rfl];rcases AK_ (BF d.2.1 0 ((w.AR.length:Int)-1))with h1|h1
 rotate_left
 ·rw[h1,Ic];rfl
 obtain⟨x1,x2,x3⟩:=h.dm h1;rw[h1,ANZ,Fq,AH (x:=d.2.1+1) (by omega) (by omega)];unfold FA ABK;rw[ALC (by omega)];simp only[Option.map_some,AD];rw[show(d.2.1+1).toNat=d.2.1.toNat+1 by omega,←List.eraseIdx_eq_take_drop_succ];rfl
theorem kR{d:Br}(QV:kQ w)(h64:Ce d.2.1):MV w d=some (xF (Ij false w d)):=by
 unfold MV Ij;rw[show(w.1,w.2.1,w.2.2.1,w.2.2.2.1,w.2.2.2.2.1,w.2.2.2.2.2.1,w.2.2.2.2.2.2.1,w.2.2.2.2.2.2.2.1,w.2.2.2.2.2.2.2.2.1,w.2.2.2.2.2.2.2.2.2.1,w.2.2.2.2.2.2.2.2.2.2.1,())=w from rfl,show(d.1,d.2.1,d.2.2.1,d.2.2.2.1,d.2.2.2.2.1,())=d from rfl,VN QV,nu,YY QV];simp only[AD,Au,Co];rw[KQ.2 h];rcases AK_ (Qe d)with hd|hd
 rotate_left
 ·rw[hd];rfl
 have hk:1≤d.1∧d.1≤16:=by
  unfold Qe at hd;exact Ak.1 (ALo _ _▸hd).1
 rw[hd,ANZ,ANZ,ja h QV h64 (gN hd) hk];simp only[AD,ALW,AU_,AL6,APB];by_cases hc:(Qm false w d).2=0
 ·rw[ALC (show(ADn (Qm false w d)).1.1=0 from hc)]
  generalize hg:Qm false w d=q at hc⊢
  obtain⟨v,co⟩:=q;dsimp only at hc;subst hc;rfl
 ·rw[ALG (show¬(ADn (Qm false w d)).1.1=0 from hc)]
  have:=uw hc;rw[show Qm false w d=(w,(Qm false w d).2)by rw[←Prod.eta (Qm false w d)];simp only[this]];rfl
end
theorem bz{w:AA}{d:Br}(QV:kQ w)(h64:Ce d.2.1):MV w d=some (xF (Ij false w d)):=by
 rcases AK_ (Jq w)with hw|hw
 ·exact kR (KQ.1 hw) QV h64
 ·unfold MV Ij
  rw[show(w.1,w.2.1,w.2.2.1,w.2.2.2.1,w.2.2.2.2.1,w.2.2.2.2.2.1,w.2.2.2.2.2.2.1,w.2.2.2.2.2.2.2.1,w.2.2.2.2.2.2.2.2.1,w.2.2.2.2.2.2.2.2.2.1,w.2.2.2.2.2.2.2.2.2.2.1,())=w from rfl,VN QV,hw];rfl
end Go.M
end
section
set_option maxRecDepth 8000
namespace Go.M
open Go.M.H (AK AO Ax Al AA Cp AN A6 AQ Aj Bc A7 Br Ai B5 AU AW AX Ag Bb As Am A0 D8 CG Ct C3)
def bare(se:List Al):List (Int×List UInt8):=se.map fun s=>(s.1,s.2.1)
section
variable{w:AA} {se:List Al}
end
theorem ABy{l m:List Al}(h:bare l=bare m):l.length=m.length:=by
 have:=congrArg List.length h;simpa[bare]using this
section
variable{w:AA}
end
theorem ADG{l m:List Al}(h:bare l=bare m){s:Al}(hs:s∈l):∃t∈m,t.1=s.1∧t.2.1=s.2.1:=by
 have h1:(s.1,s.2.1)∈bare m:=by rw[←h];exact AQ0.2 ⟨s,hs,rfl⟩
 obtain⟨t,ht,e⟩:=AQ0.1 h1;simp only[AQD]at e;exact⟨t,ht,e.1,e.2⟩
theorem AB2{l m:List Al}(h:bare l=bare m)(ha:VW (fun s:Al=>s.1) l):VW (fun s:Al=>s.1) m:=by
 have e:∀l:List Al,VW (fun s:Al=>s.1) l↔(bare l).Pairwise fun x y=>x.1<y.1:=fun l=>by
  unfold bare VW;rw[ARr]
 rw[e]at ha⊢
 rwa [←h]
theorem On.DT{w:AA}{se:List Al}(hw:On w)(h:bare se=bare w.CK):On (w.DT se) where
 cfg:=hw.cfg
 qD:=hw.qD
 lost:=hw.lost
 IL:=hw.IL
 BG:=hw.BG
 mC:=hw.mC
 qu:=hw.qu
 vK:=hw.vK
 AR:=hw.AR
 ei:=hw.ei
 CB:=hw.CB
 mS:=hw.mS
 Af:=hw.Af
 Q3:=by
  have:=hw.Q3;rw[←ABy h]at this;exact this
 CK:=fun s hs=>by
  obtain⟨t,ht,e1,e2⟩:=ADG h (show s∈se from hs);have:=hw.CK t ht;rw[e1,e2]at this;exact this
 aT:=AB2 h.symm hw.aT
end Go.M
end
section
set_option maxRecDepth 8000
namespace Go.M
open Go.M.H (AK AO Ax Al AA Cp AN A6 AQ Aj Bc A7 Br Ai B5 AU AW AX Ag Bb As Am A0 D8 CG Ct C3)
structure Up (w v:AA):Prop where
 rd:∀k,k<2→HB (w.Af.getD k EX).1 (w.Af.getD k EX).2.1≤HB (v.Af.getD k EX).1 (v.Af.getD k EX).2.1∧(w.Af.getD k EX).2.2.1.length≤(v.Af.getD k EX).2.2.1.length
 er:w.A8.length≤v.A8.length∧ ∀i,i<w.A8.length→(w.A8.getD i Gt).2.1=true→(v.A8.getD i Gt).2.1=true∧(v.A8.getD i Gt).2.2.1=(w.A8.getD i Gt).2.2.1
 IL:w.IL=true→v.IL=true
 se:w.CK.length≤v.CK.length
theorem Up.of{w v:AA}(h1:v.Af=w.Af)(h2:v.A8=w.A8)(h3:w.IL=true→v.IL=true)(h4:w.CK.length≤v.CK.length):Up w v:=
 ⟨fun k _=>by rw[h1];exact⟨Int.le_refl _,APM _⟩,by rw[h2];exact⟨APM _,fun _ _ h=>⟨h,rfl⟩⟩,h3,h4⟩
section
variable{w:AA} (hw:On w)
end
end Go.M
end
section
namespace Go.M
open Go.M.H (AK AO Ax Al AA Cp AN A6 AQ Aj Bc A7 Br AU A0)
structure ky (w:AA) (q:aP):Prop where
 code:q.2≠1
 keep:q.2≠0→q.1=w
 rd:q.1.Af=w.Af
section
variable{w:AA}
end
end Go.M
end
section
set_option maxRecDepth 8000
namespace Go.M
open Go.M.H (AK AO Ax Al AA Cp AN A6 AQ Aj Bc A7 Br Ai B5 AU AW AX Ag Bb As Am A0 D8 CG Ct C3)
def sg(w:AA)(n:Int):Kh:=(((((),w.2.1,(),(),(),w.2.2.2.2.2.1,(),(),(),(),w.2.2.2.2.2.2.2.2.2.2.1,()),n,()),()),(w.1,w.2.2.1,w.2.2.2.1,w.2.2.2.2.1,w.2.2.2.2.2.2.1,w.2.2.2.2.2.2.2.1,w.2.2.2.2.2.2.2.2.1,w.2.2.2.2.2.2.2.2.2.1,()))
theorem rC:∀(n:Nat) {w:AA} {a m:Int} {f:Nat},On w→Ce a→120-X1 w a<n→AU A0 w.Af+41*(120-X1 w a)≤900000→n<f→0≤m∧m+120-X1 w a≤1000→
  JR f a m 0 0 false [] [] [] [] [] [] [] [] w.2.1 w.2.2.2.2.2.1 w.2.2.2.2.2.2.2.2.2.2.1 w.1 w.2.2.1 w.2.2.2.1 w.2.2.2.2.1 w.2.2.2.2.2.2.1 w.2.2.2.2.2.2.2.1 w.2.2.2.2.2.2.2.2.1 w.2.2.2.2.2.2.2.2.2.1=some (sg (MB n w a).1 (m+(MB n w a).2))
 |0,_,_,_,_,_,_,h,_,_,_=>by omega
 |n+1,w,a,m,0,_,_,_,_,hf,_=>by omega
 |n+1,w,a,m,f+1,h,ha,hn,hw,hf,hm=>by
  show NT (JR f) _ _ _ _ _ _ _ _ _ _ _ _ _ _ _ _ _ _ _ _ _ _ _ _=_
  unfold NT;rw[show(w.1,w.2.1,w.2.2.1,w.2.2.2.1,w.2.2.2.2.1,w.2.2.2.2.2.1,w.2.2.2.2.2.2.1,w.2.2.2.2.2.2.2.1,w.2.2.2.2.2.2.2.2.1,w.2.2.2.2.2.2.2.2.2.1,w.2.2.2.2.2.2.2.2.2.2.1,())=w from rfl,bz (d:=(14,a,255,0,[],())) (h.ANk (by omega)) ha,bL h];simp only[AD,MB];by_cases hd:(CY w a 255).2=0
  ·obtain⟨_,k1,k2,k3,k4,k5⟩:=dM h hd
   rw[ALC hd,show((xF (CY w a 255)).1.1.2.1 !=0)=false by show((CY w a 255).2 !=0)=false;rw[hd];rfl,AL5,AH (x:=m+1) (by omega) (by omega)];have ih:=rC n (w:=(CY w a 255).1) (a:=a) (m:=m+1) (f:=f) k1 ha (by omega) (by rw[k2];omega) (by omega) (by omega);have e:m+1+(MB n (CY w a 255).1 a).2=m+((MB n (CY w a 255).1 a).2+1):=by omega
   rw[←e];exact ih
  ·rw[ALG hd,show((xF (CY w a 255)).1.1.2.1 !=0)=true by show((CY w a 255).2 !=0)=true;simpa using hd,ANZ]
   show _=some (sg w (m+0))
   rw[Int.add_zero];rfl
theorem rA:∀(n:Nat) {w:AA} {a m:Int} {f:Nat},On w→Ce a→120-X1 w a<n→AU A0 w.Af+41*(120-X1 w a)≤900000→n<f→0≤m∧m+120-X1 w a≤1000→
  JV f a m 0 0 false [] [] [] [] [] [] [] [] w.2.1 w.2.2.2.2.2.1 w.2.2.2.2.2.2.2.2.2.2.1 w.1 w.2.2.1 w.2.2.2.1 w.2.2.2.2.1 w.2.2.2.2.2.2.1 w.2.2.2.2.2.2.2.1 w.2.2.2.2.2.2.2.2.1 w.2.2.2.2.2.2.2.2.2.1=some (sg (MB n w a).1 (m+(MB n w a).2))
 |0,_,_,_,_,_,_,h,_,_,_=>by omega
 |n+1,w,a,m,0,_,_,_,_,hf,_=>by omega
 |n+1,w,a,m,f+1,h,ha,hn,hw,hf,hm=>by
  show NW (JV f) _ _ _ _ _ _ _ _ _ _ _ _ _ _ _ _ _ _ _ _ _ _ _ _=_
  unfold NW;rw[show(w.1,w.2.1,w.2.2.1,w.2.2.2.1,w.2.2.2.2.1,w.2.2.2.2.2.1,w.2.2.2.2.2.2.1,w.2.2.2.2.2.2.2.1,w.2.2.2.2.2.2.2.2.1,w.2.2.2.2.2.2.2.2.2.1,w.2.2.2.2.2.2.2.2.2.2.1,())=w from rfl,bw (d:=(14,a,255,0,[],())) (h.ANk (by omega)) ha,bL h];simp only[AD,MB];by_cases hd:(CY w a 255).2=0
  ·obtain⟨_,k1,k2,k3,k4,k5⟩:=dM h hd
   rw[ALC hd,show((xF (CY w a 255)).1.1.2.1 !=0)=false by show((CY w a 255).2 !=0)=false;rw[hd];rfl,AL5,AH (x:=m+1) (by omega) (by omega)];have ih:=rA n (w:=(CY w a 255).1) (a:=a) (m:=m+1) (f:=f) k1 ha (by omega) (by rw[k2];omega) (by omega) (by omega);have e:m+1+(MB n (CY w a 255).1 a).2=m+((MB n (CY w a 255).1 a).2+1):=by omega
   rw[←e];exact ih
  ·rw[ALG hd,show((xF (CY w a 255)).1.1.2.1 !=0)=true by show((CY w a 255).2 !=0)=true;simpa using hd,ANZ]
   show _=some (sg w (m+0))
   rw[Int.add_zero];rfl
theorem rP{w:AA}{a:Int}(h:BF a 0 1=false):∀n,MB n w a=(w,0)
 |0=>rfl
 |n+1=>by
  simp only[MB];have:(CY w a 255).2=2:=by
   unfold CY;rw[h];rfl
  rw[this];rfl
theorem wW{w:AA}{a k:Int}(h:BF a 0 1=true)(h0:(CY w a k).2≠0):(CY w a k).2=5:=by
 revert h0
 unfold CY;rw[h];simp only[ALW,AL6,APB];split
 ·intro _;rfl
 ·intro h;exact absurd rfl h
theorem gh{w:AA}{a:Int}(QV:kQ w)(ha:Ce a)(hr:AU A0 w.Af≤50000):
  P0 w a=some (if Jq w=true then sg (MB 200 w a).1 (MB 200 w a).2 else sg xM 0):=by
 unfold P0 TG;rw[show(w.1,w.2.1,w.2.2.1,w.2.2.2.1,w.2.2.2.2.1,w.2.2.2.2.2.1,w.2.2.2.2.2.2.1,w.2.2.2.2.2.2.2.1,w.2.2.2.2.2.2.2.2.1,w.2.2.2.2.2.2.2.2.2.1,w.2.2.2.2.2.2.2.2.2.2.1,())=w from rfl,VN QV];simp only[AD];rcases AK_ (Jq w)with hw|hw
 ·rw[hw,YY QV]
  simp only[ALW,AL5,AD,AQV];have:=rC 200 (m:=0) (f:=AY) (KQ.1 hw) ha (by omega) (by omega) (Aa (by omega)) (by omega);rw[this,Int.zero_add]
 ·rw[hw];rfl
theorem gF{w:AA}{a:Int}(QV:kQ w)(ha:Ce a)(hr:AU A0 w.Af≤50000):
  P4 w a=some (if Jq w=true then sg (MB 200 w a).1 (MB 200 w a).2 else sg xM 0):=by
 unfold P4 TS;rw[show(w.1,w.2.1,w.2.2.1,w.2.2.2.1,w.2.2.2.2.1,w.2.2.2.2.2.1,w.2.2.2.2.2.2.1,w.2.2.2.2.2.2.2.1,w.2.2.2.2.2.2.2.2.1,w.2.2.2.2.2.2.2.2.2.1,w.2.2.2.2.2.2.2.2.2.2.1,())=w from rfl,VU QV];simp only[AD];rcases AK_ (Jq w)with hw|hw
 ·rw[hw,ba QV]
  simp only[ALW,AL5,AD,AQV];have:=rA 200 (m:=0) (f:=AY) (KQ.1 hw) ha (by omega) (by omega) (Aa (by omega)) (by omega);rw[this,Int.zero_add]
 ·rw[hw];rfl
def ASg(w:AA)(p:Int):TO:=(((((),w.2.1,(),(),(),w.2.2.2.2.2.1,(),(),(),(),w.2.2.2.2.2.2.2.2.2.2.1,()),p,()),()),(w.1,w.2.2.1,w.2.2.2.1,w.2.2.2.2.1,w.2.2.2.2.2.2.1,w.2.2.2.2.2.2.2.1,w.2.2.2.2.2.2.2.2.1,w.2.2.2.2.2.2.2.2.2.1,()))
theorem AAb{x:AAM}(hc:x.length≤2^30):∃w p,K8 x=some (ASg w p)∧kQ w∧AU A0 w.Af≤50000∧ -10≤p∧p≤10:=by
 obtain⟨h0,e0⟩:=ABJ hc;unfold K8;rw[e0];simp only[AD];obtain⟨q,i1,h1,y,e1,K3,hq⟩:=tQ hc (i:=0) (hh:=h0) ⟨by omega,by omega⟩ hc;rw[e1];simp only[AD];obtain⟨x3,i3,h3,y3,e3,Kn,Tc⟩:=Bo hc (code:=x) (n:=3) (h:=h1) K3 (by omega);rw[e3];simp only[AD];obtain⟨x4,i4,h4,y4,e4,sU,hq4⟩:=Bo hc (n:=20) Kn (h:=h3) (by omega);rw[e4];simp only[AD];have b4:0≤x4.1.tdiv 19∧x4.1.tdiv 19≤1:=by
  obtain⟨p1,p2,_⟩:=hq4;have:=p2 (by omega);rw[Int.tdiv_eq_ediv_of_nonneg p1];omega
 have b3:=Tc.2.1 (by omega);have b30:=Tc.1
 generalize ph:dwW q y=w at hq
 obtain⟨⟨QV,hvin⟩,hwt,hwr⟩:=hq;have a0:y.1=w.1:=by rw[←ph]
 have a1:y.2.1=w.2.2.1:=by rw[←ph]
 have a2:y.2.2.1=w.2.2.2.1:=by rw[←ph]
 have a3:y.2.2.2.1=w.2.2.2.2.1:=by rw[←ph]
 have a4:y.2.2.2.2.1=w.2.2.2.2.2.2.1:=by rw[←ph]
 have a5:y.2.2.2.2.2.1=w.2.2.2.2.2.2.2.1:=by rw[←ph]
 have a6:y.2.2.2.2.2.2.1=w.2.2.2.2.2.2.2.2.1:=by rw[←ph]
 have a7:y.2.2.2.2.2.2.2.1=w.2.2.2.2.2.2.2.2.2.1:=by rw[←ph]
 have a8:q.1.2.1=w.2.1:=by rw[←ph]
 have a9:q.1.2.2.2.2.2.1=w.2.2.2.2.2.1:=by rw[←ph]
 have a10:q.1.2.2.2.2.2.2.2.2.2.2.1=w.2.2.2.2.2.2.2.2.2.2.1:=by rw[←ph]
 rw[a0,a1,a2,a3,a4,a5,a6,a7,a8,a9,a10,AH (x:=x4.1.tdiv 19) (by omega) (by omega),AH (by omega) (by omega)];exact⟨w,x3.1-x4.1.tdiv 19,rfl,QV,hwr,by omega,by omega⟩
theorem jK{x:AAM}(hx:Go.Fw.Vd (.sl (.int .u8)) x):KO x=some ((true,()),()):=by
 unfold KO nw;simp only[AMM,AB];by_cases hs:(x.length:Int)>1048576
 ·rw[ALC hs]
 rw[ALG hs];obtain⟨w,p,e1,QV,Xu,hp1,hp2⟩:=AAb (x:=x) (by omega);have ha:Ce p:=by unfold Ce;omega
 rw[e1];simp only[AMM,ASg];rw[show(w.1,w.2.1,w.2.2.1,w.2.2.2.1,w.2.2.2.2.1,w.2.2.2.2.2.1,w.2.2.2.2.2.2.1,w.2.2.2.2.2.2.2.1,w.2.2.2.2.2.2.2.2.1,w.2.2.2.2.2.2.2.2.2.1,w.2.2.2.2.2.2.2.2.2.2.1,())=w from rfl,gh QV ha Xu,gF QV ha Xu,VU QV];simp only[AMM,bne_self_eq_false,AL5];rcases AK_ (Jq w)with hw|hw
 rotate_left
 ·rw[hw];rfl
 rw[hw];simp only[AQV,ALW,AL5,sg];have hwo:=KQ.1 hw;by_cases h0:p<0
 ·rw[ALC h0,rP (by unfold BF;exact AQO (by omega))];rfl
 rw[ALG h0];by_cases h1:p>1
 ·rw[ALC h1,rP (by unfold BF;exact AQO (by omega))];rfl
 rw[ALG h1];have TQ:BF p 0 1=true:=Ak.2 (by omega);have hr:=uD 200 hwo (a:=p) (by omega) (by omega)
 generalize MB 200 w p=q at hr
 obtain⟨v,m⟩:=q;simp only at hr;rw[show(v.1,v.2.1,v.2.2.1,v.2.2.2.1,v.2.2.2.2.1,v.2.2.2.2.2.1,v.2.2.2.2.2.2.1,v.2.2.2.2.2.2.2.1,v.2.2.2.2.2.2.2.2.1,v.2.2.2.2.2.2.2.2.2.1,v.2.2.2.2.2.2.2.2.2.2.1,())=v from rfl,bz (d:=(14,p,255,0,[],())) hr.win ha,bL hr.ok];simp only[AMM];rw[show((xF (CY v p 255)).1.1.2.1==5)=true by show((CY v p 255).2==5)=true;rw[wW TQ hr.stop];rfl,ANZ];have n1:=hwo.mS;have n2:=hr.ok.mS;have l1:=hr.len;have l2:=hr.cP;have c1:=hr.cnt;have cv:∀i:Int,0≤i→i≤1→(0:Int)≤i∧i<(v.2.2.2.2.2.2.2.2.1.length:Int):=fun i h h' =>⟨h,by have:v.2.2.2.2.2.2.2.2.1.length=2:=n2;omega⟩
 have cw:∀i:Int,0≤i→i≤1→(0:Int)≤i∧i<(w.2.2.2.2.2.2.2.2.1.length:Int):=fun i h h' =>⟨h,by have:w.2.2.2.2.2.2.2.2.1.length=2:=n1;omega⟩
 rw[AH (x:=1-p) (by omega) (by omega)];simp only[ALC (cv p (by omega) (by omega)),ALC (cw p (by omega) (by omega)),ALC (cv (1-p) (by omega) (by omega)),ALC (cw (1-p) (by omega) (by omega))];have e2:(((v.2.2.2.2.2.2.2.2.1.getD p.toNat (0,0,[],())).2.2.1).length:Int)=(((w.2.2.2.2.2.2.2.2.1.getD p.toNat (0,0,[],())).2.2.1).length:Int)+m:=l1;have e3:((v.2.2.2.2.2.2.2.2.1.getD (1-p).toNat (0,0,[],())).2.2.1).length=((w.2.2.2.2.2.2.2.2.1.getD (1-p).toNat (0,0,[],())).2.2.1).length:=l2;have e4:((w.2.2.2.2.2.2.2.2.1.getD p.toNat (0,0,[],())).2.2.1).length≤120:=(hwo.Af _ (BU (d:=EX) (l:=w.Af) (i:=p.toNat) (by omega))).n;rw[e2,e3,AH (by omega) (by omega)];simp
end Go.M
end
