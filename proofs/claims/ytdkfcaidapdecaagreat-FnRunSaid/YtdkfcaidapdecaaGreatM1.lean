/- Plain facts on what the functions compute. -/
import Derived.Test.YtdkfcaidapdecaaGreatM0
set_option linter.unusedVariables false
set_option linter.unusedSimpArgs false
set_option linter.unusedSectionVars false
section
set_option maxRecDepth 8000
namespace Go.M
open Go.M.H (AK AQ A0 Ai AA Cq AO A8 AR Ak Bd A9 BK Aj CB AU AW Ab Ag Bg Ax Ao Au EB CL Cy C_)
theorem fK{s:AAD}{p:Int}:∀{l:List A9} {b:Option AK},(∀x,b=some x→Fy x=true)→ ∀x,Hb s p b l=some x→Fy x=true
 |[],b,hb,x,h=>hb x h
 |a::l,b,hb,x,h=>by
  simp only[Hb]at h;split at h
  ·rename_i hc
   simp only[ANN]at hc;refine fK (l:=l) ?_ x h
   intro z hz;split at hz
   ·rename_i z' hz'
    unfold better at hz;split at hz
    ·rw[←AXN hz];exact hc.2.2.1
    ·rw[←AXN hz];exact hb _ rfl
   ·rw[←AXN hz];exact hc.2.2.1
  ·exact fK (l:=l) hb x h
theorem lf{c:CE}{g:AO}{sure:Int}{r:Ak}{l:List A9}(h:∀e∈r.2.2.1,e.2.2.1.length≤40)(h0:(Co c g sure r l).2=0):∀e∈(Co c g sure r l).1.2.2.1,e.2.2.1.length≤40:=by
 have app:∀(ev:Bd),ev.2.2.1.length≤40→ ∀e∈r.2.2.1++[ev],e.2.2.1.length≤40:=fun ev hev e he=>by
  rcases AOk.1 he with he|he
  ·exact h e he
  ·rw[ARu.1 he];exact hev
 have hf:∀p,(Q9 p (Hb (g.1.getD (r.1-1).toNat G3).1 p none l)).2.2.1.length≤40:=fun p=>by
  cases hb:Hb (g.1.getD (r.1-1).toNat G3).1 p none l with
  |none=>show 0≤40;omega
  |some x=>
   have:=(FY.1 (fK (b:=none) (fun x hx=>by cases hx) x hb)).len;unfold Q9;dsimp only;split
   ·show 0≤40;omega
   ·exact this
 revert h0
 unfold Co;dsimp only;split
 ·intro h0;cases h0
 split
 ·intro h0;cases h0
 split
 ·intro _;exact app _ (by show 0≤40;omega)
 split
 ·intro _;exact app _ (by show 0≤40;omega)
 split
 ·intro h0;cases h0
 split
 ·intro h0;cases h0
 intro _;exact app _ (hf _)
theorem BC{w:AA}{n:Int}{q:AQ×Bool}:(putAt w n q).1.Ac=w.Ac:=by
 unfold putAt;split<;>rfl
theorem um{w:AA}{a k:Int}(h:rS w):rS (Ha w a k).1:=by
 unfold Ha;split
 ·exact h
 dsimp only;split
 ·exact h
 rename_i h2;intro r hr;rcases ASk hr with hr|rfl
 ·exact h r hr
 ·refine lf ?_ (by simpa using h2)
  by_cases hl:a.toNat<w.Ac.length
  ·exact h _ (BU hl)
  ·rw[List.getD,ASm (by omega)]
   intro e he;exact absurd he (by simp)
theorem DX{w w':AA}(h:rS w)(e:w'.Ac=w.Ac):rS w':=by
 unfold rS;rw[e];exact h
theorem xh{all:Bool}{w:AA}{d:BK}(h:rS w):rS (LQ all w d).1:=by
 unfold LQ;by_cases c:d.1=1
 ·rw[AM1 c]
  clear c
  refine DX h ?_
  unfold Mf
  try dsimp only
  repeat' split
  all_goals first|rfl|exact BC
 rw[AM2 c];clear c;by_cases c:d.1=2
 ·rw[AM1 c]
  clear c
  refine DX h ?_
  unfold doAdd
  try dsimp only
  repeat' split
  all_goals first|rfl|exact BC
 rw[AM2 c];clear c;by_cases c:d.1=3
 ·rw[AM1 c]
  clear c
  refine DX h ?_
  unfold Iy
  try dsimp only
  repeat' split
  all_goals first|rfl|exact BC
 rw[AM2 c];clear c;by_cases c:d.1=4
 ·rw[AM1 c]
  clear c
  refine DX h ?_
  unfold N_
  try dsimp only
  repeat' split
  all_goals first|rfl|exact BC
 rw[AM2 c];clear c;by_cases c:d.1=5
 ·rw[AM1 c]
  clear c
  refine DX h ?_
  unfold I9
  try dsimp only
  repeat' split
  all_goals first|rfl|exact BC
 rw[AM2 c];clear c;by_cases c:d.1=6
 ·rw[AM1 c]
  clear c
  refine DX h ?_
  unfold M8
  try dsimp only
  repeat' split
  all_goals first|rfl|exact BC
 rw[AM2 c];clear c;by_cases c:d.1=7
 ·rw[AM1 c]
  clear c
  refine DX h ?_
  unfold Mk
  try dsimp only
  repeat' split
  all_goals first|rfl|exact BC
 rw[AM2 c];clear c;by_cases c:d.1=8
 ·rw[AM1 c]
  clear c
  refine DX h ?_
  unfold Mm
  try dsimp only
  repeat' split
  all_goals first|rfl|exact BC
 rw[AM2 c];clear c;by_cases c:d.1=9
 ·rw[AM1 c]
  clear c
  refine DX h ?_
  unfold Me
  try dsimp only
  repeat' split
  all_goals first|rfl|exact BC
 rw[AM2 c];clear c;by_cases c:d.1=10
 ·rw[AM1 c]
  clear c
  refine DX h ?_
  unfold My
  try dsimp only
  repeat' split
  all_goals first|rfl|exact BC
 rw[AM2 c];clear c;by_cases c:d.1=11
 ·rw[AM1 c]
  clear c
  refine DX h ?_
  unfold TT
  try dsimp only
  repeat' split
  all_goals first|rfl|exact BC
 rw[AM2 c];clear c;by_cases c:d.1=12
 ·rw[AM1 c]
  clear c
  refine DX h ?_
  unfold Iw
  try dsimp only
  repeat' split
  all_goals first|rfl|exact BC
 rw[AM2 c];clear c;by_cases c:d.1=13
 ·rw[AM1 c]
  clear c
  refine DX h ?_
  unfold Ox
  try dsimp only
  repeat' split
  all_goals first|rfl|exact BC
 rw[AM2 c];clear c;by_cases c:d.1=14
 ·rw[AM1 c];exact um h
 rw[AM2 c];clear c;by_cases c:d.1=15
 ·rw[AM1 c]
  clear c
  refine DX h ?_
  unfold N1
  try dsimp only
  repeat' split
  all_goals first|rfl|exact BC
 rw[AM2 c];clear c;refine DX h ?_
 unfold I6;split
 ·rfl
 ·exact BC
theorem rU{c:CE}{g:AO}{sure:Int}{r:Ak}{l:List A9}(h:∀e∈r.2.2.1,CR e.2.1)(h0:(Co c g sure r l).2=0):∀e∈(Co c g sure r l).1.2.2.1,CR e.2.1:=by
 have app:∀(ev:Bd),CR ev.2.1→ ∀e∈r.2.2.1++[ev],CR e.2.1:=fun ev hev e he=>by
  rcases AOk.1 he with he|he
  ·exact h e he
  ·rw[ARu.1 he];exact hev
 have hf:∀p b,(Q9 p b).2.1=p:=fun p b=>by
  cases b with
  |none=>rfl
  |some x=>unfold Q9;dsimp only;split<;>rfl
 revert h0
 unfold Co;dsimp only;split
 ·intro h0;cases h0
 rename_i FW;have ATh:NW c g=true∧ZE r=true:=by
  rcases AM0 (NW c g)with h1|h1
  ·rcases AM0 (ZE r)with h2|h2
   ·exact⟨h1,h2⟩
   ·rw[h1,h2]at FW;exact absurd rfl FW
  ·rw[h1]at FW;exact absurd rfl FW
 have hrg:=(KO.1 ATh.1).tin;have ZN:=T_.1 ATh.2;have hre:=ZN.ep;have hro:=ZN.off;split
 ·intro h0;cases h0
 split
 ·intro _;exact app _ hrg
 split
 ·intro _;exact app _ (ON (by show-1000≤r.1+1∧r.1+1≤1000;omega))
 split
 ·intro h0;cases h0
 split
 ·intro h0;cases h0
 intro _;refine app _ ?_
 rw[hf];unfold CR HF;omega
theorem ABt{w:AA}{a k:Int}(h:aF w):aF (Ha w a k).1:=by
 unfold Ha;split
 ·exact h
 dsimp only;split
 ·exact h
 rename_i h2;intro r hr;rcases ASk hr with hr|rfl
 ·exact h r hr
 ·refine rU ?_ (by simpa using h2)
  by_cases hl:a.toNat<w.Ac.length
  ·exact h _ (BU hl)
  ·rw[List.getD,ASm (by omega)]
   intro e he;exact absurd he (by simp)
theorem F7{w w':AA}(h:aF w)(e:w'.Ac=w.Ac):aF w':=by
 unfold aF;rw[show w'.2.2.2.2.2.2.2.2.1=w.2.2.2.2.2.2.2.2.1 from e];exact h
theorem ALC{all:Bool}{w:AA}{d:BK}(h:aF w):aF (LQ all w d).1:=by
 unfold LQ;by_cases c:d.1=1
 ·rw[AM1 c]
  clear c
  refine F7 h ?_
  unfold Mf
  try dsimp only
  repeat' split
  all_goals first|rfl|exact BC
 rw[AM2 c];clear c;by_cases c:d.1=2
 ·rw[AM1 c]
  clear c
  refine F7 h ?_
  unfold doAdd
  try dsimp only
  repeat' split
  all_goals first|rfl|exact BC
 rw[AM2 c];clear c;by_cases c:d.1=3
 ·rw[AM1 c]
  clear c
  refine F7 h ?_
  unfold Iy
  try dsimp only
  repeat' split
  all_goals first|rfl|exact BC
 rw[AM2 c];clear c;by_cases c:d.1=4
 ·rw[AM1 c]
  clear c
  refine F7 h ?_
  unfold N_
  try dsimp only
  repeat' split
  all_goals first|rfl|exact BC
 rw[AM2 c];clear c;by_cases c:d.1=5
 ·rw[AM1 c]
  clear c
  refine F7 h ?_
  unfold I9
  try dsimp only
  repeat' split
  all_goals first|rfl|exact BC
 rw[AM2 c];clear c;by_cases c:d.1=6
 ·rw[AM1 c]
  clear c
  refine F7 h ?_
  unfold M8
  try dsimp only
  repeat' split
  all_goals first|rfl|exact BC
 rw[AM2 c];clear c;by_cases c:d.1=7
 ·rw[AM1 c]
  clear c
  refine F7 h ?_
  unfold Mk
  try dsimp only
  repeat' split
  all_goals first|rfl|exact BC
 rw[AM2 c];clear c;by_cases c:d.1=8
 ·rw[AM1 c]
  clear c
  refine F7 h ?_
  unfold Mm
  try dsimp only
  repeat' split
  all_goals first|rfl|exact BC
 rw[AM2 c];clear c;by_cases c:d.1=9
 ·rw[AM1 c]
  clear c
  refine F7 h ?_
  unfold Me
  try dsimp only
  repeat' split
  all_goals first|rfl|exact BC
 rw[AM2 c];clear c;by_cases c:d.1=10
 ·rw[AM1 c]
  clear c
  refine F7 h ?_
  unfold My
  try dsimp only
  repeat' split
  all_goals first|rfl|exact BC
 rw[AM2 c];clear c;by_cases c:d.1=11
 ·rw[AM1 c]
  clear c
  refine F7 h ?_
  unfold TT
  try dsimp only
  repeat' split
  all_goals first|rfl|exact BC
 rw[AM2 c];clear c;by_cases c:d.1=12
 ·rw[AM1 c]
  clear c
  refine F7 h ?_
  unfold Iw
  try dsimp only
  repeat' split
  all_goals first|rfl|exact BC
 rw[AM2 c];clear c;by_cases c:d.1=13
 ·rw[AM1 c]
  clear c
  refine F7 h ?_
  unfold Ox
  try dsimp only
  repeat' split
  all_goals first|rfl|exact BC
 rw[AM2 c];clear c;by_cases c:d.1=14
 ·rw[AM1 c];exact ABt h
 rw[AM2 c];clear c;by_cases c:d.1=15
 ·rw[AM1 c]
  clear c
  refine F7 h ?_
  unfold N1
  try dsimp only
  repeat' split
  all_goals first|rfl|exact BC
 rw[AM2 c];clear c;refine F7 h ?_
 unfold I6;split
 ·rfl
 ·exact BC
theorem xj{all:Bool}{w:AA}{d:BK}(h:aF w)(e:(CC all w d).2=0):aF (CC all w d).1:=by
 unfold CC at*;by_cases hc:(!Ft w|| !P7 d)=true
 ·rw[AM1 hc]at e;cases e
 ·rw[AM2 hc];exact ALC h
theorem wo{c:CE}:aF (VL c):=fun r hr=>by
 have:r=(1,1,[],()):=by
  have hr':r∈([(1,1,[],()),(1,1,[],())]:List Ak):=hr;simpa using hr'
 subst this;intro e he;cases he
theorem fy{all:Bool}{w:AA}{d:BK}(h:rS w)(e:(CC all w d).2=0):rS (CC all w d).1:=by
 unfold CC at*;by_cases hc:(!Ft w|| !P7 d)=true
 ·rw[AM1 hc]at e;cases e
 ·rw[AM2 hc];exact xh h
theorem mF{c:CE}(hc:F6 c=true):Nw (VL c)∧rS (VL c):=by
 refine⟨⟨hc,by simp[VL,H.AA.BE],Zg hc,.inr holds_nil,fun i hi=> ?_,⟨hc,by show 0≤30;omega,.inl rfl,fun e he=>(by cases he),fun i hi=>by exact absurd hi (by show¬i<0;omega)⟩,by show 0≤4;omega,by show 0≤1;omega,fun x hx=>(by cases hx),List.Pairwise.nil,fun x hx=>(by cases hx),rfl,fun r hr=> ?_,by show 0≤120;omega,fun x hx=>(by cases hx),List.Pairwise.nil⟩,fun r hr=> ?_⟩
 ·have:(VL c).BE.getD i EF=EF:=by
   show(List.replicate c.1.length EF).getD i EF=EF
   rw[List.getD,List.getElem?_replicate];split<;>rfl
  rw[this];exact⟨cI.nil,fun _=>rfl⟩
 ·have:r=(1,1,[],()):=by
   have hr':r∈([(1,1,[],()),(1,1,[],())]:List Ak):=hr;simpa using hr'
  subst this;exact⟨by show(1:Int)≤1∧(1:Int)≤31;omega,by show(1:Int)≤1∧(1:Int)≤61;omega,by show 0≤120;omega⟩
 ·have:r=(1,1,[],()):=by
   have hr':r∈([(1,1,[],()),(1,1,[],())]:List Ak):=hr;simpa using hr'
  subst this;intro e he;cases he
theorem bG{c:CE}(hc:F6 c=true):E9 c=some (((((),c.2.1,(),(),(),0,(),(),(),(),false,()),true,()),()),(c.1,List.replicate c.1.length EF,[],[],[],[],[(1,1,[],()),(1,1,[],())],[],())):=by
 have hl:=(Dl hc).2.1;unfold E9;rw[show(c.1,c.2.1,())=c from rfl,HT (by omega),hc];simp only[AD,ANZ,ANP];rw[AM1 (by rw[An];omega),AM1 ⟨by omega,by omega,by rw[An];omega⟩];rfl
def fh(x:(ALP×Unit))(y:Unit×Unit×Unit×Unit×Unit×Unit×Unit×Unit×(List BK)×List Int×(List AQ)×List Int×(List Cq)×(List AR)×(List A0)×(List Ak)×(List Ai)×Unit):AA:=
 (y.2.2.2.2.2.2.2.2.2.1,x.1.2.2.1.2.1,y.2.2.2.2.2.2.2.2.2.2.1,y.2.2.2.2.2.2.2.2.2.2.2.1,y.2.2.2.2.2.2.2.2.2.2.2.2.1,x.1.2.2.1.2.2.2.2.2.1,y.2.2.2.2.2.2.2.2.2.2.2.2.2.1,y.2.2.2.2.2.2.2.2.2.2.2.2.2.2.1,y.2.2.2.2.2.2.2.2.2.2.2.2.2.2.2.1,y.2.2.2.2.2.2.2.2.2.2.2.2.2.2.2.2.1,x.1.2.2.1.2.2.2.2.2.2.2.2.2.2.1,())
section
variable{code:AAD} (hc:code.length≤2^30)
include hc
theorem AOh{T:Int}(hT:T≤1000){z1 z2:Int}{z3:Bool}:∀(n k:Nat) (i hh:Int) (w:AA) (acc:List BK),CH code i→(k:Int)≤max T 0→(T-k).toNat<n→acc.length≤k→Nw w→rS w→aF w→
  OK code (fun x y=>Nw (fh x y)∧rS (fh x y)∧aF (fh x y)) (Dh n T k code i hh 0 0 false [] [] [] [] [] [] [] [] 0 0 false [] [] [] [] [] [] [] [] z1 z2 z3 w.2.1 w.2.2.2.2.2.1 w.2.2.2.2.2.2.2.2.2.2.1 w.1 w.2.2.1 w.2.2.2.1 w.2.2.2.2.1 w.2.2.2.2.2.2.1 w.2.2.2.2.2.2.2.1 w.2.2.2.2.2.2.2.2.1 w.2.2.2.2.2.2.2.2.2.1 acc):=by
 intro n
 induction n with
 |zero=>intro k i hh w acc _ _ h;omega
 |succ n ih=>
  intro k i hh w acc hi hk hn hb hw hr hv;simp only[Dh,Qd];refine OK.OE (fun G4=> ?_) (fun uN=>OK.some hi ⟨hw,hr,hv⟩);rw[show(w.1,w.2.1,w.2.2.1,w.2.2.2.1,w.2.2.2.2.1,w.2.2.2.2.2.1,w.2.2.2.2.2.2.1,w.2.2.2.2.2.2.2.1,w.2.2.2.2.2.2.2.2.1,w.2.2.2.2.2.2.2.2.2.1,w.2.2.2.2.2.2.2.2.2.2.1,())=w from rfl];refine OK.bind (mJ hc hw hi) fun x i1 h1 y J_ hq=> ?_
  dsimp only;refine OK.ite (by rw[An];omega) ?_
  refine OK.pure (V_ (d:=x.1) (hw.win hr) hq.1) ?_
  rw[AH (by omega) (by omega),show((k:Int)+1)=((k+1:Nat):Int)by omega];refine OK.Fh (fun h0=> ?_) (fun h0=> ?_)
  ·have h0':(CC true w x.1).2=0:=h0
   exact ih (k+1) i1 h1 (CC true w x.1).1 (acc++[x.1]) J_ (by omega) (by omega) (by simp;omega) (EU.1 (Uh h0')) (fy hr h0') (xj hv h0')
  ·exact ih (k+1) i1 h1 w (acc++[x.1]) J_ (by omega) (by omega) (by simp;omega) hw hr hv
theorem AVX{T:Int}(hT:0≤T∧T≤500){n0:AAD}{tC:AAD}(hbl:tC.length≤100)(hd:U9 n0 1):∀(n:Nat) (c i hh:Int),CH code i→1≤c∧c≤3→c.toNat+1000≤n→
  OK code (fun x y=>Nw (fh x y)∧rS (fh x y)∧aF (fh x y)) (Eu n T code i hh 0 0 false [] [] [] [] [] [] [] [] 0 0 false [] [] [] [] [] [] [] [] c n0 tC):=by
 intro n
 induction n with
 |zero=>intro c i hh _ _ h;omega
 |succ n ih=>
  intro c i hh hi q8 hn;have hg:U9 n0 c:=⟨hd.1,hd.2.1,q8.1,q8.2,hd.2.2.2.2⟩;have yd:=hd.2.1;simp only[Eu,R_];have fin:OK code (fun x y=>Nw (fh x y)∧rS (fh x y)∧aF (fh x y)) ((E9 (n0,c,())).bind fun u6=>
    (AJ (AS (T+1)) code i hh).bind fun u7=>
    Dh n u7.1.1 0 u7.2.1.1 u7.2.1.2.1 u7.2.1.2.2.1 0 0 false [] [] [] [] [] [] [] [] 0 0 false [] [] [] [] [] [] [] [] u6.1.1.1.2.1 u6.1.1.1.2.2.2.2.2.1 u6.1.1.1.2.2.2.2.2.2.2.2.2.2.1 u6.1.1.1.2.1 u6.1.1.1.2.2.2.2.2.1 u6.1.1.1.2.2.2.2.2.2.2.2.2.2.1 u6.2.1 u6.2.2.1 u6.2.2.2.1 u6.2.2.2.2.1 u6.2.2.2.2.2.1 u6.2.2.2.2.2.2.1 u6.2.2.2.2.2.2.2.1 u6.2.2.2.2.2.2.2.2.1 []):=by
   refine OK.pure (bG hg.ok) ?_
   rw[AH (by omega) (by omega)];refine OK.bind (Bz hc hi (by omega)) fun x i1 h1 y J_ hq=> ?_
   have hwn:=mF hg.ok;exact AOh hc (T:=x.1) (by omega) n 0 i1 h1 (VL (n0,c,())) [] J_ (by omega) (by omega) (by simp) hwn.1 hwn.2 wo
  refine OK.OE (fun G4=> ?_) (fun uN=>fin);refine OK.pure (DZ (by show n0.length≤_;omega) (by omega)) ?_
  refine OK.cond (fun _=> ?_) (fun _=>fin);rw[AH (by omega) (by omega)];exact ih (c-1) i hh hi (by omega) (by omega)
theorem AWC{T:Int}(hT:0≤T∧T≤500){n0:AAD}{c:Int}(hd:U9 n0 c):∀(n k:Nat) (i hh:Int) (b:AAD),CH code i→k≤n0.length→n0.length-k+1010≤n→b.length≤k→
  OK code (fun x y=>Nw (fh x y)∧rS (fh x y)∧aF (fh x y)) (Ep n T k code i hh 0 0 false [] [] [] [] [] [] [] [] 0 0 false [] [] [] [] [] [] [] [] c n0 b):=by
 have yd:=hd.2.1;intro n
 induction n with
 |zero=>intro k i hh b _ _ h;omega
 |succ n ih=>
  intro k i hh b hi hk hn hb;simp only[Ep,Rc];refine OK.OE (fun G4=> ?_) (fun uN=> ?_)
  ·refine OK.ite (by rw[An];omega) ?_
   rw[AH (by omega) (by omega),show((k:Int)+1)=((k+1:Nat):Int)by omega];exact ih (k+1) i hh _ hi (by omega) (by omega) (by simp;omega)
  ·exact AVX hc hT (by omega) ⟨hd.1,hd.2.1,by omega,by omega,hd.2.2.2.2⟩ n c i hh hi ⟨hd.2.2.1,hd.2.2.2.1⟩ (by have:=hd.2.2.2.1;omega)
theorem xW{T:Int}(hT:0≤T∧T≤500){i hh:Int}(hi:CH code i):OK code (fun x y=>Nw (fh x y)∧rS (fh x y)∧aF (fh x y)) (Kp T code i hh):=by
 unfold Kp R0;obtain⟨l,c,i1,h1,e,hg,J_⟩:=Ya hc (h:=hh) hi;rw[e];have hgl:=hg.2.1;exact AWC hc hT hg AX 0 i1 h1 [] J_ (by omega) (ATE (AZ (by omega))) (by simp)
end
end Go.M
end
section
set_option maxRecDepth 8000
namespace Go.M
open Go.M.H (AK AQ A0 Ai AA Cq AO A8 AR Ak Bd A9 BK Aj CB AU AW Ab Ag Bg Ax Ao Au EB CL Cy C_)
abbrev AUB:AK×Unit→Unit→Prop:=fun x _=>CR x.1.1∧x.1.2.2.2.1.length≤41
section
variable{code:AAD} (hc:code.length≤2^30)
include hc
theorem XH{i hh:Int}(hi:CH code i):OK code (fun(x:ABw) (_:Unit)=>CR x.1) (FD code i hh):=by
 obtain⟨v,i1,h1,e,a,b,J_⟩:=od hc (h:=hh) hi;exact⟨(v,()),i1,h1,(),e,J_,by unfold CR;omega⟩
theorem lz{i hh:Int}(hi:CH code i):OK code AUB (Ll code i hh):=by
 unfold Ll;dsimp only;refine OK.bind (Bz hc hi (by omega)) fun x1 i1 h1 y1 J_ hq1=> ?_
 dsimp only at*;refine OK.bind (Bz hc J_ (by omega)) fun x2 i2 h2 y2 Hq rb=> ?_
 dsimp only at*;rw[AH (by omega) (by omega),AH (x:=1+x2.1) (by omega) (by omega)];refine OK.pure (F4 (by omega) (by omega)) ?_
 dsimp only;have hp:=JM (e:=1+x1.1) (o:=1+x2.1) (by omega) (by omega);have hpi:=Gv hp.1;refine OK.bind (oG hc Hq (by simp) (by simp)) fun x3 i3 h3 y3 KX Vv=> ?_
 dsimp only at*;have hl:x3.1.length≤41:=by
  simp only[ARi,List.not_mem_nil,or_false]at Vv;rcases Vv with h|h|h|h|h<;>rw[h]<;>simp
 refine OK.bind (M4 hc KX (by omega)) fun x4 i4 h4 y4 vA hq4=> ?_
 dsimp only;refine OK.cond (fun _=> ?_) (fun _=>OK.some vA ⟨hpi,hl⟩);refine OK.pure (ED hpi) ?_
 dsimp only;refine OK.bind (Bz hc vA (by omega)) fun x5 i5 h5 y5 hi5 hq5=> ?_
 dsimp only;refine OK.bind (M4 hc hi5 (by omega)) fun x6 i6 h6 y6 hi6 hq6=> ?_
 dsimp only;exact OK.cond (fun _=>OK.some hi6 ⟨hpi,by show 0≤41;omega⟩) (fun _=>OK.some hi6 ⟨hpi,hl⟩)
theorem iJ{i hh:Int}(hi:CH code i):OK code AUB (SA code i hh):=by
 unfold SA;refine OK.bind (lz hc hi) fun x i h y hi hq=> ?_
 dsimp only at*;refine OK.bind (Bz hc hi (by omega)) fun x2 i2 h2 y2 Hq rb=> ?_
 dsimp only at*;refine OK.Fh (fun _=> ?_) (fun _=> ?_)
 ·refine OK.bind (XH hc Hq) fun x3 i3 h3 y3 KX Vv=> ?_
  exact OK.some KX ⟨Vv,hq.2⟩
 refine OK.Fh (fun _=> ?_) (fun _=> ?_)
 ·refine OK.bind (Q_ hc Hq (by simp) (by simp)) fun x3 i3 h3 y3 KX Vv=> ?_
  exact OK.some KX hq
 refine OK.Fh (fun _=>OK.some Hq hq) (fun _=> ?_);refine OK.Fh (fun _=> ?_) (fun _=>OK.some Hq hq);refine OK.bind (Bz hc Hq (by omega)) fun x3 i3 h3 y3 KX Vv=> ?_
 dsimp only at*;rw[AH (by omega) (by omega)];refine OK.ite (by rw[An];omega) ?_
 refine OK.some KX ⟨hq.1,?_⟩;simp only[ATV,AS8];omega
abbrev StQ:AES→((List AK)×(List AK)×Unit)→Prop:=fun x y=>jc (y.1,y.2.1,x.1.2.2.1,())∧y.1.length≤300∧y.2.1.length≤300∧(∀e∈y.1,Ag e≤41)∧(∀e∈y.2.1,Ag e≤41)
theorem AOu{s:AQ}(h:cI s):jc s∧s.1.length≤200∧s.2.1.length≤20∧(∀e∈s.1,Ag e≤41)∧(∀e∈s.2.1,Ag e≤41):=
 ⟨h.sin,h.nk,h.nl,fun e he=>by have:=(FY.1 (h.kept e he)).len;unfold Ag;omega,fun e he=>by have:=(FY.1 (h.late e he)).len;unfold Ag;omega⟩
theorem yw{x2 x3:List AK}{z:Int}{sl:Int}{l6:List AK}{i hh:Int}(hi:CH code i)(h6:fl l6∧l6.length≤20∧ ∀e∈l6,Ag e≤41):∀n:Nat,
  (∀(k:Nat) (b:List AK),1≤k→k≤5→(5-k)*60+1≤n→b.length≤(k-1)*50→fl b→(∀e∈b,Ag e≤41)→OK code StQ (Er n k code i hh z x2 x3 sl b l6))∧
  (∀(k j:Nat) (b:List AK),1≤k→k≤4→1≤j→j≤51→(4-k)*60+1+(51-j)+1≤n→b.length≤(k-1)*50+(j-1)→fl b→(∀e∈b,Ag e≤41)→OK code StQ (Ex n k j code i hh z x2 x3 sl b l6)):=by
 intro n
 induction n with
 |zero=>exact⟨fun k b _ _ h=>by omega,fun k j b _ _ _ _ h=>by omega⟩
 |succ n ih=>
  refine⟨fun k b h1 h2 hn hb yt qT=> ?_,fun k j b h1 h2 h3 h4 hn hb yt qT=> ?_⟩
  ·simp only[Er,Re]
   refine OK.OE (fun G4=>ih.2 k 1 b h1 (by omega) (by omega) (by omega) (by omega) (by omega) yt qT) (fun uN=> ?_);exact OK.some hi ⟨⟨yt,h6.1⟩,by show b.length≤300;omega,by show l6.length≤300;omega,qT,h6.2.2⟩
  ·simp only[Ex,RU]
   refine OK.OE (fun G4=> ?_) (fun uN=> ?_)
   ·refine OK.pure (F4 (by omega) (by omega)) ?_
    dsimp only;refine OK.ite (by rw[An];omega) ?_
    rw[AH (by omega) (by omega),show((j:Int)+1)=((j+1:Nat):Int)by omega];have hp:=Gv (JM (e:=(k:Int)) (o:=(j:Int)) (by omega) (by omega)).1;refine ih.2 k (j+1) _ h1 h2 (by omega) (by omega) (by omega) (by simp;omega) (fun e he=> ?_) (fun e he=> ?_)
    ·rcases AOk.1 he with he|he
     ·exact yt e he
     ·rw[ARu.1 he];exact hp
    ·rcases AOk.1 he with he|he
     ·exact qT e he
     ·rw[ARu.1 he];show 0≤41;omega
   ·rw[AH (by omega) (by omega),show((k:Int)+1)=((k+1:Nat):Int)by omega]
    exact ih.1 (k+1) b (by omega) (by omega) (by omega) (by omega) yt qT
theorem AAr{x2 x3:List AK}{z:Int}{T:Int}(hT:T≤100):∀(n k:Nat) (i hh:Int) (s:AQ),CH code i→(k:Int)≤max T 0→(T-k).toNat+400≤n→cI s→
  OK code StQ (EP n T k code i hh z x2 x3 s.2.2.1 s.1 s.2.1):=by
 intro n
 induction n with
 |zero=>intro k i hh s _ _ h;omega
 |succ n ih=>
  intro k i hh s hi hk hn hs;have hsw:=hs.w;simp only[EP,Sg];refine OK.OE (fun G4=> ?_) (fun uN=> ?_)
  ·rw[AH (x:=(k:Int)+1) (by omega) (by omega),show((k:Int)+1)=((k+1:Nat):Int)by omega]
   have next:∀(i hh:Int) (s:AQ),CH code i→cI s→OK code StQ (EP n T ((k+1:Nat):Int) code i hh z x2 x3 s.2.2.1 s.1 s.2.1):=fun i hh s hi hs=>ih (k+1) i hh s hi (by omega) (by omega) hs
   refine OK.bind (lz hc hi) fun x i1 h1 y J_ hq=> ?_
   dsimp only at*;rw[show(s.1,s.2.1,s.2.2.1,())=s from rfl,show(x.1.1,x.1.2.1,x.1.2.2.1,x.1.2.2.2.1,())=x.1 from rfl];refine OK.pure (UU (by omega) hs.sin hq.1) ?_
   dsimp only[ia];have AE8:cI (HM s x.1).1:=by
    rcases AM0 (HM s x.1).2 with h2|h2
    ·exact(eX h2).1
    ·unfold HM at h2⊢
     rw[DO.2 hs]at h2⊢;simp only[ANZ,ANw,AQS]at h2⊢;split at h2
     ·cases h2
     ·rename_i hn;rw[AM2 hn];exact hs
   have Acw:=AE8.w;have AL_:∀s:AQ,cI s→(Be s).2=true→cI (Be s).1:=fun s hs h2=>(Nn h2).2.1
   refine OK.bind (Bz hc J_ (by omega)) fun x2' i2 h2 y2 Hq rb=> ?_
   dsimp only at*;refine OK.Fh (fun _=> ?_) (fun _=> ?_)
   ·refine OK.pure (OP (by omega) hs.sin) ?_
    dsimp only[ia];exact OK.cond (fun hb=>next _ _ _ Hq (AL_ s hs hb)) (fun _=>next _ _ _ Hq hs)
   refine OK.Fh (fun _=> ?_) (fun _=> ?_)
   ·refine OK.pure (OP (s:=(HM s x.1).1) (by omega) AE8.sin) ?_
    dsimp only[ia];exact OK.cond (fun hb=>next _ _ _ Hq (AL_ _ AE8 hb)) (fun _=>next _ _ _ Hq hs)
   refine OK.Fh (fun _=> ?_) (fun _=> ?_)
   ·refine OK.bind (M4 hc Hq (by omega)) fun x3 i3 h3 y3 KX Vv=> ?_
    dsimp only;refine OK.cond (fun _=> ?_) (fun _=> ?_)
    ·refine OK.bind (Bz hc KX (by omega)) fun x4 i4 h4 y4 vA hq4=> ?_
     dsimp only at*;refine OK.pure (ZP (by omega) hs.sin) ?_
     dsimp only[ia];exact OK.cond (fun hb=>next _ _ _ vA (oJ hs)) (fun _=>next _ _ _ vA hs)
    ·exact OK.cond (fun hb=>next _ _ _ KX AE8) (fun _=>next _ _ _ KX hs)
   ·exact OK.cond (fun hb=>next _ _ _ Hq AE8) (fun _=>next _ _ _ Hq hs)
  ·refine OK.bind (M4 hc hi (by omega)) fun x3 i3 h3 y3 KX Vv=> ?_
   dsimp only;have hq:=AOu hc hs;refine OK.cond (fun _=> ?_) (fun _=>OK.some KX ⟨hq.1,by have:=hq.2.1;show s.1.length≤300;omega,by have:=hq.2.2.1;show s.2.1.length≤300;omega,hq.2.2.2.1,hq.2.2.2.2⟩);exact(yw hc KX ⟨hq.1.2,hq.2.2.1,hq.2.2.2.2⟩ n).1 1 [] (by omega) (by omega) (by omega) (by simp) (fun e he=>by simp at he) (fun e he=>by simp at he)
theorem pr{i hh:Int}(hi:CH code i):OK code StQ (GO code i hh):=by
 unfold GO TU;refine OK.bind (Bz hc hi (by omega)) fun x2' i2 h2 y2 Hq rb=> ?_
 dsimp only at*;exact AAr hc (T:=x2'.1) (by omega) AX 0 i2 h2 EF Hq (by omega) (ATE (AZ (by omega))) cI.nil
abbrev AWy:AES→((List AK)×(List AK)×Unit)→Prop:=fun x y=>jc (y.1,y.2.1,x.1.2.2.1,())∧Aj (y.1,y.2.1,x.1.2.2.1,())≤40000
theorem jy{s:AQ}(h1:jc s)(h2:s.1.length≤310)(h3:s.2.1.length≤330)(h4:∀e∈s.1,Ag e≤41)(h5:∀e∈s.2.1,Ag e≤41):jc s∧Aj s≤40000:=by
 have a:=Dp (f:=Ag) (B:=41) h2 h4;have b:=Dp (f:=Ag) (B:=41) h3 h5;refine⟨h1,?_⟩;unfold Aj;omega
theorem AAk{x2 x3:List AK}{z sl:Int}{l5:List AK}(h5:fl l5∧l5.length≤300∧ ∀e∈l5,Ag e≤41):∀(n:Nat) (i hh:Int) (b:List AK),CH code i→330-b.length<n→b.length≤310→fl b→(∀e∈b,Ag e≤41)→
  OK code AWy (NK n code i hh z x2 x3 sl l5 b):=by
 intro n
 induction n with
 |zero=>intro i hh b _ h;omega
 |succ n ih=>
  intro i hh b hi hn hb yt qT;simp only[NK,YG];refine OK.bind (Bz hc hi (by omega)) fun x i2 h2 y2 Hq rb=> ?_
  dsimp only at*;rw[AH (by omega) (by omega)];refine OK.OE (fun G4=> ?_) (fun _=>OK.some Hq (jy hc ⟨h5.1,yt⟩ (by show l5.length≤_;omega) (by show b.length≤_;omega) h5.2.2 qT));refine OK.pure (F4 (by omega) (by omega)) ?_
  dsimp only;refine OK.ite (by rw[An];omega) ?_
  have hp:=Gv (JM (e:=5) (o:=1) (by omega) (by omega)).1;refine ih i2 h2 _ Hq (by simp;omega) (by simp;omega) (fun e he=> ?_) (fun e he=> ?_)
  ·rcases AOk.1 he with he|he
   ·exact yt e he
   ·rw[ARu.1 he];exact hp
  ·rcases AOk.1 he with he|he
   ·exact qT e he
   ·rw[ARu.1 he];show 0≤41;omega
theorem ABk{i hh:Int}(hi:CH code i):OK code AWy (Vj code i hh):=by
 unfold Vj Yt;refine OK.bind (pr hc hi) fun x i1 h1 y J_ hq=> ?_
 dsimp only at*;obtain⟨q1,q2,q3,q4,q5⟩:=hq;have base:jc (y.1,y.2.1,x.1.2.2.1,())∧Aj (y.1,y.2.1,x.1.2.2.1,())≤40000:=jy hc q1 (by show y.1.length≤_;omega) (by show y.2.1.length≤_;omega) q4 q5;have add:∀{l:List AK} {e:AK},(∀x∈l,Ag x≤41)→Ag e≤41→ ∀x∈l++[e],Ag x≤41:=fun h1 h2 x hx=>by
  rcases AOk.1 hx with hx|hx
  ·exact h1 x hx
  ·rw[ARu.1 hx];exact h2
 have AT_:∀{l:List AK} {e:AK},fl l→CR e.1→fl (l++[e]):=fun h1 h2 x hx=>by
  rcases AOk.1 hx with hx|hx
  ·exact h1 x hx
  ·rw[ARu.1 hx];exact h2
 refine OK.bind (Bz hc J_ (by omega)) fun x2 i2 h2 y2 Hq rb=> ?_
 dsimp only at*;refine OK.Fh (fun _=> ?_) (fun _=> ?_)
 ·refine OK.bind (Q_ hc Hq (by simp) (by simp)) fun x3 i3 h3 y3 KX Vv=> ?_
  exact OK.some KX base
 refine OK.Fh (fun _=> ?_) (fun _=> ?_)
 ·refine OK.bind (iJ hc Hq) fun x3 i3 h3 y3 KX Vv=> ?_
  dsimp only;refine OK.ite (by rw[An];omega) ?_
  exact OK.some KX (jy hc ⟨AT_ q1.1 Vv.1,q1.2⟩ (by show(y.1++[_]).length≤_;simp;omega) (by show y.2.1.length≤_;omega) (add q4 Vv.2) q5)
 refine OK.Fh (fun _=> ?_) (fun _=> ?_)
 ·refine OK.bind (iJ hc Hq) fun x3 i3 h3 y3 KX Vv=> ?_
  dsimp only;refine OK.ite (by rw[An];omega) ?_
  exact OK.some KX (jy hc ⟨q1.1,AT_ q1.2 Vv.1⟩ (by show y.1.length≤_;omega) (by show(y.2.1++[_]).length≤_;simp;omega) q4 (add q5 Vv.2))
 refine OK.Fh (fun _=> ?_) (fun _=>OK.some Hq base);exact AAk hc ⟨q1.1,q2,q4⟩ AX i2 h2 y.2.1 Hq (AZ (by omega)) (by omega) q1.2 q5
end
end Go.M
end
section
set_option maxRecDepth 8000
namespace Go.M
open Go.M.H (AK AQ A0 Ai AA Cq AO A8 AR Ak Bd A9 BK Aj CB AU AW Ab Ag Bg Ax Ao Au EB CL Cy C_)
theorem ix{α:Type}{f:α→Nat}{x:α}:∀{l:List α} {i:Nat},AU f (l.set i x)≤AU f l+f x
 |[],i=>by simp[AU]
 |y::l,0=>by simp only[AUE,AU];omega
 |y::l,i+1=>by
  have:=ix (f:=f) (x:=x) (l:=l) (i:=i);simp only[List.set_cons_succ,AU];omega
abbrev AVl:ACc→((List Cq)×Unit)→Prop:=fun x y=>AU Bg y.1≤300000∧CR x.1.2.1
def qd(c:CE)(r:AO):Prop:=zO c r∨r=([],0,())
theorem qd.w{c:CE}{r:AO}(h:qd c r):AU Bg r.1≤270:=by
 rcases h with h|rfl
 ·exact h.w
 ·show 0≤270;omega
theorem qd.n{c:CE}{r:AO}(h:qd c r):r.1.length≤30:=by
 rcases h with h|rfl
 ·exact h.n
 ·show 0≤30;omega
theorem qd.tin{c:CE}{r:AO}(h:qd c r):CR r.2.1:=by
 rcases h with h|rfl
 ·exact h.tin
 ·exact ON (by show-1000≤(0:Int)∧(0:Int)≤1000;omega)
section
variable{code:AAD} (hc:code.length≤2^30) {c:CE} (Zi:c.1.length≤2^10)
include hc Zi
theorem y_{z:Int}{x3:List Cq}:∀(n k:Nat) (i hh:Int) (r:AO),CH code i→k≤7→7-k<n→qd c r→
  OK code (fun(x:ACc) (y:List Cq×Unit)=>qd c (y.1,x.1.2.1,())) (G1 n k code i hh c.1 c.2.1 z x3 r.2.1 r.1):=by
 intro n
 induction n with
 |zero=>intro k i hh r _ _ h;omega
 |succ n ih=>
  intro k i hh r hi hk hn hr;have hrw:=hr.w;have hrt:=hr.tin;simp only[G1,SI];refine OK.bind (Bz hc hi (by omega)) fun x i1 h1 y J_ hq=> ?_
  dsimp only at*;refine OK.OE (fun G4=> ?_) (fun _=>OK.some J_ hr);rw[AH (x:=(k:Int)+1) (by omega) (by omega),show((k:Int)+1)=((k+1:Nat):Int)by omega];have next:∀(i hh:Int) (r:AO),CH code i→qd c r→OK code (fun(x:ACc) (y:List Cq×Unit)=>qd c (y.1,x.1.2.1,())) (G1 n ((k+1:Nat):Int) code i hh c.1 c.2.1 z x3 r.2.1 r.1):=fun i hh r hi hr=>ih (k+1) i hh r hi (by omega) (by omega) hr
  rw[show(c.1,c.2.1,())=c from rfl,show(r.1,r.2.1,())=r from rfl];refine OK.bind (gY hc (by omega) J_) fun x2 i2 h2 y2 Hq rb=> ?_
  dsimp only at*;refine OK.pure (dI (by omega) (by omega) hrt (by omega)) ?_
  dsimp only;refine OK.bind (Bz hc Hq (by omega)) fun x3 i3 h3 y3 KX Vv=> ?_
  dsimp only at*;refine OK.Fh (fun _=> ?_) (fun _=> ?_)
  ·refine OK.bind (Bz hc KX (by omega)) fun x4 i4 h4 y4 vA hq4=> ?_
   dsimp only at*;refine OK.pure (bL (by omega) (by omega) hrt) ?_
   dsimp only[pkR];exact OK.cond (fun hb=>next _ _ (NI c r _ _).1 vA (.inl (l3 hb).2.1)) (fun _=>next _ _ r vA hr)
  refine OK.Fh (fun _=> ?_) (fun _=> ?_)
  ·refine OK.bind (Bz hc KX (by omega)) fun x4 i4 h4 y4 vA hq4=> ?_
   dsimp only at*;refine OK.bind (Bz hc vA (by omega)) fun x5 i5 h5 y5 hi5 hq5=> ?_
   dsimp only at*;rw[AH (by omega) (by omega),AH (x:=1+x5.1) (by omega) (by omega)];refine OK.pure (F4 (by omega) (by omega)) ?_
   dsimp only;have hp:=Gv (JM (e:=1+x4.1) (o:=1+x5.1) (by omega) (by omega)).1;refine OK.pure (dB (by omega) (by omega) hrt hp) ?_
   dsimp only[pkR];exact OK.cond (fun hb=>next _ _ (OW c r _).1 hi5 (.inl (pf hb).2.1)) (fun _=>next _ _ r hi5 hr)
  ·exact OK.cond (fun hb=>next _ _ (I4 c r _).1 KX (.inl (ot hb).2.1)) (fun _=>next _ _ r KX hr)
theorem vu{i hh:Int}(hi:CH code i):OK code (fun(x:ACc) (y:List Cq×Unit)=>qd c (y.1,x.1.2.1,())) (Po c code i hh):=by
 unfold Po Sq;exact y_ hc Zi AX 0 i hh ([],0,()) hi (by omega) (AZ (by omega)) (.inr rfl)
omit Zi in
theorem yf{ns:AAD}(hns:ns.length≤2^13){z t:Int}{x2:List Cq}(ht:CR t):∀(n:Nat) (i hh:Int) (b:List Cq),CH code i→40-b.length<n→b.length≤31→AU Bg b≤300+b.length*(2^13+1)→
  OK code AVl (NY n ns code i hh z x2 t b):=by
 intro n
 induction n with
 |zero=>intro i hh b _ h;omega
 |succ n ih=>
  intro i hh b hi hn hb hw;simp only[NY,Xx];refine OK.bind (Bz hc hi (by omega)) fun x i1 h1 y J_ hq=> ?_
  dsimp only at*;rw[AH (by omega) (by omega)];refine OK.OE (fun G4=> ?_) (fun _=>OK.some J_ ⟨by show AU Bg b≤_;omega,ht⟩);refine OK.ite (by rw[An];omega) ?_
  refine ih i1 h1 _ J_ (by simp;omega) (by simp;omega) ?_
  have:Bg (ns,false,0,())=ns.length:=rfl;rw[JI];simp only[AU,AOq,AOX,AQl];omega
theorem yq{i hh:Int}(hi:CH code i):OK code AVl (VF c code i hh):=by
 unfold VF ZF;rw[show(c.1,c.2.1,())=c from rfl];refine OK.bind (vu hc Zi hi) fun x i1 h1 y J_ hq=> ?_
 dsimp only at*;have hrw:AU Bg y.1≤270:=hq.w;have hrn:y.1.length≤30:=hq.n;have hrt:CR x.1.2.1:=hq.tin;have Va:∀{i:Nat} {e:Cq},Bg e≤2^13→AU Bg (y.1.set i e)≤300000:=fun he=>by
  have:=ix (f:=Bg) (x:= ‹Cq›) (l:=y.1) (i:= ‹Nat›);omega
 have wD:∀i,i<y.1.length→Bg (y.1.getD i ([],false,0,()))≤270:=fun i hi=>by
  have:=Ab (f:=Bg) (BU (d:=G3) hi);have h2:Bg (y.1.getD i G3)≤270:=by omega
  exact h2
 have base:AU Bg y.1≤300000∧CR x.1.2.1:=⟨by omega,hrt⟩;refine OK.bind (Bz hc J_ (by omega)) fun x2 i2 h2 y2 Hq rb=> ?_
 dsimp only at*;refine OK.Fh (fun _=> ?_) (fun _=> ?_)
 ·refine OK.bind (XH hc Hq) fun x3 i3 h3 y3 KX Vv=> ?_
  exact OK.some KX ⟨by show AU Bg y.1≤_;omega,Vv⟩
 refine OK.Fh (fun _=> ?_) (fun _=> ?_)
 ·refine OK.OE (fun G4=> ?_) (fun _=>OK.some Hq base)
  rw[AH (by omega) (by omega)];refine OK.ite (by omega) ?_
  refine OK.some Hq ⟨Va ?_,hrt⟩;have:=wD ((y.1.length:Int)-1).toNat (by omega);have h3:Bg ((y.1.getD ((y.1.length:Int)-1).toNat ([],false,0,())).1,true,(y.1.getD ((y.1.length:Int)-1).toNat ([],false,0,())).2.2.1,())=Bg (y.1.getD ((y.1.length:Int)-1).toNat ([],false,0,())):=rfl;rw[h3];omega
 refine OK.Fh (fun _=> ?_) (fun _=> ?_)
 ·refine OK.OE (fun G4=> ?_) (fun _=>OK.some Hq base)
  refine OK.bind (Q_ hc Hq (by simp) (by simp)) fun x3 i3 h3 y3 KX Vv=> ?_
  dsimp only;refine OK.ite (by omega) ?_
  refine OK.some KX ⟨Va ?_,hrt⟩;have:=wD 0 (by omega);have h4:Bg ((y.1.getD 0 ([],false,0,())).1,(y.1.getD 0 ([],false,0,())).2.1,x3.1,())=Bg (y.1.getD 0 ([],false,0,())):=rfl;rw[h4];omega
 refine OK.Fh (fun _=> ?_) (fun _=> ?_)
 ·refine OK.OE (fun G4=> ?_) (fun _=>OK.some Hq base)
  refine OK.bind (S5 hc (by omega) Hq) fun x3 i3 h3 y3 KX Vv=> ?_
  dsimp only;refine OK.ite (by omega) ?_
  refine OK.some KX ⟨Va ?_,hrt⟩
  show y3.1.length≤_
  omega
 refine OK.Fh (fun _=> ?_) (fun _=>OK.some Hq base);refine OK.bind (gY hc (by omega) Hq) fun x3 i3 h3 y3 KX Vv=> ?_
 dsimp only;exact yf hc Vv hrt AX i3 h3 y.1 KX (AZ (by omega)) (by omega) (by omega)
end
section
variable{code:AAD} (hc:code.length≤2^30) {c:CE} (hcf:F6 c=true)
include hc hcf
theorem AEm{l:AAD}(hl:l.length≤100){m:A0}(hm:m.2.2.1.length≤100):∃l',M6 c m=some (((),()),(l',()))∧l'.length≤1000:=by
 have Zi:=(Dl hcf).2.1;have key:∀(n k:Nat) (b:AAD),k≤c.1.length→c.1.length-k<n→b.length≤100+k→ ∃l',NJ n k c.1 c.2.1 b=some (((),()),(l',()))∧l'.length≤1000:=by
  intro n
  induction n with
  |zero=>intro k b _ h;omega
  |succ n ih=>
   intro k b hk hn hb;simp only[NJ,X1,AB,As];by_cases G4:(k:Int)<(c.1.length:Int)
   ·rw[AM1 G4,show(c.1,c.2.1,())=c from rfl,DZ (by omega) (by omega),LF (by omega)]
    simp only[AD];rw[AH (by omega) (by omega),show((k:Int)+1)=((k+1:Nat):Int)by omega];have:=TQ (n:=(k:Int)) (l:=b);obtain⟨l',e,h'⟩:=ih (k+1) (N4 (k:Int) b) (by omega) (by omega) (by omega);rw[e];cases holds c b with
    |true=>exact⟨b,rfl,by omega⟩
    |false=>exact⟨l',rfl,h'⟩
   ·rw[AM2 G4]
    exact⟨b,rfl,by omega⟩
 unfold M6 Xj;rw[AM1 (by rw[An];omega)];exact key AX 0 m.2.2.1 (by omega) (AZ (by omega)) (by omega)
theorem vO{m:A0}{o n:Int}(h:(Sm c m o n).2=true):kF c (Sm c m o n).1:=by
 unfold Sm at*;rcases AM0 (GV c m)with hm|hm
 rotate_left
 ·rw[hm]at h;cases h
 rw[hm]at h⊢;simp only[ANZ,ANw,AQS]at h⊢;split at h
 ·rename_i hq
  rw[AM1 hq];have Yi:=Gg.1 hm;rw[ANN,Am,Am]at hq;refine⟨Yi.cfg,Yi.ep,Yi.b,Yi.sld,Yi.u_,Yi.seen,fun l hl=> ?_,by simp only[ASx];exact Yi.n⟩;rcases ASk hl with hl|rfl
  ·exact Yi.wrote l hl
  ·exact Ks (Yi.wrote _ (BU (by omega))) (by omega)
 ·cases h
abbrev ADC(x:AD4)(y:List Int×(List AK)×List AAD×Unit):A0:=(x.1.1,x.1.2.1,y.1,y.2.1,x.1.2.2.2.2.1,y.2.2.1,())
theorem l_{z1 z2:Int}{z3:Bool}{x3:AAD}{x4:List AK}{x5:List AAD}:∀(n k:Nat) (i hh:Int) (m:A0),CH code i→k≤9→9-k<n→kF c m→
  OK code (fun x y=>kF c (ADC x y)) (BQ n k code i hh c.1 c.2.1 z1 z2 z3 x3 x4 x5 m.1 m.2.1 m.2.2.2.2.1 m.2.2.1 m.2.2.2.1 m.2.2.2.2.2.1):=by
 have Zi:=(Dl hcf).2.1;intro n
 induction n with
 |zero=>intro k i hh m _ _ h;omega
 |succ n ih=>
  intro k i hh m hi hk hn hm;have yA:=hm.w;have Aa6:=(Hf (m:=m) (by omega)).2.2.1;simp only[BQ,L7];refine OK.bind (Bz hc hi (by omega)) fun x i1 h1 y J_ hq=> ?_
  dsimp only at*;refine OK.OE (fun G4=> ?_) (fun _=>OK.some J_ hm);rw[AH (x:=(k:Int)+1) (by omega) (by omega),show((k:Int)+1)=((k+1:Nat):Int)by omega];refine OK.pure JF ?_
  dsimp only;refine OK.bind (Bz hc J_ (by omega)) fun x2 i2 h2 y2 Hq rb=> ?_
  dsimp only at*;refine OK.bind (Bz hc Hq (by omega)) fun x3 i3 h3 y3 KX Vv=> ?_
  dsimp only at*;rw[show(c.1,c.2.1,())=c from rfl,show(m.1,m.2.1,m.2.2.1,m.2.2.2.1,m.2.2.2.2.1,m.2.2.2.2.2.1,())=m from rfl];refine OK.pure (cX (by omega) (by omega) hm.xM) ?_
  dsimp only[gF];exact OK.cond (fun hb=>ih (k+1) _ _ _ KX (by omega) (by omega) (vO hc hcf hb)) (fun _=>ih (k+1) _ _ m KX (by omega) (by omega) hm)
theorem yE{T:Int}(hT:T≤100){z1 z2:Int}{z3:Bool}{x3:AAD}{x4:List AK}{x5:List AAD}:∀(n k:Nat) (i hh:Int) (m:A0),CH code i→(k:Int)≤max T 0→(T-k).toNat+20≤n→kF c m→
  OK code (fun x y=>kF c (ADC x y)) (B6 n T k code i hh c.1 c.2.1 z1 z2 z3 x3 x4 x5 m.1 m.2.1 m.2.2.2.2.1 m.2.2.1 m.2.2.2.1 m.2.2.2.2.2.1):=by
 have Zi:=(Dl hcf).2.1;intro n
 induction n with
 |zero=>intro k i hh m _ _ h;omega
 |succ n ih=>
  intro k i hh m hi hk hn hm;have yA:=hm.w;have Aa6:=Hf (m:=m) (by omega);have hsl:=GI hm.sld;simp only[B6,M_];rw[show(c.1,c.2.1,())=c from rfl,show(m.1,m.2.1,m.2.2.1,m.2.2.2.1,m.2.2.2.2.1,m.2.2.2.2.2.1,())=m from rfl];refine OK.OE (fun G4=> ?_) (fun _=> ?_)
  ·rw[AH (x:=(k:Int)+1) (by omega) (by omega),show((k:Int)+1)=((k+1:Nat):Int)by omega]
   refine OK.bind (Bz hc hi (by omega)) fun x i1 h1 y J_ hq=> ?_
   dsimp only at*;refine OK.bind (pr hc J_) fun x2 i2 h2 y2 Hq rb=> ?_
   dsimp only at*;obtain⟨q1,q2,q3,q4,q5⟩:=rb;have sq:=jy hc (s:=(y2.1,y2.2.1,x2.1.2.2.1,())) q1 (by show y2.1.length≤_;omega) (by show y2.2.1.length≤_;omega) q4 q5;refine OK.pure (an (s:=(y2.1,y2.2.1,x2.1.2.2.1,())) (by omega) q1) ?_
   dsimp only;have hes:(Gf (y2.1,y2.2.1,x2.1.2.2.1,()) m.2.1).length≤300∧fl (Gf (y2.1,y2.2.1,x2.1.2.2.1,()) m.2.1)∧AU Ag (Gf (y2.1,y2.2.1,x2.1.2.2.1,()) m.2.1)≤40000:=by
    unfold Gf;split
    ·refine⟨ASY (ASZ _ _) q2,fun e he=>q1.1 e (ATi.1 he).1,ASY fO ?_⟩
     have h2:=sq.2;unfold Aj at h2;dsimp only at h2⊢;omega
    ·exact⟨by simp,fun e he=>(by simp at he),by simp[AU]⟩
   refine OK.pure (bF (by omega) (by omega) hm.xM (by omega) hes.2.1 (by omega)) ?_
   dsimp only[gF];exact OK.cond (fun hb=>ih (k+1) _ _ _ Hq (by omega) (by omega) (mA hb).2.1) (fun _=>ih (k+1) _ _ m Hq (by omega) (by omega) hm)
  ·refine OK.bind (M4 hc hi (by omega)) fun x i1 h1 y J_ hq=> ?_
   dsimp only;refine OK.cond (fun _=>OK.some J_ hm) (fun _=> ?_);obtain⟨l',e,iV⟩:=AEm hc hcf (l:=[]) (by simp) (m:=m) (by omega);refine OK.pure e ?_
   dsimp only;refine OK.pure (aq (by omega) (by omega) hm.xM (by omega)) ?_
   dsimp only[gF];exact OK.cond (fun hb=>l_ hc hcf n 0 i1 h1 _ J_ (by omega) (by omega) (mG hb).2.1) (fun _=>l_ hc hcf n 0 i1 h1 m J_ (by omega) (by omega) hm)
theorem vV{i hh:Int}(hi:CH code i):OK code (fun x y=>kF c (ADC x y)) (MT c code i hh):=by
 unfold MT Ml;refine OK.bind (Bz hc hi (by omega)) fun x i1 h1 y J_ hq=> ?_
 dsimp only at*;rw[AH (by omega) (by omega)];unfold ND;simp only[AD];refine OK.bind (Bz hc J_ (by omega)) fun x2 i2 h2 y2 Hq rb=> ?_
 dsimp only at*;exact yE hc hcf (T:=x2.1) (by omega) AX 0 i2 h2 (4,1+x.1,[],[],false,[],()) Hq (by omega) (ATE (AZ (by omega))) ⟨hcf,by show 1≤1+x.1∧1+x.1≤30;omega,by show 1+x.1+1≤4∧(4:Int)≤30;omega,Zg hcf,List.Pairwise.nil,fun e he=>(by cases he),fun l hl=>(by cases hl),rfl⟩
abbrev ATf:AH5×Unit→List Int×(List AK)×List AAD×Unit→Prop:=fun x y=>CB (ADC x y)≤20000∧fl y.2.1
theorem yC{i hh:Int}(hi:CH code i):OK code ATf (Vu c code i hh):=by
 have Zi:=(Dl hcf).2.1;unfold Vu;rw[show(c.1,c.2.1,())=c from rfl];refine OK.bind (vV hc hcf hi) fun x i1 h1 y J_ hq=> ?_
 dsimp only at*;have hw:=hq.w;have he:fl y.2.1:=hq.xM;have hu:CB (ADC x y)=y.1.length+AU Ag y.2.1+AU C_ y.2.2.1:=rfl;have hl1:=AW (f:=C_) (l:=y.2.2.1);have vE:=AW (f:=Ag) (l:=y.2.1);have mk:∀{x':AD4} {a:AAD} {b:List AK} {d:List AAD},a.length+AU Ag b+AU C_ d≤20000→fl b→ATf x' (a,b,d,()):=fun h1 h2=>⟨h1,h2⟩
 refine OK.bind (Bz hc J_ (by omega)) fun x2 i2 h2 y2 Hq rb=> ?_
 dsimp only at*;refine OK.Fh (fun _=> ?_) (fun _=> ?_)
 ·refine OK.bind (Q_ hc Hq (by simp) (by simp)) fun x3 i3 h3 y3 KX Vv=> ?_
  exact OK.some KX (mk (by omega) he)
 refine OK.Fh (fun _=>OK.some Hq (mk (by omega) he)) (fun _=> ?_);refine OK.Fh (fun _=> ?_) (fun _=> ?_)
 ·refine OK.bind (S5 hc (by omega) Hq) fun x3 i3 h3 y3 KX Vv=> ?_
  dsimp only;refine OK.ite (by rw[An];omega) ?_
  refine OK.some KX (mk ?_ he);rw[JI];have:C_ y3.1=y3.1.length:=rfl;simp only[AU];omega
 refine OK.Fh (fun _=> ?_) (fun _=> ?_)
 ·refine OK.bind (iJ hc Hq) fun x3 i3 h3 y3 KX Vv=> ?_
  dsimp only;refine OK.ite (by rw[An];omega) ?_
  refine OK.some KX (mk ?_ (fun e he' => ?_))
  ·rw[JI]
   have:Ag (x3.1.1,x3.1.2.1,x3.1.2.2.1,x3.1.2.2.2.1,())=x3.1.2.2.2.1.length:=rfl;simp only[AU];have:=Vv.2;omega
  ·rcases AOk.1 he' with he'|he'
   ·exact he e he'
   ·rw[ARu.1 he'];exact Vv.1
 refine OK.Fh (fun _=> ?_) (fun _=>OK.some Hq (mk (by omega) he));refine OK.bind (S5 hc (by omega) Hq) fun x3 i3 h3 y3 KX Vv=> ?_
 dsimp only at*;exact OK.some KX (mk (by omega) he)
end
end Go.M
end
section
set_option maxRecDepth 8000
namespace Go.M
open Go.M.H (AK AQ A0 Ai AA Cq AO A8 AR Ak Bd A9 BK Aj CB AU AW Ab Ag Bg Ax Ao Au EB CL Cy C_)
abbrev ATN:AEg→((List Bd)×Unit)→Prop:=fun x y=>y.1.length≤130∧ ∀e∈y.1,CL e≤40∧CR e.2.1
section
variable{code:AAD} (hc:code.length≤2^30)
include hc
theorem ABu{z1 z2 e o:Int}{x3:List Bd}:∀(n k:Nat) (i hh:Int) (b:List Bd),CH code i→k≤4→4-k<n→b.length≤k→(∀e∈b,CL e≤40∧CR e.2.1)→
  OK code ATN (HO n k code i hh z1 z2 x3 e o b):=by
 intro n
 induction n with
 |zero=>intro k i hh b _ _ h;omega
 |succ n ih=>
  intro k i hh b hi hk hn hb qT;simp only[HO,Qe];refine OK.bind (Bz hc hi (by omega)) fun x i1 h1 y J_ hq=> ?_
  dsimp only at*;have base:b.length≤130∧ ∀e∈b,CL e≤40∧CR e.2.1:=⟨by omega,qT⟩;refine OK.OE (fun G4=> ?_) (fun _=> ?_)
  ·refine OK.bind (Bz hc J_ (by omega)) fun x2 i2 h2 y2 Hq rb=> ?_
   dsimp only at*;refine OK.bind (XH hc Hq) fun x3 i3 h3 y3 KX Vv=> ?_
   dsimp only;refine OK.ite (by rw[An];omega) ?_
   rw[AH (x:=(k:Int)+1) (by omega) (by omega),show((k:Int)+1)=((k+1:Nat):Int)by omega];refine ih (k+1) _ _ _ KX (by omega) (by omega) (by simp;omega) (fun e he=> ?_);rcases AOk.1 he with he|he
   ·exact qT e he
   ·rw[ARu.1 he];exact⟨by show 0≤40;omega,Vv⟩
  ·refine OK.bind (Bz hc J_ (by omega)) fun x2 i2 h2 y2 Hq rb=> ?_
   dsimp only at*;refine OK.Fh (fun _=> ?_) (fun _=> ?_)
   ·refine OK.bind (Q_ hc Hq (by simp) (by simp)) fun x3 i3 h3 y3 KX Vv=> ?_
    exact OK.some KX base
   refine OK.Fh (fun _=> ?_) (fun _=> ?_)
   ·refine OK.bind (Q_ hc Hq (by simp) (by simp)) fun x3 i3 h3 y3 KX Vv=> ?_
    exact OK.some KX base
   refine OK.Fh (fun _=> ?_) (fun _=>OK.some Hq base);refine OK.bind (Bz hc Hq (by omega)) fun x3 i3 h3 y3 KX Vv=> ?_
   dsimp only at*;rw[AH (by omega) (by omega)];refine OK.ite (by rw[An];omega) ?_
   refine OK.some KX ⟨by show(List.replicate _ _).length≤130;rw[AS8];omega,fun e he=> ?_⟩;rw[(List.mem_replicate.1 he).2];exact⟨by show 0≤40;omega,ON (by show-1000≤(0:Int)∧(0:Int)≤1000;omega)⟩
theorem yh{i hh:Int}(hi:CH code i):OK code ATN (Jq code i hh):=by
 unfold Jq QS;refine OK.bind (Bz hc hi (by omega)) fun x i1 h1 y J_ hq=> ?_
 dsimp only at*;refine OK.bind (Bz hc J_ (by omega)) fun x2 i2 h2 y2 Hq rb=> ?_
 exact ABu hc AX 0 _ _ [] Hq (by omega) (AZ (by omega)) (by simp) (fun e he=>by simp at he)
theorem AAl{c:CE}(Zi:c.1.length≤2^10){i hh:Int}(hi:CH code i):OK code (fun(x:AEd) (y:(List A8)×Unit)=>AU Ax y.1≤4000) (Oo c code i hh):=by
 obtain⟨w',i1,h1,e,hw,J_⟩:=AB2 hc (c:=c) (by omega) (h:=hh) hi;exact⟨_,i1,h1,_,e,J_,hw⟩
theorem yl{i hh:Int}(hi:CH code i):OK code (fun(x:ACc) (y:AAD×Unit)=>y.1.length≤9) (Ro code i hh):=by
 obtain⟨l,c',i1,h1,e,hl,J_⟩:=ABl hc (h:=hh) hi;exact⟨_,i1,h1,(l,()),e,J_,hl⟩
abbrev dwW(x:AE7)(y:List Int×(List AQ)×List Int×(List Cq)×(List AR)×(List A0)×(List Ak)×(List Ai)×Unit):AA:=
 (y.1,x.1.2.1,y.2.1,y.2.2.1,y.2.2.2.1,x.1.2.2.2.2.2.1,y.2.2.2.2.1,y.2.2.2.2.2.1,y.2.2.2.2.2.2.1,y.2.2.2.2.2.2.2.1,x.1.2.2.2.2.2.2.2.2.2.2.1,())
def AR7(w:AA):Prop:=(lF w∧aF w)∧Cy w≤730000∧AU Au w.2.2.2.2.2.2.2.2.1≤50000
omit hc in
theorem mkW{c:AAD}{m tr:Int}{st:List AQ}{lo:AAD}{er:List Cq}{wr:List AR}{md:List A0}{rd:List Ak}{se:List Ai}{to:Bool}
  (h1:c.length≤100) (h2:AU Aj st≤200000) (h3:lo.length≤5000) (h4:AU Bg er≤300000) (h5:AU Ao wr≤50000) (h6:AU CB md≤100000) (h7:AU Au rd≤50000) (h8:AU EB se≤20000)
  (k1:∀s∈st,jc s) (k2:CR tr) (k3:∀m∈md,fl m.2.2.2.1) (k4:∀s∈se,CR s.1) (k5:∀r∈rd,∀e∈r.2.2.1,CR e.2.1):AR7 (c,m,st,lo,er,tr,wr,md,rd,se,to,()):=
 ⟨⟨⟨by unfold Cy;dsimp only;omega,k1,k2,k3,k4⟩,k5⟩,by unfold Cy;dsimp only;omega,h7⟩
theorem uQ{i hh:Int}(hi:CH code i){p:AAD}(hp:p.length≤2^30):OK code (fun x y=>AR7 (dwW x y)) (IY p code i hh):=by
 unfold IY;dsimp only;have ADd:∃T,Mb p 40 90=some ((T,()),())∧0≤T∧T≤500:=by
  unfold Mb;dsimp only;have hd:(p.length:Int).tdiv 4=(p.length:Int)/4:=Int.tdiv_eq_ediv_of_nonneg (by omega);rw[hd,AH (x:=(p.length:Int)/4) (by omega) (by omega),AH (by omega) (by omega),AB];split
  ·exact⟨90,rfl,by omega⟩
  ·exact⟨_,rfl,by omega⟩
 obtain⟨T,hT,hT2⟩:=ADd;refine OK.pure hT ?_
 dsimp only;refine OK.bind (xW hc hT2 hi) fun x i1 h1 y J_ hq=> ?_
 dsimp only;obtain⟨hw,hr,hv⟩:=hq
 generalize hgw:fh x y=w at hw hr hv
 have k:=hw.nums;have e0:y.2.2.2.2.2.2.2.2.2.1=w.1:=by rw[←hgw];rfl
 have e1:y.2.2.2.2.2.2.2.2.2.2.1=w.2.2.1:=by rw[←hgw];rfl
 have e2:y.2.2.2.2.2.2.2.2.2.2.2.1=w.2.2.2.1:=by rw[←hgw];rfl
 have e3:y.2.2.2.2.2.2.2.2.2.2.2.2.1=w.2.2.2.2.1:=by rw[←hgw];rfl
 have e4:y.2.2.2.2.2.2.2.2.2.2.2.2.2.1=w.2.2.2.2.2.2.1:=by rw[←hgw];rfl
 have e5:y.2.2.2.2.2.2.2.2.2.2.2.2.2.2.1=w.2.2.2.2.2.2.2.1:=by rw[←hgw];rfl
 have e6:y.2.2.2.2.2.2.2.2.2.2.2.2.2.2.2.1=w.2.2.2.2.2.2.2.2.1:=by rw[←hgw];rfl
 have e7:y.2.2.2.2.2.2.2.2.2.2.2.2.2.2.2.2.1=w.2.2.2.2.2.2.2.2.2.1:=by rw[←hgw];rfl
 have e8:x.1.2.2.1.2.1=w.2.1:=by rw[←hgw];rfl
 have e9:x.1.2.2.1.2.2.2.2.2.1=w.2.2.2.2.2.1:=by rw[←hgw];rfl
 have e10:x.1.2.2.1.2.2.2.2.2.2.2.2.2.2.1=w.2.2.2.2.2.2.2.2.2.2.1:=by rw[←hgw];rfl
 rw[e0,e1,e2,e3,e4,e5,e6,e7,e8,e9,e10];have QM:=hw.win hr;have k1:=k.c;have k2:=k.ws;have k3:=k.lost;have k4:=k.era;have k5:=k.ww;have k9:=k.st;have k10:=k.rd;have k6:AU CB w.2.2.2.2.2.2.2.1≤5001:=by
  have:=Dp (f:=CB) (B:=5000) hw.vI fun x hx=>(hw.CI x hx).1.w
  exact this
 have k7:AU Au w.2.2.2.2.2.2.2.2.1≤10002:=by
  have:=Dp (f:=Au) (B:=5000) (N:=2) (l:=w.Ac) (by rw[hw.nN];omega) fun r hx=>by
   have:=Dp (f:=CL) (B:=40) (hw.Ac r hx).n (hr r hx);unfold Au;omega
  exact this
 have k8:AU EB w.2.2.2.2.2.2.2.2.2.1≤4920:=by
  have:=Dp (f:=EB) (B:=40) hw.Rp fun s hs=>(hw.Al s hs).2.2
  exact this
 have j1:=QM.BE;have j2:=QM.trim;have j3:=QM.CI;have j4:=QM.AFs;have hc1:=(Dl hw.cfg).1;have Ad4:1≤w.1.length:=hc1;refine OK.bind (Bz hc J_ (by omega)) fun x2 i2 h2 y2 Hq rb=> ?_
 dsimp only at*;have base:∀{to:Bool},AR7 (w.1,w.2.1,w.2.2.1,w.2.2.2.1,w.2.2.2.2.1,w.2.2.2.2.2.1,w.2.2.2.2.2.2.1,w.2.2.2.2.2.2.2.1,w.2.2.2.2.2.2.2.2.1,w.2.2.2.2.2.2.2.2.2.1,to,()):=mkW (by omega) (by omega) (by omega) (by omega) (by omega) (by omega) (by omega) (by omega) j1 j2 j3 j4 hv;refine OK.Fh (fun _=> ?_) (fun _=> ?_)
 ·refine OK.bind (S5 hc (c:=(w.1,w.2.1,())) (by show w.1.length≤_;omega) Hq) fun x3 i3 h3 y3 KX Vv=> ?_
  dsimp only at*;refine OK.some KX ?_
  dsimp only[dwW];exact mkW (by omega) (by omega) (by omega) (by omega) (by omega) (by omega) (by omega) (by omega) j1 j2 j3 j4 hv
 refine OK.Fh (fun _=> ?_) (fun _=> ?_)
 ·refine OK.bind (ABk hc Hq) fun x3 i3 h3 y3 KX Vv=> ?_
  dsimp only at*;refine OK.ite (by omega) ?_
  have:=ix (f:=Aj) (x:=(y3.1,y3.2.1,x3.1.2.2.1,())) (l:=w.2.2.1) (i:=0);refine OK.some KX ?_
  dsimp only[dwW];refine mkW (by omega) (by omega) (by omega) (by omega) (by omega) (by omega) (by omega) (by omega) (fun s hs=> ?_) j2 j3 j4 hv;rcases ASk hs with hs|rfl
  ·exact j1 s hs
  ·exact Vv.1
 refine OK.Fh (fun _=> ?_) (fun _=> ?_)
 ·refine OK.bind (yq hc (c:=(w.1,w.2.1,())) (by show w.1.length≤_;omega) Hq) fun x3 i3 h3 y3 KX Vv=> ?_
  dsimp only at*;refine OK.some KX ?_
  dsimp only[dwW];exact mkW (by omega) (by omega) (by omega) Vv.1 (by omega) (by omega) (by omega) (by omega) j1 Vv.2 j3 j4 hv
 refine OK.Fh (fun _=> ?_) (fun _=> ?_)
 ·refine OK.bind (AAl hc (c:=(w.1,w.2.1,())) (by show w.1.length≤_;omega) Hq) fun x3 i3 h3 y3 KX Vv=> ?_
  dsimp only at*;have hk:=k.wr;refine OK.ite (by rw[An];omega) ?_
  refine OK.some KX ?_
  dsimp only[dwW];refine mkW (by omega) (by omega) (by omega) (by omega) ?_ (by omega) (by omega) (by omega) j1 j2 j3 j4 hv
  rw[JI];have:Ao (x3.1.1,y3.1,())=AU Ax y3.1:=rfl;simp only[AU];omega
 refine OK.Fh (fun _=> ?_) (fun _=> ?_)
 ·refine OK.bind (yC hc (c:=(w.1,w.2.1,())) hw.cfg Hq) fun x3 i3 h3 y3 KX Vv=> ?_
  dsimp only at*;have hk:=k.md;refine OK.ite (by rw[An];omega) ?_
  refine OK.some KX ?_
  dsimp only[dwW];refine mkW (by omega) (by omega) (by omega) (by omega) (by omega) ?_ (by omega) (by omega) j1 j2 (fun m hm=> ?_) j4 hv
  ·rw[JI]
   have h8:CB (x3.1.1,x3.1.2.1,y3.1,y3.2.1,x3.1.2.2.2.2.1,y3.2.2.1,())≤20000:=Vv.1;simp only[AU];omega
  ·rcases AOk.1 hm with hm|hm
   ·exact j3 m hm
   ·rw[ARu.1 hm];exact Vv.2
 refine OK.Fh (fun _=> ?_) (fun _=> ?_)
 ·refine OK.bind (yh hc Hq) fun x3 i3 h3 y3 KX Vv=> ?_
  dsimp only at*;refine OK.ite (by omega) ?_
  have:=ix (f:=Au) (x:=(x3.1.1,x3.1.2.1,y3.1,())) (l:=w.2.2.2.2.2.2.2.2.1) (i:=0);have h9:=Dp (f:=CL) (B:=40) Vv.1 (fun e he=>(Vv.2 e he).1);have:Au (x3.1.1,x3.1.2.1,y3.1,())=AU CL y3.1:=rfl;refine OK.some KX ?_
  dsimp only[dwW];refine mkW (by omega) (by omega) (by omega) (by omega) (by omega) (by omega) (by omega) (by omega) j1 j2 j3 j4 (fun r hr' => ?_);rcases ASk hr' with hr'|rfl
  ·exact hv r hr'
  ·exact fun e he=>(Vv.2 e he).2
 refine OK.Fh (fun _=> ?_) (fun _=> ?_)
 ·refine OK.bind (XH hc Hq) fun x3 i3 h3 y3 KX Vv=> ?_
  dsimp only at*;have hk:=k.se;refine OK.ite (by rw[An];omega) ?_
  refine OK.some KX ?_
  dsimp only[dwW];refine mkW (by omega) (by omega) (by omega) (by omega) (by omega) (by omega) (by omega) ?_ j1 j2 j3 (fun s hs=> ?_) hv
  ·rw[JI]
   have:EB (x3.1,[],false,())=0:=rfl;simp only[AU];omega
  ·rcases AOk.1 hs with hs|hs
   ·exact j4 s hs
   ·rw[ARu.1 hs];exact Vv
 refine OK.Fh (fun _=>OK.some Hq base) (fun _=> ?_);refine OK.Fh (fun _=> ?_) (fun _=>OK.some Hq base);refine OK.bind (yl hc Hq) fun x3 i3 h3 y3 KX Vv=> ?_
 dsimp only at*;refine OK.some KX ?_
 dsimp only[dwW];exact mkW (by omega) (by omega) (by omega) (by omega) (by omega) (by omega) (by omega) (by omega) j1 j2 j3 j4 hv
def pkw(w:AA):PC:=((((),w.2.1,(),(),(),w.2.2.2.2.2.1,(),(),(),(),w.2.2.2.2.2.2.2.2.2.2.1,()),()),(w.1,w.2.2.1,w.2.2.2.1,w.2.2.2.2.1,w.2.2.2.2.2.2.1,w.2.2.2.2.2.2.2.1,w.2.2.2.2.2.2.2.2.1,w.2.2.2.2.2.2.2.2.2.1,()))
def OKW(o:Option PC):Prop:= ∃w,o=some (pkw w)∧lF w∧aF w
omit hc in
theorem OKW.bind{X Y:Type}{Q:X→Y→Prop}{o:Option (X×(ACW×Y))}{f:X×(ACW×Y)→Option PC}
  (ho:OK code Q o) (hf:∀x i h y,CH code i→Q x y→OKW (f (x,((code,i,h,()),y)))):OKW (o.bind f):=by
 obtain⟨x,i,h,y,e,hi,hq⟩:=ho;rw[e];exact hf x i h y hi hq
omit hc in
theorem OKW.ite{p:Prop}[Decidable p]{x y:Option PC}(hp:p)(h1:OKW x):OKW (if p then x else y):=by
 rw[AM1 hp];exact h1
omit hc in
theorem OKW.Fh{a b:Int}{x y:Option PC}(h1:a=b→OKW x)(h2:a≠b→OKW y):OKW (_root_.cond (a==b) x y):=by
 rw[DB];by_cases hp:a=b
 ·rw[AM1 hp];exact h1 hp
 ·rw[AM2 hp];exact h2 hp
end
end Go.M
end
section
set_option maxRecDepth 8000
namespace Go.M
open Go.M.H (AK AQ A0 Ai AA Cq AO A8 AR Ak Bd A9 BK Aj CB AU AW Ab Ag Bg Ax Ao Au EB CL Cy C_)
theorem Du{l:AAD}(h:l.length≤2^30):DF l=some (((),()),(l,())):=by
 unfold DF;rw[AM1 (by rw[An];omega)]
theorem QG{l:List AK}(h:l.length≤2^30):Ja l=some (((),()),(l,())):=by
 unfold Ja;rw[AM1 (by rw[An];omega)]
theorem YN{r:Ak}(h:r.2.2.1.length≤2^30):NT r=some (((r.1,r.2.1,(),()),()),(r.2.2.1,())):=by
 unfold NT;rw[AM1 (by rw[An];omega)]
theorem gf{c:CE}(h:c.1.length≤2^30):Qt c=some ((((),c.2.1,()),()),(c.1,())):=by
 unfold Qt;rw[Du h];rfl
theorem IH{s:AQ}(h1:s.1.length≤2^30)(h2:s.2.1.length≤2^30):C9 s=some ((((),(),s.2.2.1,()),()),(s.1,s.2.1,())):=by
 unfold C9;rw[QG h1,QG h2];rfl
theorem H9{r:AO}(h:AU Bg r.1≤2^30):EY r=some ((((),r.2.1,()),()),(r.1,())):=by
 have hl:=AW (f:=Bg) (l:=r.1);have key:∀(n i:Nat) (acc:List Cq),i≤r.1.length→r.1.length-i<n→acc.length≤i→IA n r.1 r.1.length i 0 [] r.2.1 acc=some ((((),r.2.1,()),()),(acc++r.1.drop i,())):=by
  intro n
  induction n with
  |zero=>intro i _ _ h;omega
  |succ n ih=>
   intro i acc hi hn ha;simp only[IA,Rl,AB];by_cases hc:i<r.1.length
   ·have hm:=Ab (f:=Bg) (AN7 hc)
    have hw:Bg r.1[i]=r.1[i].1.length:=rfl;rw[AM1 (by omega),AM1 (by omega),Ah hc,Du (by omega),AH (by omega) (by omega),show((i:Int)+1)=((i+1:Nat):Int)by omega];simp only[AD];rw[AM1 (by rw[An];omega),ih (i+1) _ (by omega) (by omega) (by simp;omega),drop_cons hc,AOK];rfl
   ·rw[AM2 (by omega),ANy (by omega),AOC]
 unfold EY Rt;have:=key AX 0 [] (by omega) (AZ (by omega)) (by simp);simpa using this
theorem Jl{x:AR}(h:Ao x≤2^30):Fz x=some (((x.1,(),()),()),(x.2.1,())):=by
 have h':AU Ax x.2.1≤2^30:=h;have hl:=AW (f:=Ax) (l:=x.2.1);have key:∀(n i:Nat) (acc:List A8),i≤x.2.1.length→x.2.1.length-i<n→acc.length≤i→Jh n x.2.1 x.2.1.length i 0 [] x.1 acc=some (((x.1,(),()),()),(acc++x.2.1.drop i,())):=by
  intro n
  induction n with
  |zero=>intro i _ _ h;omega
  |succ n ih=>
   intro i acc hi hn ha;simp only[Jh,T0,AB];by_cases hc:i<x.2.1.length
   ·have hm:=Ab (f:=Ax) (AN7 hc)
    have hw:Ax x.2.1[i]=x.2.1[i].1.length+x.2.1[i].2.1.length:=rfl;rw[AM1 (by omega),AM1 (by omega),Ah hc,Du (by omega),AH (by omega) (by omega),show((i:Int)+1)=((i+1:Nat):Int)by omega];simp only[AD];rw[AM1 (by rw[An];omega),ih (i+1) _ (by omega) (by omega) (by simp;omega),drop_cons hc,AOK];rfl
   ·rw[AM2 (by omega),ANy (by omega),AOC]
 unfold Fz Tn;have:=key AX 0 [] (by omega) (AZ (by omega)) (by simp);simpa using this
theorem Hh{m:A0}(h:CB m≤2^30):Gc m=some (((m.1,m.2.1,(),(),m.2.2.2.2.1,(),()),()),(m.2.2.1,m.2.2.2.1,m.2.2.2.2.2.1,())):=by
 have h':m.2.2.1.length+AU Ag m.2.2.2.1+AU C_ m.2.2.2.2.2.1≤2^30:=h;have hl:=AW (f:=C_) (l:=m.2.2.2.2.2.1);have vE:=AW (f:=Ag) (l:=m.2.2.2.1);have key:∀(n i:Nat) (acc:List AAD),i≤m.2.2.2.2.2.1.length→m.2.2.2.2.2.1.length-i<n→acc.length≤i→MU n m.2.2.2.2.2.1 m.2.2.2.2.2.1.length i 0 0 false [] [] [] m.1 m.2.1 m.2.2.2.2.1 m.2.2.1 m.2.2.2.1 acc=some (((m.1,m.2.1,(),(),m.2.2.2.2.1,(),()),()),(m.2.2.1,m.2.2.2.1,acc++m.2.2.2.2.2.1.drop i,())):=by
  intro n
  induction n with
  |zero=>intro i _ _ h;omega
  |succ n ih=>
   intro i acc hi hn ha;simp only[MU,WX,AB];by_cases hc:i<m.2.2.2.2.2.1.length
   ·have hm:=Ab (f:=C_) (AN7 hc)
    have hw:C_ m.2.2.2.2.2.1[i]=m.2.2.2.2.2.1[i].length:=rfl;rw[AM1 (by omega),AM1 (by omega),Ah hc,Du (by omega),AH (by omega) (by omega),show((i:Int)+1)=((i+1:Nat):Int)by omega];simp only[AD];rw[AM1 (by rw[An];omega),ih (i+1) _ (by omega) (by omega) (by simp;omega),drop_cons hc,AOK];rfl
   ·rw[AM2 (by omega),ANy (by omega),AOC]
 unfold Gc Wb;rw[Du (by omega),QG (by omega)];simp only[AD];have:=key AX 0 [] (by omega) (AZ (by omega)) (by simp);simpa using this
section
variable{w:AA} (h:lF w)
include h
theorem ADs:∀(n i:Nat) (DI:List AQ) (De:List AR) (D4:List A0) (Ea:List Ak),i≤w.2.2.2.2.2.2.2.2.1.length→w.2.2.2.2.2.2.2.2.1.length-i+1≤n→Ea.length≤i→
  Es n w.2.2.2.2.2.2.2.2.1 w.2.2.2.2.2.2.2.2.1.length i w.1 w.2.1 w.2.2.1 w.2.2.2.1 w.2.2.2.2.1 w.2.2.2.2.2.1 w.2.2.2.2.2.2.1 w.2.2.2.2.2.2.2.1 w.2.2.2.2.2.2.2.2.1 w.2.2.2.2.2.2.2.2.2.1 w.2.2.2.2.2.2.2.2.2.2.1 0 0 false [] [] [] [] [] [] [] [] w.2.1 w.2.2.2.2.2.1 w.2.2.2.2.2.2.2.2.2.2.1 w.1 DI w.2.2.2.1 w.2.2.2.2.1 De D4 Ea []=some ((((),w.2.1,(),(),(),w.2.2.2.2.2.1,(),(),(),(),w.2.2.2.2.2.2.2.2.2.2.1,()),()),(w.1,DI,w.2.2.2.1,w.2.2.2.2.1,De,D4,(Ea++w.2.2.2.2.2.2.2.2.1.drop i),w.2.2.2.2.2.2.2.2.2.1,())):=by
 have vE:=h.TJ;have hl:=h.lens;intro n
 induction n with
 |zero=>intro i DI De D4 Ea _ h;omega
 |succ n ih=>
  intro i DI De D4 Ea hi hn hb;simp only[Es,Tr,AB];by_cases DL:i<w.2.2.2.2.2.2.2.2.1.length
  ·have hm:=Ab (f:=Au) (AN7 DL)
   have hw:Au w.2.2.2.2.2.2.2.2.1[i]=AU CL w.2.2.2.2.2.2.2.2.1[i].2.2.1:=rfl;have hlw:=AW (f:=CL) (l:=w.2.2.2.2.2.2.2.2.1[i].2.2.1);rw[AM1 (by omega),AM1 (by omega),Ah DL,AH (by omega) (by omega),show((i:Int)+1)=((i+1:Nat):Int)by omega,drop_cons DL];rw[show(w.2.2.2.2.2.2.2.2.1[i].1,w.2.2.2.2.2.2.2.2.1[i].2.1,w.2.2.2.2.2.2.2.2.1[i].2.2.1,())=w.2.2.2.2.2.2.2.2.1[i]from rfl,YN (by omega)];simp only[AD];rw[AM1 (by rw[An];omega),ih (i+1) _ _ _ _ (by omega) (by omega) (by simp;omega),AOK];rfl
  ·rw[AM2 (by omega),AM1 (by rw[An];omega),ANy (by omega),AOC]
theorem ADh:∀(n i:Nat) (DI:List AQ) (De:List AR) (D4:List A0),i≤w.2.2.2.2.2.2.2.1.length→(w.2.2.2.2.2.2.2.1.length-i)+w.2.2.2.2.2.2.2.2.1.length+2≤n→D4.length≤i→
  E6 n w.2.2.2.2.2.2.2.1 w.2.2.2.2.2.2.2.1.length i w.1 w.2.1 w.2.2.1 w.2.2.2.1 w.2.2.2.2.1 w.2.2.2.2.2.1 w.2.2.2.2.2.2.1 w.2.2.2.2.2.2.2.1 w.2.2.2.2.2.2.2.2.1 w.2.2.2.2.2.2.2.2.2.1 w.2.2.2.2.2.2.2.2.2.2.1 0 0 false [] [] [] [] [] [] [] [] w.2.1 w.2.2.2.2.2.1 w.2.2.2.2.2.2.2.2.2.2.1 w.1 DI w.2.2.2.1 w.2.2.2.2.1 De D4 [] []=some ((((),w.2.1,(),(),(),w.2.2.2.2.2.1,(),(),(),(),w.2.2.2.2.2.2.2.2.2.2.1,()),()),(w.1,DI,w.2.2.2.1,w.2.2.2.2.1,De,(D4++w.2.2.2.2.2.2.2.1.drop i),w.2.2.2.2.2.2.2.2.1,w.2.2.2.2.2.2.2.2.2.1,())):=by
 have vE:=h.TJ;have hl:=h.lens;intro n
 induction n with
 |zero=>intro i DI De D4 _ h;omega
 |succ n ih=>
  intro i DI De D4 hi hn hb;simp only[E6,To,AB];by_cases DL:i<w.2.2.2.2.2.2.2.1.length
  ·have hm:=Ab (f:=CB) (AN7 DL)
   rw[AM1 (by omega),AM1 (by omega),Ah DL,AH (by omega) (by omega),show((i:Int)+1)=((i+1:Nat):Int)by omega,drop_cons DL];rw[show(w.2.2.2.2.2.2.2.1[i].1,w.2.2.2.2.2.2.2.1[i].2.1,w.2.2.2.2.2.2.2.1[i].2.2.1,w.2.2.2.2.2.2.2.1[i].2.2.2.1,w.2.2.2.2.2.2.2.1[i].2.2.2.2.1,w.2.2.2.2.2.2.2.1[i].2.2.2.2.2.1,())=w.2.2.2.2.2.2.2.1[i]from rfl,Hh (by omega)];simp only[AD];rw[AM1 (by rw[An];omega),ih (i+1) _ _ _ (by omega) (by omega) (by simp;omega),AOK];rfl
  ·have:=ADs h n 0 DI De D4 [] (by omega) (by omega) (by simp)
   rw[show((0:Nat):Int)=0 from rfl,ARU,APS]at this;rw[AM2 (by omega),ANy (by omega),AOC,this]
theorem AH9:∀(n i:Nat) (DI:List AQ) (De:List AR),i≤w.2.2.2.2.2.2.1.length→(w.2.2.2.2.2.2.1.length-i)+w.2.2.2.2.2.2.2.1.length+w.2.2.2.2.2.2.2.2.1.length+3≤n→De.length≤i→
  Fa n w.2.2.2.2.2.2.1 w.2.2.2.2.2.2.1.length i w.1 w.2.1 w.2.2.1 w.2.2.2.1 w.2.2.2.2.1 w.2.2.2.2.2.1 w.2.2.2.2.2.2.1 w.2.2.2.2.2.2.2.1 w.2.2.2.2.2.2.2.2.1 w.2.2.2.2.2.2.2.2.2.1 w.2.2.2.2.2.2.2.2.2.2.1 0 0 false [] [] [] [] [] [] [] [] w.2.1 w.2.2.2.2.2.1 w.2.2.2.2.2.2.2.2.2.2.1 w.1 DI w.2.2.2.1 w.2.2.2.2.1 De [] [] []=some ((((),w.2.1,(),(),(),w.2.2.2.2.2.1,(),(),(),(),w.2.2.2.2.2.2.2.2.2.2.1,()),()),(w.1,DI,w.2.2.2.1,w.2.2.2.2.1,(De++w.2.2.2.2.2.2.1.drop i),w.2.2.2.2.2.2.2.1,w.2.2.2.2.2.2.2.2.1,w.2.2.2.2.2.2.2.2.2.1,())):=by
 have vE:=h.TJ;have hl:=h.lens;intro n
 induction n with
 |zero=>intro i DI De _ h;omega
 |succ n ih=>
  intro i DI De hi hn hb;simp only[Fa,VG,AB];by_cases DL:i<w.2.2.2.2.2.2.1.length
  ·have hm:=Ab (f:=Ao) (AN7 DL)
   rw[AM1 (by omega),AM1 (by omega),Ah DL,AH (by omega) (by omega),show((i:Int)+1)=((i+1:Nat):Int)by omega,drop_cons DL];rw[show(w.2.2.2.2.2.2.1[i].1,w.2.2.2.2.2.2.1[i].2.1,())=w.2.2.2.2.2.2.1[i]from rfl,Jl (by omega)];simp only[AD];rw[AM1 (by rw[An];omega),ih (i+1) _ _ (by omega) (by omega) (by simp;omega),AOK];rfl
  ·have:=ADh h n 0 DI De [] (by omega) (by omega) (by simp)
   rw[show((0:Nat):Int)=0 from rfl,ARU,APS]at this;rw[AM2 (by omega),ANy (by omega),AOC,this]
theorem AGf:∀(n i:Nat) (DI:List AQ),i≤w.2.2.1.length→(w.2.2.1.length-i)+w.2.2.2.2.2.2.1.length+w.2.2.2.2.2.2.2.1.length+w.2.2.2.2.2.2.2.2.1.length+4≤n→DI.length≤i→
  Fb n w.2.2.1 w.2.2.1.length i w.1 w.2.1 w.2.2.1 w.2.2.2.1 w.2.2.2.2.1 w.2.2.2.2.2.1 w.2.2.2.2.2.2.1 w.2.2.2.2.2.2.2.1 w.2.2.2.2.2.2.2.2.1 w.2.2.2.2.2.2.2.2.2.1 w.2.2.2.2.2.2.2.2.2.2.1 0 0 false [] [] [] [] [] [] [] [] w.2.1 w.2.2.2.2.2.1 w.2.2.2.2.2.2.2.2.2.2.1 w.1 DI w.2.2.2.1 w.2.2.2.2.1 [] [] [] []=some ((((),w.2.1,(),(),(),w.2.2.2.2.2.1,(),(),(),(),w.2.2.2.2.2.2.2.2.2.2.1,()),()),(w.1,(DI++w.2.2.1.drop i),w.2.2.2.1,w.2.2.2.2.1,w.2.2.2.2.2.2.1,w.2.2.2.2.2.2.2.1,w.2.2.2.2.2.2.2.2.1,w.2.2.2.2.2.2.2.2.2.1,())):=by
 have vE:=h.TJ;have hl:=h.lens;intro n
 induction n with
 |zero=>intro i DI _ h;omega
 |succ n ih=>
  intro i DI hi hn hb;simp only[Fb,VT,AB];by_cases DL:i<w.2.2.1.length
  ·have hm:=Ab (f:=Aj) (AN7 DL)
   have hw:=F_ (s:=w.2.2.1[i]) (by omega);rw[AM1 (by omega),AM1 (by omega),Ah DL,AH (by omega) (by omega),show((i:Int)+1)=((i+1:Nat):Int)by omega,drop_cons DL];rw[show(w.2.2.1[i].1,w.2.2.1[i].2.1,w.2.2.1[i].2.2.1,())=w.2.2.1[i]from rfl,IH hw.1 hw.2];simp only[AD];rw[AM1 (by rw[An];omega),ih (i+1) _ (by omega) (by omega) (by simp;omega),AOK];rfl
  ·have:=AH9 h n 0 DI [] (by omega) (by omega) (by simp)
   rw[show((0:Nat):Int)=0 from rfl,ARU,APS]at this;rw[AM2 (by omega),ANy (by omega),AOC,this]
theorem Zk:MC w=some ((((),w.2.1,(),(),(),w.2.2.2.2.2.1,(),(),(),(),w.2.2.2.2.2.2.2.2.2.2.1,()),()),(w.1,w.2.2.1,w.2.2.2.1,w.2.2.2.2.1,w.2.2.2.2.2.2.1,w.2.2.2.2.2.2.2.1,w.2.2.2.2.2.2.2.2.1,w.2.2.2.2.2.2.2.2.2.1,())):=by
 have vE:=h.TJ;have hl:=h.lens;unfold MC VO;have:=AGf h AX 0 [] (by omega) (ATE (AZ (by omega))) (by simp);rw[show((0:Nat):Int)=0 from rfl,ARU,APS]at this;rw[show(w.1,w.2.1,())=Ae w from rfl,gf (by show w.1.length≤_;omega),Du (by omega),show(w.2.2.2.2.1,w.2.2.2.2.2.1,())=(CO w)from rfl,H9 (by show AU Bg w.2.2.2.2.1≤_;omega)];simp only[AD];exact this
end
end Go.M
end
section
set_option maxRecDepth 8000
namespace Go.M
open Go.M.H (AK AQ A0 Ai AA Cq AO A8 AR Ak Bd A9 BK Aj CB AU AW Ab Ag Bg Ax Ao Au EB CL Cy C_)
theorem uK{a b:Nat}(h:a+b<2^40):AS ((IntKind.wrap .u64 (AS ((a:Int)+(b:Int)))).fdiv (2^1))=(((a+b)/2:Nat):Int):=by
 rw[AH (x:=(a:Int)+(b:Int)) (by omega) (by omega),show IntKind.wrap .u64 ((a:Int)+(b:Int))=(a:Int)+b by simp only[IntKind.wrap,IntKind.bits,IntKind.signed];simp;omega,Int.fdiv_eq_ediv_of_nonneg _ (by omega),AH (by omega) (by omega)];omega
structure jS {α:Type} (f:α→Int) (p:Int) (l:List α) (q:Nat):Prop where
 le:q≤l.length
 lt:∀(i:Nat) (h:i<l.length),i<q→f l[i]<p
 ge:∀(i:Nat) (h:i<l.length),q≤i→p≤f l[i]
theorem cL{α:Type}{f:α→Int}{l:List α}(h:Wf f l){i j:Nat}(hi:i<l.length)(hj:j<l.length)(hij:i≤j):f l[i]≤f l[j]:=by
 by_cases e:i=j
 ·subst e;omega
 ·exact Int.le_of_lt (AWB.1 h i j hi hj (by omega))
theorem dm{l:List AK}(ha:fi l)(hl:l.length≤2^30)(p:Int):∃q,jS (fun e:AK=>e.1) p l q∧
  SJ l p=some ((((q:Int),(match l[q]? with|some e=>e.1==p|none=>false),()),()),()):=by
 have key:∀(n a b:Nat),a≤b→b≤l.length→b-a<n→(∀(i:Nat) (h:i<l.length),i<a→l[i].1<p)→(∀(i:Nat) (h:i<l.length),b≤i→p≤l[i].1)→
   ∃q,jS (fun e:AK=>e.1) p l q∧Ay n l p l.length a b=some ((((q:Int),(match l[q]? with|some e=>e.1==p|none=>false),()),()),()):=by
  intro n
  induction n with
  |zero=>intro a b _ _ h;omega
  |succ n ih=>
   intro a b nu hb hn h1 h2;simp only[Ay,Cs,AB,TV];by_cases G4:a<b
   ·have hm:(a+b)/2<l.length:=by omega
    rw[AM1 (by omega),uK (by omega),AM1 (by omega),Ah hm];by_cases hc:l[(a+b)/2].1<p
    ·rw[AM1 hc]
     simp only[AD];rw[AM1 (by omega),AH (by omega) (by omega),show((((a+b)/2:Nat):Int)+1)=(((a+b)/2+1:Nat):Int)by omega];refine ih _ b (by omega) hb (by omega) (fun i h hi=> ?_) h2;exact Int.lt_of_le_of_lt (cL (f:=fun e:AK=>e.1) ha h hm (by omega)) hc
    ·rw[AM2 hc]
     have uN:∀(i:Nat) (h:i<l.length),(a+b)/2≤i→p≤l[i].1:=fun i h hi=>Int.le_trans (by omega) (cL (f:=fun e:AK=>e.1) ha hm h hi)
     by_cases hd:l[(a+b)/2].1>p
     ·rw[AM1 hd]
      simp only[AD];rw[AM2 (by omega)];exact ih a _ (by omega) (by omega) (by omega) h1 uN
     ·rw[AM2 hd]
      simp only[AD];rw[AM2 (by omega)];exact ih a _ (by omega) (by omega) (by omega) h1 uN
   ·have AFU:a=b:=by omega
    subst AFU;refine⟨a,⟨hb,h1,h2⟩,?_⟩;rw[AM2 (by omega)];by_cases ha':a<l.length
    ·have:=h2 a ha' (AQQ _)
     rw[AM1 (by omega),AM1 (by omega),Ah ha',AM4 ha',AM2 (by omega)];by_cases hd:l[a].1>p
     ·rw[AM1 hd]
      dsimp only;rw[APT.2 (by omega:l[a].1≠p)];rfl
     ·rw[AM2 hd]
      dsimp only;rw[ASo.2 (by omega:l[a].1=p)];rfl
    ·rw[AM2 (by omega),ASm (by omega)]
 obtain⟨q,hq,e⟩:=key AX 0 l.length (by omega) (by omega) (AZ (by omega)) (fun i h hi=>by omega) (fun i h hi=>by omega);refine⟨q,hq,?_⟩;unfold SJ B_ Cr;rw[show((0:Nat):Int)=0 from rfl]at e;rw[e];rfl
theorem jS.get_eq{p:Int}{l:List AK}{q:Nat}(h:jS (fun e:AK=>e.1) p l q)(ha:fi l):PL p l=match l[q]? with|some e=>if e.1=p then some e else none|none=>none:=by
 by_cases hq:q<l.length
 ·rw[AM4 hq]
  dsimp only;by_cases he:l[q].1=p
  ·rw[AM1 he,←he]
   exact mV ha (AN7 hq)
  ·rw[AM2 he]
   cases hg:PL p l with
   |none=>rfl
   |some x=>
    obtain⟨hm,hx⟩:=sA hg;obtain⟨i,hi,rfl⟩:=ASe hm;exfalso;have h2:=h.ge q hq (AQQ _);rcases Nat.lt_or_ge i q with ye|ye
    ·have:=h.lt i hi ye
     omega
    ·have:=cL (f:=fun e:AK=>e.1) ha hq hi ye
     omega
 ·rw[ASm (by omega)]
  dsimp only;cases hg:PL p l with
  |none=>rfl
  |some x=>
   obtain⟨hm,hx⟩:=sA hg;obtain⟨i,hi,rfl⟩:=ASe hm;have:=h.lt i hi (by have:=h.le;omega);omega
theorem UH{s:AQ}(h0:Aj s≤2^30)(h1:jc s)(p:Int):Ge s p=some (((match YF s p with|some e=>(e,true,())|none=>((0,0,false,[],()),false,())),()),()):=by
 unfold Ge YF;rw[show(s.1,s.2.1,s.2.2.1,())=s from rfl,E7 h0 h1];simp only[AD];rcases AM0 (B7 s)with FW|FW
 rotate_left
 ·rw[FW];rfl
 have hs:=DO.1 FW;have hn:=hs.nk;obtain⟨q,hq,e⟩:=dm hs.u_ (by omega) p;rw[FW,e,AM1 rfl,hq.get_eq hs.u_];simp only[AD,ANZ,ANP];by_cases hc:q<s.1.length
 ·rw[AM4 hc]
  dsimp only;by_cases he:s.1[q].1=p
  ·rw[AM1 he,ASo.2 he]
   simp only[ANZ,ANP];rw[AM1 (by omega),Ah hc]
  ·rw[AM2 he,APT.2 he]
   rfl
 ·rw[ASm (by omega)]
  rfl
theorem IK{e o:Int}:Dm e o=some (((Gl e o,BL e 1 30&&BL o 1 60,()),()),()):=by
 unfold Dm Hl Xt Gl;rw[Av,Av];simp only[AD];rcases AM0 (BL e 1 30)with he|he
 rotate_left
 ·rw[he];rfl
 rcases AM0 (BL o 1 60)with ho|ho
 rotate_left
 ·rw[he,ho];rfl
 rw[he,ho];have h1:=Am.1 he;have h2:=Am.1 ho;simp only[ANZ,ANP,Bool.and_self,ASi];rw[AH (x:=4294967296*e) (by omega) (by omega),AH (by omega) (by omega)];rfl
theorem ZA{k:Int}:Hw k=some (((),()),(BJ k,())):=by
 unfold Hw VB BJ;rw[Av];simp only[AD];rcases AM0 (BL k 0 255)with hk|hk
 rotate_left
 ·rw[hk];rfl
 rw[hk,AM1 rfl];have hk':=Am.1 hk;have key:∀(n i:Nat) (b:AAD),i≤8→8-i<n→b.length≤i→
   Km n k i b=some (((),()),(b++(([0,1,2,3,4,5,6,7]:AAD).drop i).filter (fun i=>(k/2^i.toNat)%2==1),())):=by
  intro n
  induction n with
  |zero=>intro i b _ h;omega
  |succ n ih=>
   intro i b hi h hb;simp only[Km,VY,AB];by_cases DL:i<8
   ·have AA6:=uq (k:=k) (i:=i) (by omega) (by omega)
    rw[AM1 (show(i:Int)<8 by omega),AM2 (by omega),AN4,sn i DL,ASL,AN4,AH (by omega) (by omega),show((i:Int)+1)=((i+1:Nat):Int)by omega];rw[AA6];simp only[AB];have c2:b.length+1≤C7:=by rw[An];omega
    by_cases vU:(k/2^i)%2=1
    ·rw[AM1 vU,AM1 c2,AM1 (by rw[ASo];exact vU),ih (i+1) _ (by omega) (by omega) (by simp;omega),AOK]
     rfl
    ·rw[AM2 vU,AM2 (by rw[ASo];exact vU),ih (i+1) _ (by omega) (by omega) (by omega)]
   ·have:i=8:=by omega
    subst this;rw[AM2 (by omega)];simp
 have:=key AX 0 [] (by omega) (AZ (by omega)) (by simp);simpa using this
theorem Pr{r:AO}(h:AU Bg r.1≤2^30){e:Int}(he:CR e):JK r e=some (((),()),(Bh r.1 e,())):=by
 unfold JK Bh;have hl:=AW (f:=Bg) (l:=r.1);rw[Av];simp only[AD];rcases AM0 (BL e 1 r.1.length)with hk|hk
 rotate_left
 ·rw[hk];rfl
 rw[hk,AM1 rfl];have hk':=Am.1 hk;have hm:=Ab (f:=Bg) (BU (d:=G3) (i:=(e-1).toNat) (by omega:(e-1).toNat<r.1.length));have hw:Bg (r.1.getD (e-1).toNat G3)=(r.1.getD (e-1).toNat G3).1.length:=rfl;rw[AH (by omega) (by omega)];simp only[ANZ,ANP];rw[AM1 (by omega),show(r.1.getD (e-1).toNat ([],false,0,()))=r.1.getD (e-1).toNat G3 from rfl,Du (by omega)];rfl
theorem MB{w:AA}(h1:w.BE.length≤2^30)(h2:w.lost.length≤2^30){n:Int}:ER w n=some ((Aq w n,()),()):=by
 unfold ER Aq;have h1':w.2.2.1.length≤2^30:=h1;rw[AH (by omega) (by omega),Av,af (by show w.lost.length≤_;omega)];simp only[AD];rcases AM0 (BL n 0 ((w.BE.length:Int)-1))with hk|hk
 rotate_left
 ·rw[show BL n 0 ((w.2.2.1.length:Int)-1)=false from hk];rfl
 rw[show BL n 0 ((w.2.2.1.length:Int)-1)=true from hk];rcases AM0 (w.lost.contains n)with hc|hc
 ·rw[show w.2.2.2.1.contains n=true from hc];rfl
 ·rw[show w.2.2.2.1.contains n=false from hc];rfl
theorem PU{b:Bool}:KV b=some ((if b then 0 else 4,()),()):=by cases b<;>rfl
theorem iR{x:AR}(h:x.2.1.length≤2^30):Qw x=some (((YO x.2.1:Int),()),()):=by
 have key:∀(n i:Nat),i≤x.2.1.length→x.2.1.length-i<n→i+YO (x.2.1.drop i)=YO x.2.1→Js n x.2.1 x.2.1.length i x.1 x.2.1=some (((YO x.2.1:Int),()),()):=by
  intro n
  induction n with
  |zero=>intro i _ h;omega
  |succ n ih=>
   intro i hi hn hs;simp only[Js,Tz,AB];by_cases hc:i<x.2.1.length
   ·rw[drop_cons hc]at hs
    simp only[YO]at hs;rw[AM1 (by omega),AM1 (by omega),Ah hc,AH (by omega) (by omega),show((i:Int)+1)=((i+1:Nat):Int)by omega];cases hd:x.2.1[i].2.2.1 with
    |true=>
     rw[hd,AM1 rfl]at hs;simp only[ANZ,ANP];exact ih (i+1) (by omega) (by omega) (by omega)
    |false=>
     rw[hd,AM2 (by simp)]at hs;simp only[ASd,AOA];rw[show(i:Int)=(YO x.2.1:Int)by omega]
   ·rw[ANy (by omega)]at hs
    simp only[YO]at hs;rw[AM2 (by omega),show((x.2.1.length:Nat):Int)=(YO x.2.1:Int)by omega]
 unfold Qw Tp;exact key AX 0 (by omega) (AZ (by omega)) (by simp)
theorem qR{w:AA}(h:lF w)(e:Int):Rq w e=some ((cD w e,()),()):=by
 have vE:=h.TJ;have hl:=h.lens;have key:∀(n i:Nat),i≤w.AN.length→w.AN.length-i<n→PJ n e w.AN w.AN.length i=some (((match(w.AN.drop i).find? (fun x=>x.1==e)with|some x=>(YO x.2.1:Int)|none=>0),()),()):=by
  intro n
  induction n with
  |zero=>intro i _ h;omega
  |succ n ih=>
   intro i hi hn;simp only[PJ,ZC,AB];by_cases hc:i<w.AN.length
   ·have dN:i<w.2.2.2.2.2.2.1.length:=hc
    have hm:Ao w.AN[i]≤AU Ao w.2.2.2.2.2.2.1:=Ab (f:=Ao) (AN7 hc);have hw:Ao w.AN[i]=AU Ax w.AN[i].2.1:=rfl;have hlw:=AW (f:=Ax) (l:=w.AN[i].2.1);rw[AM1 (by omega),AM1 (by omega),Ah hc,AH (by omega) (by omega),show((i:Int)+1)=((i+1:Nat):Int)by omega,drop_cons hc,AWX,show(w.AN[i].1,w.AN[i].2.1,())=w.AN[i]from rfl,iR (by omega),ih (i+1) (by omega) (by omega)];cases w.AN[i].1==e<;>rfl
   ·rw[AM2 (by omega),ANy (by omega)]
    rfl
 unfold Rq Zl cD;have:=key AX 0 (by omega) (AZ (by show w.2.2.2.2.2.2.1.length-0<_;omega));rw[APS]at this;exact this
end Go.M
end
section
set_option maxRecDepth 8000
namespace Go.M
open Go.M.H (AK AQ A0 Ai AA Cq AO A8 AR Ak Bd A9 BK Aj CB AU AW Ab Ag Bg Ax Ao Au EB CL Cy C_)
theorem wJ{x:Int}{t:ACQ}(h:t.1.length≤2^30):Ru x t=some ((!t.1.contains x,()),()):=by
 unfold Ru;rw[JC (by omega)];rfl
theorem mc{x:Int}{t:ABw}:Mi x t=some ((x==t.1,()),()):=rfl
theorem nM{t:ACQ×Unit}(h:t.1.1.length≤2^30){l:AAD}(hl:l.length≤2^30):Ck t l=some (((),()),((),l.filter (fun x=> !(!t.1.1.contains x)),())):=by
 have key:∀(n i j:Nat) (b:AAD),i≤j→j≤b.length→b.length≤2^30→b.length-j<n→Bp n t i j b=some (((),()),((),b.take i++(b.drop j).filter (fun x=> !(!t.1.1.contains x)),())):=by
  intro n
  induction n with
  |zero=>intro i j b _ _ _ h;omega
  |succ n ih=>
   intro i j b hij hj hb hn;simp only[Bp,Dy,AB];by_cases hc:j<b.length
   ·rw[AM1 (by omega),AM1 (by omega),Ah hc,wJ h]
    simp only[AD];rw[AH (x:=(j:Int)+1) (by omega) (by omega),AH (x:=(i:Int)+1) (by omega) (by omega),show((j:Int)+1)=((j+1:Nat):Int)by omega,show((i:Int)+1)=((i+1:Nat):Int)by omega,drop_cons hc,ASL];have n1:=ih (i+1) (j+1) (b.set i b[j]) (by omega) (by simp;omega) (by simp;omega) (by simp;omega);have n2:=ih i (j+1) b (by omega) (by omega) hb (by omega);rw[show(t.1,())=t from rfl,n2];rw[AXO (by omega),ASt (by simp;omega),AXP (AQQ _),AXJ,AOK,ASl]at n1;rw[AM1 (by omega),AN4,n1]
    generalize hx:b[j]=x
    cases(!t.1.1.contains x)<;>rfl
   ·rw[AM2 (by omega),ANy (i:=j) (by omega),AN4,AN4]
    have h1:((b.take i++List.replicate (b.length-i) 0++b.drop (i+(b.length-i))).length:Int)=b.length:=by simp;omega
    rw[AM1 (by omega),AM1 (by rw[h1];omega)];rw[APS,Nat.sub_zero,AOK,AU7 (by simp;omega),List.take_take,Nat.min_self,AUa,AOC]
 have fnd:∀(n i:Nat),i≤l.length→l.length-i<n→ ∃r:Int,B5 n l t l.length i=some ((r,()),())∧((r= -1∧(l.drop i).filter (fun x=> !(!t.1.1.contains x))=l.drop i)∨ ∃q:Nat,r=q∧i≤q∧q<l.length∧((l.take q).drop i).filter (fun x=> !(!t.1.1.contains x))=(l.take q).drop i∧ ∀(h:q<l.length) x,x=l[q]→(!t.1.1.contains x)=true):=by
  intro n
  induction n with
  |zero=>intro i _ h;omega
  |succ n ih=>
   intro i hi hn;simp only[B5,D9,AB];by_cases hc:i<l.length
   ·rw[AM1 (by omega),AM1 (by omega),Ah hc,wJ h]
    simp only[AD];rw[AH (x:=(i:Int)+1) (by omega) (by omega),show((i:Int)+1)=((i+1:Nat):Int)by omega,show(t.1,())=t from rfl];obtain⟨r,e,hr⟩:=ih (i+1) (by omega) (by omega);rw[e]
    generalize hx:l[i]=x
    cases hp:(!t.1.1.contains x)with
    |true=>
     refine⟨i,rfl,.inr ⟨i,rfl,AQQ _,hc,?_,fun h y hy=> ?_⟩⟩
     ·rw[ANy (by simp;omega)];rfl
     ·rw[hy,hx];exact hp
    |false=>
     refine⟨r,rfl,?_⟩;rcases hr with⟨h1,h2⟩|⟨q,h1,h2,h3,h4,h5⟩
     ·refine .inl ⟨h1,?_⟩
      rw[drop_cons hc,ASL,h2,hx,hp];rfl
     ·refine .inr ⟨q,h1,by omega,h3,?_,h5⟩
      have G4:i<(l.take q).length:=by simp;omega
      rw[drop_cons G4,ASL,h4,List.getElem_take,hx,hp];rfl
   ·refine⟨-1,by rw[AM2 (by omega)],.inl ⟨rfl,?_⟩⟩
    rw[ANy (by omega)];rfl
 obtain⟨r,e,hr⟩:=fnd AX 0 (by omega) (AZ (by omega));rw[show((0:Nat):Int)=0 from rfl]at e;unfold Ck D1 Dj D7;rw[show(t.1,())=t from rfl,e];simp only[AD];rcases hr with⟨h1,h2⟩|⟨q,h1,h2,h3,h4,h5⟩
 ·rw[h1]
  rw[APS]at h2;rw[h2];rfl
 ·rw[h1,APT.2 (by omega),ANP,AH (by omega) (by omega),show((q:Int)+1)=((q+1:Nat):Int)by omega,key AX q (q+1) l (by omega) (by omega) hl (AZ (by omega))]
  rw[APS]at h4;have hd:=h5 h3 _ rfl;congr 3
  conv=>rhs;rw[←AUN q l,AVM,h4,drop_cons h3,ASL]
  rw[hd];rfl
theorem bS{t:ACZ}{l:AAD}(hl:l.length≤2^30):Cl t l=some (((),()),((),l.filter (fun x=> !(x==t.1.1)),())):=by
 have key:∀(n i j:Nat) (b:AAD),i≤j→j≤b.length→b.length≤2^30→b.length-j<n→Bn n t i j b=some (((),()),((),b.take i++(b.drop j).filter (fun x=> !(x==t.1.1)),())):=by
  intro n
  induction n with
  |zero=>intro i j b _ _ _ h;omega
  |succ n ih=>
   intro i j b hij hj hb hn;simp only[Bn,Eh,AB];by_cases hc:j<b.length
   ·rw[AM1 (by omega),AM1 (by omega),Ah hc,mc]
    simp only[AD];rw[AH (x:=(j:Int)+1) (by omega) (by omega),AH (x:=(i:Int)+1) (by omega) (by omega),show((j:Int)+1)=((j+1:Nat):Int)by omega,show((i:Int)+1)=((i+1:Nat):Int)by omega,drop_cons hc,ASL];have n1:=ih (i+1) (j+1) (b.set i b[j]) (by omega) (by simp;omega) (by simp;omega) (by simp;omega);have n2:=ih i (j+1) b (by omega) (by omega) hb (by omega);rw[show(t.1,())=t from rfl,n2];rw[AXO (by omega),ASt (by simp;omega),AXP (AQQ _),AXJ,AOK,ASl]at n1;rw[AM1 (by omega),AN4,n1]
    generalize hx:b[j]=x
    cases(x==t.1.1)<;>rfl
   ·rw[AM2 (by omega),ANy (i:=j) (by omega),AN4,AN4]
    have h1:((b.take i++List.replicate (b.length-i) 0++b.drop (i+(b.length-i))).length:Int)=b.length:=by simp;omega
    rw[AM1 (by omega),AM1 (by rw[h1];omega)];rw[APS,Nat.sub_zero,AOK,AU7 (by simp;omega),List.take_take,Nat.min_self,AUa,AOC]
 have fnd:∀(n i:Nat),i≤l.length→l.length-i<n→ ∃r:Int,Bt n l t l.length i=some ((r,()),())∧((r= -1∧(l.drop i).filter (fun x=> !(x==t.1.1))=l.drop i)∨ ∃q:Nat,r=q∧i≤q∧q<l.length∧((l.take q).drop i).filter (fun x=> !(x==t.1.1))=(l.take q).drop i∧ ∀(h:q<l.length) x,x=l[q]→(x==t.1.1)=true):=by
  intro n
  induction n with
  |zero=>intro i _ h;omega
  |succ n ih=>
   intro i hi hn;simp only[Bt,FA,AB];by_cases hc:i<l.length
   ·rw[AM1 (by omega),AM1 (by omega),Ah hc,mc]
    simp only[AD];rw[AH (x:=(i:Int)+1) (by omega) (by omega),show((i:Int)+1)=((i+1:Nat):Int)by omega,show(t.1,())=t from rfl];obtain⟨r,e,hr⟩:=ih (i+1) (by omega) (by omega);rw[e]
    generalize hx:l[i]=x
    cases hp:(x==t.1.1)with
    |true=>
     refine⟨i,rfl,.inr ⟨i,rfl,AQQ _,hc,?_,fun h y hy=> ?_⟩⟩
     ·rw[ANy (by simp;omega)];rfl
     ·rw[hy,hx];exact hp
    |false=>
     refine⟨r,rfl,?_⟩;rcases hr with⟨h1,h2⟩|⟨q,h1,h2,h3,h4,h5⟩
     ·refine .inl ⟨h1,?_⟩
      rw[drop_cons hc,ASL,h2,hx,hp];rfl
     ·refine .inr ⟨q,h1,by omega,h3,?_,h5⟩
      have G4:i<(l.take q).length:=by simp;omega
      rw[drop_cons G4,ASL,h4,List.getElem_take,hx,hp];rfl
   ·refine⟨-1,by rw[AM2 (by omega)],.inl ⟨rfl,?_⟩⟩
    rw[ANy (by omega)];rfl
 obtain⟨r,e,hr⟩:=fnd AX 0 (by omega) (AZ (by omega));rw[show((0:Nat):Int)=0 from rfl]at e;unfold Cl E5 Dz FB;rw[show(t.1,())=t from rfl,e];simp only[AD];rcases hr with⟨h1,h2⟩|⟨q,h1,h2,h3,h4,h5⟩
 ·rw[h1]
  rw[APS]at h2;rw[h2];rfl
 ·rw[h1,APT.2 (by omega),ANP,AH (by omega) (by omega),show((q:Int)+1)=((q+1:Nat):Int)by omega,key AX q (q+1) l (by omega) (by omega) hl (AZ (by omega))]
  rw[APS]at h4;have hd:=h5 h3 _ rfl;congr 3
  conv=>rhs;rw[←AUN q l,AVM,h4,drop_cons h3,ASL]
  rw[hd];rfl
theorem b_{a b:AAD}(ha:a.length≤2^30)(hb:b.length≤2^30):Np a b=some (((),()),(a.filter b.contains,())):=by
 unfold Np;rw[Du ha];simp only[AD];rw[nM hb ha];simp only[AD,Bool.not_not]
theorem QF{a:AAD}{x:Int}(ha:a.length≤2^30):HY a x=some (((),()),(less a [x],())):=by
 unfold HY less;rw[Du ha];simp only[AD];rw[bS ha];simp only[AD];congr 3;congr 1;funext y;simp only[List.contains_cons,List.contains_nil,AXL]
theorem pt{d:BK}:Yu d=some ((P7 d,()),()):=by
 obtain⟨k,a,b,n,t,⟨⟩⟩:=d;obtain⟨m,hm⟩:∃m,AX=m+4:=⟨AX-4,by have:=fJ;omega⟩;have fin:∀(a' b' n':Int) (t':AB_),(((A3 k 1 16).bind fun u4=>cond (u4.1.1) (cond ((((0:Int)==0)&&((a' ==0)&&((b' ==0)&&((n' ==0)&&((t' ==[])&&true))))) ) ((GK t).bind fun u6=>some ((u6.1.1,()),())) (some ((false,()),()))) (some ((false,()),()))):Option QQ)=some ((BL k 1 16&&((a' ==0)&&((b' ==0)&&((n' ==0)&&((t' ==[])&&decide (t.length≤40))))),()),()):=by
  intro a' b' n' t';rw[Av];simp only[AD,GK,beq_self_eq_true,AOM,AS3];have e:decide ((t.length:Int)≤40)=decide (t.length≤40):=by rw[decide_eq_decide];omega
  rw[e];cases BL k 1 16<;>cases a' ==0<;>cases b' ==0<;>cases n' ==0<;>cases t' ==[]<;>rfl
 unfold Yu ZY cH P7 fE;rw[hm];have h1:((1:Nat):Int)=1:=rfl;have w1:AS (1:Int)=1:=AH (by omega) (by omega);have w2:AS (2:Int)=2:=AH (by omega) (by omega);have w3:AS (3:Int)=3:=AH (by omega) (by omega);have lim:(3:Nat)≤C7:=by rw[An];omega
 have l0:(0:Nat)≤C7:=by omega
 have l1:(1:Nat)≤C7:=by rw[An];omega
 have l2:(2:Nat)≤C7:=by rw[An];omega
 dsimp only;by_cases k8:k=8
 ·subst k8
  simpa[Ds,DQ]using fin a b n t
 by_cases k10:k=10
 ·subst k10
  simpa[Ds,DQ]using fin a b n t
 by_cases k12:k=12
 ·subst k12
  simpa[Ds,DQ]using fin a b n t
 by_cases k2:k=2
 ·subst k2
  simpa[Ds,DQ,l2,w1,w2]using fin 0 b n []
 by_cases k3:k=3
 ·subst k3
  simpa[Ds,DQ,lim,w1,w2,w3]using fin 0 0 0 t
 by_cases k5:k=5
 ·subst k5
  simpa[Ds,DQ,l2,w1,w2]using fin 0 0 n t
 by_cases k14:k=14
 ·subst k14
  simpa[Ds,DQ,l2,w1,w2]using fin 0 0 n t
 by_cases k11:k=11
 ·subst k11
  simpa[Ds,DQ,l2,w1,w2]using fin a 0 0 t
 by_cases k13:k=13
 ·subst k13
  simpa[Ds,DQ,l1,w1]using fin 0 b n t
 have e8:(k==8)=false:=APT.2 k8;have e10:(k==10)=false:=APT.2 k10;have e12:(k==12)=false:=APT.2 k12;have e2:(k==2)=false:=APT.2 k2;have e3:(k==3)=false:=APT.2 k3;have e5:(k==5)=false:=APT.2 k5;have e14:(k==14)=false:=APT.2 k14;have e11:(k==11)=false:=APT.2 k11;have e13:(k==13)=false:=APT.2 k13;simpa[k8,k10,k12,k2,k3,k5,k14,k11,k13,e8,e10,e12,e2,e3,e5,e14,e11,e13,Ds,DQ,l1,w1]using fin 0 b n t
end Go.M
end
section
set_option maxRecDepth 8000
namespace Go.M
open Go.M.H (AK AQ A0 Ai AA Cq AO A8 AR Ak Bd A9 BK Aj CB AU AW Ab Ag Bg Ax Ao Au EB CL Cy C_)
theorem nR{l:List A9}(hl:l.length≤2^20):Pp l=some (((),()),(l.map (fun a=>a.1),())):=by
 have key:∀(n i:Nat) (b:AAD),i≤l.length→l.length-i<n→b.length=i→NV n l l.length i b=some (((),()),(b++(l.drop i).map (fun a=>a.1),())):=by
  intro n
  induction n with
  |zero=>intro i b _ h;omega
  |succ n ih=>
   intro i b hi h hb;simp only[NV,YT,AB];by_cases dN:i<l.length
   ·have c1:(0:Int)≤(i:Int)∧(i:Int)<(l.length:Int):=by omega
    have c2:b.length+1≤C7:=by rw[An];omega
    rw[AM1 c1.2,AM1 c1,AM1 c2,AH (by omega) (by omega),show((i:Int)+1)=((i+1:Nat):Int)by omega,Ah dN,ih (i+1) _ (by omega) (by omega) (by simp;omega),drop_cons dN];simp only[AOK,ASl,ATB]
   ·rw[AM2 (by omega),ANy (by omega),AVg,AOC]
 unfold Pp X8;have:=key AX 0 [] (by omega) (AZ (by omega)) rfl;rw[show((0:Nat):Int)=0 from rfl,APS,ARU]at this;exact this
theorem tL{c:CE}{s l:AAD}(hc:c.1.length≤2^40)(hl:l.length≤2^20)(hs:s.length≤2^20):e_ c s l=some (((),()),(if A4 c s&&A4 c l then less s l else[],())):=by
 have key:∀(n i:Nat) (b:AAD),i≤s.length→s.length-i<n→b.length≤i→SF n l s s.length i b=some (((),()),(b++less (s.drop i) l,())):=by
  intro n
  induction n with
  |zero=>intro i b _ h;omega
  |succ n ih=>
   intro i b hi h hb;simp only[SF,cg,AB,As];by_cases dN:i<s.length
   ·have c1:(0:Int)≤(i:Int)∧(i:Int)<(s.length:Int):=by omega
    have c2:b.length+1≤C7:=by rw[An];omega
    rw[AM1 c1.2,AM1 c1,Ah dN,JC (by omega),AH (by omega) (by omega),show((i:Int)+1)=((i+1:Nat):Int)by omega,drop_cons dN];simp only[AD,AM1 c2];rw[ih (i+1) b (by omega) (by omega) (by omega),ih (i+1) (b++[s[i]]) (by omega) (by omega) (by simp;omega)];unfold less;rw[ASL];cases l.contains s[i]with
    |true=>rfl
    |false=>simp
   ·rw[AM2 (by omega),ANy (by omega)]
    simp[less]
 unfold e_ dG;rw[show(c.1,c.2.1,())=c from rfl,EC hc (by omega),EC hc (by omega)];simp only[AD];cases A4 c s with
 |false=>rfl
 |true=>
  cases A4 c l with
  |false=>rfl
  |true=>
   have:=key AX 0 [] (by omega) (AZ (by omega)) (by simp);rw[show((0:Nat):Int)=0 from rfl,APS,ARU]at this;exact this
theorem filter_all{l:AAD}{p:Int→Bool}:((((l.filter p).length:Nat):Int) !=(l.length:Int))= !l.all p:=by
 rw[AXQ];simp only[bne_iff_ne,ne_eq,AS2,ATA];constructor
 ·intro h ha
  exact h (by rw[List.filter_eq_self.2 (ASw.1 ha)])
 ·intro h ha
  refine h (ASw.2 ?_);exact List.length_filter_eq_length_iff.1 (by omega)
theorem eJ{c:CE}{s l:AAD}(hc:c.1.length≤2^40)(hl:l.length≤2^20)(hs:s.length≤2^20):HB c s l=some ((Q5 c s l,()),()):=by
 unfold HB Q5;rw[show(c.1,c.2.1,())=c from rfl,EC hc (by omega),GX hc (by omega),b_ (by omega) (by omega),tL hc hl hs];simp only[AD,As,filter_all];have hh:holds c s=true→A4 c s=true:=fun h=>by
  unfold holds at h;simp only[ANN]at h;exact h.1
 cases h1:A4 c l with
 |false=>simp
 |true=>
  cases h2:holds c s with
  |false=>rfl
  |true=>
   cases h3:l.all s.contains with
   |false=>rfl
   |true=>
    have h4:(less s l).length≤2^20:=ASY (ASZ _ _) hs;rw[hh h2];simp only[AOA,Bool.and_self,ASi,ANZ,ANP,AOM];rw[GX hc (by omega)];rfl
theorem X9{a b:AK}:Rj a b=some ((better a b,()),()):=by
 unfold Rj better;rw[AB];split<;>rfl
theorem ph{s:AAD}{p:Int}{l:List A9}(hs:s.length≤2^20)(hl:l.length≤2^20)(Te:∀a∈l,CR a.2.2.1):
  Yz l s p=some (((((Hb s p none l).getD Dt),(Hb s p none l).isSome,()),()),()):=by
 have key:∀(n i:Nat) (b:Option AK),i≤l.length→l.length-i<n→
   O1 n s p b.isSome l l.length i 0 0 false [] (b.getD Dt).1 (b.getD Dt).2.1 (b.getD Dt).2.2.1 (b.getD Dt).2.2.2.1=some (((((Hb s p b (l.drop i)).getD Dt),(Hb s p b (l.drop i)).isSome,()),()),()):=by
  intro n
  induction n with
  |zero=>intro i b _ h;omega
  |succ n ih=>
   intro i b hi h;simp only[O1,ZK,AB,As];by_cases dN:i<l.length
   ·have c1:(0:Int)≤(i:Int)∧(i:Int)<(l.length:Int):=by omega
    rw[AM1 c1.2,AM1 c1,AH (by omega) (by omega),show((i:Int)+1)=((i+1:Nat):Int)by omega,Ah dN,drop_cons dN];have ih':=fun b=>ih (i+1) b (by omega) (by omega)
    simp only[ih'];rw[JC (by omega),show(l[i].2.2.1,l[i].2.2.2.1,l[i].2.2.2.2.1,l[i].2.2.2.2.2.1,())=XN l[i]from rfl];rw[Qp (e:=XN l[i]) (Te _ (AN7 dN))];simp only[AD,Hb];cases h1:l[i].2.1 with
    |false=>simp
    |true=>
     cases h2:s.contains l[i].1 with
     |false=>simp
     |true=>
      cases h3:Fy (XN l[i])with
      |false=>simp
      |true=>
       simp only[AOA,AOM];by_cases h4:l[i].2.2.1=p
       ·rw[Ct,AM1 h4,AM1 (by show((XN l[i]).1==p)=true;rw[ASo];exact h4)]
        cases b with
        |none=>
         simp only[ASu,ANP,X9,AD,Option.getD_none];have:=ih' (some (XN l[i]));simp only[ASs,ASp]at this;have hb:better (XN l[i]) (XN l[i])=XN l[i]:=by unfold better;rw[AM2 (by omega)]
         rw[hb];exact this
        |some x=>
         simp only[ASs,AOA,ASp];rw[show(x.1,x.2.1,x.2.2.1,x.2.2.2.1,())=x from rfl];simp only[X9,AD];have:=ih' (some (better x (XN l[i])));simp only[ASs,ASp]at this;exact this
       ·rw[Ct,AM2 h4,AM2 (by show¬((XN l[i]).1==p)=true;rw[ASo];exact h4)]
   ·rw[AM2 (by omega),ANy (by omega)]
    simp only[Hb]
 unfold Yz ZD;exact key AX 0 none (by omega) (AZ (by omega))
theorem bm{s t:AAD}{p:Int}:∀{l:List A9} {b:Option AK},(∀a∈l,s.contains a.1=t.contains a.1)→Hb s p b l=Hb t p b l
 |[],b,_=>rfl
 |a::l,b,h=>by
  simp only[Hb];rw[h a (by simp),bm (fun x hx=>h x (by simp[hx])),bm (fun x hx=>h x (by simp[hx]))]
theorem WT{e:Bd}{a b:Int}{l:List Bd}(h:l.length≤2^30):FF e a b l=some (((),()),((a,b,(),()),(),l++[e],())):=by
 unfold FF;rw[AM1 (by rw[An];omega)]
theorem ec{s:AAD}{l:List A9}{a b:Int}{o:List Bd}(ha:1≤a∧a≤30)(hb:1≤b∧b≤60)(ho:o.length≤2^20)(hs:s.length≤2^20)(hl:l.length≤2^20)(Te:∀a∈l,CR a.2.2.1):
  C6 l s a b o=some (((),()),((a,b+1,(),()),(),o++[Q9 (HF a b) (Hb s (HF a b) none l)],())):=by
 unfold C6;rw[IK];have hp:Gl a b=HF a b:=by
  unfold Gl;rw[AM1 (by rw[ANN,Am,Am];omega)]
 simp only[AD];rw[hp,ph hs hl Te];simp only[AD,WT (ASY ho (by omega))];rw[AH (by omega) (by omega)];cases Hb s (HF a b) none l with
 |none=>rfl
 |some x=>
  simp only[ASs,ANZ,ANP,ASp,Q9];cases x.2.2.1<;>rfl
theorem xe{x e o:Int}(hx:x=0∨Bf x=true)(he:1≤e∧e≤31)(ho:1≤o∧o≤61):
  decide (x≥HF e o)=(decide (x>0)&& !(decide (Aw x<e)||((Aw x==e)&&decide (EE x<o)))):=by
 rcases hx with rfl|hx
 ·rw[ASg (by unfold HF;omega)]
  rfl
 ·have h:=HD hx
  rw[AXQ];simp only[ANN,AS2,Bool.or_eq_false_iff,AOH,ATJ,Bool.and_eq_false_iff,APT];have h3:=h.2.2;unfold HF at h3⊢;omega
theorem my{x:Int}{r:Ak}(hx:CR x):XX x r=some ((decide (Aw x<r.1)||((Aw x==r.1)&&decide (EE x<r.2.1)),()),()):=by
 unfold XX;rw[E_ hx,aU hx];simp only[AD];cases decide (Aw x<r.1)with
 |true=>rfl
 |false=>cases Aw x==r.1<;>rfl
end Go.M
end
section
set_option maxRecDepth 8000
namespace Go.M
open Go.M.H (AK AQ A0 Ai AA Cq AO A8 AR Ak Bd A9 BK Aj CB AU AW Ab Ag Bg Ax Ao Au EB CL Cy C_)
theorem iQ{c:CE}{g:AO}{sure:Int}{r:Ak}{l:List A9}(hc:c.1.length≤2^20)(hg:AU Bg g.1≤2^20)(ht:CR g.2.1)(hl:l.length≤2^20)(Te:∀a∈l,CR a.2.2.1):
  Ke c g sure r l=some (xc (Co c g sure r l)):=by
 unfold Ke Co;rw[show(c.1,c.2.1,())=c from rfl,show(g.1,g.2.1,())=g from rfl,show(r.1,r.2.1,r.2.2.1,())=r from rfl,nR hl,Ns (by omega) (by omega) ht,bJ];simp only[AD,As,AB];rw[EC (by omega) (by simp;omega)];simp only[AD];cases h1:NW c g with
 |false=>rfl
 |true=>
 cases h2:ZE r with
 |false=>rfl
 |true=>
 cases h3:A4 c (l.map fun a=>a.1)with
 |false=>rfl
 |true=>
 have hr:=T_.1 h2;have hre:=hr.ep;have hro:=hr.off;have hrn:=hr.n;have hR:=KO.1 h1;have hRn:=hR.n;simp only[AOA,AOM,ANZ,ANw,AQS];rw[YN (by omega)];simp only[AD];by_cases h4:r.1>(g.1.length:Int)
 ·rw[AM1 h4,AQg h4];rfl
 rw[AM2 h4,ASg h4];by_cases h5:r.2.2.1.length=120
 ·rw[show(((r.2.2.1.length:Nat):Int)==120)=true by rw[ASo];omega,AQg h5];rfl
 rw[show(((r.2.2.1.length:Nat):Int)==120)=false by rw[APT];omega,ASg h5];simp only[ANP,ASj,ANw,AQS];rw[AH (x:=r.1-1) (by omega) (by omega),my ht,E_ ht,aU ht];simp only[AD];have hto:=ju (x:=g.2.1);rw[AH (x:=EE g.2.1+1) (by omega) (by omega),AH (x:=r.1+1) (by omega) (by omega)];simp only[WT (l:=r.2.2.1) (by omega),AD];have hta:=xe (x:=g.2.1) (e:=r.1) (o:=r.2.1) (hR.trim.imp id fun h=>h.1) hre hro
 generalize AE1:g.1.getD (r.1-1).toNat G3=era
 have G4:(r.1-1).toNat<g.1.length:=by omega
 have Vb:era.1.length≤2^20:=by
  have h7:=Ab (f:=Bg) (BU (d:=G3) G4);rw[AE1]at h7;have:Bg era=era.1.length:=rfl;omega
 have hd:g.1.getD (r.1-1).toNat ([],false,0,())=era:=AE1;rw[hd];have hf:((l.map fun a=>a.1).filter era.1.contains).length≤2^20:=ASY (ASZ _ _) (by simpa using hl);rw[b_ (by simp;omega) (by omega)];simp only[AD];rw[eJ (by omega) hf Vb];simp only[AD];have Aa5:(0:Int)≤r.1-1∧r.1-1<(g.1.length:Int):=by omega
 simp only[AM1 Aa5]
 generalize hT:(cond (era.2.1) _ _:Option Kk)=T
 have xN:T=some (xc (if era.2.1&&decide (r.2.1>era.2.2.1)then((r.1+1,1,r.2.2.1++[(4,r.1+1,[],())],()),0)else
   if(!era.2.1&&decide (r.2.1>sure))||decide (r.2.1>60)then(r,2)else
   if !Q5 c era.1 ((l.map fun a=>a.1).filter era.1.contains)then(r,3)else
   ((r.1,r.2.1+1,r.2.2.1++[Q9 (HF r.1 r.2.1) (Hb era.1 (HF r.1 r.2.1) none l)],()),0))):=by
  rw[←hT];clear hT;have tail:r.2.1≤60→(cond (Q5 c era.1 ((l.map fun a=>a.1).filter era.1.contains))
    ((C6 l ((l.map fun a=>a.1).filter era.1.contains) r.1 r.2.1 r.2.2.1).bind fun MY=>some ((((MY.2.1.1,MY.2.1.2.1,(),()),0,()),()),(MY.2.2.2.1,())))
    (some ((((r.1,r.2.1,(),()),3,()),()),(r.2.2.1,()))):Option Kk)=some (xc (if !Q5 c era.1 ((l.map fun a=>a.1).filter era.1.contains)then(r,3)else
    ((r.1,r.2.1+1,r.2.2.1++[Q9 (HF r.1 r.2.1) (Hb era.1 (HF r.1 r.2.1) none l)],()),0))):=by
   intro h60;rw[ec (by omega) (by omega) (by omega) hf hl Te];rw[bm (s:=(l.map fun a=>a.1).filter era.1.contains) (t:=era.1) (fun a ha=>by
    rw[AXQ,AS_,ATi];exact⟨fun h=>by simpa using h.2,fun h=>⟨List.mem_map_of_mem ha,by simpa using h⟩⟩)]
   cases Q5 c era.1 ((l.map fun a=>a.1).filter era.1.contains)<;>rfl
  cases h7:era.2.1 with
  |true=>
   simp only[AOA,ANP,AOM,ANZ,ASv,ASj,AOH];by_cases h8:r.2.1>era.2.2.1
   ·rw[AM1 h8,AM1 h8];rfl
   rw[AM2 h8,AM2 h8];by_cases h9:r.2.1>60
   ·rw[AM1 h9,AM1 h9];rfl
   rw[AM2 h9,AM2 h9];exact tail (by omega)
  |false=>
   simp only[AOA,ANP,AOM,ASd,ASv,ANw,AQS,ASr,AOH];by_cases h8:r.2.1>sure
   ·rw[AM1 h8,AM1 (.inl h8)];rfl
   rw[AM2 h8];by_cases h9:r.2.1>60
   ·rw[AM1 h9,AM1 (.inr h9)];rfl
   rw[AM2 h9,AM2 (show¬(r.2.1>sure∨r.2.1>60)by omega)];exact tail (by omega)
 rw[xN];clear hT xN
 generalize (decide (Aw g.2.1<r.1)||((Aw g.2.1==r.1)&&decide (EE g.2.1<r.2.1)))=B at hta⊢
 by_cases h6:g.2.1≥HF r.1 r.2.1
 ·rw[AQg h6]at hta
  rw[AM1 h6];by_cases h0:g.2.1>0
  ·rw[AM1 h0]
   cases B with
   |true=>rw[ANZ,AVD]at hta;cases hta
   |false=>rfl
  ·rw[ASg h0]at hta;cases hta
 ·rw[AM2 h6]
  rw[ASg h6]at hta;by_cases h0:g.2.1>0
  ·rw[AM1 h0]
   cases B with
   |true=>rfl
   |false=>rw[AQg h0]at hta;cases hta
  ·rw[AM2 h0]
end Go.M
end
section
set_option maxRecDepth 8000
namespace Go.M
open Go.M.H (AK AQ A0 Ai AA Cq AO A8 AR Ak Bd A9 BK Aj CB AU AW Ab Ag Bg Ax Ao Au EB CL Cy C_)
theorem AAv{w:AA}{p n:Int}:(answer w p n).1=n:=by
 unfold answer;split<;>rfl
theorem qE{w:AA}{p:Int}{ns:AAD}:(answers w p ns).map (fun a=>a.1)=ns.filter fun n=>Aq w n==0:=by
 unfold answers;rw[AUL]
 conv=>rhs;rw[←List.map_id (ns.filter fun n=>Aq w n==0)]
 exact AS5 fun n _=>AAv
theorem lx{c:CE}{g:AO}{s:Int}{r:Ak}{w:AA}{ns:AAD}:
  Co c g s r (answers w (Gl r.1 r.2.1) ns)=Co c g s r (answers w (HF r.1 r.2.1) ns):=by
 unfold Co;rw[qE,qE];cases h1:NW c g with
 |false=>rfl
 |true=>
 cases h2:ZE r with
 |false=>rfl
 |true=>
 have hr:=T_.1 h2;have hre:=hr.ep;have hro:=hr.off;have hRn:=(KO.1 h1).n;by_cases h3:r.1≤30∧r.2.1≤60
 ·have:Gl r.1 r.2.1=HF r.1 r.2.1:=by
   unfold Gl;rw[AM1 (by rw[ANN,Am,Am];omega)]
  rw[this]
 ·by_cases h4:r.1>(g.1.length:Int)
  ·rw[AQg h4];rfl
  ·have h5:r.2.1>60:=by omega
   rw[AQg h5];simp only[Bool.or_true,ASi]
def kv(q:AA×Int):K8:=((q.2,()),(((),q.1.2.1,(),(),(),q.1.2.2.2.2.2.1,(),(),(),(),q.1.2.2.2.2.2.2.2.2.2.2.1,()),q.1.1,q.1.2.2.1,q.1.2.2.2.1,q.1.2.2.2.2.1,q.1.2.2.2.2.2.2.1,q.1.2.2.2.2.2.2.2.1,q.1.2.2.2.2.2.2.2.2.1,q.1.2.2.2.2.2.2.2.2.2.1,()))
theorem AGk{k n:Int}(h:n∈BJ k):0≤n∧n≤7:=by
 unfold BJ at h;split at h
 ·have:=(ATi.1 h).1
  simp at this;omega
 ·simp at h
theorem wh{k:Int}:(BJ k).length≤8:=by
 unfold BJ;split
 ·exact ASY (ASZ _ _) (by simp)
 ·simp
section
variable{w:AA} (h:Nw w) (QM:lF w)
include h QM
omit QM in
theorem xp{p:Int}{ns:AAD}:∀a∈answers w p ns,CR a.2.2.1:=fun a ha=>by
 unfold answers at ha;obtain⟨n,hn,rfl⟩:=ATD.1 ha;have hn':Aq w n=0:=by have:=(ATi.1 hn).2;rwa [ASo]at this
 unfold answer;split
 ·rename_i e he
  have:=(h.store hn').kept e (AV9 he);exact Gv (FY.1 this).pl
 ·exact⟨by show-9223372036854775808≤(0:Int);omega,by show(0:Int)<9223372036854775808;omega⟩
theorem gr{a k:Int}:NM a k w.2.1 w.2.2.2.2.2.1 w.2.2.2.2.2.2.2.2.2.2.1 w.1 w.2.2.1 w.2.2.2.1 w.2.2.2.2.1 w.2.2.2.2.2.2.1 w.2.2.2.2.2.2.2.1 w.2.2.2.2.2.2.2.2.1 w.2.2.2.2.2.2.2.2.2.1=some (kv (Ha w a k)):=by
 have kn:=h.nums;have k1:=kn.c;have k3:=kn.lost;have k4:=kn.st;have iY:=kn.KF;have kH:=kn.iZ;have k5:=kn.era;have k6:=kn.ws;have k6':AU Aj w.BE≤80008:=kn.ws;have k8:=kn.rd;unfold NM N6 Ha;rw[AH (by omega) (by omega),show((w.2.2.2.2.2.2.2.2.1.length:Int)-1)=1 by omega,Av];simp only[AD,As];rcases AM0 (BL a 0 1)with h1|h1
 rotate_left
 ·rw[h1];rfl
 have h1':=Am.1 h1;have hb:0≤a∧a<(w.2.2.2.2.2.2.2.2.1.length:Int):=by omega
 have G4:a.toNat<w.Ac.length:=by
  have:w.Ac.length=2:=h.nN;omega
 have ZN:=h.Ac _ (BU (d:=EG) G4);rw[h1,F9,AOA,AM1 hb,ZA];simp only[show w.2.2.2.2.2.2.2.2.1.getD a.toNat (0,0,[],())=w.Ac.getD a.toNat EG from rfl]
 generalize hx:w.Ac.getD a.toNat EG=r at ZN⊢
 have hre:=ZN.ep;have hro:=ZN.off;rw[IK];simp only[AD];have xI:=wh (k:=k);have hmi:=fun n=>AGk (k:=k) (n:=n)
 rw[←lx]
 generalize hp:Gl r.1 r.2.1=p
 have Te:=fun ns=>xp h (p:=p) (ns:=ns)
 generalize BJ k=ms at xI hmi
 have key:∀(n i:Nat) (b:List A9),i≤ms.length→ms.length-i<n→b.length≤i→b=answers w p (ms.take i)→
   DD n a p ms.length i w.2.1 w.2.2.2.2.2.1 w.2.2.2.2.2.2.2.2.2.2.1 w.1 w.2.2.1 w.2.2.2.1 w.2.2.2.2.1 w.2.2.2.2.2.2.1 w.2.2.2.2.2.2.2.1 w.2.2.2.2.2.2.2.2.1 w.2.2.2.2.2.2.2.2.2.1 r.1 r.2.1 r.2.2.1 b ms=
    some (kv (if(Co (Ae w) (CO w) (cD w r.1) r (answers w p ms)).2≠0 then(w,5)else(w.DC (w.Ac.set a.toNat (Co (Ae w) (CO w) (cD w r.1) r (answers w p ms)).1),0))):=by
  intro n
  induction n with
  |zero=>intro i b _ h;omega
  |succ n ih=>
   intro i b hi hn vU he;simp only[DD,Nx,AB,As];by_cases DL:i<ms.length
   ·have c1:(0:Int)≤(i:Int)∧(i:Int)<(ms.length:Int):=by omega
    have c2:b.length+1≤C7:=by rw[An];omega
    have ht:ms.take (i+1)=ms.take i++[ms[i]]:=ASt DL;rw[AM1 c1.2,AM1 c1,Ah DL,AH (by omega) (by omega),show((i:Int)+1)=((i+1:Nat):Int)by omega,show(w.1,w.2.1,w.2.2.1,w.2.2.2.1,w.2.2.2.2.1,w.2.2.2.2.2.1,w.2.2.2.2.2.2.1,w.2.2.2.2.2.2.2.1,w.2.2.2.2.2.2.2.2.1,w.2.2.2.2.2.2.2.2.2.1,w.2.2.2.2.2.2.2.2.2.2.1,())=w from rfl,af (by omega)];simp only[AD];have hm:=hmi _ (AN7 DL);by_cases hn0:Aq w ms[i]=0
    ·obtain⟨n1,n2,n3⟩:=QZ hn0
     have n2':ms[i]<(w.2.2.1.length:Int):=n2;have n3':w.2.2.2.1.contains ms[i]=false:=by
      rw[ATA,ne_eq,AS_];exact n3
     have hs1:(ms[i]).toNat<w.2.2.1.length:=by omega
     have cC:w.2.2.1.getD (ms[i]).toNat ([],[],0,())=storeAt w ms[i]:=rfl;have hsm:Aj (storeAt w ms[i])≤2^30:=ASY (Ab (f:=Aj) (BU (d:=EF) hs1)) (by omega);have Aa8:B7 (storeAt w ms[i])=true:=DO.2 (h.store hn0);rw[AM1 n2',n3',ANP,AM1 ⟨n1,n2'⟩,cC,show((storeAt w ms[i]).1,(storeAt w ms[i]).2.1,(storeAt w ms[i]).2.2.1,())=storeAt w ms[i]from rfl,UH hsm (h.store hn0).sin];simp only[AD];rw[AM1 c2];refine ih (i+1) _ (by omega) (by omega) (by simp;omega) ?_
     rw[ht,he];unfold answers;rw[AVM,List.map_append];congr 1;rw[ASL,AM1 (by rw[ASo];exact hn0),AUa,ATB,AVg];congr 1;unfold answer YF;rw[AM1 Aa8];cases PL p (storeAt w ms[i]).1<;>rfl
    ·have n1:=ih (i+1) b (by omega) (by omega) (by omega) (by
      rw[ht,he];unfold answers;rw[AVM,List.map_append,ASL,AM2 (by rw[ASo];exact hn0),AUa,AVg,AOC])
     by_cases hl:ms[i]<(w.2.2.1.length:Int)
     ·rw[AM1 hl]
      have AOs:w.2.2.2.1.contains ms[i]=true:=by
       cases hc:w.2.2.2.1.contains ms[i]with
       |true=>rfl
       |false=>
        exfalso
        apply hn0;unfold Aq;have e1:BL ms[i] 0 ((w.BE.length:Int)-1)=true:=Am.2 (by have:(w.BE.length:Int)=w.2.2.1.length:=rfl;omega);have e2:w.lost.contains ms[i]=false:=hc;rw[e1,e2];rfl
      rw[AOs,AOA,n1]
     ·rw[AM2 hl,n1]
   ·have e0:ms.take i=ms:=ASh (by omega)
    rw[e0]at he;subst he;have hal:(answers w p ms).length≤8:=by omega
    rw[AM2 (by omega),show(w.1,w.2.1,w.2.2.1,w.2.2.2.1,w.2.2.2.2.1,w.2.2.2.2.2.1,w.2.2.2.2.2.2.1,w.2.2.2.2.2.2.2.1,w.2.2.2.2.2.2.2.2.1,w.2.2.2.2.2.2.2.2.2.1,w.2.2.2.2.2.2.2.2.2.2.1,())=w from rfl,qR QM,show(r.1,r.2.1,r.2.2.1,())=r from rfl,show(w.1,w.2.1,())=Ae w from rfl,show(w.2.2.2.2.1,w.2.2.2.2.2.1,())=CO w from rfl];simp only[AD];rw[iQ (c:=Ae w) (g:=CO w) (by show w.1.length≤_;omega) (by show AU Bg w.2.2.2.2.1≤_;omega) kn.trim (by omega) (Te ms)];simp only[AD,xc,Ct];by_cases h2:(Co (Ae w) (CO w) (cD w r.1) r (answers w p ms)).2=0
    ·rw[AM1 h2,AM1 hb,AM2 (fun hh=>hh h2)];rfl
    ·rw[AM2 h2,AM1 h2];rfl
 exact key AX 0 [] (by omega) (AZ (by omega)) (by simp) (by simp[answers])
end
end Go.M
end
section
set_option maxRecDepth 8000
namespace Go.M
open Go.M.H (AK AQ A0 Ai AA Cq AO A8 AR Ak Bd A9 BK Aj CB AU AW Ab Ag Bg Ax Ao Au EB CL Cy C_)
theorem qJ{c:CE}{g:AO}{sure:Int}{r:Ak}{l:List A9}(h0:(Co c g sure r l).2=0):
  (∃e:Bd,(Co c g sure r l).1.2.2.1=r.2.2.1++[e]∧e.2.2.1.length≤40)∧r.2.2.1.length<120:=by
 have hf:∀p,(Q9 p (Hb (g.1.getD (r.1-1).toNat G3).1 p none l)).2.2.1.length≤40:=fun p=>by
  cases hb:Hb (g.1.getD (r.1-1).toNat G3).1 p none l with
  |none=>show 0≤40;omega
  |some x=>
   have:=(FY.1 (fK (b:=none) (fun x hx=>by cases hx) x hb)).len;unfold Q9;dsimp only;split
   ·show 0≤40;omega
   ·exact this
 revert h0
 unfold Co;dsimp only;split
 ·intro h0;cases h0
 rename_i hs;simp only[AQV,AQZ,ANN,T_]at hs;have r3:=hs.2.1.n;split
 ·intro h0;cases h0
 rename_i h1;simp only[ASr,AOH,not_or]at h1;have G4:r.2.2.1.length<120:=by omega
 split
 ·intro _;exact⟨⟨_,rfl,by show 0≤40;omega⟩,G4⟩
 split
 ·intro _;exact⟨⟨_,rfl,by show 0≤40;omega⟩,G4⟩
 split
 ·intro h0;cases h0
 split
 ·intro h0;cases h0
 intro _;exact⟨⟨_,rfl,hf _⟩,G4⟩
theorem Nw.ANa{w:AA}(h:Nw w)(hr:AU Au w.Ac≤900000):lF w:=by
 have hc:=(Dl h.cfg).2.1;have dN:w.1.length≤8:=hc;have a1:=Dp (f:=Aj) (B:=10000) (N:=8) (l:=w.BE) (by rw[h.q_];exact hc) fun s hs=>(h.VZ hs).w
 have a2:=GI h.lost;have a3:=h.nj.w;have a4:=Dp (f:=Ao) (B:=3000) h.rr fun x hx=>(h.AN x hx).1.w
 have a5:=Dp (f:=CB) (B:=5000) h.vI fun x hx=>(h.CI x hx).1.w
 have a7:=Dp (f:=EB) (B:=40) h.Rp fun s hs=>(h.Al s hs).2.2
 refine⟨?_,fun s hs=>(h.VZ hs).sin,h.nj.tin,fun m hm=>(h.CI m hm).1.xM,fun s hs=>Gv (h.Al s hs).1⟩;have a3':AU Bg w.BA≤270:=a3;have hr':AU Au w.2.2.2.2.2.2.2.2.1≤900000:=hr;have b1:AU Aj w.2.2.1≤8*(1+10000):=a1;have b2:w.2.2.2.1.length≤8:=a2;have b3:AU Bg w.2.2.2.2.1≤270:=a3;have b4:AU Ao w.2.2.2.2.2.2.1≤4*(1+3000):=a4;have b5:AU CB w.2.2.2.2.2.2.2.1≤1*(1+5000):=a5;have b7:AU EB w.2.2.2.2.2.2.2.2.2.1≤120*(1+40):=a7;unfold Cy;omega
def rR(w:AA)(a:Int):Nat:=(w.Ac.getD a.toNat EG).2.2.1.length
theorem sO{α:Type}{f:α→Nat}{x:α}:∀{l:List α} {i:Nat} (h:i<l.length),AU f (l.set i x)+f l[i]=AU f l+f x
 |y::l,0,_=>by simp[AU];omega
 |y::l,i+1,h=>by
  have:=sO (f:=f) (x:=x) (l:=l) (i:=i) (by simpa using h);simp only[List.set_cons_succ,AU,List.getElem_cons_succ];omega
theorem sB{α:Type}{f:α→Nat}{x:α}:∀{l:List α},AU f (l++[x])=AU f l+(1+f x)
 |[]=>by simp[AU]
 |y::l=>by
  have:=sB (f:=f) (x:=x) (l:=l);simp only[AS0,AU,this];omega
theorem vm{w:AA}{a k:Int}(h:Nw w)(e:(Ha w a k).2=0):BL a 0 1=true∧Nw (Ha w a k).1∧rR (Ha w a k).1 a=rR w a+1∧rR w a<120∧
  rR (Ha w a k).1 (1-a)=rR w (1-a)∧AU Au (Ha w a k).1.Ac≤AU Au w.Ac+41:=by
 have FW:=zG h e;unfold Ha at e FW⊢;split at e
 ·cases e
 rename_i h1;rw[AM2 h1]at FW;rw[AM2 h1];dsimp only at e FW⊢;split at e
 ·cases e
 rename_i h2;rw[AM2 h2]at FW;rw[AM2 h2];simp only[ne_eq,AVv]at h2;simp only[AQV,AQZ]at h1;have h1':=Am.1 h1;have hl:a.toNat<w.Ac.length:=by rw[h.nN];omega
 obtain⟨⟨ev,q1,q2⟩,q3⟩:=qJ h2
 generalize hq:(Co (Ae w) (CO w) (cD w (w.Ac.getD a.toNat EG).1) (w.Ac.getD a.toNat EG) (answers w (HF (w.Ac.getD a.toNat EG).1 (w.Ac.getD a.toNat EG).2.1) (BJ k))).1=q at q1 FW
 have hg:(w.Ac.set a.toNat q).getD a.toNat EG=q:=by simp[List.getD,hl]
 have ea:(1-a).toNat≠a.toNat:=by omega
 refine⟨h1,FW,?_,q3,?_,?_⟩
 ·show((w.Ac.set a.toNat q).getD a.toNat EG).2.2.1.length=_
  rw[hg,q1];simp[rR]
 ·show((w.Ac.set a.toNat q).getD (1-a).toNat EG).2.2.1.length=_
  simp only[List.getD,ASc (Ne.symm ea)];rfl
 ·show AU Au (w.Ac.set a.toNat q)≤_
  have:=sO (f:=Au) (x:=q) hl;have e1:Au q=AU CL q.2.2.1:=rfl;have e2:Au w.Ac[a.toNat]=AU CL w.Ac[a.toNat].2.2.1:=rfl;rw[q1,sB,jW hl]at e1;have e3:CL ev=ev.2.2.1.length:=rfl;omega
structure HR (w v:AA) (a m:Int):Prop where
 ok:Nw v
 win:lF v
 stop:(Ha v a 255).2≠0
 cnt:0≤m∧m≤120
 len:(rR v a:Int)=rR w a+m
 ed:rR v (1-a)=rR w (1-a)
end Go.M
end
section
set_option maxRecDepth 8000
namespace Go.M
open Go.M.H (AK AQ A0 Ai AA Cq AO A8 AR Ak Bd A9 BK Aj CB AU AW Ab Ag Bg Ax Ao Au EB CL Cy C_)
theorem jD{α:Type}{q:Nat}{v l:List α}(hq:q≤l.length)(hl:l.length+v.length≤2^30):vX (q:Int) v l=some (l.take q++v++l.drop q):=by
 unfold vX;rw[AM1 ⟨by omega,by omega,by rw[An];omega⟩,AN4]
theorem vi{l:AAD}(ha:Wf id l)(hl:l.length≤2^30)(p:Int):∃q,jS id p l q∧
  GU l p=some ((((q:Int),(match l[q]? with|some e=>e==p|none=>false),()),()),()):=by
 have key:∀(n a b:Nat),a≤b→b≤l.length→b-a<n→(∀(i:Nat) (h:i<l.length),i<a→l[i]<p)→(∀(i:Nat) (h:i<l.length),b≤i→p≤l[i])→
   ∃q,jS id p l q∧Dq n l p l.length a b=some ((((q:Int),(match l[q]? with|some e=>e==p|none=>false),()),()),()):=by
  intro n
  induction n with
  |zero=>intro a b _ _ h;omega
  |succ n ih=>
   intro a b nu hb hn h1 h2;simp only[Dq,KE,AB,cmp_Less_int,cmp_isNaN_int,Py,bne_self_eq_false,AD,ANP];by_cases G4:a<b
   ·have hm:(a+b)/2<l.length:=by omega
    rw[AM1 (by omega),uK (by omega),AM1 (by omega),Ah hm];by_cases hc:l[(a+b)/2]<p
    ·rw[AM1 hc,AH (by omega) (by omega),show((((a+b)/2:Nat):Int)+1)=(((a+b)/2+1:Nat):Int)by omega]
     refine ih _ b (by omega) hb (by omega) (fun i h hi=> ?_) h2;have:=cL (f:=id) ha h hm (by omega);simp only[id]at this;omega
    ·have uN:∀(i:Nat) (h:i<l.length),(a+b)/2≤i→p≤l[i]:=fun i h hi=>by
      have:=cL (f:=id) ha hm h hi;simp only[id]at this;omega
     rw[AM2 hc];exact ih a _ (by omega) (by omega) (by omega) h1 uN
   ·have AFU:a=b:=by omega
    subst AFU;refine⟨a,⟨hb,h1,h2⟩,?_⟩;rw[AM2 (by omega)];by_cases ha':a<l.length
    ·rw[AM1 (by omega),AM1 (by omega),Ah ha',AM4 ha']
     dsimp only;cases l[a]==p<;>simp[ha']
    ·rw[AM2 (by omega),ASm (by omega)]
 obtain⟨q,hq,e⟩:=key AX 0 l.length (by omega) (by omega) (AZ (by omega)) (fun i h hi=>by omega) (fun i h hi=>by omega);refine⟨q,hq,?_⟩;unfold GU KG;rw[show((0:Nat):Int)=0 from rfl]at e;exact e
theorem oP{x:Int}:∀{l:AAD} {q:Nat},jS id x l q→(∀h:q<l.length,l[q]≠x)→iA x l=l.take q++[x]++l.drop q
 |[],q,h,_=>by
  have:=h.le;have:q=0:=by simpa using this
  subst this;rfl
 |y::l,0,h,hn=>by
  have h1:=h.ge 0 (by simp) (AQQ _);have h2:=hn (by simp);simp only[AT1,id]at h1 h2;simp only[iA];rw[AM1 (by omega)];rfl
 |y::l,q+1,h,hn=>by
  have h1:=h.lt 0 (by simp) (by omega);simp only[AT1,id]at h1;simp only[iA];rw[AM2 (by omega),oP (l:=l) (q:=q) ⟨by have:=h.le;simp at this;omega,fun i hi ye=>by have:=h.lt (i+1) (by simp;omega) (by omega);simpa using this,fun i hi ye=>by have:=h.ge (i+1) (by simp;omega) (by omega);simpa using this⟩ (fun hq=>by have:=hn (by simp;omega);simpa using this)];rfl
theorem Pe{l:AAD}{x:Int}(ha:Wf id l)(hl:l.length≤2^29):LL l x=some (((),()),(N4 x l,())):=by
 unfold LL N4;rw[Du (by omega)];simp only[AD];obtain⟨q,hq,e⟩:=vi ha (by omega) x;rw[e];simp only[AD,As];by_cases hc:q<l.length
 ·rw[AM4 hc]
  dsimp only;by_cases he:l[q]=x
  ·rw[ASo.2 he,AOA,AM1 (by rw[AS_,←he];exact AN7 hc)]
  ·rw[APT.2 he,ANP]
   have hn:l.contains x=false:=by
    rw[ATA,ne_eq,AS_];intro hm;obtain⟨i,hi,rfl⟩:=ASe hm;rcases Nat.lt_or_ge i q with ye|ye
    ·have:=hq.lt i hi ye;simp only[id]at this;omega
    ·have h1:=cL (f:=id) ha hc hi ye
     have h2:=hq.ge q hc (AQQ _);simp only[id]at h1 h2;omega
   rw[hn,AM2 (by simp)];unfold KA;rw[jD (by omega) (by simp;omega),oP hq (fun _=>he)];rfl
 ·rw[ASm (by omega)]
  dsimp only;rw[ANP];have hn:l.contains x=false:=by
   rw[ATA,ne_eq,AS_];intro hm;obtain⟨i,hi,rfl⟩:=ASe hm;have:=hq.lt i hi (by have:=hq.le;omega);simp only[id]at this;omega
  rw[hn,AM2 (by simp)];unfold KA;rw[jD hq.le (by simp;omega),oP hq (fun h=>absurd h hc)];rfl
theorem vt{e:AK}:∀{l:List AK} {q:Nat},jS (fun x:AK=>x.1) e.1 l q→fi l→
  keep e l=if h:q<l.length then(if l[q].1=e.1 then l.set q (better l[q] e)else l.take q++[e]++l.drop q)else l++[e]
 |[],q,h,_=>by
  have:=h.le;have:q=0:=by simpa using this
  subst this;rfl
 |y::l,0,h,_=>by
  have h1:=h.ge 0 (by simp) (AQQ _);simp only[AT1]at h1;simp only[keep,AOX,Nat.zero_lt_succ,AXC,AT1];by_cases he:y.1=e.1
  ·rw[AM1 he,AM1 he];rfl
  ·rw[AM2 he,AM2 he,AM1 (by omega)];rfl
 |y::l,q+1,h,ha=>by
  have h1:=h.lt 0 (by simp) (by omega);simp only[AT1]at h1;have ih:=vt (e:=e) (l:=l) (q:=q) ⟨by have:=h.le;simp at this;omega,fun i hi ye=>by have:=h.lt (i+1) (by simp;omega) (by omega);simpa using this,fun i hi ye=>by have:=h.ge (i+1) (by simp;omega) (by omega);simpa using this⟩ (ASf.1 ha).2;simp only[keep];rw[AM2 (by omega),AM2 (by omega),ih];by_cases hq:q<l.length
  ·rw[dif_pos hq,dif_pos (by simp;omega)]
   simp only[List.getElem_cons_succ];by_cases he:l[q].1=e.1
   ·rw[AM1 he,AM1 he];rfl
   ·rw[AM2 he,AM2 he];rfl
  ·rw[dif_neg hq,dif_neg (by simp;omega)]
   rfl
theorem bR{e:AK}{l:List AK}(ha:fi l)(hl:l.length≤2^29):Xa e l=some (((),()),((),keep e l,())):=by
 unfold Xa;obtain⟨q,hq,hs⟩:=dm ha (by omega) e.1;rw[hs,vt hq ha];simp only[AD,As];by_cases hc:q<l.length
 ·rw[dif_pos hc,AM4 hc]
  dsimp only;have hb:(0:Int)≤(q:Int)∧(q:Int)<(l.length:Int):=by omega
  by_cases he:l[q].1=e.1
  ·rw[ASo.2 he,AOA,AM1 he,AM1 hb,Ah hc,show(l[q].1,l[q].2.1,l[q].2.2.1,l[q].2.2.2.1,())=l[q]from rfl,show(e.1,e.2.1,e.2.2.1,e.2.2.2.1,())=e from rfl,X9]
   simp only[AD];rw[AM1 hb,AN4]
  ·rw[APT.2 he,ANP,AM2 he]
   unfold Dx;rw[jD (by omega) (by simp;omega)];rfl
 ·have hql:q=l.length:=by have:=hq.le;omega
  rw[dif_neg hc,ASm (by omega)];dsimp only;rw[ANP];unfold Dx;rw[jD (by omega) (by simp;omega),hql,List.take_length,AS1,AOC];rfl
theorem Mv{s:AQ}(hw:Aj s≤2^30)(hs:jc s):Dk s=some (if B7 s then((((),(),s.2.2.1,()),()),(s.1,s.2.1,()))else((((),(),0,()),()),([],[],()))):=by
 obtain⟨l1,l2⟩:=F_ hw;unfold Dk;rw[show(s.1,s.2.1,s.2.2.1,())=s from rfl,E7 hw hs,IH l1 l2];simp only[AD];cases B7 s<;>rfl
theorem lM{s:AQ}{e:AK}(hw:Aj s≤2^30)(hs:jc s)(he:CR e.1):Uy s e=some (ia (HM s e)):=by
 obtain⟨l1,l2⟩:=F_ hw;unfold Uy HM;rw[show(s.1,s.2.1,s.2.2.1,())=s from rfl,show(e.1,e.2.1,e.2.2.1,e.2.2.2.1,())=e from rfl,E7 hw hs,Mv hw hs,IH l1 l2,Qp he,E_ he];simp only[AD,As,AB,DB];cases h1:B7 s with
 |false=>rfl
 |true=>
  have FW:=DO.1 h1;have wE:=FW.nl;cases h2:Fy e with
  |false=>rfl
  |true=>
   have hE:=(FY.1 h2).w0;simp only[AOA,AOM,ANZ,ANw,AQS,ASi];have lim:s.2.1.length+1≤C7:=by rw[An];omega
   by_cases h3:s.2.1.length=20
   ·rw[AM1 (by omega),ASg (fun h=>h h3),AVD]
    rfl
   ·rw[AM2 (by omega),AQg (show s.2.1.length≠20 from h3),AS3]
    unfold takes;by_cases h4:e.2.1=0
    ·rw[AM1 h4,AM1 h4]
     by_cases h5:Aw e.1≤s.2.2.1
     ·rw[AM1 h5,ASg (by omega)];rfl
     ·rw[AM2 h5,AM2 (by omega),AM1 lim,AQg (by omega)];rfl
    ·rw[AM2 h4,AM2 h4,AM1 (by omega)]
     by_cases h5:e.2.1≤s.2.2.1
     ·rw[AM1 h5,ASg (by omega)];rfl
     ·rw[AM2 h5,AM1 lim,AQg (by omega)];rfl
theorem X0{s:AQ}{k:Int}(hw:Aj s≤2^30)(hs:jc s):NU s k=some (ia (GA s k)):=by
 obtain⟨l1,l2⟩:=F_ hw;unfold NU T4 GA;rw[show(s.1,s.2.1,s.2.2.1,())=s from rfl,E7 hw hs,Mv hw hs,IH l1 l2,Av];simp only[AD,As];cases h1:B7 s with
 |false=>rfl
 |true=>
  have FW:=DO.1 h1;have wE:=FW.nl;have hnk:=FW.nk;simp only[AOA,ANZ,ANw,AQS,ASi];cases h2:BL k 0 1048575 with
  |false=>rfl
  |true=>
   have hk:=Am.1 h2;have AYb:0≤k∧k<2^63:=by omega
   simp only[AOA,AOM];have key:∀(n i:Nat) (b:List AK),i≤s.2.1.length→s.2.1.length-i<n→b.length≤200+i→fi b→
     Jo n k s.2.1 s.2.1.length i s.1 s.2.1 s.2.2.1 0 [] [] s.2.2.1 b []=
      some (ia (if decide ((EH b (Mg k i (s.2.1.drop i))).length≤200)then((EH b (Mg k i (s.2.1.drop i)),[],s.2.2.1,()),true)else(s,false))):=by
    intro n
    induction n with
    |zero=>intro i b _ h;omega
    |succ n ih=>
     intro i b hi hn hb nu;simp only[Jo,Tv,AB];by_cases hc:i<s.2.1.length
     ·have AA6:=uq AYb (i:=i) (by omega)
      rw[AM1 (by omega),AM1 (by omega),AM2 (by omega),AN4,AA6,AB,jW hc,AH (by omega) (by omega),show((i:Int)+1)=((i+1:Nat):Int)by omega,drop_cons hc];rw[show(s.2.1[i].1,s.2.1[i].2.1,s.2.1[i].2.2.1,s.2.1[i].2.2.2.1,())=s.2.1[i]from rfl,bR nu (by omega)];simp only[AD];rw[show Mg k i (s.2.1[i]::s.2.1.drop (i+1))=if(k/2^i)%2=1 then s.2.1[i]::Mg k (i+1) (s.2.1.drop (i+1))else Mg k (i+1) (s.2.1.drop (i+1))from rfl];by_cases hbt:(k/2^i)%2=1
      ·rw[AM1 hbt,AM1 hbt,ih (i+1) _ (by omega) (by omega) (by have:=(X4 (e:=s.2.1[i]) (l:=b)).1;omega) (dw nu)]
       rfl
      ·rw[AM2 hbt,AM2 hbt,ih (i+1) _ (by omega) (by omega) (by omega) nu]
     ·rw[AM2 (by omega),ANy (by omega),show(s.1,s.2.1,s.2.2.1,())=s from rfl,IH l1 l2]
      simp only[AD,Mg,EH];by_cases hg:b.length≤200
      ·rw[AM2 (by omega),AM1 (AQg hg)];rfl
      ·rw[AM1 (by omega),AM2 (by simpa using hg)];rfl
   have:=key AX 0 s.1 (by omega) (AZ (by omega)) (by omega) FW.u_;rw[APS]at this;exact this
theorem Zu{s:AQ}(hw:Aj s≤2^30)(hs:jc s):PD s=some (ia (Be s)):=by
 unfold PD Be;rw[show(s.1,s.2.1,s.2.2.1,())=s from rfl,X0 hw hs];rfl
theorem jJ{s:AQ}{u:Int}(hw:Aj s≤2^30)(hs:jc s):O3 s u=some (ia (Bo s u)):=by
 unfold O3 Bo;rw[show(s.1,s.2.1,s.2.2.1,())=s from rfl,Zu hw hs,Mv hw hs,Av];simp only[AD,As,ia];cases h1:B7 s with
 |false=>
  have:(Be s).2=false:=by unfold Be GA;rw[h1];rfl
  rw[this];rfl
 |true=>
  simp only[ANZ,ANw,AQS,ASi];cases h2:(Be s).2 with
  |false=>rfl
  |true=>
   cases h3:BL u 0 30 with
   |false=>rfl
   |true=>
    simp only[AOA,Bool.and_self,ASi];rw[show(if u>(Be s).1.2.2.1 then u else(Be s).1.2.2.1)=max (Be s).1.2.2.1 u by rw[Int.max_def];split<;>split<;>omega]
theorem ky{s:AQ}{ep:Int}(hw:Aj s≤2^30)(hs:jc s):QO s ep=some (((),()),(Gf s ep,())):=by
 obtain⟨l1,l2⟩:=F_ hw;unfold QO Wu Gf;rw[show(s.1,s.2.1,s.2.2.1,())=s from rfl,E7 hw hs];simp only[AD,As];cases h1:B7 s with
 |false=>rfl
 |true=>
  have key:∀(n i:Nat) (b:List AK),i≤s.1.length→s.1.length-i<n→b.length≤i→
    Lv n ep s.1 s.1.length i b=some (((),()),(b++(s.1.drop i).filter (fun e=>Aw e.1==ep),())):=by
   intro n
   induction n with
   |zero=>intro i b _ h;omega
   |succ n ih=>
    intro i b hi hn hb;simp only[Lv,Wr,AB];by_cases hc:i<s.1.length
    ·rw[AM1 (by omega),AM1 (by omega),Ah hc,E_ (hs.1 _ (AN7 hc)),AH (by omega) (by omega),show((i:Int)+1)=((i+1:Nat):Int)by omega,drop_cons hc,ASL]
     simp only[AD];rw[AM1 (by rw[An];omega),show(s.1[i].1,s.1[i].2.1,s.1[i].2.2.1,s.1[i].2.2.2.1,())=s.1[i]from rfl,ih (i+1) _ (by omega) (by omega) (by simp;omega),ih (i+1) b (by omega) (by omega) (by omega)];cases Aw s.1[i].1==ep with
     |true=>simp
     |false=>rfl
    ·rw[AM2 (by omega),ANy (by omega)]
     simp
  have:=key AX 0 [] (by omega) (AZ (by omega)) (by simp);rw[show((0:Nat):Int)=0 from rfl,APS,ARU]at this;simp only[AOA,ASi];exact this
end Go.M
end
section
set_option maxRecDepth 8000
namespace Go.M
open Go.M.H (AK AQ A0 Ai AA Cq AO A8 AR Ak Bd A9 BK Aj CB AU AW Ab Ag Bg Ax Ao Au EB CL Cy C_)
theorem wV{x:AK}{t:ABw}:P2 (x.1,x.2.1,x.2.2.1,x.2.2.2.1,()) t=some ((decide (x.1≤t.1),()),()):=rfl
theorem di{t:ACZ}{l:List AK}(hl:l.length≤2^30):Bm t l=some (((),()),((),l.filter (fun x=> !(decide (x.1≤t.1.1))),())):=by
 have key:∀(n i j:Nat) (b:List AK),i≤j→j≤b.length→b.length≤2^30→b.length-j<n→BB n t i j b=some (((),()),((),b.take i++(b.drop j).filter (fun x=> !(decide (x.1≤t.1.1))),())):=by
  intro n
  induction n with
  |zero=>intro i j b _ _ _ h;omega
  |succ n ih=>
   intro i j b hij hj hb hn;simp only[BB,DS,AB];by_cases hc:j<b.length
   ·rw[AM1 (by omega),AM1 (by omega),Ah hc,wV]
    simp only[AD];rw[AH (x:=(j:Int)+1) (by omega) (by omega),AH (x:=(i:Int)+1) (by omega) (by omega),show((j:Int)+1)=((j+1:Nat):Int)by omega,show((i:Int)+1)=((i+1:Nat):Int)by omega,drop_cons hc,ASL];have n1:=ih (i+1) (j+1) (b.set i b[j]) (by omega) (by simp;omega) (by simp;omega) (by simp;omega);have n2:=ih i (j+1) b (by omega) (by omega) hb (by omega);rw[show(t.1,())=t from rfl,n2];rw[AXO (by omega),ASt (by simp;omega),AXP (AQQ _),AXJ,AOK,ASl]at n1;rw[AM1 (by omega),AN4,n1]
    generalize hx:b[j]=x
    cases(decide (x.1≤t.1.1))<;>rfl
   ·rw[AM2 (by omega),ANy (i:=j) (by omega),AN4,AN4]
    have h1:((b.take i++List.replicate (b.length-i) (0,0,false,[],())++b.drop (i+(b.length-i))).length:Int)=b.length:=by simp;omega
    rw[AM1 (by omega),AM1 (by rw[h1];omega)];rw[APS,Nat.sub_zero,AOK,AU7 (by simp;omega),List.take_take,Nat.min_self,AUa,AOC]
 have fnd:∀(n i:Nat),i≤l.length→l.length-i<n→ ∃r:Int,BF n l t l.length i=some ((r,()),())∧((r= -1∧(l.drop i).filter (fun x=> !(decide (x.1≤t.1.1)))=l.drop i)∨ ∃q:Nat,r=q∧i≤q∧q<l.length∧((l.take q).drop i).filter (fun x=> !(decide (x.1≤t.1.1)))=(l.take q).drop i∧ ∀(h:q<l.length) x,x=l[q]→(decide (x.1≤t.1.1))=true):=by
  intro n
  induction n with
  |zero=>intro i _ h;omega
  |succ n ih=>
   intro i hi hn;simp only[BF,DV,AB];by_cases hc:i<l.length
   ·rw[AM1 (by omega),AM1 (by omega),Ah hc,wV]
    simp only[AD];rw[AH (x:=(i:Int)+1) (by omega) (by omega),show((i:Int)+1)=((i+1:Nat):Int)by omega,show(t.1,())=t from rfl];obtain⟨r,e,hr⟩:=ih (i+1) (by omega) (by omega);rw[e]
    generalize hx:l[i]=x
    cases hp:(decide (x.1≤t.1.1))with
    |true=>
     refine⟨i,rfl,.inr ⟨i,rfl,AQQ _,hc,?_,fun h y hy=> ?_⟩⟩
     ·rw[ANy (by simp;omega)];rfl
     ·rw[hy,hx];exact hp
    |false=>
     refine⟨r,rfl,?_⟩;rcases hr with⟨h1,h2⟩|⟨q,h1,h2,h3,h4,h5⟩
     ·refine .inl ⟨h1,?_⟩
      rw[drop_cons hc,ASL,h2,hx,hp];rfl
     ·refine .inr ⟨q,h1,by omega,h3,?_,h5⟩
      have G4:i<(l.take q).length:=by simp;omega
      rw[drop_cons G4,ASL,h4,List.getElem_take,hx,hp];rfl
   ·refine⟨-1,by rw[AM2 (by omega)],.inl ⟨rfl,?_⟩⟩
    rw[ANy (by omega)];rfl
 obtain⟨r,e,hr⟩:=fnd AX 0 (by omega) (AZ (by omega));rw[show((0:Nat):Int)=0 from rfl]at e;unfold Bm DP Cj DU;rw[show(t.1,())=t from rfl,e];simp only[AD];rcases hr with⟨h1,h2⟩|⟨q,h1,h2,h3,h4,h5⟩
 ·rw[h1]
  rw[APS]at h2;rw[h2];rfl
 ·rw[h1,APT.2 (by omega),ANP,AH (by omega) (by omega),show((q:Int)+1)=((q+1:Nat):Int)by omega,key AX q (q+1) l (by omega) (by omega) hl (AZ (by omega))]
  rw[APS]at h4;have hd:=h5 h3 _ rfl;congr 3
  conv=>rhs;rw[←AUN q l,AVM,h4,drop_cons h3,ASL]
  rw[hd];rfl
theorem jn{s:AQ}{u:Int}(hw:Aj s≤2^30)(hs:jc s)(hu:CR u):TA s u=some (ia (JO s u)):=by
 obtain⟨l1,l2⟩:=F_ hw;unfold TA JO;rw[show(s.1,s.2.1,s.2.2.1,())=s from rfl,E7 hw hs,Mv hw hs,IH l1 l2,Qj hu];simp only[AD];cases B7 s with
 |false=>rfl
 |true=>
  cases Bf u with
  |false=>rfl
  |true=>
   rw[di l1];simp only[AD,ANZ,ANP,ANw,AQS,ASi];rw[show(fun x:AK=> !decide (x.1≤(((u,()),()):ACZ).1.1))=fun e=>decide (e.1>u)from funext fun x=>by
    rw[←decide_not,decide_eq_decide]
    show¬x.1≤u↔x.1>u
    omega]
   rfl
theorem zB{p:Int}{n:Nat}:BL (Aw p) 1 n=(Bf p&&decide (Aw p≤n)):=by
 cases h:Bf p with
 |false=>
  unfold Aw;rw[h];rfl
 |true=>
  obtain⟨⟨h1,h2⟩,_⟩:=HD h;unfold BL;rw[AOM,decide_eq_decide];omega
section
variable{c:CE} {r:AO} (hc:c.1.length≤2^40) (hl:AU Bg r.1≤2^30) (ht:CR r.2.1)
include hc hl ht
theorem UD:EM c r=some (if NW c r then((((),r.2.1,()),()),(r.1,()))else((((),0,()),()),([],()))):=by
 unfold EM;rw[show(c.1,c.2.1,())=c from rfl,show(r.1,r.2.1,())=r from rfl,Ns hc hl ht,H9 hl];simp only[AD];cases NW c r<;>rfl
theorem nh{ns:AAD}(hn:ns.length≤2^30):NA c r ns=some (((((),(I4 c r ns).1.2.1,()),(I4 c r ns).2.1,(I4 c r ns).2.2,()),()),((I4 c r ns).1.1,())):=by
 have l1:=AW (f:=Bg) (l:=r.1);unfold NA I4;rw[show(c.1,c.2.1,())=c from rfl,show(r.1,r.2.1,())=r from rfl,Ns hc hl ht,UD hc hl ht,H9 hl,GX hc (by omega),Du hn];simp only[AD];cases NW c r with
 |false=>rfl
 |true=>
  cases holds c ns with
  |false=>rfl
  |true=>
   simp only[ANZ,ANP,ANw,AQS,AOM,ASi];by_cases h30:r.1.length=30
   ·rw[show((r.1.length:Int)==30)=true by simp[h30],show decide (r.1.length≠30)=false by simp[h30]]
    rfl
   ·rw[show((r.1.length:Int)==30)=false by rw[APT];omega,show decide (r.1.length≠30)=true by simp[h30],ANP,AM1 (by rw[An];omega)]
    simp
theorem lr{b last:Int}:QL c r b last=some (pkR (NI c r b last)):=by
 have l1:=AW (f:=Bg) (l:=r.1);unfold QL NI;rw[show(c.1,c.2.1,())=c from rfl,show(r.1,r.2.1,())=r from rfl,Ns hc hl ht,UD hc hl ht,H9 hl,Sf (by omega)];simp only[AD];rcases AM0 (NW c r)with hr|hr
 rotate_left
 ·rw[hr];rfl
 have FW:=KO.1 hr;rw[hr];simp only[ANZ,ANP,ANw,AQS,ASi];by_cases h1:b=r.1.length
 rotate_left
 ·rw[show(b !=(r.1.length:Int))=true by simpa using h1,show decide (b=(r.1.length:Int))=false by simpa using h1]
  rfl
 rw[show(b !=(r.1.length:Int))=false by simpa using h1,show decide (b=(r.1.length:Int))=true by simpa using h1];simp only[ANP,AOM];by_cases h3:b=BG r.1
 ·rw[show(BG r.1==b)=true by simpa using h3.symm,show decide (b≠BG r.1)=false by simpa using h3,ASv,AVD]
  rfl
 have ADl:0<r.1.length:=by
  rcases AWa r.1.length with hz|hz
  ·exact absurd (by rw[h1,hz];unfold BG;rw[hz];rfl) h3
  ·exact hz
 obtain⟨k,k1,k2,k3,k4⟩:=SU FW ADl;rw[show(BG r.1==b)=false by simpa using fun h=>h3 h.symm,show decide (b≠BG r.1)=true by simpa using h3,show decide (BG r.1≠0)=true by rw[k2];exact AQg (by omega),Av];simp only[ANP,AOM,AD];cases BL last 0 60 with
 |false=>rfl
 |true=>
  simp only[ANZ,ANP,ASi];rw[k2,AH (by omega) (by omega),show((k:Int)+1-1)=(k:Int)by omega,AM1 (by omega),AM1 (by rw[ASx];omega),AN4];unfold pkR Oh;simp[List.getD,k1]
theorem nt{p:Int}(hp:CR p):XT c r p=some (pkR (OW c r p)):=by
 unfold XT OW;rw[show(c.1,c.2.1,())=c from rfl,show(r.1,r.2.1,())=r from rfl,Ns hc hl ht,UD hc hl ht,H9 hl,E_ hp];simp only[AD];rw[Av,zB];simp only[AD];cases NW c r with
 |false=>rfl
 |true=>
  cases Bf p&&decide (Aw p≤(r.1.length:Int))with
  |false=>rfl
  |true=>
   simp only[ANZ,ANP,ANw,AQS,ASi];rw[show(if p>r.2.1 then p else r.2.1)=max r.2.1 p by rw[Int.max_def];split<;>split<;>omega];rfl
end
section
variable{c:CE} {w:AR} (hc:c.1.length≤2^40) (hl:AU Ax w.2.1≤2^20)
include hc hl
theorem Wd:EJ c w=some (if Db c w then(((w.1,(),()),()),(w.2.1,()))else(((0,(),()),()),([],()))):=by
 unfold EJ;rw[show(c.1,c.2.1,())=c from rfl,show(w.1,w.2.1,())=w from rfl,JU hc (by omega),Jl (by show AU Ax w.2.1≤2^30;omega)];simp only[AD];cases Db c w<;>rfl
theorem jd{d:AB_}(hd:d.length≤2^20):Jk c w d=some (((((Bq c w d).1.1,(),()),(Bq c w d).2.1,(Bq c w d).2.2,()),()),((Bq c w d).1.2.1,())):=by
 have l1:=AW (f:=Ax) (l:=w.2.1);unfold Jk Bq;rw[show(c.1,c.2.1,())=c from rfl,show(w.1,w.2.1,())=w from rfl,Jl (by show AU Ax w.2.1≤2^30;omega),Wd hc hl];simp only[AD];rw[AM1 (by rw[An];omega),JU hc (by omega),JU hc (by
   show AU Ax (w.2.1++[(d,[],false,())])≤2^30
   rw[JI];simp only[AU,Ax,AQl];omega)]
 simp only[AD];cases Db c w with
 |false=>rfl
 |true=>
  simp only[ANZ,ANP,ANw,AQS];cases Db c (w.1,w.2.1++[(d,[],false,())],())with
  |false=>rfl
  |true=>simp
theorem iw{o n:Int}:S6 c w o n=some (pkW (Rx c w o n)):=by
 have l1:=AW (f:=Ax) (l:=w.2.1);unfold S6 Rx;rw[show(c.1,c.2.1,())=c from rfl,show(w.1,w.2.1,())=w from rfl,JU hc (by omega),Wd hc hl,Jl (by show AU Ax w.2.1≤2^30;omega),Av,Av];simp only[AD];rcases AM0 (Db c w)with hw|hw
 rotate_left
 ·rw[hw];rfl
 have FW:=Ix.1 hw;have yp:=Dl FW.cfg;rw[hw,AH (x:=(c.1.length:Int)-1) (by omega) (by omega)];simp only[ANZ,ANP,ANw,AQS,ASi];rcases AM0 (BL o 1 (w.2.1.length:Int))with ho|ho
 rotate_left
 ·rw[ho];rfl
 have xK:=Am.1 ho;rw[ho];have hi:(o-1).toNat<w.2.1.length:=by omega
 have wD:w.2.1.getD (o-1).toNat Ma∈w.2.1:=BU (d:=Ma) hi;have hm:(w.2.1.getD (o-1).toNat Ma).1.length+(w.2.1.getD (o-1).toNat Ma).2.1.length≤AU Ax w.2.1:=Ab (f:=Ax) wD;have ACy:=(En.1 (FW.words _ wD).2.1).2.2;simp only[ANZ,ANP,AOM];rw[AH (x:=o-1) (by omega) (by omega),AM1 (by omega)]
 show cond (w.2.1.getD (o-1).toNat Ma).2.2.1 _ _=_
 cases(w.2.1.getD (o-1).toNat Ma).2.2.1 with
 |true=>
  cases BL n 0 ((c.1.length:Int)-1)<;>rfl
 |false=>
  cases BL n 0 ((c.1.length:Int)-1)with
  |false=>rfl
  |true=>
   simp only[ANP,ASd,ASi,ANZ,Bool.and_self];rw[AM1 (by omega),show(w.2.1.getD (o-1).toNat ([],[],false,())).2.1=(w.2.1.getD (o-1).toNat Ma).2.1 from rfl,Pe ACy (by omega)];simp only[AD];have hg:∀x:A8,(w.2.1.set (o-1).toNat x).getD (o-1).toNat ([],[],false,())=x:=fun x=>Ni hi
   rw[hg,GX hc (by
    simp only;have:=TQ (n:=n) (l:=(w.2.1.getD (o-1).toNat Ma).2.1);omega)]
   simp only[AD];rw[AW6];rfl
theorem eY{n:Int}:OM c w n=some (pkW (CD c w n)):=by
 have l1:=AW (f:=Ax) (l:=w.2.1);unfold OM Rv CD;rw[show(c.1,c.2.1,())=c from rfl,show(w.1,w.2.1,())=w from rfl,JU hc (by omega),Jl (by show AU Ax w.2.1≤2^30;omega)];simp only[AD];cases Db c w with
 |false=>rfl
 |true=>
  simp only[ANZ,ANP,ANw,AQS];have key:∀(k i:Nat),i≤w.2.1.length→w.2.1.length-i<k→H6 k n w.2.1 w.2.1.length i 0 [] w.1 ((w.2.1.map (Et n)).take i++w.2.1.drop i)=some (pkW ((w.1,w.2.1.map (Et n),()),true)):=by
   intro k
   induction k with
   |zero=>intro i _ h;omega
   |succ k ih=>
    intro i hi hk;have hlen:((w.2.1.map (Et n)).take i++w.2.1.drop i).length=w.2.1.length:=OI hi;simp only[H6,RZ,AB,hlen];by_cases DL:i<w.2.1.length
    ·have c1:(0:Int)≤(i:Int)∧(i:Int)<(w.2.1.length:Int):=by omega
     have hm:w.2.1[i].1.length+w.2.1[i].2.1.length≤AU Ax w.2.1:=Ab (f:=Ax) (AN7 DL);have hg:((w.2.1.map (Et n)).take i++w.2.1.drop i).getD ((i:Int).toNat) ([],[],false,())=w.2.1[i]:=NL DL;rw[AM1 c1.2];simp only[AM1 c1,hg];rw[Ah DL,AH (by omega) (by omega),show((i:Int)+1)=((i+1:Nat):Int)by omega];rcases AM0 (w.2.1[i].2.2.1)with hd|hd
     ·rw[hd]
      simp only[ANZ,ANP];have:=ih (i+1) (by omega) (by omega);rw[←ig DL (mf hd)]at this;exact this
     ·rw[hd]
      simp only[ASd,AOA];rw[QF (by omega)];simp only[AD];have:=ih (i+1) (by omega) (by omega);rw[AN4,Qn DL (by simp[Et,hd])];exact this
    ·rw[AM2 (by omega),ANy (by omega)]
     have:i=w.2.1.length:=by omega
     subst this;rw[AOC,ASh (by simp)];rfl
  have:=key AX 0 (by omega) (AZ (by omega));simpa using this
end
end Go.M
end
section
set_option maxRecDepth 8000
namespace Go.M
open Go.M.H (AK AQ A0 Ai AA Cq AO A8 AR Ak Bd A9 BK Aj AU AW Ab Ag Bg Ax Ao CB C_)
section
variable{c:CE} {m:A0} (hc:c.1.length≤2^40) (hm:CB m≤2^20) (h:fl m.2.2.2.1)
include hc hm h
theorem TK:El c m=some (if GV c m then(((m.1,m.2.1,(),(),m.2.2.2.2.1,(),()),()),(m.2.2.1,m.2.2.2.1,m.2.2.2.2.2.1,()))else(((0,0,(),(),false,(),()),()),([],[],[],()))):=by
 unfold El;rw[show(c.1,c.2.1,())=c from rfl,show(m.1,m.2.1,m.2.2.1,m.2.2.2.1,m.2.2.2.2.1,m.2.2.2.2.2.1,())=m from rfl,Ht hc (by omega) h,Hh (by omega)];simp only[AD];cases GV c m<;>rfl
theorem nK{o n:Int}:P1 c m o n=some (gF (Sm c m o n)):=by
 obtain⟨h1,h2,h3,h4⟩:=Hf hm;unfold P1 Sm;rw[show(c.1,c.2.1,())=c from rfl,show(m.1,m.2.1,m.2.2.1,m.2.2.2.1,m.2.2.2.2.1,m.2.2.2.2.2.1,())=m from rfl,Ht hc (by omega) h,TK hc hm h,Hh (by omega),Av,Av];simp only[AD];rcases AM0 (GV c m)with hw|hw
 rotate_left
 ·rw[hw];rfl
 have FW:=Gg.1 hw;have yp:=Dl FW.cfg;rw[hw,AH (x:=(c.1.length:Int)-1) (by omega) (by omega)];simp only[ANZ,ANP,ANw,AQS,ASi];rcases AM0 (BL o 1 (m.2.2.2.2.2.1.length:Int))with ho|ho
 rotate_left
 ·rw[ho];rfl
 have xK:=Am.1 ho;rw[ho];cases BL n 0 ((c.1.length:Int)-1)with
 |false=>rfl
 |true=>
  have hi:(o-1).toNat<m.2.2.2.2.2.1.length:=by omega
  have wD:=BU (d:=([]:AAD)) hi;have hq:=h4 _ wD;have ACy:=(En.1 (FW.wrote _ wD)).2.2;simp only[ANZ,ANP,AOM,ASi];rw[AH (by omega) (by omega),AM1 (by omega),Pe ACy (by omega)];simp only[AD];rw[AM1 (by omega)];rfl
theorem iF{n:Int}:Ql c m n=some (gF (CA c m n)):=by
 obtain⟨h1,h2,h3,h4⟩:=Hf hm;unfold Ql Tx CA;rw[show(c.1,c.2.1,())=c from rfl,show(m.1,m.2.1,m.2.2.1,m.2.2.2.1,m.2.2.2.2.1,m.2.2.2.2.2.1,())=m from rfl,Ht hc (by omega) h,Hh (by omega)];simp only[AD];cases GV c m with
 |false=>rfl
 |true=>
  simp only[ANZ,ANP,ANw,AQS];have key:∀(k i:Nat),i≤m.2.2.2.2.2.1.length→m.2.2.2.2.2.1.length-i<k→J2 k n m.2.2.2.2.2.1 m.2.2.2.2.2.1.length i 0 0 false [] [] [] m.1 m.2.1 m.2.2.2.2.1 m.2.2.1 m.2.2.2.1 ((m.2.2.2.2.2.1.map (fun l=>less l [n])).take i++m.2.2.2.2.2.1.drop i)=
    some (gF ((m.1,m.2.1,m.2.2.1,m.2.2.2.1,m.2.2.2.2.1,m.2.2.2.2.2.1.map (fun l=>less l [n]),()),true)):=by
   intro k
   induction k with
   |zero=>intro i _ h;omega
   |succ k ih=>
    intro i hi hk;have hlen:=OI (f:=fun l=>less l [n]) hi;simp only[J2,Tt,AB,hlen];by_cases DL:i<m.2.2.2.2.2.1.length
    ·have c1:(0:Int)≤(i:Int)∧(i:Int)<(m.2.2.2.2.2.1.length:Int):=by omega
     have hq:=h4 _ (AN7 DL);rw[AM1 c1.2];simp only[AM1 c1];rw[Ah DL,AH (by omega) (by omega),show((i:Int)+1)=((i+1:Nat):Int)by omega,QF (by omega)];simp only[AD];rw[AN4,Qn DL rfl];exact ih (i+1) (by omega) (by omega)
    ·rw[AM2 (by omega),ANy (by omega)]
     have:i=m.2.2.2.2.2.1.length:=by omega
     subst this;rw[AOC,ASh (by simp)];rfl
  have:=key AX 0 (by omega) (AZ (by omega));simpa using this
theorem jV:O4 c m=some ((UP c m,()),()):=by
 obtain⟨h1,h2,h3,h4⟩:=Hf hm;unfold O4 Vh UP;rw[show(c.1,c.2.1,())=c from rfl,show(m.1,m.2.1,m.2.2.1,m.2.2.2.1,m.2.2.2.2.1,m.2.2.2.2.2.1,())=m from rfl,Ht hc (by omega) h];simp only[AD];cases GV c m with
 |false=>rfl
 |true=>
  rcases AM0 m.2.2.2.2.1 with hp|hp
  rotate_left
  ·rw[hp];rfl
  have key:∀(k i:Nat),i≤m.2.2.2.2.2.1.length→m.2.2.2.2.2.1.length-i<k→K6 k m.2.2.2.2.2.1 m.2.2.2.2.2.1.length i c.1 c.2.1=some (((m.2.2.2.2.2.1.drop i).all (holds c),()),()):=by
   intro k
   induction k with
   |zero=>intro i _ h;omega
   |succ k ih=>
    intro i hi hk;simp only[K6,Vl,AB];by_cases DL:i<m.2.2.2.2.2.1.length
    ·have c1:(0:Int)≤(i:Int)∧(i:Int)<(m.2.2.2.2.2.1.length:Int):=by omega
     have hq:=h4 _ (AN7 DL);rw[AM1 c1.2,AM1 c1,AH (by omega) (by omega),show((i:Int)+1)=((i+1:Nat):Int)by omega,Ah DL,drop_cons DL,show(c.1,c.2.1,())=c from rfl,GX hc (by omega),ih (i+1) (by omega) (by omega)];simp only[AD,AS4];cases holds c m.2.2.2.2.2.1[i]<;>rfl
    ·rw[AM2 (by omega),ANy (by omega)]
     rfl
  have:=key AX 0 (by omega) (AZ (by omega));rw[show((0:Nat):Int)=0 from rfl,APS]at this;rw[this,hp];rfl
omit hc h in
theorem ZT{o:Int}:Jz m o=some ((((EL m o).getD Dt,(EL m o).isSome,()),()),()):=by
 obtain⟨h1,h2,h3,h4⟩:=Hf hm;unfold Jz VI EL;rw[IK];simp only[AD];cases m.2.2.2.2.1 with
 |false=>
  simp only[ASv,ANw,AQS,ASd,AOA];cases(BL m.2.1 1 30&&BL o 1 60)<;>rfl
 |true=>
  simp only[ANZ,ANP,AOM];rcases AM0 (BL m.2.1 1 30)with he|he
  rotate_left
  ·rw[he];rfl
  rcases AM0 (BL o 1 60)with ho|ho
  rotate_left
  ·rw[he,ho];rfl
  have hp:Gl m.2.1 o=HF m.2.1 o:=by unfold Gl;rw[he,ho];rfl
  rw[he,ho,hp];simp only[AS3,ANZ,ANP,AOM];by_cases hl:o≤m.2.2.2.2.2.1.length
  ·rw[show decide (o>(m.2.2.2.2.2.1.length:Int))=false by simpa using hl,show decide (o≤(m.2.2.2.2.2.1.length:Int))=true by simpa using hl]
   simp only[ANP,ASi];have key:∀(k i:Nat),i≤m.2.2.2.1.length→m.2.2.2.1.length-i<k→Ki k (HF m.2.1 o) m.2.2.2.1 m.2.2.2.1.length i m.1 m.2.1 m.2.2.1 m.2.2.2.1 true m.2.2.2.2.2.1 0 0 false []=
     some ((((match PL (HF m.2.1 o) (m.2.2.2.1.drop i)with
      |some x=>(HF m.2.1 o,m.1,x.2.2.1,x.2.2.2.1,())
      |none=>(HF m.2.1 o,m.1,true,[],())),true,()),()),()):=by
    intro k
    induction k with
    |zero=>intro i _ h;omega
    |succ k ih=>
     intro i hi hk;simp only[Ki,U_,AB];by_cases DL:i<m.2.2.2.1.length
     ·have c1:(0:Int)≤(i:Int)∧(i:Int)<(m.2.2.2.1.length:Int):=by omega
      rw[AM1 c1.2,AM1 c1,AH (by omega) (by omega),show((i:Int)+1)=((i+1:Nat):Int)by omega,Ah DL,drop_cons DL,ih (i+1) (by omega) (by omega)];unfold PL;rw[AWX];cases hx:m.2.2.2.1[i].1==HF m.2.1 o<;>rfl
     ·rw[AM2 (by omega),ANy (by omega)]
      rfl
   have:=key AX 0 (by omega) (AZ (by omega));rw[show((0:Nat):Int)=0 from rfl,APS]at this;rw[this];cases PL (HF m.2.1 o) m.2.2.2.1<;>rfl
  ·rw[show decide (o>(m.2.2.2.2.2.1.length:Int))=true by simp;omega,show decide (o≤(m.2.2.2.2.2.1.length:Int))=false by simp;omega]
   rfl
theorem lh{s:AAD}(hs:s.length≤2^20):QW c m s=some (gF (MH c m s)):=by
 obtain⟨h1,h2,h3,h4⟩:=Hf hm;unfold QW MH;rw[show(c.1,c.2.1,())=c from rfl,show(m.1,m.2.1,m.2.2.1,m.2.2.2.1,m.2.2.2.2.1,m.2.2.2.2.2.1,())=m from rfl,Ht hc (by omega) h,TK hc hm h,Hh (by omega),cq (by omega) h];simp only[AD];rcases AM0 (GV c m)with FW|FW
 rotate_left
 ·rw[FW];rfl
 have hmo:=Gg.1 FW;rw[FW];simp only[ASi];rcases AM0 m.2.2.2.2.1 with hp|hp
 ·rw[hp]
  simp only[ANZ,ANP,AOA,ASv,ANw,AQS,gF,hp]
 have xO:(m.2.2.1.filter s.contains).length≤m.2.2.1.length:=ASZ _ _;rw[hp];simp only[ANZ,ASd,ANP,ANw,AQS,AOM];rw[b_ (by omega) (by omega)];simp only[AD];rw[eJ hc (by omega) hs];simp only[AD];cases Q5 c s (m.2.2.1.filter s.contains)with
 |false=>simp[gF,hp]
 |true=>
  simp only[ANZ,ANP,ASi];have hlb:=Hj (l:=m.2.2.2.1);rw[AM1 ⟨hlb.1,Int.le_refl _,by rw[An];omega⟩];rfl
theorem lj{n:Int}{l:List AK}(hl:l.length≤2^20)(Te:fl l)(hw:AU Ag l≤2^20):QT c m n l=some (gF (O7 c m n l)):=by
 obtain⟨h1,h2,h3,h4⟩:=Hf hm;unfold QT Wj O7;rw[show(c.1,c.2.1,())=c from rfl,show(m.1,m.2.1,m.2.2.1,m.2.2.2.1,m.2.2.2.2.1,m.2.2.2.2.2.1,())=m from rfl,Ht hc (by omega) h,TK hc hm h,Hh (by omega)];simp only[AD];rcases AM0 (GV c m)with FW|FW
 rotate_left
 ·rw[FW];rfl
 have hmo:=Gg.1 FW;have ACy:=(En.1 hmo.sld).2.2;rw[FW];simp only[ANZ,ANP,ANw,AQS,ASi];rcases AM0 m.2.2.2.2.1 with hp|hp
 ·rw[hp]
  simp[gF,hp]
 rw[hp,Pe ACy (by omega)];simp only[AD,ANP,ASd,AOM];have key:∀(k i:Nat) (b:List AK),i≤l.length→l.length-i<k→b.length≤2^20+i→fi b→fl b→AU Ag b+AU Ag (l.drop i)≤2^21→
   MR k l l.length i c.1 c.2.1 m.1 m.2.1 m.2.2.1 m.2.2.2.1 false m.2.2.2.2.2.1 0 0 false [] [] [] m.1 m.2.1 false (N4 n m.2.2.1) b m.2.2.2.2.2.1=
   some (gF (if GV c (m.1,m.2.1,N4 n m.2.2.1,EH b ((l.drop i).filter fun e=>Aw e.1==m.2.1),false,m.2.2.2.2.2.1,())then
    ((m.1,m.2.1,N4 n m.2.2.1,EH b ((l.drop i).filter fun e=>Aw e.1==m.2.1),false,m.2.2.2.2.2.1,()),true)else(m,false))):=by
  intro k
  induction k with
  |zero=>intro i b _ h;omega
  |succ k ih=>
   intro i b hi hk hb nu yt qT;simp only[MR,WN,AB];by_cases DL:i<l.length
   ·have c1:(0:Int)≤(i:Int)∧(i:Int)<(l.length:Int):=by omega
    rw[AM1 c1.2];simp only[AM1 c1];rw[AH (by omega) (by omega),show((i:Int)+1)=((i+1:Nat):Int)by omega,Ah DL,drop_cons DL,show(l[i].1,l[i].2.1,l[i].2.2.1,l[i].2.2.2.1,())=l[i]from rfl,E_ (Te _ (AN7 DL)),bR nu (by omega)];rw[drop_cons DL]at qT;simp only[AU]at qT;simp only[AD,ASL];rcases AM0 (Aw l[i].1==m.2.1)with he|he
    ·simp only[he,AOA,ASi,EH]
     have:=X4 (e:=l[i]) (l:=b);have hwk:=yU l[i] b;exact ih (i+1) _ (by omega) (by omega) (by omega) (dw nu) (fun x hx=>by
      rcases eL hx with rfl|hx
      ·exact Te _ (AN7 DL)
      ·exact yt x hx) (by omega)
    ·simp only[he,ANP,ANw,AQS]
     exact ih (i+1) _ (by omega) (by omega) (by omega) nu yt (by omega)
   ·rw[AM2 (by omega),ANy (by omega),show(c.1,c.2.1,())=c from rfl,Hh (m:=(m.1,m.2.1,m.2.2.1,m.2.2.2.1,false,m.2.2.2.2.2.1,())) (by
     have:CB (m.1,m.2.1,m.2.2.1,m.2.2.2.1,false,m.2.2.2.2.2.1,())=CB m:=rfl;omega)]
    simp only[AUa,EH];rw[ANy (by omega)]at qT;simp only[AU]at qT;have xu:=TQ (n:=n) (l:=m.2.2.1);have hb2:=AW (f:=Ag) (l:=b);rw[Ht (m:=(m.1,m.2.1,N4 n m.2.2.1,b,false,m.2.2.2.2.2.1,())) hc (by
     have Yi:=hm;unfold CB at Yi⊢;simp only at Yi⊢;omega) yt]
    simp only[AD];cases GV c (m.1,m.2.1,N4 n m.2.2.1,b,false,m.2.2.2.2.2.1,())with
    |false=>simp[gF,hp]
    |true=>rfl
 have hsw:AU Ag m.2.2.2.1≤2^20:=by
  have Yi:=hm;unfold CB at Yi;omega
 have:=key AX 0 m.2.2.2.1 (by omega) (AZ (by omega)) (by omega) hmo.u_ h (by rw[APS];omega);rw[show((0:Nat):Int)=0 from rfl,APS]at this;exact this
end
end Go.M
end
section
set_option maxRecDepth 8000
namespace Go.M
open Go.M.H (AK AQ A0 Ai AA Cq AO A8 AR Ak Bd A9 BK Aj AU AW Ab Ag Bg Ax Ao CB C_)
theorem qO{c:CE}{l:AAD}(hc:c.1.length≤2^20)(hl:l.length≤2^20):Za c l=some ((A4 c l&& !holds c l,()),()):=by
 unfold Za;rw[show(c.1,c.2.1,())=c from rfl,EC (by omega) (by omega),GX (by omega) (by omega)];simp only[AD];cases A4 c l<;>cases holds c l<;>rfl
theorem rW{ss:List AQ}(hs:ss.length≤1024)(h:∀s∈ss,s.1.length≤1024)(hw:∀s∈ss,Aj s≤2^30)(Te:∀s∈ss,jc s)(FW:∀s∈ss,B7 s=true):iP ss=some (((),()),(Gr [] ss,())):=by
 have key:∀n:Nat,
   (∀(i:Nat) (b:List AK),i≤ss.length→(ss.length-i)*1026+1≤n→b.length≤i*1024→fi b→
    Nb n ss ss.length i b=some (((),()),(Gr b (ss.drop i),())))∧
   (∀(i j:Nat) (b:List AK),(hi:i<ss.length)→j≤ss[i].1.length→(ss.length-i-1)*1026+1+(ss[i].1.length-j)+1≤n→b.length≤i*1024+j→fi b→
    NZ n ss ss.length i ss[i].1 ss[i].1.length j b=some (((),()),(Gr (EH b (ss[i].1.drop j)) (ss.drop (i+1)),()))):=by
  intro n
  induction n with
  |zero=>exact⟨fun i b _ h=>by omega,fun i j b _ _ h=>by omega⟩
  |succ n ih=>
   refine⟨fun i b hi h' hb nu=> ?_,fun i j b hi hj h' hb nu=> ?_⟩
   ·simp only[Nb,aY,AB]
    by_cases hc:i<ss.length
    ·have hmm:=AN7 hc
     have hm:=h _ hmm;rw[AM1 (by omega),AM1 (by omega),Ah hc,show(ss[i].1,ss[i].2.1,ss[i].2.2.1,())=ss[i]from rfl,E7 (hw _ hmm) (Te _ hmm),FW _ hmm];have e1:(ss.length-i)*1026=(ss.length-i-1)*1026+1026:=by
      rw[show ss.length-i=(ss.length-i-1)+1 by omega,ASz];simp
     have:=ih.2 i 0 b hc (by omega) (by omega) (by omega) nu;rw[show((0:Nat):Int)=0 from rfl,APS]at this;simp only[AD,ANZ,ANP];rw[this,drop_cons hc];rfl
    ·rw[AM2 (by omega),ANy (by omega)]
     rfl
   ·have hm:=h _ (AN7 hi)
    simp only[NZ,bM,AB];have hbb:i*1024≤2^20:=by
     have:i*1024≤1024*1024:=APC _ (by omega);omega
    by_cases hc:j<ss[i].1.length
    ·have c2:(0:Int)≤(j:Int)∧(j:Int)<(ss[i].1.length:Int):=by omega
     rw[AM1 c2.2,AM1 c2,Ah hc,show(ss[i].1[j].1,ss[i].1[j].2.1,ss[i].1[j].2.2.1,ss[i].1[j].2.2.2.1,())=ss[i].1[j]from rfl,bR nu (by omega)];simp only[AD];rw[AH (by omega) (by omega),show((j:Int)+1)=((j+1:Nat):Int)by omega,drop_cons hc];have hk:=X4 (e:=ss[i].1[j]) (l:=b);exact ih.2 i (j+1) _ hi (by omega) (by omega) (by omega) (dw nu)
    ·rw[AM2 (by omega),AH (by omega) (by omega),show((i:Int)+1)=((i+1:Nat):Int)by omega,ANy (by omega)]
     exact ih.1 (i+1) b (by omega) (by rw[show ss.length-(i+1)=ss.length-i-1 by omega];omega) (by rw[ASz];omega) nu
 have hf:(ss.length-0)*1026+1≤AX:=by
  have:ss.length*1026≤1024*1026:=APC _ hs;exact ATE (AZ (by omega))
 exact(key AX).1 0 [] (by omega) hf (by simp) List.Pairwise.nil
theorem uj{c:CE}{ss:List AQ}{lost:AAD}{n upto:Int}(hc:c.1.length≤2^20)(hs:ss.length≤1024)(hn:∀s∈ss,s.1.length≤1024)(hw:AU Aj ss≤2^24)(Te:∀s∈ss,jc s)(hl:lost.length≤2^20):
  ax c lost n upto ss=some (pkF ss (aw c ss lost n upto)):=by
 have hfs:aw c ss lost n upto=xH (F6 c&&(decide (ss.length=c.1.length)&&(A4 c lost&&(!holds c lost&&(lost.contains n&&((others lost 0 ss).all B7&&B7 (Gr [] (others lost 0 ss),[],upto,()))))))) (Gr [] (others lost 0 ss),[],upto,()):=rfl;rw[hfs];unfold ax cV;rw[show(c.1,c.2.1,())=c from rfl,qO hc hl,JC (by omega)];simp only[AD,As,Ct];have key:∀(k i:Nat) (o:List AQ),(∀s∈o,s∈ss)→(∀s∈o,B7 s=true)→i≤ss.length→ss.length-i<k→o.length≤i→AU Aj o+AU Aj (ss.drop i)≤2^24→
   Sp k lost upto ss.length i ss 0 [] [] o=some (pkF ss (xH ((others lost i (ss.drop i)).all B7&&B7 (Gr [] (o++others lost i (ss.drop i)),[],upto,())) (Gr [] (o++others lost i (ss.drop i)),[],upto,()))):=by
  intro k
  induction k with
  |zero=>intro i o _ _ _ h;omega
  |succ k ih=>
   intro i o ho FW hi h hol how;simp only[Sp,ct,AB,As];by_cases DL:i<ss.length
   ·have c1:(0:Int)≤(i:Int)∧(i:Int)<(ss.length:Int):=by omega
    have c2:o.length+1≤C7:=by rw[An];omega
    have hmm:=AN7 DL;have AfU:=Ab (f:=Aj) hmm;rw[drop_cons DL]at how;simp only[AU]at how;rw[AM1 c1.2,AM1 c1,JC (by omega),Ah DL,show(ss[i].1,ss[i].2.1,ss[i].2.2.1,())=ss[i]from rfl,E7 (by omega) (Te _ hmm),AH (by omega) (by omega),show((i:Int)+1)=((i+1:Nat):Int)by omega];simp only[AD];rw[drop_cons DL];simp only[others];rcases AM0 (lost.contains (i:Int))with hb|hb
    ·rw[hb]
     simp only[AOA,ASi];exact ih (i+1) o ho FW (by omega) (by omega) (by omega) (by omega)
    ·rw[hb]
     simp only[ANP,ANw,AQS];rcases AM0 (B7 ss[i])with hg|hg
     ·rw[hg]
      simp only[AOA,AS4,hg,AOM];rw[AM1 c2,ih (i+1) (o++[ss[i]]) (fun s hs=>by
       rcases AOk.1 hs with hs|hs
       ·exact ho s hs
       ·rw[ARu.1 hs];exact hmm) (fun s hs=>by
       rcases AOk.1 hs with hs|hs
       ·exact FW s hs
       ·rw[ARu.1 hs];exact hg) (by omega) (by omega) (by simp;omega) (by rw[JI];simp only[AU];omega)]
      simp only[AOK,ASl]
     ·rw[hg]
      simp only[ANP,AS4,hg,ASv];rfl
   ·have hu:=xk (l:=o) (k:=[])
    simp only[AU]at hu;have Adc:AU Aj o≤2^24:=by omega
    rw[AM2 (by omega),ANy (by omega),rW (by omega) (fun s hs=>hn s (ho s hs)) (fun s hs=>by have:=Ab (f:=Aj) hs;omega) (fun s hs=>Te s (ho s hs)) FW];simp only[AD,others,AOC,List.all_nil,AOM];rw[E7 (s:=(Gr [] o,[],upto,())) (by show AU Ag (Gr [] o)+AU Ag []≤_;simp only[AU];omega) ⟨fun e he=>by
     rcases ke he with he|⟨t,ht,he⟩
     ·simp at he
     ·exact(Te t (ho t ht)).1 e he,fun e he=>by simp at he⟩]
    simp only[AD];rcases AM0 (B7 (Gr [] o,[],upto,()))with hb|hb<;>rw[hb]<;>rfl
 have:=key AX 0 [] (by simp) (by simp) (by omega) (AZ (by omega)) (by simp) (by simpa[AU]using hw);rw[show((0:Nat):Int)=0 from rfl,APS,ARU]at this;rw[this];rcases AM0 (A4 c lost)with h1|h1
 rotate_left
 ·rw[h1]
  by_cases h2:ss.length=c.1.length
  ·rw[AM1 (by omega)]
   simp only[ASv,AVD,ANP];rfl
  ·rw[AM2 (by omega)]
   simp only[ASv,AVD];rfl
 have yp:F6 c=true:=(En.1 h1).1;rw[h1,yp];simp only[AOM];by_cases h2:ss.length=c.1.length
 rotate_left
 ·rw[AM2 (by omega),ASg h2]
  rfl
 rw[AM1 (by omega),AQg h2];simp only[AOM];cases holds c lost with
 |true=>rfl
 |false=>
  cases lost.contains n with
  |false=>rfl
  |true=>rfl
end Go.M
end
section
set_option maxRecDepth 8000
namespace Go.M
open Go.M.H (AK AQ A0 Ai AA Cq AO A8 AR Ak Bd A9 BK Aj CB AU AW Ab Ag Bg Ax Ao Au EB CL Cy C_)
def AX8(q:AA×Int):Zm:=((q.2,()),(((),q.1.2.1,(),(),(),q.1.2.2.2.2.2.1,(),(),(),(),q.1.2.2.2.2.2.2.2.2.2.2.1,()),q.1.1,q.1.2.2.1,q.1.2.2.2.1,(),(),(),q.1.2.2.2.2.2.2.2.2.1,q.1.2.2.2.2.2.2.2.2.2.1,q.1.2.2.2.2.1,q.1.2.2.2.2.2.2.1,q.1.2.2.2.2.2.2.2.1,()))
def AV8(q:AA×Int):ai:=((q.2,()),(((),q.1.2.1,(),(),(),q.1.2.2.2.2.2.1,(),(),(),(),q.1.2.2.2.2.2.2.2.2.2.2.1,()),q.1.1,q.1.2.2.1,q.1.2.2.2.1,q.1.2.2.2.2.1,q.1.2.2.2.2.2.2.1,q.1.2.2.2.2.2.2.2.1,q.1.2.2.2.2.2.2.2.2.1,(),q.1.2.2.2.2.2.2.2.2.2.1,()))
def ALk(q:AA×Int):Gq:=((q.2,()),(((),q.1.2.1,(),(),(),q.1.2.2.2.2.2.1,(),(),(),(),q.1.2.2.2.2.2.2.2.2.2.2.1,()),q.1.1,q.1.2.2.1,(),q.1.2.2.2.2.1,q.1.2.2.2.2.2.2.1,q.1.2.2.2.2.2.2.2.1,q.1.2.2.2.2.2.2.2.2.1,q.1.2.2.2.2.2.2.2.2.2.1,q.1.2.2.2.1,()))
def AZv(q:AA×Int):Zh:=((q.2,()),(((),q.1.2.1,(),(),(),q.1.2.2.2.2.2.1,(),(),(),(),q.1.2.2.2.2.2.2.2.2.2.2.1,()),q.1.1,q.1.2.2.1,q.1.2.2.2.1,q.1.2.2.2.2.1,q.1.2.2.2.2.2.2.1,(),q.1.2.2.2.2.2.2.2.2.1,q.1.2.2.2.2.2.2.2.2.2.1,q.1.2.2.2.2.2.2.2.1,()))
def AZa(q:AA×Int):Yh:=((q.2,()),(((),q.1.2.1,(),(),(),q.1.2.2.2.2.2.1,(),(),(),(),q.1.2.2.2.2.2.2.2.2.2.2.1,()),q.1.1,q.1.2.2.1,q.1.2.2.2.1,(),q.1.2.2.2.2.2.2.1,(),q.1.2.2.2.2.2.2.2.2.1,q.1.2.2.2.2.2.2.2.2.2.1,q.1.2.2.2.2.1,q.1.2.2.2.2.2.2.2.1,()))
theorem tg{m:A0}{b:Int}{e:AK}(h:EL m b=some e):CR e.1:=by
 unfold EL at h;split at h
 ·rename_i hc
  simp only[ANN,Am]at hc;have hp:=(JM (e:=m.2.1) (o:=b) hc.2.1 hc.2.2.1).1;split at h<;>cases h<;>exact Gv hp
 ·cases h
theorem jw{α:Type}{l:List α}{i:Nat}{d:α}:l.set i (l.getD i d)=l:=by
 by_cases h:i<l.length
 ·simp[List.getD,h]
 ·rw[List.set_eq_of_length_le (by omega)]
def oe(w:AA)(n ep:Int):Int:=if Aq w n=0 then if(Bh w.BA ep).contains n then 0 else 2 else Aq w n
section
variable{w:AA} (h:Nw w)
include h
theorem RO{n ep:Int}(he:CR ep):Di w n ep=some ((oe w n ep,()),()):=by
 have k:=h.nums;have k1:=k.c;have k2:=k.wr;have k3:=k.lost;have k4:=k.st;have bl:=k.jf;have iY:=k.KF;have kH:=k.iZ;have k5:=k.era;have k7:=k.cF;unfold Di oe;rw[MB (by omega) (by omega),show(w.2.2.2.2.1,w.2.2.2.2.2.1,())=CO w from rfl,Pr (r:=CO w) (by show AU Bg w.2.2.2.2.1≤_;omega) he];have Vb:(Bh w.BA ep).length≤8:=Gh h;rw[show(CO w).1=w.BA from rfl];simp only[AD,DB];rw[JC (by omega)];simp only[AD];by_cases h0:Aq w n=0
 ·rw[AM1 h0,AM1 h0,h0]
  cases(Bh w.BA ep).contains n<;>rfl
 ·rw[AM2 h0,AM2 h0]
theorem Yw{n:Int}{e:AK}(hn:Aq w n=0)(he:CR e.1):Lm n e w.2.1 w.2.2.2.2.2.1 w.2.2.2.2.2.2.2.2.2.2.1 w.1 w.2.2.1 w.2.2.2.1 w.2.2.2.2.1 w.2.2.2.2.2.2.1 w.2.2.2.2.2.2.2.1 w.2.2.2.2.2.2.2.2.1 w.2.2.2.2.2.2.2.2.2.1=some (kv (putAt w n (HM (storeAt w n) e))):=by
 obtain⟨hr,s1,s2,s3⟩:=h.L8 hn;have cC:w.2.2.1.getD n.toNat ([],[],0,())=storeAt w n:=rfl;unfold Lm putAt;simp only[AM1 hr,cC];rw[show((storeAt w n).1,(storeAt w n).2.1,(storeAt w n).2.2.1,())=storeAt w n from rfl,show(e.1,e.2.1,e.2.2.1,e.2.2.2.1,())=e from rfl,lM s1 s2 he];simp only[AD,ia,PU];cases(HM (storeAt w n) e).2<;>rfl
theorem gZ{a:Int}:Ka a w.2.1 w.2.2.2.2.2.1 w.2.2.2.2.2.2.2.2.2.2.1 w.1 w.2.2.1 w.2.2.2.1 w.2.2.2.2.1 w.2.2.2.2.2.2.1 w.2.2.2.2.2.2.2.1 w.2.2.2.2.2.2.2.2.1 w.2.2.2.2.2.2.2.2.2.1=some (AX8 (Mf w a)):=by
 have k:=h.nums;have k1:=k.c;have k2:=k.wr;have k3:=k.lost;have k4:=k.st;have bl:=k.jf;have iY:=k.KF;have kH:=k.iZ;have k5:=k.era;have k7:=k.cF;unfold Ka Mf;rw[DB];by_cases h4:w.2.2.2.2.2.2.1.length=4
 ·rw[AM1 (by omega),AM1 h4];rfl
 have hm:(BJ a).length≤8:=wh;rw[AM2 (by omega),AM2 h4,ZA];simp only[AD];rw[show(w.1,w.2.1,())=Ae w from rfl,show(w.2.2.2.2.1,w.2.2.2.2.2.1,())=CO w from rfl,nh (c:=Ae w) (r:=CO w) (by show w.1.length≤_;omega) (by show AU Bg w.2.2.2.2.1≤_;omega) k.trim (by omega)];simp only[AD,As];rcases AM0 (I4 (Ae w) (CO w) (BJ a)).2.2 with hq|hq
 ·rw[hq,AM1 (by rw[An];omega),F9];rfl
 ·rw[hq,Iu];rfl
theorem fW{d:BK}:JY d w.2.1 w.2.2.2.2.2.1 w.2.2.2.2.2.2.2.2.2.2.1 w.1 w.2.2.1 w.2.2.2.1 w.2.2.2.2.1 w.2.2.2.2.2.2.1 w.2.2.2.2.2.2.2.1 w.2.2.2.2.2.2.2.2.1 w.2.2.2.2.2.2.2.2.2.1=some (kv (Iy w d.2.1 d.2.2.1 d.2.2.2.1)):=by
 have k:=h.nums;have k1:=k.c;have k2:=k.wr;have k3:=k.lost;have k4:=k.st;have bl:=k.jf;have iY:=k.KF;have kH:=k.iZ;have k5:=k.era;have k7:=k.cF;unfold JY Iy;rw[show(w.1,w.2.1,w.2.2.1,w.2.2.2.1,w.2.2.2.2.1,w.2.2.2.2.2.1,w.2.2.2.2.2.2.1,w.2.2.2.2.2.2.2.1,w.2.2.2.2.2.2.2.2.1,w.2.2.2.2.2.2.2.2.2.1,w.2.2.2.2.2.2.2.2.2.2.1,())=w from rfl,AH (x:=(w.2.2.2.2.2.2.1.length:Int)-1) (by omega) (by omega),Av];simp only[AD,As,Ct];rw[show BL d.2.1 0 ((w.2.2.2.2.2.2.1.length:Int)-1)=BL d.2.1 0 ((w.AN.length:Int)-1)from rfl];rcases AM0 (BL d.2.1 0 ((w.AN.length:Int)-1))with h1|h1
 rotate_left
 ·rw[h1,Iu];rfl
 obtain⟨x1,x2,x3⟩:=h.dk h1;rw[h1,AOA,F9,AM1 x1,Av];simp only[AD];rw[show w.2.2.2.2.2.2.1.getD d.2.1.toNat (0,[],())=w.AN.getD d.2.1.toNat B8 from rfl]
 generalize hx:w.AN.getD d.2.1.toNat B8=x at*
 rcases AM0 (BL d.2.2.1 1 (x.2.1.length:Int))with h2|h2
 rotate_left
 ·rw[h2,Iu];rfl
 have h2':=Am.1 h2;have hxl:=x2.n;have hxe:=x2.ep;have xu:=JM (e:=x.1) (o:=d.2.2.1) hxe (by omega);have hpm:Gl x.1 d.2.2.1=HF x.1 d.2.2.1:=by
  unfold Gl;rw[Am.2 ⟨hxe.1,hxe.2⟩,Am.2 ⟨h2'.1,by omega⟩];rfl
 rw[h2,AOA,F9,RO h ⟨by omega,by omega⟩,IK,hpm,AH (by omega) (by omega)];simp only[AD,AM1 (show(0:Int)≤d.2.2.1-1∧d.2.2.1-1<(x.2.1.length:Int)by omega)];unfold oe;by_cases h3:Aq w d.2.2.2.1=0
 rotate_left
 ·rw[AM2 h3,AM2 h3,AM1 h3];rfl
 rw[AM1 h3,AM2 (show¬(Aq w d.2.2.2.1≠0)from fun hh=>hh h3)];rcases AM0 ((Bh w.BA x.1).contains d.2.2.2.1)with h5|h5
 rotate_left
 ·rw[h5,Iu];rfl
 rw[h5,F9,AM1 rfl,AM1 rfl,Yw h h3 (Gv xu.1)];rfl
theorem fk{n k:Int}:Pb n k w.2.1 w.2.2.2.2.2.1 w.2.2.2.2.2.2.2.2.2.2.1 w.1 w.2.2.1 w.2.2.2.1 w.2.2.2.2.1 w.2.2.2.2.2.2.1 w.2.2.2.2.2.2.2.1 w.2.2.2.2.2.2.2.2.1 w.2.2.2.2.2.2.2.2.2.1=some (kv (I9 w n k)):=by
 have kk:=h.nums;have k1:=kk.c;have k2:=kk.wr;have k3:=kk.lost;have k4:=kk.st;have bl:=kk.jf;have iY:=kk.KF;have kH:=kk.iZ;have k5:=kk.era;have k7:=kk.cF;unfold Pb I9;rw[show(w.1,w.2.1,w.2.2.1,w.2.2.2.1,w.2.2.2.2.1,w.2.2.2.2.2.1,w.2.2.2.2.2.2.1,w.2.2.2.2.2.2.2.1,w.2.2.2.2.2.2.2.2.1,w.2.2.2.2.2.2.2.2.2.1,w.2.2.2.2.2.2.2.2.2.2.1,())=w from rfl,MB (by omega) (by omega)];simp only[AD,Ct];by_cases h3:Aq w n=0
 rotate_left
 ·rw[AM2 h3,AM1 h3];rfl
 obtain⟨hr,s1,s2,s3⟩:=h.L8 h3;have cC:w.2.2.1.getD n.toNat ([],[],0,())=storeAt w n:=rfl;rw[AM1 h3,AM2 (show¬(Aq w n≠0)from fun hh=>hh h3)];simp only[AM1 hr,cC];rw[show((storeAt w n).1,(storeAt w n).2.1,(storeAt w n).2.2.1,())=storeAt w n from rfl,X0 s1 s2];simp only[AD,ia,PU];unfold putAt;rcases AM0 (GA (storeAt w n) k).2 with hq|hq
 ·rw[hq];rfl
 ·have e:(GA (storeAt w n) k).1=storeAt w n:=by
   unfold GA at hq⊢;rw[DO.2 s3]at hq⊢;simp only[ANZ,ANw,AQS]at hq⊢;split at hq
   ·cases hq
   ·rename_i hn;rw[AM2 hn]
  rw[hq,e];have:w.2.2.1.set n.toNat ((storeAt w n).1,(storeAt w n).2.1,(storeAt w n).2.2.1,())=w.2.2.1:=jw;rw[this];rfl
theorem fT{n:Int}:Pk n w.2.1 w.2.2.2.2.2.1 w.2.2.2.2.2.2.2.2.2.2.1 w.1 w.2.2.1 w.2.2.2.1 w.2.2.2.2.1 w.2.2.2.2.2.2.1 w.2.2.2.2.2.2.2.1 w.2.2.2.2.2.2.2.2.1 w.2.2.2.2.2.2.2.2.2.1=some (kv (I6 w n)):=by
 have k:=h.nums;have k1:=k.c;have k2:=k.wr;have k3:=k.lost;have k4:=k.st;have bl:=k.jf;have iY:=k.KF;have kH:=k.iZ;have k5:=k.era;have k7:=k.cF;unfold Pk I6;rw[show(w.1,w.2.1,w.2.2.1,w.2.2.2.1,w.2.2.2.2.1,w.2.2.2.2.2.1,w.2.2.2.2.2.2.1,w.2.2.2.2.2.2.2.1,w.2.2.2.2.2.2.2.2.1,w.2.2.2.2.2.2.2.2.2.1,w.2.2.2.2.2.2.2.2.2.2.1,())=w from rfl,MB (by omega) (by omega)];simp only[AD,Ct];by_cases h3:Aq w n=0
 rotate_left
 ·rw[AM2 h3,AM1 h3];rfl
 obtain⟨hr,s1,s2,s3⟩:=h.L8 h3;have cC:w.2.2.1.getD n.toNat ([],[],0,())=storeAt w n:=rfl;rw[AM1 h3,AM2 (show¬(Aq w n≠0)from fun hh=>hh h3)];simp only[AM1 hr,cC];rw[show((storeAt w n).1,(storeAt w n).2.1,(storeAt w n).2.2.1,())=storeAt w n from rfl,jn s1 s2 k.trim];simp only[AD,ia,PU];unfold putAt;rw[show w.trim=w.2.2.2.2.2.1 from rfl];rcases AM0 (JO (storeAt w n) w.2.2.2.2.2.1).2 with hq|hq
 ·rw[hq];rfl
 ·have e:(JO (storeAt w n) w.2.2.2.2.2.1).1=storeAt w n:=by
   unfold JO at hq⊢;rw[DO.2 s3]at hq⊢;simp only[ANZ,ANw,AQS]at hq⊢;split at hq
   ·cases hq
   ·rename_i hn;rw[AM2 hn]
  rw[hq,e];have:w.2.2.1.set n.toNat ((storeAt w n).1,(storeAt w n).2.1,(storeAt w n).2.2.1,())=w.2.2.1:=jw;rw[this];rfl
theorem gS:Qu w.2.1 w.2.2.2.2.2.1 w.2.2.2.2.2.2.2.2.2.2.1 w.1 w.2.2.1 w.2.2.2.1 w.2.2.2.2.1 w.2.2.2.2.2.2.1 w.2.2.2.2.2.2.2.1 w.2.2.2.2.2.2.2.2.1 w.2.2.2.2.2.2.2.2.2.1=some (AZv (Mm w)):=by
 have k:=h.nums;have k1:=k.c;have k2:=k.wr;have k3:=k.lost;have k4:=k.st;have bl:=k.jf;have iY:=k.KF;have kH:=k.iZ;have k5:=k.era;have k7:=k.cF;unfold Qu Mm;rw[show(w.2.2.2.2.1,w.2.2.2.2.2.1,())=CO w from rfl,Sf (r:=CO w) (by show w.2.2.2.2.1.length≤_;omega)];simp only[AD,DB,AB];rw[show(CO w).1=w.BA from rfl];by_cases h1:(w.2.2.2.2.1.length:Int)<2
 ·rw[AM1 h1,show(decide ((w.2.2.2.2.1.length:Int)<2)||decide (BG w.2.2.2.2.1=(w.2.2.2.2.1.length:Int)))=true by rw[AQg h1];rfl];rfl
 rw[AM2 h1];by_cases h2:BG w.2.2.2.2.1=(w.2.2.2.2.1.length:Int)
 ·rw[AM1 h2,show(decide ((w.2.2.2.2.1.length:Int)<2)||decide (BG w.2.2.2.2.1=(w.2.2.2.2.1.length:Int)))=true by rw[AQg h2,Bool.or_true]];rfl
 rw[AM2 h2,show(decide ((w.2.2.2.2.1.length:Int)<2)||decide (BG w.2.2.2.2.1=(w.2.2.2.2.1.length:Int)))=false by rw[ASg h1,ASg h2];rfl];rw[AM2 (show¬(false=true)by simp)];by_cases h3:w.2.2.2.2.2.2.2.1.length>0
 ·rw[AM1 (by omega),AM1 h3];rfl
 ·rw[AM2 (by omega),AM2 h3];rfl
theorem iS{n:Int}:Kb n w.2.1 w.2.2.2.2.2.1 w.2.2.2.2.2.2.2.2.2.2.1 w.1 w.2.2.1 w.2.2.2.1 w.2.2.2.2.1 w.2.2.2.2.2.2.1 w.2.2.2.2.2.2.2.1 w.2.2.2.2.2.2.2.2.1 w.2.2.2.2.2.2.2.2.2.1=some (ALk (Mk w n)):=by
 have k:=h.nums;have k1:=k.c;have k2:=k.wr;have k3:=k.lost;have k4:=k.st;have bl:=k.jf;have iY:=k.KF;have kH:=k.iZ;have k5:=k.era;have k7:=k.cF;have k6:=k.ws;unfold Kb Mk;rw[show(w.1,w.2.1,w.2.2.1,w.2.2.2.1,w.2.2.2.2.1,w.2.2.2.2.2.1,w.2.2.2.2.2.2.1,w.2.2.2.2.2.2.2.1,w.2.2.2.2.2.2.2.2.1,w.2.2.2.2.2.2.2.2.2.1,w.2.2.2.2.2.2.2.2.2.2.1,())=w from rfl,AH (x:=(w.2.2.1.length:Int)-1) (by omega) (by omega),AH (x:=(w.2.2.2.2.1.length:Int)-1) (by omega) (by omega),Av];simp only[AD,As];rcases AM0 (w.lost.contains n)with hl|hl
 rotate_left
 ·rw[hl]
  have e:C4 w n=some ((w.lost.contains n,()),()):=af (by omega);rw[e,hl];cases BL n 0 ((w.2.2.1.length:Int)-1)<;>rfl
 have Te:=(En.1 h.lost).2.1 n (by simpa using hl);have hn1:BL n 0 ((w.2.2.1.length:Int)-1)=true:=Am.2 ⟨Te.1,by
  have:n<(w.1.length:Int):=Te.2;omega⟩
 have Ad1:=Am.1 hn1;rw[hn1,show C4 w n=some ((w.lost.contains n,()),())from af (by omega),hl,F9];simp only[AD,AOA];rw[show(if(0:Int)>(w.2.2.2.2.1.length:Int)-1 then 0 else(w.2.2.2.2.1.length:Int)-1)=max ((w.BA.length:Int)-1) 0 by
  show _=max ((w.2.2.2.2.1.length:Int)-1) 0
  rw[Int.max_def];split<;>split<;>omega]
 have AVn:∀s∈w.2.2.1,cI s:=fun s hs=>h.VZ hs
 rw[show(w.1,w.2.1,())=Ae w from rfl,uj (c:=Ae w) (by show w.1.length≤_;omega) (by omega) (fun s hs=>by have:=(AVn s hs).nk;omega) (by omega) (fun s hs=>(AVn s hs).sin) (by omega)];simp only[AD,pkF];rw[show aw (Ae w) w.BE w.lost n (max ((w.BA.length:Int)-1) 0)=aw (Ae w) w.2.2.1 w.2.2.2.1 n (max ((w.BA.length:Int)-1) 0)from rfl];rcases AM0 (aw (Ae w) w.2.2.1 w.2.2.2.1 n (max ((w.BA.length:Int)-1) 0)).2 with hq|hq
 rotate_left
 ·rw[hq,Iu];rfl
 rw[hq,AOA,F9,AM1 (by omega),QF (by omega)];rfl
theorem iN{n:Int}:KU n w.2.1 w.2.2.2.2.2.1 w.2.2.2.2.2.2.2.2.2.2.1 w.1 w.2.2.1 w.2.2.2.1 w.2.2.2.2.1 w.2.2.2.2.2.2.1 w.2.2.2.2.2.2.2.1 w.2.2.2.2.2.2.2.2.1 w.2.2.2.2.2.2.2.2.2.1=some (kv (Me w n)):=by
 have k:=h.nums;have k1:=k.c;have k2:=k.wr;have k3:=k.lost;have k4:=k.st;have bl:=k.jf;have iY:=k.KF;have kH:=k.iZ;have k5:=k.era;have k7:=k.cF;unfold KU Me;rcases hm:w.CI with _|⟨m,ms⟩
 ·rw[DB,AM1 (by have Yi:w.2.2.2.2.2.2.2.1=[]:=hm;rw[Yi];rfl)];rfl
 have Yi:w.2.2.2.2.2.2.2.1=m::ms:=hm;have xI:w.2.2.2.2.2.2.2.1.length=ms.length+1:=by rw[Yi];rfl
 have g0:w.2.2.2.2.2.2.2.1.getD 0 (0,0,[],[],false,[],())=m:=by rw[Yi];rfl
 have vD:(0:Int)≤(0:Int)∧(0:Int)<(w.2.2.2.2.2.2.2.1.length:Int):=by omega
 have Z5:=(h.CI m (by rw[hm];simp)).1;have yA:=Z5.w;have hme:=Z5.ep;have hmb:=Z5.b;simp only[DB,As,Ct,AM1 vD,g0];rw[AM2 (by omega)];rw[show(w.1,w.2.1,w.2.2.1,w.2.2.2.1,w.2.2.2.2.1,w.2.2.2.2.2.1,w.2.2.2.2.2.2.1,w.2.2.2.2.2.2.2.1,w.2.2.2.2.2.2.2.2.1,w.2.2.2.2.2.2.2.2.2.1,w.2.2.2.2.2.2.2.2.2.2.1,())=w from rfl,RO h ⟨by omega,by omega⟩];simp only[AD];unfold oe;by_cases h3:Aq w n=0
 rotate_left
 ·rw[AM2 h3,AM2 h3,AM1 h3];rfl
 obtain⟨hr,s1,s2,s3⟩:=h.L8 h3;have cC:w.2.2.1.getD n.toNat ([],[],0,())=storeAt w n:=rfl;have hn3: ¬(Aq w n≠0):=fun hh=>hh h3
 rw[AM1 h3,AM2 hn3];simp only[AM1 hr,cC];rcases AM0 ((Bh w.BA m.2.1).contains n)with h5|h5
 rotate_left
 ·rw[h5,Iu];rfl
 rw[h5,F9,AM1 rfl,AM1 rfl,AH (by omega) (by omega),show((storeAt w n).1,(storeAt w n).2.1,(storeAt w n).2.2.1,())=storeAt w n from rfl,jJ s1 s2];have hq:=oJ (u:=m.1-1) s3;have hqw:=hq.w;simp only[AD,ia];rw[show((Bo (storeAt w n) (m.1-1)).1.1,(Bo (storeAt w n) (m.1-1)).1.2.1,(Bo (storeAt w n) (m.1-1)).1.2.2.1,())=(Bo (storeAt w n) (m.1-1)).1 from rfl,ky (by omega) hq.sin];simp only[AD];have hes:(Gf (Bo (storeAt w n) (m.1-1)).1 m.2.1).length≤200∧fl (Gf (Bo (storeAt w n) (m.1-1)).1 m.2.1)∧AU Ag (Gf (Bo (storeAt w n) (m.1-1)).1 m.2.1)≤10000:=by
  unfold Gf;rw[DO.2 hq,AM1 rfl];refine⟨ASY (ASZ _ _) hq.nk,fun e he=>hq.sin.1 e (ATi.1 he).1,ASY fO ?_⟩;have:Aj (Bo (storeAt w n) (m.1-1)).1=AU Ag (Bo (storeAt w n) (m.1-1)).1.1+AU Ag (Bo (storeAt w n) (m.1-1)).1.2.1:=rfl;omega
 rw[show(m.1,m.2.1,m.2.2.1,m.2.2.2.1,m.2.2.2.2.1,m.2.2.2.2.2.1,())=m from rfl,show(w.1,w.2.1,())=Ae w from rfl,lj (c:=Ae w) (by show w.1.length≤_;omega) (by omega) Z5.xM (by omega) hes.2.1 (by omega)];simp only[AD,gF];rcases AM0 (Bo (storeAt w n) (m.1-1)).2 with h6|h6
 rotate_left
 ·rw[h6,ASd,AXF,AM1 rfl];rfl
 rw[h6,ANZ,ASj];rcases AM0 (O7 (Ae w) m n (Gf (Bo (storeAt w n) (m.1-1)).1 m.2.1)).2 with h7|h7
 rotate_left
 ·rw[h7,Iu];rfl
 rw[h7,F9,AOA,AOA,Yi];rfl
theorem gO:Kd w.2.1 w.2.2.2.2.2.1 w.2.2.2.2.2.2.2.2.2.2.1 w.1 w.2.2.1 w.2.2.2.1 w.2.2.2.2.1 w.2.2.2.2.2.2.1 w.2.2.2.2.2.2.2.1 w.2.2.2.2.2.2.2.2.1 w.2.2.2.2.2.2.2.2.2.1=some (kv (My w)):=by
 have k:=h.nums;have k1:=k.c;have k2:=k.wr;have k3:=k.lost;have k4:=k.st;have bl:=k.jf;have iY:=k.KF;have kH:=k.iZ;have k5:=k.era;have k7:=k.cF;unfold Kd My;rcases hm:w.CI with _|⟨m,ms⟩
 ·rw[DB,AM1 (by have Yi:w.2.2.2.2.2.2.2.1=[]:=hm;rw[Yi];rfl)];rfl
 have Yi:w.2.2.2.2.2.2.2.1=m::ms:=hm;have xI:w.2.2.2.2.2.2.2.1.length=ms.length+1:=by rw[Yi];rfl
 have g0:w.2.2.2.2.2.2.2.1.getD 0 (0,0,[],[],false,[],())=m:=by rw[Yi];rfl
 have vD:(0:Int)≤(0:Int)∧(0:Int)<(w.2.2.2.2.2.2.2.1.length:Int):=by omega
 have Z5:=(h.CI m (by rw[hm];simp)).1;have yA:=Z5.w;have hme:=Z5.ep;simp only[DB,As,Ct,AM1 vD,g0];rw[AM2 (by omega)];rw[show(w.2.2.2.2.1,w.2.2.2.2.2.1,())=CO w from rfl,Pr (r:=CO w) (by show AU Bg w.2.2.2.2.1≤_;omega) ⟨by omega,by omega⟩];have Vb:(Bh w.BA m.2.1).length≤8:=Gh h;rw[show(CO w).1=w.BA from rfl];simp only[AD];rw[show(m.1,m.2.1,m.2.2.1,m.2.2.2.1,m.2.2.2.2.1,m.2.2.2.2.2.1,())=m from rfl,show(w.1,w.2.1,())=Ae w from rfl,lh (c:=Ae w) (by show w.1.length≤_;omega) (by omega) Z5.xM (by omega)];simp only[AD,gF,PU];rcases AM0 (MH (Ae w) m (Bh w.BA m.2.1)).2 with h6|h6
 ·rw[h6,F9,Yi];rfl
 ·have e:(MH (Ae w) m (Bh w.BA m.2.1)).1=m:=by
   unfold MH at h6⊢;rw[Gg.2 Z5]at h6⊢;simp only[ANZ,ANw,AQS]at h6⊢;split at h6
   ·cases h6
   ·rename_i hn;rw[AM2 hn]
  rw[h6,Iu,e,Yi]
  show some ((4,()),_,_,_,_,_,_,(m::ms),_)=some ((4,()),_,_,_,_,_,_,w.2.2.2.2.2.2.2.1,_)
  rw[Yi]
theorem ja{b n:Int}:Sa b n w.2.1 w.2.2.2.2.2.1 w.2.2.2.2.2.2.2.2.2.2.1 w.1 w.2.2.1 w.2.2.2.1 w.2.2.2.2.1 w.2.2.2.2.2.2.1 w.2.2.2.2.2.2.2.1 w.2.2.2.2.2.2.2.2.1 w.2.2.2.2.2.2.2.2.2.1=some (kv (TT w b n)):=by
 have k:=h.nums;have k1:=k.c;have k2:=k.wr;have k3:=k.lost;have k4:=k.st;have bl:=k.jf;have iY:=k.KF;have kH:=k.iZ;have k5:=k.era;have k7:=k.cF;unfold Sa TT;rcases hm:w.CI with _|⟨m,ms⟩
 ·rw[DB,AM1 (by have Yi:w.2.2.2.2.2.2.2.1=[]:=hm;rw[Yi];rfl)];rfl
 have Yi:w.2.2.2.2.2.2.2.1=m::ms:=hm;have xI:w.2.2.2.2.2.2.2.1.length=ms.length+1:=by rw[Yi];rfl
 have g0:w.2.2.2.2.2.2.2.1.getD 0 (0,0,[],[],false,[],())=m:=by rw[Yi];rfl
 have vD:(0:Int)≤(0:Int)∧(0:Int)<(w.2.2.2.2.2.2.2.1.length:Int):=by omega
 have Z5:=(h.CI m (by rw[hm];simp)).1;have yA:=Z5.w;have hme:=Z5.ep;simp only[DB,As,Ct,AM1 vD,g0];rw[AM2 (by omega),show(m.1,m.2.1,m.2.2.1,m.2.2.2.1,m.2.2.2.2.1,m.2.2.2.2.2.1,())=m from rfl,ZT (by omega)];simp only[AD];rcases he:EL m b with _|e
 ·rfl
 simp only[ASp,ASs,AOA];rw[show(w.1,w.2.1,w.2.2.1,w.2.2.2.1,w.2.2.2.2.1,w.2.2.2.2.2.1,w.2.2.2.2.2.2.1,w.2.2.2.2.2.2.2.1,w.2.2.2.2.2.2.2.2.1,w.2.2.2.2.2.2.2.2.2.1,w.2.2.2.2.2.2.2.2.2.2.1,())=w from rfl,RO h ⟨by omega,by omega⟩];simp only[AD];unfold oe;by_cases h3:Aq w n=0
 rotate_left
 ·rw[AM2 h3,AM2 h3,AM1 h3];rfl
 rw[AM1 h3,AM2 (show¬(Aq w n≠0)from fun hh=>hh h3)];rcases AM0 ((Bh w.BA m.2.1).contains n)with h5|h5
 rotate_left
 ·rw[h5,Iu];rfl
 rw[h5,F9,AM1 rfl,AM1 rfl,show(e.1,e.2.1,e.2.2.1,e.2.2.2.1,())=e from rfl,Yw h h3 (tg he)];rfl
theorem fZ:JW w.2.1 w.2.2.2.2.2.1 w.2.2.2.2.2.2.2.2.2.2.1 w.1 w.2.2.1 w.2.2.2.1 w.2.2.2.2.1 w.2.2.2.2.2.2.1 w.2.2.2.2.2.2.2.1 w.2.2.2.2.2.2.2.2.1 w.2.2.2.2.2.2.2.2.2.1=some (AZa (Iw w)):=by
 have k:=h.nums;have k1:=k.c;have k2:=k.wr;have k3:=k.lost;have k4:=k.st;have bl:=k.jf;have iY:=k.KF;have kH:=k.iZ;have k5:=k.era;have k7:=k.cF;unfold JW Iw;rcases hm:w.CI with _|⟨m,ms⟩
 ·rw[DB,AM1 (by have Yi:w.2.2.2.2.2.2.2.1=[]:=hm;rw[Yi];rfl)];rfl
 have Yi:w.2.2.2.2.2.2.2.1=m::ms:=hm;have xI:w.2.2.2.2.2.2.2.1.length=ms.length+1:=by rw[Yi];rfl
 have g0:w.2.2.2.2.2.2.2.1.getD 0 (0,0,[],[],false,[],())=m:=by rw[Yi];rfl
 have vD:(0:Int)≤(0:Int)∧(0:Int)<(w.2.2.2.2.2.2.2.1.length:Int):=by omega
 have Z5:=(h.CI m (by rw[hm];simp)).1;have yA:=Z5.w;simp only[DB,As,Ct,AM1 vD,g0];rw[AM2 (by omega),show(m.1,m.2.1,m.2.2.1,m.2.2.2.1,m.2.2.2.2.1,m.2.2.2.2.2.1,())=m from rfl,show(w.1,w.2.1,())=Ae w from rfl,show(w.2.2.2.2.1,w.2.2.2.2.2.1,())=CO w from rfl,jV (c:=Ae w) (by show w.1.length≤_;omega) (by omega) Z5.xM];simp only[AD];rcases AM0 (UP (Ae w) m)with h6|h6
 rotate_left
 ·rw[h6,Iu];rfl
 rw[h6,F9,AOA,lr (c:=Ae w) (r:=CO w) (by show w.1.length≤_;omega) (by show AU Bg w.2.2.2.2.1≤_;omega) k.trim];simp only[AD,pkR,PU];rcases AM0 (NI (Ae w) (CO w) m.1 (m.2.2.2.2.2.1.length:Int)).2 with h7|h7
 ·rw[h7,AOA,F9];rfl
 ·rw[h7,ANP,Iu];rfl
end
end Go.M
end
section
set_option maxRecDepth 8000
namespace Go.M
open Go.M.H (AK AQ A0 Ai AA Cq AO A8 AR Ak Bd A9 BK Aj CB AU AW Ab Ag Bg Ax Ao Au EB CL Cy C_)
abbrev mr(l:List Ai):Prop:=Wf (fun s:Ai=>s.1) l
abbrev ACF(p:Int)(l:List Ai)(q:Nat):Prop:=jS (fun s:Ai=>s.1) p l q
def aV(p:Int)(l:List Ai)(q:Nat):Bool:=match l[q]? with|some e=>e.1==p|none=>false
theorem l7{l:List Ai}(ha:mr l)(hl:l.length≤2^30)(hp:∀s∈l,0≤s.1∧s.1<2^40){p:Int}(hpp:0≤p∧p<2^40):∃q,ACF p l q∧
  BM l p=some ((((q:Int),aV p l q,()),()),()):=by
 have key:∀(n a b:Nat),a≤b→b≤l.length→b-a<n→(∀(i:Nat) (h:i<l.length),i<a→l[i].1<p)→(∀(i:Nat) (h:i<l.length),b≤i→p≤l[i].1)→
   ∃q,ACF p l q∧Ar n l p l.length a b=some ((((q:Int),aV p l q,()),()),()):=by
  intro n
  induction n with
  |zero=>intro a b _ _ h;omega
  |succ n ih=>
   intro a b nu hb hn h1 h2;simp only[Ar,Ch,AB,LY,AD];by_cases G4:a<b
   ·have hm:(a+b)/2<l.length:=by omega
    have hq:=hp _ (AN7 hm);rw[AM1 (by omega),uK (by omega),AM1 (by omega),Ah hm,AH (by omega) (by omega)];by_cases hc:l[(a+b)/2].1<p
    ·rw[AM1 (by omega),AH (by omega) (by omega),show((((a+b)/2:Nat):Int)+1)=(((a+b)/2+1:Nat):Int)by omega]
     refine ih _ b (by omega) hb (by omega) (fun i h hi=> ?_) h2;exact Int.lt_of_le_of_lt (cL (f:=fun s:Ai=>s.1) ha h hm (by omega)) hc
    ·rw[AM2 (by omega)]
     exact ih a _ (by omega) (by omega) (by omega) h1 fun i h hi=>Int.le_trans (by omega) (cL (f:=fun s:Ai=>s.1) ha hm h hi)
   ·have AFU:a=b:=by omega
    subst AFU;refine⟨a,⟨hb,h1,h2⟩,?_⟩;rw[AM2 (by omega)];unfold aV;by_cases ha':a<l.length
    ·have hq:=hp _ (AN7 ha')
     rw[AM1 (by omega),AM1 (by omega),Ah ha',AM4 ha',AH (by omega) (by omega)];dsimp only;by_cases hd:l[a].1=p
     ·rw[ASo.2 hd,ASo.2 (by omega:l[a].1-p=0)]
     ·rw[APT.2 hd,APT.2 (by omega:l[a].1-p≠0)]
    ·rw[AM2 (by omega),ASm (by omega)]
 obtain⟨q,hq,e⟩:=key AX 0 l.length (by omega) (by omega) (AZ (by omega)) (fun i h hi=>by omega) (fun i h hi=>by omega);refine⟨q,hq,?_⟩;unfold BM Cg;rw[show((0:Nat):Int)=0 from rfl]at e;exact e
theorem xF{p:Int}{l:List Ai}{q:Nat}(h:aV p l q=true):∃hq:q<l.length,l[q].1=p:=by
 unfold aV at h;by_cases hq:q<l.length
 ·rw[AM4 hq]at h
  exact⟨hq,ASo.1 h⟩
 ·rw[ASm (by omega)]at h
  cases h
theorem sF{p:Int}{l:List Ai}{q:Nat}(hp:ACF p l q)(ha:mr l)(h:aV p l q=false):∀s∈l,s.1≠p:=by
 intro s hs e;obtain⟨i,hi,rfl⟩:=List.mem_iff_getElem.1 hs;have h1:=hp.lt i hi;by_cases ye:i<q
 ·have:l[i].1<p:=h1 ye
  omega
 ·have hq:q<l.length:=by omega
  have h3:p≤l[q].1:=hp.ge q hq (AQQ _);have h4:=cL (f:=fun s:Ai=>s.1) ha hq hi (by omega);unfold aV at h;rw[AM4 hq]at h;have h5:=APT.1 h;have h4':l[q].1≤l[i].1:=h4;omega
theorem AJ_{p:Int}{l:List Ai}{q:Nat}(hp:ACF p l q)(ha:mr l):(l.any fun s=>s.1==p)=aV p l q:=by
 rcases AM0 (aV p l q)with h|h
 ·obtain⟨hq,e⟩:=xF h
  rw[h,List.any_eq_true];exact⟨_,AN7 hq,ASo.2 e⟩
 ·rw[h,List.any_eq_false]
  intro s hs;simpa using sF hp ha h s hs
def RL(p:Int)(l:List Ai):List Ai:=l.map fun s=>if s.1=p then(s.1,s.2.1,true,())else s
theorem zV{p:Int}{l:List Ai}(h:∀s∈l,s.1≠p):RL p l=l:=by
 unfold RL
 conv=>rhs;rw[←List.map_id l]
 refine AS5 fun s hs=> ?_
 rw[AM2 (h s hs)];rfl
theorem AC6{p:Int}:∀{l:List Ai} {q:Nat} (hq:q<l.length),mr l→l[q].1=p→l.set q (l[q].1,l[q].2.1,true,())=RL p l
 |[],q,hq,_,_=>by simp at hq
 |s::l,0,_,ha,e=>by
  have h1:=ASf.1 ha;have e':s.1=p:=e;have h2:RL p l=l:=zV fun y hy=>by have:s.1<y.1:=h1.1 y hy;omega
  show(s.1,s.2.1,true,())::l=(if s.1=p then(s.1,s.2.1,true,())else s)::RL p l
  rw[AM1 e',h2]
 |s::l,q+1,hq,ha,e=>by
  have h1:=ASf.1 ha;have hq':q<l.length:=by simpa using hq
  have e':l[q].1=p:=e;have h3:s.1<l[q].1:=h1.1 _ (AN7 hq');have h4:s.1≠p:=by omega
  have:=AC6 hq' h1.2 e'
  show s::l.set q (l[q].1,l[q].2.1,true,())=(if s.1=p then(s.1,s.2.1,true,())else s)::RL p l
  rw[AM2 h4,this]
theorem sm_at{p:Int}{l:List Ai}:∀{s:Ai},s∈RL p l→ ∃t∈l,t.1=s.1:=by
 intro s hs;obtain⟨t,ht,rfl⟩:=ATD.1 hs;exact⟨t,ht,by split<;>rfl⟩
theorem APJ{p:Int}{l:List Ai}(h:mr l):mr (RL p l):=by
 unfold RL mr Wf;rw[AUg];refine List.Pairwise.imp (fun{a b} nu=> ?_) h;have e:∀s:Ai,(if s.1=p then((s.1,s.2.1,true,()):Ai)else s).1=s.1:=fun s=>by split<;>rfl
 show(if a.1=p then((a.1,a.2.1,true,()):Ai)else a).1<(if b.1=p then((b.1,b.2.1,true,()):Ai)else b).1
 rw[e,e];exact nu
theorem AQE{p:Int}{l:List Ai}:(RL p l).length=l.length:=by unfold RL;rw[ATV]
theorem w6{s:Ai}:∀{l:List Ai} {q:Nat},ACF s.1 l q→aV s.1 l q=false→Z_ s l=l.take q++[s]++l.drop q
 |[],q,h,_=>by
  have:=h.le;have:q=0:=by simpa using this
  subst this;rfl
 |y::l,0,h,hn=>by
  have h1:=h.ge 0 (by simp) (AQQ _);have h2:(y.1==s.1)=false:=hn;have h2':=APT.1 h2;have h1':s.1≤y.1:=h1;simp only[Z_];rw[AM1 (by omega)];rfl
 |y::l,q+1,h,hn=>by
  have h1:y.1<s.1:=h.lt 0 (by simp) (by omega);have hp:ACF s.1 l q:=⟨by have:=h.le;simpa using this,fun i hi ye=>h.lt (i+1) (by simpa using hi) (by omega),fun i hi ye=>h.ge (i+1) (by simpa using hi) (by omega)⟩;simp only[Z_];rw[AM2 (by omega),w6 hp hn];rfl
section
variable{w:AA} (h:Nw w)
include h
theorem Nw.ANv:∀s∈w.2.2.2.2.2.2.2.2.2.1,0≤s.1∧s.1<2^40:=fun s hs=>by
 have hp:=(h.Al s hs).1;have h1:=HD hp;have h2:HF (Aw s.1) (EE s.1)=s.1:=h1.2.2;unfold HF at h2;omega
theorem jT{a:Int}{d:AB_}(hd:d.length≤40):Lj a d w.2.1 w.2.2.2.2.2.1 w.2.2.2.2.2.2.2.2.2.2.1 w.1 w.2.2.1 w.2.2.2.1 w.2.2.2.2.1 w.2.2.2.2.2.2.1 w.2.2.2.2.2.2.2.1 w.2.2.2.2.2.2.2.2.1 w.2.2.2.2.2.2.2.2.2.1=some (AV8 (doAdd w a d)):=by
 have k:=h.nums;have k1:=k.c;have k2:=k.wr;have k3:=k.lost;have k4:=k.st;have bl:=k.jf;have iY:=k.KF;have kH:=k.iZ;have k5:=k.era;have k7:=k.cF;have k6:=k.se;unfold Lj doAdd;rw[AH (x:=(w.2.2.2.2.2.2.1.length:Int)-1) (by omega) (by omega),Av];simp only[AD,As,Ct,DB];rw[show BL a 0 ((w.2.2.2.2.2.2.1.length:Int)-1)=BL a 0 ((w.AN.length:Int)-1)from rfl];rcases AM0 (BL a 0 ((w.AN.length:Int)-1))with h1|h1
 rotate_left
 ·rw[h1,Iu];rfl
 obtain⟨x1,x2,x3⟩:=h.dk h1;rw[h1,AOA,F9];simp only[AM1 x1];rw[show w.2.2.2.2.2.2.1.getD a.toNat (0,[],())=w.AN.getD a.toNat B8 from rfl]
 generalize hx:w.AN.getD a.toNat B8=x at*
 rw[show(x.1,x.2.1,())=x from rfl,show(w.1,w.2.1,())=Ae w from rfl,jd (c:=Ae w) (by show w.1.length≤_;omega) (by omega) (by omega)];simp only[AD];rw[IK];simp only[AD];have hxl:=x2.n;have hxe:=x2.ep;have hq1:(Bq (Ae w) x d).1.1=x.1:=by
  unfold Bq;rw[Ix.2 x2];simp only[ANZ,ANw,AQS];split<;>rfl
 have hpm:0≤Gl (Bq (Ae w) x d).1.1 (Bq (Ae w) x d).2.1∧Gl (Bq (Ae w) x d).1.1 (Bq (Ae w) x d).2.1<2^40:=by
  unfold Gl HF;split
  ·rename_i hc
   rw[ANN,Am,Am]at hc;omega
  ·omega
 obtain⟨q,hq,es⟩:=l7 (l:=w.2.2.2.2.2.2.2.2.2.1) h.bU (by omega) h.ANv hpm;unfold IW;rw[es];simp only[AD];rcases AM0 (Bq (Ae w) x d).2.2 with h2|h2
 rotate_left
 ·rw[h2,ASd,AXF,AM1 rfl,ANP];rfl
 obtain⟨y1,y2,y3,y4⟩:=bX h2;have hyl:=y2.n;rw[y3]at hyl;simp only[AOq,AOX,AQl]at hyl;have xu:=JM (e:=x.1) (o:=(Bq (Ae w) x d).2.1) hxe (by omega);have hpe:Gl (Bq (Ae w) x d).1.1 (Bq (Ae w) x d).2.1=HF x.1 (Bq (Ae w) x d).2.1:=by
  unfold Gl;rw[hq1,Am.2 ⟨hxe.1,hxe.2⟩,Am.2 (by omega)];rfl
 rw[hpe]at hq⊢;rw[h2,AOA];simp only[ANZ,ASj];have Aau:(w.Al.any fun s=>s.1==HF x.1 (Bq (Ae w) x d).2.1)=aV (HF x.1 (Bq (Ae w) x d).2.1) w.2.2.2.2.2.2.2.2.2.1 q:=AJ_ hq h.bU;rw[Aau];by_cases h3:w.2.2.2.2.2.2.2.2.2.1.length=120
 ·rw[AM1 (by omega),show decide (w.Al.length=120)=true from AQg h3,AXF,AM1 rfl]
  rfl
 rw[AM2 (by omega),show decide (w.Al.length=120)=false from ASg h3];simp only[ASj];rcases AM0 (aV (HF x.1 (Bq (Ae w) x d).2.1) w.2.2.2.2.2.2.2.2.2.1 q)with h4|h4
 ·rw[h4,AOA,AM1 rfl];rfl
 rw[h4,ANP,AM2 (by simp)];have hql:=hq.le;unfold EI;rw[jD hql (by simp;omega)];have hi:=w6 (s:=(HF x.1 (Bq (Ae w) x d).2.1,d,false,())) hq h4
 show some _=some _
 unfold AV8;simp only[AOK]at hi⊢;rw[show Z_ (HF x.1 (Bq (Ae w) x d).2.1,d,false,()) w.Al=_ from hi]
end
end Go.M
end
section
set_option maxRecDepth 8000
namespace Go.M
open Go.M.H (AK AQ A0 Ai AA Cq AO A8 AR Ak Bd A9 BK Aj CB AU AW Ab Ag Bg Ax Ao Au EB CL Cy C_)
def gG(c:CE)(s:AQ)(ep n:Int):Int→List A8→List Ai→List Ai
 |_,[],se=>se
 |o,x::l,se=>gG c s ep n (o+1) l (if !x.2.2.1&&N3 s (HF ep o)&&(GR c n x).2.2.1 then RL (HF ep o) se else se)
def pkT(c0:AAD)(c1 tr:Int)(tn:Bool)(ss:List AQ)(lo:AAD)(er:List Cq)(ws:List AR)(ms:List A0)(rs:List Ak)(se:List Ai):GC:=
 (((()),()),(((),c1,(),(),(),tr,(),(),(),(),tn,()),c0,ss,lo,er,ws,ms,rs,se,()))
section
variable{c:CE} {st:AQ} {SS:List AQ} {n:Int} (hc:c.1.length≤8) (hs:cI st) (hn:0≤n∧n<c.1.length) (hnS:n<(SS.length:Int)) (cC:SS.getD n.toNat EF=st)
include hc hs hn hnS cC
theorem xS{tr:Int}{tn:Bool}{lo:AAD}{er:List Cq}{ms:List A0}{rs:List Ak}{a:Nat}{ep:Int}:∀(rest dn:List A8) (ws:List AR) (se:List Ai) (f:Nat),a<ws.length→a≤4→ws.getD a B8=(ep,dn++rest,())→bZ c (ep,dn++rest,())→
  mr se→(∀s∈se,0≤s.1∧s.1<2^40)→se.length≤120→rest.length<f→
  Cz f (a:Int) n ((dn.length:Int)+1) c.2.1 tr tn c.1 SS lo er ws ms rs se=some (pkT c.1 c.2.1 tr tn SS lo er (ws.set a (ep,dn++Br c st ep n ((dn.length:Int)+1) rest,())) ms rs (gG c st ep n ((dn.length:Int)+1) rest se)):=by
 have rA:=hs.w;intro rest
 induction rest with
 |nil=>
  intro dn ws se f ha ha4 hw FW yO AKG ARj hf;obtain⟨f,rfl⟩:∃f',f=f'+1:=⟨f-1,by omega⟩;have rp:ws.getD a (0,[],())=(ep,dn++[],()):=hw;simp only[Cz,I3,AB,AN4,rp,AOC];rw[AM1 (by omega),AM2 (by omega)];unfold Br gG pkT;rw[show((ep,dn++[],()):AR)=ws.getD a B8 from hw.symm,jw]
 |cons x rest ih=>
  intro dn ws se f ha ha4 hw FW yO AKG ARj hf;obtain⟨f,rfl⟩:∃f',f=f'+1:=⟨f-1,by omega⟩;simp only[AOX]at hf;have rp:ws.getD a (0,[],())=(ep,dn++x::rest,()):=hw;have hwe:1≤ep∧ep≤30:=FW.ep;have hwn:(dn++x::rest).length≤60:=FW.n;have hww:AU Ax (dn++x::rest)≤3000:=FW.w;have hwl:=hwn;simp only[AOq,AOX]at hwl;have ca:(0:Int)≤(a:Int)∧(a:Int)<(ws.length:Int):=by omega
  have cn:(0:Int)≤n∧n<(SS.length:Int):=⟨hn.1,hnS⟩;have xu:=JM (e:=ep) (o:=(dn.length:Int)+1) hwe (by omega);have hpm:Gl ep ((dn.length:Int)+1)=HF ep ((dn.length:Int)+1):=by
   grind[Gl,Am]
  have cd:(0:Int)≤(dn.length:Int)+1-1∧(dn.length:Int)+1-1<((dn++x::rest).length:Int):=by
   grind
  have e1:((dn.length:Int)+1-1).toNat=dn.length:=by omega
  have e2:(dn++x::rest).getD dn.length ([],[],false,())=x:=by simp[List.getD]
  have AP5:SS.getD n.toNat ([],[],0,())=st:=cC;simp only[Cz,I3,AB,As,Ct,AN4,rp,AM1 ca,AM1 cn];rw[AM1 (by omega),IK,hpm];simp only[AD,AP5];rw[show(st.1,st.2.1,st.2.2.1,())=st from rfl,UH (by omega) hs.sin];simp only[AD];rw[AH (x:=(dn.length:Int)+1+1) (by omega) (by omega),AH (x:=(dn.length:Int)+1-1) (by omega) (by omega)];simp only[AM1 cd,e1,e2];have go:∀(y:A8) (ws':List AR) (bw:List Ai),ws'.length=ws.length→ws'.getD a B8=(ep,dn++y::rest,())→(∀z,ws'.set a z=ws.set a z)→bZ c (ep,dn++y::rest,())→mr bw→(∀s∈bw,0≤s.1∧s.1<2^40)→bw.length≤120→
    (if !x.2.2.1&&N3 st (HF ep ((dn.length:Int)+1))then GR c n x else x)=y→(if !x.2.2.1&&N3 st (HF ep ((dn.length:Int)+1))&&(GR c n x).2.2.1 then RL (HF ep ((dn.length:Int)+1)) se else se)=bw→
    Cz f (a:Int) n ((dn.length:Int)+1+1) c.2.1 tr tn c.1 SS lo er ws' ms rs bw=some (pkT c.1 c.2.1 tr tn SS lo er (ws.set a (ep,dn++Br c st ep n ((dn.length:Int)+1) (x::rest),())) ms rs (gG c st ep n ((dn.length:Int)+1) (x::rest) se)):=fun y ws' bw g1 g2 g3 g4 g5 g6 g7 g8 g9=>by
   have:=ih (dn++[y]) ws' bw f (by omega) ha4 (by simp_all) (by simp_all) g5 g6 g7 (by omega);simp only[AOq,AOX,AQl,AOK,ASl]at this;grind[Br,gG]
  have stay:(if !x.2.2.1&&N3 st (HF ep ((dn.length:Int)+1))then GR c n x else x)=x→(if !x.2.2.1&&N3 st (HF ep ((dn.length:Int)+1))&&(GR c n x).2.2.1 then RL (HF ep ((dn.length:Int)+1)) se else se)=se→
    Cz f (a:Int) n ((dn.length:Int)+1+1) c.2.1 tr tn c.1 SS lo er ws ms rs se=some (pkT c.1 c.2.1 tr tn SS lo er (ws.set a (ep,dn++Br c st ep n ((dn.length:Int)+1) (x::rest),())) ms rs (gG c st ep n ((dn.length:Int)+1) (x::rest) se)):=fun g8 g9=>go x ws se rfl hw (fun _=>rfl) FW yO AKG ARj g8 g9
  have hsg:YF st (HF ep ((dn.length:Int)+1))=PL (HF ep ((dn.length:Int)+1)) st.1:=by unfold YF;rw[DO.2 hs,AM1 rfl]
  rw[hsg];cases hxd:x.2.2.1 with
  |true=>
   grind
  |false=>
   rw[ANP];cases hg:PL (HF ep ((dn.length:Int)+1)) st.1 with
   |none=>
    grind[N3,HF]
   |some e=>
    simp only[AOA];by_cases he0:e.2.1=0
    rotate_left
    ·have hh:N3 st (HF ep ((dn.length:Int)+1))=false:=by grind[N3]
     simp_all
    have hh:N3 st (HF ep ((dn.length:Int)+1))=true:=by grind[N3]
    rw[AM1 he0];have hx:=FW.words x (by simp);have hb:bZ c (ep,dn++GR c n x::rest,()):=⟨FW.cfg,FW.ep,by grind,fun b hb=>by
     simp only[AOk,ARi]at hb;rcases hb with hb|rfl|hb
     ·exact FW.words b (by simp[hb])
     ·exact⟨hx.1,Ks hx.2.1 hn,rfl⟩
     ·exact FW.words b (by simp[hb]),ASY (kt hxd) FW.opn⟩
    rw[show(c.1,c.2.1,())=c from rfl,iw (c:=c) (w:=(ep,dn++x::rest,())) (by omega) (by grind)];have ACG:Rx c (ep,dn++x::rest,()) ((dn.length:Int)+1) n=((ep,dn++GR c n x::rest,()),true):=by
     unfold Rx;rw[Ix.2 FW];simp only[ANZ,ANw,AQS];rw[e1,show(dn++x::rest).getD dn.length Ma=x from e2,hxd];rw[AM1 (by
      rw[ANN,ANN,Am,Am];grind)]
     grind
    rw[ACG];simp only[AD,pkW];have hx7:(ws.set a (ep,dn++GR c n x::rest,())).getD a (0,[],())=(ep,dn++GR c n x::rest,()):=Ni ha;have ca7:(0:Int)≤(a:Int)∧(a:Int)<((ws.set a (ep,dn++GR c n x::rest,())).length:Int):=by grind
    have cd7:(0:Int)≤(dn.length:Int)+1-1∧(dn.length:Int)+1-1<((dn++GR c n x::rest).length:Int):=by
     grind
    have e27:(dn++GR c n x::rest).getD dn.length ([],[],false,())=GR c n x:=by simp[List.getD]
    have hpr:0≤HF ep ((dn.length:Int)+1)∧HF ep ((dn.length:Int)+1)<2^40:=by unfold HF;omega
    obtain⟨q,hq,es⟩:=l7 yO (by omega) AKG hpr;unfold IW;rw[es];simp only[AD,hx7,AM1 ca7,AM1 cd7,e27];have Va:∀z,(ws.set a (ep,dn++GR c n x::rest,())).set a z=ws.set a z:=fun z=>AW6 ..
    have AMW:(if !x.2.2.1&&N3 st (HF ep ((dn.length:Int)+1))then GR c n x else x)=GR c n x:=by grind
    rcases AM0 (aV (HF ep ((dn.length:Int)+1)) se q)with hf|hf
    rotate_left
    ·rw[hf,ANP]
     refine go _ _ se (ASx ..) hx7 Va hb yO AKG ARj AMW ?_
     rw[zV (sF hq yO hf)];grind
    obtain⟨hql,hqe⟩:=xF hf;rw[hf,AOA];cases hd:(GR c n x).2.2.1 with
    |false=>
     grind
    |true=>
     rw[AOA,AM1 (by omega),AN4,show se.getD q (0,[],false,())=se[q]from jW hql,AC6 hql yO hqe];refine go _ _ _ (ASx ..) hx7 Va hb (APJ yO) (fun s hs' => ?_) (by rw[AQE];omega) AMW (by grind);grind[sm_at]
theorem xU{tr:Int}{tn:Bool}{lo:AAD}{er:List Cq}{ws:List AR}{rs:List Ak}{se:List Ai}{a:Nat}{m:A0}(hm:kF c m):∀(rest dn:List AAD) (ms:List A0) (f:Nat),a<ms.length→a≤4→ms.getD a Ra=(m.1,m.2.1,m.2.2.1,m.2.2.2.1,m.2.2.2.2.1,dn++rest,())→(dn++rest).length=m.2.2.2.2.2.1.length→(∀l∈dn++rest,A4 c l=true)→
  rest.length<f→
  BT f (a:Int) n ((dn.length:Int)+1) c.2.1 tr tn c.1 SS lo er ws ms rs se=some (pkT c.1 c.2.1 tr tn SS lo er ws (ms.set a (m.1,m.2.1,m.2.2.1,m.2.2.2.1,m.2.2.2.2.1,dn++Ff m st n ((dn.length:Int)+1) rest,())) rs se):=by
 have rA:=hs.w;have hmn:m.2.2.2.2.2.1.length≤60:=by
  have:=hm.n;have hb:=Hj (l:=m.2.2.2.1);omega
 intro rest
 induction rest with
 |nil=>
  intro dn ms f ha ha4 hw hl ho hf;obtain⟨f,rfl⟩:∃f',f=f'+1:=⟨f-1,by omega⟩;have rp:ms.getD a (0,0,[],[],false,[],())=(m.1,m.2.1,m.2.2.1,m.2.2.2.1,m.2.2.2.2.1,dn++[],()):=hw;simp only[BT,HG,AB,AN4,rp,AOC];rw[AM1 (by omega),AM2 (by omega)];unfold Ff pkT;rw[show((m.1,m.2.1,m.2.2.1,m.2.2.2.1,m.2.2.2.2.1,dn++[],()):A0)=ms.getD a Ra from hw.symm,jw]
 |cons x rest ih=>
  intro dn ms f ha ha4 hw hl ho hf;obtain⟨f,rfl⟩:∃f',f=f'+1:=⟨f-1,by omega⟩;simp only[AOX]at hf;have rp:ms.getD a (0,0,[],[],false,[],())=(m.1,m.2.1,m.2.2.1,m.2.2.2.1,m.2.2.2.2.1,dn++x::rest,()):=hw;have iV:=hl;simp only[AOq,AOX]at iV;have ca:(0:Int)≤(a:Int)∧(a:Int)<(ms.length:Int):=by omega
  have cn:(0:Int)≤n∧n<(SS.length:Int):=⟨hn.1,hnS⟩;have AP5:SS.getD n.toNat ([],[],0,())=st:=cC;have Z5:kF c (m.1,m.2.1,m.2.2.1,m.2.2.2.1,m.2.2.2.2.1,dn++x::rest,()):=⟨hm.cfg,hm.ep,hm.b,hm.sld,hm.u_,hm.seen,ho,by show((dn++x::rest).length:Int)=_;rw[hl];exact hm.n⟩;have yA:=Z5.w;simp only[BT,HG,AB,As,Ct,AN4,rp,AM1 ca,AM1 cn];rw[AM1 (by omega),ZT (m:=(m.1,m.2.1,m.2.2.1,m.2.2.2.1,m.2.2.2.2.1,dn++x::rest,())) (by omega),cS hl];simp only[AD,AP5];rw[show(st.1,st.2.1,st.2.2.1,())=st from rfl,UH (by omega) hs.sin];simp only[AD];rw[AH (x:=(dn.length:Int)+1+1) (by omega) (by omega)];have go:∀(y:AAD) (ms':List A0),ms'.length=ms.length→ms'.getD a Ra=(m.1,m.2.1,m.2.2.1,m.2.2.2.1,m.2.2.2.2.1,dn++y::rest,())→(∀z,ms'.set a z=ms.set a z)→A4 c y=true→
    (if Us m st ((dn.length:Int)+1)then N4 n x else x)=y→
    BT f (a:Int) n ((dn.length:Int)+1+1) c.2.1 tr tn c.1 SS lo er ws ms' rs se=some (pkT c.1 c.2.1 tr tn SS lo er ws (ms.set a (m.1,m.2.1,m.2.2.1,m.2.2.2.1,m.2.2.2.2.1,dn++Ff m st n ((dn.length:Int)+1) (x::rest),())) rs se):=fun y ms' g1 g2 g3 g4 g5=>by
   have:=ih (dn++[y]) ms' f (by omega) ha4 (by simp_all) (by simp_all) (fun l hl=>by
    grind) (by omega)
   simp only[AOq,AOX,AQl,AOK,ASl]at this;grind[Ff]
  have hx:=ho x (by simp);have stay:Us m st ((dn.length:Int)+1)=false→BT f (a:Int) n ((dn.length:Int)+1+1) c.2.1 tr tn c.1 SS lo er ws ms rs se=some (pkT c.1 c.2.1 tr tn SS lo er ws (ms.set a (m.1,m.2.1,m.2.2.1,m.2.2.2.1,m.2.2.2.2.1,dn++Ff m st n ((dn.length:Int)+1) (x::rest),())) rs se):=fun g=>go x ms rfl hw (fun _=>rfl) hx (by simp_all)
  have hsg:∀p,YF st p=PL p st.1:=fun p=>by unfold YF;rw[DO.2 hs,AM1 rfl]
  rw[hsg];cases he:EL m ((dn.length:Int)+1)with
  |none=>
   simp only[ASu,ANP];grind[Us]
  |some e=>
   simp only[ASs,AOA,ASp];cases hg:PL e.1 st.1 with
   |none=>
    grind[Us]
   |some y=>
    simp only[AOA,eqE,AB];by_cases hye:y=e
    rotate_left
    ·rw[AM2 hye]
     grind[Us]
    have hh:Us m st ((dn.length:Int)+1)=true:=by grind[Us]
    rw[AM1 hye,show(c.1,c.2.1,())=c from rfl,nK (c:=c) (m:=(m.1,m.2.1,m.2.2.1,m.2.2.2.1,m.2.2.2.2.1,dn++x::rest,())) (by omega) (by omega) Z5.xM];have ACG:Sm c (m.1,m.2.1,m.2.2.1,m.2.2.2.1,m.2.2.2.2.1,dn++x::rest,()) ((dn.length:Int)+1) n=((m.1,m.2.1,m.2.2.1,m.2.2.2.1,m.2.2.2.2.1,dn++N4 n x::rest,()),true):=by
     unfold Sm;rw[Gg.2 Z5];have hq:(BL ((dn.length:Int)+1) 1 ((dn++x::rest).length:Int)&&BL n 0 ((c.1.length:Int)-1))=true:=by
      rw[ANN,Am,Am];omega
     grind
    grind[AD,gF,N4,List.length_set,Ni,List.set_set,Ks]
end
def hY(c:CE)(s:AQ)(ep n:Int):Int→List A8→Int→Bool
 |_,[],_=>false
 |o,x::l,p=>(decide (p=HF ep o)&&(!x.2.2.1&&N3 s (HF ep o)&&(GR c n x).2.2.1))||hY c s ep n (o+1) l p
theorem sb{c:CE}{st:AQ}{ep n:Int}:∀{l:List A8} {o:Int} {se:List Ai},gG c st ep n o l se=se.map fun s=>(s.1,s.2.1,s.2.2.1||hY c st ep n o l s.1,())
 |[],o,se=>by
  simp only[gG,hY,AXL];simp_all
 |x::l,o,se=>by
  simp only[gG];rw[sb];rcases AM0 (!x.2.2.1&&N3 st (HF ep o)&&(GR c n x).2.2.1)with hb|hb
  ·rw[hb,AM1 rfl]
   unfold RL;rw[AUL];refine AS5 fun s _=> ?_
   simp only[Function.comp_apply,hY,hb,AS3];grind
  ·rw[hb]
   simp only[ANw,AQS];refine AS5 fun s _=> ?_
   simp only[hY,hb,AVD,ASj]
theorem sQ{c:CE}{st:AQ}{ep n p:Int}(hep:1≤ep∧ep≤30)(hp:Bf p=true):∀{l:List A8} {o:Int},1≤o→o+l.length≤61→
  hY c st ep n o l p=(Aw p==ep&&(decide (o≤EE p)&&(decide (EE p<o+l.length)&&(((Br c st ep n o l).getD (EE p-o).toNat Ma).2.2.1&& !(l.getD (EE p-o).toNat Ma).2.2.1))))
 |[],o,_,_=>by
  have:(decide (o≤EE p)&&decide (EE p<o+(([]:List A8).length:Int)))=false:=by
   simp_all
  rw[←Bool.and_assoc (decide (o≤EE p)),this,ASv,AVD];rfl
 |x::l,o,ho,hl=>by
  simp only[AOX]at hl;have hf:=HD hp;simp only[hY];rw[sQ hep hp (l:=l) (o:=o+1) (by omega) (by omega)];by_cases he:Aw p=ep
  rotate_left
  ·grind[HF,JM,beq_eq_false_iff_ne,decide_eq_false]
  rw[ASo.2 he];simp only[AOM,AOX];by_cases h1:EE p=o
  ·have hpe:p=HF ep o:=by simp_all
   have e0:(EE p-o).toNat=0:=by omega
   rw[AQg hpe,ASg (show¬o+1≤EE p by omega),AQg (show o≤EE p by omega),AQg (show EE p<o+((l.length+1:Nat):Int)by omega),e0];simp only[AOM,ASv,AXL,Br,List.getD_cons_zero];grind
  ·have ea:p≠HF ep o:=fun e=>h1 (by grind[JM])
   rw[ASg ea,ASv,ASj];by_cases h2:o≤EE p
   ·rw[AQg h2,AQg (show o+1≤EE p by omega)]
    have e1:(EE p-o).toNat=(EE p-(o+1)).toNat+1:=by omega
    rw[e1];simp only[Br,List.getD_cons_succ];grind
   grind
theorem fz{c:CE}{st:AQ}{ep n:Int}:∀{l:List A8} {o:Int},(Br c st ep n o l).length=l.length
 |[],_=>rfl
 |x::l,o=>by simp only[Br,AOX,fz]
theorem ya{c:CE}{st:AQ}{ep n:Int}(hep:1≤ep∧ep≤30){l:List A8}(hl:l.length≤60){se:List Ai}(hs:∀s∈se,Bf s.1=true):gG c st ep n 1 l se=se.map (QN false ep l (Br c st ep n 1 l)):=by
 rw[sb];refine AS5 fun s hm=> ?_
 have hf:=HD (hs s hm);unfold QN dz;rw[sQ hep (hs s hm) (by omega) (by omega),fz];by_cases h1:EE s.1≤l.length
 ·have:BL (EE s.1) 1 (l.length:Int)=true:=Am.2 (by omega)
  grind
 ·have:BL (EE s.1) 1 (l.length:Int)=false:=by
   rw[←AQV,Am];omega
  grind
end Go.M
end
section
set_option maxRecDepth 8000
namespace Go.M
open Go.M.H (AK AQ A0 Ai AA Cq AO A8 AR Ak Bd A9 BK Aj CB AU AW Ab Ag Bg Ax Ao Au EB CL Cy C_)
def AFZ(q:AA×Int):cR:=((q.2,()),(((),q.1.2.1,(),(),(),q.1.2.2.2.2.2.1,(),(),(),(),q.1.2.2.2.2.2.2.2.2.2.2.1,()),q.1.1,q.1.2.2.1,(),(),(),(),q.1.2.2.2.2.2.2.2.2.1,(),q.1.2.2.2.1,q.1.2.2.2.2.1,q.1.2.2.2.2.2.2.1,q.1.2.2.2.2.2.2.2.1,q.1.2.2.2.2.2.2.2.2.2.1,()))
def ww(w:AA)(SS:List AQ)(ws:List AR)(ms:List A0)(se:List Ai):AA:=(((w.CF SS).BZ ws).Az se).Cn ms
section
variable{w:AA} (h:Nw w) {st:AQ} {SS:List AQ} {n:Int} (hs:cI st) (hn:0≤n∧n<(Ae w).1.length) (hnS:n<(SS.length:Int)) (cC:SS.getD n.toNat EF=st)
include h hs hn hnS cC
theorem ADa{ws:List AR}{se:List Ai}:∀(k i:Nat),w.2.2.2.2.2.2.2.1.length-i=k→i≤w.2.2.2.2.2.2.2.1.length→ ∀f,k<f→
  FR f n w.2.2.2.2.2.2.2.1.length i w.2.1 w.2.2.2.2.2.1 w.2.2.2.2.2.2.2.2.2.2.1 w.1 SS w.2.2.2.1 w.2.2.2.2.1 ws ((w.2.2.2.2.2.2.2.1.map (Ln st w.BA n)).take i++w.2.2.2.2.2.2.2.1.drop i) w.2.2.2.2.2.2.2.2.1 se=some (kv (ww w SS ws (w.2.2.2.2.2.2.2.1.map (Ln st w.BA n)) se,0)):=by
 have k:=h.nums;have k1:=k.c;have k5:=k.era;have k6:=k.md;intro k
 induction k with
 |zero=>
  intro i hk hi f hf;obtain⟨f,rfl⟩:∃f',f=f'+1:=⟨f-1,by omega⟩;have:i=w.2.2.2.2.2.2.2.1.length:=by omega
  simp only[FR,Mo,AB];rw[AM2 (by omega),this,AS1,AOC,ASh (by simp)];rfl
 |succ k ih=>
  intro i hk hi f hf;obtain⟨f,rfl⟩:∃f',f=f'+1:=⟨f-1,by omega⟩;have DL:i<w.2.2.2.2.2.2.2.1.length:=by omega
  have hm:=(h.CI _ (AN7 DL)).1;have hme:=hm.ep;have Vb:(Bh w.BA w.2.2.2.2.2.2.2.1[i].2.1).length≤8:=Gh h;simp only[FR,Mo,AB];rw[OI hi,AM1 (by omega),AM1 (by omega),AN4,NL DL,show(w.2.2.2.2.1,w.2.2.2.2.2.1,())=CO w from rfl,Pr (r:=CO w) (by show AU Bg w.2.2.2.2.1≤_;omega) ⟨by omega,by omega⟩];rw[show(CO w).1=w.BA from rfl];simp only[AD];rw[JC (by omega),AH (x:=(i:Int)+1) (by omega) (by omega),show((i:Int)+1)=((i+1:Nat):Int)by omega];simp only[AD];have nx:=ih (i+1) (by omega) (by omega) f (by omega);rcases AM0 ((Bh w.BA w.2.2.2.2.2.2.2.1[i].2.1).contains n)with hc|hc
  ·have hT:Ln st w.BA n w.2.2.2.2.2.2.2.1[i]=(w.2.2.2.2.2.2.2.1[i].1,w.2.2.2.2.2.2.2.1[i].2.1,w.2.2.2.2.2.2.2.1[i].2.2.1,w.2.2.2.2.2.2.2.1[i].2.2.2.1,w.2.2.2.2.2.2.2.1[i].2.2.2.2.1,Ff w.2.2.2.2.2.2.2.1[i] st n 1 w.2.2.2.2.2.2.2.1[i].2.2.2.2.2.1,()):=by
    unfold Ln;rw[AM1 hc]
   have hmn:w.2.2.2.2.2.2.2.1[i].2.2.2.2.2.1.length≤60:=by
    have:=hm.n;have hb:=Hj (l:=w.2.2.2.2.2.2.2.1[i].2.2.2.1);split at this<;>omega
   have:=xU (c:=Ae w) (tr:=w.2.2.2.2.2.1) (tn:=w.2.2.2.2.2.2.2.2.2.2.1) (lo:=w.2.2.2.1) (er:=w.2.2.2.2.1) (ws:=ws) (rs:=w.2.2.2.2.2.2.2.2.1) (se:=se) (a:=i) k1 hs hn hnS cC hm w.2.2.2.2.2.2.2.1[i].2.2.2.2.2.1 [] ((w.2.2.2.2.2.2.2.1.map (Ln st w.BA n)).take i++w.2.2.2.2.2.2.2.1.drop i) AX (by rw[OI hi];exact DL) (by omega) (NL DL) rfl (by simpa using hm.wrote) (AZ (by omega));rw[hc,AOA];unfold Lb KJ;simp only[AQl,ARU]at this;have e1:(((0:Nat):Int)+1)=1:=rfl;rw[e1]at this;rw[show(w.2.1:Int)=(Ae w).2.1 from rfl,show w.1=(Ae w).1 from rfl,this];simp only[AD,pkT];rw[Qn DL hT.symm];exact nx
  ·have hT:Ln st w.BA n w.2.2.2.2.2.2.2.1[i]=w.2.2.2.2.2.2.2.1[i]:=by
    unfold Ln;rw[AM2 (by rw[hc];simp)]
   rw[hc,ANP,ig DL hT];exact nx
theorem AK5:∀(rest pre:List AR) (se:List Ai) (f:Nat),pre.length+rest.length=w.2.2.2.2.2.2.1.length→(∀x∈rest,bZ (Ae w) x)→mr se→(∀s∈se,Bf s.1=true)→se.length≤120→rest.length+w.2.2.2.2.2.2.2.1.length+1<f→
  Ey f n w.2.2.2.2.2.2.1.length pre.length w.2.1 w.2.2.2.2.2.1 w.2.2.2.2.2.2.2.2.2.2.1 w.1 SS w.2.2.2.1 w.2.2.2.2.1 (pre++rest) w.2.2.2.2.2.2.2.1 w.2.2.2.2.2.2.2.2.1 se st.2.2.1=
   some (kv (ww w SS (pre++(FE false (Ae w) st w.BA n rest se).1) (w.2.2.2.2.2.2.2.1.map (Ln st w.BA n)) (FE false (Ae w) st w.BA n rest se).2,0)):=by
 have k:=h.nums;have k1:=k.c;have k2:=k.wr;have k5:=k.era;have k6:=k.md;have hb:∀{p:Int},Bf p=true→0≤p∧p<2^40:=fun{p} hp=>by
  have h1:=HD hp;have h2:=h1.2.2;unfold HF at h2;omega
 intro rest
 induction rest with
 |nil=>
  intro pre se f hl hw ha hp hsl hf;obtain⟨f,rfl⟩:∃f',f=f'+1:=⟨f-1,by omega⟩;simp only[AQl]at hl hf;simp only[Ey,Nz,AB,AOC];rw[AM2 (by omega)];have:=ADa h hs hn hnS cC (ws:=pre) (se:=se) w.2.2.2.2.2.2.2.1.length 0 (by omega) (by omega) f (by omega);rw[show((0:Nat):Int)=0 from rfl,APS,AWG,ARU]at this;rw[this];simp only[FE,AOC]
 |cons x rest ih=>
  intro pre se f hl hw ha hp hsl hf;obtain⟨f,rfl⟩:∃f',f=f'+1:=⟨f-1,by omega⟩;simp only[AOX]at hl hf;have hx:=hw x (by simp);have hxe:=hx.ep;have hxn:=hx.n;have xu:(pre++x::rest).length=pre.length+(rest.length+1):=by simp
  have cp:(0:Int)≤(pre.length:Int)∧(pre.length:Int)<((pre++x::rest).length:Int):=by omega
  have e2:(pre++x::rest).getD pre.length (0,[],())=x:=by simp[List.getD]
  have Vb:(Bh w.BA x.1).length≤8:=Gh h;simp only[Ey,Nz,AB,AN4,AM1 cp,e2];rw[AM1 (by omega),show(w.2.2.2.2.1,w.2.2.2.2.2.1,())=CO w from rfl,Pr (r:=CO w) (by show AU Bg w.2.2.2.2.1≤_;omega) ⟨by omega,by omega⟩];rw[show(CO w).1=w.BA from rfl];simp only[AD];rw[JC (by omega),AH (x:=(pre.length:Int)+1) (by omega) (by omega),show((pre.length:Int)+1)=((pre.length+1:Nat):Int)by omega];simp only[AD];have next:∀(b:AR) (bw:List Ai),mr bw→(∀s∈bw,Bf s.1=true)→bw.length≤120→
    Ey f n w.2.2.2.2.2.2.1.length ((pre.length+1:Nat):Int) w.2.1 w.2.2.2.2.2.1 w.2.2.2.2.2.2.2.2.2.2.1 w.1 SS w.2.2.2.1 w.2.2.2.2.1 (pre++b::rest) w.2.2.2.2.2.2.2.1 w.2.2.2.2.2.2.2.2.1 bw st.2.2.1=
     some (kv (ww w SS (pre++b::(FE false (Ae w) st w.BA n rest bw).1) (w.2.2.2.2.2.2.2.1.map (Ln st w.BA n)) (FE false (Ae w) st w.BA n rest bw).2,0)):=fun b bw h1 h2 h3=>by
   have:=ih (pre++[b]) bw f (by simp only[AOq,AOX,AQl];omega) (fun x hx=>hw x (by simp[hx])) h1 h2 h3 (by omega);simp only[AOq,AOX,AQl,AOK,ASl]at this;exact this
  simp only[FE];rcases AM0 (eF st w.BA n x)with ht|ht
  rotate_left
  ·rw[ht]
   simp only[ANw,AQS];unfold eF at ht;by_cases G4:x.1>st.2.2.1
   ·rw[AQg (show st.2.2.1<x.1 from G4),AS3]at ht
    rw[AM1 G4,ht,ANP];exact next x se ha hp hsl
   ·rw[AM2 G4]
    exact next x se ha hp hsl
  ·rw[ht]
   simp only[ASi];unfold eF at ht;rw[ANN,AOH]at ht;rw[AM1 (show x.1>st.2.2.1 from ht.2),ht.1,AOA];have:=xS (c:=Ae w) (tr:=w.2.2.2.2.2.1) (tn:=w.2.2.2.2.2.2.2.2.2.2.1) (lo:=w.2.2.2.1) (er:=w.2.2.2.2.1) (ms:=w.2.2.2.2.2.2.2.1) (rs:=w.2.2.2.2.2.2.2.2.1) (a:=pre.length) (ep:=x.1) k1 hs hn hnS cC x.2.1 [] (pre++x::rest) se AX (by omega) (by omega) (show(pre++x::rest).getD pre.length (0,[],())=x from e2) hx ha (fun s hs' =>hb (hp s hs')) hsl (AZ (by omega));unfold N8 OU;simp only[AQl,ARU]at this;have e1:(((0:Nat):Int)+1)=1:=rfl;rw[e1,ya hxe hxn hp,AVo _ _ (by omega),AXR,AUE]at this;rw[show(w.2.1:Int)=(Ae w).2.1 from rfl,show w.1=(Ae w).1 from rfl,this];simp only[AD,pkT];refine next _ _ ?_ (fun s hs' => ?_) (by rw[ATV];exact hsl)
   ·unfold mr Wf
    rw[AUg];exact List.Pairwise.imp (fun{a b} nu=>nu) ha
   ·obtain⟨s',h1,rfl⟩:=ATD.1 hs'
    exact hp s' h1
end
section
variable{w:AA} (h:Nw w)
include h
theorem iH{n:Int}:Qi n w.2.1 w.2.2.2.2.2.1 w.2.2.2.2.2.2.2.2.2.2.1 w.1 w.2.2.1 w.2.2.2.1 w.2.2.2.2.1 w.2.2.2.2.2.2.1 w.2.2.2.2.2.2.2.1 w.2.2.2.2.2.2.2.2.1 w.2.2.2.2.2.2.2.2.2.1=some (kv (N_ false w n)):=by
 have k:=h.nums;have k1:=k.c;have k2:=k.wr;have k3:=k.lost;have k4:=k.st;have bl:=k.jf;have iY:=k.KF;have kH:=k.iZ;have k5:=k.era;have k7:=k.cF;unfold Qi Tm N_;rw[show(w.1,w.2.1,w.2.2.1,w.2.2.2.1,w.2.2.2.2.1,w.2.2.2.2.2.1,w.2.2.2.2.2.2.1,w.2.2.2.2.2.2.2.1,w.2.2.2.2.2.2.2.2.1,w.2.2.2.2.2.2.2.2.2.1,w.2.2.2.2.2.2.2.2.2.2.1,())=w from rfl,MB (by omega) (by omega)];simp only[AD,Ct,As];by_cases h3:Aq w n=0
 rotate_left
 ·rw[AM2 h3,AM1 h3];rfl
 obtain⟨hr,s1,s2,s3⟩:=h.L8 h3;have cC:w.2.2.1.getD n.toNat ([],[],0,())=storeAt w n:=rfl;rw[AM1 h3,AM2 (show¬(Aq w n≠0)from fun hh=>hh h3)];simp only[AM1 hr,cC];rw[show((storeAt w n).1,(storeAt w n).2.1,(storeAt w n).2.2.1,())=storeAt w n from rfl,Zu s1 s2];simp only[AD,ia];rcases AM0 (Be (storeAt w n)).2 with hq|hq
 rotate_left
 ·rw[hq,Iu];rfl
 rw[hq,F9,AOA];have FW:cI (Be (storeAt w n)).1:=(Nn hq).2.1;have AaX:n.toNat<w.2.2.1.length:=by omega
 have:=AK5 h (st:=(Be (storeAt w n)).1) (SS:=w.2.2.1.set n.toNat (Be (storeAt w n)).1) (n:=n) FW (h.node h3).1 (by rw[ASx];exact hr.2) (Ni AaX) w.2.2.2.2.2.2.1 [] w.2.2.2.2.2.2.2.2.2.1 AX (by simp) (fun x hx=>(h.AN x hx).1) h.bU (fun s hs=>(h.Al s hs).1) k.se (AZ (by have:=k.md;omega));simp only[AQl,ARU]at this;rw[show((0:Nat):Int)=0 from rfl]at this;exact this
theorem AEF{n:Int}{ss:List AQ}{ls:AAD}{ws:List AR}(hls:ls.length≤2^20):∀(f i:Nat),i≤w.2.2.2.2.2.2.2.1.length→w.2.2.2.2.2.2.2.1.length-i<f→
  Gz f n w.2.2.2.2.2.2.2.1.length i w.2.1 w.2.2.2.2.2.1 w.2.2.2.2.2.2.2.2.2.2.1 w.1 ss w.2.2.2.1 w.2.2.2.2.1 ws ((w.2.2.2.2.2.2.2.1.map fun m=>(CA (Ae w) m n).1).take i++w.2.2.2.2.2.2.2.1.drop i) w.2.2.2.2.2.2.2.2.1 w.2.2.2.2.2.2.2.2.2.1 ls=
   some (ALk (((((w.CF ss).FH ls).BZ ws).Cn (w.2.2.2.2.2.2.2.1.map fun m=>(CA (Ae w) m n).1)).FV (w.Ib||holds (Ae w) ls),0)):=by
 have k:=h.nums;have k1:=k.c;have k6:=k.md;intro f
 induction f with
 |zero=>intro i _ h;omega
 |succ f ih=>
  intro i hi hn;have hlen:=OI (f:=fun m:A0=>(CA (Ae w) m n).1) hi;simp only[Gz,Td,AB,As,hlen];by_cases DL:i<w.2.2.2.2.2.2.2.1.length
  ·have c1:(0:Int)≤(i:Int)∧(i:Int)<(w.2.2.2.2.2.2.2.1.length:Int):=by omega
   have hm:=(h.CI _ (AN7 DL)).1;have yA:=hm.w;have hg:((w.2.2.2.2.2.2.2.1.map fun m=>(CA (Ae w) m n).1).take i++w.2.2.2.2.2.2.2.1.drop i).getD i (0,0,[],[],false,[],())=w.2.2.2.2.2.2.2.1[i]:=NL DL;simp only[AM1 c1,AM1 c1.2,AN4,hg];rw[AH (by omega) (by omega),show((i:Int)+1)=((i+1:Nat):Int)by omega,show(w.2.2.2.2.2.2.2.1[i].1,w.2.2.2.2.2.2.2.1[i].2.1,w.2.2.2.2.2.2.2.1[i].2.2.1,w.2.2.2.2.2.2.2.1[i].2.2.2.1,w.2.2.2.2.2.2.2.1[i].2.2.2.2.1,w.2.2.2.2.2.2.2.1[i].2.2.2.2.2.1,())=w.2.2.2.2.2.2.2.1[i]from rfl,show(w.1,w.2.1,())=Ae w from rfl,iF (c:=Ae w) (by show w.1.length≤_;omega) (by omega) hm.xM];simp only[AD,gF];rw[show((CA (Ae w) w.2.2.2.2.2.2.2.1[i] n).1.1,(CA (Ae w) w.2.2.2.2.2.2.2.1[i] n).1.2.1,(CA (Ae w) w.2.2.2.2.2.2.2.1[i] n).1.2.2.1,(CA (Ae w) w.2.2.2.2.2.2.2.1[i] n).1.2.2.2.1,(CA (Ae w) w.2.2.2.2.2.2.2.1[i] n).1.2.2.2.2.1,(CA (Ae w) w.2.2.2.2.2.2.2.1[i] n).1.2.2.2.2.2.1,())=(CA (Ae w) w.2.2.2.2.2.2.2.1[i] n).1 from rfl,Qn DL rfl];exact ih (i+1) (by omega) (by omega)
  ·have:i=w.2.2.2.2.2.2.2.1.length:=by omega
   rw[AM2 (by omega),this,AS1,AOC,ASh (by simp),show(w.1,w.2.1,())=Ae w from rfl,GX (by show w.1.length≤_;omega) (by omega)];simp only[AD];cases ht:w.2.2.2.2.2.2.2.2.2.2.1 with
   |true=>
    have ht':w.Ib=true:=ht;rw[ht'];rfl
   |false=>
    have ht':w.Ib=false:=ht;rw[ht'];rfl
theorem ALl{n:Int}{ss:List AQ}{ls:AAD}(hls:ls.length≤2^20):∀(f i:Nat),i≤w.2.2.2.2.2.2.1.length→(w.2.2.2.2.2.2.1.length-i)+w.2.2.2.2.2.2.2.1.length+2≤f→
  Hd f n w.2.2.2.2.2.2.1.length i w.2.1 w.2.2.2.2.2.1 w.2.2.2.2.2.2.2.2.2.2.1 w.1 ss w.2.2.2.1 w.2.2.2.2.1 ((w.2.2.2.2.2.2.1.map fun x=>(CD (Ae w) x n).1).take i++w.2.2.2.2.2.2.1.drop i) w.2.2.2.2.2.2.2.1 w.2.2.2.2.2.2.2.2.1 w.2.2.2.2.2.2.2.2.2.1 ls=
   some (ALk (((((w.CF ss).FH ls).BZ (w.2.2.2.2.2.2.1.map fun x=>(CD (Ae w) x n).1)).Cn (w.2.2.2.2.2.2.2.1.map fun m=>(CA (Ae w) m n).1)).FV (w.Ib||holds (Ae w) ls),0)):=by
 have k:=h.nums;have k1:=k.c;have k6:=k.wr;intro f
 induction f with
 |zero=>intro i _ h;omega
 |succ f ih=>
  intro i hi hn;have hlen:=OI (f:=fun x:AR=>(CD (Ae w) x n).1) hi;simp only[Hd,T2,AB,As,hlen];by_cases DL:i<w.2.2.2.2.2.2.1.length
  ·have c1:(0:Int)≤(i:Int)∧(i:Int)<(w.2.2.2.2.2.2.1.length:Int):=by omega
   have hm:=(h.AN _ (AN7 DL)).1;have yA:=hm.w;have hg:((w.2.2.2.2.2.2.1.map fun x=>(CD (Ae w) x n).1).take i++w.2.2.2.2.2.2.1.drop i).getD i (0,[],())=w.2.2.2.2.2.2.1[i]:=NL DL;simp only[AM1 c1,AM1 c1.2,AN4,hg];rw[AH (by omega) (by omega),show((i:Int)+1)=((i+1:Nat):Int)by omega,show(w.2.2.2.2.2.2.1[i].1,w.2.2.2.2.2.2.1[i].2.1,())=w.2.2.2.2.2.2.1[i]from rfl,show(w.1,w.2.1,())=Ae w from rfl,eY (c:=Ae w) (by show w.1.length≤_;omega) (by have:Ao w.2.2.2.2.2.2.1[i]=AU Ax w.2.2.2.2.2.2.1[i].2.1:=rfl;omega)];simp only[AD,pkW];rw[show((CD (Ae w) w.2.2.2.2.2.2.1[i] n).1.1,(CD (Ae w) w.2.2.2.2.2.2.1[i] n).1.2.1,())=(CD (Ae w) w.2.2.2.2.2.2.1[i] n).1 from rfl,Qn DL rfl];exact ih (i+1) (by omega) (by omega)
  ·have:i=w.2.2.2.2.2.2.1.length:=by omega
   have k12:=AEF h (n:=n) (ss:=ss) (ws:=w.2.2.2.2.2.2.1.map fun x=>(CD (Ae w) x n).1) hls f 0 (by omega) (by omega);rw[show((0:Nat):Int)=0 from rfl,APS,AWG,ARU]at k12;rw[AM2 (by omega),this,AS1,AOC,ASh (by simp),k12]
theorem gM{n:Int}:Qf n w.2.1 w.2.2.2.2.2.1 w.2.2.2.2.2.2.2.2.2.2.1 w.1 w.2.2.1 w.2.2.2.1 w.2.2.2.2.1 w.2.2.2.2.2.2.1 w.2.2.2.2.2.2.2.1 w.2.2.2.2.2.2.2.2.1 w.2.2.2.2.2.2.2.2.2.1=some (ALk (M8 w n)):=by
 have k:=h.nums;have k1:=k.c;have k2:=k.wr;have k3:=k.lost;have k4:=k.st;have bl:=k.jf;have iY:=k.KF;have kH:=k.iZ;have k5:=k.era;have k7:=k.cF;have k6:=k.md;unfold Qf T3 M8;rw[show(w.1,w.2.1,w.2.2.1,w.2.2.2.1,w.2.2.2.2.1,w.2.2.2.2.2.1,w.2.2.2.2.2.2.1,w.2.2.2.2.2.2.2.1,w.2.2.2.2.2.2.2.2.1,w.2.2.2.2.2.2.2.2.2.1,w.2.2.2.2.2.2.2.2.2.2.1,())=w from rfl,MB (by omega) (by omega)];simp only[AD,Ct];by_cases h3:Aq w n=0
 rotate_left
 ·rw[AM2 h3,AM1 h3];rfl
 obtain⟨hr,s1,s2,s3⟩:=h.L8 h3;rw[AM1 h3,AM2 (show¬(Aq w n≠0)from fun hh=>hh h3),AM1 hr,Pe (En.1 h.lost).2.2 (by omega)];simp only[AD];have hp:=TQ (n:=n) (l:=w.2.2.2.1);have:=ALl h (n:=n) (ss:=w.2.2.1.set n.toNat ([],[],0,())) (ls:=N4 n w.2.2.2.1) (by omega) AX 0 (by omega) (ATE (AZ (by omega)));rw[show((0:Nat):Int)=0 from rfl,APS,AWG,ARU]at this;exact this
theorem kV{d:BK}(QM:lF w)(ze:CR d.2.1)(hd:d.2.2.2.2.1.length≤40)(hk:1≤d.1∧d.1≤16):Ut d w.2.1 w.2.2.2.2.2.1 w.2.2.2.2.2.2.2.2.2.2.1 w.1 w.2.2.1 w.2.2.2.1 w.2.2.2.2.1 w.2.2.2.2.2.2.1 w.2.2.2.2.2.2.2.1 w.2.2.2.2.2.2.2.2.1 w.2.2.2.2.2.2.2.2.2.1=some (AFZ (LQ false w d)):=by
 have k:=h.nums;have k1:=k.c;have k2:=k.wr;have k3:=k.lost;have k4:=k.st;have bl:=k.jf;have iY:=k.KF;have kH:=k.iZ;have k5:=k.era;have k7:=k.cF;unfold Ut LQ;rw[show(d.1,d.2.1,d.2.2.1,d.2.2.2.1,d.2.2.2.2.1,())=d from rfl];simp only[DB];by_cases c1:d.1=1
 ·rw[AM1 c1,AM1 c1,gZ h];rfl
 rw[AM2 c1,AM2 c1];by_cases c2:d.1=2
 ·rw[AM1 c2,AM1 c2,jT h hd];rfl
 rw[AM2 c2,AM2 c2];by_cases c3:d.1=3
 ·rw[AM1 c3,AM1 c3,fW h];rfl
 rw[AM2 c3,AM2 c3];by_cases c4:d.1=4
 ·rw[AM1 c4,AM1 c4,iH h];rfl
 rw[AM2 c4,AM2 c4];by_cases c5:d.1=5
 ·rw[AM1 c5,AM1 c5,fk h];rfl
 rw[AM2 c5,AM2 c5];by_cases c6:d.1=6
 ·rw[AM1 c6,AM1 c6,gM h];rfl
 rw[AM2 c6,AM2 c6];by_cases c7:d.1=7
 ·rw[AM1 c7,AM1 c7,iS h];rfl
 rw[AM2 c7,AM2 c7];by_cases c8:d.1=8
 ·rw[AM1 c8,AM1 c8,gS h];rfl
 rw[AM2 c8,AM2 c8];by_cases c9:d.1=9
 ·rw[AM1 c9,AM1 c9,iN h];rfl
 rw[AM2 c9,AM2 c9];by_cases c10:d.1=10
 ·rw[AM1 c10,AM1 c10,gO h];rfl
 rw[AM2 c10,AM2 c10];by_cases c11:d.1=11
 ·rw[AM1 c11,AM1 c11,ja h];rfl
 rw[AM2 c11,AM2 c11];by_cases c12:d.1=12
 ·rw[AM1 c12,AM1 c12,fZ h];rfl
 rw[AM2 c12,AM2 c12];by_cases c13:d.1=13
 ·rw[AM1 c13,AM1 c13,show(w.1,w.2.1,())=Ae w from rfl,show(w.2.2.2.2.1,w.2.2.2.2.2.1,())=CO w from rfl,nt (c:=Ae w) (r:=CO w) (by show w.1.length≤_;omega) (by show AU Bg w.2.2.2.2.1≤_;omega) k.trim ze]
  simp only[AD,pkR,PU];unfold Ox;dsimp only;rcases AM0 (OW (Ae w) (CO w) d.2.1).2 with hq|hq
  ·rw[hq,F9];rfl
  ·have e:(OW (Ae w) (CO w) d.2.1).1=CO w:=by
    unfold OW at hq⊢;rw[KO.2 h.nj]at hq⊢;simp only[ANZ,ANw,AQS]at hq⊢;split at hq
    ·cases hq
    ·rename_i hn;rw[AM2 hn]
   rw[hq,e,Iu];rfl
 rw[AM2 c13,AM2 c13];by_cases c14:d.1=14
 ·rw[AM1 c14,AM1 c14,gr h QM];rfl
 rw[AM2 c14,AM2 c14];by_cases c16:d.1=16
 ·rw[AM1 c16,AM2 (show¬d.1=15 by omega),fT h];rfl
 rw[AM2 c16,AM1 (show d.1=15 by omega),AH (x:=(w.2.2.2.2.2.2.1.length:Int)-1) (by omega) (by omega),Av];simp only[AD,As];unfold N1;rw[show BL d.2.1 0 ((w.2.2.2.2.2.2.1.length:Int)-1)=BL d.2.1 0 ((w.AN.length:Int)-1)from rfl];rcases AM0 (BL d.2.1 0 ((w.AN.length:Int)-1))with h1|h1
 rotate_left
 ·rw[h1,Iu];rfl
 obtain⟨x1,x2,x3⟩:=h.dk h1;rw[h1,AOA,F9,AH (x:=d.2.1+1) (by omega) (by omega)];unfold FC AFb;rw[AM1 (by omega)];simp only[Option.map_some,AD];rw[show(d.2.1+1).toNat=d.2.1.toNat+1 by omega,←List.eraseIdx_eq_take_drop_succ];rfl
theorem kq{d:BK}(QM:lF w)(ze:CR d.2.1):Pz w d=some (pkD (CC false w d)):=by
 unfold Pz CC;rw[show(w.1,w.2.1,w.2.2.1,w.2.2.2.1,w.2.2.2.2.1,w.2.2.2.2.2.1,w.2.2.2.2.2.2.1,w.2.2.2.2.2.2.2.1,w.2.2.2.2.2.2.2.2.1,w.2.2.2.2.2.2.2.2.2.1,w.2.2.2.2.2.2.2.2.2.2.1,())=w from rfl,show(d.1,d.2.1,d.2.2.1,d.2.2.2.1,d.2.2.2.2.1,())=d from rfl,Vz QM,pt,Zk QM];simp only[AD,As,Ct];rw[EU.2 h];rcases AM0 (P7 d)with hd|hd
 rotate_left
 ·rw[hd];rfl
 have hk:1≤d.1∧d.1≤16:=by
  unfold P7 at hd;exact Am.1 (ANN _ _▸hd).1
 rw[hd,AOA,AOA,kV h QM ze (gi hd) hk];simp only[AD,ANZ,AXL,ANw,AQS];by_cases hc:(LQ false w d).2=0
 ·rw[AM1 (show(AFZ (LQ false w d)).1.1=0 from hc)]
  generalize hg:LQ false w d=q at hc⊢
  obtain⟨v,co⟩:=q;dsimp only at hc;subst hc;rfl
 ·rw[AM2 (show¬(AFZ (LQ false w d)).1.1=0 from hc)]
  have:=vx hc;rw[show LQ false w d=(w,(LQ false w d).2)by rw[←Prod.eta (LQ false w d)];simp only[this]];rfl
end
theorem mw{w:AA}{d:BK}(QM:lF w)(ze:CR d.2.1):Pz w d=some (pkD (CC false w d)):=by
 rcases AM0 (Ft w)with hw|hw
 ·exact kq (EU.1 hw) QM ze
 ·unfold Pz CC
  rw[show(w.1,w.2.1,w.2.2.1,w.2.2.2.1,w.2.2.2.2.1,w.2.2.2.2.2.1,w.2.2.2.2.2.2.1,w.2.2.2.2.2.2.2.1,w.2.2.2.2.2.2.2.2.1,w.2.2.2.2.2.2.2.2.2.1,w.2.2.2.2.2.2.2.2.2.2.1,())=w from rfl,Vz QM,hw];rfl
end Go.M
end
section
set_option maxRecDepth 8000
namespace Go.M
open Go.M.H (AK AQ A0 Ai AA Cq AO A8 AR Ak Bd A9 BK Aj CB AU AW Ab Ag Bg Ax Ao Au EB CL Cy C_)
def bare(se:List Ai):List (Int×List UInt8):=se.map fun s=>(s.1,s.2.1)
def Wz(se:List Ai)(q:YL):YL:=(q.1.Az se,q.2)
section
variable{w:AA} {se:List Ai}
theorem AAS{a:Int}:Mf (w.Az se) a=Wz se (Mf w a):=by
 unfold Mf;simp only[AUk (Wz se)];rfl
theorem zH{n:Int}:M8 (w.Az se) n=Wz se (M8 w n):=by
 unfold M8;simp only[AUk (Wz se)];rfl
theorem AAR{n:Int}:Mk (w.Az se) n=Wz se (Mk w n):=by
 unfold Mk;simp only[AUk (Wz se)];rfl
theorem zT:Mm (w.Az se)=Wz se (Mm w):=by
 unfold Mm;simp only[AUk (Wz se)];rfl
theorem AAF{a:Int}:Ox (w.Az se) a=Wz se (Ox w a):=by
 unfold Ox;simp only[AUk (Wz se)];rfl
theorem AAA{a k:Int}:Ha (w.Az se) a k=Wz se (Ha w a k):=by
 unfold Ha;simp only[AUk (Wz se)];rfl
theorem zw{a:Int}:N1 (w.Az se) a=Wz se (N1 w a):=by
 unfold N1;simp only[AUk (Wz se)];rfl
theorem wI{a b n:Int}:Iy (w.Az se) a b n=Wz se (Iy w a b n):=by
 unfold Iy putAt;simp only[AUk (Wz se)];rfl
theorem vv{n k:Int}:I9 (w.Az se) n k=Wz se (I9 w n k):=by
 unfold I9 putAt;simp only[AUk (Wz se)];rfl
theorem we{n:Int}:I6 (w.Az se) n=Wz se (I6 w n):=by
 unfold I6 putAt;simp only[AUk (Wz se)];rfl
theorem zN{n:Int}:Me (w.Az se) n=Wz se (Me w n):=by
 obtain⟨c,k,st,lo,er,tr,wr,md,rd,s0,tn,u⟩:=w;unfold Me;cases md with
 |nil=>rfl
 |cons m ms=>
  dsimp only;simp only[AUk (Wz se)];rfl
theorem za:My (w.Az se)=Wz se (My w):=by
 obtain⟨c,k,st,lo,er,tr,wr,md,rd,s0,tn,u⟩:=w;unfold My;cases md with
 |nil=>rfl
 |cons m ms=>
  dsimp only;simp only[AUk (Wz se)];rfl
theorem wN:Iw (w.Az se)=Wz se (Iw w):=by
 obtain⟨c,k,st,lo,er,tr,wr,md,rd,s0,tn,u⟩:=w;unfold Iw;cases md with
 |nil=>rfl
 |cons m ms=>
  dsimp only;simp only[AUk (Wz se)];rfl
theorem ACj{b n:Int}:TT (w.Az se) b n=Wz se (TT w b n):=by
 obtain⟨c,k,st,lo,er,tr,wr,md,rd,s0,tn,u⟩:=w;unfold TT putAt;cases md with
 |nil=>rfl
 |cons m ms=>
  dsimp only;cases EL m b with
  |none=>rfl
  |some e=>
   dsimp only;simp only[AUk (Wz se)];rfl
end
theorem AD_{l m:List Ai}(h:bare l=bare m)(p:Int):(l.any fun s=>s.1==p)=m.any fun s=>s.1==p:=by
 have e:∀l:List Ai,(l.any fun s=>s.1==p)=(bare l).any fun s=>s.1==p:=fun l=>by
  unfold bare;rw[List.any_map];rfl
 rw[e,e,h]
theorem wv{l m:List Ai}(h:bare l=bare m):l.length=m.length:=by
 have:=congrArg List.length h;simpa[bare]using this
theorem wj{p:Int}{d:AB_}{b:Bool}:∀{l m:List Ai},bare l=bare m→bare (Z_ (p,d,b,()) l)=bare (Z_ (p,d,b,()) m)
 |[],[],_=>rfl
 |[],_::_,h=>by simp[bare]at h
 |_::_,[],h=>by simp[bare]at h
 |x::l,y::m,h=>by
  simp only[bare,ATB,AR6,ASM]at h;obtain⟨⟨h1,h2⟩,h3⟩:=h;have h3':bare l=bare m:=h3;simp only[Z_,h1];split
  ·simp only[bare,ATB,h1,h2]at h3⊢
   rw[h3]
  ·have:=wj (p:=p) (d:=d) (b:=b) h3'
   simp only[bare,ATB,h1,h2]at this⊢;rw[this]
theorem AOt{w:AA}{se:List Ai}(h:bare se=bare w.Al){a:Int}{d:AB_}:∃bw,bare bw=bare (doAdd w a d).1.Al∧doAdd (w.Az se) a d=Wz bw (doAdd w a d):=by
 have e1:doAdd (w.Az se) a d=if(!BL a 0 ((w.AN.length:Int)-1))=true then(w.Az se,2)else
   if(!(Bq (Ae w) (w.AN.getD a.toNat B8) d).2.2||(decide (se.length=120)||se.any fun s=>s.1==HF (w.AN.getD a.toNat B8).1 (Bq (Ae w) (w.AN.getD a.toNat B8) d).2.1))=true then(w.Az se,4)else
   (((w.Az se).BZ (w.AN.set a.toNat (Bq (Ae w) (w.AN.getD a.toNat B8) d).1)).Az (Z_ (HF (w.AN.getD a.toNat B8).1 (Bq (Ae w) (w.AN.getD a.toNat B8) d).2.1,d,false,()) se),0):=rfl
 rw[e1,AD_ h,wv h];unfold doAdd;dsimp only;split
 ·exact⟨se,h,rfl⟩
 split
 ·exact⟨se,h,rfl⟩
 ·exact⟨_,wj h,rfl⟩
theorem r8{all:Bool}{ep:Int}{old new:List A8}{l:List Ai}:bare (l.map (QN all ep old new))=bare l:=by
 unfold bare;rw[AUL];rfl
theorem lY{a b:Bool}{c:CE}{s:AQ}{l:List Cq}{n:Int}:∀{ws:List AR} {x y:List Ai},bare x=bare y→(FE a c s l n ws x).1=(FE b c s l n ws y).1∧bare (FE a c s l n ws x).2=bare (FE b c s l n ws y).2
 |[],x,y,h=>⟨rfl,h⟩
 |w::ws,x,y,h=>by
  simp only[FE];split
  ·have:=lY (a:=a) (b:=b) (c:=c) (s:=s) (l:=l) (n:=n) (ws:=ws) (x:=x.map (QN a w.1 w.2.1 (Br c s w.1 n 1 w.2.1))) (y:=y.map (QN b w.1 w.2.1 (Br c s w.1 n 1 w.2.1))) (by rw[r8,r8];exact h)
   exact⟨by rw[this.1],this.2⟩
  ·have:=lY (a:=a) (b:=b) (c:=c) (s:=s) (l:=l) (n:=n) (ws:=ws) h
   exact⟨by rw[this.1],this.2⟩
theorem AJw{a b:Bool}{w:AA}{se:List Ai}(h:bare se=bare w.Al){n:Int}:∃bw,bare bw=bare (N_ b w n).1.Al∧N_ a (w.Az se) n=Wz bw (N_ b w n):=by
 have e1:N_ a (w.Az se) n=if Aq w n≠0 then(w.Az se,Aq w n)else if(!(Be (storeAt w n)).2)=true then(w.Az se,4)else
   (((((w.Az se).CF (w.BE.set n.toNat (Be (storeAt w n)).1)).BZ (FE a (Ae w) (Be (storeAt w n)).1 w.BA n w.AN se).1).Az (FE a (Ae w) (Be (storeAt w n)).1 w.BA n w.AN se).2).Cn (w.CI.map (Ln (Be (storeAt w n)).1 w.BA n)),0):=rfl
 have ht:=lY (a:=a) (b:=b) (c:=Ae w) (s:=(Be (storeAt w n)).1) (l:=w.BA) (n:=n) (ws:=w.AN) h;rw[e1,ht.1];unfold N_;dsimp only;split
 ·exact⟨se,h,rfl⟩
 split
 ·exact⟨se,h,rfl⟩
 ·exact⟨_,ht.2,rfl⟩
theorem Kz{f:YL}{se:List Ai}(h:f=Wz se f):f.1.Al=se:=by rw[h];rfl
section
variable{w:AA}
theorem AI8{a:Int}:(Mf w a).1.Al=w.Al:=Kz (show Mf w a=Wz w.Al (Mf w a)from AAS (w:=w) (se:=w.Al))
theorem AFF{a b n:Int}:(Iy w a b n).1.Al=w.Al:=Kz (show Iy w a b n=Wz w.Al (Iy w a b n)from wI (w:=w) (se:=w.Al))
theorem AER{n k:Int}:(I9 w n k).1.Al=w.Al:=Kz (show I9 w n k=Wz w.Al (I9 w n k)from vv (w:=w) (se:=w.Al))
theorem AKs{n:Int}:(M8 w n).1.Al=w.Al:=Kz (show M8 w n=Wz w.Al (M8 w n)from zH (w:=w) (se:=w.Al))
theorem AGG{n:Int}:(Mk w n).1.Al=w.Al:=Kz (show Mk w n=Wz w.Al (Mk w n)from AAR (w:=w) (se:=w.Al))
theorem AIv:(Mm w).1.Al=w.Al:=Kz (show Mm w=Wz w.Al (Mm w)from zT (w:=w) (se:=w.Al))
theorem AGt{n:Int}:(Me w n).1.Al=w.Al:=Kz (show Me w n=Wz w.Al (Me w n)from zN (w:=w) (se:=w.Al))
theorem AGH:(My w).1.Al=w.Al:=Kz (show My w=Wz w.Al (My w)from za (w:=w) (se:=w.Al))
theorem AQw{b n:Int}:(TT w b n).1.Al=w.Al:=Kz (show TT w b n=Wz w.Al (TT w b n)from ACj (w:=w) (se:=w.Al))
theorem ADO:(Iw w).1.Al=w.Al:=Kz (show Iw w=Wz w.Al (Iw w)from wN (w:=w) (se:=w.Al))
theorem AGm{a:Int}:(Ox w a).1.Al=w.Al:=Kz (show Ox w a=Wz w.Al (Ox w a)from AAF (w:=w) (se:=w.Al))
theorem AGq{a k:Int}:(Ha w a k).1.Al=w.Al:=Kz (show Ha w a k=Wz w.Al (Ha w a k)from AAA (w:=w) (se:=w.Al))
theorem AHW{a:Int}:(N1 w a).1.Al=w.Al:=Kz (show N1 w a=Wz w.Al (N1 w a)from zw (w:=w) (se:=w.Al))
theorem AEe{n:Int}:(I6 w n).1.Al=w.Al:=Kz (show I6 w n=Wz w.Al (I6 w n)from we (w:=w) (se:=w.Al))
end
theorem AIh{a b:Bool}{w:AA}{se:List Ai}(h:bare se=bare w.Al){d:BK}:∃bw,bare bw=bare (LQ b w d).1.Al∧LQ a (w.Az se) d=Wz bw (LQ b w d):=by
 unfold LQ;by_cases c1:d.1=1
 ·rw[AM1 c1,AM1 c1]
  exact⟨se,h.trans (congrArg bare AI8.symm),AAS⟩
 rw[AM2 c1,AM2 c1];by_cases c2:d.1=2
 ·rw[AM1 c2,AM1 c2]
  exact AOt h
 rw[AM2 c2,AM2 c2];by_cases c3:d.1=3
 ·rw[AM1 c3,AM1 c3]
  exact⟨se,h.trans (congrArg bare AFF.symm),wI⟩
 rw[AM2 c3,AM2 c3];by_cases c4:d.1=4
 ·rw[AM1 c4,AM1 c4]
  exact AJw h
 rw[AM2 c4,AM2 c4];by_cases c5:d.1=5
 ·rw[AM1 c5,AM1 c5]
  exact⟨se,h.trans (congrArg bare AER.symm),vv⟩
 rw[AM2 c5,AM2 c5];by_cases c6:d.1=6
 ·rw[AM1 c6,AM1 c6]
  exact⟨se,h.trans (congrArg bare AKs.symm),zH⟩
 rw[AM2 c6,AM2 c6];by_cases c7:d.1=7
 ·rw[AM1 c7,AM1 c7]
  exact⟨se,h.trans (congrArg bare AGG.symm),AAR⟩
 rw[AM2 c7,AM2 c7];by_cases c8:d.1=8
 ·rw[AM1 c8,AM1 c8]
  exact⟨se,h.trans (congrArg bare AIv.symm),zT⟩
 rw[AM2 c8,AM2 c8];by_cases c9:d.1=9
 ·rw[AM1 c9,AM1 c9]
  exact⟨se,h.trans (congrArg bare AGt.symm),zN⟩
 rw[AM2 c9,AM2 c9];by_cases c10:d.1=10
 ·rw[AM1 c10,AM1 c10]
  exact⟨se,h.trans (congrArg bare AGH.symm),za⟩
 rw[AM2 c10,AM2 c10];by_cases c11:d.1=11
 ·rw[AM1 c11,AM1 c11]
  exact⟨se,h.trans (congrArg bare AQw.symm),ACj⟩
 rw[AM2 c11,AM2 c11];by_cases c12:d.1=12
 ·rw[AM1 c12,AM1 c12]
  exact⟨se,h.trans (congrArg bare ADO.symm),wN⟩
 rw[AM2 c12,AM2 c12];by_cases c13:d.1=13
 ·rw[AM1 c13,AM1 c13]
  exact⟨se,h.trans (congrArg bare AGm.symm),AAF⟩
 rw[AM2 c13,AM2 c13];by_cases c14:d.1=14
 ·rw[AM1 c14,AM1 c14]
  exact⟨se,h.trans (congrArg bare AGq.symm),AAA⟩
 rw[AM2 c14,AM2 c14];by_cases c15:d.1=15
 ·rw[AM1 c15,AM1 c15]
  exact⟨se,h.trans (congrArg bare AHW.symm),zw⟩
 rw[AM2 c15,AM2 c15];exact⟨se,h.trans (congrArg bare AEe.symm),we⟩
theorem ADD{l m:List Ai}(h:bare l=bare m){s:Ai}(hs:s∈l):∃t∈m,t.1=s.1∧t.2.1=s.2.1:=by
 have h1:(s.1,s.2.1)∈bare m:=by rw[←h];exact ATD.2 ⟨s,hs,rfl⟩
 obtain⟨t,ht,e⟩:=ATD.1 h1;simp only[ASM]at e;exact⟨t,ht,e.1,e.2⟩
theorem ACq{l m:List Ai}(h:bare l=bare m)(ha:Wf (fun s:Ai=>s.1) l):Wf (fun s:Ai=>s.1) m:=by
 have e:∀l:List Ai,Wf (fun s:Ai=>s.1) l↔(bare l).Pairwise fun x y=>x.1<y.1:=fun l=>by
  unfold bare Wf;rw[AUg]
 rw[e]at ha⊢
 rwa [←h]
theorem Nw.Az{w:AA}{se:List Ai}(hw:Nw w)(h:bare se=bare w.Al):Nw (w.Az se) where
 cfg:=hw.cfg
 q_:=hw.q_
 lost:=hw.lost
 Ib:=hw.Ib
 BE:=hw.BE
 nj:=hw.nj
 rr:=hw.rr
 vI:=hw.vI
 AN:=hw.AN
 fX:=hw.fX
 CI:=hw.CI
 nN:=hw.nN
 Ac:=hw.Ac
 Rp:=by
  have:=hw.Rp;rw[←wv h]at this;exact this
 Al:=fun s hs=>by
  obtain⟨t,ht,e1,e2⟩:=ADD h (show s∈se from hs);have:=hw.Al t ht;rw[e1,e2]at this;exact this
 bU:=ACq h.symm hw.bU
theorem xg{w:AA}{se:List Ai}(h:bare se=bare w.Al):Ft (w.Az se)=Ft w:=by
 rw[AXQ,EU,EU];refine⟨fun hw=> ?_,fun hw=>hw.Az h⟩;exact hw.Az (se:=w.Al) h.symm
theorem yP{a b:Bool}{w:AA}{se:List Ai}(h:bare se=bare w.Al){d:BK}:∃bw,bare bw=bare (CC b w d).1.Al∧CC a (w.Az se) d=Wz bw (CC b w d):=by
 unfold CC;rw[xg h];by_cases hc:(!Ft w|| !P7 d)=true
 ·rw[AM1 hc,AM1 hc]
  exact⟨[],rfl,rfl⟩
 ·rw[AM2 hc,AM2 hc]
  exact AIh h
end Go.M
end
section
set_option maxRecDepth 8000
namespace Go.M
open Go.M.H (AK AQ A0 Ai AA Cq AO A8 AR Ak Bd A9 BK Aj CB AU AW Ab Ag Bg Ax Ao Au EB CL Cy C_)
structure Up (w v:AA):Prop where
 rd:∀k,k<2→HF (w.Ac.getD k EG).1 (w.Ac.getD k EG).2.1≤HF (v.Ac.getD k EG).1 (v.Ac.getD k EG).2.1∧(w.Ac.getD k EG).2.2.1.length≤(v.Ac.getD k EG).2.2.1.length
 er:w.BA.length≤v.BA.length∧ ∀i,i<w.BA.length→(w.BA.getD i G3).2.1=true→(v.BA.getD i G3).2.1=true∧(v.BA.getD i G3).2.2.1=(w.BA.getD i G3).2.2.1
 Ib:w.Ib=true→v.Ib=true
 se:w.Al.length≤v.Al.length
theorem Up.of{w v:AA}(h1:v.Ac=w.Ac)(h2:v.BA=w.BA)(h3:w.Ib=true→v.Ib=true)(h4:w.Al.length≤v.Al.length):Up w v:=
 ⟨fun k _=>by rw[h1];exact⟨Int.le_refl _,AQQ _⟩,by rw[h2];exact⟨AQQ _,fun _ _ h=>⟨h,rfl⟩⟩,h3,h4⟩
section
variable{w:AA} (hw:Nw w)
end
end Go.M
end
section
namespace Go.M
open Go.M.H (AK AQ A0 Ai AA Cq AO A8 AR Ak Bd A9 BK)
def runM(all:Bool):AA→List BK→AA×List Int
 |w,[]=>(w,[])
 |w,d::l=>
  let q:=CC all w d
  let r:=runM all (if q.2=0 then q.1 else w) l
  (r.1,q.2::r.2)
theorem mP{all:Bool}:∀{l m:List BK} {w:AA},runM all w (l++m)=((runM all (runM all w l).1 m).1,(runM all w l).2++(runM all (runM all w l).1 m).2)
 |[],m,w=>rfl
 |d::l,m,w=>by
  simp only[AS0,runM];rw[mP]
theorem jL{all:Bool}:∀{l:List BK} {w:AA},(runM all w l).2.length=l.length
 |[],_=>rfl
 |d::l,w=>by simp only[runM,AOX,jL]
theorem uU{all:Bool}:∀{l:List BK} {w:AA},Ft w=true→Ft (runM all w l).1=true
 |[],_,h=>h
 |d::l,w,h=>by
  simp only[runM];refine uU ?_
  split
  ·rename_i e
   exact Uh e
  ·exact h
theorem uS{a b:Bool}:∀{l:List BK} {w:AA} {se:List Ai},bare se=bare w.Al→ ∃bw,bare bw=bare (runM b w l).1.Al∧(runM a (w.Az se) l).1=(runM b w l).1.Az bw∧(runM a (w.Az se) l).2=(runM b w l).2
 |[],w,se,h=>⟨se,h,rfl,rfl⟩
 |d::l,w,se,h=>by
  obtain⟨se1,h1,e1⟩:=yP (a:=a) (b:=b) h (d:=d);simp only[runM];rw[e1];by_cases hc:(CC b w d).2=0
  ·rw[AM1 (show(Wz se1 (CC b w d)).2=0 from hc),AM1 hc]
   obtain⟨se2,h2,e2,e3⟩:=uS (a:=a) (b:=b) (l:=l) h1;exact⟨se2,h2,e2,congrArg (List.cons _) e3⟩
  ·rw[AM2 (show¬(Wz se1 (CC b w d)).2=0 from hc),AM2 hc]
   obtain⟨se2,h2,e2,e3⟩:=uS (a:=a) (b:=b) (l:=l) h;exact⟨se2,h2,e2,congrArg (List.cons _) e3⟩
end Go.M
end
section
namespace Go.M
open Go.M.H (AK AQ A0 Ai AA Cq AO A8 AR Ak Bd A9 BK AU Au)
structure Xb (w:AA) (q:YL):Prop where
 code:q.2≠1
 keep:q.2≠0→q.1=w
 rd:q.1.Ac=w.Ac
theorem Xb.no{w:AA}{k:Int}(h:k≠1):Xb w (w,k):=⟨h,fun _=>rfl,rfl⟩
theorem Xb.yes{w v:AA}(h:v.Ac=w.Ac):Xb w (v,0):=⟨by simp,fun h=>absurd rfl h,h⟩
section
variable{w:AA}
theorem Ou{n:Int}:Aq w n≠1:=by
 unfold Aq;split
 ·decide
 ·split<;>decide
theorem fP{n:Int}{q:AQ×Bool}:Xb w (putAt w n q):=by
 unfold putAt;split
 ·exact .yes rfl
 ·exact .no (by decide)
theorem AC2{a:Int}:Xb w (Mf w a):=by
 unfold Mf;split
 ·exact .no (by decide)
 dsimp only;split
 ·exact .no (by decide)
 ·exact .yes rfl
theorem AHA{a:Int}{d:AB_}:Xb w (doAdd w a d):=by
 unfold doAdd;split
 ·exact .no (by decide)
 dsimp only;split
 ·exact .no (by decide)
 ·exact .yes rfl
theorem ABE{a b n:Int}:Xb w (Iy w a b n):=by
 unfold Iy;split
 ·exact .no (by decide)
 dsimp only;split
 ·exact .no (by decide)
 split
 ·exact .no Ou
 split
 ·exact .no (by decide)
 ·exact fP
theorem AET{all:Bool}{n:Int}:Xb w (N_ all w n):=by
 unfold N_;split
 ·exact .no Ou
 dsimp only;split
 ·exact .no (by decide)
 ·exact .yes rfl
theorem ABN{n k:Int}:Xb w (I9 w n k):=by
 unfold I9;split
 ·exact .no Ou
 ·exact fP
theorem AEp{n:Int}:Xb w (M8 w n):=by
 unfold M8;split
 ·exact .no Ou
 ·exact .yes rfl
theorem AEB{n:Int}:Xb w (Mk w n):=by
 unfold Mk;split
 ·exact .no (by decide)
 dsimp only;split
 ·exact .no (by decide)
 ·exact .yes rfl
theorem AEW:Xb w (Mm w):=by
 unfold Mm;split
 ·exact .no (by decide)
 split
 ·exact .no (by decide)
 ·exact .yes rfl
theorem ACf{n:Int}:Xb w (Me w n):=by
 unfold Me;split
 ·exact .no (by decide)
 split
 ·exact .no Ou
 split
 ·exact .no (by decide)
 dsimp only;split
 ·exact .no (by decide)
 ·exact .yes rfl
theorem AEP:Xb w (My w):=by
 unfold My;split
 ·exact .no (by decide)
 dsimp only;split
 ·exact .no (by decide)
 ·exact .yes rfl
theorem ALj{b n:Int}:Xb w (TT w b n):=by
 unfold TT;split
 ·exact .no (by decide)
 split
 ·exact .no (by decide)
 split
 ·exact .no Ou
 split
 ·exact .no (by decide)
 ·exact fP
theorem AB4:Xb w (Iw w):=by
 unfold Iw;split
 ·exact .no (by decide)
 split
 ·exact .no (by decide)
 dsimp only;split
 ·exact .no (by decide)
 ·exact .yes rfl
theorem AE5{a:Int}:Xb w (Ox w a):=by
 unfold Ox;dsimp only;split
 ·exact .no (by decide)
 ·exact .yes rfl
theorem AFD{a:Int}:Xb w (N1 w a):=by
 unfold N1;split
 ·exact .no (by decide)
 ·exact .yes rfl
theorem AAn{n:Int}:Xb w (I6 w n):=by
 unfold I6;split
 ·exact .no Ou
 ·exact fP
theorem AD8{all:Bool}{d:BK}(h:d.1≠14):Xb w (LQ all w d):=by
 unfold LQ;by_cases c1:d.1=1
 ·rw[AM1 c1];exact AC2
 rw[AM2 c1];by_cases c2:d.1=2
 ·rw[AM1 c2];exact AHA
 rw[AM2 c2];by_cases c3:d.1=3
 ·rw[AM1 c3];exact ABE
 rw[AM2 c3];by_cases c4:d.1=4
 ·rw[AM1 c4];exact AET
 rw[AM2 c4];by_cases c5:d.1=5
 ·rw[AM1 c5];exact ABN
 rw[AM2 c5];by_cases c6:d.1=6
 ·rw[AM1 c6];exact AEp
 rw[AM2 c6];by_cases c7:d.1=7
 ·rw[AM1 c7];exact AEB
 rw[AM2 c7];by_cases c8:d.1=8
 ·rw[AM1 c8];exact AEW
 rw[AM2 c8];by_cases c9:d.1=9
 ·rw[AM1 c9];exact ACf
 rw[AM2 c9];by_cases c10:d.1=10
 ·rw[AM1 c10];exact AEP
 rw[AM2 c10];by_cases c11:d.1=11
 ·rw[AM1 c11];exact ALj
 rw[AM2 c11];by_cases c12:d.1=12
 ·rw[AM1 c12];exact AB4
 rw[AM2 c12];by_cases c13:d.1=13
 ·rw[AM1 c13];exact AE5
 rw[AM2 c13,AM2 h];by_cases c15:d.1=15
 ·rw[AM1 c15];exact AFD
 rw[AM2 c15];exact AAn
theorem AJ2{all:Bool}{d:BK}(h:d.1=14):LQ all w d=Ha w d.2.1 d.2.2.1:=by
 unfold LQ;rw[h];simp
theorem AHQ(hw:Nw w){all:Bool}{d:BK}(e:(LQ all w d).2=0):AU Au (LQ all w d).1.Ac≤AU Au w.Ac+41:=by
 by_cases h:d.1=14
 ·rw[AJ2 h]at e⊢
  exact(vm hw e).2.2.2.2.2
 ·rw[(AD8 h).rd];omega
end
end Go.M
end
section
set_option maxRecDepth 8000
namespace Go.M
open Go.M.H (AK AQ A0 Ai AA Cq AO A8 AR Ak Bd A9 BK Aj CB AU AW Ab Ag Bg Ax Ao Au EB CL Cy C_)
abbrev AC8:((AA×Unit×AA×Unit)×Unit)→(List BK×Unit)→Prop:=fun x y=>(Nw x.1.1∧rS x.1.1)∧y.1.length≤1000∧ ∀d∈y.1,CR d.2.1
section
variable{code:AAD} (hc:code.length≤2^30)
include hc
theorem AKw{T:Int}(hT:T≤1000){s:AA}(hs:Nw s∧rS s):∀(n k:Nat) (i hh:Int) (w:AA) (acc:List BK),CH code i→(k:Int)≤max T 0→(T-k).toNat<n→acc.length≤k→(∀d∈acc,CR d.2.1)→Nw w→rS w→
  OK code AC8 (Df n T k code i hh 0 0 false [] [] [] [] [] [] [] [] 0 0 false [] [] [] [] [] [] [] [] s.1 s.2.1 s.2.2.1 s.2.2.2.1 s.2.2.2.2.1 s.2.2.2.2.2.1 s.2.2.2.2.2.2.1 s.2.2.2.2.2.2.2.1 s.2.2.2.2.2.2.2.2.1 s.2.2.2.2.2.2.2.2.2.1 s.2.2.2.2.2.2.2.2.2.2.1
   w.1 w.2.1 w.2.2.1 w.2.2.2.1 w.2.2.2.2.1 w.2.2.2.2.2.1 w.2.2.2.2.2.2.1 w.2.2.2.2.2.2.2.1 w.2.2.2.2.2.2.2.2.1 w.2.2.2.2.2.2.2.2.2.1 w.2.2.2.2.2.2.2.2.2.2.1 acc):=by
 intro n
 induction n with
 |zero=>intro k i hh w acc _ _ h;omega
 |succ n ih=>
  intro k i hh w acc hi hk hn hb hd hw hr;simp only[Df,Qb];refine OK.OE (fun G4=> ?_) (fun uN=>OK.some hi ⟨hs,by show acc.length≤1000;omega,hd⟩);rw[show(w.1,w.2.1,w.2.2.1,w.2.2.2.1,w.2.2.2.2.1,w.2.2.2.2.2.1,w.2.2.2.2.2.2.1,w.2.2.2.2.2.2.2.1,w.2.2.2.2.2.2.2.2.1,w.2.2.2.2.2.2.2.2.2.1,w.2.2.2.2.2.2.2.2.2.2.1,())=w from rfl];refine OK.bind (mJ hc hw hi) fun x i1 h1 y J_ hq=> ?_
  dsimp only;refine OK.ite (by rw[An];omega) ?_
  refine OK.pure (V_ (d:=x.1) (hw.win hr) hq.1) ?_
  rw[AH (by omega) (by omega),show((k:Int)+1)=((k+1:Nat):Int)by omega];have hd2:∀d∈acc++[x.1],CR d.2.1:=fun d hdm=>by
   rcases AOk.1 hdm with h|h
   ·exact hd d h
   ·rw[ARu.1 h];exact hq.1
  refine OK.Fh (fun h0=> ?_) (fun h0=> ?_)
  ·have h0':(CC true w x.1).2=0:=h0
   exact ih (k+1) i1 h1 (CC true w x.1).1 (acc++[x.1]) J_ (by omega) (by omega) (by simp;omega) hd2 (EU.1 (Uh h0')) (fy hr h0')
  ·exact ih (k+1) i1 h1 w (acc++[x.1]) J_ (by omega) (by omega) (by simp;omega) hd2 hw hr
theorem AP2{T:Int}(hT:0≤T∧T≤500){n0:AAD}{tC:AAD}(hbl:tC.length≤100)(hd:U9 n0 1):∀(n:Nat) (c i hh:Int),CH code i→1≤c∧c≤3→c.toNat+1000≤n→
  OK code AC8 (Ew n T tC code i hh 0 0 false [] [] [] [] [] [] [] [] 0 0 false [] [] [] [] [] [] [] [] n0 c):=by
 intro n
 induction n with
 |zero=>intro c i hh _ _ h;omega
 |succ n ih=>
  intro c i hh hi q8 hn;have hg:U9 n0 c:=⟨hd.1,hd.2.1,q8.1,q8.2,hd.2.2.2.2⟩;have yd:=hd.2.1;simp only[Ew,SB];have fin:OK code AC8 ((E9 (n0,c,())).bind fun u6=>
    (AJ (AS (T+1)) code i hh).bind fun u7=>
    Df n u7.1.1 0 u7.2.1.1 u7.2.1.2.1 u7.2.1.2.2.1 0 0 false [] [] [] [] [] [] [] [] 0 0 false [] [] [] [] [] [] [] []
     u6.2.1 u6.1.1.1.2.1 u6.2.2.1 u6.2.2.2.1 u6.2.2.2.2.1 u6.1.1.1.2.2.2.2.2.1 u6.2.2.2.2.2.1 u6.2.2.2.2.2.2.1 u6.2.2.2.2.2.2.2.1 u6.2.2.2.2.2.2.2.2.1 u6.1.1.1.2.2.2.2.2.2.2.2.2.2.1
     u6.2.1 u6.1.1.1.2.1 u6.2.2.1 u6.2.2.2.1 u6.2.2.2.2.1 u6.1.1.1.2.2.2.2.2.1 u6.2.2.2.2.2.1 u6.2.2.2.2.2.2.1 u6.2.2.2.2.2.2.2.1 u6.2.2.2.2.2.2.2.2.1 u6.1.1.1.2.2.2.2.2.2.2.2.2.2.1 []):=by
   refine OK.pure (bG hg.ok) ?_
   rw[AH (by omega) (by omega)];refine OK.bind (Bz hc hi (by omega)) fun x i1 h1 y J_ hq=> ?_
   have hwn:=mF hg.ok;exact AKw hc (T:=x.1) (by omega) (s:=VL (n0,c,())) ⟨hwn.1,hwn.2⟩ n 0 i1 h1 (VL (n0,c,())) [] J_ (by omega) (by omega) (by simp) (by simp) hwn.1 hwn.2
  refine OK.OE (fun G4=> ?_) (fun uN=>fin);refine OK.pure (DZ (by show n0.length≤_;omega) (by omega)) ?_
  refine OK.cond (fun _=> ?_) (fun _=>fin);rw[AH (by omega) (by omega)];exact ih (c-1) i hh hi (by omega) (by omega)
theorem ARN{T:Int}(hT:0≤T∧T≤500){n0:AAD}{c:Int}(hd:U9 n0 c):∀(n k:Nat) (i hh:Int) (b:AAD),CH code i→k≤n0.length→n0.length-k+1010≤n→b.length≤k→
  OK code AC8 (Eo n T k code i hh 0 0 false [] [] [] [] [] [] [] [] 0 0 false [] [] [] [] [] [] [] [] c n0 b):=by
 have yd:=hd.2.1;intro n
 induction n with
 |zero=>intro k i hh b _ _ h;omega
 |succ n ih=>
  intro k i hh b hi hk hn hb;simp only[Eo,Rg];refine OK.OE (fun G4=> ?_) (fun uN=> ?_)
  ·refine OK.ite (by rw[An];omega) ?_
   rw[AH (by omega) (by omega),show((k:Int)+1)=((k+1:Nat):Int)by omega];exact ih (k+1) i hh _ hi (by omega) (by omega) (by simp;omega)
  ·exact AP2 hc hT (by omega) ⟨hd.1,hd.2.1,by omega,by omega,hd.2.2.2.2⟩ n c i hh hi ⟨hd.2.2.1,hd.2.2.2.1⟩ (by have:=hd.2.2.2.1;omega)
theorem vM{T:Int}(hT:0≤T∧T≤500){i hh:Int}(hi:CH code i):OK code AC8 (OT T code i hh):=by
 unfold OT Rr;obtain⟨l,c,i1,h1,e,hg,J_⟩:=Ya hc (h:=hh) hi;rw[e];have hgl:=hg.2.1;exact ARN hc hT hg AX 0 i1 h1 [] J_ (by omega) (ATE (AZ (by omega))) (by simp)
def AQX(w:AA)(l:List BK):FO:=(((w,(),()),()),(l,()))
theorem xA{s:AA}:∀(n:Nat) (i hh:Int) (l:List BK),CH code i→(∀d∈l,CR d.2.1)→l.length≤1000→202-l.length<n→
  ∃l',H3 n 0 0 false [] [] [] [] [] [] [] [] code i hh s.1 s.2.1 s.2.2.1 s.2.2.2.1 s.2.2.2.2.1 s.2.2.2.2.2.1 s.2.2.2.2.2.2.1 s.2.2.2.2.2.2.2.1 s.2.2.2.2.2.2.2.2.1 s.2.2.2.2.2.2.2.2.2.1 s.2.2.2.2.2.2.2.2.2.2.1 l=some (AQX s l')∧l'.length≤1000∧ ∀d∈l',CR d.2.1:=by
 intro n
 induction n with
 |zero=>intro i hh l _ _ _ h;omega
 |succ n ih=>
  intro i hh l hi hd hl hn;simp only[H3,Rs];obtain⟨x,i1,h1,y,e,J_,hq⟩:=Bz hc (n:=2) (h:=hh) hi (by omega);have b:=hq.2.1 (by omega);have b0:=hq.1;rw[e];simp only[AD];rw[AH (x:=200+x.1) (by omega) (by omega),AB];by_cases G4:(l.length:Int)<200+x.1
  ·rw[AM1 G4,AM1 (by rw[An];omega)]
   refine ih i1 h1 _ J_ (fun d hdm=> ?_) (by simp;omega) (by simp;omega);rcases AOk.1 hdm with h|h
   ·exact hd d h
   ·rw[ARu.1 h];unfold CR;simp
  ·rw[AM2 G4]
   exact⟨l,rfl,hl,hd⟩
omit hc in
theorem AH8{w:AA}(hw:Nw w)(hr:rS w):AU Au w.Ac≤10002:=
 Dp (
  f:=Au) (B:=5000) (N:=2) (l:=w.Ac) (by rw[hw.nN];omega) fun r hx=>by
  have:=Dp (f:=CL) (B:=40) (hw.Ac r hx).n (hr r hx);unfold Au;omega
end
theorem AIE{p:AAD}(hp:p.length≤2^30):∃T,Mb p 40 90=some ((T,()),())∧0≤T∧T≤500:=by
 unfold Mb;dsimp only;have hd:(p.length:Int).tdiv 4=(p.length:Int)/4:=Int.tdiv_eq_ediv_of_nonneg (by omega);rw[hd,AH (x:=(p.length:Int)/4) (by omega) (by omega),AH (by omega) (by omega),AB];split
 ·exact⟨90,rfl,by omega⟩
 ·exact⟨_,rfl,by omega⟩
theorem AA0{x:AAD}(hc:x.length≤2^30):∃w l,K3 x=some (AQX w l)∧lF w∧AU Au w.Ac≤50000∧l.length≤1000∧ ∀d∈l,CR d.2.1:=by
 obtain⟨h0,e0⟩:=ADU hc;unfold K3 RV;rw[e0];obtain⟨T,hT,hT2⟩:=AIE hc;simp only[AD];rw[hT];simp only[AD];obtain⟨q,i1,h1,y,e1,J_,⟨hs,hr⟩,hl,hd⟩:=vM hc hT2 (i:=0) (hh:=h0) ⟨by omega,by omega⟩;rw[e1];simp only[AD];obtain⟨x2,i2,h2,y2,e2,Hq,_⟩:=M4 hc (n:=12) (h:=h1) J_ (by omega);rw[e2];simp only[AD];cases x2.1
 ·rw[ANP]
  obtain⟨x3,i3,h3,y3,e3,KX,_⟩:=M4 hc (n:=60) (h:=h2) Hq (by omega);rw[e3];simp only[AD];have Te:=hs.win hr;have Ad5:=AH8 hs hr;cases x3.1
  ·rw[ANP]
   exact⟨q.1.1,y.1,rfl,Te,by omega,hl,hd⟩
  ·rw[AOA]
   obtain⟨l',e4,iV,rF⟩:=xA hc (s:=q.1.1) AX i3 h3 y.1 KX hd hl (AZ (by omega));exact⟨q.1.1,l',e4,Te,by omega,iV,rF⟩
 ·rw[AOA]
  obtain⟨q5,i5,h5,y5,e5,hi5,hq5⟩:=uQ hc (i:=i2) (hh:=h2) Hq hc;rw[e5];simp only[AD];obtain⟨⟨QM,hvin⟩,hwt,hwr⟩:=hq5;obtain⟨x3,i3,h3,y3,e3,KX,_⟩:=M4 hc (n:=60) (h:=h5) hi5 (by omega);rw[e3];simp only[AD];cases x3.1
  ·rw[ANP]
   exact⟨dwW q5 y5,y.1,rfl,QM,hwr,hl,hd⟩
  ·rw[AOA]
   obtain⟨l',e4,iV,rF⟩:=xA hc (s:=dwW q5 y5) AX i3 h3 y.1 KX hd hl (AZ (by omega));exact⟨dwW q5 y5,l',e4,QM,hwr,iV,rF⟩
def iE(all:Bool)(w:AA)(l:List BK):AA×List Int:=if Ft w=true∧l.length≤200 then runM all w l else(w,[])
def XO(q:AA×List Int):Ii:=(((((),q.1.2.1,(),(),(),q.1.2.2.2.2.2.1,(),(),(),(),q.1.2.2.2.2.2.2.2.2.2.2.1,()),(),()),()),(q.1.1,q.1.2.2.1,q.1.2.2.2.1,q.1.2.2.2.2.1,q.1.2.2.2.2.2.2.1,q.1.2.2.2.2.2.2.2.1,q.1.2.2.2.2.2.2.2.2.1,q.1.2.2.2.2.2.2.2.2.2.1,q.2,()))
theorem hU{w:AA}{d:BK}{all:Bool}(hw:Nw w)(h0:(CC all w d).2=0):AU Au (CC all w d).1.Ac≤AU Au w.Ac+41:=by
 have:CC all w d=LQ all w d:=by
  revert h0
  unfold CC;cases Ft w<;>cases P7 d<;>simp
 rw[this]at h0⊢;exact AHQ hw h0
theorem AMO{l:List BK}{k:Nat}(h:k<l.length):l.drop k=l.getD k (0,0,0,0,[],())::l.drop (k+1):=by
 rw[List.drop_eq_getElem_cons h,List.getD_eq_getElem?_getD,AM4 h,ASp]
theorem ABh{l:List BK}(hl:l.length≤200)(hd:∀d∈l,CR d.2.1):∀(n k:Nat) (w:AA) (acc:AAD),k≤l.length→l.length-k<n→acc.length≤k→Nw w→AU Au w.Ac+41*(l.length-k)≤900000→
  MG n l (l.length:Int) k 0 0 false [] [] [] [] [] [] [] [] w.2.1 w.2.2.2.2.2.1 w.2.2.2.2.2.2.2.2.2.2.1 w.1 w.2.2.1 w.2.2.2.1 w.2.2.2.2.1 w.2.2.2.2.2.2.1 w.2.2.2.2.2.2.2.1 w.2.2.2.2.2.2.2.2.1 w.2.2.2.2.2.2.2.2.2.1 acc=some (XO ((runM false w (l.drop k)).1,acc++(runM false w (l.drop k)).2)):=by
 intro n
 induction n with
 |zero=>intro k w acc _ h;omega
 |succ n ih=>
  intro k w acc hk hn ha hw hr;simp only[MG,Wc,AB];by_cases G4:k<l.length
  ·rw[AM1 (by omega),AM1 ⟨by omega,by omega⟩,AMO G4,AN4]
   have hm:CR (l.getD k (0,0,0,0,[],())).2.1:=hd _ (BU G4)
   generalize l.getD k (0,0,0,0,[],())=d at hm
   rw[show(w.1,w.2.1,w.2.2.1,w.2.2.2.1,w.2.2.2.2.1,w.2.2.2.2.2.1,w.2.2.2.2.2.2.1,w.2.2.2.2.2.2.2.1,w.2.2.2.2.2.2.2.2.1,w.2.2.2.2.2.2.2.2.2.1,w.2.2.2.2.2.2.2.2.2.2.1,())=w from rfl,show(d.1,d.2.1,d.2.2.1,d.2.2.2.1,d.2.2.2.2.1,())=d from rfl,mw (hw.ANa (by omega)) hm];simp only[AD];rw[show(pkD (CC false w d)).1.1.2.1=(CC false w d).2 from rfl,AH (x:=(k:Int)+1) (by omega) (by omega),show((k:Int)+1)=((k+1:Nat):Int)by omega,AM1 (by rw[An];omega),AM1 (by rw[An];omega)];simp only[runM];by_cases h0:(CC false w d).2=0
   ·rw[AM1 h0,show((CC false w d).2==0)=true by simpa using h0,AOA]
    have:=ih (k+1) (CC false w d).1 (acc++[(CC false w d).2]) (by omega) (by omega) (by simp;omega) (EU.1 (Uh h0)) (by have:=hU hw h0;omega);rw[AOK]at this;exact this
   ·rw[AM2 h0,show((CC false w d).2==0)=false by simpa using h0,ANP]
    have:=ih (k+1) w (acc++[(CC false w d).2]) (by omega) (by omega) (by simp;omega) hw (by omega);rw[AOK]at this;exact this
  ·rw[AM2 (by omega),ANy (by omega)]
   simp only[runM,AOC];rfl
theorem US{w:AA}{l:List BK}(QM:lF w)(hr:AU Au w.Ac≤70000)(hd:∀d∈l,CR d.2.1)(hl:l.length≤2^30):LG w l=some (XO (iE false w l)):=by
 unfold LG Wp iE;rw[show(w.1,w.2.1,w.2.2.1,w.2.2.2.1,w.2.2.2.2.1,w.2.2.2.2.2.1,w.2.2.2.2.2.2.1,w.2.2.2.2.2.2.2.1,w.2.2.2.2.2.2.2.2.1,w.2.2.2.2.2.2.2.2.2.1,w.2.2.2.2.2.2.2.2.2.2.1,())=w from rfl,Zk QM,Vz QM];simp only[AD,AB,As];by_cases h:(l.length:Int)>200
 ·rw[AM1 h,AM2 (fun hh=>by omega)]
  rfl
 rw[AM2 h];rcases AM0 (Ft w)with hw|hw
 ·rw[hw,AOA,AM1 ⟨rfl,by omega⟩]
  have:=ABh (l:=l) (by omega) hd AX 0 w [] (by omega) (AZ (by omega)) (by simp) (EU.1 hw) (by omega);exact this
 ·rw[hw,ANP,AM2 (fun hh=>by simp at hh)]
  rfl
def ARc(q:AA×List Int):Ic:=(((((),q.1.2.1,(),(),(),q.1.2.2.2.2.2.1,(),(),(),(),q.1.2.2.2.2.2.2.2.2.2.2.1,()),(),()),()),(q.1.1,q.1.2.2.1,q.1.2.2.2.1,q.1.2.2.2.2.1,q.1.2.2.2.2.2.2.1,q.1.2.2.2.2.2.2.2.1,q.1.2.2.2.2.2.2.2.2.1,q.1.2.2.2.2.2.2.2.2.2.1,q.2,()))
theorem ABP{l:List BK}(hl:l.length≤200)(hd:∀d∈l,CR d.2.1):∀(n k:Nat) (w:AA) (acc:AAD),k≤l.length→l.length-k<n→acc.length≤k→Nw w→AU Au w.Ac+41*(l.length-k)≤900000→
  MS n l k 0 0 false [] [] [] [] [] [] [] [] acc w.2.1 w.2.2.2.2.2.1 w.2.2.2.2.2.2.2.2.2.2.1 w.1 w.2.2.1 w.2.2.2.1 w.2.2.2.2.1 w.2.2.2.2.2.2.1 w.2.2.2.2.2.2.2.1 w.2.2.2.2.2.2.2.2.1 w.2.2.2.2.2.2.2.2.2.1=some (ARc ((runM true w (l.drop k)).1,acc++(runM true w (l.drop k)).2)):=by
 intro n
 induction n with
 |zero=>intro k w acc _ h;omega
 |succ n ih=>
  intro k w acc hk hn ha hw hr;simp only[MS,WV,AB];by_cases G4:k<l.length
  ·rw[AM1 (by omega),AM1 ⟨by omega,by omega⟩,AMO G4,AN4]
   have hm:CR (l.getD k (0,0,0,0,[],())).2.1:=hd _ (BU G4)
   generalize l.getD k (0,0,0,0,[],())=d at hm
   rw[show(w.1,w.2.1,w.2.2.1,w.2.2.2.1,w.2.2.2.2.1,w.2.2.2.2.2.1,w.2.2.2.2.2.2.1,w.2.2.2.2.2.2.2.1,w.2.2.2.2.2.2.2.2.1,w.2.2.2.2.2.2.2.2.2.1,w.2.2.2.2.2.2.2.2.2.2.1,())=w from rfl,show(d.1,d.2.1,d.2.2.1,d.2.2.2.1,d.2.2.2.2.1,())=d from rfl,V_ (hw.ANa (by omega)) hm];simp only[AD];rw[show(pkD (CC true w d)).1.1.2.1=(CC true w d).2 from rfl,AH (x:=(k:Int)+1) (by omega) (by omega),show((k:Int)+1)=((k+1:Nat):Int)by omega,AM1 (by rw[An];omega)];simp only[runM];by_cases h0:(CC true w d).2=0
   ·rw[AM1 h0,show((CC true w d).2==0)=true by simpa using h0,AOA]
    have:=ih (k+1) (CC true w d).1 (acc++[(CC true w d).2]) (by omega) (by omega) (by simp;omega) (EU.1 (Uh h0)) (by have:=hU hw h0;omega);rw[AOK]at this;exact this
   ·rw[AM2 h0,show((CC true w d).2==0)=false by simpa using h0,ANP]
    have:=ih (k+1) w (acc++[(CC true w d).2]) (by omega) (by omega) (by simp;omega) hw (by omega);rw[AOK]at this;exact this
  ·rw[AM2 (by omega),ANy (by omega)]
   simp only[runM,AOC];rfl
theorem lO{w:AA}{l:List BK}(QM:lF w)(hr:AU Au w.Ac≤70000)(hd:∀d∈l,CR d.2.1)(hl:l.length≤2^30):QY w l=some (ARc (iE true w l)):=by
 unfold QY WZ iE;rw[show(w.1,w.2.1,w.2.2.1,w.2.2.2.1,w.2.2.2.2.1,w.2.2.2.2.2.1,w.2.2.2.2.2.2.1,w.2.2.2.2.2.2.2.1,w.2.2.2.2.2.2.2.2.1,w.2.2.2.2.2.2.2.2.2.1,w.2.2.2.2.2.2.2.2.2.2.1,())=w from rfl,cU QM,cW QM];simp only[AD,AB,As];by_cases h:(l.length:Int)>200
 ·rw[AM1 h,AM2 (fun hh=>by omega)]
  cases Ft w<;>rfl
 rw[AM2 h];rcases AM0 (Ft w)with hw|hw
 ·rw[hw,AOA,AM1 ⟨rfl,by omega⟩]
  have:=ABP (l:=l) (by omega) hd AX 0 w [] (by omega) (AZ (by omega)) (by simp) (EU.1 hw) (by omega);exact this
 ·rw[hw,ANP,AM2 (fun hh=>by simp at hh)]
  rfl
theorem yj{x:AAD}(hv:Go.Fw.Vd (.sl (.int .u8)) x)(hl:x.length≤2^30):∃r,jA x 1=some ((r,()),())∧0≤r:=by
 unfold jA;simp only[AB];by_cases h:(1:Int)<(x.length:Int)
 ·rw[AM1 h,AM1 ⟨by omega,h⟩]
  have hm:x.getD (1:Int).toNat 0∈x:=BU (d:=(0:Int)) (i:=1) (by omega);have hb:=wf_u8 (hv.2 _ hm);refine⟨_,rfl,?_⟩;rw[AH (by omega) (by omega)];omega
 ·rw[AM2 h]
  refine⟨_,rfl,?_⟩;rw[AH (x:=(1:Int)*7) (by omega) (by omega),AH (by omega) (by omega),AT7 (by omega)];omega
theorem ux{all:Bool}:∀{l:List BK} {w:AA},Nw w→AU Au (runM all w l).1.Ac≤AU Au w.Ac+41*l.length
 |[],w,_=>by simp[runM]
 |d::l,w,hw=>by
  simp only[runM,AOX];by_cases h:(CC all w d).2=0
  ·rw[AM1 h]
   have h1:=hU hw h;have h2:=ux (all:=all) (l:=l) (EU.1 (Uh h));omega
  ·rw[AM2 h]
   have h2:=ux (all:=all) (l:=l) hw;omega
theorem qo{l:AAD}(hl:l.length≤2^40):Nc l l=some ((true,()),()):=by
 have key:∀(n i:Nat),i≤l.length→l.length-i<n→MO n l l i=some ((true,()),()):=by
  intro n
  induction n with
  |zero=>intro i _ h;omega
  |succ n ih=>
   intro i hi h;simp only[MO,Ww,AB];by_cases hc:i<l.length
   ·rw[AM1 (by omega),AM1 (by omega),AM1 (by omega),AH (by omega) (by omega),show(((i:Nat):Int)+1)=((i+1:Nat):Int)by omega,ih (i+1) (by omega) (by omega)]
    simp
   ·rw[AM2 (by omega)]
 unfold Nc Wh;have:=key AX 0 (by omega) (AZ (by omega));rw[show((0:Nat):Int)=0 from rfl]at this;rw[this];simp
theorem xG{l:List Bd}(hl:l.length≤2^40):Kc l l=some ((true,()),()):=by
 have key:∀(n i:Nat),i≤l.length→l.length-i<n→Jv n l l i=some ((true,()),()):=by
  intro n
  induction n with
  |zero=>intro i _ h;omega
  |succ n ih=>
   intro i hi h;simp only[Jv,Tj,AB];by_cases hc:i<l.length
   ·rw[AM1 (by omega),AM1 (by omega),AM1 (by omega),AH (by omega) (by omega),show(((i:Nat):Int)+1)=((i+1:Nat):Int)by omega,ih (i+1) (by omega) (by omega)]
    simp
   ·rw[AM2 (by omega)]
 unfold Kc T1;have:=key AX 0 (by omega) (AZ (by omega));rw[show((0:Nat):Int)=0 from rfl]at this;rw[this];simp
theorem ABs{w:AA}{l:List BK}:(iE true w l).2=(iE false w l).2:=by
 unfold iE;by_cases hg:Ft w=true∧l.length≤200
 ·rw[AM1 hg,AM1 hg]
  obtain⟨_,_,_,e⟩:=uS (a:=true) (b:=false) (l:=l) (w:=w) (se:=w.Al) rfl;exact e
 ·rw[AM2 hg,AM2 hg]
theorem zC{x:AAD}(hx:Go.Fw.Vd (.sl (.int .u8)) x):RR x=some ((true,()),()):=by
 unfold RR jY;simp only[AN0,AB];by_cases hs:(x.length:Int)>1048576
 ·rw[AM1 hs]
 rw[AM2 hs];obtain⟨w,l,e1,QM,ZN,hl,ze⟩:=AA0 (x:=x) (by omega);rw[e1];simp only[AN0,AQX];rw[show(w.1,w.2.1,w.2.2.1,w.2.2.2.1,w.2.2.2.2.1,w.2.2.2.2.2.1,w.2.2.2.2.2.2.1,w.2.2.2.2.2.2.2.1,w.2.2.2.2.2.2.2.2.1,w.2.2.2.2.2.2.2.2.2.1,w.2.2.2.2.2.2.2.2.2.2.1,())=w from rfl,US QM (by omega) ze (by omega),lO QM (by omega) ze (by omega)];simp only[AN0];rw[show(ARc (iE true w l)).2.2.2.2.2.2.2.2.2.1=(iE true w l).2 from rfl,show(XO (iE false w l)).2.2.2.2.2.2.2.2.2.1=(iE false w l).2 from rfl,ABs];by_cases hg:Ft w=true∧l.length≤200
 rotate_left
 ·rw[show iE false w l=(w,[])from AM2 hg,qo (by simp)]
  simp[XO]
 have hlen:=jL (all:=false) (l:=l) (w:=w);rw[show iE false w l=runM false w l from AM1 hg,qo (by omega)];simp only[AN0,ANZ,ANP];by_cases h0:l=[]
 ·subst h0
  simp[XO,runM]
 have ADl:l.length≠0:=fun h=>h0 (ARO h)
 rw[APT.2 (show¬((runM false w l).2.length:Int)=0 by omega),ANP];obtain⟨r,hr,vD⟩:=yj hx (by omega);rw[hr];simp only[AN0];rw[AH (x:=(l.length:Int)+1) (by omega) (by omega),AM2 (by omega)];obtain⟨k,hk,hkl⟩:∃k:Nat,r.tmod ((l.length:Int)+1)=k∧k≤l.length:=by
  rw[AT7 vD];have h1:=Int.emod_nonneg r (show((l.length:Int)+1)≠0 by omega);have h2:=Int.emod_lt_of_pos r (show 0<(l.length:Int)+1 by omega);exact⟨(r%((l.length:Int)+1)).toNat,by omega,by omega⟩
 rw[hk];simp only[AN4];rw[AM1 ⟨by omega,by omega,by omega⟩,show(l.drop 0).take (k-0)=l.take k by simp,show(l.drop k).take (l.length-k)=l.drop k from ASh (by simp)];have hw:=EU.1 hg.1;have g1:iE false w (l.take k)=runM false w (l.take k):=AM1 ⟨hg.1,by rw[ATH];omega⟩;have FW:=uU (all:=false) (l:=l.take k) hg.1;have hmr:=ux (all:=false) (l:=l.take k) hw;have G4:(l.take k).length=k:=by rw[ATH];omega
 have hld:(l.drop k).length=l.length-k:=AT9;have hol:=jL (all:=false) (l:=l.take k) (w:=w);have app:runM false w l=((runM false (runM false w (l.take k)).1 (l.drop k)).1,(runM false w (l.take k)).2++(runM false (runM false w (l.take k)).1 (l.drop k)).2):=by
  rw[←mP,AUN]
 rw[US QM (by omega) (fun d hd=>ze d (AUX hd)) (by omega),g1,app];simp only[AN0];rw[AM1 ⟨by omega,by omega,by omega⟩]
 generalize hO:runM false w (l.take k)=O at*
 rw[show((XO O).2.1,(XO O).1.1.1.2.1,(XO O).2.2.1,(XO O).2.2.2.1,(XO O).2.2.2.2.1,(XO O).1.1.1.2.2.2.2.2.1,(XO O).2.2.2.2.2.1,(XO O).2.2.2.2.2.2.1,(XO O).2.2.2.2.2.2.2.1,(XO O).2.2.2.2.2.2.2.2.1,(XO O).1.1.1.2.2.2.2.2.2.2.2.2.2.1,())=O.1 from rfl];have hOw:=EU.1 FW;have g2:iE false O.1 (l.drop k)=runM false O.1 (l.drop k):=AM1 ⟨FW,by omega⟩;have AYE:=uU (all:=false) (l:=l.drop k) FW;have hrl:=jL (all:=false) (l:=l.drop k) (w:=O.1);rw[US (hOw.ANa (by omega)) (by omega) (fun d hd=>ze d (ATI hd)) (by omega),g2];simp only[AN0]
 generalize runM false O.1 (l.drop k)=R at*
 have hRw:=EU.1 AYE;rw[show(XO O).2.2.2.2.2.2.2.2.2.1=O.2 from rfl,show(XO R).2.2.2.2.2.2.2.2.2.1=R.2 from rfl,show(XO R).2.2.2.1=R.1.lost from rfl,show(XO R).2.2.2.2.2.2.2.2.1=R.1.Al from rfl,show(XO R).2.2.2.2.2.2.2.1=R.1.Ac from rfl,
  show(XO (R.1,O.2++R.2)).2.2.2.1=R.1.lost from rfl,show(XO (R.1,O.2++R.2)).2.2.2.2.2.2.2.2.1=R.1.Al from rfl,show(XO (R.1,O.2++R.2)).2.2.2.2.2.2.2.1=R.1.Ac from rfl]
 have hlo:=GI hRw.lost;have hc8:=(Dl hRw.cfg).2.1;have hnr:=hRw.nN;have vD:=(hRw.Ac _ (BU (d:=EG) (l:=R.1.Ac) (i:=0) (by omega))).n;have hr1:=(hRw.Ac _ (BU (d:=EG) (l:=R.1.Ac) (i:=1) (by omega))).n;rw[ASo.2 (show(O.2.length:Int)=(k:Int)by omega),AOA,AOq,AH (by omega) (by omega),ASo.2 (show(O.2.length:Int)+(R.2.length:Int)=((O.2.length+R.2.length:Nat):Int)by omega),AOA,beq_self_eq_true,AOA,
  qo (by omega)]
 simp only[AN0,AOA];rw[AM1 ⟨by omega,by omega⟩,AM1 ⟨by omega,by omega⟩,xG (by show(R.1.Ac.getD 0 EG).2.2.1.length≤_;omega)];simp only[AN0,AOA];rw[AM1 ⟨by omega,by omega⟩,AM1 ⟨by omega,by omega⟩,xG (by show(R.1.Ac.getD 1 EG).2.2.1.length≤_;omega)];rfl
end Go.M
end
