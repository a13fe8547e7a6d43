/- Plain facts on what the functions compute. -/
import Derived.Test.YtbjkhapllnkhfaaGreatDoorAM0
import Derived.Lib.AtoiAllCases
set_option linter.unusedVariables false
set_option linter.unusedSimpArgs false
set_option linter.unusedSectionVars false
section
set_option maxRecDepth 8000
namespace Go.M
open Go.M.H (AA AH AK AL AM AR AY Aa Ac Ag Aj Al Am An Au Aw BA BF BG BL Bm Bp CK Ck Cq Cw Dt)
abbrev pN:Am×Unit->Unit->Prop:=fun x _=>Bi x.1.2.1/\Bi x.1.2.2.1/\Bi x.1.2.2.2.1/\x.1.2.2.2.2.1.length<=40
theorem AI3(x:Int):Bi (AQ x):=by
 grind[AQ,IntKind.wrap,Bi,IntKind.bits,IntKind.signed]
theorem Pj{x:Int}(h: -1000<=x/\x<=1000):Bi x:=by unfold Bi;omega
section
variable{code:AAO} (hc:code.length<=2^30) {w:AA} (h:RS w)
include hc h
theorem RS.AI5{e:Int}(he:1<=e/\e<=w.BQ.length):0<(Br w.BQ e).length/\(Br w.BQ e).length<=8/\ ∀x∈Br w.BQ e,0<=x/\x<8:=by
 have hh:=(h.wW.BQ _ (BN (d:=Hu) (show(e-1).toNat<(Cl w).1.length by show _<w.BQ.length;omega))).1;have hn:=YF hh;have dA:=(Em h.cfg).2.1;unfold Br;rw[Ao.2 he,ALi rfl];refine⟨?_,Il hn,fun x hx=> ?_⟩
 ·rcases AUc (w.BQ.getD (e-1).toNat Hu).1.length with h0|h0
  ·have AEe:=AO_ h0
   have hh':holds (Ae w) (w.BQ.getD (e-1).toNat Hu).1=true:=hh;grind[holds_nil]
  omega
 ·have:=(FF.1 hn).2.1 x hx
  omega
theorem AAn(hw:0<w.AO.length){i hh:Int}(hi:Ce code i):OK code pN (HH w code i hh):=by
 have k:=h.nums;have k2:=k.wr;have k5:=k.era;have tV:0<w.2.2.2.2.2.2.1.length:=hw;have tail:∀(j:Int),0<=j->j<(w.2.2.2.2.2.2.1.length:Int)-> ∀i hh,Ce code i->OK code pN (
   (CA (w.2.2.2.2.1,w.2.2.2.2.2.1,()) ((w.2.2.2.2.2.2.1.getD (j.toNat) (0,[],())).1)).bind fun en=>
   (AJ (en.2.1.length:Int) code i hh).bind fun Ru=>
   if(0:Int)<=Ru.1.1/\Ru.1.1<(en.2.1.length:Int)then(
   cond ((((w.2.2.2.2.2.2.1.getD (j.toNat) (0,[],())).2.1).length:Int)==0)
    ((Ei [[],[97],[98,99],[100]] Ru.2.1.1 Ru.2.1.2.1 Ru.2.1.2.2.1).bind fun dD=>
    some (((2,j,0,0,dD.1.1,()),()),((dD.2.1.1,dD.2.1.2.1,dD.2.1.2.2.1,()),())))
   ((Av 7 Ru.2.1.1 Ru.2.1.2.1 Ru.2.1.2.2.1).bind fun Sc=>
   cond (Sc.1.1)
    ((Ei [[],[97],[98,99],[100]] Sc.2.1.1 Sc.2.1.2.1 Sc.2.1.2.2.1).bind fun bA=>
    some (((2,j,0,0,bA.1.1,()),()),((bA.2.1.1,bA.2.1.2.1,bA.2.1.2.2.1,()),())))
   ((Av 3 Sc.2.1.1 Sc.2.1.2.1 Sc.2.1.2.2.1).bind fun qJ=>
   cond (qJ.1.1)
    (some (((4,(en.2.1.getD (Ru.1.1.toNat) 0),0,0,[],()),()),((qJ.2.1.1,qJ.2.1.2.1,qJ.2.1.2.2.1,()),())))
   ((N1 (((w.2.2.2.2.2.2.1.getD (j.toNat) (0,[],())).2.1).length:Int) 3).bind fun qO=>
   (AJ qO.1.1 qJ.2.1.1 qJ.2.1.2.1 qJ.2.1.2.2.1).bind fun XZ=>
   some (((3,j,AQ ((((w.2.2.2.2.2.2.1.getD (j.toNat) (0,[],())).2.1).length:Int)-XZ.1.1),(en.2.1.getD (Ru.1.1.toNat) 0),[],()),()),((XZ.2.1.1,XZ.2.1.2.1,XZ.2.1.2.2.1,()),()))))))else none):=by
  intro j hj0 hj1 i hh hi;have hx:=h.AO _ (BN (d:=CN) (show j.toNat<w.AO.length by simp_all));have he:=hx.1.ep;obtain⟨e1,e2,e3⟩:=h.AI5 hc (e:=(w.AO.getD j.toNat CN).1) ⟨he.1,hx.2⟩;refine OK.pure (Fh (r:=Cl w) (by show Aa Bm w.2.2.2.2.1<=_;omega)) ?_
  dsimp only
  generalize hns:Br (Cl w).1 (w.2.2.2.2.2.2.1.getD j.toNat (0,[],())).1=ns
  have ASL:Br w.BQ (w.AO.getD j.toNat CN).1=ns:=hns;rw[ASL]at e1 e2 e3;refine OK.bind (CB hc hi (by omega)) fun x i1 h1 y K8 hq=> ?_
  dsimp only at*;refine OK.ite (by omega) ?_
  have AKZ:Bi (ns.getD x.1.toNat 0):=Pj (by grind[BN]);have hjj:Bi j:=Pj (by omega);have z:Bi 0:=Pj (by omega)
  repeat' (first|refine OK.some (by assumption) ?_|refine OK.SI (fun _=> ?_) (fun _=> ?_)|refine OK.GQ (fun _=> ?_) (fun _=> ?_)|refine OK.cond (fun _=> ?_) (fun _=> ?_)|refine OK.ite (by omega) ?_|(refine OK.bind (PV (by assumption) (by assumption) (by omega)) fun x i h y hi hq=> ?_;dsimp only)|(refine OK.bind (CB (by assumption) (by assumption) (by omega)) fun x i h y hi hq=> ?_;dsimp only at*)|(refine OK.bind (vO (by assumption) (by assumption) (by simp) (by simp)) fun x i h y hi hq=> ?_;dsimp only)|(refine OK.pure SN ?_;dsimp only)|(refine OK.pure J0 ?_;dsimp only))
  all_goals refine⟨?_,?_,?_,?_⟩
  all_goals first
   |assumption
   |exact AI3 _
   |exact AVI _
   |grind
 unfold HH;dsimp only;have e1:AQ ((w.2.2.2.2.2.2.1.length:Int)-1)=(w.2.2.2.2.2.2.1.length:Int)-1:=Ab (by omega);simp only[e1];refine OK.bind (CB hc hi (by omega)) fun x i1 h1 y K8 hq=> ?_
 dsimp only at*;refine OK.bind (PV hc K8 (by omega)) fun x2 i2 h2 y2 H6 rH=> ?_
 dsimp only at*;refine OK.cond (fun _=> ?_) (fun _=> ?_)
 ·refine OK.ite (by omega) ?_
  exact tail _ (by omega) (by omega) _ _ H6
 simp_all
end
section
variable{code:AAO} (hc:code.length<=2^30) {w:AA} (h:RS w)
include hc h
theorem ABy{m:BA}(hm:qK (Ae w) m){t7:Int}(h7:Bi t7):∀(n k:Nat) (t8 i hh:Int),Bi t8->Ce code i->k<=m.2.2.2.2.2.1.length->m.2.2.2.2.2.1.length-k<n->
  OK code pN (Gx n t7 t8 k code i hh w.1 w.2.1 w.2.2.1 w.2.2.2.1 w.2.2.2.2.1 w.2.2.2.2.2.1 w.2.2.2.2.2.2.1 w.2.2.2.2.2.2.2.1 w.2.2.2.2.2.2.2.2.1 w.2.2.2.2.2.2.2.2.2.1 w.2.2.2.2.2.2.2.2.2.2.1 0 0 0 0 [] m.1 m.2.1 m.2.2.1 m.2.2.2.1 m.2.2.2.2.1 m.2.2.2.2.2.1):=by
 have k1:=h.nums.c;have zU:m.2.2.2.2.2.1.length<=60:=by
  have:=hm.n;have hb:=IW (l:=m.2.2.2.1);split at this<;>omega
 intro n
 induction n with
 |zero=>intro k t8 i hh _ _ _ h;omega
 |succ n ih=>
  intro k t8 i hh h8 hi hk hn;have hk8:Bi ((k+1:Nat):Int):=Pj (by omega);simp only[Gx,Tg];refine OK.SI (fun JN=> ?_) (fun hge=>OK.some hi ⟨Pj (by show-1000<=(0:Int)/\(0:Int)<=1000;omega),h8,h7,AVI _⟩);have AbR:k<m.2.2.2.2.2.1.length:=by omega
  refine OK.ite (by omega) ?_
  rw[As (i:=k) (by omega)];have hnl:=Il (hm.wrote _ (BN (d:=[]) AbR));refine OK.pure (ED (c:=Ae w) (by show w.1.length<=_;omega) (by show(m.2.2.2.2.2.1.getD k []).length<=_;omega)) ?_
  dsimp only;refine OK.cond (fun _=> ?_) (fun _=>ih (k+1) _ _ _ h8 hi (by omega) (by omega));refine OK.bind (PV hc hi (by omega)) fun x2 i2 h2 y2 H6 rH=> ?_
  dsimp only;exact OK.cond (fun _=>ih (k+1) _ _ _ hk8 H6 (by omega) (by omega)) (fun _=>ih (k+1) _ _ _ h8 H6 (by omega) (by omega))
theorem ADU{i hh:Int}(hi:Ce code i):OK code pN (NK w code i hh):=by
 have k:=h.nums;have k5:=k.era;unfold NK Ud;have z:Bi 0:=Pj (by omega);refine OK.GQ (fun _=>OK.some hi ⟨z,z,z,AVI _⟩) (fun jt=> ?_);have hlen:0<w.Cg.length:=by show 0<w.2.2.2.2.2.2.2.1.length;omega
 refine OK.ite (by omega) ?_
 have hmm:=h.Cg _ (BN (d:=Tr) hlen)
 generalize hg:w.2.2.2.2.2.2.2.1.getD 0 (0,0,[],[],false,[],())=m
 have hg':w.Cg.getD 0 Tr=m:=hg;rw[hg']at hmm;obtain⟨hm,hm2,hm3⟩:=hmm;have he:=hm.ep;have hb:=hm.b;obtain⟨e1,e2,e3⟩:=h.AI5 hc (e:=m.2.1) ⟨he.1,by omega⟩;have zU:m.2.2.2.2.2.1.length<=60:=by
  have:=hm.n;have hb:=IW (l:=m.2.2.2.1);split at this<;>omega
 refine OK.pure (Fh (r:=Cl w) (by show Aa Bm w.2.2.2.2.1<=_;omega)) ?_
 dsimp only
 generalize hns:Br (Cl w).1 m.2.1=ns
 have ASL:Br w.BQ m.2.1=ns:=hns;rw[ASL]at e1 e2 e3;refine OK.bind (CB hc hi (by omega)) fun x i1 h1 y K8 hq=> ?_
 dsimp only at*;refine OK.ite (by omega) ?_
 have AKZ:Bi (ns.getD x.1.toNat 0):=Pj (by have:=e3 _ (BN (l:=ns) (i:=x.1.toNat) (d:=0) (by omega));omega);have fin:∀t8 i hh,Bi t8->Ce code i->OK code pN (Gx AU (ns.getD x.1.toNat 0) t8 0 code i hh w.1 w.2.1 w.2.2.1 w.2.2.2.1 w.2.2.2.2.1 w.2.2.2.2.2.1 w.2.2.2.2.2.2.1 w.2.2.2.2.2.2.2.1 w.2.2.2.2.2.2.2.2.1 w.2.2.2.2.2.2.2.2.2.1 w.2.2.2.2.2.2.2.2.2.2.1 0 0 0 0 [] m.1 m.2.1 m.2.2.1 m.2.2.2.1 m.2.2.2.2.1 m.2.2.2.2.2.1):=fun t8 i hh h8 hi=>
  ABy hc h hm AKZ AU 0 t8 i hh h8 hi (by omega) (AZ (by omega))
 repeat' (first|refine OK.some (by assumption) ?_|refine OK.SI (fun _=> ?_) (fun _=> ?_)|refine OK.GQ (fun _=> ?_) (fun _=> ?_)|refine OK.cond (fun _=> ?_) (fun _=> ?_)|refine OK.ite (by omega) ?_|(refine OK.bind (PV (by assumption) (by assumption) (by omega)) fun x i h y hi hq=> ?_;dsimp only)|(refine OK.bind (CB (by assumption) (by assumption) (by omega)) fun x i h y hi hq=> ?_;dsimp only at*)|(refine OK.bind (vO (by assumption) (by assumption) (by simp) (by simp)) fun x i h y hi hq=> ?_;dsimp only)|(refine OK.pure SN ?_;dsimp only)|(refine OK.pure J0 ?_;dsimp only))
 all_goals first
  |exact fin _ _ _ (AI3 _) (by assumption)
  |exact⟨z,z,z,AVI _⟩
  |exact⟨AKZ,z,z,AVI _⟩
theorem sX{i hh:Int}(hi:Ce code i):OK code pN (Mw w code i hh):=by
 obtain⟨k1,k4,k3,k5,k7,_,k2,_,_,k6,_,_,_,_,_⟩:=h.nums;have AFe:=(Em h.cfg).1;have AdH:1<=w.1.length:=AFe;have z:Bi 0:=Pj (by omega);have X3:∀i hh,Ce code i->OK code pN ((Io (w.1,w.2.1,()) code i hh).bind fun u3=>
   (ML u3.2.2.1).bind fun u4=>
   some (((1,u4.1.1,0,0,[],()),()),((u3.2.1.1,u3.2.1.2.1,u3.2.1.2.2.1,()),()))):=fun i hh hi=>by
  refine OK.bind (mo hc (c:=(w.1,w.2.1,())) (by show w.1.length<=_;omega) hi) fun x i1 h1 y K8 hq=> ?_
  dsimp only;obtain⟨r,hr,hr2⟩:=AA6 (l:=y.1) (by omega);refine OK.pure hr ?_
  exact OK.some K8 ⟨hr2,z,z,AVI _⟩
 have AUT:∀j:Nat,Bi (w.2.2.2.2.2.2.2.2.2.1.getD j (0,[],false,())).1:=fun j=>by
  by_cases hj:j<w.2.2.2.2.2.2.2.2.2.1.length
  ·exact Hy (h.Ar _ (BN (d:=Hs) hj)).1
  ·rw[List.getD,ATb (by omega)];exact z
 have AUP:Bi (w.2.2.2.1.getD 0 0):=by
  by_cases hj:0<w.2.2.2.1.length
  ·have:=(FF.1 h.lost).2.1 _ (BN (d:=0) hj)
   have hc8:(Ae w).1.length<=8:=k1;have Ad9:0<=w.2.2.2.1.getD 0 0/\w.2.2.2.1.getD 0 0<(Ae w).1.length:=this;exact Pj (by omega)
  ·rw[List.getD,ATb (by omega)];exact z
 unfold Mw;refine OK.GQ (fun _=>X3 _ _ hi) (fun jt=> ?_);have hw0:0<w.AO.length:=by show 0<w.2.2.2.2.2.2.1.length;omega
 have hwr:∀i hh,Ce code i->OK code pN ((HH w code i hh).bind fun tD=>
   some (((tD.1.1.1,tD.1.1.2.1,tD.1.1.2.2.1,tD.1.1.2.2.2.1,tD.1.1.2.2.2.2.1,()),()),((tD.2.1.1,tD.2.1.2.1,tD.2.1.2.2.1,()),()))):=fun i hh hi=>
  OK.bind (AAn hc h hw0 hi) fun x i1 h1 y K8 hq=>OK.some K8 hq
 have hmd:∀i hh,Ce code i->OK code pN ((NK w code i hh).bind fun tD=>
   some (((tD.1.1.1,tD.1.1.2.1,tD.1.1.2.2.1,tD.1.1.2.2.2.1,tD.1.1.2.2.2.2.1,()),()),((tD.2.1.1,tD.2.1.2.1,tD.2.1.2.2.1,()),()))):=fun i hh hi=>
  OK.bind (ADU hc h hi) fun x i1 h1 y K8 hq=>OK.some K8 hq
 rw[Fa w];refine OK.bind (PV hc hi (by omega)) fun x2 i2 h2 y2 H6 rH=> ?_
 dsimp only;refine OK.cond (fun _=>X3 _ _ H6) (fun _=> ?_);refine OK.bind (CB hc H6 (by omega)) fun x3 i3 h3 y3 LL Xa=> ?_
 dsimp only at*;have hx3:Bi x3.1:=Pj (by omega)
 repeat' first
  |exact hwr _ _ (by assumption)
  |exact hmd _ _ (by assumption)
  |(refine OK.pure (PY (r:=Cl w) (by show w.2.2.2.2.1.length<=_;omega)) ?_;dsimp only)
  |(first|refine OK.some (by assumption) ?_|refine OK.SI (fun _=> ?_) (fun _=> ?_)|refine OK.GQ (fun _=> ?_) (fun _=> ?_)|refine OK.cond (fun _=> ?_) (fun _=> ?_)|refine OK.ite (by omega) ?_|(refine OK.bind (PV (by assumption) (by assumption) (by omega)) fun x i h y hi hq=> ?_;dsimp only)|(refine OK.bind (CB (by assumption) (by assumption) (by omega)) fun x i h y hi hq=> ?_;dsimp only at*)|(refine OK.bind (vO (by assumption) (by assumption) (by simp) (by simp)) fun x i h y hi hq=> ?_;dsimp only)|(refine OK.pure SN ?_;dsimp only)|(refine OK.pure J0 ?_;dsimp only))
 all_goals refine⟨?_,?_,?_,AVI _⟩
 all_goals first
  |exact z
  |exact hx3
  |exact AUT _
  |exact AUP
  |(refine Pj ?_;dsimp only;omega)
end
theorem rR{s:AAO}{p:Int}:∀{l:List BL} {b:Option AH},(∀x,b=some x->Ga x=true)-> ∀x,Jj s p b l=some x->Ga x=true
 |[],b,hb,x,h=>hb x h
 |a::l,b,hb,x,h=>by
  simp only[Jj]at h;split at h
  ·rename_i hc
   simp only[AL8]at hc;refine rR (l:=l) ?_ x h
   intro z hz;split at hz
   ·rename_i z' hz'
    unfold better at hz;grind
   simp_all
  ·exact rR (l:=l) hb x h
theorem sM{c:Ca}{g:AK}{sure:Int}{r:Ac}{l:List BL}(h:∀e∈r.2.2.1,e.2.2.1.length<=40)(h0:(Dq c g sure r l).2=0):∀e∈(Dq c g sure r l).1.2.2.1,e.2.2.1.length<=40:=by
 have app:∀(ev:Au),ev.2.2.1.length<=40-> ∀e∈r.2.2.1++[ev],e.2.2.1.length<=40:=fun ev hev e he=>by
  grind
 have hf:∀p,(Wo p (Jj (g.1.getD (r.1-1).toNat Hu).1 p none l)).2.2.1.length<=40:=fun p=>by
  cases hb:Jj (g.1.getD (r.1-1).toNat Hu).1 p none l with
  |none=>show 0<=40;omega
  |some x=>
   have:=(Gz.1 (rR (b:=none) (fun x hx=>by cases hx) x hb)).len;unfold Wo;dsimp only;split
   all_goals simp_all
 revert h0
 unfold Dq;dsimp only;split
 ·omega
 split
 ·omega
 split
 ·grind
 split
 ·grind
 split
 ·omega
 split
 all_goals grind
theorem BS{w:AA}{n:Int}{q:AL×Bool}:(putAt w n q).1.Aq=w.Aq:=by
 grind[putAt]
theorem ABZ{w:AA}{a k:Int}(h:RdS w):RdS (MO w a k).1:=by
 unfold MO;split
 ·omega
 dsimp only;split
 ·omega
 rename_i h2;intro r hr;rcases AQO hr with hr|rfl
 ·exact h r hr
 ·refine sM ?_ (by omega)
  by_cases hl:a.toNat<w.Aq.length
  ·exact h _ (BN hl)
  simp_all
theorem Dm{w w':AA}(h:RdS w)(e:w'.Aq=w.Aq):RdS w':=by
 unfold RdS;rw[e];exact h
theorem AFu{all:Bool}{w:AA}{d:Am}(h:RdS w):RdS (PJ all w d).1:=by
 unfold PJ;by_cases c:d.1=1
 ·rw[ALi c]
  grind[Dm,O6,BS]
 rw[ALj c];clear c;by_cases c:d.1=2
 ·rw[ALi c]
  grind[Dm,doAdd,BS]
 rw[ALj c];clear c;by_cases c:d.1=3
 ·rw[ALi c]
  grind[Dm,K3,BS]
 rw[ALj c];clear c;by_cases c:d.1=4
 ·rw[ALi c]
  grind[Dm,QA,BS]
 rw[ALj c];clear c;by_cases c:d.1=5
 ·rw[ALi c]
  grind[Dm,K0,BS]
 rw[ALj c];clear c;by_cases c:d.1=6
 ·rw[ALi c]
  grind[Dm,PI,BS]
 rw[ALj c];clear c;by_cases c:d.1=7
 ·rw[ALi c]
  grind[Dm,PF,BS]
 rw[ALj c];clear c;by_cases c:d.1=8
 ·rw[ALi c]
  grind[Dm,O_,BS]
 rw[ALj c];clear c;by_cases c:d.1=9
 ·rw[ALi c]
  grind[Dm,O8,BS]
 rw[ALj c];clear c;by_cases c:d.1=10
 ·rw[ALi c]
  grind[Dm,Oy,BS]
 rw[ALj c];clear c;by_cases c:d.1=11
 ·rw[ALi c]
  grind[Dm,WV,BS]
 rw[ALj c];clear c;by_cases c:d.1=12
 ·rw[ALi c]
  grind[Dm,Kv,BS]
 rw[ALj c];clear c;by_cases c:d.1=13
 ·rw[ALi c]
  grind[Dm,Rf,BS]
 rw[ALj c];clear c;by_cases c:d.1=14
 ·rw[ALi c];exact ABZ h
 rw[ALj c];clear c;by_cases c:d.1=15
 ·rw[ALi c]
  grind[Dm,Qu,BS]
 rw[ALj c];grind[Dm,Kz,BS]
theorem yb{c:Ca}{g:AK}{sure:Int}{r:Ac}{l:List BL}(h:∀e∈r.2.2.1,Bi e.2.1)(h0:(Dq c g sure r l).2=0):∀e∈(Dq c g sure r l).1.2.2.1,Bi e.2.1:=by
 have app:∀(ev:Au),Bi ev.2.1-> ∀e∈r.2.2.1++[ev],Bi e.2.1:=fun ev hev e he=>by
  grind
 have hf:∀p b,(Wo p b).2.1=p:=fun p b=>by
  cases b with
  |none=>rfl
  |some x=>grind[Wo]
 revert h0
 unfold Dq;dsimp only;split
 ·omega
 rename_i Du;have AVM:QT c g=true/\VW r=true:=by
  simp_all
 have hrg:=(LM.1 AVM.1).tin;have dC:=ay.1 AVM.2;have hre:=dC.ep;have hro:=dC.off;split
 ·omega
 split
 ·grind
 split
 ·grind[Pj]
 split
 ·omega
 split
 ·omega
 intro _;refine app _ ?_
 grind[Bi,Hr]
theorem AIF{w:AA}{a k:Int}(h:bV w):bV (MO w a k).1:=by
 unfold MO;split
 ·omega
 dsimp only;split
 ·omega
 rename_i h2;intro r hr;rcases AQO hr with hr|rfl
 ·exact h r hr
 ·refine yb ?_ (by omega)
  by_cases hl:a.toNat<w.Aq.length
  ·exact h _ (BN hl)
  simp_all
theorem Gj{w w':AA}(h:bV w)(e:w'.Aq=w.Aq):bV w':=by
 unfold bV;rw[show w'.2.2.2.2.2.2.2.2.1=w.2.2.2.2.2.2.2.2.1 from e];exact h
theorem AOA{all:Bool}{w:AA}{d:Am}(h:bV w):bV (PJ all w d).1:=by
 unfold PJ;by_cases c:d.1=1
 ·rw[ALi c]
  grind[Gj,O6,BS]
 rw[ALj c];clear c;by_cases c:d.1=2
 ·rw[ALi c]
  grind[Gj,doAdd,BS]
 rw[ALj c];clear c;by_cases c:d.1=3
 ·rw[ALi c]
  grind[Gj,K3,BS]
 rw[ALj c];clear c;by_cases c:d.1=4
 ·rw[ALi c]
  grind[Gj,QA,BS]
 rw[ALj c];clear c;by_cases c:d.1=5
 ·rw[ALi c]
  grind[Gj,K0,BS]
 rw[ALj c];clear c;by_cases c:d.1=6
 ·rw[ALi c]
  grind[Gj,PI,BS]
 rw[ALj c];clear c;by_cases c:d.1=7
 ·rw[ALi c]
  grind[Gj,PF,BS]
 rw[ALj c];clear c;by_cases c:d.1=8
 ·rw[ALi c]
  grind[Gj,O_,BS]
 rw[ALj c];clear c;by_cases c:d.1=9
 ·rw[ALi c]
  grind[Gj,O8,BS]
 rw[ALj c];clear c;by_cases c:d.1=10
 ·rw[ALi c]
  grind[Gj,Oy,BS]
 rw[ALj c];clear c;by_cases c:d.1=11
 ·rw[ALi c]
  grind[Gj,WV,BS]
 rw[ALj c];clear c;by_cases c:d.1=12
 ·rw[ALi c]
  grind[Gj,Kv,BS]
 rw[ALj c];clear c;by_cases c:d.1=13
 ·rw[ALi c]
  grind[Gj,Rf,BS]
 rw[ALj c];clear c;by_cases c:d.1=14
 ·rw[ALi c];exact AIF h
 rw[ALj c];clear c;by_cases c:d.1=15
 ·rw[ALi c]
  grind[Gj,Qu,BS]
 rw[ALj c];grind[Gj,Kz,BS]
theorem AEF{all:Bool}{w:AA}{d:Am}(h:bV w)(e:(DJ all w d).2=0):bV (DJ all w d).1:=by
 unfold DJ at*;by_cases hc:(!Cx w|| !Gl d)=true
 ·simp_all
 ·rw[ALj hc];exact AOA h
theorem ADB{c:Ca}:bV (gZ c):=fun r hr=>by
 have:r=(1,1,[],()):=by
  have hr':r∈([(1,1,[],()),(1,1,[],())]:List Ac):=hr;simp_all
 simp_all
theorem zF{all:Bool}{w:AA}{d:Am}(h:RdS w)(e:(DJ all w d).2=0):RdS (DJ all w d).1:=by
 unfold DJ at*;by_cases hc:(!Cx w|| !Gl d)=true
 ·simp_all
 ·rw[ALj hc];exact AFu h
theorem ADS{c:Ca}(hc:Gh c=true):RS (gZ c)/\RdS (gZ c):=by
 refine⟨⟨hc,by simp[gZ,H.AA.Bd],dh hc,.inr holds_nil,fun i hi=> ?_,⟨hc,by show 0<=30;omega,.inl rfl,fun e he=>(by cases he),fun i hi=>by exact absurd hi (by show¬i<0;omega)⟩,by show 0<=4;omega,by show 0<=1;omega,fun x hx=>(by cases hx),List.Pairwise.nil,fun x hx=>(by cases hx),rfl,fun r hr=> ?_,by show 0<=120;omega,fun x hx=>(by cases hx),List.Pairwise.nil⟩,fun r hr=> ?_⟩
 ·have:(gZ c).Bd.getD i EZ=EZ:=by
   show(List.replicate c.1.length EZ).getD i EZ=EZ
   grind
  rw[this];exact⟨iK.nil,fun _=>rfl⟩
 ·have:r=(1,1,[],()):=by
   have hr':r∈([(1,1,[],()),(1,1,[],())]:List Ac):=hr;simp_all
  subst this;exact⟨by omega,by simp_all,by simp_all⟩
 ·have:r=(1,1,[],()):=by
   have hr':r∈([(1,1,[],()),(1,1,[],())]:List Ac):=hr;simp_all
  simp_all
theorem sU{c:Ca}(hc:Gh c=true):IL c=some (((((),c.2.1,(),(),(),0,(),(),(),(),false,()),true,()),()),(c.1,List.replicate c.1.length EZ,[],[],[],[],[(1,1,[],()),(1,1,[],())],[],())):=by
 have hl:=(Em hc).2.1;unfold IL;rw[DE c,II (by omega),hc];simp only[AD,AL9,ALm];rw[ALi (by rw[Ak];omega),ALi ⟨by omega,by omega,by rw[Ak];omega⟩];rfl
def l3(x:(AJs×Unit))(y:Unit×Unit×Unit×Unit×Unit×Unit×Unit×Unit×(List Am)×List Int×(List AL)×List Int×(List Cq)×(List AM)×(List BA)×(List Ac)×(List Aj)×Unit):AA:=
 (y.2.2.2.2.2.2.2.2.2.1,x.1.2.2.1.2.1,y.2.2.2.2.2.2.2.2.2.2.1,y.2.2.2.2.2.2.2.2.2.2.2.1,y.2.2.2.2.2.2.2.2.2.2.2.2.1,x.1.2.2.1.2.2.2.2.2.1,y.2.2.2.2.2.2.2.2.2.2.2.2.2.1,y.2.2.2.2.2.2.2.2.2.2.2.2.2.2.1,y.2.2.2.2.2.2.2.2.2.2.2.2.2.2.2.1,y.2.2.2.2.2.2.2.2.2.2.2.2.2.2.2.2.1,x.1.2.2.1.2.2.2.2.2.2.2.2.2.2.1,())
section
variable{code:AAO} (hc:code.length<=2^30)
include hc
theorem AQK{T:Int}(hT:T<=1000){z1 z2:Int}{z3:Bool}:∀(n k:Nat) (i hh:Int) (w:AA) (acc:List Am),Ce code i->(k:Int)<=max T 0->(T-k).toNat<n->acc.length<=k->RS w->RdS w->bV w->
  OK code (fun x y=>RS (l3 x y)/\RdS (l3 x y)/\bV (l3 x y)) (Dw n T k code i hh 0 0 false [] [] [] [] [] [] [] [] 0 0 false [] [] [] [] [] [] [] [] z1 z2 z3 w.2.1 w.2.2.2.2.2.1 w.2.2.2.2.2.2.2.2.2.2.1 w.1 w.2.2.1 w.2.2.2.1 w.2.2.2.2.1 w.2.2.2.2.2.2.1 w.2.2.2.2.2.2.2.1 w.2.2.2.2.2.2.2.2.1 w.2.2.2.2.2.2.2.2.2.1 acc):=by
 intro n
 induction n with
 |zero=>omega
 |succ n ih=>
  intro k i hh w acc hi hk hn hb hw hr hv;simp only[Dw,SD];refine OK.SI (fun JN=> ?_) (fun hge=>OK.some hi ⟨hw,hr,hv⟩);rw[Fa w];refine OK.bind (sX hc hw hi) fun x i1 h1 y K8 hq=> ?_
  dsimp only;refine OK.ite (by rw[Ak];omega) ?_
  refine OK.pure (jd (d:=x.1) (hw.win hr) hq.1) ?_
  rw[As (i:=k) (by omega)];refine OK.GQ (fun h0=> ?_) (fun h0=> ?_)
  ·have h0':(DJ true w x.1).2=0:=h0
   exact ih (k+1) i1 h1 (DJ true w x.1).1 (acc++[x.1]) K8 (by omega) (by omega) (by simp_all) (Gu.1 (AFD h0')) (zF hr h0') (AEF hv h0')
  ·exact ih (k+1) i1 h1 w (acc++[x.1]) K8 (by omega) (by omega) (by simp_all) hw hr hv
theorem AXP{T:Int}(hT:0<=T/\T<=500){dom:AAO}{b21:AAO}(hbl:b21.length<=100)(hd:iO dom 1):∀(n:Nat) (c i hh:Int),Ce code i->1<=c/\c<=3->c.toNat+1000<=n->
  OK code (fun x y=>RS (l3 x y)/\RdS (l3 x y)/\bV (l3 x y)) (E8 n T code i hh 0 0 false [] [] [] [] [] [] [] [] 0 0 false [] [] [] [] [] [] [] [] c dom b21):=by
 intro n
 induction n with
 |zero=>omega
 |succ n ih=>
  intro c i hh hi vK hn;have hg:iO dom c:=⟨hd.1,hd.2.1,vK.1,vK.2,hd.2.2.2.2⟩;have hdl:=hd.2.1;simp only[E8,T8];have fin:OK code (fun x y=>RS (l3 x y)/\RdS (l3 x y)/\bV (l3 x y)) ((IL (dom,c,())).bind fun u6=>
    (AJ (AQ (T+1)) code i hh).bind fun u7=>
    Dw n u7.1.1 0 u7.2.1.1 u7.2.1.2.1 u7.2.1.2.2.1 0 0 false [] [] [] [] [] [] [] [] 0 0 false [] [] [] [] [] [] [] [] u6.1.1.1.2.1 u6.1.1.1.2.2.2.2.2.1 u6.1.1.1.2.2.2.2.2.2.2.2.2.2.1 u6.1.1.1.2.1 u6.1.1.1.2.2.2.2.2.1 u6.1.1.1.2.2.2.2.2.2.2.2.2.2.1 u6.2.1 u6.2.2.1 u6.2.2.2.1 u6.2.2.2.2.1 u6.2.2.2.2.2.1 u6.2.2.2.2.2.2.1 u6.2.2.2.2.2.2.2.1 u6.2.2.2.2.2.2.2.2.1 []):=by
   refine OK.pure (sU hg.ok) ?_
   rw[Ab (by omega)];refine OK.bind (CB hc hi (by omega)) fun x i1 h1 y K8 hq=> ?_
   have hwn:=ADS hg.ok;grind[AQK,gZ,ADB]
  refine OK.SI (fun JN=> ?_) (fun hge=>fin);refine OK.pure (ED (by grind) (by omega)) ?_
  refine OK.cond (fun _=> ?_) (fun _=>fin);grind[ZR]
theorem AUD{T:Int}(hT:0<=T/\T<=500){dom:AAO}{c:Int}(hd:iO dom c):∀(n k:Nat) (i hh:Int) (b:AAO),Ce code i->k<=dom.length->dom.length-k+1010<=n->b.length<=k->
  OK code (fun x y=>RS (l3 x y)/\RdS (l3 x y)/\bV (l3 x y)) (E6 n T k code i hh 0 0 false [] [] [] [] [] [] [] [] 0 0 false [] [] [] [] [] [] [] [] c dom b):=by
 have hdl:=hd.2.1;intro n
 induction n with
 |zero=>omega
 |succ n ih=>
  intro k i hh b hi hk hn hb;simp only[E6,T_];refine OK.SI (fun JN=> ?_) (fun hge=> ?_)
  ·refine OK.ite (by rw[Ak];omega) ?_
   rw[As (i:=k) (by omega)];exact ih (k+1) i hh _ hi (by omega) (by omega) (by simp_all)
  ·exact AXP hc hT (by omega) ⟨hd.1,hd.2.1,by omega,by omega,hd.2.2.2.2⟩ n c i hh hi ⟨hd.2.2.1,hd.2.2.2.1⟩ (by have:=hd.2.2.2.1;omega)
theorem AFZ{T:Int}(hT:0<=T/\T<=500){i hh:Int}(hi:Ce code i):OK code (fun x y=>RS (l3 x y)/\RdS (l3 x y)/\bV (l3 x y)) (LN T code i hh):=by
 unfold LN T0;obtain⟨l,c,i1,h1,e,hg,K8⟩:=kq hc (h:=hh) hi;rw[e];have hgl:=hg.2.1;grind[AUD,AU,Nat.le_of_lt,AZ]
end
abbrev AT0:AH×Unit->Unit->Prop:=fun x _=>Bi x.1.1/\x.1.2.2.2.1.length<=41
section
variable{code:AAO} (hc:code.length<=2^30)
include hc
theorem aZ{i hh:Int}(hi:Ce code i):OK code (fun(x:ACJ) (_:Unit)=>Bi x.1) (Fe code i hh):=by
 obtain⟨v,i1,h1,e,a,b,K8⟩:=wS hc (h:=hh) hi;exact⟨(v,()),i1,h1,(),e,K8,by unfold Bi;omega⟩
theorem tZ{i hh:Int}(hi:Ce code i):OK code AT0 (M5 code i hh):=by
 unfold M5;dsimp only;refine OK.bind (CB hc hi (by omega)) fun x1 i1 h1 y1 K8 hq1=> ?_
 dsimp only at*;refine OK.bind (CB hc K8 (by omega)) fun x2 i2 h2 y2 H6 rH=> ?_
 dsimp only at*;rw[Ab (by omega),Ab (x:=1+x2.1) (by omega)];refine OK.pure (Gc (by omega) (by omega)) ?_
 dsimp only;have hp:=J9 (e:=1+x1.1) (o:=1+x2.1) (by omega) (by omega);have hpi:=Hy hp.1;refine OK.bind (vO hc H6 (by simp) (by simp)) fun x3 i3 h3 y3 LL Xa=> ?_
 dsimp only at*;have hl:x3.1.length<=41:=by
  simp only[AO3,List.not_mem_nil,or_false]at Xa;rcases Xa with h|h|h|h|h<;>rw[h]<;>simp
 refine OK.bind (PV hc LL (by omega)) fun x4 i4 h4 y4 hi4 hq4=> ?_
 dsimp only;refine OK.cond (fun _=> ?_) (fun _=>OK.some hi4 ⟨hpi,hl⟩);refine OK.pure (D5 hpi) ?_
 dsimp only;refine OK.bind (CB hc hi4 (by omega)) fun x5 i5 h5 y5 hi5 hq5=> ?_
 dsimp only;refine OK.bind (PV hc hi5 (by omega)) fun x6 i6 h6 y6 hi6 hq6=> ?_
 dsimp only;exact OK.cond (fun _=>OK.some hi6 ⟨hpi,by show 0<=41;omega⟩) (fun _=>OK.some hi6 ⟨hpi,hl⟩)
theorem nH{i hh:Int}(hi:Ce code i):OK code AT0 (Tm code i hh):=by
 unfold Tm;refine OK.bind (tZ hc hi) fun x i h y hi hq=> ?_
 dsimp only at*;refine OK.bind (CB hc hi (by omega)) fun x2 i2 h2 y2 H6 rH=> ?_
 dsimp only at*;refine OK.GQ (fun _=> ?_) (fun _=> ?_)
 ·refine OK.bind (aZ hc H6) fun x3 i3 h3 y3 LL Xa=> ?_
  exact OK.some LL ⟨Xa,hq.2⟩
 refine OK.GQ (fun _=> ?_) (fun _=> ?_)
 ·refine OK.bind (S9 hc H6 (by simp) (by simp)) fun x3 i3 h3 y3 LL Xa=> ?_
  exact OK.some LL hq
 refine OK.GQ (fun _=>OK.some H6 hq) (fun _=> ?_);refine OK.GQ (fun _=> ?_) (fun _=>OK.some H6 hq);refine OK.bind (CB hc H6 (by omega)) fun x3 i3 h3 y3 LL Xa=> ?_
 dsimp only at*;rw[Ab (by omega)];refine OK.ite (by rw[Ak];omega) ?_
 refine OK.some LL ⟨hq.1,?_⟩;simp only[ATS,ATB];omega
abbrev StQ:AGa->((List AH)×(List AH)×Unit)->Prop:=fun x y=>pr (y.1,y.2.1,x.1.2.2.1,())/\y.1.length<=300/\y.2.1.length<=300/\(∀e∈y.1,Ag e<=41)/\(∀e∈y.2.1,Ag e<=41)
theorem ARg{s:AL}(h:iK s):pr s/\s.1.length<=200/\s.2.1.length<=20/\(∀e∈s.1,Ag e<=41)/\(∀e∈s.2.1,Ag e<=41):=
 ⟨h.sin,h.nk,h.nl,fun e he=>by have:=(Gz.1 (h.kept e he)).len;unfold Ag;omega,fun e he=>by have:=(Gz.1 (h.late e he)).len;unfold Ag;omega⟩
theorem AEH{x2 x3:List AH}{z:Int}{sl:Int}{l6:List AH}{i hh:Int}(hi:Ce code i)(h6:mF l6/\l6.length<=20/\ ∀e∈l6,Ag e<=41):∀n:Nat,
  (∀(k:Nat) (b:List AH),1<=k->k<=5->(5-k)*60+1<=n->b.length<=(k-1)*50->mF b->(∀e∈b,Ag e<=41)->OK code StQ (E9 n k code i hh z x2 x3 sl b l6))/\
  (∀(k j:Nat) (b:List AH),1<=k->k<=4->1<=j->j<=51->(4-k)*60+1+(51-j)+1<=n->b.length<=(k-1)*50+(j-1)->mF b->(∀e∈b,Ag e<=41)->OK code StQ (FA n k j code i hh z x2 x3 sl b l6)):=by
 intro n
 induction n with
 |zero=>exact⟨fun k b _ _ h=>by omega,fun k j b _ _ _ _ h=>by omega⟩
 |succ n ih=>
  refine⟨fun k b h1 h2 hn hb hbi wE=> ?_,fun k j b h1 h2 h3 h4 hn hb hbi wE=> ?_⟩
  ·simp only[E9,Td]
   refine OK.SI (fun JN=>ih.2 k 1 b h1 (by omega) (by omega) (by omega) (by omega) (by omega) hbi wE) (fun hge=> ?_);exact OK.some hi ⟨⟨hbi,h6.1⟩,by show b.length<=300;omega,by show l6.length<=300;omega,wE,h6.2.2⟩
  ·simp only[FA,Ti]
   refine OK.SI (fun JN=> ?_) (fun hge=> ?_)
   ·refine OK.pure (Gc (by omega) (by omega)) ?_
    dsimp only;refine OK.ite (by rw[Ak];omega) ?_
    rw[As (i:=j) (by omega)];have hp:=Hy (J9 (e:=(k:Int)) (o:=(j:Int)) (by omega) (by omega)).1;refine ih.2 k (j+1) _ h1 h2 (by omega) (by omega) (by omega) (by simp;omega) (fun e he=> ?_) (fun e he=> ?_)
    ·rcases AOK.1 he with he|he
     ·exact hbi e he
     ·rw[AQC.1 he];exact hp
    ·rcases AOK.1 he with he|he
     ·exact wE e he
     ·rw[AQC.1 he];show 0<=41;omega
   ·rw[As (i:=k) (by omega)]
    exact ih.1 (k+1) b (by omega) (by omega) (by omega) (by omega) hbi wE
theorem AHa{x2 x3:List AH}{z:Int}{T:Int}(hT:T<=100):∀(n k:Nat) (i hh:Int) (s:AL),Ce code i->(k:Int)<=max T 0->(T-k).toNat+400<=n->iK s->
  OK code StQ (Ej n T k code i hh z x2 x3 s.2.2.1 s.1 s.2.1):=by
 intro n
 induction n with
 |zero=>intro k i hh s _ _ h;omega
 |succ n ih=>
  intro k i hh s hi hk hn hs;have hsw:=hs.w;simp only[Ej,Ve];refine OK.SI (fun JN=> ?_) (fun hge=> ?_)
  ·rw[As (i:=k) (by omega)]
   have next:∀(i hh:Int) (s:AL),Ce code i->iK s->OK code StQ (Ej n T ((k+1:Nat):Int) code i hh z x2 x3 s.2.2.1 s.1 s.2.1):=fun i hh s hi hs=>ih (k+1) i hh s hi (by omega) (by omega) hs
   refine OK.bind (tZ hc hi) fun x i1 h1 y K8 hq=> ?_
   dsimp only at*;rw[PG s,gm x.1];refine OK.pure (Wi (by omega) hs.sin hq.1) ?_
   dsimp only[oG];have AKA:iK (Ht s x.1).1:=by
    rcases ALh (Ht s x.1).2 with h2|h2
    ·exact(kv h2).1
    ·unfold Ht at h2|-
     rw[Da.2 hs]at h2|-;simp only[AL9,AMx,API]at h2|-;split at h2
     ·cases h2
     ·rename_i hn;rw[ALj hn];exact hs
   have Adq:=AKA.w;have APX:∀s:AL,iK s->(CQ s).2=true->iK (CQ s).1:=fun s hs h2=>(Of h2).2.1
   refine OK.bind (CB hc K8 (by omega)) fun x2' i2 h2 y2 H6 rH=> ?_
   dsimp only at*;refine OK.GQ (fun _=> ?_) (fun _=> ?_)
   ·refine OK.pure (PR (by omega) hs.sin) ?_
    dsimp only[oG];exact OK.cond (fun hb=>next _ _ _ H6 (APX s hs hb)) (fun _=>next _ _ _ H6 hs)
   refine OK.GQ (fun _=> ?_) (fun _=> ?_)
   ·refine OK.pure (PR (s:=(Ht s x.1).1) (by omega) AKA.sin) ?_
    dsimp only[oG];exact OK.cond (fun hb=>next _ _ _ H6 (APX _ AKA hb)) (fun _=>next _ _ _ H6 hs)
   refine OK.GQ (fun _=> ?_) (fun _=> ?_)
   ·refine OK.bind (PV hc H6 (by omega)) fun x3 i3 h3 y3 LL Xa=> ?_
    dsimp only;refine OK.cond (fun _=> ?_) (fun _=> ?_)
    ·refine OK.bind (CB hc LL (by omega)) fun x4 i4 h4 y4 hi4 hq4=> ?_
     dsimp only at*;refine OK.pure (dZ (by omega) hs.sin) ?_
     dsimp only[oG];exact OK.cond (fun hb=>next _ _ _ hi4 (w_ hs)) (fun _=>next _ _ _ hi4 hs)
    ·exact OK.cond (fun hb=>next _ _ _ LL AKA) (fun _=>next _ _ _ LL hs)
   ·exact OK.cond (fun hb=>next _ _ _ H6 AKA) (fun _=>next _ _ _ H6 hs)
  ·refine OK.bind (PV hc hi (by omega)) fun x3 i3 h3 y3 LL Xa=> ?_
   dsimp only;have hq:=ARg hc hs;refine OK.cond (fun _=> ?_) (fun _=>OK.some LL ⟨hq.1,by have:=hq.2.1;show s.1.length<=300;omega,by have:=hq.2.2.1;show s.2.1.length<=300;omega,hq.2.2.2.1,hq.2.2.2.2⟩);exact(AEH hc LL ⟨hq.1.2,hq.2.2.1,hq.2.2.2.2⟩ n).1 1 [] (by omega) (by omega) (by omega) (by simp) (fun e he=>by simp at he) (fun e he=>by simp at he)
theorem xH{i hh:Int}(hi:Ce code i):OK code StQ (Eg code i hh):=by
 unfold Eg VA;refine OK.bind (CB hc hi (by omega)) fun x2' i2 h2 y2 H6 rH=> ?_
 dsimp only at*;exact AHa hc (T:=x2'.1) (by omega) AU 0 i2 h2 EZ H6 (by omega) (ATW (AZ (by omega))) iK.nil
abbrev AVq:AGa->((List AH)×(List AH)×Unit)->Prop:=fun x y=>pr (y.1,y.2.1,x.1.2.2.1,())/\Al (y.1,y.2.1,x.1.2.2.1,())<=40000
theorem pS{s:AL}(h1:pr s)(h2:s.1.length<=310)(h3:s.2.1.length<=330)(h4:∀e∈s.1,Ag e<=41)(h5:∀e∈s.2.1,Ag e<=41):pr s/\Al s<=40000:=by
 have a:=GM (f:=Ag) (B:=41) h2 h4;have b:=GM (f:=Ag) (B:=41) h3 h5;refine⟨h1,?_⟩;unfold Al;omega
theorem AHe{x2 x3:List AH}{z sl:Int}{l5:List AH}(h5:mF l5/\l5.length<=300/\ ∀e∈l5,Ag e<=41):∀(n:Nat) (i hh:Int) (b:List AH),Ce code i->330-b.length<n->b.length<=310->mF b->(∀e∈b,Ag e<=41)->
  OK code AVq (OI n code i hh z x2 x3 sl l5 b):=by
 intro n
 induction n with
 |zero=>intro i hh b _ h;omega
 |succ n ih=>
  intro i hh b hi hn hb hbi wE;simp only[OI,ba];refine OK.bind (CB hc hi (by omega)) fun x i2 h2 y2 H6 rH=> ?_
  dsimp only at*;rw[Ab (by omega)];refine OK.SI (fun JN=> ?_) (fun _=>OK.some H6 (pS hc ⟨h5.1,hbi⟩ (by show l5.length<=_;omega) (by show b.length<=_;omega) h5.2.2 wE));refine OK.pure (Gc (by omega) (by omega)) ?_
  dsimp only;refine OK.ite (by rw[Ak];omega) ?_
  have hp:=Hy (J9 (e:=5) (o:=1) (by omega) (by omega)).1;refine ih i2 h2 _ H6 (by simp;omega) (by simp;omega) (fun e he=> ?_) (fun e he=> ?_)
  ·rcases AOK.1 he with he|he
   ·exact hbi e he
   ·rw[AQC.1 he];exact hp
  ·rcases AOK.1 he with he|he
   ·exact wE e he
   ·rw[AQC.1 he];show 0<=41;omega
theorem AHU{i hh:Int}(hi:Ce code i):OK code AVq (YU code i hh):=by
 unfold YU dP;refine OK.bind (xH hc hi) fun x i1 h1 y K8 hq=> ?_
 dsimp only at*;obtain⟨q1,q2,q3,q4,q5⟩:=hq;have base:pr (y.1,y.2.1,x.1.2.2.1,())/\Al (y.1,y.2.1,x.1.2.2.1,())<=40000:=pS hc q1 (by show y.1.length<=_;omega) (by show y.2.1.length<=_;omega) q4 q5;have add:∀{l:List AH} {e:AH},(∀x∈l,Ag x<=41)->Ag e<=41-> ∀x∈l++[e],Ag x<=41:=fun h1 h2 x hx=>by
  rcases AOK.1 hx with hx|hx
  ·exact h1 x hx
  ·rw[AQC.1 hx];exact h2
 have ATx:∀{l:List AH} {e:AH},mF l->Bi e.1->mF (l++[e]):=fun h1 h2 x hx=>by
  rcases AOK.1 hx with hx|hx
  ·exact h1 x hx
  ·rw[AQC.1 hx];exact h2
 refine OK.bind (CB hc K8 (by omega)) fun x2 i2 h2 y2 H6 rH=> ?_
 dsimp only at*;refine OK.GQ (fun _=> ?_) (fun _=> ?_)
 ·refine OK.bind (S9 hc H6 (by simp) (by simp)) fun x3 i3 h3 y3 LL Xa=> ?_
  exact OK.some LL base
 refine OK.GQ (fun _=> ?_) (fun _=> ?_)
 ·refine OK.bind (nH hc H6) fun x3 i3 h3 y3 LL Xa=> ?_
  dsimp only;refine OK.ite (by rw[Ak];omega) ?_
  exact OK.some LL (pS hc ⟨ATx q1.1 Xa.1,q1.2⟩ (by show(y.1++[_]).length<=_;simp;omega) (by show y.2.1.length<=_;omega) (add q4 Xa.2) q5)
 refine OK.GQ (fun _=> ?_) (fun _=> ?_)
 ·refine OK.bind (nH hc H6) fun x3 i3 h3 y3 LL Xa=> ?_
  dsimp only;refine OK.ite (by rw[Ak];omega) ?_
  exact OK.some LL (pS hc ⟨q1.1,ATx q1.2 Xa.1⟩ (by show y.1.length<=_;omega) (by show(y.2.1++[_]).length<=_;simp;omega) q4 (add q5 Xa.2))
 refine OK.GQ (fun _=> ?_) (fun _=>OK.some H6 base);exact AHe hc ⟨q1.1,q2,q4⟩ AU i2 h2 y.2.1 H6 (AZ (by omega)) (by omega) q1.2 q5
end
theorem oM{α:Type}{f:α->Nat}{x:α}:∀{l:List α} {i:Nat},Aa f (l.set i x)<=Aa f l+f x
 |[],i=>by simp[Aa]
 |y::l,0=>by simp only[ATl,Aa];omega
 |y::l,i+1=>by
  have:=oM (f:=f) (x:=x) (l:=l) (i:=i);simp only[List.set_cons_succ,Aa];omega
abbrev AUk:AEA->((List Cq)×Unit)->Prop:=fun x y=>Aa Bm y.1<=300000/\Bi x.1.2.1
def xn(c:Ca)(r:AK):Prop:=ROk c r\/r=([],0,())
theorem xn.w{c:Ca}{r:AK}(h:xn c r):Aa Bm r.1<=270:=by
 rcases h with h|rfl
 ·exact h.w
 ·show 0<=270;omega
theorem xn.n{c:Ca}{r:AK}(h:xn c r):r.1.length<=30:=by
 rcases h with h|rfl
 ·exact h.n
 ·show 0<=30;omega
theorem xn.tin{c:Ca}{r:AK}(h:xn c r):Bi r.2.1:=by
 rcases h with h|rfl
 ·exact h.tin
 ·exact Pj (by show-1000<=(0:Int)/\(0:Int)<=1000;omega)
section
variable{code:AAO} (hc:code.length<=2^30) {c:Ca} (dA:c.1.length<=2^10)
include hc dA
theorem AFA{z:Int}{x3:List Cq}:∀(n k:Nat) (i hh:Int) (r:AK),Ce code i->k<=7->7-k<n->xn c r->
  OK code (fun(x:AEA) (y:List Cq×Unit)=>xn c (y.1,x.1.2.1,())) (Hf n k code i hh c.1 c.2.1 z x3 r.2.1 r.1):=by
 intro n
 induction n with
 |zero=>intro k i hh r _ _ h;omega
 |succ n ih=>
  intro k i hh r hi hk hn hr;have hrw:=hr.w;have hrt:=hr.tin;simp only[Hf,VP];refine OK.bind (CB hc hi (by omega)) fun x i1 h1 y K8 hq=> ?_
  dsimp only at*;refine OK.SI (fun JN=> ?_) (fun _=>OK.some K8 hr);rw[As (i:=k) (by omega)];have next:∀(i hh:Int) (r:AK),Ce code i->xn c r->OK code (fun(x:AEA) (y:List Cq×Unit)=>xn c (y.1,x.1.2.1,())) (Hf n ((k+1:Nat):Int) code i hh c.1 c.2.1 z x3 r.2.1 r.1):=fun i hh r hi hr=>ih (k+1) i hh r hi (by omega) (by omega) hr
  rw[DE c,DE r];refine OK.bind (mo hc (by omega) K8) fun x2 i2 h2 y2 H6 rH=> ?_
  dsimp only at*;refine OK.pure (jE (by omega) (by omega) hrt (by omega)) ?_
  dsimp only;refine OK.bind (CB hc H6 (by omega)) fun x3 i3 h3 y3 LL Xa=> ?_
  dsimp only at*;refine OK.GQ (fun _=> ?_) (fun _=> ?_)
  ·refine OK.bind (CB hc LL (by omega)) fun x4 i4 h4 y4 hi4 hq4=> ?_
   dsimp only at*;refine OK.pure (fc (by omega) (by omega) hrt) ?_
   dsimp only[pkR];exact OK.cond (fun hb=>next _ _ (OH c r _ _).1 hi4 (.inl (sr hb).2.1)) (fun _=>next _ _ r hi4 hr)
  refine OK.GQ (fun _=> ?_) (fun _=> ?_)
  ·refine OK.bind (CB hc LL (by omega)) fun x4 i4 h4 y4 hi4 hq4=> ?_
   dsimp only at*;refine OK.bind (CB hc hi4 (by omega)) fun x5 i5 h5 y5 hi5 hq5=> ?_
   dsimp only at*;rw[Ab (by omega),Ab (x:=1+x5.1) (by omega)];refine OK.pure (Gc (by omega) (by omega)) ?_
   dsimp only;have hp:=Hy (J9 (e:=1+x4.1) (o:=1+x5.1) (by omega) (by omega)).1;refine OK.pure (jH (by omega) (by omega) hrt hp) ?_
   dsimp only[pkR];exact OK.cond (fun hb=>next _ _ (PZ c r _).1 hi5 (.inl (yM hb).2.1)) (fun _=>next _ _ r hi5 hr)
  ·exact OK.cond (fun hb=>next _ _ (JZ c r _).1 LL (.inl (xP hb).2.1)) (fun _=>next _ _ r LL hr)
theorem ADp{i hh:Int}(hi:Ce code i):OK code (fun(x:AEA) (y:List Cq×Unit)=>xn c (y.1,x.1.2.1,())) (Q7 c code i hh):=by
 unfold Q7 Vi;exact AFA hc dA AU 0 i hh ([],0,()) hi (by omega) (AZ (by omega)) (.inr rfl)
omit dA in
theorem AFV{ns:AAO}(hns:ns.length<=2^13){z t:Int}{x2:List Cq}(ht:Bi t):∀(n:Nat) (i hh:Int) (b:List Cq),Ce code i->40-b.length<n->b.length<=31->Aa Bm b<=300+b.length*(2^13+1)->
  OK code AUk (OX n ns code i hh z x2 t b):=by
 intro n
 induction n with
 |zero=>intro i hh b _ h;omega
 |succ n ih=>
  intro i hh b hi hn hb hw;simp only[OX,cV];refine OK.bind (CB hc hi (by omega)) fun x i1 h1 y K8 hq=> ?_
  dsimp only at*;rw[Ab (by omega)];refine OK.SI (fun JN=> ?_) (fun _=>OK.some K8 ⟨by show Aa Bm b<=_;omega,ht⟩);refine OK.ite (by rw[Ak];omega) ?_
  refine ih i1 h1 _ K8 (by simp;omega) (by simp;omega) ?_
  have:Bm (ns,false,0,())=ns.length:=rfl;rw[Ju];simp only[Aa,AOu,AOJ,APN];omega
theorem AEx{i hh:Int}(hi:Ce code i):OK code AUk (YK c code i hh):=by
 unfold YK eG;rw[DE c];refine OK.bind (ADp hc dA hi) fun x i1 h1 y K8 hq=> ?_
 dsimp only at*;have hrw:Aa Bm y.1<=270:=hq.w;have hrn:y.1.length<=30:=hq.n;have hrt:Bi x.1.2.1:=hq.tin;have X3:∀{i:Nat} {e:Cq},Bm e<=2^13->Aa Bm (y.1.set i e)<=300000:=fun he=>by
  have:=oM (f:=Bm) (x:= ‹Cq›) (l:=y.1) (i:= ‹Nat›);omega
 have ADy:∀i,i<y.1.length->Bm (y.1.getD i ([],false,0,()))<=270:=fun i hi=>by
  have:=AY (f:=Bm) (BN (d:=Hu) hi);have h2:Bm (y.1.getD i Hu)<=270:=by omega
  exact h2
 have base:Aa Bm y.1<=300000/\Bi x.1.2.1:=⟨by omega,hrt⟩;refine OK.bind (CB hc K8 (by omega)) fun x2 i2 h2 y2 H6 rH=> ?_
 dsimp only at*;refine OK.GQ (fun _=> ?_) (fun _=> ?_)
 ·refine OK.bind (aZ hc H6) fun x3 i3 h3 y3 LL Xa=> ?_
  exact OK.some LL ⟨by show Aa Bm y.1<=_;omega,Xa⟩
 refine OK.GQ (fun _=> ?_) (fun _=> ?_)
 ·refine OK.SI (fun JN=> ?_) (fun _=>OK.some H6 base)
  rw[Ab (by omega)];refine OK.ite (by omega) ?_
  refine OK.some H6 ⟨X3 ?_,hrt⟩;have:=ADy ((y.1.length:Int)-1).toNat (by omega);have h3:Bm ((y.1.getD ((y.1.length:Int)-1).toNat ([],false,0,())).1,true,(y.1.getD ((y.1.length:Int)-1).toNat ([],false,0,())).2.2.1,())=Bm (y.1.getD ((y.1.length:Int)-1).toNat ([],false,0,())):=rfl;rw[h3];omega
 refine OK.GQ (fun _=> ?_) (fun _=> ?_)
 ·refine OK.SI (fun JN=> ?_) (fun _=>OK.some H6 base)
  refine OK.bind (S9 hc H6 (by simp) (by simp)) fun x3 i3 h3 y3 LL Xa=> ?_
  dsimp only;refine OK.ite (by omega) ?_
  refine OK.some LL ⟨X3 ?_,hrt⟩;have:=ADy 0 (by omega);have h4:Bm ((y.1.getD 0 ([],false,0,())).1,(y.1.getD 0 ([],false,0,())).2.1,x3.1,())=Bm (y.1.getD 0 ([],false,0,())):=rfl;rw[h4];omega
 refine OK.GQ (fun _=> ?_) (fun _=> ?_)
 ·refine OK.SI (fun JN=> ?_) (fun _=>OK.some H6 base)
  refine OK.bind (U7 hc (by omega) H6) fun x3 i3 h3 y3 LL Xa=> ?_
  dsimp only;refine OK.ite (by omega) ?_
  refine OK.some LL ⟨X3 ?_,hrt⟩
  show y3.1.length<=_
  omega
 refine OK.GQ (fun _=> ?_) (fun _=>OK.some H6 base);refine OK.bind (mo hc (by omega) H6) fun x3 i3 h3 y3 LL Xa=> ?_
 dsimp only;exact AFV hc Xa hrt AU i3 h3 y.1 LL (AZ (by omega)) (by omega) (by omega)
end
section
variable{code:AAO} (hc:code.length<=2^30) {c:Ca} (hcf:Gh c=true)
include hc hcf
theorem AKF{l:AAO}(hl:l.length<=100){m:BA}(hm:m.2.2.1.length<=100):∃l',Jl c m=some (((),()),(l',()))/\l'.length<=1000:=by
 have dA:=(Em hcf).2.1;have key:∀(n k:Nat) (b:AAO),k<=c.1.length->c.1.length-k<n->b.length<=100+k-> ∃l',OV n k c.1 c.2.1 b=some (((),()),(l',()))/\l'.length<=1000:=by
  intro n
  induction n with
  |zero=>intro k b _ h;omega
  |succ n ih=>
   intro k b hk hn hb;simp only[OV,bN,AB,Ap];by_cases JN:(k:Int)<(c.1.length:Int)
   ·rw[ALi JN,DE c,ED (by omega) (by omega),L4 (by omega)]
    simp only[AD];rw[As (i:=k) (by omega)];have:=UP (n:=(k:Int)) (l:=b);obtain⟨l',e,h'⟩:=ih (k+1) (Ov (k:Int) b) (by omega) (by omega) (by omega);rw[e];cases holds c b with
    |true=>exact⟨b,rfl,by omega⟩
    |false=>exact⟨l',rfl,h'⟩
   ·rw[ALj JN]
    exact⟨b,rfl,by omega⟩
 unfold Jl ck;rw[ALi (by rw[Ak];omega)];exact key AU 0 m.2.2.1 (by omega) (AZ (by omega)) (by omega)
theorem AB8{m:BA}{o n:Int}(h:(VB c m o n).2=true):qK c (VB c m o n).1:=by
 unfold VB at*;rcases ALh (HI c m)with hm|hm
 rotate_left
 ·rw[hm]at h;cases h
 rw[hm]at h|-;simp only[AL9,AMx,API]at h|-;split at h
 ·rename_i hq
  rw[ALi hq];have uE:=HU.1 hm;rw[AL8,Ao,Ao]at hq;refine⟨uE.cfg,uE.ep,uE.b,uE.sld,uE.asc,uE.seen,fun l hl=> ?_,by simp only[ASf];exact uE.n⟩;rcases AQO hl with hl|rfl
  ·exact uE.wrote l hl
  ·exact Ls (uE.wrote _ (BN (by omega))) (by omega)
 ·cases h
abbrev AIr(x:AGK)(y:List Int×(List AH)×List AAO×Unit):BA:=(x.1.1,x.1.2.1,y.1,y.2.1,x.1.2.2.2.2.1,y.2.2.1,())
theorem s9{z1 z2:Int}{z3:Bool}{x3:AAO}{x4:List AH}{x5:List AAO}:∀(n k:Nat) (i hh:Int) (m:BA),Ce code i->k<=9->9-k<n->qK c m->
  OK code (fun x y=>qK c (AIr x y)) (Cd n k code i hh c.1 c.2.1 z1 z2 z3 x3 x4 x5 m.1 m.2.1 m.2.2.2.2.1 m.2.2.1 m.2.2.2.1 m.2.2.2.2.2.1):=by
 have dA:=(Em hcf).2.1;intro n
 induction n with
 |zero=>intro k i hh m _ _ h;omega
 |succ n ih=>
  intro k i hh m hi hk hn hm;have hmw:=hm.w;have AbB:=(H9 (m:=m) (by omega)).2.2.1;simp only[Cd,Mn,P1];refine OK.bind (CB hc hi (by omega)) fun x i1 h1 y K8 hq=> ?_
  dsimp only at*;refine OK.SI (fun JN=> ?_) (fun _=>OK.some K8 hm);rw[As (i:=k) (by omega)];refine OK.pure J0 ?_
  dsimp only;refine OK.bind (CB hc K8 (by omega)) fun x2 i2 h2 y2 H6 rH=> ?_
  dsimp only at*;refine OK.bind (CB hc H6 (by omega)) fun x3 i3 h3 y3 LL Xa=> ?_
  dsimp only at*;rw[DE c,V1 m];refine OK.pure (jD (by omega) (by omega) hm.ein) ?_
  dsimp only[mQ];exact OK.cond (fun hb=>ih (k+1) _ _ _ LL (by omega) (by omega) (AB8 hc hcf hb)) (fun _=>ih (k+1) _ _ m LL (by omega) (by omega) hm)
theorem AEJ{T:Int}(hT:T<=100){z1 z2:Int}{z3:Bool}{x3:AAO}{x4:List AH}{x5:List AAO}:∀(n k:Nat) (i hh:Int) (m:BA),Ce code i->(k:Int)<=max T 0->(T-k).toNat+20<=n->qK c m->
  OK code (fun x y=>qK c (AIr x y)) (Cs n T k code i hh c.1 c.2.1 z1 z2 z3 x3 x4 x5 m.1 m.2.1 m.2.2.2.2.1 m.2.2.1 m.2.2.2.1 m.2.2.2.2.2.1):=by
 have dA:=(Em hcf).2.1;intro n
 induction n with
 |zero=>intro k i hh m _ _ h;omega
 |succ n ih=>
  intro k i hh m hi hk hn hm;have hmw:=hm.w;have AbB:=H9 (m:=m) (by omega);have hsl:=Il hm.sld;simp only[Cs,OC,Rs];rw[DE c,V1 m];refine OK.SI (fun JN=> ?_) (fun _=> ?_)
  ·rw[As (i:=k) (by omega)]
   refine OK.bind (CB hc hi (by omega)) fun x i1 h1 y K8 hq=> ?_
   dsimp only at*;refine OK.bind (xH hc K8) fun x2 i2 h2 y2 H6 rH=> ?_
   dsimp only at*;obtain⟨q1,q2,q3,q4,q5⟩:=rH;have sq:=pS hc (s:=(y2.1,y2.2.1,x2.1.2.2.1,())) q1 (by show y2.1.length<=_;omega) (by show y2.2.1.length<=_;omega) q4 q5;refine OK.pure (gS (s:=(y2.1,y2.2.1,x2.1.2.2.1,())) (by omega) q1) ?_
   dsimp only;have hes:(HL (y2.1,y2.2.1,x2.1.2.2.1,()) m.2.1).length<=300/\mF (HL (y2.1,y2.2.1,x2.1.2.2.1,()) m.2.1)/\Aa Ag (HL (y2.1,y2.2.1,x2.1.2.2.1,()) m.2.1)<=40000:=by
    unfold HL;split
    ·refine⟨APf (APg _ _) q2,fun e he=>q1.1 e (ATe.1 he).1,APf ln ?_⟩
     have h2:=sq.2;unfold Al at h2;dsimp only at h2|-;omega
    ·exact⟨by simp,fun e he=>(by simp at he),by simp[Aa]⟩
   refine OK.pure (fi (by omega) (by omega) hm.ein (by omega) hes.2.1 (by omega)) ?_
   dsimp only[mQ];exact OK.cond (fun hb=>ih (k+1) _ _ _ H6 (by omega) (by omega) (sd hb).2.1) (fun _=>ih (k+1) _ _ m H6 (by omega) (by omega) hm)
  ·refine OK.bind (PV hc hi (by omega)) fun x i1 h1 y K8 hq=> ?_
   dsimp only;refine OK.cond (fun _=>OK.some K8 hm) (fun _=> ?_);obtain⟨l',e,qc⟩:=AKF hc hcf (l:=[]) (by simp) (m:=m) (by omega);refine OK.pure e ?_
   dsimp only;refine OK.pure (gE (by omega) (by omega) hm.ein (by omega)) ?_
   dsimp only[mQ];exact OK.cond (fun hb=>s9 hc hcf n 0 i1 h1 _ K8 (by omega) (by omega) (tf hb).2.1) (fun _=>s9 hc hcf n 0 i1 h1 m K8 (by omega) (by omega) hm)
theorem AB6{i hh:Int}(hi:Ce code i):OK code (fun x y=>qK c (AIr x y)) (Mf c code i hh):=by
 unfold Mf Nh Rq;refine OK.bind (CB hc hi (by omega)) fun x i1 h1 y K8 hq=> ?_
 dsimp only at*;rw[Ab (by omega)];unfold Jd;simp only[AD];refine OK.bind (CB hc K8 (by omega)) fun x2 i2 h2 y2 H6 rH=> ?_
 dsimp only at*;exact AEJ hc hcf (T:=x2.1) (by omega) AU 0 i2 h2 (4,1+x.1,[],[],false,[],()) H6 (by omega) (ATW (AZ (by omega))) ⟨hcf,by show 1<=1+x.1/\1+x.1<=30;omega,by show 1+x.1+1<=4/\(4:Int)<=30;omega,dh hcf,List.Pairwise.nil,fun e he=>(by cases he),fun l hl=>(by cases hl),rfl⟩
abbrev AVz:AIf×Unit->List Int×(List AH)×List AAO×Unit->Prop:=fun x y=>CK (AIr x y)<=20000/\mF y.2.1
theorem AE0{i hh:Int}(hi:Ce code i):OK code AVz (Ye c code i hh):=by
 have dA:=(Em hcf).2.1;unfold Ye;rw[DE c];refine OK.bind (AB6 hc hcf hi) fun x i1 h1 y K8 hq=> ?_
 dsimp only at*;have hw:=hq.w;have he:mF y.2.1:=hq.ein;have hu:CK (AIr x y)=y.1.length+Aa Ag y.2.1+Aa Cw y.2.2.1:=rfl;have hl1:=AR (f:=Cw) (l:=y.2.2.1);have lx:=AR (f:=Ag) (l:=y.2.1);have mk:∀{x':AGK} {a:AAO} {b:List AH} {d:List AAO},a.length+Aa Ag b+Aa Cw d<=20000->mF b->AVz x' (a,b,d,()):=fun h1 h2=>⟨h1,h2⟩
 refine OK.bind (CB hc K8 (by omega)) fun x2 i2 h2 y2 H6 rH=> ?_
 dsimp only at*;refine OK.GQ (fun _=> ?_) (fun _=> ?_)
 ·refine OK.bind (S9 hc H6 (by simp) (by simp)) fun x3 i3 h3 y3 LL Xa=> ?_
  exact OK.some LL (mk (by omega) he)
 refine OK.GQ (fun _=>OK.some H6 (mk (by omega) he)) (fun _=> ?_);refine OK.GQ (fun _=> ?_) (fun _=> ?_)
 ·refine OK.bind (U7 hc (by omega) H6) fun x3 i3 h3 y3 LL Xa=> ?_
  dsimp only;refine OK.ite (by rw[Ak];omega) ?_
  refine OK.some LL (mk ?_ he);rw[Ju];have:Cw y3.1=y3.1.length:=rfl;simp only[Aa];omega
 refine OK.GQ (fun _=> ?_) (fun _=> ?_)
 ·refine OK.bind (nH hc H6) fun x3 i3 h3 y3 LL Xa=> ?_
  dsimp only;refine OK.ite (by rw[Ak];omega) ?_
  refine OK.some LL (mk ?_ (fun e he' => ?_))
  ·rw[Ju]
   have:Ag (x3.1.1,x3.1.2.1,x3.1.2.2.1,x3.1.2.2.2.1,())=x3.1.2.2.2.1.length:=rfl;simp only[Aa];have:=Xa.2;omega
  ·rcases AOK.1 he' with he'|he'
   ·exact he e he'
   ·rw[AQC.1 he'];exact Xa.1
 refine OK.GQ (fun _=> ?_) (fun _=>OK.some H6 (mk (by omega) he));refine OK.bind (U7 hc (by omega) H6) fun x3 i3 h3 y3 LL Xa=> ?_
 dsimp only at*;exact OK.some LL (mk (by omega) he)
end
abbrev AVO:AG7->((List Au)×Unit)->Prop:=fun x y=>y.1.length<=130/\ ∀e∈y.1,Bp e<=40/\Bi e.2.1
section
variable{code:AAO} (hc:code.length<=2^30)
include hc
theorem AIO{z1 z2 e o:Int}{x3:List Au}:∀(n k:Nat) (i hh:Int) (b:List Au),Ce code i->k<=4->4-k<n->b.length<=k->(∀e∈b,Bp e<=40/\Bi e.2.1)->
  OK code AVO (Hz n k code i hh z1 z2 x3 e o b):=by
 intro n
 induction n with
 |zero=>intro k i hh b _ _ h;omega
 |succ n ih=>
  intro k i hh b hi hk hn hb wE;simp only[Hz,SK];refine OK.bind (CB hc hi (by omega)) fun x i1 h1 y K8 hq=> ?_
  dsimp only at*;have base:b.length<=130/\ ∀e∈b,Bp e<=40/\Bi e.2.1:=⟨by omega,wE⟩;refine OK.SI (fun JN=> ?_) (fun _=> ?_)
  ·refine OK.bind (CB hc K8 (by omega)) fun x2 i2 h2 y2 H6 rH=> ?_
   dsimp only at*;refine OK.bind (aZ hc H6) fun x3 i3 h3 y3 LL Xa=> ?_
   dsimp only;refine OK.ite (by rw[Ak];omega) ?_
   rw[As (i:=k) (by omega)];refine ih (k+1) _ _ _ LL (by omega) (by omega) (by simp;omega) (fun e he=> ?_);rcases AOK.1 he with he|he
   ·exact wE e he
   ·rw[AQC.1 he];exact⟨by show 0<=40;omega,Xa⟩
  ·refine OK.bind (CB hc K8 (by omega)) fun x2 i2 h2 y2 H6 rH=> ?_
   dsimp only at*;refine OK.GQ (fun _=> ?_) (fun _=> ?_)
   ·refine OK.bind (S9 hc H6 (by simp) (by simp)) fun x3 i3 h3 y3 LL Xa=> ?_
    exact OK.some LL base
   refine OK.GQ (fun _=> ?_) (fun _=> ?_)
   ·refine OK.bind (S9 hc H6 (by simp) (by simp)) fun x3 i3 h3 y3 LL Xa=> ?_
    exact OK.some LL base
   refine OK.GQ (fun _=> ?_) (fun _=>OK.some H6 base);refine OK.bind (CB hc H6 (by omega)) fun x3 i3 h3 y3 LL Xa=> ?_
   dsimp only at*;rw[Ab (by omega)];refine OK.ite (by rw[Ak];omega) ?_
   refine OK.some LL ⟨by show(List.replicate _ _).length<=130;rw[ATB];omega,fun e he=> ?_⟩;rw[(List.mem_replicate.1 he).2];exact⟨by show 0<=40;omega,Pj (by show-1000<=(0:Int)/\(0:Int)<=1000;omega)⟩
theorem AEr{i hh:Int}(hi:Ce code i):OK code AVO (KR code i hh):=by
 unfold KR Ry;refine OK.bind (CB hc hi (by omega)) fun x i1 h1 y K8 hq=> ?_
 dsimp only at*;refine OK.bind (CB hc K8 (by omega)) fun x2 i2 h2 y2 H6 rH=> ?_
 exact AIO hc AU 0 _ _ [] H6 (by omega) (AZ (by omega)) (by simp) (fun e he=>by simp at he)
theorem AIT{c:Ca}(dA:c.1.length<=2^10){i hh:Int}(hi:Ce code i):OK code (fun(x:AGv) (y:(List BF)×Unit)=>Aa Aw y.1<=4000) (Qo c code i hh):=by
 obtain⟨w',i1,h1,e,hw,K8⟩:=AIX hc (c:=c) (by omega) (h:=hh) hi;exact⟨_,i1,h1,_,e,K8,hw⟩
theorem AFU{i hh:Int}(hi:Ce code i):OK code (fun(x:AEA) (y:AAO×Unit)=>y.1.length<=9) (Tu code i hh):=by
 obtain⟨l,c',i1,h1,e,hl,K8⟩:=AIM hc (h:=hh) hi;exact⟨_,i1,h1,(l,()),e,K8,hl⟩
abbrev dwW(x:AHp)(y:List Int×(List AL)×List Int×(List Cq)×(List AM)×(List BA)×(List Ac)×(List Aj)×Unit):AA:=
 (y.1,x.1.2.1,y.2.1,y.2.2.1,y.2.2.2.1,x.1.2.2.2.2.2.1,y.2.2.2.2.1,y.2.2.2.2.2.1,y.2.2.2.2.2.2.1,y.2.2.2.2.2.2.2.1,x.1.2.2.2.2.2.2.2.2.2.2.1,())
def AQc(w:AA):Prop:=(mq w/\bV w)/\Ck w<=730000/\Aa BG w.2.2.2.2.2.2.2.2.1<=50000
omit hc in
theorem mkW{c:AAO}{m tr:Int}{st:List AL}{lo:AAO}{er:List Cq}{wr:List AM}{md:List BA}{rd:List Ac}{se:List Aj}{to:Bool}
  (h1:c.length<=100) (h2:Aa Al st<=200000) (h3:lo.length<=5000) (h4:Aa Bm er<=300000) (h5:Aa An wr<=50000) (h6:Aa CK md<=100000) (h7:Aa BG rd<=50000) (h8:Aa Dt se<=20000)
  (k1:∀s∈st,pr s) (k2:Bi tr) (k3:∀m∈md,mF m.2.2.2.1) (k4:∀s∈se,Bi s.1) (k5:∀r∈rd,∀e∈r.2.2.1,Bi e.2.1):AQc (c,m,st,lo,er,tr,wr,md,rd,se,to,()):=
 ⟨⟨⟨by unfold Ck;dsimp only;omega,k1,k2,k3,k4⟩,k5⟩,by unfold Ck;dsimp only;omega,h7⟩
theorem ABI{i hh:Int}(hi:Ce code i){p:AAO}(hp:p.length<=2^30):OK code (fun x y=>AQc (dwW x y)) (I9 p code i hh):=by
 unfold I9 Ra;dsimp only;have AKE:∃T,X7 p 40 90=some ((T,()),())/\0<=T/\T<=500:=by
  unfold X7;dsimp only;have hd:(p.length:Int).tdiv 4=(p.length:Int)/4:=Int.tdiv_eq_ediv_of_nonneg (by omega);rw[hd,Ab (x:=(p.length:Int)/4) (by omega),Ab (by omega),AB];split
  ·exact⟨90,rfl,by omega⟩
  ·exact⟨_,rfl,by omega⟩
 obtain⟨T,hT,hT2⟩:=AKE;refine OK.pure hT ?_
 dsimp only;refine OK.bind (AFZ hc hT2 hi) fun x i1 h1 y K8 hq=> ?_
 dsimp only;obtain⟨hw,hr,hv⟩:=hq
 generalize xl:l3 x y=w at hw hr hv
 have k:=hw.nums;have e0:y.2.2.2.2.2.2.2.2.2.1=w.1:=by rw[<-xl];rfl
 have e1:y.2.2.2.2.2.2.2.2.2.2.1=w.2.2.1:=by rw[<-xl];rfl
 have e2:y.2.2.2.2.2.2.2.2.2.2.2.1=w.2.2.2.1:=by rw[<-xl];rfl
 have e3:y.2.2.2.2.2.2.2.2.2.2.2.2.1=w.2.2.2.2.1:=by rw[<-xl];rfl
 have e4:y.2.2.2.2.2.2.2.2.2.2.2.2.2.1=w.2.2.2.2.2.2.1:=by rw[<-xl];rfl
 have e5:y.2.2.2.2.2.2.2.2.2.2.2.2.2.2.1=w.2.2.2.2.2.2.2.1:=by rw[<-xl];rfl
 have e6:y.2.2.2.2.2.2.2.2.2.2.2.2.2.2.2.1=w.2.2.2.2.2.2.2.2.1:=by rw[<-xl];rfl
 have e7:y.2.2.2.2.2.2.2.2.2.2.2.2.2.2.2.2.1=w.2.2.2.2.2.2.2.2.2.1:=by rw[<-xl];rfl
 have e8:x.1.2.2.1.2.1=w.2.1:=by rw[<-xl];rfl
 have e9:x.1.2.2.1.2.2.2.2.2.1=w.2.2.2.2.2.1:=by rw[<-xl];rfl
 have e10:x.1.2.2.1.2.2.2.2.2.2.2.2.2.2.1=w.2.2.2.2.2.2.2.2.2.2.1:=by rw[<-xl];rfl
 rw[e0,e1,e2,e3,e4,e5,e6,e7,e8,e9,e10];have UB:=hw.win hr;have k1:=k.c;have k2:=k.ws;have k3:=k.lost;have k4:=k.era;have k5:=k.ww;have k9:=k.st;have k10:=k.rd;have k6:Aa CK w.2.2.2.2.2.2.2.1<=5001:=by
  have:=GM (f:=CK) (B:=5000) hw.nmd fun x hx=>(hw.Cg x hx).1.w
  exact this
 have k7:Aa BG w.2.2.2.2.2.2.2.2.1<=10002:=by
  have:=GM (f:=BG) (B:=5000) (N:=2) (l:=w.Aq) (by rw[hw.tF];omega) fun r hx=>by
   have:=GM (f:=Bp) (B:=40) (hw.Aq r hx).n (hr r hx);unfold BG;omega
  exact this
 have k8:Aa Dt w.2.2.2.2.2.2.2.2.2.1<=4920:=by
  have:=GM (f:=Dt) (B:=40) hw.Vp fun s hs=>(hw.Ar s hs).2.2
  exact this
 have j1:=UB.Bd;have j2:=UB.trim;have j3:=UB.Cg;have j4:=UB.AI_;have hc1:=(Em hw.cfg).1;have AeL:1<=w.1.length:=hc1;refine OK.bind (CB hc K8 (by omega)) fun x2 i2 h2 y2 H6 rH=> ?_
 dsimp only at*;have base:∀{to:Bool},AQc (w.1,w.2.1,w.2.2.1,w.2.2.2.1,w.2.2.2.2.1,w.2.2.2.2.2.1,w.2.2.2.2.2.2.1,w.2.2.2.2.2.2.2.1,w.2.2.2.2.2.2.2.2.1,w.2.2.2.2.2.2.2.2.2.1,to,()):=mkW (by omega) (by omega) (by omega) (by omega) (by omega) (by omega) (by omega) (by omega) j1 j2 j3 j4 hv;refine OK.GQ (fun _=> ?_) (fun _=> ?_)
 ·refine OK.bind (U7 hc (c:=(w.1,w.2.1,())) (by show w.1.length<=_;omega) H6) fun x3 i3 h3 y3 LL Xa=> ?_
  dsimp only at*;refine OK.some LL ?_
  dsimp only[dwW];exact mkW (by omega) (by omega) (by omega) (by omega) (by omega) (by omega) (by omega) (by omega) j1 j2 j3 j4 hv
 refine OK.GQ (fun _=> ?_) (fun _=> ?_)
 ·refine OK.bind (AHU hc H6) fun x3 i3 h3 y3 LL Xa=> ?_
  dsimp only at*;refine OK.ite (by omega) ?_
  have:=oM (f:=Al) (x:=(y3.1,y3.2.1,x3.1.2.2.1,())) (l:=w.2.2.1) (i:=0);refine OK.some LL ?_
  dsimp only[dwW];refine mkW (by omega) (by omega) (by omega) (by omega) (by omega) (by omega) (by omega) (by omega) (fun s hs=> ?_) j2 j3 j4 hv;rcases AQO hs with hs|rfl
  ·exact j1 s hs
  ·exact Xa.1
 refine OK.GQ (fun _=> ?_) (fun _=> ?_)
 ·refine OK.bind (AEx hc (c:=(w.1,w.2.1,())) (by show w.1.length<=_;omega) H6) fun x3 i3 h3 y3 LL Xa=> ?_
  dsimp only at*;refine OK.some LL ?_
  dsimp only[dwW];exact mkW (by omega) (by omega) (by omega) Xa.1 (by omega) (by omega) (by omega) (by omega) j1 Xa.2 j3 j4 hv
 refine OK.GQ (fun _=> ?_) (fun _=> ?_)
 ·refine OK.bind (AIT hc (c:=(w.1,w.2.1,())) (by show w.1.length<=_;omega) H6) fun x3 i3 h3 y3 LL Xa=> ?_
  dsimp only at*;have hk:=k.wr;refine OK.ite (by rw[Ak];omega) ?_
  refine OK.some LL ?_
  dsimp only[dwW];refine mkW (by omega) (by omega) (by omega) (by omega) ?_ (by omega) (by omega) (by omega) j1 j2 j3 j4 hv
  rw[Ju];have:An (x3.1.1,y3.1,())=Aa Aw y3.1:=rfl;simp only[Aa];omega
 refine OK.GQ (fun _=> ?_) (fun _=> ?_)
 ·refine OK.bind (AE0 hc (c:=(w.1,w.2.1,())) hw.cfg H6) fun x3 i3 h3 y3 LL Xa=> ?_
  dsimp only at*;have hk:=k.md;refine OK.ite (by rw[Ak];omega) ?_
  refine OK.some LL ?_
  dsimp only[dwW];refine mkW (by omega) (by omega) (by omega) (by omega) (by omega) ?_ (by omega) (by omega) j1 j2 (fun m hm=> ?_) j4 hv
  ·rw[Ju]
   have h8:CK (x3.1.1,x3.1.2.1,y3.1,y3.2.1,x3.1.2.2.2.2.1,y3.2.2.1,())<=20000:=Xa.1;simp only[Aa];omega
  ·rcases AOK.1 hm with hm|hm
   ·exact j3 m hm
   ·rw[AQC.1 hm];exact Xa.2
 refine OK.GQ (fun _=> ?_) (fun _=> ?_)
 ·refine OK.bind (AEr hc H6) fun x3 i3 h3 y3 LL Xa=> ?_
  dsimp only at*;refine OK.ite (by omega) ?_
  have:=oM (f:=BG) (x:=(x3.1.1,x3.1.2.1,y3.1,())) (l:=w.2.2.2.2.2.2.2.2.1) (i:=0);have h9:=GM (f:=Bp) (B:=40) Xa.1 (fun e he=>(Xa.2 e he).1);have:BG (x3.1.1,x3.1.2.1,y3.1,())=Aa Bp y3.1:=rfl;refine OK.some LL ?_
  dsimp only[dwW];refine mkW (by omega) (by omega) (by omega) (by omega) (by omega) (by omega) (by omega) (by omega) j1 j2 j3 j4 (fun r hr' => ?_);rcases AQO hr' with hr'|rfl
  ·exact hv r hr'
  ·exact fun e he=>(Xa.2 e he).2
 refine OK.GQ (fun _=> ?_) (fun _=> ?_)
 ·refine OK.bind (aZ hc H6) fun x3 i3 h3 y3 LL Xa=> ?_
  dsimp only at*;have hk:=k.se;refine OK.ite (by rw[Ak];omega) ?_
  refine OK.some LL ?_
  dsimp only[dwW];refine mkW (by omega) (by omega) (by omega) (by omega) (by omega) (by omega) (by omega) ?_ j1 j2 j3 (fun s hs=> ?_) hv
  ·rw[Ju]
   have:Dt (x3.1,[],false,())=0:=rfl;simp only[Aa];omega
  ·rcases AOK.1 hs with hs|hs
   ·exact j4 s hs
   ·rw[AQC.1 hs];exact Xa
 refine OK.GQ (fun _=>OK.some H6 base) (fun _=> ?_);refine OK.GQ (fun _=> ?_) (fun _=>OK.some H6 base);refine OK.bind (AFU hc H6) fun x3 i3 h3 y3 LL Xa=> ?_
 dsimp only at*;refine OK.some LL ?_
 dsimp only[dwW];exact mkW (by omega) (by omega) (by omega) (by omega) (by omega) (by omega) (by omega) (by omega) j1 j2 j3 j4 hv
end
theorem kg{w:AA}(h:mq w)(hev:bV w):L5 w=some ((KL w&&(Md w&&(Mg w&&(Kd w&&NC w))),()),()):=by
 unfold L5;rw[Fa w,n0 h,pj h,qA h,mu h,pg h hev];grind
theorem EB{l:AAO}(h:l.length<=2^30):DV l=some (((),()),(l,())):=by
 unfold DV;rw[ALi (by rw[Ak];omega)]
theorem Z7{l:List AH}(h:l.length<=2^30):KC l=some (((),()),(l,())):=by
 unfold KC;rw[ALi (by rw[Ak];omega)]
theorem cm{r:Ac}(h:r.2.2.1.length<=2^30):OW r=some (((r.1,r.2.1,(),()),()),(r.2.2.1,())):=by
 unfold OW;rw[ALi (by rw[Ak];omega)]
theorem mm{c:Ca}(h:c.1.length<=2^30):SY c=some ((((),c.2.1,()),()),(c.1,())):=by
 grind[SY,EB]
theorem JE{s:AL}(h1:s.1.length<=2^30)(h2:s.2.1.length<=2^30):DN s=some ((((),(),s.2.2.1,()),()),(s.1,s.2.1,())):=by
 grind[DN,Z7]
theorem IX{r:AK}(h:Aa Bm r.1<=2^30):Ep r=some ((((),r.2.1,()),()),(r.1,())):=by
 have hl:=AR (f:=Bm) (l:=r.1);have key:∀(n i:Nat) (acc:List Cq),i<=r.1.length->r.1.length-i<n->acc.length<=i->Ii n r.1 r.1.length i 0 [] r.2.1 acc=some ((((),r.2.1,()),()),(acc++r.1.drop i,())):=by
  intro n
  induction n with
  |zero=>omega
  |succ n ih=>
   intro i acc hi hn ha;simp only[Ii,T6,AB];by_cases hc:i<r.1.length
   ·have hm:=AY (f:=Bm) (AM9 hc)
    have hw:Bm r.1[i]=r.1[i].1.length:=rfl;rw[ALi (by omega),ALi (by omega),Af hc,EB (by omega),As (i:=i) (by omega)];simp only[AD];rw[ALi (by rw[Ak];omega),ih (i+1) _ (by omega) (by omega) (by simp_all),drop_cons hc,ANZ];rfl
   grind
 grind[Ep,Te,AU,AZ]
theorem Kh{x:AM}(h:An x<=2^30):GX x=some (((x.1,(),()),()),(x.2.1,())):=by
 have h':Aa Aw x.2.1<=2^30:=h;have hl:=AR (f:=Aw) (l:=x.2.1);have key:∀(n i:Nat) (acc:List BF),i<=x.2.1.length->x.2.1.length-i<n->acc.length<=i->Kp n x.2.1 x.2.1.length i 0 [] x.1 acc=some (((x.1,(),()),()),(acc++x.2.1.drop i,())):=by
  intro n
  induction n with
  |zero=>omega
  |succ n ih=>
   intro i acc hi hn ha;simp only[Kp,WQ,AB];by_cases hc:i<x.2.1.length
   ·have hm:=AY (f:=Aw) (AM9 hc)
    have hw:Aw x.2.1[i]=x.2.1[i].1.length+x.2.1[i].2.1.length:=rfl;rw[ALi (by omega),ALi (by omega),Af hc,EB (by omega),As (i:=i) (by omega)];simp only[AD];rw[ALi (by rw[Ak];omega),ih (i+1) _ (by omega) (by omega) (by simp_all),drop_cons hc,ANZ];rfl
   grind
 grind[GX,V9,AU,AZ]
theorem H8{m:BA}(h:CK m<=2^30):G_ m=some (((m.1,m.2.1,(),(),m.2.2.2.2.1,(),()),()),(m.2.2.1,m.2.2.2.1,m.2.2.2.2.2.1,())):=by
 have h':m.2.2.1.length+Aa Ag m.2.2.2.1+Aa Cw m.2.2.2.2.2.1<=2^30:=h;have hl:=AR (f:=Cw) (l:=m.2.2.2.2.2.1);have lx:=AR (f:=Ag) (l:=m.2.2.2.1);have key:∀(n i:Nat) (acc:List AAO),i<=m.2.2.2.2.2.1.length->m.2.2.2.2.2.1.length-i<n->acc.length<=i->Mc n m.2.2.2.2.2.1 m.2.2.2.2.2.1.length i 0 0 false [] [] [] m.1 m.2.1 m.2.2.2.2.1 m.2.2.1 m.2.2.2.1 acc=some (((m.1,m.2.1,(),(),m.2.2.2.2.1,(),()),()),(m.2.2.1,m.2.2.2.1,acc++m.2.2.2.2.2.1.drop i,())):=by
  intro n
  induction n with
  |zero=>omega
  |succ n ih=>
   intro i acc hi hn ha;simp only[Mc,Zt,AB];by_cases hc:i<m.2.2.2.2.2.1.length
   ·have hm:=AY (f:=Cw) (AM9 hc)
    have hw:Cw m.2.2.2.2.2.1[i]=m.2.2.2.2.2.1[i].length:=rfl;rw[ALi (by omega),ALi (by omega),Af hc,EB (by omega),As (i:=i) (by omega)];simp only[AD];rw[ALi (by rw[Ak];omega),ih (i+1) _ (by omega) (by omega) (by simp_all),drop_cons hc,ANZ];rfl
   grind
 grind[G_,Z4,EB,Z7,AD,AU,AZ]
section
variable{w:AA} (h:mq w)
include h
theorem AKJ:∀(n i:Nat) (Hi:List AL) (Iy:List AM) (KK:List BA) (L8:List Ac),i<=w.2.2.2.2.2.2.2.2.1.length->w.2.2.2.2.2.2.2.2.1.length-i+1<=n->L8.length<=i->
  FQ n w.2.2.2.2.2.2.2.2.1 w.2.2.2.2.2.2.2.2.1.length i w.1 w.2.1 w.2.2.1 w.2.2.2.1 w.2.2.2.2.1 w.2.2.2.2.2.1 w.2.2.2.2.2.2.1 w.2.2.2.2.2.2.2.1 w.2.2.2.2.2.2.2.2.1 w.2.2.2.2.2.2.2.2.2.1 w.2.2.2.2.2.2.2.2.2.2.1 0 0 false [] [] [] [] [] [] [] [] w.2.1 w.2.2.2.2.2.1 w.2.2.2.2.2.2.2.2.2.2.1 w.1 Hi w.2.2.2.1 w.2.2.2.2.1 Iy KK L8 []=some ((((),w.2.1,(),(),(),w.2.2.2.2.2.1,(),(),(),(),w.2.2.2.2.2.2.2.2.2.2.1,()),()),(w.1,Hi,w.2.2.2.1,w.2.2.2.2.1,Iy,KK,(L8++w.2.2.2.2.2.2.2.2.1.drop i),w.2.2.2.2.2.2.2.2.2.1,())):=by
 have lx:=h.MX;have hl:=h.lens;intro n
 induction n with
 |zero=>omega
 |succ n ih=>
  intro i Hi Iy KK L8 hi hn hb;simp only[FQ,WD,AB];by_cases Ds:i<w.2.2.2.2.2.2.2.2.1.length
  ·have hm:=AY (f:=BG) (AM9 Ds)
   have hw:BG w.2.2.2.2.2.2.2.2.1[i]=Aa Bp w.2.2.2.2.2.2.2.2.1[i].2.2.1:=rfl;have hlw:=AR (f:=Bp) (l:=w.2.2.2.2.2.2.2.2.1[i].2.2.1);rw[ALi (by omega),ALi (by omega),Af Ds,As (i:=i) (by omega),drop_cons Ds];rw[PG (w.2.2.2.2.2.2.2.2.1[i]),cm (by omega)];simp only[AD];rw[ALi (by rw[Ak];omega),ih (i+1) _ _ _ _ (by omega) (by omega) (by simp_all),ANZ];rfl
  ·rw[ALj (by omega),ALi (by rw[Ak];omega),ANG (by omega),ANV]
theorem AKb:∀(n i:Nat) (Hi:List AL) (Iy:List AM) (KK:List BA),i<=w.2.2.2.2.2.2.2.1.length->(w.2.2.2.2.2.2.2.1.length-i)+w.2.2.2.2.2.2.2.2.1.length+2<=n->KK.length<=i->
  FE n w.2.2.2.2.2.2.2.1 w.2.2.2.2.2.2.2.1.length i w.1 w.2.1 w.2.2.1 w.2.2.2.1 w.2.2.2.2.1 w.2.2.2.2.2.1 w.2.2.2.2.2.2.1 w.2.2.2.2.2.2.2.1 w.2.2.2.2.2.2.2.2.1 w.2.2.2.2.2.2.2.2.2.1 w.2.2.2.2.2.2.2.2.2.2.1 0 0 false [] [] [] [] [] [] [] [] w.2.1 w.2.2.2.2.2.1 w.2.2.2.2.2.2.2.2.2.2.1 w.1 Hi w.2.2.2.1 w.2.2.2.2.1 Iy KK [] []=some ((((),w.2.1,(),(),(),w.2.2.2.2.2.1,(),(),(),(),w.2.2.2.2.2.2.2.2.2.2.1,()),()),(w.1,Hi,w.2.2.2.1,w.2.2.2.2.1,Iy,(KK++w.2.2.2.2.2.2.2.1.drop i),w.2.2.2.2.2.2.2.2.1,w.2.2.2.2.2.2.2.2.2.1,())):=by
 have lx:=h.MX;have hl:=h.lens;intro n
 induction n with
 |zero=>omega
 |succ n ih=>
  intro i Hi Iy KK hi hn hb;simp only[FE,WU,AB];by_cases Ds:i<w.2.2.2.2.2.2.2.1.length
  ·have hm:=AY (f:=CK) (AM9 Ds)
   rw[ALi (by omega),ALi (by omega),Af Ds,As (i:=i) (by omega),drop_cons Ds];rw[V1 (w.2.2.2.2.2.2.2.1[i]),H8 (by omega)];simp only[AD];rw[ALi (by rw[Ak];omega),ih (i+1) _ _ _ (by omega) (by omega) (by simp_all),ANZ];rfl
  ·have:=AKJ h n 0 Hi Iy KK [] (by omega) (by omega) (by simp)
   grind
theorem AN_:∀(n i:Nat) (Hi:List AL) (Iy:List AM),i<=w.2.2.2.2.2.2.1.length->(w.2.2.2.2.2.2.1.length-i)+w.2.2.2.2.2.2.2.1.length+w.2.2.2.2.2.2.2.2.1.length+3<=n->Iy.length<=i->
  GD n w.2.2.2.2.2.2.1 w.2.2.2.2.2.2.1.length i w.1 w.2.1 w.2.2.1 w.2.2.2.1 w.2.2.2.2.1 w.2.2.2.2.2.1 w.2.2.2.2.2.2.1 w.2.2.2.2.2.2.2.1 w.2.2.2.2.2.2.2.2.1 w.2.2.2.2.2.2.2.2.2.1 w.2.2.2.2.2.2.2.2.2.2.1 0 0 false [] [] [] [] [] [] [] [] w.2.1 w.2.2.2.2.2.1 w.2.2.2.2.2.2.2.2.2.2.1 w.1 Hi w.2.2.2.1 w.2.2.2.2.1 Iy [] [] []=some ((((),w.2.1,(),(),(),w.2.2.2.2.2.1,(),(),(),(),w.2.2.2.2.2.2.2.2.2.2.1,()),()),(w.1,Hi,w.2.2.2.1,w.2.2.2.2.1,(Iy++w.2.2.2.2.2.2.1.drop i),w.2.2.2.2.2.2.2.1,w.2.2.2.2.2.2.2.2.1,w.2.2.2.2.2.2.2.2.2.1,())):=by
 have lx:=h.MX;have hl:=h.lens;intro n
 induction n with
 |zero=>omega
 |succ n ih=>
  intro i Hi Iy hi hn hb;simp only[GD,Yc,AB];by_cases Ds:i<w.2.2.2.2.2.2.1.length
  ·have hm:=AY (f:=An) (AM9 Ds)
   rw[ALi (by omega),ALi (by omega),Af Ds,As (i:=i) (by omega),drop_cons Ds];rw[DE (w.2.2.2.2.2.2.1[i]),Kh (by omega)];simp only[AD];rw[ALi (by rw[Ak];omega),ih (i+1) _ _ (by omega) (by omega) (by simp_all),ANZ];rfl
  ·have:=AKb h n 0 Hi Iy [] (by omega) (by omega) (by simp)
   grind
theorem AMC:∀(n i:Nat) (Hi:List AL),i<=w.2.2.1.length->(w.2.2.1.length-i)+w.2.2.2.2.2.2.1.length+w.2.2.2.2.2.2.2.1.length+w.2.2.2.2.2.2.2.2.1.length+4<=n->Hi.length<=i->
  GC n w.2.2.1 w.2.2.1.length i w.1 w.2.1 w.2.2.1 w.2.2.2.1 w.2.2.2.2.1 w.2.2.2.2.2.1 w.2.2.2.2.2.2.1 w.2.2.2.2.2.2.2.1 w.2.2.2.2.2.2.2.2.1 w.2.2.2.2.2.2.2.2.2.1 w.2.2.2.2.2.2.2.2.2.2.1 0 0 false [] [] [] [] [] [] [] [] w.2.1 w.2.2.2.2.2.1 w.2.2.2.2.2.2.2.2.2.2.1 w.1 Hi w.2.2.2.1 w.2.2.2.2.1 [] [] [] []=some ((((),w.2.1,(),(),(),w.2.2.2.2.2.1,(),(),(),(),w.2.2.2.2.2.2.2.2.2.2.1,()),()),(w.1,(Hi++w.2.2.1.drop i),w.2.2.2.1,w.2.2.2.2.1,w.2.2.2.2.2.2.1,w.2.2.2.2.2.2.2.1,w.2.2.2.2.2.2.2.2.1,w.2.2.2.2.2.2.2.2.2.1,())):=by
 have lx:=h.MX;have hl:=h.lens;intro n
 induction n with
 |zero=>omega
 |succ n ih=>
  intro i Hi hi hn hb;simp only[GC,YA,AB];by_cases Ds:i<w.2.2.1.length
  ·have hm:=AY (f:=Al) (AM9 Ds)
   have hw:=Gi (s:=w.2.2.1[i]) (by omega);rw[ALi (by omega),ALi (by omega),Af Ds,As (i:=i) (by omega),drop_cons Ds];rw[PG (w.2.2.1[i]),JE hw.1 hw.2];simp only[AD];rw[ALi (by rw[Ak];omega),ih (i+1) _ (by omega) (by omega) (by simp_all),ANZ];rfl
  ·have:=AN_ h n 0 Hi [] (by omega) (by omega) (by simp)
   grind
theorem LZ:EC w=some ((((),w.2.1,(),(),(),w.2.2.2.2.2.1,(),(),(),(),w.2.2.2.2.2.2.2.2.2.2.1,()),()),(w.1,w.2.2.1,w.2.2.2.1,w.2.2.2.2.1,w.2.2.2.2.2.2.1,w.2.2.2.2.2.2.2.1,w.2.2.2.2.2.2.2.2.1,w.2.2.2.2.2.2.2.2.2.1,())):=by
 have lx:=h.MX;have hl:=h.lens;unfold EC X2;have:=AMC h AU 0 [] (by omega) (ATW (AZ (by omega))) (by simp);rw[show((0:Nat):Int)=0 from rfl,AQH,AQR]at this;rw[show(w.1,w.2.1,())=Ae w from rfl,mm (by show w.1.length<=_;omega),EB (by omega),show(w.2.2.2.2.1,w.2.2.2.2.2.1,())=(Cl w)from rfl,IX (by show Aa Bm w.2.2.2.2.1<=_;omega)];simp only[AD];exact this
end
theorem AAh{a b:Nat}(h:a+b<2^40):AQ ((IntKind.wrap .u64 (AQ ((a:Int)+(b:Int)))).fdiv (2^1))=(((a+b)/2:Nat):Int):=by
 grind[ZR,IntKind.wrap,IntKind.bits,IntKind.signed,Int.fdiv_eq_ediv_of_nonneg]
structure ph {α:Type} (f:α->Int) (p:Int) (l:List α) (q:Nat):Prop where
 le:q<=l.length
 lt:∀(i:Nat) (h:i<l.length),i<q->f l[i]<p
 ge:∀(i:Nat) (h:i<l.length),q<=i->p<=f l[i]
theorem iT{α:Type}{f:α->Int}{l:List α}(h:Ze f l){i j:Nat}(hi:i<l.length)(hj:j<l.length)(hij:i<=j):f l[i]<=f l[j]:=by
 grind[Int.le_of_lt,List.pairwise_iff_getElem]
theorem kL{l:List AH}(ha:mH l)(hl:l.length<=2^30)(p:Int):∃q,ph (fun e:AH=>e.1) p l q/\
  VD l p=some ((((q:Int),(match l[q]? with|some e=>e.1==p|none=>false),()),()),()):=by
 have key:∀(n a b:Nat),a<=b->b<=l.length->b-a<n->(∀(i:Nat) (h:i<l.length),i<a->l[i].1<p)->(∀(i:Nat) (h:i<l.length),b<=i->p<=l[i].1)->
   ∃q,ph (fun e:AH=>e.1) p l q/\BC n l p l.length a b=some ((((q:Int),(match l[q]? with|some e=>e.1==p|none=>false),()),()),()):=by
  intro n
  induction n with
  |zero=>omega
  |succ n ih=>
   intro a b yi hb hn h1 h2;simp only[BC,C8,AB,Uc];by_cases JN:a<b
   ·have hm:(a+b)/2<l.length:=by omega
    rw[ALi (by omega),AAh (by omega),ALi (by omega),Af hm];by_cases hc:l[(a+b)/2].1<p
    ·rw[ALi hc]
     simp only[AD];rw[ALi (by omega),Ab (by omega),show((((a+b)/2:Nat):Int)+1)=(((a+b)/2+1:Nat):Int)by omega];refine ih _ b (by omega) hb (by omega) (fun i h hi=> ?_) h2;exact Int.lt_of_le_of_lt (iT (f:=fun e:AH=>e.1) ha h hm (by omega)) hc
    ·rw[ALj hc]
     have hge:∀(i:Nat) (h:i<l.length),(a+b)/2<=i->p<=l[i].1:=fun i h hi=>Int.le_trans (by omega) (iT (f:=fun e:AH=>e.1) ha hm h hi)
     by_cases hd:l[(a+b)/2].1>p
     ·rw[ALi hd]
      simp only[AD];rw[ALj (by omega)];exact ih a _ (by omega) (by omega) (by omega) h1 hge
     ·rw[ALj hd]
      simp only[AD];rw[ALj (by omega)];exact ih a _ (by omega) (by omega) (by omega) h1 hge
   ·have AJE:a=b:=by omega
    subst AJE;refine⟨a,⟨hb,h1,h2⟩,?_⟩;rw[ALj (by omega)];by_cases ha':a<l.length
    ·have:=h2 a ha' (AOd _)
     rw[ALi (by omega),ALi (by omega),Af ha',ALk ha',ALj (by omega)];by_cases hd:l[a].1>p
     ·simp_all;omega
     grind
    grind
 obtain⟨q,hq,e⟩:=key AU 0 l.length (by omega) (by omega) (AZ (by omega)) (fun i h hi=>by omega) (fun i h hi=>by omega);refine⟨q,hq,?_⟩;unfold VD CT C_;simp_all
theorem ph.get_eq{p:Int}{l:List AH}{q:Nat}(h:ph (fun e:AH=>e.1) p l q)(ha:mH l):Qm p l=match l[q]? with|some e=>if e.1=p then some e else none|none=>none:=by
 by_cases hq:q<l.length
 ·rw[ALk hq]
  dsimp only;by_cases he:l[q].1=p
  ·rw[ALi he,<-he]
   exact sb ha (AM9 hq)
  ·rw[ALj he]
   cases hg:Qm p l with
   |none=>rfl
   |some x=>
    obtain⟨hm,hx⟩:=z8 hg;obtain⟨i,hi,rfl⟩:=AQD hm;exfalso;have h2:=h.ge q hq (AOd _);rcases Nat.lt_or_ge i q with hiq|hiq
    ·have:=h.lt i hi hiq
     omega
    ·have:=iT (f:=fun e:AH=>e.1) ha hq hi hiq
     omega
 ·rw[ATb (by omega)]
  dsimp only;cases hg:Qm p l with
  |none=>rfl
  |some x=>
   obtain⟨hm,hx⟩:=z8 hg;obtain⟨i,hi,rfl⟩:=AQD hm;have:=h.lt i hi (by omega);omega
theorem XB{s:AL}(h0:Al s<=2^30)(h1:pr s)(p:Int):FU s p=some (((match cv s p with|some e=>(e,true,())|none=>((0,0,false,[],()),false,())),()),()):=by
 unfold FU cv;rw[PG s,FW h0 h1];simp only[AD];rcases ALh (CS s)with Du|Du
 rotate_left
 ·simp_all
 have hs:=Da.1 Du;have hn:=hs.nk;obtain⟨q,hq,e⟩:=kL hs.asc (by omega) p;rw[Du,e,ALi rfl,hq.get_eq hs.asc];grind
theorem HV{e o:Int}:DL e o=some (((EU e o,BJ e 1 30&&BJ o 1 60,()),()),()):=by
 unfold DL IP bj EU;rw[BB,BB];simp only[AD];rcases ALh (BJ e 1 30)with he|he
 rotate_left
 ·simp_all
 rcases ALh (BJ o 1 60)with ho|ho
 rotate_left
 ·simp_all
 rw[he,ho];have h1:=Ao.1 he;have h2:=Ao.1 ho;simp only[AL9,ALm,Bool.and_self,AQm];rw[Ab (x:=4294967296*e) (by omega),Ab (by omega)];rfl
theorem dw{k:Int}:HG k=some (((),()),(Bf k,())):=by
 unfold HG YE Bf;rw[BB];simp only[AD];rcases ALh (BJ k 0 255)with hk|hk
 rotate_left
 ·simp_all
 rw[hk,ALi rfl];have hk':=Ao.1 hk;have key:∀(n i:Nat) (b:AAO),i<=8->8-i<n->b.length<=i->
   Lg n k i b=some (((),()),(b++(([0,1,2,3,4,5,6,7]:AAO).drop i).filter (fun i=>(k/2^i.toNat)%2==1),())):=by
  intro n
  induction n with
  |zero=>omega
  |succ n ih=>
   intro i b hi h hb;simp only[Lg,YM,AB];by_cases Ds:i<8
   ·have AH9:=AA0 (k:=k) (i:=i) (by omega) (by omega)
    rw[ALi (show(i:Int)<8 by omega),ALj (by omega),AMn,zx i Ds,ARP,AMn,As (i:=i) (by omega)];rw[AH9];simp only[AB];have c2:b.length+1<=C7:=by rw[Ak];omega
    by_cases hb':(k/2^i)%2=1
    ·rw[ALi hb',ALi c2,ALi (by simp_all),ih (i+1) _ (by omega) (by omega) (by simp_all),ANZ]
     rfl
    grind
   ·have:i=8:=by omega
    simp_all
 have:=key AU 0 [] (by omega) (AZ (by omega)) (by simp);simp_all
theorem Qv{r:AK}(h:Aa Bm r.1<=2^30){e:Int}(he:Bi e):Jt r e=some (((),()),(Br r.1 e,())):=by
 unfold Jt Br;have hl:=AR (f:=Bm) (l:=r.1);rw[BB];simp only[AD];rcases ALh (BJ e 1 r.1.length)with hk|hk
 rotate_left
 ·simp_all
 rw[hk,ALi rfl];have hk':=Ao.1 hk;have hm:=AY (f:=Bm) (BN (d:=Hu) (i:=(e-1).toNat) (by omega:(e-1).toNat<r.1.length));have hw:Bm (r.1.getD (e-1).toNat Hu)=(r.1.getD (e-1).toNat Hu).1.length:=rfl;rw[Ab (by omega)];simp only[AL9,ALm];rw[ALi (by omega),show(r.1.getD (e-1).toNat ([],false,0,()))=r.1.getD (e-1).toNat Hu from rfl,EB (by omega)];rfl
theorem MU{w:AA}(h1:w.Bd.length<=2^30)(h2:w.lost.length<=2^30){n:Int}:Eh w n=some ((Ay w n,()),()):=by
 unfold Eh Ay;have h1':w.2.2.1.length<=2^30:=h1;rw[Ab (by omega),BB,gY (by grind)];grind
theorem Q8{b:Bool}:Mt b=some ((if b then 0 else 4,()),()):=by cases b<;>rfl
theorem nG{x:AM}(h:x.2.1.length<=2^30):Sl x=some (((gJ x.2.1:Int),()),()):=by
 have key:∀(n i:Nat),i<=x.2.1.length->x.2.1.length-i<n->i+gJ (x.2.1.drop i)=gJ x.2.1->Kg n x.2.1 x.2.1.length i x.1 x.2.1=some (((gJ x.2.1:Int),()),()):=by
  intro n
  induction n with
  |zero=>omega
  |succ n ih=>
   intro i hi hn hs;simp only[Kg,WS,AB];by_cases hc:i<x.2.1.length
   ·rw[drop_cons hc]at hs
    simp only[gJ]at hs;rw[ALi (by omega),ALi (by omega),Af hc,As (i:=i) (by omega)];cases hd:x.2.1[i].2.2.1 with
    |true=>
     grind
    |false=>
     simp_all
   ·rw[ANG (by omega)]at hs
    simp only[gJ]at hs;grind
 grind[Sl,WN,AU,AZ]
theorem xV{w:AA}(h:mq w)(e:Int):QW w e=some ((ku w e,()),()):=by
 have lx:=h.MX;have hl:=h.lens;have key:∀(n i:Nat),i<=w.AO.length->w.AO.length-i<n->P7 n e w.AO w.AO.length i=some (((match(w.AO.drop i).find? (fun x=>x.1==e)with|some x=>(gJ x.2.1:Int)|none=>0),()),()):=by
  intro n
  induction n with
  |zero=>omega
  |succ n ih=>
   intro i hi hn;simp only[P7,dq,AB];by_cases hc:i<w.AO.length
   ·have jy:i<w.2.2.2.2.2.2.1.length:=hc
    have hm:An w.AO[i]<=Aa An w.2.2.2.2.2.2.1:=AY (f:=An) (AM9 hc);have hw:An w.AO[i]=Aa Aw w.AO[i].2.1:=rfl;have hlw:=AR (f:=Aw) (l:=w.AO[i].2.1);rw[ALi (by omega),ALi (by omega),Af hc,As (i:=i) (by omega),drop_cons hc,AUZ,DE (w.AO[i]),nG (by omega),ih (i+1) (by omega) (by omega)];cases w.AO[i].1==e<;>rfl
   grind
 grind[QW,dO,ku,AU,AZ]
theorem AB9{x:Int}{t:ADn}(h:t.1.length<=2^30):UA x t=some ((!t.1.contains x,()),()):=by
 grind[UA,J2]
theorem td{x:Int}{t:ACJ}:NT x t=some ((x==t.1,()),()):=rfl
theorem tg{t:ADn×Unit}(h:t.1.1.length<=2^30){l:AAO}(hl:l.length<=2^30):C3 t l=some (((),()),((),l.filter (fun x=> !(!t.1.1.contains x)),())):=by
 have key:∀(n i j:Nat) (b:AAO),i<=j->j<=b.length->b.length<=2^30->b.length-j<n->B9 n t i j b=some (((),()),((),b.take i++(b.drop j).filter (fun x=> !(!t.1.1.contains x)),())):=by
  intro n
  induction n with
  |zero=>omega
  |succ n ih=>
   intro i j b hij hj hb hn;simp only[B9,EI,AB];by_cases hc:j<b.length
   ·rw[ALi (by omega),ALi (by omega),Af hc,AB9 h]
    simp only[AD];rw[Ab (x:=(j:Int)+1) (by omega),Ab (x:=(i:Int)+1) (by omega),show((j:Int)+1)=((j+1:Nat):Int)by omega,show((i:Int)+1)=((i+1:Nat):Int)by omega,drop_cons hc,ARP];have n1:=ih (i+1) (j+1) (b.set i b[j]) (by omega) (by grind) (by simp_all) (by grind);have n2:=ih i (j+1) b (by omega) (by omega) hb (by omega);rw[show(t.1,())=t from rfl,n2];rw[AWZ (by omega),AR8 (by grind),AWd (AOd _),AV8,ANZ,ATI]at n1;rw[ALi (by omega),AMn,n1]
    generalize hx:b[j]=x
    cases(!t.1.1.contains x)<;>rfl
   ·rw[ALj (by omega),ANG (i:=j) (by omega),AMn,AMn]
    simp_all;omega
 have fnd:∀(n i:Nat),i<=l.length->l.length-i<n-> ∃r:Int,CI n l t l.length i=some ((r,()),())/\((r= -1/\(l.drop i).filter (fun x=> !(!t.1.1.contains x))=l.drop i)\/ ∃q:Nat,r=q/\i<=q/\q<l.length/\((l.take q).drop i).filter (fun x=> !(!t.1.1.contains x))=(l.take q).drop i/\ ∀(h:q<l.length) x,x=l[q]->(!t.1.1.contains x)=true):=by
  intro n
  induction n with
  |zero=>omega
  |succ n ih=>
   intro i hi hn;simp only[CI,ES,AB];by_cases hc:i<l.length
   ·rw[ALi (by omega),ALi (by omega),Af hc,AB9 h]
    simp only[AD];rw[As (i:=i) (by omega),show(t.1,())=t from rfl];obtain⟨r,e,hr⟩:=ih (i+1) (by omega) (by omega);rw[e]
    generalize hx:l[i]=x
    cases hp:(!t.1.1.contains x)with
    |true=>
     grind
    |false=>
     refine⟨r,rfl,?_⟩;rcases hr with⟨h1,h2⟩|⟨q,h1,h2,h3,h4,h5⟩
     ·grind[drop_cons]
     ·refine .inr ⟨q,h1,by omega,h3,?_,h5⟩
      grind[drop_cons]
   grind
 obtain⟨r,e,hr⟩:=fnd AU 0 (by omega) (AZ (by omega));rw[show((0:Nat):Int)=0 from rfl]at e;unfold C3 EH D1 EO;rw[show(t.1,())=t from rfl,e];simp only[AD];rcases hr with⟨h1,h2⟩|⟨q,h1,h2,h3,h4,h5⟩
 ·grind
 ·rw[h1,ANL.2 (by omega),ALm,As (i:=q) (by omega),key AU q (q+1) l (by omega) (by omega) hl (AZ (by omega))]
  rw[AQR]at h4;have hd:=h5 h3 _ rfl;grind[List.take_append_drop,drop_cons]
theorem il{t:AD9}{l:AAO}(hl:l.length<=2^30):C2 t l=some (((),()),((),l.filter (fun x=> !(x==t.1.1)),())):=by
 have key:∀(n i j:Nat) (b:AAO),i<=j->j<=b.length->b.length<=2^30->b.length-j<n->B4 n t i j b=some (((),()),((),b.take i++(b.drop j).filter (fun x=> !(x==t.1.1)),())):=by
  intro n
  induction n with
  |zero=>omega
  |succ n ih=>
   intro i j b hij hj hb hn;simp only[B4,FB,AB];by_cases hc:j<b.length
   ·rw[ALi (by omega),ALi (by omega),Af hc,td]
    simp only[AD];rw[Ab (x:=(j:Int)+1) (by omega),Ab (x:=(i:Int)+1) (by omega),show((j:Int)+1)=((j+1:Nat):Int)by omega,show((i:Int)+1)=((i+1:Nat):Int)by omega,drop_cons hc,ARP];have n1:=ih (i+1) (j+1) (b.set i b[j]) (by omega) (by grind) (by simp_all) (by grind);have n2:=ih i (j+1) b (by omega) (by omega) hb (by omega);rw[show(t.1,())=t from rfl,n2];rw[AWZ (by omega),AR8 (by grind),AWd (AOd _),AV8,ANZ,ATI]at n1;rw[ALi (by omega),AMn,n1]
    generalize hx:b[j]=x
    cases(x==t.1.1)<;>rfl
   ·rw[ALj (by omega),ANG (i:=j) (by omega),AMn,AMn]
    simp_all;omega
 have fnd:∀(n i:Nat),i<=l.length->l.length-i<n-> ∃r:Int,CD n l t l.length i=some ((r,()),())/\((r= -1/\(l.drop i).filter (fun x=> !(x==t.1.1))=l.drop i)\/ ∃q:Nat,r=q/\i<=q/\q<l.length/\((l.take q).drop i).filter (fun x=> !(x==t.1.1))=(l.take q).drop i/\ ∀(h:q<l.length) x,x=l[q]->(x==t.1.1)=true):=by
  intro n
  induction n with
  |zero=>omega
  |succ n ih=>
   intro i hi hn;simp only[CD,FZ,AB];by_cases hc:i<l.length
   ·rw[ALi (by omega),ALi (by omega),Af hc,td]
    simp only[AD];rw[As (i:=i) (by omega),show(t.1,())=t from rfl];obtain⟨r,e,hr⟩:=ih (i+1) (by omega) (by omega);rw[e]
    generalize hx:l[i]=x
    cases hp:(x==t.1.1)with
    |true=>
     grind
    |false=>
     refine⟨r,rfl,?_⟩;rcases hr with⟨h1,h2⟩|⟨q,h1,h2,h3,h4,h5⟩
     ·grind[drop_cons]
     ·refine .inr ⟨q,h1,by omega,h3,?_,h5⟩
      grind[drop_cons]
   grind
 obtain⟨r,e,hr⟩:=fnd AU 0 (by omega) (AZ (by omega));rw[show((0:Nat):Int)=0 from rfl]at e;unfold C2 FG EG Fb;rw[show(t.1,())=t from rfl,e];simp only[AD];rcases hr with⟨h1,h2⟩|⟨q,h1,h2,h3,h4,h5⟩
 ·grind
 ·rw[h1,ANL.2 (by omega),ALm,As (i:=q) (by omega),key AU q (q+1) l (by omega) (by omega) hl (AZ (by omega))]
  rw[AQR]at h4;have hd:=h5 h3 _ rfl;grind[List.take_append_drop,drop_cons]
theorem hU{a b:AAO}(ha:a.length<=2^30)(hb:b.length<=2^30):Oj a b=some (((),()),(a.filter b.contains,())):=by
 unfold Oj;rw[EB ha];simp only[AD];rw[tg hb ha];grind
theorem Re{a:AAO}{x:Int}(ha:a.length<=2^30):H7 a x=some (((),()),(less a [x],())):=by
 unfold H7 less;rw[EB ha];simp only[AD];rw[il ha];grind
theorem kU{d:Am}:Yn d=some ((Gl d,()),()):=by
 obtain⟨k,a,b,n,t,⟨⟩⟩:=d;obtain⟨m,hm⟩:∃m,AU=m+4:=⟨AU-4,by have:=Xs;omega⟩;have fin:∀(a' b' n':Int) (t':ABG),(((BE k 1 16).bind fun u4=>cond (u4.1.1) (cond ((((0:Int)==0)&&((a' ==0)&&((b' ==0)&&((n' ==0)&&((t' ==[])&&true))))) ) ((G1 t).bind fun u6=>some ((u6.1.1,()),())) (some ((false,()),()))) (some ((false,()),()))):Option Xk)=some ((BJ k 1 16&&((a' ==0)&&((b' ==0)&&((n' ==0)&&((t' ==[])&&decide (t.length<=40))))),()),()):=by
  intro a' b' n' t';rw[BB];simp only[AD,G1,AQd,ANC,AQp];have e:decide ((t.length:Int)<=40)=decide (t.length<=40):=by grind
  grind
 unfold Yn dr Q0 Gl aJ;rw[hm];have h1:((1:Nat):Int)=1:=rfl;have w1:AQ (1:Int)=1:=Ab (by omega);have w2:AQ (2:Int)=2:=Ab (by omega);have w3:AQ (3:Int)=3:=Ab (by omega);have lim:(3:Nat)<=C7:=by rw[Ak];omega
 have l0:(0:Nat)<=C7:=by omega
 have l1:(1:Nat)<=C7:=by omega
 have l2:(2:Nat)<=C7:=by omega
 dsimp only;by_cases k8:k=8
 ·subst k8
  simpa[D8,DZ]using fin a b n t
 by_cases k10:k=10
 ·subst k10
  simpa[D8,DZ]using fin a b n t
 by_cases k12:k=12
 ·subst k12
  simpa[D8,DZ]using fin a b n t
 by_cases k2:k=2
 ·subst k2
  simpa[D8,DZ,l2,w1,w2]using fin 0 b n []
 by_cases k3:k=3
 ·subst k3
  simpa[D8,DZ,lim,w1,w2,w3]using fin 0 0 0 t
 by_cases k5:k=5
 ·subst k5
  simpa[D8,DZ,l2,w1,w2]using fin 0 0 n t
 by_cases k14:k=14
 ·subst k14
  simpa[D8,DZ,l2,w1,w2]using fin 0 0 n t
 by_cases k11:k=11
 ·subst k11
  simpa[D8,DZ,l2,w1,w2]using fin a 0 0 t
 by_cases k13:k=13
 ·subst k13
  simpa[D8,DZ,l1,w1]using fin 0 b n t
 have e8:(k==8)=false:=ANL.2 k8;have e10:(k==10)=false:=ANL.2 k10;have e12:(k==12)=false:=ANL.2 k12;have e2:(k==2)=false:=ANL.2 k2;have e3:(k==3)=false:=ANL.2 k3;have e5:(k==5)=false:=ANL.2 k5;have e14:(k==14)=false:=ANL.2 k14;have e11:(k==11)=false:=ANL.2 k11;have e13:(k==13)=false:=ANL.2 k13;simpa[k8,k10,k12,k2,k3,k5,k14,k11,k13,e8,e10,e12,e2,e3,e5,e14,e11,e13,D8,DZ,l1,w1]using fin 0 b n t
theorem uP{l:List BL}(hl:l.length<=2^20):Q_ l=some (((),()),(l.map (fun a=>a.1),())):=by
 have key:∀(n i:Nat) (b:AAO),i<=l.length->l.length-i<n->b.length=i->OS n l l.length i b=some (((),()),(b++(l.drop i).map (fun a=>a.1),())):=by
  intro n
  induction n with
  |zero=>omega
  |succ n ih=>
   intro i b hi h hb;simp only[OS,bq,AB];by_cases jy:i<l.length
   ·have c1:(0:Int)<=(i:Int)/\(i:Int)<(l.length:Int):=by omega
    have c2:b.length+1<=C7:=by rw[Ak];omega
    rw[ALi c1.2,ALi c1,ALi c2,As (i:=i) (by omega),Af jy,ih (i+1) _ (by omega) (by omega) (by simp_all),drop_cons jy];grind
   grind
 unfold Q_ cG;have:=key AU 0 [] (by omega) (AZ (by omega)) rfl;simp_all
theorem AAd{c:Ca}{s l:AAO}(hc:c.1.length<=2^40)(hl:l.length<=2^20)(hs:s.length<=2^20):lX c s l=some (((),()),(if BI c s&&BI c l then less s l else[],())):=by
 have key:∀(n i:Nat) (b:AAO),i<=s.length->s.length-i<n->b.length<=i->Vu n l s s.length i b=some (((),()),(b++less (s.drop i) l,())):=by
  intro n
  induction n with
  |zero=>omega
  |succ n ih=>
   intro i b hi h hb;simp only[Vu,jU,AB,Ap];by_cases jy:i<s.length
   ·have c1:(0:Int)<=(i:Int)/\(i:Int)<(s.length:Int):=by omega
    have c2:b.length+1<=C7:=by rw[Ak];omega
    rw[ALi c1.2,ALi c1,Af jy,J2 (by omega),As (i:=i) (by omega),drop_cons jy];simp only[AD,ALi c2];rw[ih (i+1) b (by omega) (by omega) (by omega),ih (i+1) (b++[s[i]]) (by omega) (by omega) (by simp_all)];grind[less]
   ·rw[ALj (by omega),ANG (by omega)]
    simp[less]
 unfold lX jA;rw[DE c,EV hc (by omega),EV hc (by omega)];simp only[AD];cases BI c s with
 |false=>rfl
 |true=>
  cases BI c l with
  |false=>rfl
  |true=>
   have:=key AU 0 [] (by omega) (AZ (by omega)) (by simp);simp_all
theorem filter_all{l:AAO}{p:Int->Bool}:((((l.filter p).length:Nat):Int) !=(l.length:Int))= !l.all p:=by
 rw[AUr];simp only[bne_iff_ne,ne_eq,ASW,ATQ];grind[List.filter_eq_self,List.all_eq_true,List.length_filter_eq_length_iff]
theorem kE{c:Ca}{s l:AAO}(hc:c.1.length<=2^40)(hl:l.length<=2^20)(hs:s.length<=2^20):Hh c s l=some ((TK c s l,()),()):=by
 unfold Hh TK;rw[DE c,EV hc (by omega),G6 hc (by omega),hU (by omega) (by omega),AAd hc hl hs];simp only[AD,Ap,filter_all];have hh:holds c s=true->BI c s=true:=fun h=>by
  unfold holds at h;simp_all
 cases h1:BI c l with
 |false=>simp
 |true=>
  cases h2:holds c s with
  |false=>rfl
  |true=>
   cases h3:l.all s.contains with
   |false=>rfl
   |true=>
    have h4:(less s l).length<=2^20:=APf (APg _ _) hs;rw[hh h2];simp only[AMs,Bool.and_self,AQm,AL9,ALm,ANC];grind[G6]
theorem bT{a b:AH}:T5 a b=some ((better a b,()),()):=by
 unfold T5 better;grind
theorem yO{s:AAO}{p:Int}{l:List BL}(hs:s.length<=2^20)(hl:l.length<=2^20)(RW:∀a∈l,Bi a.2.2.1):
  d_ l s p=some (((((Jj s p none l).getD D_),(Jj s p none l).isSome,()),()),()):=by
 have key:∀(n i:Nat) (b:Option AH),i<=l.length->l.length-i<n->
   Qg n s p b.isSome l l.length i 0 0 false [] (b.getD D_).1 (b.getD D_).2.1 (b.getD D_).2.2.1 (b.getD D_).2.2.2.1=some (((((Jj s p b (l.drop i)).getD D_),(Jj s p b (l.drop i)).isSome,()),()),()):=by
  intro n
  induction n with
  |zero=>omega
  |succ n ih=>
   intro i b hi h;simp only[Qg,dv,AB,Ap];by_cases jy:i<l.length
   ·have c1:(0:Int)<=(i:Int)/\(i:Int)<(l.length:Int):=by omega
    rw[ALi c1.2,ALi c1,As (i:=i) (by omega),Af jy,drop_cons jy];have ih':=fun b=>ih (i+1) b (by omega) (by omega)
    simp only[ih'];rw[J2 (by omega),show(l[i].2.2.1,l[i].2.2.2.1,l[i].2.2.2.2.1,l[i].2.2.2.2.2.1,())=aq l[i]from rfl];rw[Sq (e:=aq l[i]) (RW _ (AM9 jy))];simp only[AD,Jj];cases h1:l[i].2.1 with
    |false=>simp
    |true=>
     cases h2:s.contains l[i].1 with
     |false=>simp
     |true=>
      cases h3:Ga (aq l[i])with
      |false=>simp
      |true=>
       simp only[AMs,ANC];by_cases h4:l[i].2.2.1=p
       ·rw[C9,ALi h4,ALi (by show((aq l[i]).1==p)=true;rw[ASQ];exact h4)]
        cases b with
        |none=>
         simp only[ASE,ALm,bT,AD,Option.getD_none];have:=ih' (some (aq l[i]));simp only[AQv,ARc]at this;have hb:better (aq l[i]) (aq l[i])=aq l[i]:=by unfold better;simp_all
         simp_all
        |some x=>
         simp only[AQv,AMs,ARc];rw[gm x];grind[bT,AD,better,aq,Option.isSome_some]
       ·rw[C9,ALj h4,ALj (by show¬((aq l[i]).1==p)=true;rw[ASQ];exact h4)]
   ·rw[ALj (by omega),ANG (by omega)]
    rfl
 unfold d_ eM;exact key AU 0 none (by omega) (AZ (by omega))
theorem iL{s t:AAO}{p:Int}:∀{l:List BL} {b:Option AH},(∀a∈l,s.contains a.1=t.contains a.1)->Jj s p b l=Jj t p b l
 |[],b,_=>rfl
 |a::l,b,h=>by
  simp only[Jj];rw[h a (by simp),iL (fun x hx=>h x (by simp[hx])),iL (fun x hx=>h x (by simp[hx]))]
theorem Zg{e:Au}{a b:Int}{l:List Au}(h:l.length<=2^30):Fu e a b l=some (((),()),((a,b,(),()),(),l++[e],())):=by
 unfold Fu;rw[ALi (by rw[Ak];omega)]
theorem jz{s:AAO}{l:List BL}{a b:Int}{o:List Au}(ha:1<=a/\a<=30)(hb:1<=b/\b<=60)(ho:o.length<=2^20)(hs:s.length<=2^20)(hl:l.length<=2^20)(RW:∀a∈l,Bi a.2.2.1):
  DK l s a b o=some (((),()),((a,b+1,(),()),(),o++[Wo (Hr a b) (Jj s (Hr a b) none l)],())):=by
 unfold DK;rw[HV];have hp:EU a b=Hr a b:=by
  unfold EU;rw[ALi (by rw[AL8,Ao,Ao];omega)]
 simp only[AD];rw[hp,yO hs hl RW];simp only[AD,Zg (APf ho (by omega))];rw[Ab (by omega)];cases Jj s (Hr a b) none l with
 |none=>rfl
 |some x=>
  simp only[AQv,AL9,ALm,ARc,Wo];grind
theorem AEh{x e o:Int}(hx:x=0\/Az x=true)(he:1<=e/\e<=31)(ho:1<=o/\o<=61):
  decide (x>=Hr e o)=(decide (x>0)&& !(decide (Ah x<e)||((Ah x==e)&&decide (Cc x<o)))):=by
 rcases hx with rfl|hx
 ·grind[decide_eq_false,Hr]
 ·have h:=Hn hx
  rw[AUr];simp only[AL8,ASW,Bool.or_eq_false_iff,AM7,ATV,Bool.and_eq_false_iff,ANL];grind[Hr]
theorem uZ{x:Int}{r:Ac}(hx:Bi x):Jk x r=some ((decide (Ah x<r.1)||((Ah x==r.1)&&decide (Cc x<r.2.1)),()),()):=by
 grind[Jk,D6,SA,AD,decide,Ah]
theorem nq{c:Ca}{g:AK}{sure:Int}{r:Ac}{l:List BL}(hc:c.1.length<=2^20)(hg:Aa Bm g.1<=2^20)(ht:Bi g.2.1)(hl:l.length<=2^20)(RW:∀a∈l,Bi a.2.2.1):
  JJ c g sure r l=some (AEU (Dq c g sure r l)):=by
 unfold JJ Dq;rw[DE c,DE g,PG r,uP hl,Og (by omega) (by omega) ht,gV];simp only[AD,Ap,AB];rw[EV (by omega) (by grind)];simp only[AD];cases h1:QT c g with
 |false=>rfl
 |true=>
 cases h2:VW r with
 |false=>rfl
 |true=>
 cases h3:BI c (l.map fun a=>a.1)with
 |false=>rfl
 |true=>
 have hr:=ay.1 h2;have hre:=hr.ep;have hro:=hr.off;have hrn:=hr.n;have hR:=LM.1 h1;have hRn:=hR.n;simp only[AMs,ANC,AL9,AMx,API];rw[cm (by omega)];simp only[AD];by_cases h4:r.1>(g.1.length:Int)
 ·rw[ALi h4,AOW h4];rfl
 rw[ALj h4,AQS h4];by_cases h5:r.2.2.1.length=120
 ·rw[show(((r.2.2.1.length:Nat):Int)==120)=true by simp_all,AOW h5];rfl
 rw[show(((r.2.2.1.length:Nat):Int)==120)=false by grind,AQS h5];simp only[ALm,APU,AMx,API];rw[Ab (x:=r.1-1) (by omega),uZ ht,D6 ht,SA ht];simp only[AD];have hto:=qE (x:=g.2.1);rw[Ab (x:=Cc g.2.1+1) (by omega),Ab (x:=r.1+1) (by omega)];simp only[Zg (l:=r.2.2.1) (by omega),AD];have hta:=AEh (x:=g.2.1) (e:=r.1) (o:=r.2.1) (hR.trim.imp id fun h=>h.1) hre hro
 generalize AJm:g.1.getD (r.1-1).toNat Hu=era
 have JN:(r.1-1).toNat<g.1.length:=by omega
 have Xj:era.1.length<=2^20:=by
  have h7:=AY (f:=Bm) (BN (d:=Hu) JN);rw[AJm]at h7;have:Bm era=era.1.length:=rfl;omega
 have hd:g.1.getD (r.1-1).toNat ([],false,0,())=era:=AJm;rw[hd];have hf:((l.map fun a=>a.1).filter era.1.contains).length<=2^20:=APf (APg _ _) (by simp_all);rw[hU (by grind) (by omega)];simp only[AD];rw[kE (by omega) hf Xj];simp only[AD];have xj:(0:Int)<=r.1-1/\r.1-1<(g.1.length:Int):=by omega
 simp only[ALi xj]
 generalize hT:(cond (era.2.1) _ _:Option HS)=T
 have hT':T=some (AEU (if era.2.1&&decide (r.2.1>era.2.2.1)then((r.1+1,1,r.2.2.1++[(4,r.1+1,[],())],()),0)else
   if(!era.2.1&&decide (r.2.1>sure))||decide (r.2.1>60)then(r,2)else
   if !TK c era.1 ((l.map fun a=>a.1).filter era.1.contains)then(r,3)else
   ((r.1,r.2.1+1,r.2.2.1++[Wo (Hr r.1 r.2.1) (Jj era.1 (Hr r.1 r.2.1) none l)],()),0))):=by
  rw[<-hT];clear hT;have tail:r.2.1<=60->(cond (TK c era.1 ((l.map fun a=>a.1).filter era.1.contains))
    ((DK l ((l.map fun a=>a.1).filter era.1.contains) r.1 r.2.1 r.2.2.1).bind fun Ru=>some ((((Ru.2.1.1,Ru.2.1.2.1,(),()),0,()),()),(Ru.2.2.2.1,())))
    (some ((((r.1,r.2.1,(),()),3,()),()),(r.2.2.1,()))):Option HS)=some (AEU (if !TK c era.1 ((l.map fun a=>a.1).filter era.1.contains)then(r,3)else
    ((r.1,r.2.1+1,r.2.2.1++[Wo (Hr r.1 r.2.1) (Jj era.1 (Hr r.1 r.2.1) none l)],()),0))):=by
   intro h60;rw[jz (by omega) (by omega) (by omega) hf hl RW];rw[iL (s:=(l.map fun a=>a.1).filter era.1.contains) (t:=era.1) (fun a ha=>by
    rw[AUr,ATT,ATe];exact⟨fun h=>by simp_all,fun h=>⟨List.mem_map_of_mem ha,by omega⟩⟩)]
   cases TK c era.1 ((l.map fun a=>a.1).filter era.1.contains)<;>rfl
  cases h7:era.2.1 with
  |true=>
   simp only[AMs,ALm,ANC,AL9,AR5,APU,AM7];by_cases h8:r.2.1>era.2.2.1
   ·rw[ALi h8,ALi h8];rfl
   rw[ALj h8,ALj h8];by_cases h9:r.2.1>60
   ·rw[ALi h9,ALi h9];rfl
   grind
  |false=>
   simp only[AMs,ALm,ANC,APP,AR5,AMx,API,AR1,AM7];by_cases h8:r.2.1>sure
   ·rw[ALi h8,ALi (.inl h8)];rfl
   rw[ALj h8];by_cases h9:r.2.1>60
   ·rw[ALi h9,ALi (.inr h9)];rfl
   grind
 rw[hT'];clear hT hT'
 generalize (decide (Ah g.2.1<r.1)||((Ah g.2.1==r.1)&&decide (Cc g.2.1<r.2.1)))=B at hta|-
 by_cases h6:g.2.1>=Hr r.1 r.2.1
 ·rw[AOW h6]at hta
  rw[ALi h6];by_cases h0:g.2.1>0
  ·rw[ALi h0]
   cases B with
   |true=>grind
   |false=>rfl
  simp_all
 ·rw[ALj h6]
  simp_all
theorem AHb{w:AA}{p n:Int}:(answer w p n).1=n:=by
 grind[answer]
theorem vg{w:AA}{p:Int}{ns:AAO}:(answers w p ns).map (fun a=>a.1)=ns.filter fun n=>Ay w n==0:=by
 unfold answers;rw[ATa]
 conv=>rhs;rw[<-List.map_id (ns.filter fun n=>Ay w n==0)]
 grind[List.map_congr_left,AHb]
theorem rB{c:Ca}{g:AK}{s:Int}{r:Ac}{w:AA}{ns:AAO}:
  Dq c g s r (answers w (EU r.1 r.2.1) ns)=Dq c g s r (answers w (Hr r.1 r.2.1) ns):=by
 unfold Dq;rw[vg,vg];cases h1:QT c g with
 |false=>rfl
 |true=>
 cases h2:VW r with
 |false=>rfl
 |true=>
 have hr:=ay.1 h2;have hre:=hr.ep;have hro:=hr.off;have hRn:=(LM.1 h1).n;by_cases h3:r.1<=30/\r.2.1<=60
 ·have:EU r.1 r.2.1=Hr r.1 r.2.1:=by
   unfold EU;rw[ALi (by rw[AL8,Ao,Ao];omega)]
  rw[this]
 ·by_cases h4:r.1>(g.1.length:Int)
  ·simp_all
  ·have h5:r.2.1>60:=by omega
   simp_all
def sF(q:AA×Int):PO:=((q.2,()),(((),q.1.2.1,(),(),(),q.1.2.2.2.2.2.1,(),(),(),(),q.1.2.2.2.2.2.2.2.2.2.2.1,()),q.1.1,q.1.2.2.1,q.1.2.2.2.1,q.1.2.2.2.2.1,q.1.2.2.2.2.2.2.1,q.1.2.2.2.2.2.2.2.1,q.1.2.2.2.2.2.2.2.2.1,q.1.2.2.2.2.2.2.2.2.2.1,()))
theorem AL6{k n:Int}(h:n∈Bf k):0<=n/\n<=7:=by
 unfold Bf at h;simp_all;omega
theorem ADR{k:Int}:(Bf k).length<=8:=by
 unfold Bf;split
 ·exact APf (APg _ _) (by simp)
 ·simp
section
variable{w:AA} (h:RS w) (UB:mq w)
include h UB
omit UB in
theorem AEP{p:Int}{ns:AAO}:∀a∈answers w p ns,Bi a.2.2.1:=fun a ha=>by
 unfold answers at ha;obtain⟨n,hn,rfl⟩:=ATM.1 ha;have hn':Ay w n=0:=by have:=(ATe.1 hn).2;rwa [ASQ]at this
 unfold answer;split
 ·rename_i e he
  have:=(h.store hn').kept e (ATv he);exact Hy (Gz.1 this).pl
 ·exact⟨by show-9223372036854775808<=(0:Int);omega,by show(0:Int)<9223372036854775808;omega⟩
theorem nS{a k:Int}:OL a k w.2.1 w.2.2.2.2.2.1 w.2.2.2.2.2.2.2.2.2.2.1 w.1 w.2.2.1 w.2.2.2.1 w.2.2.2.2.1 w.2.2.2.2.2.2.1 w.2.2.2.2.2.2.2.1 w.2.2.2.2.2.2.2.2.1 w.2.2.2.2.2.2.2.2.2.1=some (sF (MO w a k)):=by
 have kn:=h.nums;have k1:=kn.c;have k3:=kn.lost;have k4:=kn.st;have oH:=kn.jh;have qM:=kn.st';have k5:=kn.era;have k6:=kn.ws;have k6':Aa Al w.Bd<=80008:=kn.ws;have k8:=kn.rd;unfold OL PE TS MO;rw[Ab (by omega),show((w.2.2.2.2.2.2.2.2.1.length:Int)-1)=1 by omega,BB];simp only[AD,Ap];rcases ALh (BJ a 0 1)with h1|h1
 rotate_left
 ·rw[h1];rfl
 have h1':=Ao.1 h1;have hb:0<=a/\a<(w.2.2.2.2.2.2.2.2.1.length:Int):=by omega
 have JN:a.toNat<w.Aq.length:=by
  simp_all
 have dC:=h.Aq _ (BN (d:=AX) JN);rw[h1,Gk,AMs,ALi hb,dw];simp only[show w.2.2.2.2.2.2.2.2.1.getD a.toNat (0,0,[],())=w.Aq.getD a.toNat AX from rfl]
 generalize hx:w.Aq.getD a.toNat AX=r at dC|-
 have hre:=dC.ep;have hro:=dC.off;rw[HV];simp only[AD];have zU:=ADR (k:=k);have hmi:=fun n=>AL6 (k:=k) (n:=n)
 rw[<-rB]
 generalize hp:EU r.1 r.2.1=p
 have RW:=fun ns=>AEP h (p:=p) (ns:=ns)
 generalize Bf k=ms at zU hmi
 have key:∀(n i:Nat) (b:List BL),i<=ms.length->ms.length-i<n->b.length<=i->b=answers w p (ms.take i)->
   ER n a p ms.length i w.2.1 w.2.2.2.2.2.1 w.2.2.2.2.2.2.2.2.2.2.1 w.1 w.2.2.1 w.2.2.2.1 w.2.2.2.2.1 w.2.2.2.2.2.2.1 w.2.2.2.2.2.2.2.1 w.2.2.2.2.2.2.2.2.1 w.2.2.2.2.2.2.2.2.2.1 r.1 r.2.1 r.2.2.1 b ms=
    some (sF (if(Dq (Ae w) (Cl w) (ku w r.1) r (answers w p ms)).2≠0 then(w,5)else(w.DM (w.Aq.set a.toNat (Dq (Ae w) (Cl w) (ku w r.1) r (answers w p ms)).1),0))):=by
  intro n
  induction n with
  |zero=>omega
  |succ n ih=>
   intro i b hi hn hb' he;simp only[ER,O5,TG,AB,Ap];by_cases Ds:i<ms.length
   ·have c1:(0:Int)<=(i:Int)/\(i:Int)<(ms.length:Int):=by omega
    have c2:b.length+1<=C7:=by rw[Ak];omega
    have ht:ms.take (i+1)=ms.take i++[ms[i]]:=AR8 Ds;rw[ALi c1.2,ALi c1,Af Ds,As (i:=i) (by omega),Fa w,gY (by omega)];simp only[AD];have hm:=hmi _ (AM9 Ds);by_cases hn0:Ay w ms[i]=0
    ·obtain⟨n1,n2,n3⟩:=SO hn0
     have n2':ms[i]<(w.2.2.1.length:Int):=n2;have n3':w.2.2.2.1.contains ms[i]=false:=by
      simp_all
     have hs1:(ms[i]).toNat<w.2.2.1.length:=by omega
     have fU:w.2.2.1.getD (ms[i]).toNat ([],[],0,())=storeAt w ms[i]:=rfl;have hsm:Al (storeAt w ms[i])<=2^30:=APf (AY (f:=Al) (BN (d:=EZ) hs1)) (by omega);have Aa3:CS (storeAt w ms[i])=true:=Da.2 (h.store hn0);rw[ALi n2',n3',ALm,ALi ⟨n1,n2'⟩,fU,show((storeAt w ms[i]).1,(storeAt w ms[i]).2.1,(storeAt w ms[i]).2.2.1,())=storeAt w ms[i]from rfl,XB hsm (h.store hn0).sin];simp only[AD];rw[ALi c2];refine ih (i+1) _ (by omega) (by omega) (by simp_all) ?_
     rw[ht,he];unfold answers;rw[List.filter_append,List.map_append];congr 1;rw[ARP,ALi (by simp_all),AWW,ATU,AUB];congr 1;unfold answer cv;rw[ALi Aa3];cases Qm p (storeAt w ms[i]).1<;>rfl
    ·have n1:=ih (i+1) b (by omega) (by omega) (by omega) (by
      rw[ht,he];unfold answers;rw[List.filter_append,List.map_append,ARP,ALj (by simp_all),AWW,AUB,ANV])
     by_cases hl:ms[i]<(w.2.2.1.length:Int)
     ·rw[ALi hl]
      have AVW:w.2.2.2.1.contains ms[i]=true:=by
       cases hc:w.2.2.2.1.contains ms[i]with
       |true=>rfl
       |false=>
        exfalso
        apply hn0;unfold Ay;have e1:BJ ms[i] 0 ((w.Bd.length:Int)-1)=true:=Ao.2 (by omega);simp_all
      simp_all
     grind
   ·have e0:ms.take i=ms:=AQL (by omega)
    rw[e0]at he;subst he;have hal:(answers w p ms).length<=8:=by omega
    rw[ALj (by omega),Fa w,xV UB,PG r,show(w.1,w.2.1,())=Ae w from rfl,show(w.2.2.2.2.1,w.2.2.2.2.2.1,())=Cl w from rfl];simp only[AD];rw[nq (c:=Ae w) (g:=Cl w) (by show w.1.length<=_;omega) (by show Aa Bm w.2.2.2.2.1<=_;omega) kn.trim (by omega) (RW ms)];simp only[AD,AEU,C9];by_cases h2:(Dq (Ae w) (Cl w) (ku w r.1) r (answers w p ms)).2=0
    ·rw[ALi h2,ALi hb,ALj (fun hh=>hh h2)];rfl
    ·rw[ALj h2,ALi h2];rfl
 grind[AU,AZ,answers]
end
theorem oy{α:Type}{q:Nat}{v l:List α}(hq:q<=l.length)(hl:l.length+v.length<=2^30):AB1 (q:Int) v l=some (l.take q++v++l.drop q):=by
 unfold AB1;rw[ALi ⟨by omega,by omega,by rw[Ak];omega⟩,AMn]
theorem ADK{l:AAO}(ha:Ze id l)(hl:l.length<=2^30)(p:Int):∃q,ph id p l q/\
  G2 l p=some ((((q:Int),(match l[q]? with|some e=>e==p|none=>false),()),()),()):=by
 have key:∀(n a b:Nat),a<=b->b<=l.length->b-a<n->(∀(i:Nat) (h:i<l.length),i<a->l[i]<p)->(∀(i:Nat) (h:i<l.length),b<=i->p<=l[i])->
   ∃q,ph id p l q/\D9 n l p l.length a b=some ((((q:Int),(match l[q]? with|some e=>e==p|none=>false),()),()),()):=by
  intro n
  induction n with
  |zero=>omega
  |succ n ih=>
   intro a b yi hb hn h1 h2;simp only[D9,K4,AB,cmp_Less_int,cmp_isNaN_int,RH,bne_self_eq_false,AD,ALm];by_cases JN:a<b
   ·have hm:(a+b)/2<l.length:=by omega
    rw[ALi (by omega),AAh (by omega),ALi (by omega),Af hm];by_cases hc:l[(a+b)/2]<p
    ·rw[ALi hc,Ab (by omega),show((((a+b)/2:Nat):Int)+1)=(((a+b)/2+1:Nat):Int)by omega]
     refine ih _ b (by omega) hb (by omega) (fun i h hi=> ?_) h2;have:=iT (f:=id) ha h hm (by omega);grind
    ·have hge:∀(i:Nat) (h:i<l.length),(a+b)/2<=i->p<=l[i]:=fun i h hi=>by
      have:=iT (f:=id) ha hm h hi;grind
     rw[ALj hc];exact ih a _ (by omega) (by omega) (by omega) h1 hge
   ·have AJE:a=b:=by omega
    subst AJE;refine⟨a,⟨hb,h1,h2⟩,?_⟩;rw[ALj (by omega)];by_cases ha':a<l.length
    ·rw[ALi (by omega),ALi (by omega),Af ha',ALk ha']
     dsimp only;cases l[a]==p<;>simp[ha']
    grind
 obtain⟨q,hq,e⟩:=key AU 0 l.length (by omega) (by omega) (AZ (by omega)) (fun i h hi=>by omega) (fun i h hi=>by omega);refine⟨q,hq,?_⟩;unfold G2 K5;omega
theorem wo{x:Int}:∀{l:AAO} {q:Nat},ph id x l q->(∀h:q<l.length,l[q]≠x)->mz x l=l.take q++[x]++l.drop q
 |[],q,h,_=>by
  have:=h.le;have:q=0:=by simp_all
  subst this;rfl
 |y::l,0,h,hn=>by
  have h1:=h.ge 0 (by simp) (AOd _);have h2:=hn (by simp);simp only[ATZ,id]at h1 h2;simp only[mz];grind
 |y::l,q+1,h,hn=>by
  have h1:=h.lt 0 (by simp) (by omega);simp only[ATZ,id]at h1;simp only[mz];rw[ALj (by omega),wo (l:=l) (q:=q) ⟨by have:=h.le;simp_all,fun i hi hiq=>by have:=h.lt (i+1) (by simp_all) (by omega);simp_all,fun i hi hiq=>by have:=h.ge (i+1) (by simp_all) (by omega);simp_all⟩ (fun hq=>by simp_all)];rfl
theorem RM{l:AAO}{x:Int}(ha:Ze id l)(hl:l.length<=2^29):Lx l x=some (((),()),(Ov x l,())):=by
 unfold Lx Ov;rw[EB (by omega)];simp only[AD];obtain⟨q,hq,e⟩:=ADK ha (by omega) x;rw[e];simp only[AD,Ap];by_cases hc:q<l.length
 ·rw[ALk hc]
  dsimp only;by_cases he:l[q]=x
  ·grind
  ·rw[ANL.2 he,ALm]
   have hn:l.contains x=false:=by
    rw[ATQ,ne_eq,ATT];intro hm;obtain⟨i,hi,rfl⟩:=AQD hm;rcases Nat.lt_or_ge i q with hiq|hiq
    ·have:=hq.lt i hi hiq;simp_all
    ·have h1:=iT (f:=id) ha hc hi hiq
     have h2:=hq.ge q hc (AOd _);grind
   rw[hn,ALj (by simp)];grind[Kx,oy,wo]
 ·rw[ATb (by omega)]
  dsimp only;rw[ALm];have hn:l.contains x=false:=by
   rw[ATQ,ne_eq,ATT];intro hm;obtain⟨i,hi,rfl⟩:=AQD hm;have:=hq.lt i hi (by omega);simp_all
  rw[hn,ALj (by simp)];unfold Kx;rw[oy hq.le (by grind),wo hq (fun h=>absurd h hc)];rfl
theorem ADs{e:AH}:∀{l:List AH} {q:Nat},ph (fun x:AH=>x.1) e.1 l q->mH l->
  keep e l=if h:q<l.length then(if l[q].1=e.1 then l.set q (better l[q] e)else l.take q++[e]++l.drop q)else l++[e]
 |[],q,h,_=>by
  rfl
 |y::l,0,h,_=>by
  have h1:=h.ge 0 (by simp) (AOd _);simp only[ATZ]at h1;simp only[keep,AOJ,Nat.zero_lt_succ,AVX,ATZ];grind
 |y::l,q+1,h,ha=>by
  have h1:=h.lt 0 (by simp) (by omega);simp only[ATZ]at h1;have ih:=ADs (e:=e) (l:=l) (q:=q) ⟨by have:=h.le;simp_all,fun i hi hiq=>by have:=h.lt (i+1) (by simp_all) (by omega);simp_all,fun i hi hiq=>by have:=h.ge (i+1) (by simp_all) (by omega);simp_all⟩ (AP5.1 ha).2;simp only[keep];grind
theorem gz{e:AH}{l:List AH}(ha:mH l)(hl:l.length<=2^29):az e l=some (((),()),((),keep e l,())):=by
 unfold az;obtain⟨q,hq,hs⟩:=kL ha (by omega) e.1;rw[hs,ADs hq ha];simp only[AD,Ap];by_cases hc:q<l.length
 ·rw[dif_pos hc,ALk hc]
  dsimp only;have hb:(0:Int)<=(q:Int)/\(q:Int)<(l.length:Int):=by omega
  by_cases he:l[q].1=e.1
  ·rw[ASQ.2 he,AMs,ALi he,ALi hb,Af hc,gm (l[q]),gm e,bT]
   simp_all
  ·rw[ANL.2 he,ALm,ALj he]
   grind[EE,oy]
 ·have hql:q=l.length:=by have:=hq.le;omega
  rw[dif_neg hc,ATb (by omega)];dsimp only;rw[ALm];grind[EE,oy,List.take_length,List.drop_length]
theorem Ny{s:AL}(hw:Al s<=2^30)(hs:pr s):D4 s=some (if CS s then((((),(),s.2.2.1,()),()),(s.1,s.2.1,()))else((((),(),0,()),()),([],[],()))):=by
 obtain⟨l1,l2⟩:=Gi hw;unfold D4;rw[PG s,FW hw hs,JE l1 l2];grind
theorem qP{s:AL}{e:AH}(hw:Al s<=2^30)(hs:pr s)(he:Bi e.1):Xr s e=some (oG (Ht s e)):=by
 obtain⟨l1,l2⟩:=Gi hw;unfold Xr Ht;rw[PG s,gm e,FW hw hs,Ny hw hs,JE l1 l2,Sq he,D6 he];simp only[AD,Ap,AB,De];cases h1:CS s with
 |false=>rfl
 |true=>
  have Du:=Da.1 h1;have hnl:=Du.nl;cases h2:Ga e with
  |false=>rfl
  |true=>
   have hE:=(Gz.1 h2).w0;simp only[AMs,ANC,AL9,AMx,API,AQm];have lim:s.2.1.length+1<=C7:=by rw[Ak];omega
   by_cases h3:s.2.1.length=20
   ·rw[ALi (by omega),AQS (fun h=>h h3),AT6]
    rfl
   ·rw[ALj (by omega),AOW (show s.2.1.length≠20 from h3),AQp]
    unfold takes;by_cases h4:e.2.1=0
    ·rw[ALi h4,ALi h4]
     by_cases h5:Ah e.1<=s.2.2.1
     ·rw[ALi h5,AQS (by omega)];rfl
     ·rw[ALj h5,ALj (by omega),ALi lim,AOW (by omega)];rfl
    ·rw[ALj h4,ALj h4,ALi (by omega)]
     by_cases h5:e.2.1<=s.2.2.1
     ·rw[ALi h5,AQS (by omega)];rfl
     ·rw[ALj h5,ALi lim,AOW (by omega)];rfl
theorem bY{s:AL}{k:Int}(hw:Al s<=2^30)(hs:pr s):Ob s k=some (oG (Gn s k)):=by
 obtain⟨l1,l2⟩:=Gi hw;unfold Ob WJ Gn;rw[PG s,FW hw hs,Ny hw hs,JE l1 l2,BB];simp only[AD,Ap];cases h1:CS s with
 |false=>rfl
 |true=>
  have Du:=Da.1 h1;have hnl:=Du.nl;have hnk:=Du.nk;simp only[AMs,AL9,AMx,API,AQm];cases h2:BJ k 0 1048575 with
  |false=>rfl
  |true=>
   have hk:=Ao.1 h2;have AZc:0<=k/\k<2^63:=by omega
   simp only[AMs,ANC];have key:∀(n i:Nat) (b:List AH),i<=s.2.1.length->s.2.1.length-i<n->b.length<=200+i->mH b->
     KO n k s.2.1 s.2.1.length i s.1 s.2.1 s.2.2.1 0 [] [] s.2.2.1 b []=
      some (oG (if decide ((Ea b (N3 k i (s.2.1.drop i))).length<=200)then((Ea b (N3 k i (s.2.1.drop i)),[],s.2.2.1,()),true)else(s,false))):=by
    intro n
    induction n with
    |zero=>omega
    |succ n ih=>
     intro i b hi hn hb yi;simp only[KO,WO,AB];by_cases hc:i<s.2.1.length
     ·have AH9:=AA0 AZc (i:=i) (by omega)
      rw[ALi (by omega),ALi (by omega),ALj (by omega),AMn,AH9,AB,wX hc,As (i:=i) (by omega),drop_cons hc];rw[gm (s.2.1[i]),gz yi (by omega)];simp only[AD];rw[show N3 k i (s.2.1[i]::s.2.1.drop (i+1))=if(k/2^i)%2=1 then s.2.1[i]::N3 k (i+1) (s.2.1.drop (i+1))else N3 k (i+1) (s.2.1.drop (i+1))from rfl];by_cases hbt:(k/2^i)%2=1
      ·rw[ALi hbt,ALi hbt,ih (i+1) _ (by omega) (by omega) (by grind[b_]) (kz yi)]
       rfl
      ·rw[ALj hbt,ALj hbt,ih (i+1) _ (by omega) (by omega) (by omega) yi]
     ·rw[ALj (by omega),ANG (by omega),PG s,JE l1 l2]
      simp only[AD,N3,Ea];by_cases hg:b.length<=200
      ·rw[ALj (by omega),ALi (AOW hg)];rfl
      ·rw[ALi (by omega),ALj (by simp_all)];rfl
   have:=key AU 0 s.1 (by omega) (AZ (by omega)) (by omega) Du.asc;simp_all
theorem dR{s:AL}(hw:Al s<=2^30)(hs:pr s):Qf s=some (oG (CQ s)):=by
 unfold Qf CQ;rw[PG s,bY hw hs];rfl
theorem pR{s:AL}{u:Int}(hw:Al s<=2^30)(hs:pr s):QP s u=some (oG (B6 s u)):=by
 unfold QP B6;rw[PG s,dR hw hs,Ny hw hs,BB];simp only[AD,Ap,oG];cases h1:CS s with
 |false=>
  grind[CQ,Gn]
 |true=>
  grind
theorem sK{s:AL}{ep:Int}(hw:Al s<=2^30)(hs:pr s):SG s ep=some (((),()),(HL s ep,())):=by
 obtain⟨l1,l2⟩:=Gi hw;unfold SG aA HL;rw[PG s,FW hw hs];simp only[AD,Ap];cases h1:CS s with
 |false=>rfl
 |true=>
  have key:∀(n i:Nat) (b:List AH),i<=s.1.length->s.1.length-i<n->b.length<=i->
    MM n ep s.1 s.1.length i b=some (((),()),(b++(s.1.drop i).filter (fun e=>Ah e.1==ep),())):=by
   intro n
   induction n with
   |zero=>omega
   |succ n ih=>
    intro i b hi hn hb;simp only[MM,Zz,AB];by_cases hc:i<s.1.length
    ·rw[ALi (by omega),ALi (by omega),Af hc,D6 (hs.1 _ (AM9 hc)),As (i:=i) (by omega),drop_cons hc,ARP]
     simp only[AD];rw[ALi (by rw[Ak];omega),gm (s.1[i]),ih (i+1) _ (by omega) (by omega) (by simp_all),ih (i+1) b (by omega) (by omega) (by omega)];grind
    grind
  have:=key AU 0 [] (by omega) (AZ (by omega)) (by simp);simp_all
theorem ACT{x:AH}{t:ACJ}:Qx (x.1,x.2.1,x.2.2.1,x.2.2.2.1,()) t=some ((decide (x.1<=t.1),()),()):=rfl
theorem lQ{t:AD9}{l:List AH}(hl:l.length<=2^30):Bw t l=some (((),()),((),l.filter (fun x=> !(decide (x.1<=t.1.1))),())):=by
 have key:∀(n i j:Nat) (b:List AH),i<=j->j<=b.length->b.length<=2^30->b.length-j<n->BR n t i j b=some (((),()),((),b.take i++(b.drop j).filter (fun x=> !(decide (x.1<=t.1.1))),())):=by
  intro n
  induction n with
  |zero=>omega
  |succ n ih=>
   intro i j b hij hj hb hn;simp only[BR,Dc,AB];by_cases hc:j<b.length
   ·rw[ALi (by omega),ALi (by omega),Af hc,ACT]
    simp only[AD];rw[Ab (x:=(j:Int)+1) (by omega),Ab (x:=(i:Int)+1) (by omega),show((j:Int)+1)=((j+1:Nat):Int)by omega,show((i:Int)+1)=((i+1:Nat):Int)by omega,drop_cons hc,ARP];have n1:=ih (i+1) (j+1) (b.set i b[j]) (by omega) (by grind) (by simp_all) (by grind);have n2:=ih i (j+1) b (by omega) (by omega) hb (by omega);rw[show(t.1,())=t from rfl,n2];rw[AWZ (by omega),AR8 (by grind),AWd (AOd _),AV8,ANZ,ATI]at n1;rw[ALi (by omega),AMn,n1]
    generalize hx:b[j]=x
    cases(decide (x.1<=t.1.1))<;>rfl
   ·rw[ALj (by omega),ANG (i:=j) (by omega),AMn,AMn]
    simp_all;omega
 have fnd:∀(n i:Nat),i<=l.length->l.length-i<n-> ∃r:Int,BW n l t l.length i=some ((r,()),())/\((r= -1/\(l.drop i).filter (fun x=> !(decide (x.1<=t.1.1)))=l.drop i)\/ ∃q:Nat,r=q/\i<=q/\q<l.length/\((l.take q).drop i).filter (fun x=> !(decide (x.1<=t.1.1)))=(l.take q).drop i/\ ∀(h:q<l.length) x,x=l[q]->(decide (x.1<=t.1.1))=true):=by
  intro n
  induction n with
  |zero=>omega
  |succ n ih=>
   intro i hi hn;simp only[BW,Di,AB];by_cases hc:i<l.length
   ·rw[ALi (by omega),ALi (by omega),Af hc,ACT]
    simp only[AD];rw[As (i:=i) (by omega),show(t.1,())=t from rfl];obtain⟨r,e,hr⟩:=ih (i+1) (by omega) (by omega);rw[e]
    generalize hx:l[i]=x
    cases hp:(decide (x.1<=t.1.1))with
    |true=>
     grind
    |false=>
     refine⟨r,rfl,?_⟩;rcases hr with⟨h1,h2⟩|⟨q,h1,h2,h3,h4,h5⟩
     ·grind[drop_cons]
     ·refine .inr ⟨q,h1,by omega,h3,?_,h5⟩
      grind[drop_cons]
   grind
 obtain⟨r,e,hr⟩:=fnd AU 0 (by omega) (AZ (by omega));rw[show((0:Nat):Int)=0 from rfl]at e;unfold Bw Dd C1 Dj;rw[show(t.1,())=t from rfl,e];simp only[AD];rcases hr with⟨h1,h2⟩|⟨q,h1,h2,h3,h4,h5⟩
 ·grind
 ·rw[h1,ANL.2 (by omega),ALm,As (i:=q) (by omega),key AU q (q+1) l (by omega) (by omega) hl (AZ (by omega))]
  rw[AQR]at h4;have hd:=h5 h3 _ rfl;grind[List.take_append_drop,drop_cons]
theorem oK{s:AL}{u:Int}(hw:Al s<=2^30)(hs:pr s)(hu:Bi u):UO s u=some (oG (J5 s u)):=by
 obtain⟨l1,l2⟩:=Gi hw;unfold UO J5;rw[PG s,FW hw hs,Ny hw hs,JE l1 l2,JM hu];simp only[AD];cases CS s with
 |false=>rfl
 |true=>
  cases Az u with
  |false=>rfl
  |true=>
   rw[lQ l1];simp only[AD,AL9,ALm,AMx,API,AQm];rw[show(fun x:AH=> !decide (x.1<=(((u,()),()):AD9).1.1))=fun e=>decide (e.1>u)from funext fun x=>by
    grind]
   rfl
theorem AEs{p:Int}{n:Nat}:BJ (Ah p) 1 n=(Az p&&decide (Ah p<=n)):=by
 cases h:Az p with
 |false=>
  unfold Ah;rw[h];rfl
 |true=>
  obtain⟨⟨h1,h2⟩,_⟩:=Hn h;unfold BJ;simp_all
section
variable{c:Ca} {r:AK} (hc:c.1.length<=2^40) (hl:Aa Bm r.1<=2^30) (ht:Bi r.2.1)
include hc hl ht
theorem Wv:GN c r=some (if QT c r then((((),r.2.1,()),()),(r.1,()))else((((),0,()),()),([],()))):=by
 unfold GN;rw[DE c,DE r,Og hc hl ht,IX hl];grind
theorem uo{ns:AAO}(hn:ns.length<=2^30):Nb c r ns=some (((((),(JZ c r ns).1.2.1,()),(JZ c r ns).2.1,(JZ c r ns).2.2,()),()),((JZ c r ns).1.1,())):=by
 have l1:=AR (f:=Bm) (l:=r.1);unfold Nb cJ JZ;rw[DE c,DE r,Og hc hl ht,Wv hc hl ht,IX hl,G6 hc (by omega),EB hn];simp only[AD];cases QT c r with
 |false=>rfl
 |true=>
  cases holds c ns with
  |false=>rfl
  |true=>
   simp only[AL9,ALm,AMx,API,ANC,AQm];by_cases h30:r.1.length=30
   ·simp_all
   ·rw[show((r.1.length:Int)==30)=false by grind,show decide (r.1.length≠30)=true by simp[h30],ALm,ALi (by rw[Ak];omega)]
    simp
theorem rW{b last:Int}:SB c r b last=some (pkR (OH c r b last)):=by
 have l1:=AR (f:=Bm) (l:=r.1);unfold SB OH;rw[DE c,DE r,Og hc hl ht,Wv hc hl ht,IX hl,Ux (by omega)];simp only[AD];rcases ALh (QT c r)with hr|hr
 rotate_left
 ·rw[hr];rfl
 have Du:=LM.1 hr;rw[hr];simp only[AL9,ALm,AMx,API,AQm];by_cases h1:b=r.1.length
 rotate_left
 ·rw[show(b !=(r.1.length:Int))=true by simp_all,show decide (b=(r.1.length:Int))=false by simp_all]
  rfl
 rw[show(b !=(r.1.length:Int))=false by simp_all,show decide (b=(r.1.length:Int))=true by simp_all];simp only[ALm,ANC];by_cases h3:b=BX r.1
 ·rw[show(BX r.1==b)=true by simp_all,show decide (b≠BX r.1)=false by simp_all,AR5,AT6]
  rfl
 have AMo:0<r.1.length:=by
  rcases AUc r.1.length with hz|hz
  ·exact absurd (by rw[h1,hz];unfold BX;rw[hz];rfl) h3
  omega
 obtain⟨k,k1,k2,k3,k4⟩:=UU Du AMo;rw[show(BX r.1==b)=false by grind,show decide (b≠BX r.1)=true by simp_all,show decide (BX r.1≠0)=true by grind,BB];simp only[ALm,ANC,AD];cases BJ last 0 60 with
 |false=>rfl
 |true=>
  simp only[AL9,ALm,AQm];rw[k2,Ab (by omega),show((k:Int)+1-1)=(k:Int)by omega,ALi (by omega),ALi (by simp_all),AMn];unfold pkR Qt;simp_all
theorem uC{p:Int}(hp:Bi p):aF c r p=some (pkR (PZ c r p)):=by
 unfold aF PZ;rw[DE c,DE r,Og hc hl ht,Wv hc hl ht,IX hl,D6 hp];simp only[AD];rw[BB,AEs];simp only[AD];cases QT c r with
 |false=>rfl
 |true=>
  cases Az p&&decide (Ah p<=(r.1.length:Int))with
  |false=>rfl
  |true=>
   simp only[AL9,ALm,AMx,API,AQm];rw[show(if p>r.2.1 then p else r.2.1)=max r.2.1 p by omega];rfl
end
section
variable{c:Ca} {w:AM} (hc:c.1.length<=2^40) (hl:Aa Aw w.2.1<=2^20)
include hc hl
theorem Zq:Fc c w=some (if EW c w then(((w.1,(),()),()),(w.2.1,()))else(((0,(),()),()),([],()))):=by
 unfold Fc;rw[DE c,DE w,J6 hc (by omega),Kh (by show Aa Aw w.2.1<=2^30;omega)];grind
theorem oq{d:ABG}(hd:d.length<=2^20):KY c w d=some (((((CJ c w d).1.1,(),()),(CJ c w d).2.1,(CJ c w d).2.2,()),()),((CJ c w d).1.2.1,())):=by
 have l1:=AR (f:=Aw) (l:=w.2.1);unfold KY W8 CJ;rw[DE c,DE w,Kh (by show Aa Aw w.2.1<=2^30;omega),Zq hc hl];simp only[AD];rw[ALi (by rw[Ak];omega),J6 hc (by omega),J6 hc (by
  grind[Aa,Aw,Ju,List.length_nil])]
 grind
theorem oR{o n:Int}:U8 c w o n=some (pkW (Tk c w o n)):=by
 have l1:=AR (f:=Aw) (l:=w.2.1);unfold U8 Tk;rw[DE c,DE w,J6 hc (by omega),Zq hc hl,Kh (by show Aa Aw w.2.1<=2^30;omega),BB,BB];simp only[AD];rcases ALh (EW c w)with hw|hw
 rotate_left
 ·rw[hw];rfl
 have Du:=Jb.1 hw;have AFe:=Em Du.cfg;rw[hw,Ab (x:=(c.1.length:Int)-1) (by omega)];simp only[AL9,ALm,AMx,API,AQm];rcases ALh (BJ o 1 (w.2.1.length:Int))with ho|ho
 rotate_left
 ·rw[ho];rfl
 have ho':=Ao.1 ho;rw[ho];have hi:(o-1).toNat<w.2.1.length:=by omega
 have ADy:w.2.1.getD (o-1).toNat NQ∈w.2.1:=BN (d:=NQ) hi;have hm:(w.2.1.getD (o-1).toNat NQ).1.length+(w.2.1.getD (o-1).toNat NQ).2.1.length<=Aa Aw w.2.1:=AY (f:=Aw) ADy;have AFT:=(FF.1 (Du.words _ ADy).2.1).2.2;simp only[AL9,ALm,ANC];rw[Ab (x:=o-1) (by omega),ALi (by omega)]
 show cond (w.2.1.getD (o-1).toNat NQ).2.2.1 _ _=_
 cases(w.2.1.getD (o-1).toNat NQ).2.2.1 with
 |true=>
  cases BJ n 0 ((c.1.length:Int)-1)<;>rfl
 |false=>
  cases BJ n 0 ((c.1.length:Int)-1)with
  |false=>rfl
  |true=>
   simp only[ALm,APP,AQm,AL9,Bool.and_self];rw[ALi (by omega),show(w.2.1.getD (o-1).toNat ([],[],false,())).2.1=(w.2.1.getD (o-1).toNat NQ).2.1 from rfl,RM AFT (by omega)];simp only[AD];have hg:∀x:BF,(w.2.1.set (o-1).toNat x).getD (o-1).toNat ([],[],false,())=x:=fun x=>On hi
   rw[hg,G6 hc (by
    grind[UP,NQ])]
   simp only[AD];rw[AVP];rfl
theorem j8{n:Int}:Pm c w n=some (pkW (CZ c w n)):=by
 have l1:=AR (f:=Aw) (l:=w.2.1);unfold Pm Tn CZ;rw[DE c,DE w,J6 hc (by omega),Kh (by show Aa Aw w.2.1<=2^30;omega)];simp only[AD];cases EW c w with
 |false=>rfl
 |true=>
  simp only[AL9,ALm,AMx,API];have key:∀(k i:Nat),i<=w.2.1.length->w.2.1.length-i<k->Iv k n w.2.1 w.2.1.length i 0 [] w.1 ((w.2.1.map (FH n)).take i++w.2.1.drop i)=some (pkW ((w.1,w.2.1.map (FH n),()),true)):=by
   intro k
   induction k with
   |zero=>omega
   |succ k ih=>
    intro i hi hk;have hlen:((w.2.1.map (FH n)).take i++w.2.1.drop i).length=w.2.1.length:=Q6 hi;simp only[Iv,Tj,AB,hlen];by_cases Ds:i<w.2.1.length
    ·have c1:(0:Int)<=(i:Int)/\(i:Int)<(w.2.1.length:Int):=by omega
     have hm:w.2.1[i].1.length+w.2.1[i].2.1.length<=Aa Aw w.2.1:=AY (f:=Aw) (AM9 Ds);have hg:((w.2.1.map (FH n)).take i++w.2.1.drop i).getD ((i:Int).toNat) ([],[],false,())=w.2.1[i]:=OJ Ds;rw[ALi c1.2];simp only[ALi c1,hg];rw[Af Ds,As (i:=i) (by omega)];rcases ALh (w.2.1[i].2.2.1)with hd|hd
     ·rw[hd]
      simp only[AL9,ALm];grind[pQ,sn]
     ·rw[hd]
      simp only[APP,AMs];rw[Re (by omega)];grind[AD,Int.toNat_natCast,Sf,FH]
    ·rw[ALj (by omega),ANG (by omega)]
     have:i=w.2.1.length:=by omega
     subst this;rw[ANV,AQL (by simp)];rfl
  have:=key AU 0 (by omega) (AZ (by omega));simp_all
end
section
variable{c:Ca} {m:BA} (hc:c.1.length<=2^40) (hm:CK m<=2^20) (h:mF m.2.2.2.1)
include hc hm h
theorem Ul:FJ c m=some (if HI c m then(((m.1,m.2.1,(),(),m.2.2.2.2.1,(),()),()),(m.2.2.1,m.2.2.2.1,m.2.2.2.2.2.1,()))else(((0,0,(),(),false,(),()),()),([],[],[],()))):=by
 unfold FJ;rw[DE c,V1 m,Ix hc (by omega) h,H8 (by omega)];grind
theorem uh{o n:Int}:NV c m o n=some (mQ (VB c m o n)):=by
 obtain⟨h1,h2,h3,h4⟩:=H9 hm;unfold NV VB;rw[DE c,V1 m,Ix hc (by omega) h,Ul hc hm h,H8 (by omega),BB,BB];simp only[AD];rcases ALh (HI c m)with hw|hw
 rotate_left
 ·rw[hw];rfl
 have Du:=HU.1 hw;have AFe:=Em Du.cfg;rw[hw,Ab (x:=(c.1.length:Int)-1) (by omega)];simp only[AL9,ALm,AMx,API,AQm];rcases ALh (BJ o 1 (m.2.2.2.2.2.1.length:Int))with ho|ho
 rotate_left
 ·rw[ho];rfl
 have ho':=Ao.1 ho;rw[ho];cases BJ n 0 ((c.1.length:Int)-1)with
 |false=>rfl
 |true=>
  have hi:(o-1).toNat<m.2.2.2.2.2.1.length:=by omega
  have ADy:=BN (d:=([]:AAO)) hi;have hq:=h4 _ ADy;have AFT:=(FF.1 (Du.wrote _ ADy)).2.2;simp only[AL9,ALm,ANC,AQm];rw[Ab (by omega),ALi (by omega),RM AFT (by omega)];simp only[AD];rw[ALi (by omega)];rfl
theorem nZ{n:Int}:Sg c m n=some (mQ (CU c m n)):=by
 obtain⟨h1,h2,h3,h4⟩:=H9 hm;unfold Sg V6 CU;rw[DE c,V1 m,Ix hc (by omega) h,H8 (by omega)];simp only[AD];cases HI c m with
 |false=>rfl
 |true=>
  simp only[AL9,ALm,AMx,API];have key:∀(k i:Nat),i<=m.2.2.2.2.2.1.length->m.2.2.2.2.2.1.length-i<k->Ka k n m.2.2.2.2.2.1 m.2.2.2.2.2.1.length i 0 0 false [] [] [] m.1 m.2.1 m.2.2.2.2.1 m.2.2.1 m.2.2.2.1 ((m.2.2.2.2.2.1.map (fun l=>less l [n])).take i++m.2.2.2.2.2.1.drop i)=
    some (mQ ((m.1,m.2.1,m.2.2.1,m.2.2.2.1,m.2.2.2.2.1,m.2.2.2.2.2.1.map (fun l=>less l [n]),()),true)):=by
   intro k
   induction k with
   |zero=>omega
   |succ k ih=>
    intro i hi hk;have hlen:=Q6 (f:=fun l=>less l [n]) hi;simp only[Ka,V3,AB,hlen];by_cases Ds:i<m.2.2.2.2.2.1.length
    ·have c1:(0:Int)<=(i:Int)/\(i:Int)<(m.2.2.2.2.2.1.length:Int):=by omega
     have hq:=h4 _ (AM9 Ds);rw[ALi c1.2];simp only[ALi c1];rw[Af Ds,As (i:=i) (by omega),Re (by omega)];simp only[AD];rw[AMn,Sf Ds rfl];grind
    ·rw[ALj (by omega),ANG (by omega)]
     have:i=m.2.2.2.2.2.1.length:=by omega
     subst this;rw[ANV,AQL (by simp)];rfl
  have:=key AU 0 (by omega) (AZ (by omega));simp_all
theorem pX:QL c m=some ((Wm c m,()),()):=by
 obtain⟨h1,h2,h3,h4⟩:=H9 hm;unfold QL X_ Wm;rw[DE c,V1 m,Ix hc (by omega) h];simp only[AD];cases HI c m with
 |false=>rfl
 |true=>
  rcases ALh m.2.2.2.2.1 with hp|hp
  rotate_left
  ·simp_all
  have key:∀(k i:Nat),i<=m.2.2.2.2.2.1.length->m.2.2.2.2.2.1.length-i<k->LU k m.2.2.2.2.2.1 m.2.2.2.2.2.1.length i c.1 c.2.1=some (((m.2.2.2.2.2.1.drop i).all (holds c),()),()):=by
   intro k
   induction k with
   |zero=>omega
   |succ k ih=>
    intro i hi hk;simp only[LU,Yd,AB];by_cases Ds:i<m.2.2.2.2.2.1.length
    ·have c1:(0:Int)<=(i:Int)/\(i:Int)<(m.2.2.2.2.2.1.length:Int):=by omega
     have hq:=h4 _ (AM9 Ds);rw[ALi c1.2,ALi c1,As (i:=i) (by omega),Af Ds,drop_cons Ds,DE c,G6 hc (by omega),ih (i+1) (by omega) (by omega)];simp only[AD,ASy];cases holds c m.2.2.2.2.2.1[i]<;>rfl
    grind
  have:=key AU 0 (by omega) (AZ (by omega));simp_all
omit hc h in
theorem du{o:Int}:IZ m o=some ((((Ec m o).getD D_,(Ec m o).isSome,()),()),()):=by
 obtain⟨h1,h2,h3,h4⟩:=H9 hm;unfold IZ Yk Ec;rw[HV];simp only[AD];cases m.2.2.2.2.1 with
 |false=>
  simp only[AR5,AMx,API,APP,AMs];cases(BJ m.2.1 1 30&&BJ o 1 60)<;>rfl
 |true=>
  simp only[AL9,ALm,ANC];rcases ALh (BJ m.2.1 1 30)with he|he
  rotate_left
  ·rw[he];rfl
  rcases ALh (BJ o 1 60)with ho|ho
  rotate_left
  ·rw[he,ho];rfl
  have hp:EU m.2.1 o=Hr m.2.1 o:=by unfold EU;rw[he,ho];rfl
  rw[he,ho,hp];simp only[AQp,AL9,ALm,ANC];by_cases hl:o<=m.2.2.2.2.2.1.length
  ·rw[show decide (o>(m.2.2.2.2.2.1.length:Int))=false by simpa using hl,show decide (o<=(m.2.2.2.2.2.1.length:Int))=true by simpa using hl]
   simp only[ALm,AQm];have key:∀(k i:Nat),i<=m.2.2.2.1.length->m.2.2.2.1.length-i<k->Li k (Hr m.2.1 o) m.2.2.2.1 m.2.2.2.1.length i m.1 m.2.1 m.2.2.1 m.2.2.2.1 true m.2.2.2.2.2.1 0 0 false []=
     some ((((match Qm (Hr m.2.1 o) (m.2.2.2.1.drop i)with
      |some x=>(Hr m.2.1 o,m.1,x.2.2.1,x.2.2.2.1,())
      |none=>(Hr m.2.1 o,m.1,true,[],())),true,()),()),()):=by
    intro k
    induction k with
    |zero=>intro i _ h;omega
    |succ k ih=>
     intro i hi hk;simp only[Li,YN,AB];by_cases Ds:i<m.2.2.2.1.length
     ·have c1:(0:Int)<=(i:Int)/\(i:Int)<(m.2.2.2.1.length:Int):=by omega
      rw[ALi c1.2,ALi c1,As (i:=i) (by omega),Af Ds,drop_cons Ds,ih (i+1) (by omega) (by omega)];unfold Qm;rw[AUZ];cases hx:m.2.2.2.1[i].1==Hr m.2.1 o<;>rfl
     ·rw[ALj (by omega),ANG (by omega)]
      rfl
   have:=key AU 0 (by omega) (AZ (by omega));rw[show((0:Nat):Int)=0 from rfl,AQR]at this;rw[this];cases Qm (Hr m.2.1 o) m.2.2.2.1<;>rfl
  ·rw[show decide (o>(m.2.2.2.2.2.1.length:Int))=true by simp;omega,show decide (o<=(m.2.2.2.2.2.1.length:Int))=false by simp;omega]
   rfl
theorem qh{s:AAO}(hs:s.length<=2^20):Rw c m s=some (mQ (Me c m s)):=by
 obtain⟨h1,h2,h3,h4⟩:=H9 hm;unfold Rw Me;rw[DE c,V1 m,Ix hc (by omega) h,Ul hc hm h,H8 (by omega),jW (by omega) h];simp only[AD];rcases ALh (HI c m)with Du|Du
 rotate_left
 ·rw[Du];rfl
 have hmo:=HU.1 Du;rw[Du];simp only[AQm];rcases ALh m.2.2.2.2.1 with hp|hp
 ·rw[hp]
  simp only[AL9,ALm,AMs,AR5,AMx,API,mQ,hp]
 have hfl:(m.2.2.1.filter s.contains).length<=m.2.2.1.length:=APg _ _;rw[hp];simp only[AL9,APP,ALm,AMx,API,ANC];rw[hU (by omega) (by omega)];simp only[AD];rw[kE hc (by omega) hs];simp only[AD];cases TK c s (m.2.2.1.filter s.contains)with
 |false=>simp[mQ,hp]
 |true=>
  simp only[AL9,ALm,AQm];have hlb:=IW (l:=m.2.2.2.1);rw[ALi ⟨hlb.1,Int.le_refl _,by rw[Ak];omega⟩];rfl
theorem qN{n:Int}{l:List AH}(hl:l.length<=2^20)(RW:mF l)(hw:Aa Ag l<=2^20):SJ c m n l=some (mQ (P6 c m n l)):=by
 obtain⟨h1,h2,h3,h4⟩:=H9 hm;unfold SJ Zv P6;rw[DE c,V1 m,Ix hc (by omega) h,Ul hc hm h,H8 (by omega)];simp only[AD];rcases ALh (HI c m)with Du|Du
 rotate_left
 ·rw[Du];rfl
 have hmo:=HU.1 Du;have AFT:=(FF.1 hmo.sld).2.2;rw[Du];simp only[AL9,ALm,AMx,API,AQm];rcases ALh m.2.2.2.2.1 with hp|hp
 ·grind[mQ]
 rw[hp,RM AFT (by omega)];simp only[AD,ALm,APP,ANC];have key:∀(k i:Nat) (b:List AH),i<=l.length->l.length-i<k->b.length<=2^20+i->mH b->mF b->Aa Ag b+Aa Ag (l.drop i)<=2^21->
   MZ k l l.length i c.1 c.2.1 m.1 m.2.1 m.2.2.1 m.2.2.2.1 false m.2.2.2.2.2.1 0 0 false [] [] [] m.1 m.2.1 false (Ov n m.2.2.1) b m.2.2.2.2.2.1=
   some (mQ (if HI c (m.1,m.2.1,Ov n m.2.2.1,Ea b ((l.drop i).filter fun e=>Ah e.1==m.2.1),false,m.2.2.2.2.2.1,())then
    ((m.1,m.2.1,Ov n m.2.2.1,Ea b ((l.drop i).filter fun e=>Ah e.1==m.2.1),false,m.2.2.2.2.2.1,()),true)else(m,false))):=by
  intro k
  induction k with
  |zero=>omega
  |succ k ih=>
   intro i b hi hk hb yi hbi wE;simp only[MZ,Zs,AB];by_cases Ds:i<l.length
   ·have c1:(0:Int)<=(i:Int)/\(i:Int)<(l.length:Int):=by omega
    rw[ALi c1.2];simp only[ALi c1];rw[As (i:=i) (by omega),Af Ds,drop_cons Ds,gm (l[i]),D6 (RW _ (AM9 Ds)),gz yi (by omega)];rw[drop_cons Ds]at wE;simp only[Aa]at wE;simp only[AD,ARP];rcases ALh (Ah l[i].1==m.2.1)with he|he
    ·simp only[he,AMs,AQm,Ea]
     have:=b_ (e:=l[i]) (l:=b);have hwk:=AFc l[i] b;exact ih (i+1) _ (by omega) (by omega) (by omega) (kz yi) (fun x hx=>by
      rcases lL hx with rfl|hx
      ·exact RW _ (AM9 Ds)
      ·exact hbi x hx) (by omega)
    grind
   ·rw[ALj (by omega),ANG (by omega),DE c,H8 (m:=(m.1,m.2.1,m.2.2.1,m.2.2.2.1,false,m.2.2.2.2.2.1,())) (by
     grind)]
    simp only[AWW,Ea];rw[ANG (by omega)]at wE;simp only[Aa]at wE;have hpl:=UP (n:=n) (l:=m.2.2.1);have hb2:=AR (f:=Ag) (l:=b);rw[Ix (m:=(m.1,m.2.1,Ov n m.2.2.1,b,false,m.2.2.2.2.2.1,())) hc (by
     grind[CK]) hbi]
    grind[AD,HI,Ov,mQ]
 have hsw:Aa Ag m.2.2.2.1<=2^20:=by
  grind[CK]
 have:=key AU 0 m.2.2.2.1 (by omega) (AZ (by omega)) (by omega) hmo.asc h (by grind);simp_all
end
theorem vy{c:Ca}{l:AAO}(hc:c.1.length<=2^20)(hl:l.length<=2^20):dj c l=some ((BI c l&& !holds c l,()),()):=by
 unfold dj;rw[DE c,EV (by omega) (by omega),G6 (by omega) (by omega)];grind
theorem ya{ss:List AL}(hs:ss.length<=1024)(h:∀s∈ss,s.1.length<=1024)(hw:∀s∈ss,Al s<=2^30)(RW:∀s∈ss,pr s)(Du:∀s∈ss,CS s=true):nw ss=some (((),()),(HJ [] ss,())):=by
 have key:∀n:Nat,
   (∀(i:Nat) (b:List AH),i<=ss.length->(ss.length-i)*1026+1<=n->b.length<=i*1024->mH b->
    Om n ss ss.length i b=some (((),()),(HJ b (ss.drop i),())))/\
   (∀(i j:Nat) (b:List AH),(hi:i<ss.length)->j<=ss[i].1.length->(ss.length-i-1)*1026+1+(ss[i].1.length-j)+1<=n->b.length<=i*1024+j->mH b->
    Ot n ss ss.length i ss[i].1 ss[i].1.length j b=some (((),()),(HJ (Ea b (ss[i].1.drop j)) (ss.drop (i+1)),()))):=by
  intro n
  induction n with
  |zero=>simp_all
  |succ n ih=>
   refine⟨fun i b hi h' hb yi=> ?_,fun i j b hi hj h' hb yi=> ?_⟩
   ·simp only[Om,gR,AB]
    by_cases hc:i<ss.length
    ·have hmm:=AM9 hc
     have hm:=h _ hmm;rw[ALi (by omega),ALi (by omega),Af hc,PG (ss[i]),FW (hw _ hmm) (RW _ hmm),Du _ hmm];have e1:(ss.length-i)*1026=(ss.length-i-1)*1026+1026:=by
      omega
     have:=ih.2 i 0 b hc (by omega) (by omega) (by omega) yi;rw[show((0:Nat):Int)=0 from rfl,AQR]at this;simp only[AD,AL9,ALm];rw[this,drop_cons hc];rfl
    ·rw[ALj (by omega),ANG (by omega)]
     rfl
   ·have hm:=h _ (AM9 hi)
    simp only[Ot,fy,AB];have hbb:i*1024<=2^20:=by
     omega
    by_cases hc:j<ss[i].1.length
    ·have c2:(0:Int)<=(j:Int)/\(j:Int)<(ss[i].1.length:Int):=by omega
     rw[ALi c2.2,ALi c2,Af hc,gm (ss[i].1[j]),gz yi (by omega)];simp only[AD];rw[As (i:=j) (by omega),drop_cons hc];have hk:=b_ (e:=ss[i].1[j]) (l:=b);exact ih.2 i (j+1) _ hi (by omega) (by omega) (by omega) (kz yi)
    ·rw[ALj (by omega),As (i:=i) (by omega),ANG (by omega)]
     exact ih.1 (i+1) b (by omega) (by grind) (by omega) yi
 have hf:(ss.length-0)*1026+1<=AU:=by
  have:ss.length*1026<=1024*1026:=AOV _ hs;exact ATW (AZ (by omega))
 exact(key AU).1 0 [] (by omega) hf (by simp) List.Pairwise.nil
theorem ABn{c:Ca}{ss:List AL}{lost:AAO}{n upto:Int}(hc:c.1.length<=2^20)(hs:ss.length<=1024)(hn:∀s∈ss,s.1.length<=1024)(hw:Aa Al ss<=2^24)(RW:∀s∈ss,pr s)(hl:lost.length<=2^20):
  fo c lost n upto ss=some (pkF ss (fk c ss lost n upto)):=by
 have hfs:fk c ss lost n upto=ADV (Gh c&&(decide (ss.length=c.1.length)&&(BI c lost&&(!holds c lost&&(lost.contains n&&((others lost 0 ss).all CS&&CS (HJ [] (others lost 0 ss),[],upto,()))))))) (HJ [] (others lost 0 ss),[],upto,()):=rfl;rw[hfs];unfold fo jI;rw[DE c,vy hc hl,J2 (by omega)];simp only[AD,Ap,C9];have key:∀(k i:Nat) (o:List AL),(∀s∈o,s∈ss)->(∀s∈o,CS s=true)->i<=ss.length->ss.length-i<k->o.length<=i->Aa Al o+Aa Al (ss.drop i)<=2^24->
   Vc k lost upto ss.length i ss 0 [] [] o=some (pkF ss (ADV ((others lost i (ss.drop i)).all CS&&CS (HJ [] (o++others lost i (ss.drop i)),[],upto,())) (HJ [] (o++others lost i (ss.drop i)),[],upto,()))):=by
  intro k
  induction k with
  |zero=>omega
  |succ k ih=>
   intro i o ho Du hi h hol how;simp only[Vc,jP,AB,Ap];by_cases Ds:i<ss.length
   ·have c1:(0:Int)<=(i:Int)/\(i:Int)<(ss.length:Int):=by omega
    have c2:o.length+1<=C7:=by rw[Ak];omega
    have hmm:=AM9 Ds;have AfP:=AY (f:=Al) hmm;rw[drop_cons Ds]at how;simp only[Aa]at how;rw[ALi c1.2,ALi c1,J2 (by omega),Af Ds,PG (ss[i]),FW (by omega) (RW _ hmm),As (i:=i) (by omega)];simp only[AD];rw[drop_cons Ds];simp only[others];rcases ALh (lost.contains (i:Int))with hb|hb
    ·rw[hb]
     simp only[AMs,AQm];exact ih (i+1) o ho Du (by omega) (by omega) (by omega) (by omega)
    ·rw[hb]
     simp only[ALm,AMx,API];rcases ALh (CS ss[i])with hg|hg
     ·rw[hg]
      simp only[AMs,ASy,hg,ANC];rw[ALi c2,ih (i+1) (o++[ss[i]]) (fun s hs=>by
       grind) (fun s hs=>by
       grind) (by omega) (by omega) (by simp_all) (by grind[Ju,Aa])]
      simp_all
     ·rw[hg]
      simp only[ALm,ASy,hg,AR5];rfl
   ·have hu:=AEL (l:=o) (k:=[])
    simp only[Aa]at hu;have AeK:Aa Al o<=2^24:=by omega
    rw[ALj (by omega),ANG (by omega),ya (by omega) (fun s hs=>hn s (ho s hs)) (fun s hs=>by grind[AY,Al]) (fun s hs=>RW s (ho s hs)) Du];simp only[AD,others,ANV,List.all_nil,ANC];rw[FW (s:=(HJ [] o,[],upto,())) (by show Aa Ag (HJ [] o)+Aa Ag []<=_;grind[Aa]) ⟨fun e he=>by
     rcases rv he with he|⟨t,ht,he⟩
     ·simp_all
     ·exact(RW t (ho t ht)).1 e he,fun e he=>by simp_all⟩]
    simp only[AD];rcases ALh (CS (HJ [] o,[],upto,()))with hb|hb<;>rw[hb]<;>rfl
 have:=key AU 0 [] (by simp) (by simp) (by omega) (AZ (by omega)) (by simp) (by grind[Aa]);rw[show((0:Nat):Int)=0 from rfl,AQR,AQH]at this;rw[this];rcases ALh (BI c lost)with h1|h1
 rotate_left
 ·rw[h1]
  by_cases h2:ss.length=c.1.length
  ·rw[ALi (by omega)]
   simp only[AR5,AT6,ALm];rfl
  ·rw[ALj (by omega)]
   simp only[AR5,AT6];rfl
 have AFe:Gh c=true:=(FF.1 h1).1;rw[h1,AFe];simp only[ANC];by_cases h2:ss.length=c.1.length
 rotate_left
 ·rw[ALj (by omega),AQS h2]
  rfl
 rw[ALi (by omega),AOW h2];simp only[ANC];cases holds c lost with
 |true=>rfl
 |false=>
  cases lost.contains n with
  |false=>rfl
  |true=>rfl
def Ab8(q:AA×Int):eP:=((q.2,()),(((),q.1.2.1,(),(),(),q.1.2.2.2.2.2.1,(),(),(),(),q.1.2.2.2.2.2.2.2.2.2.2.1,()),q.1.1,q.1.2.2.1,q.1.2.2.2.1,(),(),(),q.1.2.2.2.2.2.2.2.2.1,q.1.2.2.2.2.2.2.2.2.2.1,q.1.2.2.2.2.1,q.1.2.2.2.2.2.2.1,q.1.2.2.2.2.2.2.2.1,()))
def AWz(q:AA×Int):gF:=((q.2,()),(((),q.1.2.1,(),(),(),q.1.2.2.2.2.2.1,(),(),(),(),q.1.2.2.2.2.2.2.2.2.2.2.1,()),q.1.1,q.1.2.2.1,q.1.2.2.2.1,q.1.2.2.2.2.1,q.1.2.2.2.2.2.2.1,q.1.2.2.2.2.2.2.2.1,q.1.2.2.2.2.2.2.2.2.1,(),q.1.2.2.2.2.2.2.2.2.2.1,()))
def ANd(q:AA×Int):I8:=((q.2,()),(((),q.1.2.1,(),(),(),q.1.2.2.2.2.2.1,(),(),(),(),q.1.2.2.2.2.2.2.2.2.2.2.1,()),q.1.1,q.1.2.2.1,(),q.1.2.2.2.2.1,q.1.2.2.2.2.2.2.1,q.1.2.2.2.2.2.2.2.1,q.1.2.2.2.2.2.2.2.2.1,q.1.2.2.2.2.2.2.2.2.2.1,q.1.2.2.2.1,()))
def Acq(q:AA×Int):eN:=((q.2,()),(((),q.1.2.1,(),(),(),q.1.2.2.2.2.2.1,(),(),(),(),q.1.2.2.2.2.2.2.2.2.2.2.1,()),q.1.1,q.1.2.2.1,q.1.2.2.2.1,q.1.2.2.2.2.1,q.1.2.2.2.2.2.2.1,(),q.1.2.2.2.2.2.2.2.2.1,q.1.2.2.2.2.2.2.2.2.2.1,q.1.2.2.2.2.2.2.2.1,()))
def AaB(q:AA×Int):cc:=((q.2,()),(((),q.1.2.1,(),(),(),q.1.2.2.2.2.2.1,(),(),(),(),q.1.2.2.2.2.2.2.2.2.2.2.1,()),q.1.1,q.1.2.2.1,q.1.2.2.2.1,(),q.1.2.2.2.2.2.2.1,(),q.1.2.2.2.2.2.2.2.2.1,q.1.2.2.2.2.2.2.2.2.2.1,q.1.2.2.2.2.1,q.1.2.2.2.2.2.2.2.1,()))
theorem ABb{m:BA}{b:Int}{e:AH}(h:Ec m b=some e):Bi e.1:=by
 unfold Ec at h;split at h
 ·rename_i hc
  simp only[AL8,Ao]at hc;grind[J9,Hy]
 simp_all
theorem pw{α:Type}{l:List α}{i:Nat}{d:α}:l.set i (l.getD i d)=l:=by
 by_cases h:i<l.length
 ·simp_all
 grind[List.set_eq_of_length_le]
def wH(w:AA)(n ep:Int):Int:=if Ay w n=0 then if(Br w.BQ ep).contains n then 0 else 2 else Ay w n
section
variable{w:AA} (h:RS w)
include h
theorem TL{n ep:Int}(he:Bi ep):Dx w n ep=some ((wH w n ep,()),()):=by
 obtain⟨k1,k4,k3,k5,k7,_,k2,_,_,_,_,_,gg,qM,oH⟩:=h.nums;unfold Dx wH;rw[MU (by omega) (by omega),show(w.2.2.2.2.1,w.2.2.2.2.2.1,())=Cl w from rfl,Qv (r:=Cl w) (by show Aa Bm w.2.2.2.2.1<=_;omega) he];have Xj:(Br w.BQ ep).length<=8:=HN h;rw[show(Cl w).1=w.BQ from rfl];simp only[AD,De];rw[J2 (by omega)];grind
theorem de{n:Int}{e:AH}(hn:Ay w n=0)(he:Bi e.1):NJ n e w.2.1 w.2.2.2.2.2.1 w.2.2.2.2.2.2.2.2.2.2.1 w.1 w.2.2.1 w.2.2.2.1 w.2.2.2.2.1 w.2.2.2.2.2.2.1 w.2.2.2.2.2.2.2.1 w.2.2.2.2.2.2.2.2.1 w.2.2.2.2.2.2.2.2.2.1=some (sF (putAt w n (Ht (storeAt w n) e))):=by
 obtain⟨hr,s1,s2,s3⟩:=h.Mz hn;have fU:w.2.2.1.getD n.toNat ([],[],0,())=storeAt w n:=rfl;unfold NJ putAt;simp only[ALi hr,fU];rw[show((storeAt w n).1,(storeAt w n).2.1,(storeAt w n).2.2.1,())=storeAt w n from rfl,gm e,qP s1 s2 he];simp only[AD,oG,Q8];cases(Ht (storeAt w n) e).2<;>rfl
theorem nc{a:Int}:LA a w.2.1 w.2.2.2.2.2.1 w.2.2.2.2.2.2.2.2.2.2.1 w.1 w.2.2.1 w.2.2.2.1 w.2.2.2.2.1 w.2.2.2.2.2.2.1 w.2.2.2.2.2.2.2.1 w.2.2.2.2.2.2.2.2.1 w.2.2.2.2.2.2.2.2.2.1=some (Ab8 (O6 w a)):=by
 have k:=h.nums;have k1:=k.c;have k2:=k.wr;have k3:=k.lost;have k4:=k.st;have gg:=k.wr';have oH:=k.jh;have qM:=k.st';have k5:=k.era;have k7:=k.AFo;unfold LA UZ O6;rw[De];by_cases h4:w.2.2.2.2.2.2.1.length=4
 ·rw[ALi (by omega),ALi h4];rfl
 have hm:(Bf a).length<=8:=ADR;rw[ALj (by omega),ALj h4,dw];simp only[AD];rw[show(w.1,w.2.1,())=Ae w from rfl,show(w.2.2.2.2.1,w.2.2.2.2.2.1,())=Cl w from rfl,uo (c:=Ae w) (r:=Cl w) (by show w.1.length<=_;omega) (by show Aa Bm w.2.2.2.2.1<=_;omega) k.trim (by omega)];simp only[AD,Ap];rcases ALh (JZ (Ae w) (Cl w) (Bf a)).2.2 with hq|hq
 ·rw[hq,ALi (by rw[Ak];omega),Gk];rfl
 ·rw[hq,Jm];rfl
theorem mB{d:Am}:KG d w.2.1 w.2.2.2.2.2.1 w.2.2.2.2.2.2.2.2.2.2.1 w.1 w.2.2.1 w.2.2.2.1 w.2.2.2.2.1 w.2.2.2.2.2.2.1 w.2.2.2.2.2.2.2.1 w.2.2.2.2.2.2.2.2.1 w.2.2.2.2.2.2.2.2.2.1=some (sF (K3 w d.2.1 d.2.2.1 d.2.2.2.1)):=by
 obtain⟨k1,k4,k3,k5,k7,_,k2,_,_,_,_,_,gg,qM,oH⟩:=h.nums;unfold KG Sy K3;rw[Fa w,Ab (x:=(w.2.2.2.2.2.2.1.length:Int)-1) (by omega),BB];simp only[AD,Ap,C9];rw[show BJ d.2.1 0 ((w.2.2.2.2.2.2.1.length:Int)-1)=BJ d.2.1 0 ((w.AO.length:Int)-1)from rfl];rcases ALh (BJ d.2.1 0 ((w.AO.length:Int)-1))with h1|h1
 rotate_left
 ·rw[h1,Jm];rfl
 obtain⟨x1,x2,x3⟩:=h.kP h1;rw[h1,AMs,Gk,ALi x1,BB];simp only[AD];rw[show w.2.2.2.2.2.2.1.getD d.2.1.toNat (0,[],())=w.AO.getD d.2.1.toNat CN from rfl]
 generalize hx:w.AO.getD d.2.1.toNat CN=x at*
 rcases ALh (BJ d.2.2.1 1 (x.2.1.length:Int))with h2|h2
 rotate_left
 ·rw[h2,Jm];rfl
 have h2':=Ao.1 h2;have hxl:=x2.n;have hxe:=x2.ep;have hpl:=J9 (e:=x.1) (o:=d.2.2.1) hxe (by omega);have hpm:EU x.1 d.2.2.1=Hr x.1 d.2.2.1:=by
  grind[EU,Ao]
 rw[h2,AMs,Gk,TL h ⟨by omega,by omega⟩,HV,hpm,Ab (by omega)];simp only[AD,ALi (show(0:Int)<=d.2.2.1-1/\d.2.2.1-1<(x.2.1.length:Int)by omega)];unfold wH;by_cases h3:Ay w d.2.2.2.1=0
 rotate_left
 ·rw[ALj h3,ALj h3,ALi h3];rfl
 rw[ALi h3,ALj (show¬(Ay w d.2.2.2.1≠0)from fun hh=>hh h3)];rcases ALh ((Br w.BQ x.1).contains d.2.2.2.1)with h5|h5
 rotate_left
 ·rw[h5,Jm];rfl
 rw[h5,Gk,ALi rfl,ALi rfl,de h h3 (Hy hpl.1)];rfl
theorem l7{n k:Int}:RL n k w.2.1 w.2.2.2.2.2.1 w.2.2.2.2.2.2.2.2.2.2.1 w.1 w.2.2.1 w.2.2.2.1 w.2.2.2.2.1 w.2.2.2.2.2.2.1 w.2.2.2.2.2.2.2.1 w.2.2.2.2.2.2.2.2.1 w.2.2.2.2.2.2.2.2.2.1=some (sF (K0 w n k)):=by
 obtain⟨k1,k4,k3,k5,k7,_,k2,_,_,_,_,_,gg,qM,oH⟩:=h.nums;unfold RL K0;rw[Fa w,MU (by omega) (by omega)];simp only[AD,C9];by_cases h3:Ay w n=0
 rotate_left
 ·rw[ALj h3,ALi h3];rfl
 obtain⟨hr,s1,s2,s3⟩:=h.Mz h3;have fU:w.2.2.1.getD n.toNat ([],[],0,())=storeAt w n:=rfl;rw[ALi h3,ALj (show¬(Ay w n≠0)from fun hh=>hh h3)];simp only[ALi hr,fU];rw[show((storeAt w n).1,(storeAt w n).2.1,(storeAt w n).2.2.1,())=storeAt w n from rfl,bY s1 s2];simp only[AD,oG,Q8];unfold putAt;rcases ALh (Gn (storeAt w n) k).2 with hq|hq
 ·rw[hq];rfl
 ·have e:(Gn (storeAt w n) k).1=storeAt w n:=by
   unfold Gn at hq|-;rw[Da.2 s3]at hq|-;grind
  rw[hq,e];have:w.2.2.1.set n.toNat ((storeAt w n).1,(storeAt w n).2.1,(storeAt w n).2.2.1,())=w.2.2.1:=pw;rw[this];rfl
theorem mC{n:Int}:Q5 n w.2.1 w.2.2.2.2.2.1 w.2.2.2.2.2.2.2.2.2.2.1 w.1 w.2.2.1 w.2.2.2.1 w.2.2.2.2.1 w.2.2.2.2.2.2.1 w.2.2.2.2.2.2.2.1 w.2.2.2.2.2.2.2.2.1 w.2.2.2.2.2.2.2.2.2.1=some (sF (Kz w n)):=by
 have k:=h.nums;have k1:=k.c;have k2:=k.wr;have k3:=k.lost;have k4:=k.st;have gg:=k.wr';have oH:=k.jh;have qM:=k.st';have k5:=k.era;have k7:=k.AFo;unfold Q5 Kz;rw[Fa w,MU (by omega) (by omega)];simp only[AD,C9];by_cases h3:Ay w n=0
 rotate_left
 ·rw[ALj h3,ALi h3];rfl
 obtain⟨hr,s1,s2,s3⟩:=h.Mz h3;have fU:w.2.2.1.getD n.toNat ([],[],0,())=storeAt w n:=rfl;rw[ALi h3,ALj (show¬(Ay w n≠0)from fun hh=>hh h3)];simp only[ALi hr,fU];rw[show((storeAt w n).1,(storeAt w n).2.1,(storeAt w n).2.2.1,())=storeAt w n from rfl,oK s1 s2 k.trim];simp only[AD,oG,Q8];unfold putAt;rw[show w.trim=w.2.2.2.2.2.1 from rfl];rcases ALh (J5 (storeAt w n) w.2.2.2.2.2.1).2 with hq|hq
 ·rw[hq];rfl
 ·have e:(J5 (storeAt w n) w.2.2.2.2.2.1).1=storeAt w n:=by
   unfold J5 at hq|-;rw[Da.2 s3]at hq|-;grind
  rw[hq,e];have:w.2.2.1.set n.toNat ((storeAt w n).1,(storeAt w n).2.1,(storeAt w n).2.2.1,())=w.2.2.1:=pw;rw[this];rfl
theorem mi:Sp w.2.1 w.2.2.2.2.2.1 w.2.2.2.2.2.2.2.2.2.2.1 w.1 w.2.2.1 w.2.2.2.1 w.2.2.2.2.1 w.2.2.2.2.2.2.1 w.2.2.2.2.2.2.2.1 w.2.2.2.2.2.2.2.2.1 w.2.2.2.2.2.2.2.2.2.1=some (Acq (O_ w)):=by
 obtain⟨k1,k4,k3,k5,k7,_,k2,_,_,_,_,_,gg,qM,oH⟩:=h.nums;unfold Sp O_;rw[show(w.2.2.2.2.1,w.2.2.2.2.2.1,())=Cl w from rfl,Ux (r:=Cl w) (by show w.2.2.2.2.1.length<=_;omega)];simp only[AD,De,AB];rw[show(Cl w).1=w.BQ from rfl];by_cases h1:(w.2.2.2.2.1.length:Int)<2
 ·rw[ALi h1,show(decide ((w.2.2.2.2.1.length:Int)<2)||decide (BX w.2.2.2.2.1=(w.2.2.2.2.1.length:Int)))=true by simp_all];rfl
 rw[ALj h1];by_cases h2:BX w.2.2.2.2.1=(w.2.2.2.2.1.length:Int)
 ·rw[ALi h2,show(decide ((w.2.2.2.2.1.length:Int)<2)||decide (BX w.2.2.2.2.1=(w.2.2.2.2.1.length:Int)))=true by simp_all];rfl
 rw[ALj h2,show(decide ((w.2.2.2.2.1.length:Int)<2)||decide (BX w.2.2.2.2.1=(w.2.2.2.2.1.length:Int)))=false by simp_all];rw[ALj (show¬(false=true)by simp)];by_cases h3:w.2.2.2.2.2.2.2.1.length>0
 ·rw[ALi (by omega),ALi h3];rfl
 ·rw[ALj (by omega),ALj h3];rfl
theorem oD{n:Int}:LH n w.2.1 w.2.2.2.2.2.1 w.2.2.2.2.2.2.2.2.2.2.1 w.1 w.2.2.1 w.2.2.2.1 w.2.2.2.2.1 w.2.2.2.2.2.2.1 w.2.2.2.2.2.2.2.1 w.2.2.2.2.2.2.2.2.1 w.2.2.2.2.2.2.2.2.2.1=some (ANd (PF w n)):=by
 obtain⟨k1,k4,k3,k5,k7,_,k2,_,_,_,k6,_,gg,qM,oH⟩:=h.nums;unfold LH Uw PF;rw[Fa w,Ab (x:=(w.2.2.1.length:Int)-1) (by omega),Ab (x:=(w.2.2.2.2.1.length:Int)-1) (by omega),BB];simp only[AD,Ap];rcases ALh (w.lost.contains n)with hl|hl
 rotate_left
 ·rw[hl]
  have e:C4 w n=some ((w.lost.contains n,()),()):=gY (by omega);rw[e,hl];cases BJ n 0 ((w.2.2.1.length:Int)-1)<;>rfl
 have RW:=(FF.1 h.lost).2.1 n (by simp_all);have hn1:BJ n 0 ((w.2.2.1.length:Int)-1)=true:=Ao.2 ⟨RW.1,by
  have:n<(w.1.length:Int):=RW.2;omega⟩
 have Afa:=Ao.1 hn1;rw[hn1,show C4 w n=some ((w.lost.contains n,()),())from gY (by omega),hl,Gk];simp only[AD,AMs];rw[show(if(0:Int)>(w.2.2.2.2.1.length:Int)-1 then 0 else(w.2.2.2.2.1.length:Int)-1)=max ((w.BQ.length:Int)-1) 0 by
  grind]
 have AVK:∀s∈w.2.2.1,iK s:=fun s hs=>h.f_ hs
 rw[show(w.1,w.2.1,())=Ae w from rfl,ABn (c:=Ae w) (by show w.1.length<=_;omega) (by omega) (fun s hs=>by have:=(AVK s hs).nk;omega) (by omega) (fun s hs=>(AVK s hs).sin) (by omega)];simp only[AD,pkF];rw[show fk (Ae w) w.Bd w.lost n (max ((w.BQ.length:Int)-1) 0)=fk (Ae w) w.2.2.1 w.2.2.2.1 n (max ((w.BQ.length:Int)-1) 0)from rfl];rcases ALh (fk (Ae w) w.2.2.1 w.2.2.2.1 n (max ((w.BQ.length:Int)-1) 0)).2 with hq|hq
 rotate_left
 ·rw[hq,Jm];rfl
 rw[hq,AMs,Gk,ALi (by omega),Re (by omega)];rfl
theorem mv{n:Int}:LI n w.2.1 w.2.2.2.2.2.1 w.2.2.2.2.2.2.2.2.2.2.1 w.1 w.2.2.1 w.2.2.2.1 w.2.2.2.2.1 w.2.2.2.2.2.2.1 w.2.2.2.2.2.2.2.1 w.2.2.2.2.2.2.2.2.1 w.2.2.2.2.2.2.2.2.2.1=some (sF (O8 w n)):=by
 obtain⟨k1,k4,k3,k5,k7,_,k2,_,_,_,_,_,gg,qM,oH⟩:=h.nums;unfold LI Ug O8;rcases hm:w.Cg with _|⟨m,ms⟩
 ·rw[De,ALi (by simp_all)];rfl
 have uE:w.2.2.2.2.2.2.2.1=m::ms:=hm;have zU:w.2.2.2.2.2.2.2.1.length=ms.length+1:=by simp_all
 have g0:w.2.2.2.2.2.2.2.1.getD 0 (0,0,[],[],false,[],())=m:=by simp_all
 have hr0:(0:Int)<=(0:Int)/\(0:Int)<(w.2.2.2.2.2.2.2.1.length:Int):=by omega
 have ef:=(h.Cg m (by simp_all)).1;have hmw:=ef.w;have hme:=ef.ep;have hmb:=ef.b;simp only[De,Ap,C9,ALi hr0,g0];rw[ALj (by omega)];rw[Fa w,TL h ⟨by omega,by omega⟩];simp only[AD];unfold wH;by_cases h3:Ay w n=0
 rotate_left
 ·rw[ALj h3,ALj h3,ALi h3];rfl
 obtain⟨hr,s1,s2,s3⟩:=h.Mz h3;have fU:w.2.2.1.getD n.toNat ([],[],0,())=storeAt w n:=rfl;have hn3: ¬(Ay w n≠0):=fun hh=>hh h3
 rw[ALi h3,ALj hn3];simp only[ALi hr,fU];rcases ALh ((Br w.BQ m.2.1).contains n)with h5|h5
 rotate_left
 ·rw[h5,Jm];rfl
 rw[h5,Gk,ALi rfl,ALi rfl,Ab (by omega),show((storeAt w n).1,(storeAt w n).2.1,(storeAt w n).2.2.1,())=storeAt w n from rfl,pR s1 s2];have hq:=w_ (u:=m.1-1) s3;have hqw:=hq.w;simp only[AD,oG];rw[show((B6 (storeAt w n) (m.1-1)).1.1,(B6 (storeAt w n) (m.1-1)).1.2.1,(B6 (storeAt w n) (m.1-1)).1.2.2.1,())=(B6 (storeAt w n) (m.1-1)).1 from rfl,sK (by omega) hq.sin];simp only[AD];have hes:(HL (B6 (storeAt w n) (m.1-1)).1 m.2.1).length<=200/\mF (HL (B6 (storeAt w n) (m.1-1)).1 m.2.1)/\Aa Ag (HL (B6 (storeAt w n) (m.1-1)).1 m.2.1)<=10000:=by
  unfold HL;rw[Da.2 hq,ALi rfl];refine⟨APf (APg _ _) hq.nk,fun e he=>hq.sin.1 e (ATe.1 he).1,APf ln ?_⟩;have:Al (B6 (storeAt w n) (m.1-1)).1=Aa Ag (B6 (storeAt w n) (m.1-1)).1.1+Aa Ag (B6 (storeAt w n) (m.1-1)).1.2.1:=rfl;omega
 rw[V1 m,show(w.1,w.2.1,())=Ae w from rfl,qN (c:=Ae w) (by show w.1.length<=_;omega) (by omega) ef.ein (by omega) hes.2.1 (by omega)];simp only[AD,mQ];rcases ALh (B6 (storeAt w n) (m.1-1)).2 with h6|h6
 rotate_left
 ·rw[h6,APP,AVs,ALi rfl];rfl
 rw[h6,AL9,APU];rcases ALh (P6 (Ae w) m n (HL (B6 (storeAt w n) (m.1-1)).1 m.2.1)).2 with h7|h7
 rotate_left
 ·rw[h7,Jm];rfl
 rw[h7,Gk,AMs,AMs,uE];rfl
theorem nB:LC w.2.1 w.2.2.2.2.2.1 w.2.2.2.2.2.2.2.2.2.2.1 w.1 w.2.2.1 w.2.2.2.1 w.2.2.2.2.1 w.2.2.2.2.2.2.1 w.2.2.2.2.2.2.2.1 w.2.2.2.2.2.2.2.2.1 w.2.2.2.2.2.2.2.2.2.1=some (sF (Oy w)):=by
 obtain⟨k1,k4,k3,k5,k7,_,k2,_,_,_,_,_,gg,qM,oH⟩:=h.nums;unfold LC U1 Oy;rcases hm:w.Cg with _|⟨m,ms⟩
 ·rw[De,ALi (by simp_all)];rfl
 have uE:w.2.2.2.2.2.2.2.1=m::ms:=hm;have zU:w.2.2.2.2.2.2.2.1.length=ms.length+1:=by simp_all
 have g0:w.2.2.2.2.2.2.2.1.getD 0 (0,0,[],[],false,[],())=m:=by simp_all
 have hr0:(0:Int)<=(0:Int)/\(0:Int)<(w.2.2.2.2.2.2.2.1.length:Int):=by omega
 have ef:=(h.Cg m (by simp_all)).1;have hmw:=ef.w;have hme:=ef.ep;simp only[De,Ap,C9,ALi hr0,g0];rw[ALj (by omega)];rw[show(w.2.2.2.2.1,w.2.2.2.2.2.1,())=Cl w from rfl,Qv (r:=Cl w) (by show Aa Bm w.2.2.2.2.1<=_;omega) ⟨by omega,by omega⟩];have Xj:(Br w.BQ m.2.1).length<=8:=HN h;rw[show(Cl w).1=w.BQ from rfl];simp only[AD];rw[V1 m,show(w.1,w.2.1,())=Ae w from rfl,qh (c:=Ae w) (by show w.1.length<=_;omega) (by omega) ef.ein (by omega)];simp only[AD,mQ,Q8];rcases ALh (Me (Ae w) m (Br w.BQ m.2.1)).2 with h6|h6
 ·rw[h6,Gk,uE];rfl
 ·have e:(Me (Ae w) m (Br w.BQ m.2.1)).1=m:=by
   unfold Me at h6|-;rw[HU.2 ef]at h6|-;grind
  rw[h6,Jm,e,uE]
  show some ((4,()),_,_,_,_,_,_,(m::ms),_)=some ((4,()),_,_,_,_,_,_,w.2.2.2.2.2.2.2.1,_)
  rw[uE]
theorem px{b n:Int}:Um b n w.2.1 w.2.2.2.2.2.1 w.2.2.2.2.2.2.2.2.2.2.1 w.1 w.2.2.1 w.2.2.2.1 w.2.2.2.2.1 w.2.2.2.2.2.2.1 w.2.2.2.2.2.2.2.1 w.2.2.2.2.2.2.2.2.1 w.2.2.2.2.2.2.2.2.2.1=some (sF (WV w b n)):=by
 obtain⟨k1,k4,k3,k5,k7,_,k2,_,_,_,_,_,gg,qM,oH⟩:=h.nums;unfold Um WV;rcases hm:w.Cg with _|⟨m,ms⟩
 ·rw[De,ALi (by simp_all)];rfl
 have uE:w.2.2.2.2.2.2.2.1=m::ms:=hm;have zU:w.2.2.2.2.2.2.2.1.length=ms.length+1:=by simp_all
 have g0:w.2.2.2.2.2.2.2.1.getD 0 (0,0,[],[],false,[],())=m:=by simp_all
 have hr0:(0:Int)<=(0:Int)/\(0:Int)<(w.2.2.2.2.2.2.2.1.length:Int):=by omega
 have ef:=(h.Cg m (by simp_all)).1;have hmw:=ef.w;have hme:=ef.ep;simp only[De,Ap,C9,ALi hr0,g0];rw[ALj (by omega),V1 m,du (by omega)];simp only[AD];rcases he:Ec m b with _|e
 ·rfl
 simp only[ARc,AQv,AMs];rw[Fa w,TL h ⟨by omega,by omega⟩];simp only[AD];unfold wH;by_cases h3:Ay w n=0
 rotate_left
 ·rw[ALj h3,ALj h3,ALi h3];rfl
 rw[ALi h3,ALj (show¬(Ay w n≠0)from fun hh=>hh h3)];rcases ALh ((Br w.BQ m.2.1).contains n)with h5|h5
 rotate_left
 ·rw[h5,Jm];rfl
 rw[h5,Gk,ALi rfl,ALi rfl,gm e,de h h3 (ABb he)];rfl
theorem l_:KI w.2.1 w.2.2.2.2.2.1 w.2.2.2.2.2.2.2.2.2.2.1 w.1 w.2.2.1 w.2.2.2.1 w.2.2.2.2.1 w.2.2.2.2.2.2.1 w.2.2.2.2.2.2.2.1 w.2.2.2.2.2.2.2.2.1 w.2.2.2.2.2.2.2.2.2.1=some (AaB (Kv w)):=by
 have k:=h.nums;have k1:=k.c;have k2:=k.wr;have k3:=k.lost;have k4:=k.st;have gg:=k.wr';have oH:=k.jh;have qM:=k.st';have k5:=k.era;have k7:=k.AFo;unfold KI TC Kv;rcases hm:w.Cg with _|⟨m,ms⟩
 ·rw[De,ALi (by simp_all)];rfl
 have uE:w.2.2.2.2.2.2.2.1=m::ms:=hm;have zU:w.2.2.2.2.2.2.2.1.length=ms.length+1:=by simp_all
 have g0:w.2.2.2.2.2.2.2.1.getD 0 (0,0,[],[],false,[],())=m:=by simp_all
 have hr0:(0:Int)<=(0:Int)/\(0:Int)<(w.2.2.2.2.2.2.2.1.length:Int):=by omega
 have ef:=(h.Cg m (by simp_all)).1;have hmw:=ef.w;simp only[De,Ap,C9,ALi hr0,g0];rw[ALj (by omega),V1 m,show(w.1,w.2.1,())=Ae w from rfl,show(w.2.2.2.2.1,w.2.2.2.2.2.1,())=Cl w from rfl,pX (c:=Ae w) (by show w.1.length<=_;omega) (by omega) ef.ein];simp only[AD];rcases ALh (Wm (Ae w) m)with h6|h6
 rotate_left
 ·rw[h6,Jm];rfl
 rw[h6,Gk,AMs,rW (c:=Ae w) (r:=Cl w) (by show w.1.length<=_;omega) (by show Aa Bm w.2.2.2.2.1<=_;omega) k.trim];simp only[AD,pkR,Q8];rcases ALh (OH (Ae w) (Cl w) m.1 (m.2.2.2.2.2.1.length:Int)).2 with h7|h7
 ·rw[h7,AMs,Gk];rfl
 ·rw[h7,ALm,Jm];rfl
end
abbrev tu(l:List Aj):Prop:=Ze (fun s:Aj=>s.1) l
abbrev AIL(p:Int)(l:List Aj)(q:Nat):Prop:=ph (fun s:Aj=>s.1) p l q
def fj(p:Int)(l:List Aj)(q:Nat):Bool:=match l[q]? with|some e=>e.1==p|none=>false
theorem tJ{l:List Aj}(ha:tu l)(hl:l.length<=2^30)(hp:∀s∈l,0<=s.1/\s.1<2^40){p:Int}(hpp:0<=p/\p<2^40):∃q,AIL p l q/\
  Bc l p=some ((((q:Int),fj p l q,()),()),()):=by
 have key:∀(n a b:Nat),a<=b->b<=l.length->b-a<n->(∀(i:Nat) (h:i<l.length),i<a->l[i].1<p)->(∀(i:Nat) (h:i<l.length),b<=i->p<=l[i].1)->
   ∃q,AIL p l q/\Ax n l p l.length a b=some ((((q:Int),fj p l q,()),()),()):=by
  intro n
  induction n with
  |zero=>omega
  |succ n ih=>
   intro a b yi hb hn h1 h2;simp only[Ax,C0,AB,MA,AD];by_cases JN:a<b
   ·have hm:(a+b)/2<l.length:=by omega
    have hq:=hp _ (AM9 hm);rw[ALi (by omega),AAh (by omega),ALi (by omega),Af hm,Ab (by omega)];by_cases hc:l[(a+b)/2].1<p
    ·rw[ALi (by omega),Ab (by omega),show((((a+b)/2:Nat):Int)+1)=(((a+b)/2+1:Nat):Int)by omega]
     refine ih _ b (by omega) hb (by omega) (fun i h hi=> ?_) h2;exact Int.lt_of_le_of_lt (iT (f:=fun s:Aj=>s.1) ha h hm (by omega)) hc
    ·rw[ALj (by omega)]
     exact ih a _ (by omega) (by omega) (by omega) h1 fun i h hi=>Int.le_trans (by omega) (iT (f:=fun s:Aj=>s.1) ha hm h hi)
   ·have AJE:a=b:=by omega
    subst AJE;refine⟨a,⟨hb,h1,h2⟩,?_⟩;rw[ALj (by omega)];unfold fj;by_cases ha':a<l.length
    ·have hq:=hp _ (AM9 ha')
     rw[ALi (by omega),ALi (by omega),Af ha',ALk ha',Ab (by omega)];dsimp only;by_cases hd:l[a].1=p
     ·simp_all
     ·rw[ANL.2 hd,ANL.2 (by omega:l[a].1-p≠0)]
    grind
 obtain⟨q,hq,e⟩:=key AU 0 l.length (by omega) (by omega) (AZ (by omega)) (fun i h hi=>by omega) (fun i h hi=>by omega);refine⟨q,hq,?_⟩;unfold Bc Cz;omega
theorem ACF{p:Int}{l:List Aj}{q:Nat}(h:fj p l q=true):∃hq:q<l.length,l[q].1=p:=by
 unfold fj at h;grind
theorem zP{p:Int}{l:List Aj}{q:Nat}(hp:AIL p l q)(ha:tu l)(h:fj p l q=false):∀s∈l,s.1≠p:=by
 intro s hs e;obtain⟨i,hi,rfl⟩:=List.mem_iff_getElem.1 hs;have h1:=hp.lt i hi;by_cases hiq:i<q
 ·omega
 ·have hq:q<l.length:=by omega
  have h3:p<=l[q].1:=hp.ge q hq (AOd _);have h4:=iT (f:=fun s:Aj=>s.1) ha hq hi (by omega);grind[fj,List.getElem?_eq_getElem,beq_eq_false_iff_ne]
theorem ANx{p:Int}{l:List Aj}{q:Nat}(hp:AIL p l q)(ha:tu l):(l.any fun s=>s.1==p)=fj p l q:=by
 rcases ALh (fj p l q)with h|h
 ·obtain⟨hq,e⟩:=ACF h
  grind
 ·rw[h,List.any_eq_false]
  intro s hs;grind[zP]
def S4(p:Int)(l:List Aj):List Aj:=l.map fun s=>if s.1=p then(s.1,s.2.1,true,())else s
theorem AGo{p:Int}{l:List Aj}(h:∀s∈l,s.1≠p):S4 p l=l:=by
 unfold S4
 conv=>rhs;rw[<-List.map_id l]
 refine ATO fun s hs=> ?_
 grind
theorem AJo{p:Int}:∀{l:List Aj} {q:Nat} (hq:q<l.length),tu l->l[q].1=p->l.set q (l[q].1,l[q].2.1,true,())=S4 p l
 |[],q,hq,_,_=>by rfl
 |s::l,0,_,ha,e=>by
  have h1:=AP5.1 ha;have e':s.1=p:=e;have h2:S4 p l=l:=AGo fun y hy=>by grind
  show(s.1,s.2.1,true,())::l=(if s.1=p then(s.1,s.2.1,true,())else s)::S4 p l
  simp_all
 |s::l,q+1,hq,ha,e=>by
  have h1:=AP5.1 ha;have hq':q<l.length:=by grind
  have e':l[q].1=p:=e;have h3:s.1<l[q].1:=h1.1 _ (AM9 hq');have h4:s.1≠p:=by omega
  have:=AJo hq' h1.2 e'
  show s::l.set q (l[q].1,l[q].2.1,true,())=(if s.1=p then(s.1,s.2.1,true,())else s)::S4 p l
  simp_all
theorem sm_at{p:Int}{l:List Aj}:∀{s:Aj},s∈S4 p l-> ∃t∈l,t.1=s.1:=by
 intro s hs;obtain⟨t,ht,rfl⟩:=ATM.1 hs;grind
theorem ASz{p:Int}{l:List Aj}(h:tu l):tu (S4 p l):=by
 unfold S4 tu Ze;grind
theorem ASP{p:Int}{l:List Aj}:(S4 p l).length=l.length:=by unfold S4;rw[ATS]
theorem ADu{s:Aj}:∀{l:List Aj} {q:Nat},AIL s.1 l q->fj s.1 l q=false->ew s l=l.take q++[s]++l.drop q
 |[],q,h,_=>by
  have:=h.le;have:q=0:=by simp_all
  subst this;rfl
 |y::l,0,h,hn=>by
  have h1:=h.ge 0 (by simp) (AOd _);have h2:(y.1==s.1)=false:=hn;have h2':=ANL.1 h2;have h1':s.1<=y.1:=h1;simp only[ew];grind
 |y::l,q+1,h,hn=>by
  have h1:y.1<s.1:=h.lt 0 (by simp) (by omega);have hp:AIL s.1 l q:=⟨by have:=h.le;simp_all,fun i hi hiq=>h.lt (i+1) (by simp_all) (by omega),fun i hi hiq=>h.ge (i+1) (by simp_all) (by omega)⟩;simp only[ew];rw[ALj (by omega),ADu hp hn];rfl
section
variable{w:AA} (h:RS w)
include h
theorem RS.AQI:∀s∈w.2.2.2.2.2.2.2.2.2.1,0<=s.1/\s.1<2^40:=fun s hs=>by
 have hp:=(h.Ar s hs).1;have h1:=Hn hp;grind[Hr,Ah,Cc]
theorem o4{a:Int}{d:ABG}(hd:d.length<=40):MS a d w.2.1 w.2.2.2.2.2.1 w.2.2.2.2.2.2.2.2.2.2.1 w.1 w.2.2.1 w.2.2.2.1 w.2.2.2.2.1 w.2.2.2.2.2.2.1 w.2.2.2.2.2.2.2.1 w.2.2.2.2.2.2.2.2.1 w.2.2.2.2.2.2.2.2.2.1=some (AWz (doAdd w a d)):=by
 obtain⟨k1,k4,k3,k5,k7,_,k2,_,_,k6,_,_,gg,qM,oH⟩:=h.nums;unfold MS Ww doAdd;rw[Ab (x:=(w.2.2.2.2.2.2.1.length:Int)-1) (by omega),BB];simp only[AD,Ap,C9,De];rw[show BJ a 0 ((w.2.2.2.2.2.2.1.length:Int)-1)=BJ a 0 ((w.AO.length:Int)-1)from rfl];rcases ALh (BJ a 0 ((w.AO.length:Int)-1))with h1|h1
 rotate_left
 ·rw[h1,Jm];rfl
 obtain⟨x1,x2,x3⟩:=h.kP h1;rw[h1,AMs,Gk];simp only[ALi x1];rw[show w.2.2.2.2.2.2.1.getD a.toNat (0,[],())=w.AO.getD a.toNat CN from rfl]
 generalize hx:w.AO.getD a.toNat CN=x at*
 rw[DE x,show(w.1,w.2.1,())=Ae w from rfl,oq (c:=Ae w) (by show w.1.length<=_;omega) (by omega) (by omega)];simp only[AD];rw[HV];simp only[AD];have hxl:=x2.n;have hxe:=x2.ep;have hq1:(CJ (Ae w) x d).1.1=x.1:=by
  unfold CJ;rw[Jb.2 x2];grind
 have hpm:0<=EU (CJ (Ae w) x d).1.1 (CJ (Ae w) x d).2.1/\EU (CJ (Ae w) x d).1.1 (CJ (Ae w) x d).2.1<2^40:=by
  unfold EU Hr;split
  ·rename_i hc
   rw[AL8,Ao,Ao]at hc;omega
  omega
 obtain⟨q,hq,es⟩:=tJ (l:=w.2.2.2.2.2.2.2.2.2.1) h.iP (by omega) h.AQI hpm;unfold JA;rw[es];simp only[AD];rcases ALh (CJ (Ae w) x d).2.2 with h2|h2
 rotate_left
 ·rw[h2,APP,AVs,ALi rfl,ALm];rfl
 obtain⟨y1,y2,y3,y4⟩:=h_ h2;have hyl:=y2.n;rw[y3]at hyl;simp only[AOu,AOJ,APN]at hyl;have hpl:=J9 (e:=x.1) (o:=(CJ (Ae w) x d).2.1) hxe (by omega);have hpe:EU (CJ (Ae w) x d).1.1 (CJ (Ae w) x d).2.1=Hr x.1 (CJ (Ae w) x d).2.1:=by
  grind[EU,Ao]
 rw[hpe]at hq|-;rw[h2,AMs];simp only[AL9,APU];have AcX:(w.Ar.any fun s=>s.1==Hr x.1 (CJ (Ae w) x d).2.1)=fj (Hr x.1 (CJ (Ae w) x d).2.1) w.2.2.2.2.2.2.2.2.2.1 q:=ANx hq h.iP;rw[AcX];by_cases h3:w.2.2.2.2.2.2.2.2.2.1.length=120
 ·rw[ALi (by omega),show decide (w.Ar.length=120)=true from AOW h3,AVs,ALi rfl]
  rfl
 rw[ALj (by omega),show decide (w.Ar.length=120)=false from AQS h3];simp only[APU];rcases ALh (fj (Hr x.1 (CJ (Ae w) x d).2.1) w.2.2.2.2.2.2.2.2.2.1 q)with h4|h4
 ·rw[h4,AMs,ALi rfl];rfl
 rw[h4,ALm,ALj (by simp)];have hql:=hq.le;grind[Eb,oy,ADu,Hr,CJ,Ae,AWz,List.append_assoc,ew]
end
def mN(c:Ca)(s:AL)(ep n:Int):Int->List BF->List Aj->List Aj
 |_,[],se=>se
 |o,x::l,se=>mN c s ep n (o+1) l (if !x.2.2.1&&PM s (Hr ep o)&&(G3 c n x).2.2.1 then S4 (Hr ep o) se else se)
def pkT(c0:AAO)(c1 tr:Int)(tn:Bool)(ss:List AL)(lo:AAO)(er:List Cq)(ws:List AM)(ms:List BA)(rs:List Ac)(se:List Aj):JC:=
 (((()),()),(((),c1,(),(),(),tr,(),(),(),(),tn,()),c0,ss,lo,er,ws,ms,rs,se,()))
section
variable{c:Ca} {st:AL} {SS:List AL} {n:Int} (hc:c.1.length<=8) (hs:iK st) (hn:0<=n/\n<c.1.length) (hnS:n<(SS.length:Int)) (fU:SS.getD n.toNat EZ=st)
include hc hs hn hnS fU
theorem AFy{tr:Int}{tn:Bool}{lo:AAO}{er:List Cq}{ms:List BA}{rs:List Ac}{a:Nat}{ep:Int}:∀(rest dn:List BF) (ws:List AM) (se:List Aj) (f:Nat),a<ws.length->a<=4->ws.getD a CN=(ep,dn++rest,())->iX c (ep,dn++rest,())->
  tu se->(∀s∈se,0<=s.1/\s.1<2^40)->se.length<=120->rest.length<f->
  DF f (a:Int) n ((dn.length:Int)+1) c.2.1 tr tn c.1 SS lo er ws ms rs se=some (pkT c.1 c.2.1 tr tn SS lo er (ws.set a (ep,dn++B_ c st ep n ((dn.length:Int)+1) rest,())) ms rs (mN c st ep n ((dn.length:Int)+1) rest se)):=by
 have yS:=hs.w;intro rest
 induction rest with
 |nil=>
  intro dn ws se f ha ha4 hw Du AFN ANF ARW hf;obtain⟨f,rfl⟩:∃f',f=f'+1:=⟨f-1,by omega⟩;have tV:ws.getD a (0,[],())=(ep,dn++[],()):=hw;simp only[DF,Jh,AB,AMn,tV,ANV];rw[ALi (by omega),ALj (by omega)];unfold B_ mN pkT;rw[show((ep,dn++[],()):AM)=ws.getD a CN from hw.symm,pw]
 |cons x rest ih=>
  intro dn ws se f ha ha4 hw Du AFN ANF ARW hf;obtain⟨f,rfl⟩:∃f',f=f'+1:=⟨f-1,by omega⟩;simp only[AOJ]at hf;have tV:ws.getD a (0,[],())=(ep,dn++x::rest,()):=hw;have hwe:1<=ep/\ep<=30:=Du.ep;have hwn:(dn++x::rest).length<=60:=Du.n;have hww:Aa Aw (dn++x::rest)<=3000:=Du.w;have hwl:=hwn;simp only[AOu,AOJ]at hwl;have ca:(0:Int)<=(a:Int)/\(a:Int)<(ws.length:Int):=by omega
  have cn:(0:Int)<=n/\n<(SS.length:Int):=⟨hn.1,hnS⟩;have hpl:=J9 (e:=ep) (o:=(dn.length:Int)+1) hwe (by omega);have hpm:EU ep ((dn.length:Int)+1)=Hr ep ((dn.length:Int)+1):=by
   grind[EU,Ao]
  have cd:(0:Int)<=(dn.length:Int)+1-1/\(dn.length:Int)+1-1<((dn++x::rest).length:Int):=by
   grind
  have e1:((dn.length:Int)+1-1).toNat=dn.length:=by omega
  have e2:(dn++x::rest).getD dn.length ([],[],false,())=x:=by simp[List.getD]
  have AQ9:SS.getD n.toNat ([],[],0,())=st:=fU;simp only[DF,Jh,AB,Ap,C9,AMn,tV,ALi ca,ALi cn];rw[ALi (by omega),HV,hpm];simp only[AD,AQ9];rw[PG st,XB (by omega) hs.sin];simp only[AD];rw[Ab (x:=(dn.length:Int)+1+1) (by omega),Ab (x:=(dn.length:Int)+1-1) (by omega)];simp only[ALi cd,e1,e2];have go:∀(y:BF) (ws':List AM) (jx:List Aj),ws'.length=ws.length->ws'.getD a CN=(ep,dn++y::rest,())->(∀z,ws'.set a z=ws.set a z)->iX c (ep,dn++y::rest,())->tu jx->(∀s∈jx,0<=s.1/\s.1<2^40)->jx.length<=120->
    (if !x.2.2.1&&PM st (Hr ep ((dn.length:Int)+1))then G3 c n x else x)=y->(if !x.2.2.1&&PM st (Hr ep ((dn.length:Int)+1))&&(G3 c n x).2.2.1 then S4 (Hr ep ((dn.length:Int)+1)) se else se)=jx->
    DF f (a:Int) n ((dn.length:Int)+1+1) c.2.1 tr tn c.1 SS lo er ws' ms rs jx=some (pkT c.1 c.2.1 tr tn SS lo er (ws.set a (ep,dn++B_ c st ep n ((dn.length:Int)+1) (x::rest),())) ms rs (mN c st ep n ((dn.length:Int)+1) (x::rest) se)):=fun y ws' jx g1 g2 g3 g4 g5 g6 g7 g8 g9=>by
   have:=ih (dn++[y]) ws' jx f (by omega) ha4 (by simp_all) (by simp_all) g5 g6 g7 (by omega);simp only[AOu,AOJ,APN,ANZ,ATI]at this;grind[B_,mN]
  have stay:(if !x.2.2.1&&PM st (Hr ep ((dn.length:Int)+1))then G3 c n x else x)=x->(if !x.2.2.1&&PM st (Hr ep ((dn.length:Int)+1))&&(G3 c n x).2.2.1 then S4 (Hr ep ((dn.length:Int)+1)) se else se)=se->
    DF f (a:Int) n ((dn.length:Int)+1+1) c.2.1 tr tn c.1 SS lo er ws ms rs se=some (pkT c.1 c.2.1 tr tn SS lo er (ws.set a (ep,dn++B_ c st ep n ((dn.length:Int)+1) (x::rest),())) ms rs (mN c st ep n ((dn.length:Int)+1) (x::rest) se)):=fun g8 g9=>go x ws se rfl hw (fun _=>rfl) Du AFN ANF ARW g8 g9
  have hsg:cv st (Hr ep ((dn.length:Int)+1))=Qm (Hr ep ((dn.length:Int)+1)) st.1:=by unfold cv;rw[Da.2 hs,ALi rfl]
  rw[hsg];cases hxd:x.2.2.1 with
  |true=>
   grind
  |false=>
   rw[ALm];cases hg:Qm (Hr ep ((dn.length:Int)+1)) st.1 with
   |none=>
    grind[PM,Hr]
   |some e=>
    simp only[AMs];by_cases he0:e.2.1=0
    rotate_left
    ·have hh:PM st (Hr ep ((dn.length:Int)+1))=false:=by grind[PM]
     simp_all
    have hh:PM st (Hr ep ((dn.length:Int)+1))=true:=by grind[PM]
    rw[ALi he0];have hx:=Du.words x (by simp);have hb:iX c (ep,dn++G3 c n x::rest,()):=⟨Du.cfg,Du.ep,by grind,fun b hb=>by
     simp only[AOK,AO3]at hb;rcases hb with hb|rfl|hb
     ·exact Du.words b (by simp[hb])
     ·exact⟨hx.1,Ls hx.2.1 hn,rfl⟩
     ·exact Du.words b (by simp[hb]),APf (rJ hxd) Du.opn⟩
    rw[DE c,oR (c:=c) (w:=(ep,dn++x::rest,())) (by omega) (by grind)];have AJ5:Tk c (ep,dn++x::rest,()) ((dn.length:Int)+1) n=((ep,dn++G3 c n x::rest,()),true):=by
     unfold Tk;rw[Jb.2 Du];simp only[AL9,AMx,API];rw[e1,show(dn++x::rest).getD dn.length NQ=x from e2,hxd];rw[ALi (by
      rw[AL8,AL8,Ao,Ao];grind)]
     grind
    rw[AJ5];simp only[AD,pkW];have hx7:(ws.set a (ep,dn++G3 c n x::rest,())).getD a (0,[],())=(ep,dn++G3 c n x::rest,()):=On ha;have ca7:(0:Int)<=(a:Int)/\(a:Int)<((ws.set a (ep,dn++G3 c n x::rest,())).length:Int):=by grind
    have cd7:(0:Int)<=(dn.length:Int)+1-1/\(dn.length:Int)+1-1<((dn++G3 c n x::rest).length:Int):=by
     grind
    have e27:(dn++G3 c n x::rest).getD dn.length ([],[],false,())=G3 c n x:=by simp[List.getD]
    have hpr:0<=Hr ep ((dn.length:Int)+1)/\Hr ep ((dn.length:Int)+1)<2^40:=by unfold Hr;omega
    obtain⟨q,hq,es⟩:=tJ AFN (by omega) ANF hpr;unfold JA;rw[es];simp only[AD,hx7,ALi ca7,ALi cd7,e27];have X3:∀z,(ws.set a (ep,dn++G3 c n x::rest,())).set a z=ws.set a z:=fun z=>AVP ..
    have AOP:(if !x.2.2.1&&PM st (Hr ep ((dn.length:Int)+1))then G3 c n x else x)=G3 c n x:=by grind
    rcases ALh (fj (Hr ep ((dn.length:Int)+1)) se q)with hf|hf
    rotate_left
    ·rw[hf,ALm]
     refine go _ _ se (ASf ..) hx7 X3 hb AFN ANF ARW AOP ?_
     rw[AGo (zP hq AFN hf)];grind
    obtain⟨hql,hqe⟩:=ACF hf;rw[hf,AMs];cases hd:(G3 c n x).2.2.1 with
    |false=>
     grind
    |true=>
     rw[AMs,ALi (by omega),AMn,show se.getD q (0,[],false,())=se[q]from wX hql,AJo hql AFN hqe];refine go _ _ _ (ASf ..) hx7 X3 hb (ASz AFN) (fun s hs' => ?_) (by rw[ASP];omega) AOP (by grind);grind[sm_at]
theorem AEc{tr:Int}{tn:Bool}{lo:AAO}{er:List Cq}{ws:List AM}{rs:List Ac}{se:List Aj}{a:Nat}{m:BA}(hm:qK c m):∀(rest dn:List AAO) (ms:List BA) (f:Nat),a<ms.length->a<=4->ms.getD a Tr=(m.1,m.2.1,m.2.2.1,m.2.2.2.1,m.2.2.2.2.1,dn++rest,())->(dn++rest).length=m.2.2.2.2.2.1.length->(∀l∈dn++rest,BI c l=true)->
  rest.length<f->
  CF f (a:Int) n ((dn.length:Int)+1) c.2.1 tr tn c.1 SS lo er ws ms rs se=some (pkT c.1 c.2.1 tr tn SS lo er ws (ms.set a (m.1,m.2.1,m.2.2.1,m.2.2.2.1,m.2.2.2.2.1,dn++GG m st n ((dn.length:Int)+1) rest,())) rs se):=by
 have yS:=hs.w;have hmn:m.2.2.2.2.2.1.length<=60:=by
  have:=hm.n;have hb:=IW (l:=m.2.2.2.1);omega
 intro rest
 induction rest with
 |nil=>
  intro dn ms f ha ha4 hw hl ho hf;obtain⟨f,rfl⟩:∃f',f=f'+1:=⟨f-1,by omega⟩;have tV:ms.getD a (0,0,[],[],false,[],())=(m.1,m.2.1,m.2.2.1,m.2.2.2.1,m.2.2.2.2.1,dn++[],()):=hw;simp only[CF,Hq,Jf,AB,AMn,tV,ANV];rw[ALi (by omega),ALj (by omega)];unfold GG pkT;rw[show((m.1,m.2.1,m.2.2.1,m.2.2.2.1,m.2.2.2.2.1,dn++[],()):BA)=ms.getD a Tr from hw.symm,pw]
 |cons x rest ih=>
  intro dn ms f ha ha4 hw hl ho hf;obtain⟨f,rfl⟩:∃f',f=f'+1:=⟨f-1,by omega⟩;simp only[AOJ]at hf;have tV:ms.getD a (0,0,[],[],false,[],())=(m.1,m.2.1,m.2.2.1,m.2.2.2.1,m.2.2.2.2.1,dn++x::rest,()):=hw;have qc:=hl;simp only[AOu,AOJ]at qc;have ca:(0:Int)<=(a:Int)/\(a:Int)<(ms.length:Int):=by omega
  have cn:(0:Int)<=n/\n<(SS.length:Int):=⟨hn.1,hnS⟩;have AQ9:SS.getD n.toNat ([],[],0,())=st:=fU;have ef:qK c (m.1,m.2.1,m.2.2.1,m.2.2.2.1,m.2.2.2.2.1,dn++x::rest,()):=⟨hm.cfg,hm.ep,hm.b,hm.sld,hm.asc,hm.seen,ho,by show((dn++x::rest).length:Int)=_;rw[hl];exact hm.n⟩;have hmw:=ef.w;simp only[CF,Hq,Jf,AB,Ap,C9,AMn,tV,ALi ca,ALi cn];rw[ALi (by omega),du (m:=(m.1,m.2.1,m.2.2.1,m.2.2.2.1,m.2.2.2.2.1,dn++x::rest,())) (by omega),i7 hl];simp only[AD,AQ9];rw[PG st,XB (by omega) hs.sin];simp only[AD];rw[Ab (x:=(dn.length:Int)+1+1) (by omega)];have go:∀(y:AAO) (ms':List BA),ms'.length=ms.length->ms'.getD a Tr=(m.1,m.2.1,m.2.2.1,m.2.2.2.1,m.2.2.2.2.1,dn++y::rest,())->(∀z,ms'.set a z=ms.set a z)->BI c y=true->
    (if Xd m st ((dn.length:Int)+1)then Ov n x else x)=y->
    CF f (a:Int) n ((dn.length:Int)+1+1) c.2.1 tr tn c.1 SS lo er ws ms' rs se=some (pkT c.1 c.2.1 tr tn SS lo er ws (ms.set a (m.1,m.2.1,m.2.2.1,m.2.2.2.1,m.2.2.2.2.1,dn++GG m st n ((dn.length:Int)+1) (x::rest),())) rs se):=fun y ms' g1 g2 g3 g4 g5=>by
   have:=ih (dn++[y]) ms' f (by omega) ha4 (by simp_all) (by simp_all) (fun l hl=>by
    grind) (by omega)
   simp only[AOu,AOJ,APN,ANZ,ATI]at this;grind[GG]
  have hx:=ho x (by simp);have stay:Xd m st ((dn.length:Int)+1)=false->CF f (a:Int) n ((dn.length:Int)+1+1) c.2.1 tr tn c.1 SS lo er ws ms rs se=some (pkT c.1 c.2.1 tr tn SS lo er ws (ms.set a (m.1,m.2.1,m.2.2.1,m.2.2.2.1,m.2.2.2.2.1,dn++GG m st n ((dn.length:Int)+1) (x::rest),())) rs se):=fun g=>go x ms rfl hw (fun _=>rfl) hx (by simp_all)
  have hsg:∀p,cv st p=Qm p st.1:=fun p=>by unfold cv;rw[Da.2 hs,ALi rfl]
  rw[hsg];cases he:Ec m ((dn.length:Int)+1)with
  |none=>
   simp only[ASE,ALm];grind[Xd]
  |some e=>
   simp only[AQv,AMs,ARc];cases hg:Qm e.1 st.1 with
   |none=>
    grind[Xd]
   |some y=>
    simp only[AMs,eqE,AB];by_cases hye:y=e
    rotate_left
    ·rw[ALj hye]
     grind[Xd]
    have hh:Xd m st ((dn.length:Int)+1)=true:=by grind[Xd]
    rw[ALi hye,DE c,uh (c:=c) (m:=(m.1,m.2.1,m.2.2.1,m.2.2.2.1,m.2.2.2.2.1,dn++x::rest,())) (by omega) (by omega) ef.ein];have AJ5:VB c (m.1,m.2.1,m.2.2.1,m.2.2.2.1,m.2.2.2.2.1,dn++x::rest,()) ((dn.length:Int)+1) n=((m.1,m.2.1,m.2.2.1,m.2.2.2.1,m.2.2.2.2.1,dn++Ov n x::rest,()),true):=by
     unfold VB;rw[HU.2 ef];have hq:(BJ ((dn.length:Int)+1) 1 ((dn++x::rest).length:Int)&&BJ n 0 ((c.1.length:Int)-1))=true:=by
      rw[AL8,Ao,Ao];omega
     grind
    grind[AD,mQ,Ov,List.length_set,On,List.set_set,Ls]
end
def my(c:Ca)(s:AL)(ep n:Int):Int->List BF->Int->Bool
 |_,[],_=>false
 |o,x::l,p=>(decide (p=Hr ep o)&&(!x.2.2.1&&PM s (Hr ep o)&&(G3 c n x).2.2.1))||my c s ep n (o+1) l p
theorem zS{c:Ca}{st:AL}{ep n:Int}:∀{l:List BF} {o:Int} {se:List Aj},mN c st ep n o l se=se.map fun s=>(s.1,s.2.1,s.2.2.1||my c st ep n o l s.1,())
 |[],o,se=>by
  simp only[mN,my,Bool.or_false];simp_all
 |x::l,o,se=>by
  simp only[mN];rw[zS];rcases ALh (!x.2.2.1&&PM st (Hr ep o)&&(G3 c n x).2.2.1)with hb|hb
  ·rw[hb,ALi rfl]
   unfold S4;rw[ATa];refine ATO fun s _=> ?_
   simp only[Function.comp_apply,my,hb,AQp];grind
  ·rw[hb]
   simp only[AMx,API];refine ATO fun s _=> ?_
   simp only[my,hb,AT6,APU]
theorem zT{c:Ca}{st:AL}{ep n p:Int}(hep:1<=ep/\ep<=30)(hp:Az p=true):∀{l:List BF} {o:Int},1<=o->o+l.length<=61->
  my c st ep n o l p=(Ah p==ep&&(decide (o<=Cc p)&&(decide (Cc p<o+l.length)&&(((B_ c st ep n o l).getD (Cc p-o).toNat NQ).2.2.1&& !(l.getD (Cc p-o).toNat NQ).2.2.1))))
 |[],o,_,_=>by
  have:(decide (o<=Cc p)&&decide (Cc p<o+(([]:List BF).length:Int)))=false:=by
   simp_all
  rw[<-Bool.and_assoc (decide (o<=Cc p)),this,AR5,AT6];rfl
 |x::l,o,ho,hl=>by
  simp only[AOJ]at hl;have hf:=Hn hp;simp only[my];rw[zT hep hp (l:=l) (o:=o+1) (by omega) (by omega)];by_cases he:Ah p=ep
  rotate_left
  ·grind[Hr,J9,beq_eq_false_iff_ne,decide_eq_false]
  rw[ASQ.2 he];simp only[ANC,AOJ];by_cases h1:Cc p=o
  ·have hpe:p=Hr ep o:=by simp_all
   have e0:(Cc p-o).toNat=0:=by omega
   rw[AOW hpe,AQS (show¬o+1<=Cc p by omega),AOW (show o<=Cc p by omega),AOW (show Cc p<o+((l.length+1:Nat):Int)by omega),e0];simp only[ANC,AR5,Bool.or_false,B_,List.getD_cons_zero];grind
  ·have jt:p≠Hr ep o:=fun e=>h1 (by grind[J9])
   rw[AQS jt,AR5,APU];by_cases h2:o<=Cc p
   ·rw[AOW h2,AOW (show o+1<=Cc p by omega)]
    have e1:(Cc p-o).toNat=(Cc p-(o+1)).toNat+1:=by omega
    rw[e1];simp only[B_,List.getD_cons_succ];grind
   grind
theorem mh{c:Ca}{st:AL}{ep n:Int}:∀{l:List BF} {o:Int},(B_ c st ep n o l).length=l.length
 |[],_=>rfl
 |x::l,o=>by simp only[B_,AOJ,mh]
theorem AFd{c:Ca}{st:AL}{ep n:Int}(hep:1<=ep/\ep<=30){l:List BF}(hl:l.length<=60){se:List Aj}(hs:∀s∈se,Az s.1=true):mN c st ep n 1 l se=se.map (SU false ep l (B_ c st ep n 1 l)):=by
 rw[zS];refine ATO fun s hm=> ?_
 have hf:=Hn (hs s hm);unfold SU kh;rw[zT hep (hs s hm) (by omega) (by omega),mh];by_cases h1:Cc s.1<=l.length
 ·have:BJ (Cc s.1) 1 (l.length:Int)=true:=Ao.2 (by omega)
  grind
 ·have:BJ (Cc s.1) 1 (l.length:Int)=false:=by
   rw[<-AO7,Ao];omega
  grind
def ALU(q:AA×Int):iz:=((q.2,()),(((),q.1.2.1,(),(),(),q.1.2.2.2.2.2.1,(),(),(),(),q.1.2.2.2.2.2.2.2.2.2.2.1,()),q.1.1,q.1.2.2.1,(),(),(),(),q.1.2.2.2.2.2.2.2.2.1,(),q.1.2.2.2.1,q.1.2.2.2.2.1,q.1.2.2.2.2.2.2.1,q.1.2.2.2.2.2.2.2.1,q.1.2.2.2.2.2.2.2.2.2.1,()))
def ww(w:AA)(SS:List AL)(ws:List AM)(ms:List BA)(se:List Aj):AA:=(((w.Cb SS).Bk ws).BH se).C5 ms
section
variable{w:AA} (h:RS w) {st:AL} {SS:List AL} {n:Int} (hs:iK st) (hn:0<=n/\n<(Ae w).1.length) (hnS:n<(SS.length:Int)) (fU:SS.getD n.toNat EZ=st)
include h hs hn hnS fU
theorem AJq{ws:List AM}{se:List Aj}:∀(k i:Nat),w.2.2.2.2.2.2.2.1.length-i=k->i<=w.2.2.2.2.2.2.2.1.length-> ∀f,k<f->
  F5 f n w.2.2.2.2.2.2.2.1.length i w.2.1 w.2.2.2.2.2.1 w.2.2.2.2.2.2.2.2.2.2.1 w.1 SS w.2.2.2.1 w.2.2.2.2.1 ws ((w.2.2.2.2.2.2.2.1.map (NI st w.BQ n)).take i++w.2.2.2.2.2.2.2.1.drop i) w.2.2.2.2.2.2.2.2.1 se=some (sF (ww w SS ws (w.2.2.2.2.2.2.2.1.map (NI st w.BQ n)) se,0)):=by
 have k:=h.nums;have k1:=k.c;have k5:=k.era;have k6:=k.md;intro k
 induction k with
 |zero=>
  intro i hk hi f hf;obtain⟨f,rfl⟩:∃f',f=f'+1:=⟨f-1,by omega⟩;have:i=w.2.2.2.2.2.2.2.1.length:=by omega
  simp only[F5,Nu,AB];rw[ALj (by omega),this,ATN,ANV,AQL (by simp)];rfl
 |succ k ih=>
  intro i hk hi f hf;obtain⟨f,rfl⟩:∃f',f=f'+1:=⟨f-1,by omega⟩;have Ds:i<w.2.2.2.2.2.2.2.1.length:=by omega
  have hm:=(h.Cg _ (AM9 Ds)).1;have hme:=hm.ep;have Xj:(Br w.BQ w.2.2.2.2.2.2.2.1[i].2.1).length<=8:=HN h;simp only[F5,Nu,AB];rw[Q6 hi,ALi (by omega),ALi (by omega),AMn,OJ Ds,show(w.2.2.2.2.1,w.2.2.2.2.2.1,())=Cl w from rfl,Qv (r:=Cl w) (by show Aa Bm w.2.2.2.2.1<=_;omega) ⟨by omega,by omega⟩];rw[show(Cl w).1=w.BQ from rfl];simp only[AD];rw[J2 (by omega),As (i:=i) (by omega)];simp only[AD];have nx:=ih (i+1) (by omega) (by omega) f (by omega);rcases ALh ((Br w.BQ w.2.2.2.2.2.2.2.1[i].2.1).contains n)with hc|hc
  ·have hT:NI st w.BQ n w.2.2.2.2.2.2.2.1[i]=(w.2.2.2.2.2.2.2.1[i].1,w.2.2.2.2.2.2.2.1[i].2.1,w.2.2.2.2.2.2.2.1[i].2.2.1,w.2.2.2.2.2.2.2.1[i].2.2.2.1,w.2.2.2.2.2.2.2.1[i].2.2.2.2.1,GG w.2.2.2.2.2.2.2.1[i] st n 1 w.2.2.2.2.2.2.2.1[i].2.2.2.2.2.1,()):=by
    unfold NI;simp_all
   have hmn:w.2.2.2.2.2.2.2.1[i].2.2.2.2.2.1.length<=60:=by
    have:=hm.n;have hb:=IW (l:=w.2.2.2.2.2.2.2.1[i].2.2.2.1);omega
   have:=AEc (c:=Ae w) (tr:=w.2.2.2.2.2.1) (tn:=w.2.2.2.2.2.2.2.2.2.2.1) (lo:=w.2.2.2.1) (er:=w.2.2.2.2.1) (ws:=ws) (rs:=w.2.2.2.2.2.2.2.2.1) (se:=se) (a:=i) k1 hs hn hnS fU hm w.2.2.2.2.2.2.2.1[i].2.2.2.2.2.1 [] ((w.2.2.2.2.2.2.2.1.map (NI st w.BQ n)).take i++w.2.2.2.2.2.2.2.1.drop i) AU (by simp_all) (by omega) (OJ Ds) rfl (by simpa using hm.wrote) (AZ (by omega));rw[hc,AMs];unfold MF K7 Nk;simp only[APN,AQH]at this;have e1:(((0:Nat):Int)+1)=1:=rfl;rw[e1]at this;rw[show(w.2.1:Int)=(Ae w).2.1 from rfl,show w.1=(Ae w).1 from rfl,this];simp only[AD,pkT];rw[Sf Ds hT.symm];exact nx
  ·have hT:NI st w.BQ n w.2.2.2.2.2.2.2.1[i]=w.2.2.2.2.2.2.2.1[i]:=by
    unfold NI;simp_all
   rw[hc,ALm,pQ Ds hT];omega
theorem AOC:∀(rest pre:List AM) (se:List Aj) (f:Nat),pre.length+rest.length=w.2.2.2.2.2.2.1.length->(∀x∈rest,iX (Ae w) x)->tu se->(∀s∈se,Az s.1=true)->se.length<=120->rest.length+w.2.2.2.2.2.2.2.1.length+1<f->
  FK f n w.2.2.2.2.2.2.1.length pre.length w.2.1 w.2.2.2.2.2.1 w.2.2.2.2.2.2.2.2.2.2.1 w.1 SS w.2.2.2.1 w.2.2.2.2.1 (pre++rest) w.2.2.2.2.2.2.2.1 w.2.2.2.2.2.2.2.2.1 se st.2.2.1=
   some (sF (ww w SS (pre++(Fi false (Ae w) st w.BQ n rest se).1) (w.2.2.2.2.2.2.2.1.map (NI st w.BQ n)) (Fi false (Ae w) st w.BQ n rest se).2,0)):=by
 obtain⟨k1,_,_,k5,_,_,k2,k6,_,_,_,_,_,_,_⟩:=h.nums;have hb:∀{p:Int},Az p=true->0<=p/\p<2^40:=fun{p} hp=>by
  have h1:=Hn hp;grind[Hr]
 intro rest
 induction rest with
 |nil=>
  intro pre se f hl hw ha hp hsl hf;obtain⟨f,rfl⟩:∃f',f=f'+1:=⟨f-1,by omega⟩;simp only[APN]at hl hf;simp only[FK,PH,AB,ANV];rw[ALj (by omega)];have:=AJq h hs hn hnS fU (ws:=pre) (se:=se) w.2.2.2.2.2.2.2.1.length 0 (by omega) (by omega) f (by omega);rw[show((0:Nat):Int)=0 from rfl,AQR,AWu,AQH]at this;grind[Fi]
 |cons x rest ih=>
  intro pre se f hl hw ha hp hsl hf;obtain⟨f,rfl⟩:∃f',f=f'+1:=⟨f-1,by omega⟩;simp only[AOJ]at hl hf;have hx:=hw x (by simp);have hxe:=hx.ep;have hxn:=hx.n;have hpl:(pre++x::rest).length=pre.length+(rest.length+1):=by simp
  have cp:(0:Int)<=(pre.length:Int)/\(pre.length:Int)<((pre++x::rest).length:Int):=by omega
  have e2:(pre++x::rest).getD pre.length (0,[],())=x:=by simp[List.getD]
  have Xj:(Br w.BQ x.1).length<=8:=HN h;simp only[FK,PH,AB,AMn,ALi cp,e2];rw[ALi (by omega),show(w.2.2.2.2.1,w.2.2.2.2.2.1,())=Cl w from rfl,Qv (r:=Cl w) (by show Aa Bm w.2.2.2.2.1<=_;omega) ⟨by omega,by omega⟩];rw[show(Cl w).1=w.BQ from rfl];simp only[AD];rw[J2 (by omega),Ab (x:=(pre.length:Int)+1) (by omega),show((pre.length:Int)+1)=((pre.length+1:Nat):Int)by omega];simp only[AD];have next:∀(b:AM) (jx:List Aj),tu jx->(∀s∈jx,Az s.1=true)->jx.length<=120->
    FK f n w.2.2.2.2.2.2.1.length ((pre.length+1:Nat):Int) w.2.1 w.2.2.2.2.2.1 w.2.2.2.2.2.2.2.2.2.2.1 w.1 SS w.2.2.2.1 w.2.2.2.2.1 (pre++b::rest) w.2.2.2.2.2.2.2.1 w.2.2.2.2.2.2.2.2.1 jx st.2.2.1=
     some (sF (ww w SS (pre++b::(Fi false (Ae w) st w.BQ n rest jx).1) (w.2.2.2.2.2.2.2.1.map (NI st w.BQ n)) (Fi false (Ae w) st w.BQ n rest jx).2,0)):=fun b jx h1 h2 h3=>by
   have:=ih (pre++[b]) jx f (by grind) (fun x hx=>hw x (by simp[hx])) h1 h2 h3 (by omega);simp_all
  simp only[Fi];rcases ALh (lH st w.BQ n x)with ht|ht
  rotate_left
  ·rw[ht]
   simp only[AMx,API];unfold lH at ht;by_cases JN:x.1>st.2.2.1
   ·grind
   grind
  ·rw[ht]
   simp only[AQm];unfold lH at ht;rw[AL8,AM7]at ht;rw[ALi (show x.1>st.2.2.1 from ht.2),ht.1,AMs];have:=AFy (c:=Ae w) (tr:=w.2.2.2.2.2.1) (tn:=w.2.2.2.2.2.2.2.2.2.2.1) (lo:=w.2.2.2.1) (er:=w.2.2.2.2.1) (ms:=w.2.2.2.2.2.2.2.1) (rs:=w.2.2.2.2.2.2.2.2.1) (a:=pre.length) (ep:=x.1) k1 hs hn hnS fU x.2.1 [] (pre++x::rest) se AU (by omega) (by omega) (show(pre++x::rest).getD pre.length (0,[],())=x from e2) hx ha (fun s hs' =>hb (hp s hs')) hsl (AZ (by omega));unfold O2 Pk;simp only[APN,AQH]at this;have e1:(((0:Nat):Int)+1)=1:=rfl;rw[e1,AFd hxe hxn hp,AVr _ _ (by omega),Nat.sub_self,ATl]at this;rw[show(w.2.1:Int)=(Ae w).2.1 from rfl,show w.1=(Ae w).1 from rfl,this];simp only[AD,pkT];refine next _ _ ?_ (fun s hs' => ?_) (by simp_all)
   ·unfold tu Ze
    rw[ATs];exact List.Pairwise.imp (fun{a b} yi=>yi) ha
   ·obtain⟨s',h1,rfl⟩:=ATM.1 hs'
    exact hp s' h1
end
section
variable{w:AA} (h:RS w)
include h
theorem nF{n:Int}:Se n w.2.1 w.2.2.2.2.2.1 w.2.2.2.2.2.2.2.2.2.2.1 w.1 w.2.2.1 w.2.2.2.1 w.2.2.2.2.1 w.2.2.2.2.2.2.1 w.2.2.2.2.2.2.2.1 w.2.2.2.2.2.2.2.2.1 w.2.2.2.2.2.2.2.2.2.1=some (sF (QA false w n)):=by
 have k:=h.nums;have k1:=k.c;have k2:=k.wr;have k3:=k.lost;have k4:=k.st;have gg:=k.wr';have oH:=k.jh;have qM:=k.st';have k5:=k.era;have k7:=k.AFo;unfold Se V2 QA;rw[Fa w,MU (by omega) (by omega)];simp only[AD,C9,Ap];by_cases h3:Ay w n=0
 rotate_left
 ·rw[ALj h3,ALi h3];rfl
 obtain⟨hr,s1,s2,s3⟩:=h.Mz h3;have fU:w.2.2.1.getD n.toNat ([],[],0,())=storeAt w n:=rfl;rw[ALi h3,ALj (show¬(Ay w n≠0)from fun hh=>hh h3)];simp only[ALi hr,fU];rw[show((storeAt w n).1,(storeAt w n).2.1,(storeAt w n).2.2.1,())=storeAt w n from rfl,dR s1 s2];simp only[AD,oG];rcases ALh (CQ (storeAt w n)).2 with hq|hq
 rotate_left
 ·rw[hq,Jm];rfl
 rw[hq,Gk,AMs];have Du:iK (CQ (storeAt w n)).1:=(Of hq).2.1;have Acb:n.toNat<w.2.2.1.length:=by omega
 have:=AOC h (st:=(CQ (storeAt w n)).1) (SS:=w.2.2.1.set n.toNat (CQ (storeAt w n)).1) (n:=n) Du (h.node h3).1 (by simp_all) (On Acb) w.2.2.2.2.2.2.1 [] w.2.2.2.2.2.2.2.2.2.1 AU (by simp) (fun x hx=>(h.AO x hx).1) h.iP (fun s hs=>(h.Ar s hs).1) k.se (AZ (by have:=k.md;omega));simp only[APN,AQH]at this;rw[show((0:Nat):Int)=0 from rfl]at this;exact this
theorem AKj{n:Int}{ss:List AL}{ls:AAO}{ws:List AM}(hls:ls.length<=2^20):∀(f i:Nat),i<=w.2.2.2.2.2.2.2.1.length->w.2.2.2.2.2.2.2.1.length-i<f->
  Hd f n w.2.2.2.2.2.2.2.1.length i w.2.1 w.2.2.2.2.2.1 w.2.2.2.2.2.2.2.2.2.2.1 w.1 ss w.2.2.2.1 w.2.2.2.2.1 ws ((w.2.2.2.2.2.2.2.1.map fun m=>(CU (Ae w) m n).1).take i++w.2.2.2.2.2.2.2.1.drop i) w.2.2.2.2.2.2.2.2.1 w.2.2.2.2.2.2.2.2.2.1 ls=
   some (ANd (((((w.Cb ss).Fo ls).Bk ws).C5 (w.2.2.2.2.2.2.2.1.map fun m=>(CU (Ae w) m n).1)).F_ (w.JG||holds (Ae w) ls),0)):=by
 have k:=h.nums;have k1:=k.c;have k6:=k.md;intro f
 induction f with
 |zero=>omega
 |succ f ih=>
  intro i hi hn;have hlen:=Q6 (f:=fun m:BA=>(CU (Ae w) m n).1) hi;simp only[Hd,UI,AB,Ap,hlen];by_cases Ds:i<w.2.2.2.2.2.2.2.1.length
  ·have c1:(0:Int)<=(i:Int)/\(i:Int)<(w.2.2.2.2.2.2.2.1.length:Int):=by omega
   have hm:=(h.Cg _ (AM9 Ds)).1;have hmw:=hm.w;have hg:((w.2.2.2.2.2.2.2.1.map fun m=>(CU (Ae w) m n).1).take i++w.2.2.2.2.2.2.2.1.drop i).getD i (0,0,[],[],false,[],())=w.2.2.2.2.2.2.2.1[i]:=OJ Ds;simp only[ALi c1,ALi c1.2,AMn,hg];rw[As (i:=i) (by omega),V1 (w.2.2.2.2.2.2.2.1[i]),show(w.1,w.2.1,())=Ae w from rfl,nZ (c:=Ae w) (by show w.1.length<=_;omega) (by omega) hm.ein];simp only[AD,mQ];rw[show((CU (Ae w) w.2.2.2.2.2.2.2.1[i] n).1.1,(CU (Ae w) w.2.2.2.2.2.2.2.1[i] n).1.2.1,(CU (Ae w) w.2.2.2.2.2.2.2.1[i] n).1.2.2.1,(CU (Ae w) w.2.2.2.2.2.2.2.1[i] n).1.2.2.2.1,(CU (Ae w) w.2.2.2.2.2.2.2.1[i] n).1.2.2.2.2.1,(CU (Ae w) w.2.2.2.2.2.2.2.1[i] n).1.2.2.2.2.2.1,())=(CU (Ae w) w.2.2.2.2.2.2.2.1[i] n).1 from rfl,Sf Ds rfl];grind
  ·have:i=w.2.2.2.2.2.2.2.1.length:=by omega
   rw[ALj (by omega),this,ATN,ANV,AQL (by simp),show(w.1,w.2.1,())=Ae w from rfl,G6 (by show w.1.length<=_;omega) (by omega)];simp only[AD];cases ht:w.2.2.2.2.2.2.2.2.2.2.1 with
   |true=>
    have ht':w.JG=true:=ht;rw[ht'];rfl
   |false=>
    have ht':w.JG=false:=ht;rw[ht'];rfl
theorem ANW{n:Int}{ss:List AL}{ls:AAO}(hls:ls.length<=2^20):∀(f i:Nat),i<=w.2.2.2.2.2.2.1.length->(w.2.2.2.2.2.2.1.length-i)+w.2.2.2.2.2.2.2.1.length+2<=f->
  IF f n w.2.2.2.2.2.2.1.length i w.2.1 w.2.2.2.2.2.1 w.2.2.2.2.2.2.2.2.2.2.1 w.1 ss w.2.2.2.1 w.2.2.2.2.1 ((w.2.2.2.2.2.2.1.map fun x=>(CZ (Ae w) x n).1).take i++w.2.2.2.2.2.2.1.drop i) w.2.2.2.2.2.2.2.1 w.2.2.2.2.2.2.2.2.1 w.2.2.2.2.2.2.2.2.2.1 ls=
   some (ANd (((((w.Cb ss).Fo ls).Bk (w.2.2.2.2.2.2.1.map fun x=>(CZ (Ae w) x n).1)).C5 (w.2.2.2.2.2.2.2.1.map fun m=>(CU (Ae w) m n).1)).F_ (w.JG||holds (Ae w) ls),0)):=by
 have k:=h.nums;have k1:=k.c;have k6:=k.wr;intro f
 induction f with
 |zero=>omega
 |succ f ih=>
  intro i hi hn;have hlen:=Q6 (f:=fun x:AM=>(CZ (Ae w) x n).1) hi;simp only[IF,WK,AB,Ap,hlen];by_cases Ds:i<w.2.2.2.2.2.2.1.length
  ·have c1:(0:Int)<=(i:Int)/\(i:Int)<(w.2.2.2.2.2.2.1.length:Int):=by omega
   have hm:=(h.AO _ (AM9 Ds)).1;have hmw:=hm.w;have hg:((w.2.2.2.2.2.2.1.map fun x=>(CZ (Ae w) x n).1).take i++w.2.2.2.2.2.2.1.drop i).getD i (0,[],())=w.2.2.2.2.2.2.1[i]:=OJ Ds;simp only[ALi c1,ALi c1.2,AMn,hg];rw[As (i:=i) (by omega),DE (w.2.2.2.2.2.2.1[i]),show(w.1,w.2.1,())=Ae w from rfl,j8 (c:=Ae w) (by show w.1.length<=_;omega) (by have:An w.2.2.2.2.2.2.1[i]=Aa Aw w.2.2.2.2.2.2.1[i].2.1:=rfl;omega)];simp only[AD,pkW];rw[show((CZ (Ae w) w.2.2.2.2.2.2.1[i] n).1.1,(CZ (Ae w) w.2.2.2.2.2.2.1[i] n).1.2.1,())=(CZ (Ae w) w.2.2.2.2.2.2.1[i] n).1 from rfl,Sf Ds rfl];grind
  ·have:i=w.2.2.2.2.2.2.1.length:=by omega
   have k12:=AKj h (n:=n) (ss:=ss) (ws:=w.2.2.2.2.2.2.1.map fun x=>(CZ (Ae w) x n).1) hls f 0 (by omega) (by omega);grind
theorem nJ{n:Int}:Sd n w.2.1 w.2.2.2.2.2.1 w.2.2.2.2.2.2.2.2.2.2.1 w.1 w.2.2.1 w.2.2.2.1 w.2.2.2.2.1 w.2.2.2.2.2.2.1 w.2.2.2.2.2.2.2.1 w.2.2.2.2.2.2.2.2.1 w.2.2.2.2.2.2.2.2.2.1=some (ANd (PI w n)):=by
 obtain⟨k1,k4,k3,k5,k7,_,k2,k6,_,_,_,_,gg,qM,oH⟩:=h.nums;unfold Sd WM PI;rw[Fa w,MU (by omega) (by omega)];simp only[AD,C9];by_cases h3:Ay w n=0
 rotate_left
 ·rw[ALj h3,ALi h3];rfl
 obtain⟨hr,s1,s2,s3⟩:=h.Mz h3;rw[ALi h3,ALj (show¬(Ay w n≠0)from fun hh=>hh h3),ALi hr,RM (FF.1 h.lost).2.2 (by omega)];simp only[AD];have hp:=UP (n:=n) (l:=w.2.2.2.1);have:=ANW h (n:=n) (ss:=w.2.2.1.set n.toNat ([],[],0,())) (ls:=Ov n w.2.2.2.1) (by omega) AU 0 (by omega) (ATW (AZ (by omega)));simp_all
theorem qQ{d:Am}(UB:mq w)(h64:Bi d.2.1)(hd:d.2.2.2.2.1.length<=40)(hk:1<=d.1/\d.1<=16):Xg d w.2.1 w.2.2.2.2.2.1 w.2.2.2.2.2.2.2.2.2.2.1 w.1 w.2.2.1 w.2.2.2.1 w.2.2.2.2.1 w.2.2.2.2.2.2.1 w.2.2.2.2.2.2.2.1 w.2.2.2.2.2.2.2.2.1 w.2.2.2.2.2.2.2.2.2.1=some (ALU (PJ false w d)):=by
 have k:=h.nums;have k1:=k.c;have k2:=k.wr;have k3:=k.lost;have k4:=k.st;have gg:=k.wr';have oH:=k.jh;have qM:=k.st';have k5:=k.era;have k7:=k.AFo;unfold Xg PJ;rw[xw d];simp only[De];by_cases c1:d.1=1
 ·rw[ALi c1,ALi c1,nc h];rfl
 rw[ALj c1,ALj c1];by_cases c2:d.1=2
 ·rw[ALi c2,ALi c2,o4 h hd];rfl
 rw[ALj c2,ALj c2];by_cases c3:d.1=3
 ·rw[ALi c3,ALi c3,mB h];rfl
 rw[ALj c3,ALj c3];by_cases c4:d.1=4
 ·rw[ALi c4,ALi c4,nF h];rfl
 rw[ALj c4,ALj c4];by_cases c5:d.1=5
 ·rw[ALi c5,ALi c5,l7 h];rfl
 rw[ALj c5,ALj c5];by_cases c6:d.1=6
 ·rw[ALi c6,ALi c6,nJ h];rfl
 rw[ALj c6,ALj c6];by_cases c7:d.1=7
 ·rw[ALi c7,ALi c7,oD h];rfl
 rw[ALj c7,ALj c7];by_cases c8:d.1=8
 ·rw[ALi c8,ALi c8,mi h];rfl
 rw[ALj c8,ALj c8];by_cases c9:d.1=9
 ·rw[ALi c9,ALi c9,mv h];rfl
 rw[ALj c9,ALj c9];by_cases c10:d.1=10
 ·rw[ALi c10,ALi c10,nB h];rfl
 rw[ALj c10,ALj c10];by_cases c11:d.1=11
 ·rw[ALi c11,ALi c11,px h];rfl
 rw[ALj c11,ALj c11];by_cases c12:d.1=12
 ·rw[ALi c12,ALi c12,l_ h];rfl
 rw[ALj c12,ALj c12];by_cases c13:d.1=13
 ·rw[ALi c13,ALi c13,show(w.1,w.2.1,())=Ae w from rfl,show(w.2.2.2.2.1,w.2.2.2.2.2.1,())=Cl w from rfl,uC (c:=Ae w) (r:=Cl w) (by show w.1.length<=_;omega) (by show Aa Bm w.2.2.2.2.1<=_;omega) k.trim h64]
  simp only[AD,pkR,Q8];unfold Rf;dsimp only;rcases ALh (PZ (Ae w) (Cl w) d.2.1).2 with hq|hq
  ·rw[hq,Gk];rfl
  ·have e:(PZ (Ae w) (Cl w) d.2.1).1=Cl w:=by
    unfold PZ at hq|-;rw[LM.2 h.wW]at hq|-;grind
   rw[hq,e,Jm];rfl
 rw[ALj c13,ALj c13];by_cases c14:d.1=14
 ·rw[ALi c14,ALi c14,nS h UB];rfl
 rw[ALj c14,ALj c14];by_cases c16:d.1=16
 ·rw[ALi c16,ALj (show¬d.1=15 by omega),mC h];rfl
 rw[ALj c16,ALi (show d.1=15 by omega),Ab (x:=(w.2.2.2.2.2.2.1.length:Int)-1) (by omega),BB];simp only[AD,Ap];unfold Qu;rw[show BJ d.2.1 0 ((w.2.2.2.2.2.2.1.length:Int)-1)=BJ d.2.1 0 ((w.AO.length:Int)-1)from rfl];rcases ALh (BJ d.2.1 0 ((w.AO.length:Int)-1))with h1|h1
 rotate_left
 ·rw[h1,Jm];rfl
 obtain⟨x1,x2,x3⟩:=h.kP h1;rw[h1,AMs,Gk,Ab (x:=d.2.1+1) (by omega)];unfold Fj AJ_;rw[ALi (by omega)];simp only[ATp,AD];rw[show(d.2.1+1).toNat=d.2.1.toNat+1 by omega,<-List.eraseIdx_eq_take_drop_succ];rfl
theorem rf{d:Am}(UB:mq w)(h64:Bi d.2.1):Nq w d=some (pkD (DJ false w d)):=by
 unfold Nq DJ;rw[Fa w,xw d,EY UB,kU,LZ UB];simp only[AD,Ap,C9];rw[Gu.2 h];rcases ALh (Gl d)with hd|hd
 rotate_left
 ·rw[hd];rfl
 have hk:1<=d.1/\d.1<=16:=by
  unfold Gl at hd;exact Ao.1 (AL8 _ _▸hd).1
 rw[hd,AMs,AMs,qQ h UB h64 (nV hd) hk];simp only[AD,AL9,Bool.or_false,AMx,API];by_cases hc:(PJ false w d).2=0
 ·rw[ALi (show(ALU (PJ false w d)).1.1=0 from hc)]
  generalize hg:PJ false w d=q at hc|-
  obtain⟨v,co⟩:=q;dsimp only at hc;subst hc;rfl
 ·rw[ALj (show¬(ALU (PJ false w d)).1.1=0 from hc)]
  have:=xN hc;rw[show PJ false w d=(w,(PJ false w d).2)by grind];rfl
end
theorem uj{w:AA}{d:Am}(UB:mq w)(h64:Bi d.2.1):Nq w d=some (pkD (DJ false w d)):=by
 rcases ALh (Cx w)with hw|hw
 ·grind[rf,Gu]
 ·unfold Nq DJ
  rw[Fa w,EY UB,hw];rfl
def bare(se:List Aj):List (Int×List UInt8):=se.map fun s=>(s.1,s.2.1)
def ZN(se:List Aj)(q:ai):ai:=(q.1.BH se,q.2)
section
variable{w:AA} {se:List Aj}
theorem AHD{a:Int}:O6 (w.BH se) a=ZN se (O6 w a):=by
 unfold O6;simp only[ATf (ZN se)];rfl
theorem AGk{n:Int}:PI (w.BH se) n=ZN se (PI w n):=by
 unfold PI;simp only[ATf (ZN se)];rfl
theorem AHG{n:Int}:PF (w.BH se) n=ZN se (PF w n):=by
 unfold PF;simp only[ATf (ZN se)];rfl
theorem AGD:O_ (w.BH se)=ZN se (O_ w):=by
 unfold O_;simp only[ATf (ZN se)];rfl
theorem AG2{a:Int}:Rf (w.BH se) a=ZN se (Rf w a):=by
 unfold Rf;simp only[ATf (ZN se)];rfl
theorem AGO{a k:Int}:MO (w.BH se) a k=ZN se (MO w a k):=by
 unfold MO;simp only[ATf (ZN se)];rfl
theorem AHA{a:Int}:Qu (w.BH se) a=ZN se (Qu w a):=by
 unfold Qu;simp only[ATf (ZN se)];rfl
theorem AC3{a b n:Int}:K3 (w.BH se) a b n=ZN se (K3 w a b n):=by
 unfold K3 putAt;simp only[ATf (ZN se)];rfl
theorem ACC{n k:Int}:K0 (w.BH se) n k=ZN se (K0 w n k):=by
 unfold K0 putAt;simp only[ATf (ZN se)];rfl
theorem ADF{n:Int}:Kz (w.BH se) n=ZN se (Kz w n):=by
 unfold Kz putAt;simp only[ATf (ZN se)];rfl
theorem AHE{n:Int}:O8 (w.BH se) n=ZN se (O8 w n):=by
 obtain⟨c,k,st,lo,er,tr,wr,md,rd,s0,tn,u⟩:=w;unfold O8;cases md with
 |nil=>rfl
 |cons m ms=>
  dsimp only;simp only[ATf (ZN se)];rfl
theorem AGf:Oy (w.BH se)=ZN se (Oy w):=by
 obtain⟨c,k,st,lo,er,tr,wr,md,rd,s0,tn,u⟩:=w;unfold Oy;cases md with
 |nil=>rfl
 |cons m ms=>
  dsimp only;simp only[ATf (ZN se)];rfl
theorem ADA:Kv (w.BH se)=ZN se (Kv w):=by
 obtain⟨c,k,st,lo,er,tr,wr,md,rd,s0,tn,u⟩:=w;unfold Kv;cases md with
 |nil=>rfl
 |cons m ms=>
  dsimp only;simp only[ATf (ZN se)];rfl
theorem AI4{b n:Int}:WV (w.BH se) b n=ZN se (WV w b n):=by
 obtain⟨c,k,st,lo,er,tr,wr,md,rd,s0,tn,u⟩:=w;unfold WV putAt;cases md with
 |nil=>rfl
 |cons m ms=>
  dsimp only;cases Ec m b with
  |none=>rfl
  |some e=>
   dsimp only;simp only[ATf (ZN se)];rfl
end
theorem AIq{l m:List Aj}(h:bare l=bare m)(p:Int):(l.any fun s=>s.1==p)=m.any fun s=>s.1==p:=by
 have e:∀l:List Aj,(l.any fun s=>s.1==p)=(bare l).any fun s=>s.1==p:=fun l=>by
  grind[bare,List.any_map]
 simp_all
theorem ADb{l m:List Aj}(h:bare l=bare m):l.length=m.length:=by
 have:=congrArg List.length h;grind[bare]
theorem ADD{p:Int}{d:ABG}{b:Bool}:∀{l m:List Aj},bare l=bare m->bare (ew (p,d,b,()) l)=bare (ew (p,d,b,()) m)
 |[],[],_=>rfl
 |[],_::_,h=>by simp[bare]at h
 |_::_,[],h=>by simp[bare]at h
 |x::l,y::m,h=>by
  simp only[bare,ATU,AOx,APJ]at h;obtain⟨⟨h1,h2⟩,h3⟩:=h;have h3':bare l=bare m:=h3;simp only[ew,h1];split
  ·grind[bare]
  ·have:=ADD (p:=p) (d:=d) (b:=b) h3'
   grind[bare]
theorem ASd{w:AA}{se:List Aj}(h:bare se=bare w.Ar){a:Int}{d:ABG}:∃jx,bare jx=bare (doAdd w a d).1.Ar/\doAdd (w.BH se) a d=ZN jx (doAdd w a d):=by
 have e1:doAdd (w.BH se) a d=if(!BJ a 0 ((w.AO.length:Int)-1))=true then(w.BH se,2)else
   if(!(CJ (Ae w) (w.AO.getD a.toNat CN) d).2.2||(decide (se.length=120)||se.any fun s=>s.1==Hr (w.AO.getD a.toNat CN).1 (CJ (Ae w) (w.AO.getD a.toNat CN) d).2.1))=true then(w.BH se,4)else
   (((w.BH se).Bk (w.AO.set a.toNat (CJ (Ae w) (w.AO.getD a.toNat CN) d).1)).BH (ew (Hr (w.AO.getD a.toNat CN).1 (CJ (Ae w) (w.AO.getD a.toNat CN) d).2.1,d,false,()) se),0):=rfl
 rw[e1,AIq h,ADb h];unfold doAdd;dsimp only;split
 ·exact⟨se,h,rfl⟩
 split
 ·exact⟨se,h,rfl⟩
 ·exact⟨_,ADD h,rfl⟩
theorem AHX{all:Bool}{ep:Int}{old new:List BF}{l:List Aj}:bare (l.map (SU all ep old new))=bare l:=by
 unfold bare;rw[ATa];rfl
theorem q9{a b:Bool}{c:Ca}{s:AL}{l:List Cq}{n:Int}:∀{ws:List AM} {x y:List Aj},bare x=bare y->(Fi a c s l n ws x).1=(Fi b c s l n ws y).1/\bare (Fi a c s l n ws x).2=bare (Fi b c s l n ws y).2
 |[],x,y,h=>⟨rfl,h⟩
 |w::ws,x,y,h=>by
  simp only[Fi];split
  ·have:=q9 (a:=a) (b:=b) (c:=c) (s:=s) (l:=l) (n:=n) (ws:=ws) (x:=x.map (SU a w.1 w.2.1 (B_ c s w.1 n 1 w.2.1))) (y:=y.map (SU b w.1 w.2.1 (B_ c s w.1 n 1 w.2.1))) (by grind[AHX])
   simp_all
  ·have:=q9 (a:=a) (b:=b) (c:=c) (s:=s) (l:=l) (n:=n) (ws:=ws) h
   simp_all
theorem AMv{a b:Bool}{w:AA}{se:List Aj}(h:bare se=bare w.Ar){n:Int}:∃jx,bare jx=bare (QA b w n).1.Ar/\QA a (w.BH se) n=ZN jx (QA b w n):=by
 have e1:QA a (w.BH se) n=if Ay w n≠0 then(w.BH se,Ay w n)else if(!(CQ (storeAt w n)).2)=true then(w.BH se,4)else
   (((((w.BH se).Cb (w.Bd.set n.toNat (CQ (storeAt w n)).1)).Bk (Fi a (Ae w) (CQ (storeAt w n)).1 w.BQ n w.AO se).1).BH (Fi a (Ae w) (CQ (storeAt w n)).1 w.BQ n w.AO se).2).C5 (w.Cg.map (NI (CQ (storeAt w n)).1 w.BQ n)),0):=rfl
 have ht:=q9 (a:=a) (b:=b) (c:=Ae w) (s:=(CQ (storeAt w n)).1) (l:=w.BQ) (n:=n) (ws:=w.AO) h;rw[e1,ht.1];unfold QA;dsimp only;split
 ·exact⟨se,h,rfl⟩
 split
 ·exact⟨se,h,rfl⟩
 ·exact⟨_,ht.2,rfl⟩
theorem LW{f:ai}{se:List Aj}(h:f=ZN se f):f.1.Ar=se:=by rw[h];rfl
section
variable{w:AA}
theorem ANl{a:Int}:(O6 w a).1.Ar=w.Ar:=LW (show O6 w a=ZN w.Ar (O6 w a)from AHD (w:=w) (se:=w.Ar))
theorem AJl{a b n:Int}:(K3 w a b n).1.Ar=w.Ar:=LW (show K3 w a b n=ZN w.Ar (K3 w a b n)from AC3 (w:=w) (se:=w.Ar))
theorem ALJ{n k:Int}:(K0 w n k).1.Ar=w.Ar:=LW (show K0 w n k=ZN w.Ar (K0 w n k)from ACC (w:=w) (se:=w.Ar))
theorem AMJ{n:Int}:(PI w n).1.Ar=w.Ar:=LW (show PI w n=ZN w.Ar (PI w n)from AGk (w:=w) (se:=w.Ar))
theorem AMX{n:Int}:(PF w n).1.Ar=w.Ar:=LW (show PF w n=ZN w.Ar (PF w n)from AHG (w:=w) (se:=w.Ar))
theorem ANJ:(O_ w).1.Ar=w.Ar:=LW (show O_ w=ZN w.Ar (O_ w)from AGD (w:=w) (se:=w.Ar))
theorem AN5{n:Int}:(O8 w n).1.Ar=w.Ar:=LW (show O8 w n=ZN w.Ar (O8 w n)from AHE (w:=w) (se:=w.Ar))
theorem AN9:(Oy w).1.Ar=w.Ar:=LW (show Oy w=ZN w.Ar (Oy w)from AGf (w:=w) (se:=w.Ar))
theorem ASA{b n:Int}:(WV w b n).1.Ar=w.Ar:=LW (show WV w b n=ZN w.Ar (WV w b n)from AI4 (w:=w) (se:=w.Ar))
theorem ALH:(Kv w).1.Ar=w.Ar:=LW (show Kv w=ZN w.Ar (Kv w)from ADA (w:=w) (se:=w.Ar))
theorem AM8{a:Int}:(Rf w a).1.Ar=w.Ar:=LW (show Rf w a=ZN w.Ar (Rf w a)from AG2 (w:=w) (se:=w.Ar))
theorem AMW{a k:Int}:(MO w a k).1.Ar=w.Ar:=LW (show MO w a k=ZN w.Ar (MO w a k)from AGO (w:=w) (se:=w.Ar))
theorem ALo{a:Int}:(Qu w a).1.Ar=w.Ar:=LW (show Qu w a=ZN w.Ar (Qu w a)from AHA (w:=w) (se:=w.Ar))
theorem ALX{n:Int}:(Kz w n).1.Ar=w.Ar:=LW (show Kz w n=ZN w.Ar (Kz w n)from ADF (w:=w) (se:=w.Ar))
end
theorem AN8{a b:Bool}{w:AA}{se:List Aj}(h:bare se=bare w.Ar){d:Am}:∃jx,bare jx=bare (PJ b w d).1.Ar/\PJ a (w.BH se) d=ZN jx (PJ b w d):=by
 unfold PJ;by_cases c1:d.1=1
 ·rw[ALi c1,ALi c1]
  exact⟨se,h.trans (congrArg bare ANl.symm),AHD⟩
 rw[ALj c1,ALj c1];by_cases c2:d.1=2
 ·rw[ALi c2,ALi c2]
  exact ASd h
 rw[ALj c2,ALj c2];by_cases c3:d.1=3
 ·rw[ALi c3,ALi c3]
  exact⟨se,h.trans (congrArg bare AJl.symm),AC3⟩
 rw[ALj c3,ALj c3];by_cases c4:d.1=4
 ·rw[ALi c4,ALi c4]
  exact AMv h
 rw[ALj c4,ALj c4];by_cases c5:d.1=5
 ·rw[ALi c5,ALi c5]
  exact⟨se,h.trans (congrArg bare ALJ.symm),ACC⟩
 rw[ALj c5,ALj c5];by_cases c6:d.1=6
 ·rw[ALi c6,ALi c6]
  exact⟨se,h.trans (congrArg bare AMJ.symm),AGk⟩
 rw[ALj c6,ALj c6];by_cases c7:d.1=7
 ·rw[ALi c7,ALi c7]
  exact⟨se,h.trans (congrArg bare AMX.symm),AHG⟩
 rw[ALj c7,ALj c7];by_cases c8:d.1=8
 ·rw[ALi c8,ALi c8]
  exact⟨se,h.trans (congrArg bare ANJ.symm),AGD⟩
 rw[ALj c8,ALj c8];by_cases c9:d.1=9
 ·rw[ALi c9,ALi c9]
  exact⟨se,h.trans (congrArg bare AN5.symm),AHE⟩
 rw[ALj c9,ALj c9];by_cases c10:d.1=10
 ·rw[ALi c10,ALi c10]
  exact⟨se,h.trans (congrArg bare AN9.symm),AGf⟩
 rw[ALj c10,ALj c10];by_cases c11:d.1=11
 ·rw[ALi c11,ALi c11]
  exact⟨se,h.trans (congrArg bare ASA.symm),AI4⟩
 rw[ALj c11,ALj c11];by_cases c12:d.1=12
 ·rw[ALi c12,ALi c12]
  exact⟨se,h.trans (congrArg bare ALH.symm),ADA⟩
 rw[ALj c12,ALj c12];by_cases c13:d.1=13
 ·rw[ALi c13,ALi c13]
  exact⟨se,h.trans (congrArg bare AM8.symm),AG2⟩
 rw[ALj c13,ALj c13];by_cases c14:d.1=14
 ·rw[ALi c14,ALi c14]
  exact⟨se,h.trans (congrArg bare AMW.symm),AGO⟩
 rw[ALj c14,ALj c14];by_cases c15:d.1=15
 ·rw[ALi c15,ALi c15]
  exact⟨se,h.trans (congrArg bare ALo.symm),AHA⟩
 rw[ALj c15,ALj c15];exact⟨se,h.trans (congrArg bare ALX.symm),ADF⟩
theorem AK7{l m:List Aj}(h:bare l=bare m){s:Aj}(hs:s∈l):∃t∈m,t.1=s.1/\t.2.1=s.2.1:=by
 have h1:(s.1,s.2.1)∈bare m:=by rw[<-h];exact ATM.2 ⟨s,hs,rfl⟩
 obtain⟨t,ht,e⟩:=ATM.1 h1;grind
theorem AIp{l m:List Aj}(h:bare l=bare m)(ha:Ze (fun s:Aj=>s.1) l):Ze (fun s:Aj=>s.1) m:=by
 have e:∀l:List Aj,Ze (fun s:Aj=>s.1) l↔(bare l).Pairwise fun x y=>x.1<y.1:=fun l=>by
  unfold bare Ze;rw[ATs]
 simp_all
theorem RS.BH{w:AA}{se:List Aj}(hw:RS w)(h:bare se=bare w.Ar):RS (w.BH se) where
 cfg:=hw.cfg
 y7:=hw.y7
 lost:=hw.lost
 JG:=hw.JG
 Bd:=hw.Bd
 wW:=hw.wW
 zy:=hw.zy
 nmd:=hw.nmd
 AO:=hw.AO
 l8:=hw.l8
 Cg:=hw.Cg
 tF:=hw.tF
 Aq:=hw.Aq
 Vp:=by
  have:=hw.Vp;grind[ADb]
 Ar:=fun s hs=>by
  obtain⟨t,ht,e1,e2⟩:=AK7 h (show s∈se from hs);have:=hw.Ar t ht;simp_all
 iP:=AIp h.symm hw.iP
theorem AE6{w:AA}{se:List Aj}(h:bare se=bare w.Ar):Cx (w.BH se)=Cx w:=by
 rw[AUr,Gu,Gu];refine⟨fun hw=> ?_,fun hw=>hw.BH h⟩;exact hw.BH (se:=w.Ar) h.symm
theorem AFj{a b:Bool}{w:AA}{se:List Aj}(h:bare se=bare w.Ar){d:Am}:∃jx,bare jx=bare (DJ b w d).1.Ar/\DJ a (w.BH se) d=ZN jx (DJ b w d):=by
 unfold DJ;rw[AE6 h];by_cases hc:(!Cx w|| !Gl d)=true
 ·rw[ALi hc,ALi hc]
  exact⟨[],rfl,rfl⟩
 ·rw[ALj hc,ALj hc]
  exact AN8 h
structure Up (w v:AA):Prop where
 rd:∀k,k<2->Hr (w.Aq.getD k AX).1 (w.Aq.getD k AX).2.1<=Hr (v.Aq.getD k AX).1 (v.Aq.getD k AX).2.1/\(w.Aq.getD k AX).2.2.1.length<=(v.Aq.getD k AX).2.2.1.length
 er:w.BQ.length<=v.BQ.length/\ ∀i,i<w.BQ.length->(w.BQ.getD i Hu).2.1=true->(v.BQ.getD i Hu).2.1=true/\(v.BQ.getD i Hu).2.2.1=(w.BQ.getD i Hu).2.2.1
 JG:w.JG=true->v.JG=true
 se:w.Ar.length<=v.Ar.length
theorem Up.of{w v:AA}(h1:v.Aq=w.Aq)(h2:v.BQ=w.BQ)(h3:w.JG=true->v.JG=true)(h4:w.Ar.length<=v.Ar.length):Up w v:=
 ⟨fun k _=>by simp_all,by simp_all,h3,h4⟩
section
variable{w:AA} (hw:RS w)
end
section
variable{code:AAO} (hc:code.length<=2^30)
include hc
end
theorem AKL{l:AAO}(hl:l.length<=2^40):Xn l l=some ((true,()),()):=by
 have key:∀(n i:Nat),i<=l.length->l.length-i<n->M_ n l l i=some ((true,()),()):=by
  intro n
  induction n with
  |zero=>omega
  |succ n ih=>
   intro i hi h;simp only[M_,Zi,AB];by_cases hc:i<l.length
   ·rw[ALi (by omega),ALi (by omega),ALi (by omega),Ab (by omega),show(((i:Nat):Int)+1)=((i+1:Nat):Int)by omega,ih (i+1) (by omega) (by omega)]
    simp
   grind
 unfold Xn Z6;have:=key AU 0 (by omega) (AZ (by omega));simp_all
end Go.M
end
section
namespace Go.M
open Go.Lib (decDigits itoa)
open Go.M.H (Au Am)
theorem Vv{u:Nat}(h:u<10):decDigits u=[UInt8.ofNat (48+u)]:=by rw[decDigits,dif_pos h]
theorem iR{u:Nat}(h: ¬u<10):decDigits u=decDigits (u/10)++[UInt8.ofNat (48+u%10)]:=by rw[decDigits,dif_neg h]
theorem YV:∀(n u:Nat),u<10^(n+1)->(decDigits u).length<=n+1
 |0,u,h=>by grind[Vv]
 |n+1,u,h=>by
  by_cases hu:u<10
  ·rw[Vv hu];simp
  ·rw[iR hu,AOu]
   have:=YV n (u/10) (by omega);simp_all
theorem gd(u:Nat):1<=(decDigits u).length:=by
 grind[Vv,iR]
theorem AG3:∀(n t:Nat) (acc:ABG) (f:Nat),0<t->t<10^n->n<f->acc.length+n<=100->t<2^63->SW f (t:Int) acc=some ((decDigits t++acc,()),())
 |0,t,acc,f,h0,h1,_,_,_=>by omega
 |n+1,t,acc,0,_,_,hf,_,_=>by omega
 |n+1,t,acc,f+1,h0,h1,hf,ha,h63=>by
  show Wl (SW f) t acc=_
  unfold Wl;have e1:(t:Int).tmod 10=((t%10:Nat):Int):=by rfl
  have e2:(t:Int).tdiv 10=((t/10:Nat):Int):=by rfl
  rw[AB,ALi (by omega),e1,e2,Ab (by omega),Ab (by omega),AWc (by omega) (by omega)];have e3:([48+((t%10:Nat):Int)].map fun n:Int=>UInt8.ofNat n.toNat)=[UInt8.ofNat (48+t%10)]:=by
   rfl
  simp only[e3];rw[ALi (by grind[Ak,List.length_cons,List.length_nil])];by_cases ht:t<10
  ·obtain⟨g,rfl⟩:∃g,f=g+1:=⟨f-1,by omega⟩
   rw[show t/10=0 by omega,Vv ht,show t%10=t by omega];rfl
  ·rw[AG3 n (t/10) _ f (by omega) (by omega) (by omega) (by grind) (by omega),iR ht]
   simp
def Ma(n:Int):ABG:=decDigits n.toNat
theorem R_{n:Int}(h:n<9223372036854775808):QC n=some ((Ma n,()),()):=by
 unfold QC gO Ma;rw[AB];by_cases h0:n<=0
 ·rw[ALi h0,show n.toNat=0 by omega,Vv (by omega)];rfl
 ·rw[ALj h0]
  obtain⟨t,rfl⟩:=ATi (show 0<=n by omega);rw[show(t:Int).toNat=t by omega];have:=AG3 19 t [] AU (by omega) (by omega) (AZ (by omega)) (by simp) (by omega);simp_all
theorem itoa_nonneg{n:Int}(h:0<=n):itoa n=Ma n:=by
 unfold itoa Ma;grind
theorem jS{n:Int}(h:Bi n):Hj n=some ((itoa n,()),()):=by
 unfold Hj strconv_Itoa Go.Fw.AGP;unfold Bi at h;grind
theorem VU{n:Int}(h:Bi n)(h0:0<=n):Hj n=some ((Ma n,()),()):=by rw[jS h,itoa_nonneg h0]
theorem Sw{n:Int}(h:n<100):(Ma n).length<=2:=YV 1 n.toNat (by omega)
theorem zN{n:Int}(h:n<9223372036854775808):(Ma n).length<=19:=YV 18 n.toNat (by omega)
theorem Jx{p:Int}(h:Az p=true):(1<=Ah p/\Ah p<=30)/\(1<=Cc p/\Cc p<=60):=by
 unfold Ah Cc;rw[ALi h,h,AMs];unfold Az BJ at h;simp_all
def HC(p:Int):ABG:=if Az p then[101]++Ma (Ah p)++[46]++Ma (Cc p)else[]
theorem iI(p:Int):(HC p).length<=6:=by
 unfold HC;split
 ·rename_i h
  obtain⟨h1,h2⟩:=Jx h;grind[Sw,Ah,Cc,List.length_append,List.length_cons,List.length_nil]
 ·simp
theorem Pt{p:Int}(h:Bi p):GS p=some ((HC p,()),()):=by
 unfold GS HC;rw[FR h];simp only[AD,Ap];rcases ALh (Az p)with hp|hp
 rotate_left
 ·simp_all
 obtain⟨h1,h2⟩:=Jx hp;have l1:=Sw (n:=Ah p) (by omega);have l2:=Sw (n:=Cc p) (by omega);rw[hp,AMs,D5 h,XT h];simp only[AD,R_ (show Ah p<9223372036854775808 by omega),R_ (show Cc p<9223372036854775808 by omega)];rw[ALi (by rw[Ak];omega),ALi (by grind[Ak,List.length_append,List.length_cons,List.length_nil]),ALi (by grind[Ak,List.length_append,List.length_cons,List.length_nil])];rfl
theorem Ub{p:Int}(h:Bi p):FD p=some ((HC p,()),()):=by
 unfold FD HC;rw[JM h];simp only[AD,Ap];rcases ALh (Az p)with hp|hp
 rotate_left
 ·simp_all
 obtain⟨h1,h2⟩:=Jx hp;have l1:=Sw (n:=Ah p) (by omega);have l2:=Sw (n:=Cc p) (by omega);have i1:Bi (Ah p):=by unfold Bi;omega
 have i2:Bi (Cc p):=by unfold Bi;omega
 rw[hp,AMs,D6 h,SA h];simp only[AD,VU i1 (by omega),VU i2 (by omega)];rw[ALi (by rw[Ak];omega),ALi (by grind[Ak,List.length_append,List.length_cons,List.length_nil]),ALi (by grind[Ak,List.length_append,List.length_cons,List.length_nil])];rfl
theorem ABl{e:Au}(h:Bi e.2.1):EX e=It e:=by
 unfold EX It;have hm:QC e.2.1=Hj (if 0>e.2.1 then 0 else e.2.1):=by
  unfold Bi at h;rw[R_ h.2];by_cases h0:0>e.2.1
  ·rw[ALi h0,VU (by unfold Bi;omega) (by omega)]
   grind[Ma]
  ·rw[ALj h0,VU h (by omega)]
 rw[Pt h,Ub h,hm]
end Go.M
end
section
namespace Go.M
open Go.Lib (decDigits itoa)
open Go.M.H (Au Am)
theorem z6:∀(n u:Nat),10^n<=u->n+1<=(decDigits u).length
 |0,u,_=>gd u
 |n+1,u,h=>by
  rw[Nat.pow_succ]at h;have hp:0<10^n:=Nat.pow_pos (by omega);rw[iR (by omega),AOu];have:=z6 n (u/10) (by omega);simp_all
def RU(n:Int):Bool:=BJ n 0 9999999999
theorem AHV{n:Int}(h:Bi n):(decide (n>=0)&&decide (((itoa n).length:Int)<=10))=RU n:=by
 unfold RU BJ;by_cases h0:n>=0
 ·rw[AOW h0,ANC,itoa_nonneg h0]
  unfold Ma;by_cases h1:n<=9999999999
  ·have:=YV 9 n.toNat (by omega)
   grind
  ·have:=z6 10 n.toNat (by omega)
   grind
 grind
def Ee:List ABG:=[[111,112,101,110],[97,100,100],[115,116,111,114,101],[115,121,110,99],[99,114,97,115,104],[108,111,115,101],[102,105,108,108],[109,101,110,100],[115,101,97,108],[112,108,97,110],[102,105,120],[99,108,111,115,101],[116,114,105,109],[114,101,97,100],[100,114,111,112],[112,114,117,110,101]]
def CC(k:Int):ABG:=Ee.getD (k-1).toNat []
def OG(k:Int):AAO:=
 if k=8\/k=10\/k=12 then[]else if k=2 then[65,84]else if k=3 then[65,66,67]else if k=5\/k=14 then[65,66]else if k=11 then[66,67]else if k=13 then[80]else[65]
def WY(d:Am)(c:Int):Int:=if c=66 then d.2.2.1 else if c=67 then d.2.2.2.1 else d.2.1
def Ja(d:Am)(c:Int):ABG:=if c=84 then d.2.2.2.2.1 else if c=80 then HC d.2.1 else itoa (WY d c)
def Kw(d:Am)(c:Int):Bool:=if c=84 then !Go.Lib.contains d.2.2.2.2.1 [10]else if c=80 then Az d.2.1 else RU (WY d c)
def TX(d:Am):List Int->List UInt8->Option ABG
 |[],acc=>some acc
 |c::l,acc=>if Kw d c then TX d l (acc++([32]++Ja d c))else none
def DW(d:Am):Option ABG:=if Gl d then TX d (OG d.1) (CC d.1)else none
def nP(o:Option ABG):AKV:=(o.getD [],o.isSome,())
structure jb (d:Am):Prop where
 a:Bi d.2.1
 b:Bi d.2.2.1
 c:Bi d.2.2.2.1
theorem pZ{d:Am}(h:jb d)(ht:d.2.2.2.2.1.length<=2^21)(c:Int):UL d c=some (((Ja d c,Kw d c,()),()),()):=by
 have num:∀n:Int,Bi n->((Hj n).bind fun u4=>cond (decide (n>=0)) (some (((u4.1.1,decide ((u4.1.1.length:Int)<=10),()),()),())) (some (((u4.1.1,false,()),()),())))=(some (((itoa n,RU n,()),()),()):Option gB):=fun n hn=>by
  grind[jS,AHV,AD,decide]
 unfold UL Ja Kw WY;by_cases c1:c=84
 ·subst c1
  unfold strings_Contains Go.Fw.lz;grind
 rw[ANL.2 c1,ALj c1,ALj c1,ALm];by_cases c2:c=80
 ·subst c2
  rw[Ub h.a,JM h.a];rfl
 rw[ANL.2 c2,ALj c2,ALj c2,ALm];by_cases c3:c=66
 ·subst c3
  exact num _ h.b
 rw[ANL.2 c3,ALj c3,ALm];by_cases c4:c=67
 ·subst c4
  exact num _ h.c
 rw[ANL.2 c4,ALj c4,ALm];exact num _ h.a
theorem AAT{n:Int}(h:Bi n):(itoa n).length<=20:=by
 unfold itoa;unfold Bi at h;split
 ·have:=YV 18 n.natAbs (by omega)
  simp_all
 ·have:=YV 18 n.toNat (by omega)
  omega
theorem ADG{d:Am}(h:jb d)(ht:d.2.2.2.2.1.length<=2^21)(c:Int):(Ja d c).length<=2^21:=by
 unfold Ja;split
 ·omega
 ·split
  ·grind[iI]
  ·have:Bi (WY d c):=by
    unfold WY;split
    ·exact h.b
    ·split
     ·exact h.c
     ·exact h.a
   grind[AAT]
theorem jY{d:Am}(h:jb d)(ht:d.2.2.2.2.1.length<=2^21){all:AAO}(cU:all.length<=100):∀(l:AAO) (i:Nat) (acc:ABG) (f:Nat),all.drop i=l->i<=all.length->l.length<f->acc.length+l.length*2^22<=2^35->
  KA f acc (all.length:Int) (i:Int) d.1 d.2.1 d.2.2.1 d.2.2.2.1 d.2.2.2.2.1 all=some ((nP (TX d l acc),()),())
 |l,i,acc,0,_,_,hf,_=>by omega
 |[],i,acc,f+1,hd,hi,hf,ha=>by
  show JS (KA f) acc _ _ _ _ _ _ _ _=_
  unfold JS;have:all.length<=i:=by simp_all
  rw[AB,ALj (by omega)];rfl
 |c::l,i,acc,f+1,hd,hi,hf,ha=>by
  show JS (KA f) acc _ _ _ _ _ _ _ _=_
  unfold JS;have JN:i<all.length:=by
   grind
  rw[ATR JN]at hd;have hc:all[i]=c:=(AST hd).1;have hl:all.drop (i+1)=l:=(AST hd).2;rw[AB,ALi (by omega),ALi (by omega),Af JN,hc,xw d,pZ h ht];simp only[AD,Ap];have hx:=ADG h ht c;simp only[AOJ]at ha hf;unfold TX;rcases ALh (Kw d c)with ho|ho
  ·rw[ho,AMs,ALi rfl,ALi (by rw[Ak];omega),ALi (by grind[Ak,List.length_append,List.length_cons,List.length_nil]),Ab (by omega)]
   have:=jY h ht cU l (i+1) (acc++([32]++Ja d c)) f hl (by omega) (by omega) (by grind);simp_all
  ·rw[ho];rfl
theorem Jw{d:Am}(h:Gl d=true):(1<=d.1/\d.1<=16)/\d.2.2.2.2.1.length<=40:=by
 unfold Gl BJ at h;simp_all
theorem lU{k:Int}(h:1<=k/\k<=16):k=1\/k=2\/k=3\/k=4\/k=5\/k=6\/k=7\/k=8\/k=9\/k=10\/k=11\/k=12\/k=13\/k=14\/k=15\/k=16:=by omega
theorem jF{k:Int}(h:1<=k/\k<=16):∃s:List UInt8,Q0 k=some ((s,()),())/\s.length<=3/\(s.map fun c=>(c.toNat:Int))=OG k:=by
 rcases lU h with rfl|rfl|rfl|rfl|rfl|rfl|rfl|rfl|rfl|rfl|rfl|rfl|rfl|rfl|rfl|rfl<;>exact⟨_,rfl,by decide,rfl⟩
theorem AAQ(k:Int):(OG k).length<=3:=by
 grind[OG]
theorem gx(k:Int):(CC k).length<=5:=by
 unfold CC;by_cases h:(k-1).toNat<Ee.length
 ·rw[List.getD,ALk h]
  have:∀x∈Ee,x.length<=5:=by decide
  simp_all
 simp_all
theorem rm{d:Am}(h:jb d):Xl d=some ((nP (DW d),()),()):=by
 unfold Xl Zp DW;rw[xw d,kU];simp only[AD,Ap];rcases ALh (Gl d)with ho|ho
 rotate_left
 ·rw[ho];rfl
 obtain⟨hk,ht⟩:=Jw ho;obtain⟨s,e1,e2,e3⟩:=jF hk;rw[ho,AMs,ALi rfl,Ab (by omega)];have e4:QU=some (((),()),(Ee,())):=rfl;rw[e4];simp only[AD];rw[ALi (by show _/\_<(16:Int);omega),e1];simp only[AD];rw[ALi (by rw[Ak];omega),e3];have hw:=gx d.1;have hl:=AAQ d.1;exact jY h (by omega) (by omega) (OG d.1) 0 (CC d.1) AU rfl (by omega) (AZ (by omega)) (by omega)
end Go.M
end
section
namespace Go.M
open Go.Lib (decDigits itoa)
open Go.M.H (Au Am)
theorem ABz:∀l:List UInt8,(0<=Go.Lib.index l [10])↔(10:UInt8)∈l
 |[]=>by simp[Go.Lib.index]
 |b::l=>by
  have ih:=ABz l;have hg:=Go.Lib.index_ge l [10];unfold Go.Lib.index;grind
theorem ADj(l:ABG):Go.Lib.contains l [10]=l.contains 10:=by
 unfold Go.Lib.contains;rw[AUr];simp only[AM7,ABz,ATT]
def numsOf(d:Am):AAO:=
 if d.1=8\/d.1=10\/d.1=12\/d.1=13 then[]else if d.1=3 then[d.2.1,d.2.2.1,d.2.2.2.1]else if d.1=5\/d.1=14 then[d.2.1,d.2.2.1]else if d.1=11 then[d.2.2.1,d.2.2.2.1]else[d.2.1]
def TP:List Int->List UInt8->Option ABG
 |[],acc=>some acc
 |n::l,acc=>if RU n then TP l ((acc++[32])++Ma n)else none
def Qq(d:Am)(acc:ABG):ABG:=if d.1=2 then(acc++[32])++d.2.2.2.2.1 else if d.1=13 then(acc++[32])++HC d.2.1 else acc
theorem iU{n:Int}(h:RU n=true):itoa n=Ma n:=by
 unfold RU BJ at h;simp only[AM7]at h;exact itoa_nonneg h.1
theorem tc{d:Am}:∀(cs:AAO) (acc:ABG),(∀c∈cs,c≠84/\c≠80)->TX d cs acc=TP (cs.map (WY d)) acc
 |[],acc,_=>rfl
 |c::cs,acc,h=>by
  obtain⟨h1,h2⟩:=h c (by simp);simp only[TX,ATU,TP];rw[show Kw d c=RU (WY d c)by unfold Kw;simp_all];by_cases hn:RU (WY d c)=true
  ·rw[ALi hn,ALi hn,tc cs _ fun x hx=>h x (by simp[hx])]
   rw[show Ja d c=Ma (WY d c)by unfold Ja;rw[ALj h1,ALj h2,iU hn],ANZ]
  simp_all
theorem AEZ{k:Int}(h2:k≠2)(h13:k≠13):∀c∈OG k,c≠84/\c≠80:=by
 unfold OG;grind
theorem AFf{d:Am}(h2:d.1≠2)(h13:d.1≠13):numsOf d=(OG d.1).map (WY d):=by
 unfold numsOf OG;rw[ALj h2,ALj h13];by_cases c1:d.1=8\/d.1=10\/d.1=12
 ·simp_all
 rw[ALj c1,ALj (by omega)];by_cases c2:d.1=3
 ·rw[ALi c2,ALi c2];rfl
 rw[ALj c2,ALj c2];by_cases c3:d.1=5\/d.1=14
 ·rw[ALi c3,ALi c3];rfl
 rw[ALj c3,ALj c3];by_cases c4:d.1=11
 ·rw[ALi c4,ALi c4];rfl
 rw[ALj c4,ALj c4];rfl
theorem ADW{d:Am}(ho:Gl d=true)(h2:d.1≠2):d.2.2.2.2.1=[]:=by
 unfold Gl aJ at ho;grind
theorem mU{d:Am}(ho:Gl d=true):DW d=if(d.1=13/\Az d.2.1=false)\/d.2.2.2.2.1.contains 10=true then none else(TP (numsOf d) (CC d.1)).map (Qq d):=by
 unfold DW;rw[ALi ho];by_cases h2:d.1=2
 ·have e:OG d.1=[65,84]:=by rw[h2];rfl
  have e2:numsOf d=[d.2.1]:=by grind[numsOf]
  rw[e,e2];simp only[TX,TP];rw[show Kw d 65=RU d.2.1 from rfl,show Kw d 84= !d.2.2.2.2.1.contains 10 by rw[<-ADj];rfl];by_cases hn:RU d.2.1=true
  ·rw[ALi hn,ALi hn,show Ja d 65=Ma d.2.1 from iU hn]
   rcases ALh (d.2.2.2.2.1.contains 10)with hc|hc
   ·simp_all
   ·have e3:Qq d=fun acc=>(acc++[32])++d.2.2.2.2.1:=by funext acc;unfold Qq;simp_all
    rw[hc,e3,show Ja d 84=d.2.2.2.2.1 from rfl];simp[h2]
  simp_all
 have ht:=ADW ho h2;rw[ht];by_cases h13:d.1=13
 ·have e:OG d.1=[80]:=by rw[h13];rfl
  have e2:numsOf d=[]:=by grind[numsOf]
  rw[e,e2];simp only[TX,TP];rw[show Kw d 80=Az d.2.1 from rfl];rcases ALh (Az d.2.1)with hp|hp
  ·have e3:Qq d=fun acc=>(acc++[32])++HC d.2.1:=by funext acc;unfold Qq;simp_all
   rw[hp,e3,show Ja d 80=HC d.2.1 from rfl];simp
  simp_all
 rw[ALj (by simp[h13]),tc _ _ (AEZ h2 h13),AFf h2 h13];have:Qq d=id:=by funext acc;unfold Qq;simp_all
 simp_all
theorem YY{d:Am}(h:jb d)(ht:d.2.2.2.2.1.length<=2^21){all:AAO}(cU:all.length<=100)(RW:∀x∈all,Bi x):∀(l:AAO) (i:Nat) (acc:ABG) (f:Nat),all.drop i=l->i<=all.length->l.length<f->acc.length+l.length*100<=2^20->
  Eo f acc (i:Int) d.1 d.2.1 d.2.2.1 d.2.2.2.1 d.2.2.2.2.1 all=some ((nP ((TP l acc).map (Qq d)),()),())
 |l,i,acc,0,_,_,hf,_=>by omega
 |[],i,acc,f+1,hd,hi,hf,ha=>by
  show Ip (Fy f) (Eo f) acc _ _ _ _ _ _ _=_
  unfold Ip;have:all.length<=i:=by simp_all
  rw[AB,ALj (by omega)];simp only[APN,Nat.zero_mul,ATL]at ha;by_cases c1:d.1=2
  ·have e3:Qq d acc=(acc++[32])++d.2.2.2.2.1:=by unfold Qq;simp_all
   rw[show TP [] acc=some acc from rfl,ATp,e3,c1,ALi (by rw[Ak];omega),ALi (by grind[Ak,List.length_append,List.length_cons,List.length_nil])];rfl
  by_cases c2:d.1=13
  ·have hp:=iI d.2.1
   have e3:Qq d acc=(acc++[32])++HC d.2.1:=by unfold Qq;simp_all
   rw[show TP [] acc=some acc from rfl,ATp,e3,c2,Pt h.a];have k1:acc.length+1<=C7:=by rw[Ak];omega
   have k2:(acc++[32]).length+(HC d.2.1).length<=C7:=by grind[Ak,List.length_append,List.length_cons,List.length_nil]
   simp only[AD,ALi k1,ALi k2];rfl
  have e3:Qq d acc=acc:=by unfold Qq;simp_all
  rw[show TP [] acc=some acc from rfl,ATp,e3,ANL.2 c1,ALm,ANL.2 c2,ALm];rfl
 |c::l,i,acc,f+1,hd,hi,hf,ha=>by
  show Ip (Fy f) (Eo f) acc _ _ _ _ _ _ _=_
  unfold Ip;have JN:i<all.length:=by
   grind
  rw[ATR JN]at hd;have hc:all[i]=c:=(AST hd).1;have hl:all.drop (i+1)=l:=(AST hd).2;have hci:Bi c:=RW c (by grind);rw[AB,ALi (by omega),ALi (by omega),Af JN,hc,BU];simp only[AD,Ap,AOJ]at ha hf|-;simp only[TP];rw[show BJ c 0 9999999999=RU c from rfl];rcases ALh (RU c)with ho|ho
  ·have hx:=zN (n:=c) hci.2
   rw[ho,AMs,ALi rfl,ALi (by rw[Ak];omega),ALi (by omega),R_ hci.2];simp only[AD];rw[ALi (by grind[Ak,List.length_append,List.length_cons,List.length_nil]),Ab (by omega)];have:=YY h ht cU RW l (i+1) ((acc++[32])++Ma c) f hl (by omega) (by omega) (by grind);simp_all
  ·rw[ho];rfl
theorem cZ(d:Am):(numsOf d).length<=3:=by
 grind[numsOf]
theorem AIU{d:Am}(h:jb d):∀x∈numsOf d,Bi x:=by
 have ha:=h.a;have hb:=h.b;have hc:=h.c;grind[numsOf]
theorem jV{d:Am}:Uq d=some (((),()),(numsOf d,())):=by
 unfold Uq numsOf;grind
theorem jM{k:Int}(h:1<=k/\k<=16):VV k=some ((CC k,()),()):=by
 unfold VV CC;rw[ALi (by omega)];obtain⟨m,rfl⟩:∃m:Nat,k=((m+1:Nat):Int):=⟨(k-1).toNat,by omega⟩;rw[show(((m+1:Nat):Int)-1).toNat=m by omega,show(((m+1:Nat):Int)).toNat=m+1 by omega];rfl
theorem Z0{d:Am}(h:jb d)(hk:1<=d.1/\d.1<=16)(ht:d.2.2.2.2.1.length<=40):∀(l:ABG) (i f:Nat),d.2.2.2.2.1.drop i=l->i<=d.2.2.2.2.1.length->l.length+10<f->
  Fy f (i:Int) d.1 d.2.1 d.2.2.1 d.2.2.2.1 d.2.2.2.2.1=some ((nP (if l.contains 10 then none else(TP (numsOf d) (CC d.1)).map (Qq d)),()),())
 |l,i,0,_,_,hf=>by omega
 |[],i,f+1,hd,hi,hf=>by
  show JW (Fy f) (Eo f) _ _ _ _ _ _=_
  unfold JW;have:d.2.2.2.2.1.length<=i:=by simp_all
  have hw:=gx d.1;have hl:=cZ d;rw[AB,ALj (by omega),jM hk,xw d,jV];simp only[AD];have:=YY h (by omega) (by omega) (AIU h) (numsOf d) 0 (CC d.1) f rfl (by omega) (by omega) (by omega);simp_all
 |c::l,i,f+1,hd,hi,hf=>by
  show JW (Fy f) (Eo f) _ _ _ _ _ _=_
  unfold JW;have JN:i<d.2.2.2.2.1.length:=by
   grind
  rw[ATR JN]at hd;have hc:d.2.2.2.2.1[i]=c:=(AST hd).1;have hl:d.2.2.2.2.1.drop (i+1)=l:=(AST hd).2;rw[AB,ALi (by omega),ALi (by omega),Af JN,hc];by_cases h10:c=10
  ·subst h10
   rfl
  ·have e:((c.toNat:Int)==10)=false:=by
    rw[ANL];intro hh;apply h10;apply UInt8.toNat_inj.1;grind
   rw[e,ALm,Ab (by omega)];simp only[AOJ]at hf;have:=Z0 h hk ht l (i+1) f hl (by omega) (by omega);grind
theorem gP{d:Am}(h:jb d):Jr d=some ((nP (DW d),()),()):=by
 unfold Jr Z1;rw[xw d,ke];simp only[AD,Ap];rcases ALh (Gl d)with ho|ho
 rotate_left
 ·unfold DW
  rw[ho];rfl
 obtain⟨hk,ht⟩:=Jw ho;have key:=Z0 h hk ht d.2.2.2.2.1 0 AU rfl (by omega) (AZ (by omega));rw[show((0:Nat):Int)=0 from rfl]at key;rw[ho,AMs,mU ho];by_cases c2:d.1=13
 ·rw[c2,FR h.a]
  simp only[AD,AQd,AMs,Ap];rw[c2]at key;rcases ALh (Az d.2.1)with hp|hp
  ·simp_all
  ·rw[hp];rfl
 grind
end Go.M
end
section
namespace Go.M
open Go.Lib (decDigits itoa parseUint10 parseMag atoiAll)
open Go.M.H (Au Am)
theorem ib{k:Nat}(h:k<10):(UInt8.ofNat (48+k)).toNat=48+k:=by
 rw[UInt8.toNat_ofNat'];omega
theorem pT:∀(n u:Nat),u<=n-> ∀c∈decDigits u,48<=c.toNat/\c.toNat<=57
 |0,u,hu,c,hc=>by
  grind[Vv,List.mem_singleton,ib]
 |n+1,u,hu,c,hc=>by
  by_cases h:u<10
  ·grind[Vv,List.mem_singleton,ib]
  ·rw[iR h,AOK]at hc
   rcases hc with hc|hc
   ·exact pT n (u/10) (by omega) c hc
   simp_all;omega
theorem AKs{u:Nat}{c:UInt8}(h:c.toNat<48):c∉decDigits u:=fun hc=>by
 have:=pT u u (AOd _) c hc;omega
theorem xX:∀(n u:Nat) (r:ABG),u<=n->u<10^18->parseUint10 0 (decDigits u++r)=parseUint10 u r
 |0,u,r,hn,hu=>by
  rw[Vv (by omega)]
  show parseUint10 0 (UInt8.ofNat (48+u)::r)=_
  simp only[parseUint10,ib (show u<10 by omega)];simp_all
 |n+1,u,r,hn,hu=>by
  by_cases h:u<10
  ·rw[Vv h]
   show parseUint10 0 (UInt8.ofNat (48+u)::r)=_
   simp only[parseUint10,ib h];grind
  ·rw[iR h,ANZ,xX n (u/10) _ (by omega) (by omega)]
   show parseUint10 (u/10) (UInt8.ofNat (48+u%10)::r)=_
   simp only[parseUint10,ib (show u%10<10 by omega)];grind
theorem AHf{u:Nat}(h:u<10^18):atoiAll (decDigits u)= .ok (u:Int):=by
 have hp:parseMag (decDigits u)= .ok u:=by
  have:=gd u;unfold parseMag;rw[ALj (by grind)];have:=xX u u [] (AOd _) h;rw[ANV]at this;rw[this];rfl
 cases hd:decDigits u with
 |nil=>grind[gd]
 |cons c r=>
  have hc:=pT u u (AOd _) c (by simp_all);rw[Go.Lib.atoiAll_plain c r (by omega) (by omega),<-hd,hp];unfold Go.Lib.signless;grind
theorem AGb{c:UInt8}{r:ABG}:∀{a:ABG},c∉a->Go.Lib.index (a++c::r) [c]=a.length
 |[],_=>by simp[Go.Lib.index,List.isPrefixOf]
 |b::a,h=>by
  simp only[AO3,AWw]at h;have ih:=AGb (r:=r) h.2;rw[ASn];unfold Go.Lib.index;simp_all
theorem ADe{c:UInt8}:∀{a:ABG},c∉a->Go.Lib.index a [c]= -1
 |[],_=>by rfl
 |b::a,h=>by
  simp only[AO3,AWw]at h;have ih:=ADe h.2;grind[Go.Lib.index]
theorem AA5{c:UInt8}{a r:ABG}(h:c∉a):Go.Lib.cut (a++c::r) [c]=(a,r,true):=by
 unfold Go.Lib.cut;rw[AGb h,ALi (by omega)];simp
theorem ACS{c:UInt8}{a:ABG}(h:c∉a):Go.Lib.cut a [c]=(a,[],false):=by
 unfold Go.Lib.cut;rw[ADe h,ALj (by omega)]
theorem AA_{s p:ABG}:(Go.Lib.cut s p).1.length<=s.length/\(Go.Lib.cut s p).2.1.length<=s.length:=by
 grind[Go.Lib.cut,List.length_take,List.length_drop]
theorem cY{s p:ABG}(h:s.length<=2^21):strings_Cut s p=some (((((Go.Lib.cut s p).1,(Go.Lib.cut s p).2.1,(Go.Lib.cut s p).2.2,()),()),()):mM):=by
 unfold strings_Cut Go.Fw.ALv;grind
def rdN(s:ABG)(most:Int):Int×Bool:=
 match atoiAll s with
 | .ok v=>if 0<=v/\(s.length:Int)<=most/\itoa v=s then(v,true)else(0,false)
 |_=>(0,false)
theorem AKg{s:ABG}{most:Int}(h:s.length<=1048576):LG s most=some ((((rdN s most).1,(rdN s most).2,()),()),()):=by
 unfold LG Go.Fw.FL;rw[ALi h];rfl
theorem AUu(s:ABG)(most:Int):Bi (rdN s most).1/\0<=(rdN s most).1:=by
 grind[rdN,Go.Lib.atoiAll_bounds,Bi]
theorem AG8{n most:Int}(h0:0<=n)(h1:n<10^18)(hm:((Ma n).length:Int)<=most):rdN (Ma n) most=(n,true):=by
 unfold rdN;have e:atoiAll (Ma n)= .ok n:=by
  grind[AHf,Ma]
 rw[e];simp only;rw[ALi ⟨h0,hm,itoa_nonneg h0⟩]
theorem AAs{n:Int}{c:UInt8}(h:c.toNat<48):c∉Ma n:=AKs h
theorem ABd{p:Int}(h:Bi p)(hp:Az p=true):EU (Ah p) (Cc p)=p:=by
 have hb:=Jx hp;unfold EU;rw[Ao.2 hb.1,Ao.2 hb.2];unfold Hr Ah Cc VT;grind
def prF(A B:Int×Bool)(w:ABG):Option fl:=
 cond (!A.2) (some (((0,false,()),()),()))
 (cond (!B.2) (some (((0,false,()),()),()))
 (cond (!(BJ A.1 1 30&&BJ B.1 1 60)) (some (((0,false,()),()),()))
 ((FD (EU A.1 B.1)).bind fun u6=>cond (!(u6.1.1==w)) (some (((0,false,()),()),())) (some (((EU A.1 B.1,true,()),()),())))))
theorem iS(e o:Int):Bi (EU e o):=by
 unfold EU;split
 ·rename_i h
  simp only[AL8,Ao]at h;unfold Bi Hr;omega
 grind[Bi]
theorem APk(A B:Int×Bool)(w:ABG):∃x b,prF A B w=some (((x,b,()),()),())/\Bi x/\ ∀p,Bi p->Az p=true->HC p=w->A=(Ah p,true)->B=(Cc p,true)->x=p:=by
 have z:Bi 0:=by unfold Bi;omega
 unfold prF;rw[Ub (iS _ _)];simp only[AD];rcases ALh A.2 with h1|h1
 rotate_left
 ·rw[h1]
  exact⟨_,_,rfl,z,fun p _ _ _ e=>by simp_all⟩
 rcases ALh B.2 with h2|h2
 rotate_left
 ·rw[h1,h2]
  exact⟨_,_,rfl,z,fun p _ _ _ _ e=>by simp_all⟩
 rcases ALh (BJ A.1 1 30&&BJ B.1 1 60)with h3|h3
 rotate_left
 ·rw[h1,h2,h3]
  refine⟨_,_,rfl,z,fun p _ hp _ e e' => ?_⟩;grind[Jx,Ao]
 rw[h1,h2,h3];simp only[AL9,ALm];rcases ALh (HC (EU A.1 B.1)==w)with h4|h4
 ·rw[h4]
  refine⟨_,_,rfl,iS _ _,fun p hp hpo _ e e' => ?_⟩;grind[ABd]
 ·rw[h4]
  refine⟨_,_,rfl,z,fun p hp hpo hw e e' => ?_⟩;grind[ABd]
theorem oP{w:ABG}(hw:w.length<=1048576):∃x b,Qb w=some (((x,b,()),()),())/\Bi x/\ ∀p,Bi p->Az p=true->HC p=w->x=p:=by
 have ht:(Go.Lib.trimPrefix w [101]).length<=w.length:=by
  unfold Go.Lib.trimPrefix;grind
 have hc:=AA_ (s:=Go.Lib.trimPrefix w [101]) (p:=[46]);have key:Qb w=prF (rdN (Go.Lib.cut (Go.Lib.trimPrefix w [101]) [46]).1 2) (rdN (Go.Lib.cut (Go.Lib.trimPrefix w [101]) [46]).2.1 2) w:=by
  unfold Qb;rw[show strings_TrimPrefix w [101]=some ((Go.Lib.trimPrefix w [101],()),())from rfl];simp only[AD];rw[cY (by omega)];simp only[AD];rw[AKg (by omega),AKg (by omega)];simp only[AD];rw[HV];rfl
 obtain⟨x,b,h1,h2,h3⟩:=APk (rdN (Go.Lib.cut (Go.Lib.trimPrefix w [101]) [46]).1 2) (rdN (Go.Lib.cut (Go.Lib.trimPrefix w [101]) [46]).2.1 2) w;refine⟨x,b,key.trans h1,h2,fun p hp hpo he=>h3 p hp hpo he ?_ ?_⟩
 all_goals
  have hb:=Jx hpo;have e1:Go.Lib.trimPrefix w [101]=Ma (Ah p)++46::Ma (Cc p):=by
   rw[<-he];unfold HC;rw[ALi hpo];simp[Go.Lib.trimPrefix,Go.Lib.hasPrefix,List.isPrefixOf]
  have l1:=Sw (n:=Ah p) (by omega);have l2:=Sw (n:=Cc p) (by omega);rw[e1,AA5 (AAs (by decide))]
 all_goals grind[AG8]
end Go.M
end
section
namespace Go.M
open Go.Lib (decDigits itoa parseUint10 parseMag atoiAll)
open Go.M.H (Au Am)
def AM5(D d:Am)(c:Int):Am:=
 if c=84 then(d.1,d.2.1,d.2.2.1,d.2.2.2.1,D.2.2.2.2.1,())else if c=66 then(d.1,d.2.1,D.2.2.1,d.2.2.2.1,d.2.2.2.2.1,())else if c=67 then(d.1,d.2.1,d.2.2.1,D.2.2.2.1,d.2.2.2.2.1,())else(d.1,D.2.1,d.2.2.1,d.2.2.2.1,d.2.2.2.2.1,())
def Rk(D:Am):List Int->List UInt8
 |[]=>[]
 |[c]=>Ja D c
 |c::c'::l=>Ja D c++32::Rk D (c'::l)
def AGG:List Int->Prop
 |[]=>True
 |[_]=>True
 |c::c'::l=>c≠84/\AGG (c'::l)
def letter(c:Int):Prop:=c=65\/c=66\/c=67\/c=80\/c=84
theorem AH5{p:Int}:(32:UInt8)∉HC p:=by
 unfold HC;split
 ·simp only[AOK,AQC,AWw]
  grind[AAs]
 ·simp
theorem wh{D:Am}{c:Int}(hc:c≠84)(ho:Kw D c=true):(32:UInt8)∉Ja D c:=by
 unfold Ja;unfold Kw at ho;rw[ALj hc]at ho|-;by_cases h:c=80
 ·rw[ALi h];exact AH5
 ·rw[ALj h]at ho|-
  grind[iU,AAs]
theorem ADX{D:Am}{c:Int}{l:AAO}(hc:c≠84)(ho:Kw D c=true):(Go.Lib.cut (Rk D (c::l)) [32]).1=Ja D c/\(Go.Lib.cut (Rk D (c::l)) [32]).2.1=Rk D l:=by
 cases l with
 |nil=>simp only[Rk];rw[ACS (wh hc ho)];simp_all
 |cons c' l=>simp only[Rk];rw[AA5 (wh hc ho)];simp_all
theorem AI7{n:Int}(h:RU n=true):rdN (itoa n) 10=(n,true):=by
 rw[iU h];unfold RU BJ at h;simp only[AM7]at h;have:=YV 9 n.toNat (by omega);grind[AG8,Ma]
theorem AC4{c:Int}{r:ABG}{d:Am}(hc:letter c)(h:jb d)(hr:r.length<=1048576)(ht:d.2.2.2.2.1.length<=1048576):
  ∃r' d',N2 c r d.1 d.2.1 d.2.2.1 d.2.2.2.1 d.2.2.2.2.1=some ((r',()),(d',()))/\jb d'/\r'.length<=1048576/\d'.2.2.2.2.1.length<=1048576/\
   ∀(D:Am) (l:AAO),jb D->Kw D c=true->(c=84->l=[])->r=Rk D (c::l)->r' =Rk D l/\d' =AM5 D d c:=by
 have ha:=h.a;have hb:=h.b;have vK:=h.c;unfold N2;by_cases c1:c=84
 ·subst c1
  refine⟨[],(d.1,d.2.1,d.2.2.1,d.2.2.2.1,r,()),rfl,⟨ha,hb,vK⟩,by simp,hr,fun D l _ _ hl e=> ?_⟩;obtain rfl:=hl rfl;exact⟨rfl,by rw[e];rfl⟩
 have hl:=AA_ (s:=r) (p:=[32]);rw[ANL.2 c1,ALm,cY (by omega)];simp only[AD];rw[AKg (by omega)];simp only[AD];have rin:=(AUu (Go.Lib.cut r [32]).1 10).1;have num:∀(D:Am) (l:AAO),c≠80->Kw D c=true->r=Rk D (c::l)->(Go.Lib.cut r [32]).2.1=Rk D l/\(rdN (Go.Lib.cut r [32]).1 10).1=WY D c:=fun D l c2 ho e=>by
  obtain⟨e1,e2⟩:=ADX (l:=l) c1 ho;rw[e,e1,e2];refine⟨rfl,?_⟩;unfold Ja;unfold Kw at ho;rw[ALj c1,ALj c2]at ho|-;rw[AI7 ho]
 by_cases c2:c=65
 ·subst c2
  refine⟨_,(d.1,(rdN (Go.Lib.cut r [32]).1 10).1,d.2.2.1,d.2.2.2.1,d.2.2.2.2.1,()),rfl,⟨rin,hb,vK⟩,by omega,ht,fun D l _ ho _ e=> ?_⟩;obtain⟨e1,e2⟩:=num D l (by decide) ho e;exact⟨e1,by rw[e2];rfl⟩
 by_cases c3:c=66
 ·subst c3
  refine⟨_,(d.1,d.2.1,(rdN (Go.Lib.cut r [32]).1 10).1,d.2.2.2.1,d.2.2.2.2.1,()),rfl,⟨ha,rin,vK⟩,by omega,ht,fun D l _ ho _ e=> ?_⟩;obtain⟨e1,e2⟩:=num D l (by decide) ho e;exact⟨e1,by rw[e2];rfl⟩
 by_cases c4:c=67
 ·subst c4
  refine⟨_,(d.1,d.2.1,d.2.2.1,(rdN (Go.Lib.cut r [32]).1 10).1,d.2.2.2.2.1,()),rfl,⟨ha,hb,rin⟩,by omega,ht,fun D l _ ho _ e=> ?_⟩;obtain⟨e1,e2⟩:=num D l (by decide) ho e;exact⟨e1,by rw[e2];rfl⟩
 obtain rfl:c=80:=by rcases hc with h|h|h|h|h<;>omega
 obtain⟨x,b,h1,h2,h3⟩:=oP (w:=(Go.Lib.cut r [32]).1) (by omega);rw[h1];refine⟨_,(d.1,x,d.2.2.1,d.2.2.2.1,d.2.2.2.2.1,()),rfl,⟨h2,hb,vK⟩,by omega,ht,fun D l hD ho _ e=> ?_⟩;obtain⟨e1,e2⟩:=ADX (l:=l) c1 ho;refine⟨by simp_all,?_⟩;rw[h3 D.2.1 hD.a ho (by rw[e,e1];rfl)];rfl
def AGZ:Am:=(0,0,0,0,[],())
def fin(line:ABG)(d:Am):Am×Bool×Unit:=if DW d=some line then(d,true,())else(AGZ,false,())
theorem AGB{line:ABG}{all:AAO}(cU:all.length<=100)(RW:∀c∈all,letter c):∀(l:AAO) (i:Nat) (r:ABG) (d:Am) (f:Nat),all.drop i=l->i<=all.length->l.length<f->jb d->r.length<=1048576->d.2.2.2.2.1.length<=1048576->
  ∃df,jb df/\I1 f line r (all.length:Int) (i:Int) 0 0 0 0 [] d.1 d.2.1 d.2.2.1 d.2.2.2.1 d.2.2.2.2.1 all=some ((fin line df,()),())/\
   ∀D,jb D->(∀c∈l,Kw D c=true)->AGG l->r=Rk D l->df=l.foldl (AM5 D) d
 |l,i,r,d,0,_,_,hf,_,_,_=>by omega
 |[],i,r,d,f+1,hd,hi,hf,h,hr,ht=>by
  have:all.length<=i:=by simp_all
  refine⟨d,h,?_,fun D _ _ _ _=>rfl⟩
  show Iq (I1 f) _ _ _ _ _ _ _ _ _ _ _ _ _ _ _=_
  unfold Iq;rw[AB,ALj (by omega),xw d,rm h];simp only[AD];unfold fin nP;cases hl:DW d with
  |none=>rfl
  |some t=>
   simp only[AQv,AL9,ALm,ARc,ALl];by_cases e:t=line
   ·simp_all
   ·rw[ALj e,ANL.2 e];rfl
 |c::l,i,r,d,f+1,hd,hi,hf,h,hr,ht=>by
  have JN:i<all.length:=by
   grind
  rw[ATR JN]at hd;have hc:all[i]=c:=(AST hd).1;have hl:all.drop (i+1)=l:=(AST hd).2;obtain⟨r',d',e1,e2,e3,e4,e5⟩:=AC4 (c:=c) (r:=r) (d:=d) (RW c (by grind)) h hr ht;simp only[AOJ]at hf;obtain⟨df,g1,g2,g3⟩:=AGB (line:=line) cU RW l (i+1) r' d' f hl (by omega) (by omega) e2 e3 e4;refine⟨df,g1,?_,fun D hD ho hT e=> ?_⟩
  ·show Iq (I1 f) _ _ _ _ _ _ _ _ _ _ _ _ _ _ _=_
   unfold Iq;rw[AB,ALi (by omega),ALi (by omega),Af JN,hc,e1];grind[AD,ZR]
  ·obtain⟨k1,k2⟩:=e5 D l hD (ho c (by simp)) (fun h84=>by
    cases l with
    |nil=>rfl
    |cons c' l=>exact absurd h84 hT.1) e
   have:=g3 D hD (fun x hx=>ho x (by simp[hx])) (by
    cases l with
    |nil=>trivial
    |cons c' l=>exact hT.2) k1
   simp_all
theorem tY{D:Am}:∀(l:AAO) (acc L:ABG),TX D l acc=some L->(∀c∈l,Kw D c=true)/\L=acc++(if l=[]then[]else 32::Rk D l)
 |[],acc,L,h=>by
  grind[TX,Option.some.injEq]
 |c::l,acc,L,h=>by
  simp only[TX]at h;split at h
  case isFalse=>cases h
  rename_i hc;obtain⟨h1,h2⟩:=tY l _ L h;refine⟨fun x hx=> ?_,?_⟩
  ·grind
  ·rw[ALj (show¬(c::l=[])by simp),h2]
   cases l with
   |nil=>simp[Rk]
   |cons c' l=>simp[Rk]
theorem tG{k:Int}(h:1<=k/\k<=16):(32:UInt8)∉CC k:=by
 rcases lU h with rfl|rfl|rfl|rfl|rfl|rfl|rfl|rfl|rfl|rfl|rfl|rfl|rfl|rfl|rfl|rfl<;>decide
theorem AA1{k:Int}(h:1<=k/\k<=16):(∀c∈OG k,letter c)/\AGG (OG k):=by
 rcases lU h with rfl|rfl|rfl|rfl|rfl|rfl|rfl|rfl|rfl|rfl|rfl|rfl|rfl|rfl|rfl|rfl<;>simp[OG,AGG,letter]
theorem AMy{D:Am}(ho:Gl D=true):(OG D.1).foldl (AM5 D) (D.1,0,0,0,[],())=D:=by
 obtain⟨hk,_⟩:=Jw ho;obtain⟨k,a,b,n,t,⟨⟩⟩:=D;simp only at hk;unfold Gl at ho;simp only[AL8]at ho;obtain⟨_,h1,h2,h3,h4,_⟩:=ho;rcases lU hk with rfl|rfl|rfl|rfl|rfl|rfl|rfl|rfl|rfl|rfl|rfl|rfl|rfl|rfl|rfl|rfl<;>simp[aJ]at h1 h2 h3 h4<;>simp[OG,AM5, *]
theorem AAA{x:ByteArray}:∀(zs:List ByteArray) (i:Nat),-1<=Go.Lib.idxFromS zs x i/\Go.Lib.idxFromS zs x i<(i+zs.length:Nat)\/Go.Lib.idxFromS zs x i= -1
 |[],i=>by right;rfl
 |z::zs,i=>by
  unfold Go.Lib.idxFromS;split
  ·grind
  ·rcases AAA (x:=x) zs (i+1)with h|h
   all_goals grind
theorem AJW{k:Int}(h:1<=k/\k<=16):Go.Lib.idxOfS (Ee.map fun y=>⟨y.toArray⟩) ⟨(CC k).toArray⟩=k-1:=by
 rcases lU h with rfl|rfl|rfl|rfl|rfl|rfl|rfl|rfl|rfl|rfl|rfl|rfl|rfl|rfl|rfl|rfl<;>decide
theorem M0{D:Am}{line:ABG}(h:DW D=some line):Gl D=true/\(∀c∈OG D.1,Kw D c=true)/\line=CC D.1++(if OG D.1=[]then[]else 32::Rk D (OG D.1)):=by
 grind[DW,tY]
def nr(line:ABG)(o:Am×Bool×Unit):Prop:=
 (∃d,jb d/\DW d=some line/\o=(d,true,())/\ ∀d',jb d'->DW d' =some line->d' =d)\/((∀d,jb d->DW d≠some line)/\o=(AGZ,false,()))
theorem AAH{line:ABG}{df:Am}(h:jb df)(hc:∀d,jb d->DW d=some line->df=d):nr line (fin line df):=by
 unfold fin;by_cases e:DW df=some line
 ·rw[ALi e]
  exact .inl ⟨df,h,e,rfl,fun d' hd hl=>(hc d' hd hl).symm⟩
 ·rw[ALj e]
  refine .inr ⟨fun d hd hl=>e ?_,rfl⟩;grind
theorem pU{line:ABG}(hl:line.length<=1048576):∃o,UQ line=some ((o,()),())/\nr line o:=by
 have dA:=AA_ (s:=line) (p:=[32]);unfold UQ Yb;rw[cY (by omega),show QU=some (((),()),(Ee,()))from rfl];simp only[AD];unfold Kk Go.Fw.ABg;rw[ALi (show Ee.length<=9223372036854775807 by decide)];simp only[ATp,AD];have kind:∀d,jb d->DW d=some line->(Go.Lib.cut line [32]).1=CC d.1/\(Go.Lib.cut line [32]).2.1=Rk d (OG d.1):=fun d hd h=>by
  obtain⟨ho,h1,h2⟩:=M0 h;obtain⟨hk,_⟩:=Jw ho;by_cases he:OG d.1=[]
  ·rw[ALi he,ANV]at h2
   rw[h2,ACS (tG hk),he];exact⟨rfl,rfl⟩
  ·rw[ALj he]at h2
   rw[h2,AA5 (tG hk)];simp_all
 have AWg:∀d,jb d->DW d=some line->1+Go.Lib.idxOfS (Ee.map fun y=>⟨y.toArray⟩) ⟨(Go.Lib.cut line [32]).1.toArray⟩=d.1:=fun d hd h=>by
  grind[AJW,Jw,M0]
 have rng: -1<=Go.Lib.idxOfS (Ee.map fun y=>⟨y.toArray⟩) ⟨(Go.Lib.cut line [32]).1.toArray⟩/\Go.Lib.idxOfS (Ee.map fun y=>⟨y.toArray⟩) ⟨(Go.Lib.cut line [32]).1.toArray⟩<16:=by
  rcases AAA (x:=⟨(Go.Lib.cut line [32]).1.toArray⟩) (Ee.map fun y=>⟨y.toArray⟩) 0 with h|h
  ·have h2:=h.2
   rw[ATS,show Ee.length=16 from rfl]at h2;unfold Go.Lib.idxOfS;omega
  grind[Go.Lib.idxOfS]
 generalize Go.Lib.idxOfS (Ee.map fun y=>⟨y.toArray⟩) ⟨(Go.Lib.cut line [32]).1.toArray⟩=x at AWg rng
 rw[Ab (by omega)];by_cases hx:1+x=0
 ·rw[ASQ.2 hx]
  refine⟨(AGZ,false,()),rfl,.inr ⟨fun d hd h=> ?_,rfl⟩⟩;have:=AWg d hd h;have:=Jw (M0 h).1;omega
 rw[ANL.2 hx,ALm];have hk:1<=1+x/\1+x<=16:=by omega
 obtain⟨s,e1,e2,e3⟩:=jF hk;rw[e1];simp only[AD];rw[ALi (by rw[Ak];omega),e3];obtain⟨hlet,hlast⟩:=AA1 hk;have h3:=AAQ (1+x);have z:jb (1+x,0,0,0,[],()):=by constructor<;>(unfold Bi;simp)
 obtain⟨df,g1,g2,g3⟩:=AGB (line:=line) (by omega) hlet (OG (1+x)) 0 (Go.Lib.cut line [32]).2.1 (1+x,0,0,0,[],()) AU rfl (by omega) (AZ (by omega)) z (by omega) (by simp);grind[fin,AAH,M0,AMy]
end Go.M
end
section
namespace Go.M
open Go.Lib (decDigits itoa)
open Go.M.H (Au Am)
def ADm(i j x:Int):Option Xt:=cond (i==j) (some ((((-1),i,()),()),())) (cond (decide (AQ (i-j)>10)) (some ((((-1),i,()),()),())) (some (((x,i,()),()),())))
def gA(s:ABG)(i:Nat):Bool:=decide (i<s.length)&&(decide (48<=(s.getD i 0).toNat)&&decide ((s.getD i 0).toNat<=57))
theorem ACB{R:Vg}{s:ABG}{i j:Nat}{x:Int}(hi:i<=2^40)(hj:j<=i)(hx:0<=x/\x<10^11):
  UW R s (i:Int) (j:Int) x=if gA s i=true/\i-j<11 then R s ((i+1:Nat):Int) (j:Int) (10*x+((s.getD i 0).toNat:Int)-48)else ADm i j x:=by
 have hb:=(s.getD i 0).toNat_lt;have no:gA s i=false->(if gA s i=true/\i-j<11 then R s ((i+1:Nat):Int) (j:Int) (10*x+((s.getD i 0).toNat:Int)-48)else ADm i j x)=ADm i j x:=fun h=>ALj (by simp_all)
 unfold UW;simp only[show((i:Int)).toNat=i by omega]
 generalize hc0:s.getD i 0=c at*
 by_cases h1:i<s.length
 rotate_left
 ·rw[no (by grind[gA]),AQS (show¬((i:Int)<(s.length:Int))by omega)];rfl
 have hc:(0:Int)<=(i:Int)/\(i:Int)<(s.length:Int):=by omega
 simp only[ALi hc];rw[AOW (show(i:Int)<(s.length:Int)by omega),AMs];by_cases h2:48<=c.toNat
 rotate_left
 ·rw[no (by grind[gA]),AQS (show¬((c.toNat:Int)>=48)by omega)];rfl
 rw[AOW (show(c.toNat:Int)>=48 by omega),AMs];by_cases h3:c.toNat<=57
 rotate_left
 ·rw[no (by grind[gA]),AQS (show¬((c.toNat:Int)<=57)by omega)];rfl
 have hd:gA s i=true:=by grind[gA]
 rw[AOW (show(c.toNat:Int)<=57 by omega),AMs];by_cases h4:i-j<11
 ·rw[ALi (show gA s i=true/\i-j<11 from⟨hd,h4⟩),Ab (x:=(i:Int)-j) (by omega),AOW (show(i:Int)-j<11 by omega),AMs,
   Ab (x:=10*x) (by omega),Ab (x:=(c.toNat:Int)) (by omega),Ab (x:=10*x+(c.toNat:Int)) (by omega),Ab (x:=10*x+(c.toNat:Int)-48) (by omega),Ab (x:=(i:Int)+1) (by omega)]
  rfl
 ·rw[ALj (show¬(gA s i=true/\i-j<11)from fun h=>h4 h.2)]
  have e:decide (AQ ((i:Int)-j)<11)=false:=by grind[ZR,decide_eq_false]
  rw[e,ALm];rfl
theorem AJA{i j:Nat}{x:Int}(hi:i<=2^40)(hj:j<=i)(h11:i-j<=11)(hx:0<=x/\x<10^11):∃y:Int,ADm i j x=some (((y,(i:Int),()),()),())/\ -1<=y/\y<10^11/\(j<i->i-j<=10->y=x):=by
 unfold ADm;rw[Ab (x:=(i:Int)-j) (by omega)];by_cases h1:i=j
 ·simp_all
 rw[ANL.2 (by omega),ALm,AB];by_cases h2:(i:Int)-j>10
 ·simp_all;omega
 ·rw[ALj h2]
  grind
theorem ACW{s:ABG}{j:Nat}(hj:j<=2^30):∀(n i:Nat) (x:Int) (f:Nat),i-j+n=11->j<=i->n<f->0<=x->x<10^(i-j)->
  ∃(y:Int) (k:Nat),M4 f s (i:Int) (j:Int) x=some (((y,(k:Int),()),()),())/\ -1<=y/\y<10^11/\k<=j+11/\
   ∀(ds post:ABG) (c:UInt8),s.drop i=ds++post->(∀c∈ds,48<=c.toNat/\c.toNat<=57)->(∀c r,post=c::r-> ¬(48<=c.toNat/\c.toNat<=57))->1<=i-j+ds.length->i-j+ds.length<=10->
    y=ds.foldl (fun(a:Int) c=>10*a+(c.toNat:Int)-48) x/\k=i+ds.length
 |n,i,x,0,_,_,hf,_,_=>by omega
 |n,i,x,f+1,hn,hi,hf,h0,h1=>by
  have hp:(10:Int)^(i-j)<=10^11:=by
   have:(10:Nat)^(i-j)<=10^11:=Nat.pow_le_pow_right (by omega) (by omega)
   exact_mod_cast this
  have hx:0<=x/\x<10^11:=⟨h0,by omega⟩;have st:M4 (f+1) s (i:Int) (j:Int) x=_:=ACB (R:=M4 f) (s:=s) (i:=i) (j:=j) (x:=x) (by omega) hi hx;by_cases hd:gA s i=true/\i-j<11
  ·rw[ALi hd]at st
   have hdd:=hd.1;unfold gA at hdd;simp only[AL8,AM7]at hdd
   match n,hn with
   |0,hn=>omega
   |n+1,hn=>
    have AeY:(10:Int)^(i+1-j)=10*10^(i-j):=by
     rw[show i+1-j=(i-j)+1 by omega,Int.pow_succ];omega
    obtain⟨y,k,e1,e2,e3,e4,e5⟩:=ACW hj n (i+1) (10*x+((s.getD i 0).toNat:Int)-48) f (by omega) (by omega) (by omega) (by omega) (by omega);refine⟨y,k,st.trans e1,e2,e3,e4,fun ds post c hs hds APT l1 l2=> ?_⟩;have AVN:s.drop i=s.getD i 0::s.drop (i+1):=by
     simp_all
    cases ds with
    |nil=>
     grind
    |cons b ds=>
     rw[AVN,ASn]at hs;have hb:s.getD i 0=b:=(AST hs).1;simp only[AOJ]at l1 l2;have:=e5 ds post c (AST hs).2 (fun c hc=>hds c (by simp[hc])) APT (by omega) (by omega);grind
  ·rw[ALj hd]at st
   obtain⟨y,e1,e2,e3,e4⟩:=AJA (i:=i) (j:=j) (x:=x) (by omega) hi (by omega) hx;refine⟨y,i,st.trans e1,e2,e3,by omega,fun ds post c hs hds APT l1 l2=> ?_⟩;cases ds with
   |nil=>
    grind
   |cons b ds=>
    grind[List.drop_eq_nil_of_le,List.drop_eq_getElem_cons,List.cons.injEq,List.length_cons,gA]
theorem zi:∀(n u:Nat) (x:Int),u<=n->(decDigits u).foldl (fun(a:Int) c=>10*a+(c.toNat:Int)-48) 0=u
 |0,u,x,h=>by
  grind[Vv,ib]
 |n+1,u,x,h=>by
  by_cases hu:u<10
  ·grind[Vv,ib]
  ·rw[iR hu,List.foldl_append,zi n (u/10) x (by omega)]
   simp_all;omega
theorem bF{s:ABG}{j:Nat}(hj:j<=2^30):∃(y:Int) (k:Nat),Xu s (j:Int)=some (((y,(k:Int),()),()),())/\ -1<=y/\y<10^11/\k<=j+11/\
  ∀(m:Int) (post:ABG),RU m=true->s.drop j=Ma m++post->(∀c r,post=c::r-> ¬(48<=c.toNat/\c.toNat<=57))->y=m/\k=j+(Ma m).length:=by
 obtain⟨y,k,e1,e2,e3,e4,e5⟩:=ACW (s:=s) hj 11 j 0 AU (by omega) (AOd _) (AZ (by omega)) (by omega) (by simp);refine⟨y,k,e1,e2,e3,e4,fun m post hm hs hp=> ?_⟩;unfold RU BJ at hm;simp only[AM7]at hm;have l1:=YV 9 m.toNat (by omega);have l2:=gd m.toNat;have:=e5 (Ma m) post 0 hs (fun c hc=>pT _ _ (AOd _) c hc) hp (by unfold Ma;omega) (by unfold Ma;omega);refine⟨?_,this.2⟩;rw[this.1];unfold Ma;rw[zi _ _ 0 (AOd _)];omega
theorem pW{w:ABG}:∃x b,VC w=some (((x,b,()),()),())/\Bi x/\ ∀p,Bi p->Az p=true->HC p=w->x=p:=by
 have z:Bi 0:=by unfold Bi;omega
 unfold VC;rw[AB];by_cases h4:(w.length:Int)<4
 ·rw[ALi h4]
  refine⟨_,_,rfl,z,fun p hp hpo hw=> ?_⟩;have l1:=gd (Ah p).toNat;have l2:=gd (Cc p).toNat;have:w.length=1+(Ma (Ah p)).length+1+(Ma (Cc p)).length:=by
   rw[<-hw];unfold HC;grind
  grind[Ma]
 rw[ALj h4];obtain⟨y,k,e1,e2,e3,e4,e5⟩:=bF (s:=w) (j:=1) (by omega);rw[show((1:Nat):Int)=1 from rfl]at e1;rw[e1];simp only[AD];rw[Ab (by omega)];obtain⟨y',k',f1,f2,f3,f4,f5⟩:=bF (s:=w) (j:=k+1) (by omega);rw[show((k:Int)+1)=((k+1:Nat):Int)by omega,f1];simp only[AD];rw[dk];simp only[AD];have comp:∀p,Bi p->Az p=true->HC p=w->y=Ah p/\y' =Cc p:=fun p hp hpo hw=>by
  have hb:=Jx hpo;have tV:w=101::(Ma (Ah p)++46::Ma (Cc p)):=by
   rw[<-hw];unfold HC;simp_all
  have k1:=e5 (Ah p) (46::Ma (Cc p)) (by unfold RU BJ;grind) (by simp_all) (fun c r h=>by
   have:=(AST h).1;subst this
   decide)
  refine⟨k1.1,?_⟩;have k2:=f5 (Cc p) [] (by unfold RU BJ;grind) (by
   rw[tV,k1.2,show 1+(Ma (Ah p)).length+1=((Ma (Ah p)).length+1)+1 by omega,List.drop_succ_cons,List.drop_append];simp) (fun c r h=>by cases h)
  omega
 rcases ALh (BJ y 1 30&&BJ y' 1 60)with h3|h3
 rotate_left
 ·rw[h3]
  refine⟨_,_,rfl,z,fun p hp hpo hw=> ?_⟩;grind[Jx,Ao]
 rw[h3];simp only[AL9,ALm];rw[Pt (iS _ _)];simp only[AD];rcases ALh (HC (EU y y')==w)with h5|h5
 ·rw[h5]
  refine⟨_,_,rfl,iS _ _,fun p hp hpo hw=> ?_⟩;grind[ABd]
 ·rw[h5]
  refine⟨_,_,rfl,z,fun p hp hpo hw=> ?_⟩;grind[ABd]
end Go.M
end
section
namespace Go.M
open Go.Lib (decDigits itoa)
open Go.M.H (Au Am)
def vh(k:Int)(l:AAO):Am:=if k=11 then(k,0,l.getD 0 0,l.getD 1 0,[],())else(k,l.getD 0 0,l.getD 1 0,l.getD 2 0,[],())
def pn(k:Int):Nat:=(numsOf (k,0,0,0,[],())).length
theorem ACc(d:Am):(numsOf d).length=pn d.1:=by
 grind[pn,numsOf]
theorem yr{k:Int}{l:AAO}(hl:l.length=pn k):hY k l=some ((vh k l,()),()):=by
 have h3:l.length<=3:=by rw[hl];exact cZ _
 have h11:k=11->l.length=2:=fun h=>by rw[hl,h];rfl
 unfold hY vh;grind
def j0(D d:Am):Am:=if d.1=2 then(d.1,d.2.1,d.2.2.1,d.2.2.2.1,D.2.2.2.2.1,())else if d.1=13 then(d.1,D.2.1,d.2.2.1,d.2.2.2.1,d.2.2.2.2.1,())else d
theorem xe{D:Am}(ho:Gl D=true):j0 D (vh D.1 (numsOf D))=D:=by
 obtain⟨hk,_⟩:=Jw ho;obtain⟨k,a,b,n,t,⟨⟩⟩:=D;simp only at hk;unfold Gl at ho;simp only[AL8]at ho;obtain⟨_,h1,h2,h3,h4,_⟩:=ho;rcases lU hk with rfl|rfl|rfl|rfl|rfl|rfl|rfl|rfl|rfl|rfl|rfl|rfl|rfl|rfl|rfl|rfl<;>simp[aJ]at h1 h2 h3 h4<;>simp[numsOf,vh,j0, *]
def behind(D:Am):List Int->List UInt8
 |[]=>if D.1=2 then 32::D.2.2.2.2.1 else if D.1=13 then 32::HC D.2.1 else[]
 |n::l=>32::(Ma n++behind D l)
theorem ACi{D:Am}:∀(l:AAO) (c:UInt8) (r:ABG),behind D l=c::r->c=32
 |[],c,r,h=>by
  grind[behind,List.cons.inj]
 |n::l,c,r,h=>by
  grind[behind,List.cons.inj]
theorem tM{D:Am}:∀(l:AAO) (acc L:ABG),(TP l acc).map (Qq D)=some L->(∀n∈l,RU n=true)/\L=acc++behind D l
 |[],acc,L,h=>by
  grind[TP,Option.some.injEq,Qq,behind]
 |n::l,acc,L,h=>by
  simp only[TP]at h;split at h
  case isFalse=>cases h
  rename_i hn;obtain⟨h1,h2⟩:=tM l _ L h;refine⟨fun x hx=> ?_,?_⟩
  ·grind
  grind[behind]
theorem Oe{D:Am}{line:ABG}(h:DW D=some line):Gl D=true/\(D.1=13->Az D.2.1=true)/\(∀n∈numsOf D,RU n=true)/\line=CC D.1++behind D (numsOf D):=by
 have ho:=(M0 h).1;rw[mU ho]at h;split at h
 ·cases h
 ·rename_i hc
  obtain⟨h1,h2⟩:=tM _ _ _ h;simp_all
theorem yJ{line:ABG}{d:Am}(h:jb d):((Jr d).bind fun Oq=>cond (!Oq.1.1.2.1) (some ((((0,0,0,0,[],()),false,()),()),())) (cond (!(Oq.1.1.1==line)) (some ((((0,0,0,0,[],()),false,()),()),())) (some (((d,true,()),()),()))))=(some ((fin line d,()),()):Option J4):=by
 rw[gP h];simp only[AD];unfold fin nP;cases hl:DW d with
 |none=>rfl
 |some t=>
  simp only[AQv,AL9,ALm,ARc,ALl];by_cases e:t=line
  ·simp_all
  ·rw[ALj e,ANL.2 e];rfl
end Go.M
end
section
namespace Go.M
open Go.Lib (decDigits itoa)
open Go.M.H (Au Am)
def AM6(line:ABG)(vG:Am->Prop)(o:Am×Bool×Unit):Prop:=
 (∃df,jb df/\o=fin line df/\ ∀D,jb D->vG D->df=D)\/(o=(AGZ,false,())/\ ∀D,jb D-> ¬vG D)
theorem AGS{line:ABG}{a:Nat}(h:a<=line.length):(line.drop a).take (line.length-a)=line.drop a:=AQL (by simp)
theorem AQl{k:Int}{l:AAO}(h:∀n∈l,Bi n):jb (vh k l):=by
 have z:Bi 0:=by unfold Bi;omega
 have g:∀i,Bi (l.getD i 0):=fun i=>by
  grind
 unfold vh;split
 ·exact⟨z,g 0,g 1⟩
 ·exact⟨g 0,g 1,g 2⟩
theorem ACg{line:ABG}(AGn:line.length<=1048576){k:Int}(hk:1<=k/\k<=16):∀(n i a:Nat) (b:AAO) (f:Nat),i+n=pn k->b.length=i->n<f->(∀x∈b,Bi x)->a<=2^20+20*i->
  ∃o,ET f line k (pn k:Int) (a:Int) (i:Int) 0 0 0 0 [] 0 0 0 0 [] b=some ((o,()),())/\
   AM6 line (fun D=>D.1=k/\DW D=some line/\b=(numsOf D).take i/\line.drop a=behind D ((numsOf D).drop i)) o
 |n,i,a,b,0,_,_,hf,_,_=>by omega
 |0,i,a,b,f+1,hn,hb,hf,RW,ha=>by
  have hc3:pn k<=3:=cZ _;have known:∀D,jb D->(D.1=k/\DW D=some line/\b=(numsOf D).take i/\line.drop a=behind D ((numsOf D).drop i))->b=numsOf D/\line.drop a=behind D []/\Gl D=true/\(k=13->Az D.2.1=true):=fun D hD h=>by
   grind[numsOf,ACc,Oe,List.take_of_length_le,List.drop_eq_nil_of_le]
  show∃o,Hw (EF f) (ET f) _ _ _ _ _ _ _ _ _ _ _ _ _ _ _ _=_/\_
  unfold Hw;rw[AB,ALj (by omega),yr (by omega)];simp only[AD];have xj:=AQl (k:=k) RW;rw[SN,Ab (x:=(a:Int)+1) (by omega)];simp only[AD];by_cases k2:k=2
  ·rw[k2]at xj|-
   simp only[AQd,AMs];obtain⟨m,hm⟩:∃m:Nat,min ((a:Int)+1) (line.length:Int)=(m:Int):=⟨min (a+1) line.length,by omega⟩;have zU:m<=line.length:=by omega
   rw[hm,ALi (by omega)];simp only[show((m:Int)).toNat=m by omega,show((line.length:Int)).toNat=line.length by omega];rw[AGS zU];have hd:jb ((vh 2 b).1,(vh 2 b).2.1,(vh 2 b).2.2.1,(vh 2 b).2.2.2.1,line.drop m,()):=⟨xj.a,xj.b,xj.c⟩;refine⟨fin line ((vh 2 b).1,(vh 2 b).2.1,(vh 2 b).2.2.1,(vh 2 b).2.2.2.1,line.drop m,()),yJ hd,.inl ⟨_,hd,rfl,fun D hD h=> ?_⟩⟩;rw[<-k2]at h;obtain⟨q1,q2,q3,_⟩:=known D hD h;have hD1:D.1=2:=h.1.trans k2;have jt:line.drop a=32::D.2.2.2.2.1:=by rw[q2];unfold behind;grind
   have hal:a<line.length:=by
    grind[List.drop_eq_nil_of_le]
   have htx:line.drop m=D.2.2.2.2.1:=by
    grind[List.tail_drop]
   rw[htx,q1,<-hD1];have:=xe q3;unfold j0 at this;grind
  rw[ANL.2 k2,ALm];by_cases k13:k=13
  ·rw[k13]at xj|-
   simp only[AQd,AMs];obtain⟨m,hm⟩:∃m:Nat,min ((a:Int)+1) (line.length:Int)=(m:Int):=⟨min (a+1) line.length,by omega⟩;have zU:m<=line.length:=by omega
   rw[hm,ALi (by omega)];simp only[show((m:Int)).toNat=m by omega,show((line.length:Int)).toNat=line.length by omega];rw[AGS zU];obtain⟨x,bb,e1,e2,e3⟩:=pW (w:=line.drop m);rw[e1];simp only[AD];have hd:jb ((vh 13 b).1,x,(vh 13 b).2.2.1,(vh 13 b).2.2.2.1,(vh 13 b).2.2.2.2.1,()):=⟨e2,xj.b,xj.c⟩;refine⟨fin line ((vh 13 b).1,x,(vh 13 b).2.2.1,(vh 13 b).2.2.2.1,(vh 13 b).2.2.2.2.1,()),yJ hd,.inl ⟨_,hd,rfl,fun D hD h=> ?_⟩⟩;rw[<-k13]at h;obtain⟨q1,q2,q3,q4⟩:=known D hD h;have hD1:D.1=13:=h.1.trans k13;have jt:line.drop a=32::HC D.2.1:=by rw[q2];unfold behind;grind
   have hal:a<line.length:=by
    grind[List.drop_eq_nil_of_le]
   have htx:line.drop m=HC D.2.1:=by
    grind[List.tail_drop]
   rw[e3 D.2.1 hD.a (q4 k13) htx.symm,q1,<-hD1];have:=xe q3;unfold j0 at this;grind
  rw[ANL.2 k13,ALm];refine⟨fin line (vh k b),yJ xj,.inl ⟨_,xj,rfl,fun D hD h=> ?_⟩⟩;obtain⟨q1,q2,q3,q4⟩:=known D hD h;have:=xe q3;unfold j0 at this;grind
 |n+1,i,a,b,f+1,hn,hb,hf,RW,ha=>by
  have hc3:pn k<=3:=cZ _
  show∃o,Hw (EF f) (ET f) _ _ _ _ _ _ _ _ _ _ _ _ _ _ _ _=_/\_
  unfold Hw;rw[AB,ALi (by omega),Ab (x:=(a:Int)+1) (by omega)];obtain⟨y,p,e1,e2,e3,e4,e5⟩:=bF (s:=line) (j:=a+1) (by omega);rw[show((a:Int)+1)=((a+1:Nat):Int)by omega,e1];simp only[AD,AB];have known:∀D,jb D->(D.1=k/\DW D=some line/\b=(numsOf D).take i/\line.drop a=behind D ((numsOf D).drop i))->y=(numsOf D).getD i 0/\0<=y/\b++[y]=(numsOf D).take (i+1)/\line.drop p=behind D ((numsOf D).drop (i+1)):=fun D hD h=>by
   obtain⟨h1,h2,h3,h4⟩:=h;have hl:i<(numsOf D).length:=by rw[ACc,h1];omega
   obtain⟨_,_,p3,_⟩:=Oe h2;rw[ATR hl]at h4;have hm:=p3 _ (AM9 hl);simp only[behind]at h4;have h5:line.drop (a+1)=Ma (numsOf D)[i]++behind D ((numsOf D).drop (i+1)):=by grind[List.tail_drop]
   obtain⟨r1,r2⟩:=e5 _ _ hm h5 fun c r hcr=>by
    rw[ACi _ _ _ hcr]
    decide
   refine⟨by simp_all,?_,?_,?_⟩
   ·rw[r1]
    unfold RU BJ at hm;simp_all
   ·simp_all
   ·rw[r2,<-List.drop_drop,h5,List.drop_append]
    simp
  by_cases hy:y<0
  ·rw[ALi hy]
   exact⟨_,rfl,.inr ⟨rfl,fun D hD h=>by grind⟩⟩
  rw[ALj hy,ALi (by rw[Ak];omega),Ab (x:=(i:Int)+1) (by omega)];obtain⟨o,g1,g2⟩:=ACg AGn hk n (i+1) p (b++[y]) f (by omega) (by simp[hb]) (by omega) (fun x hx=>by
   grind[List.mem_singleton,Bi]) (by omega)
  refine⟨o,g1,?_⟩;rcases g2 with⟨df,q1,q2,q3⟩|⟨q1,q2⟩
  ·exact .inl ⟨df,q1,q2,fun D hD h=>q3 D hD ⟨h.1,h.2.1,(known D hD h).2.2.1,(known D hD h).2.2.2⟩⟩
  ·exact .inr ⟨q1,fun D hD h=>q2 D hD ⟨h.1,h.2.1,(known D hD h).2.2.1,(known D hD h).2.2.2⟩⟩
theorem ACL:∀j∈List.range 16,∀i∈List.range 16,j≠i-> ∀m,m<=(Ee.getD j []).length->m<=(Ee.getD i []).length->(m=(Ee.getD j []).length\/m=(Ee.getD i []).length)->(Ee.getD j []).take m≠(Ee.getD i []).take m:=by
 decide
theorem AHh{j k:Int}(hj:1<=j/\j<=16)(hk:1<=k/\k<=16){r:ABG}(h:(CC k++r).take (CC j).length=CC j):j=k:=by
 by_cases e:(j-1).toNat=(k-1).toNat
 ·omega
 exfalso
 have key:=ACL (j-1).toNat (List.mem_range.2 (by omega)) (k-1).toNat (List.mem_range.2 (by omega)) e (min (CC j).length (CC k).length) (by unfold CC;omega) (by unfold CC;omega) (by unfold CC;omega);apply key
 show(CC j).take _=(CC k).take _
 have e1:(CC j).take (min (CC j).length (CC k).length)=(CC k++r).take (min (CC j).length (CC k).length):=by
  grind
 rw[e1,List.take_append_of_le_length (by omega)]
theorem AGw{line:ABG}(AGn:line.length<=1048576):∀(n:Nat) (k:Int) (f:Nat),k+n=17->1<=k->n+10<f->
  (∀D,jb D->DW D=some line->k<=D.1)->
  ∃o,EF f line k 0 0 0 0 [] 0 0 0 0 []=some ((o,()),())/\nr line o
 |n,k,0,_,_,hf,_=>by omega
 |0,k,f+1,hn,h1,hf,hge=>by
  show∃o,Ic (EF f) (ET f) _ _ _ _ _ _ _ _ _ _ _ _=_/\_
  unfold Ic;rw[AB,ALj (by omega)];refine⟨_,rfl,.inr ⟨fun d hd h=> ?_,rfl⟩⟩;have:=hge d hd h;have:=(Jw (Oe h).1).1;omega
 |n+1,k,f+1,hn,h1,hf,hge=>by
  have hk:1<=k/\k<=16:=by omega
  show∃o,Ic (EF f) (ET f) _ _ _ _ _ _ _ _ _ _ _ _=_/\_
  unfold Ic;have hw:=gx k;rw[AB,ALi (by omega),jM hk,Ab (x:=k+1) (by omega)];simp only[AD,AB];have next:(∀D,jb D->DW D=some line->D.1≠k)-> ∃o,EF f line (k+1) 0 0 0 0 [] 0 0 0 0 []=some ((o,()),())/\nr line o:=fun jt=>
   AGw AGn n (k+1) f (by omega) (by omega) (by omega) fun D hD h=>by
    grind
  have pre:∀D,jb D->DW D=some line->D.1=k->(CC k).length<=line.length/\line.take (CC k).length=CC k:=fun D hD h e=>by
   obtain⟨_,_,_,h4⟩:=Oe h;simp_all
  by_cases hl:(line.length:Int)<((CC k).length:Int)
  ·grind
  rw[ALj hl,ALi (by omega)];rw[show((((CC k).length:Nat):Int)).toNat-0=(CC k).length by omega,AQR];by_cases hp:line.take (CC k).length=CC k
  rotate_left
  ·grind
  rw[hp];simp only[AQd,AL9,ALm];rw[show((k,0,0,0,[],()):Am)=(k,0,0,0,[],())from rfl,jV];simp only[AD];obtain⟨o,g1,g2⟩:=ACg AGn hk (pn k) 0 (CC k).length [] f (by omega) rfl (by grind[cZ,pn]) (by simp) (by omega);refine⟨o,g1,?_⟩;have all:∀D,jb D->DW D=some line->D.1=k/\DW D=some line/\[]=(numsOf D).take 0/\line.drop (CC k).length=behind D ((numsOf D).drop 0):=fun D hD h=>by
   obtain⟨p1,_,_,h4⟩:=Oe h;have e:k=D.1:=AHh hk (Jw p1).1 (r:=behind D (numsOf D)) (by simp_all);simp_all
  rcases g2 with⟨df,q1,q2,q3⟩|⟨q1,q2⟩
  ·grind[AAH]
  ·rw[q1]
   exact .inr ⟨fun D hD h=>q2 D hD (all D hD h),rfl⟩
theorem pv{line:ABG}(hl:line.length<=1048576):∃o,VK line=some ((o,()),())/\nr line o:=by
 unfold VK Xw;exact AGw hl 16 1 AU (by omega) (by omega) (AZ (by omega)) fun D hD h=>(Jw (Oe h).1).1.1
theorem AE4{line:ABG}{o o':Am×Bool×Unit}(h:nr line o)(h':nr line o'):o=o':=by
 rcases h with⟨d,h1,h2,rfl,h3⟩|⟨h1,rfl⟩
 ·rcases h' with⟨d',k1,k2,rfl,_⟩|⟨k1,rfl⟩
  all_goals grind
 ·rcases h' with⟨d',k1,k2,rfl,_⟩|⟨k1,rfl⟩
  all_goals simp_all
end Go.M
end
section
set_option maxRecDepth 8000
namespace Go.M
open Go.M.H (AA AH AK AL AM AR AY Aa Ac Ag Aj Al Am An Au Aw BA BF BG BL Bm Bp CK Ck Cq Cw Dt)
def DS(w:AA):Prop:= ∀x∈w.AO,∀(i:Nat) (y:BF),x.2.1[i]? =some y-> ∃s∈w.Ar,s.1=Hr x.1 ((i:Int)+1)/\(y.2.2.1=true->s.2.2.1=true)
section
variable{w:AA} (h:RS w) (hd:DS w)
include h hd
end
theorem ADc{w:AA}{n:Int}:0<=Ay w n/\Ay w n<6:=by
 grind[Ay]
theorem AKo{w:AA}{n:Int}{q:AL×Bool}:0<=(putAt w n q).2/\(putAt w n q).2<6:=by
 grind[putAt]
def Rg(q:ai):Prop:=0<=q.2/\q.2<6
theorem Rg.ite{p:Prop}[Decidable p]{a b:ai}(ha:Rg a)(hb:Rg b):Rg (if p then a else b):=by grind
theorem ADl{w:AA}{d:Am}:Rg (PJ false w d):=by
 have hn:=fun n=>ADc (w:=w) (n:=n)
 have hp:=fun n q=>AKo (w:=w) (n:=n) (q:=q)
 have hk:∀(v:AA) (k:Int),0<=k/\k<6->Rg (v,k):=fun _ _ h=>h
 unfold PJ;refine .ite ?_ ?_
 ·grind[O6]
 refine .ite ?_ ?_
 ·grind[doAdd]
 refine .ite ?_ ?_
 ·grind[K3]
 refine .ite ?_ ?_
 ·grind[QA]
 refine .ite ?_ ?_
 ·grind[K0]
 refine .ite ?_ ?_
 ·grind[PI]
 refine .ite ?_ ?_
 ·grind[PF]
 refine .ite ?_ ?_
 ·grind[O_]
 refine .ite ?_ ?_
 ·grind[O8]
 refine .ite ?_ ?_
 ·grind[Oy]
 refine .ite ?_ ?_
 ·grind[WV]
 refine .ite ?_ ?_
 ·grind[Kv]
 refine .ite ?_ ?_
 ·grind[Rf]
 refine .ite ?_ ?_
 ·grind[MO]
 refine .ite ?_ ?_
 all_goals grind[Qu,Kz]
theorem yn{all:Bool}{w:AA}(h:RS w){e:Am}(hd:Gl e=true):DJ all w e=PJ all w e:=by
 grind[DJ,Gu]
theorem AEi{e:Au}(h:Bi e.2.1)(hl:e.2.2.1.length<=1000000):∃t:List UInt8,EX e=some ((t,()),())/\It e=some ((t,()),())/\t.length<=1000100:=by
 rw[ABl h];have hp:=iI e.2.1;have hd:=zN h.2;unfold It;rw[Pt h,R_ h.2];simp only[AD];have hk:∀n:Nat,n<=5->n+(HC e.2.1).length<=C7:=fun n hn=>by rw[Ak];omega
 have k2:([100,97,116,97,32]++HC e.2.1).length+1<=C7:=by grind[Ak,List.length_append,List.length_cons,List.length_nil]
 have k3:(([100,97,116,97,32]++HC e.2.1)++[32]).length+e.2.2.1.length<=C7:=by grind[Ak,List.length_append,List.length_cons,List.length_nil]
 have k4:4+(Ma e.2.1).length<=C7:=by rw[Ak];omega
 grind
def yH(w:AA)(t:ABG):fu:=(((((),w.2.1,(),(),(),w.2.2.2.2.2.1,(),(),(),(),w.2.2.2.2.2.2.2.2.2.2.1,()),t,()),()),(w.1,w.2.2.1,w.2.2.2.1,w.2.2.2.2.1,w.2.2.2.2.2.2.1,w.2.2.2.2.2.2.2.1,w.2.2.2.2.2.2.2.2.1,w.2.2.2.2.2.2.2.2.2.1,()))
theorem qa{w:AA}(h:mq w)(hev:bV w):XS w=some ((KL w&&(Md w&&(Mg w&&(Kd w&&NC w))),()),()):=by
 unfold XS;rw[Fa w,oF h,ot h,o8 h,mj h,p_ h hev];grind
theorem rh{r:Ac}(hr:∀e∈r.2.2.1,Bi e.2.1)(hw:BG r<=1000000):∃t:List UInt8,Lt r=some ((t,()),())/\
  (cond ((r.2.2.1.length:Int)==0) (some (([110,111,110,101],()),())) (if(0:Int)<=AQ ((r.2.2.1.length:Int)-1)/\AQ ((r.2.2.1.length:Int)-1)<(r.2.2.1.length:Int)then
   (It ((r.2.2.1.getD ((AQ ((r.2.2.1.length:Int)-1)).toNat) (0,0,[],())).1,(r.2.2.1.getD ((AQ ((r.2.2.1.length:Int)-1)).toNat) (0,0,[],())).2.1,(r.2.2.1.getD ((AQ ((r.2.2.1.length:Int)-1)).toNat) (0,0,[],())).2.2.1,())).bind fun u8=>some ((u8.1.1,()),())else none):Option mP)=some ((t,()),())/\t.length<=1000100:=by
 have hl:=AR (f:=Bp) (l:=r.2.2.1);have tV:Aa Bp r.2.2.1<=1000000:=hw;unfold Lt;by_cases h0:r.2.2.1.length=0
 ·simp_all
 rw[ANL.2 (show(r.2.2.1.length:Int)≠0 by omega),ALm,ALm,Ab (x:=(r.2.2.1.length:Int)-1) (by omega)];have hi:r.2.2.1.length-1<r.2.2.1.length:=by omega
 have hm:=BN (d:=((0,0,[],()):Au)) hi;obtain⟨t,t1,t2,t3⟩:=AEi (hr _ hm) (by have h1:=AY (f:=Bp) hm;have h2:Bp (r.2.2.1.getD (r.2.2.1.length-1) (0,0,[],()))=(r.2.2.1.getD (r.2.2.1.length-1) (0,0,[],())).2.2.1.length:=rfl;omega);have hb:(0:Int)<=(r.2.2.1.length:Int)-1/\(r.2.2.1.length:Int)-1<(r.2.2.1.length:Int):=by omega
 have hn:((r.2.2.1.length:Int)-1).toNat=r.2.2.1.length-1:=by omega
 refine⟨t,?_,?_,t3⟩
 ·dsimp only
  rw[Ab (x:=(r.2.2.1.length:Int)-1) (by omega),ALi hb,hn];simp_all
 simp_all
theorem AZx:AQ (AQ ((([111,117,116,32,48]:ABG).getD 4 0).toNat:Int)-48)=0:=by decide
theorem Aaw:AQ (AQ ((([111,117,116,32,49]:ABG).getD 4 0).toNat:Int)-48)=1:=by decide
theorem xF{d:Am}(h:jb d)(ht:d.2.2.2.2.1.length<=40):∀(l:AAO) (acc L:ABG),TX d l acc=some L->L.length<=acc.length+41*l.length
 |[],acc,L,e=>by
  grind[TX,Option.some.injEq]
 |c::l,acc,L,e=>by
  simp only[TX]at e;split at e
  ·have:=xF h ht l _ L e
   have hf:(Ja d c).length<=40:=by
    unfold Ja;split
    ·omega
    ·split
     ·grind[iI]
     ·have:Bi (WY d c):=by
       unfold WY;split
       ·exact h.b
       ·split
        ·exact h.c
        ·exact h.a
      grind[AAT]
   grind
  simp_all
theorem ABK{d:Am}(h:jb d)(ht:d.2.2.2.2.1.length<=40):((DW d).getD []).length<=200:=by
 unfold DW;split
 ·cases e:TX d (OG d.1) (CC d.1)with
  |none=>simp
  |some L=>
   have h1:=xF h ht _ _ L e;have h2:(OG d.1).length<=3:=by grind[OG]
   have h3:(CC d.1).length<=5:=by
    unfold CC;by_cases hi:(d.1-1).toNat<Ee.length
    ·have:∀x∈Ee,x.length<=5:=by decide
     simp_all
    simp_all
   grind
 ·simp
section
variable{code:AAO} (hc:code.length<=2^30)
include hc
theorem AMz{i hh:Int}(hi:Ce code i){x:ABG}(hx:x.length<=1000):OK code (fun(r:AD5) (y:Unit)=>r.1.length<=1010) (NR x [[32],[48],[120],[57],[35],[97,100,100],[101,49,46,49]] code i hh):=by
 unfold NR;rw[Ab (by omega)];refine OK.bind (CB hc hi (by omega)) fun p i1 h1 y1 K8 hq1=> ?_
 dsimp only at*;refine OK.bind (CB hc K8 (by omega)) fun k i2 h2 y2 H6 rH=> ?_
 dsimp only;have hp:0<=p.1/\p.1<=x.length:=by omega
 have pk:∀i hh,Ce code i->OK code (fun(r:AD5) (y:Unit)=>r.1.length<=4) (Ei [[32],[48],[120],[57],[35],[97,100,100],[101,49,46,49]] code i hh):=fun i hh hi=>by
  obtain⟨v,i',h',e,hv,Ds⟩:=ld hc (h:=hh) hi (l:=[[32],[48],[120],[57],[35],[97,100,100],[101,49,46,49]]) (by simp) (by simp);have hh:∀x∈([[32],[48],[120],[57],[35],[97,100,100],[101,49,46,49]]:List ABG),x.length<=4:=by decide
  exact⟨(v,()),i',h',(),e,Ds,hh _ hv⟩
 refine OK.GQ (fun _=> ?_) (fun _=>OK.GQ (fun _=> ?_) (fun _=> ?_))
 ·refine OK.ite (by omega) (OK.some H6 ?_)
  grind
 ·refine OK.ite (by omega) ?_
  refine OK.bind (pk _ _ H6) fun r i3 h3 y3 LL Xa=> ?_
  dsimp only;have e0:((x.drop 0).take (p.1.toNat-0)).length<=1000:=by grind
  refine OK.ite (by rw[Ak];omega) ?_
  refine OK.pure SN ?_
  dsimp only;rw[Ab (x:=p.1+1) (by omega)];refine OK.ite (by omega) ?_
  refine OK.ite (by grind[Ak,List.length_append,List.length_take,List.length_drop]) (OK.some LL ?_);grind
 ·refine OK.ite (by omega) ?_
  refine OK.ite (by omega) ?_
  refine OK.bind (pk _ _ H6) fun r i3 h3 y3 LL Xa=> ?_
  dsimp only;have e0:((x.drop 0).take (p.1.toNat-0)).length<=1000:=by grind
  refine OK.ite (by rw[Ak];omega) ?_
  refine OK.ite (by grind[Ak,List.length_append,List.length_take,List.length_drop]) (OK.some LL ?_);grind
theorem ADN{w:AA}(hw:mq w){i hh:Int}(hi:Ce code i):OK code (fun(r:AD5) (y:Unit)=>r.1.length<=1010) (RJ (w.1,w.2.1,w.2.2.1,w.2.2.2.1,w.2.2.2.2.1,w.2.2.2.2.2.1,w.2.2.2.2.2.2.1,w.2.2.2.2.2.2.2.1,w.2.2.2.2.2.2.2.2.1,w.2.2.2.2.2.2.2.2.2.1,w.2.2.2.2.2.2.2.2.2.2.1,()) code i hh):=by
 have fin:∀(x:ABG) i hh,x.length<=1000->Ce code i->OK code (fun(r:AD5) (y:Unit)=>r.1.length<=1010) ((Av 12 code i hh).bind fun EJ=>cond (EJ.1.1)
   ((NR x [[32],[48],[120],[57],[35],[97,100,100],[101,49,46,49]] EJ.2.1.1 EJ.2.1.2.1 EJ.2.1.2.2.1).bind fun FY=>some ((FY.1.1,()),((FY.2.1.1,FY.2.1.2.1,FY.2.1.2.2.1,()),())))
   (some ((x,()),((EJ.2.1.1,EJ.2.1.2.1,EJ.2.1.2.2.1,()),())))):=fun x i hh hx hi=>by
  refine OK.bind (PV hc hi (by omega)) fun q i1 h1 y1 K8 _=> ?_
  dsimp only;refine OK.cond (fun _=> ?_) (fun _=>OK.some K8 (by grind));grind[OK.bind,AMz,OK.some]
 unfold RJ;rw[Fa w];obtain⟨v,i',h',e,hv,Ds⟩:=ld hc (h:=hh) hi (l:=[[106,117,100,103,101],[111,117,116,32,48],[111,117,116,32,49],[],[35],[104,101,108,112],[111,117,116,32,50],[109,101,110,100,32],[116,114,105,109,32,101,49,46,49],[112,108,97,110]]) (by simp) (by simp);have cU:∀x∈([[106,117,100,103,101],[111,117,116,32,48],[111,117,116,32,49],[],[35],[104,101,108,112],[111,117,116,32,50],[109,101,110,100,32],[116,114,105,109,32,101,49,46,49],[112,108,97,110]]:List ABG),x.length<=1000:=by decide
 have hvl:=cU v hv;rw[e];simp only[AD];refine OK.bind (PV hc Ds (by omega)) fun q i1 h1 y1 K8 _=> ?_
 dsimp only;refine OK.cond (fun _=> ?_) (fun _=>fin _ _ _ hvl K8);rw[FX hw];simp only[AD];refine OK.cond (fun Du=> ?_) (fun _=>fin _ _ _ hvl K8);refine OK.bind (sX hc (Gu.1 Du) K8) fun d i2 h2 y2 H6 rH=> ?_
 dsimp only;have hd:jb d.1:=⟨rH.1,rH.2.1,rH.2.2.1⟩;rw[xw d.1,gP hd];simp only[AD];refine OK.cond (fun _=>fin _ _ _ ?_ H6) (fun _=>fin _ _ _ hvl H6);have:=ABK hd rH.2.2.2
 show((DW d.1).getD []).length<=1000
 omega
end
structure Dn (w:AA):Prop where
 win:mq w
 ev:bV w
 rd:Aa BG w.2.2.2.2.2.2.2.2.1<=50000
theorem Dn.reader{w:AA}(h:Dn w)(ho:RS w){k:Nat}(hk:k<2):(∀e∈(w.Aq.getD k AX).2.2.1,Bi e.2.1)/\BG (w.Aq.getD k AX)<=50000:=by
 have hm:=BN (d:=AX) (show k<w.Aq.length by rw[ho.tF];exact hk);have:=AY (f:=BG) hm;have:Aa BG w.Aq<=50000:=h.rd;exact⟨fun e he=>h.ev _ hm e he,by omega⟩
theorem AKm{w:AA}(h:mq w)(ho:Cx w=false){line:ABG}:DB w line=some (yH w [98,97,100])/\My w line=some (yH w [98,97,100]):=by
 unfold DB My;rw[Fa w,EY h,FX h,LZ h,ZW h,ho];exact⟨rfl,rfl⟩
theorem AFH{w:AA}(h:Dn w)(ho:RS w):DB w [106,117,100,103,101]=some (yH w (if KL w&&(Md w&&(Mg w&&(Kd w&&NC w)))then[121,101,115]else[110,111])):=by
 unfold DB;rw[Fa w,EY h.win,LZ h.win,Gu.2 ho,kg h.win h.ev];simp only[AD,AL9,ALm];rw[show(([106,117,100,103,101]:ABG)==[])=false from rfl,ALm,ALi ⟨by decide,by decide⟩,show(((([106,117,100,103,101]:ABG).getD 0 0).toNat:Int)==35)=false from rfl,ALm,AQd,AMs];cases KL w&&(Md w&&(Mg w&&(Kd w&&NC w)))<;>rfl
theorem AKw{w:AA}(h:Dn w)(ho:RS w){t:ABG}(e:Lt (w.Aq.getD 0 AX)=some ((t,()),())):DB w [111,117,116,32,48]=some (yH w t):=by
 have hnr:(w.2.2.2.2.2.2.2.2.1.length:Int)=2:=by have:=ho.tF;show(w.Aq.length:Int)=2;omega
 unfold DB;rw[Fa w,EY h.win,LZ h.win,Gu.2 ho];simp only[AD,AL9,ALm];rw[show(([111,117,116,32,48]:ABG)==[])=false from rfl,ALm,ALi ⟨by decide,by decide⟩,show(((([111,117,116,32,48]:ABG).getD 0 0).toNat:Int)==35)=false from rfl,ALm,show(([111,117,116,32,48]:ABG)==[106,117,100,103,101])=false from rfl,ALm,AQd,AMs,ALi ⟨by omega,by omega⟩];refine(congrArg (fun o=>Option.bind o _) e).trans ?_
 rfl
theorem AIu{w:AA}(h:Dn w)(ho:RS w){line:ABG}(hl:line.length<=20000):
  ∃v v' t,DB w line=some (yH v t)/\My w line=some (yH v' t)/\(t≠[111,107]->v=w):=by
 have UB:=h.win;have hnr:(w.2.2.2.2.2.2.2.2.1.length:Int)=2:=by have:=ho.tF;show(w.Aq.length:Int)=2;omega
 unfold DB My;rw[Fa w,EY UB,FX UB,LZ UB,ZW UB,Gu.2 ho];simp only[AD,AL9,ALm];cases h0:line==[]with
 |true=>exact⟨w,w,[],rfl,rfl,fun _=>rfl⟩
 |false=>
 have jt:0<line.length:=by
  rw[ANL]at h0;exact AT9.2 h0
 rw[ALm,ALm,ALi (show(0:Int)<=(0:Int)/\(0:Int)<(line.length:Int)from⟨by omega,by omega⟩),ALi (show(0:Int)<=(0:Int)/\(0:Int)<(line.length:Int)from⟨by omega,by omega⟩)];cases h1:((line.getD 0 0).toNat:Int)==35 with
 |true=>exact⟨w,w,[],rfl,rfl,fun _=>rfl⟩
 |false=>
 rw[ALm,ALm];unfold km;by_cases c1:line=[106,117,100,103,101]
 ·subst c1
  rw[AQd,AMs,AMs,Fa w,kg UB h.ev,qa UB h.ev];simp only[AD];cases KL w&&(Md w&&(Mg w&&(Kd w&&NC w)))with
  |true=>exact⟨w,w,[121,101,115],rfl,rfl,fun _=>rfl⟩
  |false=>exact⟨w,w,[110,111],rfl,rfl,fun _=>rfl⟩
 rw[ANL.2 c1,ALm,ALm];by_cases c2:line=[111,117,116,32,48]
 ·subst c2
  obtain⟨r1,r2⟩:=h.reader ho (k:=0) (by omega);obtain⟨t,t1,t2,t3⟩:=rh r1 (by omega);refine⟨w,w,t,?_,?_,fun _=>rfl⟩
  ·rw[AQd,AMs,ALi ⟨by omega,by omega⟩]
   refine(congrArg (fun o=>Option.bind o _) t1).trans ?_
   rfl
  ·rw[AQd,AMs,ALi ⟨by omega,by decide⟩,AZx]
   dsimp only;rw[ALi ⟨by omega,by omega⟩];refine(congrArg (fun o=>Option.bind o _) t2).trans ?_
   simp only[AD];cases t==[]<;>rfl
 rw[ANL.2 c2,ALm,ALm];by_cases c3:line=[111,117,116,32,49]
 ·subst c3
  obtain⟨r1,r2⟩:=h.reader ho (k:=1) (by omega);obtain⟨t,t1,t2,t3⟩:=rh r1 (by omega);refine⟨w,w,t,?_,?_,fun _=>rfl⟩
  ·rw[AQd,AMs,ALi ⟨by omega,by omega⟩]
   refine(congrArg (fun o=>Option.bind o _) t1).trans ?_
   rfl
  ·rw[AQd,AMs,ALi ⟨by omega,by decide⟩,Aaw]
   dsimp only;rw[ALi ⟨by omega,by omega⟩];refine(congrArg (fun o=>Option.bind o _) t2).trans ?_
   simp only[AD];cases t==[]<;>rfl
 rw[ANL.2 c3,ALm,ALm];simp only[AD];rw[show((([]:ABG)==[]):Bool)=true from rfl,AL9,ALm,ALm,ALm];obtain⟨o,o1,o2⟩:=pU (line:=line) (by omega);obtain⟨o',p1,p2⟩:=pv (line:=line) (by omega);have:=AE4 p2 o2;subst this;rw[o1,p1];simp only[AD];rcases o2 with⟨d,d1,d2,rfl,_⟩|⟨_,rfl⟩
 ·have hk:=(M0 d2).1
  obtain⟨se,_,fU⟩:=AFj (a:=true) (b:=false) (w:=w) (se:=w.Ar) rfl (d:=d);have e:DJ false w d=PJ false w d:=yn ho hk;have k1:0<=(DJ false w d).2:=by rw[e];exact ADl.1
  have k2:(DJ false w d).2<6:=by rw[e];exact ADl.2
  have e1:Nq w d=some (pkD (DJ false w d)):=uj UB d1.a;have e2:Q1 w d=some (pkD (DJ true w d)):=jd UB d1.a;have e3:DJ true w d=ZN se (DJ false w d):=fU;rw[e3]at e2;dsimp only;rw[AL9,ALm,ALm,xw d,e1,e2];simp only[AD];rw[ALi (show(0:Int)<=(pkD (DJ false w d)).1.1.2.1/\(pkD (DJ false w d)).1.1.2.1<6 from⟨k1,k2⟩),ALi (show(0:Int)<=(pkD (ZN se (DJ false w d))).1.1.2.1/\(pkD (ZN se (DJ false w d))).1.1.2.1<6 from⟨k1,k2⟩)];refine⟨(DJ false w d).1,(ZN se (DJ false w d)).1,_,rfl,rfl,fun jt=> ?_⟩;by_cases h0:(DJ false w d).2=0
  ·refine absurd ?_ jt
   show List.getD _ ((DJ false w d).2).toNat []=_
   rw[h0];rfl
  ·rw[e]at h0|-;exact xN h0
 ·exact⟨w,w,[119,104,97,116],rfl,rfl,fun _=>rfl⟩
section
variable{code:AAO} (hc:code.length<=2^30)
include hc
theorem AHu:∃w line,N7 code=some (yH w line)/\Dn w/\line.length<=1010:=by
 unfold N7;obtain⟨h0,e0⟩:=AK_ hc;rw[e0];simp only[AD];obtain⟨x,i1,h1,y,e1,K8,hq⟩:=ABI hc (hh:=h0) (AZZ hc) hc;rw[e1];simp only[AD]
 generalize xl:dwW x y=w at hq
 obtain⟨⟨UB,hvin⟩,hwt,hwr⟩:=hq;have e0:y.1=w.1:=by rw[<-xl]
 have e1:y.2.1=w.2.2.1:=by rw[<-xl]
 have e2:y.2.2.1=w.2.2.2.1:=by rw[<-xl]
 have e3:y.2.2.2.1=w.2.2.2.2.1:=by rw[<-xl]
 have e4:y.2.2.2.2.1=w.2.2.2.2.2.2.1:=by rw[<-xl]
 have e5:y.2.2.2.2.2.1=w.2.2.2.2.2.2.2.1:=by rw[<-xl]
 have e6:y.2.2.2.2.2.2.1=w.2.2.2.2.2.2.2.2.1:=by rw[<-xl]
 have e7:y.2.2.2.2.2.2.2.1=w.2.2.2.2.2.2.2.2.2.1:=by rw[<-xl]
 have e8:x.1.2.1=w.2.1:=by rw[<-xl]
 have e9:x.1.2.2.2.2.2.1=w.2.2.2.2.2.1:=by rw[<-xl]
 have e10:x.1.2.2.2.2.2.2.2.2.2.2.1=w.2.2.2.2.2.2.2.2.2.2.1:=by rw[<-xl]
 rw[e0,e1,e2,e3,e4,e5,e6,e7,e8,e9,e10];obtain⟨r,i2,h2,y2,e,H6,hr⟩:=ADN hc UB (hh:=h1) K8;rw[e];exact⟨w,r.1,rfl,⟨UB,hvin,hwr⟩,hr⟩
end
theorem AJa{l:List Au}(hl:l.length<=2^40):Od l l=some ((true,()),()):=by
 have key:∀(n i:Nat),i<=l.length->l.length-i<n->Kf n l l i=some ((true,()),()):=by
  intro n
  induction n with
  |zero=>intro i h1 h2;omega
  |succ n ih=>
   intro i h1 h2;simp only[Kf,WL,AB];split
   ·rw[ALi (by omega),ALi (by omega)]
    simp only[AQd,Bool.and_self,AL9,ALm];rw[As (i:=i) (by omega)];exact ih (i+1) (by omega) (by omega)
   ·rfl
 unfold Od WA;rw[bne_self_eq_false,ALm];exact key AU 0 (by omega) (AZ (by omega))
theorem AIN{w:AA}(h:Dn w)(ho:RS w):((DB w [111,117,116,32,48]).bind fun bA=>
 (DB w [106,117,100,103,101]).bind fun qO=>
 if(0:Int)<=(0:Int)/\(0:Int)<(w.2.2.2.2.2.2.2.2.1.length:Int)then(
 let nL:Int:=(((w.2.2.2.2.2.2.2.2.1.getD 0 (0,0,[],())).2.2.1).length:Int)
 (L5 w).bind fun qI=>
 cond ((qO.1.1.2.1==[121,101,115])==qI.1.1)
  (cond (nL==0)
   (cond ((bA.1.1.2.1==[110,111,110,101]))
    (some ((true,()),()))
   (cond (decide (nL>0))
    (if(0:Int)<=(0:Int)/\(0:Int)<(w.2.2.2.2.2.2.2.2.1.length:Int)then(
    if(0:Int)<=AQ (nL-1)/\AQ (nL-1)<(((w.2.2.2.2.2.2.2.2.1.getD 0 (0,0,[],())).2.2.1).length:Int)then(
    (EX ((((w.2.2.2.2.2.2.2.2.1.getD 0 (0,0,[],())).2.2.1).getD ((AQ (nL-1)).toNat) (0,0,[],())).1,(((w.2.2.2.2.2.2.2.2.1.getD 0 (0,0,[],())).2.2.1).getD ((AQ (nL-1)).toNat) (0,0,[],())).2.1,(((w.2.2.2.2.2.2.2.2.1.getD 0 (0,0,[],())).2.2.1).getD ((AQ (nL-1)).toNat) (0,0,[],())).2.2.1,())).bind fun ks=>
    some (((bA.1.1.2.1==ks.1.1),()),()))else none)else none)
   (some ((false,()),()))))
  (cond (decide (nL>0))
   (if(0:Int)<=(0:Int)/\(0:Int)<(w.2.2.2.2.2.2.2.2.1.length:Int)then(
   if(0:Int)<=AQ (nL-1)/\AQ (nL-1)<(((w.2.2.2.2.2.2.2.2.1.getD 0 (0,0,[],())).2.2.1).length:Int)then(
   (EX ((((w.2.2.2.2.2.2.2.2.1.getD 0 (0,0,[],())).2.2.1).getD ((AQ (nL-1)).toNat) (0,0,[],())).1,(((w.2.2.2.2.2.2.2.2.1.getD 0 (0,0,[],())).2.2.1).getD ((AQ (nL-1)).toNat) (0,0,[],())).2.1,(((w.2.2.2.2.2.2.2.2.1.getD 0 (0,0,[],())).2.2.1).getD ((AQ (nL-1)).toNat) (0,0,[],())).2.2.1,())).bind fun u35=>
   some (((bA.1.1.2.1==u35.1.1),()),()))else none)else none)
  (some ((false,()),()))))
 (some ((false,()),())))else none)=(some ((true,()),()):Option kp):=by
 have hnr:(w.2.2.2.2.2.2.2.2.1.length:Int)=2:=by have:=ho.tF;show(w.Aq.length:Int)=2;omega
 obtain⟨q1,q2⟩:=h.reader ho (k:=0) (by omega);obtain⟨t,t1,_,_⟩:=rh q1 (by omega);rw[AKw h ho t1,AFH h ho,kg h.win h.ev];simp only[AD];rw[ALi ⟨by omega,by omega⟩];have hj:∀b:Bool,(((if b=true then[121,101,115]else[110,111]:ABG)==[121,101,115])==b)=true:=by decide
 rw[show((yH w (if KL w&&(Md w&&(Mg w&&(Kd w&&NC w)))then[121,101,115]else[110,111])).1.1.2.1==[121,101,115])=((if KL w&&(Md w&&(Mg w&&(Kd w&&NC w)))then[121,101,115]else[110,111]:ABG)==[121,101,115])from rfl,hj,AMs];rw[show(yH w t).1.1.2.1=t from rfl];have hg:w.2.2.2.2.2.2.2.2.1.getD 0 (0,0,[],())=w.Aq.getD 0 AX:=rfl;rw[hg]
 generalize w.Aq.getD 0 AX=r at*
 have hlen:r.2.2.1.length<=50000:=by
  have:=AR (f:=Bp) (l:=r.2.2.1);have:Aa Bp r.2.2.1=BG r:=rfl;omega
 unfold Lt at t1;by_cases h0:r.2.2.1.length=0
 ·rw[ASQ.2 (show(r.2.2.1.length:Int)=0 by omega),AMs]at t1
  rw[ASQ.2 (show(r.2.2.1.length:Int)=0 by omega),AMs];simp only[ALl,APJ]at t1;rw[<-t1.1.1];rfl
 ·rw[ANL.2 (show(r.2.2.1.length:Int)≠0 by omega),ALm]at t1
  rw[ANL.2 (show(r.2.2.1.length:Int)≠0 by omega),ALm,AOW (show(r.2.2.1.length:Int)>0 by omega),AMs,ALi ⟨by omega,by omega⟩];have hb:(0:Int)<=AQ ((r.2.2.1.length:Int)-1)/\AQ ((r.2.2.1.length:Int)-1)<(r.2.2.1.length:Int):=by rw[Ab (by omega)];omega
  rw[ALi hb];dsimp only at t1;rw[ALi hb]at t1;revert t1
  generalize EX _=o
  intro t1;cases o with
  |none=>cases t1
  |some u=>
   simp only[AD,ALl,APJ]at t1|-;rw[t1.1.1];exact⟨⟨AQd _,trivial⟩,trivial⟩
theorem AAk{x:AAO}(hx:Go.Fw.Vd (.sl (.int .u8)) x):VH x=some ((true,()),()):=by
 unfold VH xg;simp only[AD];by_cases hb:(x.length:Int)>1048576
 ·rw[AOW hb,AMs]
 rw[AQS hb,ALm];obtain⟨w,line,e,h,hl⟩:=AHu (code:=x) (by omega);rw[e];simp only[AD];simp only[yH];rw[Fa w,FX h.win];simp only[AD];cases Du:Cx w with
 |false=>
  obtain⟨h1,h2⟩:=AKm h.win Du (line:=line);rw[h1,h2];rfl
 |true=>
  have ho:=Gu.1 Du;obtain⟨v,v',t,h1,h2,h3⟩:=AIu h ho (line:=line) (by omega);have AMQ:=AIN h ho;rw[h1,h2];simp only[AD,yH];rw[AQd,AL9,ALm,ALm];by_cases ht:t=[111,107]
  ·rw[ht,AQd,AL9,ALm]
   exact AMQ
  ·rw[ANL.2 ht,APP,AMs,h3 ht]
   have hnr:(w.2.2.2.2.2.2.2.2.1.length:Int)=2:=by have:=ho.tF;show(w.Aq.length:Int)=2;omega
   have hlo:w.2.2.2.1.length<=2^40:=by have:=ho.nums.lost;omega
   rw[bne_self_eq_false,ALm,AKL hlo];simp only[AD,AL9,ALm];have hif:(0:Int)<=(0:Int)/\(0:Int)<(w.2.2.2.2.2.2.2.2.1.length:Int):=⟨by omega,by omega⟩;refine(ALi hif).trans ((ALi hif).trans ?_);have h4:=(h.reader ho (k:=0) (by omega)).2;have hlen:(w.Aq.getD 0 AX).2.2.1.length<=2^40:=by
    have h6:=AR (f:=Bp) (l:=(w.Aq.getD 0 AX).2.2.1);have h7:Aa Bp (w.Aq.getD 0 AX).2.2.1=BG (w.Aq.getD 0 AX):=rfl;omega
   have fU:Od (w.2.2.2.2.2.2.2.2.1.getD 0 (0,0,[],())).2.2.1 (w.2.2.2.2.2.2.2.2.1.getD 0 (0,0,[],())).2.2.1=some ((true,()),()):=AJa hlen;rw[fU];simp only[AD,AL9,ALm];exact AMQ
end Go.M
end
