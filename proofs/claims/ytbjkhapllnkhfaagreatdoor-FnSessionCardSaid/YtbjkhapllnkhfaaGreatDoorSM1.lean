/- Plain facts on what the functions compute. -/
import Derived.Test.YtbjkhapllnkhfaaGreatDoorSM0
import Derived.Lib.AtoiAllCases
import Derived.Lib.SplitLaws
set_option linter.unusedVariables false
set_option linter.unusedSimpArgs false
set_option linter.unusedSectionVars false
section
set_option maxRecDepth 8000
namespace Go.M
open Go.M.H (AA AJ AM AN AU AX AY Ac Af Aj Ak Al Ao Ap Ar Aw Az B4 BB BG BH B_ CE CX Cl Cx DV)
section
variable{code:AAA} (hc:code.length<=2^30) {w:AA} (h:RX w)
include hc h
theorem ABB{m:Az}(hm:ve (Ae w) m){t7:Int}(h7:Bp t7):∀(n k:Nat) (t8 i hh:Int),Bp t8->FK code i->k<=m.2.2.2.2.2.1.length->m.2.2.2.2.2.1.length-k<n->
  OK code mf (GO n t7 t8 k code i hh w.1 w.2.1 w.2.2.1 w.2.2.2.1 w.2.2.2.2.1 w.2.2.2.2.2.1 w.2.2.2.2.2.2.1 w.2.2.2.2.2.2.2.1 w.2.2.2.2.2.2.2.2.1 w.2.2.2.2.2.2.2.2.2.1 w.2.2.2.2.2.2.2.2.2.2.1 0 0 0 0 [] m.1 m.2.1 m.2.2.1 m.2.2.2.1 m.2.2.2.2.1 m.2.2.2.2.2.1):=by
 have k1:=h.nums.c;have w_:m.2.2.2.2.2.1.length<=60:=by
  have:=hm.n;have hb:=Hs (l:=m.2.2.2.1);split at this<;>omega
 intro n
 induction n with
 |zero=>intro k t8 i hh _ _ _ h;omega
 |succ n ih=>
  intro k t8 i hh h8 hi hk hn;have hk8:Bp ((k+1:Nat):Int):=Rm (by omega);simp only[GO,Sh];refine OK.xl (fun Ix=> ?_) (fun hge=>OK.some hi ⟨Rm (by show-1000<=(0:Int)/\(0:Int)<=1000;omega),h8,h7,AVi _⟩);have AaG:k<m.2.2.2.2.2.1.length:=by omega
  refine OK.ite (by omega) ?_
  rw[AG (x:=(k:Int)+1) (by omega) (by omega),show((k:Int)+1)=((k+1:Nat):Int)by omega];have hnl:=H_ (hm.wrote _ (BJ (d:=[]) AaG));refine OK.pure (Ff (c:=Ae w) (by show w.1.length<=_;omega) (by show(m.2.2.2.2.2.1.getD k []).length<=_;omega)) ?_
  dsimp only;refine OK.cond (fun _=> ?_) (fun _=>ih (k+1) _ _ _ h8 hi (by omega) (by omega));refine OK.bind (Ym hc hi (by omega)) fun x2 i2 h2 y2 mv hq2=> ?_
  dsimp only;exact OK.cond (fun _=>ih (k+1) _ _ _ hk8 mv (by omega) (by omega)) (fun _=>ih (k+1) _ _ _ h8 mv (by omega) (by omega))
theorem AAL{i hh:Int}(hi:FK code i):OK code mf (MT w code i hh):=by
 have k:=h.nums;have k5:=k.era;unfold MT Ta;have z:Bp 0:=Rm (by omega);refine OK.u_ (fun _=>OK.some hi ⟨z,z,z,AVi _⟩) (fun aO=> ?_);have hlen:0<w.CY.length:=by show 0<w.2.2.2.2.2.2.2.1.length;omega
 refine OK.ite (by omega) ?_
 have hmm:=h.CY _ (BJ (d:=Su) hlen)
 generalize hg:w.2.2.2.2.2.2.2.1.getD 0 (0,0,[],[],false,[],())=m
 have hg':w.CY.getD 0 Su=m:=hg;rw[hg']at hmm;obtain⟨hm,hm2,hm3⟩:=hmm;have he:=hm.ep;have hb:=hm.b;obtain⟨e1,e2,e3⟩:=h.AGX hc (e:=m.2.1) ⟨he.1,by omega⟩;have w_:m.2.2.2.2.2.1.length<=60:=by
  have:=hm.n;have hb:=Hs (l:=m.2.2.2.1);split at this<;>omega
 refine OK.pure (FC (r:=CT w) (by show Af B_ w.2.2.2.2.1<=_;omega)) ?_
 dsimp only
 generalize hns:Br (CT w).1 m.2.1=ns
 have AQl:Br w.BF m.2.1=ns:=hns;rw[AQl]at e1 e2 e3;refine OK.bind (PM hc hi (by omega)) fun x i1 h1 y ck hq=> ?_
 dsimp only at*;refine OK.ite (by omega) ?_
 have AGx:Bp (ns.getD x.1.toNat 0):=Rm (by have:=e3 _ (BJ (l:=ns) (i:=x.1.toNat) (d:=0) (by omega));omega);have fin:∀t8 i hh,Bp t8->FK code i->OK code mf (GO AW (ns.getD x.1.toNat 0) t8 0 code i hh w.1 w.2.1 w.2.2.1 w.2.2.2.1 w.2.2.2.2.1 w.2.2.2.2.2.1 w.2.2.2.2.2.2.1 w.2.2.2.2.2.2.2.1 w.2.2.2.2.2.2.2.2.1 w.2.2.2.2.2.2.2.2.2.1 w.2.2.2.2.2.2.2.2.2.2.1 0 0 0 0 [] m.1 m.2.1 m.2.2.1 m.2.2.2.1 m.2.2.2.2.1 m.2.2.2.2.2.1):=fun t8 i hh h8 hi=>
  ABB hc h hm AGx AW 0 t8 i hh h8 hi (by omega) (Aa (by omega))
 repeat' (first|refine OK.some (by assumption) ?_|refine OK.xl (fun _=> ?_) (fun _=> ?_)|refine OK.u_ (fun _=> ?_) (fun _=> ?_)|refine OK.cond (fun _=> ?_) (fun _=> ?_)|refine OK.ite (by omega) ?_|(refine OK.bind (Ym (by assumption) (by assumption) (by omega)) fun x i h y hi hq=> ?_;dsimp only)|(refine OK.bind (PM (by assumption) (by assumption) (by omega)) fun x i h y hi hq=> ?_;dsimp only at*)|(refine OK.bind (yz (by assumption) (by assumption) (by simp) (by simp)) fun x i h y hi hq=> ?_;dsimp only)|(refine OK.pure Qy ?_;dsimp only)|(refine OK.pure LK ?_;dsimp only))
 all_goals first
  |exact fin _ _ _ (AIE _) (by assumption)
  |exact⟨z,z,z,AVi _⟩
  |exact⟨AGx,z,z,AVi _⟩
theorem zw{i hh:Int}(hi:FK code i):OK code mf (QL w code i hh):=by
 have k:=h.nums;have k1:=k.c;have k2:=k.wr;have k3:=k.lost;have k4:=k.st;have k5:=k.era;have k6:=k.se;have k7:=k.fI;have ACv:=(F_ h.cfg).1;have AbV:1<=w.1.length:=ACv;have z:Bp 0:=Rm (by omega);have aV:∀i hh,FK code i->OK code mf ((ME (w.1,w.2.1,()) code i hh).bind fun u3=>
   (MF u3.2.2.1).bind fun u4=>
   some (((1,u4.1.1,0,0,[],()),()),((u3.2.1.1,u3.2.1.2.1,u3.2.1.2.2.1,()),()))):=fun i hh hi=>by
  refine OK.bind (AC4 hc (c:=(w.1,w.2.1,())) (by show w.1.length<=_;omega) hi) fun x i1 h1 y ck hq=> ?_
  dsimp only;obtain⟨r,hr,hr2⟩:=yU (l:=y.1) (by omega);refine OK.pure hr ?_
  exact OK.some ck ⟨hr2,z,z,AVi _⟩
 have ASW:∀j:Nat,Bp (w.2.2.2.2.2.2.2.2.2.1.getD j (0,[],false,())).1:=fun j=>by
  by_cases hj:j<w.2.2.2.2.2.2.2.2.2.1.length
  ·exact Jp (h.CI _ (BJ (d:=HP) hj)).1
  ·rw[List.getD,ASU (by omega)];exact z
 have ATO:Bp (w.2.2.2.1.getD 0 0):=by
  by_cases hj:0<w.2.2.2.1.length
  ·have:=(Eo.1 h.lost).2.1 _ (BJ (d:=0) hj)
   have hc8:(Ae w).1.length<=8:=k1;have AbF:0<=w.2.2.2.1.getD 0 0/\w.2.2.2.1.getD 0 0<(Ae w).1.length:=this;exact Rm (by omega)
  ·rw[List.getD,ASU (by omega)];exact z
 unfold QL;refine OK.u_ (fun _=>aV _ _ hi) (fun aO=> ?_);have hw0:0<w.AL.length:=by show 0<w.2.2.2.2.2.2.1.length;omega
 have hwr:∀i hh,FK code i->OK code mf ((Gj w code i hh).bind fun p9=>
   some (((p9.1.1.1,p9.1.1.2.1,p9.1.1.2.2.1,p9.1.1.2.2.2.1,p9.1.1.2.2.2.2.1,()),()),((p9.2.1.1,p9.2.1.2.1,p9.2.1.2.2.1,()),()))):=fun i hh hi=>
  OK.bind (zE hc h hw0 hi) fun x i1 h1 y ck hq=>OK.some ck hq
 have hmd:∀i hh,FK code i->OK code mf ((MT w code i hh).bind fun p9=>
   some (((p9.1.1.1,p9.1.1.2.1,p9.1.1.2.2.1,p9.1.1.2.2.2.1,p9.1.1.2.2.2.2.1,()),()),((p9.2.1.1,p9.2.1.2.1,p9.2.1.2.2.1,()),()))):=fun i hh hi=>
  OK.bind (AAL hc h hi) fun x i1 h1 y ck hq=>OK.some ck hq
 rw[Fo w];refine OK.bind (Ym hc hi (by omega)) fun x2 i2 h2 y2 mv hq2=> ?_
 dsimp only;refine OK.cond (fun _=>aV _ _ mv) (fun _=> ?_);refine OK.bind (PM hc mv (by omega)) fun x3 i3 h3 y3 hi3 hq3=> ?_
 dsimp only at*;have hx3:Bp x3.1:=Rm (by omega)
 repeat' first
  |exact hwr _ _ (by assumption)
  |exact hmd _ _ (by assumption)
  |(refine OK.pure (OP (r:=CT w) (by show w.2.2.2.2.1.length<=_;omega)) ?_;dsimp only)
  |(first|refine OK.some (by assumption) ?_|refine OK.xl (fun _=> ?_) (fun _=> ?_)|refine OK.u_ (fun _=> ?_) (fun _=> ?_)|refine OK.cond (fun _=> ?_) (fun _=> ?_)|refine OK.ite (by omega) ?_|(refine OK.bind (Ym (by assumption) (by assumption) (by omega)) fun x i h y hi hq=> ?_;dsimp only)|(refine OK.bind (PM (by assumption) (by assumption) (by omega)) fun x i h y hi hq=> ?_;dsimp only at*)|(refine OK.bind (yz (by assumption) (by assumption) (by simp) (by simp)) fun x i h y hi hq=> ?_;dsimp only)|(refine OK.pure Qy ?_;dsimp only)|(refine OK.pure LK ?_;dsimp only))
 all_goals refine⟨?_,?_,?_,AVi _⟩
 all_goals first
  |exact z
  |exact hx3
  |exact ASW _
  |exact ATO
  |(refine Rm ?_;dsimp only;omega)
end
theorem pU{s:AAA}{p:Int}:∀{l:List BB} {b:Option AJ},(∀x,b=some x->Fq x=true)-> ∀x,I5 s p b l=some x->Fq x=true
 |[],b,hb,x,h=>hb x h
 |a::l,b,hb,x,h=>by
  simp only[I5]at h;split at h
  ·rename_i hc
   simp only[ALJ]at hc;refine pU (l:=l) ?_ x h
   intro z hz;split at hz
   ·rename_i z' hz'
    unfold better at hz;grind
   simp_all
  ·exact pU (l:=l) hb x h
theorem Db{w:AA}{n:Int}{q:AM×Bool}:(putAt w n q).1.Ai=w.Ai:=by
 grind[putAt]
theorem vy{c:CQ}{g:AN}{sure:Int}{r:Ac}{l:List BB}(h:∀e∈r.2.2.1,Bp e.2.1)(h0:(DH c g sure r l).2=0):∀e∈(DH c g sure r l).1.2.2.1,Bp e.2.1:=by
 have app:∀(ev:Ar),Bp ev.2.1-> ∀e∈r.2.2.1++[ev],Bp e.2.1:=fun ev hev e he=>by
  grind
 have hf:∀p b,(VI p b).2.1=p:=fun p b=>by
  cases b with
  |none=>rfl
  |some x=>grind[VI]
 revert h0
 unfold DH;dsimp only;split
 ·omega
 rename_i DG;have AU2:Po c g=true/\T8 r=true:=by
  simp_all
 have hrg:=(KU.1 AU2.1).tin;have aU:=VX.1 AU2.2;have hre:=aU.ep;have hro:=aU.off;split
 ·omega
 split
 ·grind
 split
 ·grind[Rm]
 split
 ·omega
 split
 ·omega
 intro _;refine app _ ?_
 grind[Bp,G9]
theorem AFV{w:AA}{a k:Int}(h:rJ w):rJ (L6 w a k).1:=by
 unfold L6;split
 ·omega
 dsimp only;split
 ·omega
 rename_i h2;intro r hr;rcases ARW hr with hr|rfl
 ·exact h r hr
 ·refine vy ?_ (by omega)
  by_cases hl:a.toNat<w.Ai.length
  ·exact h _ (BJ hl)
  simp_all
theorem GC{w w':AA}(h:rJ w)(e:w'.Ai=w.Ai):rJ w':=by
 unfold rJ;rw[show w'.2.2.2.2.2.2.2.2.1=w.2.2.2.2.2.2.2.2.1 from e];exact h
theorem AK3{all:Bool}{w:AA}{d:Al}(h:rJ w):rJ (LO all w d).1:=by
 unfold LO;by_cases c:d.1=1
 ·rw[AJe c]
  grind[GC,Qk,Db]
 rw[AJk c];clear c;by_cases c:d.1=2
 ·rw[AJe c]
  grind[GC,doAdd,Db]
 rw[AJk c];clear c;by_cases c:d.1=3
 ·rw[AJe c]
  grind[GC,OL,Db]
 rw[AJk c];clear c;by_cases c:d.1=4
 ·rw[AJe c]
  grind[GC,Qi,Db]
 rw[AJk c];clear c;by_cases c:d.1=5
 ·rw[AJe c]
  grind[GC,OT,Db]
 rw[AJk c];clear c;by_cases c:d.1=6
 ·rw[AJe c]
  grind[GC,Rw,Db]
 rw[AJk c];clear c;by_cases c:d.1=7
 ·rw[AJe c]
  grind[GC,UH,Db]
 rw[AJk c];clear c;by_cases c:d.1=8
 ·rw[AJe c]
  grind[GC,UJ,Db]
 rw[AJk c];clear c;by_cases c:d.1=9
 ·rw[AJe c]
  grind[GC,Ti,Db]
 rw[AJk c];clear c;by_cases c:d.1=10
 ·rw[AJe c]
  grind[GC,Tb,Db]
 rw[AJk c];clear c;by_cases c:d.1=11
 ·rw[AJe c]
  grind[GC,bd,Db]
 rw[AJk c];clear c;by_cases c:d.1=12
 ·rw[AJe c]
  grind[GC,Oj,Db]
 rw[AJk c];clear c;by_cases c:d.1=13
 ·rw[AJe c]
  grind[GC,Xi,Db]
 rw[AJk c];clear c;by_cases c:d.1=14
 ·rw[AJe c];exact AFV h
 rw[AJk c];clear c;by_cases c:d.1=15
 ·rw[AJe c]
  grind[GC,VD,Db]
 rw[AJk c];grind[GC,Ob,Db]
theorem AAC{c:CQ}:rJ (Hz c):=fun r hr=>by
 have:r=(1,1,[],()):=by
  have hr':r∈([(1,1,[],()),(1,1,[],())]:List Ac):=hr;simp_all
 simp_all
theorem pw{c:CQ}(hc:EM c=true):RX (Hz c)/\RdS (Hz c):=by
 refine⟨⟨hc,by simp[Hz,H.AA.Bd],ij hc,.inr holds_nil,fun i hi=> ?_,⟨hc,by show 0<=30;omega,.inl rfl,fun e he=>(by cases he),fun i hi=>by exact absurd hi (by show¬i<0;omega)⟩,by show 0<=4;omega,by show 0<=1;omega,fun x hx=>(by cases hx),List.Pairwise.nil,fun x hx=>(by cases hx),rfl,fun r hr=> ?_,by show 0<=120;omega,fun x hx=>(by cases hx),List.Pairwise.nil⟩,fun r hr=> ?_⟩
 ·have:(Hz c).Bd.getD i Dp=Dp:=by
   show(List.replicate c.1.length Dp).getD i Dp=Dp
   grind
  rw[this];exact⟨jU.nil,fun _=>rfl⟩
 ·have:r=(1,1,[],()):=by
   have hr':r∈([(1,1,[],()),(1,1,[],())]:List Ac):=hr;simp_all
  subst this;exact⟨by omega,by simp_all,by simp_all⟩
 ·have:r=(1,1,[],()):=by
   have hr':r∈([(1,1,[],()),(1,1,[],())]:List Ac):=hr;simp_all
  simp_all
theorem dO{c:CQ}(hc:EM c=true):Ey c=some (((((),c.2.1,(),(),(),0,(),(),(),(),false,()),true,()),()),(c.1,List.replicate c.1.length Dp,[],[],[],[],[(1,1,[],()),(1,1,[],())],[],())):=by
 have hl:=(F_ hc).2.1;unfold Ey;rw[show(c.1,c.2.1,())=c from rfl,GL (by omega),hc];simp only[AD,ALR,AKp];rw[AJe (by rw[Am];omega),AJe ⟨by omega,by omega,by rw[Am];omega⟩];rfl
section
variable{code:AAA} (hc:code.length<=2^30)
include hc
end
theorem AAy{w:AA}(h:lg w)(hev:rJ w):V6 w=some ((SD w&&(Vs w&&(VZ w&&(SF w&&VN w))),()),()):=by
 unfold V6;rw[Fo w,lE h,mM h,l_ h,k9 h,lH h hev];grind
theorem Dt{l:AAA}(h:l.length<=2^30):DD l=some (((),()),(l,())):=by
 unfold DD;rw[AJe (by rw[Am];omega)]
theorem YI{l:List AJ}(h:l.length<=2^30):Ja l=some (((),()),(l,())):=by
 unfold Ja;rw[AJe (by rw[Am];omega)]
theorem ZJ{r:Ac}(h:r.2.2.1.length<=2^30):NQ r=some (((r.1,r.2.1,(),()),()),(r.2.2.1,())):=by
 unfold NQ;rw[AJe (by rw[Am];omega)]
theorem SJ{c:CQ}(h:c.1.length<=2^30):Ie c=some ((((),c.2.1,()),()),(c.1,())):=by
 grind[Ie,Dt]
theorem IP{s:AM}(h1:s.1.length<=2^30)(h2:s.2.1.length<=2^30):C_ s=some ((((),(),s.2.2.1,()),()),(s.1,s.2.1,())):=by
 grind[C_,YI]
theorem H4{r:AN}(h:Af B_ r.1<=2^30):ES r=some ((((),r.2.1,()),()),(r.1,())):=by
 have hl:=AX (f:=B_) (l:=r.1);have key:∀(n i:Nat) (acc:List Cx),i<=r.1.length->r.1.length-i<n->acc.length<=i->H3 n r.1 r.1.length i 0 [] r.2.1 acc=some ((((),r.2.1,()),()),(acc++r.1.drop i,())):=by
  intro n
  induction n with
  |zero=>omega
  |succ n ih=>
   intro i acc hi hn ha;simp only[H3,Sb,AB];by_cases hc:i<r.1.length
   ·have hm:=AY (f:=B_) (ALk hc)
    have hw:B_ r.1[i]=r.1[i].1.length:=rfl;rw[AJe (by omega),AJe (by omega),Ah hc,Dt (by omega),AG (by omega) (by omega),show((i:Int)+1)=((i+1:Nat):Int)by omega];simp only[AD];rw[AJe (by rw[Am];omega),ih (i+1) _ (by omega) (by omega) (by simp_all),drop_cons hc,AL3];rfl
   grind
 grind[ES,Sc,AW,Aa]
theorem Jy{x:AU}(h:Ao x<=2^30):Fv x=some (((x.1,(),()),()),(x.2.1,())):=by
 have h':Af BG x.2.1<=2^30:=h;have hl:=AX (f:=BG) (l:=x.2.1);have key:∀(n i:Nat) (acc:List BH),i<=x.2.1.length->x.2.1.length-i<n->acc.length<=i->J3 n x.2.1 x.2.1.length i 0 [] x.1 acc=some (((x.1,(),()),()),(acc++x.2.1.drop i,())):=by
  intro n
  induction n with
  |zero=>omega
  |succ n ih=>
   intro i acc hi hn ha;simp only[J3,Uv,AB];by_cases hc:i<x.2.1.length
   ·have hm:=AY (f:=BG) (ALk hc)
    have hw:BG x.2.1[i]=x.2.1[i].1.length+x.2.1[i].2.1.length:=rfl;rw[AJe (by omega),AJe (by omega),Ah hc,Dt (by omega),AG (by omega) (by omega),show((i:Int)+1)=((i+1:Nat):Int)by omega];simp only[AD];rw[AJe (by rw[Am];omega),ih (i+1) _ (by omega) (by omega) (by simp_all),drop_cons hc,AL3];rfl
   grind
 grind[Fv,Uy,AW,Aa]
theorem Hc{m:Az}(h:CE m<=2^30):Gd m=some (((m.1,m.2.1,(),(),m.2.2.2.2.1,(),()),()),(m.2.2.1,m.2.2.2.1,m.2.2.2.2.2.1,())):=by
 have h':m.2.2.1.length+Af Ap m.2.2.2.1+Af Cl m.2.2.2.2.2.1<=2^30:=h;have hl:=AX (f:=Cl) (l:=m.2.2.2.2.2.1);have wS:=AX (f:=Ap) (l:=m.2.2.2.1);have key:∀(n i:Nat) (acc:List AAA),i<=m.2.2.2.2.2.1.length->m.2.2.2.2.2.1.length-i<n->acc.length<=i->Lt n m.2.2.2.2.2.1 m.2.2.2.2.2.1.length i 0 0 false [] [] [] m.1 m.2.1 m.2.2.2.2.1 m.2.2.1 m.2.2.2.1 acc=some (((m.1,m.2.1,(),(),m.2.2.2.2.1,(),()),()),(m.2.2.1,m.2.2.2.1,acc++m.2.2.2.2.2.1.drop i,())):=by
  intro n
  induction n with
  |zero=>omega
  |succ n ih=>
   intro i acc hi hn ha;simp only[Lt,Xq,AB];by_cases hc:i<m.2.2.2.2.2.1.length
   ·have hm:=AY (f:=Cl) (ALk hc)
    have hw:Cl m.2.2.2.2.2.1[i]=m.2.2.2.2.2.1[i].length:=rfl;rw[AJe (by omega),AJe (by omega),Ah hc,Dt (by omega),AG (by omega) (by omega),show((i:Int)+1)=((i+1:Nat):Int)by omega];simp only[AD];rw[AJe (by rw[Am];omega),ih (i+1) _ (by omega) (by omega) (by simp_all),drop_cons hc,AL3];rfl
   grind
 grind[Gd,X6,Dt,YI,AD,AW,Aa]
section
variable{w:AA} (h:lg w)
include h
theorem AGN:∀(n i:Nat) (EW:List AM) (FU:List AU) (GR:List Az) (HH:List Ac),i<=w.2.2.2.2.2.2.2.2.1.length->w.2.2.2.2.2.2.2.2.1.length-i+1<=n->HH.length<=i->
  En n w.2.2.2.2.2.2.2.2.1 w.2.2.2.2.2.2.2.2.1.length i w.1 w.2.1 w.2.2.1 w.2.2.2.1 w.2.2.2.2.1 w.2.2.2.2.2.1 w.2.2.2.2.2.2.1 w.2.2.2.2.2.2.2.1 w.2.2.2.2.2.2.2.2.1 w.2.2.2.2.2.2.2.2.2.1 w.2.2.2.2.2.2.2.2.2.2.1 0 0 false [] [] [] [] [] [] [] [] w.2.1 w.2.2.2.2.2.1 w.2.2.2.2.2.2.2.2.2.2.1 w.1 EW w.2.2.2.1 w.2.2.2.2.1 FU GR HH []=some ((((),w.2.1,(),(),(),w.2.2.2.2.2.1,(),(),(),(),w.2.2.2.2.2.2.2.2.2.2.1,()),()),(w.1,EW,w.2.2.2.1,w.2.2.2.2.1,FU,GR,(HH++w.2.2.2.2.2.2.2.2.1.drop i),w.2.2.2.2.2.2.2.2.2.1,())):=by
 have wS:=h.MD;have hl:=h.lens;intro n
 induction n with
 |zero=>omega
 |succ n ih=>
  intro i EW FU GR HH hi hn hb;simp only[En,Ux,AB];by_cases Dc:i<w.2.2.2.2.2.2.2.2.1.length
  ·have hm:=AY (f:=Aw) (ALk Dc)
   have hw:Aw w.2.2.2.2.2.2.2.2.1[i]=Af B4 w.2.2.2.2.2.2.2.2.1[i].2.2.1:=rfl;have hlw:=AX (f:=B4) (l:=w.2.2.2.2.2.2.2.2.1[i].2.2.1);rw[AJe (by omega),AJe (by omega),Ah Dc,AG (by omega) (by omega),show((i:Int)+1)=((i+1:Nat):Int)by omega,drop_cons Dc];rw[Oy (w.2.2.2.2.2.2.2.2.1[i]),ZJ (by omega)];simp only[AD];rw[AJe (by rw[Am];omega),ih (i+1) _ _ _ _ (by omega) (by omega) (by simp_all),AL3];rfl
  ·rw[AJk (by omega),AJe (by rw[Am];omega),ALm (by omega),ALu]
theorem AIU:∀(n i:Nat) (EW:List AM) (FU:List AU) (GR:List Az),i<=w.2.2.2.2.2.2.2.1.length->(w.2.2.2.2.2.2.2.1.length-i)+w.2.2.2.2.2.2.2.2.1.length+2<=n->GR.length<=i->
  Er n w.2.2.2.2.2.2.2.1 w.2.2.2.2.2.2.2.1.length i w.1 w.2.1 w.2.2.1 w.2.2.2.1 w.2.2.2.2.1 w.2.2.2.2.2.1 w.2.2.2.2.2.2.1 w.2.2.2.2.2.2.2.1 w.2.2.2.2.2.2.2.2.1 w.2.2.2.2.2.2.2.2.2.1 w.2.2.2.2.2.2.2.2.2.2.1 0 0 false [] [] [] [] [] [] [] [] w.2.1 w.2.2.2.2.2.1 w.2.2.2.2.2.2.2.2.2.2.1 w.1 EW w.2.2.2.1 w.2.2.2.2.1 FU GR [] []=some ((((),w.2.1,(),(),(),w.2.2.2.2.2.1,(),(),(),(),w.2.2.2.2.2.2.2.2.2.2.1,()),()),(w.1,EW,w.2.2.2.1,w.2.2.2.2.1,FU,(GR++w.2.2.2.2.2.2.2.1.drop i),w.2.2.2.2.2.2.2.2.1,w.2.2.2.2.2.2.2.2.2.1,())):=by
 have wS:=h.MD;have hl:=h.lens;intro n
 induction n with
 |zero=>omega
 |succ n ih=>
  intro i EW FU GR hi hn hb;simp only[Er,U9,AB];by_cases Dc:i<w.2.2.2.2.2.2.2.1.length
  ·have hm:=AY (f:=CE) (ALk Dc)
   rw[AJe (by omega),AJe (by omega),Ah Dc,AG (by omega) (by omega),show((i:Int)+1)=((i+1:Nat):Int)by omega,drop_cons Dc];rw[W8 (w.2.2.2.2.2.2.2.1[i]),Hc (by omega)];simp only[AD];rw[AJe (by rw[Am];omega),ih (i+1) _ _ _ (by omega) (by omega) (by simp_all),AL3];rfl
  ·have:=AGN h n 0 EW FU GR [] (by omega) (by omega) (by simp)
   grind
theorem AKq:∀(n i:Nat) (EW:List AM) (FU:List AU),i<=w.2.2.2.2.2.2.1.length->(w.2.2.2.2.2.2.1.length-i)+w.2.2.2.2.2.2.2.1.length+w.2.2.2.2.2.2.2.2.1.length+3<=n->FU.length<=i->
  FP n w.2.2.2.2.2.2.1 w.2.2.2.2.2.2.1.length i w.1 w.2.1 w.2.2.1 w.2.2.2.1 w.2.2.2.2.1 w.2.2.2.2.2.1 w.2.2.2.2.2.2.1 w.2.2.2.2.2.2.2.1 w.2.2.2.2.2.2.2.2.1 w.2.2.2.2.2.2.2.2.2.1 w.2.2.2.2.2.2.2.2.2.2.1 0 0 false [] [] [] [] [] [] [] [] w.2.1 w.2.2.2.2.2.1 w.2.2.2.2.2.2.2.2.2.2.1 w.1 EW w.2.2.2.1 w.2.2.2.2.1 FU [] [] []=some ((((),w.2.1,(),(),(),w.2.2.2.2.2.1,(),(),(),(),w.2.2.2.2.2.2.2.2.2.2.1,()),()),(w.1,EW,w.2.2.2.1,w.2.2.2.2.1,(FU++w.2.2.2.2.2.2.1.drop i),w.2.2.2.2.2.2.2.1,w.2.2.2.2.2.2.2.2.1,w.2.2.2.2.2.2.2.2.2.1,())):=by
 have wS:=h.MD;have hl:=h.lens;intro n
 induction n with
 |zero=>omega
 |succ n ih=>
  intro i EW FU hi hn hb;simp only[FP,W5,AB];by_cases Dc:i<w.2.2.2.2.2.2.1.length
  ·have hm:=AY (f:=Ao) (ALk Dc)
   rw[AJe (by omega),AJe (by omega),Ah Dc,AG (by omega) (by omega),show((i:Int)+1)=((i+1:Nat):Int)by omega,drop_cons Dc];rw[show(w.2.2.2.2.2.2.1[i].1,w.2.2.2.2.2.2.1[i].2.1,())=w.2.2.2.2.2.2.1[i]from rfl,Jy (by omega)];simp only[AD];rw[AJe (by rw[Am];omega),ih (i+1) _ _ (by omega) (by omega) (by simp_all),AL3];rfl
  ·have:=AIU h n 0 EW FU [] (by omega) (by omega) (by simp)
   grind
theorem AKS:∀(n i:Nat) (EW:List AM),i<=w.2.2.1.length->(w.2.2.1.length-i)+w.2.2.2.2.2.2.1.length+w.2.2.2.2.2.2.2.1.length+w.2.2.2.2.2.2.2.2.1.length+4<=n->EW.length<=i->
  FR n w.2.2.1 w.2.2.1.length i w.1 w.2.1 w.2.2.1 w.2.2.2.1 w.2.2.2.2.1 w.2.2.2.2.2.1 w.2.2.2.2.2.2.1 w.2.2.2.2.2.2.2.1 w.2.2.2.2.2.2.2.2.1 w.2.2.2.2.2.2.2.2.2.1 w.2.2.2.2.2.2.2.2.2.2.1 0 0 false [] [] [] [] [] [] [] [] w.2.1 w.2.2.2.2.2.1 w.2.2.2.2.2.2.2.2.2.2.1 w.1 EW w.2.2.2.1 w.2.2.2.2.1 [] [] [] []=some ((((),w.2.1,(),(),(),w.2.2.2.2.2.1,(),(),(),(),w.2.2.2.2.2.2.2.2.2.2.1,()),()),(w.1,(EW++w.2.2.1.drop i),w.2.2.2.1,w.2.2.2.2.1,w.2.2.2.2.2.2.1,w.2.2.2.2.2.2.2.1,w.2.2.2.2.2.2.2.2.1,w.2.2.2.2.2.2.2.2.2.1,())):=by
 have wS:=h.MD;have hl:=h.lens;intro n
 induction n with
 |zero=>omega
 |succ n ih=>
  intro i EW hi hn hb;simp only[FR,W9,AB];by_cases Dc:i<w.2.2.1.length
  ·have hm:=AY (f:=Aj) (ALk Dc)
   have hw:=GA (s:=w.2.2.1[i]) (by omega);rw[AJe (by omega),AJe (by omega),Ah Dc,AG (by omega) (by omega),show((i:Int)+1)=((i+1:Nat):Int)by omega,drop_cons Dc];rw[Oy (w.2.2.1[i]),IP hw.1 hw.2];simp only[AD];rw[AJe (by rw[Am];omega),ih (i+1) _ (by omega) (by omega) (by simp_all),AL3];rfl
  ·have:=AKq h n 0 EW [] (by omega) (by omega) (by simp)
   grind
theorem al:Dm w=some ((((),w.2.1,(),(),(),w.2.2.2.2.2.1,(),(),(),(),w.2.2.2.2.2.2.2.2.2.2.1,()),()),(w.1,w.2.2.1,w.2.2.2.1,w.2.2.2.2.1,w.2.2.2.2.2.2.1,w.2.2.2.2.2.2.2.1,w.2.2.2.2.2.2.2.2.1,w.2.2.2.2.2.2.2.2.2.1,())):=by
 have wS:=h.MD;have hl:=h.lens;unfold Dm XF;have:=AKS h AW 0 [] (by omega) (AS_ (Aa (by omega))) (by simp);rw[show((0:Nat):Int)=0 from rfl,AQH,AP7]at this;rw[show(w.1,w.2.1,())=Ae w from rfl,SJ (by show w.1.length<=_;omega),Dt (by omega),show(w.2.2.2.2.1,w.2.2.2.2.2.1,())=(CT w)from rfl,H4 (by show Af B_ w.2.2.2.2.1<=_;omega)];simp only[AD];exact this
end
theorem yJ{a b:Nat}(h:a+b<2^40):AQ ((IntKind.wrap .u64 (AQ ((a:Int)+(b:Int)))).fdiv (2^1))=(((a+b)/2:Nat):Int):=by
 grind[AG,IntKind.wrap,IntKind.bits,IntKind.signed,Int.fdiv_eq_ediv_of_nonneg]
structure my {α:Type} (f:α->Int) (p:Int) (l:List α) (q:Nat):Prop where
 le:q<=l.length
 lt:∀(i:Nat) (h:i<l.length),i<q->f l[i]<p
 ge:∀(i:Nat) (h:i<l.length),q<=i->p<=f l[i]
theorem eQ{α:Type}{f:α->Int}{l:List α}(h:XT f l){i j:Nat}(hi:i<l.length)(hj:j<l.length)(hij:i<=j):f l[i]<=f l[j]:=by
 grind[Int.le_of_lt,List.pairwise_iff_getElem]
theorem iF{l:List AJ}(ha:jQ l)(hl:l.length<=2^30)(p:Int):∃q,my (fun e:AJ=>e.1) p l q/\
  UK l p=some ((((q:Int),(match l[q]? with|some e=>e.1==p|none=>false),()),()),()):=by
 have key:∀(n a b:Nat),a<=b->b<=l.length->b-a<n->(∀(i:Nat) (h:i<l.length),i<a->l[i].1<p)->(∀(i:Nat) (h:i<l.length),b<=i->p<=l[i].1)->
   ∃q,my (fun e:AJ=>e.1) p l q/\Ay n l p l.length a b=some ((((q:Int),(match l[q]? with|some e=>e.1==p|none=>false),()),()),()):=by
  intro n
  induction n with
  |zero=>omega
  |succ n ih=>
   intro a b v7 hb hn h1 h2;simp only[Ay,Cs,AB,To];by_cases Ix:a<b
   ·have hm:(a+b)/2<l.length:=by omega
    rw[AJe (by omega),yJ (by omega),AJe (by omega),Ah hm];by_cases hc:l[(a+b)/2].1<p
    ·rw[AJe hc]
     simp only[AD];rw[AJe (by omega),AG (by omega) (by omega),show((((a+b)/2:Nat):Int)+1)=(((a+b)/2+1:Nat):Int)by omega];refine ih _ b (by omega) hb (by omega) (fun i h hi=> ?_) h2;exact Int.lt_of_le_of_lt (eQ (f:=fun e:AJ=>e.1) ha h hm (by omega)) hc
    ·rw[AJk hc]
     have hge:∀(i:Nat) (h:i<l.length),(a+b)/2<=i->p<=l[i].1:=fun i h hi=>Int.le_trans (by omega) (eQ (f:=fun e:AJ=>e.1) ha hm h hi)
     by_cases hd:l[(a+b)/2].1>p
     ·rw[AJe hd]
      simp only[AD];rw[AJk (by omega)];exact ih a _ (by omega) (by omega) (by omega) h1 hge
     ·rw[AJk hd]
      simp only[AD];rw[AJk (by omega)];exact ih a _ (by omega) (by omega) (by omega) h1 hge
   ·have AIv:a=b:=by omega
    subst AIv;refine⟨a,⟨hb,h1,h2⟩,?_⟩;rw[AJk (by omega)];by_cases ha':a<l.length
    ·have:=h2 a ha' (AMN _)
     rw[AJe (by omega),AJe (by omega),Ah ha',AKT ha',AJk (by omega)];by_cases hd:l[a].1>p
     ·simp_all;omega
     grind
    grind
 obtain⟨q,hq,e⟩:=key AW 0 l.length (by omega) (by omega) (Aa (by omega)) (fun i h hi=>by omega) (fun i h hi=>by omega);refine⟨q,hq,?_⟩;unfold UK CJ Cr;simp_all
theorem my.get_eq{p:Int}{l:List AJ}{q:Nat}(h:my (fun e:AJ=>e.1) p l q)(ha:jQ l):O0 p l=match l[q]? with|some e=>if e.1=p then some e else none|none=>none:=by
 by_cases hq:q<l.length
 ·rw[AKT hq]
  dsimp only;by_cases he:l[q].1=p
  ·rw[AJe he,<-he]
   exact p7 ha (ALk hq)
  ·rw[AJk he]
   cases hg:O0 p l with
   |none=>rfl
   |some x=>
    obtain⟨hm,hx⟩:=xd hg;obtain⟨i,hi,rfl⟩:=AQA hm;exfalso;have h2:=h.ge q hq (AMN _);rcases Nat.lt_or_ge i q with hiq|hiq
    ·have:=h.lt i hi hiq
     omega
    ·have:=eQ (f:=fun e:AJ=>e.1) ha hq hi hiq
     omega
 ·rw[ASU (by omega)]
  dsimp only;cases hg:O0 p l with
  |none=>rfl
  |some x=>
   obtain⟨hm,hx⟩:=xd hg;obtain⟨i,hi,rfl⟩:=AQA hm;have:=h.lt i hi (by omega);omega
theorem Vr{s:AM}(h0:Aj s<=2^30)(h1:vf s)(p:Int):GZ s p=some (((match Zw s p with|some e=>(e,true,())|none=>((0,0,false,[],()),false,())),()),()):=by
 unfold GZ Zw;rw[Oy s,Ez h0 h1];simp only[AD];rcases AJd (CH s)with DG|DG
 rotate_left
 ·simp_all
 have hs:=Dg.1 DG;have hn:=hs.nk;obtain⟨q,hq,e⟩:=iF hs.asc (by omega) p;rw[DG,e,AJe rfl,hq.get_eq hs.asc];grind
theorem Gw{e o:Int}:DR e o=some (((D_ e o,BE e 1 30&&BE o 1 60,()),()),()):=by
 unfold DR Hl Zu D_;rw[Ax,Ax];simp only[AD];rcases AJd (BE e 1 30)with he|he
 rotate_left
 ·simp_all
 rcases AJd (BE o 1 60)with ho|ho
 rotate_left
 ·simp_all
 rw[he,ho];have h1:=An.1 he;have h2:=An.1 ho;simp only[ALR,AKp,Bool.and_self,AQY];rw[AG (x:=4294967296*e) (by omega) (by omega),AG (by omega) (by omega)];rfl
theorem ah{k:Int}:IB k=some (((),()),(BM k,())):=by
 unfold IB XQ BM;rw[Ax];simp only[AD];rcases AJd (BE k 0 255)with hk|hk
 rotate_left
 ·simp_all
 rw[hk,AJe rfl];have hk':=An.1 hk;have key:∀(n i:Nat) (b:AAA),i<=8->8-i<n->b.length<=i->
   K8 n k i b=some (((),()),(b++(([0,1,2,3,4,5,6,7]:AAA).drop i).filter (fun i=>(k/2^i.toNat)%2==1),())):=by
  intro n
  induction n with
  |zero=>omega
  |succ n ih=>
   intro i b hi h hb;simp only[K8,XK,AB];by_cases Dc:i<8
   ·have AFv:=yc (k:=k) (i:=i) (by omega) (by omega)
    rw[AJe (show(i:Int)<8 by omega),AJk (by omega),ALN,xG i Dc,AQ9,ALN,AG (by omega) (by omega),show((i:Int)+1)=((i+1:Nat):Int)by omega];rw[AFv];simp only[AB];have c2:b.length+1<=CN:=by rw[Am];omega
    by_cases hb':(k/2^i)%2=1
    ·rw[AJe hb',AJe c2,AJe (by simp_all),ih (i+1) _ (by omega) (by omega) (by simp_all),AL3]
     rfl
    grind
   ·have:i=8:=by omega
    simp_all
 have:=key AW 0 [] (by omega) (Aa (by omega)) (by simp);simp_all
theorem QS{r:AN}(h:Af B_ r.1<=2^30){e:Int}(he:Bp e):JJ r e=some (((),()),(Br r.1 e,())):=by
 unfold JJ Br;have hl:=AX (f:=B_) (l:=r.1);rw[Ax];simp only[AD];rcases AJd (BE e 1 r.1.length)with hk|hk
 rotate_left
 ·simp_all
 rw[hk,AJe rfl];have hk':=An.1 hk;have hm:=AY (f:=B_) (BJ (d:=Hp) (i:=(e-1).toNat) (by omega:(e-1).toNat<r.1.length));have hw:B_ (r.1.getD (e-1).toNat Hp)=(r.1.getD (e-1).toNat Hp).1.length:=rfl;rw[AG (by omega) (by omega)];simp only[ALR,AKp];rw[AJe (by omega),show(r.1.getD (e-1).toNat ([],false,0,()))=r.1.getD (e-1).toNat Hp from rfl,Dt (by omega)];rfl
theorem Lk{w:AA}(h1:w.Bd.length<=2^30)(h2:w.lost.length<=2^30){n:Int}:EP w n=some ((Au w n,()),()):=by
 unfold EP Au;have h1':w.2.2.1.length<=2^30:=h1;rw[AG (by omega) (by omega),Ax,dQ (by grind)];grind
theorem QY{b:Bool}:KX b=some ((if b then 0 else 4,()),()):=by cases b<;>rfl
theorem kL{x:AU}(h:x.2.1.length<=2^30):Ri x=some (((dp x.2.1:Int),()),()):=by
 have key:∀(n i:Nat),i<=x.2.1.length->x.2.1.length-i<n->i+dp (x.2.1.drop i)=dp x.2.1->J8 n x.2.1 x.2.1.length i x.1 x.2.1=some (((dp x.2.1:Int),()),()):=by
  intro n
  induction n with
  |zero=>omega
  |succ n ih=>
   intro i hi hn hs;simp only[J8,VC,AB];by_cases hc:i<x.2.1.length
   ·rw[drop_cons hc]at hs
    simp only[dp]at hs;rw[AJe (by omega),AJe (by omega),Ah hc,AG (by omega) (by omega),show((i:Int)+1)=((i+1:Nat):Int)by omega];cases hd:x.2.1[i].2.2.1 with
    |true=>
     grind
    |false=>
     simp_all
   ·rw[ALm (by omega)]at hs
    simp only[dp]at hs;grind
 grind[Ri,U4,AW,Aa]
theorem sj{w:AA}(h:lg w)(e:Int):Sq w e=some ((fM w e,()),()):=by
 have wS:=h.MD;have hl:=h.lens;have key:∀(n i:Nat),i<=w.AL.length->w.AL.length-i<n->Pu n e w.AL w.AL.length i=some (((match(w.AL.drop i).find? (fun x=>x.1==e)with|some x=>(dp x.2.1:Int)|none=>0),()),()):=by
  intro n
  induction n with
  |zero=>omega
  |succ n ih=>
   intro i hi hn;simp only[Pu,bL,AB];by_cases hc:i<w.AL.length
   ·have gO:i<w.2.2.2.2.2.2.1.length:=hc
    have hm:Ao w.AL[i]<=Af Ao w.2.2.2.2.2.2.1:=AY (f:=Ao) (ALk hc);have hw:Ao w.AL[i]=Af BG w.AL[i].2.1:=rfl;have hlw:=AX (f:=BG) (l:=w.AL[i].2.1);rw[AJe (by omega),AJe (by omega),Ah hc,AG (by omega) (by omega),show((i:Int)+1)=((i+1:Nat):Int)by omega,drop_cons hc,AVe,show(w.AL[i].1,w.AL[i].2.1,())=w.AL[i]from rfl,kL (by omega),ih (i+1) (by omega) (by omega)];cases w.AL[i].1==e<;>rfl
   grind
 grind[Sq,bB,fM,AW,Aa]
theorem AAT{x:Int}{t:ADH}(h:t.1.length<=2^30):Sj x t=some ((!t.1.contains x,()),()):=by
 grind[Sj,JB]
theorem px{x:Int}{t:AB2}:Mu x t=some ((x==t.1,()),()):=rfl
theorem q_{t:ADH×Unit}(h:t.1.1.length<=2^30){l:AAA}(hl:l.length<=2^30):Cm t l=some (((),()),((),l.filter (fun x=> !(!t.1.1.contains x)),())):=by
 have key:∀(n i j:Nat) (b:AAA),i<=j->j<=b.length->b.length<=2^30->b.length-j<n->B6 n t i j b=some (((),()),((),b.take i++(b.drop j).filter (fun x=> !(!t.1.1.contains x)),())):=by
  intro n
  induction n with
  |zero=>omega
  |succ n ih=>
   intro i j b hij hj hb hn;simp only[B6,Dx,AB];by_cases hc:j<b.length
   ·rw[AJe (by omega),AJe (by omega),Ah hc,AAT h]
    simp only[AD];rw[AG (x:=(j:Int)+1) (by omega) (by omega),AG (x:=(i:Int)+1) (by omega) (by omega),show((j:Int)+1)=((j+1:Nat):Int)by omega,show((i:Int)+1)=((i+1:Nat):Int)by omega,drop_cons hc,AQ9];have n1:=ih (i+1) (j+1) (b.set i b[j]) (by omega) (by grind) (by simp_all) (by grind);have n2:=ih i (j+1) b (by omega) (by omega) hb (by omega);rw[show(t.1,())=t from rfl,n2];rw[AVu (by omega),ARB (by grind),AVv (AMN _),AVp,AL3,ARR]at n1;rw[AJe (by omega),ALN,n1]
    generalize hx:b[j]=x
    cases(!t.1.1.contains x)<;>rfl
   ·rw[AJk (by omega),ALm (i:=j) (by omega),ALN,ALN]
    simp_all;omega
 have fnd:∀(n i:Nat),i<=l.length->l.length-i<n-> ∃r:Int,CD n l t l.length i=some ((r,()),())/\((r= -1/\(l.drop i).filter (fun x=> !(!t.1.1.contains x))=l.drop i)\/ ∃q:Nat,r=q/\i<=q/\q<l.length/\((l.take q).drop i).filter (fun x=> !(!t.1.1.contains x))=(l.take q).drop i/\ ∀(h:q<l.length) x,x=l[q]->(!t.1.1.contains x)=true):=by
  intro n
  induction n with
  |zero=>omega
  |succ n ih=>
   intro i hi hn;simp only[CD,D7,AB];by_cases hc:i<l.length
   ·rw[AJe (by omega),AJe (by omega),Ah hc,AAT h]
    simp only[AD];rw[AG (x:=(i:Int)+1) (by omega) (by omega),show((i:Int)+1)=((i+1:Nat):Int)by omega,show(t.1,())=t from rfl];obtain⟨r,e,hr⟩:=ih (i+1) (by omega) (by omega);rw[e]
    generalize hx:l[i]=x
    cases hp:(!t.1.1.contains x)with
    |true=>
     grind
    |false=>
     refine⟨r,rfl,?_⟩;rcases hr with⟨h1,h2⟩|⟨q,h1,h2,h3,h4,h5⟩
     ·grind[drop_cons]
     ·refine .inr ⟨q,h1,by omega,h3,?_,h5⟩
      grind[drop_cons]
   grind
 obtain⟨r,e,hr⟩:=fnd AW 0 (by omega) (Aa (by omega));rw[show((0:Nat):Int)=0 from rfl]at e;unfold Cm Dy Di D9;rw[show(t.1,())=t from rfl,e];simp only[AD];rcases hr with⟨h1,h2⟩|⟨q,h1,h2,h3,h4,h5⟩
 ·grind
 ·rw[h1,ALr.2 (by omega),AKp,AG (by omega) (by omega),show((q:Int)+1)=((q+1:Nat):Int)by omega,key AW q (q+1) l (by omega) (by omega) hl (Aa (by omega))]
  rw[AP7]at h4;have hd:=h5 h3 _ rfl;grind[List.take_append_drop,drop_cons]
theorem eP{t:AEn}{l:AAA}(hl:l.length<=2^30):Co t l=some (((),()),((),l.filter (fun x=> !(x==t.1.1)),())):=by
 have key:∀(n i j:Nat) (b:AAA),i<=j->j<=b.length->b.length<=2^30->b.length-j<n->Bz n t i j b=some (((),()),((),b.take i++(b.drop j).filter (fun x=> !(x==t.1.1)),())):=by
  intro n
  induction n with
  |zero=>omega
  |succ n ih=>
   intro i j b hij hj hb hn;simp only[Bz,Ef,AB];by_cases hc:j<b.length
   ·rw[AJe (by omega),AJe (by omega),Ah hc,px]
    simp only[AD];rw[AG (x:=(j:Int)+1) (by omega) (by omega),AG (x:=(i:Int)+1) (by omega) (by omega),show((j:Int)+1)=((j+1:Nat):Int)by omega,show((i:Int)+1)=((i+1:Nat):Int)by omega,drop_cons hc,AQ9];have n1:=ih (i+1) (j+1) (b.set i b[j]) (by omega) (by grind) (by simp_all) (by grind);have n2:=ih i (j+1) b (by omega) (by omega) hb (by omega);rw[show(t.1,())=t from rfl,n2];rw[AVu (by omega),ARB (by grind),AVv (AMN _),AVp,AL3,ARR]at n1;rw[AJe (by omega),ALN,n1]
    generalize hx:b[j]=x
    cases(x==t.1.1)<;>rfl
   ·rw[AJk (by omega),ALm (i:=j) (by omega),ALN,ALN]
    simp_all;omega
 have fnd:∀(n i:Nat),i<=l.length->l.length-i<n-> ∃r:Int,B7 n l t l.length i=some ((r,()),())/\((r= -1/\(l.drop i).filter (fun x=> !(x==t.1.1))=l.drop i)\/ ∃q:Nat,r=q/\i<=q/\q<l.length/\((l.take q).drop i).filter (fun x=> !(x==t.1.1))=(l.take q).drop i/\ ∀(h:q<l.length) x,x=l[q]->(x==t.1.1)=true):=by
  intro n
  induction n with
  |zero=>omega
  |succ n ih=>
   intro i hi hn;simp only[B7,E8,AB];by_cases hc:i<l.length
   ·rw[AJe (by omega),AJe (by omega),Ah hc,px]
    simp only[AD];rw[AG (x:=(i:Int)+1) (by omega) (by omega),show((i:Int)+1)=((i+1:Nat):Int)by omega,show(t.1,())=t from rfl];obtain⟨r,e,hr⟩:=ih (i+1) (by omega) (by omega);rw[e]
    generalize hx:l[i]=x
    cases hp:(x==t.1.1)with
    |true=>
     grind
    |false=>
     refine⟨r,rfl,?_⟩;rcases hr with⟨h1,h2⟩|⟨q,h1,h2,h3,h4,h5⟩
     ·grind[drop_cons]
     ·refine .inr ⟨q,h1,by omega,h3,?_,h5⟩
      grind[drop_cons]
   grind
 obtain⟨r,e,hr⟩:=fnd AW 0 (by omega) (Aa (by omega));rw[show((0:Nat):Int)=0 from rfl]at e;unfold Co Es Dz E9;rw[show(t.1,())=t from rfl,e];simp only[AD];rcases hr with⟨h1,h2⟩|⟨q,h1,h2,h3,h4,h5⟩
 ·grind
 ·rw[h1,ALr.2 (by omega),AKp,AG (by omega) (by omega),show((q:Int)+1)=((q+1:Nat):Int)by omega,key AW q (q+1) l (by omega) (by omega) hl (Aa (by omega))]
  rw[AP7]at h4;have hd:=h5 h3 _ rfl;grind[List.take_append_drop,drop_cons]
theorem fN{a b:AAA}(ha:a.length<=2^30)(hb:b.length<=2^30):Ny a b=some (((),()),(a.filter b.contains,())):=by
 unfold Ny;rw[Dt ha];simp only[AD];rw[q_ hb ha];grind
theorem Qo{a:AAA}{x:Int}(ha:a.length<=2^30):HV a x=some (((),()),(less a [x],())):=by
 unfold HV less;rw[Dt ha];simp only[AD];rw[eP ha];grind
theorem iV{d:Al}:XD d=some ((GS d,()),()):=by
 obtain⟨k,a,b,n,t,⟨⟩⟩:=d;obtain⟨m,hm⟩:∃m,AW=m+4:=⟨AW-4,by have:=WR;omega⟩;have fin:∀(a' b' n':Int) (t':ABF),(((A_ k 1 16).bind fun u4=>cond (u4.1.1) (cond ((((0:Int)==0)&&((a' ==0)&&((b' ==0)&&((n' ==0)&&((t' ==[])&&true))))) ) ((GF t).bind fun u6=>some ((u6.1.1,()),())) (some ((false,()),()))) (some ((false,()),()))):Option RG)=some ((BE k 1 16&&((a' ==0)&&((b' ==0)&&((n' ==0)&&((t' ==[])&&decide (t.length<=40))))),()),()):=by
  intro a' b' n' t';rw[Ax];simp only[AD,GF,ARC,ALl,AQ5];have e:decide ((t.length:Int)<=40)=decide (t.length<=40):=by grind
  grind
 unfold XD ar QE GS Yb;rw[hm];have h1:((1:Nat):Int)=1:=rfl;have w1:AQ (1:Int)=1:=AG (by omega) (by omega);have w2:AQ (2:Int)=2:=AG (by omega) (by omega);have w3:AQ (3:Int)=3:=AG (by omega) (by omega);have lim:(3:Nat)<=CN:=by rw[Am];omega
 have l0:(0:Nat)<=CN:=by omega
 have l1:(1:Nat)<=CN:=by omega
 have l2:(2:Nat)<=CN:=by omega
 dsimp only;by_cases k8:k=8
 ·subst k8
  simpa[Dr,DM]using fin a b n t
 by_cases k10:k=10
 ·subst k10
  simpa[Dr,DM]using fin a b n t
 by_cases k12:k=12
 ·subst k12
  simpa[Dr,DM]using fin a b n t
 by_cases k2:k=2
 ·subst k2
  simpa[Dr,DM,l2,w1,w2]using fin 0 b n []
 by_cases k3:k=3
 ·subst k3
  simpa[Dr,DM,lim,w1,w2,w3]using fin 0 0 0 t
 by_cases k5:k=5
 ·subst k5
  simpa[Dr,DM,l2,w1,w2]using fin 0 0 n t
 by_cases k14:k=14
 ·subst k14
  simpa[Dr,DM,l2,w1,w2]using fin 0 0 n t
 by_cases k11:k=11
 ·subst k11
  simpa[Dr,DM,l2,w1,w2]using fin a 0 0 t
 by_cases k13:k=13
 ·subst k13
  simpa[Dr,DM,l1,w1]using fin 0 b n t
 have e8:(k==8)=false:=ALr.2 k8;have e10:(k==10)=false:=ALr.2 k10;have e12:(k==12)=false:=ALr.2 k12;have e2:(k==2)=false:=ALr.2 k2;have e3:(k==3)=false:=ALr.2 k3;have e5:(k==5)=false:=ALr.2 k5;have e14:(k==14)=false:=ALr.2 k14;have e11:(k==11)=false:=ALr.2 k11;have e13:(k==13)=false:=ALr.2 k13;simpa[k8,k10,k12,k2,k3,k5,k14,k11,k13,e8,e10,e12,e2,e3,e5,e14,e11,e13,Dr,DM,l1,w1]using fin 0 b n t
theorem qq{l:List BB}(hl:l.length<=2^20):Qa l=some (((),()),(l.map (fun a=>a.1),())):=by
 have key:∀(n i:Nat) (b:AAA),i<=l.length->l.length-i<n->b.length=i->NZ n l l.length i b=some (((),()),(b++(l.drop i).map (fun a=>a.1),())):=by
  intro n
  induction n with
  |zero=>omega
  |succ n ih=>
   intro i b hi h hb;simp only[NZ,Zv,AB];by_cases gO:i<l.length
   ·have c1:(0:Int)<=(i:Int)/\(i:Int)<(l.length:Int):=by omega
    have c2:b.length+1<=CN:=by rw[Am];omega
    rw[AJe c1.2,AJe c1,AJe c2,AG (by omega) (by omega),show((i:Int)+1)=((i+1:Nat):Int)by omega,Ah gO,ih (i+1) _ (by omega) (by omega) (by simp_all),drop_cons gO];grind
   grind
 unfold Qa Z7;have:=key AW 0 [] (by omega) (Aa (by omega)) rfl;simp_all
theorem zW{c:CQ}{s l:AAA}(hc:c.1.length<=2^40)(hl:l.length<=2^20)(hs:s.length<=2^20):jH c s l=some (((),()),(if BC c s&&BC c l then less s l else[],())):=by
 have key:∀(n i:Nat) (b:AAA),i<=s.length->s.length-i<n->b.length<=i->UF n l s s.length i b=some (((),()),(b++less (s.drop i) l,())):=by
  intro n
  induction n with
  |zero=>omega
  |succ n ih=>
   intro i b hi h hb;simp only[UF,fV,AB,Aq];by_cases gO:i<s.length
   ·have c1:(0:Int)<=(i:Int)/\(i:Int)<(s.length:Int):=by omega
    have c2:b.length+1<=CN:=by rw[Am];omega
    rw[AJe c1.2,AJe c1,Ah gO,JB (by omega),AG (by omega) (by omega),show((i:Int)+1)=((i+1:Nat):Int)by omega,drop_cons gO];simp only[AD,AJe c2];rw[ih (i+1) b (by omega) (by omega) (by omega),ih (i+1) (b++[s[i]]) (by omega) (by omega) (by simp_all)];grind[less]
   ·rw[AJk (by omega),ALm (by omega)]
    simp[less]
 unfold jH fZ;rw[show(c.1,c.2.1,())=c from rfl,EC hc (by omega),EC hc (by omega)];simp only[AD];cases BC c s with
 |false=>rfl
 |true=>
  cases BC c l with
  |false=>rfl
  |true=>
   have:=key AW 0 [] (by omega) (Aa (by omega)) (by simp);simp_all
theorem filter_all{l:AAA}{p:Int->Bool}:((((l.filter p).length:Nat):Int) !=(l.length:Int))= !l.all p:=by
 rw[AVw];simp only[bne_iff_ne,ne_eq,ARI,ARJ];grind[List.filter_eq_self,List.all_eq_true,List.length_filter_eq_length_iff]
theorem iI{c:CQ}{s l:AAA}(hc:c.1.length<=2^40)(hl:l.length<=2^20)(hs:s.length<=2^20):HC c s l=some ((SW c s l,()),()):=by
 unfold HC SW;rw[show(c.1,c.2.1,())=c from rfl,EC hc (by omega),Gc hc (by omega),fN (by omega) (by omega),zW hc hl hs];simp only[AD,Aq,filter_all];have hh:holds c s=true->BC c s=true:=fun h=>by
  unfold holds at h;simp_all
 cases h1:BC c l with
 |false=>simp
 |true=>
  cases h2:holds c s with
  |false=>rfl
  |true=>
   cases h3:l.all s.contains with
   |false=>rfl
   |true=>
    have h4:(less s l).length<=2^20:=APp (AP5 _ _) hs;rw[hh h2];simp only[ALg,Bool.and_self,AQY,ALR,AKp,ALl];grind[Gc]
theorem Zg{a b:AJ}:Sd a b=some ((better a b,()),()):=by
 unfold Sd better;grind
theorem uF{s:AAA}{p:Int}{l:List BB}(hs:s.length<=2^20)(hl:l.length<=2^20)(Qt:∀a∈l,Bp a.2.2.1):
  bc l s p=some (((((I5 s p none l).getD Dq),(I5 s p none l).isSome,()),()),()):=by
 have key:∀(n i:Nat) (b:Option AJ),i<=l.length->l.length-i<n->
   PW n s p b.isSome l l.length i 0 0 false [] (b.getD Dq).1 (b.getD Dq).2.1 (b.getD Dq).2.2.1 (b.getD Dq).2.2.2.1=some (((((I5 s p b (l.drop i)).getD Dq),(I5 s p b (l.drop i)).isSome,()),()),()):=by
  intro n
  induction n with
  |zero=>omega
  |succ n ih=>
   intro i b hi h;simp only[PW,bY,AB,Aq];by_cases gO:i<l.length
   ·have c1:(0:Int)<=(i:Int)/\(i:Int)<(l.length:Int):=by omega
    rw[AJe c1.2,AJe c1,AG (by omega) (by omega),show((i:Int)+1)=((i+1:Nat):Int)by omega,Ah gO,drop_cons gO];have ih':=fun b=>ih (i+1) b (by omega) (by omega)
    simp only[ih'];rw[JB (by omega),show(l[i].2.2.1,l[i].2.2.2.1,l[i].2.2.2.2.1,l[i].2.2.2.2.2.1,())=Yk l[i]from rfl];rw[RV (e:=Yk l[i]) (Qt _ (ALk gO))];simp only[AD,I5];cases h1:l[i].2.1 with
    |false=>simp
    |true=>
     cases h2:s.contains l[i].1 with
     |false=>simp
     |true=>
      cases h3:Fq (Yk l[i])with
      |false=>simp
      |true=>
       simp only[ALg,ALl];by_cases h4:l[i].2.2.1=p
       ·rw[Cv,AJe h4,AJe (by show((Yk l[i]).1==p)=true;rw[ARL];exact h4)]
        cases b with
        |none=>
         simp only[ARE,AKp,Zg,AD,Option.getD_none];have:=ih' (some (Yk l[i]));simp only[AQ7,AQ_]at this;have hb:better (Yk l[i]) (Yk l[i])=Yk l[i]:=by unfold better;simp_all
         simp_all
        |some x=>
         simp only[AQ7,ALg,AQ_];rw[gS x];grind[Zg,AD,better,Yk,Option.isSome_some]
       ·rw[Cv,AJk h4,AJk (by show¬((Yk l[i]).1==p)=true;rw[ARL];exact h4)]
   ·rw[AJk (by omega),ALm (by omega)]
    rfl
 unfold bc av;exact key AW 0 none (by omega) (Aa (by omega))
theorem eK{s t:AAA}{p:Int}:∀{l:List BB} {b:Option AJ},(∀a∈l,s.contains a.1=t.contains a.1)->I5 s p b l=I5 t p b l
 |[],b,_=>rfl
 |a::l,b,h=>by
  simp only[I5];rw[h a (by simp),eK (fun x hx=>h x (by simp[hx])),eK (fun x hx=>h x (by simp[hx]))]
theorem X5{e:Ar}{a b:Int}{l:List Ar}(h:l.length<=2^30):FG e a b l=some (((),()),((a,b,(),()),(),l++[e],())):=by
 unfold FG;rw[AJe (by rw[Am];omega)]
theorem g_{s:AAA}{l:List BB}{a b:Int}{o:List Ar}(ha:1<=a/\a<=30)(hb:1<=b/\b<=60)(ho:o.length<=2^20)(hs:s.length<=2^20)(hl:l.length<=2^20)(Qt:∀a∈l,Bp a.2.2.1):
  C4 l s a b o=some (((),()),((a,b+1,(),()),(),o++[VI (G9 a b) (I5 s (G9 a b) none l)],())):=by
 unfold C4;rw[Gw];have hp:D_ a b=G9 a b:=by
  unfold D_;rw[AJe (by rw[ALJ,An,An];omega)]
 simp only[AD];rw[hp,uF hs hl Qt];simp only[AD,X5 (APp ho (by omega))];rw[AG (by omega) (by omega)];cases I5 s (G9 a b) none l with
 |none=>rfl
 |some x=>
  simp only[AQ7,ALR,AKp,AQ_,VI];grind
theorem ACP{x e o:Int}(hx:x=0\/Av x=true)(he:1<=e/\e<=31)(ho:1<=o/\o<=61):
  decide (x>=G9 e o)=(decide (x>0)&& !(decide (Ab x<e)||((Ab x==e)&&decide (Bt x<o)))):=by
 rcases hx with rfl|hx
 ·grind[decide_eq_false,G9]
 ·have h:=GM hx
  rw[AVw];simp only[ALJ,ARI,Bool.or_eq_false_iff,ALh,ARa,Bool.and_eq_false_iff,ALr];grind[G9]
theorem q6{x:Int}{r:Ac}(hx:Bp x):I_ x r=some ((decide (Ab x<r.1)||((Ab x==r.1)&&decide (Bt x<r.2.1)),()),()):=by
 grind[I_,Dl,Q5,AD,decide,Ab]
theorem kt{c:CQ}{g:AN}{sure:Int}{r:Ac}{l:List BB}(hc:c.1.length<=2^20)(hg:Af B_ g.1<=2^20)(ht:Bp g.2.1)(hl:l.length<=2^20)(Qt:∀a∈l,Bp a.2.2.1):
  Ka c g sure r l=some (ADE (DH c g sure r l)):=by
 unfold Ka DH;rw[show(c.1,c.2.1,())=c from rfl,show(g.1,g.2.1,())=g from rfl,Oy r,qq hl,Nl (by omega) (by omega) ht,dw];simp only[AD,Aq,AB];rw[EC (by omega) (by grind)];simp only[AD];cases h1:Po c g with
 |false=>rfl
 |true=>
 cases h2:T8 r with
 |false=>rfl
 |true=>
 cases h3:BC c (l.map fun a=>a.1)with
 |false=>rfl
 |true=>
 have hr:=VX.1 h2;have hre:=hr.ep;have hro:=hr.off;have hrn:=hr.n;have hR:=KU.1 h1;have hRn:=hR.n;simp only[ALg,ALl,ALR,ALY,ANX];rw[ZJ (by omega)];simp only[AD];by_cases h4:r.1>(g.1.length:Int)
 ·rw[AJe h4,AM_ h4];rfl
 rw[AJk h4,AQK h4];by_cases h5:r.2.2.1.length=120
 ·rw[show(((r.2.2.1.length:Nat):Int)==120)=true by simp_all,AM_ h5];rfl
 rw[show(((r.2.2.1.length:Nat):Int)==120)=false by grind,AQK h5];simp only[AKp,APM,ALY,ANX];rw[AG (x:=r.1-1) (by omega) (by omega),q6 ht,Dl ht,Q5 ht];simp only[AD];have hto:=lJ (x:=g.2.1);rw[AG (x:=Bt g.2.1+1) (by omega) (by omega),AG (x:=r.1+1) (by omega) (by omega)];simp only[X5 (l:=r.2.2.1) (by omega),AD];have hta:=ACP (x:=g.2.1) (e:=r.1) (o:=r.2.1) (hR.trim.imp id fun h=>h.1) hre hro
 generalize AIQ:g.1.getD (r.1-1).toNat Hp=era
 have Ix:(r.1-1).toNat<g.1.length:=by omega
 have WG:era.1.length<=2^20:=by
  have h7:=AY (f:=B_) (BJ (d:=Hp) Ix);rw[AIQ]at h7;have:B_ era=era.1.length:=rfl;omega
 have hd:g.1.getD (r.1-1).toNat ([],false,0,())=era:=AIQ;rw[hd];have hf:((l.map fun a=>a.1).filter era.1.contains).length<=2^20:=APp (AP5 _ _) (by simp_all);rw[fN (by grind) (by omega)];simp only[AD];rw[iI (by omega) hf WG];simp only[AD];have sv:(0:Int)<=r.1-1/\r.1-1<(g.1.length:Int):=by omega
 simp only[AJe sv]
 generalize hT:(cond (era.2.1) _ _:Option Kn)=T
 have hT':T=some (ADE (if era.2.1&&decide (r.2.1>era.2.2.1)then((r.1+1,1,r.2.2.1++[(4,r.1+1,[],())],()),0)else
   if(!era.2.1&&decide (r.2.1>sure))||decide (r.2.1>60)then(r,2)else
   if !SW c era.1 ((l.map fun a=>a.1).filter era.1.contains)then(r,3)else
   ((r.1,r.2.1+1,r.2.2.1++[VI (G9 r.1 r.2.1) (I5 era.1 (G9 r.1 r.2.1) none l)],()),0))):=by
  rw[<-hT];clear hT;have tail:r.2.1<=60->(cond (SW c era.1 ((l.map fun a=>a.1).filter era.1.contains))
    ((C4 l ((l.map fun a=>a.1).filter era.1.contains) r.1 r.2.1 r.2.2.1).bind fun Uj=>some ((((Uj.2.1.1,Uj.2.1.2.1,(),()),0,()),()),(Uj.2.2.2.1,())))
    (some ((((r.1,r.2.1,(),()),3,()),()),(r.2.2.1,()))):Option Kn)=some (ADE (if !SW c era.1 ((l.map fun a=>a.1).filter era.1.contains)then(r,3)else
    ((r.1,r.2.1+1,r.2.2.1++[VI (G9 r.1 r.2.1) (I5 era.1 (G9 r.1 r.2.1) none l)],()),0))):=by
   intro h60;rw[g_ (by omega) (by omega) (by omega) hf hl Qt];rw[eK (s:=(l.map fun a=>a.1).filter era.1.contains) (t:=era.1) (fun a ha=>by
    rw[AVw,ARY,AUl];exact⟨fun h=>by simp_all,fun h=>⟨List.mem_map_of_mem ha,by omega⟩⟩)]
   cases SW c era.1 ((l.map fun a=>a.1).filter era.1.contains)<;>rfl
  cases h7:era.2.1 with
  |true=>
   simp only[ALg,AKp,ALl,ALR,ARA,APM,ALh];by_cases h8:r.2.1>era.2.2.1
   ·rw[AJe h8,AJe h8];rfl
   rw[AJk h8,AJk h8];by_cases h9:r.2.1>60
   ·rw[AJe h9,AJe h9];rfl
   grind
  |false=>
   simp only[ALg,AKp,ALl,AOP,ARA,ALY,ANX,AQd,ALh];by_cases h8:r.2.1>sure
   ·rw[AJe h8,AJe (.inl h8)];rfl
   rw[AJk h8];by_cases h9:r.2.1>60
   ·rw[AJe h9,AJe (.inr h9)];rfl
   grind
 rw[hT'];clear hT hT'
 generalize (decide (Ab g.2.1<r.1)||((Ab g.2.1==r.1)&&decide (Bt g.2.1<r.2.1)))=B at hta|-
 by_cases h6:g.2.1>=G9 r.1 r.2.1
 ·rw[AM_ h6]at hta
  rw[AJe h6];by_cases h0:g.2.1>0
  ·rw[AJe h0]
   cases B with
   |true=>grind
   |false=>rfl
  simp_all
 ·rw[AJk h6]
  simp_all
theorem AF7{w:AA}{p n:Int}:(answer w p n).1=n:=by
 grind[answer]
theorem td{w:AA}{p:Int}{ns:AAA}:(answers w p ns).map (fun a=>a.1)=ns.filter fun n=>Au w n==0:=by
 unfold answers;rw[AR5]
 conv=>rhs;rw[<-List.map_id (ns.filter fun n=>Au w n==0)]
 grind[List.map_congr_left,AF7]
theorem oB{c:CQ}{g:AN}{s:Int}{r:Ac}{w:AA}{ns:AAA}:
  DH c g s r (answers w (D_ r.1 r.2.1) ns)=DH c g s r (answers w (G9 r.1 r.2.1) ns):=by
 unfold DH;rw[td,td];cases h1:Po c g with
 |false=>rfl
 |true=>
 cases h2:T8 r with
 |false=>rfl
 |true=>
 have hr:=VX.1 h2;have hre:=hr.ep;have hro:=hr.off;have hRn:=(KU.1 h1).n;by_cases h3:r.1<=30/\r.2.1<=60
 ·have:D_ r.1 r.2.1=G9 r.1 r.2.1:=by
   unfold D_;rw[AJe (by rw[ALJ,An,An];omega)]
  rw[this]
 ·by_cases h4:r.1>(g.1.length:Int)
  ·simp_all
  ·have h5:r.2.1>60:=by omega
   simp_all
def pA(q:AA×Int):Kt:=((q.2,()),(((),q.1.2.1,(),(),(),q.1.2.2.2.2.2.1,(),(),(),(),q.1.2.2.2.2.2.2.2.2.2.2.1,()),q.1.1,q.1.2.2.1,q.1.2.2.2.1,q.1.2.2.2.2.1,q.1.2.2.2.2.2.2.1,q.1.2.2.2.2.2.2.2.1,q.1.2.2.2.2.2.2.2.2.1,q.1.2.2.2.2.2.2.2.2.2.1,()))
theorem AKo{k n:Int}(h:n∈BM k):0<=n/\n<=7:=by
 unfold BM at h;simp_all;omega
theorem AAE{k:Int}:(BM k).length<=8:=by
 unfold BM;split
 ·exact APp (AP5 _ _) (by simp)
 ·simp
section
variable{w:AA} (h:RX w) (Zc:lg w)
include h Zc
omit Zc in
theorem ADS{p:Int}{ns:AAA}:∀a∈answers w p ns,Bp a.2.2.1:=fun a ha=>by
 unfold answers at ha;obtain⟨n,hn,rfl⟩:=ARG.1 ha;have hn':Au w n=0:=by have:=(AUl.1 hn).2;rwa [ARL]at this
 unfold answer;split
 ·rename_i e he
  have:=(h.store hn').kept e (AVT he);exact Jp (IC.1 this).pl
 ·exact⟨by show-9223372036854775808<=(0:Int);omega,by show(0:Int)<9223372036854775808;omega⟩
theorem kU{a k:Int}:NU a k w.2.1 w.2.2.2.2.2.1 w.2.2.2.2.2.2.2.2.2.2.1 w.1 w.2.2.1 w.2.2.2.1 w.2.2.2.2.1 w.2.2.2.2.2.2.1 w.2.2.2.2.2.2.2.1 w.2.2.2.2.2.2.2.2.1 w.2.2.2.2.2.2.2.2.2.1=some (pA (L6 w a k)):=by
 have kn:=h.nums;have k1:=kn.c;have k3:=kn.lost;have k4:=kn.st;have lF:=kn.KO;have nG:=kn.lG;have k5:=kn.era;have k6:=kn.ws;have k6':Af Aj w.Bd<=80008:=kn.ws;have k8:=kn.rd;unfold NU N3 L6;rw[AG (by omega) (by omega),show((w.2.2.2.2.2.2.2.2.1.length:Int)-1)=1 by omega,Ax];simp only[AD,Aq];rcases AJd (BE a 0 1)with h1|h1
 rotate_left
 ·rw[h1];rfl
 have h1':=An.1 h1;have hb:0<=a/\a<(w.2.2.2.2.2.2.2.2.1.length:Int):=by omega
 have Ix:a.toNat<w.Ai.length:=by
  simp_all
 have aU:=h.Ai _ (BJ (d:=AR) Ix);rw[h1,F9,ALg,AJe hb,ah];simp only[show w.2.2.2.2.2.2.2.2.1.getD a.toNat (0,0,[],())=w.Ai.getD a.toNat AR from rfl]
 generalize hx:w.Ai.getD a.toNat AR=r at aU|-
 have hre:=aU.ep;have hro:=aU.off;rw[Gw];simp only[AD];have w_:=AAE (k:=k);have hmi:=fun n=>AKo (k:=k) (n:=n)
 rw[<-oB]
 generalize hp:D_ r.1 r.2.1=p
 have Qt:=fun ns=>ADS h (p:=p) (ns:=ns)
 generalize BM k=ms at w_ hmi
 have key:∀(n i:Nat) (b:List BB),i<=ms.length->ms.length-i<n->b.length<=i->b=answers w p (ms.take i)->
   C9 n a p ms.length i w.2.1 w.2.2.2.2.2.1 w.2.2.2.2.2.2.2.2.2.2.1 w.1 w.2.2.1 w.2.2.2.1 w.2.2.2.2.1 w.2.2.2.2.2.2.1 w.2.2.2.2.2.2.2.1 w.2.2.2.2.2.2.2.2.1 w.2.2.2.2.2.2.2.2.2.1 r.1 r.2.1 r.2.2.1 b ms=
    some (pA (if(DH (Ae w) (CT w) (fM w r.1) r (answers w p ms)).2≠0 then(w,5)else(w.C8 (w.Ai.set a.toNat (DH (Ae w) (CT w) (fM w r.1) r (answers w p ms)).1),0))):=by
  intro n
  induction n with
  |zero=>omega
  |succ n ih=>
   intro i b hi hn hb' he;simp only[C9,OG,AB,Aq];by_cases Dc:i<ms.length
   ·have c1:(0:Int)<=(i:Int)/\(i:Int)<(ms.length:Int):=by omega
    have c2:b.length+1<=CN:=by rw[Am];omega
    have ht:ms.take (i+1)=ms.take i++[ms[i]]:=ARB Dc;rw[AJe c1.2,AJe c1,Ah Dc,AG (by omega) (by omega),show((i:Int)+1)=((i+1:Nat):Int)by omega,Fo w,dQ (by omega)];simp only[AD];have hm:=hmi _ (ALk Dc);by_cases hn0:Au w ms[i]=0
    ·obtain⟨n1,n2,n3⟩:=RE hn0
     have n2':ms[i]<(w.2.2.1.length:Int):=n2;have n3':w.2.2.2.1.contains ms[i]=false:=by
      simp_all
     have hs1:(ms[i]).toNat<w.2.2.1.length:=by omega
     have ec:w.2.2.1.getD (ms[i]).toNat ([],[],0,())=storeAt w ms[i]:=rfl;have hsm:Aj (storeAt w ms[i])<=2^30:=APp (AY (f:=Aj) (BJ (d:=Dp) hs1)) (by omega);have AaA:CH (storeAt w ms[i])=true:=Dg.2 (h.store hn0);rw[AJe n2',n3',AKp,AJe ⟨n1,n2'⟩,ec,show((storeAt w ms[i]).1,(storeAt w ms[i]).2.1,(storeAt w ms[i]).2.2.1,())=storeAt w ms[i]from rfl,Vr hsm (h.store hn0).sin];simp only[AD];rw[AJe c2];refine ih (i+1) _ (by omega) (by omega) (by simp_all) ?_
     rw[ht,he];unfold answers;rw[List.filter_append,List.map_append];congr 1;rw[AQ9,AJe (by simp_all),AVt,ARZ,AVZ];congr 1;unfold answer Zw;rw[AJe AaA];cases O0 p (storeAt w ms[i]).1<;>rfl
    ·have n1:=ih (i+1) b (by omega) (by omega) (by omega) (by
      rw[ht,he];unfold answers;rw[List.filter_append,List.map_append,AQ9,AJk (by simp_all),AVt,AVZ,ALu])
     by_cases hl:ms[i]<(w.2.2.1.length:Int)
     ·rw[AJe hl]
      have ASo:w.2.2.2.1.contains ms[i]=true:=by
       cases hc:w.2.2.2.1.contains ms[i]with
       |true=>rfl
       |false=>
        exfalso
        apply hn0;unfold Au;have e1:BE ms[i] 0 ((w.Bd.length:Int)-1)=true:=An.2 (by omega);simp_all
      simp_all
     grind
   ·have e0:ms.take i=ms:=AOe (by omega)
    rw[e0]at he;subst he;have hal:(answers w p ms).length<=8:=by omega
    rw[AJk (by omega),Fo w,sj Zc,Oy r,show(w.1,w.2.1,())=Ae w from rfl,show(w.2.2.2.2.1,w.2.2.2.2.2.1,())=CT w from rfl];simp only[AD];rw[kt (c:=Ae w) (g:=CT w) (by show w.1.length<=_;omega) (by show Af B_ w.2.2.2.2.1<=_;omega) kn.trim (by omega) (Qt ms)];simp only[AD,ADE,Cv];by_cases h2:(DH (Ae w) (CT w) (fM w r.1) r (answers w p ms)).2=0
    ·rw[AJe h2,AJe hb,AJk (fun hh=>hh h2)];rfl
    ·rw[AJk h2,AJe h2];rfl
 grind[AW,Aa,answers]
end
theorem AG8{n:Nat}:Af Aj (List.replicate n Dp)=n:=by
 induction n with
 |zero=>rfl
 |succ n ih=>
  rw[AVs];simp only[Af,ih];have:Aj Dp=0:=rfl;omega
theorem zM{c:CQ}(hl:c.1.length<=2^10):lg (Hz c):=by
 refine⟨?_,fun s hs=> ?_,⟨by show-9223372036854775808<=(0:Int);omega,by show(0:Int)<9223372036854775808;omega⟩,fun m hm=>(by cases hm),fun s hs=>(by cases hs)⟩
 ·grind[CX,Hz,AG8,Af,B_,Ao,CE,Aw,DV,List.length_nil]
 ·have:s=Dp:=ARD (n:=c.1.length) hs
  subst this;exact jU.nil.sin
theorem nz{c:CQ}:DA (Hz c)=EM c:=by
 cases hc:EM c with
 |true=>exact JG.2 (pw hc).1
 |false=>
  rw[ARJ];intro h;have:=(JG.1 h).cfg;have e:Ae (Hz c)=c:=rfl;simp_all
theorem dJ{c:CQ}(hl:c.1.length<=2^10):Du c=some (if EM c then(((((),c.2.1,(),(),(),0,(),(),(),(),false,()),true,()),()),(c.1,List.replicate c.1.length Dp,[],[],[],[],[(1,1,[],()),(1,1,[],())],[],()))else(((((),0,(),(),(),0,(),(),(),(),false,()),false,()),()),([],[],[],[],[],[],[],[],()))):=by
 unfold Du KB;rw[show(c.1,c.2.1,())=c from rfl,SJ (by omega)];simp only[AD];rw[AJe ⟨by omega,by omega,by rw[Am];omega⟩,ALN];have h:=Fp (zM hl);rw[nz]at h;have e:(c.1,c.2.1,List.replicate c.1.length ([],[],0,()),[],[],0,[],[],[(1,1,[],()),(1,1,[],())],[],false,())=Hz c:=rfl;grind
theorem sy{c:CQ}{g:AN}{sure:Int}{r:Ac}{l:List BB}(h0:(DH c g sure r l).2=0):
  (∃e:Ar,(DH c g sure r l).1.2.2.1=r.2.2.1++[e]/\e.2.2.1.length<=40)/\r.2.2.1.length<120:=by
 have hf:∀p,(VI p (I5 (g.1.getD (r.1-1).toNat Hp).1 p none l)).2.2.1.length<=40:=fun p=>by
  cases hb:I5 (g.1.getD (r.1-1).toNat Hp).1 p none l with
  |none=>show 0<=40;omega
  |some x=>
   have:=(IC.1 (pU (b:=none) (fun x hx=>by cases hx) x hb)).len;unfold VI;dsimp only;split
   all_goals simp_all
 revert h0
 unfold DH;dsimp only;split
 ·omega
 rename_i hs;simp only[AMv,AM0,ALJ,VX]at hs;have r3:=hs.2.1.n;split
 ·omega
 rename_i h1;simp only[AQd,ALh,AV2]at h1;have Ix:r.2.2.1.length<120:=by omega
 split
 ·simp_all
 split
 ·simp_all
 split
 ·omega
 split
 all_goals simp_all
theorem RX.AZE{w:AA}(h:RX w)(hr:Af Aw w.Ai<=900000):lg w:=by
 have hc:=(F_ h.cfg).2.1;have gO:w.1.length<=8:=hc;have a1:=HO (f:=Aj) (B:=10000) (N:=8) (l:=w.Bd) (by rw[h.vY];omega) fun s hs=>(h.Wa hs).w
 have a2:=H_ h.lost;have a3:=h.rH.w;have a4:=HO (f:=Ao) (B:=3000) h.we fun x hx=>(h.AL x hx).1.w
 have a5:=HO (f:=CE) (B:=5000) h.nmd fun x hx=>(h.CY x hx).1.w
 have a7:=HO (f:=DV) (B:=40) h.Ui fun s hs=>(h.CI s hs).2.2
 refine⟨?_,fun s hs=>(h.Wa hs).sin,h.rH.tin,fun m hm=>(h.CY m hm).1.ein,fun s hs=>Jp (h.CI s hs).1⟩;have a3':Af B_ w.BF<=270:=a3;grind[Af,Aw,Aj,B_,Ao,CE,DV,CX]
def AFu(w:AA)(a:Int):Nat:=(w.Ai.getD a.toNat AR).2.2.1.length
theorem xP{α:Type}{f:α->Nat}{x:α}:∀{l:List α} {i:Nat} (h:i<l.length),Af f (l.set i x)+f l[i]=Af f l+f x
 |y::l,0,_=>by simp[Af];omega
 |y::l,i+1,h=>by
  have:=xP (f:=f) (x:=x) (l:=l) (i:=i) (by simp_all);grind[Af]
theorem xp{α:Type}{f:α->Nat}{x:α}:∀{l:List α},Af f (l++[x])=Af f l+(1+f x)
 |[]=>by simp[Af]
 |y::l=>by
  have:=xp (f:=f) (x:=x) (l:=l);grind[Af]
theorem ABQ{w:AA}{a k:Int}(h:RX w)(e:(L6 w a k).2=0):BE a 0 1=true/\RX (L6 w a k).1/\AFu (L6 w a k).1 a=AFu w a+1/\AFu w a<120/\
  AFu (L6 w a k).1 (1-a)=AFu w (1-a)/\Af Aw (L6 w a k).1.Ai<=Af Aw w.Ai+41:=by
 have DG:=AEI h e;unfold L6 at e DG|-;split at e
 ·omega
 rename_i h1;rw[AJk h1]at DG;rw[AJk h1];dsimp only at e DG|-;split at e
 ·omega
 rename_i h2;rw[AJk h2]at DG;rw[AJk h2];simp only[ne_eq,AUm]at h2;simp only[AMv,AM0]at h1;have h1':=An.1 h1;have hl:a.toNat<w.Ai.length:=by rw[h.tO];omega
 obtain⟨⟨ev,q1,q2⟩,q3⟩:=sy h2
 generalize hq:(DH (Ae w) (CT w) (fM w (w.Ai.getD a.toNat AR).1) (w.Ai.getD a.toNat AR) (answers w (G9 (w.Ai.getD a.toNat AR).1 (w.Ai.getD a.toNat AR).2.1) (BM k))).1=q at q1 DG
 have hg:(w.Ai.set a.toNat q).getD a.toNat AR=q:=by simp_all
 have aO:(1-a).toNat≠a.toNat:=by omega
 refine⟨h1,DG,?_,q3,?_,?_⟩
 ·show((w.Ai.set a.toNat q).getD a.toNat AR).2.2.1.length=_
  grind[AFu]
 ·show((w.Ai.set a.toNat q).getD (1-a).toNat AR).2.2.1.length=_
  simp only[List.getD,AOK (Ne.symm aO)];rfl
 ·show Af Aw (w.Ai.set a.toNat q)<=_
  have:=xP (f:=Aw) (x:=q) hl;have e1:Aw q=Af B4 q.2.2.1:=rfl;have e2:Aw w.Ai[a.toNat]=Af B4 w.Ai[a.toNat].2.2.1:=rfl;rw[q1,xp,Uc hl]at e1;have e3:B4 ev=ev.2.2.1.length:=rfl;omega
theorem mb{α:Type}{q:Nat}{v l:List α}(hq:q<=l.length)(hl:l.length+v.length<=2^30):ABA (q:Int) v l=some (l.take q++v++l.drop q):=by
 unfold ABA;rw[AJe ⟨by omega,by omega,by rw[Am];omega⟩,ALN]
theorem ABb{l:AAA}(ha:XT id l)(hl:l.length<=2^30)(p:Int):∃q,my id p l q/\
  GP l p=some ((((q:Int),(match l[q]? with|some e=>e==p|none=>false),()),()),()):=by
 have key:∀(n a b:Nat),a<=b->b<=l.length->b-a<n->(∀(i:Nat) (h:i<l.length),i<a->l[i]<p)->(∀(i:Nat) (h:i<l.length),b<=i->p<=l[i])->
   ∃q,my id p l q/\Ds n l p l.length a b=some ((((q:Int),(match l[q]? with|some e=>e==p|none=>false),()),()),()):=by
  intro n
  induction n with
  |zero=>omega
  |succ n ih=>
   intro a b v7 hb hn h1 h2;simp only[Ds,KP,AB,cmp_Less_int,cmp_isNaN_int,QI,bne_self_eq_false,AD,AKp];by_cases Ix:a<b
   ·have hm:(a+b)/2<l.length:=by omega
    rw[AJe (by omega),yJ (by omega),AJe (by omega),Ah hm];by_cases hc:l[(a+b)/2]<p
    ·rw[AJe hc,AG (by omega) (by omega),show((((a+b)/2:Nat):Int)+1)=(((a+b)/2+1:Nat):Int)by omega]
     refine ih _ b (by omega) hb (by omega) (fun i h hi=> ?_) h2;have:=eQ (f:=id) ha h hm (by omega);grind
    ·have hge:∀(i:Nat) (h:i<l.length),(a+b)/2<=i->p<=l[i]:=fun i h hi=>by
      have:=eQ (f:=id) ha hm h hi;grind
     rw[AJk hc];exact ih a _ (by omega) (by omega) (by omega) h1 hge
   ·have AIv:a=b:=by omega
    subst AIv;refine⟨a,⟨hb,h1,h2⟩,?_⟩;rw[AJk (by omega)];by_cases ha':a<l.length
    ·rw[AJe (by omega),AJe (by omega),Ah ha',AKT ha']
     dsimp only;cases l[a]==p<;>simp[ha']
    grind
 obtain⟨q,hq,e⟩:=key AW 0 l.length (by omega) (by omega) (Aa (by omega)) (fun i h hi=>by omega) (fun i h hi=>by omega);refine⟨q,hq,?_⟩;unfold GP KQ;omega
theorem sN{x:Int}:∀{l:AAA} {q:Nat},my id x l q->(∀h:q<l.length,l[q]≠x)->kp x l=l.take q++[x]++l.drop q
 |[],q,h,_=>by
  have:=h.le;have:q=0:=by simp_all
  subst this;rfl
 |y::l,0,h,hn=>by
  have h1:=h.ge 0 (by simp) (AMN _);have h2:=hn (by simp);simp only[ARy,id]at h1 h2;simp only[kp];grind
 |y::l,q+1,h,hn=>by
  have h1:=h.lt 0 (by simp) (by omega);simp only[ARy,id]at h1;simp only[kp];rw[AJk (by omega),sN (l:=l) (q:=q) ⟨by have:=h.le;simp_all,fun i hi hiq=>by have:=h.lt (i+1) (by simp_all) (by omega);simp_all,fun i hi hiq=>by have:=h.ge (i+1) (by simp_all) (by omega);simp_all⟩ (fun hq=>by simp_all)];rfl
theorem QT{l:AAA}{x:Int}(ha:XT id l)(hl:l.length<=2^29):K_ l x=some (((),()),(Ox x l,())):=by
 unfold K_ Ox;rw[Dt (by omega)];simp only[AD];obtain⟨q,hq,e⟩:=ABb ha (by omega) x;rw[e];simp only[AD,Aq];by_cases hc:q<l.length
 ·rw[AKT hc]
  dsimp only;by_cases he:l[q]=x
  ·grind
  ·rw[ALr.2 he,AKp]
   have hn:l.contains x=false:=by
    rw[ARJ,ne_eq,ARY];intro hm;obtain⟨i,hi,rfl⟩:=AQA hm;rcases Nat.lt_or_ge i q with hiq|hiq
    ·have:=hq.lt i hi hiq;simp_all
    ·have h1:=eQ (f:=id) ha hc hi hiq
     have h2:=hq.ge q hc (AMN _);grind
   rw[hn,AJk (by simp)];grind[KJ,mb,sN]
 ·rw[ASU (by omega)]
  dsimp only;rw[AKp];have hn:l.contains x=false:=by
   rw[ARJ,ne_eq,ARY];intro hm;obtain⟨i,hi,rfl⟩:=AQA hm;have:=hq.lt i hi (by omega);simp_all
  rw[hn,AJk (by simp)];unfold KJ;rw[mb hq.le (by grind),sN hq (fun h=>absurd h hc)];rfl
theorem ABr{e:AJ}:∀{l:List AJ} {q:Nat},my (fun x:AJ=>x.1) e.1 l q->jQ l->
  keep e l=if h:q<l.length then(if l[q].1=e.1 then l.set q (better l[q] e)else l.take q++[e]++l.drop q)else l++[e]
 |[],q,h,_=>by
  rfl
 |y::l,0,h,_=>by
  have h1:=h.ge 0 (by simp) (AMN _);simp only[ARy]at h1;simp only[keep,AMK,Nat.zero_lt_succ,AVk,ARy];grind
 |y::l,q+1,h,ha=>by
  have h1:=h.lt 0 (by simp) (by omega);simp only[ARy]at h1;have ih:=ABr (e:=e) (l:=l) (q:=q) ⟨by have:=h.le;simp_all,fun i hi hiq=>by have:=h.lt (i+1) (by simp_all) (by omega);simp_all,fun i hi hiq=>by have:=h.ge (i+1) (by simp_all) (by omega);simp_all⟩ (APd.1 ha).2;simp only[keep];grind
theorem fF{e:AJ}{l:List AJ}(ha:jQ l)(hl:l.length<=2^29):Yy e l=some (((),()),((),keep e l,())):=by
 unfold Yy;obtain⟨q,hq,hs⟩:=iF ha (by omega) e.1;rw[hs,ABr hq ha];simp only[AD,Aq];by_cases hc:q<l.length
 ·rw[dif_pos hc,AKT hc]
  dsimp only;have hb:(0:Int)<=(q:Int)/\(q:Int)<(l.length:Int):=by omega
  by_cases he:l[q].1=e.1
  ·rw[ARL.2 he,ALg,AJe he,AJe hb,Ah hc,gS (l[q]),gS e,Zg]
   simp_all
  ·rw[ALr.2 he,AKp,AJk he]
   grind[Dv,mb]
 ·have hql:q=l.length:=by have:=hq.le;omega
  rw[dif_neg hc,ASU (by omega)];dsimp only;rw[AKp];grind[Dv,mb,List.take_length,List.drop_length]
theorem Mx{s:AM}(hw:Aj s<=2^30)(hs:vf s):Dj s=some (if CH s then((((),(),s.2.2.1,()),()),(s.1,s.2.1,()))else((((),(),0,()),()),([],[],()))):=by
 obtain⟨l1,l2⟩:=GA hw;unfold Dj;rw[Oy s,Ez hw hs,IP l1 l2];grind
theorem o9{s:AM}{e:AJ}(hw:Aj s<=2^30)(hs:vf s)(he:Bp e.1):WD s e=some (qX (K0 s e)):=by
 obtain⟨l1,l2⟩:=GA hw;unfold WD K0;rw[Oy s,gS e,Ez hw hs,Mx hw hs,IP l1 l2,RV he,Dl he];simp only[AD,Aq,AB,DL];cases h1:CH s with
 |false=>rfl
 |true=>
  have DG:=Dg.1 h1;have hnl:=DG.nl;cases h2:Fq e with
  |false=>rfl
  |true=>
   have hE:=(IC.1 h2).w0;simp only[ALg,ALl,ALR,ALY,ANX,AQY];have lim:s.2.1.length+1<=CN:=by rw[Am];omega
   by_cases h3:s.2.1.length=20
   ·rw[AJe (by omega),AQK (fun h=>h h3),AVW]
    rfl
   ·rw[AJk (by omega),AM_ (show s.2.1.length≠20 from h3),AQ5]
    unfold takes;by_cases h4:e.2.1=0
    ·rw[AJe h4,AJe h4]
     by_cases h5:Ab e.1<=s.2.2.1
     ·rw[AJe h5,AQK (by omega)];rfl
     ·rw[AJk h5,AJk (by omega),AJe lim,AM_ (by omega)];rfl
    ·rw[AJk h4,AJk h4,AJe (by omega)]
     by_cases h5:e.2.1<=s.2.2.1
     ·rw[AJe h5,AQK (by omega)];rfl
     ·rw[AJk h5,AJe lim,AM_ (by omega)];rfl
theorem Z8{s:AM}{k:Int}(hw:Aj s<=2^30)(hs:vf s):NP s k=some (qX (GB s k)):=by
 obtain⟨l1,l2⟩:=GA hw;unfold NP VB GB;rw[Oy s,Ez hw hs,Mx hw hs,IP l1 l2,Ax];simp only[AD,Aq];cases h1:CH s with
 |false=>rfl
 |true=>
  have DG:=Dg.1 h1;have hnl:=DG.nl;have hnk:=DG.nk;simp only[ALg,ALR,ALY,ANX,AQY];cases h2:BE k 0 1048575 with
  |false=>rfl
  |true=>
   have hk:=An.1 h2;have AYt:0<=k/\k<2^63:=by omega
   simp only[ALg,ALl];have key:∀(n i:Nat) (b:List AJ),i<=s.2.1.length->s.2.1.length-i<n->b.length<=200+i->jQ b->
     J_ n k s.2.1 s.2.1.length i s.1 s.2.1 s.2.2.1 0 [] [] s.2.2.1 b []=
      some (qX (if decide ((EF b (NN k i (s.2.1.drop i))).length<=200)then((EF b (NN k i (s.2.1.drop i)),[],s.2.2.1,()),true)else(s,false))):=by
    intro n
    induction n with
    |zero=>omega
    |succ n ih=>
     intro i b hi hn hb v7;simp only[J_,Un,AB];by_cases hc:i<s.2.1.length
     ·have AFv:=yc AYt (i:=i) (by omega)
      rw[AJe (by omega),AJe (by omega),AJk (by omega),ALN,AFv,AB,Uc hc,AG (by omega) (by omega),show((i:Int)+1)=((i+1:Nat):Int)by omega,drop_cons hc];rw[gS (s.2.1[i]),fF v7 (by omega)];simp only[AD];rw[show NN k i (s.2.1[i]::s.2.1.drop (i+1))=if(k/2^i)%2=1 then s.2.1[i]::NN k (i+1) (s.2.1.drop (i+1))else NN k (i+1) (s.2.1.drop (i+1))from rfl];by_cases hbt:(k/2^i)%2=1
      ·rw[AJe hbt,AJe hbt,ih (i+1) _ (by omega) (by omega) (by grind[Zo]) (hI v7)]
       rfl
      ·rw[AJk hbt,AJk hbt,ih (i+1) _ (by omega) (by omega) (by omega) v7]
     ·rw[AJk (by omega),ALm (by omega),Oy s,IP l1 l2]
      simp only[AD,NN,EF];by_cases hg:b.length<=200
      ·rw[AJk (by omega),AJe (AM_ hg)];rfl
      ·rw[AJe (by omega),AJk (by simp_all)];rfl
   have:=key AW 0 s.1 (by omega) (Aa (by omega)) (by omega) DG.asc;simp_all
theorem bE{s:AM}(hw:Aj s<=2^30)(hs:vf s):Pz s=some (qX (Cw s)):=by
 unfold Pz Cw;rw[Oy s,Z8 hw hs];rfl
theorem lr{s:AM}{u:Int}(hw:Aj s<=2^30)(hs:vf s):Pr s u=some (qX (B5 s u)):=by
 unfold Pr B5;rw[Oy s,bE hw hs,Mx hw hs,Ax];simp only[AD,Aq,qX];cases h1:CH s with
 |false=>
  grind[Cw,GB]
 |true=>
  grind
theorem oq{s:AM}{ep:Int}(hw:Aj s<=2^30)(hs:vf s):Q1 s ep=some (((),()),(Js s ep,())):=by
 obtain⟨l1,l2⟩:=GA hw;unfold Q1 YB Js;rw[Oy s,Ez hw hs];simp only[AD,Aq];cases h1:CH s with
 |false=>rfl
 |true=>
  have key:∀(n i:Nat) (b:List AJ),i<=s.1.length->s.1.length-i<n->b.length<=i->
    Lm n ep s.1 s.1.length i b=some (((),()),(b++(s.1.drop i).filter (fun e=>Ab e.1==ep),())):=by
   intro n
   induction n with
   |zero=>omega
   |succ n ih=>
    intro i b hi hn hb;simp only[Lm,YE,AB];by_cases hc:i<s.1.length
    ·rw[AJe (by omega),AJe (by omega),Ah hc,Dl (hs.1 _ (ALk hc)),AG (by omega) (by omega),show((i:Int)+1)=((i+1:Nat):Int)by omega,drop_cons hc,AQ9]
     simp only[AD];rw[AJe (by rw[Am];omega),gS (s.1[i]),ih (i+1) _ (by omega) (by omega) (by simp_all),ih (i+1) b (by omega) (by omega) (by omega)];grind
    grind
  have:=key AW 0 [] (by omega) (Aa (by omega)) (by simp);simp_all
theorem ABo{x:AJ}{t:AB2}:P_ (x.1,x.2.1,x.2.2.1,x.2.2.2.1,()) t=some ((decide (x.1<=t.1),()),()):=rfl
theorem iZ{t:AEn}{l:List AJ}(hl:l.length<=2^30):B3 t l=some (((),()),((),l.filter (fun x=> !(decide (x.1<=t.1.1))),())):=by
 have key:∀(n i j:Nat) (b:List AJ),i<=j->j<=b.length->b.length<=2^30->b.length-j<n->BK n t i j b=some (((),()),((),b.take i++(b.drop j).filter (fun x=> !(decide (x.1<=t.1.1))),())):=by
  intro n
  induction n with
  |zero=>omega
  |succ n ih=>
   intro i j b hij hj hb hn;simp only[BK,DP,AB];by_cases hc:j<b.length
   ·rw[AJe (by omega),AJe (by omega),Ah hc,ABo]
    simp only[AD];rw[AG (x:=(j:Int)+1) (by omega) (by omega),AG (x:=(i:Int)+1) (by omega) (by omega),show((j:Int)+1)=((j+1:Nat):Int)by omega,show((i:Int)+1)=((i+1:Nat):Int)by omega,drop_cons hc,AQ9];have n1:=ih (i+1) (j+1) (b.set i b[j]) (by omega) (by grind) (by simp_all) (by grind);have n2:=ih i (j+1) b (by omega) (by omega) hb (by omega);rw[show(t.1,())=t from rfl,n2];rw[AVu (by omega),ARB (by grind),AVv (AMN _),AVp,AL3,ARR]at n1;rw[AJe (by omega),ALN,n1]
    generalize hx:b[j]=x
    cases(decide (x.1<=t.1.1))<;>rfl
   ·rw[AJk (by omega),ALm (i:=j) (by omega),ALN,ALN]
    simp_all;omega
 have fnd:∀(n i:Nat),i<=l.length->l.length-i<n-> ∃r:Int,BS n l t l.length i=some ((r,()),())/\((r= -1/\(l.drop i).filter (fun x=> !(decide (x.1<=t.1.1)))=l.drop i)\/ ∃q:Nat,r=q/\i<=q/\q<l.length/\((l.take q).drop i).filter (fun x=> !(decide (x.1<=t.1.1)))=(l.take q).drop i/\ ∀(h:q<l.length) x,x=l[q]->(decide (x.1<=t.1.1))=true):=by
  intro n
  induction n with
  |zero=>omega
  |succ n ih=>
   intro i hi hn;simp only[BS,DW,AB];by_cases hc:i<l.length
   ·rw[AJe (by omega),AJe (by omega),Ah hc,ABo]
    simp only[AD];rw[AG (x:=(i:Int)+1) (by omega) (by omega),show((i:Int)+1)=((i+1:Nat):Int)by omega,show(t.1,())=t from rfl];obtain⟨r,e,hr⟩:=ih (i+1) (by omega) (by omega);rw[e]
    generalize hx:l[i]=x
    cases hp:(decide (x.1<=t.1.1))with
    |true=>
     grind
    |false=>
     refine⟨r,rfl,?_⟩;rcases hr with⟨h1,h2⟩|⟨q,h1,h2,h3,h4,h5⟩
     ·grind[drop_cons]
     ·refine .inr ⟨q,h1,by omega,h3,?_,h5⟩
      grind[drop_cons]
   grind
 obtain⟨r,e,hr⟩:=fnd AW 0 (by omega) (Aa (by omega));rw[show((0:Nat):Int)=0 from rfl]at e;unfold B3 DJ Ck DU;rw[show(t.1,())=t from rfl,e];simp only[AD];rcases hr with⟨h1,h2⟩|⟨q,h1,h2,h3,h4,h5⟩
 ·grind
 ·rw[h1,ALr.2 (by omega),AKp,AG (by omega) (by omega),show((q:Int)+1)=((q+1:Nat):Int)by omega,key AW q (q+1) l (by omega) (by omega) hl (Aa (by omega))]
  rw[AP7]at h4;have hd:=h5 h3 _ rfl;grind[List.take_append_drop,drop_cons]
theorem lS{s:AM}{u:Int}(hw:Aj s<=2^30)(hs:vf s)(hu:Bp u):UU s u=some (qX (JQ s u)):=by
 obtain⟨l1,l2⟩:=GA hw;unfold UU JQ;rw[Oy s,Ez hw hs,Mx hw hs,IP l1 l2,Il hu];simp only[AD];cases CH s with
 |false=>rfl
 |true=>
  cases Av u with
  |false=>rfl
  |true=>
   rw[iZ l1];simp only[AD,ALR,AKp,ALY,ANX,AQY];rw[show(fun x:AJ=> !decide (x.1<=(((u,()),()):AEn).1.1))=fun e=>decide (e.1>u)from funext fun x=>by
    grind]
   rfl
theorem ADd{p:Int}{n:Nat}:BE (Ab p) 1 n=(Av p&&decide (Ab p<=n)):=by
 cases h:Av p with
 |false=>
  unfold Ab;rw[h];rfl
 |true=>
  obtain⟨⟨h1,h2⟩,_⟩:=GM h;unfold BE;simp_all
section
variable{c:CQ} {r:AN} (hc:c.1.length<=2^40) (hl:Af B_ r.1<=2^30) (ht:Bp r.2.1)
include hc hl ht
theorem VF:EL c r=some (if Po c r then((((),r.2.1,()),()),(r.1,()))else((((),0,()),()),([],()))):=by
 unfold EL;rw[show(c.1,c.2.1,())=c from rfl,show(r.1,r.2.1,())=r from rfl,Nl hc hl ht,H4 hl];grind
theorem rG{ns:AAA}(hn:ns.length<=2^30):Mj c r ns=some (((((),(JA c r ns).1.2.1,()),(JA c r ns).2.1,(JA c r ns).2.2,()),()),((JA c r ns).1.1,())):=by
 have l1:=AX (f:=B_) (l:=r.1);unfold Mj JA;rw[show(c.1,c.2.1,())=c from rfl,show(r.1,r.2.1,())=r from rfl,Nl hc hl ht,VF hc hl ht,H4 hl,Gc hc (by omega),Dt hn];simp only[AD];cases Po c r with
 |false=>rfl
 |true=>
  cases holds c ns with
  |false=>rfl
  |true=>
   simp only[ALR,AKp,ALY,ANX,ALl,AQY];by_cases h30:r.1.length=30
   ·simp_all
   ·rw[show((r.1.length:Int)==30)=false by grind,show decide (r.1.length≠30)=true by simp[h30],AKp,AJe (by rw[Am];omega)]
    simp
theorem nt{b last:Int}:Qw c r b last=some (pkR (Pt c r b last)):=by
 have l1:=AX (f:=B_) (l:=r.1);unfold Qw Pt;rw[show(c.1,c.2.1,())=c from rfl,show(r.1,r.2.1,())=r from rfl,Nl hc hl ht,VF hc hl ht,H4 hl,Uh (by omega)];simp only[AD];rcases AJd (Po c r)with hr|hr
 rotate_left
 ·rw[hr];rfl
 have DG:=KU.1 hr;rw[hr];simp only[ALR,AKp,ALY,ANX,AQY];by_cases h1:b=r.1.length
 rotate_left
 ·rw[show(b !=(r.1.length:Int))=true by simp_all,show decide (b=(r.1.length:Int))=false by simp_all]
  rfl
 rw[show(b !=(r.1.length:Int))=false by simp_all,show decide (b=(r.1.length:Int))=true by simp_all];simp only[AKp,ALl];by_cases h3:b=BR r.1
 ·rw[show(BR r.1==b)=true by simp_all,show decide (b≠BR r.1)=false by simp_all,ARA,AVW]
  rfl
 have AGJ:0<r.1.length:=by
  rcases AVf r.1.length with hz|hz
  ·exact absurd (by rw[h1,hz];unfold BR;rw[hz];rfl) h3
  omega
 obtain⟨k,k1,k2,k3,k4⟩:=S_ DG AGJ;rw[show(BR r.1==b)=false by grind,show decide (b≠BR r.1)=true by simp_all,show decide (BR r.1≠0)=true by grind,Ax];simp only[AKp,ALl,AD];cases BE last 0 60 with
 |false=>rfl
 |true=>
  simp only[ALR,AKp,AQY];rw[k2,AG (by omega) (by omega),show((k:Int)+1-1)=(k:Int)by omega,AJe (by omega),AJe (by simp_all),ALN];unfold pkR Pv;simp_all
theorem rW{p:Int}(hp:Bp p):YS c r p=some (pkR (QG c r p)):=by
 unfold YS QG;rw[show(c.1,c.2.1,())=c from rfl,show(r.1,r.2.1,())=r from rfl,Nl hc hl ht,VF hc hl ht,H4 hl,Dl hp];simp only[AD];rw[Ax,ADd];simp only[AD];cases Po c r with
 |false=>rfl
 |true=>
  cases Av p&&decide (Ab p<=(r.1.length:Int))with
  |false=>rfl
  |true=>
   simp only[ALR,AKp,ALY,ANX,AQY];rw[show(if p>r.2.1 then p else r.2.1)=max r.2.1 p by omega];rfl
end
section
variable{c:CQ} {w:AU} (hc:c.1.length<=2^40) (hl:Af BG w.2.1<=2^20)
include hc hl
theorem Xv:EH c w=some (if Fe c w then(((w.1,(),()),()),(w.2.1,()))else(((0,(),()),()),([],()))):=by
 unfold EH;rw[show(c.1,c.2.1,())=c from rfl,show(w.1,w.2.1,())=w from rfl,Jh hc (by omega),Jy (by show Af BG w.2.1<=2^30;omega)];grind
theorem mK{d:ABF}(hd:d.length<=2^20):J2 c w d=some (((((CR c w d).1.1,(),()),(CR c w d).2.1,(CR c w d).2.2,()),()),((CR c w d).1.2.1,())):=by
 have l1:=AX (f:=BG) (l:=w.2.1);unfold J2 CR;rw[show(c.1,c.2.1,())=c from rfl,show(w.1,w.2.1,())=w from rfl,Jy (by show Af BG w.2.1<=2^30;omega),Xv hc hl];simp only[AD];rw[AJe (by rw[Am];omega),Jh hc (by omega),Jh hc (by
  grind[Af,BG,bU,List.length_nil])]
 grind
theorem l9{o n:Int}:UY c w o n=some (pkW (Sw c w o n)):=by
 have l1:=AX (f:=BG) (l:=w.2.1);unfold UY Sw;rw[show(c.1,c.2.1,())=c from rfl,show(w.1,w.2.1,())=w from rfl,Jh hc (by omega),Xv hc hl,Jy (by show Af BG w.2.1<=2^30;omega),Ax,Ax];simp only[AD];rcases AJd (Fe c w)with hw|hw
 rotate_left
 ·rw[hw];rfl
 have DG:=Ho.1 hw;have ACv:=F_ DG.cfg;rw[hw,AG (x:=(c.1.length:Int)-1) (by omega) (by omega)];simp only[ALR,AKp,ALY,ANX,AQY];rcases AJd (BE o 1 (w.2.1.length:Int))with ho|ho
 rotate_left
 ·rw[ho];rfl
 have ho':=An.1 ho;rw[ho];have hi:(o-1).toNat<w.2.1.length:=by omega
 have ACw:w.2.1.getD (o-1).toNat Mg∈w.2.1:=BJ (d:=Mg) hi;have hm:(w.2.1.getD (o-1).toNat Mg).1.length+(w.2.1.getD (o-1).toNat Mg).2.1.length<=Af BG w.2.1:=AY (f:=BG) ACw;have ACm:=(Eo.1 (DG.words _ ACw).2.1).2.2;simp only[ALR,AKp,ALl];rw[AG (x:=o-1) (by omega) (by omega),AJe (by omega)]
 show cond (w.2.1.getD (o-1).toNat Mg).2.2.1 _ _=_
 cases(w.2.1.getD (o-1).toNat Mg).2.2.1 with
 |true=>
  cases BE n 0 ((c.1.length:Int)-1)<;>rfl
 |false=>
  cases BE n 0 ((c.1.length:Int)-1)with
  |false=>rfl
  |true=>
   simp only[AKp,AOP,AQY,ALR,Bool.and_self];rw[AJe (by omega),show(w.2.1.getD (o-1).toNat ([],[],false,())).2.1=(w.2.1.getD (o-1).toNat Mg).2.1 from rfl,QT ACm (by omega)];simp only[AD];have hg:∀x:BH,(w.2.1.set (o-1).toNat x).getD (o-1).toNat ([],[],false,())=x:=fun x=>Nu hi
   rw[hg,Gc hc (by
    grind[Wg,Mg])]
   simp only[AD];rw[AVj];rfl
theorem iW{n:Int}:Oe c w n=some (pkW (CC c w n)):=by
 have l1:=AX (f:=BG) (l:=w.2.1);unfold Oe Sk CC;rw[show(c.1,c.2.1,())=c from rfl,show(w.1,w.2.1,())=w from rfl,Jh hc (by omega),Jy (by show Af BG w.2.1<=2^30;omega)];simp only[AD];cases Fe c w with
 |false=>rfl
 |true=>
  simp only[ALR,AKp,ALY,ANX];have key:∀(k i:Nat),i<=w.2.1.length->w.2.1.length-i<k->Hu k n w.2.1 w.2.1.length i 0 [] w.1 ((w.2.1.map (Et n)).take i++w.2.1.drop i)=some (pkW ((w.1,w.2.1.map (Et n),()),true)):=by
   intro k
   induction k with
   |zero=>omega
   |succ k ih=>
    intro i hi hk;have hlen:((w.2.1.map (Et n)).take i++w.2.1.drop i).length=w.2.1.length:=QU hi;simp only[Hu,S4,AB,hlen];by_cases Dc:i<w.2.1.length
    ·have c1:(0:Int)<=(i:Int)/\(i:Int)<(w.2.1.length:Int):=by omega
     have hm:w.2.1[i].1.length+w.2.1[i].2.1.length<=Af BG w.2.1:=AY (f:=BG) (ALk Dc);have hg:((w.2.1.map (Et n)).take i++w.2.1.drop i).getD ((i:Int).toNat) ([],[],false,())=w.2.1[i]:=Na Dc;rw[AJe c1.2];simp only[AJe c1,hg];rw[Ah Dc,AG (by omega) (by omega),show((i:Int)+1)=((i+1:Nat):Int)by omega];rcases AJd (w.2.1[i].2.2.1)with hd|hd
     ·rw[hd]
      simp only[ALR,AKp];grind[l3,qS]
     ·rw[hd]
      simp only[AOP,ALg];rw[Qo (by omega)];grind[AD,Int.toNat_natCast,Re,Et]
    ·rw[AJk (by omega),ALm (by omega)]
     have:i=w.2.1.length:=by omega
     subst this;rw[ALu,AOe (by simp)];rfl
  have:=key AW 0 (by omega) (Aa (by omega));simp_all
end
section
variable{c:CQ} {m:Az} (hc:c.1.length<=2^40) (hm:CE m<=2^20) (h:vv m.2.2.2.1)
include hc hm h
theorem UR:Em c m=some (if HE c m then(((m.1,m.2.1,(),(),m.2.2.2.2.1,(),()),()),(m.2.2.1,m.2.2.2.1,m.2.2.2.2.2.1,()))else(((0,0,(),(),false,(),()),()),([],[],[],()))):=by
 unfold Em;rw[show(c.1,c.2.1,())=c from rfl,W8 m,IA hc (by omega) h,Hc (by omega)];grind
theorem rl{o n:Int}:QZ c m o n=some (mc (bP c m o n)):=by
 obtain⟨h1,h2,h3,h4⟩:=JY hm;unfold QZ bP;rw[show(c.1,c.2.1,())=c from rfl,W8 m,IA hc (by omega) h,UR hc hm h,Hc (by omega),Ax,Ax];simp only[AD];rcases AJd (HE c m)with hw|hw
 rotate_left
 ·rw[hw];rfl
 have DG:=He.1 hw;have ACv:=F_ DG.cfg;rw[hw,AG (x:=(c.1.length:Int)-1) (by omega) (by omega)];simp only[ALR,AKp,ALY,ANX,AQY];rcases AJd (BE o 1 (m.2.2.2.2.2.1.length:Int))with ho|ho
 rotate_left
 ·rw[ho];rfl
 have ho':=An.1 ho;rw[ho];cases BE n 0 ((c.1.length:Int)-1)with
 |false=>rfl
 |true=>
  have hi:(o-1).toNat<m.2.2.2.2.2.1.length:=by omega
  have ACw:=BJ (d:=([]:AAA)) hi;have hq:=h4 _ ACw;have ACm:=(Eo.1 (DG.wrote _ ACw)).2.2;simp only[ALR,AKp,ALl,AQY];rw[AG (by omega) (by omega),AJe (by omega),QT ACm (by omega)];simp only[AD];rw[AJe (by omega)];rfl
theorem kG{n:Int}:RQ c m n=some (mc (CK c m n)):=by
 obtain⟨h1,h2,h3,h4⟩:=JY hm;unfold RQ U6 CK;rw[show(c.1,c.2.1,())=c from rfl,W8 m,IA hc (by omega) h,Hc (by omega)];simp only[AD];cases HE c m with
 |false=>rfl
 |true=>
  simp only[ALR,AKp,ALY,ANX];have key:∀(k i:Nat),i<=m.2.2.2.2.2.1.length->m.2.2.2.2.2.1.length-i<k->Jx k n m.2.2.2.2.2.1 m.2.2.2.2.2.1.length i 0 0 false [] [] [] m.1 m.2.1 m.2.2.2.2.1 m.2.2.1 m.2.2.2.1 ((m.2.2.2.2.2.1.map (fun l=>less l [n])).take i++m.2.2.2.2.2.1.drop i)=
    some (mc ((m.1,m.2.1,m.2.2.1,m.2.2.2.1,m.2.2.2.2.1,m.2.2.2.2.2.1.map (fun l=>less l [n]),()),true)):=by
   intro k
   induction k with
   |zero=>omega
   |succ k ih=>
    intro i hi hk;have hlen:=QU (f:=fun l=>less l [n]) hi;simp only[Jx,Uq,AB,hlen];by_cases Dc:i<m.2.2.2.2.2.1.length
    ·have c1:(0:Int)<=(i:Int)/\(i:Int)<(m.2.2.2.2.2.1.length:Int):=by omega
     have hq:=h4 _ (ALk Dc);rw[AJe c1.2];simp only[AJe c1];rw[Ah Dc,AG (by omega) (by omega),show((i:Int)+1)=((i+1:Nat):Int)by omega,Qo (by omega)];simp only[AD];rw[ALN,Re Dc rfl];grind
    ·rw[AJk (by omega),ALm (by omega)]
     have:i=m.2.2.2.2.2.1.length:=by omega
     subst this;rw[ALu,AOe (by simp)];rfl
  have:=key AW 0 (by omega) (Aa (by omega));simp_all
theorem mZ:PH c m=some ((VU c m,()),()):=by
 obtain⟨h1,h2,h3,h4⟩:=JY hm;unfold PH XM VU;rw[show(c.1,c.2.1,())=c from rfl,W8 m,IA hc (by omega) h];simp only[AD];cases HE c m with
 |false=>rfl
 |true=>
  rcases AJd m.2.2.2.2.1 with hp|hp
  rotate_left
  ·simp_all
  have key:∀(k i:Nat),i<=m.2.2.2.2.2.1.length->m.2.2.2.2.2.1.length-i<k->Kq k m.2.2.2.2.2.1 m.2.2.2.2.2.1.length i c.1 c.2.1=some (((m.2.2.2.2.2.1.drop i).all (holds c),()),()):=by
   intro k
   induction k with
   |zero=>omega
   |succ k ih=>
    intro i hi hk;simp only[Kq,XJ,AB];by_cases Dc:i<m.2.2.2.2.2.1.length
    ·have c1:(0:Int)<=(i:Int)/\(i:Int)<(m.2.2.2.2.2.1.length:Int):=by omega
     have hq:=h4 _ (ALk Dc);rw[AJe c1.2,AJe c1,AG (by omega) (by omega),show((i:Int)+1)=((i+1:Nat):Int)by omega,Ah Dc,drop_cons Dc,show(c.1,c.2.1,())=c from rfl,Gc hc (by omega),ih (i+1) (by omega) (by omega)];simp only[AD,ARN];cases holds c m.2.2.2.2.2.1[i]<;>rfl
    grind
  have:=key AW 0 (by omega) (Aa (by omega));simp_all
omit hc h in
theorem bD{o:Int}:J0 m o=some ((((Ea m o).getD Dq,(Ea m o).isSome,()),()),()):=by
 obtain⟨h1,h2,h3,h4⟩:=JY hm;unfold J0 Wi Ea;rw[Gw];simp only[AD];cases m.2.2.2.2.1 with
 |false=>
  simp only[ARA,ALY,ANX,AOP,ALg];cases(BE m.2.1 1 30&&BE o 1 60)<;>rfl
 |true=>
  simp only[ALR,AKp,ALl];rcases AJd (BE m.2.1 1 30)with he|he
  rotate_left
  ·rw[he];rfl
  rcases AJd (BE o 1 60)with ho|ho
  rotate_left
  ·rw[he,ho];rfl
  have hp:D_ m.2.1 o=G9 m.2.1 o:=by unfold D_;rw[he,ho];rfl
  rw[he,ho,hp];simp only[AQ5,ALR,AKp,ALl];by_cases hl:o<=m.2.2.2.2.2.1.length
  ·rw[show decide (o>(m.2.2.2.2.2.1.length:Int))=false by simpa using hl,show decide (o<=(m.2.2.2.2.2.1.length:Int))=true by simpa using hl]
   simp only[AKp,AQY];have key:∀(k i:Nat),i<=m.2.2.2.1.length->m.2.2.2.1.length-i<k->K3 k (G9 m.2.1 o) m.2.2.2.1 m.2.2.2.1.length i m.1 m.2.1 m.2.2.1 m.2.2.2.1 true m.2.2.2.2.2.1 0 0 false []=
     some ((((match O0 (G9 m.2.1 o) (m.2.2.2.1.drop i)with
      |some x=>(G9 m.2.1 o,m.1,x.2.2.1,x.2.2.2.1,())
      |none=>(G9 m.2.1 o,m.1,true,[],())),true,()),()),()):=by
    intro k
    induction k with
    |zero=>intro i _ h;omega
    |succ k ih=>
     intro i hi hk;simp only[K3,Wu,AB];by_cases Dc:i<m.2.2.2.1.length
     ·have c1:(0:Int)<=(i:Int)/\(i:Int)<(m.2.2.2.1.length:Int):=by omega
      rw[AJe c1.2,AJe c1,AG (by omega) (by omega),show((i:Int)+1)=((i+1:Nat):Int)by omega,Ah Dc,drop_cons Dc,ih (i+1) (by omega) (by omega)];unfold O0;rw[AVe];cases hx:m.2.2.2.1[i].1==G9 m.2.1 o<;>rfl
     ·rw[AJk (by omega),ALm (by omega)]
      rfl
   have:=key AW 0 (by omega) (Aa (by omega));rw[show((0:Nat):Int)=0 from rfl,AP7]at this;rw[this];cases O0 (G9 m.2.1 o) m.2.2.2.1<;>rfl
  ·rw[show decide (o>(m.2.2.2.2.2.1.length:Int))=true by simp;omega,show decide (o<=(m.2.2.2.2.2.1.length:Int))=false by simp;omega]
   rfl
theorem oe{s:AAA}(hs:s.length<=2^20):Q7 c m s=some (mc (Ls c m s)):=by
 obtain⟨h1,h2,h3,h4⟩:=JY hm;unfold Q7 Ls;rw[show(c.1,c.2.1,())=c from rfl,W8 m,IA hc (by omega) h,UR hc hm h,Hc (by omega),gF (by omega) h];simp only[AD];rcases AJd (HE c m)with DG|DG
 rotate_left
 ·rw[DG];rfl
 have hmo:=He.1 DG;rw[DG];simp only[AQY];rcases AJd m.2.2.2.2.1 with hp|hp
 ·rw[hp]
  simp only[ALR,AKp,ALg,ARA,ALY,ANX,mc,hp]
 have hfl:(m.2.2.1.filter s.contains).length<=m.2.2.1.length:=AP5 _ _;rw[hp];simp only[ALR,AOP,AKp,ALY,ANX,ALl];rw[fN (by omega) (by omega)];simp only[AD];rw[iI hc (by omega) hs];simp only[AD];cases SW c s (m.2.2.1.filter s.contains)with
 |false=>simp[mc,hp]
 |true=>
  simp only[ALR,AKp,AQY];have hlb:=Hs (l:=m.2.2.2.1);rw[AJe ⟨hlb.1,Int.le_refl _,by rw[Am];omega⟩];rfl
theorem nM{n:Int}{l:List AJ}(hl:l.length<=2^20)(Qt:vv l)(hw:Af Ap l<=2^20):Q3 c m n l=some (mc (PG c m n l)):=by
 obtain⟨h1,h2,h3,h4⟩:=JY hm;unfold Q3 YA PG;rw[show(c.1,c.2.1,())=c from rfl,W8 m,IA hc (by omega) h,UR hc hm h,Hc (by omega)];simp only[AD];rcases AJd (HE c m)with DG|DG
 rotate_left
 ·rw[DG];rfl
 have hmo:=He.1 DG;have ACm:=(Eo.1 hmo.sld).2.2;rw[DG];simp only[ALR,AKp,ALY,ANX,AQY];rcases AJd m.2.2.2.2.1 with hp|hp
 ·grind[mc]
 rw[hp,QT ACm (by omega)];simp only[AD,AKp,AOP,ALl];have key:∀(k i:Nat) (b:List AJ),i<=l.length->l.length-i<k->b.length<=2^20+i->jQ b->vv b->Af Ap b+Af Ap (l.drop i)<=2^21->
   MK k l l.length i c.1 c.2.1 m.1 m.2.1 m.2.2.1 m.2.2.2.1 false m.2.2.2.2.2.1 0 0 false [] [] [] m.1 m.2.1 false (Ox n m.2.2.1) b m.2.2.2.2.2.1=
   some (mc (if HE c (m.1,m.2.1,Ox n m.2.2.1,EF b ((l.drop i).filter fun e=>Ab e.1==m.2.1),false,m.2.2.2.2.2.1,())then
    ((m.1,m.2.1,Ox n m.2.2.1,EF b ((l.drop i).filter fun e=>Ab e.1==m.2.1),false,m.2.2.2.2.2.1,()),true)else(m,false))):=by
  intro k
  induction k with
  |zero=>omega
  |succ k ih=>
   intro i b hi hk hb v7 hbi hbw;simp only[MK,Xz,AB];by_cases Dc:i<l.length
   ·have c1:(0:Int)<=(i:Int)/\(i:Int)<(l.length:Int):=by omega
    rw[AJe c1.2];simp only[AJe c1];rw[AG (by omega) (by omega),show((i:Int)+1)=((i+1:Nat):Int)by omega,Ah Dc,drop_cons Dc,gS (l[i]),Dl (Qt _ (ALk Dc)),fF v7 (by omega)];rw[drop_cons Dc]at hbw;simp only[Af]at hbw;simp only[AD,AQ9];rcases AJd (Ab l[i].1==m.2.1)with he|he
    ·simp only[he,ALg,AQY,EF]
     have:=Zo (e:=l[i]) (l:=b);have hwk:=ADK l[i] b;exact ih (i+1) _ (by omega) (by omega) (by omega) (hI v7) (fun x hx=>by
      rcases gd hx with rfl|hx
      ·exact Qt _ (ALk Dc)
      ·exact hbi x hx) (by omega)
    grind
   ·rw[AJk (by omega),ALm (by omega),show(c.1,c.2.1,())=c from rfl,Hc (m:=(m.1,m.2.1,m.2.2.1,m.2.2.2.1,false,m.2.2.2.2.2.1,())) (by
     grind)]
    simp only[AVt,EF];rw[ALm (by omega)]at hbw;simp only[Af]at hbw;have zg:=Wg (n:=n) (l:=m.2.2.1);have hb2:=AX (f:=Ap) (l:=b);rw[IA (m:=(m.1,m.2.1,Ox n m.2.2.1,b,false,m.2.2.2.2.2.1,())) hc (by
     grind[CE]) hbi]
    grind[AD,HE,Ox,mc]
 have hsw:Af Ap m.2.2.2.1<=2^20:=by
  grind[CE]
 have:=key AW 0 m.2.2.2.1 (by omega) (Aa (by omega)) (by omega) hmo.asc h (by grind);simp_all
end
theorem tT{c:CQ}{l:AAA}(hc:c.1.length<=2^20)(hl:l.length<=2^20):bC c l=some ((BC c l&& !holds c l,()),()):=by
 unfold bC;rw[show(c.1,c.2.1,())=c from rfl,EC (by omega) (by omega),Gc (by omega) (by omega)];grind
theorem vq{ss:List AM}(hs:ss.length<=1024)(h:∀s∈ss,s.1.length<=1024)(hw:∀s∈ss,Aj s<=2^30)(Qt:∀s∈ss,vf s)(DG:∀s∈ss,CH s=true):j6 ss=some (((),()),(Gt [] ss,())):=by
 have key:∀n:Nat,
   (∀(i:Nat) (b:List AJ),i<=ss.length->(ss.length-i)*1026+1<=n->b.length<=i*1024->jQ b->
    Nz n ss ss.length i b=some (((),()),(Gt b (ss.drop i),())))/\
   (∀(i j:Nat) (b:List AJ),(hi:i<ss.length)->j<=ss[i].1.length->(ss.length-i-1)*1026+1+(ss[i].1.length-j)+1<=n->b.length<=i*1024+j->jQ b->
    Nx n ss ss.length i ss[i].1 ss[i].1.length j b=some (((),()),(Gt (EF b (ss[i].1.drop j)) (ss.drop (i+1)),()))):=by
  intro n
  induction n with
  |zero=>simp_all
  |succ n ih=>
   refine⟨fun i b hi h' hb v7=> ?_,fun i j b hi hj h' hb v7=> ?_⟩
   ·simp only[Nz,dG,AB]
    by_cases hc:i<ss.length
    ·have hmm:=ALk hc
     have hm:=h _ hmm;rw[AJe (by omega),AJe (by omega),Ah hc,Oy (ss[i]),Ez (hw _ hmm) (Qt _ hmm),DG _ hmm];have e1:(ss.length-i)*1026=(ss.length-i-1)*1026+1026:=by
      omega
     have:=ih.2 i 0 b hc (by omega) (by omega) (by omega) v7;rw[show((0:Nat):Int)=0 from rfl,AP7]at this;simp only[AD,ALR,AKp];rw[this,drop_cons hc];rfl
    ·rw[AJk (by omega),ALm (by omega)]
     rfl
   ·have hm:=h _ (ALk hi)
    simp only[Nx,dy,AB];have hbb:i*1024<=2^20:=by
     omega
    by_cases hc:j<ss[i].1.length
    ·have c2:(0:Int)<=(j:Int)/\(j:Int)<(ss[i].1.length:Int):=by omega
     rw[AJe c2.2,AJe c2,Ah hc,gS (ss[i].1[j]),fF v7 (by omega)];simp only[AD];rw[AG (by omega) (by omega),show((j:Int)+1)=((j+1:Nat):Int)by omega,drop_cons hc];have hk:=Zo (e:=ss[i].1[j]) (l:=b);exact ih.2 i (j+1) _ hi (by omega) (by omega) (by omega) (hI v7)
    ·rw[AJk (by omega),AG (by omega) (by omega),show((i:Int)+1)=((i+1:Nat):Int)by omega,ALm (by omega)]
     exact ih.1 (i+1) b (by omega) (by grind) (by omega) v7
 have hf:(ss.length-0)*1026+1<=AW:=by
  have:ss.length*1026<=1024*1026:=AME _ hs;exact AS_ (Aa (by omega))
 exact(key AW).1 0 [] (by omega) hf (by simp) List.Pairwise.nil
theorem yS{c:CQ}{ss:List AM}{lost:AAA}{n upto:Int}(hc:c.1.length<=2^20)(hs:ss.length<=1024)(hn:∀s∈ss,s.1.length<=1024)(hw:Af Aj ss<=2^24)(Qt:∀s∈ss,vf s)(hl:lost.length<=2^20):
  dr c lost n upto ss=some (pkF ss (cx c ss lost n upto)):=by
 have hfs:cx c ss lost n upto=AAh (EM c&&(decide (ss.length=c.1.length)&&(BC c lost&&(!holds c lost&&(lost.contains n&&((others lost 0 ss).all CH&&CH (Gt [] (others lost 0 ss),[],upto,()))))))) (Gt [] (others lost 0 ss),[],upto,()):=rfl;rw[hfs];unfold dr fX;rw[show(c.1,c.2.1,())=c from rfl,tT hc hl,JB (by omega)];simp only[AD,Aq,Cv];have key:∀(k i:Nat) (o:List AM),(∀s∈o,s∈ss)->(∀s∈o,CH s=true)->i<=ss.length->ss.length-i<k->o.length<=i->Af Aj o+Af Aj (ss.drop i)<=2^24->
   Ug k lost upto ss.length i ss 0 [] [] o=some (pkF ss (AAh ((others lost i (ss.drop i)).all CH&&CH (Gt [] (o++others lost i (ss.drop i)),[],upto,())) (Gt [] (o++others lost i (ss.drop i)),[],upto,()))):=by
  intro k
  induction k with
  |zero=>omega
  |succ k ih=>
   intro i o ho DG hi h hol how;simp only[Ug,gD,AB,Aq];by_cases Dc:i<ss.length
   ·have c1:(0:Int)<=(i:Int)/\(i:Int)<(ss.length:Int):=by omega
    have c2:o.length+1<=CN:=by rw[Am];omega
    have hmm:=ALk Dc;have Adi:=AY (f:=Aj) hmm;rw[drop_cons Dc]at how;simp only[Af]at how;rw[AJe c1.2,AJe c1,JB (by omega),Ah Dc,Oy (ss[i]),Ez (by omega) (Qt _ hmm),AG (by omega) (by omega),show((i:Int)+1)=((i+1:Nat):Int)by omega];simp only[AD];rw[drop_cons Dc];simp only[others];rcases AJd (lost.contains (i:Int))with hb|hb
    ·rw[hb]
     simp only[ALg,AQY];exact ih (i+1) o ho DG (by omega) (by omega) (by omega) (by omega)
    ·rw[hb]
     simp only[AKp,ALY,ANX];rcases AJd (CH ss[i])with hg|hg
     ·rw[hg]
      simp only[ALg,ARN,hg,ALl];rw[AJe c2,ih (i+1) (o++[ss[i]]) (fun s hs=>by
       grind) (fun s hs=>by
       grind) (by omega) (by omega) (by simp_all) (by grind[bU,Af])]
      simp_all
     ·rw[hg]
      simp only[AKp,ARN,hg,ARA];rfl
   ·have hu:=ADc (l:=o) (k:=[])
    simp only[Af]at hu;have Ace:Af Aj o<=2^24:=by omega
    rw[AJk (by omega),ALm (by omega),vq (by omega) (fun s hs=>hn s (ho s hs)) (fun s hs=>by grind[AY,Aj]) (fun s hs=>Qt s (ho s hs)) DG];simp only[AD,others,ALu,List.all_nil,ALl];rw[Ez (s:=(Gt [] o,[],upto,())) (by show Af Ap (Gt [] o)+Af Ap []<=_;grind[Af]) ⟨fun e he=>by
     rcases oA he with he|⟨t,ht,he⟩
     ·simp_all
     ·exact(Qt t (ho t ht)).1 e he,fun e he=>by simp_all⟩]
    simp only[AD];rcases AJd (CH (Gt [] o,[],upto,()))with hb|hb<;>rw[hb]<;>rfl
 have:=key AW 0 [] (by simp) (by simp) (by omega) (Aa (by omega)) (by simp) (by grind[Af]);rw[show((0:Nat):Int)=0 from rfl,AP7,AQH]at this;rw[this];rcases AJd (BC c lost)with h1|h1
 rotate_left
 ·rw[h1]
  by_cases h2:ss.length=c.1.length
  ·rw[AJe (by omega)]
   simp only[ARA,AVW,AKp];rfl
  ·rw[AJk (by omega)]
   simp only[ARA,AVW];rfl
 have ACv:EM c=true:=(Eo.1 h1).1;rw[h1,ACv];simp only[ALl];by_cases h2:ss.length=c.1.length
 rotate_left
 ·rw[AJk (by omega),AQK h2]
  rfl
 rw[AJe (by omega),AM_ h2];simp only[ALl];cases holds c lost with
 |true=>rfl
 |false=>
  cases lost.contains n with
  |false=>rfl
  |true=>rfl
def AaT(q:AA×Int):a8:=((q.2,()),(((),q.1.2.1,(),(),(),q.1.2.2.2.2.2.1,(),(),(),(),q.1.2.2.2.2.2.2.2.2.2.2.1,()),q.1.1,q.1.2.2.1,q.1.2.2.2.1,(),(),(),q.1.2.2.2.2.2.2.2.2.1,q.1.2.2.2.2.2.2.2.2.2.1,q.1.2.2.2.2.1,q.1.2.2.2.2.2.2.1,q.1.2.2.2.2.2.2.2.1,()))
def ASr(q:AA×Int):cv:=((q.2,()),(((),q.1.2.1,(),(),(),q.1.2.2.2.2.2.1,(),(),(),(),q.1.2.2.2.2.2.2.2.2.2.2.1,()),q.1.1,q.1.2.2.1,q.1.2.2.2.1,q.1.2.2.2.2.1,q.1.2.2.2.2.2.2.1,q.1.2.2.2.2.2.2.2.1,q.1.2.2.2.2.2.2.2.2.1,(),q.1.2.2.2.2.2.2.2.2.2.1,()))
def AJL(q:AA×Int):Gm:=((q.2,()),(((),q.1.2.1,(),(),(),q.1.2.2.2.2.2.1,(),(),(),(),q.1.2.2.2.2.2.2.2.2.2.2.1,()),q.1.1,q.1.2.2.1,(),q.1.2.2.2.2.1,q.1.2.2.2.2.2.2.1,q.1.2.2.2.2.2.2.2.1,q.1.2.2.2.2.2.2.2.2.1,q.1.2.2.2.2.2.2.2.2.2.1,q.1.2.2.2.1,()))
def AW2(q:AA×Int):bV:=((q.2,()),(((),q.1.2.1,(),(),(),q.1.2.2.2.2.2.1,(),(),(),(),q.1.2.2.2.2.2.2.2.2.2.2.1,()),q.1.1,q.1.2.2.1,q.1.2.2.2.1,q.1.2.2.2.2.1,q.1.2.2.2.2.2.2.1,(),q.1.2.2.2.2.2.2.2.2.1,q.1.2.2.2.2.2.2.2.2.2.1,q.1.2.2.2.2.2.2.2.1,()))
def AZO(q:AA×Int):aI:=((q.2,()),(((),q.1.2.1,(),(),(),q.1.2.2.2.2.2.1,(),(),(),(),q.1.2.2.2.2.2.2.2.2.2.2.1,()),q.1.1,q.1.2.2.1,q.1.2.2.2.1,(),q.1.2.2.2.2.2.2.1,(),q.1.2.2.2.2.2.2.2.2.1,q.1.2.2.2.2.2.2.2.2.2.1,q.1.2.2.2.2.1,q.1.2.2.2.2.2.2.2.1,()))
theorem zZ{m:Az}{b:Int}{e:AJ}(h:Ea m b=some e):Bp e.1:=by
 unfold Ea at h;split at h
 ·rename_i hc
  simp only[ALJ,An]at hc;grind[Nv,Jp]
 simp_all
theorem mH{α:Type}{l:List α}{i:Nat}{d:α}:l.set i (l.getD i d)=l:=by
 by_cases h:i<l.length
 ·simp_all
 grind[List.set_eq_of_length_le]
def sW(w:AA)(n ep:Int):Int:=if Au w n=0 then if(Br w.BF ep).contains n then 0 else 2 else Au w n
section
variable{w:AA} (h:RX w)
include h
theorem SK{n ep:Int}(he:Bp ep):Df w n ep=some ((sW w n ep,()),()):=by
 have k:=h.nums;have k1:=k.c;have k2:=k.wr;have k3:=k.lost;have k4:=k.st;have eH:=k.mC;have lF:=k.KO;have nG:=k.lG;have k5:=k.era;have k7:=k.fI;unfold Df sW;rw[Lk (by omega) (by omega),show(w.2.2.2.2.1,w.2.2.2.2.2.1,())=CT w from rfl,QS (r:=CT w) (by show Af B_ w.2.2.2.2.1<=_;omega) he];have WG:(Br w.BF ep).length<=8:=Gy h;rw[show(CT w).1=w.BF from rfl];simp only[AD,DL];rw[JB (by omega)];grind
theorem bG{n:Int}{e:AJ}(hn:Au w n=0)(he:Bp e.1):L0 n e w.2.1 w.2.2.2.2.2.1 w.2.2.2.2.2.2.2.2.2.2.1 w.1 w.2.2.1 w.2.2.2.1 w.2.2.2.2.1 w.2.2.2.2.2.2.1 w.2.2.2.2.2.2.2.1 w.2.2.2.2.2.2.2.2.1 w.2.2.2.2.2.2.2.2.2.1=some (pA (putAt w n (K0 (storeAt w n) e))):=by
 obtain⟨hr,s1,s2,s3⟩:=h.MQ hn;have ec:w.2.2.1.getD n.toNat ([],[],0,())=storeAt w n:=rfl;unfold L0 putAt;simp only[AJe hr,ec];rw[show((storeAt w n).1,(storeAt w n).2.1,(storeAt w n).2.2.1,())=storeAt w n from rfl,gS e,o9 s1 s2 he];simp only[AD,qX,QY];cases(K0 (storeAt w n) e).2<;>rfl
theorem j5{a:Int}:Kc a w.2.1 w.2.2.2.2.2.1 w.2.2.2.2.2.2.2.2.2.2.1 w.1 w.2.2.1 w.2.2.2.1 w.2.2.2.2.1 w.2.2.2.2.2.2.1 w.2.2.2.2.2.2.2.1 w.2.2.2.2.2.2.2.2.1 w.2.2.2.2.2.2.2.2.2.1=some (AaT (Qk w a)):=by
 have k:=h.nums;have k1:=k.c;have k2:=k.wr;have k3:=k.lost;have k4:=k.st;have eH:=k.mC;have lF:=k.KO;have nG:=k.lG;have k5:=k.era;have k7:=k.fI;unfold Kc Qk;rw[DL];by_cases h4:w.2.2.2.2.2.2.1.length=4
 ·rw[AJe (by omega),AJe h4];rfl
 have hm:(BM a).length<=8:=AAE;rw[AJk (by omega),AJk h4,ah];simp only[AD];rw[show(w.1,w.2.1,())=Ae w from rfl,show(w.2.2.2.2.1,w.2.2.2.2.2.1,())=CT w from rfl,rG (c:=Ae w) (r:=CT w) (by show w.1.length<=_;omega) (by show Af B_ w.2.2.2.2.1<=_;omega) k.trim (by omega)];simp only[AD,Aq];rcases AJd (JA (Ae w) (CT w) (BM a)).2.2 with hq|hq
 ·rw[hq,AJe (by rw[Am];omega),F9];rfl
 ·rw[hq,Iz];rfl
theorem jN{d:Al}:Jf d w.2.1 w.2.2.2.2.2.1 w.2.2.2.2.2.2.2.2.2.2.1 w.1 w.2.2.1 w.2.2.2.1 w.2.2.2.2.1 w.2.2.2.2.2.2.1 w.2.2.2.2.2.2.2.1 w.2.2.2.2.2.2.2.2.1 w.2.2.2.2.2.2.2.2.2.1=some (pA (OL w d.2.1 d.2.2.1 d.2.2.2.1)):=by
 have k:=h.nums;have k1:=k.c;have k2:=k.wr;have k3:=k.lost;have k4:=k.st;have eH:=k.mC;have lF:=k.KO;have nG:=k.lG;have k5:=k.era;have k7:=k.fI;unfold Jf OL;rw[Fo w,AG (x:=(w.2.2.2.2.2.2.1.length:Int)-1) (by omega) (by omega),Ax];simp only[AD,Aq,Cv];rw[show BE d.2.1 0 ((w.2.2.2.2.2.2.1.length:Int)-1)=BE d.2.1 0 ((w.AL.length:Int)-1)from rfl];rcases AJd (BE d.2.1 0 ((w.AL.length:Int)-1))with h1|h1
 rotate_left
 ·rw[h1,Iz];rfl
 obtain⟨x1,x2,x3⟩:=h.gy h1;rw[h1,ALg,F9,AJe x1,Ax];simp only[AD];rw[show w.2.2.2.2.2.2.1.getD d.2.1.toNat (0,[],())=w.AL.getD d.2.1.toNat CO from rfl]
 generalize hx:w.AL.getD d.2.1.toNat CO=x at*
 rcases AJd (BE d.2.2.1 1 (x.2.1.length:Int))with h2|h2
 rotate_left
 ·rw[h2,Iz];rfl
 have h2':=An.1 h2;have hxl:=x2.n;have hxe:=x2.ep;have zg:=Nv (e:=x.1) (o:=d.2.2.1) hxe (by omega);have hpm:D_ x.1 d.2.2.1=G9 x.1 d.2.2.1:=by
  grind[D_,An]
 rw[h2,ALg,F9,SK h ⟨by omega,by omega⟩,Gw,hpm,AG (by omega) (by omega)];simp only[AD,AJe (show(0:Int)<=d.2.2.1-1/\d.2.2.1-1<(x.2.1.length:Int)by omega)];unfold sW;by_cases h3:Au w d.2.2.2.1=0
 rotate_left
 ·rw[AJk h3,AJk h3,AJe h3];rfl
 rw[AJe h3,AJk (show¬(Au w d.2.2.2.1≠0)from fun hh=>hh h3)];rcases AJd ((Br w.BF x.1).contains d.2.2.2.1)with h5|h5
 rotate_left
 ·rw[h5,Iz];rfl
 rw[h5,F9,AJe rfl,AJe rfl,bG h h3 (Jp zg.1)];rfl
theorem jT{n k:Int}:QP n k w.2.1 w.2.2.2.2.2.1 w.2.2.2.2.2.2.2.2.2.2.1 w.1 w.2.2.1 w.2.2.2.1 w.2.2.2.2.1 w.2.2.2.2.2.2.1 w.2.2.2.2.2.2.2.1 w.2.2.2.2.2.2.2.2.1 w.2.2.2.2.2.2.2.2.2.1=some (pA (OT w n k)):=by
 have kk:=h.nums;have k1:=kk.c;have k2:=kk.wr;have k3:=kk.lost;have k4:=kk.st;have eH:=kk.mC;have lF:=kk.KO;have nG:=kk.lG;have k5:=kk.era;have k7:=kk.fI;unfold QP OT;rw[Fo w,Lk (by omega) (by omega)];simp only[AD,Cv];by_cases h3:Au w n=0
 rotate_left
 ·rw[AJk h3,AJe h3];rfl
 obtain⟨hr,s1,s2,s3⟩:=h.MQ h3;have ec:w.2.2.1.getD n.toNat ([],[],0,())=storeAt w n:=rfl;rw[AJe h3,AJk (show¬(Au w n≠0)from fun hh=>hh h3)];simp only[AJe hr,ec];rw[show((storeAt w n).1,(storeAt w n).2.1,(storeAt w n).2.2.1,())=storeAt w n from rfl,Z8 s1 s2];simp only[AD,qX,QY];unfold putAt;rcases AJd (GB (storeAt w n) k).2 with hq|hq
 ·rw[hq];rfl
 ·have e:(GB (storeAt w n) k).1=storeAt w n:=by
   unfold GB at hq|-;rw[Dg.2 s3]at hq|-;grind
  rw[hq,e];have:w.2.2.1.set n.toNat ((storeAt w n).1,(storeAt w n).2.1,(storeAt w n).2.2.1,())=w.2.2.1:=mH;rw[this];rfl
theorem jM{n:Int}:P4 n w.2.1 w.2.2.2.2.2.1 w.2.2.2.2.2.2.2.2.2.2.1 w.1 w.2.2.1 w.2.2.2.1 w.2.2.2.2.1 w.2.2.2.2.2.2.1 w.2.2.2.2.2.2.2.1 w.2.2.2.2.2.2.2.2.1 w.2.2.2.2.2.2.2.2.2.1=some (pA (Ob w n)):=by
 have k:=h.nums;have k1:=k.c;have k2:=k.wr;have k3:=k.lost;have k4:=k.st;have eH:=k.mC;have lF:=k.KO;have nG:=k.lG;have k5:=k.era;have k7:=k.fI;unfold P4 Ob;rw[Fo w,Lk (by omega) (by omega)];simp only[AD,Cv];by_cases h3:Au w n=0
 rotate_left
 ·rw[AJk h3,AJe h3];rfl
 obtain⟨hr,s1,s2,s3⟩:=h.MQ h3;have ec:w.2.2.1.getD n.toNat ([],[],0,())=storeAt w n:=rfl;rw[AJe h3,AJk (show¬(Au w n≠0)from fun hh=>hh h3)];simp only[AJe hr,ec];rw[show((storeAt w n).1,(storeAt w n).2.1,(storeAt w n).2.2.1,())=storeAt w n from rfl,lS s1 s2 k.trim];simp only[AD,qX,QY];unfold putAt;rw[show w.trim=w.2.2.2.2.2.1 from rfl];rcases AJd (JQ (storeAt w n) w.2.2.2.2.2.1).2 with hq|hq
 ·rw[hq];rfl
 ·have e:(JQ (storeAt w n) w.2.2.2.2.2.1).1=storeAt w n:=by
   unfold JQ at hq|-;rw[Dg.2 s3]at hq|-;grind
  rw[hq,e];have:w.2.2.1.set n.toNat ((storeAt w n).1,(storeAt w n).2.1,(storeAt w n).2.2.1,())=w.2.2.1:=mH;rw[this];rfl
theorem jy:RJ w.2.1 w.2.2.2.2.2.1 w.2.2.2.2.2.2.2.2.2.2.1 w.1 w.2.2.1 w.2.2.2.1 w.2.2.2.2.1 w.2.2.2.2.2.2.1 w.2.2.2.2.2.2.2.1 w.2.2.2.2.2.2.2.2.1 w.2.2.2.2.2.2.2.2.2.1=some (AW2 (UJ w)):=by
 have k:=h.nums;have k1:=k.c;have k2:=k.wr;have k3:=k.lost;have k4:=k.st;have eH:=k.mC;have lF:=k.KO;have nG:=k.lG;have k5:=k.era;have k7:=k.fI;unfold RJ UJ;rw[show(w.2.2.2.2.1,w.2.2.2.2.2.1,())=CT w from rfl,Uh (r:=CT w) (by show w.2.2.2.2.1.length<=_;omega)];simp only[AD,DL,AB];rw[show(CT w).1=w.BF from rfl];by_cases h1:(w.2.2.2.2.1.length:Int)<2
 ·rw[AJe h1,show(decide ((w.2.2.2.2.1.length:Int)<2)||decide (BR w.2.2.2.2.1=(w.2.2.2.2.1.length:Int)))=true by simp_all];rfl
 rw[AJk h1];by_cases h2:BR w.2.2.2.2.1=(w.2.2.2.2.1.length:Int)
 ·rw[AJe h2,show(decide ((w.2.2.2.2.1.length:Int)<2)||decide (BR w.2.2.2.2.1=(w.2.2.2.2.1.length:Int)))=true by simp_all];rfl
 rw[AJk h2,show(decide ((w.2.2.2.2.1.length:Int)<2)||decide (BR w.2.2.2.2.1=(w.2.2.2.2.1.length:Int)))=false by simp_all];rw[AJk (show¬(false=true)by simp)];by_cases h3:w.2.2.2.2.2.2.2.1.length>0
 ·rw[AJe (by omega),AJe h3];rfl
 ·rw[AJk (by omega),AJk h3];rfl
theorem lD{n:Int}:KY n w.2.1 w.2.2.2.2.2.1 w.2.2.2.2.2.2.2.2.2.2.1 w.1 w.2.2.1 w.2.2.2.1 w.2.2.2.2.1 w.2.2.2.2.2.2.1 w.2.2.2.2.2.2.2.1 w.2.2.2.2.2.2.2.2.1 w.2.2.2.2.2.2.2.2.2.1=some (AJL (UH w n)):=by
 have k:=h.nums;have k1:=k.c;have k2:=k.wr;have k3:=k.lost;have k4:=k.st;have eH:=k.mC;have lF:=k.KO;have nG:=k.lG;have k5:=k.era;have k7:=k.fI;have k6:=k.ws;unfold KY UH;rw[Fo w,AG (x:=(w.2.2.1.length:Int)-1) (by omega) (by omega),AG (x:=(w.2.2.2.2.1.length:Int)-1) (by omega) (by omega),Ax];simp only[AD,Aq];rcases AJd (w.lost.contains n)with hl|hl
 rotate_left
 ·rw[hl]
  have e:C7 w n=some ((w.lost.contains n,()),()):=dQ (by omega);rw[e,hl];cases BE n 0 ((w.2.2.1.length:Int)-1)<;>rfl
 have Qt:=(Eo.1 h.lost).2.1 n (by simp_all);have hn1:BE n 0 ((w.2.2.1.length:Int)-1)=true:=An.2 ⟨Qt.1,by
  have:n<(w.1.length:Int):=Qt.2;omega⟩
 have Adg:=An.1 hn1;rw[hn1,show C7 w n=some ((w.lost.contains n,()),())from dQ (by omega),hl,F9];simp only[AD,ALg];rw[show(if(0:Int)>(w.2.2.2.2.1.length:Int)-1 then 0 else(w.2.2.2.2.1.length:Int)-1)=max ((w.BF.length:Int)-1) 0 by
  grind]
 have ARt:∀s∈w.2.2.1,jU s:=fun s hs=>h.Wa hs
 rw[show(w.1,w.2.1,())=Ae w from rfl,yS (c:=Ae w) (by show w.1.length<=_;omega) (by omega) (fun s hs=>by have:=(ARt s hs).nk;omega) (by omega) (fun s hs=>(ARt s hs).sin) (by omega)];simp only[AD,pkF];rw[show cx (Ae w) w.Bd w.lost n (max ((w.BF.length:Int)-1) 0)=cx (Ae w) w.2.2.1 w.2.2.2.1 n (max ((w.BF.length:Int)-1) 0)from rfl];rcases AJd (cx (Ae w) w.2.2.1 w.2.2.2.1 n (max ((w.BF.length:Int)-1) 0)).2 with hq|hq
 rotate_left
 ·rw[hq,Iz];rfl
 rw[hq,ALg,F9,AJe (by omega),Qo (by omega)];rfl
theorem kO{n:Int}:Ki n w.2.1 w.2.2.2.2.2.1 w.2.2.2.2.2.2.2.2.2.2.1 w.1 w.2.2.1 w.2.2.2.1 w.2.2.2.2.1 w.2.2.2.2.2.2.1 w.2.2.2.2.2.2.2.1 w.2.2.2.2.2.2.2.2.1 w.2.2.2.2.2.2.2.2.2.1=some (pA (Ti w n)):=by
 have k:=h.nums;have k1:=k.c;have k2:=k.wr;have k3:=k.lost;have k4:=k.st;have eH:=k.mC;have lF:=k.KO;have nG:=k.lG;have k5:=k.era;have k7:=k.fI;unfold Ki Ti;rcases hm:w.CY with _|⟨m,ms⟩
 ·rw[DL,AJe (by simp_all)];rfl
 have hm':w.2.2.2.2.2.2.2.1=m::ms:=hm;have w_:w.2.2.2.2.2.2.2.1.length=ms.length+1:=by simp_all
 have g0:w.2.2.2.2.2.2.2.1.getD 0 (0,0,[],[],false,[],())=m:=by simp_all
 have hr0:(0:Int)<=(0:Int)/\(0:Int)<(w.2.2.2.2.2.2.2.1.length:Int):=by omega
 have cR:=(h.CY m (by simp_all)).1;have hmw:=cR.w;have hme:=cR.ep;have hmb:=cR.b;simp only[DL,Aq,Cv,AJe hr0,g0];rw[AJk (by omega)];rw[Fo w,SK h ⟨by omega,by omega⟩];simp only[AD];unfold sW;by_cases h3:Au w n=0
 rotate_left
 ·rw[AJk h3,AJk h3,AJe h3];rfl
 obtain⟨hr,s1,s2,s3⟩:=h.MQ h3;have ec:w.2.2.1.getD n.toNat ([],[],0,())=storeAt w n:=rfl;have hn3: ¬(Au w n≠0):=fun hh=>hh h3
 rw[AJe h3,AJk hn3];simp only[AJe hr,ec];rcases AJd ((Br w.BF m.2.1).contains n)with h5|h5
 rotate_left
 ·rw[h5,Iz];rfl
 rw[h5,F9,AJe rfl,AJe rfl,AG (by omega) (by omega),show((storeAt w n).1,(storeAt w n).2.1,(storeAt w n).2.2.1,())=storeAt w n from rfl,lr s1 s2];have hq:=AAk (u:=m.1-1) s3;have hqw:=hq.w;simp only[AD,qX];rw[show((B5 (storeAt w n) (m.1-1)).1.1,(B5 (storeAt w n) (m.1-1)).1.2.1,(B5 (storeAt w n) (m.1-1)).1.2.2.1,())=(B5 (storeAt w n) (m.1-1)).1 from rfl,oq (by omega) hq.sin];simp only[AD];have hes:(Js (B5 (storeAt w n) (m.1-1)).1 m.2.1).length<=200/\vv (Js (B5 (storeAt w n) (m.1-1)).1 m.2.1)/\Af Ap (Js (B5 (storeAt w n) (m.1-1)).1 m.2.1)<=10000:=by
  unfold Js;rw[Dg.2 hq,AJe rfl];refine⟨APp (AP5 _ _) hq.nk,fun e he=>hq.sin.1 e (AUl.1 he).1,APp pL ?_⟩;have:Aj (B5 (storeAt w n) (m.1-1)).1=Af Ap (B5 (storeAt w n) (m.1-1)).1.1+Af Ap (B5 (storeAt w n) (m.1-1)).1.2.1:=rfl;omega
 rw[W8 m,show(w.1,w.2.1,())=Ae w from rfl,nM (c:=Ae w) (by show w.1.length<=_;omega) (by omega) cR.ein (by omega) hes.2.1 (by omega)];simp only[AD,mc];rcases AJd (B5 (storeAt w n) (m.1-1)).2 with h6|h6
 rotate_left
 ·rw[h6,AOP,AVo,AJe rfl];rfl
 rw[h6,ALR,APM];rcases AJd (PG (Ae w) m n (Js (B5 (storeAt w n) (m.1-1)).1 m.2.1)).2 with h7|h7
 rotate_left
 ·rw[h7,Iz];rfl
 rw[h7,F9,ALg,ALg,hm'];rfl
theorem kS:Ke w.2.1 w.2.2.2.2.2.1 w.2.2.2.2.2.2.2.2.2.2.1 w.1 w.2.2.1 w.2.2.2.1 w.2.2.2.2.1 w.2.2.2.2.2.2.1 w.2.2.2.2.2.2.2.1 w.2.2.2.2.2.2.2.2.1 w.2.2.2.2.2.2.2.2.2.1=some (pA (Tb w)):=by
 have k:=h.nums;have k1:=k.c;have k2:=k.wr;have k3:=k.lost;have k4:=k.st;have eH:=k.mC;have lF:=k.KO;have nG:=k.lG;have k5:=k.era;have k7:=k.fI;unfold Ke Tb;rcases hm:w.CY with _|⟨m,ms⟩
 ·rw[DL,AJe (by simp_all)];rfl
 have hm':w.2.2.2.2.2.2.2.1=m::ms:=hm;have w_:w.2.2.2.2.2.2.2.1.length=ms.length+1:=by simp_all
 have g0:w.2.2.2.2.2.2.2.1.getD 0 (0,0,[],[],false,[],())=m:=by simp_all
 have hr0:(0:Int)<=(0:Int)/\(0:Int)<(w.2.2.2.2.2.2.2.1.length:Int):=by omega
 have cR:=(h.CY m (by simp_all)).1;have hmw:=cR.w;have hme:=cR.ep;simp only[DL,Aq,Cv,AJe hr0,g0];rw[AJk (by omega)];rw[show(w.2.2.2.2.1,w.2.2.2.2.2.1,())=CT w from rfl,QS (r:=CT w) (by show Af B_ w.2.2.2.2.1<=_;omega) ⟨by omega,by omega⟩];have WG:(Br w.BF m.2.1).length<=8:=Gy h;rw[show(CT w).1=w.BF from rfl];simp only[AD];rw[W8 m,show(w.1,w.2.1,())=Ae w from rfl,oe (c:=Ae w) (by show w.1.length<=_;omega) (by omega) cR.ein (by omega)];simp only[AD,mc,QY];rcases AJd (Ls (Ae w) m (Br w.BF m.2.1)).2 with h6|h6
 ·rw[h6,F9,hm'];rfl
 ·have e:(Ls (Ae w) m (Br w.BF m.2.1)).1=m:=by
   unfold Ls at h6|-;rw[He.2 cR]at h6|-;grind
  rw[h6,Iz,e,hm']
  show some ((4,()),_,_,_,_,_,_,(m::ms),_)=some ((4,()),_,_,_,_,_,_,w.2.2.2.2.2.2.2.1,_)
  rw[hm']
theorem mB{b n:Int}:TX b n w.2.1 w.2.2.2.2.2.1 w.2.2.2.2.2.2.2.2.2.2.1 w.1 w.2.2.1 w.2.2.2.1 w.2.2.2.2.1 w.2.2.2.2.2.2.1 w.2.2.2.2.2.2.2.1 w.2.2.2.2.2.2.2.2.1 w.2.2.2.2.2.2.2.2.2.1=some (pA (bd w b n)):=by
 have k:=h.nums;have k1:=k.c;have k2:=k.wr;have k3:=k.lost;have k4:=k.st;have eH:=k.mC;have lF:=k.KO;have nG:=k.lG;have k5:=k.era;have k7:=k.fI;unfold TX bd;rcases hm:w.CY with _|⟨m,ms⟩
 ·rw[DL,AJe (by simp_all)];rfl
 have hm':w.2.2.2.2.2.2.2.1=m::ms:=hm;have w_:w.2.2.2.2.2.2.2.1.length=ms.length+1:=by simp_all
 have g0:w.2.2.2.2.2.2.2.1.getD 0 (0,0,[],[],false,[],())=m:=by simp_all
 have hr0:(0:Int)<=(0:Int)/\(0:Int)<(w.2.2.2.2.2.2.2.1.length:Int):=by omega
 have cR:=(h.CY m (by simp_all)).1;have hmw:=cR.w;have hme:=cR.ep;simp only[DL,Aq,Cv,AJe hr0,g0];rw[AJk (by omega),W8 m,bD (by omega)];simp only[AD];rcases he:Ea m b with _|e
 ·rfl
 simp only[AQ_,AQ7,ALg];rw[Fo w,SK h ⟨by omega,by omega⟩];simp only[AD];unfold sW;by_cases h3:Au w n=0
 rotate_left
 ·rw[AJk h3,AJk h3,AJe h3];rfl
 rw[AJe h3,AJk (show¬(Au w n≠0)from fun hh=>hh h3)];rcases AJd ((Br w.BF m.2.1).contains n)with h5|h5
 rotate_left
 ·rw[h5,Iz];rfl
 rw[h5,F9,AJe rfl,AJe rfl,gS e,bG h h3 (zZ he)];rfl
theorem jW:Jk w.2.1 w.2.2.2.2.2.1 w.2.2.2.2.2.2.2.2.2.2.1 w.1 w.2.2.1 w.2.2.2.1 w.2.2.2.2.1 w.2.2.2.2.2.2.1 w.2.2.2.2.2.2.2.1 w.2.2.2.2.2.2.2.2.1 w.2.2.2.2.2.2.2.2.2.1=some (AZO (Oj w)):=by
 have k:=h.nums;have k1:=k.c;have k2:=k.wr;have k3:=k.lost;have k4:=k.st;have eH:=k.mC;have lF:=k.KO;have nG:=k.lG;have k5:=k.era;have k7:=k.fI;unfold Jk Oj;rcases hm:w.CY with _|⟨m,ms⟩
 ·rw[DL,AJe (by simp_all)];rfl
 have hm':w.2.2.2.2.2.2.2.1=m::ms:=hm;have w_:w.2.2.2.2.2.2.2.1.length=ms.length+1:=by simp_all
 have g0:w.2.2.2.2.2.2.2.1.getD 0 (0,0,[],[],false,[],())=m:=by simp_all
 have hr0:(0:Int)<=(0:Int)/\(0:Int)<(w.2.2.2.2.2.2.2.1.length:Int):=by omega
 have cR:=(h.CY m (by simp_all)).1;have hmw:=cR.w;simp only[DL,Aq,Cv,AJe hr0,g0];rw[AJk (by omega),W8 m,show(w.1,w.2.1,())=Ae w from rfl,show(w.2.2.2.2.1,w.2.2.2.2.2.1,())=CT w from rfl,mZ (c:=Ae w) (by show w.1.length<=_;omega) (by omega) cR.ein];simp only[AD];rcases AJd (VU (Ae w) m)with h6|h6
 rotate_left
 ·rw[h6,Iz];rfl
 rw[h6,F9,ALg,nt (c:=Ae w) (r:=CT w) (by show w.1.length<=_;omega) (by show Af B_ w.2.2.2.2.1<=_;omega) k.trim];simp only[AD,pkR,QY];rcases AJd (Pt (Ae w) (CT w) m.1 (m.2.2.2.2.2.1.length:Int)).2 with h7|h7
 ·rw[h7,ALg,F9];rfl
 ·rw[h7,AKp,Iz];rfl
end
abbrev rE(l:List Ak):Prop:=XT (fun s:Ak=>s.1) l
abbrev AFz(p:Int)(l:List Ak)(q:Nat):Prop:=my (fun s:Ak=>s.1) p l q
def dh(p:Int)(l:List Ak)(q:Nat):Bool:=match l[q]? with|some e=>e.1==p|none=>false
theorem qQ{l:List Ak}(ha:rE l)(hl:l.length<=2^30)(hp:∀s∈l,0<=s.1/\s.1<2^40){p:Int}(hpp:0<=p/\p<2^40):∃q,AFz p l q/\
  BU l p=some ((((q:Int),dh p l q,()),()),()):=by
 have key:∀(n a b:Nat),a<=b->b<=l.length->b-a<n->(∀(i:Nat) (h:i<l.length),i<a->l[i].1<p)->(∀(i:Nat) (h:i<l.length),b<=i->p<=l[i].1)->
   ∃q,AFz p l q/\As n l p l.length a b=some ((((q:Int),dh p l q,()),()),()):=by
  intro n
  induction n with
  |zero=>omega
  |succ n ih=>
   intro a b v7 hb hn h1 h2;simp only[As,Ci,AB,LV,AD];by_cases Ix:a<b
   ·have hm:(a+b)/2<l.length:=by omega
    have hq:=hp _ (ALk hm);rw[AJe (by omega),yJ (by omega),AJe (by omega),Ah hm,AG (by omega) (by omega)];by_cases hc:l[(a+b)/2].1<p
    ·rw[AJe (by omega),AG (by omega) (by omega),show((((a+b)/2:Nat):Int)+1)=(((a+b)/2+1:Nat):Int)by omega]
     refine ih _ b (by omega) hb (by omega) (fun i h hi=> ?_) h2;exact Int.lt_of_le_of_lt (eQ (f:=fun s:Ak=>s.1) ha h hm (by omega)) hc
    ·rw[AJk (by omega)]
     exact ih a _ (by omega) (by omega) (by omega) h1 fun i h hi=>Int.le_trans (by omega) (eQ (f:=fun s:Ak=>s.1) ha hm h hi)
   ·have AIv:a=b:=by omega
    subst AIv;refine⟨a,⟨hb,h1,h2⟩,?_⟩;rw[AJk (by omega)];unfold dh;by_cases ha':a<l.length
    ·have hq:=hp _ (ALk ha')
     rw[AJe (by omega),AJe (by omega),Ah ha',AKT ha',AG (by omega) (by omega)];dsimp only;by_cases hd:l[a].1=p
     ·simp_all
     ·rw[ALr.2 hd,ALr.2 (by omega:l[a].1-p≠0)]
    grind
 obtain⟨q,hq,e⟩:=key AW 0 l.length (by omega) (by omega) (Aa (by omega)) (fun i h hi=>by omega) (fun i h hi=>by omega);refine⟨q,hq,?_⟩;unfold BU Ch;omega
theorem ABj{p:Int}{l:List Ak}{q:Nat}(h:dh p l q=true):∃hq:q<l.length,l[q].1=p:=by
 unfold dh at h;grind
theorem xO{p:Int}{l:List Ak}{q:Nat}(hp:AFz p l q)(ha:rE l)(h:dh p l q=false):∀s∈l,s.1≠p:=by
 intro s hs e;obtain⟨i,hi,rfl⟩:=List.mem_iff_getElem.1 hs;have h1:=hp.lt i hi;by_cases hiq:i<q
 ·omega
 ·have hq:q<l.length:=by omega
  have h3:p<=l[q].1:=hp.ge q hq (AMN _);have h4:=eQ (f:=fun s:Ak=>s.1) ha hq hi (by omega);grind[dh,List.getElem?_eq_getElem,beq_eq_false_iff_ne]
theorem AK8{p:Int}{l:List Ak}{q:Nat}(hp:AFz p l q)(ha:rE l):(l.any fun s=>s.1==p)=dh p l q:=by
 rcases AJd (dh p l q)with h|h
 ·obtain⟨hq,e⟩:=ABj h
  grind
 ·rw[h,List.any_eq_false]
  intro s hs;grind[xO]
def Ry(p:Int)(l:List Ak):List Ak:=l.map fun s=>if s.1=p then(s.1,s.2.1,true,())else s
theorem ADs{p:Int}{l:List Ak}(h:∀s∈l,s.1≠p):Ry p l=l:=by
 unfold Ry
 conv=>rhs;rw[<-List.map_id l]
 refine ARF fun s hs=> ?_
 grind
theorem AG6{p:Int}:∀{l:List Ak} {q:Nat} (hq:q<l.length),rE l->l[q].1=p->l.set q (l[q].1,l[q].2.1,true,())=Ry p l
 |[],q,hq,_,_=>by rfl
 |s::l,0,_,ha,e=>by
  have h1:=APd.1 ha;have e':s.1=p:=e;have h2:Ry p l=l:=ADs fun y hy=>by grind
  show(s.1,s.2.1,true,())::l=(if s.1=p then(s.1,s.2.1,true,())else s)::Ry p l
  simp_all
 |s::l,q+1,hq,ha,e=>by
  have h1:=APd.1 ha;have hq':q<l.length:=by grind
  have e':l[q].1=p:=e;have h3:s.1<l[q].1:=h1.1 _ (ALk hq');have h4:s.1≠p:=by omega
  have:=AG6 hq' h1.2 e'
  show s::l.set q (l[q].1,l[q].2.1,true,())=(if s.1=p then(s.1,s.2.1,true,())else s)::Ry p l
  simp_all
theorem sm_at{p:Int}{l:List Ak}:∀{s:Ak},s∈Ry p l-> ∃t∈l,t.1=s.1:=by
 intro s hs;obtain⟨t,ht,rfl⟩:=ARG.1 hs;grind
theorem APl{p:Int}{l:List Ak}(h:rE l):rE (Ry p l):=by
 unfold Ry rE XT;grind
theorem AOC{p:Int}{l:List Ak}:(Ry p l).length=l.length:=by unfold Ry;rw[ARf]
theorem AAI{s:Ak}:∀{l:List Ak} {q:Nat},AFz s.1 l q->dh s.1 l q=false->eo s l=l.take q++[s]++l.drop q
 |[],q,h,_=>by
  have:=h.le;have:q=0:=by simp_all
  subst this;rfl
 |y::l,0,h,hn=>by
  have h1:=h.ge 0 (by simp) (AMN _);have h2:(y.1==s.1)=false:=hn;have h2':=ALr.1 h2;have h1':s.1<=y.1:=h1;simp only[eo];grind
 |y::l,q+1,h,hn=>by
  have h1:y.1<s.1:=h.lt 0 (by simp) (by omega);have hp:AFz s.1 l q:=⟨by have:=h.le;simp_all,fun i hi hiq=>h.lt (i+1) (by simp_all) (by omega),fun i hi hiq=>h.ge (i+1) (by simp_all) (by omega)⟩;simp only[eo];rw[AJk (by omega),AAI hp hn];rfl
section
variable{w:AA} (h:RX w)
include h
theorem RX.AN3:∀s∈w.2.2.2.2.2.2.2.2.2.1,0<=s.1/\s.1<2^40:=fun s hs=>by
 have hp:=(h.CI s hs).1;have h1:=GM hp;grind[G9,Ab,Bt]
theorem lW{a:Int}{d:ABF}(hd:d.length<=40):L5 a d w.2.1 w.2.2.2.2.2.1 w.2.2.2.2.2.2.2.2.2.2.1 w.1 w.2.2.1 w.2.2.2.1 w.2.2.2.2.1 w.2.2.2.2.2.2.1 w.2.2.2.2.2.2.2.1 w.2.2.2.2.2.2.2.2.1 w.2.2.2.2.2.2.2.2.2.1=some (ASr (doAdd w a d)):=by
 have k:=h.nums;have k1:=k.c;have k2:=k.wr;have k3:=k.lost;have k4:=k.st;have eH:=k.mC;have lF:=k.KO;have nG:=k.lG;have k5:=k.era;have k7:=k.fI;have k6:=k.se;unfold L5 doAdd;rw[AG (x:=(w.2.2.2.2.2.2.1.length:Int)-1) (by omega) (by omega),Ax];simp only[AD,Aq,Cv,DL];rw[show BE a 0 ((w.2.2.2.2.2.2.1.length:Int)-1)=BE a 0 ((w.AL.length:Int)-1)from rfl];rcases AJd (BE a 0 ((w.AL.length:Int)-1))with h1|h1
 rotate_left
 ·rw[h1,Iz];rfl
 obtain⟨x1,x2,x3⟩:=h.gy h1;rw[h1,ALg,F9];simp only[AJe x1];rw[show w.2.2.2.2.2.2.1.getD a.toNat (0,[],())=w.AL.getD a.toNat CO from rfl]
 generalize hx:w.AL.getD a.toNat CO=x at*
 rw[show(x.1,x.2.1,())=x from rfl,show(w.1,w.2.1,())=Ae w from rfl,mK (c:=Ae w) (by show w.1.length<=_;omega) (by omega) (by omega)];simp only[AD];rw[Gw];simp only[AD];have hxl:=x2.n;have hxe:=x2.ep;have hq1:(CR (Ae w) x d).1.1=x.1:=by
  unfold CR;rw[Ho.2 x2];grind
 have hpm:0<=D_ (CR (Ae w) x d).1.1 (CR (Ae w) x d).2.1/\D_ (CR (Ae w) x d).1.1 (CR (Ae w) x d).2.1<2^40:=by
  unfold D_ G9;split
  ·rename_i hc
   rw[ALJ,An,An]at hc;omega
  omega
 obtain⟨q,hq,es⟩:=qQ (l:=w.2.2.2.2.2.2.2.2.2.1) h.de (by omega) h.AN3 hpm;unfold IZ;rw[es];simp only[AD];rcases AJd (CR (Ae w) x d).2.2 with h2|h2
 rotate_left
 ·rw[h2,AOP,AVo,AJe rfl,AKp];rfl
 obtain⟨y1,y2,y3,y4⟩:=YN h2;have hyl:=y2.n;rw[y3]at hyl;simp only[AMf,AMK,APb]at hyl;have zg:=Nv (e:=x.1) (o:=(CR (Ae w) x d).2.1) hxe (by omega);have hpe:D_ (CR (Ae w) x d).1.1 (CR (Ae w) x d).2.1=G9 x.1 (CR (Ae w) x d).2.1:=by
  grind[D_,An]
 rw[hpe]at hq|-;rw[h2,ALg];simp only[ALR,APM];have AWv:(w.CI.any fun s=>s.1==G9 x.1 (CR (Ae w) x d).2.1)=dh (G9 x.1 (CR (Ae w) x d).2.1) w.2.2.2.2.2.2.2.2.2.1 q:=AK8 hq h.de;rw[AWv];by_cases h3:w.2.2.2.2.2.2.2.2.2.1.length=120
 ·rw[AJe (by omega),show decide (w.CI.length=120)=true from AM_ h3,AVo,AJe rfl]
  rfl
 rw[AJk (by omega),show decide (w.CI.length=120)=false from AQK h3];simp only[APM];rcases AJd (dh (G9 x.1 (CR (Ae w) x d).2.1) w.2.2.2.2.2.2.2.2.2.1 q)with h4|h4
 ·rw[h4,ALg,AJe rfl];rfl
 rw[h4,AKp,AJk (by simp)];have hql:=hq.le;grind[EE,mb,AAI,G9,CR,Ae,ASr,List.append_assoc,eo]
end
def jn(c:CQ)(s:AM)(ep n:Int):Int->List BH->List Ak->List Ak
 |_,[],se=>se
 |o,x::l,se=>jn c s ep n (o+1) l (if !x.2.2.1&&Mp s (G9 ep o)&&(Ft c n x).2.2.1 then Ry (G9 ep o) se else se)
def pkT(c0:AAA)(c1 tr:Int)(tn:Bool)(ss:List AM)(lo:AAA)(er:List Cx)(ws:List AU)(ms:List Az)(rs:List Ac)(se:List Ak):GH:=
 (((()),()),(((),c1,(),(),(),tr,(),(),(),(),tn,()),c0,ss,lo,er,ws,ms,rs,se,()))
section
variable{c:CQ} {st:AM} {SS:List AM} {n:Int} (hc:c.1.length<=8) (hs:jU st) (hn:0<=n/\n<c.1.length) (hnS:n<(SS.length:Int)) (ec:SS.getD n.toNat Dp=st)
include hc hs hn hnS ec
theorem ACs{tr:Int}{tn:Bool}{lo:AAA}{er:List Cx}{ms:List Az}{rs:List Ac}{a:Nat}{ep:Int}:∀(rest dn:List BH) (ws:List AU) (se:List Ak) (f:Nat),a<ws.length->a<=4->ws.getD a CO=(ep,dn++rest,())->fK c (ep,dn++rest,())->
  rE se->(∀s∈se,0<=s.1/\s.1<2^40)->se.length<=120->rest.length<f->
  C3 f (a:Int) n ((dn.length:Int)+1) c.2.1 tr tn c.1 SS lo er ws ms rs se=some (pkT c.1 c.2.1 tr tn SS lo er (ws.set a (ep,dn++BQ c st ep n ((dn.length:Int)+1) rest,())) ms rs (jn c st ep n ((dn.length:Int)+1) rest se)):=by
 have vX:=hs.w;intro rest
 induction rest with
 |nil=>
  intro dn ws se f ha ha4 hw DG ADN AKg AQw hf;obtain⟨f,rfl⟩:∃f',f=f'+1:=⟨f-1,by omega⟩;have pt:ws.getD a (0,[],())=(ep,dn++[],()):=hw;simp only[C3,I3,AB,ALN,pt,ALu];rw[AJe (by omega),AJk (by omega)];unfold BQ jn pkT;rw[show((ep,dn++[],()):AU)=ws.getD a CO from hw.symm,mH]
 |cons x rest ih=>
  intro dn ws se f ha ha4 hw DG ADN AKg AQw hf;obtain⟨f,rfl⟩:∃f',f=f'+1:=⟨f-1,by omega⟩;simp only[AMK]at hf;have pt:ws.getD a (0,[],())=(ep,dn++x::rest,()):=hw;have hwe:1<=ep/\ep<=30:=DG.ep;have hwn:(dn++x::rest).length<=60:=DG.n;have hww:Af BG (dn++x::rest)<=3000:=DG.w;have hwl:=hwn;simp only[AMf,AMK]at hwl;have ca:(0:Int)<=(a:Int)/\(a:Int)<(ws.length:Int):=by omega
  have cn:(0:Int)<=n/\n<(SS.length:Int):=⟨hn.1,hnS⟩;have zg:=Nv (e:=ep) (o:=(dn.length:Int)+1) hwe (by omega);have hpm:D_ ep ((dn.length:Int)+1)=G9 ep ((dn.length:Int)+1):=by
   grind[D_,An]
  have cd:(0:Int)<=(dn.length:Int)+1-1/\(dn.length:Int)+1-1<((dn++x::rest).length:Int):=by
   grind
  have e1:((dn.length:Int)+1-1).toNat=dn.length:=by omega
  have e2:(dn++x::rest).getD dn.length ([],[],false,())=x:=by simp[List.getD]
  have APf:SS.getD n.toNat ([],[],0,())=st:=ec;simp only[C3,I3,AB,Aq,Cv,ALN,pt,AJe ca,AJe cn];rw[AJe (by omega),Gw,hpm];simp only[AD,APf];rw[Oy st,Vr (by omega) hs.sin];simp only[AD];rw[AG (x:=(dn.length:Int)+1+1) (by omega) (by omega),AG (x:=(dn.length:Int)+1-1) (by omega) (by omega)];simp only[AJe cd,e1,e2];have go:∀(y:BH) (ws':List AU) (r7:List Ak),ws'.length=ws.length->ws'.getD a CO=(ep,dn++y::rest,())->(∀z,ws'.set a z=ws.set a z)->fK c (ep,dn++y::rest,())->rE r7->(∀s∈r7,0<=s.1/\s.1<2^40)->r7.length<=120->
    (if !x.2.2.1&&Mp st (G9 ep ((dn.length:Int)+1))then Ft c n x else x)=y->(if !x.2.2.1&&Mp st (G9 ep ((dn.length:Int)+1))&&(Ft c n x).2.2.1 then Ry (G9 ep ((dn.length:Int)+1)) se else se)=r7->
    C3 f (a:Int) n ((dn.length:Int)+1+1) c.2.1 tr tn c.1 SS lo er ws' ms rs r7=some (pkT c.1 c.2.1 tr tn SS lo er (ws.set a (ep,dn++BQ c st ep n ((dn.length:Int)+1) (x::rest),())) ms rs (jn c st ep n ((dn.length:Int)+1) (x::rest) se)):=fun y ws' r7 g1 g2 g3 g4 g5 g6 g7 g8 g9=>by
   have:=ih (dn++[y]) ws' r7 f (by omega) ha4 (by simp_all) (by simp_all) g5 g6 g7 (by omega);simp only[AMf,AMK,APb,AL3,ARR]at this;grind[BQ,jn]
  have stay:(if !x.2.2.1&&Mp st (G9 ep ((dn.length:Int)+1))then Ft c n x else x)=x->(if !x.2.2.1&&Mp st (G9 ep ((dn.length:Int)+1))&&(Ft c n x).2.2.1 then Ry (G9 ep ((dn.length:Int)+1)) se else se)=se->
    C3 f (a:Int) n ((dn.length:Int)+1+1) c.2.1 tr tn c.1 SS lo er ws ms rs se=some (pkT c.1 c.2.1 tr tn SS lo er (ws.set a (ep,dn++BQ c st ep n ((dn.length:Int)+1) (x::rest),())) ms rs (jn c st ep n ((dn.length:Int)+1) (x::rest) se)):=fun g8 g9=>go x ws se rfl hw (fun _=>rfl) DG ADN AKg AQw g8 g9
  have hsg:Zw st (G9 ep ((dn.length:Int)+1))=O0 (G9 ep ((dn.length:Int)+1)) st.1:=by unfold Zw;rw[Dg.2 hs,AJe rfl]
  rw[hsg];cases hxd:x.2.2.1 with
  |true=>
   grind
  |false=>
   rw[AKp];cases hg:O0 (G9 ep ((dn.length:Int)+1)) st.1 with
   |none=>
    grind[Mp,G9]
   |some e=>
    simp only[ALg];by_cases he0:e.2.1=0
    rotate_left
    ·have hh:Mp st (G9 ep ((dn.length:Int)+1))=false:=by grind[Mp]
     simp_all
    have hh:Mp st (G9 ep ((dn.length:Int)+1))=true:=by grind[Mp]
    rw[AJe he0];have hx:=DG.words x (by simp);have hb:fK c (ep,dn++Ft c n x::rest,()):=⟨DG.cfg,DG.ep,by grind,fun b hb=>by
     simp only[AMt,ANC]at hb;rcases hb with hb|rfl|hb
     ·exact DG.words b (by simp[hb])
     ·exact⟨hx.1,Mo hx.2.1 hn,rfl⟩
     ·exact DG.words b (by simp[hb]),APp (nK hxd) DG.opn⟩
    rw[show(c.1,c.2.1,())=c from rfl,l9 (c:=c) (w:=(ep,dn++x::rest,())) (by omega) (by grind)];have AIz:Sw c (ep,dn++x::rest,()) ((dn.length:Int)+1) n=((ep,dn++Ft c n x::rest,()),true):=by
     unfold Sw;rw[Ho.2 DG];simp only[ALR,ALY,ANX];rw[e1,show(dn++x::rest).getD dn.length Mg=x from e2,hxd];rw[AJe (by
      rw[ALJ,ALJ,An,An];grind)]
     grind
    rw[AIz];simp only[AD,pkW];have hx7:(ws.set a (ep,dn++Ft c n x::rest,())).getD a (0,[],())=(ep,dn++Ft c n x::rest,()):=Nu ha;have ca7:(0:Int)<=(a:Int)/\(a:Int)<((ws.set a (ep,dn++Ft c n x::rest,())).length:Int):=by grind
    have cd7:(0:Int)<=(dn.length:Int)+1-1/\(dn.length:Int)+1-1<((dn++Ft c n x::rest).length:Int):=by
     grind
    have e27:(dn++Ft c n x::rest).getD dn.length ([],[],false,())=Ft c n x:=by simp[List.getD]
    have hpr:0<=G9 ep ((dn.length:Int)+1)/\G9 ep ((dn.length:Int)+1)<2^40:=by unfold G9;omega
    obtain⟨q,hq,es⟩:=qQ ADN (by omega) AKg hpr;unfold IZ;rw[es];simp only[AD,hx7,AJe ca7,AJe cd7,e27];have aV:∀z,(ws.set a (ep,dn++Ft c n x::rest,())).set a z=ws.set a z:=fun z=>AVj ..
    have ALQ:(if !x.2.2.1&&Mp st (G9 ep ((dn.length:Int)+1))then Ft c n x else x)=Ft c n x:=by grind
    rcases AJd (dh (G9 ep ((dn.length:Int)+1)) se q)with hf|hf
    rotate_left
    ·rw[hf,AKp]
     refine go _ _ se (ARg ..) hx7 aV hb ADN AKg AQw ALQ ?_
     rw[ADs (xO hq ADN hf)];grind
    obtain⟨hql,hqe⟩:=ABj hf;rw[hf,ALg];cases hd:(Ft c n x).2.2.1 with
    |false=>
     grind
    |true=>
     rw[ALg,AJe (by omega),ALN,show se.getD q (0,[],false,())=se[q]from Uc hql,AG6 hql ADN hqe];refine go _ _ _ (ARg ..) hx7 aV hb (APl ADN) (fun s hs' => ?_) (by rw[AOC];omega) ALQ (by grind);grind[sm_at]
theorem ADO{tr:Int}{tn:Bool}{lo:AAA}{er:List Cx}{ws:List AU}{rs:List Ac}{se:List Ak}{a:Nat}{m:Az}(hm:ve c m):∀(rest dn:List AAA) (ms:List Az) (f:Nat),a<ms.length->a<=4->ms.getD a Su=(m.1,m.2.1,m.2.2.1,m.2.2.2.1,m.2.2.2.2.1,dn++rest,())->(dn++rest).length=m.2.2.2.2.2.1.length->(∀l∈dn++rest,BC c l=true)->
  rest.length<f->
  Ba f (a:Int) n ((dn.length:Int)+1) c.2.1 tr tn c.1 SS lo er ws ms rs se=some (pkT c.1 c.2.1 tr tn SS lo er ws (ms.set a (m.1,m.2.1,m.2.2.1,m.2.2.2.1,m.2.2.2.2.1,dn++Fa m st n ((dn.length:Int)+1) rest,())) rs se):=by
 have vX:=hs.w;have hmn:m.2.2.2.2.2.1.length<=60:=by
  have:=hm.n;have hb:=Hs (l:=m.2.2.2.1);omega
 intro rest
 induction rest with
 |nil=>
  intro dn ms f ha ha4 hw hl ho hf;obtain⟨f,rfl⟩:∃f',f=f'+1:=⟨f-1,by omega⟩;have pt:ms.getD a (0,0,[],[],false,[],())=(m.1,m.2.1,m.2.2.1,m.2.2.2.1,m.2.2.2.2.1,dn++[],()):=hw;simp only[Ba,HI,AB,ALN,pt,ALu];rw[AJe (by omega),AJk (by omega)];unfold Fa pkT;rw[show((m.1,m.2.1,m.2.2.1,m.2.2.2.1,m.2.2.2.2.1,dn++[],()):Az)=ms.getD a Su from hw.symm,mH]
 |cons x rest ih=>
  intro dn ms f ha ha4 hw hl ho hf;obtain⟨f,rfl⟩:∃f',f=f'+1:=⟨f-1,by omega⟩;simp only[AMK]at hf;have pt:ms.getD a (0,0,[],[],false,[],())=(m.1,m.2.1,m.2.2.1,m.2.2.2.1,m.2.2.2.2.1,dn++x::rest,()):=hw;have qR:=hl;simp only[AMf,AMK]at qR;have ca:(0:Int)<=(a:Int)/\(a:Int)<(ms.length:Int):=by omega
  have cn:(0:Int)<=n/\n<(SS.length:Int):=⟨hn.1,hnS⟩;have APf:SS.getD n.toNat ([],[],0,())=st:=ec;have cR:ve c (m.1,m.2.1,m.2.2.1,m.2.2.2.1,m.2.2.2.2.1,dn++x::rest,()):=⟨hm.cfg,hm.ep,hm.b,hm.sld,hm.asc,hm.seen,ho,by show((dn++x::rest).length:Int)=_;rw[hl];exact hm.n⟩;have hmw:=cR.w;simp only[Ba,HI,AB,Aq,Cv,ALN,pt,AJe ca,AJe cn];rw[AJe (by omega),bD (m:=(m.1,m.2.1,m.2.2.1,m.2.2.2.1,m.2.2.2.2.1,dn++x::rest,())) (by omega),fW hl];simp only[AD,APf];rw[Oy st,Vr (by omega) hs.sin];simp only[AD];rw[AG (x:=(dn.length:Int)+1+1) (by omega) (by omega)];have go:∀(y:AAA) (ms':List Az),ms'.length=ms.length->ms'.getD a Su=(m.1,m.2.1,m.2.2.1,m.2.2.2.1,m.2.2.2.2.1,dn++y::rest,())->(∀z,ms'.set a z=ms.set a z)->BC c y=true->
    (if Vw m st ((dn.length:Int)+1)then Ox n x else x)=y->
    Ba f (a:Int) n ((dn.length:Int)+1+1) c.2.1 tr tn c.1 SS lo er ws ms' rs se=some (pkT c.1 c.2.1 tr tn SS lo er ws (ms.set a (m.1,m.2.1,m.2.2.1,m.2.2.2.1,m.2.2.2.2.1,dn++Fa m st n ((dn.length:Int)+1) (x::rest),())) rs se):=fun y ms' g1 g2 g3 g4 g5=>by
   have:=ih (dn++[y]) ms' f (by omega) ha4 (by simp_all) (by simp_all) (fun l hl=>by
    grind) (by omega)
   simp only[AMf,AMK,APb,AL3,ARR]at this;grind[Fa]
  have hx:=ho x (by simp);have stay:Vw m st ((dn.length:Int)+1)=false->Ba f (a:Int) n ((dn.length:Int)+1+1) c.2.1 tr tn c.1 SS lo er ws ms rs se=some (pkT c.1 c.2.1 tr tn SS lo er ws (ms.set a (m.1,m.2.1,m.2.2.1,m.2.2.2.1,m.2.2.2.2.1,dn++Fa m st n ((dn.length:Int)+1) (x::rest),())) rs se):=fun g=>go x ms rfl hw (fun _=>rfl) hx (by simp_all)
  have hsg:∀p,Zw st p=O0 p st.1:=fun p=>by unfold Zw;rw[Dg.2 hs,AJe rfl]
  rw[hsg];cases he:Ea m ((dn.length:Int)+1)with
  |none=>
   simp only[ARE,AKp];grind[Vw]
  |some e=>
   simp only[AQ7,ALg,AQ_];cases hg:O0 e.1 st.1 with
   |none=>
    grind[Vw]
   |some y=>
    simp only[ALg,eqE,AB];by_cases hye:y=e
    rotate_left
    ·rw[AJk hye]
     grind[Vw]
    have hh:Vw m st ((dn.length:Int)+1)=true:=by grind[Vw]
    rw[AJe hye,show(c.1,c.2.1,())=c from rfl,rl (c:=c) (m:=(m.1,m.2.1,m.2.2.1,m.2.2.2.1,m.2.2.2.2.1,dn++x::rest,())) (by omega) (by omega) cR.ein];have AIz:bP c (m.1,m.2.1,m.2.2.1,m.2.2.2.1,m.2.2.2.2.1,dn++x::rest,()) ((dn.length:Int)+1) n=((m.1,m.2.1,m.2.2.1,m.2.2.2.1,m.2.2.2.2.1,dn++Ox n x::rest,()),true):=by
     unfold bP;rw[He.2 cR];have hq:(BE ((dn.length:Int)+1) 1 ((dn++x::rest).length:Int)&&BE n 0 ((c.1.length:Int)-1))=true:=by
      rw[ALJ,An,An];omega
     grind
    grind[AD,mc,Ox,List.length_set,Nu,List.set_set,Mo]
end
def lA(c:CQ)(s:AM)(ep n:Int):Int->List BH->Int->Bool
 |_,[],_=>false
 |o,x::l,p=>(decide (p=G9 ep o)&&(!x.2.2.1&&Mp s (G9 ep o)&&(Ft c n x).2.2.1))||lA c s ep n (o+1) l p
theorem xN{c:CQ}{st:AM}{ep n:Int}:∀{l:List BH} {o:Int} {se:List Ak},jn c st ep n o l se=se.map fun s=>(s.1,s.2.1,s.2.2.1||lA c st ep n o l s.1,())
 |[],o,se=>by
  simp only[jn,lA,AVr];simp_all
 |x::l,o,se=>by
  simp only[jn];rw[xN];rcases AJd (!x.2.2.1&&Mp st (G9 ep o)&&(Ft c n x).2.2.1)with hb|hb
  ·rw[hb,AJe rfl]
   unfold Ry;rw[AR5];refine ARF fun s _=> ?_
   simp only[Function.comp_apply,lA,hb,AQ5];grind
  ·rw[hb]
   simp only[ALY,ANX];refine ARF fun s _=> ?_
   simp only[lA,hb,AVW,APM]
theorem wq{c:CQ}{st:AM}{ep n p:Int}(hep:1<=ep/\ep<=30)(hp:Av p=true):∀{l:List BH} {o:Int},1<=o->o+l.length<=61->
  lA c st ep n o l p=(Ab p==ep&&(decide (o<=Bt p)&&(decide (Bt p<o+l.length)&&(((BQ c st ep n o l).getD (Bt p-o).toNat Mg).2.2.1&& !(l.getD (Bt p-o).toNat Mg).2.2.1))))
 |[],o,_,_=>by
  have:(decide (o<=Bt p)&&decide (Bt p<o+(([]:List BH).length:Int)))=false:=by
   simp_all
  rw[<-Bool.and_assoc (decide (o<=Bt p)),this,ARA,AVW];rfl
 |x::l,o,ho,hl=>by
  simp only[AMK]at hl;have hf:=GM hp;simp only[lA];rw[wq hep hp (l:=l) (o:=o+1) (by omega) (by omega)];by_cases he:Ab p=ep
  rotate_left
  ·grind[G9,Nv,beq_eq_false_iff_ne,decide_eq_false]
  rw[ARL.2 he];simp only[ALl,AMK];by_cases h1:Bt p=o
  ·have hpe:p=G9 ep o:=by simp_all
   have e0:(Bt p-o).toNat=0:=by omega
   rw[AM_ hpe,AQK (show¬o+1<=Bt p by omega),AM_ (show o<=Bt p by omega),AM_ (show Bt p<o+((l.length+1:Nat):Int)by omega),e0];simp only[ALl,ARA,AVr,BQ,List.getD_cons_zero];grind
  ·have aO:p≠G9 ep o:=fun e=>h1 (by grind[Nv])
   rw[AQK aO,ARA,APM];by_cases h2:o<=Bt p
   ·rw[AM_ h2,AM_ (show o+1<=Bt p by omega)]
    have e1:(Bt p-o).toNat=(Bt p-(o+1)).toNat+1:=by omega
    rw[e1];simp only[BQ,List.getD_cons_succ];grind
   grind
theorem jg{c:CQ}{st:AM}{ep n:Int}:∀{l:List BH} {o:Int},(BQ c st ep n o l).length=l.length
 |[],_=>rfl
 |x::l,o=>by simp only[BQ,AMK,jg]
theorem ACY{c:CQ}{st:AM}{ep n:Int}(hep:1<=ep/\ep<=30){l:List BH}(hl:l.length<=60){se:List Ak}(hs:∀s∈se,Av s.1=true):jn c st ep n 1 l se=se.map (T7 false ep l (BQ c st ep n 1 l)):=by
 rw[xN];refine ARF fun s hm=> ?_
 have hf:=GM (hs s hm);unfold T7 Ib;rw[wq hep (hs s hm) (by omega) (by omega),jg];by_cases h1:Bt s.1<=l.length
 ·have:BE (Bt s.1) 1 (l.length:Int)=true:=An.2 (by omega)
  grind
 ·have:BE (Bt s.1) 1 (l.length:Int)=false:=by
   rw[<-AMv,An];omega
  grind
def AI1(q:AA×Int):gE:=((q.2,()),(((),q.1.2.1,(),(),(),q.1.2.2.2.2.2.1,(),(),(),(),q.1.2.2.2.2.2.2.2.2.2.2.1,()),q.1.1,q.1.2.2.1,(),(),(),(),q.1.2.2.2.2.2.2.2.2.1,(),q.1.2.2.2.1,q.1.2.2.2.2.1,q.1.2.2.2.2.2.2.1,q.1.2.2.2.2.2.2.2.1,q.1.2.2.2.2.2.2.2.2.2.1,()))
def ww(w:AA)(SS:List AM)(ws:List AU)(ms:List Az)(se:List Ak):AA:=(((w.CS SS).Bm ws).Dd se).Ct ms
section
variable{w:AA} (h:RX w) {st:AM} {SS:List AM} {n:Int} (hs:jU st) (hn:0<=n/\n<(Ae w).1.length) (hnS:n<(SS.length:Int)) (ec:SS.getD n.toNat Dp=st)
include h hs hn hnS ec
theorem AIZ{ws:List AU}{se:List Ak}:∀(k i:Nat),w.2.2.2.2.2.2.2.1.length-i=k->i<=w.2.2.2.2.2.2.2.1.length-> ∀f,k<f->
  FN f n w.2.2.2.2.2.2.2.1.length i w.2.1 w.2.2.2.2.2.1 w.2.2.2.2.2.2.2.2.2.2.1 w.1 SS w.2.2.2.1 w.2.2.2.2.1 ws ((w.2.2.2.2.2.2.2.1.map (Mf st w.BF n)).take i++w.2.2.2.2.2.2.2.1.drop i) w.2.2.2.2.2.2.2.2.1 se=some (pA (ww w SS ws (w.2.2.2.2.2.2.2.1.map (Mf st w.BF n)) se,0)):=by
 have k:=h.nums;have k1:=k.c;have k5:=k.era;have k6:=k.md;intro k
 induction k with
 |zero=>
  intro i hk hi f hf;obtain⟨f,rfl⟩:∃f',f=f'+1:=⟨f-1,by omega⟩;have:i=w.2.2.2.2.2.2.2.1.length:=by omega
  simp only[FN,NJ,AB];rw[AJk (by omega),this,ARO,ALu,AOe (by simp)];rfl
 |succ k ih=>
  intro i hk hi f hf;obtain⟨f,rfl⟩:∃f',f=f'+1:=⟨f-1,by omega⟩;have Dc:i<w.2.2.2.2.2.2.2.1.length:=by omega
  have hm:=(h.CY _ (ALk Dc)).1;have hme:=hm.ep;have WG:(Br w.BF w.2.2.2.2.2.2.2.1[i].2.1).length<=8:=Gy h;simp only[FN,NJ,AB];rw[QU hi,AJe (by omega),AJe (by omega),ALN,Na Dc,show(w.2.2.2.2.1,w.2.2.2.2.2.1,())=CT w from rfl,QS (r:=CT w) (by show Af B_ w.2.2.2.2.1<=_;omega) ⟨by omega,by omega⟩];rw[show(CT w).1=w.BF from rfl];simp only[AD];rw[JB (by omega),AG (x:=(i:Int)+1) (by omega) (by omega),show((i:Int)+1)=((i+1:Nat):Int)by omega];simp only[AD];have nx:=ih (i+1) (by omega) (by omega) f (by omega);rcases AJd ((Br w.BF w.2.2.2.2.2.2.2.1[i].2.1).contains n)with hc|hc
  ·have hT:Mf st w.BF n w.2.2.2.2.2.2.2.1[i]=(w.2.2.2.2.2.2.2.1[i].1,w.2.2.2.2.2.2.2.1[i].2.1,w.2.2.2.2.2.2.2.1[i].2.2.1,w.2.2.2.2.2.2.2.1[i].2.2.2.1,w.2.2.2.2.2.2.2.1[i].2.2.2.2.1,Fa w.2.2.2.2.2.2.2.1[i] st n 1 w.2.2.2.2.2.2.2.1[i].2.2.2.2.2.1,()):=by
    unfold Mf;simp_all
   have hmn:w.2.2.2.2.2.2.2.1[i].2.2.2.2.2.1.length<=60:=by
    have:=hm.n;have hb:=Hs (l:=w.2.2.2.2.2.2.2.1[i].2.2.2.1);omega
   have:=ADO (c:=Ae w) (tr:=w.2.2.2.2.2.1) (tn:=w.2.2.2.2.2.2.2.2.2.2.1) (lo:=w.2.2.2.1) (er:=w.2.2.2.2.1) (ws:=ws) (rs:=w.2.2.2.2.2.2.2.2.1) (se:=se) (a:=i) k1 hs hn hnS ec hm w.2.2.2.2.2.2.2.1[i].2.2.2.2.2.1 [] ((w.2.2.2.2.2.2.2.1.map (Mf st w.BF n)).take i++w.2.2.2.2.2.2.2.1.drop i) AW (by simp_all) (by omega) (Na Dc) rfl (by simpa using hm.wrote) (Aa (by omega));rw[hc,ALg];unfold LU KR;simp only[APb,AQH]at this;have e1:(((0:Nat):Int)+1)=1:=rfl;rw[e1]at this;rw[show(w.2.1:Int)=(Ae w).2.1 from rfl,show w.1=(Ae w).1 from rfl,this];simp only[AD,pkT];rw[Re Dc hT.symm];exact nx
  ·have hT:Mf st w.BF n w.2.2.2.2.2.2.2.1[i]=w.2.2.2.2.2.2.2.1[i]:=by
    unfold Mf;simp_all
   rw[hc,AKp,l3 Dc hT];omega
theorem AJP:∀(rest pre:List AU) (se:List Ak) (f:Nat),pre.length+rest.length=w.2.2.2.2.2.2.1.length->(∀x∈rest,fK (Ae w) x)->rE se->(∀s∈se,Av s.1=true)->se.length<=120->rest.length+w.2.2.2.2.2.2.2.1.length+1<f->
  Ew f n w.2.2.2.2.2.2.1.length pre.length w.2.1 w.2.2.2.2.2.1 w.2.2.2.2.2.2.2.2.2.2.1 w.1 SS w.2.2.2.1 w.2.2.2.2.1 (pre++rest) w.2.2.2.2.2.2.2.1 w.2.2.2.2.2.2.2.2.1 se st.2.2.1=
   some (pA (ww w SS (pre++(FB false (Ae w) st w.BF n rest se).1) (w.2.2.2.2.2.2.2.1.map (Mf st w.BF n)) (FB false (Ae w) st w.BF n rest se).2,0)):=by
 have k:=h.nums;have k1:=k.c;have k2:=k.wr;have k5:=k.era;have k6:=k.md;have hb:∀{p:Int},Av p=true->0<=p/\p<2^40:=fun{p} hp=>by
  have h1:=GM hp;grind[G9]
 intro rest
 induction rest with
 |nil=>
  intro pre se f hl hw ha hp hsl hf;obtain⟨f,rfl⟩:∃f',f=f'+1:=⟨f-1,by omega⟩;simp only[APb]at hl hf;simp only[Ew,OC,AB,ALu];rw[AJk (by omega)];have:=AIZ h hs hn hnS ec (ws:=pre) (se:=se) w.2.2.2.2.2.2.2.1.length 0 (by omega) (by omega) f (by omega);rw[show((0:Nat):Int)=0 from rfl,AP7,AV1,AQH]at this;grind[FB]
 |cons x rest ih=>
  intro pre se f hl hw ha hp hsl hf;obtain⟨f,rfl⟩:∃f',f=f'+1:=⟨f-1,by omega⟩;simp only[AMK]at hl hf;have hx:=hw x (by simp);have hxe:=hx.ep;have hxn:=hx.n;have zg:(pre++x::rest).length=pre.length+(rest.length+1):=by simp
  have cp:(0:Int)<=(pre.length:Int)/\(pre.length:Int)<((pre++x::rest).length:Int):=by omega
  have e2:(pre++x::rest).getD pre.length (0,[],())=x:=by simp[List.getD]
  have WG:(Br w.BF x.1).length<=8:=Gy h;simp only[Ew,OC,AB,ALN,AJe cp,e2];rw[AJe (by omega),show(w.2.2.2.2.1,w.2.2.2.2.2.1,())=CT w from rfl,QS (r:=CT w) (by show Af B_ w.2.2.2.2.1<=_;omega) ⟨by omega,by omega⟩];rw[show(CT w).1=w.BF from rfl];simp only[AD];rw[JB (by omega),AG (x:=(pre.length:Int)+1) (by omega) (by omega),show((pre.length:Int)+1)=((pre.length+1:Nat):Int)by omega];simp only[AD];have next:∀(b:AU) (r7:List Ak),rE r7->(∀s∈r7,Av s.1=true)->r7.length<=120->
    Ew f n w.2.2.2.2.2.2.1.length ((pre.length+1:Nat):Int) w.2.1 w.2.2.2.2.2.1 w.2.2.2.2.2.2.2.2.2.2.1 w.1 SS w.2.2.2.1 w.2.2.2.2.1 (pre++b::rest) w.2.2.2.2.2.2.2.1 w.2.2.2.2.2.2.2.2.1 r7 st.2.2.1=
     some (pA (ww w SS (pre++b::(FB false (Ae w) st w.BF n rest r7).1) (w.2.2.2.2.2.2.2.1.map (Mf st w.BF n)) (FB false (Ae w) st w.BF n rest r7).2,0)):=fun b r7 h1 h2 h3=>by
   have:=ih (pre++[b]) r7 f (by grind) (fun x hx=>hw x (by simp[hx])) h1 h2 h3 (by omega);simp_all
  simp only[FB];rcases AJd (Pf st w.BF n x)with ht|ht
  rotate_left
  ·rw[ht]
   simp only[ALY,ANX];unfold Pf at ht;by_cases Ix:x.1>st.2.2.1
   ·grind
   grind
  ·rw[ht]
   simp only[AQY];unfold Pf at ht;rw[ALJ,ALh]at ht;rw[AJe (show x.1>st.2.2.1 from ht.2),ht.1,ALg];have:=ACs (c:=Ae w) (tr:=w.2.2.2.2.2.1) (tn:=w.2.2.2.2.2.2.2.2.2.2.1) (lo:=w.2.2.2.1) (er:=w.2.2.2.2.1) (ms:=w.2.2.2.2.2.2.2.1) (rs:=w.2.2.2.2.2.2.2.2.1) (a:=pre.length) (ep:=x.1) k1 hs hn hnS ec x.2.1 [] (pre++x::rest) se AW (by omega) (by omega) (show(pre++x::rest).getD pre.length (0,[],())=x from e2) hx ha (fun s hs' =>hb (hp s hs')) hsl (Aa (by omega));unfold OE Of;simp only[APb,AQH]at this;have e1:(((0:Nat):Int)+1)=1:=rfl;rw[e1,ACY hxe hxn hp,AVn _ _ (by omega),AVx,AVa]at this;rw[show(w.2.1:Int)=(Ae w).2.1 from rfl,show w.1=(Ae w).1 from rfl,this];simp only[AD,pkT];refine next _ _ ?_ (fun s hs' => ?_) (by simp_all)
   ·unfold rE XT
    rw[AU_];exact List.Pairwise.imp (fun{a b} v7=>v7) ha
   ·obtain⟨s',h1,rfl⟩:=ARG.1 hs'
    exact hp s' h1
end
section
variable{w:AA} (h:RX w)
include h
theorem ks{n:Int}:RM n w.2.1 w.2.2.2.2.2.1 w.2.2.2.2.2.2.2.2.2.2.1 w.1 w.2.2.1 w.2.2.2.1 w.2.2.2.2.1 w.2.2.2.2.2.2.1 w.2.2.2.2.2.2.2.1 w.2.2.2.2.2.2.2.2.1 w.2.2.2.2.2.2.2.2.2.1=some (pA (Qi false w n)):=by
 have k:=h.nums;have k1:=k.c;have k2:=k.wr;have k3:=k.lost;have k4:=k.st;have eH:=k.mC;have lF:=k.KO;have nG:=k.lG;have k5:=k.era;have k7:=k.fI;unfold RM Uu Qi;rw[Fo w,Lk (by omega) (by omega)];simp only[AD,Cv,Aq];by_cases h3:Au w n=0
 rotate_left
 ·rw[AJk h3,AJe h3];rfl
 obtain⟨hr,s1,s2,s3⟩:=h.MQ h3;have ec:w.2.2.1.getD n.toNat ([],[],0,())=storeAt w n:=rfl;rw[AJe h3,AJk (show¬(Au w n≠0)from fun hh=>hh h3)];simp only[AJe hr,ec];rw[show((storeAt w n).1,(storeAt w n).2.1,(storeAt w n).2.2.1,())=storeAt w n from rfl,bE s1 s2];simp only[AD,qX];rcases AJd (Cw (storeAt w n)).2 with hq|hq
 rotate_left
 ·rw[hq,Iz];rfl
 rw[hq,F9,ALg];have DG:jU (Cw (storeAt w n)).1:=(Q0 hq).2.1;have AWp:n.toNat<w.2.2.1.length:=by omega
 have:=AJP h (st:=(Cw (storeAt w n)).1) (SS:=w.2.2.1.set n.toNat (Cw (storeAt w n)).1) (n:=n) DG (h.node h3).1 (by simp_all) (Nu AWp) w.2.2.2.2.2.2.1 [] w.2.2.2.2.2.2.2.2.2.1 AW (by simp) (fun x hx=>(h.AL x hx).1) h.de (fun s hs=>(h.CI s hs).1) k.se (Aa (by have:=k.md;omega));simp only[APb,AQH]at this;rw[show((0:Nat):Int)=0 from rfl]at this;exact this
theorem AH1{n:Int}{ss:List AM}{ls:AAA}{ws:List AU}(hls:ls.length<=2^20):∀(f i:Nat),i<=w.2.2.2.2.2.2.2.1.length->w.2.2.2.2.2.2.2.1.length-i<f->
  G7 f n w.2.2.2.2.2.2.2.1.length i w.2.1 w.2.2.2.2.2.1 w.2.2.2.2.2.2.2.2.2.2.1 w.1 ss w.2.2.2.1 w.2.2.2.2.1 ws ((w.2.2.2.2.2.2.2.1.map fun m=>(CK (Ae w) m n).1).take i++w.2.2.2.2.2.2.2.1.drop i) w.2.2.2.2.2.2.2.2.1 w.2.2.2.2.2.2.2.2.2.1 ls=
   some (AJL (((((w.CS ss).FH ls).Bm ws).Ct (w.2.2.2.2.2.2.2.1.map fun m=>(CK (Ae w) m n).1)).FV (w.I6||holds (Ae w) ls),0)):=by
 have k:=h.nums;have k1:=k.c;have k6:=k.md;intro f
 induction f with
 |zero=>omega
 |succ f ih=>
  intro i hi hn;have hlen:=QU (f:=fun m:Az=>(CK (Ae w) m n).1) hi;simp only[G7,Tl,AB,Aq,hlen];by_cases Dc:i<w.2.2.2.2.2.2.2.1.length
  ·have c1:(0:Int)<=(i:Int)/\(i:Int)<(w.2.2.2.2.2.2.2.1.length:Int):=by omega
   have hm:=(h.CY _ (ALk Dc)).1;have hmw:=hm.w;have hg:((w.2.2.2.2.2.2.2.1.map fun m=>(CK (Ae w) m n).1).take i++w.2.2.2.2.2.2.2.1.drop i).getD i (0,0,[],[],false,[],())=w.2.2.2.2.2.2.2.1[i]:=Na Dc;simp only[AJe c1,AJe c1.2,ALN,hg];rw[AG (by omega) (by omega),show((i:Int)+1)=((i+1:Nat):Int)by omega,W8 (w.2.2.2.2.2.2.2.1[i]),show(w.1,w.2.1,())=Ae w from rfl,kG (c:=Ae w) (by show w.1.length<=_;omega) (by omega) hm.ein];simp only[AD,mc];rw[show((CK (Ae w) w.2.2.2.2.2.2.2.1[i] n).1.1,(CK (Ae w) w.2.2.2.2.2.2.2.1[i] n).1.2.1,(CK (Ae w) w.2.2.2.2.2.2.2.1[i] n).1.2.2.1,(CK (Ae w) w.2.2.2.2.2.2.2.1[i] n).1.2.2.2.1,(CK (Ae w) w.2.2.2.2.2.2.2.1[i] n).1.2.2.2.2.1,(CK (Ae w) w.2.2.2.2.2.2.2.1[i] n).1.2.2.2.2.2.1,())=(CK (Ae w) w.2.2.2.2.2.2.2.1[i] n).1 from rfl,Re Dc rfl];grind
  ·have:i=w.2.2.2.2.2.2.2.1.length:=by omega
   rw[AJk (by omega),this,ARO,ALu,AOe (by simp),show(w.1,w.2.1,())=Ae w from rfl,Gc (by show w.1.length<=_;omega) (by omega)];simp only[AD];cases ht:w.2.2.2.2.2.2.2.2.2.2.1 with
   |true=>
    have ht':w.I6=true:=ht;rw[ht'];rfl
   |false=>
    have ht':w.I6=false:=ht;rw[ht'];rfl
theorem AJu{n:Int}{ss:List AM}{ls:AAA}(hls:ls.length<=2^20):∀(f i:Nat),i<=w.2.2.2.2.2.2.1.length->(w.2.2.2.2.2.2.1.length-i)+w.2.2.2.2.2.2.2.1.length+2<=f->
  HU f n w.2.2.2.2.2.2.1.length i w.2.1 w.2.2.2.2.2.1 w.2.2.2.2.2.2.2.2.2.2.1 w.1 ss w.2.2.2.1 w.2.2.2.2.1 ((w.2.2.2.2.2.2.1.map fun x=>(CC (Ae w) x n).1).take i++w.2.2.2.2.2.2.1.drop i) w.2.2.2.2.2.2.2.1 w.2.2.2.2.2.2.2.2.1 w.2.2.2.2.2.2.2.2.2.1 ls=
   some (AJL (((((w.CS ss).FH ls).Bm (w.2.2.2.2.2.2.1.map fun x=>(CC (Ae w) x n).1)).Ct (w.2.2.2.2.2.2.2.1.map fun m=>(CK (Ae w) m n).1)).FV (w.I6||holds (Ae w) ls),0)):=by
 have k:=h.nums;have k1:=k.c;have k6:=k.wr;intro f
 induction f with
 |zero=>omega
 |succ f ih=>
  intro i hi hn;have hlen:=QU (f:=fun x:AU=>(CC (Ae w) x n).1) hi;simp only[HU,Uw,AB,Aq,hlen];by_cases Dc:i<w.2.2.2.2.2.2.1.length
  ·have c1:(0:Int)<=(i:Int)/\(i:Int)<(w.2.2.2.2.2.2.1.length:Int):=by omega
   have hm:=(h.AL _ (ALk Dc)).1;have hmw:=hm.w;have hg:((w.2.2.2.2.2.2.1.map fun x=>(CC (Ae w) x n).1).take i++w.2.2.2.2.2.2.1.drop i).getD i (0,[],())=w.2.2.2.2.2.2.1[i]:=Na Dc;simp only[AJe c1,AJe c1.2,ALN,hg];rw[AG (by omega) (by omega),show((i:Int)+1)=((i+1:Nat):Int)by omega,show(w.2.2.2.2.2.2.1[i].1,w.2.2.2.2.2.2.1[i].2.1,())=w.2.2.2.2.2.2.1[i]from rfl,show(w.1,w.2.1,())=Ae w from rfl,iW (c:=Ae w) (by show w.1.length<=_;omega) (by have:Ao w.2.2.2.2.2.2.1[i]=Af BG w.2.2.2.2.2.2.1[i].2.1:=rfl;omega)];simp only[AD,pkW];rw[show((CC (Ae w) w.2.2.2.2.2.2.1[i] n).1.1,(CC (Ae w) w.2.2.2.2.2.2.1[i] n).1.2.1,())=(CC (Ae w) w.2.2.2.2.2.2.1[i] n).1 from rfl,Re Dc rfl];grind
  ·have:i=w.2.2.2.2.2.2.1.length:=by omega
   have k12:=AH1 h (n:=n) (ss:=ss) (ws:=w.2.2.2.2.2.2.1.map fun x=>(CC (Ae w) x n).1) hls f 0 (by omega) (by omega);grind
theorem kq{n:Int}:Ra n w.2.1 w.2.2.2.2.2.1 w.2.2.2.2.2.2.2.2.2.2.1 w.1 w.2.2.1 w.2.2.2.1 w.2.2.2.2.1 w.2.2.2.2.2.2.1 w.2.2.2.2.2.2.2.1 w.2.2.2.2.2.2.2.2.1 w.2.2.2.2.2.2.2.2.2.1=some (AJL (Rw w n)):=by
 have k:=h.nums;have k1:=k.c;have k2:=k.wr;have k3:=k.lost;have k4:=k.st;have eH:=k.mC;have lF:=k.KO;have nG:=k.lG;have k5:=k.era;have k7:=k.fI;have k6:=k.md;unfold Ra U5 Rw;rw[Fo w,Lk (by omega) (by omega)];simp only[AD,Cv];by_cases h3:Au w n=0
 rotate_left
 ·rw[AJk h3,AJe h3];rfl
 obtain⟨hr,s1,s2,s3⟩:=h.MQ h3;rw[AJe h3,AJk (show¬(Au w n≠0)from fun hh=>hh h3),AJe hr,QT (Eo.1 h.lost).2.2 (by omega)];simp only[AD];have hp:=Wg (n:=n) (l:=w.2.2.2.1);have:=AJu h (n:=n) (ss:=w.2.2.1.set n.toNat ([],[],0,())) (ls:=Ox n w.2.2.2.1) (by omega) AW 0 (by omega) (AS_ (Aa (by omega)));simp_all
theorem oT{d:Al}(Zc:lg w)(h64:Bp d.2.1)(hd:d.2.2.2.2.1.length<=40)(hk:1<=d.1/\d.1<=16):V0 d w.2.1 w.2.2.2.2.2.1 w.2.2.2.2.2.2.2.2.2.2.1 w.1 w.2.2.1 w.2.2.2.1 w.2.2.2.2.1 w.2.2.2.2.2.2.1 w.2.2.2.2.2.2.2.1 w.2.2.2.2.2.2.2.2.1 w.2.2.2.2.2.2.2.2.2.1=some (AI1 (LO false w d)):=by
 have k:=h.nums;have k1:=k.c;have k2:=k.wr;have k3:=k.lost;have k4:=k.st;have eH:=k.mC;have lF:=k.KO;have nG:=k.lG;have k5:=k.era;have k7:=k.fI;unfold V0 LO;rw[uv d];simp only[DL];by_cases c1:d.1=1
 ·rw[AJe c1,AJe c1,j5 h];rfl
 rw[AJk c1,AJk c1];by_cases c2:d.1=2
 ·rw[AJe c2,AJe c2,lW h hd];rfl
 rw[AJk c2,AJk c2];by_cases c3:d.1=3
 ·rw[AJe c3,AJe c3,jN h];rfl
 rw[AJk c3,AJk c3];by_cases c4:d.1=4
 ·rw[AJe c4,AJe c4,ks h];rfl
 rw[AJk c4,AJk c4];by_cases c5:d.1=5
 ·rw[AJe c5,AJe c5,jT h];rfl
 rw[AJk c5,AJk c5];by_cases c6:d.1=6
 ·rw[AJe c6,AJe c6,kq h];rfl
 rw[AJk c6,AJk c6];by_cases c7:d.1=7
 ·rw[AJe c7,AJe c7,lD h];rfl
 rw[AJk c7,AJk c7];by_cases c8:d.1=8
 ·rw[AJe c8,AJe c8,jy h];rfl
 rw[AJk c8,AJk c8];by_cases c9:d.1=9
 ·rw[AJe c9,AJe c9,kO h];rfl
 rw[AJk c9,AJk c9];by_cases c10:d.1=10
 ·rw[AJe c10,AJe c10,kS h];rfl
 rw[AJk c10,AJk c10];by_cases c11:d.1=11
 ·rw[AJe c11,AJe c11,mB h];rfl
 rw[AJk c11,AJk c11];by_cases c12:d.1=12
 ·rw[AJe c12,AJe c12,jW h];rfl
 rw[AJk c12,AJk c12];by_cases c13:d.1=13
 ·rw[AJe c13,AJe c13,show(w.1,w.2.1,())=Ae w from rfl,show(w.2.2.2.2.1,w.2.2.2.2.2.1,())=CT w from rfl,rW (c:=Ae w) (r:=CT w) (by show w.1.length<=_;omega) (by show Af B_ w.2.2.2.2.1<=_;omega) k.trim h64]
  simp only[AD,pkR,QY];unfold Xi;dsimp only;rcases AJd (QG (Ae w) (CT w) d.2.1).2 with hq|hq
  ·rw[hq,F9];rfl
  ·have e:(QG (Ae w) (CT w) d.2.1).1=CT w:=by
    unfold QG at hq|-;rw[KU.2 h.rH]at hq|-;grind
   rw[hq,e,Iz];rfl
 rw[AJk c13,AJk c13];by_cases c14:d.1=14
 ·rw[AJe c14,AJe c14,kU h Zc];rfl
 rw[AJk c14,AJk c14];by_cases c16:d.1=16
 ·rw[AJe c16,AJk (show¬d.1=15 by omega),jM h];rfl
 rw[AJk c16,AJe (show d.1=15 by omega),AG (x:=(w.2.2.2.2.2.2.1.length:Int)-1) (by omega) (by omega),Ax];simp only[AD,Aq];unfold VD;rw[show BE d.2.1 0 ((w.2.2.2.2.2.2.1.length:Int)-1)=BE d.2.1 0 ((w.AL.length:Int)-1)from rfl];rcases AJd (BE d.2.1 0 ((w.AL.length:Int)-1))with h1|h1
 rotate_left
 ·rw[h1,Iz];rfl
 obtain⟨x1,x2,x3⟩:=h.gy h1;rw[h1,ALg,F9,AG (x:=d.2.1+1) (by omega) (by omega)];unfold FF AHA;rw[AJe (by omega)];simp only[ASt,AD];rw[show(d.2.1+1).toNat=d.2.1.toNat+1 by omega,<-List.eraseIdx_eq_take_drop_succ];rfl
theorem oH{d:Al}(Zc:lg w)(h64:Bp d.2.1):Mk w d=some (pkD (Fu false w d)):=by
 unfold Mk Fu;rw[Fo w,uv d,Fp Zc,iV,al Zc];simp only[AD,Aq,Cv];rw[JG.2 h];rcases AJd (GS d)with hd|hd
 rotate_left
 ·rw[hd];rfl
 have hk:1<=d.1/\d.1<=16:=by
  unfold GS at hd;exact An.1 (ALJ _ _▸hd).1
 rw[hd,ALg,ALg,oT h Zc h64 (j9 hd) hk];simp only[AD,ALR,AVr,ALY,ANX];by_cases hc:(LO false w d).2=0
 ·rw[AJe (show(AI1 (LO false w d)).1.1=0 from hc)]
  generalize hg:LO false w d=q at hc|-
  obtain⟨v,co⟩:=q;dsimp only at hc;subst hc;rfl
 ·rw[AJk (show¬(AI1 (LO false w d)).1.1=0 from hc)]
  have:=sM hc;rw[show LO false w d=(w,(LO false w d).2)by grind];rfl
end
theorem rQ{w:AA}{d:Al}(Zc:lg w)(h64:Bp d.2.1):Mk w d=some (pkD (Fu false w d)):=by
 rcases AJd (DA w)with hw|hw
 ·grind[oH,JG]
 ·unfold Mk Fu
  rw[Fo w,Fp Zc,hw];rfl
def bare(se:List Ak):List (Int×List UInt8):=se.map fun s=>(s.1,s.2.1)
section
variable{w:AA} {se:List Ak}
end
theorem AG4{l m:List Ak}(h:bare l=bare m):l.length=m.length:=by
 have:=congrArg List.length h;grind[bare]
section
variable{w:AA}
end
theorem AIp{l m:List Ak}(h:bare l=bare m){s:Ak}(hs:s∈l):∃t∈m,t.1=s.1/\t.2.1=s.2.1:=by
 have h1:(s.1,s.2.1)∈bare m:=by rw[<-h];exact ARG.2 ⟨s,hs,rfl⟩
 obtain⟨t,ht,e⟩:=ARG.1 h1;grind
theorem AIe{l m:List Ak}(h:bare l=bare m)(ha:XT (fun s:Ak=>s.1) l):XT (fun s:Ak=>s.1) m:=by
 have e:∀l:List Ak,XT (fun s:Ak=>s.1) l↔(bare l).Pairwise fun x y=>x.1<y.1:=fun l=>by
  unfold bare XT;rw[AU_]
 simp_all
theorem RX.Dd{w:AA}{se:List Ak}(hw:RX w)(h:bare se=bare w.CI):RX (w.Dd se) where
 cfg:=hw.cfg
 vY:=hw.vY
 lost:=hw.lost
 I6:=hw.I6
 Bd:=hw.Bd
 rH:=hw.rH
 we:=hw.we
 nmd:=hw.nmd
 AL:=hw.AL
 jR:=hw.jR
 CY:=hw.CY
 tO:=hw.tO
 Ai:=hw.Ai
 Ui:=by
  have:=hw.Ui;grind[AG4]
 CI:=fun s hs=>by
  obtain⟨t,ht,e1,e2⟩:=AIp h (show s∈se from hs);have:=hw.CI t ht;simp_all
 de:=AIe h.symm hw.de
structure Up (w v:AA):Prop where
 rd:∀k,k<2->G9 (w.Ai.getD k AR).1 (w.Ai.getD k AR).2.1<=G9 (v.Ai.getD k AR).1 (v.Ai.getD k AR).2.1/\(w.Ai.getD k AR).2.2.1.length<=(v.Ai.getD k AR).2.2.1.length
 er:w.BF.length<=v.BF.length/\ ∀i,i<w.BF.length->(w.BF.getD i Hp).2.1=true->(v.BF.getD i Hp).2.1=true/\(v.BF.getD i Hp).2.2.1=(w.BF.getD i Hp).2.2.1
 I6:w.I6=true->v.I6=true
 se:w.CI.length<=v.CI.length
section
variable{w:AA} (hw:RX w)
end
structure Yu (w:AA) (q:aR):Prop where
 code:q.2≠1
 keep:q.2≠0->q.1=w
 rd:q.1.Ai=w.Ai
theorem Yu.no{w:AA}{k:Int}(h:k≠1):Yu w (w,k):=⟨h,fun _=>rfl,rfl⟩
theorem Yu.yes{w v:AA}(h:v.Ai=w.Ai):Yu w (v,0):=⟨by simp,fun h=>absurd rfl h,h⟩
section
variable{w:AA}
theorem Pw{n:Int}:Au w n≠1:=by
 grind[Au]
theorem iw{n:Int}{q:AM×Bool}:Yu w (putAt w n q):=by
 unfold putAt;split
 ·exact .yes rfl
 ·exact .no (by decide)
theorem AHu{a:Int}:Yu w (Qk w a):=by
 unfold Qk;split
 ·exact .no (by decide)
 dsimp only;split
 ·exact .no (by decide)
 ·exact .yes rfl
theorem AJp{a:Int}{d:ABF}:Yu w (doAdd w a d):=by
 unfold doAdd;split
 ·exact .no (by decide)
 dsimp only;split
 ·exact .no (by decide)
 ·exact .yes rfl
theorem AF0{a b n:Int}:Yu w (OL w a b n):=by
 unfold OL;split
 ·exact .no (by decide)
 dsimp only;split
 ·exact .no (by decide)
 split
 ·exact .no Pw
 split
 ·exact .no (by decide)
 ·exact iw
theorem AIx{all:Bool}{n:Int}:Yu w (Qi all w n):=by
 unfold Qi;split
 ·exact .no Pw
 dsimp only;split
 ·exact .no (by decide)
 ·exact .yes rfl
theorem AFZ{n k:Int}:Yu w (OT w n k):=by
 unfold OT;split
 ·exact .no Pw
 ·exact iw
theorem AGk{n:Int}:Yu w (Rw w n):=by
 unfold Rw;split
 ·exact .no Pw
 ·exact .yes rfl
theorem AHh{n:Int}:Yu w (UH w n):=by
 unfold UH;split
 ·exact .no (by decide)
 dsimp only;split
 ·exact .no (by decide)
 ·exact .yes rfl
theorem AGa:Yu w (UJ w):=by
 unfold UJ;split
 ·exact .no (by decide)
 split
 ·exact .no (by decide)
 ·exact .yes rfl
theorem AIT{n:Int}:Yu w (Ti w n):=by
 unfold Ti;split
 ·exact .no (by decide)
 split
 ·exact .no Pw
 split
 ·exact .no (by decide)
 dsimp only;split
 ·exact .no (by decide)
 ·exact .yes rfl
theorem AH9:Yu w (Tb w):=by
 unfold Tb;split
 ·exact .no (by decide)
 dsimp only;split
 ·exact .no (by decide)
 ·exact .yes rfl
theorem AKQ{b n:Int}:Yu w (bd w b n):=by
 unfold bd;split
 ·exact .no (by decide)
 split
 ·exact .no (by decide)
 split
 ·exact .no Pw
 split
 ·exact .no (by decide)
 ·exact iw
theorem AFU:Yu w (Oj w):=by
 unfold Oj;split
 ·exact .no (by decide)
 split
 ·exact .no (by decide)
 dsimp only;split
 ·exact .no (by decide)
 ·exact .yes rfl
theorem AG5{a:Int}:Yu w (Xi w a):=by
 unfold Xi;dsimp only;split
 ·exact .no (by decide)
 ·exact .yes rfl
theorem AGW{a:Int}:Yu w (VD w a):=by
 unfold VD;split
 ·exact .no (by decide)
 ·exact .yes rfl
theorem AE_{n:Int}:Yu w (Ob w n):=by
 unfold Ob;split
 ·exact .no Pw
 ·exact iw
theorem AHt{all:Bool}{d:Al}(h:d.1≠14):Yu w (LO all w d):=by
 unfold LO;by_cases c1:d.1=1
 ·rw[AJe c1];exact AHu
 rw[AJk c1];by_cases c2:d.1=2
 ·rw[AJe c2];exact AJp
 rw[AJk c2];by_cases c3:d.1=3
 ·rw[AJe c3];exact AF0
 rw[AJk c3];by_cases c4:d.1=4
 ·rw[AJe c4];exact AIx
 rw[AJk c4];by_cases c5:d.1=5
 ·rw[AJe c5];exact AFZ
 rw[AJk c5];by_cases c6:d.1=6
 ·rw[AJe c6];exact AGk
 rw[AJk c6];by_cases c7:d.1=7
 ·rw[AJe c7];exact AHh
 rw[AJk c7];by_cases c8:d.1=8
 ·rw[AJe c8];exact AGa
 rw[AJk c8];by_cases c9:d.1=9
 ·rw[AJe c9];exact AIT
 rw[AJk c9];by_cases c10:d.1=10
 ·rw[AJe c10];exact AH9
 rw[AJk c10];by_cases c11:d.1=11
 ·rw[AJe c11];exact AKQ
 rw[AJk c11];by_cases c12:d.1=12
 ·rw[AJe c12];exact AFU
 rw[AJk c12];by_cases c13:d.1=13
 ·rw[AJe c13];exact AG5
 rw[AJk c13,AJk h];by_cases c15:d.1=15
 ·rw[AJe c15];exact AGW
 rw[AJk c15];exact AE_
theorem AJ0{all:Bool}{d:Al}(h:d.1=14):LO all w d=L6 w d.2.1 d.2.2.1:=by
 unfold LO;simp_all
theorem AJ5(hw:RX w){all:Bool}{d:Al}(e:(LO all w d).2=0):Af Aw (LO all w d).1.Ai<=Af Aw w.Ai+41:=by
 by_cases h:d.1=14
 ·rw[AJ0 h]at e|-
  exact(ABQ hw e).2.2.2.2.2
 ·rw[(AHt h).rd];omega
end
section
variable{code:AAA} (hc:code.length<=2^30)
include hc
end
theorem ACg{w:AA}{d:Al}{all:Bool}(hw:RX w)(h0:(Fu all w d).2=0):Af Aw (Fu all w d).1.Ai<=Af Aw w.Ai+41:=by
 grind[Fu,LO,DA,GS,AJ5]
end Go.M
end
section
namespace Go.M
open Go.Lib (decDigits itoa)
open Go.M.H (Ar Al)
theorem Tx{u:Nat}(h:u<10):decDigits u=[UInt8.ofNat (48+u)]:=by rw[decDigits,dif_pos h]
theorem fB{u:Nat}(h: ¬u<10):decDigits u=decDigits (u/10)++[UInt8.ofNat (48+u%10)]:=by rw[decDigits,dif_neg h]
theorem Wp:∀(n u:Nat),u<10^(n+1)->(decDigits u).length<=n+1
 |0,u,h=>by grind[Tx]
 |n+1,u,h=>by
  by_cases hu:u<10
  ·rw[Tx hu];simp
  ·rw[fB hu,AMf]
   have:=Wp n (u/10) (by omega);simp_all
theorem dZ(u:Nat):1<=(decDigits u).length:=by
 grind[Tx,fB]
theorem ADy:∀(n t:Nat) (acc:ABF) (f:Nat),0<t->t<10^n->n<f->acc.length+n<=100->t<2^63->Q9 f (t:Int) acc=some ((decDigits t++acc,()),())
 |0,t,acc,f,h0,h1,_,_,_=>by omega
 |n+1,t,acc,0,_,_,hf,_,_=>by omega
 |n+1,t,acc,f+1,h0,h1,hf,ha,h63=>by
  show Vo (Q9 f) t acc=_
  unfold Vo;have e1:(t:Int).tmod 10=((t%10:Nat):Int):=by rfl
  have e2:(t:Int).tdiv 10=((t/10:Nat):Int):=by rfl
  rw[AB,AJe (by omega),e1,e2,AG (by omega) (by omega),AG (by omega) (by omega),ASm (by omega) (by omega)];have e3:([48+((t%10:Nat):Int)].map fun n:Int=>UInt8.ofNat n.toNat)=[UInt8.ofNat (48+t%10)]:=by
   rfl
  simp only[e3];rw[AJe (by grind[Am,List.length_cons,List.length_nil])];by_cases ht:t<10
  ·obtain⟨g,rfl⟩:∃g,f=g+1:=⟨f-1,by omega⟩
   rw[show t/10=0 by omega,Tx ht,show t%10=t by omega];rfl
  ·rw[ADy n (t/10) _ f (by omega) (by omega) (by omega) (by grind) (by omega),fB ht]
   simp
def MO(n:Int):ABF:=decDigits n.toNat
theorem Q2{n:Int}(h:n<9223372036854775808):Pl n=some ((MO n,()),()):=by
 unfold Pl dL MO;rw[AB];by_cases h0:n<=0
 ·rw[AJe h0,show n.toNat=0 by omega,Tx (by omega)];rfl
 ·rw[AJk h0]
  obtain⟨t,rfl⟩:=ATw (show 0<=n by omega);rw[show(t:Int).toNat=t by omega];have:=ADy 19 t [] AW (by omega) (by omega) (Aa (by omega)) (by simp) (by omega);simp_all
theorem itoa_nonneg{n:Int}(h:0<=n):itoa n=MO n:=by
 unfold itoa MO;grind
theorem fa{n:Int}(h:Bp n):HA n=some ((itoa n,()),()):=by
 unfold HA strconv_Itoa Go.Fw.ADv;unfold Bp at h;grind
theorem T2{n:Int}(h:Bp n)(h0:0<=n):HA n=some ((MO n,()),()):=by rw[fa h,itoa_nonneg h0]
theorem R_{n:Int}(h:n<100):(MO n).length<=2:=Wp 1 n.toNat (by omega)
theorem xS{n:Int}(h:n<9223372036854775808):(MO n).length<=19:=Wp 18 n.toNat (by omega)
theorem JM{p:Int}(h:Av p=true):(1<=Ab p/\Ab p<=30)/\(1<=Bt p/\Bt p<=60):=by
 unfold Ab Bt;rw[AJe h,h,ALg];unfold Av BE at h;simp_all
def Gh(p:Int):ABF:=if Av p then[101]++MO (Ab p)++[46]++MO (Bt p)else[]
theorem eS(p:Int):(Gh p).length<=6:=by
 unfold Gh;split
 ·rename_i h
  obtain⟨h1,h2⟩:=JM h;grind[R_,Ab,Bt,List.length_append,List.length_cons,List.length_nil]
 ·simp
theorem Oi{p:Int}(h:Bp p):Fi p=some ((Gh p,()),()):=by
 unfold Fi Gh;rw[E5 h];simp only[AD,Aq];rcases AJd (Av p)with hp|hp
 rotate_left
 ·simp_all
 obtain⟨h1,h2⟩:=JM hp;have l1:=R_ (n:=Ab p) (by omega);have l2:=R_ (n:=Bt p) (by omega);rw[hp,ALg,EA h,V5 h];simp only[AD,Q2 (show Ab p<9223372036854775808 by omega),Q2 (show Bt p<9223372036854775808 by omega)];rw[AJe (by rw[Am];omega),AJe (by grind[Am,List.length_append,List.length_cons,List.length_nil]),AJe (by grind[Am,List.length_append,List.length_cons,List.length_nil])];rfl
theorem TC{p:Int}(h:Bp p):Ee p=some ((Gh p,()),()):=by
 unfold Ee Gh;rw[Il h];simp only[AD,Aq];rcases AJd (Av p)with hp|hp
 rotate_left
 ·simp_all
 obtain⟨h1,h2⟩:=JM hp;have l1:=R_ (n:=Ab p) (by omega);have l2:=R_ (n:=Bt p) (by omega);have i1:Bp (Ab p):=by unfold Bp;omega
 have i2:Bp (Bt p):=by unfold Bp;omega
 rw[hp,ALg,Dl h,Q5 h];simp only[AD,T2 i1 (by omega),T2 i2 (by omega)];rw[AJe (by rw[Am];omega),AJe (by grind[Am,List.length_append,List.length_cons,List.length_nil]),AJe (by grind[Am,List.length_append,List.length_cons,List.length_nil])];rfl
theorem yw{e:Ar}(h:Bp e.2.1):PZ e=G1 e:=by
 unfold PZ G1;have hm:Pl e.2.1=HA (if 0>e.2.1 then 0 else e.2.1):=by
  unfold Bp at h;rw[Q2 h.2];by_cases h0:0>e.2.1
  ·rw[AJe h0,T2 (by unfold Bp;omega) (by omega)]
   grind[MO]
  ·rw[AJk h0,T2 h (by omega)]
 rw[Oi h,TC h,hm]
end Go.M
end
section
namespace Go.M
open Go.Lib (decDigits itoa)
open Go.M.H (Ar Al)
theorem xh:∀(n u:Nat),10^n<=u->n+1<=(decDigits u).length
 |0,u,_=>dZ u
 |n+1,u,h=>by
  rw[Nat.pow_succ]at h;have hp:0<10^n:=Nat.pow_pos (by omega);rw[fB (by omega),AMf];have:=xh n (u/10) (by omega);simp_all
def Qd(n:Int):Bool:=BE n 0 9999999999
theorem AFJ{n:Int}(h:Bp n):(decide (n>=0)&&decide (((itoa n).length:Int)<=10))=Qd n:=by
 unfold Qd BE;by_cases h0:n>=0
 ·rw[AM_ h0,ALl,itoa_nonneg h0]
  unfold MO;by_cases h1:n<=9999999999
  ·have:=Wp 9 n.toNat (by omega)
   grind
  ·have:=xh 10 n.toNat (by omega)
   grind
 grind
def EK:List ABF:=[[111,112,101,110],[97,100,100],[115,116,111,114,101],[115,121,110,99],[99,114,97,115,104],[108,111,115,101],[102,105,108,108],[109,101,110,100],[115,101,97,108],[112,108,97,110],[102,105,120],[99,108,111,115,101],[116,114,105,109],[114,101,97,100],[100,114,111,112],[112,114,117,110,101]]
def B8(k:Int):ABF:=EK.getD (k-1).toNat []
def NX(k:Int):AAA:=
 if k=8\/k=10\/k=12 then[]else if k=2 then[65,84]else if k=3 then[65,66,67]else if k=5\/k=14 then[65,66]else if k=11 then[66,67]else if k=13 then[80]else[65]
def VE(d:Al)(c:Int):Int:=if c=66 then d.2.2.1 else if c=67 then d.2.2.2.1 else d.2.1
def I4(d:Al)(c:Int):ABF:=if c=84 then d.2.2.2.2.1 else if c=80 then Gh d.2.1 else itoa (VE d c)
def KL(d:Al)(c:Int):Bool:=if c=84 then !Go.Lib.contains d.2.2.2.2.1 [10]else if c=80 then Av d.2.1 else Qd (VE d c)
def SB(d:Al):List Int->List UInt8->Option ABF
 |[],acc=>some acc
 |c::l,acc=>if KL d c then SB d l (acc++([32]++I4 d c))else none
def DE(d:Al):Option ABF:=if GS d then SB d (NX d.1) (B8 d.1)else none
def kv(o:Option ABF):AJB:=(o.getD [],o.isSome,())
structure fj (d:Al):Prop where
 a:Bp d.2.1
 b:Bp d.2.2.1
 c:Bp d.2.2.2.1
theorem mm{d:Al}(h:fj d)(ht:d.2.2.2.2.1.length<=2^21)(c:Int):Tz d c=some (((I4 d c,KL d c,()),()),()):=by
 have num:∀n:Int,Bp n->((HA n).bind fun u4=>cond (decide (n>=0)) (some (((u4.1.1,decide ((u4.1.1.length:Int)<=10),()),()),())) (some (((u4.1.1,false,()),()),())))=(some (((itoa n,Qd n,()),()),()):Option dH):=fun n hn=>by
  grind[fa,AFJ,AD,decide]
 unfold Tz I4 KL VE;by_cases c1:c=84
 ·subst c1
  unfold strings_Contains Go.Fw.jB;grind
 rw[ALr.2 c1,AJk c1,AJk c1,AKp];by_cases c2:c=80
 ·subst c2
  rw[TC h.a,Il h.a];rfl
 rw[ALr.2 c2,AJk c2,AJk c2,AKp];by_cases c3:c=66
 ·subst c3
  exact num _ h.b
 rw[ALr.2 c3,AJk c3,AKp];by_cases c4:c=67
 ·subst c4
  exact num _ h.c
 rw[ALr.2 c4,AJk c4,AKp];exact num _ h.a
theorem xX{n:Int}(h:Bp n):(itoa n).length<=20:=by
 unfold itoa;unfold Bp at h;split
 ·have:=Wp 18 n.natAbs (by omega)
  simp_all
 ·have:=Wp 18 n.toNat (by omega)
  omega
theorem ABl{d:Al}(h:fj d)(ht:d.2.2.2.2.1.length<=2^21)(c:Int):(I4 d c).length<=2^21:=by
 unfold I4;split
 ·omega
 ·split
  ·grind[eS]
  ·have:Bp (VE d c):=by
    unfold VE;split
    ·exact h.b
    ·split
     ·exact h.c
     ·exact h.a
   grind[xX]
theorem fm{d:Al}(h:fj d)(ht:d.2.2.2.2.1.length<=2^21){all:AAA}(ZM:all.length<=100):∀(l:AAA) (i:Nat) (acc:ABF) (f:Nat),all.drop i=l->i<=all.length->l.length<f->acc.length+l.length*2^22<=2^35->
  Jd f acc (all.length:Int) (i:Int) d.1 d.2.1 d.2.2.1 d.2.2.2.1 d.2.2.2.2.1 all=some ((kv (SB d l acc),()),())
 |l,i,acc,0,_,_,hf,_=>by omega
 |[],i,acc,f+1,hd,hi,hf,ha=>by
  show Is (Jd f) acc _ _ _ _ _ _ _ _=_
  unfold Is;have:all.length<=i:=by simp_all
  rw[AB,AJk (by omega)];rfl
 |c::l,i,acc,f+1,hd,hi,hf,ha=>by
  show Is (Jd f) acc _ _ _ _ _ _ _ _=_
  unfold Is;have Ix:i<all.length:=by
   grind
  rw[ARX Ix]at hd;have hc:all[i]=c:=(ARH hd).1;have hl:all.drop (i+1)=l:=(ARH hd).2;rw[AB,AJe (by omega),AJe (by omega),Ah Ix,hc,uv d,mm h ht];simp only[AD,Aq];have hx:=ABl h ht c;simp only[AMK]at ha hf;unfold SB;rcases AJd (KL d c)with ho|ho
  ·rw[ho,ALg,AJe rfl,AJe (by rw[Am];omega),AJe (by grind[Am,List.length_append,List.length_cons,List.length_nil]),AG (by omega) (by omega)]
   have:=fm h ht ZM l (i+1) (acc++([32]++I4 d c)) f hl (by omega) (by omega) (by grind);simp_all
  ·rw[ho];rfl
theorem JI{d:Al}(h:GS d=true):(1<=d.1/\d.1<=16)/\d.2.2.2.2.1.length<=40:=by
 unfold GS BE at h;simp_all
theorem jG{k:Int}(h:1<=k/\k<=16):k=1\/k=2\/k=3\/k=4\/k=5\/k=6\/k=7\/k=8\/k=9\/k=10\/k=11\/k=12\/k=13\/k=14\/k=15\/k=16:=by omega
theorem gJ{k:Int}(h:1<=k/\k<=16):∃s:List UInt8,QE k=some ((s,()),())/\s.length<=3/\(s.map fun c=>(c.toNat:Int))=NX k:=by
 rcases jG h with rfl|rfl|rfl|rfl|rfl|rfl|rfl|rfl|rfl|rfl|rfl|rfl|rfl|rfl|rfl|rfl<;>exact⟨_,rfl,by decide,rfl⟩
theorem xF(k:Int):(NX k).length<=3:=by
 grind[NX]
theorem ez(k:Int):(B8 k).length<=5:=by
 unfold B8;by_cases h:(k-1).toNat<EK.length
 ·rw[List.getD,AKT h]
  have:∀x∈EK,x.length<=5:=by decide
  simp_all
 simp_all
theorem o7{d:Al}(h:fj d):WK d=some ((kv (DE d),()),()):=by
 unfold WK X2 DE;rw[uv d,iV];simp only[AD,Aq];rcases AJd (GS d)with ho|ho
 rotate_left
 ·rw[ho];rfl
 obtain⟨hk,ht⟩:=JI ho;obtain⟨s,e1,e2,e3⟩:=gJ hk;rw[ho,ALg,AJe rfl,AG (by omega) (by omega)];have e4:PJ=some (((),()),(EK,())):=rfl;rw[e4];simp only[AD];rw[AJe (by show _/\_<(16:Int);omega),e1];simp only[AD];rw[AJe (by rw[Am];omega),e3];have hw:=ez d.1;have hl:=xF d.1;exact fm h (by omega) (by omega) (NX d.1) 0 (B8 d.1) AW rfl (by omega) (Aa (by omega)) (by omega)
end Go.M
end
section
namespace Go.M
open Go.Lib (decDigits itoa)
open Go.M.H (Ar Al)
theorem ABN:∀l:List UInt8,(0<=Go.Lib.index l [10])↔(10:UInt8)∈l
 |[]=>by simp[Go.Lib.index]
 |b::l=>by
  have ih:=ABN l;have hg:=Go.Lib.index_ge l [10];unfold Go.Lib.index;grind
theorem AAR(l:ABF):Go.Lib.contains l [10]=l.contains 10:=by
 unfold Go.Lib.contains;rw[AVw];simp only[ALh,ABN,ARY]
def numsOf(d:Al):AAA:=
 if d.1=8\/d.1=10\/d.1=12\/d.1=13 then[]else if d.1=3 then[d.2.1,d.2.2.1,d.2.2.2.1]else if d.1=5\/d.1=14 then[d.2.1,d.2.2.1]else if d.1=11 then[d.2.2.1,d.2.2.2.1]else[d.2.1]
def SY:List Int->List UInt8->Option ABF
 |[],acc=>some acc
 |n::l,acc=>if Qd n then SY l ((acc++[32])++MO n)else none
def Pm(d:Al)(acc:ABF):ABF:=if d.1=2 then(acc++[32])++d.2.2.2.2.1 else if d.1=13 then(acc++[32])++Gh d.2.1 else acc
theorem fG{n:Int}(h:Qd n=true):itoa n=MO n:=by
 unfold Qd BE at h;simp only[ALh]at h;exact itoa_nonneg h.1
theorem qI{d:Al}:∀(cs:AAA) (acc:ABF),(∀c∈cs,c≠84/\c≠80)->SB d cs acc=SY (cs.map (VE d)) acc
 |[],acc,_=>rfl
 |c::cs,acc,h=>by
  obtain⟨h1,h2⟩:=h c (by simp);simp only[SB,ARZ,SY];rw[show KL d c=Qd (VE d c)by unfold KL;simp_all];by_cases hn:Qd (VE d c)=true
  ·rw[AJe hn,AJe hn,qI cs _ fun x hx=>h x (by simp[hx])]
   rw[show I4 d c=MO (VE d c)by unfold I4;rw[AJk h1,AJk h2,fG hn],AL3]
  simp_all
theorem ADM{k:Int}(h2:k≠2)(h13:k≠13):∀c∈NX k,c≠84/\c≠80:=by
 unfold NX;grind
theorem ACO{d:Al}(h2:d.1≠2)(h13:d.1≠13):numsOf d=(NX d.1).map (VE d):=by
 unfold numsOf NX;rw[AJk h2,AJk h13];by_cases c1:d.1=8\/d.1=10\/d.1=12
 ·simp_all
 rw[AJk c1,AJk (by omega)];by_cases c2:d.1=3
 ·rw[AJe c2,AJe c2];rfl
 rw[AJk c2,AJk c2];by_cases c3:d.1=5\/d.1=14
 ·rw[AJe c3,AJe c3];rfl
 rw[AJk c3,AJk c3];by_cases c4:d.1=11
 ·rw[AJe c4,AJe c4];rfl
 rw[AJk c4,AJk c4];rfl
theorem AAN{d:Al}(ho:GS d=true)(h2:d.1≠2):d.2.2.2.2.1=[]:=by
 unfold GS Yb at ho;grind
theorem jo{d:Al}(ho:GS d=true):DE d=if(d.1=13/\Av d.2.1=false)\/d.2.2.2.2.1.contains 10=true then none else(SY (numsOf d) (B8 d.1)).map (Pm d):=by
 unfold DE;rw[AJe ho];by_cases h2:d.1=2
 ·have e:NX d.1=[65,84]:=by rw[h2];rfl
  have e2:numsOf d=[d.2.1]:=by grind[numsOf]
  rw[e,e2];simp only[SB,SY];rw[show KL d 65=Qd d.2.1 from rfl,show KL d 84= !d.2.2.2.2.1.contains 10 by rw[<-AAR];rfl];by_cases hn:Qd d.2.1=true
  ·rw[AJe hn,AJe hn,show I4 d 65=MO d.2.1 from fG hn]
   rcases AJd (d.2.2.2.2.1.contains 10)with hc|hc
   ·simp_all
   ·have e3:Pm d=fun acc=>(acc++[32])++d.2.2.2.2.1:=by funext acc;unfold Pm;simp_all
    rw[hc,e3,show I4 d 84=d.2.2.2.2.1 from rfl];simp[h2]
  simp_all
 have ht:=AAN ho h2;rw[ht];by_cases h13:d.1=13
 ·have e:NX d.1=[80]:=by rw[h13];rfl
  have e2:numsOf d=[]:=by grind[numsOf]
  rw[e,e2];simp only[SB,SY];rw[show KL d 80=Av d.2.1 from rfl];rcases AJd (Av d.2.1)with hp|hp
  ·have e3:Pm d=fun acc=>(acc++[32])++Gh d.2.1:=by funext acc;unfold Pm;simp_all
   rw[hp,e3,show I4 d 80=Gh d.2.1 from rfl];simp
  simp_all
 rw[AJk (by simp[h13]),qI _ _ (ADM h2 h13),ACO h2 h13];have:Pm d=id:=by funext acc;unfold Pm;simp_all
 simp_all
theorem WY{d:Al}(h:fj d)(ht:d.2.2.2.2.1.length<=2^21){all:AAA}(ZM:all.length<=100)(Qt:∀x∈all,Bp x):∀(l:AAA) (i:Nat) (acc:ABF) (f:Nat),all.drop i=l->i<=all.length->l.length<f->acc.length+l.length*100<=2^20->
  ET f acc (i:Int) d.1 d.2.1 d.2.2.1 d.2.2.2.1 d.2.2.2.2.1 all=some ((kv ((SY l acc).map (Pm d)),()),())
 |l,i,acc,0,_,_,hf,_=>by omega
 |[],i,acc,f+1,hd,hi,hf,ha=>by
  show IE (E_ f) (ET f) acc _ _ _ _ _ _ _=_
  unfold IE;have:all.length<=i:=by simp_all
  rw[AB,AJk (by omega)];simp only[APb,Nat.zero_mul,ART]at ha;by_cases c1:d.1=2
  ·have e3:Pm d acc=(acc++[32])++d.2.2.2.2.1:=by unfold Pm;simp_all
   rw[show SY [] acc=some acc from rfl,ASt,e3,c1,AJe (by rw[Am];omega),AJe (by grind[Am,List.length_append,List.length_cons,List.length_nil])];rfl
  by_cases c2:d.1=13
  ·have hp:=eS d.2.1
   have e3:Pm d acc=(acc++[32])++Gh d.2.1:=by unfold Pm;simp_all
   rw[show SY [] acc=some acc from rfl,ASt,e3,c2,Oi h.a];have k1:acc.length+1<=CN:=by rw[Am];omega
   have k2:(acc++[32]).length+(Gh d.2.1).length<=CN:=by grind[Am,List.length_append,List.length_cons,List.length_nil]
   simp only[AD,AJe k1,AJe k2];rfl
  have e3:Pm d acc=acc:=by unfold Pm;simp_all
  rw[show SY [] acc=some acc from rfl,ASt,e3,ALr.2 c1,AKp,ALr.2 c2,AKp];rfl
 |c::l,i,acc,f+1,hd,hi,hf,ha=>by
  show IE (E_ f) (ET f) acc _ _ _ _ _ _ _=_
  unfold IE;have Ix:i<all.length:=by
   grind
  rw[ARX Ix]at hd;have hc:all[i]=c:=(ARH hd).1;have hl:all.drop (i+1)=l:=(ARH hd).2;have hci:Bp c:=Qt c (by grind);rw[AB,AJe (by omega),AJe (by omega),Ah Ix,hc,Bc];simp only[AD,Aq,AMK]at ha hf|-;simp only[SY];rw[show BE c 0 9999999999=Qd c from rfl];rcases AJd (Qd c)with ho|ho
  ·have hx:=xS (n:=c) hci.2
   rw[ho,ALg,AJe rfl,AJe (by rw[Am];omega),AJe (by omega),Q2 hci.2];simp only[AD];rw[AJe (by grind[Am,List.length_append,List.length_cons,List.length_nil]),AG (by omega) (by omega)];have:=WY h ht ZM Qt l (i+1) ((acc++[32])++MO c) f hl (by omega) (by omega) (by grind);simp_all
  ·rw[ho];rfl
theorem ZN(d:Al):(numsOf d).length<=3:=by
 grind[numsOf]
theorem AFS{d:Al}(h:fj d):∀x∈numsOf d,Bp x:=by
 have ha:=h.a;have hb:=h.b;have hc:=h.c;grind[numsOf]
theorem gI{d:Al}:UB d=some (((),()),(numsOf d,())):=by
 unfold UB numsOf;grind
theorem gM{k:Int}(h:1<=k/\k<=16):TM k=some ((B8 k,()),()):=by
 unfold TM B8;rw[AJe (by omega)];obtain⟨m,rfl⟩:∃m:Nat,k=((m+1:Nat):Int):=⟨(k-1).toNat,by omega⟩;rw[show(((m+1:Nat):Int)-1).toNat=m by omega,show(((m+1:Nat):Int)).toNat=m+1 by omega];rfl
theorem X0{d:Al}(h:fj d)(hk:1<=d.1/\d.1<=16)(ht:d.2.2.2.2.1.length<=40):∀(l:ABF) (i f:Nat),d.2.2.2.2.1.drop i=l->i<=d.2.2.2.2.1.length->l.length+10<f->
  E_ f (i:Int) d.1 d.2.1 d.2.2.1 d.2.2.2.1 d.2.2.2.2.1=some ((kv (if l.contains 10 then none else(SY (numsOf d) (B8 d.1)).map (Pm d)),()),())
 |l,i,0,_,_,hf=>by omega
 |[],i,f+1,hd,hi,hf=>by
  show Iu (E_ f) (ET f) _ _ _ _ _ _=_
  unfold Iu;have:d.2.2.2.2.1.length<=i:=by simp_all
  have hw:=ez d.1;have hl:=ZN d;rw[AB,AJk (by omega),gM hk,uv d,gI];simp only[AD];have:=WY h (by omega) (by omega) (AFS h) (numsOf d) 0 (B8 d.1) f rfl (by omega) (by omega) (by omega);simp_all
 |c::l,i,f+1,hd,hi,hf=>by
  show Iu (E_ f) (ET f) _ _ _ _ _ _=_
  unfold Iu;have Ix:i<d.2.2.2.2.1.length:=by
   grind
  rw[ARX Ix]at hd;have hc:d.2.2.2.2.1[i]=c:=(ARH hd).1;have hl:d.2.2.2.2.1.drop (i+1)=l:=(ARH hd).2;rw[AB,AJe (by omega),AJe (by omega),Ah Ix,hc];by_cases h10:c=10
  ·subst h10
   rfl
  ·have e:((c.toNat:Int)==10)=false:=by
    rw[ALr];intro hh;apply h10;apply UInt8.toNat_inj.1;grind
   rw[e,AKp,AG (by omega) (by omega)];simp only[AMK]at hf;have:=X0 h hk ht l (i+1) f hl (by omega) (by omega);grind
theorem dt{d:Al}(h:fj d):JE d=some ((kv (DE d),()),()):=by
 unfold JE X9;rw[uv d,gp];simp only[AD,Aq];rcases AJd (GS d)with ho|ho
 rotate_left
 ·unfold DE
  rw[ho];rfl
 obtain⟨hk,ht⟩:=JI ho;have key:=X0 h hk ht d.2.2.2.2.1 0 AW rfl (by omega) (Aa (by omega));rw[show((0:Nat):Int)=0 from rfl]at key;rw[ho,ALg,jo ho];by_cases c2:d.1=13
 ·rw[c2,E5 h.a]
  simp only[AD,ARC,ALg,Aq];rw[c2]at key;rcases AJd (Av d.2.1)with hp|hp
  ·simp_all
  ·rw[hp];rfl
 grind
end Go.M
end
section
namespace Go.M
open Go.Lib (decDigits itoa parseUint10 parseMag atoiAll)
open Go.M.H (Ar Al)
theorem eu{k:Nat}(h:k<10):(UInt8.ofNat (48+k)).toNat=48+k:=by
 rw[UInt8.toNat_ofNat'];omega
theorem lY:∀(n u:Nat),u<=n-> ∀c∈decDigits u,48<=c.toNat/\c.toNat<=57
 |0,u,hu,c,hc=>by
  grind[Tx,List.mem_singleton,eu]
 |n+1,u,hu,c,hc=>by
  by_cases h:u<10
  ·grind[Tx,List.mem_singleton,eu]
  ·rw[fB h,AMt]at hc
   rcases hc with hc|hc
   ·exact lY n (u/10) (by omega) c hc
   simp_all;omega
theorem AHn{u:Nat}{c:UInt8}(h:c.toNat<48):c∉decDigits u:=fun hc=>by
 have:=lY u u (AMN _) c hc;omega
theorem tD:∀(n u:Nat) (r:ABF),u<=n->u<10^18->parseUint10 0 (decDigits u++r)=parseUint10 u r
 |0,u,r,hn,hu=>by
  rw[Tx (by omega)]
  show parseUint10 0 (UInt8.ofNat (48+u)::r)=_
  simp only[parseUint10,eu (show u<10 by omega)];simp_all
 |n+1,u,r,hn,hu=>by
  by_cases h:u<10
  ·rw[Tx h]
   show parseUint10 0 (UInt8.ofNat (48+u)::r)=_
   simp only[parseUint10,eu h];grind
  ·rw[fB h,AL3,tD n (u/10) _ (by omega) (by omega)]
   show parseUint10 (u/10) (UInt8.ofNat (48+u%10)::r)=_
   simp only[parseUint10,eu (show u%10<10 by omega)];grind
theorem AFs{u:Nat}(h:u<10^18):atoiAll (decDigits u)= .ok (u:Int):=by
 have hp:parseMag (decDigits u)= .ok u:=by
  have:=dZ u;unfold parseMag;rw[AJk (by grind)];have:=tD u u [] (AMN _) h;rw[ALu]at this;rw[this];rfl
 cases hd:decDigits u with
 |nil=>grind[dZ]
 |cons c r=>
  have hc:=lY u u (AMN _) c (by simp_all);rw[Go.Lib.atoiAll_plain c r (by omega) (by omega),<-hd,hp];unfold Go.Lib.signless;grind
theorem ADu{c:UInt8}{r:ABF}:∀{a:ABF},c∉a->Go.Lib.index (a++c::r) [c]=a.length
 |[],_=>by simp[Go.Lib.index,List.isPrefixOf]
 |b::a,h=>by
  simp only[ANC,AV2]at h;have ih:=ADu (r:=r) h.2;rw[ARU];unfold Go.Lib.index;simp_all
theorem ABW{c:UInt8}:∀{a:ABF},c∉a->Go.Lib.index a [c]= -1
 |[],_=>by rfl
 |b::a,h=>by
  simp only[ANC,AV2]at h;have ih:=ABW h.2;grind[Go.Lib.index]
theorem yH{c:UInt8}{a r:ABF}(h:c∉a):Go.Lib.cut (a++c::r) [c]=(a,r,true):=by
 unfold Go.Lib.cut;rw[ADu h,AJe (by omega)];simp
theorem ABS{c:UInt8}{a:ABF}(h:c∉a):Go.Lib.cut a [c]=(a,[],false):=by
 unfold Go.Lib.cut;rw[ABW h,AJk (by omega)]
theorem yn{s p:ABF}:(Go.Lib.cut s p).1.length<=s.length/\(Go.Lib.cut s p).2.1.length<=s.length:=by
 grind[Go.Lib.cut,List.length_take,List.length_drop]
theorem Zs{s p:ABF}(h:s.length<=2^21):strings_Cut s p=some (((((Go.Lib.cut s p).1,(Go.Lib.cut s p).2.1,(Go.Lib.cut s p).2.2,()),()),()):jk):=by
 unfold strings_Cut Go.Fw.AKF;grind
def rdN(s:ABF)(most:Int):Int×Bool:=
 match atoiAll s with
 | .ok v=>if 0<=v/\(s.length:Int)<=most/\itoa v=s then(v,true)else(0,false)
 |_=>(0,false)
theorem AHx{s:ABF}{most:Int}(h:s.length<=1048576):Kj s most=some ((((rdN s most).1,(rdN s most).2,()),()),()):=by
 unfold Kj Go.Fw.Ei;rw[AJe h];rfl
theorem ARo(s:ABF)(most:Int):Bp (rdN s most).1/\0<=(rdN s most).1:=by
 grind[rdN,Go.Lib.atoiAll_bounds,Bp]
theorem AD5{n most:Int}(h0:0<=n)(h1:n<10^18)(hm:((MO n).length:Int)<=most):rdN (MO n) most=(n,true):=by
 unfold rdN;have e:atoiAll (MO n)= .ok n:=by
  grind[AFs,MO]
 rw[e];simp only;rw[AJe ⟨h0,hm,itoa_nonneg h0⟩]
theorem zC{n:Int}{c:UInt8}(h:c.toNat<48):c∉MO n:=AHn h
theorem yg{p:Int}(h:Bp p)(hp:Av p=true):D_ (Ab p) (Bt p)=p:=by
 have hb:=JM hp;unfold D_;rw[An.2 hb.1,An.2 hb.2];unfold G9 Ab Bt TO;grind
def prF(A B:Int×Bool)(w:ABF):Option dY:=
 cond (!A.2) (some (((0,false,()),()),()))
 (cond (!B.2) (some (((0,false,()),()),()))
 (cond (!(BE A.1 1 30&&BE B.1 1 60)) (some (((0,false,()),()),()))
 ((Ee (D_ A.1 B.1)).bind fun u6=>cond (!(u6.1.1==w)) (some (((0,false,()),()),())) (some (((D_ A.1 B.1,true,()),()),())))))
theorem fD(e o:Int):Bp (D_ e o):=by
 unfold D_;split
 ·rename_i h
  simp only[ALJ,An]at h;unfold Bp G9;omega
 grind[Bp]
theorem APN(A B:Int×Bool)(w:ABF):∃x b,prF A B w=some (((x,b,()),()),())/\Bp x/\ ∀p,Bp p->Av p=true->Gh p=w->A=(Ab p,true)->B=(Bt p,true)->x=p:=by
 have z:Bp 0:=by unfold Bp;omega
 unfold prF;rw[TC (fD _ _)];simp only[AD];rcases AJd A.2 with h1|h1
 rotate_left
 ·rw[h1]
  exact⟨_,_,rfl,z,fun p _ _ _ e=>by simp_all⟩
 rcases AJd B.2 with h2|h2
 rotate_left
 ·rw[h1,h2]
  exact⟨_,_,rfl,z,fun p _ _ _ _ e=>by simp_all⟩
 rcases AJd (BE A.1 1 30&&BE B.1 1 60)with h3|h3
 rotate_left
 ·rw[h1,h2,h3]
  refine⟨_,_,rfl,z,fun p _ hp _ e e' => ?_⟩;grind[JM,An]
 rw[h1,h2,h3];simp only[ALR,AKp];rcases AJd (Gh (D_ A.1 B.1)==w)with h4|h4
 ·rw[h4]
  refine⟨_,_,rfl,fD _ _,fun p hp hpo _ e e' => ?_⟩;grind[yg]
 ·rw[h4]
  refine⟨_,_,rfl,z,fun p hp hpo hw e e' => ?_⟩;grind[yg]
theorem lL{w:ABF}(hw:w.length<=1048576):∃x b,Pd w=some (((x,b,()),()),())/\Bp x/\ ∀p,Bp p->Av p=true->Gh p=w->x=p:=by
 have ht:(Go.Lib.trimPrefix w [101]).length<=w.length:=by
  unfold Go.Lib.trimPrefix;grind
 have hc:=yn (s:=Go.Lib.trimPrefix w [101]) (p:=[46]);have key:Pd w=prF (rdN (Go.Lib.cut (Go.Lib.trimPrefix w [101]) [46]).1 2) (rdN (Go.Lib.cut (Go.Lib.trimPrefix w [101]) [46]).2.1 2) w:=by
  unfold Pd;rw[show strings_TrimPrefix w [101]=some ((Go.Lib.trimPrefix w [101],()),())from rfl];simp only[AD];rw[Zs (by omega)];simp only[AD];rw[AHx (by omega),AHx (by omega)];simp only[AD];rw[Gw];rfl
 obtain⟨x,b,h1,h2,h3⟩:=APN (rdN (Go.Lib.cut (Go.Lib.trimPrefix w [101]) [46]).1 2) (rdN (Go.Lib.cut (Go.Lib.trimPrefix w [101]) [46]).2.1 2) w;refine⟨x,b,key.trans h1,h2,fun p hp hpo he=>h3 p hp hpo he ?_ ?_⟩
 all_goals
  have hb:=JM hpo;have e1:Go.Lib.trimPrefix w [101]=MO (Ab p)++46::MO (Bt p):=by
   rw[<-he];unfold Gh;rw[AJe hpo];simp[Go.Lib.trimPrefix,Go.Lib.hasPrefix,List.isPrefixOf]
  have l1:=R_ (n:=Ab p) (by omega);have l2:=R_ (n:=Bt p) (by omega);rw[e1,yH (zC (by decide))]
 all_goals grind[AD5]
end Go.M
end
section
namespace Go.M
open Go.Lib (decDigits itoa parseUint10 parseMag atoiAll)
open Go.M.H (Ar Al)
def AK2(D d:Al)(c:Int):Al:=
 if c=84 then(d.1,d.2.1,d.2.2.1,d.2.2.2.1,D.2.2.2.2.1,())else if c=66 then(d.1,d.2.1,D.2.2.1,d.2.2.2.1,d.2.2.2.2.1,())else if c=67 then(d.1,d.2.1,d.2.2.1,D.2.2.2.1,d.2.2.2.2.1,())else(d.1,D.2.1,d.2.2.1,d.2.2.2.1,d.2.2.2.2.1,())
def Qj(D:Al):List Int->List UInt8
 |[]=>[]
 |[c]=>I4 D c
 |c::c'::l=>I4 D c++32::Qj D (c'::l)
def AEj:List Int->Prop
 |[]=>True
 |[_]=>True
 |c::c'::l=>c≠84/\AEj (c'::l)
def letter(c:Int):Prop:=c=65\/c=66\/c=67\/c=80\/c=84
theorem AEx{p:Int}:(32:UInt8)∉Gh p:=by
 unfold Gh;split
 ·simp only[AMt,ASP,AV2]
  grind[zC]
 ·simp
theorem vU{D:Al}{c:Int}(hc:c≠84)(ho:KL D c=true):(32:UInt8)∉I4 D c:=by
 unfold I4;unfold KL at ho;rw[AJk hc]at ho|-;by_cases h:c=80
 ·rw[AJe h];exact AEx
 ·rw[AJk h]at ho|-
  grind[fG,zC]
theorem AAH{D:Al}{c:Int}{l:AAA}(hc:c≠84)(ho:KL D c=true):(Go.Lib.cut (Qj D (c::l)) [32]).1=I4 D c/\(Go.Lib.cut (Qj D (c::l)) [32]).2.1=Qj D l:=by
 cases l with
 |nil=>simp only[Qj];rw[ABS (vU hc ho)];simp_all
 |cons c' l=>simp only[Qj];rw[yH (vU hc ho)];simp_all
theorem AGq{n:Int}(h:Qd n=true):rdN (itoa n) 10=(n,true):=by
 rw[fG h];unfold Qd BE at h;simp only[ALh]at h;have:=Wp 9 n.toNat (by omega);grind[AD5,MO]
theorem z8{c:Int}{r:ABF}{d:Al}(hc:letter c)(h:fj d)(hr:r.length<=1048576)(ht:d.2.2.2.2.1.length<=1048576):
  ∃r' d',Mn c r d.1 d.2.1 d.2.2.1 d.2.2.2.1 d.2.2.2.2.1=some ((r',()),(d',()))/\fj d'/\r'.length<=1048576/\d'.2.2.2.2.1.length<=1048576/\
   ∀(D:Al) (l:AAA),fj D->KL D c=true->(c=84->l=[])->r=Qj D (c::l)->r' =Qj D l/\d' =AK2 D d c:=by
 have ha:=h.a;have hb:=h.b;have nD:=h.c;unfold Mn;by_cases c1:c=84
 ·subst c1
  refine⟨[],(d.1,d.2.1,d.2.2.1,d.2.2.2.1,r,()),rfl,⟨ha,hb,nD⟩,by simp,hr,fun D l _ _ hl e=> ?_⟩;obtain rfl:=hl rfl;exact⟨rfl,by rw[e];rfl⟩
 have hl:=yn (s:=r) (p:=[32]);rw[ALr.2 c1,AKp,Zs (by omega)];simp only[AD];rw[AHx (by omega)];simp only[AD];have rin:=(ARo (Go.Lib.cut r [32]).1 10).1;have num:∀(D:Al) (l:AAA),c≠80->KL D c=true->r=Qj D (c::l)->(Go.Lib.cut r [32]).2.1=Qj D l/\(rdN (Go.Lib.cut r [32]).1 10).1=VE D c:=fun D l c2 ho e=>by
  obtain⟨e1,e2⟩:=AAH (l:=l) c1 ho;rw[e,e1,e2];refine⟨rfl,?_⟩;unfold I4;unfold KL at ho;rw[AJk c1,AJk c2]at ho|-;rw[AGq ho]
 by_cases c2:c=65
 ·subst c2
  refine⟨_,(d.1,(rdN (Go.Lib.cut r [32]).1 10).1,d.2.2.1,d.2.2.2.1,d.2.2.2.2.1,()),rfl,⟨rin,hb,nD⟩,by omega,ht,fun D l _ ho _ e=> ?_⟩;obtain⟨e1,e2⟩:=num D l (by decide) ho e;exact⟨e1,by rw[e2];rfl⟩
 by_cases c3:c=66
 ·subst c3
  refine⟨_,(d.1,d.2.1,(rdN (Go.Lib.cut r [32]).1 10).1,d.2.2.2.1,d.2.2.2.2.1,()),rfl,⟨ha,rin,nD⟩,by omega,ht,fun D l _ ho _ e=> ?_⟩;obtain⟨e1,e2⟩:=num D l (by decide) ho e;exact⟨e1,by rw[e2];rfl⟩
 by_cases c4:c=67
 ·subst c4
  refine⟨_,(d.1,d.2.1,d.2.2.1,(rdN (Go.Lib.cut r [32]).1 10).1,d.2.2.2.2.1,()),rfl,⟨ha,hb,rin⟩,by omega,ht,fun D l _ ho _ e=> ?_⟩;obtain⟨e1,e2⟩:=num D l (by decide) ho e;exact⟨e1,by rw[e2];rfl⟩
 obtain rfl:c=80:=by rcases hc with h|h|h|h|h<;>omega
 obtain⟨x,b,h1,h2,h3⟩:=lL (w:=(Go.Lib.cut r [32]).1) (by omega);rw[h1];refine⟨_,(d.1,x,d.2.2.1,d.2.2.2.1,d.2.2.2.2.1,()),rfl,⟨h2,hb,nD⟩,by omega,ht,fun D l hD ho _ e=> ?_⟩;obtain⟨e1,e2⟩:=AAH (l:=l) c1 ho;refine⟨by simp_all,?_⟩;rw[h3 D.2.1 hD.a ho (by rw[e,e1];rfl)];rfl
def AEL:Al:=(0,0,0,0,[],())
def fin(line:ABF)(d:Al):Al×Bool×Unit:=if DE d=some line then(d,true,())else(AEL,false,())
theorem AD8{line:ABF}{all:AAA}(ZM:all.length<=100)(Qt:∀c∈all,letter c):∀(l:AAA) (i:Nat) (r:ABF) (d:Al) (f:Nat),all.drop i=l->i<=all.length->l.length<f->fj d->r.length<=1048576->d.2.2.2.2.1.length<=1048576->
  ∃df,fj df/\IH f line r (all.length:Int) (i:Int) 0 0 0 0 [] d.1 d.2.1 d.2.2.1 d.2.2.2.1 d.2.2.2.2.1 all=some ((fin line df,()),())/\
   ∀D,fj D->(∀c∈l,KL D c=true)->AEj l->r=Qj D l->df=l.foldl (AK2 D) d
 |l,i,r,d,0,_,_,hf,_,_,_=>by omega
 |[],i,r,d,f+1,hd,hi,hf,h,hr,ht=>by
  have:all.length<=i:=by simp_all
  refine⟨d,h,?_,fun D _ _ _ _=>rfl⟩
  show H0 (IH f) _ _ _ _ _ _ _ _ _ _ _ _ _ _ _=_
  unfold H0;rw[AB,AJk (by omega),uv d,o7 h];simp only[AD];unfold fin kv;cases hl:DE d with
  |none=>rfl
  |some t=>
   simp only[AQ7,ALR,AKp,AQ_,AKX];by_cases e:t=line
   ·simp_all
   ·rw[AJk e,ALr.2 e];rfl
 |c::l,i,r,d,f+1,hd,hi,hf,h,hr,ht=>by
  have Ix:i<all.length:=by
   grind
  rw[ARX Ix]at hd;have hc:all[i]=c:=(ARH hd).1;have hl:all.drop (i+1)=l:=(ARH hd).2;obtain⟨r',d',e1,e2,e3,e4,e5⟩:=z8 (c:=c) (r:=r) (d:=d) (Qt c (by grind)) h hr ht;simp only[AMK]at hf;obtain⟨df,g1,g2,g3⟩:=AD8 (line:=line) ZM Qt l (i+1) r' d' f hl (by omega) (by omega) e2 e3 e4;refine⟨df,g1,?_,fun D hD ho hT e=> ?_⟩
  ·show H0 (IH f) _ _ _ _ _ _ _ _ _ _ _ _ _ _ _=_
   unfold H0;rw[AB,AJe (by omega),AJe (by omega),Ah Ix,hc,e1];grind[AD,AG]
  ·obtain⟨k1,k2⟩:=e5 D l hD (ho c (by simp)) (fun h84=>by
    cases l with
    |nil=>rfl
    |cons c' l=>exact absurd h84 hT.1) e
   have:=g3 D hD (fun x hx=>ho x (by simp[hx])) (by
    cases l with
    |nil=>trivial
    |cons c' l=>exact hT.2) k1
   simp_all
theorem qP{D:Al}:∀(l:AAA) (acc L:ABF),SB D l acc=some L->(∀c∈l,KL D c=true)/\L=acc++(if l=[]then[]else 32::Qj D l)
 |[],acc,L,h=>by
  grind[SB,Option.some.injEq]
 |c::l,acc,L,h=>by
  simp only[SB]at h;split at h
  case isFalse=>cases h
  rename_i hc;obtain⟨h1,h2⟩:=qP l _ L h;refine⟨fun x hx=> ?_,?_⟩
  ·grind
  ·rw[AJk (show¬(c::l=[])by simp),h2]
   cases l with
   |nil=>simp[Qj]
   |cons c' l=>simp[Qj]
theorem py{k:Int}(h:1<=k/\k<=16):(32:UInt8)∉B8 k:=by
 rcases jG h with rfl|rfl|rfl|rfl|rfl|rfl|rfl|rfl|rfl|rfl|rfl|rfl|rfl|rfl|rfl|rfl<;>decide
theorem zd{k:Int}(h:1<=k/\k<=16):(∀c∈NX k,letter c)/\AEj (NX k):=by
 rcases jG h with rfl|rfl|rfl|rfl|rfl|rfl|rfl|rfl|rfl|rfl|rfl|rfl|rfl|rfl|rfl|rfl<;>simp[NX,AEj,letter]
theorem AK4{D:Al}(ho:GS D=true):(NX D.1).foldl (AK2 D) (D.1,0,0,0,[],())=D:=by
 obtain⟨hk,_⟩:=JI ho;obtain⟨k,a,b,n,t,⟨⟩⟩:=D;simp only at hk;unfold GS at ho;simp only[ALJ]at ho;obtain⟨_,h1,h2,h3,h4,_⟩:=ho;rcases jG hk with rfl|rfl|rfl|rfl|rfl|rfl|rfl|rfl|rfl|rfl|rfl|rfl|rfl|rfl|rfl|rfl<;>simp[Yb]at h1 h2 h3 h4<;>simp[NX,AK2, *]
theorem xq{x:ByteArray}:∀(zs:List ByteArray) (i:Nat),-1<=Go.Lib.idxFromS zs x i/\Go.Lib.idxFromS zs x i<(i+zs.length:Nat)\/Go.Lib.idxFromS zs x i= -1
 |[],i=>by right;rfl
 |z::zs,i=>by
  unfold Go.Lib.idxFromS;split
  ·grind
  ·rcases xq (x:=x) zs (i+1)with h|h
   all_goals grind
theorem AHR{k:Int}(h:1<=k/\k<=16):Go.Lib.idxOfS (EK.map fun y=>⟨y.toArray⟩) ⟨(B8 k).toArray⟩=k-1:=by
 rcases jG h with rfl|rfl|rfl|rfl|rfl|rfl|rfl|rfl|rfl|rfl|rfl|rfl|rfl|rfl|rfl|rfl<;>decide
theorem Mb{D:Al}{line:ABF}(h:DE D=some line):GS D=true/\(∀c∈NX D.1,KL D c=true)/\line=B8 D.1++(if NX D.1=[]then[]else 32::Qj D (NX D.1)):=by
 grind[DE,qP]
def kc(line:ABF)(o:Al×Bool×Unit):Prop:=
 (∃d,fj d/\DE d=some line/\o=(d,true,())/\ ∀d',fj d'->DE d' =some line->d' =d)\/((∀d,fj d->DE d≠some line)/\o=(AEL,false,()))
theorem xI{line:ABF}{df:Al}(h:fj df)(hc:∀d,fj d->DE d=some line->df=d):kc line (fin line df):=by
 unfold fin;by_cases e:DE df=some line
 ·rw[AJe e]
  exact .inl ⟨df,h,e,rfl,fun d' hd hl=>(hc d' hd hl).symm⟩
 ·rw[AJk e]
  refine .inr ⟨fun d hd hl=>e ?_,rfl⟩;grind
theorem lk{line:ABF}(hl:line.length<=1048576):∃o,TK line=some ((o,()),())/\kc line o:=by
 have qN:=yn (s:=line) (p:=[32]);unfold TK XG;rw[Zs (by omega),show PJ=some (((),()),(EK,()))from rfl];simp only[AD];unfold KH Go.Fw.zY;rw[AJe (show EK.length<=9223372036854775807 by decide)];simp only[ASt,AD];have kind:∀d,fj d->DE d=some line->(Go.Lib.cut line [32]).1=B8 d.1/\(Go.Lib.cut line [32]).2.1=Qj d (NX d.1):=fun d hd h=>by
  obtain⟨ho,h1,h2⟩:=Mb h;obtain⟨hk,_⟩:=JI ho;by_cases he:NX d.1=[]
  ·rw[AJe he,ALu]at h2
   rw[h2,ABS (py hk),he];exact⟨rfl,rfl⟩
  ·rw[AJk he]at h2
   rw[h2,yH (py hk)];simp_all
 have AU3:∀d,fj d->DE d=some line->1+Go.Lib.idxOfS (EK.map fun y=>⟨y.toArray⟩) ⟨(Go.Lib.cut line [32]).1.toArray⟩=d.1:=fun d hd h=>by
  grind[AHR,JI,Mb]
 have rng: -1<=Go.Lib.idxOfS (EK.map fun y=>⟨y.toArray⟩) ⟨(Go.Lib.cut line [32]).1.toArray⟩/\Go.Lib.idxOfS (EK.map fun y=>⟨y.toArray⟩) ⟨(Go.Lib.cut line [32]).1.toArray⟩<16:=by
  rcases xq (x:=⟨(Go.Lib.cut line [32]).1.toArray⟩) (EK.map fun y=>⟨y.toArray⟩) 0 with h|h
  ·have h2:=h.2
   rw[ARf,show EK.length=16 from rfl]at h2;unfold Go.Lib.idxOfS;omega
  grind[Go.Lib.idxOfS]
 generalize Go.Lib.idxOfS (EK.map fun y=>⟨y.toArray⟩) ⟨(Go.Lib.cut line [32]).1.toArray⟩=x at AU3 rng
 rw[AG (by omega) (by omega)];by_cases hx:1+x=0
 ·rw[ARL.2 hx]
  refine⟨(AEL,false,()),rfl,.inr ⟨fun d hd h=> ?_,rfl⟩⟩;have:=AU3 d hd h;have:=JI (Mb h).1;omega
 rw[ALr.2 hx,AKp];have hk:1<=1+x/\1+x<=16:=by omega
 obtain⟨s,e1,e2,e3⟩:=gJ hk;rw[e1];simp only[AD];rw[AJe (by rw[Am];omega),e3];obtain⟨hlet,AAq⟩:=zd hk;have h3:=xF (1+x);have z:fj (1+x,0,0,0,[],()):=by constructor<;>(unfold Bp;simp)
 obtain⟨df,g1,g2,g3⟩:=AD8 (line:=line) (by omega) hlet (NX (1+x)) 0 (Go.Lib.cut line [32]).2.1 (1+x,0,0,0,[],()) AW rfl (by omega) (Aa (by omega)) z (by omega) (by simp);grind[fin,xI,Mb,AK4]
end Go.M
end
section
namespace Go.M
open Go.Lib (decDigits itoa)
open Go.M.H (Ar Al)
def AAG(i j x:Int):Option RC:=cond (i==j) (some ((((-1),i,()),()),())) (cond (decide (AQ (i-j)>10)) (some ((((-1),i,()),()),())) (some (((x,i,()),()),())))
def dS(s:ABF)(i:Nat):Bool:=decide (i<s.length)&&(decide (48<=(s.getD i 0).toNat)&&decide ((s.getD i 0).toNat<=57))
theorem zx{R:TF}{s:ABF}{i j:Nat}{x:Int}(hi:i<=2^40)(hj:j<=i)(hx:0<=x/\x<10^11):
  T0 R s (i:Int) (j:Int) x=if dS s i=true/\i-j<11 then R s ((i+1:Nat):Int) (j:Int) (10*x+((s.getD i 0).toNat:Int)-48)else AAG i j x:=by
 have hb:=(s.getD i 0).toNat_lt;have no:dS s i=false->(if dS s i=true/\i-j<11 then R s ((i+1:Nat):Int) (j:Int) (10*x+((s.getD i 0).toNat:Int)-48)else AAG i j x)=AAG i j x:=fun h=>AJk (by simp_all)
 unfold T0;simp only[show((i:Int)).toNat=i by omega]
 generalize hc0:s.getD i 0=c at*
 by_cases h1:i<s.length
 rotate_left
 ·rw[no (by grind[dS]),AQK (show¬((i:Int)<(s.length:Int))by omega)];rfl
 have hc:(0:Int)<=(i:Int)/\(i:Int)<(s.length:Int):=by omega
 simp only[AJe hc];rw[AM_ (show(i:Int)<(s.length:Int)by omega),ALg];by_cases h2:48<=c.toNat
 rotate_left
 ·rw[no (by grind[dS]),AQK (show¬((c.toNat:Int)>=48)by omega)];rfl
 rw[AM_ (show(c.toNat:Int)>=48 by omega),ALg];by_cases h3:c.toNat<=57
 rotate_left
 ·rw[no (by grind[dS]),AQK (show¬((c.toNat:Int)<=57)by omega)];rfl
 have hd:dS s i=true:=by grind[dS]
 rw[AM_ (show(c.toNat:Int)<=57 by omega),ALg];by_cases h4:i-j<11
 ·rw[AJe (show dS s i=true/\i-j<11 from⟨hd,h4⟩),AG (x:=(i:Int)-j) (by omega) (by omega),AM_ (show(i:Int)-j<11 by omega),ALg,
   AG (x:=10*x) (by omega) (by omega),AG (x:=(c.toNat:Int)) (by omega) (by omega),AG (x:=10*x+(c.toNat:Int)) (by omega) (by omega),AG (x:=10*x+(c.toNat:Int)-48) (by omega) (by omega),AG (x:=(i:Int)+1) (by omega) (by omega)]
  rfl
 ·rw[AJk (show¬(dS s i=true/\i-j<11)from fun h=>h4 h.2)]
  have e:decide (AQ ((i:Int)-j)<11)=false:=by grind[AG,decide_eq_false]
  rw[e,AKp];rfl
theorem AIs{i j:Nat}{x:Int}(hi:i<=2^40)(hj:j<=i)(h11:i-j<=11)(hx:0<=x/\x<10^11):∃y:Int,AAG i j x=some (((y,(i:Int),()),()),())/\ -1<=y/\y<10^11/\(j<i->i-j<=10->y=x):=by
 unfold AAG;rw[AG (x:=(i:Int)-j) (by omega) (by omega)];by_cases h1:i=j
 ·simp_all
 rw[ALr.2 (by omega),AKp,AB];by_cases h2:(i:Int)-j>10
 ·simp_all;omega
 ·rw[AJk h2]
  grind
theorem AAJ{s:ABF}{j:Nat}(hj:j<=2^30):∀(n i:Nat) (x:Int) (f:Nat),i-j+n=11->j<=i->n<f->0<=x->x<10^(i-j)->
  ∃(y:Int) (k:Nat),Ly f s (i:Int) (j:Int) x=some (((y,(k:Int),()),()),())/\ -1<=y/\y<10^11/\k<=j+11/\
   ∀(ds post:ABF) (c:UInt8),s.drop i=ds++post->(∀c∈ds,48<=c.toNat/\c.toNat<=57)->(∀c r,post=c::r-> ¬(48<=c.toNat/\c.toNat<=57))->1<=i-j+ds.length->i-j+ds.length<=10->
    y=ds.foldl (fun(a:Int) c=>10*a+(c.toNat:Int)-48) x/\k=i+ds.length
 |n,i,x,0,_,_,hf,_,_=>by omega
 |n,i,x,f+1,hn,hi,hf,h0,h1=>by
  have hp:(10:Int)^(i-j)<=10^11:=by
   have:(10:Nat)^(i-j)<=10^11:=Nat.pow_le_pow_right (by omega) (by omega)
   exact_mod_cast this
  have hx:0<=x/\x<10^11:=⟨h0,by omega⟩;have st:Ly (f+1) s (i:Int) (j:Int) x=_:=zx (R:=Ly f) (s:=s) (i:=i) (j:=j) (x:=x) (by omega) hi hx;by_cases hd:dS s i=true/\i-j<11
  ·rw[AJe hd]at st
   have hdd:=hd.1;unfold dS at hdd;simp only[ALJ,ALh]at hdd
   match n,hn with
   |0,hn=>omega
   |n+1,hn=>
    have Abw:(10:Int)^(i+1-j)=10*10^(i-j):=by
     rw[show i+1-j=(i-j)+1 by omega,Int.pow_succ];omega
    obtain⟨y,k,e1,e2,e3,e4,e5⟩:=AAJ hj n (i+1) (10*x+((s.getD i 0).toNat:Int)-48) f (by omega) (by omega) (by omega) (by omega) (by omega);refine⟨y,k,st.trans e1,e2,e3,e4,fun ds post c hs hds AL_ l1 l2=> ?_⟩;have AVH:s.drop i=s.getD i 0::s.drop (i+1):=by
     simp_all
    cases ds with
    |nil=>
     grind
    |cons b ds=>
     rw[AVH,ARU]at hs;have hb:s.getD i 0=b:=(ARH hs).1;simp only[AMK]at l1 l2;have:=e5 ds post c (ARH hs).2 (fun c hc=>hds c (by simp[hc])) AL_ (by omega) (by omega);grind
  ·rw[AJk hd]at st
   obtain⟨y,e1,e2,e3,e4⟩:=AIs (i:=i) (j:=j) (x:=x) (by omega) hi (by omega) hx;refine⟨y,i,st.trans e1,e2,e3,by omega,fun ds post c hs hds AL_ l1 l2=> ?_⟩;cases ds with
   |nil=>
    grind
   |cons b ds=>
    grind[List.drop_eq_nil_of_le,List.drop_eq_getElem_cons,List.cons.injEq,List.length_cons,dS]
theorem x_:∀(n u:Nat) (x:Int),u<=n->(decDigits u).foldl (fun(a:Int) c=>10*a+(c.toNat:Int)-48) 0=u
 |0,u,x,h=>by
  grind[Tx,eu]
 |n+1,u,x,h=>by
  by_cases hu:u<10
  ·grind[Tx,eu]
  ·rw[fB hu,List.foldl_append,x_ n (u/10) x (by omega)]
   simp_all;omega
theorem Za{s:ABF}{j:Nat}(hj:j<=2^30):∃(y:Int) (k:Nat),W6 s (j:Int)=some (((y,(k:Int),()),()),())/\ -1<=y/\y<10^11/\k<=j+11/\
  ∀(m:Int) (post:ABF),Qd m=true->s.drop j=MO m++post->(∀c r,post=c::r-> ¬(48<=c.toNat/\c.toNat<=57))->y=m/\k=j+(MO m).length:=by
 obtain⟨y,k,e1,e2,e3,e4,e5⟩:=AAJ (s:=s) hj 11 j 0 AW (by omega) (AMN _) (Aa (by omega)) (by omega) (by simp);refine⟨y,k,e1,e2,e3,e4,fun m post hm hs hp=> ?_⟩;unfold Qd BE at hm;simp only[ALh]at hm;have l1:=Wp 9 m.toNat (by omega);have l2:=dZ m.toNat;have:=e5 (MO m) post 0 hs (fun c hc=>lY _ _ (AMN _) c hc) hp (by unfold MO;omega) (by unfold MO;omega);refine⟨?_,this.2⟩;rw[this.1];unfold MO;rw[x_ _ _ 0 (AMN _)];omega
theorem ll{w:ABF}:∃x b,UT w=some (((x,b,()),()),())/\Bp x/\ ∀p,Bp p->Av p=true->Gh p=w->x=p:=by
 have z:Bp 0:=by unfold Bp;omega
 unfold UT;rw[AB];by_cases h4:(w.length:Int)<4
 ·rw[AJe h4]
  refine⟨_,_,rfl,z,fun p hp hpo hw=> ?_⟩;have l1:=dZ (Ab p).toNat;have l2:=dZ (Bt p).toNat;have:w.length=1+(MO (Ab p)).length+1+(MO (Bt p)).length:=by
   rw[<-hw];unfold Gh;grind
  grind[MO]
 rw[AJk h4];obtain⟨y,k,e1,e2,e3,e4,e5⟩:=Za (s:=w) (j:=1) (by omega);rw[show((1:Nat):Int)=1 from rfl]at e1;rw[e1];simp only[AD];rw[AG (by omega) (by omega)];obtain⟨y',k',f1,f2,f3,f4,f5⟩:=Za (s:=w) (j:=k+1) (by omega);rw[show((k:Int)+1)=((k+1:Nat):Int)by omega,f1];simp only[AD];rw[aa];simp only[AD];have comp:∀p,Bp p->Av p=true->Gh p=w->y=Ab p/\y' =Bt p:=fun p hp hpo hw=>by
  have hb:=JM hpo;have pt:w=101::(MO (Ab p)++46::MO (Bt p)):=by
   rw[<-hw];unfold Gh;simp_all
  have k1:=e5 (Ab p) (46::MO (Bt p)) (by unfold Qd BE;grind) (by simp_all) (fun c r h=>by
   have:=(ARH h).1;subst this
   decide)
  refine⟨k1.1,?_⟩;have k2:=f5 (Bt p) [] (by unfold Qd BE;grind) (by
   rw[pt,k1.2,show 1+(MO (Ab p)).length+1=((MO (Ab p)).length+1)+1 by omega,List.drop_succ_cons,List.drop_append];simp) (fun c r h=>by cases h)
  omega
 rcases AJd (BE y 1 30&&BE y' 1 60)with h3|h3
 rotate_left
 ·rw[h3]
  refine⟨_,_,rfl,z,fun p hp hpo hw=> ?_⟩;grind[JM,An]
 rw[h3];simp only[ALR,AKp];rw[Oi (fD _ _)];simp only[AD];rcases AJd (Gh (D_ y y')==w)with h5|h5
 ·rw[h5]
  refine⟨_,_,rfl,fD _ _,fun p hp hpo hw=> ?_⟩;grind[yg]
 ·rw[h5]
  refine⟨_,_,rfl,z,fun p hp hpo hw=> ?_⟩;grind[yg]
end Go.M
end
section
namespace Go.M
open Go.Lib (decDigits itoa)
open Go.M.H (Ar Al)
def tN(k:Int)(l:AAA):Al:=if k=11 then(k,0,l.getD 0 0,l.getD 1 0,[],())else(k,l.getD 0 0,l.getD 1 0,l.getD 2 0,[],())
def mu(k:Int):Nat:=(numsOf (k,0,0,0,[],())).length
theorem AAD(d:Al):(numsOf d).length=mu d.1:=by
 grind[mu,numsOf]
theorem wQ{k:Int}{l:AAA}(hl:l.length=mu k):e_ k l=some ((tN k l,()),()):=by
 have h3:l.length<=3:=by rw[hl];exact ZN _
 have h11:k=11->l.length=2:=fun h=>by rw[hl,h];rfl
 unfold e_ tN;grind
def h_(D d:Al):Al:=if d.1=2 then(d.1,d.2.1,d.2.2.1,d.2.2.2.1,D.2.2.2.2.1,())else if d.1=13 then(d.1,D.2.1,d.2.2.1,d.2.2.2.1,d.2.2.2.2.1,())else d
theorem tb{D:Al}(ho:GS D=true):h_ D (tN D.1 (numsOf D))=D:=by
 obtain⟨hk,_⟩:=JI ho;obtain⟨k,a,b,n,t,⟨⟩⟩:=D;simp only at hk;unfold GS at ho;simp only[ALJ]at ho;obtain⟨_,h1,h2,h3,h4,_⟩:=ho;rcases jG hk with rfl|rfl|rfl|rfl|rfl|rfl|rfl|rfl|rfl|rfl|rfl|rfl|rfl|rfl|rfl|rfl<;>simp[Yb]at h1 h2 h3 h4<;>simp[numsOf,tN,h_, *]
def behind(D:Al):List Int->List UInt8
 |[]=>if D.1=2 then 32::D.2.2.2.2.1 else if D.1=13 then 32::Gh D.2.1 else[]
 |n::l=>32::(MO n++behind D l)
theorem ABZ{D:Al}:∀(l:AAA) (c:UInt8) (r:ABF),behind D l=c::r->c=32
 |[],c,r,h=>by
  grind[behind,List.cons.inj]
 |n::l,c,r,h=>by
  grind[behind,List.cons.inj]
theorem qM{D:Al}:∀(l:AAA) (acc L:ABF),(SY l acc).map (Pm D)=some L->(∀n∈l,Qd n=true)/\L=acc++behind D l
 |[],acc,L,h=>by
  grind[SY,Option.some.injEq,Pm,behind]
 |n::l,acc,L,h=>by
  simp only[SY]at h;split at h
  case isFalse=>cases h
  rename_i hn;obtain⟨h1,h2⟩:=qM l _ L h;refine⟨fun x hx=> ?_,?_⟩
  ·grind
  grind[behind]
theorem N1{D:Al}{line:ABF}(h:DE D=some line):GS D=true/\(D.1=13->Av D.2.1=true)/\(∀n∈numsOf D,Qd n=true)/\line=B8 D.1++behind D (numsOf D):=by
 have ho:=(Mb h).1;rw[jo ho]at h;split at h
 ·cases h
 ·rename_i hc
  obtain⟨h1,h2⟩:=qM _ _ _ h;simp_all
theorem vT{line:ABF}{d:Al}(h:fj d):((JE d).bind fun Mc=>cond (!Mc.1.1.2.1) (some ((((0,0,0,0,[],()),false,()),()),())) (cond (!(Mc.1.1.1==line)) (some ((((0,0,0,0,[],()),false,()),()),())) (some (((d,true,()),()),()))))=(some ((fin line d,()),()):Option HS):=by
 rw[dt h];simp only[AD];unfold fin kv;cases hl:DE d with
 |none=>rfl
 |some t=>
  simp only[AQ7,ALR,AKp,AQ_,AKX];by_cases e:t=line
  ·simp_all
  ·rw[AJk e,ALr.2 e];rfl
end Go.M
end
section
namespace Go.M
open Go.Lib (decDigits itoa)
open Go.M.H (Ar Al)
def AKU(line:ABF)(rF:Al->Prop)(o:Al×Bool×Unit):Prop:=
 (∃df,fj df/\o=fin line df/\ ∀D,fj D->rF D->df=D)\/(o=(AEL,false,())/\ ∀D,fj D-> ¬rF D)
theorem AES{line:ABF}{a:Nat}(h:a<=line.length):(line.drop a).take (line.length-a)=line.drop a:=AOe (by simp)
theorem ANJ{k:Int}{l:AAA}(h:∀n∈l,Bp n):fj (tN k l):=by
 have z:Bp 0:=by unfold Bp;omega
 have g:∀i,Bp (l.getD i 0):=fun i=>by
  grind
 unfold tN;split
 ·exact⟨z,g 0,g 1⟩
 ·exact⟨g 0,g 1,g 2⟩
theorem AAF{line:ABF}(AEM:line.length<=1048576){k:Int}(hk:1<=k/\k<=16):∀(n i a:Nat) (b:AAA) (f:Nat),i+n=mu k->b.length=i->n<f->(∀x∈b,Bp x)->a<=2^20+20*i->
  ∃o,D8 f line k (mu k:Int) (a:Int) (i:Int) 0 0 0 0 [] 0 0 0 0 [] b=some ((o,()),())/\
   AKU line (fun D=>D.1=k/\DE D=some line/\b=(numsOf D).take i/\line.drop a=behind D ((numsOf D).drop i)) o
 |n,i,a,b,0,_,_,hf,_,_=>by omega
 |0,i,a,b,f+1,hn,hb,hf,Qt,ha=>by
  have hc3:mu k<=3:=ZN _;have known:∀D,fj D->(D.1=k/\DE D=some line/\b=(numsOf D).take i/\line.drop a=behind D ((numsOf D).drop i))->b=numsOf D/\line.drop a=behind D []/\GS D=true/\(k=13->Av D.2.1=true):=fun D hD h=>by
   grind[numsOf,AAD,N1,List.take_of_length_le,List.drop_eq_nil_of_le]
  show∃o,HK (Dw f) (D8 f) _ _ _ _ _ _ _ _ _ _ _ _ _ _ _ _=_/\_
  unfold HK;rw[AB,AJk (by omega),wQ (by omega)];simp only[AD];have sv:=ANJ (k:=k) Qt;rw[Qy,AG (x:=(a:Int)+1) (by omega) (by omega)];simp only[AD];by_cases k2:k=2
  ·rw[k2]at sv|-
   simp only[ARC,ALg];obtain⟨m,hm⟩:∃m:Nat,min ((a:Int)+1) (line.length:Int)=(m:Int):=⟨min (a+1) line.length,by omega⟩;have w_:m<=line.length:=by omega
   rw[hm,AJe (by omega)];simp only[show((m:Int)).toNat=m by omega,show((line.length:Int)).toNat=line.length by omega];rw[AES w_];have hd:fj ((tN 2 b).1,(tN 2 b).2.1,(tN 2 b).2.2.1,(tN 2 b).2.2.2.1,line.drop m,()):=⟨sv.a,sv.b,sv.c⟩;refine⟨fin line ((tN 2 b).1,(tN 2 b).2.1,(tN 2 b).2.2.1,(tN 2 b).2.2.2.1,line.drop m,()),vT hd,.inl ⟨_,hd,rfl,fun D hD h=> ?_⟩⟩;rw[<-k2]at h;obtain⟨q1,q2,q3,_⟩:=known D hD h;have hD1:D.1=2:=h.1.trans k2;have aO:line.drop a=32::D.2.2.2.2.1:=by rw[q2];unfold behind;grind
   have hal:a<line.length:=by
    grind[List.drop_eq_nil_of_le]
   have htx:line.drop m=D.2.2.2.2.1:=by
    grind[List.tail_drop]
   rw[htx,q1,<-hD1];have:=tb q3;unfold h_ at this;grind
  rw[ALr.2 k2,AKp];by_cases k13:k=13
  ·rw[k13]at sv|-
   simp only[ARC,ALg];obtain⟨m,hm⟩:∃m:Nat,min ((a:Int)+1) (line.length:Int)=(m:Int):=⟨min (a+1) line.length,by omega⟩;have w_:m<=line.length:=by omega
   rw[hm,AJe (by omega)];simp only[show((m:Int)).toNat=m by omega,show((line.length:Int)).toNat=line.length by omega];rw[AES w_];obtain⟨x,bb,e1,e2,e3⟩:=ll (w:=line.drop m);rw[e1];simp only[AD];have hd:fj ((tN 13 b).1,x,(tN 13 b).2.2.1,(tN 13 b).2.2.2.1,(tN 13 b).2.2.2.2.1,()):=⟨e2,sv.b,sv.c⟩;refine⟨fin line ((tN 13 b).1,x,(tN 13 b).2.2.1,(tN 13 b).2.2.2.1,(tN 13 b).2.2.2.2.1,()),vT hd,.inl ⟨_,hd,rfl,fun D hD h=> ?_⟩⟩;rw[<-k13]at h;obtain⟨q1,q2,q3,q4⟩:=known D hD h;have hD1:D.1=13:=h.1.trans k13;have aO:line.drop a=32::Gh D.2.1:=by rw[q2];unfold behind;grind
   have hal:a<line.length:=by
    grind[List.drop_eq_nil_of_le]
   have htx:line.drop m=Gh D.2.1:=by
    grind[List.tail_drop]
   rw[e3 D.2.1 hD.a (q4 k13) htx.symm,q1,<-hD1];have:=tb q3;unfold h_ at this;grind
  rw[ALr.2 k13,AKp];refine⟨fin line (tN k b),vT sv,.inl ⟨_,sv,rfl,fun D hD h=> ?_⟩⟩;obtain⟨q1,q2,q3,q4⟩:=known D hD h;have:=tb q3;unfold h_ at this;grind
 |n+1,i,a,b,f+1,hn,hb,hf,Qt,ha=>by
  have hc3:mu k<=3:=ZN _
  show∃o,HK (Dw f) (D8 f) _ _ _ _ _ _ _ _ _ _ _ _ _ _ _ _=_/\_
  unfold HK;rw[AB,AJe (by omega),AG (x:=(a:Int)+1) (by omega) (by omega)];obtain⟨y,p,e1,e2,e3,e4,e5⟩:=Za (s:=line) (j:=a+1) (by omega);rw[show((a:Int)+1)=((a+1:Nat):Int)by omega,e1];simp only[AD,AB];have known:∀D,fj D->(D.1=k/\DE D=some line/\b=(numsOf D).take i/\line.drop a=behind D ((numsOf D).drop i))->y=(numsOf D).getD i 0/\0<=y/\b++[y]=(numsOf D).take (i+1)/\line.drop p=behind D ((numsOf D).drop (i+1)):=fun D hD h=>by
   obtain⟨h1,h2,h3,h4⟩:=h;have hl:i<(numsOf D).length:=by rw[AAD,h1];omega
   obtain⟨_,_,p3,_⟩:=N1 h2;rw[ARX hl]at h4;have hm:=p3 _ (ALk hl);simp only[behind]at h4;have h5:line.drop (a+1)=MO (numsOf D)[i]++behind D ((numsOf D).drop (i+1)):=by grind[List.tail_drop]
   obtain⟨r1,r2⟩:=e5 _ _ hm h5 fun c r hcr=>by
    rw[ABZ _ _ _ hcr]
    decide
   refine⟨by simp_all,?_,?_,?_⟩
   ·rw[r1]
    unfold Qd BE at hm;simp_all
   ·simp_all
   ·rw[r2,<-List.drop_drop,h5,List.drop_append]
    simp
  by_cases hy:y<0
  ·rw[AJe hy]
   exact⟨_,rfl,.inr ⟨rfl,fun D hD h=>by grind⟩⟩
  rw[AJk hy,AJe (by rw[Am];omega),AG (x:=(i:Int)+1) (by omega) (by omega)];obtain⟨o,g1,g2⟩:=AAF AEM hk n (i+1) p (b++[y]) f (by omega) (by simp[hb]) (by omega) (fun x hx=>by
   grind[List.mem_singleton,Bp]) (by omega)
  refine⟨o,g1,?_⟩;rcases g2 with⟨df,q1,q2,q3⟩|⟨q1,q2⟩
  ·exact .inl ⟨df,q1,q2,fun D hD h=>q3 D hD ⟨h.1,h.2.1,(known D hD h).2.2.1,(known D hD h).2.2.2⟩⟩
  ·exact .inr ⟨q1,fun D hD h=>q2 D hD ⟨h.1,h.2.1,(known D hD h).2.2.1,(known D hD h).2.2.2⟩⟩
theorem AAB:∀j∈List.range 16,∀i∈List.range 16,j≠i-> ∀m,m<=(EK.getD j []).length->m<=(EK.getD i []).length->(m=(EK.getD j []).length\/m=(EK.getD i []).length)->(EK.getD j []).take m≠(EK.getD i []).take m:=by
 decide
theorem AF4{j k:Int}(hj:1<=j/\j<=16)(hk:1<=k/\k<=16){r:ABF}(h:(B8 k++r).take (B8 j).length=B8 j):j=k:=by
 by_cases e:(j-1).toNat=(k-1).toNat
 ·omega
 exfalso
 have key:=AAB (j-1).toNat (List.mem_range.2 (by omega)) (k-1).toNat (List.mem_range.2 (by omega)) e (min (B8 j).length (B8 k).length) (by unfold B8;omega) (by unfold B8;omega) (by unfold B8;omega);apply key
 show(B8 j).take _=(B8 k).take _
 have e1:(B8 j).take (min (B8 j).length (B8 k).length)=(B8 k++r).take (min (B8 j).length (B8 k).length):=by
  grind
 rw[e1,List.take_append_of_le_length (by omega)]
theorem ADx{line:ABF}(AEM:line.length<=1048576):∀(n:Nat) (k:Int) (f:Nat),k+n=17->1<=k->n+10<f->
  (∀D,fj D->DE D=some line->k<=D.1)->
  ∃o,Dw f line k 0 0 0 0 [] 0 0 0 0 []=some ((o,()),())/\kc line o
 |n,k,0,_,_,hf,_=>by omega
 |0,k,f+1,hn,h1,hf,hge=>by
  show∃o,H8 (Dw f) (D8 f) _ _ _ _ _ _ _ _ _ _ _ _=_/\_
  unfold H8;rw[AB,AJk (by omega)];refine⟨_,rfl,.inr ⟨fun d hd h=> ?_,rfl⟩⟩;have:=hge d hd h;have:=(JI (N1 h).1).1;omega
 |n+1,k,f+1,hn,h1,hf,hge=>by
  have hk:1<=k/\k<=16:=by omega
  show∃o,H8 (Dw f) (D8 f) _ _ _ _ _ _ _ _ _ _ _ _=_/\_
  unfold H8;have hw:=ez k;rw[AB,AJe (by omega),gM hk,AG (x:=k+1) (by omega) (by omega)];simp only[AD,AB];have next:(∀D,fj D->DE D=some line->D.1≠k)-> ∃o,Dw f line (k+1) 0 0 0 0 [] 0 0 0 0 []=some ((o,()),())/\kc line o:=fun aO=>
   ADx AEM n (k+1) f (by omega) (by omega) (by omega) fun D hD h=>by
    grind
  have pre:∀D,fj D->DE D=some line->D.1=k->(B8 k).length<=line.length/\line.take (B8 k).length=B8 k:=fun D hD h e=>by
   obtain⟨_,_,_,h4⟩:=N1 h;simp_all
  by_cases hl:(line.length:Int)<((B8 k).length:Int)
  ·grind
  rw[AJk hl,AJe (by omega)];rw[show((((B8 k).length:Nat):Int)).toNat-0=(B8 k).length by omega,AP7];by_cases hp:line.take (B8 k).length=B8 k
  rotate_left
  ·grind
  rw[hp];simp only[ARC,ALR,AKp];rw[show((k,0,0,0,[],()):Al)=(k,0,0,0,[],())from rfl,gI];simp only[AD];obtain⟨o,g1,g2⟩:=AAF AEM hk (mu k) 0 (B8 k).length [] f (by omega) rfl (by grind[ZN,mu]) (by simp) (by omega);refine⟨o,g1,?_⟩;have all:∀D,fj D->DE D=some line->D.1=k/\DE D=some line/\[]=(numsOf D).take 0/\line.drop (B8 k).length=behind D ((numsOf D).drop 0):=fun D hD h=>by
   obtain⟨p1,_,_,h4⟩:=N1 h;have e:k=D.1:=AF4 hk (JI p1).1 (r:=behind D (numsOf D)) (by simp_all);simp_all
  rcases g2 with⟨df,q1,q2,q3⟩|⟨q1,q2⟩
  ·grind[xI]
  ·rw[q1]
   exact .inr ⟨fun D hD h=>q2 D hD (all D hD h),rfl⟩
theorem mV{line:ABF}(hl:line.length<=1048576):∃o,T3 line=some ((o,()),())/\kc line o:=by
 unfold T3 W_;exact ADx hl 16 1 AW (by omega) (by omega) (Aa (by omega)) fun D hD h=>(JI (N1 h).1).1.1
theorem ACl{line:ABF}{o o':Al×Bool×Unit}(h:kc line o)(h':kc line o'):o=o':=by
 rcases h with⟨d,h1,h2,rfl,h3⟩|⟨h1,rfl⟩
 ·rcases h' with⟨d',k1,k2,rfl,_⟩|⟨k1,rfl⟩
  all_goals grind
 ·rcases h' with⟨d',k1,k2,rfl,_⟩|⟨k1,rfl⟩
  all_goals simp_all
end Go.M
end
section
set_option maxRecDepth 8000
namespace Go.M
open Go.M.H (AA AJ AM AN AU AX AY Ac Af Aj Ak Al Ao Ap Ar Aw Az B4 BB BG BH B_ CE CX Cl Cx DV)
def DS(w:AA):Prop:= ∀x∈w.AL,∀(i:Nat) (y:BH),x.2.1[i]? =some y-> ∃s∈w.CI,s.1=G9 x.1 ((i:Int)+1)/\(y.2.2.1=true->s.2.2.1=true)
theorem AA_{α:Type}{f:α->Int}:∀{l:List α} {s t:α},XT f l->s∈l->t∈l->f s=f t->s=t
 |x::l,s,t,h,hs,ht,e=>by
  simp only[XT,APd]at h;rcases ANC.1 hs with rfl|hs'
  ·grind
  ·rcases ANC.1 ht with rfl|ht'
   ·grind
   ·exact AA_ h.2 hs' ht' e
theorem j0{l:List BH}{o:Int}(h:1<=o):Ib l o=true↔ ∃y,l[(o-1).toNat]? =some y/\y.2.2.1=true:=by
 unfold Ib;rw[ALJ,An];constructor
 ·rintro⟨h1,h2⟩
  have hi:(o-1).toNat<l.length:=by omega
  simp_all
 ·rintro⟨y,h1,h2⟩
  obtain⟨hi,h3⟩:=AK1.1 h1;simp_all;omega
theorem Q4{all:Bool}{c:CQ}{s:AM}{l:List Cx}{n:Int}:∀{ws:List AU} {ss:List Ak},
  (FB all c s l n ws ss).2=ss.map fun t=>(t.1,t.2.1,t.2.2.1||(ws.any fun x=>Pf s l n x&&(Ab t.1==x.1&&(Ib (BQ c s x.1 n 1 x.2.1) (Bt t.1)&&(all|| !Ib x.2.1 (Bt t.1))))),())
 |[],ss=>by
  simp only[FB,List.any_nil,AVr];simp_all
 |x::ws,ss=>by
  simp only[FB];split
  ·rename_i ht
   simp only;rw[Q4,AR5];refine ARF fun t _=> ?_
   simp only[Function.comp,T7,List.any_cons,ht,ALl,Bool.or_assoc]
  ·rename_i ht
   simp only;rw[Q4];simp_all
theorem Rr{all:Bool}{c:CQ}{s:AM}{l:List Cx}{n:Int}:∀{ws:List AU} {ss:List Ak},
  (FB all c s l n ws ss).1=ws.map fun x=>if Pf s l n x then(x.1,BQ c s x.1 n 1 x.2.1,())else x
 |[],ss=>rfl
 |x::ws,ss=>by
  simp only[FB,ARZ];split<;>simp only<;>rw[Rr]
theorem ZW{c:CQ}{s:AM}{ep n:Int}:∀{l:List BH} {o:Int} {i:Nat},(BQ c s ep n o l)[i]? =(l[i]?).map fun x=>if !x.2.2.1&&Mp s (G9 ep (o+i))then Ft c n x else x
 |[],o,i=>by rfl
 |x::l,o,0=>by simp[BQ]
 |x::l,o,i+1=>by
  simp only[BQ,AVc];rw[ZW,show o+1+(i:Int)=o+((i+1:Nat):Int)by omega]
section
variable{w:AA} (h:RX w) (hd:DS w)
include h hd
theorem AKr{s:AM}{n:Int}:FB true (Ae w) s w.BF n w.AL w.CI=FB false (Ae w) s w.BF n w.AL w.CI:=by
 refine Prod.ext (by rw[Rr,Rr]) ?_
 rw[Q4,Q4];refine ARF fun t ht=> ?_
 cases hu:t.2.2.1 with
 |true=>rfl
 |false=>
  have:∀x∈w.AL,(Pf s w.BF n x&&(Ab t.1==x.1&&(Ib (BQ (Ae w) s x.1 n 1 x.2.1) (Bt t.1)&&(true|| !Ib x.2.1 (Bt t.1)))))=(Pf s w.BF n x&&(Ab t.1==x.1&&(Ib (BQ (Ae w) s x.1 n 1 x.2.1) (Bt t.1)&&(false|| !Ib x.2.1 (Bt t.1))))):=fun x hx=>by
   cases hq:Ib x.2.1 (Bt t.1)with
   |false=>rfl
   |true=>
    have aO:(Ab t.1==x.1)=false:=by
     rw[ALr];intro he;obtain⟨p1,p2,p3⟩:=GM (h.CI t ht).1;obtain⟨y,y1,y2⟩:=(j0 p2.1).1 hq;obtain⟨u,u1,u2,u3⟩:=hd x hx _ y y1;rw[<-he,show(((Bt t.1-1).toNat:Nat):Int)+1=Bt t.1 by omega,p3]at u2;have:=AA_ h.de u1 ht u2;simp_all
    simp_all
  grind
theorem AJS{d:Al}:Fu true w d=Fu false w d:=by
 unfold Fu;have:LO true w d=LO false w d:=by
  unfold LO;by_cases h4:d.1=4
  ·simp only[AJe h4,show¬d.1=1 by omega,show¬d.1=2 by omega,show¬d.1=3 by omega,ANX]
   grind[Qi,AKr]
  grind
 rw[this]
omit h in
theorem zO{v:AA}(hw:∀x∈v.AL,∀(i:Nat) (y:BH),x.2.1[i]? =some y-> ∃x'∈w.AL,x'.1=x.1/\ ∃y',x'.2.1[i]? =some y'/\(y.2.2.1=true->y'.2.2.1=true))
  (hs:∀s∈w.CI,s∈v.CI):DS v:=fun x hx i y hy=>by
 obtain⟨x',a1,a2,y',a3,a4⟩:=hw x hx i y hy;obtain⟨s,b1,b2,b3⟩:=hd x' a1 i y' a3;exact⟨s,hs s b1,by rw[<-a2];exact b2,fun hyd=>b3 (a4 hyd)⟩
omit h in
theorem AKP{a:Int}(h0:(Qk w a).2=0):DS (Qk w a).1:=by
 unfold Qk at h0|-;split
 ·exact hd
 dsimp only at h0|-;split
 ·exact hd
 refine zO hd (fun x hx i y hy=> ?_) fun s hs=>hs
 have vW:x∈w.AL++[((JA (Ae w) (CT w) (BM a)).2.1,[],())]:=hx;rcases AMt.1 vW with hx|hx
 ·exact⟨x,hx,rfl,y,hy,id⟩
 ·simp only[ANC,List.not_mem_nil,or_false]at hx
  subst hx;simp at hy
omit h in
theorem AQk{a:Int}{d:ABF}:DS (doAdd w a d).1:=by
 unfold doAdd;split
 ·exact hd
 rename_i ha;dsimp only;split
 ·exact hd
 rename_i hq;have ha':0<=a/\a<=(w.AL.length:Int)-1:=An.1 (by simpa using ha);have hi:a.toNat<w.AL.length:=by omega
 have hxm:=BJ (d:=CO) hi;simp only[AQd,AV2,AMv,AM0]at hq;obtain⟨_,r1,r2,r3⟩:=YN hq.1;rw[r2,r3]
 generalize w.AL.getD a.toNat CO=z at*
 intro x hx i y hy;have vW:x∈w.AL.set a.toNat (z.1,z.2.1++[(d,[],false,())],()):=hx;have old:∀s∈w.CI,s∈eo (G9 z.1 ((z.2.1.length:Int)+1),d,false,()) w.CI:=fun s hs=>gl.2 (.inr hs)
 have key:∀x∈w.AL,∀(i:Nat) (y:BH),x.2.1[i]? =some y-> ∃s∈eo (G9 z.1 ((z.2.1.length:Int)+1),d,false,()) w.CI,s.1=G9 x.1 ((i:Int)+1)/\(y.2.2.1=true->s.2.2.1=true):=fun x hx i y hy=>by
  obtain⟨s,b1,b2⟩:=hd x hx i y hy;exact⟨s,old s b1,b2⟩
 rcases ARW vW with hx|rfl
 ·exact key x hx i y hy
 ·dsimp only at hy|-
  by_cases Ix:i<z.2.1.length
  ·rw[AMB Ix]at hy
   exact key z hxm i y hy
  ·obtain⟨hlen,_⟩:=AK1.1 hy
   simp only[AMf,AMK,APb]at hlen;have hii:i=z.2.1.length:=by omega
   subst hii;refine⟨_,gl.2 (.inl rfl),rfl,fun hyd=> ?_⟩;rw[AMM (AMN _),AVx]at hy;cases hy;cases hyd
theorem AJV{n:Int}:DS (Qi false w n).1:=by
 unfold Qi;split
 ·omega
 dsimp only;split
 ·omega
 generalize (Cw (storeAt w n)).1=S
 rw[Rr,Q4];intro x hx i y hy;have vW:x∈w.AL.map fun x=>if Pf S w.BF n x then(x.1,BQ (Ae w) S x.1 n 1 x.2.1,())else x:=hx
 obtain⟨z,hz,rfl⟩:=ARG.1 vW;have hwr:=(h.AL z hz).1;have ACw:∀s∈w.CI,(s.1,s.2.1,s.2.2.1||(w.AL.any fun x=>Pf S w.BF n x&&(Ab s.1==x.1&&(Ib (BQ (Ae w) S x.1 n 1 x.2.1) (Bt s.1)&&(false|| !Ib x.2.1 (Bt s.1))))),())∈(w.CI.map fun t=>(t.1,t.2.1,t.2.2.1||(w.AL.any fun x=>Pf S w.BF n x&&(Ab t.1==x.1&&(Ib (BQ (Ae w) S x.1 n 1 x.2.1) (Bt t.1)&&(false|| !Ib x.2.1 (Bt t.1))))),())):=fun s hs=>ARG.2 ⟨s,hs,rfl⟩
 by_cases ht:Pf S w.BF n z=true
 ·rw[AJe ht]at hy|-
  dsimp only at hy|-;rw[ZW]at hy;cases hg:z.2.1[i]? with
  |none=>simp_all
  |some q=>
   obtain⟨s,b1,b2,b3⟩:=hd z hz i q hg;refine⟨_,ACw s b1,b2,fun hyd=> ?_⟩;dsimp only;cases hqd:q.2.2.1 with
   |true=>simp_all
   |false=>
    have Ix:=(AK1.1 hg).1;have AcL:=hwr.n;obtain⟨p1,p2,p3⟩:=Nv (e:=z.1) (o:=(i:Int)+1) hwr.ep (by omega);rw[b2,p2,p3];rw[show(w.AL.any fun x=>Pf S w.BF n x&&(z.1==x.1&&(Ib (BQ (Ae w) S x.1 n 1 x.2.1) ((i:Int)+1)&&(false|| !Ib x.2.1 ((i:Int)+1)))))=true from ?_,Bool.or_true];refine List.any_eq_true.2 ⟨z,hz,?_⟩;have h1:Ib (BQ (Ae w) S z.1 n 1 z.2.1) ((i:Int)+1)=true:=(j0 (by omega)).2 ⟨y,by rw[show((i:Int)+1-1).toNat=i by omega,ZW,hg];simp_all,hyd⟩;have h2:Ib z.2.1 ((i:Int)+1)=false:=by
     rw[ARJ];intro hh;obtain⟨q',e1,e2⟩:=(j0 (by omega)).1 hh;simp_all
    simp_all
 ·rw[AJk ht]at hy|-
  obtain⟨s,b1,b2,b3⟩:=hd z hz i y hy;grind
theorem AKH{n:Int}:DS (Rw w n).1:=by
 unfold Rw;split
 ·omega
 refine zO hd (fun x hx i y hy=> ?_) fun s hs=>hs
 have vW:x∈w.AL.map fun x=>(CC (Ae w) x n).1:=hx
 obtain⟨z,hz,rfl⟩:=ARG.1 vW;unfold CC at hy|-;rw[Ho.2 (h.AL z hz).1]at hy|-;simp only[ALR,ALY,ANX,AOR,AKm]at hy|-;obtain⟨q,q1,rfl⟩:=hy;exact⟨z,hz,rfl,q,q1,id⟩
theorem ASw{d:Al}(h0:(Fu false w d).2=0):DS (Fu false w d).1:=by
 unfold Fu at h0|-;split
 ·simp_all
 rename_i hc;rw[AJk hc]at h0;unfold LO at h0|-;by_cases c1:d.1=1
 ·rw[AJe c1]at h0|-;exact AKP hd h0
 rw[AJk c1]at h0|-;by_cases c2:d.1=2
 ·rw[AJe c2];exact AQk hd
 rw[AJk c2]at h0|-;by_cases c3:d.1=3
 ·rw[AJe c3]
  unfold OL putAt
  try dsimp only
  repeat' split
  all_goals exact hd
 rw[AJk c3]at h0|-;by_cases c4:d.1=4
 ·rw[AJe c4];exact AJV h hd
 rw[AJk c4]at h0|-;by_cases c5:d.1=5
 ·rw[AJe c5]
  unfold OT putAt
  repeat' split
  all_goals exact hd
 rw[AJk c5]at h0|-;by_cases c6:d.1=6
 ·rw[AJe c6];exact AKH h hd
 rw[AJk c6]at h0|-;by_cases c7:d.1=7
 ·rw[AJe c7]
  unfold UH
  try dsimp only
  repeat' split
  all_goals exact hd
 rw[AJk c7]at h0|-;by_cases c8:d.1=8
 ·rw[AJe c8]
  unfold UJ
  repeat' split
  all_goals exact hd
 rw[AJk c8]at h0|-;by_cases c9:d.1=9
 ·rw[AJe c9]
  unfold Ti
  try dsimp only
  repeat' split
  all_goals exact hd
 rw[AJk c9]at h0|-;by_cases c10:d.1=10
 ·rw[AJe c10]
  unfold Tb
  try dsimp only
  repeat' split
  all_goals exact hd
 rw[AJk c10]at h0|-;by_cases c11:d.1=11
 ·rw[AJe c11]
  unfold bd putAt
  try dsimp only
  repeat' split
  all_goals exact hd
 rw[AJk c11]at h0|-;by_cases c12:d.1=12
 ·rw[AJe c12]
  unfold Oj
  try dsimp only
  repeat' split
  all_goals exact hd
 rw[AJk c12]at h0|-;by_cases c13:d.1=13
 ·rw[AJe c13]
  unfold Xi
  try dsimp only
  split
  all_goals exact hd
 rw[AJk c13]at h0|-;by_cases c14:d.1=14
 ·rw[AJe c14]
  unfold L6
  try dsimp only
  repeat' split
  all_goals exact hd
 rw[AJk c14]at h0|-;by_cases c15:d.1=15
 ·rw[AJe c15]
  unfold VD;split
  ·omega
  ·refine zO hd (fun x hx i y hy=> ?_) fun s hs=>hs
   have vW:x∈w.AL.eraseIdx d.2.1.toNat:=hx;exact⟨x,List.mem_of_mem_eraseIdx vW,rfl,y,hy,id⟩
 rw[AJk c15]at h0|-;unfold Ob putAt
 repeat' split
 all_goals exact hd
end
theorem AOp{c:CQ}:DS (Hz c):=fun x hx=>by
 have:x∈([]:List AU):=hx;simp_all
theorem z7{w:AA}{n:Int}:0<=Au w n/\Au w n<6:=by
 grind[Au]
theorem AGE{w:AA}{n:Int}{q:AM×Bool}:0<=(putAt w n q).2/\(putAt w n q).2<6:=by
 grind[putAt]
def Rg(q:aR):Prop:=0<=q.2/\q.2<6
theorem Rg.ite{p:Prop}[Decidable p]{a b:aR}(ha:Rg a)(hb:Rg b):Rg (if p then a else b):=by grind
theorem ABw{w:AA}{d:Al}:Rg (LO false w d):=by
 have hn:=fun n=>z7 (w:=w) (n:=n)
 have hp:=fun n q=>AGE (w:=w) (n:=n) (q:=q)
 have hk:∀(v:AA) (k:Int),0<=k/\k<6->Rg (v,k):=fun _ _ h=>h
 unfold LO;refine .ite ?_ ?_
 ·grind[Qk]
 refine .ite ?_ ?_
 ·grind[doAdd]
 refine .ite ?_ ?_
 ·grind[OL]
 refine .ite ?_ ?_
 ·grind[Qi]
 refine .ite ?_ ?_
 ·grind[OT]
 refine .ite ?_ ?_
 ·grind[Rw]
 refine .ite ?_ ?_
 ·grind[UH]
 refine .ite ?_ ?_
 ·grind[UJ]
 refine .ite ?_ ?_
 ·grind[Ti]
 refine .ite ?_ ?_
 ·grind[Tb]
 refine .ite ?_ ?_
 ·grind[bd]
 refine .ite ?_ ?_
 ·grind[Oj]
 refine .ite ?_ ?_
 ·grind[Xi]
 refine .ite ?_ ?_
 ·grind[L6]
 refine .ite ?_ ?_
 all_goals grind[VD,Ob]
theorem wK{all:Bool}{w:AA}(h:RX w){e:Al}(hd:GS e=true):Fu all w e=LO all w e:=by
 grind[Fu,JG]
structure Sn (w:AA) (i:Nat):Prop where
 ok:RX w
 ds:DS w
 ev:rJ w
 rd:Af Aw w.Ai<=2+41*i
theorem Sn.next{w:AA}{i:Nat}(h:Sn w i):Sn w (i+1):=⟨h.ok,h.ds,h.ev,by have:=h.rd;omega⟩
theorem Sn.win{w:AA}{i:Nat}(h:Sn w i)(hi:i<=1000):lg w:=h.ok.AZE (by have:=h.rd;omega)
theorem Sn.AX1{w:AA}{i:Nat}(h:Sn w i)(hi:i<=1000){d:Al}(hd:Bp d.2.1)(hk:GS d=true):
  ∃v k,Mk w d=some (pkD (v,k))/\TE w d=some (pkD (v,k))/\0<=k/\k<6/\Sn v (i+1):=by
 have Zc:=h.win hi;refine⟨(Fu false w d).1,(Fu false w d).2,rQ Zc hd,by rw[rf Zc hd,AJS h.ok h.ds],?_⟩;have e:Fu false w d=LO false w d:=wK h.ok hk;refine⟨by rw[e];exact ABw.1,by rw[e];exact ABw.2,?_⟩;by_cases h0:(Fu false w d).2=0
 ·exact⟨JG.1 (ADL h0),ASw h.ok h.ds h0,by rw[e];exact AK3 h.ev,by have:=ACg h.ok h0;have:=h.rd;omega⟩
 ·have:(Fu false w d).1=w:=by grind[sM]
  rw[this];exact h.next
theorem ACc{e:Ar}(h:Bp e.2.1)(hl:e.2.2.1.length<=1000000):∃t:List UInt8,PZ e=some ((t,()),())/\G1 e=some ((t,()),())/\t.length<=1000100:=by
 rw[yw h];have hp:=eS e.2.1;have hd:=xS h.2;unfold G1;rw[Oi h,Q2 h.2];simp only[AD];have hk:∀n:Nat,n<=5->n+(Gh e.2.1).length<=CN:=fun n hn=>by rw[Am];omega
 have k2:([100,97,116,97,32]++Gh e.2.1).length+1<=CN:=by grind[Am,List.length_append,List.length_cons,List.length_nil]
 have k3:(([100,97,116,97,32]++Gh e.2.1)++[32]).length+e.2.2.1.length<=CN:=by grind[Am,List.length_append,List.length_cons,List.length_nil]
 have k4:4+(MO e.2.1).length<=CN:=by rw[Am];omega
 grind
def qv(w:AA)(t:ABF):cq:=(((((),w.2.1,(),(),(),w.2.2.2.2.2.1,(),(),(),(),w.2.2.2.2.2.2.2.2.2.2.1,()),t,()),()),(w.1,w.2.2.1,w.2.2.2.1,w.2.2.2.2.1,w.2.2.2.2.2.2.1,w.2.2.2.2.2.2.2.1,w.2.2.2.2.2.2.2.2.1,w.2.2.2.2.2.2.2.2.2.1,()))
theorem oE{w:AA}(h:lg w)(hev:rJ w):V4 w=some ((SD w&&(Vs w&&(VZ w&&(SF w&&VN w))),()),()):=by
 unfold V4;rw[Fo w,kH h,lQ h,mL h,kV h,mr h hev];grind
theorem AE1{r:Ac}(hr:∀e∈r.2.2.1,Bp e.2.1)(hw:Aw r<=1000000):∃t:List UInt8,Ns r=some ((t,()),())/\
  (cond ((r.2.2.1.length:Int)==0) (some (([110,111,110,101],()),())) (if(0:Int)<=AQ ((r.2.2.1.length:Int)-1)/\AQ ((r.2.2.1.length:Int)-1)<(r.2.2.1.length:Int)then
   (G1 ((r.2.2.1.getD ((AQ ((r.2.2.1.length:Int)-1)).toNat) (0,0,[],())).1,(r.2.2.1.getD ((AQ ((r.2.2.1.length:Int)-1)).toNat) (0,0,[],())).2.1,(r.2.2.1.getD ((AQ ((r.2.2.1.length:Int)-1)).toNat) (0,0,[],())).2.2.1,())).bind fun u8=>some ((u8.1.1,()),())else none):Option cI)=some ((t,()),())/\t.length<=1000100:=by
 have hl:=AX (f:=B4) (l:=r.2.2.1);have pt:Af B4 r.2.2.1<=1000000:=hw;unfold Ns;by_cases h0:r.2.2.1.length=0
 ·simp_all
 rw[ALr.2 (show(r.2.2.1.length:Int)≠0 by omega),AKp,AKp,AG (x:=(r.2.2.1.length:Int)-1) (by omega) (by omega)];have hi:r.2.2.1.length-1<r.2.2.1.length:=by omega
 have hm:=BJ (d:=((0,0,[],()):Ar)) hi;obtain⟨t,t1,t2,t3⟩:=ACc (hr _ hm) (by have h1:=AY (f:=B4) hm;have h2:B4 (r.2.2.1.getD (r.2.2.1.length-1) (0,0,[],()))=(r.2.2.1.getD (r.2.2.1.length-1) (0,0,[],())).2.2.1.length:=rfl;omega);have hb:(0:Int)<=(r.2.2.1.length:Int)-1/\(r.2.2.1.length:Int)-1<(r.2.2.1.length:Int):=by omega
 have hn:((r.2.2.1.length:Int)-1).toNat=r.2.2.1.length-1:=by omega
 refine⟨t,?_,?_,t3⟩
 ·dsimp only
  rw[AG (x:=(r.2.2.1.length:Int)-1) (by omega) (by omega),AJe hb,hn];simp_all
 simp_all
theorem AZu:AQ (AQ ((([111,117,116,32,48]:ABF).getD 4 0).toNat:Int)-48)=0:=by decide
theorem AWs:AQ (AQ ((([111,117,116,32,49]:ABF).getD 4 0).toNat:Int)-48)=1:=by decide
theorem Sn.reader{w:AA}{i:Nat}(h:Sn w i)(hi:i<=1000){k:Nat}(hk:k<2):∃t:List UInt8,Ns (w.Ai.getD k AR)=some ((t,()),())/\
  (cond (((w.Ai.getD k AR).2.2.1.length:Int)==0) (some (([110,111,110,101],()),())) (if(0:Int)<=AQ (((w.Ai.getD k AR).2.2.1.length:Int)-1)/\AQ (((w.Ai.getD k AR).2.2.1.length:Int)-1)<((w.Ai.getD k AR).2.2.1.length:Int)then
   (G1 (((w.Ai.getD k AR).2.2.1.getD ((AQ (((w.Ai.getD k AR).2.2.1.length:Int)-1)).toNat) (0,0,[],())).1,((w.Ai.getD k AR).2.2.1.getD ((AQ (((w.Ai.getD k AR).2.2.1.length:Int)-1)).toNat) (0,0,[],())).2.1,((w.Ai.getD k AR).2.2.1.getD ((AQ (((w.Ai.getD k AR).2.2.1.length:Int)-1)).toNat) (0,0,[],())).2.2.1,())).bind fun u8=>some ((u8.1.1,()),())else none):Option cI)=some ((t,()),())/\t.length<=1000100:=by
 have hm:=BJ (d:=AR) (show k<w.Ai.length by rw[h.ok.tO];omega);refine AE1 (fun e he=>h.ev _ hm e he) ?_
 have:=AY (f:=Aw) hm;have:=h.rd;omega
theorem i7{w:AA}{i:Nat}(h:Sn w i)(hi:i<=1000){line:ABF}(hl:line.length<=20000):
  ∃v t,Dn w line=some (qv v t)/\MC w line=some (qv v t)/\Sn v (i+1)/\t.length<=1000100:=by
 have Zc:=h.win hi;have hnr:(w.2.2.2.2.2.2.2.2.1.length:Int)=2:=by have:=h.ok.tO;simp_all
 unfold Dn MC;rw[Fo w,Fp Zc,G_ Zc,al Zc,gC Zc,JG.2 h.ok];simp only[AD,ALR,AKp];cases h0:line==[]with
 |true=>exact⟨w,[],rfl,rfl,h.next,by simp⟩
 |false=>
 have aO:0<line.length:=by
  grind
 rw[AKp,AKp,AJe (show(0:Int)<=(0:Int)/\(0:Int)<(line.length:Int)from⟨by omega,by omega⟩),AJe (show(0:Int)<=(0:Int)/\(0:Int)<(line.length:Int)from⟨by omega,by omega⟩)];cases h1:((line.getD 0 0).toNat:Int)==35 with
 |true=>exact⟨w,[],rfl,rfl,h.next,by simp⟩
 |false=>
 rw[AKp,AKp];unfold iY;by_cases c1:line=[106,117,100,103,101]
 ·subst c1
  rw[ARC,ALg,ALg,Fo w,AAy Zc h.ev,oE Zc h.ev];simp only[AD];cases SD w&&(Vs w&&(VZ w&&(SF w&&VN w)))with
  |true=>exact⟨w,[121,101,115],rfl,rfl,h.next,by simp⟩
  |false=>exact⟨w,[110,111],rfl,rfl,h.next,by simp⟩
 rw[ALr.2 c1,AKp,AKp];by_cases c2:line=[111,117,116,32,48]
 ·subst c2
  obtain⟨t,t1,t2,t3⟩:=h.reader hi (k:=0) (by omega);refine⟨w,t,?_,?_,h.next,t3⟩
  ·rw[ARC,ALg,AJe ⟨by omega,by omega⟩]
   refine(congrArg (fun o=>Option.bind o _) t1).trans ?_
   rfl
  ·rw[ARC,ALg,AJe ⟨by omega,by decide⟩,AZu]
   dsimp only;rw[AJe ⟨by omega,by omega⟩];refine(congrArg (fun o=>Option.bind o _) t2).trans ?_
   simp only[AD];cases t==[]<;>rfl
 rw[ALr.2 c2,AKp,AKp];by_cases c3:line=[111,117,116,32,49]
 ·subst c3
  obtain⟨t,t1,t2,t3⟩:=h.reader hi (k:=1) (by omega);refine⟨w,t,?_,?_,h.next,t3⟩
  ·rw[ARC,ALg,AJe ⟨by omega,by omega⟩]
   refine(congrArg (fun o=>Option.bind o _) t1).trans ?_
   rfl
  ·rw[ARC,ALg,AJe ⟨by omega,by decide⟩,AWs]
   dsimp only;rw[AJe ⟨by omega,by omega⟩];refine(congrArg (fun o=>Option.bind o _) t2).trans ?_
   simp only[AD];cases t==[]<;>rfl
 rw[ALr.2 c3,AKp,AKp];simp only[AD];rw[show((([]:ABF)==[]):Bool)=true from rfl,ALR,AKp,AKp,AKp];obtain⟨o,o1,o2⟩:=lk (line:=line) (by omega);obtain⟨o',p1,p2⟩:=mV (line:=line) (by omega);have:=ACl p2 o2;subst this;rw[o1,p1];simp only[AD];rcases o2 with⟨d,d1,d2,rfl,_⟩|⟨_,rfl⟩
 ·obtain⟨v,k,e1,e2,k1,k2,hv⟩:=h.AX1 hi d1.a (Mb d2).1
  dsimp only;rw[ALR,AKp,AKp,uv d,e1,e2];simp only[AD];rw[AJe (show(0:Int)<=(pkD (v,k)).1.1.2.1/\(pkD (v,k)).1.1.2.1<6 from⟨k1,k2⟩)];refine⟨v,_,rfl,rfl,hv,?_⟩
  show(List.getD _ k.toNat []).length<=_
  obtain rfl|rfl|rfl|rfl|rfl|rfl:k=0\/k=1\/k=2\/k=3\/k=4\/k=5:=by omega
  all_goals decide
 ·exact⟨w,[119,104,97,116],rfl,rfl,h.next,by simp⟩
def pieces:List UInt8->List ABF
 |[]=>[[]]
 |c::l=>if c=10 then[]::pieces l else match pieces l with
  |p::ps=>(c::p)::ps
  |[]=>[]
theorem fO:∀{a:ABF},(∀c∈a,c≠10)->pieces a=[a]
 |[],_=>rfl
 |c::a,h=>by
  rw[pieces,AJk (h c (by simp)),fO fun x hx=>h x (by simp[hx])]
theorem ka{l:ABF}:∀{a:ABF},(∀c∈a,c≠10)->pieces (a++10::l)=a::pieces l
 |[],_=>by rfl
 |c::a,h=>by
  rw[ARU,pieces,AJk (h c (by simp)),ka fun x hx=>h x (by simp[hx])]
theorem nR:∀{l:ABF},pieces l≠[]
 |[]=>by simp[pieces]
 |c::l=>by
  rw[pieces];split
  ·simp
  ·cases h:pieces l with
   |nil=>exact absurd h nR
   |cons p ps=>simp
theorem kW:∀{l:ABF},(pieces l).length<=l.length+1/\ ∀p∈pieces l,p.length<=l.length
 |[]=>by simp[pieces]
 |c::l=>by
  obtain⟨h1,h2⟩:=kW (l:=l);rw[pieces];grind
theorem vB{c b:UInt8}{l:ABF}:Go.Lib.index (b::l) [c]=if b=c then 0 else if Go.Lib.index l [c]= -1 then-1 else Go.Lib.index l [c]+1:=by
 grind[Go.Lib.index_one,Go.Lib.indexByte]
theorem mG:∀{l:ABF},Go.Lib.splitK [10] 0 (Go.Lib.count l [10]) l=pieces l
 |[]=>rfl
 |b::l=>by
  have ih:=mG (l:=l);by_cases h:b=10
  ·subst h
   rw[Go.Lib.count_cons_eq,Nat.add_comm,Go.Lib.splitK,vB,AJe rfl,pieces,AJe rfl];simp_all
  ·rw[Go.Lib.count_cons_ne b 10 l h,pieces,AJk h,<-ih]
   cases hk:Go.Lib.count l [10]with
   |zero=>rfl
   |succ k=>
    have hi:Go.Lib.index l [10]≠ -1:=fun e=>by grind[Go.Lib.count_miss]
    have hge:=Go.Lib.index_ge l [10];rw[Go.Lib.splitK,Go.Lib.splitK,vB,AJk h,AJk hi,AJk (by grind),AJk (by simp_all)];dsimp only;obtain⟨n,hn⟩:∃n:Nat,Go.Lib.index l [10]=n:=⟨(Go.Lib.index l [10]).toNat,by omega⟩;simp_all
def MV(l:List ABF):List ABF:=if l.getLast? =some []then l.dropLast else l
theorem uU{a:List ABF}{x:ABF}:MV (a++[x])=if x=[]then a else a++[x]:=by
 grind[MV,List.getLast?_append,List.dropLast_concat]
noncomputable def sI (n:Nat) (l:List ABF) (t:ABF) (i:Int) (w:AA):Option KA:=JP n l t l (l.length:Int) i w.2.1 w.2.2.2.2.2.1 w.2.2.2.2.2.2.2.2.2.2.1 w.1 w.2.2.1 w.2.2.2.1 w.2.2.2.2.1 w.2.2.2.2.2.2.1 w.2.2.2.2.2.2.2.1 w.2.2.2.2.2.2.2.2.1 w.2.2.2.2.2.2.2.2.2.1
noncomputable def sS (n:Nat) (t:ABF) (i:Int) (w:AA) (l:List ABF):Option Gk:=HX n t i w.2.1 w.2.2.2.2.2.1 w.2.2.2.2.2.2.2.2.2.2.1 w.1 w.2.2.1 w.2.2.2.1 w.2.2.2.2.1 w.2.2.2.2.2.2.1 w.2.2.2.2.2.2.2.1 w.2.2.2.2.2.2.2.2.1 w.2.2.2.2.2.2.2.2.2.1 l
noncomputable def sL (n:Nat) (x:ABF) (a i:Int) (w:AA) (l:List ABF):Option Gk:=Ij n x a i w.2.1 w.2.2.2.2.2.1 w.2.2.2.2.2.2.2.2.2.2.1 w.1 w.2.2.1 w.2.2.2.1 w.2.2.2.2.1 w.2.2.2.2.2.2.1 w.2.2.2.2.2.2.2.1 w.2.2.2.2.2.2.2.2.1 w.2.2.2.2.2.2.2.2.2.1 l
theorem sG{n:Nat}{l:List ABF}{t:ABF}{i:Int}{w:AA}:sI (n+1) l t i w=G6 (JP n) l t l (l.length:Int) i w.2.1 w.2.2.2.2.2.1 w.2.2.2.2.2.2.2.2.2.2.1 w.1 w.2.2.1 w.2.2.2.1 w.2.2.2.2.1 w.2.2.2.2.2.2.1 w.2.2.2.2.2.2.2.1 w.2.2.2.2.2.2.2.2.1 w.2.2.2.2.2.2.2.2.2.1:=rfl
theorem AD4{n:Nat}{l:List ABF}{t:ABF}{i:Int}{w:AA}:sS (n+1) t i w l=LR (Ij n) (HX n) t i w.2.1 w.2.2.2.2.2.1 w.2.2.2.2.2.2.2.2.2.2.1 w.1 w.2.2.1 w.2.2.2.1 w.2.2.2.2.1 w.2.2.2.2.2.2.1 w.2.2.2.2.2.2.2.1 w.2.2.2.2.2.2.2.2.1 w.2.2.2.2.2.2.2.2.2.1 l:=rfl
theorem AEm{n:Nat}{l:List ABF}{x:ABF}{a i:Int}{w:AA}:sL (n+1) x a i w l=Mt (Ij n) (HX n) x a i w.2.1 w.2.2.2.2.2.1 w.2.2.2.2.2.2.2.2.2.2.1 w.1 w.2.2.1 w.2.2.2.1 w.2.2.2.2.1 w.2.2.2.2.2.2.1 w.2.2.2.2.2.2.2.1 w.2.2.2.2.2.2.2.2.1 w.2.2.2.2.2.2.2.2.2.1 l:=rfl
theorem oK{B:Nat}(hB:B=1000101){l:List ABF}(hl:l.length<=200)(xY:∀x∈l,x.length<=20000):∀(m j f g:Nat) {t:ABF} {w:AA},j+m=l.length->m<f->m<g->Sn w j->t.length<=j*B->
  ∃r:List UInt8,sI f l t (j:Int) w=some (((r,(l.length:Int),()),()),())/\sS g t (j:Int) w l=some (((r,(l.length:Int),()),()),())
 |m,j,0,g,t,w,_,hf,_,_,_=>by omega
 |m,j,f,0,t,w,_,_,hg,_,_=>by omega
 |0,j,f+1,g+1,t,w,hj,_,_,h,ht=>by
  rw[sG,AD4];unfold G6 LR;simp_all
 |m+1,j,f+1,g+1,t,w,hj,hf,hg,h,ht=>by
  have Ix:j<l.length:=by omega
  have hgd:l.getD j []=l[j]:=Uc Ix;obtain⟨v,u,e1,e2,hv,hu⟩:=i7 h (by omega) (xY _ (ALk Ix));have hb:(0:Int)<=(j:Int)/\(j:Int)<(l.length:Int):=by omega
  have hjB:j*B<=200*B:=AME _ (by omega);have hj1:(j:Int)+1=((j+1:Nat):Int):=by omega
  have e1':Dn (w.1,w.2.1,w.2.2.1,w.2.2.2.1,w.2.2.2.2.1,w.2.2.2.2.2.1,w.2.2.2.2.2.2.1,w.2.2.2.2.2.2.2.1,w.2.2.2.2.2.2.2.2.1,w.2.2.2.2.2.2.2.2.2.1,w.2.2.2.2.2.2.2.2.2.2.1,()) l[j]=_:=e1;have e2':MC (w.1,w.2.1,w.2.2.1,w.2.2.2.1,w.2.2.2.2.1,w.2.2.2.2.2.1,w.2.2.2.2.2.2.1,w.2.2.2.2.2.2.2.1,w.2.2.2.2.2.2.2.2.1,w.2.2.2.2.2.2.2.2.2.1,w.2.2.2.2.2.2.2.2.2.2.1,()) l[j]=_:=e2;rw[sG,AD4];unfold G6 LR;simp only[AB];rw[AJe (by omega),AJe (show(j:Int)<(l.length:Int)by omega),AJe hb,AJe hb,ALN,hgd,e1',e2'];simp only[AD];rw[AG (x:=(j:Int)+1) (by omega) (by omega),hj1];cases hu0:u==[]with
  |true=>
   rw[show((qv v u).1.1.2.1==[])=true from hu0,ALR,AKp,AKp];obtain⟨r,r1,r2⟩:=oK hB hl xY m (j+1) f g (w:=v) (t:=t) (by omega) (by omega) (by omega) hv (by grind);exact⟨r,r1,r2⟩
  |false=>
   rw[show((qv v u).1.1.2.1==[])=false from hu0,AOP,ALg,ALg];have hul:(qv v u).1.1.2.1.length<=1000100:=hu;obtain⟨r,r1,r2⟩:=oK hB hl xY m (j+1) f g (w:=v) (t:=t++u++[10]) (by omega) (by omega) (by omega) hv (by grind);rw[AJe (by rw[Am];omega),AJe (by grind[Am,List.length_append,List.length_cons,List.length_nil]),AJe (by rw[Am];omega),AJe (by rw[Am,AMf];omega)];refine⟨r,?_,r2⟩;rw[AL3]at r1;exact r1
noncomputable def sE (g:Nat) (w:AA) (l:List ABF):Option Gk:=if(l.length:Int)>200 then some ((([],(-2),()),()),())else sS g [] 0 w l
theorem AQ0{g:Nat}{x:ABF}{a:Nat}{w:AA}{l:List ABF}(hx:x.length<=20000)(ha:a<=x.length)(hl:l.length<=x.length):sL (g+1) x (a:Int) (x.length:Int) w l=sE g w (if x.drop a=[]then l else l++[x.drop a]):=by
 rw[AEm];unfold Mt sE;simp only[AB];rw[AJk (by omega)];by_cases h:a<x.length
 ·rw[AJe (by omega),AJe (by omega),AJe (by rw[Am];omega),AJk (show¬x.drop a=[]by simp_all)]
  rw[ALN,ALN,show(x.drop a).take (x.length-a)=x.drop a from AOe (by simp)];rfl
 ·rw[AJk (by omega),AJe (show x.drop a=[]by simp_all)]
  rfl
theorem vI{x:ABF}{w:AA}(hx:x.length<=20000):∀(m a i g:Nat) {l:List ABF},i+m=x.length->a<=i->l.length<=a->(∀c∈(x.drop a).take (i-a),c≠10)->sL (g+m+1) x (a:Int) (i:Int) w l=sE g w (MV (l++pieces (x.drop a)))
 |0,a,i,g,l,hi,ha,hl,hc=>by
  grind[List.take_of_length_le,fO,uU,AQ0]
 |m+1,a,i,g,l,hi,ha,hl,hc=>by
  have Ix:i<x.length:=by omega
  have hgd:x.getD i 0=x[i]:=Uc Ix;have so:x.drop a=(x.drop a).take (i-a)++x[i]::x.drop (i+1):=by
   conv=>lhs;rw[<-AVm (i-a) (x.drop a)]
   simp_all
  rw[show g+(m+1)+1=(g+m+1)+1 by omega,AEm];unfold Mt;simp only[AB];rw[AJe (by omega),AJe (by omega),ALN,hgd,AG (x:=(i:Int)+1) (by omega) (by omega),show(i:Int)+1=((i+1:Nat):Int)by omega];by_cases h10:x[i]=10
  ·rw[show(((x[i].toNat:Nat):Int)==10)=true by rw[h10];rfl,ALg,AJe (by omega),AJe (by rw[Am];omega),ALN]
   have ih:=vI (w:=w) hx m (i+1) (i+1) g (l:=l++[(x.drop a).take (i-a)]) (by omega) (by omega) (by grind) (fun c nD=>by grind);refine ih.trans ?_
   grind[ka,List.append_assoc]
  ·have aO:((x[i].toNat:Nat):Int)≠10:=fun e=>h10 (UInt8.toNat_inj.1 (by grind))
   rw[ALr.2 aO,AKp];refine vI (w:=w) hx m a (i+1) g (by omega) (by omega) hl (fun c nD=> ?_);rw[show i+1-a=(i-a)+1 by omega,List.take_add_one,AMt]at nD;grind
theorem ABs{l:List ABF}(h:l≠[]):l.getLast? =some (l.getD (l.length-1) []):=by
 grind[List.length_pos_iff,List.getElem?_eq_getElem,Uc]
theorem mR{c:CQ}(hl:c.1.length<=2^20)(hc:EM c=false):Du c=some (((((),0,(),(),(),0,(),(),(),(),false,()),false,()),()),([],[],[],[],[],[],[],[],())):=by
 unfold Du KB;rw[show(c.1,c.2.1,())=c from rfl,SJ (by omega)];simp only[AD];rw[AJe ⟨by omega,by omega,by rw[Am];omega⟩];unfold Cz;rw[show(c.1,c.2.1,())=c from rfl,JO (by omega),hc];rfl
theorem ag{c:CQ}(hl:c.1.length<=2^20)(hc:EM c=false):∃u,Ey c=some u/\u.1.1.2.1=false:=by
 unfold Ey;rw[show(c.1,c.2.1,())=c from rfl,GL (by omega),hc];simp_all
theorem ACa{c:CQ}(hc:EM c=true):Sn (Hz c) 0:=⟨(pw hc).1,AOp,AAC,by show Af Aw [((1,1,[],()):Ac),(1,1,[],())]<=_;decide⟩
theorem ey{c:CQ}{x:ABF}{r:Option KA}(hx:x.length<=1048576)(h:∀l,l=MV (pieces x)->
  ((
   Du c).bind fun u9=>cond ((decide ((x.length:Int)>20000))) (some ((([],(-1),()),()),())) (cond (!u9.1.1.2.1) (some ((([],(-1),()),()),())) (cond (decide ((l.length:Int)>200)) (some ((([],(-2),()),()),()))
   (JP AW l [] l (l.length:Int) 0 u9.1.1.1.2.1 u9.1.1.1.2.2.2.2.2.1 u9.1.1.1.2.2.2.2.2.2.2.2.2.2.1 u9.2.1 u9.2.2.1 u9.2.2.2.1 u9.2.2.2.2.1 u9.2.2.2.2.2.1 u9.2.2.2.2.2.2.1 u9.2.2.2.2.2.2.2.1 u9.2.2.2.2.2.2.2.2.1))))=r):QJ c x=r:=by
 have aO:=nR (l:=x);have zg:=(kW (l:=x)).1;have AGJ:0<(pieces x).length:=AVY.2 aO;unfold QJ aE strings_Split Go.Fw.yQ;rw[AJe ⟨by omega,by simp⟩,show Go.Lib.split x [10]=pieces x from mG];simp only[ASt,AD];rw[AG (x:=((pieces x).length:Int)-1) (by omega) (by omega),AJe ⟨by omega,by omega⟩,show(((pieces x).length:Int)-1).toNat=(pieces x).length-1 by omega,show(c.1,c.2.1,())=c from rfl];have AAq:=ABs aO;cases he:(pieces x).getD ((pieces x).length-1) []==[]with
 |true=>
  rw[ARL]at he;rw[ALg,AJe ⟨by omega,by omega,by omega⟩];refine h _ ?_
  unfold MV;rw[AAq,he,AJe rfl,AP7,Nat.sub_zero,List.dropLast_eq_take]
 |false=>
  rw[ALr]at he;rw[AKp];refine h _ ?_
  unfold MV;simp_all
theorem wi{c:CQ}(hc:c.1.length<=2^20){x:ABF}(hx:x.length<=1048576):(∃n:Int,n<0/\QJ c x=some ((([],n,()),()),())/\Ub c x=some ((([],n,()),()),()))\/
  (EM c=true/\x.length<=20000/\(MV (pieces x)).length<=200/\ ∃r:List UInt8,sI AW (MV (pieces x)) [] 0 (Hz c)=some (((r,((MV (pieces x)).length:Int),()),()),())/\
   QJ c x=some (((r,((MV (pieces x)).length:Int),()),()),())/\Ub c x=some (((r,((MV (pieces x)).length:Int),()),()),())):=by
 unfold Ub aF;rw[show(c.1,c.2.1,())=c from rfl];cases DG:EM c with
 |false=>
  obtain⟨u,u1,u2⟩:=ag hc DG;refine .inl ⟨-1,by decide,ey hx fun l hl=> ?_,?_⟩
  all_goals grind[mR,AD,decide]
 |true=>
  have h8:=(F_ DG).2.1;have hi:=dJ (c:=c) (by omega);rw[DG,AJe rfl]at hi;rw[dO DG];simp only[AD,ALR,AKp,AB];by_cases h20:(x.length:Int)>20000
  ·rw[AJe h20]
   refine .inl ⟨-1,by decide,ey hx fun l hl=> ?_,rfl⟩;simp_all
  rw[AJk h20];have hL:=vI (x:=x) (w:=Hz c) (by omega) x.length 0 0 (AW-x.length-1) (l:=[]) (by omega) (by omega) (by simp) (fun c nD=>by simp_all);rw[show AW-x.length-1+x.length+1=AW by have:=Aa (n:=30000) (by omega);omega,AQH,AP7]at hL;have hlen:=(kW (l:=x)).2;have xY:∀p∈MV (pieces x),p.length<=20000:=fun p hp=>by
   grind[pieces,MV,List.dropLast_sublist]
  by_cases h200:((MV (pieces x)).length:Int)>200
  ·refine .inl ⟨-2,by decide,ey hx fun l hl=> ?_,?_⟩
   ·grind
   ·refine hL.trans ?_
    unfold sE;simp_all
  ·obtain⟨r,r1,r2⟩:=oK (B:=1000101) rfl (l:=MV (pieces x)) (by omega) xY (MV (pieces x)).length 0 AW (AW-x.length-1) (t:=[]) (w:=Hz c) (by omega) (Aa (by omega)) (by have:=Aa (n:=30000) (by omega);omega) (ACa DG) (by simp)
   refine .inr ⟨by trivial,by omega,by omega,r,r1,ey hx fun l hl=> ?_,?_⟩
   rotate_left
   ·refine hL.trans ?_
    unfold sE;simp_all
   ·subst hl
    rw[hi];simp only[AD];rw[AQK h20,AKp,ALR,AKp,AQK h200,AKp];exact r1
theorem tZ{d:Al}(h:fj d)(ht:d.2.2.2.2.1.length<=40):∀(l:AAA) (acc L:ABF),SB d l acc=some L->L.length<=acc.length+41*l.length
 |[],acc,L,e=>by
  grind[SB,Option.some.injEq]
 |c::l,acc,L,e=>by
  simp only[SB]at e;split at e
  ·have:=tZ h ht l _ L e
   have hf:(I4 d c).length<=40:=by
    unfold I4;split
    ·omega
    ·split
     ·grind[eS]
     ·have:Bp (VE d c):=by
       unfold VE;split
       ·exact h.b
       ·split
        ·exact h.c
        ·exact h.a
      grind[xX]
   grind
  simp_all
theorem yN{d:Al}(h:fj d)(ht:d.2.2.2.2.1.length<=40):((DE d).getD []).length<=200:=by
 unfold DE;split
 ·cases e:SB d (NX d.1) (B8 d.1)with
  |none=>simp
  |some L=>
   have h1:=tZ h ht _ _ L e;have h2:(NX d.1).length<=3:=by grind[NX]
   have h3:(B8 d.1).length<=5:=by
    unfold B8;by_cases hi:(d.1-1).toNat<EK.length
    ·have:∀x∈EK,x.length<=5:=by decide
     simp_all
    simp_all
   grind
 ·simp
section
variable{code:AAA} (hc:code.length<=2^30)
include hc
theorem AJK{i hh:Int}(hi:FK code i){x:ABF}(hx:x.length<=1000):OK code (fun(r:AEg) (y:Unit)=>r.1.length<=1010) (Mh x [[32],[48],[120],[57],[35],[97,100,100],[101,49,46,49]] code i hh):=by
 unfold Mh;rw[AG (by omega) (by omega)];refine OK.bind (PM hc hi (by omega)) fun p i1 h1 y1 ck hq1=> ?_
 dsimp only at*;refine OK.bind (PM hc ck (by omega)) fun k i2 h2 y2 mv hq2=> ?_
 dsimp only;have hp:0<=p.1/\p.1<=x.length:=by omega
 have pk:∀i hh,FK code i->OK code (fun(r:AEg) (y:Unit)=>r.1.length<=4) (FX [[32],[48],[120],[57],[35],[97,100,100],[101,49,46,49]] code i hh):=fun i hh hi=>by
  obtain⟨v,i',h',e,hv,Dc⟩:=o_ hc (h:=hh) hi (l:=[[32],[48],[120],[57],[35],[97,100,100],[101,49,46,49]]) (by simp) (by simp);have hh:∀x∈([[32],[48],[120],[57],[35],[97,100,100],[101,49,46,49]]:List ABF),x.length<=4:=by decide
  exact⟨(v,()),i',h',(),e,Dc,hh _ hv⟩
 refine OK.u_ (fun _=> ?_) (fun _=>OK.u_ (fun _=> ?_) (fun _=> ?_))
 ·refine OK.ite (by omega) (OK.some mv ?_)
  grind
 ·refine OK.ite (by omega) ?_
  refine OK.bind (pk _ _ mv) fun r i3 h3 y3 hi3 hq3=> ?_
  dsimp only;have e0:((x.drop 0).take (p.1.toNat-0)).length<=1000:=by grind
  refine OK.ite (by rw[Am];omega) ?_
  refine OK.pure Qy ?_
  dsimp only;rw[AG (x:=p.1+1) (by omega) (by omega)];refine OK.ite (by omega) ?_
  refine OK.ite (by grind[Am,List.length_append,List.length_take,List.length_drop]) (OK.some hi3 ?_);grind
 ·refine OK.ite (by omega) ?_
  refine OK.ite (by omega) ?_
  refine OK.bind (pk _ _ mv) fun r i3 h3 y3 hi3 hq3=> ?_
  dsimp only;have e0:((x.drop 0).take (p.1.toNat-0)).length<=1000:=by grind
  refine OK.ite (by rw[Am];omega) ?_
  refine OK.ite (by grind[Am,List.length_append,List.length_take,List.length_drop]) (OK.some hi3 ?_);grind
theorem AAg{w:AA}(hw:lg w){i hh:Int}(hi:FK code i):OK code (fun(r:AEg) (y:Unit)=>r.1.length<=1010) (Qc (w.1,w.2.1,w.2.2.1,w.2.2.2.1,w.2.2.2.2.1,w.2.2.2.2.2.1,w.2.2.2.2.2.2.1,w.2.2.2.2.2.2.2.1,w.2.2.2.2.2.2.2.2.1,w.2.2.2.2.2.2.2.2.2.1,w.2.2.2.2.2.2.2.2.2.2.1,()) code i hh):=by
 have fin:∀(x:ABF) i hh,x.length<=1000->FK code i->OK code (fun(r:AEg) (y:Unit)=>r.1.length<=1010) ((BW 12 code i hh).bind fun Dk=>cond (Dk.1.1)
   ((Mh x [[32],[48],[120],[57],[35],[97,100,100],[101,49,46,49]] Dk.2.1.1 Dk.2.1.2.1 Dk.2.1.2.2.1).bind fun Ed=>some ((Ed.1.1,()),((Ed.2.1.1,Ed.2.1.2.1,Ed.2.1.2.2.1,()),())))
   (some ((x,()),((Dk.2.1.1,Dk.2.1.2.1,Dk.2.1.2.2.1,()),())))):=fun x i hh hx hi=>by
  refine OK.bind (Ym hc hi (by omega)) fun q i1 h1 y1 ck _=> ?_
  dsimp only;refine OK.cond (fun _=> ?_) (fun _=>OK.some ck (by grind));grind[OK.bind,AJK,OK.some]
 unfold Qc;rw[Fo w];obtain⟨v,i',h',e,hv,Dc⟩:=o_ hc (h:=hh) hi (l:=[[106,117,100,103,101],[111,117,116,32,48],[111,117,116,32,49],[],[35],[104,101,108,112],[111,117,116,32,50],[109,101,110,100,32],[116,114,105,109,32,101,49,46,49],[112,108,97,110]]) (by simp) (by simp);have ZM:∀x∈([[106,117,100,103,101],[111,117,116,32,48],[111,117,116,32,49],[],[35],[104,101,108,112],[111,117,116,32,50],[109,101,110,100,32],[116,114,105,109,32,101,49,46,49],[112,108,97,110]]:List ABF),x.length<=1000:=by decide
 have hvl:=ZM v hv;rw[e];simp only[AD];refine OK.bind (Ym hc Dc (by omega)) fun q i1 h1 y1 ck _=> ?_
 dsimp only;refine OK.cond (fun _=> ?_) (fun _=>fin _ _ _ hvl ck);rw[G_ hw];simp only[AD];refine OK.cond (fun DG=> ?_) (fun _=>fin _ _ _ hvl ck);refine OK.bind (zw hc (JG.1 DG) ck) fun d i2 h2 y2 mv hq2=> ?_
 dsimp only;have hd:fj d.1:=⟨hq2.1,hq2.2.1,hq2.2.2.1⟩;rw[uv d.1,dt hd];simp only[AD];refine OK.cond (fun _=>fin _ _ _ ?_ mv) (fun _=>fin _ _ _ hvl mv);have:=yN hd hq2.2.2.2
 show((DE d.1).getD []).length<=1000
 omega
end
def DSQ(c:Int)(l:AAA)(o:Option D5):Prop:= ∃x:List UInt8,o=some (((((),c,()),x,()),()),(l,()))/\x.length<=1000000
section
variable{code:AAA} (hc:code.length<=2^30) {c:Int} {l:AAA} {a:Int} {b:AAA}
theorem AGY:∀(n k:Nat) (x:ABF),k<=200->200-k<n->x.length<=900000+k->DSQ c l (Ek n x k a b c l)
 |0,_,_,_,h,_=>by omega
 |n+1,k,x,h1,h2,h3=>by
  show DSQ c l (MR _ _ _ x k a b c l)
  unfold MR;rw[AB];split
  ·rw[AJe (by rw[Am];omega),AG (x:=(k:Int)+1) (by omega) (by omega),show(k:Int)+1=((k+1:Nat):Int)by omega]
   exact AGY n (k+1) _ (by omega) (by omega) (by grind)
  ·exact⟨x,rfl,by omega⟩
theorem AHp:∀(n:Nat) (x:ABF),20001<n+x.length->0<n->x.length<=900000->DSQ c l (El n x a b c l)
 |0,_,_,h,_=>by omega
 |n+1,x,h1,h2,h3=>by
  show DSQ c l (MW _ _ _ x a b c l)
  unfold MW;rw[AB];split
  ·rw[AJe (by rw[Am];omega)]
   by_cases h0:n=0
   ·omega
   ·exact AHp n _ (by grind) (by omega) (by simp_all;omega)
  ·exact⟨x,rfl,by omega⟩
include hc
theorem zJ{n:Nat}(hn:20002<n){i hh:Int}(hi:FK code i){x:ABF}(hx:x.length<=900000):DSQ c l ((Ag 40 code i hh).bind fun cf=>
 cond (cf.1.1==0)
  (Ek n x 0 a b c l)
 (cond (cf.1.1==1)
  (El n x a b c l)
 (cond (cf.1.1==2)
  (if x.length+5<=CN then(
  some (((((),c,()),(x++[106,117,100,103,101]),()),()),(l,())))else none)
 (cond (cf.1.1==3)
  (if x.length+5<=CN then(
  some (((((),c,()),(x++[106,117,100,103,101]),()),()),(l,())))else none)
 (some (((((),c,()),x,()),()),(l,()))))))):=by
 obtain⟨v,i1,h1,e,_,_,_,ck⟩:=LC hc (h:=hh) (n:=40) hi (by omega);rw[e];simp only[AD];have jd:DSQ c l (if x.length+5<=CN then(some (((((),c,()),(x++[106,117,100,103,101]),()),()),(l,())))else none):=by
  rw[AJe (by rw[Am];omega)];exact⟨_,rfl,by simp_all;omega⟩
 cases(v==0)
 ·rw[AKp]
  cases(v==1)
  ·rw[AKp]
   cases(v==2)
   ·rw[AKp]
    cases(v==3)
    ·exact⟨x,rfl,by omega⟩
    simp_all
   simp_all
  grind[AHp]
 ·exact AGY n 0 x (by omega) (by omega) (by omega)
theorem AMS{T:Nat}(hT:T<=800):∀(m k n:Nat) (i hh:Int) (x:ABF) (w:AA),k+m=T->FK code i->Sn w k->x.length<=k*1011->21000+m<n->
  DSQ c l (EN n true x (T:Int) (k:Int) a b code i hh c l w.2.1 w.2.2.2.2.2.1 w.2.2.2.2.2.2.2.2.2.2.1 w.1 w.2.2.1 w.2.2.2.1 w.2.2.2.2.1 w.2.2.2.2.2.2.1 w.2.2.2.2.2.2.2.1 w.2.2.2.2.2.2.2.2.1 w.2.2.2.2.2.2.2.2.2.1)
 |m,k,0,i,hh,x,w,_,_,_,_,h=>by omega
 |m,k,n+1,i,hh,x,w,hk,hi,h,hx,hn=>by
  have hb:k*1011<=800*1011:=AME _ (by omega)
  show DSQ c l (Gn _ _ _ true x (T:Int) (k:Int) a b code i hh c l w.2.1 w.2.2.2.2.2.1 w.2.2.2.2.2.2.2.2.2.2.1 w.1 w.2.2.1 w.2.2.2.1 w.2.2.2.2.1 w.2.2.2.2.2.2.1 w.2.2.2.2.2.2.2.1 w.2.2.2.2.2.2.2.2.1 w.2.2.2.2.2.2.2.2.2.1)
  unfold Gn;rw[AB];split
  ·rename_i Ix
   obtain⟨m,rfl⟩:∃m',m=m'+1:=⟨m-1,by omega⟩;rw[ALg];obtain⟨r,i1,h1,y,e,ck,hr⟩:=AAg hc (h.win (by omega)) (hh:=hh) hi;rw[e];simp only[AD];rw[AJe (by rw[Am];omega),AJe (by rw[Am,AMf];omega)];obtain⟨v,u,e1,e2,hv,hu⟩:=i7 h (by omega) (line:=r.1) (by omega);rw[Fo w,e2];simp only[AD];rw[AG (x:=(k:Int)+1) (by omega) (by omega),show(k:Int)+1=((k+1:Nat):Int)by omega];exact AMS hT m (k+1) n i1 h1 _ v (by omega) ck hv (by grind) (by omega)
  ·exact zJ hc (by omega) hi (by omega)
theorem AJR{T n:Nat}(hn:21000<n){i hh:Int}(hi:FK code i){k:Int}{w1 w2:Int}{w3:Bool}{w4 w5 w6 w7 w8 w9 w10 w11}:DSQ c l (EN n false [] (T:Int) k a b code i hh c l w1 w2 w3 w4 w5 w6 w7 w8 w9 w10 w11):=by
 obtain⟨n,rfl⟩:∃n',n=n'+1:=⟨n-1,by omega⟩
 show DSQ c l (Gn _ _ _ false [] (T:Int) k a b code i hh c l w1 w2 w3 w4 w5 w6 w7 w8 w9 w10 w11)
 unfold Gn;rw[AB];split
 ·exact zJ hc (by omega) hi (by simp)
 ·exact zJ hc (by omega) hi (by simp)
theorem ADz{c:Int}{l:AAA}(hl:l.length<=9){i hh:Int}(hi:FK code i):DSQ c l ((Ey (l,c,())).bind fun u8=>
 (Sv code 40 90).bind fun u9=>
 (Ag (AQ (u9.1.1+1)) code i hh).bind fun Dk=>
 EN AW u8.1.1.2.1 [] Dk.1.1 0 0 [] Dk.2.1.1 Dk.2.1.2.1 Dk.2.1.2.2.1 c l u8.1.1.1.2.1 u8.1.1.1.2.2.2.2.2.1 u8.1.1.1.2.2.2.2.2.2.2.2.2.2.1 u8.2.1 u8.2.2.1 u8.2.2.2.1 u8.2.2.2.2.1 u8.2.2.2.2.2.1 u8.2.2.2.2.2.2.1 u8.2.2.2.2.2.2.2.1 u8.2.2.2.2.2.2.2.2.1):=by
 have ASN:∃T,Sv code 40 90=some ((T,()),())/\0<=T/\T<=500:=by
  unfold Sv;dsimp only;have hd:(code.length:Int).tdiv 4=(code.length:Int)/4:=Int.tdiv_eq_ediv_of_nonneg (by omega);rw[hd,AG (x:=(code.length:Int)/4) (by omega) (by omega),AG (by omega) (by omega),AB];split
  all_goals grind
 obtain⟨T,hT,hT2⟩:=ASN;have hF:30000<AW:=Aa (by omega);obtain⟨v,i1,h1,e,v0,v1,_,ck⟩:=LC hc (h:=hh) (n:=AQ (T+1)) hi (by grind[AG]);rw[AG (by omega) (by omega)]at v1;obtain⟨V,rfl⟩:∃V:Nat,v=V:=⟨v.toNat,by omega⟩;cases DG:EM (l,c,())with
 |false=>
  obtain⟨u,u1,u2⟩:=ag (c:=(l,c,())) (by grind) DG;grind[AD,AJR]
 |true=>
  rw[dO DG];simp only[AD];rw[hT];simp only[AD];rw[e];simp only[AD];exact AMS hc (by omega) V 0 AW i1 h1 [] (Hz (l,c,())) (by omega) ck (ACa DG) (by simp) (by omega)
theorem ux:∃(c:Int) (l:AAA),l.length<=9/\DSQ c l (QF code):=by
 unfold QF Tt;obtain⟨h0,e0⟩:=AHc hc;rw[e0];simp only[AD];obtain⟨l1,c1,i1,h1,e1,hg,ck⟩:=hY hc (h:=h0) (AWz hc);rw[e1];simp only[AD];obtain⟨v,i2,h2,e2,mv⟩:=od hc (h:=h1) (n:=15) ck (by omega);rw[e2];simp only[AD];cases v
 ·have:l1.length<=9:=by have:=hg.2.1;omega
  exact⟨c1,l1,this,ADz hc this mv⟩
 ·obtain⟨l2,c2,i3,h3,e3,wS,hi3⟩:=AFm hc (h:=h2) mv
  rw[ALg,e3];simp only[AD];exact⟨c2,l2,wS,ADz hc wS hi3⟩
end
noncomputable def lwL (n:Nat) (x ze:ABF) (N:Int) (ok:Bool) (out:ABF) (a j i:Int) (w:AA):Option L7:=F8 n x ze N ok out a j i w.2.1 w.2.2.2.2.2.1 w.2.2.2.2.2.2.2.2.2.2.1 w.1 w.2.2.1 w.2.2.2.1 w.2.2.2.2.1 w.2.2.2.2.2.2.1 w.2.2.2.2.2.2.2.1 w.2.2.2.2.2.2.2.2.1 w.2.2.2.2.2.2.2.2.2.1
theorem uW{n:Nat}{x ze:ABF}{N:Int}{ok:Bool}{out:ABF}{a j i:Int}{w:AA}:lwL (n+1) x ze N ok out a j i w=HL (F8 n) x ze N ok out a j i w.2.1 w.2.2.2.2.2.1 w.2.2.2.2.2.2.2.2.2.2.1 w.1 w.2.2.1 w.2.2.2.1 w.2.2.2.2.1 w.2.2.2.2.2.2.1 w.2.2.2.2.2.2.2.1 w.2.2.2.2.2.2.2.2.1 w.2.2.2.2.2.2.2.2.2.1:=rfl
def AA9(t u:ABF):ABF:=if u==[]then t else t++u++[10]
theorem AEK{n:Nat}{x ze:ABF}{N:Int}{ok:Bool}{out u:ABF}{a j i:Nat}{w v:AA}(ha:a<=i)(hi:i<=x.length)(hx:x.length<=20000)(hj:j<=1000)(e:Dn w ((x.drop a).take (i-a))=some (qv v u))(ho:out.length+u.length<=1000000000):
  (if(0:Int)<=(a:Int)/\(a:Int)<=(i:Int)/\(i:Int)<=(x.length:Int)then(
   (Dn (w.1,w.2.1,w.2.2.1,w.2.2.2.1,w.2.2.2.2.1,w.2.2.2.2.2.1,w.2.2.2.2.2.2.1,w.2.2.2.2.2.2.2.1,w.2.2.2.2.2.2.2.2.1,w.2.2.2.2.2.2.2.2.2.1,w.2.2.2.2.2.2.2.2.2.2.1,()) ((x.drop ((a:Int).toNat)).take (((i:Int).toNat)-((a:Int).toNat)))).bind fun K9=>
   let x16:List Ak:=K9.2.2.2.2.2.2.2.2.1
   cond (!(K9.1.1.2.1==[]))
    (if out.length+K9.1.1.2.1.length<=CN then(
    if(out++K9.1.1.2.1).length+1<=CN then(
    F8 n x ze N ok ((out++K9.1.1.2.1)++[10]) (AQ ((i:Int)+1)) (AQ ((j:Int)+1)) (AQ ((i:Int)+1)) K9.1.1.1.2.1 K9.1.1.1.2.2.2.2.2.1 K9.1.1.1.2.2.2.2.2.2.2.2.2.2.1 K9.2.1 K9.2.2.1 K9.2.2.2.1 K9.2.2.2.2.1 K9.2.2.2.2.2.1 K9.2.2.2.2.2.2.1 K9.2.2.2.2.2.2.2.1 x16)else none)else none)
   (F8 n x ze N ok out (AQ ((i:Int)+1)) (AQ ((j:Int)+1)) (AQ ((i:Int)+1)) K9.1.1.1.2.1 K9.1.1.1.2.2.2.2.2.1 K9.1.1.1.2.2.2.2.2.2.2.2.2.2.1 K9.2.1 K9.2.2.1 K9.2.2.2.1 K9.2.2.2.2.1 K9.2.2.2.2.2.1 K9.2.2.2.2.2.2.1 K9.2.2.2.2.2.2.2.1 x16))else none)=
  lwL n x ze N ok (AA9 out u) ((i+1:Nat):Int) ((j+1:Nat):Int) ((i+1:Nat):Int) v:=by
 rw[AJe (by omega),ALN,ALN,Fo w,e];simp only[AD];rw[AG (x:=(i:Int)+1) (by omega) (by omega),show(i:Int)+1=((i+1:Nat):Int)by omega,AG (x:=(j:Int)+1) (by omega) (by omega),show(j:Int)+1=((j+1:Nat):Int)by omega];unfold AA9;cases hu:u==[]with
 |true=>
  rw[show((qv v u).1.1.2.1==[])=true from hu,ALR,AKp,AJe rfl];rfl
 |false=>
  rw[show((qv v u).1.1.2.1==[])=false from hu,AOP,ALg];rw[AJe (by show out.length+u.length<=CN;rw[Am];omega),AJe (by show(out++u).length+1<=CN;rw[Am,AMf];omega)];rfl
theorem ADp{f:Nat}{l:List ABF}{t ze:ABF}{w:AA}{N:Int}(h:sI f l t (l.length:Int) w=some (((ze,N,()),()),())):ze=t:=by
 cases f with
 |zero=>cases h
 |succ f=>
  rw[sG]at h;unfold G6 at h;simp_all
theorem AEO{f j:Nat}{l:List ABF}{t u:ABF}{w v:AA}{r:KA}(hj:j<l.length)(hl:l.length<=1000)(e:Dn w l[j]=some (qv v u))(hu:t.length+u.length<=1000000000)(h:sI f l t (j:Int) w=some r):∃f',sI f' l (AA9 t u) ((j+1:Nat):Int) v=some r:=by
 cases f with
 |zero=>cases h
 |succ f=>
  have hgd:l.getD j []=l[j]:=Uc hj;have hb:(0:Int)<=(j:Int)/\(j:Int)<(l.length:Int):=by omega
  have e1':Dn (w.1,w.2.1,w.2.2.1,w.2.2.2.1,w.2.2.2.2.1,w.2.2.2.2.2.1,w.2.2.2.2.2.2.1,w.2.2.2.2.2.2.2.1,w.2.2.2.2.2.2.2.2.1,w.2.2.2.2.2.2.2.2.2.1,w.2.2.2.2.2.2.2.2.2.2.1,()) l[j]=_:=e;refine⟨f,?_⟩;rw[sG]at h;unfold G6 at h;simp only[AB]at h;rw[AJe (by omega),AJe hb,ALN,hgd,e1']at h;simp only[AD]at h;rw[AG (x:=(j:Int)+1) (by omega) (by omega),show(j:Int)+1=((j+1:Nat):Int)by omega]at h;unfold AA9;cases hu0:u==[]with
  |true=>
   rw[show((qv v u).1.1.2.1==[])=true from hu0,ALR,AKp]at h;rw[AJe rfl];exact h
  |false=>
   rw[show((qv v u).1.1.2.1==[])=false from hu0,AOP,ALg]at h;have hul:(qv v u).1.1.2.1.length=u.length:=rfl;rw[AJe (by simp_all),AJe (by simp_all)]at h;rw[AJk (by simp),AL3];exact h
theorem ADX{a b:List ABF}(hb:b≠[]):∃r,MV (a++b)=a++r:=by
 unfold MV;split
 all_goals simp_all
theorem AGm{t u:ABF}:(AA9 t u).length<=t.length+u.length+1:=by
 grind[AA9,List.length_append,List.length_cons,List.length_nil]
theorem AH7{n:Nat}{x ze:ABF}{N a i:Int}{j:Nat}{w:AA}(hi:x.length<i)(hN:N=j):lwL (n+1) x ze N true ze a (j:Int) i w=some ((true,()),()):=by
 rw[uW];unfold HL;grind
theorem nU{x ze:ABF}{l:List ABF}{B:Nat}(hB:B=1000101)(hx:x.length<=20000)(hl:l.length<=200):∀(m a i g j f:Nat) (dn:List ABF) (t:ABF) (w:AA),i+m=x.length->a<=i->(∀c∈(x.drop a).take (i-a),c≠10)->
  l=MV (dn++pieces (x.drop a))->j=dn.length->Sn w j->t.length<=j*B->sI f l t (j:Int) w=some (((ze,(l.length:Int),()),()),())->
  lwL (g+m+2) x ze (l.length:Int) true t (a:Int) (j:Int) (i:Int) w=some ((true,()),())
 |0,a,i,g,j,f,dn,t,w,hi,ha,hc,hL,hj,h,ht,hS=>by
  have:i=x.length:=by omega
  subst this;rw[show(x.drop a).take (x.length-a)=x.drop a from AOe (by simp)]at hc;rw[fO hc,uU]at hL;rw[show g+0+2=(g+1)+1 by omega,uW];unfold HL;simp only[AB];rw[AJe (by omega),AJk (by omega),ARC,ALg];by_cases hax:a=x.length
  ·subst hax
   rw[ARC,ALg];rw[ARO,AJe rfl]at hL;subst hL hj;have:=ADp hS;subst this;exact AH7 (by grind[AG]) rfl
  ·rw[ALr.2 (by omega),AKp]
   rw[AJk (show¬x.drop a=[]by rw[List.drop_eq_nil_iff];omega)]at hL;have hlen:l.length=j+1:=by simp_all
   have hjB:j*B<=200*B:=AME _ (by omega);have hlj:l[j]'(by omega)=x.drop a:=by simp_all
   obtain⟨v,u,e1,e2,hv,hu⟩:=i7 h (by omega) (line:=x.drop a) (by grind);obtain⟨f',hf⟩:=AEO (by omega) (by omega) (by rw[hlj];omega) (by omega) hS;have hf2:sI f' l (AA9 t u) (l.length:Int) v=some (((ze,(l.length:Int),()),()),()):=by simp_all
   have:=ADp hf2;refine(AEK ha (AMN _) hx (by omega) (by rw[show(x.drop a).take (x.length-a)=x.drop a from AOe (by simp)];omega) (by omega)).trans ?_
   grind[AH7]
 |m+1,a,i,g,j,f,dn,t,w,hi,ha,hc,hL,hj,h,ht,hS=>by
  have Ix:i<x.length:=by omega
  have hgd:x.getD i 0=x[i]:=Uc Ix;have so:x.drop a=(x.drop a).take (i-a)++x[i]::x.drop (i+1):=by
   conv=>lhs;rw[<-AVm (i-a) (x.drop a)]
   simp_all
  rw[show g+(m+1)+2=(g+m+2)+1 by omega,uW];unfold HL;simp only[AB];rw[AJe (by omega),AJe (by omega),AJe (by omega),ALN,hgd];by_cases h10:x[i]=10
  ·rw[show(((x[i].toNat:Nat):Int) !=10)=false by rw[h10];rfl,AKp,ALr.2 (by omega),AKp]
   rw[h10]at so;rw[so,ka hc]at hL;have hL2:l=MV ((dn++[(x.drop a).take (i-a)])++pieces (x.drop (i+1))):=by grind
   obtain⟨r,hr⟩:=ADX (a:=dn++[(x.drop a).take (i-a)]) (b:=pieces (x.drop (i+1))) nR;rw[hr]at hL2;have hlen:j<l.length:=by grind
   have hjB:j*B<=200*B:=AME _ (by omega);have hlj:l[j]=(x.drop a).take (i-a):=by grind
   obtain⟨v,u,e1,e2,hv,hu⟩:=i7 h (by omega) (line:=(x.drop a).take (i-a)) (by grind);obtain⟨f',hf⟩:=AEO hlen (by omega) (by rw[hlj];omega) (by omega) hS;refine(AEK ha (by omega) hx (by omega) e1 (by omega)).trans ?_
   have hal:=AGm (t:=t) (u:=u);refine nU hB hx hl m (i+1) (i+1) g (j+1) f' (dn++[(x.drop a).take (i-a)]) (AA9 t u) v (by omega) (by omega) (fun c nD=>by grind) (by grind) (by simp[hj]) hv (by grind) hf
  ·have aO:((x[i].toNat:Nat):Int)≠10:=fun e=>h10 (UInt8.toNat_inj.1 (by grind))
   rw[show(((x[i].toNat:Nat):Int) !=10)=true from bne_iff_ne.2 aO,ALg,AG (x:=(i:Int)+1) (by omega) (by omega),show(i:Int)+1=((i+1:Nat):Int)by omega];refine nU hB hx hl m a (i+1) g j f dn t w (by omega) (by omega) (fun c nD=> ?_) hL hj h ht hS;rw[show i+1-a=(i-a)+1 by omega,List.take_add_one,AMt]at nD;grind
theorem sP{x:AAA}(hx:Go.Fw.Vd (.sl (.int .u8)) x):O7 x=some ((true,()),()):=by
 unfold O7 Wc tP;simp only[AD,AB];by_cases hb:(x.length:Int)>1048576
 ·simp_all
 rw[AJk hb];obtain⟨c,l,hl,t,e,ht⟩:=ux (code:=x) (by omega);rw[e];simp only[AD];rcases wi (c:=(l,c,())) (by grind) (x:=t) (by omega)with⟨n,hn,h1,h2⟩|⟨DG,ht2,wS,r,hS,h1,h2⟩
 ·simp_all
 ·have hi:=dJ (c:=(l,c,())) (by grind)
  rw[DG,AJe rfl]at hi;rw[h1,h2,hi];simp only[AD];rw[bne_self_eq_false,AKp,ARC,ALR,AKp,AJk (by omega)];have hF:30000<AW:=Aa (by omega);have:=nU (B:=1000101) rfl ht2 wS t.length 0 0 (AW-t.length-2) 0 AW [] [] (Hz (l,c,())) (by omega) (by omega) (fun c nD=>by simp_all) (by simp) rfl (ACa DG) (by simp) hS;rw[show AW-t.length-2+t.length+2=AW by omega]at this;exact this
end Go.M
end
