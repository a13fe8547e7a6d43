/- Plain facts on what the functions compute. -/
import Derived.Test.YtgaopeilfepjmaaGreatM0
set_option linter.unusedVariables false
set_option linter.unusedSimpArgs false
set_option linter.unusedSectionVars false
section
namespace Go.M
open Go.M.H (AD AG Ab AM AA Bc AH AY AL AN Ar Aa An)
def Vz(a o:Int)(ns:AAG):List An:=ns.flatMap fun n=>[(3,a,o,n,[],()),(4,n,0,0,[],())]
def UN(w:AA)(p:Int):Bool:=match Gl w.A3 p with|some s=>s.2.2.1|none=>false
def hGo(all:Bool)(v:AA)(a:Int):AA:=
 (runM all v (Vz a (v.AE.getD a.toNat Af).2.1.length (less (BB v.Ay (v.AE.getD a.toNat Af).1) v.lost))).1
def X8(v:AA)(a:Int):Int:=D3 (v.AE.getD a.toNat Af).1 (v.AE.getD a.toNat Af).2.1.length
section
variable{c:BN} {k:Nat} {ep o p:Int} {d:List UInt8} {N:Nat}
theorem u_{w:AA}(h:YD c k ep o p d N w){all:Bool}{e:An}(he:e.1=3∨e.1=4)(h0:(BS all w e).2=0):YD c k ep o p d N (BS all w e).1:=by
 unfold BS at h0⊢;by_cases hc:(!B4 w|| !J2 e)=true
 ·rw[AEv hc]at h0;cases h0
 rw[AE4 hc]at h0⊢;unfold IU at h0⊢;rcases he with he|he
 ·rw[AE4 (by omega),AE4 (by omega),AEv he]at h0⊢
  exact jQ h h0
 ·rw[AE4 (by omega),AE4 (by omega),AE4 (by omega),AEv he]at h0⊢
  exact nX h h0
end
theorem q7{w:AA}(h:EF w){a:Int}{d:List UInt8}(hd:d.length≤40)(e:(doAdd w a d).2=0):
  YD (Ag w) a.toNat ((doAdd w a d).1.AE.getD a.toNat Af).1 ((doAdd w a d).1.AE.getD a.toNat Af).2.1.length (X8 (doAdd w a d).1 a) d (w.A3.length+1) (doAdd w a d).1:=by
 have Dg:=kl h hd e;unfold X8;unfold doAdd at e Dg⊢;by_cases ha:BC a 0 ((w.AE.length:Int)-1)=true
 rotate_left
 ·have nZ:BC a 0 ((w.AE.length:Int)-1)=false:=by simpa using ha
  rw[nZ]at e;cases e
 rw[ha]at e Dg⊢;simp only[AE7,AE6,AGn]at e Dg⊢;by_cases hq:(!(Bk (Ag w) (w.AE.getD a.toNat Af) d).2.2||(decide (w.A3.length=120)||w.A3.any fun s=>s.1==D3 (w.AE.getD a.toNat Af).1 (Bk (Ag w) (w.AE.getD a.toNat Af) d).2.1))=true
 ·rw[AEv hq]at e;cases e
 rw[AE4 hq]at Dg⊢;simp only[AHN,not_or,AGX,AGb,AHx,AIY,AHo]at hq;obtain⟨hq,h120,q8⟩:=hq;rw[Ak]at ha;have hi:a.toNat<w.AE.length:=by omega
 have hxm:=CE (d:=Af) hi;obtain⟨_,r1,r2,r3⟩:=SZ hq;rw[r2]at r1;rw[r2,r3]at Dg⊢;rw[r3]at q8;have hxw:=h.AE _ hxm
 generalize w.AE.getD a.toNat Af=x at*
 have rm:=r1.n;simp only[AGP,AFq,AG6]at rm;have hg:(w.AE.set a.toNat (x.1,x.2.1++[(d,[],false,())],())).getD a.toNat Af=(x.1,x.2.1++[(d,[],false,())],()):=by rw[UP hi,AEv rfl]
 obtain⟨p1,p2,p3⟩:=KI (e:=x.1) (o:=(x.2.1.length:Int)+1) hxw.1.ep (by omega);have hlen:(((x.2.1++[(d,[],false,())]).length:Nat):Int)=(x.2.1.length:Int)+1:=by simp
 dsimp only at Dg⊢;rw[hg];dsimp only;rw[hlen]
 generalize hp:D3 x.1 ((x.2.1.length:Int)+1)=p at*
 have hw:HT ((w.BZ (w.AE.set a.toNat (x.1,x.2.1++[(d,[],false,())],()))).Cl (Rj (p,d,false,()) w.A3)) a.toNat ((x.2.1.length:Int)+1)=(d,[],false,()):=by
  unfold HT;rw[hg];dsimp only;rw[show((x.2.1.length:Int)+1-1).toNat=x.2.1.length by omega];simp[List.getD]
 refine⟨Dg,rfl,⟨by rw[AH1];exact hi,by rw[hg],by rw[hg];exact hlen⟩,by omega,⟨p1,p2,p3⟩,⟨(p,d,false,()),?_,rfl,?_⟩,fun n hn=> ?_,?_⟩
 ·rw[Yd (s:=(p,d,false,())) fun y hy=>by simpa using q8 y hy,AEv rfl]
 ·rw[hw]
 ·rw[hw]at hn;simp at hn
 ·exact bS
section
variable{w:AA} (h:EF w) {a:Int} {d:List UInt8} (hd:d.length≤40) (e:(doAdd w a d).2=0)
include h hd e
end
end Go.M
end
section
set_option maxRecDepth 8000
namespace Go.M
open Go.M.H (AD AG Ab AM AA Bc AH AY AL AN Ar Aa An Am Bt AX AU AW Ap CP BV Ao AZ DJ Bu B_ Cb)
theorem rP{a l:AAG}{x:Int}:less (less a [x]) l=less a (x::l):=by
 unfold less;rw[List.filter_filter];refine List.filter_congr fun y _=> ?_
 simp[Bool.and_comm]
theorem aK{a l:AAG}:(less a l).length≤a.length:=by
 unfold less;exact AHl _ _
theorem bF{a:AAG}:less a []=a:=by
 unfold less;exact AI3.2 fun _ _=>by simp
theorem K_{w:AA}(h:EF w){e:Int}(he:Cp e):Gv w e=some (((),()),(less (BB w.Ay e) w.lost,())):=by
 have hl:=F6 h.lost;have key:∀(m i n:Nat) (b:AAG),i+m=w.lost.length→m<n→b.length≤2^30→Ew n w.lost (w.lost.length:Int) (i:Int) b=some (((),()),(less b (w.lost.drop i),())):=by
  intro m
  induction m with
  |zero=>
   intro i n b hi hn hb;obtain⟨n,rfl⟩:∃n',n=n'+1:=⟨n-1,by omega⟩;simp only[Ew,JH,AB];rw[AE4 (by omega),AF0 (by omega),bF]
  |succ m ih=>
   intro i n b hi hn hb;obtain⟨n,rfl⟩:∃n',n=n'+1:=⟨n-1,by omega⟩;simp only[Ew,JH,AB];have IV:i<w.lost.length:=by omega
   rw[AEv (by omega),AEv (by omega),Hf hb];simp only[AF];rw[AR (x:=(i:Int)+1) (by omega) (by omega)];have:=ih (i+1) n (less b [w.lost.getD i 0]) (by omega) (by omega) (by have:=aK (a:=b) (l:=[w.lost.getD i 0]);omega);rw[show((i+1:Nat):Int)=(i:Int)+1 by omega]at this;rw[AFL];refine this.trans ?_
   rw[AHu IV,rP,Hy IV]
 unfold Gv Mj;have h3:AX CP w.Ay≤270:=h.WW.w;rw[show(w.2.2.2.2.1,w.2.2.2.2.2.1,())=C2 w from rfl,Hi (by show AX CP w.Ay≤_;omega) he];simp only[AF];have hb:(BB w.Ay e).length≤2^30:=by
  have:(BB w.Ay e).length≤8:=Ik h;omega
 have:=key w.lost.length 0 Aq (BB w.Ay e) (by omega) (Aw (by omega)) hb;exact this
theorem Ox{all:Bool}{w:AA}(h:EF w){e:An}(hd:J2 e=true):BS all w e=IU all w e:=by
 unfold BS;rw[B8.2 h,hd];rfl
theorem nD{all:Bool}{w:AA}{e:An}(he:e.1=3∨e.1=4):(IU all w e).1.AQ=w.AQ:=by
 unfold IU;rcases he with he|he
 ·rw[AE4 (by omega),AE4 (by omega),AEv he]
  unfold HH putAt;dsimp only
  repeat' split
  all_goals rfl
 ·rw[AE4 (by omega),AE4 (by omega),AE4 (by omega),AEv he]
  unfold KW;dsimp only
  repeat' split
  all_goals rfl
def TC(all:Bool)(w:AA)(e:An):AA:=if(BS all w e).2=0 then(BS all w e).1 else w
theorem eP{all:Bool}{w:AA}{e:An}{l:List An}:(runM all w (e::l)).1=(runM all (TC all w e) l).1:=by
 simp only[runM,TC]
theorem Zy{all:Bool}{w:AA}(h:EF w){e:An}(hd:J2 e=true):(BS all w e).1=TC all w e:=by
 unfold TC;split
 ·rfl
 ·rename_i h0
  rw[Ox h hd]at h0⊢;exact iq h0
theorem iB{all:Bool}{w:AA}(h:EF w){e:An}(hd:J2 e=true)(he:e.1=3∨e.1=4):(TC all w e).AQ=w.AQ:=by
 rw[←Zy h hd,Ox h hd];exact nD he
section
variable{c:BN} {k:Nat} {ep o p:Int} {d:List UInt8} {N:Nat}
theorem eD{w:AA}(h:YD c k ep o p d N w){all:Bool}{e:An}(he:e.1=3∨e.1=4):YD c k ep o p d N (TC all w e):=by
 unfold TC;split
 ·rename_i h0
  exact u_ h he h0
 ·exact h
end
theorem ak{w:AA}(h:EF w){p:Int}(hp:0≤p∧p<2^40):∃q:Nat,jz p w.A3 q∧DH w p=some ((((q:Int),Nf p w.A3 q,()),()),())∧
  (Nf p w.A3 q=true→ ∃hq:q<w.A3.length,UN w p=(w.A3[q]).2.2.1)∧(Nf p w.A3 q=false→UN w p=false):=by
 obtain⟨q,hq,e⟩:=Tn (l:=w.A3) h.Ou (by have:=h.MN;omega) h.rK hp;refine⟨q,hq,?_,fun ht=> ?_,fun hf=> ?_⟩
 ·unfold DH
  rw[show w.2.2.2.2.2.2.2.2.2.1=w.A3 from rfl,e];rfl
 ·obtain⟨h1,h2⟩:=cC ht
  refine⟨h1,?_⟩;unfold UN;have:=SJ h.Ou (AFj h1);rw[h2]at this;rw[this]
 ·unfold UN
  have:(w.A3.any fun s=>s.1==p)=false:=(lD hq h.Ou).trans hf;have hn:Gl w.A3 p=none:=by
   unfold Gl;rw[List.find?_eq_none];intro x hx;rw[AIY]at this;exact this x hx
  rw[hn]
def jr(q:AA×Bool):H9:=(((((),q.1.2.1,(),(),(),q.1.2.2.2.2.2.1,(),(),(),(),q.1.2.2.2.2.2.2.2.2.2.2.1,()),q.2,()),()),(q.1.1,q.1.2.2.1,q.1.2.2.2.1,q.1.2.2.2.2.1,q.1.2.2.2.2.2.2.1,q.1.2.2.2.2.2.2.2.1,q.1.2.2.2.2.2.2.2.2.1,q.1.2.2.2.2.2.2.2.2.2.1,()))
def hDo(all:Bool)(w:AA)(a o n:Int):AA:=TC all (TC all w (3,a,o,n,[],())) (4,n,0,0,[],())
theorem Yh{all:Bool}{w:AA}{a o n:Int}{ns:AAG}:(runM all w (Vz a o (n::ns))).1=(runM all (hDo all w a o n) (Vz a o ns)).1:=by
 show(runM all w ((3,a,o,n,[],())::(4,n,0,0,[],())::Vz a o ns)).1=_
 rw[eP,eP];rfl
theorem YD.plM{c:BN}{k:Nat}{ep o p:Int}{d:List UInt8}{N:Nat}{w:AA}(h:YD c k ep o p d N w):E4 ep o=p∧D3 ep o=p∧(BC ep 1 30&&BC o 1 60)=true∧(0≤p∧p<2^40):=by
 obtain⟨p1,p2,p3⟩:=h.pl;obtain⟨q1,q2,q3⟩:=D2 p1;rw[p2,p3]at q3;rw[p2]at q1;rw[p3]at q2;have e1:(BC ep 1 30&&BC o 1 60)=true:=by
  rw[AE1,Ak,Ak];omega
 refine⟨by unfold E4;rw[AEv e1,q3],q3,e1,?_⟩;rw[←q3];unfold D3;omega
section
variable{c:BN} {k:Nat} {ep o p a:Int} {d:List UInt8} {N:Nat} {w:AA} (hw:UK w) (ha:Cp a)
include hw ha
theorem dm:∀(m i:Nat) {ns:AAG} {v:AA} {f:Nat},YD c k ep o p d N v→AX AZ v.AQ≤900000→(∀x∈ns,Cp x)→ns.length≤1000→i+m=ns.length→m<f→
  FL f a o (ns.length:Int) (i:Int) w.1 w.2.1 w.2.2.1 w.2.2.2.1 w.2.2.2.2.1 w.2.2.2.2.2.1 w.2.2.2.2.2.2.1 w.2.2.2.2.2.2.2.1 w.2.2.2.2.2.2.2.2.1 w.2.2.2.2.2.2.2.2.2.1 w.2.2.2.2.2.2.2.2.2.2.1 0 0 false [] [] [] [] [] [] [] [] v.2.1 v.2.2.2.2.2.1 v.2.2.2.2.2.2.2.2.2.2.1 v.1 v.2.2.1 v.2.2.2.1 v.2.2.2.2.1 v.2.2.2.2.2.2.1 v.2.2.2.2.2.2.2.1 v.2.2.2.2.2.2.2.2.1 v.2.2.2.2.2.2.2.2.2.1 ep ns
   =some (jr (if UN (runM false v (Vz a o (ns.drop i))).1 p=true then((runM false v (Vz a o (ns.drop i))).1,true)else(w,false)))
 |m,i,ns,v,0,_,_,_,_,_,hf=>by omega
 |0,i,ns,v,f+1,h,hr,jL,hl,hi,hf=>by
  have hv:=h.ok.ZI hr;obtain⟨e1,_,e3,e4⟩:=h.plM;obtain⟨q,_,q1,q2,q3⟩:=ak h.ok e4;simp only[FL,Jr,AB];rw[AE4 (by omega),AF0 (by omega),EX];simp only[AF];rw[show(v.1,v.2.1,v.2.2.1,v.2.2.2.1,v.2.2.2.2.1,v.2.2.2.2.2.1,v.2.2.2.2.2.2.1,v.2.2.2.2.2.2.2.1,v.2.2.2.2.2.2.2.2.1,v.2.2.2.2.2.2.2.2.2.1,v.2.2.2.2.2.2.2.2.2.2.1,())=v from rfl,show(w.1,w.2.1,w.2.2.1,w.2.2.2.1,w.2.2.2.2.1,w.2.2.2.2.2.1,w.2.2.2.2.2.2.1,w.2.2.2.2.2.2.2.1,w.2.2.2.2.2.2.2.2.1,w.2.2.2.2.2.2.2.2.2.1,w.2.2.2.2.2.2.2.2.2.2.1,())=w from rfl,e1,q1,FW hw];simp only[AF]
  show _=some (jr (if UN v p=true then(v,true)else(w,false)))
  cases hh:Nf p v.A3 q with
  |false=>
   rw[q3 hh,AHQ,AGV];rfl
  |true=>
   obtain⟨hq,es⟩:=q2 hh;rw[AE7,AFM,AEv (show(0:Int)≤(q:Int)∧(q:Int)<(v.A3.length:Int)by omega),AFL,show v.2.2.2.2.2.2.2.2.2.1.getD q (0,[],false,())=v.A3[q]from Hy hq,es];cases(v.A3[q]).2.2.1 with
   |true=>rfl
   |false=>rfl
 |m+1,i,ns,v,f+1,h,hr,jL,hl,hi,hf=>by
  have IV:i<ns.length:=by omega
  simp only[FL,Jr,AB];have hg:ns.getD i 0=ns[i]:=Hy IV;have hx:=jL _ (AFj IV);rw[AEv (by omega),AEv (by omega),AFL,hg,AHu IV,Yh]
  generalize ns[i]=x at*
  have hv:=h.ok.ZI hr;have h1:=eD h (all:=false) (e:=(3,a,o,x,[],())) (.inl rfl);have r1:=iB h.ok (all:=false) (e:=(3,a,o,x,[],())) rfl (.inl rfl);rw[show(v.1,v.2.1,v.2.2.1,v.2.2.2.1,v.2.2.2.2.1,v.2.2.2.2.2.1,v.2.2.2.2.2.2.1,v.2.2.2.2.2.2.2.1,v.2.2.2.2.2.2.2.2.1,v.2.2.2.2.2.2.2.2.2.1,v.2.2.2.2.2.2.2.2.2.2.1,())=v from rfl,Ee (d:=(3,a,o,x,[],())) hv ha];have s1:=Zy h.ok (all:=false) (e:=(3,a,o,x,[],())) rfl;simp only[AF]
  generalize BS false v (3,a,o,x,[],())=z at*
  obtain⟨z1,z2⟩:=z;simp only at s1;subst s1;unfold hDo
  generalize TC false v (3,a,o,x,[],())=v1 at*
  have hr1:AX AZ v1.AQ≤900000:=by rw[r1];exact hr
  have Rz:=h1.ok.ZI hr1;have h2:=eD h1 (all:=false) (e:=(4,x,0,0,[],())) (.inr rfl);have r2:=iB h1.ok (all:=false) (e:=(4,x,0,0,[],())) rfl (.inr rfl);rw[show((Uz (v1,z2)).2.1,(Uz (v1,z2)).1.1.1.2.1,(Uz (v1,z2)).2.2.1,(Uz (v1,z2)).2.2.2.1,(Uz (v1,z2)).2.2.2.2.1,(Uz (v1,z2)).1.1.1.2.2.2.2.2.1,(Uz (v1,z2)).2.2.2.2.2.1,(Uz (v1,z2)).2.2.2.2.2.2.1,(Uz (v1,z2)).2.2.2.2.2.2.2.1,(Uz (v1,z2)).2.2.2.2.2.2.2.2.1,(Uz (v1,z2)).1.1.1.2.2.2.2.2.2.2.2.2.2.1,())=v1 from rfl,Ee (d:=(4,x,0,0,[],())) Rz hx];have s2:=Zy h1.ok (all:=false) (e:=(4,x,0,0,[],())) rfl;simp only[AF]
  generalize BS false v1 (4,x,0,0,[],())=z at*
  obtain⟨y1,y2⟩:=z;simp only at s2;subst s2
  generalize TC false v1 (4,x,0,0,[],())=v2 at*
  have hr2:AX AZ v2.AQ≤900000:=by rw[r2];exact hr1
  rw[AR (x:=(i:Int)+1) (by omega) (by omega)];have ih:=dm m (i+1) (ns:=ns) (v:=v2) (f:=f) h2 hr2 jL hl (by omega) (by omega);rw[show((i+1:Nat):Int)=(i:Int)+1 by omega]at ih;exact ih
end
section
variable{c:BN} {k:Nat} {ep o p a:Int} {d:List UInt8} {N:Nat} {w:AA} (hw:UK w) (ha:Cp a)
include hw ha
end
def hAdd(all:Bool)(w:AA)(a:Int)(d:List UInt8):AA×Bool:=
 if(doAdd w a d).2=0 then(if UN (hGo all (doAdd w a d).1 a) (X8 (doAdd w a d).1 a)=true then(hGo all (doAdd w a d).1 a,true)else(w,false))else(w,false)
theorem gb{all:Bool}{w:AA}(h:EF w){a:Int}{d:List UInt8}(hd:d.length≤40):BS all w (2,a,0,0,d,())=doAdd w a d:=by
 have:J2 (2,a,0,0,d,())=true:=by
  unfold J2
  show(true&&(true&&(true&&(true&&(true&&decide (d.length≤40))))))=true
  simp[hd]
 rw[Ox h this];rfl
theorem Yw{w:AA}(h:EF w){e:Int}:∀x∈BB w.Ay e,0≤x∧x<8:=by
 by_cases he:BC e 1 (w.Ay.length:Int)=true
 ·exact(h.xQ (code:=[]) (by simp) (Ak.1 he)).2.2
 ·intro x hx
  unfold BB at hx;rw[AE4 he]at hx;cases hx
theorem iK{a l:AAG}:∀x∈less a l,x∈a:=fun x hx=>by
 unfold less at hx;exact(AIV.1 hx).1
theorem rE{w:AA}{a:Int}{d:List UInt8}:(doAdd w a d).1.AQ=w.AQ:=by
 unfold doAdd;dsimp only
 repeat' split
 all_goals rfl
theorem PH{w:AA}(Ht:UK w):FY w=some ((((),(if B4 w=true then w else Ia).2.1,(),(),(),(if B4 w=true then w else Ia).2.2.2.2.2.1,(),(),(),(),(if B4 w=true then w else Ia).2.2.2.2.2.2.2.2.2.2.1,()),()),((if B4 w=true then w else Ia).1,(if B4 w=true then w else Ia).2.2.1,(if B4 w=true then w else Ia).2.2.2.1,(if B4 w=true then w else Ia).2.2.2.2.1,(if B4 w=true then w else Ia).2.2.2.2.2.2.1,(if B4 w=true then w else Ia).2.2.2.2.2.2.2.1,(if B4 w=true then w else Ia).2.2.2.2.2.2.2.2.1,(if B4 w=true then w else Ia).2.2.2.2.2.2.2.2.2.1,())):=by
 unfold FY;rw[show(w.1,w.2.1,w.2.2.1,w.2.2.2.1,w.2.2.2.2.1,w.2.2.2.2.2.1,w.2.2.2.2.2.2.1,w.2.2.2.2.2.2.2.1,w.2.2.2.2.2.2.2.2.1,w.2.2.2.2.2.2.2.2.2.1,w.2.2.2.2.2.2.2.2.2.2.1,())=w from rfl,Db Ht,FW Ht];simp only[AF];cases B4 w with
 |true=>rfl
 |false=>rfl
theorem Wt{w:AA}{a:Int}{d:List UInt8}(Ht:UK w)(ha:Cp a)(hd:d.length≤40)(hr:AX AZ w.AQ≤900000):
  MO w a d=some (jr (if B4 w=true then hAdd false w a d else(Ia,false))):=by
 unfold MO N9;rw[show(w.1,w.2.1,w.2.2.1,w.2.2.2.1,w.2.2.2.2.1,w.2.2.2.2.2.1,w.2.2.2.2.2.2.1,w.2.2.2.2.2.2.2.1,w.2.2.2.2.2.2.2.2.1,w.2.2.2.2.2.2.2.2.2.1,w.2.2.2.2.2.2.2.2.2.2.1,())=w from rfl,Ee (d:=(2,a,0,0,d,())) Ht ha,PH Ht];simp only[AF];rcases AEw (B4 w)with hw|hw
 rotate_left
 ·have e1:BS false w (2,a,0,0,d,())=(Ia,1):=by unfold BS;rw[hw];rfl
  rw[e1,hw];rfl
 have Dg:=B8.1 hw;rw[hw,AEv rfl,AEv rfl,gb Dg hd];unfold hAdd;by_cases h0:(doAdd w a d).2=0
 rotate_left
 ·rw[AE4 h0,show((Uz (doAdd w a d)).1.1.2.1 !=0)=true by show((doAdd w a d).2 !=0)=true;simpa using h0,AGV]
  rfl
 rw[AEv h0,show((Uz (doAdd w a d)).1.1.2.1 !=0)=false by show((doAdd w a d).2 !=0)=false;rw[h0];rfl,AFM];have hi:=q7 Dg hd h0;have P_:=rE (w:=w) (a:=a) (d:=d);have AFe:0≤a∧a<(w.AE.length:Int):=by
  unfold doAdd at h0;by_cases hx:BC a 0 ((w.AE.length:Int)-1)=true
  ·have:=Ak.1 hx;omega
  ·have l_:BC a 0 ((w.AE.length:Int)-1)=false:=by simpa using hx
   rw[l_]at h0;cases h0
 unfold hGo
 generalize X8 (doAdd w a d).1 a=p at*
 generalize doAdd w a d=q at*
 have lK:a<(q.1.AE.length:Int):=by have:=hi.wr.1;omega
 have sD:=D2 hi.pl.1;rw[hi.pl.2.1]at sD;rw[AEv (show(0:Int)≤a∧a<((Uz q).2.2.2.2.2.1.length:Int)from⟨AFe.1,lK⟩),show(Uz q).2.2.2.2.2.1.getD a.toNat (0,[],())=q.1.AE.getD a.toNat Af from rfl,show((Uz q).2.1,(Uz q).1.1.1.2.1,(Uz q).2.2.1,(Uz q).2.2.2.1,(Uz q).2.2.2.2.1,(Uz q).1.1.1.2.2.2.2.2.1,(Uz q).2.2.2.2.2.1,(Uz q).2.2.2.2.2.2.1,(Uz q).2.2.2.2.2.2.2.1,(Uz q).2.2.2.2.2.2.2.2.1,(Uz q).1.1.1.2.2.2.2.2.2.2.2.2.2.1,())=q.1 from rfl,K_ hi.ok (by unfold Cp;omega)];simp only[AF];have jL:∀x∈less (BB q.1.Ay (q.1.AE.getD a.toNat Af).1) q.1.lost,Cp x:=fun x hx=>by
  have:=Yw hi.ok x (iK x hx);unfold Cp;omega
 have hl8:(less (BB q.1.Ay (q.1.AE.getD a.toNat Af).1) q.1.lost).length≤8:=by
  have h1:(BB q.1.Ay (q.1.AE.getD a.toNat Af).1).length≤8:=Ik hi.ok;have h2:=aK (a:=BB q.1.Ay (q.1.AE.getD a.toNat Af).1) (l:=q.1.lost);omega
 have:=dm Ht ha (less (BB q.1.Ay (q.1.AE.getD a.toNat Af).1) q.1.lost).length 0 (f:=Aq) hi (by rw[P_];exact hr) jL (by omega) (by omega) (Aw (by omega));exact this
end Go.M
end
section
namespace Go.M
open Go.M.H (AD AG Ab AM AA Bc AH AY AL AN Ar Aa An)
def allM(all:Bool):AA→List An→Option AA
 |w,[]=>some w
 |w,d::l=>if(BS all w d).2=0 then allM all (BS all w d).1 l else none
theorem Yi{all:Bool}:∀{l m:List An} {w:AA},allM all w (l++m)=(allM all w l).bind fun v=>allM all v m
 |[],m,w=>rfl
 |d::l,m,w=>by
  simp only[AHZ,allM];split
  ·exact Yi
  ·rfl
def OG(count:Nat)(ns:AAG):List An:=(List.range count).flatMap fun i:Nat=>ns.flatMap fun n:Int=>[(11,0,(i:Int)+1,n,[],()),(4,n,0,0,[],())]
def M1(v:AA):AAG:=less (BB v.Ay (v.A8.getD 0 Gh).2.1) v.lost
def aA(all:Bool)(w:AA):Option AA:=
 if B4 w=true then
  (if w.A8.length=0 then allM all w [(8,0,0,0,[],())]else some w).bind fun v0=>
  (allM all v0 ((M1 v0).map (fun n=>(9,n,0,0,[],()))++[(10,0,0,0,[],())])).bind fun v1=>
  allM all v1 (OG (v1.A8.getD 0 Gh).2.2.2.2.2.1.length (M1 v0)++[(12,0,0,0,[],())])
 else none
end Go.M
end
section
set_option maxRecDepth 8000
namespace Go.M
open Go.M.H (AD AG Ab AM AA Bc AH AY AL AN Ar Aa An Am Bt AX AU AW Ap CP BV Ao AZ DJ Bu B_ Cb)
def KT:Option AA→Ly
 |none=>(((((),0,(),(),(),0,(),(),(),(),false,()),false,()),()),((),(),(),(),(),(),(),(),[],[],[],[],[],[],[],[],()))
 |some v=>(((((),v.2.1,(),(),(),v.2.2.2.2.2.1,(),(),(),(),v.2.2.2.2.2.2.2.2.2.2.1,()),true,()),()),((),(),(),(),(),(),(),(),v.1,v.2.2.1,v.2.2.2.1,v.2.2.2.2.1,v.2.2.2.2.2.2.1,v.2.2.2.2.2.2.2.1,v.2.2.2.2.2.2.2.2.1,v.2.2.2.2.2.2.2.2.2.1,()))
theorem WE:∀(m i f:Nat) {l:List An} {w:AA},EF w→AX AZ w.AQ+41*m≤900000→(∀d∈l,Cp d.2.1)→l.length≤10000→i+m=l.length→m<f→
  HN f l (l.length:Int) (i:Int) w.2.1 w.2.2.2.2.2.1 w.2.2.2.2.2.2.2.2.2.2.1 w.1 w.2.2.1 w.2.2.2.1 w.2.2.2.2.1 w.2.2.2.2.2.2.1 w.2.2.2.2.2.2.2.1 w.2.2.2.2.2.2.2.2.1 w.2.2.2.2.2.2.2.2.2.1 0 0 false [] [] [] [] [] [] [] []=some (KT (allM false w (l.drop i)))
 |m,i,0,l,w,_,_,_,_,_,hf=>by omega
 |0,i,f+1,l,w,h,hr,hl,hn,hi,hf=>by
  simp only[HN,KP,AB];rw[AE4 (by omega),AF0 (by omega)];rfl
 |m+1,i,f+1,l,w,h,hr,hl,hn,hi,hf=>by
  have IV:i<l.length:=by omega
  simp only[HN,KP,AB];have hg:l.getD i (0,0,0,0,[],())=l[i]:=Hy IV;have hd:=hl _ (AFj IV);rw[AEv (by omega),AEv (by omega),AFL,hg,AHu IV]
  generalize l[i]=d at*
  rw[show(w.1,w.2.1,w.2.2.1,w.2.2.2.1,w.2.2.2.2.1,w.2.2.2.2.2.1,w.2.2.2.2.2.2.1,w.2.2.2.2.2.2.2.1,w.2.2.2.2.2.2.2.2.1,w.2.2.2.2.2.2.2.2.2.1,w.2.2.2.2.2.2.2.2.2.2.1,())=w from rfl,show(d.1,d.2.1,d.2.2.1,d.2.2.2.1,d.2.2.2.2.1,())=d from rfl,Ee (h.ZI (by omega)) hd];simp only[AF,allM];by_cases h0:(BS false w d).2=0
  ·rw[AEv h0,show((Uz (BS false w d)).1.1.2.1 !=0)=false by show((BS false w d).2 !=0)=false;rw[h0];rfl,AFM,AR (x:=(i:Int)+1) (by omega) (by omega)]
   have hr':=bm h h0;have ih:=WE m (i+1) f (l:=l) (B8.1 (VM h0)) (by omega) hl hn (by omega) (by omega);rw[show((i+1:Nat):Int)=(i:Int)+1 by omega]at ih;exact ih
  ·rw[AE4 h0,show((Uz (BS false w d)).1.1.2.1 !=0)=true by show((BS false w d).2 !=0)=true;simpa using h0,AGV]
   rfl
theorem Qz{l:List An}{w:AA}(h:EF w)(hr:AX AZ w.AQ+41*l.length≤900000)(hl:∀d∈l,Cp d.2.1)(hn:l.length≤10000):
  LN w.2.1 w.2.2.2.2.2.1 w.2.2.2.2.2.2.2.2.2.2.1 l w.1 w.2.2.1 w.2.2.2.1 w.2.2.2.2.1 w.2.2.2.2.2.2.1 w.2.2.2.2.2.2.2.1 w.2.2.2.2.2.2.2.2.1 w.2.2.2.2.2.2.2.2.2.1=some (KT (allM false w l)):=
 WE l.length 0 Aq h hr hl hn (by omega) (Aw (by omega))
def T2(ns:AAG):Nat→Nat→List An
 |0,_=>[]
 |m+1,i=>(ns.flatMap fun n:Int=>[(11,0,(i:Int)+1,n,[],()),(4,n,0,0,[],())])++T2 ns m (i+1)
theorem gq{ns:AAG}:∀(m i:Nat),(List.range' i m).flatMap (fun i:Nat=>ns.flatMap fun n:Int=>[(11,0,(i:Int)+1,n,[],()),(4,n,0,0,[],())])=T2 ns m i
 |0,i=>rfl
 |m+1,i=>by
  rw[List.range'_succ,AIr,gq m (i+1)];rfl
theorem Th{c:Nat}{ns:AAG}:OG c ns=T2 ns c 0:=by
 unfold OG;rw[List.range_eq_range',gq]
theorem Wp{c t:Int}{ns:AAG}(hk:ns.length≤8)(ht:0≤t∧t≤1000):∀(m j f:Nat) {b:List An},j+m=ns.length→b.length+2*m≤5000→
  EW (f+m+1) c ns t ns (ns.length:Int) (j:Int) b=DI f c ns (t+1) (b++(ns.drop j).flatMap fun n:Int=>[(11,0,t,n,[],()),(4,n,0,0,[],())])
 |0,j,f,b,hj,hb=>by
  simp only[EW,G_,AB];rw[AE4 (by omega),AF0 (by omega),AR (x:=t+1) (by omega) (by omega)];simp
 |m+1,j,f,b,hj,hb=>by
  have IV:j<ns.length:=by omega
  have hg:ns.getD j 0=ns[j]:=Hy IV;rw[show f+(m+1)+1=(f+m+1)+1 by omega]
  show G_ (DI (f+m+1)) (EW (f+m+1)) _ _ _ _ _ _ _=_
  unfold G_;simp only[AB];rw[AEv (by omega),AEv (by omega),AEv (by rw[DF];omega),AFL,hg,AR (x:=(j:Int)+1) (by omega) (by omega)];have ih:=Wp (c:=c) hk ht m (j+1) f (b:=b++[(11,0,t,ns[j],[],()),(4,ns[j],0,0,[],())]) (by omega) (by simp;omega);rw[show((j+1:Nat):Int)=(j:Int)+1 by omega]at ih;rw[ih,AHu IV,AIr,AGl]
theorem aJ{t:Int}:∀{ns:AAG},(ns.flatMap fun n:Int=>[((11,0,t,n,[],()):An),(4,n,0,0,[],())]).length=2*ns.length
 |[]=>rfl
 |x::ns=>by
  have:=aJ (t:=t) (ns:=ns);rw[AIr,AGP,this];simp only[AFq,AG6];omega
theorem Wg{c:Nat}{ns:AAG}(hk:ns.length≤8)(hc:c≤60):∀(m i f:Nat) {b:List An},i+m=c→b.length+16*m≤2000→m*10+1≤f→
  DI f (c:Int) ns ((i:Int)+1) b=some (((),()),(b++(T2 ns m i++[(12,0,0,0,[],())]),()))
 |m,i,0,b,_,_,hf=>by omega
 |0,i,f+1,b,hi,hb,hf=>by
  simp only[DI,Je,AB];rw[AE4 (by omega),AEv (by rw[DF];omega)];rfl
 |m+1,i,f+1,b,hi,hb,hf=>by
  simp only[DI,Je,AB];rw[AEv (by omega)];obtain⟨g,rfl⟩:∃g,f=g+ns.length+1:=⟨f-ns.length-1,by omega⟩;have h6:=Wp (c:=(c:Int)) (t:=(i:Int)+1) hk (by omega) ns.length 0 g (b:=b) (by omega) (by omega);refine h6.trans ?_
  have hlen:((ns.drop 0).flatMap fun n:Int=>[((11,0,(i:Int)+1,n,[],()):An),(4,n,0,0,[],())]).length=2*ns.length:=by
   rw[AHa];exact aJ
  have ih:=Wg hk hc m (i+1) g (b:=b++(ns.drop 0).flatMap fun n:Int=>[(11,0,(i:Int)+1,n,[],()),(4,n,0,0,[],())]) (by omega) (by rw[AGP,hlen];omega) (by omega);rw[show((i+1:Nat):Int)=(i:Int)+1 by omega]at ih;rw[ih];simp only[T2,AHa,AGl]
theorem W3{c:Nat}{ns:AAG}(hk:ns.length≤8)(hc:c≤60):P6 (c:Int) ns=some (((),()),(OG c ns++[(12,0,0,0,[],())],())):=by
 rw[Th];exact Wg hk hc c 0 Aq (b:=[]) (by omega) (by simp;omega) (Nat.le_of_lt (Aw (by omega)))
theorem VB{w v:AA}{ns:AAG}(hk:ns.length≤8):∀(m i f:Nat) {b:List An},i+m=ns.length→b.length+m≤100→
  Bv (f+m) (ns.length:Int) (i:Int) w.1 w.2.1 w.2.2.1 w.2.2.2.1 w.2.2.2.2.1 w.2.2.2.2.2.1 w.2.2.2.2.2.2.1 w.2.2.2.2.2.2.2.1 w.2.2.2.2.2.2.2.2.1 w.2.2.2.2.2.2.2.2.2.1 w.2.2.2.2.2.2.2.2.2.2.1 0 0 false [] [] [] [] [] [] [] [] v.2.1 v.2.2.2.2.2.1 v.2.2.2.2.2.2.2.2.2.2.1 v.1 v.2.2.1 v.2.2.2.1 v.2.2.2.2.1 v.2.2.2.2.2.2.1 v.2.2.2.2.2.2.2.1 v.2.2.2.2.2.2.2.2.1 v.2.2.2.2.2.2.2.2.2.1 ns b=Bv f (ns.length:Int) (ns.length:Int) w.1 w.2.1 w.2.2.1 w.2.2.2.1 w.2.2.2.2.1 w.2.2.2.2.2.1 w.2.2.2.2.2.2.1 w.2.2.2.2.2.2.2.1 w.2.2.2.2.2.2.2.2.1 w.2.2.2.2.2.2.2.2.2.1 w.2.2.2.2.2.2.2.2.2.2.1 0 0 false [] [] [] [] [] [] [] [] v.2.1 v.2.2.2.2.2.1 v.2.2.2.2.2.2.2.2.2.2.1 v.1 v.2.2.1 v.2.2.2.1 v.2.2.2.2.1 v.2.2.2.2.2.2.1 v.2.2.2.2.2.2.2.1 v.2.2.2.2.2.2.2.2.1 v.2.2.2.2.2.2.2.2.2.1 ns (b++(ns.drop i).map fun n:Int=>(9,n,0,0,[],()))
 |0,i,f,b,hi,hb=>by
  rw[AF0 (by omega),show i=ns.length by omega];simp
 |m+1,i,f,b,hi,hb=>by
  have IV:i<ns.length:=by omega
  have hg:ns.getD i 0=ns[i]:=Hy IV;rw[show f+(m+1)=(f+m)+1 by omega]
  show DD (Bv (f+m)) _ _ _ _ _ _ _ _ _ _ _ _ _ _ _ _ _ _ _ _ _ _ _ _ _ _ _ _ _ _ _ _ _ _ _ _ _=_
  unfold DD;simp only[AB];rw[AEv (by omega),AEv (by omega),AEv (by rw[DF];omega),AFL,hg,AR (x:=(i:Int)+1) (by omega) (by omega)];have ih:=VB (w:=w) (v:=v) hk m (i+1) f (b:=b++[(9,ns[i],0,0,[],())]) (by omega) (by simp;omega);rw[show((i+1:Nat):Int)=(i:Int)+1 by omega]at ih;refine ih.trans ?_
  rw[AHu IV,AHb,AGl];rfl
theorem jn{all:Bool}{w:AA}(h0:(BS all w (10,0,0,0,[],())).2=0):0<(BS all w (10,0,0,0,[],())).1.A8.length:=by
 unfold BS at h0⊢;split at h0
 ·cases h0
 rename_i hc;rw[AE4 hc];rw[show IU all w (10,0,0,0,[],())=NF w from rfl]at h0⊢;unfold NF at h0⊢;cases hm:w.A8 with
 |nil=>rw[hm]at h0;cases h0
 |cons m ms=>
  rw[hm]at h0;dsimp only at h0⊢;split at h0
  ·cases h0
  ·rename_i hq
   rw[AE4 hq]
   show 0<(_::ms).length
   simp
theorem mQ{all:Bool}{w v:AA}{l:List An}(h:allM all w (l++[(10,0,0,0,[],())])=some v):0<v.A8.length:=by
 rw[Yi]at h;cases hu:allM all w l with
 |none=>rw[hu]at h;cases h
 |some u=>
  rw[hu]at h;simp only[AE9,allM]at h;split at h
  ·rename_i h0
   cases h;exact jn h0
  ·cases h
theorem gA{all:Bool}:∀{l:List An} {w v:AA},EF w→allM all w l=some v→EF v∧AX AZ v.AQ≤AX AZ w.AQ+41*l.length
 |[],w,v,hw,h=>by
  cases h;exact⟨hw,by simp⟩
 |d::l,w,v,hw,h=>by
  simp only[allM]at h;split at h
  ·rename_i h0
   obtain⟨a,b⟩:=gA (B8.1 (VM h0)) h;have:=bm hw h0;refine⟨a,?_⟩;simp only[AFq];omega
  ·cases h
def hmR(w:AA):Option AA→AA×Bool
 |none=>(w,false)
 |some u=>(u,true)
end Go.M
end
section
set_option maxRecDepth 8000
namespace Go.M
open Go.M.H (AD AG Ab AM AA Bc AH AY AL AN Ar Aa An Am Bt AX AU AW Ap CP BV Ao AZ DJ Bu B_ Cb)
theorem uc{u:AA}(h:EF u):(u.A8.getD 0 Gh).2.2.2.2.2.1.length≤60:=by
 cases hm:u.A8 with
 |nil=>simp[Gh]
 |cons m ms=>
  have h1:=(h.A8 m (by rw[hm];simp)).1.n;have hb:=J7 (l:=m.2.2.2.1)
  show m.2.2.2.2.2.1.length≤60
  split at h1<;>omega
theorem mg{c:Nat}{ns:AAG}(jL:∀x∈ns,Cp x):∀d∈OG c ns++[(12,0,0,0,[],())],Cp d.2.1:=fun d hd=>by
 have h0:Cp 0:=by unfold Cp;omega
 rcases AGf.1 hd with hd|hd
 ·unfold OG at hd
  rw[List.mem_flatMap]at hd;obtain⟨i,_,hd⟩:=hd;rw[List.mem_flatMap]at hd;obtain⟨n,hn,hd⟩:=hd;simp only[AGD,AHg,AI4]at hd;rcases hd with rfl|rfl
  ·exact h0
  ·exact jL n hn
 ·simp only[AGD,AHg,AI4]at hd
  subst hd;exact h0
theorem eG{ns:AAG}(hk:ns.length≤8):∀(m i:Nat),(T2 ns m i).length≤16*m
 |0,i=>by simp[T2]
 |m+1,i=>by
  have:=eG hk m (i+1);have h2:=aJ (t:=(i:Int)+1) (ns:=ns);simp only[T2,AGP,h2];omega
theorem lA{c:Nat}{ns:AAG}(hk:ns.length≤8)(hc:c≤60):(OG c ns++[((12,0,0,0,[],()):An)]).length≤961:=by
 rw[Th,AGP];have:=eG hk c 0;simp only[AFq,AG6];omega
theorem qT{b:List An}(zB:∀d∈b,Cp d.2.1):∀d∈b++[((10,0,0,0,[],()):An)],Cp d.2.1:=fun d hd=>by
 rcases AGf.1 hd with hd|hd
 ·exact zB d hd
 ·simp only[AGD,AHg,AI4]at hd
  subst hd
  show Cp 0
  unfold Cp;omega
theorem iA{w v:AA}(hw:UK w)(h:EF v)(hr:AX AZ v.AQ≤100000){ns:AAG}(hk:ns.length≤8)(jL:∀x∈ns,Cp x){b:List An}(hb:b.length≤8)(zB:∀d∈b,Cp d.2.1)(f:Nat):
  Bv (f+1) (ns.length:Int) (ns.length:Int) w.1 w.2.1 w.2.2.1 w.2.2.2.1 w.2.2.2.2.1 w.2.2.2.2.2.1 w.2.2.2.2.2.2.1 w.2.2.2.2.2.2.2.1 w.2.2.2.2.2.2.2.2.1 w.2.2.2.2.2.2.2.2.2.1 w.2.2.2.2.2.2.2.2.2.2.1 0 0 false [] [] [] [] [] [] [] [] v.2.1 v.2.2.2.2.2.1 v.2.2.2.2.2.2.2.2.2.2.1 v.1 v.2.2.1 v.2.2.2.1 v.2.2.2.2.1 v.2.2.2.2.2.2.1 v.2.2.2.2.2.2.2.1 v.2.2.2.2.2.2.2.2.1 v.2.2.2.2.2.2.2.2.2.1 ns b=some (jr (hmR w ((allM false v (b++[(10,0,0,0,[],())])).bind fun v1=>allM false v1 (OG (v1.A8.getD 0 Gh).2.2.2.2.2.1.length ns++[(12,0,0,0,[],())])))):=by
 show DD (Bv f) _ _ _ _ _ _ _ _ _ _ _ _ _ _ _ _ _ _ _ _ _ _ _ _ _ _ _ _ _ _ _ _ _ _ _ _ _=_
 unfold DD;simp only[AB];have hl1:(b++[((10,0,0,0,[],()):An)]).length≤9:=by simp;omega
 rw[AE4 (by omega),AEv (by rw[DF];omega),Qz h (by omega) (qT zB) (by omega),show(w.1,w.2.1,w.2.2.1,w.2.2.2.1,w.2.2.2.2.1,w.2.2.2.2.2.1,w.2.2.2.2.2.2.1,w.2.2.2.2.2.2.2.1,w.2.2.2.2.2.2.2.2.1,w.2.2.2.2.2.2.2.2.2.1,w.2.2.2.2.2.2.2.2.2.2.1,())=w from rfl,FW hw];simp only[AF];cases hA:allM false v (b++[(10,0,0,0,[],())])with
 |none=>rfl
 |some v1=>
  obtain⟨ok1,rd1⟩:=gA h hA;have hm:=mQ hA;have hc:=uc ok1;have rv:=lA hk hc;rw[show(!(KT (some v1)).1.1.2.1)=false from rfl,AFM];rw[AEv (show(0:Int)≤(0:Int)∧(0:Int)<((KT (some v1)).2.2.2.2.2.2.2.2.2.2.2.2.2.2.1.length:Int)from⟨by omega,by have:(KT (some v1)).2.2.2.2.2.2.2.2.2.2.2.2.2.2.1.length=v1.A8.length:=rfl;omega⟩)];rw[show(KT (some v1)).2.2.2.2.2.2.2.2.2.2.2.2.2.2.1.getD 0 (0,0,[],[],false,[],())=v1.A8.getD 0 Gh from rfl,W3 hk hc];simp only[AF,AE9];have h2:=Qz (l:=OG (v1.A8.getD 0 Gh).2.2.2.2.2.1.length ns++[(12,0,0,0,[],())]) ok1 (by omega) (mg jL) (by omega);refine(congrArg (fun o=>Option.bind o _) h2).trans ?_
  simp only[AF];cases allM false v1 (OG (v1.A8.getD 0 Gh).2.2.2.2.2.1.length ns++[(12,0,0,0,[],())])with
  |none=>rfl
  |some v2=>rfl
def yp(w:AA):Option AA→AA×Bool
 |none=>(if B4 w=true then w else Ia,false)
 |some u=>(u,true)
theorem cA{w:AA}(Ht:UK w)(hw:B4 w=false){d:An}(hd:Cp d.2.1):LN w.2.1 w.2.2.2.2.2.1 w.2.2.2.2.2.2.2.2.2.2.1 [d] w.1 w.2.2.1 w.2.2.2.1 w.2.2.2.2.1 w.2.2.2.2.2.2.1 w.2.2.2.2.2.2.2.1 w.2.2.2.2.2.2.2.2.1 w.2.2.2.2.2.2.2.2.2.1=some (KT none):=by
 have e1:BS false w d=(Ia,1):=by unfold BS;rw[hw];rfl
 unfold LN Rs;rw[show Aq=(Aq-1)+1 by have:=Aw (n:=0) (by omega);omega];simp only[HN,KP,AB];rw[AEv (by simp),AEv (by simp)];rw[show([d]:List An).getD (0:Int).toNat (0,0,0,0,[],())=d from rfl,show(w.1,w.2.1,w.2.2.1,w.2.2.2.1,w.2.2.2.2.1,w.2.2.2.2.2.1,w.2.2.2.2.2.2.1,w.2.2.2.2.2.2.2.1,w.2.2.2.2.2.2.2.2.1,w.2.2.2.2.2.2.2.2.2.1,w.2.2.2.2.2.2.2.2.2.2.1,())=w from rfl,show(d.1,d.2.1,d.2.2.1,d.2.2.2.1,d.2.2.2.2.1,())=d from rfl,Ee Ht hd,e1];rfl
theorem rW{ns:AAG}(hk:ns.length≤8):((ns.drop 0).map fun n:Int=>((9,n,0,0,[],()):An)).length≤8:=by
 rw[AIR,AHa];exact hk
theorem sW{ns:AAG}(jL:∀x∈ns,Cp x):∀d∈(ns.drop 0).map (fun n:Int=>((9,n,0,0,[],()):An)),Cp d.2.1:=fun d hd=>by
 rw[AHa]at hd;obtain⟨n,hn,rfl⟩:=AHv.1 hd;exact jL n hn
theorem ky{v:AA}(h:EF v):(M1 v).length≤8:=by
 have h1:(BB v.Ay (v.A8.getD 0 Gh).2.1).length≤8:=Ik h;have h2:=aK (a:=BB v.Ay (v.A8.getD 0 Gh).2.1) (l:=v.lost);unfold M1;omega
theorem nP{v:AA}(h:EF v):∀x∈M1 v,Cp x:=fun x hx=>by
 have:=Yw h x (iK x hx);unfold Cp;omega
theorem WC{w v:AA}(hw:UK w)(h:EF v)(hr:AX AZ v.AQ≤100000):
  Bv Aq ((M1 v).length:Int) 0 w.1 w.2.1 w.2.2.1 w.2.2.2.1 w.2.2.2.2.1 w.2.2.2.2.2.1 w.2.2.2.2.2.2.1 w.2.2.2.2.2.2.2.1 w.2.2.2.2.2.2.2.2.1 w.2.2.2.2.2.2.2.2.2.1 w.2.2.2.2.2.2.2.2.2.2.1 0 0 false [] [] [] [] [] [] [] [] v.2.1 v.2.2.2.2.2.1 v.2.2.2.2.2.2.2.2.2.2.1 v.1 v.2.2.1 v.2.2.2.1 v.2.2.2.2.1 v.2.2.2.2.2.2.1 v.2.2.2.2.2.2.2.1 v.2.2.2.2.2.2.2.2.1 v.2.2.2.2.2.2.2.2.2.1 (M1 v) []=some (jr (hmR w ((allM false v ((M1 v).map (fun n=>(9,n,0,0,[],()))++[(10,0,0,0,[],())])).bind fun v1=>allM false v1 (OG (v1.A8.getD 0 Gh).2.2.2.2.2.1.length (M1 v)++[(12,0,0,0,[],())])))):=by
 have hk:=ky h;have jL:=nP h
 generalize M1 v=ns at*
 obtain⟨g,hg⟩:∃g,Aq=(g+1)+ns.length:=⟨Aq-ns.length-1,by have:=Aw (n:=10) (by omega);omega⟩;rw[hg];refine(VB (w:=w) (v:=v) hk ns.length 0 (g+1) (b:=[]) (by omega) (by simp;omega)).trans ?_
 have:=iA hw h hr hk jL (b:=[]++(ns.drop 0).map fun n:Int=>(9,n,0,0,[],())) (rW hk) (sW jL) g;rw[AHS,AHa]at this⊢;exact this
theorem ik{v:AA}(h:EF v)(hm:0<v.A8.length):Cp (v.A8.getD 0 Gh).2.1:=by
 have:=(h.A8 _ (CE (d:=Gh) hm)).1.ep;unfold Cp;omega
theorem xN{all:Bool}{w:AA}(h0:(BS all w (8,0,0,0,[],())).2=0):0<(BS all w (8,0,0,0,[],())).1.A8.length:=by
 unfold BS at h0⊢;split at h0
 ·cases h0
 rename_i hc;rw[AE4 hc];rw[show IU all w (8,0,0,0,[],())=Pc w from rfl]at h0⊢;unfold Pc at h0⊢;split at h0
 ·cases h0
 rename_i h1;rw[AE4 h1];split at h0
 ·cases h0
 rename_i h2;rw[AE4 h2]
 show 0<[_].length
 simp
theorem lC{w:AA}(h:B4 w=true)(o:Option AA):hmR w o=yp w o:=by
 cases o with
 |none=>unfold hmR yp;rw[AEv h]
 |some u=>rfl
theorem Vq{w:AA}(Ht:UK w)(hr:AX AZ w.AQ≤60000):Iy w=some (jr (yp w (aA false w))):=by
 unfold Iy JG;rw[show(w.1,w.2.1,w.2.2.1,w.2.2.2.1,w.2.2.2.2.1,w.2.2.2.2.2.1,w.2.2.2.2.2.2.1,w.2.2.2.2.2.2.2.1,w.2.2.2.2.2.2.2.2.1,w.2.2.2.2.2.2.2.2.2.1,w.2.2.2.2.2.2.2.2.2.2.1,())=w from rfl,FW Ht,PH Ht];simp only[AF];rw[show w.2.2.2.2.2.2.2.1.length=w.A8.length from rfl];rcases AEw (B4 w)with hw|hw
 rotate_left
 ·rw[show aA false w=none by unfold aA;rw[AE4 (by rw[hw];simp)]]
  rw[cA Ht hw (by show Cp 0;unfold Cp;omega),show(w.1,w.2.1,w.2.2.1,w.2.2.2.1,w.2.2.2.2.1,w.2.2.2.2.2.1,w.2.2.2.2.2.2.1,w.2.2.2.2.2.2.2.1,w.2.2.2.2.2.2.2.2.1,w.2.2.2.2.2.2.2.2.2.1,w.2.2.2.2.2.2.2.2.2.2.1,())=w from rfl,Db Ht,hw];simp only[AF];by_cases hm:w.A8.length=0
  ·rw[AHo.2 (show(w.A8.length:Int)=0 by omega),AGV]
   unfold yp;rw[hw];rfl
  ·rw[AGk.2 (show(w.A8.length:Int)≠0 by omega),AFM]
   unfold yp;rw[hw];rfl
 have Dg:=B8.1 hw;rw[show aA false w=((if w.A8.length=0 then allM false w [(8,0,0,0,[],())]else some w).bind fun v0=>(allM false v0 ((M1 v0).map (fun n=>(9,n,0,0,[],()))++[(10,0,0,0,[],())])).bind fun v1=>allM false v1 (OG (v1.A8.getD 0 Gh).2.2.2.2.2.1.length (M1 v0)++[(12,0,0,0,[],())]))by unfold aA;rw[AEv hw]];by_cases hm:w.A8.length=0
 ·rw[AHo.2 (show(w.A8.length:Int)=0 by omega),AGV,AEv hm,Qz Dg (by simp;omega) (fun d hd=>by
   simp only[AGD,AHg,AI4]at hd;subst hd
   show Cp 0
   unfold Cp;omega) (by simp)]
  simp only[AF];cases hA:allM false w [(8,0,0,0,[],())]with
  |none=>
   unfold yp;rw[hw];rfl
  |some v=>
   obtain⟨ok1,rd1⟩:=gA Dg hA;simp only[AFq,AG6]at rd1;have hwv:=ok1.ZI (by omega);have hmv:0<v.A8.length:=by
    simp only[allM]at hA;split at hA
    ·rename_i h0
     cases hA;exact xN h0
    ·cases hA
   have key:=WC (w:=w) Ht ok1 (by omega);rw[lC hw]at key;refine Eq.trans ?_ key
   rw[show(!(KT (some v)).1.1.2.1)=false from rfl,AFM];rw[show((KT (some v)).2.2.2.2.2.2.2.2.2.1,(KT (some v)).1.1.1.2.1,(KT (some v)).2.2.2.2.2.2.2.2.2.2.1,(KT (some v)).2.2.2.2.2.2.2.2.2.2.2.1,(KT (some v)).2.2.2.2.2.2.2.2.2.2.2.2.1,(KT (some v)).1.1.1.2.2.2.2.2.1,(KT (some v)).2.2.2.2.2.2.2.2.2.2.2.2.2.1,(KT (some v)).2.2.2.2.2.2.2.2.2.2.2.2.2.2.1,(KT (some v)).2.2.2.2.2.2.2.2.2.2.2.2.2.2.2.1,(KT (some v)).2.2.2.2.2.2.2.2.2.2.2.2.2.2.2.2.1,(KT (some v)).1.1.1.2.2.2.2.2.2.2.2.2.2.1,())=v from rfl,Db hwv,B8.2 ok1];simp only[AF];rw[AE7,AFM,AEv (show(0:Int)≤(0:Int)∧(0:Int)<((KT (some v)).2.2.2.2.2.2.2.2.2.2.2.2.2.2.1.length:Int)from⟨by omega,by have:(KT (some v)).2.2.2.2.2.2.2.2.2.2.2.2.2.2.1.length=v.A8.length:=rfl;omega⟩)];rw[show(KT (some v)).2.2.2.2.2.2.2.2.2.2.2.2.2.2.1.getD 0 (0,0,[],[],false,[],())=v.A8.getD 0 Gh from rfl,K_ ok1 (ik ok1 hmv)];rfl
 ·have hmv:0<w.A8.length:=by omega
  have key:=WC (w:=w) Ht Dg (by omega);rw[lC hw]at key;rw[AGk.2 (show(w.A8.length:Int)≠0 by omega),AFM,AE4 hm,AE9];refine Eq.trans ?_ key
  rw[show(w.1,w.2.1,w.2.2.1,w.2.2.2.1,w.2.2.2.2.1,w.2.2.2.2.2.1,w.2.2.2.2.2.2.1,w.2.2.2.2.2.2.2.1,w.2.2.2.2.2.2.2.2.1,w.2.2.2.2.2.2.2.2.2.1,w.2.2.2.2.2.2.2.2.2.2.1,())=w from rfl,Db Ht,hw];simp only[AF];rw[AE7,AFM,AEv (show(0:Int)≤(0:Int)∧(0:Int)<(w.2.2.2.2.2.2.2.1.length:Int)from⟨by omega,by have:w.2.2.2.2.2.2.2.1.length=w.A8.length:=rfl;omega⟩)];rw[show w.2.2.2.2.2.2.2.1.getD 0 (0,0,[],[],false,[],())=w.A8.getD 0 Gh from rfl,K_ Dg (ik Dg hmv)];rfl
end Go.M
end
section
set_option maxRecDepth 8000
namespace Go.M
open Go.M.H (AD AG Ab AM AA Bc AH AY AL AN Ar Aa An Am Bt AX AU AW Ap CP BV Ao AZ DJ Bu B_ Cb)
def rZ(w:AA)(n:Int):G9:=(((((),w.2.1,(),(),(),w.2.2.2.2.2.1,(),(),(),(),w.2.2.2.2.2.2.2.2.2.2.1,()),n,()),()),(w.1,w.2.2.1,w.2.2.2.1,w.2.2.2.2.1,w.2.2.2.2.2.2.1,w.2.2.2.2.2.2.2.1,w.2.2.2.2.2.2.2.2.1,w.2.2.2.2.2.2.2.2.2.1,()))
theorem eW:∀(n:Nat) {w:AA} {a m:Int} {f:Nat},EF w→Cp a→120-fy w a<n→AX AZ w.AQ+41*(120-fy w a)≤900000→n<f→0≤m∧m+120-fy w a≤1000→
  GF f a m 0 0 false [] [] [] [] [] [] [] [] w.2.1 w.2.2.2.2.2.1 w.2.2.2.2.2.2.2.2.2.2.1 w.1 w.2.2.1 w.2.2.2.1 w.2.2.2.2.1 w.2.2.2.2.2.2.1 w.2.2.2.2.2.2.2.1 w.2.2.2.2.2.2.2.2.1 w.2.2.2.2.2.2.2.2.2.1=some (rZ (P7 n w a).1 (m+(P7 n w a).2))
 |0,_,_,_,_,_,_,h,_,_,_=>by omega
 |n+1,w,a,m,0,_,_,_,_,hf,_=>by omega
 |n+1,w,a,m,f+1,h,ha,hn,hw,hf,hm=>by
  show JL (GF f) _ _ _ _ _ _ _ _ _ _ _ _ _ _ _ _ _ _ _ _ _ _ _ _=_
  unfold JL;rw[show(w.1,w.2.1,w.2.2.1,w.2.2.2.1,w.2.2.2.2.1,w.2.2.2.2.2.1,w.2.2.2.2.2.2.1,w.2.2.2.2.2.2.2.1,w.2.2.2.2.2.2.2.2.1,w.2.2.2.2.2.2.2.2.2.1,w.2.2.2.2.2.2.2.2.2.2.1,())=w from rfl,Ee (d:=(14,a,255,0,[],())) (h.ZI (by omega)) ha,fY h];simp only[AF,P7];by_cases hd:(Dm w a 255).2=0
  ·obtain⟨_,k1,k2,k3,k4,k5⟩:=Yk h hd
   rw[AEv hd,show((Uz (Dm w a 255)).1.1.2.1 !=0)=false by show((Dm w a 255).2 !=0)=false;rw[hd];rfl,AFM,AR (x:=m+1) (by omega) (by omega)];have ih:=eW n (w:=(Dm w a 255).1) (a:=a) (m:=m+1) (f:=f) k1 ha (by omega) (by rw[k2];omega) (by omega) (by omega);have e:m+1+(P7 n (Dm w a 255).1 a).2=m+((P7 n (Dm w a 255).1 a).2+1):=by omega
   rw[←e];exact ih
  ·rw[AE4 hd,show((Uz (Dm w a 255)).1.1.2.1 !=0)=true by show((Dm w a 255).2 !=0)=true;simpa using hd,AGV]
   show _=some (rZ w (m+0))
   rw[Int.add_zero];rfl
theorem VY{w:AA}{a:Int}(Ht:UK w)(ha:Cp a)(hr:AX AZ w.AQ≤50000):
  Ky w a=some (if B4 w=true then rZ (P7 200 w a).1 (P7 200 w a).2 else rZ Ia 0):=by
 unfold Ky Mi;rw[show(w.1,w.2.1,w.2.2.1,w.2.2.2.1,w.2.2.2.2.1,w.2.2.2.2.2.1,w.2.2.2.2.2.2.1,w.2.2.2.2.2.2.2.1,w.2.2.2.2.2.2.2.2.1,w.2.2.2.2.2.2.2.2.2.1,w.2.2.2.2.2.2.2.2.2.2.1,())=w from rfl,Db Ht];simp only[AF];rcases AEw (B4 w)with hw|hw
 ·rw[hw,FW Ht]
  simp only[AE7,AFM,AF,AHL];have:=eW 200 (m:=0) (f:=Aq) (B8.1 hw) ha (by omega) (by omega) (Aw (by omega)) (by omega);rw[this,Int.zero_add]
 ·rw[hw];rfl
end Go.M
end
section
namespace Go.M
open Go.M.H (AD AG Ab AM AA Bc AH AY AL AN Ar Aa An)
def BX:Nat→Nat→List Int
 |_,0=>[]
 |k,m+1=>(k:Int)::BX (k+1) m
theorem Lt{x:Int}:∀{m k:Nat},x∈BX k m↔(k:Int)≤x∧x<(k:Int)+m
 |0,k=>by simp only[BX,AHg,false_iff];omega
 |m+1,k=>by
  simp only[BX,AGD,Lt (m:=m)];omega
theorem fo:∀{m k:Nat},Kg id (BX k m)
 |0,k=>by simp[BX,Kg]
 |m+1,k=>by
  simp only[BX,Kg,AGx];refine⟨fun y hy=> ?_,fo⟩;have:=Lt.1 hy
  show(k:Int)<y
  omega
theorem Zg:∀{m k:Nat},(BX k m).length=m
 |0,k=>rfl
 |m+1,k=>by simp only[BX,AFq,Zg]
theorem fZ:∀{m k:Nat},BX k (m+1)=BX k m++[((k+m:Nat):Int)]
 |0,k=>rfl
 |m+1,k=>by
  rw[BX,fZ (m:=m),BX,show k+1+m=k+(m+1)by omega];rfl
theorem eI{x:Int}:∀{l:AAG},(∀y∈l,y<x)→Vu x l=l++[x]
 |[],_=>rfl
 |y::l,h=>by
  have:=h y (by simp);rw[Vu,AE4 (by omega),eI fun z hz=>h z (by simp[hz])];rfl
theorem Gx{k:Nat}:Fc (k:Int) (BX 0 k)=BX 0 (k+1):=by
 have h: ¬(k:Int)∈BX 0 k:=fun hm=>by have:=Lt.1 hm;omega
 unfold Fc;rw[AE4 (by simpa using h),eI fun y hy=>by have:=Lt.1 hy;omega,fZ];simp
theorem sB{x:Int}{l:AAG}(h:x∈l):Fc x l=l:=by
 unfold Fc;rw[AEv (by simpa using h)]
theorem bg{c:BN}(hc:C4 c=true){k:Nat}(hk:k≤c.1.length):BA c (BX 0 k)=true:=
 Ct.2 ⟨hc,fun x hx=>by have:=Lt.1 hx;omega,fo⟩
def C3(c:BN)(k:Nat)(A B:AG)(er:List Bc)(ws:List AL)(ms:List Ab)(rd:List AN)(ss:List AM):AA:=
 (c.1,c.2.1,List.replicate k A++List.replicate (c.1.length-k) B,[],er,0,ws,ms,rd,ss,false,())
section
variable{c:BN} {k:Nat} {A B:AG} {er:List Bc} {ws:List AL} {ms:List Ab} {rd:List AN} {ss:List AM}
theorem On:Ag (C3 c k A B er ws ms rd ss)=c:=rfl
theorem bJ{A':AG}:C3 c c.1.length A B er ws ms rd ss=C3 c 0 A' A er ws ms rd ss:=by
 unfold C3;simp
theorem iw{A':AG}:C3 c 0 A B er ws ms rd ss=C3 c 0 A' B er ws ms rd ss:=rfl
theorem Zd(hk:k≤c.1.length):(C3 c k A B er ws ms rd ss).Al.length=c.1.length:=by
 show(List.replicate k A++List.replicate (c.1.length-k) B).length=_
 rw[AGP,AHF,AHF];omega
theorem We(hk:k≤c.1.length){n:Int}(h0:0≤n)(h1:n<c.1.length):As (C3 c k A B er ws ms rd ss) n=0:=by
 unfold As;rw[Zd hk,Ak.2 ⟨h0,by omega⟩];rfl
theorem fh(hk:k<c.1.length):storeAt (C3 c k A B er ws ms rd ss) (k:Int)=B:=by
 unfold storeAt
 show(List.replicate k A++List.replicate (c.1.length-k) B).getD ((k:Int)).toNat AO=_
 rw[AFL,List.getD,AF_ (by simp),AHF,AIQ,AIk,AEv (by omega)];rfl
theorem tM(hk:k≤c.1.length){n:Int}(h0:0≤n)(h1:n<c.1.length):storeAt (C3 c k A A er ws ms rd ss) n=A:=by
 unfold storeAt
 show(List.replicate k A++List.replicate (c.1.length-k) A).getD n.toNat AO=_
 rw[List.replicate_append_replicate,List.getD,AIk,AEv (by omega)];rfl
theorem lq(hk:k<c.1.length){X:AG}:(C3 c k A B er ws ms rd ss).Al.set ((k:Int)).toNat X=List.replicate k A++X::List.replicate (c.1.length-(k+1)) B:=by
 show(List.replicate k A++List.replicate (c.1.length-k) B).set ((k:Int)).toNat X=_
 rw[AFL,List.set_append,AE4 (by simp),AHF,AIQ,show c.1.length-k=(c.1.length-(k+1))+1 by omega,AIB];rfl
theorem gf(hk:k<c.1.length){er':List Bc}{tg:List AL}{tp:List Ab}{rd':List AN}{ss':List AM}:
  (c.1,c.2.1,List.replicate k A++A::List.replicate (c.1.length-(k+1)) B,[],er',0,tg,tp,rd',ss',false,())=C3 c (k+1) A B er' tg tp rd' ss':=by
 unfold C3;rw[List.replicate_succ',AGl];rfl
def Xe(c:BN)(k:Nat)(A X B:AG)(er:List Bc)(ws:List AL)(ms:List Ab)(rd:List AN)(ss:List AM):AA:=
 (c.1,c.2.1,List.replicate k A++X::List.replicate (c.1.length-(k+1)) B,[],er,0,ws,ms,rd,ss,false,())
theorem i6{X:AG}(hk:k<c.1.length):(Xe c k A X B er ws ms rd ss).Al.length=c.1.length:=by
 show(List.replicate k A++X::List.replicate (c.1.length-(k+1)) B).length=_
 rw[AGP,AHF,AFq,AHF];omega
theorem mj{X:AG}(hk:k<c.1.length):As (Xe c k A X B er ws ms rd ss) (k:Int)=0:=by
 unfold As;rw[i6 hk,Ak.2 ⟨by omega,by omega⟩];rfl
theorem l7{X:AG}:storeAt (Xe c k A X B er ws ms rd ss) (k:Int)=X:=by
 unfold storeAt
 show(List.replicate k A++X::List.replicate (c.1.length-(k+1)) B).getD ((k:Int)).toNat AO=_
 rw[AFL,List.getD,AF_ (by simp),AHF,AIQ];rfl
theorem rL{X Y:AG}:(Xe c k A X B er ws ms rd ss).Al.set ((k:Int)).toNat Y=List.replicate k A++Y::List.replicate (c.1.length-(k+1)) B:=by
 show(List.replicate k A++X::List.replicate (c.1.length-(k+1)) B).set ((k:Int)).toNat Y=_
 rw[AFL,List.set_append,AE4 (by simp),AHF,AIQ];rfl
end
theorem go{all:Bool}{w v:AA}{d:An}(h:EF w)(hd:J2 d=true)(e:IU all w d=(v,0)):BS all w d=(v,0)∧EF v:=by
 have h1:BS all w d=(v,0):=by rw[Ox h hd,e]
 refine⟨h1,?_⟩;have:=VM (all:=all) (w:=w) (d:=d) (by rw[h1]);rw[h1]at this;exact B8.1 this
section
variable{all:Bool} {w:AA} {a b n:Int}
theorem mr:IU all w (1,a,0,0,[],())=PW w a:=rfl
theorem jq:IU all w (3,a,b,n,[],())=HH w a b n:=rfl
theorem dj:IU all w (4,a,0,0,[],())=KW all w a:=rfl
theorem nN:IU all w (9,a,0,0,[],())=Pf w a:=rfl
theorem mn:IU all w (10,0,0,0,[],())=NF w:=rfl
theorem rU:IU all w (11,0,b,n,[],())=Ts w b n:=rfl
theorem kh:IU all w (12,0,0,0,[],())=MC w:=rfl
end
theorem gu{c:BN}{k:Nat}{A:AG}{Es:List AD}{sl:Int}{er:List Bc}{ws:List AL}{ms:List Ab}{rd:List AN}{ss:List AM}{e:AD}
  (h:EF (C3 c k A (Es,[],sl,()) er ws ms rd ss)) (hk:k<c.1.length) (he:C8 e=true) (ht:takes (Es,[],sl,()) e=true):
  putAt (C3 c k A (Es,[],sl,()) er ws ms rd ss) (k:Int) (G8 (storeAt (C3 c k A (Es,[],sl,()) er ws ms rd ss) (k:Int)) e)=(Xe c k A (Es,[e],sl,()) (Es,[],sl,()) er ws ms rd ss,0):=by
 have hs:CO (Es,[],sl,())=true:=by
  have:=(h.Al k (by rw[Zd (by omega)];exact hk)).1;rw[show(C3 c k A (Es,[],sl,()) er ws ms rd ss).Al.getD k AO=storeAt (C3 c k A (Es,[],sl,()) er ws ms rd ss) (k:Int)from rfl,fh hk]at this;exact B5.2 this
 rw[fh hk];unfold G8 putAt;rw[hs,he,ht];simp only[AE7,AE6,AGn,AGJ,AG6,AHS];rw[lq hk];rfl
theorem dd{c:BN}{k:Nat}{B:AG}{Es RN:List AD}{sl:Int}{er:List Bc}{ws:List AL}{ms:List Ab}{rd:List AN}{ss:List AM}{e:AD}
  (h:EF (Xe c k (RN,[],sl,()) (Es,[e],sl,()) B er ws ms rd ss)) (hk:k<c.1.length) (hE:keep e Es=RN) (hl:RN.length≤200):
  KW false (Xe c k (RN,[],sl,()) (Es,[e],sl,()) B er ws ms rd ss) (k:Int)=
   (C3 c (k+1) (RN,[],sl,()) B er (E_ false c (RN,[],sl,()) er (k:Int) ws ss).1 (ms.map (Nk (RN,[],sl,()) er (k:Int))) rd (E_ false c (RN,[],sl,()) er (k:Int) ws ss).2,0):=by
 have hs:CO (Es,[e],sl,())=true:=by
  have:=(h.Al k (by rw[i6 hk];exact hk)).1;rw[show(Xe c k (RN,[],sl,()) (Es,[e],sl,()) B er ws ms rd ss).Al.getD k AO=storeAt (Xe c k (RN,[],sl,()) (Es,[e],sl,()) B er ws ms rd ss) (k:Int)from rfl,l7]at this;exact B5.2 this
 have hq:CS (Es,[e],sl,())=((RN,[],sl,()),true):=by
  unfold CS ED;rw[hs];simp only[AE7,AE6,AGn];rw[show HX 1048575 0 [e]=[e]from rfl,show Dr Es [e]=RN from hE,show BC 1048575 0 1048575=true from rfl,AHJ hl];rfl
 unfold KW;rw[mj hk,l7,hq];simp only[ne_eq,AIs,AGn,AE7,AE6];rw[rL];rw[←gf hk];rfl
end Go.M
end
section
namespace Go.M
open Go.M.H (AD AG Ab AM AA Bc AH AY AL AN Ar Aa An)
def QR(c:BN)(k:Int)(x:AY):AY:=if x.2.2.1=true then x else D7 c k x
def QW(c:BN)(k:Nat)(d:List UInt8)(x:AY):Prop:=x.1=d∧(x.2.2.1=true∨(x.2.1=BX 0 k∧(k=0∨x.2.2.1=holds c (BX 0 k))))
theorem sL{c:BN}{k:Nat}{d:List UInt8}{x:AY}(h:QW c k d x):QW c (k+1) d (QR c (k:Int) x):=by
 unfold QR;by_cases hx:x.2.2.1=true
 ·rw[AEv hx]
  exact⟨h.1,.inl hx⟩
 ·rw[AE4 hx]
  have h2:=h.2.resolve_left hx;unfold D7;rw[h2.1,Gx];exact⟨h.1,.inr ⟨rfl,.inr rfl⟩⟩
theorem T_{c:BN}{s:AG}{ep n:Int}:∀{wl:List AY} {x:AY} {o:Int},(∀y∈wl,y.2.2.1=true)→Gj s (D3 ep (o+wl.length))=true→BD c s ep n o (wl++[x])=wl++[QR c n x]
 |[],x,o,_,h=>by
  rw[AG6]at h;simp only[AHS,BD];rw[show o=o+((0:Nat):Int)by omega,h];unfold QR;cases x.2.2.1<;>rfl
 |y::wl,x,o,hw,h=>by
  simp only[AHZ,BD];rw[hw y (by simp),T_ (fun z hz=>hw z (by simp[hz])) (by rw[AFq]at h;rw[show o+1+(wl.length:Int)=o+((wl.length+1:Nat):Int)by omega];exact h)];rfl
theorem Yc{wl:List AY}{x:AY}:IF (wl++[x]) ((wl.length:Int)+1)=x.2.2.1:=by
 unfold IF;rw[Ak.2 ⟨by omega,by simp⟩,show((wl.length:Int)+1-1).toNat=wl.length by omega];simp[List.getD]
theorem bL{all:Bool}{ep:Int}{np new:List AY}:∀{ss:List AM},(∀s∈ss,s.2.2.1=true)→ss.map (TV all ep np new)=ss
 |[],_=>rfl
 |s::ss,h=>by
  rw[AHb,bL fun z hz=>h z (by simp[hz])];unfold TV;rw[h s (by simp),Bool.true_or,←h s (by simp)]
section
variable{c:BN} (hc:C4 c=true) {sl:Int} {Es RN:List AD} {rd:List AN} {wl:List AY} {ss:List AM} {d:List UInt8} {o p:Int}
 (ho:o=(wl.length:Int)+1) (hp:p=D3 1 o) (sv:o≤60) (vU:∀y∈wl,y.2.2.1=true) (hss:∀s∈ss,s.2.2.1=true)
 (he:C8 (p,0,false,d,())=true) (hE:keep (p,0,false,d,()) Es=RN) (hl:RN.length≤200) (cS:Gj (RN,[],0,()) p=true)
include hc ho hp sv vU hss he hE hl cS
theorem px{k:Nat}(hk:k<c.1.length){x:AY}(hx:x.1=d)
  (h:EF (C3 c k (RN,[],0,()) (Es,[],0,()) [(BX 0 c.1.length,false,0,())] [(1,wl++[x],())] [] rd (ss++[(p,d,x.2.2.1,())]))):
  hDo false (C3 c k (RN,[],0,()) (Es,[],0,()) [(BX 0 c.1.length,false,0,())] [(1,wl++[x],())] [] rd (ss++[(p,d,x.2.2.1,())])) 0 o k=
   C3 c (k+1) (RN,[],0,()) (Es,[],0,()) [(BX 0 c.1.length,false,0,())] [(1,wl++[QR c k x],())] [] rd (ss++[(p,d,(QR c k x).2.2.1,())])∧
  EF (C3 c (k+1) (RN,[],0,()) (Es,[],0,()) [(BX 0 c.1.length,false,0,())] [(1,wl++[QR c k x],())] [] rd (ss++[(p,d,(QR c k x).2.2.1,())])):=by
 have tF:(k:Int)∈BX 0 c.1.length:=Lt.2 (by omega);have sE:BB [(BX 0 c.1.length,false,0,())] 1=BX 0 c.1.length:=rfl;have pY:(BX 0 c.1.length).contains (k:Int)=true:=by simpa using tF
 have AKh:=(E7.1 he).pl;have sD:Ah p=1∧CM p=o:=by
  have:=KI (e:=1) (o:=o) (by omega) (by omega);rw[←hp]at this;exact⟨this.2.1,this.2.2⟩
 have s1:IU false (C3 c k (RN,[],0,()) (Es,[],0,()) [(BX 0 c.1.length,false,0,())] [(1,wl++[x],())] [] rd (ss++[(p,d,x.2.2.1,())])) (3,0,o,(k:Int),[],())=
   (Xe c k (RN,[],0,()) (Es,[(p,0,false,d,())],0,()) (Es,[],0,()) [(BX 0 c.1.length,false,0,())] [(1,wl++[x],())] [] rd (ss++[(p,d,x.2.2.1,())]),0):=by
  have zA:=gu h hk he (by show decide (Ah p>0)=true;rw[sD.1];rfl);rw[jq];unfold HH;rw[show BC 0 0 (((C3 c k (RN,[],0,()) (Es,[],0,()) [(BX 0 c.1.length,false,0,())] [(1,wl++[x],())] [] rd (ss++[(p,d,x.2.2.1,())])).AE.length:Int)-1)=true from rfl];simp only[AE7,AE6,AGn];rw[show(C3 c k (RN,[],0,()) (Es,[],0,()) [(BX 0 c.1.length,false,0,())] [(1,wl++[x],())] [] rd (ss++[(p,d,x.2.2.1,())])).AE.getD (0:Int).toNat Af=(1,wl++[x],())from rfl];rw[Ak.2 ⟨by omega,by simp;omega⟩,We (by omega) (by omega) (by omega)];simp only[AE7,AE6,AGn,ne_eq,AIs];rw[show BB (C3 c k (RN,[],0,()) (Es,[],0,()) [(BX 0 c.1.length,false,0,())] [(1,wl++[x],())] [] rd (ss++[(p,d,x.2.2.1,())])).Ay 1=BX 0 c.1.length from rfl,pY];simp only[AE7,AE6,AGn];rw[show(wl++[x]).getD (o-1).toNat Mt=x by rw[show(o-1).toNat=wl.length by omega];simp[List.getD],hx,←hp];exact zA
 obtain⟨g1,h1⟩:=go h (by rfl) s1;have s2:=dd (e:=(p,0,false,d,())) h1 hk hE hl;have oV:E_ false c (RN,[],0,()) [(BX 0 c.1.length,false,0,())] (k:Int) [(1,wl++[x],())] (ss++[(p,d,x.2.2.1,())])=([(1,wl++[QR c k x],())],ss++[(p,d,(QR c k x).2.2.1,())]):=by
  have ht:Fi (RN,[],0,()) [(BX 0 c.1.length,false,0,())] (k:Int) (1,wl++[x],())=true:=by
   unfold Fi;rw[sE,pY];rfl
  have zF:BD c (RN,[],0,()) 1 (k:Int) 1 (wl++[x])=wl++[QR c k x]:=
   T_ vU (by rw[show(1:Int)+wl.length=o by omega,←hp];exact cS)
  simp only[E_];rw[AEv ht,zF,List.map_append,bL hss];simp only[AHb,AIA];rw[show TV false 1 (wl++[x]) (wl++[QR c k x]) (p,d,x.2.2.1,())=(p,d,(QR c k x).2.2.1,())by
   unfold TV;rw[sD.1,sD.2,ho,Yc,Yc];unfold QR;cases hd:x.2.2.1 with
   |true=>simp[hd]
   |false=>simp]
 rw[oV,AIA]at s2;have s2':IU false (Xe c k (RN,[],0,()) (Es,[(p,0,false,d,())],0,()) (Es,[],0,()) [(BX 0 c.1.length,false,0,())] [(1,wl++[x],())] [] rd (ss++[(p,d,x.2.2.1,())])) (4,(k:Int),0,0,[],())=_:=dj.trans s2;obtain⟨g2,h2⟩:=go h1 (by rfl) s2';refine⟨?_,h2⟩;unfold hDo TC;rw[g1];simp only[AHL];rw[g2];simp only[AHL]
theorem d_:∀(m k:Nat) {x:AY},k+m=c.1.length→QW c k d x→
  EF (C3 c k (RN,[],0,()) (Es,[],0,()) [(BX 0 c.1.length,false,0,())] [(1,wl++[x],())] [] rd (ss++[(p,d,x.2.2.1,())]))→
  ∃y,QW c c.1.length d y∧(runM false (C3 c k (RN,[],0,()) (Es,[],0,()) [(BX 0 c.1.length,false,0,())] [(1,wl++[x],())] [] rd (ss++[(p,d,x.2.2.1,())])) (Vz 0 o (BX k m))).1=
   C3 c c.1.length (RN,[],0,()) (Es,[],0,()) [(BX 0 c.1.length,false,0,())] [(1,wl++[y],())] [] rd (ss++[(p,d,y.2.2.1,())])∧
   EF (C3 c c.1.length (RN,[],0,()) (Es,[],0,()) [(BX 0 c.1.length,false,0,())] [(1,wl++[y],())] [] rd (ss++[(p,d,y.2.2.1,())]))
 |0,k,x,hk,hq,h=>by
  have:k=c.1.length:=by omega
  subst this;exact⟨x,hq,rfl,h⟩
 |m+1,k,x,hk,hq,h=>by
  obtain⟨e1,h1⟩:=px hc ho hp sv vU hss he hE hl cS (by omega) hq.1 h;obtain⟨y,y1,y2,y3⟩:=d_ m (k+1) (by omega) (sL hq) h1;refine⟨y,y1,?_,y3⟩;rw[BX,Yh,e1];exact y2
end
theorem eJ{s:AM}:∀{ss:List AM},(∀t∈ss,t.1<s.1)→Rj s ss=ss++[s]
 |[],_=>rfl
 |t::ss,h=>by
  have:=h t (by simp);rw[Rj,AE4 (by omega),eJ fun z hz=>h z (by simp[hz])];rfl
theorem Yb{s:AM}:∀{ss:List AM},(∀t∈ss,t.1<s.1)→Gl (ss++[s]) s.1=some s
 |[],_=>by unfold Gl;simp
 |t::ss,h=>by
  have h1:=h t (by simp);have ih:=Yb (ss:=ss) fun z hz=>h z (by simp[hz])
  unfold Gl at ih⊢;rw[AHZ,List.find?_cons_of_neg (by simp;omega)];exact ih
theorem nB{c:BN}(Ft:holds c (BX 0 c.1.length)=true){Es RN:List AD}{rd:List AN}{wl:List AY}{ss:List AM}{d:List UInt8}{o p:Int}
  (ho:o=(wl.length:Int)+1) (hp:p=D3 1 o) (sv:o≤60) (vU:∀y∈wl,y.2.2.1=true) (hss:∀s∈ss,s.2.2.1=true) (AAW:d.length≤40)
  (he:C8 (p,0,false,d,())=true) (hE:keep (p,0,false,d,()) Es=RN) (hl:RN.length≤200) (cS:Gj (RN,[],0,()) p=true)
  (IV:∀t∈ss,t.1<p) (hn:ss.length<120)
  (h:EF (C3 c 0 AO (Es,[],0,()) [(BX 0 c.1.length,false,0,())] [(1,wl,())] [] rd ss)):
  ∃y:AY,y.2.2.1=true∧hAdd false (C3 c 0 AO (Es,[],0,()) [(BX 0 c.1.length,false,0,())] [(1,wl,())] [] rd ss) 0 d=
   (C3 c 0 AO (RN,[],0,()) [(BX 0 c.1.length,false,0,())] [(1,wl++[y],())] [] rd (ss++[(p,d,true,())]),true)∧
   EF (C3 c 0 AO (RN,[],0,()) [(BX 0 c.1.length,false,0,())] [(1,wl++[y],())] [] rd (ss++[(p,d,true,())])):=by
 have hc:C4 c=true:=h.cfg;have hK:=(EG hc).1;have hw1:TU c (1,wl,()):=(h.AE (1,wl,()) (by show _∈[_];simp)).1;have ACy:∀l:List AY,(∀y∈l,y.2.2.1=true)→MS (l++[(d,[],false,())])=1:=fun l=>by
  induction l with
  |nil=>intro _;rfl
  |cons y l ih=>
   intro hy;rw[AHZ];have:=ih fun z hz=>hy z (by simp[hz])
   simp only[MS,hy y (by simp)]
   first
    |exact this
    |(simp;omega)
 have hwr:TU c (1,wl++[(d,[],false,())],()):=⟨hc,hw1.ep,by simp;omega,fun x hx=>by
  rcases AGf.1 hx with hx|hx
  ·exact hw1.words x hx
  ·simp only[AGD,AHg,AI4]at hx
   subst hx;exact⟨AAW,Ct.2 ⟨hc,fun x hx=>by simp at hx,by simp[Kg]⟩,holds_nil.symm⟩,by rw[ACy wl vU];omega⟩
 have qz:doAdd (C3 c 0 AO (Es,[],0,()) [(BX 0 c.1.length,false,0,())] [(1,wl,())] [] rd ss) 0 d=
   (C3 c 0 AO (Es,[],0,()) [(BX 0 c.1.length,false,0,())] [(1,wl++[(d,[],false,())],())] [] rd (ss++[(p,d,false,())]),0):=by
  unfold doAdd;rw[show BC 0 0 (((C3 c 0 AO (Es,[],0,()) [(BX 0 c.1.length,false,0,())] [(1,wl,())] [] rd ss).AE.length:Int)-1)=true from rfl];simp only[AE7,AE6,AGn];rw[show(C3 c 0 AO (Es,[],0,()) [(BX 0 c.1.length,false,0,())] [(1,wl,())] [] rd ss).AE.getD (0:Int).toNat Af=(1,wl,())from rfl];rw[show Bk (Ag (C3 c 0 AO (Es,[],0,()) [(BX 0 c.1.length,false,0,())] [(1,wl,())] [] rd ss)) (1,wl,()) d=((1,wl++[(d,[],false,())],()),(wl.length:Int)+1,true)by
   unfold Bk;rw[On,Fj.2 hw1,Fj.2 hwr];rfl]
  have xp:(ss.any fun s=>s.1==p)=false:=by
   rw[AIY];intro s hs;have:=IV s hs;simp only[AHo];omega
  rw[←ho,←hp,show(C3 c 0 AO (Es,[],0,()) [(BX 0 c.1.length,false,0,())] [(1,wl,())] [] rd ss).A3=ss from rfl,xp,AHI (by omega)];simp only[AE7,AIy,AE6,AGn];rw[eJ (s:=(p,d,false,())) IV];rfl
 have AFQ:EF (C3 c 0 AO (Es,[],0,()) [(BX 0 c.1.length,false,0,())] [(1,wl++[(d,[],false,())],())] [] rd (ss++[(p,d,false,())])):=by
  have:=kl h (a:=0) AAW (by rw[qz]);rw[qz]at this;exact this
 obtain⟨y,y1,y2,y3⟩:=d_ (rd:=rd) hc ho hp sv vU hss he hE hl cS c.1.length 0 (x:=(d,[],false,())) (by omega) ⟨rfl,.inr ⟨rfl,.inl rfl⟩⟩ AFQ;have hy:y.2.2.1=true:=by
  rcases y1.2 with h1|⟨_,h2|h2⟩
  ·exact h1
  ·omega
  ·rw[h2,Ft]
 rw[hy,bJ (A':=AO)]at y2 y3;refine⟨y,hy,?_,y3⟩;have hg:hGo false (doAdd (C3 c 0 AO (Es,[],0,()) [(BX 0 c.1.length,false,0,())] [(1,wl,())] [] rd ss) 0 d).1 0=C3 c 0 AO (RN,[],0,()) [(BX 0 c.1.length,false,0,())] [(1,wl++[y],())] [] rd (ss++[(p,d,true,())]):=by
  rw[qz];unfold hGo;rw[show(C3 c 0 AO (Es,[],0,()) [(BX 0 c.1.length,false,0,())] [(1,wl++[(d,[],false,())],())] [] rd (ss++[(p,d,false,())])).AE.getD (0:Int).toNat Af=(1,wl++[(d,[],false,())],())from rfl];rw[show less (BB (C3 c 0 AO (Es,[],0,()) [(BX 0 c.1.length,false,0,())] [(1,wl++[(d,[],false,())],())] [] rd (ss++[(p,d,false,())])).Ay 1) (C3 c 0 AO (Es,[],0,()) [(BX 0 c.1.length,false,0,())] [(1,wl++[(d,[],false,())],())] [] rd (ss++[(p,d,false,())])).lost=BX 0 c.1.length from bF];rw[show(((wl++[((d,[],false,()):AY)]).length:Nat):Int)=o by rw[AGP,AFq,AG6];omega];exact y2
 have jW:X8 (doAdd (C3 c 0 AO (Es,[],0,()) [(BX 0 c.1.length,false,0,())] [(1,wl,())] [] rd ss) 0 d).1 0=p:=by
  rw[qz];unfold X8;rw[show(C3 c 0 AO (Es,[],0,()) [(BX 0 c.1.length,false,0,())] [(1,wl++[(d,[],false,())],())] [] rd (ss++[(p,d,false,())])).AE.getD (0:Int).toNat Af=(1,wl++[(d,[],false,())],())from rfl];rw[show(((wl++[((d,[],false,()):AY)]).length:Nat):Int)=o by rw[AGP,AFq,AG6];omega];exact hp.symm
 unfold hAdd;rw[hg,jW,AEv (by rw[qz])];rw[AEv];unfold UN;rw[show(C3 c 0 AO (RN,[],0,()) [(BX 0 c.1.length,false,0,())] [(1,wl++[y],())] [] rd (ss++[(p,d,true,())])).A3=ss++[(p,d,true,())]from rfl,Yb (s:=(p,d,true,())) IV]
end Go.M
end
section
namespace Go.M
open Go.M.H (AD AG Ab AM AA Bc AH AY AL AN Ar Aa An)
theorem UT{all:Bool}{w v:AA}{d:An}{l:List An}(h:BS all w d=(v,0)):allM all w (d::l)=allM all v l:=by
 simp only[allM];rw[h];rfl
theorem dv{c:BN}{A:AG}{er:List Bc}{ws:List AL}{rd:List AN}{ss:List AM}{mask:Int}
  (h:EF (C3 c 0 AO A er ws [] rd ss)) (hm:DQ mask=BX 0 c.1.length) (Ft:holds c (BX 0 c.1.length)=true) (hw:ws.length≤3) (he:er.length≤20):
  BS false (C3 c 0 AO A er ws [] rd ss) (1,mask,0,0,[],())=(C3 c 0 AO A (er++[(BX 0 c.1.length,false,0,())]) (ws++[((er.length:Int)+1,[],())]) [] rd ss,0)∧
  EF (C3 c 0 AO A (er++[(BX 0 c.1.length,false,0,())]) (ws++[((er.length:Int)+1,[],())]) [] rd ss):=by
 refine go h rfl ?_
 rw[mr];unfold PW;rw[AE4 (show¬(C3 c 0 AO A er ws [] rd ss).AE.length=4 from by show¬ws.length=4;omega),hm];have hr:JX (Ag (C3 c 0 AO A er ws [] rd ss)) (C2 (C3 c 0 AO A er ws [] rd ss)) (BX 0 c.1.length)=((er++[(BX 0 c.1.length,false,0,())],0,()),(er.length:Int)+1,true):=by
  unfold JX;rw[FX.2 h.WW,On,Ft];rw[show(C2 (C3 c 0 AO A er ws [] rd ss)).1=er from rfl];rw[AHJ (show er.length≠30 by omega)];rfl
 rw[hr];rfl
structure EsH (Es:List AD) (n:Nat):Prop where
 fl:(Es.filter fun e=>Ah e.1==1)=Es
 k0:Dr [] Es=Es
 k1:Dr Es Es=Es
 ok:∀e∈Es,C8 e=true∧Ah e.1=1∧e.2.1<2
 cJ:Kg (fun e:AD=>e.1) Es
 lb:Ru Es=n
 len:Es.length≤200
def Lq(Es:List AD)(k:Nat):List AD:=if k=0 then[]else Es
section
variable{c:BN} (Ft:holds c (BX 0 c.1.length)=true) {Es:List AD} {n:Nat} (hE:EsH Es n) {wl:List AY} {rd:List AN} {ss:List AM} {B:AG}
include Ft hE
def Lj(c:BN):List Bc:=[(BX 0 c.1.length,false,0,()),(BX 0 c.1.length,false,0,())]
theorem mF{k:Nat}(hk:k<c.1.length)(h:EF (C3 c k (Es,[],1,()) (Es,[],0,()) (Lj c) [(1,wl,()),(2,[],())] [(2,1,BX 0 k,Lq Es k,false,[],())] rd ss)):
  BS false (C3 c k (Es,[],1,()) (Es,[],0,()) (Lj c) [(1,wl,()),(2,[],())] [(2,1,BX 0 k,Lq Es k,false,[],())] rd ss) (9,(k:Int),0,0,[],())=
   (C3 c (k+1) (Es,[],1,()) (Es,[],0,()) (Lj c) [(1,wl,()),(2,[],())] [(2,1,BX 0 (k+1),Lq Es (k+1),false,[],())] rd ss,0)∧
  EF (C3 c (k+1) (Es,[],1,()) (Es,[],0,()) (Lj c) [(1,wl,()),(2,[],())] [(2,1,BX 0 (k+1),Lq Es (k+1),false,[],())] rd ss):=by
 have hc:C4 c=true:=h.cfg;have tF:(BX 0 c.1.length).contains (k:Int)=true:=by simpa using Lt.2 (show((0:Nat):Int)≤(k:Int)∧(k:Int)<((0:Nat):Int)+(c.1.length:Nat)by omega)
 have hs:CO (Es,[],0,())=true:=by
  have:=(h.Al k (by rw[Zd (by omega)];exact hk)).1;rw[show(C3 c k (Es,[],1,()) (Es,[],0,()) (Lj c) [(1,wl,()),(2,[],())] [(2,1,BX 0 k,Lq Es k,false,[],())] rd ss).Al.getD k AO=storeAt (C3 c k (Es,[],1,()) (Es,[],0,()) (Lj c) [(1,wl,()),(2,[],())] [(2,1,BX 0 k,Lq Es k,false,[],())] rd ss) (k:Int)from rfl,fh hk]at this;exact B5.2 this
 have mV:CO (Es,[],1,())=true:=by
  have:=B5.1 hs;exact B5.2 ⟨this.nk,this.kept,this.nl,this.late,this.cJ,by show(0:Int)≤1∧(1:Int)≤30;omega⟩
 have hsy:CS (Es,[],0,())=((Es,[],0,()),true):=by
  unfold CS ED;rw[hs];simp only[AE7,AE6,AGn];rw[show HX 1048575 0 ([]:List AD)=[]from rfl,show Dr Es []=Es from rfl,show BC 1048575 0 1048575=true from rfl,AHJ hE.len];rfl
 have cG:CT (Es,[],0,()) (2-1)=((Es,[],1,()),true):=by
  unfold CT;rw[hs,hsy];rfl
 have cN:Ko (Es,[],1,()) 1=Es:=by
  unfold Ko;rw[AEv mV];exact hE.fl
 have hka:Dr (Lq Es k) Es=Es:=by
  unfold Lq;split
  ·exact hE.k0
  ·exact hE.k1
 have ub:GX c (2,1,BX 0 k,Lq Es k,false,[],())=true:=Ea.2 (h.A8 _ (by show _∈[_];simp)).1;have hmn:GX c (2,1,BX 0 (k+1),Es,false,[],())=true:=
  Ea.2 ⟨hc,by show(1:Int)≤1∧(1:Int)≤30;omega,by show(1:Int)+1≤2∧(2:Int)≤30;omega,bg hc (by omega),hE.cJ,hE.ok,fun l hl=>by simp at hl,rfl⟩
 have sk:Kq c (2,1,BX 0 k,Lq Es k,false,[],()) (k:Int) Es=((2,1,BX 0 (k+1),Es,false,[],()),true):=by
  unfold Kq;rw[ub];simp only[AE7,AE6,AGn];rw[hE.fl,hka,Gx,hmn];rfl
 refine go h rfl ?_
 rw[nN];unfold Pf;rw[show(C3 c k (Es,[],1,()) (Es,[],0,()) (Lj c) [(1,wl,()),(2,[],())] [(2,1,BX 0 k,Lq Es k,false,[],())] rd ss).A8=[(2,1,BX 0 k,Lq Es k,false,[],())]from rfl];simp only;rw[We (by omega) (by omega) (by omega),fh hk,cG,cN,On,sk];rw[show BB (C3 c k (Es,[],1,()) (Es,[],0,()) (Lj c) [(1,wl,()),(2,[],())] [(2,1,BX 0 k,Lq Es k,false,[],())] rd ss).Ay 1=BX 0 c.1.length from rfl,tF];simp only[ne_eq,AIs,AGn,AE7,AE6,Bool.or_self];rw[lq hk,show Lq Es (k+1)=Es from rfl,←gf hk];rfl
theorem iv:∀(m k:Nat) {rest:List An},k+m=c.1.length→
  EF (C3 c k (Es,[],1,()) (Es,[],0,()) (Lj c) [(1,wl,()),(2,[],())] [(2,1,BX 0 k,Lq Es k,false,[],())] rd ss)→
  allM false (C3 c k (Es,[],1,()) (Es,[],0,()) (Lj c) [(1,wl,()),(2,[],())] [(2,1,BX 0 k,Lq Es k,false,[],())] rd ss) ((BX k m).map (fun n=>(9,n,0,0,[],()))++rest)=
   allM false (C3 c c.1.length (Es,[],1,()) (Es,[],0,()) (Lj c) [(1,wl,()),(2,[],())] [(2,1,BX 0 c.1.length,Lq Es c.1.length,false,[],())] rd ss) rest∧
  EF (C3 c c.1.length (Es,[],1,()) (Es,[],0,()) (Lj c) [(1,wl,()),(2,[],())] [(2,1,BX 0 c.1.length,Lq Es c.1.length,false,[],())] rd ss)
 |0,k,rest,hk,h=>by
  have:k=c.1.length:=by omega
  subst this;exact⟨rfl,h⟩
 |m+1,k,rest,hk,h=>by
  obtain⟨e1,h1⟩:=mF Ft hE (by omega) h;obtain⟨e2,h2⟩:=iv m (k+1) (rest:=rest) (by omega) h1;refine⟨?_,h2⟩;rw[BX,AHb,AHZ,UT e1];exact e2
omit hE in
theorem bh(hc:C4 c=true):OM c (BX 0 c.1.length) (BX 0 c.1.length)=true:=by
 unfold OM;have h1:less (BX 0 c.1.length) (BX 0 c.1.length)=[]:=by
  unfold less;rw[List.filter_eq_nil_iff];intro x hx;simpa using hx
 rw[Ft,h1,holds_nil,bg hc (by omega),AHR.2 fun x hx=>by simpa using hx];rfl
theorem mi(h:EF (C3 c 0 AO (Es,[],1,()) (Lj c) [(1,wl,()),(2,[],())] [(2,1,BX 0 c.1.length,Es,false,[],())] rd ss)):
  BS false (C3 c 0 AO (Es,[],1,()) (Lj c) [(1,wl,()),(2,[],())] [(2,1,BX 0 c.1.length,Es,false,[],())] rd ss) (10,0,0,0,[],())=
   (C3 c 0 AO (Es,[],1,()) (Lj c) [(1,wl,()),(2,[],())] [(2,1,BX 0 c.1.length,Es,true,List.replicate n [],())] rd ss,0)∧
  EF (C3 c 0 AO (Es,[],1,()) (Lj c) [(1,wl,()),(2,[],())] [(2,1,BX 0 c.1.length,Es,true,List.replicate n [],())] rd ss):=by
 have hc:C4 c=true:=h.cfg;have ub:GX c (2,1,BX 0 c.1.length,Es,false,[],())=true:=Ea.2 (h.A8 _ (by show _∈[_];simp)).1;refine go h rfl ?_
 rw[mn];unfold NF;rw[show(C3 c 0 AO (Es,[],1,()) (Lj c) [(1,wl,()),(2,[],())] [(2,1,BX 0 c.1.length,Es,false,[],())] rd ss).A8=[(2,1,BX 0 c.1.length,Es,false,[],())]from rfl];simp only;rw[On,show BB (C3 c 0 AO (Es,[],1,()) (Lj c) [(1,wl,()),(2,[],())] [(2,1,BX 0 c.1.length,Es,false,[],())] rd ss).Ay 1=BX 0 c.1.length from rfl];have hmp:Iv c (2,1,BX 0 c.1.length,Es,false,[],()) (BX 0 c.1.length)=((2,1,BX 0 c.1.length,Es,true,List.replicate n [],()),true):=by
  unfold Iv;rw[ub];simp only[AE7,AE6,AGn];rw[show(BX 0 c.1.length).filter (BX 0 c.1.length).contains=BX 0 c.1.length from AI3.2 fun x hx=>by simpa using hx,bh Ft hc,hE.lb];simp
 rw[hmp];rfl
end
section
variable{c:BN} {Es:List AD} {wl:List AY} {rd:List AN} {ss:List AM} {E E':List AD} {e:AD} {o:Int} {Wf:Nat→List AAG}
 (sk:∀k,FV (2,1,BX 0 c.1.length,Es,true,Wf k,()) o=some e) (heo:C8 e=true) (he2:e.2.1=2) (hEE:keep e E=E') (hl:E'.length≤200)
 (sH:∀k,k<c.1.length→FI (2,1,BX 0 c.1.length,Es,true,Wf k,()) (E',[],1,()) (k:Int) 1 (Wf k)=Wf (k+1))
include sk heo he2 hEE hl sH
theorem oF{k:Nat}(hk:k<c.1.length){rest:List An}(h:EF (C3 c k (E',[],1,()) (E,[],1,()) (Lj c) [(1,wl,()),(2,[],())] [(2,1,BX 0 c.1.length,Es,true,Wf k,())] rd ss)):
  allM false (C3 c k (E',[],1,()) (E,[],1,()) (Lj c) [(1,wl,()),(2,[],())] [(2,1,BX 0 c.1.length,Es,true,Wf k,())] rd ss) ((11,0,o,(k:Int),[],())::(4,(k:Int),0,0,[],())::rest)=
   allM false (C3 c (k+1) (E',[],1,()) (E,[],1,()) (Lj c) [(1,wl,()),(2,[],())] [(2,1,BX 0 c.1.length,Es,true,Wf (k+1),())] rd ss) rest∧
  EF (C3 c (k+1) (E',[],1,()) (E,[],1,()) (Lj c) [(1,wl,()),(2,[],())] [(2,1,BX 0 c.1.length,Es,true,Wf (k+1),())] rd ss):=by
 have tF:(BX 0 c.1.length).contains (k:Int)=true:=by simpa using Lt.2 (show((0:Nat):Int)≤(k:Int)∧(k:Int)<((0:Nat):Int)+(c.1.length:Nat)by omega)
 have s1:IU false (C3 c k (E',[],1,()) (E,[],1,()) (Lj c) [(1,wl,()),(2,[],())] [(2,1,BX 0 c.1.length,Es,true,Wf k,())] rd ss) (11,0,o,(k:Int),[],())=
   (Xe c k (E',[],1,()) (E,[e],1,()) (E,[],1,()) (Lj c) [(1,wl,()),(2,[],())] [(2,1,BX 0 c.1.length,Es,true,Wf k,())] rd ss,0):=by
  have zA:=gu h hk heo (by unfold takes;rw[he2];rfl);rw[rU];unfold Ts;rw[show(C3 c k (E',[],1,()) (E,[],1,()) (Lj c) [(1,wl,()),(2,[],())] [(2,1,BX 0 c.1.length,Es,true,Wf k,())] rd ss).A8=[(2,1,BX 0 c.1.length,Es,true,Wf k,())]from rfl];simp only;rw[sk k];simp only;rw[We (by omega) (by omega) (by omega)];rw[show BB (C3 c k (E',[],1,()) (E,[],1,()) (Lj c) [(1,wl,()),(2,[],())] [(2,1,BX 0 c.1.length,Es,true,Wf k,())] rd ss).Ay 1=BX 0 c.1.length from rfl,tF];simp only[ne_eq,AIs,AGn,AE7,AE6];exact zA
 obtain⟨g1,h1⟩:=go h (by rfl) s1;have s2:=dd (e:=e) h1 hk hEE hl;have oV:E_ false c (E',[],1,()) (Lj c) (k:Int) [(1,wl,()),(2,[],())] ss=([(1,wl,()),(2,[],())],ss):=by
  have gT:Fi (E',[],1,()) (Lj c) (k:Int) (1,wl,())=false:=by
   unfold Fi;rw[AIu];exact .inr rfl
  have cM:ss.map (TV false 2 [] [])=ss:=by
   refine(AHH (g:=id) fun t _=> ?_).trans (AIj ss);unfold TV;have:IF [] (CM t.1)=false:=by
    unfold IF;rw[show BC (CM t.1) 1 (([]:List AY).length:Int)=false by
     rw[AHX];intro hh;have:=Ak.1 hh;simp at this;omega]
    rfl
   rw[this];simp
  simp only[E_];rw[gT];simp only[AE6,AGn];by_cases ht2:Fi (E',[],1,()) (Lj c) (k:Int) (2,[],())=true
  ·rw[AEv ht2,show BD c (E',[],1,()) 2 (k:Int) 1 []=[]from rfl,cM]
  ·rw[AE4 ht2]
 rw[oV]at s2;have e_:[((2,1,BX 0 c.1.length,Es,true,Wf k,()):Ab)].map (Nk (E',[],1,()) (Lj c) (k:Int))=[(2,1,BX 0 c.1.length,Es,true,Wf (k+1),())]:=by
  rw[AHb,AIA];unfold Nk;rw[show BB (Lj c) 1=BX 0 c.1.length from rfl,AEv tF,sH k hk]
 rw[e_]at s2;have s2':IU false (Xe c k (E',[],1,()) (E,[e],1,()) (E,[],1,()) (Lj c) [(1,wl,()),(2,[],())] [(2,1,BX 0 c.1.length,Es,true,Wf k,())] rd ss) (4,(k:Int),0,0,[],())=_:=dj.trans s2;obtain⟨g2,h2⟩:=go h1 (by rfl) s2';refine⟨?_,h2⟩;rw[UT g1,UT g2]
theorem ld:∀(m k:Nat) {rest:List An},k+m=c.1.length→
  EF (C3 c k (E',[],1,()) (E,[],1,()) (Lj c) [(1,wl,()),(2,[],())] [(2,1,BX 0 c.1.length,Es,true,Wf k,())] rd ss)→
  allM false (C3 c k (E',[],1,()) (E,[],1,()) (Lj c) [(1,wl,()),(2,[],())] [(2,1,BX 0 c.1.length,Es,true,Wf k,())] rd ss) (((BX k m).flatMap fun n:Int=>[(11,0,o,n,[],()),(4,n,0,0,[],())])++rest)=
   allM false (C3 c c.1.length (E',[],1,()) (E,[],1,()) (Lj c) [(1,wl,()),(2,[],())] [(2,1,BX 0 c.1.length,Es,true,Wf c.1.length,())] rd ss) rest∧
  EF (C3 c c.1.length (E',[],1,()) (E,[],1,()) (Lj c) [(1,wl,()),(2,[],())] [(2,1,BX 0 c.1.length,Es,true,Wf c.1.length,())] rd ss)
 |0,k,rest,hk,h=>by
  have:k=c.1.length:=by omega
  subst this;exact⟨rfl,h⟩
 |m+1,k,rest,hk,h=>by
  rw[BX,AIr];obtain⟨e1,h1⟩:=oF sk heo he2 hEE hl sH (by omega) (rest:=((BX (k+1) m).flatMap fun n:Int=>[(11,0,o,n,[],()),(4,n,0,0,[],())])++rest) h;obtain⟨e2,h2⟩:=ld m (k+1) (rest:=rest) (by omega) h1;exact⟨e1.trans e2,h2⟩
end
theorem jU{c:BN}{A:AG}{Es:List AD}{wl:List AY}{rd:List AN}{ss:List AM}{n:Nat}(Ft:holds c (BX 0 c.1.length)=true)(hn:n≤60)
  (h:EF (C3 c 0 AO A (Lj c) [(1,wl,()),(2,[],())] [(2,1,BX 0 c.1.length,Es,true,List.replicate n (BX 0 c.1.length),())] rd ss)):
  BS false (C3 c 0 AO A (Lj c) [(1,wl,()),(2,[],())] [(2,1,BX 0 c.1.length,Es,true,List.replicate n (BX 0 c.1.length),())] rd ss) (12,0,0,0,[],())=
   (C3 c 0 AO A [(BX 0 c.1.length,true,(n:Int),()),(BX 0 c.1.length,false,0,())] [(1,wl,()),(2,[],())] [] rd ss,0)∧
  EF (C3 c 0 AO A [(BX 0 c.1.length,true,(n:Int),()),(BX 0 c.1.length,false,0,())] [(1,wl,()),(2,[],())] [] rd ss):=by
 have ub:GX c (2,1,BX 0 c.1.length,Es,true,List.replicate n (BX 0 c.1.length),())=true:=Ea.2 (h.A8 _ (by show _∈[_];simp)).1;refine go h rfl ?_
 rw[kh];unfold MC;rw[show(C3 c 0 AO A (Lj c) [(1,wl,()),(2,[],())] [(2,1,BX 0 c.1.length,Es,true,List.replicate n (BX 0 c.1.length),())] rd ss).A8=[(2,1,BX 0 c.1.length,Es,true,List.replicate n (BX 0 c.1.length),())]from rfl];simp only;rw[On];have hr:O8 c (2,1,BX 0 c.1.length,Es,true,List.replicate n (BX 0 c.1.length),())=true:=by
  unfold O8;rw[ub,show(List.replicate n (BX 0 c.1.length)).all (holds c)=true from AHR.2 fun x hx=>by rw[AHP hx];exact Ft];rfl
 have hq:Kf c (C2 (C3 c 0 AO A (Lj c) [(1,wl,()),(2,[],())] [(2,1,BX 0 c.1.length,Es,true,List.replicate n (BX 0 c.1.length),())] rd ss)) 2 ((List.replicate n (BX 0 c.1.length)).length:Int)=(([(BX 0 c.1.length,true,(n:Int),()),(BX 0 c.1.length,false,0,())],0,()),true):=by
  have hg:=FX.2 h.WW;rw[On]at hg;unfold Kf;rw[hg,AHF,show BC (n:Int) 0 60=true from Ak.2 ⟨by omega,by omega⟩];rfl
 rw[hr,hq];rfl
end Go.M
end
section
namespace Go.M
open Go.M.H (AD AG Ab AM AA Bc AH AY AL AN Ar Aa An)
def oA(i:Nat)(b:Int):AD:=(D3 1 (i:Int),b,false,[UInt8.ofNat (96+i)],())
def Xf(b:Int):Nat→Nat→List AD
 |_,0=>[]
 |i,m+1=>oA i b::Xf b (i+1) m
def Li(n o:Nat):List AD:=Xf 2 1 o++Xf 0 (o+1) (n-o)
theorem AAl:∀{n:Nat},n≤4→EsH (Li n 0) n
 |0,_=>⟨rfl,rfl,rfl,by decide,by simp[Li,Xf,Kg],rfl,by decide⟩
 |1,_=>⟨by decide,by decide,by decide,by decide,by simp[Li,Xf,Kg],by decide,by decide⟩
 |2,_=>⟨by decide,by decide,by decide,by decide,by simp[Li,Xf,oA,Kg,D3],by decide,by decide⟩
 |3,_=>⟨by decide,by decide,by decide,by decide,by simp[Li,Xf,oA,Kg,D3],by decide,by decide⟩
 |4,_=>⟨by decide,by decide,by decide,by decide,by simp[Li,Xf,oA,Kg,D3],by decide,by decide⟩
 |n+5,h=>by omega
def sn(K n o:Nat)(k:Nat):List AAG:=List.replicate o (BX 0 K)++BX 0 k::List.replicate (n-(o+1)) []
theorem rA:∀{o:Nat},o≤3→C8 (oA (o+1) 2)=true
 |0,_=>by decide
 |1,_=>by decide
 |2,_=>by decide
 |3,_=>by decide
 |n+4,h=>by omega
theorem so{K n o:Nat}(ho:o<n)(hn:n≤4):
  (∀k,FV (2,1,BX 0 K,Li n 0,true,sn K n o k,()) ((o:Int)+1)=some (oA (o+1) 2))∧keep (oA (o+1) 2) (Li n o)=Li n (o+1)∧(Li n (o+1)).length≤200∧
  ∀k,k<K→FI (2,1,BX 0 K,Li n 0,true,sn K n o k,()) (Li n (o+1),[],1,()) (k:Int) 1 (sn K n o k)=sn K n o (k+1):=by
 have hp:∀k,k<K→Fc (k:Int) (BX 0 K)=BX 0 K:=fun k hk=>sB (Lt.2 (by omega))
 obtain⟨rfl,rfl⟩|⟨rfl,rfl⟩|⟨rfl,rfl⟩|⟨rfl,rfl⟩|⟨rfl,rfl⟩|⟨rfl,rfl⟩|⟨rfl,rfl⟩|⟨rfl,rfl⟩|⟨rfl,rfl⟩|⟨rfl,rfl⟩:(n=1∧o=0)∨(n=2∧o=0)∨(n=2∧o=1)∨(n=3∧o=0)∨(n=3∧o=1)∨(n=3∧o=2)∨(n=4∧o=0)∨(n=4∧o=1)∨(n=4∧o=2)∨(n=4∧o=3):=by omega
 ·exact⟨fun k=>rfl,by decide,by decide,fun k hk=>(show _=[Fc (k:Int) (BX 0 k)]from rfl).trans (by rw[Gx];rfl)⟩
 ·exact⟨fun k=>rfl,by decide,by decide,fun k hk=>(show _=[Fc (k:Int) (BX 0 k),[]]from rfl).trans (by rw[Gx];rfl)⟩
 ·exact⟨fun k=>rfl,by decide,by decide,fun k hk=>(show _=[Fc (k:Int) (BX 0 K),Fc (k:Int) (BX 0 k)]from rfl).trans (by rw[Gx,hp k hk];rfl)⟩
 ·exact⟨fun k=>rfl,by decide,by decide,fun k hk=>(show _=[Fc (k:Int) (BX 0 k),[],[]]from rfl).trans (by rw[Gx];rfl)⟩
 ·exact⟨fun k=>rfl,by decide,by decide,fun k hk=>(show _=[Fc (k:Int) (BX 0 K),Fc (k:Int) (BX 0 k),[]]from rfl).trans (by rw[Gx,hp k hk];rfl)⟩
 ·exact⟨fun k=>rfl,by decide,by decide,fun k hk=>(show _=[Fc (k:Int) (BX 0 K),Fc (k:Int) (BX 0 K),Fc (k:Int) (BX 0 k)]from rfl).trans (by rw[Gx,hp k hk];rfl)⟩
 ·exact⟨fun k=>rfl,by decide,by decide,fun k hk=>(show _=[Fc (k:Int) (BX 0 k),[],[],[]]from rfl).trans (by rw[Gx];rfl)⟩
 ·exact⟨fun k=>rfl,by decide,by decide,fun k hk=>(show _=[Fc (k:Int) (BX 0 K),Fc (k:Int) (BX 0 k),[],[]]from rfl).trans (by rw[Gx,hp k hk];rfl)⟩
 ·exact⟨fun k=>rfl,by decide,by decide,fun k hk=>(show _=[Fc (k:Int) (BX 0 K),Fc (k:Int) (BX 0 K),Fc (k:Int) (BX 0 k),[]]from rfl).trans (by rw[Gx,hp k hk];rfl)⟩
 ·exact⟨fun k=>rfl,by decide,by decide,fun k hk=>(show _=[Fc (k:Int) (BX 0 K),Fc (k:Int) (BX 0 K),Fc (k:Int) (BX 0 K),Fc (k:Int) (BX 0 k)]from rfl).trans (by rw[Gx,hp k hk];rfl)⟩
theorem mM{K n o:Nat}(ho:o<n):sn K n o 0=List.replicate o (BX 0 K)++List.replicate (n-o) []:=by
 unfold sn;rw[show n-o=(n-(o+1))+1 by omega,AIB];rfl
theorem uE{K n o:Nat}(ho:o<n):sn K n o K=List.replicate (o+1) (BX 0 K)++List.replicate (n-(o+1)) []:=by
 unfold sn;rw[List.replicate_succ',AGl];rfl
section
variable{c:BN} {wl:List AY} {rd:List AN} {ss:List AM} {n:Nat} (hn:n≤4)
include hn
theorem dz:∀(m o:Nat) {rest:List An},o+m=n→
  EF (C3 c 0 AO (Li n o,[],1,()) (Lj c) [(1,wl,()),(2,[],())] [(2,1,BX 0 c.1.length,Li n 0,true,List.replicate o (BX 0 c.1.length)++List.replicate (n-o) [],())] rd ss)→
  allM false (C3 c 0 AO (Li n o,[],1,()) (Lj c) [(1,wl,()),(2,[],())] [(2,1,BX 0 c.1.length,Li n 0,true,List.replicate o (BX 0 c.1.length)++List.replicate (n-o) [],())] rd ss) (T2 (BX 0 c.1.length) m o++rest)=
   allM false (C3 c 0 AO (Li n n,[],1,()) (Lj c) [(1,wl,()),(2,[],())] [(2,1,BX 0 c.1.length,Li n 0,true,List.replicate n (BX 0 c.1.length),())] rd ss) rest∧
  EF (C3 c 0 AO (Li n n,[],1,()) (Lj c) [(1,wl,()),(2,[],())] [(2,1,BX 0 c.1.length,Li n 0,true,List.replicate n (BX 0 c.1.length),())] rd ss)
 |0,o,rest,ho,h=>by
  have:o=n:=by omega
  subst this;rw[AIQ,List.replicate_zero,AF5]at h⊢;exact⟨rfl,h⟩
 |m+1,o,rest,ho,h=>by
  obtain⟨f1,f2,f3,f4⟩:=so (K:=c.1.length) (n:=n) (o:=o) (by omega) hn;rw[←mM (by omega),iw (A':=(Li n (o+1),[],1,()))]at h⊢;obtain⟨e1,h1⟩:=ld (Es:=Li n 0) (E:=Li n o) (E':=Li n (o+1)) (e:=oA (o+1) 2) (o:=(o:Int)+1) (Wf:=sn c.1.length n o) f1 (rA (by omega)) rfl f2 f3 f4 c.1.length 0 (rest:=T2 (BX 0 c.1.length) m (o+1)++rest) (by omega) h;rw[bJ (A':=AO),uE (by omega)]at e1 h1;obtain⟨e2,h2⟩:=dz m (o+1) (rest:=rest) (by omega) h1;refine⟨?_,h2⟩;rw[←e2,←e1,T2,AGl]
end
theorem kX{c:BN}(Ft:holds c (BX 0 c.1.length)=true){wl:List AY}{rd:List AN}{ss:List AM}{n:Nat}(hn:n≤4)
  (h:EF (C3 c 0 AO (Li n 0,[],0,()) (Lj c) [(1,wl,()),(2,[],())] [] rd ss)):
  aA false (C3 c 0 AO (Li n 0,[],0,()) (Lj c) [(1,wl,()),(2,[],())] [] rd ss)=some (C3 c 0 AO (Li n n,[],1,()) [(BX 0 c.1.length,true,(n:Int),()),(BX 0 c.1.length,false,0,())] [(1,wl,()),(2,[],())] [] rd ss)∧
  EF (C3 c 0 AO (Li n n,[],1,()) [(BX 0 c.1.length,true,(n:Int),()),(BX 0 c.1.length,false,0,())] [(1,wl,()),(2,[],())] [] rd ss):=by
 have hE:=AAl hn;have hK:=(EG (show C4 c=true from h.cfg)).1;obtain⟨g1,h1⟩:=go (all:=false) (d:=(8,0,0,0,[],())) (v:=C3 c 0 AO (Li n 0,[],0,()) (Lj c) [(1,wl,()),(2,[],())] [(2,1,[],[],false,[],())] rd ss) h rfl rfl;rw[iw (A':=(Li n 0,[],1,()))]at h1;obtain⟨g2,h2⟩:=iv Ft hE (n:=n) c.1.length 0 (rest:=[(10,0,0,0,[],())]) (by omega) h1;rw[show Lq (Li n 0) c.1.length=Li n 0 from AE4 (by omega),bJ (A':=AO)]at g2 h2;obtain⟨g3,h3⟩:=mi Ft hE h2;have h3':EF (C3 c 0 AO (Li n 0,[],1,()) (Lj c) [(1,wl,()),(2,[],())] [(2,1,BX 0 c.1.length,Li n 0,true,List.replicate 0 (BX 0 c.1.length)++List.replicate (n-0) [],())] rd ss):=h3;obtain⟨g4,h4⟩:=dz hn n 0 (rest:=[(12,0,0,0,[],())]) (by omega) h3';obtain⟨g5,h5⟩:=jU Ft (by omega) h4;refine⟨?_,h5⟩;unfold aA;rw[AEv (B8.2 h)];rw[AEv (show(C3 c 0 AO (Li n 0,[],0,()) (Lj c) [(1,wl,()),(2,[],())] [] rd ss).A8.length=0 from rfl),UT g1];rw[show allM false (C3 c 0 AO (Li n 0,[],0,()) (Lj c) [(1,wl,()),(2,[],())] [(2,1,[],[],false,[],())] rd ss) []=some (C3 c 0 AO (Li n 0,[],0,()) (Lj c) [(1,wl,()),(2,[],())] [(2,1,[],[],false,[],())] rd ss)from rfl,AE9];have q8:M1 (C3 c 0 AO (Li n 0,[],0,()) (Lj c) [(1,wl,()),(2,[],())] [(2,1,[],[],false,[],())] rd ss)=BX 0 c.1.length:=bF;rw[q8];have e1:allM false (C3 c 0 AO (Li n 0,[],0,()) (Lj c) [(1,wl,()),(2,[],())] [(2,1,[],[],false,[],())] rd ss) ((BX 0 c.1.length).map (fun n=>(9,n,0,0,[],()))++[(10,0,0,0,[],())])=some (C3 c 0 AO (Li n 0,[],1,()) (Lj c) [(1,wl,()),(2,[],())] [(2,1,BX 0 c.1.length,Li n 0,true,List.replicate n [],())] rd ss):=by
  refine Eq.trans ?_ (g2.trans ((UT g3).trans rfl))
  rfl
 rw[e1,AE9];rw[show(C3 c 0 AO (Li n 0,[],1,()) (Lj c) [(1,wl,()),(2,[],())] [(2,1,BX 0 c.1.length,Li n 0,true,List.replicate n [],())] rd ss).A8.getD 0 Gh=(2,1,BX 0 c.1.length,Li n 0,true,List.replicate n [],())from rfl];rw[show(2,1,BX 0 c.1.length,Li n 0,true,List.replicate n ([]:AAG),()).2.2.2.2.2.1.length=n from AHF,Th];exact g4.trans ((UT g5).trans rfl)
theorem ia:∀{K:Nat},K≤8→([0,1,2,3,4,5,6,7]:AAG).filter (fun n=>decide (n<(K:Int)))=BX 0 K
 |0,_=>by decide
 |1,_=>by decide
 |2,_=>by decide
 |3,_=>by decide
 |4,_=>by decide
 |5,_=>by decide
 |6,_=>by decide
 |7,_=>by decide
 |8,_=>by decide
 |n+9,h=>by omega
def RW(e:AD)(n:Int):Aa:=(n,true,e.1,e.2.1,e.2.2.1,e.2.2.2.1,())
def AAD(n:Int):Aa:=(n,false,0,0,false,[],())
section
variable{c:BN} (hc:C4 c=true) {A:AG} {er:List Bc} {ws:List AL} {ms:List Ab} {rd:List AN} {ss:List AM} {p:Int}
include hc
theorem nY:(DQ 255).filter (fun n=>As (C3 c 0 AO A er ws ms rd ss) n==0)=BX 0 c.1.length:=by
 have hK:=(EG hc).2.1;rw[←ia hK,show DQ 255=[0,1,2,3,4,5,6,7]from by decide];refine List.filter_congr fun x hx=> ?_
 have xK:0≤x:=by
  simp only[AGD,AHg,AI4]at hx;omega
 by_cases h:x<(c.1.length:Int)
 ·rw[We (by omega) xK h,AHJ h]
  rfl
 ·rw[AHI h]
  unfold As;rw[Zd (by omega),show BC x 0 ((c.1.length:Int)-1)=false by
   rw[AHX];intro hh;have:=Ak.1 hh;omega]
  rfl
theorem fD:answers (C3 c 0 AO A er ws ms rd ss) p (DQ 255)=(BX 0 c.1.length).map fun n=>match HK p A.1 with|some e=>RW e n|none=>AAD n:=by
 unfold answers;rw[nY hc];refine AHH fun x hx=> ?_
 have:=Lt.1 hx;unfold answer;rw[show storeAt (C3 c 0 AO A er ws ms rd ss) x=A from tM (A:=A) (k:=0) (by omega) (by omega) (by omega)];rfl
end
theorem eZ{N:AAG}{p:Int}{e:AD}(he:C8 e=true)(hp:e.1=p):∀{l:AAG},(∀n∈l,n∈N)→Fq N p (some e) (l.map (RW e))=some e
 |[],_=>rfl
 |n::l,h=>by
  have hn:N.contains n=true:=by simpa using h n (by simp)
  have hb:better e (UC (RW e n))=e:=by
   unfold better;rw[AE4]
   show¬e.2.1>e.2.1
   omega
  rw[AHb,Fq];rw[show UC (RW e n)=e from rfl]at hb⊢;rw[show(RW e n).2.1=true from rfl,show(RW e n).1=n from rfl,hn,he,hp,AHe];simp only[AIF,AHL];rw[hb];exact eZ he hp fun m hm=>h m (by simp[hm])
theorem qE{N:AAG}{p:Int}{e:AD}(he:C8 e=true)(hp:e.1=p){n:Int}{l:AAG}(h:∀m∈n::l,m∈N):Fq N p none ((n::l).map (RW e))=some e:=by
 have hn:N.contains n=true:=by simpa using h n (by simp)
 rw[AHb,Fq];rw[show UC (RW e n)=e from rfl];rw[show(RW e n).2.1=true from rfl,show(RW e n).1=n from rfl,hn,he,hp,AHe];simp only[AIF,AHL];exact eZ he hp fun m hm=>h m (by simp[hm])
def OQ(c:BN)(n:Nat):List Bc:=[(BX 0 c.1.length,true,(n:Int),()),(BX 0 c.1.length,false,0,())]
section
variable{c:BN} (Ft:holds c (BX 0 c.1.length)=true) {n:Nat} {A:AG} {wl:List AY} {r1:AN} {ss:List AM} {N_:List Ar}
include Ft
theorem nG{o:Nat}{e:AD}(ho:o<n)(hn:n≤4)(yH:N_.length<100)(hg:HK (D3 1 ((o:Int)+1)) A.1=some e)(he:C8 e=true)(hp:e.1=D3 1 ((o:Int)+1))(hb:e.2.2.1=false)
  (h:EF (C3 c 0 AO A (OQ c n) [(1,wl,()),(2,[],())] [] [(1,(o:Int)+1,N_,()),r1] ss)):
  Dm (C3 c 0 AO A (OQ c n) [(1,wl,()),(2,[],())] [] [(1,(o:Int)+1,N_,()),r1] ss) 0 255=
   (C3 c 0 AO A (OQ c n) [(1,wl,()),(2,[],())] [] [(1,((o+1:Nat):Int)+1,N_++[(1,D3 1 ((o:Int)+1),e.2.2.2.1,())],()),r1] ss,0)∧
  EF (C3 c 0 AO A (OQ c n) [(1,wl,()),(2,[],())] [] [(1,((o+1:Nat):Int)+1,N_++[(1,D3 1 ((o:Int)+1),e.2.2.2.1,())],()),r1] ss):=by
 have hc:C4 c=true:=h.cfg;have hK:=(EG hc).1;have key:Dm (C3 c 0 AO A (OQ c n) [(1,wl,()),(2,[],())] [] [(1,(o:Int)+1,N_,()),r1] ss) 0 255=
   (C3 c 0 AO A (OQ c n) [(1,wl,()),(2,[],())] [] [(1,((o+1:Nat):Int)+1,N_++[(1,D3 1 ((o:Int)+1),e.2.2.2.1,())],()),r1] ss,0):=by
  have pQ:Mw c (OQ c n,0,())=true:=FX.2 h.WW;have P_:QP (1,(o:Int)+1,N_,())=true:=La.2 (h.AQ _ (by show _∈[_,_];simp));have jc:=fD hc (A:=A) (er:=OQ c n) (ws:=[(1,wl,()),(2,[],())]) (ms:=[]) (rd:=[(1,(o:Int)+1,N_,()),r1]) (ss:=ss) (p:=D3 1 ((o:Int)+1));rw[hg]at jc;simp only at jc;unfold Dm;rw[show BC 0 0 1=true from rfl];simp only[AE7,AE6,AGn];rw[show(C3 c 0 AO A (OQ c n) [(1,wl,()),(2,[],())] [] [(1,(o:Int)+1,N_,()),r1] ss).AQ.getD (0:Int).toNat CC=(1,(o:Int)+1,N_,())from rfl];simp only;rw[jc,On]
  generalize Q6 (C3 c 0 AO A (OQ c n) [(1,wl,()),(2,[],())] [] [(1,(o:Int)+1,N_,()),r1] ss) 1=su
  have To:CR c (C2 (C3 c 0 AO A (OQ c n) [(1,wl,()),(2,[],())] [] [(1,(o:Int)+1,N_,()),r1] ss)) su (1,(o:Int)+1,N_,()) ((BX 0 c.1.length).map fun x=>RW e x)=
    ((1,((o+1:Nat):Int)+1,N_++[(1,D3 1 ((o:Int)+1),e.2.2.2.1,())],()),0):=by
   rw[show C2 (C3 c 0 AO A (OQ c n) [(1,wl,()),(2,[],())] [] [(1,(o:Int)+1,N_,()),r1] ss)=(OQ c n,0,())from rfl];unfold CR;have e_:(((BX 0 c.1.length).map fun x=>RW e x).map fun a:Aa=>a.1)=BX 0 c.1.length:=by
    rw[AHq];exact AIj _
   rw[pQ,P_,e_,bg hc (AGh _)];simp only[AIF,AE7,AE6,AGn];rw[show(OQ c n).getD ((1:Int)-1).toNat FZ=(BX 0 c.1.length,true,(n:Int),())from rfl];simp only;rw[show((BX 0 c.1.length).filter (BX 0 c.1.length).contains)=BX 0 c.1.length from AI3.2 fun x hx=>by simpa using hx,bh Ft hc];rw[AHI (show¬(1:Int)>((OQ c n).length:Int)by show¬(1:Int)>((2:Nat):Int);omega),AHI (show¬N_.length=120 by omega)];have hb0:Fq (BX 0 c.1.length) (D3 1 ((o:Int)+1)) none ((BX 0 c.1.length).map fun x=>RW e x)=some e:=by
    obtain⟨K',hK'⟩:∃K',c.1.length=K'+1:=⟨c.1.length-1,by omega⟩;rw[hK'];exact qE he hp fun m hm=>hm
   rw[hb0];rw[AE4 (by simp),AE4 (show¬(0:Int)≥D3 1 ((o:Int)+1)by unfold D3;omega),AE4 (by simp;omega),AE4 (by simp;omega)];simp only[AE7,AE6,AGn];have hf:UE (D3 1 ((o:Int)+1)) (some e)=(1,D3 1 ((o:Int)+1),e.2.2.2.1,()):=by
    show(if e.2.2.1=true then _ else _)=_
    rw[hb];rfl
   rw[hf];rw[show((o:Int)+1+1)=((o+1:Nat):Int)+1 by omega]
  rw[To];rfl
 obtain⟨g,h1⟩:=go (all:=false) (d:=(14,0,255,0,[],())) h rfl key;exact⟨key,h1⟩
omit Ft in
theorem o4(hn:n≤4)(yH:N_.length<100)(h:EF (C3 c 0 AO A (OQ c n) [(1,wl,()),(2,[],())] [] [(1,(n:Int)+1,N_,()),r1] ss)):
  Dm (C3 c 0 AO A (OQ c n) [(1,wl,()),(2,[],())] [] [(1,(n:Int)+1,N_,()),r1] ss) 0 255=
   (C3 c 0 AO A (OQ c n) [(1,wl,()),(2,[],())] [] [(2,1,N_++[(4,2,[],())],()),r1] ss,0)∧
  EF (C3 c 0 AO A (OQ c n) [(1,wl,()),(2,[],())] [] [(2,1,N_++[(4,2,[],())],()),r1] ss):=by
 have hc:C4 c=true:=h.cfg;have key:Dm (C3 c 0 AO A (OQ c n) [(1,wl,()),(2,[],())] [] [(1,(n:Int)+1,N_,()),r1] ss) 0 255=
   (C3 c 0 AO A (OQ c n) [(1,wl,()),(2,[],())] [] [(2,1,N_++[(4,2,[],())],()),r1] ss,0):=by
  have pQ:Mw c (OQ c n,0,())=true:=FX.2 h.WW;have P_:QP (1,(n:Int)+1,N_,())=true:=La.2 (h.AQ _ (by show _∈[_,_];simp));have jc:=fD hc (A:=A) (er:=OQ c n) (ws:=[(1,wl,()),(2,[],())]) (ms:=[]) (rd:=[(1,(n:Int)+1,N_,()),r1]) (ss:=ss) (p:=D3 1 ((n:Int)+1));unfold Dm;rw[show BC 0 0 1=true from rfl];simp only[AE7,AE6,AGn];rw[show(C3 c 0 AO A (OQ c n) [(1,wl,()),(2,[],())] [] [(1,(n:Int)+1,N_,()),r1] ss).AQ.getD (0:Int).toNat CC=(1,(n:Int)+1,N_,())from rfl];simp only;rw[jc,On]
  generalize Q6 (C3 c 0 AO A (OQ c n) [(1,wl,()),(2,[],())] [] [(1,(n:Int)+1,N_,()),r1] ss) 1=su
  have e_:∀g:Int→Aa,(∀x,(g x).1=x)→CR c (C2 (C3 c 0 AO A (OQ c n) [(1,wl,()),(2,[],())] [] [(1,(n:Int)+1,N_,()),r1] ss)) su (1,(n:Int)+1,N_,()) ((BX 0 c.1.length).map g)=
    ((2,1,N_++[(4,2,[],())],()),0):=fun g hg=>by
   rw[show C2 (C3 c 0 AO A (OQ c n) [(1,wl,()),(2,[],())] [] [(1,(n:Int)+1,N_,()),r1] ss)=(OQ c n,0,())from rfl];unfold CR;have e_:(((BX 0 c.1.length).map g).map fun a:Aa=>a.1)=BX 0 c.1.length:=by
    rw[AHq];exact(AHH fun x _=>hg x).trans (AIj _)
   rw[pQ,P_,e_,bg hc (AGh _)];simp only[AIF,AE7,AE6,AGn];rw[show(OQ c n).getD ((1:Int)-1).toNat FZ=(BX 0 c.1.length,true,(n:Int),())from rfl];simp only;rw[AHI (show¬(1:Int)>((OQ c n).length:Int)by show¬(1:Int)>((2:Nat):Int);omega),AHI (show¬N_.length=120 by omega)];rw[AE4 (by simp),AE4 (show¬(0:Int)≥D3 1 ((n:Int)+1)by unfold D3;omega),AEv (by simp;omega)];rfl
  rw[e_ _ fun x=>by cases HK (D3 1 ((n:Int)+1)) A.1<;>rfl];rfl
 obtain⟨g,h1⟩:=go (all:=false) (d:=(14,0,255,0,[],())) h rfl key;exact⟨key,h1⟩
omit Ft in
theorem mu(yH:N_.length<100)(h:EF (C3 c 0 AO A (OQ c n) [(1,wl,()),(2,[],())] [] [(2,1,N_,()),r1] ss)):
  ¬(Dm (C3 c 0 AO A (OQ c n) [(1,wl,()),(2,[],())] [] [(2,1,N_,()),r1] ss) 0 255).2=0:=by
 have hc:C4 c=true:=h.cfg;have pQ:Mw c (OQ c n,0,())=true:=FX.2 h.WW;have P_:QP (2,1,N_,())=true:=La.2 (h.AQ _ (by show _∈[_,_];simp));have jc:=fD hc (A:=A) (er:=OQ c n) (ws:=[(1,wl,()),(2,[],())]) (ms:=[]) (rd:=[(2,1,N_,()),r1]) (ss:=ss) (p:=D3 2 1);unfold Dm;rw[show BC 0 0 1=true from rfl];simp only[AE7,AE6,AGn];rw[show(C3 c 0 AO A (OQ c n) [(1,wl,()),(2,[],())] [] [(2,1,N_,()),r1] ss).AQ.getD (0:Int).toNat CC=(2,1,N_,())from rfl];simp only;rw[jc,On,show Q6 (C3 c 0 AO A (OQ c n) [(1,wl,()),(2,[],())] [] [(2,1,N_,()),r1] ss) 2=0 from rfl];have e_:∀g:Int→Aa,(∀x,(g x).1=x)→CR c (C2 (C3 c 0 AO A (OQ c n) [(1,wl,()),(2,[],())] [] [(2,1,N_,()),r1] ss)) 0 (2,1,N_,()) ((BX 0 c.1.length).map g)=((2,1,N_,()),2):=fun g hg=>by
  rw[show C2 (C3 c 0 AO A (OQ c n) [(1,wl,()),(2,[],())] [] [(2,1,N_,()),r1] ss)=(OQ c n,0,())from rfl];unfold CR;have e_:(((BX 0 c.1.length).map g).map fun a:Aa=>a.1)=BX 0 c.1.length:=by
   rw[AHq];exact(AHH fun x _=>hg x).trans (AIj _)
  rw[pQ,P_,e_,bg hc (AGh _)];simp only[AIF,AE7,AE6,AGn];rw[show(OQ c n).getD ((2:Int)-1).toNat FZ=(BX 0 c.1.length,false,0,())from rfl];simp only;rw[AHI (show¬(2:Int)>((OQ c n).length:Int)by show¬(2:Int)>((2:Nat):Int);omega),AHI (show¬N_.length=120 by omega)];rw[AE4 (by simp),AE4 (show¬(0:Int)≥D3 2 1 by decide),AE4 (by simp),AEv (by simp)]
 rw[e_ _ fun x=>by cases HK (D3 2 1) A.1<;>rfl];rw[AEv (by show(2:Int)≠0;decide)]
 show¬(5:Int)=0
 decide
end
def told:Nat→List Ar
 |0=>[]
 |o+1=>told o++[(1,D3 1 ((o:Int)+1),[UInt8.ofNat (96+(o+1))],())]
theorem WN:∀{o:Nat},(told o).length=o
 |0=>rfl
 |o+1=>by simp only[told,AGP,WN];rfl
theorem sJ{n o:Nat}(ho:o<n)(hn:n≤4):HK (D3 1 ((o:Int)+1)) (Li n n)=some (oA (o+1) 2):=by
 obtain⟨rfl,rfl⟩|⟨rfl,rfl⟩|⟨rfl,rfl⟩|⟨rfl,rfl⟩|⟨rfl,rfl⟩|⟨rfl,rfl⟩|⟨rfl,rfl⟩|⟨rfl,rfl⟩|⟨rfl,rfl⟩|⟨rfl,rfl⟩:(n=1∧o=0)∨(n=2∧o=0)∨(n=2∧o=1)∨(n=3∧o=0)∨(n=3∧o=1)∨(n=3∧o=2)∨(n=4∧o=0)∨(n=4∧o=1)∨(n=4∧o=2)∨(n=4∧o=3):=by omega
 all_goals decide
theorem a8{c:BN}(Ft:holds c (BX 0 c.1.length)=true){wl:List AY}{r1:AN}{ss:List AM}{n:Nat}(hn:n≤4):∀(m o f:Nat),o+m=n→
  EF (C3 c 0 AO (Li n n,[],1,()) (OQ c n) [(1,wl,()),(2,[],())] [] [(1,(o:Int)+1,told o,()),r1] ss)→
  P7 (f+m+2) (C3 c 0 AO (Li n n,[],1,()) (OQ c n) [(1,wl,()),(2,[],())] [] [(1,(o:Int)+1,told o,()),r1] ss) 0=
   (C3 c 0 AO (Li n n,[],1,()) (OQ c n) [(1,wl,()),(2,[],())] [] [(2,1,told n++[(4,2,[],())],()),r1] ss,(m:Int)+1)∧
  EF (C3 c 0 AO (Li n n,[],1,()) (OQ c n) [(1,wl,()),(2,[],())] [] [(2,1,told n++[(4,2,[],())],()),r1] ss)
 |0,o,f,ho,h=>by
  have:o=n:=by omega
  subst this;have hl:=WN (o:=o);obtain⟨e1,h1⟩:=o4 hn (by omega) h;have e2:=mu (by simp;omega) h1;refine⟨?_,h1⟩;rw[show f+0+2=(f+1)+1 by omega,P7,e1];simp only[AHL];rw[P7,AE4 e2];rfl
 |m+1,o,f,ho,h=>by
  have hl:=WN (o:=o);obtain⟨e1,h1⟩:=nG Ft (by omega) hn (by omega) (sJ (by omega) hn) (rA (by omega)) rfl rfl h;obtain⟨e2,h2⟩:=a8 Ft hn m (o+1) f (by omega) h1;refine⟨?_,h2⟩;rw[show f+(m+1)+2=(f+m+2)+1 by omega,P7,e1];simp only[AHL];have e3:P7 (f+m+2) (C3 c 0 AO (Li n n,[],1,()) (OQ c n) [(1,wl,()),(2,[],())] [] [(1,((o+1:Nat):Int)+1,told o++[(1,D3 1 ((o:Int)+1),(oA (o+1) 2).2.2.2.1,())],()),r1] ss) 0=_:=e2;rw[e3];rw[show(m:Int)+1+1=((m+1:Nat):Int)+1 by omega]
end Go.M
end
section
set_option maxRecDepth 8000
namespace Go.M
open Go.M.H (AD AG Ab AM AA Bc AH AY AL AN Ar Aa An Am Bt AX AU AW Ap CP BV Ao AZ DJ Bu B_ Cb)
noncomputable def wh7 (n:Nat) (x:AAG) (ok:Bool) (i:Int) (c:BN) (w:AA) (l:AAG):Option Da:=EB n x ok i c.2.1 c.1 w.2.1 w.2.2.2.2.2.1 w.2.2.2.2.2.2.2.2.2.2.1 w.1 w.2.2.1 w.2.2.2.1 w.2.2.2.2.1 w.2.2.2.2.2.2.1 w.2.2.2.2.2.2.2.1 w.2.2.2.2.2.2.2.2.1 w.2.2.2.2.2.2.2.2.2.1 l
noncomputable def uX (n:Nat) (m k t i:Int) (w:AA):Option Da:=Dk n m k t i w.2.1 w.2.2.2.2.2.1 w.2.2.2.2.2.2.2.2.2.2.1 w.1 w.2.2.1 w.2.2.2.1 w.2.2.2.2.1 w.2.2.2.2.2.2.1 w.2.2.2.2.2.2.2.1 w.2.2.2.2.2.2.2.2.1 w.2.2.2.2.2.2.2.2.2.1
noncomputable def zc (n:Nat) (t i:Int) (w:AA) (a b:List AM):Option Da:=Dp n t i w.2.1 w.2.2.2.2.2.1 w.2.2.2.2.2.2.2.2.2.2.1 w.1 w.2.2.1 w.2.2.2.1 w.2.2.2.2.1 w.2.2.2.2.2.2.1 w.2.2.2.2.2.2.2.1 w.2.2.2.2.2.2.2.2.1 w.2.2.2.2.2.2.2.2.2.1 a b
theorem bM{n:Nat}{x:AAG}{ok:Bool}{i:Int}{c:BN}{w:AA}{l:AAG}:wh7 (n+1) x ok i c w l=GU (EB n) (Dk n) (Dp n) x ok i c.2.1 c.1 w.2.1 w.2.2.2.2.2.1 w.2.2.2.2.2.2.2.2.2.2.1 w.1 w.2.2.1 w.2.2.2.1 w.2.2.2.2.1 w.2.2.2.2.2.2.1 w.2.2.2.2.2.2.2.1 w.2.2.2.2.2.2.2.2.1 w.2.2.2.2.2.2.2.2.2.1 l:=rfl
theorem dy{n:Nat}{m k t i:Int}{w:AA}:uX (n+1) m k t i w=Hh (EB n) (Dk n) (Dp n) m k t i w.2.1 w.2.2.2.2.2.1 w.2.2.2.2.2.2.2.2.2.2.1 w.1 w.2.2.1 w.2.2.2.1 w.2.2.2.2.1 w.2.2.2.2.2.2.1 w.2.2.2.2.2.2.2.1 w.2.2.2.2.2.2.2.2.1 w.2.2.2.2.2.2.2.2.2.1:=rfl
theorem dJ{n:Nat}{t i:Int}{w:AA}{a b:List AM}:zc (n+1) t i w a b=He (EB n) (Dk n) (Dp n) t i w.2.1 w.2.2.2.2.2.1 w.2.2.2.2.2.2.2.2.2.2.1 w.1 w.2.2.1 w.2.2.2.1 w.2.2.2.2.1 w.2.2.2.2.2.2.1 w.2.2.2.2.2.2.2.1 w.2.2.2.2.2.2.2.2.1 w.2.2.2.2.2.2.2.2.2.1 a b:=rfl
theorem cE{x:AAG}{ok:Bool}{c:BN}{w:AA}(hc:c.1.length≤100):∀(m i f:Nat),i+m=c.1.length→wh7 (f+m) x ok (i:Int) c w (BX 0 i)=wh7 f x ok (c.1.length:Int) c w (BX 0 c.1.length)
 |0,i,f,hi=>by
  have:i=c.1.length:=by omega
  subst this;rfl
 |m+1,i,f,hi=>by
  have hl:=Zg (k:=0) (m:=i);rw[show f+(m+1)=(f+m)+1 by omega];rw[bM];unfold GU;simp only[AB];rw[AEv (by omega),AEv (by rw[DF];omega),AR (x:=(i:Int)+1) (by omega) (by omega),show(i:Int)+1=((i+1:Nat):Int)by omega];refine Eq.trans ?_ (cE hc m (i+1) f (by omega))
  rw[fZ,AHp];rfl
theorem uz:∀{k:Nat},k<8→bOr .i64 (2^k-1) (A6 (1*2^(min ((k:Int)).toNat 64)))=2^(k+1)-1
 |0,_=>by decide
 |1,_=>by decide
 |2,_=>by decide
 |3,_=>by decide
 |4,_=>by decide
 |5,_=>by decide
 |6,_=>by decide
 |7,_=>by decide
 |n+8,h=>by omega
theorem aZ:∀{k:Nat},k≤8→DQ (2^k-1)=BX 0 k
 |0,_=>by decide
 |1,_=>by decide
 |2,_=>by decide
 |3,_=>by decide
 |4,_=>by decide
 |5,_=>by decide
 |6,_=>by decide
 |7,_=>by decide
 |8,_=>by decide
 |n+9,h=>by omega
theorem ow:∀{k:Nat},k≤8→Cp ((2:Int)^k-1)
 |0,_=>by unfold Cp;decide
 |1,_=>by unfold Cp;decide
 |2,_=>by unfold Cp;decide
 |3,_=>by unfold Cp;decide
 |4,_=>by unfold Cp;decide
 |5,_=>by unfold Cp;decide
 |6,_=>by unfold Cp;decide
 |7,_=>by unfold Cp;decide
 |8,_=>by unfold Cp;decide
 |n+9,h=>by omega
theorem pP{m k i:Nat}(h:i<m):(BX k m).getD i 0=((k+i:Nat):Int):=by
 induction m generalizing k i with
 |zero=>omega
 |succ m ih=>
  cases i with
  |zero=>rfl
  |succ i=>
   have:=ih (k:=k+1) (i:=i) (by omega);rw[BX,List.getD_cons_succ,this];omega
theorem Wu{K:Nat}(hK:K≤8):L3 (BX 0 K)=some (((2:Int)^K-1,()),()):=by
 have hl:=Zg (k:=0) (m:=K);have key:∀(m i f:Nat),i+m=K→m<f→FP f (2^i-1) (BX 0 K) (K:Int) (i:Int)=some (((2:Int)^K-1,()),()):=by
  intro m
  induction m with
  |zero=>
   intro i f hi hf;obtain⟨f,rfl⟩:∃f',f=f'+1:=⟨f-1,by omega⟩;simp only[FP,Jj,AB];rw[AE4 (by omega),show i=K by omega]
  |succ m ih=>
   intro i f hi hf;obtain⟨f,rfl⟩:∃f',f=f'+1:=⟨f-1,by omega⟩;simp only[FP,Jj,AB];rw[AEv (by omega),AEv (by omega),AFL,pP (by omega),AHp,AE4 (by omega),uz (by omega),AR (x:=(i:Int)+1) (by omega) (by omega),show(i:Int)+1=((i+1:Nat):Int)by omega];exact ih (i+1) f (by omega) (by omega)
 unfold L3 Nr;rw[S8 (by omega)];simp only[AE9];rw[iX.2 ⟨fun x hx=>by have:=Lt.1 hx;omega,fo⟩,hl];exact key K 0 Aq (by omega) (Aw (by omega))
def VE:Nat→List AM
 |0=>[]
 |i+1=>VE i++[(D3 1 ((i+1:Nat):Int),[UInt8.ofNat (96+(i+1))],true,())]
theorem UU:∀{i:Nat},(∀s∈VE i,s.2.2.1=true)∧(∀s∈VE i,s.1<D3 1 ((i+1:Nat):Int))∧(VE i).length=i
 |0=>⟨fun s hs=>by simp[VE]at hs,fun s hs=>by simp[VE]at hs,rfl⟩
 |i+1=>by
  obtain⟨a,b,c⟩:=UU (i:=i);refine⟨fun s hs=> ?_,fun s hs=> ?_,by simp only[VE,AGP,c];rfl⟩
  ·simp only[VE,AGf,AGD,AHg,AI4]at hs
   rcases hs with hs|rfl
   ·exact a s hs
   ·rfl
  ·simp only[VE,AGf,AGD,AHg,AI4]at hs
   rcases hs with hs|rfl
   ·have:=b s hs
    unfold D3 at*;omega
   ·unfold D3
    dsimp only;omega
theorem bQ:∀{i:Nat},i≤3→C8 (oA (i+1) 0)=true∧keep (oA (i+1) 0) (Xf 0 1 i)=Xf 0 1 (i+1)∧(Xf 0 1 (i+1)).length≤200∧Gj (Xf 0 1 (i+1),[],0,()) (D3 1 ((i+1:Nat):Int))=true∧
  ([w8 (A6 (97+(i:Int)))].map fun n:Int=>UInt8.ofNat n.toNat)=[UInt8.ofNat (96+(i+1))]
 |0,_=>by decide
 |1,_=>by decide
 |2,_=>by decide
 |3,_=>by decide
 |n+4,h=>by omega
def fX:List AN:=[(1,1,[],()),(1,1,[],())]
def wG(c:BN)(i:Nat)(wl:List AY):AA:=C3 c 0 AO (Xf 0 1 i,[],0,()) [(BX 0 c.1.length,false,0,())] [(1,wl,())] [] fX (VE i)
theorem dq{c:BN}(Ft:holds c (BX 0 c.1.length)=true){n:Nat}(hn:n≤4){mk k:Int}:∀(m i f:Nat) {wl:List AY},i+m=n→wl.length=i→(∀y∈wl,y.2.2.1=true)→EF (wG c i wl)→
  ∃wl',EF (wG c n wl')∧uX (f+m) mk k (n:Int) (i:Int) (wG c i wl)=uX f mk k (n:Int) (n:Int) (wG c n wl')
 |0,i,f,wl,hi,hl,hy,h=>by
  have:i=n:=by omega
  subst this;exact⟨wl,h,rfl⟩
 |m+1,i,f,wl,hi,hl,hy,h=>by
  obtain⟨a1,a2,a3,a4,a5⟩:=bQ (i:=i) (by omega);obtain⟨b1,b2,b3⟩:=UU (i:=i);obtain⟨y,y1,y2,y3⟩:=nB (rd:=fX) Ft (o:=((i+1:Nat):Int)) (p:=D3 1 ((i+1:Nat):Int)) (d:=[UInt8.ofNat (96+(i+1))]) (by omega) rfl (by omega) hy b1 (by simp) a1 a2 a3 a4 b2 (by omega) h;obtain⟨wl',q1,q2⟩:=dq Ft hn (mk:=mk) (k:=k) m (i+1) f (wl:=wl++[y]) (by omega) (by simp;omega) (fun z hz=>by
   rcases AGf.1 hz with hz|hz
   ·exact hy z hz
   ·simp only[AGD,AHg,AI4]at hz
    rw[hz];exact y1) y3
  refine⟨wl',q1,?_⟩;rw[←q2,show f+(m+1)=(f+m)+1 by omega];have Ht:UK (wG c i wl):=h.ZI (by show AX AZ fX≤_;decide);rw[dy];unfold Hh;simp only[AB];rw[AEv (by omega),a5];have he:=Wt (w:=wG c i wl) (a:=0) (d:=[UInt8.ofNat (96+(i+1))]) Ht (by unfold Cp;omega) (by simp) (by show AX AZ fX≤_;decide);rw[AEv (B8.2 h)]at he;have y2':hAdd false (wG c i wl) 0 [UInt8.ofNat (96+(i+1))]=(wG c (i+1) (wl++[y]),true):=y2;rw[y2']at he;rw[show((wG c i wl).1,(wG c i wl).2.1,(wG c i wl).2.2.1,(wG c i wl).2.2.2.1,(wG c i wl).2.2.2.2.1,(wG c i wl).2.2.2.2.2.1,(wG c i wl).2.2.2.2.2.2.1,(wG c i wl).2.2.2.2.2.2.2.1,(wG c i wl).2.2.2.2.2.2.2.2.1,(wG c i wl).2.2.2.2.2.2.2.2.2.1,(wG c i wl).2.2.2.2.2.2.2.2.2.2.1,())=wG c i wl from rfl,he];simp only[AE9];rw[AR (x:=(i:Int)+1) (by omega) (by omega),show(i:Int)+1=((i+1:Nat):Int)by omega];rfl
theorem aF:∀{n:Nat},n≤4→VC (told n++[(4,2,[],())])=VE n∧(VE n).filter (lH 0)=VE n
 |0,_=>by decide
 |1,_=>by decide
 |2,_=>by decide
 |3,_=>by decide
 |4,_=>by decide
 |n+5,h=>by omega
theorem ux{n i:Nat}(hi:i<n)(hn:n≤4):(VE n).getD i (0,[],false,())=(D3 1 ((i+1:Nat):Int),[UInt8.ofNat (96+(i+1))],true,())∧mZ (D3 1 ((i+1:Nat):Int)) (VE n)=([UInt8.ofNat (96+(i+1))],true)∧CM (D3 1 ((i+1:Nat):Int))=((i+1:Nat):Int):=by
 obtain⟨rfl,rfl⟩|⟨rfl,rfl⟩|⟨rfl,rfl⟩|⟨rfl,rfl⟩|⟨rfl,rfl⟩|⟨rfl,rfl⟩|⟨rfl,rfl⟩|⟨rfl,rfl⟩|⟨rfl,rfl⟩|⟨rfl,rfl⟩:(n=1∧i=0)∨(n=2∧i=0)∨(n=2∧i=1)∨(n=3∧i=0)∨(n=3∧i=1)∨(n=3∧i=2)∨(n=4∧i=0)∨(n=4∧i=1)∨(n=4∧i=2)∨(n=4∧i=3):=by omega
 all_goals decide
def wE(c:BN)(n:Nat)(wl:List AY):AA:=C3 c 0 AO (Li n n,[],1,()) (OQ c n) [(1,wl,()),(2,[],())] [] [(2,1,told n++[(4,2,[],())],()),(1,1,[],())] (VE n)
theorem wD:∀{n:Nat},n≤4→AX AZ [((2,1,told n++[(4,2,[],())],()):AN),(1,1,[],())]≤900000
 |0,_=>by decide
 |1,_=>by decide
 |2,_=>by decide
 |3,_=>by decide
 |4,_=>by decide
 |n+5,h=>by omega
theorem da{c:BN}{wl:List AY}{n:Nat}(hn:n≤4)(h:EF (wE c n wl)):∀(m i f:Nat),i+m=n→m<f→zc f (n:Int) (i:Int) (wE c n wl) (VE n) (VE n)=some ((true,()),())
 |m,i,0,_,hf=>by omega
 |0,i,f+1,hi,hf=>by
  rw[dJ];unfold He;simp only[AB];rw[AE4 (by omega)];rfl
 |m+1,i,f+1,hi,hf=>by
  obtain⟨a1,a2,a3⟩:=ux (i:=i) (n:=n) (by omega) hn;have hl:=(UU (i:=n)).2.2;have Ht:UK (wE c n wl):=h.ZI (wD hn);have AEV:UB (wE c n wl)=VE n:=by
   unfold UB;rw[B8.2 h];exact(aF hn).2
  rw[dJ];unfold He;simp only[AB];have hb:(0:Int)≤(i:Int)∧(i:Int)<((VE n).length:Int):=by omega
  rw[AEv (by omega),AEv hb,AFL,a1,show((wE c n wl).1,(wE c n wl).2.1,(wE c n wl).2.2.1,(wE c n wl).2.2.2.1,(wE c n wl).2.2.2.2.1,(wE c n wl).2.2.2.2.2.1,(wE c n wl).2.2.2.2.2.2.1,(wE c n wl).2.2.2.2.2.2.2.1,(wE c n wl).2.2.2.2.2.2.2.2.1,(wE c n wl).2.2.2.2.2.2.2.2.2.1,(wE c n wl).2.2.2.2.2.2.2.2.2.2.1,())=wE c n wl from rfl,cY Ht,AEV,a2];simp only[AE9];rw[AEv hb,AEv hb,AHe,AHe];rw[show((true:Bool)==true)=true from rfl,show(!(true&&(true&&(true&&true))))=false from rfl,AFM,AE7,AFM];have a5:=(bQ (i:=i) (by omega)).2.2.2.2;rw[a5,AHe,AE7,AFM,AEv hb,Nb (by unfold Cp D3;omega),a3];simp only[AE9];rw[AR (x:=(i:Int)+1) (by omega) (by omega),show(i:Int)+1=((i+1:Nat):Int)by omega,AIq,AFM];exact da hn h m (i+1) f (by omega) (by omega)
theorem iE{x:AAG}(hv:Go.Fw.Vd (.sl (.int .u8)) x)(hl:x.length≤2^30):∃r,Zc x 1=some ((r,()),())∧0≤r:=by
 unfold Zc;simp only[AB];by_cases h:(1:Int)<(x.length:Int)
 ·rw[AEv h,AEv ⟨by omega,h⟩]
  have hm:x.getD (1:Int).toNat 0∈x:=CE (d:=(0:Int)) (i:=1) (by omega);have hb:=wf_u8 (hv.2 _ hm);refine⟨_,rfl,?_⟩;rw[AR (by omega) (by omega)];omega
 ·rw[AE4 h]
  refine⟨_,rfl,?_⟩;rw[AR (x:=(1:Int)*7) (by omega) (by omega),AR (by omega) (by omega),AH5 (by omega)];omega
theorem xY{c:BN}(Ft:holds c (BX 0 c.1.length)=true){n:Nat}(hn:n≤4){wl:List AY}(h:EF (wG c n wl)){f:Nat}(hf:10<f):uX (f+1) (2^c.1.length-1) 0 (n:Int) (n:Int) (wG c n wl)=some ((true,()),()):=by
 have hK:=(EG (show C4 c=true from h.cfg)).2.1;have ql:Cp (2^c.1.length-1:Int):=ow hK;have Ht:UK (wG c n wl):=h.ZI (by show AX AZ fX≤_;decide);obtain⟨o1,o2⟩:=dv (mask:=2^c.1.length-1) h (aZ hK) Ft (by simp) (by simp);have o2':EF (C3 c 0 AO (Li n 0,[],0,()) (Lj c) [(1,wl,()),(2,[],())] [] fX (VE n)):=o2;obtain⟨m1,m2⟩:=kX Ft hn o2';obtain⟨r1,r2⟩:=a8 Ft hn n 0 (198-n) (by omega) (r1:=(1,1,[],())) (wl:=wl) (ss:=VE n) m2;rw[show 198-n+n+2=200 by omega]at r1;have r2':EF (wE c n wl):=r2;have hlen:=(UU (i:=n)).2.2;have vn:UK (wE c n wl):=r2'.ZI (wD hn);rw[dy];unfold Hh;simp only[AB];rw[AE4 (by omega)];rw[show((wG c n wl).1,(wG c n wl).2.1,(wG c n wl).2.2.1,(wG c n wl).2.2.2.1,(wG c n wl).2.2.2.2.1,(wG c n wl).2.2.2.2.2.1,(wG c n wl).2.2.2.2.2.2.1,(wG c n wl).2.2.2.2.2.2.2.1,(wG c n wl).2.2.2.2.2.2.2.2.1,(wG c n wl).2.2.2.2.2.2.2.2.2.1,(wG c n wl).2.2.2.2.2.2.2.2.2.2.1,())=wG c n wl from rfl,Ee (d:=(1,2^c.1.length-1,0,0,[],())) Ht ql];simp only[AE9];have o1':BS false (wG c n wl) (1,2^c.1.length-1,0,0,[],())=(C3 c 0 AO (Li n 0,[],0,()) (Lj c) [(1,wl,()),(2,[],())] [] fX (VE n),0):=o1;rw[o1'];have hm:=Vq (w:=C3 c 0 AO (Li n 0,[],0,()) (Lj c) [(1,wl,()),(2,[],())] [] fX (VE n)) (o2'.ZI (by show AX AZ fX≤_;decide)) (by show AX AZ fX≤_;decide);rw[m1]at hm;refine(congrArg (fun o=>Option.bind o _) hm).trans ?_
 simp only[AE9];have hR:=VY (w:=C3 c 0 AO (Li n n,[],1,()) (OQ c n) [(1,wl,()),(2,[],())] [] fX (VE n)) (a:=0) (m2.ZI (by show AX AZ fX≤_;decide)) (by unfold Cp;omega) (by show AX AZ fX≤_;decide);have r1':P7 200 (C3 c 0 AO (Li n n,[],1,()) (OQ c n) [(1,wl,()),(2,[],())] [] fX (VE n)) 0=(wE c n wl,(n:Int)+1):=r1;rw[AEv (show B4 (C3 c 0 AO (Li n n,[],1,()) (OQ c n) [(1,wl,()),(2,[],())] [] fX (VE n))=true from B8.2 m2),r1']at hR;refine(congrArg (fun o=>Option.bind o _) hR).trans ?_
 simp only[AE9];have hT:=aa vn (p:=0);have hL:=VL vn;have tT:Va (wE c n wl) 0=VE n:=by
  unfold Va;rw[B8.2 r2'];exact(aF hn).1
 have tL:UB (wE c n wl)=VE n:=by
  unfold UB;rw[B8.2 r2'];exact(aF hn).2
 rw[tT]at hT;rw[tL]at hL;refine(congrArg (fun o=>Option.bind o _) hT).trans ?_
 simp only[AE9];refine(congrArg (fun o=>Option.bind o _) hL).trans ?_
 simp only[AE9];rw[show((0:Int) !=0)=false from rfl,AFM,show((Uz (C3 c 0 AO (Li n 0,[],0,()) (Lj c) [(1,wl,()),(2,[],())] [] fX (VE n),0)).1.1.2.1 !=0)=false from rfl,AFM];rw[AR (x:=(n:Int)+1) (by omega) (by omega),hlen,AIq,AFM];have e30:=da hn r2' n 0 f (by omega) (by omega);rw[show(rZ (wE c n wl) ((n:Int)+1)).1.1.2.1=(n:Int)+1 from rfl,AIq,AFM,AFM];rw[show(!(jr (yp (C3 c 0 AO (Li n 0,[],0,()) (Lj c) [(1,wl,()),(2,[],())] [] fX (VE n)) (some (C3 c 0 AO (Li n n,[],1,()) [(BX 0 c.1.length,true,(n:Int),()),(BX 0 c.1.length,false,0,())] [(1,wl,()),(2,[],())] [] fX (VE n))))).1.1.2.1)=false from rfl,AFM];exact e30
theorem gR{x:AAG}(hv:Go.Fw.Vd (.sl (.int .u8)) x):Ls x=some ((true,()),()):=by
 unfold Ls PV bc;simp only[AE9,AB];by_cases hs:(x.length:Int)>1048576
 ·rw[AEv hs]
 rw[AE4 hs];have hc:x.length≤2^30:=by omega
 obtain⟨h0,e0⟩:=rM hc;unfold L4;rw[e0];simp only[AF];obtain⟨q,i1,h1,y,e1,hi1,hq⟩:=kL hc (i:=0) (hh:=h0) ⟨by omega,by omega⟩;rw[e1];simp only[AF]
 generalize hcd:((y.1,q.1.2.1,()):BN)=c
 have hl:c.1.length≤9:=by rw[←hcd];exact hq
 have hy:y.1=c.1:=by rw[←hcd]
 have hy2:q.1.2.1=c.2.1:=by rw[←hcd]
 rw[YI (by omega),hy,hy2];simp only[AF];obtain⟨g,hg⟩:∃g,Aq=(g+20+1)+c.1.length:=⟨Aq-c.1.length-21,by have:=Aw (n:=100) (by omega);omega⟩;have jM:=Zg (k:=0) (m:=c.1.length);cases Dg:C4 c with
 |false=>
  have hL:=cE (x:=x) (ok:=false) (c:=c) (w:=Ia) (by omega) c.1.length 0 (g+20+1) (by omega);rw[←hg]at hL;refine Eq.trans (show _=wh7 Aq x false ((0:Nat):Int) c Ia (BX 0 0)from rfl) (hL.trans ?_);rw[bM];unfold GU;simp only[AB];rw[AE4 (by omega),AHQ,AGV,show(c.1,c.2.1,())=c from rfl,M4 (by omega),Dg,Df (by omega) (by omega),VD (by omega) (by omega)];simp only[AE9,AHe,AGV]
 |true=>
  have hL:=cE (x:=x) (ok:=true) (c:=c) (w:=Iq c) (by omega) c.1.length 0 (g+20+1) (by omega);rw[←hg]at hL;refine Eq.trans (show _=wh7 Aq x true ((0:Nat):Int) c (Iq c) (BX 0 0)from rfl) (hL.trans ?_);have hw:=(YY Dg).1;have Ht:=Wn (c:=c) (by omega);rw[bM];unfold GU;simp only[AB];rw[AE4 (by omega),AE7,AFM,show(c.1,c.2.1,())=c from rfl,M4 (by omega),Dg,Df (by omega) (by omega),VD (by omega) (by omega)];simp only[AE9,AHe,AGV];cases Ft:holds c (BX 0 c.1.length)with
  |false=>rfl
  |true=>
   have hK:=(EG Dg).2.1;obtain⟨r,e2,hr⟩:=iE hv hc;rw[AE7,AFM,Wu hK,e2];simp only[AE9];have hn:r.tmod 5=((r%5).toNat:Int)∧(r%5).toNat≤4:=by
    rw[AH5 hr];omega
   rw[hn.1]
   generalize (r%5).toNat=n at*
   have hn4:=hn.2;have ql:=ow hK;have hw0:EF (C3 c 0 AO AO [] [] [] fX []):=hw;obtain⟨o1,o2⟩:=dv (mask:=2^c.1.length-1) hw0 (aZ hK) Ft (by simp) (by simp);have ho:=Ee (d:=(1,2^c.1.length-1,0,0,[],())) Ht ql;rw[show BS false (Iq c) (1,2^c.1.length-1,0,0,[],())=_ from o1]at ho;refine(congrArg (fun o=>Option.bind o _) ho).trans ?_
   simp only[AE9];have o2':EF (wG c 0 []):=o2;obtain⟨wl',q1,q2⟩:=dq Ft hn4 (mk:=2^c.1.length-1) (k:=0) n 0 (g+20-n) (by omega) rfl (fun y hy=>by simp at hy) o2';rw[show g+20-n+n=g+20 by omega]at q2;obtain⟨g',gp⟩:∃g',g+20-n=g'+1:=⟨g+20-n-1,by omega⟩;have q3:=xY Ft hn4 q1 (f:=g') (by omega);rw[←gp,←q2]at q3;exact q3
end Go.M
end
