/- Plain facts on what the functions compute. -/
import Derived.Test.YtdofdihhmbbbhaaGreatM0
set_option linter.unusedVariables false
set_option linter.unusedSimpArgs false
set_option linter.unusedSectionVars false
section
set_option maxRecDepth 8000
namespace Go.M
open Go.M.H (AL AR A3 A0 AA Cb AQ BI AS Ab BC Bd CD Ak CN AY AU Aa Ae B5 A_ Av BF Dz Ba Cg C1)
section
variable{w:AA} (h:PH w)
include h
theorem AFq{d:CD}{a:Nat}(ha:d.2.1=(a:Int)):∀(n i:Nat) (b:List AS),i≤w.2.2.2.2.2.2.1.length→w.2.2.2.2.2.2.1.length-i<n→b.length≤i→
  Jz n i w.1 w.2.2.1 w.2.2.2.1 w.2.2.2.2.1 w.2.2.2.2.2.2.1 w.2.2.2.2.2.2.2.1 w.2.2.2.2.2.2.2.2.1 w.2.2.2.2.2.2.2.2.2.1 w.2.1 w.2.2.2.2.2.1 w.2.2.2.2.2.2.2.2.2.2.1 d.1 d.2.1 d.2.2.1 d.2.2.2.1 d.2.2.2.2.1 0 0 false [] [] [] [] [] [] [] [] b=some (tV (w.Aj (b++(if i≤a then(w.2.2.2.2.2.2.1.drop i).eraseIdx (a-i)else w.2.2.2.2.2.2.1.drop i)),0)):=by
 have k6:=h.nums.wr;intro n
 induction n with
 |zero=>intro i b _ h;omega
 |succ n ih=>
  intro i b hi hn hb;simp only[Jz,TY,AB,GX];by_cases D6:i<w.2.2.2.2.2.2.1.length
  ·have c1:(0:Int)≤(i:Int)∧(i:Int)<(w.2.2.2.2.2.2.1.length:Int):=by omega
   have c2:b.length+1≤Dd:=by rw[BA];omega
   rw[AIF c1.2];simp only[AIF c1,AIF c2];rw[A5 D6,AK (by omega) (by omega),show((i:Int)+1)=((i+1:Nat):Int)by omega,drop_cons D6,show(w.2.2.2.2.2.2.1[i].1,w.2.2.2.2.2.2.1[i].2.1,())=w.2.2.2.2.2.2.1[i]from rfl];by_cases he:(i:Int)=d.2.1
   ·rw[AIF he,ih (i+1) b (by omega) (by omega) (by omega),AIU (by omega),AIF (by omega),show a-i=0 by omega]
    rfl
   ·rw[AIU he,ih (i+1) _ (by omega) (by omega) (by simp;omega),AIg]
    by_cases hl:i+1≤a
    ·rw[AIF hl,AIF (by omega),show a-i=(a-(i+1))+1 by omega,List.eraseIdx_cons_succ]
     rfl
    ·rw[AIU hl,AIU (by omega)]
     rfl
  ·rw[AIU (by omega),AJQ (by omega)]
   have:(if i≤a then([]:List AS).eraseIdx (a-i)else[])=[]:=by split<;>simp
   rw[this,AKb];rfl
theorem eM{d:CD}:Rx w.2.1 w.2.2.2.2.2.1 w.2.2.2.2.2.2.2.2.2.2.1 d w.1 w.2.2.1 w.2.2.2.1 w.2.2.2.2.1 w.2.2.2.2.2.2.1 w.2.2.2.2.2.2.2.1 w.2.2.2.2.2.2.2.2.1 w.2.2.2.2.2.2.2.2.2.1=some (tV (V9 w d.2.1)):=by
 have k:=h.nums;have k1:=k.c;have k2:=k.wr;have k3:=k.lost;have k4:=k.st;have fD:=k.p8;have qF:=k.UN;have s9:=k.qW;have k5:=k.era;unfold Rx TH V9;rw[show(w.1,w.2.1,w.2.2.1,w.2.2.2.1,w.2.2.2.2.1,w.2.2.2.2.2.1,w.2.2.2.2.2.2.1,w.2.2.2.2.2.2.2.1,w.2.2.2.2.2.2.2.2.1,w.2.2.2.2.2.2.2.2.2.1,w.2.2.2.2.2.2.2.2.2.2.1,())=w from rfl,O5 (by omega)];simp only[AN,CJ];rcases AID (BL d.2.1 0 ((w.AO.length:Int)-1))with h1|h1
 rotate_left
 ·rw[h1];rfl
 have sD:=Bc.1 h1;have:=AFq h (d:=d) (a:=d.2.1.toNat) (by omega) AZ 0 [] (by omega) (Af (by omega)) (by simp);rw[show((0:Nat):Int)=0 from rfl,AK8,ALB,AIF (by omega),Nat.sub_zero]at this;rw[h1,AKM,NI,this]
theorem wa{d:CD}{ss:List AR}{ls:AAZ}{ws:List AS}(hls:ls.length≤2^20):∀(n i:Nat),i≤w.2.2.2.2.2.2.2.1.length→w.2.2.2.2.2.2.2.1.length-i<n→
  G8 n i w.1 ss w.2.2.2.1 w.2.2.2.2.1 ws ((w.2.2.2.2.2.2.2.1.map fun m=>(Dg (Ac w) m d.2.1).1).take i++w.2.2.2.2.2.2.2.1.drop i) w.2.2.2.2.2.2.2.2.1 w.2.2.2.2.2.2.2.2.2.1 w.2.1 w.2.2.2.2.2.1 w.2.2.2.2.2.2.2.2.2.2.1 ls d.1 d.2.1 d.2.2.1 d.2.2.2.1 d.2.2.2.2.1 0 0 false [] [] [] [] [] [] [] []=some (kc (((((w.BB ss).CO ls).Aj ws).BO (w.2.2.2.2.2.2.2.1.map fun m=>(Dg (Ac w) m d.2.1).1)).CV (w.Eb||holds (Ac w) ls),0)):=by
 have k:=h.nums;have k1:=k.c;have k6:=k.md;intro n
 induction n with
 |zero=>intro i _ h;omega
 |succ n ih=>
  intro i hi hn;simp only[G8,Rm,AB,CJ];rw[OY hi];by_cases D6:i<w.2.2.2.2.2.2.2.1.length
  ·have c1:(0:Int)≤(i:Int)∧(i:Int)<(w.2.2.2.2.2.2.2.1.length:Int):=by omega
   have hm:=(h.Bg _ (AKp D6)).1;have hmw:=hm.w;rw[AIF c1.2];simp only[AIF c1];rw[AJn,Q0 D6,AK (by omega) (by omega),show((i:Int)+1)=((i+1:Nat):Int)by omega,show(w.2.2.2.2.2.2.2.1[i].1,w.2.2.2.2.2.2.2.1[i].2.1,w.2.2.2.2.2.2.2.1[i].2.2.1,w.2.2.2.2.2.2.2.1[i].2.2.2.1,w.2.2.2.2.2.2.2.1[i].2.2.2.2.1,w.2.2.2.2.2.2.2.1[i].2.2.2.2.2.1,())=w.2.2.2.2.2.2.2.1[i]from rfl,show(w.1,w.2.1,())=Ac w from rfl,Zw (c:=Ac w) (by show w.1.length≤_;omega) (by omega) hm.vz];simp only[AN,mA];rw[show((Dg (Ac w) w.2.2.2.2.2.2.2.1[i] d.2.1).1.1,(Dg (Ac w) w.2.2.2.2.2.2.2.1[i] d.2.1).1.2.1,(Dg (Ac w) w.2.2.2.2.2.2.2.1[i] d.2.1).1.2.2.1,(Dg (Ac w) w.2.2.2.2.2.2.2.1[i] d.2.1).1.2.2.2.1,(Dg (Ac w) w.2.2.2.2.2.2.2.1[i] d.2.1).1.2.2.2.2.1,(Dg (Ac w) w.2.2.2.2.2.2.2.1[i] d.2.1).1.2.2.2.2.2.1,())=(Dg (Ac w) w.2.2.2.2.2.2.2.1[i] d.2.1).1 from rfl,WT D6 rfl];exact ih (i+1) (by omega) (by omega)
  ·have:i=w.2.2.2.2.2.2.2.1.length:=by omega
   rw[AIU (by omega),this,AN4,AKb,AM5 (by simp),show(w.1,w.2.1,())=Ac w from rfl,Cr (by show w.1.length≤_;omega) (by omega)];simp only[AN];cases ht:w.2.2.2.2.2.2.2.2.2.2.1 with
   |true=>
    have ht':w.Eb=true:=ht;rw[ht'];rfl
   |false=>
    have ht':w.Eb=false:=ht;rw[ht'];rfl
theorem ADj{d:CD}{ss:List AR}{ls:AAZ}(hls:ls.length≤2^20):∀(n i:Nat),i≤w.2.2.2.2.2.2.1.length→(w.2.2.2.2.2.2.1.length-i)+w.2.2.2.2.2.2.2.1.length+2≤n→
  Hs n i w.1 ss w.2.2.2.1 w.2.2.2.2.1 ((w.2.2.2.2.2.2.1.map fun x=>(DX (Ac w) x d.2.1).1).take i++w.2.2.2.2.2.2.1.drop i) w.2.2.2.2.2.2.2.1 w.2.2.2.2.2.2.2.2.1 w.2.2.2.2.2.2.2.2.2.1 w.2.1 w.2.2.2.2.2.1 w.2.2.2.2.2.2.2.2.2.2.1 ls d.1 d.2.1 d.2.2.1 d.2.2.2.1 d.2.2.2.2.1 0 0 false [] [] [] [] [] [] [] []=some (kc (((((w.BB ss).CO ls).Aj (w.2.2.2.2.2.2.1.map fun x=>(DX (Ac w) x d.2.1).1)).BO (w.2.2.2.2.2.2.2.1.map fun m=>(Dg (Ac w) m d.2.1).1)).CV (w.Eb||holds (Ac w) ls),0)):=by
 have k:=h.nums;have k1:=k.c;have k6:=k.wr;intro n
 induction n with
 |zero=>intro i _ h;omega
 |succ n ih=>
  intro i hi hn;simp only[Hs,Ts,AB,CJ];rw[OY hi];by_cases D6:i<w.2.2.2.2.2.2.1.length
  ·have c1:(0:Int)≤(i:Int)∧(i:Int)<(w.2.2.2.2.2.2.1.length:Int):=by omega
   have hm:=(h.AO _ (AKp D6)).1;have hmw:=hm.w;rw[AIF c1.2];simp only[AIF c1];rw[AJn,Q0 D6,AK (by omega) (by omega),show((i:Int)+1)=((i+1:Nat):Int)by omega,show(w.2.2.2.2.2.2.1[i].1,w.2.2.2.2.2.2.1[i].2.1,())=w.2.2.2.2.2.2.1[i]from rfl,show(w.1,w.2.1,())=Ac w from rfl,Xz (c:=Ac w) (by show w.1.length≤_;omega) (by have:Av w.2.2.2.2.2.2.1[i]=AY A_ w.2.2.2.2.2.2.1[i].2.1:=rfl;omega)];simp only[AN,pkW];rw[show((DX (Ac w) w.2.2.2.2.2.2.1[i] d.2.1).1.1,(DX (Ac w) w.2.2.2.2.2.2.1[i] d.2.1).1.2.1,())=(DX (Ac w) w.2.2.2.2.2.2.1[i] d.2.1).1 from rfl,WT D6 rfl];exact ih (i+1) (by omega) (by omega)
  ·have:i=w.2.2.2.2.2.2.1.length:=by omega
   have k11:=wa h (d:=d) (ss:=ss) (ws:=w.2.2.2.2.2.2.1.map fun x=>(DX (Ac w) x d.2.1).1) hls n 0 (by omega) (by omega);rw[show((0:Nat):Int)=0 from rfl,AK8,AOU,ALB]at k11;rw[AIU (by omega),this,AN4,AKb,AM5 (by simp),k11]
theorem eN{d:CD}:Sh w.2.1 w.2.2.2.2.2.1 w.2.2.2.2.2.2.2.2.2.2.1 d w.1 w.2.2.1 w.2.2.2.1 w.2.2.2.2.1 w.2.2.2.2.2.2.1 w.2.2.2.2.2.2.2.1 w.2.2.2.2.2.2.2.2.1 w.2.2.2.2.2.2.2.2.2.1=some (kc (Wl w d.2.1)):=by
 have k:=h.nums;have k1:=k.c;have k2:=k.wr;have k3:=k.lost;have k4:=k.st;have fD:=k.p8;have qF:=k.UN;have s9:=k.qW;have k5:=k.era;have k6:=k.md;unfold Sh TM Wl;rw[show(w.1,w.2.1,w.2.2.1,w.2.2.2.1,w.2.2.2.2.1,w.2.2.2.2.2.1,w.2.2.2.2.2.2.1,w.2.2.2.2.2.2.2.1,w.2.2.2.2.2.2.2.2.1,w.2.2.2.2.2.2.2.2.2.1,w.2.2.2.2.2.2.2.2.2.2.1,())=w from rfl,GL (by omega) (by omega)];simp only[AN,GX];by_cases h3:Bl w d.2.1=0
 rotate_left
 ·rw[AIU h3,AIF h3];rfl
 obtain⟨hr,s1,s2,s3⟩:=h.OZ h3;rw[AIF h3,AIU (show¬(Bl w d.2.1≠0)from fun hh=>hh h3),AIF hr,IJ (by omega)];simp only[AN];have hp:=Vz (n:=d.2.1) (l:=w.2.2.2.1);have:=ADj h (d:=d) (ss:=w.2.2.1.set d.2.1.toNat ([],[],0,())) (ls:=Ny d.2.1 w.2.2.2.1) (by omega) AZ 0 (by omega) (ANw (Af (by omega)));rw[show((0:Nat):Int)=0 from rfl,AK8,AOU,ALB]at this;exact this
end
end Go.M
end
section
set_option maxRecDepth 8000
namespace Go.M
open Go.M.H (AL AR A3 A0 AA Cb AQ BI AS Ab BC Bd CD Ak CN AY AU Aa Ae B5 A_ Av BF Dz Ba Cg C1)
theorem eqE{x e:AL}:(x.1==e.1&&(x.2.1==e.2.1&&(x.2.2.1==e.2.2.1&&(x.2.2.2.1==e.2.2.2.1&&true))))=decide (x=e):=by
 obtain⟨a,b,c,d,⟨⟩⟩:=x;obtain⟨a',b',c',d',⟨⟩⟩:=e;rw[Bool.eq_iff_iff];simp
theorem dw{m:A3}{o:Int}{l:List AAZ}(hl:l.length=m.2.2.2.2.2.1.length):Gy (m.1,m.2.1,m.2.2.1,m.2.2.2.1,m.2.2.2.2.1,l,()) o=Gy m o:=by
 unfold Gy;simp only[hl]
section
variable{w:AA} (h:PH w) {st:AR} (hs:XZ st) {n:Int} (hn:0≤n∧n<(Ac w).1.length) {SS:List AR}
include h hs hn
theorem AAY{ws:List AS}{se:List A0}{ms:List A3}{j B:Nat}{m:A3}{R:Option BQ}(hj:j<ms.length)(qq:ms.length≤2^20)(hlen:(ms.getD j Im).2.2.2.2.2.1.length=m.2.2.2.2.2.1.length)(hm:dO (Ac w) m)
  (hc:(CI w.A8 m.2.1).contains n=true)
  (cont:∀f,B≤f→BG f n ((j+1:Nat):Int) w.1 SS w.2.2.2.1 w.2.2.2.2.1 ws (ms.set j (m.1,m.2.1,m.2.2.1,m.2.2.2.1,m.2.2.2.2.1,Ht m st n 1 m.2.2.2.2.2.1,())) w.2.2.2.2.2.2.2.2.1 se w.2.1 w.2.2.2.2.2.1 w.2.2.2.2.2.2.2.2.2.2.1 0 0 false [] [] [] [] [] [] [] [] st.1 st.2.1 st.2.2.1=R):
  ∀(rest dn:List AAZ) (f:Nat),dn.length+rest.length=m.2.2.2.2.2.1.length→(∀l∈dn++rest,Ap (Ac w) l=true)→rest.length+B+1≤f→
   dn++Ht m st n ((dn.length:Int)+1) rest=Ht m st n 1 m.2.2.2.2.2.1→
   A9 f n (j:Int) ((dn.length:Int)+1) w.1 SS w.2.2.2.1 w.2.2.2.2.1 ws ms w.2.2.2.2.2.2.2.2.1 se w.2.1 w.2.2.2.2.2.1 w.2.2.2.2.2.2.2.2.2.2.1 0 0 false [] [] [] [] [] [] [] [] st.1 st.2.1 st.2.2.1 m.1 m.2.1 m.2.2.1 m.2.2.2.1 m.2.2.2.2.1 (dn++rest)=R:=by
 have k:=h.nums;have k1:=k.c;have k5:=k.era;have c1:(0:Int)≤(j:Int)∧(j:Int)<(ms.length:Int):=by omega
 have V2:(CI w.A8 m.2.1).length≤8:=Jj h;have s5:m.2.2.2.2.2.1.length≤60:=by
  have:=hm.n;have hb:=Jd (l:=m.2.2.2.1);split at this<;>omega
 intro rest
 induction rest with
 |nil=>
  intro dn f hl ho hf he;obtain⟨f,rfl⟩:∃f',f=f'+1:=⟨f-1,by simp at hf;omega⟩;simp only[AKu,ANB,AL1,Ht,AKb]at hl hf he;simp only[A9,GS,AB,AKb];simp only[AIF c1];rw[show ms.getD ((j:Int)).toNat (0,0,[],[],false,[],())=ms.getD j Im from rfl,hlen,AIU (by omega),AK (by omega) (by omega),show((j:Int)+1)=((j+1:Nat):Int)by omega,he,AJn];exact cont f (by omega)
 |cons x rest ih=>
  intro dn f hl ho hf he;obtain⟨f,rfl⟩:∃f',f=f'+1:=⟨f-1,by simp at hf;omega⟩;simp only[AJ0]at hl hf;simp only[A9,GS,AB];simp only[AIF c1];have iw:dO (Ac w) (m.1,m.2.1,m.2.2.1,m.2.2.2.1,m.2.2.2.2.1,dn++x::rest,()):=⟨hm.cfg,hm.ep,hm.b,hm.sld,hm.sK,hm.seen,ho,by
   have:=hm.n;simp only[AKE,AJ0];rw[←this];omega⟩
  have hmw:=iw.w;rw[show ms.getD ((j:Int)).toNat (0,0,[],[],false,[],())=ms.getD j Im from rfl,hlen,AIF (by omega),show(w.2.2.2.2.1,w.2.2.2.2.2.1,())=CL w from rfl,DY (r:=CL w) (by show AY B5 w.2.2.2.2.1≤_;omega)];rw[show(CL w).1=w.A8 from rfl];simp only[AN];rw[IC (by omega),hc];simp only[AN,AKM];have hdl:(dn++x::rest).length=m.2.2.2.2.2.1.length:=by simp only[AKE,AJ0];omega
  rw[Uf (m:=(m.1,m.2.1,m.2.2.1,m.2.2.2.1,m.2.2.2.2.1,dn++x::rest,())) (by omega),dw hdl];simp only[AN];have AMM:m.2.2.2.2.1=true:=by
   have:=hm.n;split at this
   ·assumption
   ·omega
  have AJg:∃e,Gy m ((dn.length:Int)+1)=some e:=by
   unfold Gy;rw[AMM,AIF (by
    simp only[AKT,AIo,Bc,AJJ];have:=hm.ep;omega)]
   split<;>exact⟨_,rfl⟩
  obtain⟨e,hee⟩:=AJg;have oP:=hs.w;rw[hee];simp only[AM1];rw[QH (JM (by omega)).1];simp only[AN,eqE,AB];rw[AK (by omega) (by omega)];simp only[Ht]at he;have hmd:lJ m st ((dn.length:Int)+1)=(WX e.1 st.1==some e):=by
   unfold lJ;rw[hee]
  cases hg:WX e.1 st.1 with
  |none=>
   simp only[AMY,AI5];rw[hmd,hg]at he;have:=ih (dn++[x]) f (by simp;omega) (by simpa using ho) (by omega) (by
    rw[←he];simp only[AKE,AJ0,AKu,AIg,ALJ];rw[show(((dn.length+(0+1):Nat):Int)+1)=(dn.length:Int)+1+1 by omega];simp)
   simp only[AKE,AJ0,AKu,AIg,ALJ]at this;rw[show(((dn.length+(0+1):Nat):Int)+1)=(dn.length:Int)+1+1 by omega]at this;exact this
  |some y=>
   simp only[ANJ,AKM,AM1];by_cases hye:y=e
   ·rw[AIF hye]
    rw[hmd,hg,hye]at he;rw[show(w.1,w.2.1,())=Ac w from rfl,XG (c:=Ac w) (m:=(m.1,m.2.1,m.2.2.1,m.2.2.2.1,m.2.2.2.2.1,dn++x::rest,())) (by show w.1.length≤_;omega) (by omega) iw.vz];have AGd:WR (Ac w) (m.1,m.2.1,m.2.2.1,m.2.2.2.1,m.2.2.2.2.1,dn++x::rest,()) ((dn.length:Int)+1) n=((m.1,m.2.1,m.2.2.1,m.2.2.2.1,m.2.2.2.2.1,dn++Ny n x::rest,()),true):=by
     unfold WR;rw[Jh.2 iw];have hq:(BL ((dn.length:Int)+1) 1 ((dn++x::rest).length:Int)&&BL n 0 (((Ac w).1.length:Int)-1))=true:=by
      rw[AIo,Bc,Bc];simp only[AKE,AJ0];omega
     simp only[AJN,AJp,ALG];rw[AIF hq];have e1:((dn.length:Int)+1-1).toNat=dn.length:=by omega
     rw[e1];have e2:(dn++x::rest).getD dn.length []=x:=by simp[List.getD]
     have e3:(dn++x::rest).set dn.length (Ny n x)=dn++Ny n x::rest:=by
      rw[AOA _ _ (by omega),AOF,ANs]
     rw[e2,e3]
    rw[AGd];simp only[AN,mA];have hx:=ho x (by simp);have:=ih (dn++[Ny n x]) f (by simp;omega) (by
     intro l yL;simp only[AIg,ALJ,AJ6,AKv]at yL;rcases yL with yL|rfl|yL
     ·exact ho l (by simp[yL])
     ·exact Lo hx hn
     ·exact ho l (by simp[yL])) (by omega) (by
     rw[←he];simp only[AKE,AJ0,AKu,AIg,ALJ];rw[show(((dn.length+(0+1):Nat):Int)+1)=(dn.length:Int)+1+1 by omega];simp)
    simp only[AKE,AJ0,AKu,AIg,ALJ]at this;rw[show(((dn.length+(0+1):Nat):Int)+1)=(dn.length:Int)+1+1 by omega]at this;exact this
   ·rw[AIU hye]
    have hf2:(some y==some e)=false:=by
     rw[ALt];exact fun hh=>hye (AN5 hh)
    rw[hmd,hg,hf2]at he;have:=ih (dn++[x]) f (by simp;omega) (by simpa using ho) (by omega) (by
     rw[←he];simp only[AKE,AJ0,AKu,AIg,ALJ];rw[show(((dn.length+(0+1):Nat):Int)+1)=(dn.length:Int)+1+1 by omega];simp)
    simp only[AKE,AJ0,AKu,AIg,ALJ]at this;rw[show(((dn.length+(0+1):Nat):Int)+1)=(dn.length:Int)+1+1 by omega]at this;exact this
theorem yF{ws:List AS}{se:List A0}:∀(k i:Nat),w.2.2.2.2.2.2.2.1.length-i=k→i≤w.2.2.2.2.2.2.2.1.length→ ∀f,k*100+1≤f→
  BG f n (i:Int) w.1 SS w.2.2.2.1 w.2.2.2.2.1 ws ((w.2.2.2.2.2.2.2.1.map (Q9 st w.A8 n)).take i++w.2.2.2.2.2.2.2.1.drop i) w.2.2.2.2.2.2.2.2.1 se w.2.1 w.2.2.2.2.2.1 w.2.2.2.2.2.2.2.2.2.2.1 0 0 false [] [] [] [] [] [] [] [] st.1 st.2.1 st.2.2.1=(some ((((),w.2.1,(),(),(),w.2.2.2.2.2.1,(),(),(),(),w.2.2.2.2.2.2.2.2.2.2.1,()),()),(w.1,SS,w.2.2.2.1,w.2.2.2.2.1,ws,(w.2.2.2.2.2.2.2.1.map (Q9 st w.A8 n)),w.2.2.2.2.2.2.2.2.1,se,())):Option BQ):=by
 have k:=h.nums;have k5:=k.era;have k6:=k.md;intro k
 induction k with
 |zero=>
  intro i hk hi f hf;obtain⟨f,rfl⟩:∃f',f=f'+1:=⟨f-1,by omega⟩;have:i=w.2.2.2.2.2.2.2.1.length:=by omega
  simp only[BG,IY,AB];rw[OY hi,AIU (by omega),this,AN4,AKb,AM5 (by simp)]
 |succ k ih=>
  intro i hk hi f hf;obtain⟨f,rfl⟩:∃f',f=f'+1:=⟨f-1,by omega⟩;have D6:i<w.2.2.2.2.2.2.2.1.length:=by omega
  have c1:(0:Int)≤(i:Int)∧(i:Int)<(w.2.2.2.2.2.2.2.1.length:Int):=by omega
  simp only[BG,IY,AB];rw[OY hi,AIF c1.2,AIF c1,AJn,Q0 D6];have hm:=(h.Bg _ (AKp D6)).1;have s5:w.2.2.2.2.2.2.2.1[i].2.2.2.2.2.1.length≤60:=by
   have:=hm.n;have hb:=Jd (l:=w.2.2.2.2.2.2.2.1[i].2.2.2.1);split at this<;>omega
  rcases AID ((CI w.A8 w.2.2.2.2.2.2.2.1[i].2.1).contains n)with hc|hc
  ·have hT:Q9 st w.A8 n w.2.2.2.2.2.2.2.1[i]=(w.2.2.2.2.2.2.2.1[i].1,w.2.2.2.2.2.2.2.1[i].2.1,w.2.2.2.2.2.2.2.1[i].2.2.1,w.2.2.2.2.2.2.2.1[i].2.2.2.1,w.2.2.2.2.2.2.2.1[i].2.2.2.2.1,Ht w.2.2.2.2.2.2.2.1[i] st n 1 w.2.2.2.2.2.2.2.1[i].2.2.2.2.2.1,()):=by
    unfold Q9;rw[AIF hc]
   have:=AAY h hs hn (SS:=SS) (ws:=ws) (se:=se) (ms:=(w.2.2.2.2.2.2.2.1.map (Q9 st w.A8 n)).take i++w.2.2.2.2.2.2.2.1.drop i) (j:=i) (B:=k*100+1) (m:=w.2.2.2.2.2.2.2.1[i]) (R:=(some ((((),w.2.1,(),(),(),w.2.2.2.2.2.1,(),(),(),(),w.2.2.2.2.2.2.2.2.2.2.1,()),()),(w.1,SS,w.2.2.2.1,w.2.2.2.2.1,ws,(w.2.2.2.2.2.2.2.1.map (Q9 st w.A8 n)),w.2.2.2.2.2.2.2.2.1,se,())):Option BQ)) (by rw[OY hi];exact D6) (by rw[OY hi];omega) (by rw[Q0 D6]) hm hc (fun f hf=>by
    rw[WT D6 hT.symm];exact ih (i+1) (by omega) (by omega) f hf) w.2.2.2.2.2.2.2.1[i].2.2.2.2.2.1 [] f (by simp) (by simpa using hm.wrote) (by omega) (by simp)
   simp only[AKu,ALB]at this;exact this
  ·have hT:Q9 st w.A8 n w.2.2.2.2.2.2.2.1[i]=w.2.2.2.2.2.2.2.1[i]:=by
    unfold Q9;rw[AIU (by rw[hc];simp)]
   obtain⟨f,rfl⟩:∃f',f=f'+1:=⟨f-1,by omega⟩;simp only[A9,GS,AB];have V2:(CI w.A8 w.2.2.2.2.2.2.2.1[i].2.1).length≤8:=Jj h;rw[OY hi];simp only[AIF c1];rw[AJn,Q0 D6,show(w.2.2.2.2.1,w.2.2.2.2.2.1,())=CL w from rfl,DY (r:=CL w) (by show AY B5 w.2.2.2.2.1≤_;omega)];rw[show(CL w).1=w.A8 from rfl];simp only[AN];rw[IC (by omega),hc,WT D6 (show(w.2.2.2.2.2.2.2.1[i].1,w.2.2.2.2.2.2.2.1[i].2.1,w.2.2.2.2.2.2.2.1[i].2.2.1,w.2.2.2.2.2.2.2.1[i].2.2.2.1,w.2.2.2.2.2.2.2.1[i].2.2.2.2.1,w.2.2.2.2.2.2.2.1[i].2.2.2.2.2.1,())=Q9 st w.A8 n w.2.2.2.2.2.2.2.1[i]from hT.symm),AK (x:=(i:Int)+1) (by omega) (by omega),show((i:Int)+1)=((i+1:Nat):Int)by omega,ih (i+1) (by omega) (by omega) f (by omega)];simp only[AN,AI5];split<;>rfl
end
end Go.M
end
section
set_option maxRecDepth 8000
namespace Go.M
open Go.M.H (AL AR A3 A0 AA Cb AQ BI AS Ab BC Bd CD Ak CN AY AU Aa Ae B5 A_ Av BF Dz Ba Cg C1)
theorem j_{x y:BI}(hx:x.2.2.1=false):∀{dn rest:List BI},KX (dn++y::rest)≤KX (dn++x::rest)
 |[],rest=>by
  simp only[ALB,KX,hx];cases y.2.2.1<;>simp
 |a::dn,rest=>by
  have:=j_ (y:=y) hx (dn:=dn) (rest:=rest);simp only[AMR,KX];cases a.2.2.1<;>simp<;>omega
section
variable{w:AA} (h:PH w) {st:AR} (hs:XZ st) {n:Int} (hn:0≤n∧n<(Ac w).1.length) {SS:List AR}
include h hs hn
theorem ABl{ws:List AS}{se:List A0}{j B:Nat}{ep x y:Int}{z:Bool}{old new:List BI}{R:Option BQ}(hj:j<2^20)(kQ:se.length≤120)(q8:∀s∈se,A7 s.1=true)(l9:new.length≤60)(hep:1≤ep∧ep≤30)
  (cont:∀f,B≤f→BD f n ((j+1:Nat):Int) w.1 SS w.2.2.2.1 w.2.2.2.2.1 ws w.2.2.2.2.2.2.2.1 w.2.2.2.2.2.2.2.2.1 (se.map (Rf true ep old new)) w.2.1 w.2.2.2.2.2.1 w.2.2.2.2.2.2.2.2.2.2.1 0 0 false [] [] [] [] [] [] [] [] st.1 st.2.1 st.2.2.1=R):
  ∀(k i:Nat),se.length-i=k→i≤se.length→ ∀f,k+B+1≤f→
   Aq f n (j:Int) (i:Int) x y z w.1 SS w.2.2.2.1 w.2.2.2.2.1 ws w.2.2.2.2.2.2.2.1 w.2.2.2.2.2.2.2.2.1 ((se.map (Rf true ep old new)).take i++se.drop i) w.2.1 w.2.2.2.2.2.1 w.2.2.2.2.2.2.2.2.2.2.1 0 0 false [] [] [] [] [] [] [] [] st.1 st.2.1 st.2.2.1 ep new=R:=by
 intro k
 induction k with
 |zero=>
  intro i hk hi f hf;obtain⟨f,rfl⟩:∃f',f=f'+1:=⟨f-1,by omega⟩;have:i=se.length:=by omega
  simp only[Aq,Ic,AB];rw[OY hi,AIU (by omega),this,AN4,AKb,AM5 (by simp),AK (by omega) (by omega),show((j:Int)+1)=((j+1:Nat):Int)by omega];exact cont f (by omega)
 |succ k ih=>
  intro i hk hi f hf;obtain⟨f,rfl⟩:∃f',f=f'+1:=⟨f-1,by omega⟩;have D6:i<se.length:=by omega
  have c1:(0:Int)≤(i:Int)∧(i:Int)<(se.length:Int):=by omega
  have hp:=q8 _ (AKp D6);have hpf:=Ns hp;have ih':=ih (i+1) (by omega) (by omega) f (by omega);simp only[Aq,Ic,AB,Fp];rw[OY hi,AIF c1.2];simp only[AIF c1];rw[AJn,Q0 D6,Cz (HB hp),VG (HB hp),AK (x:=(i:Int)+1) (by omega) (by omega),show((i:Int)+1)=((i+1:Nat):Int)by omega];simp only[AN];have skip:Rf true ep old new se[i]=se[i]→Aq f n (j:Int) ((i+1:Nat):Int) x y z w.1 SS w.2.2.2.1 w.2.2.2.2.1 ws w.2.2.2.2.2.2.2.1 w.2.2.2.2.2.2.2.2.1 ((se.map (Rf true ep old new)).take i++se.drop i) w.2.1 w.2.2.2.2.2.1 w.2.2.2.2.2.2.2.2.2.2.1 0 0 false [] [] [] [] [] [] [] [] st.1 st.2.1 st.2.2.1 ep new=R:=fun hm=>by
   rw[nK D6 hm];exact ih'
  by_cases he:Ag se[i].1=ep
  rotate_left
  ·rw[AIU he]
   refine skip ?_
   unfold Rf;rw[show(Ag se[i].1==ep)=false by rw[ALt];exact he];simp
  rw[AIF he];by_cases ho:Fm se[i].1≤(new.length:Int)
  rotate_left
  ·rw[AIU ho]
   refine skip ?_
   unfold Rf Z7;rw[show BL (Fm se[i].1) 1 (new.length:Int)=false by
    rw[ANV];intro hh;exact ho (Bc.1 hh).2]
   simp
  rw[AIF ho,AK (x:=Fm se[i].1-1) (by omega) (by omega),AIF (by omega)];have hd:Z7 new (Fm se[i].1)=(new.getD (Fm se[i].1-1).toNat Sy).2.2.1:=by
   unfold Z7;rw[Bc.2 ⟨hpf.2.1.1,ho⟩,AKT]
  have hd':(new.getD (Fm se[i].1-1).toNat ([],[],false,())).2.2.1=Z7 new (Fm se[i].1):=hd.symm;rw[hd'];cases hdd:Z7 new (Fm se[i].1)with
  |false=>
   rw[AI5];refine skip ?_
   unfold Rf;rw[hdd];simp
  |true=>
   rw[AKM,WT D6 (show(se[i].1,se[i].2.1,true,())=Rf true ep old new se[i]by
    unfold Rf;rw[hdd,he];simp)]
   exact ih'
theorem AHH{ws:List AS}{se:List A0}{j B:Nat}{ep x y:Int}{z:Bool}{l0:List BI}{R:Option BQ}(hj:j<ws.length)(qq:ws.length≤2^20)
  (cont:∀f,B≤f→Aq f n (j:Int) 0 x y z w.1 SS w.2.2.2.1 w.2.2.2.2.1 (ws.set j (ep,CY (Ac w) st ep n 1 l0,())) w.2.2.2.2.2.2.2.1 w.2.2.2.2.2.2.2.2.1 se w.2.1 w.2.2.2.2.2.1 w.2.2.2.2.2.2.2.2.2.2.1 0 0 false [] [] [] [] [] [] [] [] st.1 st.2.1 st.2.2.1 ep (CY (Ac w) st ep n 1 l0)=R):
  ∀(rest dn:List BI) (f:Nat),Za (Ac w) (ep,dn++rest,())→rest.length+B+1≤f→
   dn++CY (Ac w) st ep n ((dn.length:Int)+1) rest=CY (Ac w) st ep n 1 l0→
   An f n (j:Int) ((dn.length:Int)+1) x y z w.1 SS w.2.2.2.1 w.2.2.2.2.1 ws w.2.2.2.2.2.2.2.1 w.2.2.2.2.2.2.2.2.1 se w.2.1 w.2.2.2.2.2.1 w.2.2.2.2.2.2.2.2.2.2.1 0 0 false [] [] [] [] [] [] [] [] st.1 st.2.1 st.2.2.1 ep (dn++rest)=R:=by
 have k1:=h.nums.c;have oP:=hs.w;intro rest
 induction rest with
 |nil=>
  intro dn f hw hf he;obtain⟨f,rfl⟩:∃f',f=f'+1:=⟨f-1,by simp at hf;omega⟩;simp only[AKu,AL1,CY,AKb]at hf he;simp only[An,Jf,AB,AKb];rw[AIU (by omega),AIF (by omega),he,AJn];exact cont f (by omega)
 |cons a rest ih=>
  intro dn f hw hf he;obtain⟨f,rfl⟩:∃f',f=f'+1:=⟨f-1,by simp at hf;omega⟩;simp only[AJ0]at hf;have hwe:1≤ep∧ep≤30:=hw.ep;have hwn:(dn++a::rest).length≤60:=hw.n;have hww:=hw.w;have hwl:=hwn;simp only[AKE,AJ0]at hwl;simp only[An,Jf,AB,CJ,GX];rw[AIF (by simp only[AKE,AJ0];omega),D9 (by omega) (by omega)];simp only[AN];rw[QH (JM (by omega)).1];simp only[AN];rw[AK (x:=(dn.length:Int)+1+1) (by omega) (by omega),AK (x:=(dn.length:Int)+1-1) (by omega) (by omega),AIF (show(0:Int)≤(dn.length:Int)+1-1∧(dn.length:Int)+1-1<((dn++a::rest).length:Int)by simp only[AKE,AJ0];omega)];have e1:((dn.length:Int)+1-1).toNat=dn.length:=by omega
  have e2:(dn++a::rest).getD dn.length ([],[],false,())=a:=by simp[List.getD]
  rw[e1,e2];simp only[CY]at he;have go:∀b:BI,Za (Ac w) (ep,dn++b::rest,())→(if(!a.2.2.1&&iB st (Pj ep ((dn.length:Int)+1)))=true then YL (Ac w) n a else a)=b→
    An f n (j:Int) ((dn.length:Int)+1+1) x y z w.1 SS w.2.2.2.1 w.2.2.2.2.1 ws w.2.2.2.2.2.2.2.1 w.2.2.2.2.2.2.2.2.1 se w.2.1 w.2.2.2.2.2.1 w.2.2.2.2.2.2.2.2.2.2.1 0 0 false [] [] [] [] [] [] [] [] st.1 st.2.1 st.2.2.1 ep (dn++b::rest)=R:=fun b hb hab=>by
   rw[hab]at he;have:=ih (dn++[b]) f (by simpa using hb) (by omega) (by
    rw[←he];simp only[AKE,AJ0,AKu,AIg,ALJ];rw[show(((dn.length+(0+1):Nat):Int)+1)=(dn.length:Int)+1+1 by omega])
   simp only[AKE,AJ0,AKu,AIg,ALJ]at this;rw[show(((dn.length+(0+1):Nat):Int)+1)=(dn.length:Int)+1+1 by omega]at this;exact this
  cases hg:WX (Pj ep ((dn.length:Int)+1)) st.1 with
  |none=>
   simp only[AMY,AI5];exact go a hw (by unfold iB;rw[hg];simp)
  |some e=>
   simp only[ANJ,AKM,AM1];by_cases he0:e.2.1=0
   rotate_left
   ·rw[AIU he0]
    exact go a hw (by unfold iB;rw[hg];simp[he0])
   rw[AIF he0];cases had:a.2.2.1 with
   |true=>
    rw[AKM];exact go a hw (by rw[had];simp)
   |false=>
    rw[AI5];have ha:=hw.words a (by simp);have hb:Za (Ac w) (ep,dn++YL (Ac w) n a::rest,()):=⟨hw.cfg,hw.ep,by simpa using hwn,fun b hb=>by
     simp only[AJ6,AKv]at hb;rcases hb with hb|rfl|hb
     ·exact hw.words b (by simp[hb])
     ·exact⟨ha.1,Lo ha.2.1 hn,rfl⟩
     ·exact hw.words b (by simp[hb]),ALM (j_ had) hw.opn⟩
    rw[show(w.1,w.2.1,())=Ac w from rfl,bI (c:=Ac w) (w:=(ep,dn++a::rest,())) (by show w.1.length≤_;omega) (by have:Av (ep,dn++a::rest,())=AY A_ (dn++a::rest):=rfl;show AY A_ (dn++a::rest)≤_;omega)];have AGd:Yd (Ac w) (ep,dn++a::rest,()) ((dn.length:Int)+1) n=((ep,dn++YL (Ac w) n a::rest,()),true):=by
     unfold Yd;rw[Ly.2 hw];simp only[AJN,AJp,ALG];rw[e1,show(dn++a::rest).getD dn.length Sy=a from e2,had];rw[AIF (by
      rw[AIo,AIo,Bc,Bc];simp only[AKE,AJ0];refine⟨by omega,by omega,rfl⟩)]
     rw[AOA _ _ (by omega),AOF,ANs]
    rw[AGd];simp only[AN,pkW];exact go _ hb (by unfold iB;rw[hg];simp[he0,had])
theorem AD1:∀(rest pre:List AS) (se:List A0) (f:Nat),(pre++rest).length≤4→(∀x∈rest,Za (Ac w) x)→se.length≤120→(∀s∈se,A7 s.1=true)→rest.length*300+w.2.2.2.2.2.2.2.1.length*100+2≤f→
  BD f n (pre.length:Int) w.1 SS w.2.2.2.1 w.2.2.2.2.1 (pre++rest) w.2.2.2.2.2.2.2.1 w.2.2.2.2.2.2.2.2.1 se w.2.1 w.2.2.2.2.2.1 w.2.2.2.2.2.2.2.2.2.2.1 0 0 false [] [] [] [] [] [] [] [] st.1 st.2.1 st.2.2.1=(some ((((),w.2.1,(),(),(),w.2.2.2.2.2.1,(),(),(),(),w.2.2.2.2.2.2.2.2.2.2.1,()),()),(w.1,SS,w.2.2.2.1,w.2.2.2.2.1,(pre++(IQ true (Ac w) st w.A8 n rest se).1),(w.2.2.2.2.2.2.2.1.map (Q9 st w.A8 n)),w.2.2.2.2.2.2.2.2.1,(IQ true (Ac w) st w.A8 n rest se).2,())):Option BQ):=by
 have k5:=h.nums.era;intro rest
 induction rest with
 |nil=>
  intro pre se f hl hw kQ q8 hf;obtain⟨f,rfl⟩:∃f',f=f'+1:=⟨f-1,by omega⟩;simp only[BD,JR,AB];have:=yF h hs hn (SS:=SS) (ws:=pre) (se:=se) w.2.2.2.2.2.2.2.1.length 0 (by omega) (by omega) f (by omega);rw[show((0:Nat):Int)=0 from rfl,AK8,AOU,ALB]at this;rw[AKb,AIU (by omega),this];simp only[IQ,AKb]
 |cons a rest ih=>
  intro pre se f hl hw kQ q8 hf;simp only[AKE,AJ0]at hl hf;obtain⟨f,rfl⟩:∃f',f=f'+1:=⟨f-1,by omega⟩;simp only[BD,JR,AB,CJ];have sP:(pre++a::rest).length=pre.length+(rest.length+1):=by simp
  have c1:(0:Int)≤(pre.length:Int)∧(pre.length:Int)<((pre++a::rest).length:Int):=by omega
  have e2:(pre++a::rest).getD pre.length (0,[],())=a:=by simp[List.getD]
  have V2:(CI w.A8 a.1).length≤8:=Jj h;rw[AIF c1.2,AIF c1,AJn,e2,show(w.2.2.2.2.1,w.2.2.2.2.2.1,())=CL w from rfl,DY (r:=CL w) (by show AY B5 w.2.2.2.2.1≤_;omega)];rw[show(CL w).1=w.A8 from rfl];simp only[AN];rw[IC (by omega),AK (by omega) (by omega),show((pre.length:Int)+1)=((pre.length+1:Nat):Int)by omega];simp only[AN];have ha:=hw a (by simp);have hae:=ha.ep;have han:=ha.n;have next:∀(b:AS) (se':List A0) (f:Nat),se'.length≤120→(∀s∈se',A7 s.1=true)→rest.length*300+w.2.2.2.2.2.2.2.1.length*100+2≤f→
    BD f n ((pre.length+1:Nat):Int) w.1 SS w.2.2.2.1 w.2.2.2.2.1 (pre++b::rest) w.2.2.2.2.2.2.2.1 w.2.2.2.2.2.2.2.2.1 se' w.2.1 w.2.2.2.2.2.1 w.2.2.2.2.2.2.2.2.2.2.1 0 0 false [] [] [] [] [] [] [] [] st.1 st.2.1 st.2.2.1=(some ((((),w.2.1,(),(),(),w.2.2.2.2.2.1,(),(),(),(),w.2.2.2.2.2.2.2.2.2.2.1,()),()),(w.1,SS,w.2.2.2.1,w.2.2.2.2.1,(pre++b::(IQ true (Ac w) st w.A8 n rest se').1),(w.2.2.2.2.2.2.2.1.map (Q9 st w.A8 n)),w.2.2.2.2.2.2.2.2.1,(IQ true (Ac w) st w.A8 n rest se').2,())):Option BQ):=fun b se' f h1 h2 h3=>by
   have:=ih (pre++[b]) se' f (by simp only[AKE,AJ0,AKu];omega) (fun x hx=>hw x (by simp[hx])) h1 h2 h3;simp only[AKE,AJ0,AKu,AIg,ALJ]at this;exact this
  simp only[IQ];rcases AID (bZ st w.A8 n a)with ht|ht
  rotate_left
  ·rw[ht]
   simp only[AJp,ALG];unfold bZ at ht;rcases AID ((CI w.A8 a.1).contains n)with hc|hc
   ·rw[hc,AKT,AMX]at ht
    rw[hc,AKM,AIF (by omega)];exact next a se f kQ q8 (by omega)
   ·rw[hc,AI5]
    exact next a se f kQ q8 (by omega)
  ·rw[ht]
   simp only[AMF];unfold bZ at ht;rw[AIo,AJJ]at ht;rw[ht.1,AKM,AIU (by omega)];have htl:=(Wa (s:=st) (ep:=a.1) hn (o:=1) ha.words).2.2;have hsm:∀s∈se.map (Rf true a.1 a.2.1 (CY (Ac w) st a.1 n 1 a.2.1)),A7 s.1=true:=fun s hs' =>by
    obtain⟨s',h1,rfl⟩:=ANC.1 hs';exact q8 s' h1
   have:=AHH h hs hn (SS:=SS) (ws:=pre++a::rest) (se:=se) (j:=pre.length) (B:=rest.length*300+w.2.2.2.2.2.2.2.1.length*100+2+130) (ep:=a.1) (x:=st.2.2.1) (y:=a.1) (z:=decide (st.2.2.1≥a.1)) (l0:=a.2.1) (R:=(some ((((),w.2.1,(),(),(),w.2.2.2.2.2.1,(),(),(),(),w.2.2.2.2.2.2.2.2.2.2.1,()),()),(w.1,SS,w.2.2.2.1,w.2.2.2.2.1,(pre++(a.1,CY (Ac w) st a.1 n 1 a.2.1,())::(IQ true (Ac w) st w.A8 n rest (se.map (Rf true a.1 a.2.1 (CY (Ac w) st a.1 n 1 a.2.1)))).1),(w.2.2.2.2.2.2.2.1.map (Q9 st w.A8 n)),w.2.2.2.2.2.2.2.2.1,(IQ true (Ac w) st w.A8 n rest (se.map (Rf true a.1 a.2.1 (CY (Ac w) st a.1 n 1 a.2.1)))).2,())):Option BQ)) (by omega) (by omega) (fun f hf=>by
    have:=ABl h hs hn (SS:=SS) (ws:=(pre++a::rest).set pre.length (a.1,CY (Ac w) st a.1 n 1 a.2.1,())) (se:=se) (j:=pre.length) (B:=rest.length*300+w.2.2.2.2.2.2.2.1.length*100+2) (ep:=a.1) (x:=st.2.2.1) (y:=a.1) (z:=decide (st.2.2.1≥a.1)) (old:=a.2.1) (new:=CY (Ac w) st a.1 n 1 a.2.1) (R:=(some ((((),w.2.1,(),(),(),w.2.2.2.2.2.1,(),(),(),(),w.2.2.2.2.2.2.2.2.2.2.1,()),()),(w.1,SS,w.2.2.2.1,w.2.2.2.2.1,(pre++(a.1,CY (Ac w) st a.1 n 1 a.2.1,())::(IQ true (Ac w) st w.A8 n rest (se.map (Rf true a.1 a.2.1 (CY (Ac w) st a.1 n 1 a.2.1)))).1),(w.2.2.2.2.2.2.2.1.map (Q9 st w.A8 n)),w.2.2.2.2.2.2.2.2.1,(IQ true (Ac w) st w.A8 n rest (se.map (Rf true a.1 a.2.1 (CY (Ac w) st a.1 n 1 a.2.1)))).2,())):Option BQ)) (by omega) kQ q8 (by omega) hae (fun f hf=>by
     rw[AOA _ _ (by omega),AOF,ANs];exact next _ _ f (by simpa using kQ) hsm hf) se.length 0 (by omega) (by omega) f (by omega)
    rw[show((0:Nat):Int)=0 from rfl,AK8,AOU,ALB]at this;exact this) a.2.1 [] f (by simpa using ha) (by omega) (by simp)
   simp only[AKu,ALB]at this;exact this
end
section
variable{w:AA} (h:PH w)
include h
theorem dk{d:CD}:SH w.2.1 w.2.2.2.2.2.1 w.2.2.2.2.2.2.2.2.2.2.1 d w.1 w.2.2.1 w.2.2.2.1 w.2.2.2.2.1 w.2.2.2.2.2.2.1 w.2.2.2.2.2.2.2.1 w.2.2.2.2.2.2.2.2.1 w.2.2.2.2.2.2.2.2.2.1=some (pkD (Wt true w d.2.1)):=by
 have k:=h.nums;have k1:=k.c;have k2:=k.wr;have k3:=k.lost;have k4:=k.st;have fD:=k.p8;have qF:=k.UN;have s9:=k.qW;have k6:=k.md;unfold SH Wt;rw[show(w.1,w.2.1,w.2.2.1,w.2.2.2.1,w.2.2.2.2.1,w.2.2.2.2.2.1,w.2.2.2.2.2.2.1,w.2.2.2.2.2.2.2.1,w.2.2.2.2.2.2.2.2.1,w.2.2.2.2.2.2.2.2.2.1,w.2.2.2.2.2.2.2.2.2.2.1,())=w from rfl,GL (by omega) (by omega)];simp only[AN,GX,CJ];by_cases h3:Bl w d.2.1=0
 rotate_left
 ·rw[AIU h3,AIF h3];rfl
 obtain⟨hr,s1,s2,s3⟩:=h.OZ h3;have kQ:w.2.2.1.getD d.2.1.toNat ([],[],0,())=storeAt w d.2.1:=rfl;rw[AIF h3,AIU (show¬(Bl w d.2.1≠0)from fun hh=>hh h3)];simp only[AIF hr,kQ];rw[show((storeAt w d.2.1).1,(storeAt w d.2.1).2.1,(storeAt w d.2.1).2.2.1,())=storeAt w d.2.1 from rfl,KV s1 s2];simp only[AN,l8];rcases AID (Ch (storeAt w d.2.1)).2 with h6|h6
 rotate_left
 ·rw[h6];rfl
 have hq:=(Mg h6).2.1;have qB:=(h.node h3).1;rw[h6,AKM,NI];have Dj:d.2.1.toNat<w.2.2.1.length:=by omega
 unfold Ry NB;rw[AMK,AIF hr,ZK Dj];have:=AD1 h (st:=(Ch (storeAt w d.2.1)).1) hq qB (SS:=w.2.2.1.set d.2.1.toNat (Ch (storeAt w d.2.1)).1) w.2.2.2.2.2.2.1 [] w.2.2.2.2.2.2.2.2.2.1 AZ (by simpa using k2) (fun x hx=>(h.AO x hx).1) k.se (fun s hs=>(h.BZ s hs).1) (ANw (Af (by omega)));simp only[AKu,ALB]at this;rw[show((0:Nat):Int)=0 from rfl]at this;rw[show((Ch (storeAt w d.2.1)).1.1,(Ch (storeAt w d.2.1)).1.2.1,(Ch (storeAt w d.2.1)).1.2.2.1,())=(Ch (storeAt w d.2.1)).1 from rfl,this];rfl
end
end Go.M
end
section
set_option maxRecDepth 8000
namespace Go.M
open Go.M.H (AL AR A3 A0 AA Cb AQ BI AS Ab BC Bd CD Ak CN AY AU Aa Ae B5 A_ Av BF Dz Ba Cg C1)
section
variable{w:AA} (h:PH w)
include h
theorem jB{d:CD}(h64:Ck d.2.1)(hd:d.2.2.2.2.1.length≤40)(hk:1≤d.1∧d.1≤16):∃w',V5 w.2.1 w.2.2.2.2.2.1 w.2.2.2.2.2.2.2.2.2.2.1 d w.1 w.2.2.1 w.2.2.2.1 w.2.2.2.2.1 w.2.2.2.2.2.2.1 w.2.2.2.2.2.2.2.1 w.2.2.2.2.2.2.2.2.1 w.2.2.2.2.2.2.2.2.2.1=some (AGT (w',(Tw true w d).2))∧((Tw true w d).2=0→w' =(Tw true w d).1):=by
 have k:=h.nums;have k1:=k.c;have k5:=k.era;unfold V5 Tw;rw[show(d.1,d.2.1,d.2.2.1,d.2.2.2.1,d.2.2.2.2.1,())=d from rfl];simp only[Fp];by_cases c1:d.1=1
 ·simp only[AIF c1]
  rw[eS h];exact⟨_,rfl,fun _=>rfl⟩
 by_cases c2:d.1=2
 ·simp only[AIU (show¬d.1=1 by omega),AIF c2]
  obtain⟨w',e1,e2⟩:=iH h (d:=d) hd;rw[e1];exact⟨w',rfl,e2⟩
 by_cases c3:d.1=3
 ·simp only[AIU (show¬d.1=1 by omega),AIU (show¬d.1=2 by omega),AIF c3]
  rw[ba h];exact⟨_,rfl,fun _=>rfl⟩
 by_cases c4:d.1=4
 ·simp only[AIU (show¬d.1=1 by omega),AIU (show¬d.1=2 by omega),AIU (show¬d.1=3 by omega),AIF c4]
  rw[dk h];exact⟨_,rfl,fun _=>rfl⟩
 by_cases c6:d.1=6
 ·simp only[AIU (show¬d.1=1 by omega),AIU (show¬d.1=2 by omega),AIU (show¬d.1=3 by omega),AIU (show¬d.1=4 by omega),AIU (show¬d.1=5 by omega),AIF c6]
  rw[eN h];exact⟨_,rfl,fun _=>rfl⟩
 by_cases c7:d.1=7
 ·simp only[AIU (show¬d.1=1 by omega),AIU (show¬d.1=2 by omega),AIU (show¬d.1=3 by omega),AIU (show¬d.1=4 by omega),AIU (show¬d.1=5 by omega),AIU (show¬d.1=6 by omega),AIF c7]
  rw[eH h];exact⟨_,rfl,fun _=>rfl⟩
 by_cases c8:d.1=8
 ·simp only[AIU (show¬d.1=1 by omega),AIU (show¬d.1=2 by omega),AIU (show¬d.1=3 by omega),AIU (show¬d.1=4 by omega),AIU (show¬d.1=5 by omega),AIU (show¬d.1=6 by omega),AIU (show¬d.1=7 by omega),AIF c8]
  rw[dx h];exact⟨_,rfl,fun _=>rfl⟩
 by_cases c9:d.1=9
 ·simp only[AIU (show¬d.1=1 by omega),AIU (show¬d.1=2 by omega),AIU (show¬d.1=3 by omega),AIU (show¬d.1=4 by omega),AIU (show¬d.1=5 by omega),AIU (show¬d.1=6 by omega),AIU (show¬d.1=7 by omega),AIU (show¬d.1=8 by omega),AIF c9]
  rw[ea h];exact⟨_,rfl,fun _=>rfl⟩
 by_cases c10:d.1=10
 ·simp only[AIU (show¬d.1=1 by omega),AIU (show¬d.1=2 by omega),AIU (show¬d.1=3 by omega),AIU (show¬d.1=4 by omega),AIU (show¬d.1=5 by omega),AIU (show¬d.1=6 by omega),AIU (show¬d.1=7 by omega),AIU (show¬d.1=8 by omega),AIU (show¬d.1=9 by omega),AIF c10]
  rw[eI h];exact⟨_,rfl,fun _=>rfl⟩
 by_cases c11:d.1=11
 ·simp only[AIU (show¬d.1=1 by omega),AIU (show¬d.1=2 by omega),AIU (show¬d.1=3 by omega),AIU (show¬d.1=4 by omega),AIU (show¬d.1=5 by omega),AIU (show¬d.1=6 by omega),AIU (show¬d.1=7 by omega),AIU (show¬d.1=8 by omega),AIU (show¬d.1=9 by omega),AIU (show¬d.1=10 by omega),AIF c11]
  rw[gf h];exact⟨_,rfl,fun _=>rfl⟩
 by_cases c12:d.1=12
 ·simp only[AIU (show¬d.1=1 by omega),AIU (show¬d.1=2 by omega),AIU (show¬d.1=3 by omega),AIU (show¬d.1=4 by omega),AIU (show¬d.1=5 by omega),AIU (show¬d.1=6 by omega),AIU (show¬d.1=7 by omega),AIU (show¬d.1=8 by omega),AIU (show¬d.1=9 by omega),AIU (show¬d.1=10 by omega),AIU (show¬d.1=11 by omega),AIF c12]
  rw[cu h];exact⟨_,rfl,fun _=>rfl⟩
 by_cases c13:d.1=13
 ·simp only[AIU (show¬d.1=1 by omega),AIU (show¬d.1=2 by omega),AIU (show¬d.1=3 by omega),AIU (show¬d.1=4 by omega),AIU (show¬d.1=5 by omega),AIU (show¬d.1=6 by omega),AIU (show¬d.1=7 by omega),AIU (show¬d.1=8 by omega),AIU (show¬d.1=9 by omega),AIU (show¬d.1=10 by omega),AIU (show¬d.1=11 by omega),AIU (show¬d.1=12 by omega),AIF c13]
  rw[show(w.1,w.2.1,())=Ac w from rfl,show(w.2.2.2.2.1,w.2.2.2.2.2.1,())=CL w from rfl,XJ (c:=Ac w) (r:=CL w) (by show w.1.length≤_;omega) (by show AY B5 w.2.2.2.2.1≤_;omega) k.trim h64];simp only[AN,pkR,CJ,YB];rcases AID (SM (Ac w) (CL w) d.2.1).2 with hq|hq
  ·rw[hq];exact⟨_,rfl,fun _=>rfl⟩
  ·rw[hq];exact⟨w,rfl,fun _=>rfl⟩
 by_cases c14:d.1=14
 ·simp only[AIU (show¬d.1=1 by omega),AIU (show¬d.1=2 by omega),AIU (show¬d.1=3 by omega),AIU (show¬d.1=4 by omega),AIU (show¬d.1=5 by omega),AIU (show¬d.1=6 by omega),AIU (show¬d.1=7 by omega),AIU (show¬d.1=8 by omega),AIU (show¬d.1=9 by omega),AIU (show¬d.1=10 by omega),AIU (show¬d.1=11 by omega),AIU (show¬d.1=12 by omega),AIU (show¬d.1=13 by omega),AIF c14]
  rw[dy h];exact⟨_,rfl,fun _=>rfl⟩
 by_cases c15:d.1=15
 ·simp only[AIU (show¬d.1=1 by omega),AIU (show¬d.1=2 by omega),AIU (show¬d.1=3 by omega),AIU (show¬d.1=4 by omega),AIU (show¬d.1=5 by omega),AIU (show¬d.1=6 by omega),AIU (show¬d.1=7 by omega),AIU (show¬d.1=8 by omega),AIU (show¬d.1=9 by omega),AIU (show¬d.1=10 by omega),AIU (show¬d.1=11 by omega),AIU (show¬d.1=12 by omega),AIU (show¬d.1=13 by omega),AIU (show¬d.1=14 by omega),AIF c15]
  rw[eM h];exact⟨_,rfl,fun _=>rfl⟩
 simp only[AIU c1,AIU c2,AIU c3,AIU c4,AIU c6,AIU c7,AIU c8,AIU c9,AIU c10,AIU c11,AIU c12,AIU c13,AIU c14,AIU c15];rw[cA h];by_cases c5:d.1=5
 ·rw[AIF c5,AIU (by omega)]
  exact⟨_,rfl,fun _=>rfl⟩
 ·rw[AIU c5,AIF (by omega)]
  exact⟨_,rfl,fun _=>rfl⟩
end
theorem Ez{w:AA}{n:Int}{q:AR×Bool}(e:(putAt w n q).2≠0):(putAt w n q).1=w:=by
 unfold putAt at*;split at e
 ·exact absurd rfl e
 ·rename_i hq;rw[AIU hq]
theorem vc{all:Bool}{w:AA}{d:CD}(e:(Tw all w d).2≠0):(Tw all w d).1=w:=by
 unfold Tw at*;by_cases c:d.1=1
 ·rw[AIF c]at e⊢
  clear c
  revert e
  unfold Wr
  try dsimp only
  repeat' split
  all_goals first|(intro e;exact absurd rfl e)|(intro e;rfl)|(intro e;exact Ez e)
 rw[AIU c]at e⊢;clear c;by_cases c:d.1=2
 ·rw[AIF c]at e⊢
  clear c
  revert e
  unfold doAdd
  try dsimp only
  repeat' split
  all_goals first|(intro e;exact absurd rfl e)|(intro e;rfl)|(intro e;exact Ez e)
 rw[AIU c]at e⊢;clear c;by_cases c:d.1=3
 ·rw[AIF c]at e⊢
  clear c
  revert e
  unfold Si
  try dsimp only
  repeat' split
  all_goals first|(intro e;exact absurd rfl e)|(intro e;rfl)|(intro e;exact Ez e)
 rw[AIU c]at e⊢;clear c;by_cases c:d.1=4
 ·rw[AIF c]at e⊢
  clear c
  revert e
  unfold Wt
  try dsimp only
  repeat' split
  all_goals first|(intro e;exact absurd rfl e)|(intro e;rfl)|(intro e;exact Ez e)
 rw[AIU c]at e⊢;clear c;by_cases c:d.1=5
 ·rw[AIF c]at e⊢
  clear c
  revert e
  unfold SO
  try dsimp only
  repeat' split
  all_goals first|(intro e;exact absurd rfl e)|(intro e;rfl)|(intro e;exact Ez e)
 rw[AIU c]at e⊢;clear c;by_cases c:d.1=6
 ·rw[AIF c]at e⊢
  clear c
  revert e
  unfold Wl
  try dsimp only
  repeat' split
  all_goals first|(intro e;exact absurd rfl e)|(intro e;rfl)|(intro e;exact Ez e)
 rw[AIU c]at e⊢;clear c;by_cases c:d.1=7
 ·rw[AIF c]at e⊢
  clear c
  revert e
  unfold WS
  try dsimp only
  repeat' split
  all_goals first|(intro e;exact absurd rfl e)|(intro e;rfl)|(intro e;exact Ez e)
 rw[AIU c]at e⊢;clear c;by_cases c:d.1=8
 ·rw[AIF c]at e⊢
  clear c
  revert e
  unfold Wn
  try dsimp only
  repeat' split
  all_goals first|(intro e;exact absurd rfl e)|(intro e;rfl)|(intro e;exact Ez e)
 rw[AIU c]at e⊢;clear c;by_cases c:d.1=9
 ·rw[AIF c]at e⊢
  clear c
  revert e
  unfold V_
  try dsimp only
  repeat' split
  all_goals first|(intro e;exact absurd rfl e)|(intro e;rfl)|(intro e;exact Ez e)
 rw[AIU c]at e⊢;clear c;by_cases c:d.1=10
 ·rw[AIF c]at e⊢
  clear c
  revert e
  unfold We
  try dsimp only
  repeat' split
  all_goals first|(intro e;exact absurd rfl e)|(intro e;rfl)|(intro e;exact Ez e)
 rw[AIU c]at e⊢;clear c;by_cases c:d.1=11
 ·rw[AIF c]at e⊢
  clear c
  revert e
  unfold aM
  try dsimp only
  repeat' split
  all_goals first|(intro e;exact absurd rfl e)|(intro e;rfl)|(intro e;exact Ez e)
 rw[AIU c]at e⊢;clear c;by_cases c:d.1=12
 ·rw[AIF c]at e⊢
  clear c
  revert e
  unfold Sb
  try dsimp only
  repeat' split
  all_goals first|(intro e;exact absurd rfl e)|(intro e;rfl)|(intro e;exact Ez e)
 rw[AIU c]at e⊢;clear c;by_cases c:d.1=13
 ·rw[AIF c]at e⊢
  clear c
  revert e
  unfold YB
  try dsimp only
  repeat' split
  all_goals first|(intro e;exact absurd rfl e)|(intro e;rfl)|(intro e;exact Ez e)
 rw[AIU c]at e⊢;clear c;by_cases c:d.1=14
 ·rw[AIF c]at e⊢
  clear c
  revert e
  unfold RR
  try dsimp only
  repeat' split
  all_goals first|(intro e;exact absurd rfl e)|(intro e;rfl)|(intro e;exact Ez e)
 rw[AIU c]at e⊢;clear c;by_cases c:d.1=15
 ·rw[AIF c]at e⊢
  clear c
  revert e
  unfold V9
  try dsimp only
  repeat' split
  all_goals first|(intro e;exact absurd rfl e)|(intro e;rfl)|(intro e;exact Ez e)
 rw[AIU c]at e⊢;clear c;unfold Sd at*;split at e
 ·rename_i h1;rw[AIF h1]
 ·rename_i h1;rw[AIU h1];exact Ez e
theorem eE{w:AA}{d:CD}(h:fx w)(h64:Ck d.2.1):SY w d=some (pkD (L5 true w d)):=by
 unfold SY L5;rw[show(w.1,w.2.1,w.2.2.1,w.2.2.2.1,w.2.2.2.2.1,w.2.2.2.2.2.1,w.2.2.2.2.2.2.1,w.2.2.2.2.2.2.2.1,w.2.2.2.2.2.2.2.2.1,w.2.2.2.2.2.2.2.2.2.1,w.2.2.2.2.2.2.2.2.2.2.1,())=w from rfl,show(d.1,d.2.1,d.2.2.1,d.2.2.2.1,d.2.2.2.2.1,())=d from rfl,E_ h,g9,ez h];simp only[AN,CJ,GX];rcases AID (CH w)with hw|hw
 rotate_left
 ·rw[hw];rfl
 rcases AID (S6 d)with hd|hd
 rotate_left
 ·rw[hw,hd];rfl
 have hk:1≤d.1∧d.1≤16:=by
  unfold S6 at hd;exact Bc.1 (AIo _ _▸hd).1
 rw[hw,hd,AKM,AKM];obtain⟨w',e1,e2⟩:=jB (Qj.1 hw) h64 (hU hd) hk;rw[e1];simp only[AN,AJN,Bool.or_false,AJp,ALG];by_cases hc:(Tw true w d).2=0
 ·rw[e2 hc]
  rw[AIF (show(AGT ((Tw true w d).1,(Tw true w d).2)).1.1.2.1=0 from hc)];rfl
 ·rw[AIU (show¬(AGT (w',(Tw true w d).2)).1.1.2.1=0 from hc)]
  have:=vc hc;rw[show Tw true w d=(w,(Tw true w d).2)by rw[←Prod.eta (Tw true w d)];simp only[this]];rfl
end Go.M
end
section
namespace Go.M
open Go.M.H (Cb AQ BI AS AY AU Aa B5 A_ Av nJ gL YD)
section
variable{b:AAZ} (hb:Bytes b) (hl:b.length≤2^30)
include hb hl
omit hb hl in
theorem iM{l:List BI}{e:BI}:AY A_ (l++[e])=AY A_ l+(1+A_ e):=by
 induction l with
 |nil=>simp[AY]
 |cons x l ih=>simp only[AMR,AY,ih];omega
end
end Go.M
end
section
namespace Go.M
def At(b:AAZ)(a:Nat)(w:AAZ)(a':Nat):Prop:=a' =a+w.length∧b.drop a=w++b.drop a'
theorem At.nil{b:AAZ}{a:Nat}:At b a [] a:=⟨by simp,by simp⟩
theorem At.split{b w w':AAZ}{a a2:Nat}(ha:a≤b.length)(h:At b a (w++w') a2):At b a w (a+w.length)∧At b (a+w.length) w' a2∧a+w.length≤b.length:=by
 obtain⟨h1,h2⟩:=h;have e1:b.drop (a+w.length)=w'++b.drop a2:=by
  rw[←List.drop_drop,h2,AIg];simp
 refine⟨⟨rfl,by rw[h2,e1,AIg]⟩,⟨by simp only[AKE]at h1;omega,e1⟩,?_⟩;have:=congrArg List.length h2;simp only[AKE,List.length_drop]at this;omega
theorem At.all{b w:AAZ}(h:At b 0 w b.length):b=w:=by
 have:=h.2;simpa using this
section
variable{b:AAZ} (hb:Bytes b)
include hb
end
section
variable{code:AAZ} (hc:code.length≤2^30)
include hc
theorem kP{i h:Int}{l:List ACu}(hi:Br code i)(hl:l≠[])(hn:l.length≤2^30):∃v i' h',E8 l code i h=some ((v,()),((code,i',h',()),()))∧v∈l∧Br code i':=by
 unfold E8;have hp:=AOP.2 hl;obtain⟨v,i1,h1,e,v0,v1,_,IB⟩:=DP hc (h:=h) (n:=l.length) hi (by omega);rw[e];simp only[AII];have:=v1 (by omega);rw[AIF ⟨v0,this⟩];obtain⟨k,rfl⟩:∃k:Nat,v=(k:Int):=⟨v.toNat,by omega⟩;exact⟨_,i1,h1,rfl,by rw[A5 (by omega)];exact AKp _,IB⟩
theorem gQ{i h:Int}(hi:Br code i):∃v i' h',Cl code i h=some ((v,()),((code,i',h',()),()))∧v<2^63∧ -2^63≤v∧Br code i':=by
 unfold Cl Bh;obtain⟨v1,i1,h1,e1,a1,b1,_,IB⟩:=DP hc (h:=h) (n:=3) hi (by omega);rw[e1];simp only[AII];obtain⟨v2,i2,h2,e2,a2,b2,_,Fc⟩:=DP hc (h:=h1) (n:=6) IB (by omega);rw[e2];simp only[AII];obtain⟨v3,i3,h3,e3,a3,b3,_,Hb⟩:=DP hc (h:=h2) (n:=15) Fc (by omega);rw[e3];simp only[AII];have:=b1 (by omega);have:=b2 (by omega);cases v3==0 with
 |true=>
  simp only[AKM];obtain⟨p,i4,h4,e4,hp,l_⟩:=H4 hc (h:=h3) (l:=[0,(-1),4294967296,4294967297,9223372036854775807,(-9223372036854775808)]) Hb (by simp) (by simp);rw[e4];simp at hp;exact⟨p,i4,h4,rfl,by omega,by omega,l_⟩
 |false=>
  simp only[AI5];cases v3==1 with
  |true=>
   simp only[AKM];obtain⟨p,i4,h4,e4,hp,l_⟩:=H4 hc (h:=h3) (l:=[0,30,31]) Hb (by simp) (by simp);rw[e4];simp only[AII];obtain⟨q,i5,h5,e5,hq,vI⟩:=H4 hc (h:=h4) (l:=[0,60,61]) l_ (by simp) (by simp);rw[e5];simp only[AII];simp at hp hq;rw[AK (x:=4294967296*p) (by omega) (by omega),AK (by omega) (by omega)];exact⟨_,i5,h5,rfl,by omega,by omega,vI⟩
  |false=>
   simp only[AI5];rw[AK (x:=1+v1) (by omega) (by omega),AK (x:=1+v2) (by omega) (by omega),AK (x:=4294967296*_) (by omega) (by omega),AK (by omega) (by omega)];exact⟨_,i3,h3,rfl,by omega,by omega,Hb⟩
end
end Go.M
end
section
namespace Go.M
open Go.M.H (Cb AQ BI AS AY AU Aa B5 A_ Av nJ gL YD)
section
variable{b:AAZ} (hb:Bytes b) (hl:b.length≤2^30)
include hb hl
end
theorem nG{o:Int}{l:List BI}{x:Int}{y:List BI}{z:Int}(hl:AY A_ l≤2^30):∀(n i:Nat) (acc:List BI),i≤l.length→l.length-i<n→acc.length=i→
  HV n i o l x y z acc=some (((z,(),()),()),(acc++l.drop i,()))
 |0,i,_,_,h,_=>by omega
 |n+1,i,acc,hi,h,ha=>by
  have hll:=AU (f:=A_) (l:=l);simp only[HV,N2,AB];by_cases hc:i<l.length
  ·have hm:=Aa (f:=A_) (AKp hc)
   rw[AIF (by omega),AIF (by omega),A5 hc,drop_cons hc];simp only[A_]at hm;rw[AIF (by rw[BA];omega),AIF (by rw[BA];omega),AK (by omega) (by omega),show((i:Int)+1)=((i+1:Nat):Int)by omega];rw[nG hl n (i+1) _ (by omega) (by omega) (by simp[ha])];simp only[AIg,AMR,ALB]
  ·rw[AIU (by omega)]
   have:i=l.length:=by omega
   subst this;simp
theorem kC{w:AS}(hl:AY A_ w.2.1≤2^30):C2 w=some (((w.1,(),()),()),(w.2.1,())):=by
 have hll:=AU (f:=A_) (l:=w.2.1);unfold C2 Oh;have:=nG (o:=w.1) (l:=w.2.1) (x:=0) (y:=[]) (z:=w.1) hl AZ 0 [] (by omega) (Af (by omega)) rfl;simpa using this
theorem uJ{l:AAZ}{x:Int}(hl:l.length≤2^30):∃r,CG l x=some ((r,()),()):=by
 have key:∀(n i:Nat),i≤l.length→l.length-i<n→ ∃r,IH n l x i=some ((r,()),()):=by
  intro n
  induction n with
  |zero=>intro i _ h;omega
  |succ n ih=>
   intro i hi h;simp only[IH,Pr,AB];by_cases hc:i<l.length
   ·rw[AIF (by omega),AIF (by omega),AK (by omega) (by omega),show((i:Int)+1)=((i+1:Nat):Int)by omega]
    cases(l.getD ((i:Int).toNat) 0==x)with
    |true=>exact⟨true,rfl⟩
    |false=>exact ih (i+1) (by omega) (by omega)
   ·rw[AIU (by omega)]
    exact⟨false,rfl⟩
 unfold CG P4;have:=key AZ 0 (by omega) (Af (by omega));simpa using this
theorem fA{l:AAZ}{x:Int}(hl:l.length≤2^30):∀(n i:Nat) (t:Bool) (b:AAZ),i≤l.length→l.length-i<n→b.length≤i+cond t 1 0→ ∃l',Fb n l x t i b=some (((),()),(l',()))∧l'.length≤l.length+1
 |0,i,_,_,_,h,_=>by omega
 |n+1,i,t,b,hi,h,oK=>by
  simp only[Fb,L_,AB];have hb2:b.length≤i+1:=by cases t<;>simp at oK<;>omega
  by_cases hc:i<l.length
  ·have hc2:(0:Int)≤(i:Int)∧(i:Int)<(l.length:Int):=by omega
   have eK:b.length+1≤Dd:=by rw[BA];omega
   rw[AIF hc2.2,AK (by omega) (by omega),show((i:Int)+1)=((i+1:Nat):Int)by omega];simp only[AIF hc2,AIF eK];cases t with
   |true=>
    simp only[AJN,AI5];exact fA hl n (i+1) true _ (by omega) (by omega) (by simp at oK⊢;omega)
   |false=>
    simp only[ALN,AKM];simp at oK;by_cases hg:l.getD ((i:Int).toNat) 0>x
    ·rw[AIF hg,AIF (by rw[BA];simp;omega)]
     exact fA hl n (i+1) true _ (by omega) (by omega) (by simp;omega)
    ·rw[AIU hg]
     exact fA hl n (i+1) false _ (by omega) (by omega) (by simp;omega)
  ·rw[AIU (by omega),AIF (by rw[BA];omega)]
   cases t with
   |true=>exact⟨b,rfl,by omega⟩
   |false=>exact⟨_,rfl,by simp at oK⊢;omega⟩
theorem tG{l:AAZ}{x:Int}(hl:l.length≤2^30):∃l',GM l x=some (((),()),(l',()))∧l'.length≤l.length+1:=by
 unfold GM Pl;obtain⟨r,h⟩:=uJ (x:=x) hl;rw[h];exact fA hl AZ 0 r [] (by omega) (Af (by omega)) (by cases r<;>simp)
def WI(l:List BI):Prop:=l.length≤61∧ ∀e∈l,e.1.length≤41∧e.2.1.length≤9
theorem WI.w{l:List BI}(h:WI l):AY A_ l≤4000:=by
 have key:∀l:List BI,(∀e∈l,e.1.length≤41∧e.2.1.length≤9)→AY A_ l≤60*l.length:=by
  intro l
  induction l with
  |nil=>intro _;simp[AY]
  |cons e l ih=>
   intro hh;have:=hh e (by simp);have:=ih (fun e he=>hh e (by simp[he]));simp only[AY,A_,AJ0]at this⊢;omega
 have:=key l h.2;have:=h.1;omega
theorem WI.of{c:CB}{w:AS}(h:DR c w=true):WI w.2.1:=by
 obtain⟨h1,h2,h3,h4⟩:=U8 h;exact⟨by omega,fun e he=>by have:=aP (h4 e he);omega⟩
theorem kb{c:CB}{w:AS}{s:ACu}(hc:c.1.length≤2^40)(hw:WI w.2.1)(hs:s.length≤41):
  ∃w':AS,∃off ok,Et c w s=some ((((w'.1,(),()),off,ok,()),()),(w'.2.1,()))∧WI w'.2.1:=by
 unfold Et;have hww:=hw.w;rw[show(c.1,c.2.1,())=c from rfl,show(w.1,w.2.1,())=w from rfl,EI hc (by omega),kC (by omega)];simp only[AII];cases DR c w with
 |false=>exact⟨(0,[],()),0,false,rfl,by simp[WI]⟩
 |true=>
  have h1:=hw.1;simp only[AJN,AI5];rw[AIF (by rw[BA];omega)];have uD:AY A_ (w.2.1++[(s,[],false,())])≤2^30:=by
   rw[iM];simp only[A_,AKu];omega
  rw[EI (w:=(w.1,w.2.1++[(s,[],false,())],())) hc uD];simp only[AII];rcases AID (DR c (w.1,w.2.1++[(s,[],false,())],()))with hf|hf
  ·rw[hf]
   exact⟨(w.1,w.2.1++[(s,[],false,())],()),_,true,rfl,WI.of hf⟩
  ·rw[hf]
   exact⟨w,0,false,rfl,hw⟩
theorem kt{c:CB}{w:AS}{p q:Int}(hc:c.1.length≤2^40)(hw:WI w.2.1):
  ∃w':AS,∃ok,Cm c w p q=some ((((w'.1,(),()),ok,()),()),(w'.2.1,()))∧WI w'.2.1:=by
 unfold Cm;have hww:=hw.w;rw[show(c.1,c.2.1,())=c from rfl,show(w.1,w.2.1,())=w from rfl,EI hc (by omega),kC (by omega),Ax,Ax];simp only[AII];rcases AID (DR c w)with DK|DK
 rotate_left
 ·rw[DK]
  exact⟨(0,[],()),false,rfl,by simp[WI]⟩
 have h1:=hw.1;rw[DK];simp only[AJN,AI5];rcases AID (BL p 1 (w.2.1.length:Int))with hp|hp
 rotate_left
 ·rw[hp]
  exact⟨w,false,rfl,hw⟩
 rw[hp];simp only[AJN,AI5];cases BL q 0 (AX ((c.1.length:Int)-1))with
 |false=>exact⟨w,false,rfl,hw⟩
 |true=>
  simp only[BL,AJJ]at hp;rw[AK (x:=p-1) (by omega) (by omega)];obtain⟨k,hk⟩:∃k:Nat,p-1=(k:Int):=⟨(p-1).toNat,by omega⟩;rw[hk];have hkl:k<w.2.1.length:=by omega
  have hb:(0:Int)≤(k:Int)∧(k:Int)<(w.2.1.length:Int):=by omega
  simp only[AJN,AI5,AMK];rw[AIF hb,AIF hb,A5 hkl];have he:=hw.2 _ (AKp hkl);have he2:=aP ((U8 DK).2.2.2 _ (AKp hkl))
  generalize s_:w.2.1[k]=e at he he2
  cases e.2.2.1 with
  |true=>exact⟨w,false,rfl,hw⟩
  |false=>
   simp only[AI5];obtain⟨l',hl1,uB⟩:=tG (l:=e.2.1) (x:=q) (by omega);rw[hl1];simp only[AII];rw[AIF hb,AIF hb,AJn];have hg:(w.2.1.set k (e.1,l',false,())).getD k ([],[],false,())=(e.1,l',false,()):=by
    simp[List.getD,hkl]
   rw[hg];simp only;rw[Cr hc (by omega)];simp only[AII];rw[AIF hb];refine⟨(w.1,(w.2.1.set k (e.1,l',false,())).set k (e.1,l',holds c l',()),()),true,rfl,by simp only[AMK];exact h1,?_⟩;intro y hy;simp only[AOE]at hy;rcases ALF hy with hy|rfl
   ·exact hw.2 y hy
   ·exact⟨he.1,by simp only;omega⟩
section
variable{code:AAZ} (hc:code.length≤2^30)
include hc
theorem Mj{c:CB}(Xp:c.1.length≤2^20){x:Int}{y:List BI}:∀(n k:Nat) (i h:Int) (w:AS),Br code i→k≤14→14-k<n→WI w.2.1→
  ∃(w':AS) (i' h':Int),GU n k code i h c.1 c.2.1 x y w.1 w.2.1=some (((w'.1,(),()),()),((code,i',h',()),w'.2.1,()))∧WI w'.2.1∧Br code i'
 |0,_,_,_,_,_,_,h,_=>by omega
 |n+1,k,i,h,w,hi,hk,hn,hw=>by
  simp only[GU,OI,AB];obtain⟨v,i1,h1,e1,a1,b1,_,IB⟩:=DP hc (h:=h) (n:=14) hi (by omega);rw[e1];simp only[AII];have:=b1 (by omega);by_cases Dj:(k:Int)<v
  ·rw[AIF Dj]
   obtain⟨s,i2,h2,e2,hs,Fc⟩:=kP hc (h:=h1) (l:=[[],[97],[98,99]]) IB (by simp) (by simp);rw[e2];simp only[AII];have hsl:s.length≤41:=by
    simp at hs;rcases hs with rfl|rfl|rfl<;>simp
   obtain⟨w1,off,ok,e3,hw1⟩:=kb (c:=c) (w:=w) (s:=s) (by omega) hw hsl;rw[show(c.1,c.2.1,())=c from rfl,show(w.1,w.2.1,())=w from rfl,e3];simp only[AII];obtain⟨o,i3,h3,e4,Hb⟩:=cR hc (h:=h2) (n:=2) Fc (by omega);rw[e4];simp only[AII];rw[AK (x:=(k:Int)+1) (by omega) (by omega),show((k:Int)+1)=((k+1:Nat):Int)by omega];cases o with
   |true=>
    simp only[AKM];have h61:=hw.1;obtain⟨m,em,hm⟩:∃m:Int,Dk (w.2.1.length:Int) 1=some ((m,()),())∧m≤2^40:=by
     unfold Dk;rw[AB];split
     ·exact⟨_,rfl,by omega⟩
     ·exact⟨1,rfl,by omega⟩
    rw[em];simp only[AII];obtain⟨v4,i4,h4,e5,a5,b5,_,l_⟩:=DP hc (h:=h3) (n:=m) Hb hm;rw[e5];simp only[AII];obtain⟨v5,i5,h5,e6,a6,b6,_,vI⟩:=DP hc (h:=h4) (n:=(c.1.length:Int)) l_ (by omega);rw[e6];simp only[AII];obtain⟨w2,ok2,e7,hw2⟩:=kt (c:=c) (w:=w) (p:=AX (1+v4)) (q:=v5) (by omega) hw;rw[e7];simp only[AII];cases ok2 with
    |true=>exact Mj Xp n (k+1) i5 h5 w2 vI (by omega) (by omega) hw2
    |false=>exact Mj Xp n (k+1) i5 h5 w vI (by omega) (by omega) hw
   |false=>
    simp only[AI5];cases ok with
    |true=>exact Mj Xp n (k+1) i3 h3 w1 Hb (by omega) (by omega) hw1
    |false=>exact Mj Xp n (k+1) i3 h3 w Hb (by omega) (by omega) hw
  ·rw[AIU Dj]
   exact⟨w,i1,h1,rfl,hw,IB⟩
theorem gK{c:CB}(Xp:c.1.length≤2^20){i h:Int}(hi:Br code i):
  ∃(w':AS) (i' h':Int),MC c code i h=some (((w'.1,(),()),()),((code,i',h',()),w'.2.1,()))∧WI w'.2.1∧Br code i':=by
 unfold MC N4;obtain⟨v,i1,h1,e1,a1,b1,_,IB⟩:=DP hc (h:=h) (n:=4) hi (by omega);rw[e1];exact Mj hc Xp AZ 0 i1 h1 (AX (1+v),[],()) IB (by omega) (Af (by omega)) (by simp[WI])
omit hc in
theorem mi{x:Int}{y:List BI}{z:Int}{i h:Int}(hi:Br code i):∀(n:Nat) (l:List BI),61-l.length<n→WI l→
  ∃l',FC n code i h x y z l=some (((z,(),()),()),((code,i,h,()),l',()))∧WI l'
 |0,_,h,_=>by omega
 |n+1,l,hn,hw=>by
  simp only[FC,NL,AB];have h1:=hw.1;by_cases h60:l.length<60
  ·rw[AIF (by omega)]
   by_cases h0:0<l.length
   ·rw[AIF (by omega),AIF (by omega),AIF (by rw[BA];omega)]
    refine mi hi n _ (by simp;omega) ⟨by simp;omega,fun e he=> ?_⟩;rcases AJ6.1 he with he|he
    ·exact hw.2 e he
    ·simp only[AK4]at he
     have hm:l.getD 0 ([],[],false,())∈l:=by
      have:=A5 (l:=l) (i:=0) (d:=([],[],false,())) h0;simp only[Int.ofNat_zero,Int.toNat_zero]at this;rw[this];exact AKp _
     rw[he];exact hw.2 _ hm
   ·rw[AIU (by omega)]
    exact⟨l,rfl,hw⟩
  ·rw[AIU (by omega)]
   exact⟨l,rfl,hw⟩
theorem qv{c:CB}(Xp:c.1.length≤2^20){i h:Int}(hi:Br code i):
  ∃(w':AS) (i' h':Int),LZ c code i h=some (((w'.1,(),()),()),((code,i',h',()),w'.2.1,()))∧AY A_ w'.2.1≤4000∧Br code i':=by
 unfold LZ Kt;obtain⟨w,i1,h1,e1,hw,IB⟩:=gK hc Xp (h:=h) hi;rw[show(c.1,c.2.1,())=c from rfl,e1];simp only[AII];obtain⟨v,i2,h2,e2,a2,b2,_,Fc⟩:=DP hc (h:=h1) (n:=25) IB (by omega);rw[e2];simp only[AII];have h61:=hw.1;cases v==0 with
 |true=>
  simp only[AKM];obtain⟨p,i3,h3,e3,hp,Hb⟩:=H4 hc (h:=h2) (l:=[0,30,31]) Fc (by simp) (by simp);rw[e3];exact⟨(p,w.2.1,()),i3,h3,rfl,hw.w,Hb⟩
 |false=>
  simp only[AI5];cases v==1 with
  |true=>
   simp only[AKM,AB];by_cases h0:0<w.2.1.length
   ·rw[AIF (by omega),AIF (by omega),AIF (by omega)]
    refine⟨(w.1,w.2.1.set 0 ((w.2.1.getD 0 ([],[],false,())).1,(w.2.1.getD 0 ([],[],false,())).2.1,!(w.2.1.getD 0 ([],[],false,())).2.2.1,()),()),i2,h2,rfl,WI.w ⟨by simp;omega,fun e he=> ?_⟩,Fc⟩;rcases ALF he with he|rfl
    ·exact hw.2 e he
    ·have hm:w.2.1.getD 0 ([],[],false,())∈w.2.1:=by
      have:=A5 (l:=w.2.1) (i:=0) (d:=([],[],false,())) h0;simp only[Int.ofNat_zero,Int.toNat_zero]at this;rw[this];exact AKp _
     have:=hw.2 _ hm;exact this
   ·rw[AIU (by omega)]
    exact⟨w,i2,h2,rfl,hw.w,Fc⟩
  |false=>
   simp only[AI5];cases v==2 with
   |true=>
    simp only[AKM];obtain⟨p,i3,h3,e3,a3,b3,_,Hb⟩:=DP hc (h:=h2) (n:=2) Fc (by omega);rw[e3];simp only[AII];have:=b3 (by omega);rw[AK (by omega) (by omega),AIF (by rw[BA];omega),AIF (by rw[BA];omega)];refine⟨(w.1,w.2.1++[(List.map (fun n:Int=>UInt8.ofNat n.toNat) (List.replicate (40+p).toNat 0),[],false,())],()),i3,h3,rfl,?_,Hb⟩;have hww:=hw.w;have key:=iM (l:=w.2.1) (e:=(List.map (fun n:Int=>UInt8.ofNat n.toNat) (List.replicate (40+p).toNat 0),[],false,()));have hws:AY A_ w.2.1≤60*61:=by
     have AM6:∀l:List BI,(∀e∈l,e.1.length≤41∧e.2.1.length≤9)→AY A_ l≤60*l.length:=by
      intro l
      induction l with
      |nil=>intro _;simp[AY]
      |cons e l ih=>
       intro hh;have:=hh e (by simp);have:=ih (fun e he=>hh e (by simp[he]));simp only[AY,A_,AJ0]at this⊢;omega
     have:=AM6 _ hw.2;omega
    simp only;rw[key];simp only[A_,AN8,AMd,AKu];omega
   |false=>
    simp only[AI5];cases v==3 with
    |true=>
     simp only[AKM];obtain⟨l',e4,hw4⟩:=mi (x:=0) (y:=[]) (z:=w.1) (h:=h2) Fc AZ w.2.1 (Af (by omega)) hw;rw[e4];exact⟨(w.1,l',()),i2,h2,rfl,hw4.w,Fc⟩
    |false=>exact⟨w,i2,h2,rfl,hw.w,Fc⟩
end
end Go.M
end
section
set_option maxRecDepth 8000
namespace Go.M
open Go.M.H (AL AR A3 A0 AA Cb AQ BI AS Ab BC Bd CD Ak CN AY AU Aa Ae B5 A_ Av BF Dz Ba Cg C1)
def OK(code:AAZ){X Y:Type}(Q:X→Y→Prop)(o:Option (X×(AC_×Y))):Prop:=
 ∃x i h y,o=some (x,((code,i,h,()),y))∧Br code i∧Q x y
section
variable{code:AAZ} {X Y Z W:Type} {Q:X→Y→Prop} {R:Z→W→Prop}
theorem OK.bind{o:Option (X×(AC_×Y))}{f:X×(AC_×Y)→Option (Z×(AC_×W))}
  (ho:OK code Q o) (hf:∀x i h y,Br code i→Q x y→OK code R (f (x,((code,i,h,()),y)))):OK code R (o.bind f):=by
 obtain⟨x,i,h,y,e,hi,hq⟩:=ho;rw[e];exact hf x i h y hi hq
theorem OK.pure{A:Type}{o:Option A}{a:A}{f:A→Option (Z×(AC_×W))}(ho:o=some a)(hf:OK code R (f a)):OK code R (o.bind f):=by
 rw[ho];exact hf
theorem OK.some{x:X}{i h:Int}{y:Y}(hi:Br code i)(hq:Q x y):OK code Q (some (x,((code,i,h,()),y))):=⟨x,i,h,y,rfl,hi,hq⟩
theorem OK.cond{b:Bool}{x y:Option (X×(AC_×Y))}(h1:b=true→OK code Q x)(h2:b=false→OK code Q y):OK code Q (cond b x y):=by
 cases b
 ·exact h2 rfl
 ·exact h1 rfl
theorem OK.MJ{p:Prop}[Decidable p]{x y:Option (X×(AC_×Y))}(h1:p→OK code Q x)(h2: ¬p→OK code Q y):OK code Q (_root_.cond (decide p) x y):=by
 by_cases hp:p
 ·rw[AKc hp];exact h1 hp
 ·rw[AKO hp];exact h2 hp
theorem OK.DI{a b:Int}{x y:Option (X×(AC_×Y))}(h1:a=b→OK code Q x)(h2:a≠b→OK code Q y):OK code Q (_root_.cond (a==b) x y):=by
 rw[Fp];by_cases hp:a=b
 ·rw[AIF hp];exact h1 hp
 ·rw[AIU hp];exact h2 hp
theorem OK.ite{p:Prop}[Decidable p]{x y:Option (X×(AC_×Y))}(hp:p)(h1:OK code Q x):OK code Q (if p then x else y):=by
 rw[AIF hp];exact h1
end
section
variable{code:AAZ} (hc:code.length≤2^30)
include hc
theorem BJ{i h n:Int}(hi:Br code i)(hn:n≤2^40):OK code (fun(x:ACx) (y:Unit)=>0≤x.1∧(0<n→x.1<n)∧(n≤0→x.1=0)) (AF n code i h):=by
 obtain⟨v,i',h',e,v0,v1,v2,D6⟩:=DP hc (h:=h) hi hn;exact⟨(v,()),i',h',(),e,D6,v0,v1,v2⟩
theorem L1{i h n:Int}(hi:Br code i)(hn:n≤2^40):OK code (fun(x:ACR) (y:Unit)=>True) (Ao n code i h):=by
 obtain⟨v,i',h',e,D6⟩:=cR hc (h:=h) hi hn;exact⟨(v,()),i',h',(),e,D6,trivial⟩
theorem NC{i h:Int}{l:AAZ}(hi:Br code i)(hl:l≠[])(hn:l.length≤2^30):OK code (fun(x:ACx) (y:Unit)=>x.1∈l) (Bp l code i h):=by
 obtain⟨v,i',h',e,hv,D6⟩:=H4 hc (h:=h) hi hl hn;exact⟨(v,()),i',h',(),e,D6,hv⟩
theorem fI{i h:Int}{l:List ACu}(hi:Br code i)(hl:l≠[])(hn:l.length≤2^30):OK code (fun(x:List UInt8×Unit) (y:Unit)=>x.1∈l) (E8 l code i h):=by
 obtain⟨v,i',h',e,hv,D6⟩:=kP hc (h:=h) hi hl hn;exact⟨(v,()),i',h',(),e,D6,hv⟩
theorem OO{c:CB}(Xp:c.1.length≤2^10){i h:Int}(hi:Br code i):OK code (fun(x:AC8) (y:AC7)=>y.1.length≤2^12) (Db c code i h):=by
 have key:∀(n k N:Nat) (i h:Int) (b:AAZ),Br code i→k≤N→N-k<n→N≤2^11→b.length≤k→
   OK code (fun(x:AC8) (y:AC7)=>y.1.length≤2^12) (GV n N k code i h c.1 c.2.1 b):=by
  intro n
  induction n with
  |zero=>intro k N i h b _ _ h;omega
  |succ n ih=>
   intro k N i h b hi hk hn hN hb;simp only[GV,O9];refine OK.MJ (fun Dj=> ?_) (fun s_=> ?_)
   ·refine OK.pure Gr ?_
    dsimp only;refine OK.bind (BJ hc hi (by omega)) fun x i' h' y D6 hq=> ?_
    dsimp only;refine OK.pure (IJ (by omega)) ?_
    dsimp only;rw[AK (by omega) (by omega),show((k:Int)+1)=((k+1:Nat):Int)by omega];have:=Vz (n:=x.1) (l:=b);exact ih (k+1) N _ _ _ D6 (by omega) (by omega) hN (by omega)
   ·refine OK.bind (L1 hc hi (by omega)) fun x i' h' y D6 hq=> ?_
    dsimp only;refine OK.cond (fun _=> ?_) (fun _=> ?_)
    ·refine OK.bind (NC hc D6 (by simp) (by simp)) fun x i' h' y D6 hq=> ?_
     dsimp only;refine OK.ite (by rw[BA];omega) ?_
     exact OK.some D6 (by simp;omega)
    ·exact OK.some D6 (by show b.length≤_;omega)
 unfold Db Od;rw[AK (by omega) (by omega)];refine OK.bind (BJ hc hi (by omega)) fun x i' h' y D6 hq=> ?_
 dsimp only;obtain⟨N,hN⟩:∃N:Nat,x.1=N:=⟨x.1.toNat,by omega⟩;rw[hN];exact key AZ 0 N i' h' [] D6 (by omega) (Af (by omega)) (by omega) (by simp)
theorem Zs{c:CB}(Xp:c.1.length≤2^10){i h:Int}(hi:Br code i):OK code (fun(x:AC8) (y:AC7)=>y.1.length≤2^13) (Fg c code i h):=by
 have key:∀(n k:Nat) (i h:Int) (b:AAZ),Br code i→k≤c.1.length→c.1.length-k<n→b.length≤2^12+k→
   OK code (fun(x:AC8) (y:AC7)=>y.1.length≤2^13) (IE n k code i h c.1 c.2.1 b):=by
  intro n
  induction n with
  |zero=>intro k i h b _ _ h;omega
  |succ n ih=>
   intro k i h b hi hk hn hb;simp only[IE,Qu];refine OK.MJ (fun Dj=> ?_) (fun s_=>OK.some hi (by show b.length≤_;omega));refine OK.pure (Cr (c:=(c.1,c.2.1,())) (by show c.1.length≤_;omega) (by omega)) ?_
   dsimp only;refine OK.cond (fun _=> ?_) (fun _=>OK.some hi (by show b.length≤_;omega));refine OK.pure (IJ (by omega)) ?_
   dsimp only;rw[AK (by omega) (by omega),show((k:Int)+1)=((k+1:Nat):Int)by omega];have:=Vz (n:=(k:Int)) (l:=b);exact ih (k+1) _ _ _ hi (by omega) (by omega) (by omega)
 unfold Fg Qe;refine OK.bind (OO hc (c:=(c.1,c.2.1,())) Xp hi) fun x i' h' y D6 hq=> ?_
 dsimp only;exact key AZ 0 i' h' y.1 D6 (by omega) (Af (by omega)) (by omega)
end
theorem xk{x:Int}:Ck (IntKind.wrap .i64 x):=by
 unfold Ck IntKind.wrap;simp[IntKind.bits,IntKind.signed];split<;>omega
theorem AGL{a b:Int}:Ck (bOr .i64 a b):=by
 unfold bOr;exact xk
theorem ku{l:AAZ}(hl:l.length≤2^20):∃r,Iw l=some ((r,()),())∧Ck r:=by
 have key:∀(n k:Nat) (t:Int),(∀x∈l,0≤x)→Ck t→k≤l.length→l.length-k<n→ ∃r,ID n l t k=some ((r,()),())∧Ck r:=by
  intro n
  induction n with
  |zero=>intro k t _ _ _ h;omega
  |succ n ih=>
   intro k t hp ht hk hn;simp only[ID,QU,AB];by_cases Dj:k<l.length
   ·rw[AIF (by omega),AIF (by omega),A5 Dj,AIU (by have:=hp _ (AKp Dj);omega),AK (x:=(k:Int)+1) (by omega) (by omega),show((k:Int)+1)=((k+1:Nat):Int)by omega]
    exact ih (k+1) _ hp AGL (by omega) (by omega)
   ·rw[AIU (by omega)]
    exact⟨t,rfl,ht⟩
 unfold Iw Qh;rw[ZG (by omega)];simp only[AN,CJ];rcases AID (fg l 7)with ha|ha
 ·rw[ha]
  exact key AZ 0 0 (fun x hx=>((mV.1 ha).1 x hx).1) (by unfold Ck;omega) (by omega) (Af (by omega))
 ·rw[ha]
  exact⟨-1,rfl,by unfold Ck;omega⟩
end Go.M
end
section
set_option maxRecDepth 8000
namespace Go.M
open Go.M.H (AL AR A3 A0 AA Cb AQ BI AS Ab BC Bd CD Ak CN AY AU Aa Ae B5 A_ Av BF Dz Ba Cg C1)
abbrev bB:CD×Unit→Unit→Prop:=fun x _=>Ck x.1.2.1
theorem M6{x:Int}(h: -1000≤x∧x≤1000):Ck x:=by unfold Ck;omega
section
variable{code:AAZ} (hc:code.length≤2^30) {w:AA} (h:PH w)
include hc h
theorem PH.uq{e:Int}(he:1≤e∧e≤w.A8.length):0<(CI w.A8 e).length∧(CI w.A8 e).length≤8∧ ∀x∈CI w.A8 e,0≤x∧x<8:=by
 have hh:=(h.iv.A8 _ (As (d:=Dv) (show(e-1).toNat<(CL w).1.length by show _<w.A8.length;omega))).1;have hn:=Q6 hh;have Xp:=(Dh h.cfg).2.1;unfold CI;rw[Bc.2 he,AIF rfl];refine⟨?_,Fe hn,fun x hx=> ?_⟩
 ·rcases Nat.eq_zero_or_pos (w.A8.getD (e-1).toNat Dv).1.length with h0|h0
  ·have kv:=AK2 h0
   have hh':holds (Ac w) (w.A8.getD (e-1).toNat Dv).1=true:=hh;rw[kv,j9]at hh';cases hh'
  ·exact h0
 ·have:=(H6.1 hn).2.1 x hx
  omega
theorem ki(hw:0<w.AO.length){i hh:Int}(hi:Br code i):OK code bB (Ef w code i hh):=by
 have k:=h.nums;have k2:=k.wr;have k5:=k.era;have hw':0<w.2.2.2.2.2.2.1.length:=hw;have tail:∀(j:Int),0≤j→j<(w.2.2.2.2.2.2.1.length:Int)→ ∀i hh,Br code i→OK code bB (
   (B4 (w.2.2.2.2.1,w.2.2.2.2.2.1,()) ((w.2.2.2.2.2.2.1.getD (j.toNat) (0,[],())).1)).bind fun Sk=>
   (AF (Sk.2.1.length:Int) code i hh).bind fun Qa=>
   if(0:Int)≤Qa.1.1∧Qa.1.1<(Sk.2.1.length:Int)then(
   cond ((((w.2.2.2.2.2.2.1.getD (j.toNat) (0,[],())).2.1).length:Int)==0)
    ((E8 [[],[97],[98,99],[100]] Qa.2.1.1 Qa.2.1.2.1 Qa.2.1.2.2.1).bind fun VB=>
    some (((2,j,0,0,VB.1.1,()),()),((VB.2.1.1,VB.2.1.2.1,VB.2.1.2.2.1,()),())))
   ((Ao 7 Qa.2.1.1 Qa.2.1.2.1 Qa.2.1.2.2.1).bind fun Jo=>
   cond (Jo.1.1)
    ((E8 [[],[97],[98,99],[100]] Jo.2.1.1 Jo.2.1.2.1 Jo.2.1.2.2.1).bind fun ag=>
    some (((2,j,0,0,ag.1.1,()),()),((ag.2.1.1,ag.2.1.2.1,ag.2.1.2.2.1,()),())))
   ((Ao 3 Jo.2.1.1 Jo.2.1.2.1 Jo.2.1.2.2.1).bind fun aD=>
   cond (aD.1.1)
    (some (((4,(Sk.2.1.getD (Qa.1.1.toNat) 0),0,0,[],()),()),((aD.2.1.1,aD.2.1.2.1,aD.2.1.2.2.1,()),())))
   ((PZ (((w.2.2.2.2.2.2.1.getD (j.toNat) (0,[],())).2.1).length:Int) 3).bind fun a_=>
   (AF a_.1.1 aD.2.1.1 aD.2.1.2.1 aD.2.1.2.2.1).bind fun Pt=>
   some (((3,j,AX ((((w.2.2.2.2.2.2.1.getD (j.toNat) (0,[],())).2.1).length:Int)-Pt.1.1),(Sk.2.1.getD (Qa.1.1.toNat) 0),[],()),()),((Pt.2.1.1,Pt.2.1.2.1,Pt.2.1.2.2.1,()),()))))))else none):=by
  intro j hj0 hj1 i hh hi;have hx:=h.AO _ (As (d:=Bf) (show j.toNat<w.AO.length by show j.toNat<w.2.2.2.2.2.2.1.length;omega));have he:=hx.1.ep;obtain⟨e1,e2,e3⟩:=h.uq hc (e:=(w.AO.getD j.toNat Bf).1) ⟨he.1,hx.2⟩;refine OK.pure (DY (r:=CL w) (by show AY B5 w.2.2.2.2.1≤_;omega)) ?_
  dsimp only
  generalize hns:CI (CL w).1 (w.2.2.2.2.2.2.1.getD j.toNat (0,[],())).1=ns
  have AEo:CI w.A8 (w.AO.getD j.toNat Bf).1=ns:=hns;rw[AEo]at e1 e2 e3;refine OK.bind (BJ hc hi (by omega)) fun x i1 h1 y IB hq=> ?_
  dsimp only at*;refine OK.ite (by omega) ?_
  have ADa:Ck (ns.getD x.1.toNat 0):=M6 (by have:=e3 _ (As (l:=ns) (i:=x.1.toNat) (d:=0) (by omega));omega);have hjj:Ck j:=M6 (by omega)
  repeat' (first|refine OK.some (by assumption) ?_|refine OK.MJ (fun _=> ?_) (fun _=> ?_)|refine OK.DI (fun _=> ?_) (fun _=> ?_)|refine OK.cond (fun _=> ?_) (fun _=> ?_)|refine OK.ite (by omega) ?_|(refine OK.bind (L1 (by assumption) (by assumption) (by omega)) fun x i h y hi hq=> ?_;dsimp only)|(refine OK.bind (BJ (by assumption) (by assumption) (by omega)) fun x i h y hi hq=> ?_;dsimp only at*)|(refine OK.bind (fI (by assumption) (by assumption) (by simp) (by simp)) fun x i h y hi hq=> ?_;dsimp only)|(refine OK.pure U4 ?_;dsimp only)|(refine OK.pure Gr ?_;dsimp only))
  all_goals assumption
 unfold Ef;dsimp only;have e1:AX ((w.2.2.2.2.2.2.1.length:Int)-1)=(w.2.2.2.2.2.2.1.length:Int)-1:=AK (by omega) (by omega);simp only[e1];refine OK.bind (BJ hc hi (by omega)) fun x i1 h1 y IB hq=> ?_
 dsimp only at*;refine OK.bind (L1 hc IB (by omega)) fun x2 i2 h2 y2 Fc iq=> ?_
 dsimp only at*;refine OK.cond (fun _=> ?_) (fun _=> ?_)
 ·refine OK.ite (by omega) ?_
  exact tail _ (by omega) (by omega) _ _ Fc
 ·refine OK.ite (by omega) ?_
  exact tail _ (by omega) (by omega) _ _ Fc
end
end Go.M
end
section
set_option maxRecDepth 8000
namespace Go.M
open Go.M.H (AL AR A3 A0 AA Cb AQ BI AS Ab BC Bd CD Ak CN AY AU Aa Ae B5 A_ Av BF Dz Ba Cg C1)
section
variable{code:AAZ} (hc:code.length≤2^30) {w:AA} (h:PH w)
include hc h
theorem mM{m:A3}(hm:dO (Ac w) m){t7:Int}:∀(n k:Nat) (t8 i hh:Int),Br code i→k≤m.2.2.2.2.2.1.length→m.2.2.2.2.2.1.length-k<n→
  OK code bB (EH n t7 t8 k code i hh w.1 w.2.1 w.2.2.1 w.2.2.2.1 w.2.2.2.2.1 w.2.2.2.2.2.1 w.2.2.2.2.2.2.1 w.2.2.2.2.2.2.2.1 w.2.2.2.2.2.2.2.2.1 w.2.2.2.2.2.2.2.2.2.1 w.2.2.2.2.2.2.2.2.2.2.1 0 0 0 0 [] m.1 m.2.1 m.2.2.1 m.2.2.2.1 m.2.2.2.2.1 m.2.2.2.2.2.1):=by
 have k1:=h.nums.c;have s5:m.2.2.2.2.2.1.length≤60:=by
  have:=hm.n;have hb:=Jd (l:=m.2.2.2.1);split at this<;>omega
 intro n
 induction n with
 |zero=>intro k t8 i hh _ _ h;omega
 |succ n ih=>
  intro k t8 i hh hi hk hn;simp only[EH,Nb];refine OK.MJ (fun Dj=> ?_) (fun s_=>OK.some hi (M6 (by show-1000≤(0:Int)∧(0:Int)≤1000;omega)));have ANE:k<m.2.2.2.2.2.1.length:=by omega
  refine OK.ite (by omega) ?_
  rw[AK (x:=(k:Int)+1) (by omega) (by omega),show((k:Int)+1)=((k+1:Nat):Int)by omega];have l9:=Fe (hm.wrote _ (As (d:=[]) ANE));refine OK.pure (Cr (c:=Ac w) (by show w.1.length≤_;omega) (by show(m.2.2.2.2.2.1.getD k []).length≤_;omega)) ?_
  dsimp only;refine OK.cond (fun _=> ?_) (fun _=>ih (k+1) _ _ _ hi (by omega) (by omega));refine OK.bind (L1 hc hi (by omega)) fun x2 i2 h2 y2 Fc iq=> ?_
  dsimp only;exact OK.cond (fun _=>ih (k+1) _ _ _ Fc (by omega) (by omega)) (fun _=>ih (k+1) _ _ _ Fc (by omega) (by omega))
theorem mc{i hh:Int}(hi:Br code i):OK code bB (I6 w code i hh):=by
 have k:=h.nums;have k5:=k.era;unfold I6 O8;have z:Ck 0:=M6 (by omega);refine OK.DI (fun _=>OK.some hi z) (fun aO=> ?_);have hlen:0<w.Bg.length:=by show 0<w.2.2.2.2.2.2.2.1.length;omega
 refine OK.ite (by omega) ?_
 have hmm:=h.Bg _ (As (d:=Im) hlen)
 generalize hg:w.2.2.2.2.2.2.2.1.getD 0 (0,0,[],[],false,[],())=m
 have n0:w.Bg.getD 0 Im=m:=hg;rw[n0]at hmm;obtain⟨hm,hm2,hm3⟩:=hmm;have he:=hm.ep;have hb:=hm.b;obtain⟨e1,e2,e3⟩:=h.uq hc (e:=m.2.1) ⟨he.1,by omega⟩;have s5:m.2.2.2.2.2.1.length≤60:=by
  have:=hm.n;have hb:=Jd (l:=m.2.2.2.1);split at this<;>omega
 refine OK.pure (DY (r:=CL w) (by show AY B5 w.2.2.2.2.1≤_;omega)) ?_
 dsimp only
 generalize hns:CI (CL w).1 m.2.1=ns
 have AEo:CI w.A8 m.2.1=ns:=hns;rw[AEo]at e1 e2 e3;refine OK.bind (BJ hc hi (by omega)) fun x i1 h1 y IB hq=> ?_
 dsimp only at*;refine OK.ite (by omega) ?_
 have ADa:Ck (ns.getD x.1.toNat 0):=M6 (by have:=e3 _ (As (l:=ns) (i:=x.1.toNat) (d:=0) (by omega));omega);have fin:∀t8 i hh,Br code i→OK code bB (EH AZ (ns.getD x.1.toNat 0) t8 0 code i hh w.1 w.2.1 w.2.2.1 w.2.2.2.1 w.2.2.2.2.1 w.2.2.2.2.2.1 w.2.2.2.2.2.2.1 w.2.2.2.2.2.2.2.1 w.2.2.2.2.2.2.2.2.1 w.2.2.2.2.2.2.2.2.2.1 w.2.2.2.2.2.2.2.2.2.2.1 0 0 0 0 [] m.1 m.2.1 m.2.2.1 m.2.2.2.1 m.2.2.2.2.1 m.2.2.2.2.2.1):=fun t8 i hh hi=>
  mM hc h hm AZ 0 t8 i hh hi (by omega) (Af (by omega))
 repeat' (first|refine OK.some (by assumption) ?_|refine OK.MJ (fun _=> ?_) (fun _=> ?_)|refine OK.DI (fun _=> ?_) (fun _=> ?_)|refine OK.cond (fun _=> ?_) (fun _=> ?_)|refine OK.ite (by omega) ?_|(refine OK.bind (L1 (by assumption) (by assumption) (by omega)) fun x i h y hi hq=> ?_;dsimp only)|(refine OK.bind (BJ (by assumption) (by assumption) (by omega)) fun x i h y hi hq=> ?_;dsimp only at*)|(refine OK.bind (fI (by assumption) (by assumption) (by simp) (by simp)) fun x i h y hi hq=> ?_;dsimp only)|(refine OK.pure U4 ?_;dsimp only)|(refine OK.pure Gr ?_;dsimp only))
 all_goals first
  |exact fin _ _ _ (by assumption)
  |exact z
  |exact ADa
theorem mK{i hh:Int}(hi:Br code i):OK code bB (MF w code i hh):=by
 have k:=h.nums;have k1:=k.c;have k2:=k.wr;have k3:=k.lost;have k4:=k.st;have k5:=k.era;have k6:=k.se;have k7:=k.yW;have AGb:=(Dh h.cfg).1;have AN7:1≤w.1.length:=AGb;have z:Ck 0:=M6 (by omega);have RI:∀i hh,Br code i→OK code bB ((Fg (w.1,w.2.1,()) code i hh).bind fun u3=>
   (Iw u3.2.2.1).bind fun u4=>
   some (((1,u4.1.1,0,0,[],()),()),((u3.2.1.1,u3.2.1.2.1,u3.2.1.2.2.1,()),()))):=fun i hh hi=>by
  refine OK.bind (Zs hc (c:=(w.1,w.2.1,())) (by show w.1.length≤_;omega) hi) fun x i1 h1 y IB hq=> ?_
  dsimp only;obtain⟨r,hr,hr2⟩:=ku (l:=y.1) (by omega);refine OK.pure hr ?_
  exact OK.some IB hr2
 have AIv:∀j:Nat,Ck (w.2.2.2.2.2.2.2.2.2.1.getD j (0,[],false,())).1:=fun j=>by
  by_cases hj:j<w.2.2.2.2.2.2.2.2.2.1.length
  ·exact HB (h.BZ _ (As (d:=Ct) hj)).1
  ·rw[List.getD,AMc (by omega)];exact z
 have AIO:Ck (w.2.2.2.1.getD 0 0):=by
  by_cases hj:0<w.2.2.2.1.length
  ·have:=(H6.1 h.lost).2.1 _ (As (d:=0) hj)
   have hc8:(Ac w).1.length≤8:=k1;have ANy:0≤w.2.2.2.1.getD 0 0∧w.2.2.2.1.getD 0 0<(Ac w).1.length:=this;exact M6 (by omega)
  ·rw[List.getD,AMc (by omega)];exact z
 unfold MF;refine OK.DI (fun _=>RI _ _ hi) (fun aO=> ?_);have hw0:0<w.AO.length:=by show 0<w.2.2.2.2.2.2.1.length;omega
 have hwr:∀i hh,Br code i→OK code bB ((Ef w code i hh).bind fun dh=>
   some (((dh.1.1.1,dh.1.1.2.1,dh.1.1.2.2.1,dh.1.1.2.2.2.1,dh.1.1.2.2.2.2.1,()),()),((dh.2.1.1,dh.2.1.2.1,dh.2.1.2.2.1,()),()))):=fun i hh hi=>
  OK.bind (ki hc h hw0 hi) fun x i1 h1 y IB hq=>OK.some IB hq
 have hmd:∀i hh,Br code i→OK code bB ((I6 w code i hh).bind fun dh=>
   some (((dh.1.1.1,dh.1.1.2.1,dh.1.1.2.2.1,dh.1.1.2.2.2.1,dh.1.1.2.2.2.2.1,()),()),((dh.2.1.1,dh.2.1.2.1,dh.2.1.2.2.1,()),()))):=fun i hh hi=>
  OK.bind (mc hc h hi) fun x i1 h1 y IB hq=>OK.some IB hq
 rw[show(w.1,w.2.1,w.2.2.1,w.2.2.2.1,w.2.2.2.2.1,w.2.2.2.2.2.1,w.2.2.2.2.2.2.1,w.2.2.2.2.2.2.2.1,w.2.2.2.2.2.2.2.2.1,w.2.2.2.2.2.2.2.2.2.1,w.2.2.2.2.2.2.2.2.2.2.1,())=w from rfl];refine OK.bind (L1 hc hi (by omega)) fun x2 i2 h2 y2 Fc iq=> ?_
 dsimp only;refine OK.cond (fun _=>RI _ _ Fc) (fun _=> ?_);refine OK.bind (BJ hc Fc (by omega)) fun x3 i3 h3 y3 Hb PT=> ?_
 dsimp only at*;have hx3:Ck x3.1:=M6 (by omega)
 repeat' first
  |exact hwr _ _ (by assumption)
  |exact hmd _ _ (by assumption)
  |(refine OK.pure (Kl (r:=CL w) (by show w.2.2.2.2.1.length≤_;omega)) ?_;dsimp only)
  |(first|refine OK.some (by assumption) ?_|refine OK.MJ (fun _=> ?_) (fun _=> ?_)|refine OK.DI (fun _=> ?_) (fun _=> ?_)|refine OK.cond (fun _=> ?_) (fun _=> ?_)|refine OK.ite (by omega) ?_|(refine OK.bind (L1 (by assumption) (by assumption) (by omega)) fun x i h y hi hq=> ?_;dsimp only)|(refine OK.bind (BJ (by assumption) (by assumption) (by omega)) fun x i h y hi hq=> ?_;dsimp only at*)|(refine OK.bind (fI (by assumption) (by assumption) (by simp) (by simp)) fun x i h y hi hq=> ?_;dsimp only)|(refine OK.pure U4 ?_;dsimp only)|(refine OK.pure Gr ?_;dsimp only))
 all_goals first
  |exact z
  |exact hx3
  |exact AIv _
  |exact AIO
  |(refine M6 ?_;dsimp only;omega)
end
end Go.M
end
section
set_option maxRecDepth 8000
namespace Go.M
open Go.M.H (AL AR A3 A0 AA Cb AQ BI AS Ab BC Bd CD Ak CN AY AU Aa Ae B5 A_ Av BF Dz Ba Cg C1)
theorem bY{s:AAZ}{p:Int}:∀{l:List Bd} {b:Option AL},(∀x,b=some x→Da x=true)→ ∀x,RP s p b l=some x→Da x=true
 |[],b,hb,x,h=>hb x h
 |a::l,b,hb,x,h=>by
  simp only[RP]at h;split at h
  ·rename_i hc
   simp only[AIo]at hc;refine bY (l:=l) ?_ x h
   intro z hz;split at hz
   ·rename_i z' hz'
    unfold better at hz;split at hz
    ·rw[←AN5 hz];exact hc.2.2.1
    ·rw[←AN5 hz];exact hb _ rfl
   ·rw[←AN5 hz];exact hc.2.2.1
  ·exact bY (l:=l) hb x h
theorem cF{c:CB}{g:AQ}{sure:Int}{r:Ab}{l:List Bd}(h:∀e∈r.2.2.1,e.2.2.1.length≤40)(h0:(FN c g sure r l).2=0):∀e∈(FN c g sure r l).1.2.2.1,e.2.2.1.length≤40:=by
 have app:∀(ev:BC),ev.2.2.1.length≤40→ ∀e∈r.2.2.1++[ev],e.2.2.1.length≤40:=fun ev lg e he=>by
  rcases AJ6.1 he with he|he
  ·exact h e he
  ·rw[AK4.1 he];exact lg
 have hf:∀p,(WJ p (RP (g.1.getD (r.1-1).toNat Dv).1 p none l)).2.2.1.length≤40:=fun p=>by
  cases hb:RP (g.1.getD (r.1-1).toNat Dv).1 p none l with
  |none=>show 0≤40;omega
  |some x=>
   have:=(Ff.1 (bY (b:=none) (fun x hx=>by cases hx) x hb)).len;unfold WJ;dsimp only;split
   ·show 0≤40;omega
   ·exact this
 revert h0
 unfold FN;dsimp only;split
 ·intro h0;cases h0
 split
 ·intro h0;cases h0
 split
 ·intro _;exact app _ (by show 0≤40;omega)
 split
 ·intro _;exact app _ (by show 0≤40;omega)
 split
 ·intro h0;cases h0
 split
 ·intro h0;cases h0
 intro _;exact app _ (hf _)
theorem Au{w:AA}{n:Int}{q:AR×Bool}:(putAt w n q).1.Ah=w.Ah:=by
 unfold putAt;split<;>rfl
theorem ll{w:AA}{a k:Int}(h:nc w):nc (RR w a k).1:=by
 unfold RR;split
 ·exact h
 dsimp only;split
 ·exact h
 rename_i h2;intro r hr;rcases ALF hr with hr|rfl
 ·exact h r hr
 ·refine cF ?_ (by simpa using h2)
  by_cases hl:a.toNat<w.Ah.length
  ·exact h _ (As hl)
  ·rw[List.getD,AMc (by omega)]
   intro e he;exact absurd he (by simp)
theorem Cd{w w':AA}(h:nc w)(e:w'.Ah=w.Ah):nc w':=by
 unfold nc;rw[e];exact h
theorem pk{all:Bool}{w:AA}{d:CD}(h:nc w):nc (Tw all w d).1:=by
 unfold Tw;by_cases c:d.1=1
 ·rw[AIF c]
  clear c
  refine Cd h ?_
  unfold Wr
  try dsimp only
  repeat' split
  all_goals first|rfl|exact Au
 rw[AIU c];clear c;by_cases c:d.1=2
 ·rw[AIF c]
  clear c
  refine Cd h ?_
  unfold doAdd
  try dsimp only
  repeat' split
  all_goals first|rfl|exact Au
 rw[AIU c];clear c;by_cases c:d.1=3
 ·rw[AIF c]
  clear c
  refine Cd h ?_
  unfold Si
  try dsimp only
  repeat' split
  all_goals first|rfl|exact Au
 rw[AIU c];clear c;by_cases c:d.1=4
 ·rw[AIF c]
  clear c
  refine Cd h ?_
  unfold Wt
  try dsimp only
  repeat' split
  all_goals first|rfl|exact Au
 rw[AIU c];clear c;by_cases c:d.1=5
 ·rw[AIF c]
  clear c
  refine Cd h ?_
  unfold SO
  try dsimp only
  repeat' split
  all_goals first|rfl|exact Au
 rw[AIU c];clear c;by_cases c:d.1=6
 ·rw[AIF c]
  clear c
  refine Cd h ?_
  unfold Wl
  try dsimp only
  repeat' split
  all_goals first|rfl|exact Au
 rw[AIU c];clear c;by_cases c:d.1=7
 ·rw[AIF c]
  clear c
  refine Cd h ?_
  unfold WS
  try dsimp only
  repeat' split
  all_goals first|rfl|exact Au
 rw[AIU c];clear c;by_cases c:d.1=8
 ·rw[AIF c]
  clear c
  refine Cd h ?_
  unfold Wn
  try dsimp only
  repeat' split
  all_goals first|rfl|exact Au
 rw[AIU c];clear c;by_cases c:d.1=9
 ·rw[AIF c]
  clear c
  refine Cd h ?_
  unfold V_
  try dsimp only
  repeat' split
  all_goals first|rfl|exact Au
 rw[AIU c];clear c;by_cases c:d.1=10
 ·rw[AIF c]
  clear c
  refine Cd h ?_
  unfold We
  try dsimp only
  repeat' split
  all_goals first|rfl|exact Au
 rw[AIU c];clear c;by_cases c:d.1=11
 ·rw[AIF c]
  clear c
  refine Cd h ?_
  unfold aM
  try dsimp only
  repeat' split
  all_goals first|rfl|exact Au
 rw[AIU c];clear c;by_cases c:d.1=12
 ·rw[AIF c]
  clear c
  refine Cd h ?_
  unfold Sb
  try dsimp only
  repeat' split
  all_goals first|rfl|exact Au
 rw[AIU c];clear c;by_cases c:d.1=13
 ·rw[AIF c]
  clear c
  refine Cd h ?_
  unfold YB
  try dsimp only
  repeat' split
  all_goals first|rfl|exact Au
 rw[AIU c];clear c;by_cases c:d.1=14
 ·rw[AIF c];exact ll h
 rw[AIU c];clear c;by_cases c:d.1=15
 ·rw[AIF c]
  clear c
  refine Cd h ?_
  unfold V9
  try dsimp only
  repeat' split
  all_goals first|rfl|exact Au
 rw[AIU c];clear c;refine Cd h ?_
 unfold Sd;split
 ·rfl
 ·exact Au
theorem jm{c:CB}{g:AQ}{sure:Int}{r:Ab}{l:List Bd}(h:∀e∈r.2.2.1,Ck e.2.1)(h0:(FN c g sure r l).2=0):∀e∈(FN c g sure r l).1.2.2.1,Ck e.2.1:=by
 have app:∀(ev:BC),Ck ev.2.1→ ∀e∈r.2.2.1++[ev],Ck e.2.1:=fun ev lg e he=>by
  rcases AJ6.1 he with he|he
  ·exact h e he
  ·rw[AK4.1 he];exact lg
 have hf:∀p b,(WJ p b).2.1=p:=fun p b=>by
  cases b with
  |none=>rfl
  |some x=>unfold WJ;dsimp only;split<;>rfl
 revert h0
 unfold FN;dsimp only;split
 ·intro h0;cases h0
 rename_i DK;have AJ1:ML c g=true∧K8 r=true:=by
  rcases AID (ML c g)with h1|h1
  ·rcases AID (K8 r)with h2|h2
   ·exact⟨h1,h2⟩
   ·rw[h1,h2]at DK;exact absurd rfl DK
  ·rw[h1]at DK;exact absurd rfl DK
 have hrg:=(Nc.1 AJ1.1).tin;have Ta:=YY.1 AJ1.2;have hre:=Ta.ep;have hro:=Ta.off;split
 ·intro h0;cases h0
 split
 ·intro _;exact app _ hrg
 split
 ·intro _;exact app _ (M6 (by show-1000≤r.1+1∧r.1+1≤1000;omega))
 split
 ·intro h0;cases h0
 split
 ·intro h0;cases h0
 intro _;refine app _ ?_
 rw[hf];unfold Ck Pj;omega
theorem sc{w:AA}{a k:Int}(h:Tz w):Tz (RR w a k).1:=by
 unfold RR;split
 ·exact h
 dsimp only;split
 ·exact h
 rename_i h2;intro r hr;rcases ALF hr with hr|rfl
 ·exact h r hr
 ·refine jm ?_ (by simpa using h2)
  by_cases hl:a.toNat<w.Ah.length
  ·exact h _ (As hl)
  ·rw[List.getD,AMc (by omega)]
   intro e he;exact absurd he (by simp)
theorem EG{w w':AA}(h:Tz w)(e:w'.Ah=w.Ah):Tz w':=by
 unfold Tz;rw[show w'.2.2.2.2.2.2.2.2.1=w.2.2.2.2.2.2.2.2.1 from e];exact h
theorem AAo{all:Bool}{w:AA}{d:CD}(h:Tz w):Tz (Tw all w d).1:=by
 unfold Tw;by_cases c:d.1=1
 ·rw[AIF c]
  clear c
  refine EG h ?_
  unfold Wr
  try dsimp only
  repeat' split
  all_goals first|rfl|exact Au
 rw[AIU c];clear c;by_cases c:d.1=2
 ·rw[AIF c]
  clear c
  refine EG h ?_
  unfold doAdd
  try dsimp only
  repeat' split
  all_goals first|rfl|exact Au
 rw[AIU c];clear c;by_cases c:d.1=3
 ·rw[AIF c]
  clear c
  refine EG h ?_
  unfold Si
  try dsimp only
  repeat' split
  all_goals first|rfl|exact Au
 rw[AIU c];clear c;by_cases c:d.1=4
 ·rw[AIF c]
  clear c
  refine EG h ?_
  unfold Wt
  try dsimp only
  repeat' split
  all_goals first|rfl|exact Au
 rw[AIU c];clear c;by_cases c:d.1=5
 ·rw[AIF c]
  clear c
  refine EG h ?_
  unfold SO
  try dsimp only
  repeat' split
  all_goals first|rfl|exact Au
 rw[AIU c];clear c;by_cases c:d.1=6
 ·rw[AIF c]
  clear c
  refine EG h ?_
  unfold Wl
  try dsimp only
  repeat' split
  all_goals first|rfl|exact Au
 rw[AIU c];clear c;by_cases c:d.1=7
 ·rw[AIF c]
  clear c
  refine EG h ?_
  unfold WS
  try dsimp only
  repeat' split
  all_goals first|rfl|exact Au
 rw[AIU c];clear c;by_cases c:d.1=8
 ·rw[AIF c]
  clear c
  refine EG h ?_
  unfold Wn
  try dsimp only
  repeat' split
  all_goals first|rfl|exact Au
 rw[AIU c];clear c;by_cases c:d.1=9
 ·rw[AIF c]
  clear c
  refine EG h ?_
  unfold V_
  try dsimp only
  repeat' split
  all_goals first|rfl|exact Au
 rw[AIU c];clear c;by_cases c:d.1=10
 ·rw[AIF c]
  clear c
  refine EG h ?_
  unfold We
  try dsimp only
  repeat' split
  all_goals first|rfl|exact Au
 rw[AIU c];clear c;by_cases c:d.1=11
 ·rw[AIF c]
  clear c
  refine EG h ?_
  unfold aM
  try dsimp only
  repeat' split
  all_goals first|rfl|exact Au
 rw[AIU c];clear c;by_cases c:d.1=12
 ·rw[AIF c]
  clear c
  refine EG h ?_
  unfold Sb
  try dsimp only
  repeat' split
  all_goals first|rfl|exact Au
 rw[AIU c];clear c;by_cases c:d.1=13
 ·rw[AIF c]
  clear c
  refine EG h ?_
  unfold YB
  try dsimp only
  repeat' split
  all_goals first|rfl|exact Au
 rw[AIU c];clear c;by_cases c:d.1=14
 ·rw[AIF c];exact sc h
 rw[AIU c];clear c;by_cases c:d.1=15
 ·rw[AIF c]
  clear c
  refine EG h ?_
  unfold V9
  try dsimp only
  repeat' split
  all_goals first|rfl|exact Au
 rw[AIU c];clear c;refine EG h ?_
 unfold Sd;split
 ·rfl
 ·exact Au
theorem ot{all:Bool}{w:AA}{d:CD}(h:Tz w)(e:(L5 all w d).2=0):Tz (L5 all w d).1:=by
 unfold L5 at*;by_cases hc:(!CH w|| !S6 d)=true
 ·rw[AIF hc]at e;cases e
 ·rw[AIU hc];exact AAo h
theorem nn{c:CB}:Tz (VT c):=fun r hr=>by
 have:r=(1,1,[],()):=by
  have wA:r∈([(1,1,[],()),(1,1,[],())]:List Ab):=hr;simpa using wA
 subst this;intro e he;cases he
theorem jS{all:Bool}{w:AA}{d:CD}(h:nc w)(e:(L5 all w d).2=0):nc (L5 all w d).1:=by
 unfold L5 at*;by_cases hc:(!CH w|| !S6 d)=true
 ·rw[AIF hc]at e;cases e
 ·rw[AIU hc];exact pk h
theorem nr{c:CB}(hc:C4 c=true):PH (VT c)∧nc (VT c):=by
 refine⟨⟨hc,by simp[VT,H.AA.Al],T2 hc,.inr j9,fun i hi=> ?_,⟨hc,by show 0≤30;omega,.inl rfl,fun e he=>(by cases he),fun i hi=>by exact absurd hi (by show¬i<0;omega)⟩,by show 0≤4;omega,by show 0≤1;omega,fun x hx=>(by cases hx),List.Pairwise.nil,fun x hx=>(by cases hx),rfl,fun r hr=> ?_,by show 0≤120;omega,fun x hx=>(by cases hx),List.Pairwise.nil⟩,fun r hr=> ?_⟩
 ·have:(VT c).Al.getD i Cw=Cw:=by
   show(List.replicate c.1.length Cw).getD i Cw=Cw
   rw[List.getD,AN2];split<;>rfl
  rw[this];exact⟨XZ.nil,fun _=>rfl⟩
 ·have:r=(1,1,[],()):=by
   have wA:r∈([(1,1,[],()),(1,1,[],())]:List Ab):=hr;simpa using wA
  subst this;exact⟨by show(1:Int)≤1∧(1:Int)≤31;omega,by show(1:Int)≤1∧(1:Int)≤61;omega,by show 0≤120;omega⟩
 ·have:r=(1,1,[],()):=by
   have wA:r∈([(1,1,[],()),(1,1,[],())]:List Ab):=hr;simpa using wA
  subst this;intro e he;cases he
theorem cr{c:CB}(hc:C4 c=true):FY c=some (((((),c.2.1,(),(),(),0,(),(),(),(),false,()),true,()),()),(c.1,List.replicate c.1.length Cw,[],[],[],[],[(1,1,[],()),(1,1,[],())],[],())):=by
 have hl:=(Dh hc).2.1;unfold FY;rw[show(c.1,c.2.1,())=c from rfl,FO (by omega),hc];simp only[AN,AJN,AI5];rw[AIF (by rw[BA];omega),AIF ⟨by omega,by omega,by rw[BA];omega⟩];rfl
def Yv(x:(AHz×Unit))(y:Unit×Unit×Unit×Unit×Unit×Unit×Unit×Unit×(List CD)×List Int×(List AR)×List Int×(List Cb)×(List AS)×(List A3)×(List Ab)×(List A0)×Unit):AA:=
 (y.2.2.2.2.2.2.2.2.2.1,x.1.2.2.1.2.1,y.2.2.2.2.2.2.2.2.2.2.1,y.2.2.2.2.2.2.2.2.2.2.2.1,y.2.2.2.2.2.2.2.2.2.2.2.2.1,x.1.2.2.1.2.2.2.2.2.1,y.2.2.2.2.2.2.2.2.2.2.2.2.2.1,y.2.2.2.2.2.2.2.2.2.2.2.2.2.2.1,y.2.2.2.2.2.2.2.2.2.2.2.2.2.2.2.1,y.2.2.2.2.2.2.2.2.2.2.2.2.2.2.2.2.1,x.1.2.2.1.2.2.2.2.2.2.2.2.2.2.1,())
section
variable{code:AAZ} (hc:code.length≤2^30)
include hc
theorem AHV{T:Int}(hT:T≤1000){z1 z2:Int}{z3:Bool}:∀(n k:Nat) (i hh:Int) (w:AA) (acc:List CD),Br code i→(k:Int)≤max T 0→(T-k).toNat<n→acc.length≤k→PH w→nc w→Tz w→
  OK code (fun x y=>PH (Yv x y)∧nc (Yv x y)∧Tz (Yv x y)) (Cj n T k code i hh 0 0 false [] [] [] [] [] [] [] [] 0 0 false [] [] [] [] [] [] [] [] z1 z2 z3 w.2.1 w.2.2.2.2.2.1 w.2.2.2.2.2.2.2.2.2.2.1 w.1 w.2.2.1 w.2.2.2.1 w.2.2.2.2.1 w.2.2.2.2.2.2.1 w.2.2.2.2.2.2.2.1 w.2.2.2.2.2.2.2.2.1 w.2.2.2.2.2.2.2.2.2.1 acc):=by
 intro n
 induction n with
 |zero=>intro k i hh w acc _ _ h;omega
 |succ n ih=>
  intro k i hh w acc hi hk hn hb hw hr hv;simp only[Cj,Mn];refine OK.MJ (fun Dj=> ?_) (fun s_=>OK.some hi ⟨hw,hr,hv⟩);rw[show(w.1,w.2.1,w.2.2.1,w.2.2.2.1,w.2.2.2.2.1,w.2.2.2.2.2.1,w.2.2.2.2.2.2.1,w.2.2.2.2.2.2.2.1,w.2.2.2.2.2.2.2.2.1,w.2.2.2.2.2.2.2.2.2.1,w.2.2.2.2.2.2.2.2.2.2.1,())=w from rfl];refine OK.bind (mK hc hw hi) fun x i1 h1 y IB hq=> ?_
  dsimp only;refine OK.ite (by rw[BA];omega) ?_
  refine OK.pure (eE (d:=x.1) (hw.XT hr) hq) ?_
  rw[AK (by omega) (by omega),show((k:Int)+1)=((k+1:Nat):Int)by omega];refine OK.DI (fun h0=> ?_) (fun h0=> ?_)
  ·have h0':(L5 true w x.1).2=0:=h0
   exact ih (k+1) i1 h1 (L5 true w x.1).1 (acc++[x.1]) IB (by omega) (by omega) (by simp;omega) (Qj.1 (oV h0')) (jS hr h0') (ot hv h0')
  ·exact ih (k+1) i1 h1 w (acc++[x.1]) IB (by omega) (by omega) (by simp;omega) hw hr hv
theorem AI_{T:Int}(hT:0≤T∧T≤500){vN:AAZ}{b21:AAZ}(oK:b21.length≤100)(hd:Wb vN 1):∀(n:Nat) (c i hh:Int),Br code i→1≤c∧c≤3→c.toNat+1000≤n→
  OK code (fun x y=>PH (Yv x y)∧nc (Yv x y)∧Tz (Yv x y)) (DT n T code i hh 0 0 false [] [] [] [] [] [] [] [] 0 0 false [] [] [] [] [] [] [] [] c vN b21):=by
 intro n
 induction n with
 |zero=>intro c i hh _ _ h;omega
 |succ n ih=>
  intro c i hh hi mB hn;have hg:Wb vN c:=⟨hd.1,hd.2.1,mB.1,mB.2,hd.2.2.2.2⟩;have hdl:=hd.2.1;simp only[DT,Nr];have fin:OK code (fun x y=>PH (Yv x y)∧nc (Yv x y)∧Tz (Yv x y)) ((FY (vN,c,())).bind fun u6=>
    (AF (AX (T+1)) code i hh).bind fun u7=>
    Cj n u7.1.1 0 u7.2.1.1 u7.2.1.2.1 u7.2.1.2.2.1 0 0 false [] [] [] [] [] [] [] [] 0 0 false [] [] [] [] [] [] [] [] u6.1.1.1.2.1 u6.1.1.1.2.2.2.2.2.1 u6.1.1.1.2.2.2.2.2.2.2.2.2.2.1 u6.1.1.1.2.1 u6.1.1.1.2.2.2.2.2.1 u6.1.1.1.2.2.2.2.2.2.2.2.2.2.1 u6.2.1 u6.2.2.1 u6.2.2.2.1 u6.2.2.2.2.1 u6.2.2.2.2.2.1 u6.2.2.2.2.2.2.1 u6.2.2.2.2.2.2.2.1 u6.2.2.2.2.2.2.2.2.1 []):=by
   refine OK.pure (cr hg.ok) ?_
   rw[AK (by omega) (by omega)];refine OK.bind (BJ hc hi (by omega)) fun x i1 h1 y IB hq=> ?_
   have hwn:=nr hg.ok;exact AHV hc (T:=x.1) (by omega) n 0 i1 h1 (VT (vN,c,())) [] IB (by omega) (by omega) (by simp) hwn.1 hwn.2 nn
  refine OK.MJ (fun Dj=> ?_) (fun s_=>fin);refine OK.pure (Cr (by show vN.length≤_;omega) (by omega)) ?_
  refine OK.cond (fun _=> ?_) (fun _=>fin);rw[AK (by omega) (by omega)];exact ih (c-1) i hh hi (by omega) (by omega)
theorem AJT{T:Int}(hT:0≤T∧T≤500){vN:AAZ}{c:Int}(hd:Wb vN c):∀(n k:Nat) (i hh:Int) (b:AAZ),Br code i→k≤vN.length→vN.length-k+1010≤n→b.length≤k→
  OK code (fun x y=>PH (Yv x y)∧nc (Yv x y)∧Tz (Yv x y)) (DO n T k code i hh 0 0 false [] [] [] [] [] [] [] [] 0 0 false [] [] [] [] [] [] [] [] c vN b):=by
 have hdl:=hd.2.1;intro n
 induction n with
 |zero=>intro k i hh b _ _ h;omega
 |succ n ih=>
  intro k i hh b hi hk hn hb;simp only[DO,Nh];refine OK.MJ (fun Dj=> ?_) (fun s_=> ?_)
  ·refine OK.ite (by rw[BA];omega) ?_
   rw[AK (by omega) (by omega),show((k:Int)+1)=((k+1:Nat):Int)by omega];exact ih (k+1) i hh _ hi (by omega) (by omega) (by simp;omega)
  ·exact AI_ hc hT (by omega) ⟨hd.1,hd.2.1,by omega,by omega,hd.2.2.2.2⟩ n c i hh hi ⟨hd.2.2.1,hd.2.2.2.1⟩ (by have:=hd.2.2.2.1;omega)
theorem oR{T:Int}(hT:0≤T∧T≤500){i hh:Int}(hi:Br code i):OK code (fun x y=>PH (Yv x y)∧nc (Yv x y)∧Tz (Yv x y)) (H0 T code i hh):=by
 unfold H0 Nk;obtain⟨l,c,i1,h1,e,hg,IB⟩:=Xo hc (h:=hh) hi;rw[e];have hgl:=hg.2.1;exact AJT hc hT hg AZ 0 i1 h1 [] IB (by omega) (ANw (Af (by omega))) (by simp)
end
end Go.M
end
section
set_option maxRecDepth 8000
namespace Go.M
open Go.M.H (AL AR A3 A0 AA Cb AQ BI AS Ab BC Bd CD Ak CN AY AU Aa Ae B5 A_ Av BF Dz Ba Cg C1)
abbrev AJM:AL×Unit→Unit→Prop:=fun x _=>Ck x.1.1∧x.1.2.2.2.1.length≤41
section
variable{code:AAZ} (hc:code.length≤2^30)
include hc
theorem L0{i hh:Int}(hi:Br code i):OK code (fun(x:ACx) (_:Unit)=>Ck x.1) (Cl code i hh):=by
 obtain⟨v,i1,h1,e,a,b,IB⟩:=gQ hc (h:=hh) hi;exact⟨(v,()),i1,h1,(),e,IB,by unfold Ck;omega⟩
theorem dA{i hh:Int}(hi:Br code i):OK code AJM (JD code i hh):=by
 unfold JD;dsimp only;refine OK.bind (BJ hc hi (by omega)) fun x1 i1 h1 y1 IB hq1=> ?_
 dsimp only at*;refine OK.bind (BJ hc IB (by omega)) fun x2 i2 h2 y2 Fc iq=> ?_
 dsimp only at*;rw[AK (by omega) (by omega),AK (x:=1+x2.1) (by omega) (by omega)];refine OK.pure (D9 (by omega) (by omega)) ?_
 dsimp only;have hp:=PY (e:=1+x1.1) (o:=1+x2.1) (by omega) (by omega);have hpi:=HB hp.1;refine OK.bind (fI hc Fc (by simp) (by simp)) fun x3 i3 h3 y3 Hb PT=> ?_
 dsimp only at*;have hl:x3.1.length≤41:=by
  simp only[AKv,List.not_mem_nil,or_false]at PT;rcases PT with h|h|h|h|h<;>rw[h]<;>simp
 refine OK.bind (L1 hc Hb (by omega)) fun x4 i4 h4 y4 l_ hq4=> ?_
 dsimp only;refine OK.cond (fun _=> ?_) (fun _=>OK.some l_ ⟨hpi,hl⟩);refine OK.pure (Cz hpi) ?_
 dsimp only;refine OK.bind (BJ hc l_ (by omega)) fun x5 i5 h5 y5 vI hq5=> ?_
 dsimp only;refine OK.bind (L1 hc vI (by omega)) fun x6 i6 h6 y6 hi6 hq6=> ?_
 dsimp only;exact OK.cond (fun _=>OK.some hi6 ⟨hpi,by show 0≤41;omega⟩) (fun _=>OK.some hi6 ⟨hpi,hl⟩)
theorem Z8{i hh:Int}(hi:Br code i):OK code AJM (NX code i hh):=by
 unfold NX;refine OK.bind (dA hc hi) fun x i h y hi hq=> ?_
 dsimp only at*;refine OK.bind (BJ hc hi (by omega)) fun x2 i2 h2 y2 Fc iq=> ?_
 dsimp only at*;refine OK.DI (fun _=> ?_) (fun _=> ?_)
 ·refine OK.bind (L0 hc Fc) fun x3 i3 h3 y3 Hb PT=> ?_
  exact OK.some Hb ⟨PT,hq.2⟩
 refine OK.DI (fun _=> ?_) (fun _=> ?_)
 ·refine OK.bind (NC hc Fc (by simp) (by simp)) fun x3 i3 h3 y3 Hb PT=> ?_
  exact OK.some Hb hq
 refine OK.DI (fun _=>OK.some Fc hq) (fun _=> ?_);refine OK.DI (fun _=> ?_) (fun _=>OK.some Fc hq);refine OK.bind (BJ hc Fc (by omega)) fun x3 i3 h3 y3 Hb PT=> ?_
 dsimp only at*;rw[AK (by omega) (by omega)];refine OK.ite (by rw[BA];omega) ?_
 refine OK.some Hb ⟨hq.1,?_⟩;simp only[AN8,AMd];omega
abbrev StQ:AEP→((List AL)×(List AL)×Unit)→Prop:=fun x y=>lO (y.1,y.2.1,x.1.2.2.1,())∧y.1.length≤300∧y.2.1.length≤300∧(∀e∈y.1,Ae e≤41)∧(∀e∈y.2.1,Ae e≤41)
theorem AG_{s:AR}(h:XZ s):lO s∧s.1.length≤200∧s.2.1.length≤20∧(∀e∈s.1,Ae e≤41)∧(∀e∈s.2.1,Ae e≤41):=
 ⟨h.sin,h.nk,h.nl,fun e he=>by have:=(Ff.1 (h.kept e he)).len;unfold Ae;omega,fun e he=>by have:=(Ff.1 (h.late e he)).len;unfold Ae;omega⟩
theorem pP{x2 x3:List AL}{z:Int}{sl:Int}{l6:List AL}{i hh:Int}(hi:Br code i)(h6:al l6∧l6.length≤20∧ ∀e∈l6,Ae e≤41):∀n:Nat,
  (∀(k:Nat) (b:List AL),1≤k→k≤5→(5-k)*60+1≤n→b.length≤(k-1)*50→al b→(∀e∈b,Ae e≤41)→OK code StQ (DS n k code i hh z x2 x3 sl b l6))∧
  (∀(k j:Nat) (b:List AL),1≤k→k≤4→1≤j→j≤51→(4-k)*60+1+(51-j)+1≤n→b.length≤(k-1)*50+(j-1)→al b→(∀e∈b,Ae e≤41)→OK code StQ (DM n k j code i hh z x2 x3 sl b l6)):=by
 intro n
 induction n with
 |zero=>exact⟨fun k b _ _ h=>by omega,fun k j b _ _ _ _ h=>by omega⟩
 |succ n ih=>
  refine⟨fun k b h1 h2 hn hb qH oH=> ?_,fun k j b h1 h2 h3 h4 hn hb qH oH=> ?_⟩
  ·simp only[DS,Nt]
   refine OK.MJ (fun Dj=>ih.2 k 1 b h1 (by omega) (by omega) (by omega) (by omega) (by omega) qH oH) (fun s_=> ?_);exact OK.some hi ⟨⟨qH,h6.1⟩,by show b.length≤300;omega,by show l6.length≤300;omega,oH,h6.2.2⟩
  ·simp only[DM,Nm]
   refine OK.MJ (fun Dj=> ?_) (fun s_=> ?_)
   ·refine OK.pure (D9 (by omega) (by omega)) ?_
    dsimp only;refine OK.ite (by rw[BA];omega) ?_
    rw[AK (by omega) (by omega),show((j:Int)+1)=((j+1:Nat):Int)by omega];have hp:=HB (PY (e:=(k:Int)) (o:=(j:Int)) (by omega) (by omega)).1;refine ih.2 k (j+1) _ h1 h2 (by omega) (by omega) (by omega) (by simp;omega) (fun e he=> ?_) (fun e he=> ?_)
    ·rcases AJ6.1 he with he|he
     ·exact qH e he
     ·rw[AK4.1 he];exact hp
    ·rcases AJ6.1 he with he|he
     ·exact oH e he
     ·rw[AK4.1 he];show 0≤41;omega
   ·rw[AK (by omega) (by omega),show((k:Int)+1)=((k+1:Nat):Int)by omega]
    exact ih.1 (k+1) b (by omega) (by omega) (by omega) (by omega) qH oH
theorem qz{x2 x3:List AL}{z:Int}{T:Int}(hT:T≤100):∀(n k:Nat) (i hh:Int) (s:AR),Br code i→(k:Int)≤max T 0→(T-k).toNat+400≤n→XZ s→
  OK code StQ (C6 n T k code i hh z x2 x3 s.2.2.1 s.1 s.2.1):=by
 intro n
 induction n with
 |zero=>intro k i hh s _ _ h;omega
 |succ n ih=>
  intro k i hh s hi hk hn hs;have hsw:=hs.w;simp only[C6,Oc];refine OK.MJ (fun Dj=> ?_) (fun s_=> ?_)
  ·rw[AK (x:=(k:Int)+1) (by omega) (by omega),show((k:Int)+1)=((k+1:Nat):Int)by omega]
   have next:∀(i hh:Int) (s:AR),Br code i→XZ s→OK code StQ (C6 n T ((k+1:Nat):Int) code i hh z x2 x3 s.2.2.1 s.1 s.2.1):=fun i hh s hi hs=>ih (k+1) i hh s hi (by omega) (by omega) hs
   refine OK.bind (dA hc hi) fun x i1 h1 y IB hq=> ?_
   dsimp only at*;rw[show(s.1,s.2.1,s.2.2.1,())=s from rfl,show(x.1.1,x.1.2.1,x.1.2.2.1,x.1.2.2.2.1,())=x.1 from rfl];refine OK.pure (Pn (by omega) hs.sin hq.1) ?_
   dsimp only[l8];have tp:XZ (Hw s x.1).1:=by
    rcases AID (Hw s x.1).2 with h2|h2
    ·exact(Xm h2).1
    ·unfold Hw at h2⊢
     rw[Gn.2 hs]at h2⊢;simp only[AJN,AJp,ALG]at h2⊢;split at h2
     ·cases h2
     ·rename_i hn;rw[AIU hn];exact hs
   have AOn:=tp.w;have ADJ:∀s:AR,XZ s→(Ch s).2=true→XZ (Ch s).1:=fun s hs h2=>(Mg h2).2.1
   refine OK.bind (BJ hc IB (by omega)) fun x2' i2 h2 y2 Fc iq=> ?_
   dsimp only at*;refine OK.DI (fun _=> ?_) (fun _=> ?_)
   ·refine OK.pure (KV (by omega) hs.sin) ?_
    dsimp only[l8];exact OK.cond (fun hb=>next _ _ _ Fc (ADJ s hs hb)) (fun _=>next _ _ _ Fc hs)
   refine OK.DI (fun _=> ?_) (fun _=> ?_)
   ·refine OK.pure (KV (s:=(Hw s x.1).1) (by omega) tp.sin) ?_
    dsimp only[l8];exact OK.cond (fun hb=>next _ _ _ Fc (ADJ _ tp hb)) (fun _=>next _ _ _ Fc hs)
   refine OK.DI (fun _=> ?_) (fun _=> ?_)
   ·refine OK.bind (L1 hc Fc (by omega)) fun x3 i3 h3 y3 Hb PT=> ?_
    dsimp only;refine OK.cond (fun _=> ?_) (fun _=> ?_)
    ·refine OK.bind (BJ hc Hb (by omega)) fun x4 i4 h4 y4 l_ hq4=> ?_
     dsimp only at*;refine OK.pure (UL (by omega) hs.sin) ?_
     dsimp only[l8];exact OK.cond (fun hb=>next _ _ _ l_ (m9 hs)) (fun _=>next _ _ _ l_ hs)
    ·exact OK.cond (fun hb=>next _ _ _ Hb tp) (fun _=>next _ _ _ Hb hs)
   ·exact OK.cond (fun hb=>next _ _ _ Fc tp) (fun _=>next _ _ _ Fc hs)
  ·refine OK.bind (L1 hc hi (by omega)) fun x3 i3 h3 y3 Hb PT=> ?_
   dsimp only;have hq:=AG_ hc hs;refine OK.cond (fun _=> ?_) (fun _=>OK.some Hb ⟨hq.1,by have:=hq.2.1;show s.1.length≤300;omega,by have:=hq.2.2.1;show s.2.1.length≤300;omega,hq.2.2.2.1,hq.2.2.2.2⟩);exact(pP hc Hb ⟨hq.1.2,hq.2.2.1,hq.2.2.2.2⟩ n).1 1 [] (by omega) (by omega) (by omega) (by simp) (fun e he=>by simp at he) (fun e he=>by simp at he)
theorem ft{i hh:Int}(hi:Br code i):OK code StQ (EO code i hh):=by
 unfold EO O2;refine OK.bind (BJ hc hi (by omega)) fun x2' i2 h2 y2 Fc iq=> ?_
 dsimp only at*;exact qz hc (T:=x2'.1) (by omega) AZ 0 i2 h2 Cw Fc (by omega) (ANw (Af (by omega))) XZ.nil
abbrev AIV:AEP→((List AL)×(List AL)×Unit)→Prop:=fun x y=>lO (y.1,y.2.1,x.1.2.2.1,())∧Ak (y.1,y.2.1,x.1.2.2.1,())≤40000
theorem bG{s:AR}(h1:lO s)(h2:s.1.length≤310)(h3:s.2.1.length≤330)(h4:∀e∈s.1,Ae e≤41)(h5:∀e∈s.2.1,Ae e≤41):lO s∧Ak s≤40000:=by
 have a:=Dw (f:=Ae) (B:=41) h2 h4;have b:=Dw (f:=Ae) (B:=41) h3 h5;refine⟨h1,?_⟩;unfold Ak;omega
theorem sM{x2 x3:List AL}{z sl:Int}{l5:List AL}(h5:al l5∧l5.length≤300∧ ∀e∈l5,Ae e≤41):∀(n:Nat) (i hh:Int) (b:List AL),Br code i→330-b.length<n→b.length≤310→al b→(∀e∈b,Ae e≤41)→
  OK code AIV (Jx n code i hh z x2 x3 sl l5 b):=by
 intro n
 induction n with
 |zero=>intro i hh b _ h;omega
 |succ n ih=>
  intro i hh b hi hn hb qH oH;simp only[Jx,Tq];refine OK.bind (BJ hc hi (by omega)) fun x i2 h2 y2 Fc iq=> ?_
  dsimp only at*;rw[AK (by omega) (by omega)];refine OK.MJ (fun Dj=> ?_) (fun _=>OK.some Fc (bG hc ⟨h5.1,qH⟩ (by show l5.length≤_;omega) (by show b.length≤_;omega) h5.2.2 oH));refine OK.pure (D9 (by omega) (by omega)) ?_
  dsimp only;refine OK.ite (by rw[BA];omega) ?_
  have hp:=HB (PY (e:=5) (o:=1) (by omega) (by omega)).1;refine ih i2 h2 _ Fc (by simp;omega) (by simp;omega) (fun e he=> ?_) (fun e he=> ?_)
  ·rcases AJ6.1 he with he|he
   ·exact qH e he
   ·rw[AK4.1 he];exact hp
  ·rcases AJ6.1 he with he|he
   ·exact oH e he
   ·rw[AK4.1 he];show 0≤41;omega
theorem r_{i hh:Int}(hi:Br code i):OK code AIV (Qm code i hh):=by
 unfold Qm UU;refine OK.bind (ft hc hi) fun x i1 h1 y IB hq=> ?_
 dsimp only at*;obtain⟨q1,q2,q3,q4,q5⟩:=hq;have base:lO (y.1,y.2.1,x.1.2.2.1,())∧Ak (y.1,y.2.1,x.1.2.2.1,())≤40000:=bG hc q1 (by show y.1.length≤_;omega) (by show y.2.1.length≤_;omega) q4 q5;have add:∀{l:List AL} {e:AL},(∀x∈l,Ae x≤41)→Ae e≤41→ ∀x∈l++[e],Ae x≤41:=fun h1 h2 x hx=>by
  rcases AJ6.1 hx with hx|hx
  ·exact h1 x hx
  ·rw[AK4.1 hx];exact h2
 have AJ8:∀{l:List AL} {e:AL},al l→Ck e.1→al (l++[e]):=fun h1 h2 x hx=>by
  rcases AJ6.1 hx with hx|hx
  ·exact h1 x hx
  ·rw[AK4.1 hx];exact h2
 refine OK.bind (BJ hc IB (by omega)) fun x2 i2 h2 y2 Fc iq=> ?_
 dsimp only at*;refine OK.DI (fun _=> ?_) (fun _=> ?_)
 ·refine OK.bind (NC hc Fc (by simp) (by simp)) fun x3 i3 h3 y3 Hb PT=> ?_
  exact OK.some Hb base
 refine OK.DI (fun _=> ?_) (fun _=> ?_)
 ·refine OK.bind (Z8 hc Fc) fun x3 i3 h3 y3 Hb PT=> ?_
  dsimp only;refine OK.ite (by rw[BA];omega) ?_
  exact OK.some Hb (bG hc ⟨AJ8 q1.1 PT.1,q1.2⟩ (by show(y.1++[_]).length≤_;simp;omega) (by show y.2.1.length≤_;omega) (add q4 PT.2) q5)
 refine OK.DI (fun _=> ?_) (fun _=> ?_)
 ·refine OK.bind (Z8 hc Fc) fun x3 i3 h3 y3 Hb PT=> ?_
  dsimp only;refine OK.ite (by rw[BA];omega) ?_
  exact OK.some Hb (bG hc ⟨q1.1,AJ8 q1.2 PT.1⟩ (by show y.1.length≤_;omega) (by show(y.2.1++[_]).length≤_;simp;omega) q4 (add q5 PT.2))
 refine OK.DI (fun _=> ?_) (fun _=>OK.some Fc base);exact sM hc ⟨q1.1,q2,q4⟩ AZ i2 h2 y.2.1 Fc (Af (by omega)) (by omega) q1.2 q5
end
end Go.M
end
section
set_option maxRecDepth 8000
namespace Go.M
open Go.M.H (AL AR A3 A0 AA Cb AQ BI AS Ab BC Bd CD Ak CN AY AU Aa Ae B5 A_ Av BF Dz Ba Cg C1)
theorem Vm{α:Type}{f:α→Nat}{x:α}:∀{l:List α} {i:Nat},AY f (l.set i x)≤AY f l+f x
 |[],i=>by simp[AY]
 |y::l,0=>by simp only[ANs,AY];omega
 |y::l,i+1=>by
  have:=Vm (f:=f) (x:=x) (l:=l) (i:=i);simp only[List.set_cons_succ,AY];omega
abbrev AJh:ADU→((List Cb)×Unit)→Prop:=fun x y=>AY B5 y.1≤300000∧Ck x.1.2.1
def g7(c:CB)(r:AQ):Prop:=qG c r∨r=([],0,())
theorem g7.w{c:CB}{r:AQ}(h:g7 c r):AY B5 r.1≤270:=by
 rcases h with h|rfl
 ·exact h.w
 ·show 0≤270;omega
theorem g7.n{c:CB}{r:AQ}(h:g7 c r):r.1.length≤30:=by
 rcases h with h|rfl
 ·exact h.n
 ·show 0≤30;omega
theorem g7.tin{c:CB}{r:AQ}(h:g7 c r):Ck r.2.1:=by
 rcases h with h|rfl
 ·exact h.tin
 ·exact M6 (by show-1000≤(0:Int)∧(0:Int)≤1000;omega)
section
variable{code:AAZ} (hc:code.length≤2^30) {c:CB} (Xp:c.1.length≤2^10)
include hc Xp
theorem oT{z:Int}{x3:List Cb}:∀(n k:Nat) (i hh:Int) (r:AQ),Br code i→k≤7→7-k<n→g7 c r→
  OK code (fun(x:ADU) (y:List Cb×Unit)=>g7 c (y.1,x.1.2.1,())) (E4 n k code i hh c.1 c.2.1 z x3 r.2.1 r.1):=by
 intro n
 induction n with
 |zero=>intro k i hh r _ _ h;omega
 |succ n ih=>
  intro k i hh r hi hk hn hr;have hrw:=hr.w;have xI:=hr.tin;simp only[E4,OJ];refine OK.bind (BJ hc hi (by omega)) fun x i1 h1 y IB hq=> ?_
  dsimp only at*;refine OK.MJ (fun Dj=> ?_) (fun _=>OK.some IB hr);rw[AK (x:=(k:Int)+1) (by omega) (by omega),show((k:Int)+1)=((k+1:Nat):Int)by omega];have next:∀(i hh:Int) (r:AQ),Br code i→g7 c r→OK code (fun(x:ADU) (y:List Cb×Unit)=>g7 c (y.1,x.1.2.1,())) (E4 n ((k+1:Nat):Int) code i hh c.1 c.2.1 z x3 r.2.1 r.1):=fun i hh r hi hr=>ih (k+1) i hh r hi (by omega) (by omega) hr
  rw[show(c.1,c.2.1,())=c from rfl,show(r.1,r.2.1,())=r from rfl];refine OK.bind (Zs hc (by omega) IB) fun x2 i2 h2 y2 Fc iq=> ?_
  dsimp only at*;refine OK.pure (XE (by omega) (by omega) xI (by omega)) ?_
  dsimp only;refine OK.bind (BJ hc Fc (by omega)) fun x3 i3 h3 y3 Hb PT=> ?_
  dsimp only at*;refine OK.DI (fun _=> ?_) (fun _=> ?_)
  ·refine OK.bind (BJ hc Hb (by omega)) fun x4 i4 h4 y4 l_ hq4=> ?_
   dsimp only at*;refine OK.pure (Vw (by omega) (by omega) xI) ?_
   dsimp only[pkR];exact OK.cond (fun hb=>next _ _ (Of c r _ _).1 l_ (.inl (dc hb).2.1)) (fun _=>next _ _ r l_ hr)
  refine OK.DI (fun _=> ?_) (fun _=> ?_)
  ·refine OK.bind (BJ hc Hb (by omega)) fun x4 i4 h4 y4 l_ hq4=> ?_
   dsimp only at*;refine OK.bind (BJ hc l_ (by omega)) fun x5 i5 h5 y5 vI hq5=> ?_
   dsimp only at*;rw[AK (by omega) (by omega),AK (x:=1+x5.1) (by omega) (by omega)];refine OK.pure (D9 (by omega) (by omega)) ?_
   dsimp only;have hp:=HB (PY (e:=1+x4.1) (o:=1+x5.1) (by omega) (by omega)).1;refine OK.pure (XJ (by omega) (by omega) xI hp) ?_
   dsimp only[pkR];exact OK.cond (fun hb=>next _ _ (SM c r _).1 vI (.inl (gY hb).2.1)) (fun _=>next _ _ r vI hr)
  ·exact OK.cond (fun hb=>next _ _ (Ls c r _).1 Hb (.inl (fY hb).2.1)) (fun _=>next _ _ r Hb hr)
theorem oG{i hh:Int}(hi:Br code i):OK code (fun(x:ADU) (y:List Cb×Unit)=>g7 c (y.1,x.1.2.1,())) (Lq c code i hh):=by
 unfold Lq PE;exact oT hc Xp AZ 0 i hh ([],0,()) hi (by omega) (Af (by omega)) (.inr rfl)
omit Xp in
theorem oy{ns:AAZ}(hns:ns.length≤2^13){z t:Int}{x2:List Cb}(ht:Ck t):∀(n:Nat) (i hh:Int) (b:List Cb),Br code i→40-b.length<n→b.length≤31→AY B5 b≤300+b.length*(2^13+1)→
  OK code AJh (J2 n ns code i hh z x2 t b):=by
 intro n
 induction n with
 |zero=>intro i hh b _ h;omega
 |succ n ih=>
  intro i hh b hi hn hb hw;simp only[J2,S1];refine OK.bind (BJ hc hi (by omega)) fun x i1 h1 y IB hq=> ?_
  dsimp only at*;rw[AK (by omega) (by omega)];refine OK.MJ (fun Dj=> ?_) (fun _=>OK.some IB ⟨by show AY B5 b≤_;omega,ht⟩);refine OK.ite (by rw[BA];omega) ?_
  refine ih i1 h1 _ IB (by simp;omega) (by simp;omega) ?_
  have:B5 (ns,false,0,())=ns.length:=rfl;rw[JF];simp only[AY,AKE,AJ0,AKu];omega
theorem om{i hh:Int}(hi:Br code i):OK code AJh (QT c code i hh):=by
 unfold QT UE;rw[show(c.1,c.2.1,())=c from rfl];refine OK.bind (oG hc Xp hi) fun x i1 h1 y IB hq=> ?_
 dsimp only at*;have hrw:AY B5 y.1≤270:=hq.w;have hrn:y.1.length≤30:=hq.n;have xI:Ck x.1.2.1:=hq.tin;have RI:∀{i:Nat} {e:Cb},B5 e≤2^13→AY B5 (y.1.set i e)≤300000:=fun he=>by
  have:=Vm (f:=B5) (x:= ‹Cb›) (l:=y.1) (i:= ‹Nat›);omega
 have AJd:∀i,i<y.1.length→B5 (y.1.getD i ([],false,0,()))≤270:=fun i hi=>by
  have:=Aa (f:=B5) (As (d:=Dv) hi);have h2:B5 (y.1.getD i Dv)≤270:=by omega
  exact h2
 have base:AY B5 y.1≤300000∧Ck x.1.2.1:=⟨by omega,xI⟩;refine OK.bind (BJ hc IB (by omega)) fun x2 i2 h2 y2 Fc iq=> ?_
 dsimp only at*;refine OK.DI (fun _=> ?_) (fun _=> ?_)
 ·refine OK.bind (L0 hc Fc) fun x3 i3 h3 y3 Hb PT=> ?_
  exact OK.some Hb ⟨by show AY B5 y.1≤_;omega,PT⟩
 refine OK.DI (fun _=> ?_) (fun _=> ?_)
 ·refine OK.MJ (fun Dj=> ?_) (fun _=>OK.some Fc base)
  rw[AK (by omega) (by omega)];refine OK.ite (by omega) ?_
  refine OK.some Fc ⟨RI ?_,xI⟩;have:=AJd ((y.1.length:Int)-1).toNat (by omega);have h3:B5 ((y.1.getD ((y.1.length:Int)-1).toNat ([],false,0,())).1,true,(y.1.getD ((y.1.length:Int)-1).toNat ([],false,0,())).2.2.1,())=B5 (y.1.getD ((y.1.length:Int)-1).toNat ([],false,0,())):=rfl;rw[h3];omega
 refine OK.DI (fun _=> ?_) (fun _=> ?_)
 ·refine OK.MJ (fun Dj=> ?_) (fun _=>OK.some Fc base)
  refine OK.bind (NC hc Fc (by simp) (by simp)) fun x3 i3 h3 y3 Hb PT=> ?_
  dsimp only;refine OK.ite (by omega) ?_
  refine OK.some Hb ⟨RI ?_,xI⟩;have:=AJd 0 (by omega);have h4:B5 ((y.1.getD 0 ([],false,0,())).1,(y.1.getD 0 ([],false,0,())).2.1,x3.1,())=B5 (y.1.getD 0 ([],false,0,())):=rfl;rw[h4];omega
 refine OK.DI (fun _=> ?_) (fun _=> ?_)
 ·refine OK.MJ (fun Dj=> ?_) (fun _=>OK.some Fc base)
  refine OK.bind (OO hc (by omega) Fc) fun x3 i3 h3 y3 Hb PT=> ?_
  dsimp only;refine OK.ite (by omega) ?_
  refine OK.some Hb ⟨RI ?_,xI⟩
  show y3.1.length≤_
  omega
 refine OK.DI (fun _=> ?_) (fun _=>OK.some Fc base);refine OK.bind (Zs hc (by omega) Fc) fun x3 i3 h3 y3 Hb PT=> ?_
 dsimp only;exact oy hc PT xI AZ i3 h3 y.1 Hb (Af (by omega)) (by omega) (by omega)
end
section
variable{code:AAZ} (hc:code.length≤2^30) {c:CB} (r7:C4 c=true)
include hc r7
theorem tZ{l:AAZ}(hl:l.length≤100){m:A3}(hm:m.2.2.1.length≤100):∃l',Jg c m=some (((),()),(l',()))∧l'.length≤1000:=by
 have Xp:=(Dh r7).2.1;have key:∀(n k:Nat) (b:AAZ),k≤c.1.length→c.1.length-k<n→b.length≤100+k→ ∃l',J1 n k c.1 c.2.1 b=some (((),()),(l',()))∧l'.length≤1000:=by
  intro n
  induction n with
  |zero=>intro k b _ h;omega
  |succ n ih=>
   intro k b hk hn hb;simp only[J1,S7,AB,CJ];by_cases Dj:(k:Int)<(c.1.length:Int)
   ·rw[AIF Dj,show(c.1,c.2.1,())=c from rfl,Cr (by omega) (by omega),IJ (by omega)]
    simp only[AN];rw[AK (by omega) (by omega),show((k:Int)+1)=((k+1:Nat):Int)by omega];have:=Vz (n:=(k:Int)) (l:=b);obtain⟨l',e,h'⟩:=ih (k+1) (Ny (k:Int) b) (by omega) (by omega) (by omega);rw[e];cases holds c b with
    |true=>exact⟨b,rfl,by omega⟩
    |false=>exact⟨l',rfl,h'⟩
   ·rw[AIU Dj]
    exact⟨b,rfl,by omega⟩
 unfold Jg Sw;rw[AIF (by rw[BA];omega)];exact key AZ 0 m.2.2.1 (by omega) (Af (by omega)) (by omega)
theorem nP{m:A3}{o n:Int}(h:(WR c m o n).2=true):dO c (WR c m o n).1:=by
 unfold WR at*;rcases AID (HN c m)with hm|hm
 rotate_left
 ·rw[hm]at h;cases h
 rw[hm]at h⊢;simp only[AJN,AJp,ALG]at h⊢;split at h
 ·rename_i hq
  rw[AIF hq];have V3:=Jh.1 hm;rw[AIo,Bc,Bc]at hq;refine⟨V3.cfg,V3.ep,V3.b,V3.sld,V3.sK,V3.seen,fun l hl=> ?_,by simp only[AMK];exact V3.n⟩;rcases ALF hl with hl|rfl
  ·exact V3.wrote l hl
  ·exact Lo (V3.wrote _ (As (by omega))) (by omega)
 ·cases h
abbrev vq(x:ADd)(y:List Int×(List AL)×List AAZ×Unit):A3:=(x.1.1,x.1.2.1,y.1,y.2.1,x.1.2.2.2.2.1,y.2.2.1,())
theorem dE{z1 z2:Int}{z3:Bool}{x3:AAZ}{x4:List AL}{x5:List AAZ}:∀(n k:Nat) (i hh:Int) (m:A3),Br code i→k≤9→9-k<n→dO c m→
  OK code (fun x y=>dO c (vq x y)) (Ay n k code i hh c.1 c.2.1 z1 z2 z3 x3 x4 x5 m.1 m.2.1 m.2.2.2.2.1 m.2.2.1 m.2.2.2.1 m.2.2.2.2.2.1):=by
 have Xp:=(Dh r7).2.1;intro n
 induction n with
 |zero=>intro k i hh m _ _ h;omega
 |succ n ih=>
  intro k i hh m hi hk hn hm;have hmw:=hm.w;have ALT:=(ME (m:=m) (by omega)).2.2.1;simp only[Ay,Ik];refine OK.bind (BJ hc hi (by omega)) fun x i1 h1 y IB hq=> ?_
  dsimp only at*;refine OK.MJ (fun Dj=> ?_) (fun _=>OK.some IB hm);rw[AK (x:=(k:Int)+1) (by omega) (by omega),show((k:Int)+1)=((k+1:Nat):Int)by omega];refine OK.pure Gr ?_
  dsimp only;refine OK.bind (BJ hc IB (by omega)) fun x2 i2 h2 y2 Fc iq=> ?_
  dsimp only at*;refine OK.bind (BJ hc Fc (by omega)) fun x3 i3 h3 y3 Hb PT=> ?_
  dsimp only at*;rw[show(c.1,c.2.1,())=c from rfl,show(m.1,m.2.1,m.2.2.1,m.2.2.2.1,m.2.2.2.2.1,m.2.2.2.2.2.1,())=m from rfl];refine OK.pure (XG (by omega) (by omega) hm.vz) ?_
  dsimp only[mA];exact OK.cond (fun hb=>ih (k+1) _ _ _ Hb (by omega) (by omega) (nP hc r7 hb)) (fun _=>ih (k+1) _ _ m Hb (by omega) (by omega) hm)
theorem pV{T:Int}(hT:T≤100){z1 z2:Int}{z3:Bool}{x3:AAZ}{x4:List AL}{x5:List AAZ}:∀(n k:Nat) (i hh:Int) (m:A3),Br code i→(k:Int)≤max T 0→(T-k).toNat+20≤n→dO c m→
  OK code (fun x y=>dO c (vq x y)) (BV n T k code i hh c.1 c.2.1 z1 z2 z3 x3 x4 x5 m.1 m.2.1 m.2.2.2.2.1 m.2.2.1 m.2.2.2.1 m.2.2.2.2.2.1):=by
 have Xp:=(Dh r7).2.1;intro n
 induction n with
 |zero=>intro k i hh m _ _ h;omega
 |succ n ih=>
  intro k i hh m hi hk hn hm;have hmw:=hm.w;have ALT:=ME (m:=m) (by omega);have hsl:=Fe hm.sld;simp only[BV,Ji];rw[show(c.1,c.2.1,())=c from rfl,show(m.1,m.2.1,m.2.2.1,m.2.2.2.1,m.2.2.2.2.1,m.2.2.2.2.2.1,())=m from rfl];refine OK.MJ (fun Dj=> ?_) (fun _=> ?_)
  ·rw[AK (x:=(k:Int)+1) (by omega) (by omega),show((k:Int)+1)=((k+1:Nat):Int)by omega]
   refine OK.bind (BJ hc hi (by omega)) fun x i1 h1 y IB hq=> ?_
   dsimp only at*;refine OK.bind (ft hc IB) fun x2 i2 h2 y2 Fc iq=> ?_
   dsimp only at*;obtain⟨q1,q2,q3,q4,q5⟩:=iq;have sq:=bG hc (s:=(y2.1,y2.2.1,x2.1.2.2.1,())) q1 (by show y2.1.length≤_;omega) (by show y2.2.1.length≤_;omega) q4 q5;refine OK.pure (Vs (s:=(y2.1,y2.2.1,x2.1.2.2.1,())) (by omega) q1) ?_
   dsimp only;have hes:(Jw (y2.1,y2.2.1,x2.1.2.2.1,()) m.2.1).length≤300∧al (Jw (y2.1,y2.2.1,x2.1.2.2.1,()) m.2.1)∧AY Ae (Jw (y2.1,y2.2.1,x2.1.2.2.1,()) m.2.1)≤40000:=by
    unfold Jw;split
    ·refine⟨ALM (ALp _ _) q2,fun e he=>q1.1 e (AN9.1 he).1,ALM cl ?_⟩
     have h2:=sq.2;unfold Ak at h2;dsimp only at h2⊢;omega
    ·exact⟨by simp,fun e he=>(by simp at he),by simp[AY]⟩
   refine OK.pure (Vt (by omega) (by omega) hm.vz (by omega) hes.2.1 (by omega)) ?_
   dsimp only[mA];exact OK.cond (fun hb=>ih (k+1) _ _ _ Fc (by omega) (by omega) (dG hb).2.1) (fun _=>ih (k+1) _ _ m Fc (by omega) (by omega) hm)
  ·refine OK.bind (L1 hc hi (by omega)) fun x i1 h1 y IB hq=> ?_
   dsimp only;refine OK.cond (fun _=>OK.some IB hm) (fun _=> ?_);obtain⟨l',e,yL⟩:=tZ hc r7 (l:=[]) (by simp) (m:=m) (by omega);refine OK.pure e ?_
   dsimp only;refine OK.pure (Vg (by omega) (by omega) hm.vz (by omega)) ?_
   dsimp only[mA];exact OK.cond (fun hb=>dE hc r7 n 0 i1 h1 _ IB (by omega) (by omega) (dX hb).2.1) (fun _=>dE hc r7 n 0 i1 h1 m IB (by omega) (by omega) hm)
theorem mD{i hh:Int}(hi:Br code i):OK code (fun x y=>dO c (vq x y)) (I0 c code i hh):=by
 unfold I0 JS;refine OK.bind (BJ hc hi (by omega)) fun x i1 h1 y IB hq=> ?_
 dsimp only at*;rw[AK (by omega) (by omega)];unfold Jl;simp only[AN];refine OK.bind (BJ hc IB (by omega)) fun x2 i2 h2 y2 Fc iq=> ?_
 dsimp only at*;exact pV hc r7 (T:=x2.1) (by omega) AZ 0 i2 h2 (4,1+x.1,[],[],false,[],()) Fc (by omega) (ANw (Af (by omega))) ⟨r7,by show 1≤1+x.1∧1+x.1≤30;omega,by show 1+x.1+1≤4∧(4:Int)≤30;omega,T2 r7,List.Pairwise.nil,fun e he=>(by cases he),fun l hl=>(by cases hl),rfl⟩
abbrev AJ2:AHf×Unit→List Int×(List AL)×List AAZ×Unit→Prop:=fun x y=>CN (vq x y)≤20000∧al y.2.1
theorem pw{i hh:Int}(hi:Br code i):OK code AJ2 (Qo c code i hh):=by
 have Xp:=(Dh r7).2.1;unfold Qo;rw[show(c.1,c.2.1,())=c from rfl];refine OK.bind (mD hc r7 hi) fun x i1 h1 y IB hq=> ?_
 dsimp only at*;have hw:=hq.w;have he:al y.2.1:=hq.vz;have hu:CN (vq x y)=y.1.length+AY Ae y.2.1+AY C1 y.2.2.1:=rfl;have hl1:=AU (f:=C1) (l:=y.2.2.1);have uB:=AU (f:=Ae) (l:=y.2.1);have mk:∀{x':ADd} {a:AAZ} {b:List AL} {d:List AAZ},a.length+AY Ae b+AY C1 d≤20000→al b→AJ2 x' (a,b,d,()):=fun h1 h2=>⟨h1,h2⟩
 refine OK.bind (BJ hc IB (by omega)) fun x2 i2 h2 y2 Fc iq=> ?_
 dsimp only at*;refine OK.DI (fun _=> ?_) (fun _=> ?_)
 ·refine OK.bind (NC hc Fc (by simp) (by simp)) fun x3 i3 h3 y3 Hb PT=> ?_
  exact OK.some Hb (mk (by omega) he)
 refine OK.DI (fun _=>OK.some Fc (mk (by omega) he)) (fun _=> ?_);refine OK.DI (fun _=> ?_) (fun _=> ?_)
 ·refine OK.bind (OO hc (by omega) Fc) fun x3 i3 h3 y3 Hb PT=> ?_
  dsimp only;refine OK.ite (by rw[BA];omega) ?_
  refine OK.some Hb (mk ?_ he);rw[JF];have:C1 y3.1=y3.1.length:=rfl;simp only[AY];omega
 refine OK.DI (fun _=> ?_) (fun _=> ?_)
 ·refine OK.bind (Z8 hc Fc) fun x3 i3 h3 y3 Hb PT=> ?_
  dsimp only;refine OK.ite (by rw[BA];omega) ?_
  refine OK.some Hb (mk ?_ (fun e he' => ?_))
  ·rw[JF]
   have:Ae (x3.1.1,x3.1.2.1,x3.1.2.2.1,x3.1.2.2.2.1,())=x3.1.2.2.2.1.length:=rfl;simp only[AY];have:=PT.2;omega
  ·rcases AJ6.1 he' with he'|he'
   ·exact he e he'
   ·rw[AK4.1 he'];exact PT.1
 refine OK.DI (fun _=> ?_) (fun _=>OK.some Fc (mk (by omega) he));refine OK.bind (OO hc (by omega) Fc) fun x3 i3 h3 y3 Hb PT=> ?_
 dsimp only at*;exact OK.some Hb (mk (by omega) he)
end
end Go.M
end
section
set_option maxRecDepth 8000
namespace Go.M
open Go.M.H (AL AR A3 A0 AA Cb AQ BI AS Ab BC Bd CD Ak CN AY AU Aa Ae B5 A_ Av BF Dz Ba Cg C1)
abbrev AKQ:AEA→((List BC)×Unit)→Prop:=fun x y=>y.1.length≤130∧ ∀e∈y.1,Ba e≤40∧Ck e.2.1
section
variable{code:AAZ} (hc:code.length≤2^30)
include hc
theorem sb{z1 z2 e o:Int}{x3:List BC}:∀(n k:Nat) (i hh:Int) (b:List BC),Br code i→k≤4→4-k<n→b.length≤k→(∀e∈b,Ba e≤40∧Ck e.2.1)→
  OK code AKQ (FJ n k code i hh z1 z2 x3 e o b):=by
 intro n
 induction n with
 |zero=>intro k i hh b _ _ h;omega
 |succ n ih=>
  intro k i hh b hi hk hn hb oH;simp only[FJ,Mf];refine OK.bind (BJ hc hi (by omega)) fun x i1 h1 y IB hq=> ?_
  dsimp only at*;have base:b.length≤130∧ ∀e∈b,Ba e≤40∧Ck e.2.1:=⟨by omega,oH⟩;refine OK.MJ (fun Dj=> ?_) (fun _=> ?_)
  ·refine OK.bind (BJ hc IB (by omega)) fun x2 i2 h2 y2 Fc iq=> ?_
   dsimp only at*;refine OK.bind (L0 hc Fc) fun x3 i3 h3 y3 Hb PT=> ?_
   dsimp only;refine OK.ite (by rw[BA];omega) ?_
   rw[AK (x:=(k:Int)+1) (by omega) (by omega),show((k:Int)+1)=((k+1:Nat):Int)by omega];refine ih (k+1) _ _ _ Hb (by omega) (by omega) (by simp;omega) (fun e he=> ?_);rcases AJ6.1 he with he|he
   ·exact oH e he
   ·rw[AK4.1 he];exact⟨by show 0≤40;omega,PT⟩
  ·refine OK.bind (BJ hc IB (by omega)) fun x2 i2 h2 y2 Fc iq=> ?_
   dsimp only at*;refine OK.DI (fun _=> ?_) (fun _=> ?_)
   ·refine OK.bind (NC hc Fc (by simp) (by simp)) fun x3 i3 h3 y3 Hb PT=> ?_
    exact OK.some Hb base
   refine OK.DI (fun _=> ?_) (fun _=> ?_)
   ·refine OK.bind (NC hc Fc (by simp) (by simp)) fun x3 i3 h3 y3 Hb PT=> ?_
    exact OK.some Hb base
   refine OK.DI (fun _=> ?_) (fun _=>OK.some Fc base);refine OK.bind (BJ hc Fc (by omega)) fun x3 i3 h3 y3 Hb PT=> ?_
   dsimp only at*;rw[AK (by omega) (by omega)];refine OK.ite (by rw[BA];omega) ?_
   refine OK.some Hb ⟨by show(List.replicate _ _).length≤130;rw[AMd];omega,fun e he=> ?_⟩;rw[(List.mem_replicate.1 he).2];exact⟨by show 0≤40;omega,M6 (by show-1000≤(0:Int)∧(0:Int)≤1000;omega)⟩
theorem oN{i hh:Int}(hi:Br code i):OK code AKQ (HK code i hh):=by
 unfold HK Mh;refine OK.bind (BJ hc hi (by omega)) fun x i1 h1 y IB hq=> ?_
 dsimp only at*;refine OK.bind (BJ hc IB (by omega)) fun x2 i2 h2 y2 Fc iq=> ?_
 exact sb hc AZ 0 _ _ [] Fc (by omega) (Af (by omega)) (by simp) (fun e he=>by simp at he)
theorem sk{c:CB}(Xp:c.1.length≤2^10){i hh:Int}(hi:Br code i):OK code (fun(x:AFa) (y:(List BI)×Unit)=>AY A_ y.1≤4000) (LZ c code i hh):=by
 obtain⟨w',i1,h1,e,hw,IB⟩:=qv hc (c:=c) (by omega) (h:=hh) hi;exact⟨_,i1,h1,_,e,IB,hw⟩
theorem pU{i hh:Int}(hi:Br code i):OK code (fun(x:ADU) (y:AAZ×Unit)=>y.1.length≤9) (NT code i hh):=by
 obtain⟨l,c',i1,h1,e,hl,IB⟩:=rC hc (h:=hh) hi;exact⟨_,i1,h1,(l,()),e,IB,hl⟩
abbrev v7(x:AD0)(y:List Int×(List AR)×List Int×(List Cb)×(List AS)×(List A3)×(List Ab)×(List A0)×Unit):AA:=
 (y.1,x.1.2.1,y.2.1,y.2.2.1,y.2.2.2.1,x.1.2.2.2.2.2.1,y.2.2.2.2.1,y.2.2.2.2.2.1,y.2.2.2.2.2.2.1,y.2.2.2.2.2.2.2.1,x.1.2.2.2.2.2.2.2.2.2.2.1,())
def AGX(w:AA):Prop:=(fx w∧Tz w)∧Cg w≤730000∧AY BF w.2.2.2.2.2.2.2.2.1≤50000
omit hc in
theorem mkW{c:AAZ}{m tr:Int}{st:List AR}{lo:AAZ}{er:List Cb}{wr:List AS}{md:List A3}{rd:List Ab}{se:List A0}{to:Bool}
  (h1:c.length≤100) (h2:AY Ak st≤200000) (h3:lo.length≤5000) (h4:AY B5 er≤300000) (h5:AY Av wr≤50000) (h6:AY CN md≤100000) (h7:AY BF rd≤50000) (h8:AY Dz se≤20000)
  (k1:∀s∈st,lO s) (k2:Ck tr) (k3:∀m∈md,al m.2.2.2.1) (k4:∀s∈se,Ck s.1) (k5:∀r∈rd,∀e∈r.2.2.1,Ck e.2.1):AGX (c,m,st,lo,er,tr,wr,md,rd,se,to,()):=
 ⟨⟨⟨by unfold Cg;dsimp only;omega,k1,k2,k3,k4⟩,k5⟩,by unfold Cg;dsimp only;omega,h7⟩
theorem lz{i hh:Int}(hi:Br code i){p:AAZ}(hp:p.length≤2^30):OK code (fun x y=>AGX (v7 x y)) (GK p code i hh):=by
 unfold GK;dsimp only;have uD:∃T,Qp p 40 90=some ((T,()),())∧0≤T∧T≤500:=by
  unfold Qp;dsimp only;have hd:(p.length:Int).tdiv 4=(p.length:Int)/4:=ALK (by omega);rw[hd,AK (x:=(p.length:Int)/4) (by omega) (by omega),AK (by omega) (by omega),AB];split
  ·exact⟨90,rfl,by omega⟩
  ·exact⟨_,rfl,by omega⟩
 obtain⟨T,hT,hT2⟩:=uD;refine OK.pure hT ?_
 dsimp only;refine OK.bind (oR hc hT2 hi) fun x i1 h1 y IB hq=> ?_
 dsimp only;obtain⟨hw,hr,hv⟩:=hq
 generalize gG:Yv x y=w at hw hr hv
 have k:=hw.nums;have e0:y.2.2.2.2.2.2.2.2.2.1=w.1:=by rw[←gG];rfl
 have e1:y.2.2.2.2.2.2.2.2.2.2.1=w.2.2.1:=by rw[←gG];rfl
 have e2:y.2.2.2.2.2.2.2.2.2.2.2.1=w.2.2.2.1:=by rw[←gG];rfl
 have e3:y.2.2.2.2.2.2.2.2.2.2.2.2.1=w.2.2.2.2.1:=by rw[←gG];rfl
 have e4:y.2.2.2.2.2.2.2.2.2.2.2.2.2.1=w.2.2.2.2.2.2.1:=by rw[←gG];rfl
 have e5:y.2.2.2.2.2.2.2.2.2.2.2.2.2.2.1=w.2.2.2.2.2.2.2.1:=by rw[←gG];rfl
 have e6:y.2.2.2.2.2.2.2.2.2.2.2.2.2.2.2.1=w.2.2.2.2.2.2.2.2.1:=by rw[←gG];rfl
 have e7:y.2.2.2.2.2.2.2.2.2.2.2.2.2.2.2.2.1=w.2.2.2.2.2.2.2.2.2.1:=by rw[←gG];rfl
 have e8:x.1.2.2.1.2.1=w.2.1:=by rw[←gG];rfl
 have e9:x.1.2.2.1.2.2.2.2.2.1=w.2.2.2.2.2.1:=by rw[←gG];rfl
 have e10:x.1.2.2.1.2.2.2.2.2.2.2.2.2.2.1=w.2.2.2.2.2.2.2.2.2.2.1:=by rw[←gG];rfl
 rw[e0,e1,e2,e3,e4,e5,e6,e7,e8,e9,e10];have Z_:=hw.XT hr;have k1:=k.c;have k2:=k.ws;have k3:=k.lost;have k4:=k.era;have k5:=k.ww;have k9:=k.st;have k10:=k.rd;have k6:AY CN w.2.2.2.2.2.2.2.1≤5001:=by
  have:=Dw (f:=CN) (B:=5000) hw.oM fun x hx=>(hw.Bg x hx).1.w
  exact this
 have k7:AY BF w.2.2.2.2.2.2.2.2.1≤10002:=by
  have:=Dw (f:=BF) (B:=5000) (N:=2) (l:=w.Ah) (by rw[hw.iX];omega) fun r hx=>by
   have:=Dw (f:=Ba) (B:=40) (hw.Ah r hx).n (hr r hx);unfold BF;omega
  exact this
 have k8:AY Dz w.2.2.2.2.2.2.2.2.2.1≤4920:=by
  have:=Dw (f:=Dz) (B:=40) hw.Ng fun s hs=>(hw.BZ s hs).2.2
  exact this
 have j1:=Z_.Al;have j2:=Z_.trim;have j3:=Z_.Bg;have j4:=Z_.pR;have zW:=(Dh hw.cfg).1;have APT:1≤w.1.length:=zW;refine OK.bind (BJ hc IB (by omega)) fun x2 i2 h2 y2 Fc iq=> ?_
 dsimp only at*;have base:∀{to:Bool},AGX (w.1,w.2.1,w.2.2.1,w.2.2.2.1,w.2.2.2.2.1,w.2.2.2.2.2.1,w.2.2.2.2.2.2.1,w.2.2.2.2.2.2.2.1,w.2.2.2.2.2.2.2.2.1,w.2.2.2.2.2.2.2.2.2.1,to,()):=mkW (by omega) (by omega) (by omega) (by omega) (by omega) (by omega) (by omega) (by omega) j1 j2 j3 j4 hv;refine OK.DI (fun _=> ?_) (fun _=> ?_)
 ·refine OK.bind (OO hc (c:=(w.1,w.2.1,())) (by show w.1.length≤_;omega) Fc) fun x3 i3 h3 y3 Hb PT=> ?_
  dsimp only at*;refine OK.some Hb ?_
  dsimp only[v7];exact mkW (by omega) (by omega) (by omega) (by omega) (by omega) (by omega) (by omega) (by omega) j1 j2 j3 j4 hv
 refine OK.DI (fun _=> ?_) (fun _=> ?_)
 ·refine OK.bind (r_ hc Fc) fun x3 i3 h3 y3 Hb PT=> ?_
  dsimp only at*;refine OK.ite (by omega) ?_
  have:=Vm (f:=Ak) (x:=(y3.1,y3.2.1,x3.1.2.2.1,())) (l:=w.2.2.1) (i:=0);refine OK.some Hb ?_
  dsimp only[v7];refine mkW (by omega) (by omega) (by omega) (by omega) (by omega) (by omega) (by omega) (by omega) (fun s hs=> ?_) j2 j3 j4 hv;rcases ALF hs with hs|rfl
  ·exact j1 s hs
  ·exact PT.1
 refine OK.DI (fun _=> ?_) (fun _=> ?_)
 ·refine OK.bind (om hc (c:=(w.1,w.2.1,())) (by show w.1.length≤_;omega) Fc) fun x3 i3 h3 y3 Hb PT=> ?_
  dsimp only at*;refine OK.some Hb ?_
  dsimp only[v7];exact mkW (by omega) (by omega) (by omega) PT.1 (by omega) (by omega) (by omega) (by omega) j1 PT.2 j3 j4 hv
 refine OK.DI (fun _=> ?_) (fun _=> ?_)
 ·refine OK.bind (sk hc (c:=(w.1,w.2.1,())) (by show w.1.length≤_;omega) Fc) fun x3 i3 h3 y3 Hb PT=> ?_
  dsimp only at*;have hk:=k.wr;refine OK.ite (by rw[BA];omega) ?_
  refine OK.some Hb ?_
  dsimp only[v7];refine mkW (by omega) (by omega) (by omega) (by omega) ?_ (by omega) (by omega) (by omega) j1 j2 j3 j4 hv
  rw[JF];have:Av (x3.1.1,y3.1,())=AY A_ y3.1:=rfl;simp only[AY];omega
 refine OK.DI (fun _=> ?_) (fun _=> ?_)
 ·refine OK.bind (pw hc (c:=(w.1,w.2.1,())) hw.cfg Fc) fun x3 i3 h3 y3 Hb PT=> ?_
  dsimp only at*;have hk:=k.md;refine OK.ite (by rw[BA];omega) ?_
  refine OK.some Hb ?_
  dsimp only[v7];refine mkW (by omega) (by omega) (by omega) (by omega) (by omega) ?_ (by omega) (by omega) j1 j2 (fun m hm=> ?_) j4 hv
  ·rw[JF]
   have h8:CN (x3.1.1,x3.1.2.1,y3.1,y3.2.1,x3.1.2.2.2.2.1,y3.2.2.1,())≤20000:=PT.1;simp only[AY];omega
  ·rcases AJ6.1 hm with hm|hm
   ·exact j3 m hm
   ·rw[AK4.1 hm];exact PT.2
 refine OK.DI (fun _=> ?_) (fun _=> ?_)
 ·refine OK.bind (oN hc Fc) fun x3 i3 h3 y3 Hb PT=> ?_
  dsimp only at*;refine OK.ite (by omega) ?_
  have:=Vm (f:=BF) (x:=(x3.1.1,x3.1.2.1,y3.1,())) (l:=w.2.2.2.2.2.2.2.2.1) (i:=0);have h9:=Dw (f:=Ba) (B:=40) PT.1 (fun e he=>(PT.2 e he).1);have:BF (x3.1.1,x3.1.2.1,y3.1,())=AY Ba y3.1:=rfl;refine OK.some Hb ?_
  dsimp only[v7];refine mkW (by omega) (by omega) (by omega) (by omega) (by omega) (by omega) (by omega) (by omega) j1 j2 j3 j4 (fun r wA=> ?_);rcases ALF wA with wA|rfl
  ·exact hv r wA
  ·exact fun e he=>(PT.2 e he).2
 refine OK.DI (fun _=> ?_) (fun _=> ?_)
 ·refine OK.bind (L0 hc Fc) fun x3 i3 h3 y3 Hb PT=> ?_
  dsimp only at*;have hk:=k.se;refine OK.ite (by rw[BA];omega) ?_
  refine OK.some Hb ?_
  dsimp only[v7];refine mkW (by omega) (by omega) (by omega) (by omega) (by omega) (by omega) (by omega) ?_ j1 j2 j3 (fun s hs=> ?_) hv
  ·rw[JF]
   have:Dz (x3.1,[],false,())=0:=rfl;simp only[AY];omega
  ·rcases AJ6.1 hs with hs|hs
   ·exact j4 s hs
   ·rw[AK4.1 hs];exact PT
 refine OK.DI (fun _=>OK.some Fc base) (fun _=> ?_);refine OK.DI (fun _=> ?_) (fun _=>OK.some Fc base);refine OK.bind (pU hc Fc) fun x3 i3 h3 y3 Hb PT=> ?_
 dsimp only at*;refine OK.some Hb ?_
 dsimp only[v7];exact mkW (by omega) (by omega) (by omega) (by omega) (by omega) (by omega) (by omega) (by omega) j1 j2 j3 j4 hv
theorem jK{w:AA}(h1:w.2.2.2.2.2.2.2.2.2.1.length≤2^20)(h2:∀s∈w.2.2.2.2.2.2.2.2.2.1,Ck s.1){i hh:Int}(hi:Br code i):OK code (fun(x:ACx) (_:Unit)=>Ck x.1) (Kn w code i hh):=by
 unfold Kn;refine OK.MJ (fun Dj=> ?_) (fun _=> ?_)
 ·refine OK.bind (L1 hc hi (by omega)) fun x i1 sD y IB hq=> ?_
  dsimp only;refine OK.cond (fun _=> ?_) (fun _=> ?_)
  ·refine OK.bind (BJ hc IB (by omega)) fun x2 i2 xN y2 Fc iq=> ?_
   dsimp only at*;refine OK.ite (by omega) ?_
   exact OK.some Fc (h2 _ (As (d:=Ct) (by omega)))
  ·refine OK.bind (L0 hc IB) fun x3 i3 h3 y3 Hb PT=> ?_
   exact OK.some Hb PT
 ·refine OK.bind (L0 hc hi) fun x3 i3 h3 y3 Hb PT=> ?_
  exact OK.some Hb PT
def pkw(w:AA):It:=((((),w.2.1,(),(),(),w.2.2.2.2.2.1,(),(),(),(),w.2.2.2.2.2.2.2.2.2.2.1,()),()),(w.1,w.2.2.1,w.2.2.2.1,w.2.2.2.2.1,w.2.2.2.2.2.2.1,w.2.2.2.2.2.2.2.1,w.2.2.2.2.2.2.2.2.1,w.2.2.2.2.2.2.2.2.2.1,()))
def YM(o:Option It):Prop:= ∃w,o=some (pkw w)∧fx w∧Tz w
omit hc in
theorem YM.bind{X Y:Type}{Q:X→Y→Prop}{o:Option (X×(AC_×Y))}{f:X×(AC_×Y)→Option It}
  (ho:OK code Q o) (hf:∀x i h y,Br code i→Q x y→YM (f (x,((code,i,h,()),y)))):YM (o.bind f):=by
 obtain⟨x,i,h,y,e,hi,hq⟩:=ho;rw[e];exact hf x i h y hi hq
omit hc in
theorem YM.ite{p:Prop}[Decidable p]{x y:Option It}(hp:p)(h1:YM x):YM (if p then x else y):=by
 rw[AIF hp];exact h1
omit hc in
theorem YM.DI{a b:Int}{x y:Option It}(h1:a=b→YM x)(h2:a≠b→YM y):YM (_root_.cond (a==b) x y):=by
 rw[Fp];by_cases hp:a=b
 ·rw[AIF hp];exact h1 hp
 ·rw[AIU hp];exact h2 hp
theorem oU:YM (SD code):=by
 unfold SD;dsimp only;obtain⟨h0,e0⟩:=tE hc;rw[e0];simp only[AN];refine YM.bind (lz hc (i:=0) (hh:=h0) ⟨by omega,by omega⟩ hc) fun x i1 h1 y IB hq=> ?_
 dsimp only
 generalize gG:v7 x y=w at hq
 obtain⟨⟨Z_,hvin⟩,hwt,hwr⟩:=hq;have e0:y.1=w.1:=by rw[←gG]
 have e1:y.2.1=w.2.2.1:=by rw[←gG]
 have e2:y.2.2.1=w.2.2.2.1:=by rw[←gG]
 have e3:y.2.2.2.1=w.2.2.2.2.1:=by rw[←gG]
 have e4:y.2.2.2.2.1=w.2.2.2.2.2.2.1:=by rw[←gG]
 have e5:y.2.2.2.2.2.1=w.2.2.2.2.2.2.2.1:=by rw[←gG]
 have e6:y.2.2.2.2.2.2.1=w.2.2.2.2.2.2.2.2.1:=by rw[←gG]
 have e7:y.2.2.2.2.2.2.2.1=w.2.2.2.2.2.2.2.2.2.1:=by rw[←gG]
 have e8:x.1.2.1=w.2.1:=by rw[←gG]
 have e9:x.1.2.2.2.2.2.1=w.2.2.2.2.2.1:=by rw[←gG]
 have e10:x.1.2.2.2.2.2.2.2.2.2.2.1=w.2.2.2.2.2.2.2.2.2.2.1:=by rw[←gG]
 rw[e0,e1,e2,e3,e4,e5,e6,e7,e8,e9,e10];rw[show(w.1,w.2.1,w.2.2.1,w.2.2.2.1,w.2.2.2.2.1,w.2.2.2.2.2.1,w.2.2.2.2.2.2.1,w.2.2.2.2.2.2.2.1,w.2.2.2.2.2.2.2.2.1,w.2.2.2.2.2.2.2.2.2.1,w.2.2.2.2.2.2.2.2.2.2.1,())=w from rfl,E_ Z_];simp only[AN,CJ];have stay:YM (some (pkw w)):=⟨w,rfl,Z_,hvin⟩;rcases AID (CH w)with DK|DK
 rotate_left
 ·rw[DK]
  exact stay
 rw[DK,AKM];have hw:=Qj.1 DK;have hrl:w.2.2.2.2.2.2.2.2.1.length=2:=hw.iX;refine YM.bind (BJ hc IB (by omega)) fun x5 i5 h5 y5 vI hq5=> ?_
 dsimp only at*;refine YM.ite (by omega) ?_
 have Dj:x5.1.toNat<w.2.2.2.2.2.2.2.2.1.length:=by omega
 generalize hgr:w.2.2.2.2.2.2.2.2.1.getD x5.1.toNat (0,0,[],())=r
 have AKG:w.2.2.2.2.2.2.2.2.1.getD x5.1.toNat AG=r:=hgr;have hrm:BF r≤AY BF w.2.2.2.2.2.2.2.2.1:=by
  rw[←AKG];exact Aa (f:=BF) (As (d:=AG) Dj)
 have hrw:BF r=AY Ba r.2.2.1:=rfl;have hrn:=AU (f:=Ba) (l:=r.2.2.1);have alt:∀r':Ab,BF r'≤200000→(∀e∈r'.2.2.1,Ck e.2.1)→YM (some (pkw (w.1,w.2.1,w.2.2.1,w.2.2.2.1,w.2.2.2.2.1,w.2.2.2.2.2.1,w.2.2.2.2.2.2.1,w.2.2.2.2.2.2.2.1,w.2.2.2.2.2.2.2.2.1.set x5.1.toNat r',w.2.2.2.2.2.2.2.2.2.1,w.2.2.2.2.2.2.2.2.2.2.1,()))):=fun r' wA hr2=>by
  refine⟨_,rfl,⟨?_,Z_.Al,Z_.trim,Z_.Bg,Z_.pR⟩,fun q hq=>by
   rcases ALF hq with hq|rfl
   ·exact hvin q hq
   ·exact hr2⟩
  have:=Vm (f:=BF) (x:=r') (l:=w.2.2.2.2.2.2.2.2.1) (i:=x5.1.toNat);unfold Cg at hwt⊢;dsimp only;omega
 have evs:∀(j:Nat) (e:BC),Ba e≤50001→BF (r.1,r.2.1,r.2.2.1.set j e,())≤200000:=fun j e he=>by
  have:=Vm (f:=Ba) (x:=e) (l:=r.2.2.1) (i:=j)
  show AY Ba (r.2.2.1.set j e)≤_
  omega
 have rin:∀e∈r.2.2.1,Ck e.2.1:=by
  rw[←AKG];exact hvin _ (As (d:=AG) Dj)
 have AHo:∀(j:Nat) (e:BC),Ck e.2.1→ ∀x∈r.2.2.1.set j e,Ck x.2.1:=fun j e he x hx=>by
  rcases ALF hx with hx|rfl
  ·exact rin x hx
  ·exact he
 refine YM.DI (fun _=>stay) (fun aO=> ?_);refine YM.bind (BJ hc vI (by omega)) fun x7 i7 h7 y7 hi7 hq7=> ?_
 dsimp only at*;have AJF:x7.1.toNat<r.2.2.1.length:=by omega
 have AI2:Ck (r.2.2.1.getD x7.1.toNat (0,0,[],())).2.1:=rin _ (As AJF);have lg:Ba (r.2.2.1.getD x7.1.toNat (0,0,[],()))≤50000:=by
  have:Ba (r.2.2.1.getD x7.1.toNat (0,0,[],()))≤AY Ba r.2.2.1:=Aa (f:=Ba) (As AJF);omega
 refine YM.bind (BJ hc hi7 (by omega)) fun x8 i8 h8 y8 hi8 hq8=> ?_
 dsimp only at*;refine YM.DI (fun _=> ?_) (fun _=> ?_)
 ·refine YM.ite (by omega) ?_
  refine YM.bind (BJ hc hi8 (by omega)) fun x9 i9 h9 y9 hi9 hq9=> ?_
  dsimp only at*;refine YM.ite (by omega) ?_
  exact alt _ (evs _ _ (by show Ba (r.2.2.1.getD x7.1.toNat (0,0,[],()))≤_;omega)) (AHo _ _ AI2)
 refine YM.DI (fun _=> ?_) (fun _=> ?_)
 ·refine YM.ite (by omega) ?_
  refine YM.ite (by omega) ?_
  exact alt _ (evs _ _ (by show 1≤50001;omega)) (AHo _ _ AI2)
 refine YM.DI (fun _=> ?_) (fun _=> ?_)
 ·refine YM.ite (by omega) ?_
  rw[AK (by omega) (by omega)];refine YM.ite (by omega) ?_
  refine YM.ite (by omega) ?_
  refine alt _ ?_ (fun e he=>rin e (AON (AOM he)))
  show AY Ba ((r.2.2.1.drop 0).take _)≤200000
  rw[AK8];have:∀(l:List BC) (n:Nat),AY Ba (l.take n)≤AY Ba l:=fun l=>by
   induction l with
   |nil=>intro n;simp[AY]
   |cons a l ih=>
    intro n;cases n with
    |zero=>simp[AY]
    |succ n=>have:=ih n;simp only[List.take_succ_cons,AY];omega
  have:=this r.2.2.1 (((r.2.2.1.length:Int)-1).toNat-0);omega
 refine YM.DI (fun _=> ?_) (fun _=>stay);refine YM.ite (by omega) ?_
 refine YM.bind (jK hc (w:=w) (by have:=hw.Ng;show w.BZ.length≤_;omega) Z_.pR hi8) fun x9 i9 h9 y9 hi9 hq9=> ?_
 dsimp only at*;refine YM.ite (by omega) ?_
 exact alt _ (evs _ _ (by show Ba (r.2.2.1.getD x7.1.toNat (0,0,[],()))≤_;omega)) (AHo _ _ hq9)
end
end Go.M
end
section
set_option maxRecDepth 8000
namespace Go.M
open Go.M.H (AL AR A3 A0 AA Cb AQ BI AS Ab BC Bd CD Ak CN AY AU Aa Ae B5 A_ Av BF Dz Ba Cg C1)
theorem nt{a b k l s all t:Bool}(XX:all=(a&&(b&&(k&&(l&&s)))))(ht:t=true→k=true∧l=true∧s=true):
  (cond a (cond b (cond k (cond l (cond (all==s) (cond (!t) (some ((true,()),())) (cond k (cond l (some ((s,()),())) (some ((false,()),()))) (some ((false,()),())))) (some ((false,()),())))
   (cond (all==false) (cond (!t) (some ((true,()),())) (cond k (cond l (some ((s,()),())) (some ((false,()),()))) (some ((false,()),())))) (some ((false,()),()))))
   (cond (all==false) (cond (!t) (some ((true,()),())) (cond k (cond l (some ((s,()),())) (some ((false,()),()))) (some ((false,()),())))) (some ((false,()),()))))
   (cond (all==false) (cond (!t) (some ((true,()),())) (cond k (cond l (some ((s,()),())) (some ((false,()),()))) (some ((false,()),())))) (some ((false,()),()))))
   (cond (all==false) (cond (!t) (some ((true,()),())) (cond k (cond l (some ((s,()),())) (some ((false,()),()))) (some ((false,()),())))) (some ((false,()),()))):Option AHF)=some ((true,()),()):=by
 subst XX;cases t with
 |true=>
  obtain⟨rfl,rfl,rfl⟩:=ht rfl;cases a<;>cases b<;>rfl
 |false=>cases a<;>cases b<;>cases k<;>cases l<;>cases s<;>rfl
theorem nE{w:AA}(h:fx w)(lg:Tz w):Mk w=some ((LB w&&(Nu w&&(L6 w&&(JH w&&Ni w))),()),()):=by
 unfold Mk;rw[show(w.1,w.2.1,w.2.2.1,w.2.2.2.1,w.2.2.2.2.1,w.2.2.2.2.2.1,w.2.2.2.2.2.2.1,w.2.2.2.2.2.2.2.1,w.2.2.2.2.2.2.2.2.1,w.2.2.2.2.2.2.2.2.2.1,w.2.2.2.2.2.2.2.2.2.2.1,())=w from rfl,S9 h,UF h,UO h,Tl h,Ub h lg];simp only[AII];cases LB w<;>cases Nu w<;>cases L6 w<;>cases JH w<;>rfl
theorem jG{x:AAZ}(hv:Go.Fw.Vd (.sl (.int .u8)) x):Ml x=some ((true,()),()):=by
 unfold Ml iQ;simp only[AII,AB];by_cases hs:(x.length:Int)>1048576
 ·rw[AIF hs]
 rw[AIU hs];have hc:x.length≤2^30:=by omega
 obtain⟨w,e1,h,lg⟩:=oU hc;unfold OA;rw[e1];simp only[AII,pkw];rw[show(w.1,w.2.1,w.2.2.1,w.2.2.2.1,w.2.2.2.2.1,w.2.2.2.2.2.1,w.2.2.2.2.2.2.1,w.2.2.2.2.2.2.2.1,w.2.2.2.2.2.2.2.2.1,w.2.2.2.2.2.2.2.2.2.1,w.2.2.2.2.2.2.2.2.2.2.1,())=w from rfl];rw[Zo h,aY h,aW h,ZX h,bF h lg,S9 h,UF h,UO h,Tl h,Ub h lg,E_ h,nE h lg];simp only[AII,bne_self_eq_false,AI5];rcases AID (CH w)with DK|DK
 ·rw[DK]
  simp only[AJN,AI5];refine nt rfl fun ht=> ?_
  unfold L6 JH Ni;rw[DK,ht];simp
 ·have e1:LB w=false:=by unfold LB;rw[DK];rfl
  have e2:Nu w=false:=by unfold Nu;rw[DK];rfl
  have e3:L6 w=false:=by unfold L6;rw[DK];rfl
  have e4:JH w=false:=by unfold JH;rw[DK];rfl
  have e5:Ni w=false:=by unfold Ni;rw[DK];rfl
  rw[DK,e1,e2,e3,e4,e5];rfl
end Go.M
end
section
set_option maxRecDepth 8000
namespace Go.M
open Go.M.H (AL AR A3 A0 AA Cb AQ BI AS Ab BC Bd CD Ak CN AY AU Aa Ae B5 A_ Av BF Dz Ba Cg C1)
structure AN_ {α:Type} (f:α→Int) (p:Int) (l:List α) (q:Nat):Prop where
 le:q≤l.length
 lt:∀(i:Nat) (h:i<l.length),i<q→f l[i]<p
 ge:∀(i:Nat) (h:i<l.length),q≤i→p≤f l[i]
end Go.M
end
section
set_option maxRecDepth 8000
namespace Go.M
open Go.M.H (AL AR A3 A0 AA Cb AQ BI AS Ab BC Bd CD Ak CN AY AU Aa Ae B5 A_ Av BF Dz Ba Cg C1)
def AB4(w:AA)(a:Int):Nat:=(w.Ah.getD a.toNat AG).2.2.1.length
structure HR (w v:AA) (a m:Int):Prop where
 ok:PH v
 XT:fx v
 stop:(RR v a 255).2≠0
 cnt:0≤m∧m≤120
 len:(AB4 v a:Int)=AB4 w a+m
 V4:AB4 v (1-a)=AB4 w (1-a)
end Go.M
end
section
set_option maxRecDepth 8000
namespace Go.M
open Go.M.H (AL AR A3 A0 AA Cb AQ BI AS Ab BC Bd CD Ak CN AY AU Aa Ae B5 A_ Av BF Dz Ba Cg C1)
def ww(w:AA)(SS:List AR)(ws:List AS)(ms:List A3)(se:List A0):AA:=(((w.BB SS).Aj ws).Bb se).BO ms
section
variable{w:AA} (h:PH w) {st:AR} {SS:List AR} {n:Int} (hs:XZ st) (hn:0≤n∧n<(Ac w).1.length) (hnS:n<(SS.length:Int)) (kQ:SS.getD n.toNat Cw=st)
include h hs hn hnS kQ
end
section
variable{w:AA} (h:PH w)
include h
end
end Go.M
end
section
set_option maxRecDepth 8000
namespace Go.M
open Go.M.H (AL AR A3 A0 AA Cb AQ BI AS Ab BC Bd CD Ak CN AY AU Aa Ae B5 A_ Av BF Dz Ba Cg C1)
def bare(se:List A0):List (Int×List UInt8):=se.map fun s=>(s.1,s.2.1)
section
variable{w:AA} {se:List A0}
end
theorem uk{l m:List A0}(h:bare l=bare m):l.length=m.length:=by
 have:=congrArg List.length h;simpa[bare]using this
section
variable{w:AA}
end
theorem vu{l m:List A0}(h:bare l=bare m){s:A0}(hs:s∈l):∃t∈m,t.1=s.1∧t.2.1=s.2.1:=by
 have h1:(s.1,s.2.1)∈bare m:=by rw[←h];exact ANC.2 ⟨s,hs,rfl⟩
 obtain⟨t,ht,e⟩:=ANC.1 h1;simp only[ALD]at e;exact⟨t,ht,e.1,e.2⟩
theorem ud{l m:List A0}(h:bare l=bare m)(ha:U_ (fun s:A0=>s.1) l):U_ (fun s:A0=>s.1) m:=by
 have e:∀l:List A0,U_ (fun s:A0=>s.1) l↔(bare l).Pairwise fun x y=>x.1<y.1:=fun l=>by
  unfold bare U_;rw[AOB]
 rw[e]at ha⊢
 rwa [←h]
theorem PH.Bb{w:AA}{se:List A0}(hw:PH w)(h:bare se=bare w.BZ):PH (w.Bb se) where
 cfg:=hw.cfg
 im:=hw.im
 lost:=hw.lost
 Eb:=hw.Eb
 Al:=hw.Al
 iv:=hw.iv
 kD:=hw.kD
 oM:=hw.oM
 AO:=hw.AO
 Yp:=hw.Yp
 Bg:=hw.Bg
 iX:=hw.iX
 Ah:=hw.Ah
 Ng:=by
  have:=hw.Ng;rw[←uk h]at this;exact this
 BZ:=fun s hs=>by
  obtain⟨t,ht,e1,e2⟩:=vu h (show s∈se from hs);have:=hw.BZ t ht;rw[e1,e2]at this;exact this
 Yf:=ud h.symm hw.Yf
end Go.M
end
section
set_option maxRecDepth 8000
namespace Go.M
open Go.M.H (AL AR A3 A0 AA Cb AQ BI AS Ab BC Bd CD Ak CN AY AU Aa Ae B5 A_ Av BF Dz Ba Cg C1)
structure Up (w v:AA):Prop where
 rd:∀k,k<2→Pj (w.Ah.getD k AG).1 (w.Ah.getD k AG).2.1≤Pj (v.Ah.getD k AG).1 (v.Ah.getD k AG).2.1∧(w.Ah.getD k AG).2.2.1.length≤(v.Ah.getD k AG).2.2.1.length
 er:w.A8.length≤v.A8.length∧ ∀i,i<w.A8.length→(w.A8.getD i Dv).2.1=true→(v.A8.getD i Dv).2.1=true∧(v.A8.getD i Dv).2.2.1=(w.A8.getD i Dv).2.2.1
 Eb:w.Eb=true→v.Eb=true
 se:w.BZ.length≤v.BZ.length
theorem Up.of{w v:AA}(h1:v.Ah=w.Ah)(h2:v.A8=w.A8)(h3:w.Eb=true→v.Eb=true)(h4:w.BZ.length≤v.BZ.length):Up w v:=
 ⟨fun k _=>by rw[h1];exact⟨Int.le_refl _,ALE _⟩,by rw[h2];exact⟨ALE _,fun _ _ h=>⟨h,rfl⟩⟩,h3,h4⟩
section
variable{w:AA} (hw:PH w)
end
end Go.M
end
