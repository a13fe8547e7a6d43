/- Plain facts on what the functions compute. -/
import Derived.Test.YtgaopeilfepjmaaGreatG0
set_option linter.unusedVariables false
set_option linter.unusedSimpArgs false
set_option linter.unusedSectionVars false
section
namespace Go.M
theorem AA{α:Type}(p:Prop)[Decidable p](a b:α):cond (decide p) a b=if p then a else b:=by
 simp_all
theorem E_{α:Type}(c:Bool)(a b:α):cond c a b=if c=true then a else b:=by
 simp_all
theorem AG{x:Int}(h1: -9223372036854775808≤x)(h2:x<9223372036854775808):AX x=x:=by
 grind[AX,IntKind.wrap,IntKind.bits,IntKind.signed]
theorem AAh{x:Int}(h1:0≤x)(h2:x<256):w8 x=x:=by
 grind[w8,IntKind.wrap,IntKind.bits,IntKind.signed]
theorem sU{n:Nat}(h:n<9223372036854775808):AX (n:Int)=n:=AG (by omega) (by omega)
theorem nG(n:Nat):(BitVec.ofInt 64 (n:Int)).toNat=n%2^64:=by
 rfl
theorem km{n:Nat}(h:n<2^63):IntKind.wrap .i64 (n:Int)=n:=sU (by omega)
theorem o_{a b:Nat}(ha:a<2^63)(hb:b<2^63):o8 .i64 a b=((a &&& b:Nat):Int):=by
 grind[o8,BitVec.ofInt,IntKind.bits,BitVec.toNat_and,nG,Nat.mod_eq_of_lt,km,Nat.lt_of_le_of_lt,Nat.and_le_left]
theorem AH{n:Nat}(h:n<2^64):n<AL:=AF3 h YV
theorem AO{α:Type}{l:List α}{i:Nat}{d:α}(h:i<l.length):l.getD ((i:Int).toNat) d=l[i]:=by
 simp_all
theorem drop_cons{α:Type}{l:List α}{i:Nat}(h:i<l.length):l.drop i=l[i]::l.drop (i+1):=(List.getElem_cons_drop h).symm
theorem HL{α β:Type}{l:List α}(f:α→β){i:Nat}(h:i<l.length)(z:β){y:β}(hy:y=f l[i]):
  ((l.map f).take i++List.replicate (l.length-i) z).set i y=(l.map f).take (i+1)++List.replicate (l.length-(i+1)) z:=by
 subst hy;have h1:l.length-i=(l.length-(i+1))+1:=by omega
 grind[List.set_append_right,List.length_take,List.length_map,min,List.take_succ_eq_append_getElem]
theorem nz{β:Type}{l:List β}(g:Nat→β){i:Nat}(h:i<l.length){y:β}(hy:y=g i):
  ((List.range i).map g++l.drop i).set i y=(List.range (i+1)).map g++l.drop (i+1):=by
 subst hy;rw[List.set_append_right _ _ (by simp),drop_cons h];simp only[List.length_map,List.length_range,Nat.sub_self,List.set_cons_zero,List.range_succ,List.map_append,AGp,AGn,AEJ,AFI,AFO]
theorem Ay:Ej=68719476736:=rfl
end Go.M
end
section
namespace Go.M
theorem nn{l:AAA}{k:Int}(h:l.length≤2^63-1)(h0:0≤k)(h1:k≤2^21):EZ l k=some ((if k-l.length<0 then-1 else k-l.length,()),()):=by
 unfold EZ;rw[AG (by omega) (by omega)];grind
theorem jj{l:AAA}(hl:l.length≤2^36):∀(n i:Nat),i≤l.length→l.length-i<n→
  Iu n l i ((l.map id).take i++List.replicate (l.length-i) 0)=some (((),()),(l,()))
 |0,i,_,h=>by omega
 |n+1,i,hi,h=>by
  simp only[Iu,Td,AA];by_cases hc:i<l.length
  ·rw[ADW (by omega),ADW (by omega),ADW (by simp_all),AG (by omega) (by omega)]
   rw[show(((i:Nat):Int)+1)=((i+1:Nat):Int)by omega];rw[AO hc,show(((i:Nat):Int)).toNat=i by omega,HL id hc 0 (y:=l[i]) rfl];exact jj hl n (i+1) (by omega) (by omega)
  ·rw[AEK (by omega)]
   have:i=l.length:=by omega
   simp_all
theorem RR{l:AAA}(hl:l.length≤2^36):EY l=some (((),()),(l,())):=by
 unfold EY To;rw[ADW (by rw[Ay];omega)];have:=jj hl AL 0 (by omega) (AH (by omega));simp_all
theorem jI{l m:AAA}(hl:l.length≤2^40)(hm:l.length=m.length):∀(n i:Nat),i≤l.length→l.length-i<n→
  Io n l m i=some ((decide (l.drop i=m.drop i),()),())
 |0,i,_,h=>by omega
 |n+1,i,hi,h=>by
  simp only[Io,Tp,AA];by_cases hc:i<l.length
  ·rw[ADW (by omega),ADW (by omega),ADW (by omega),AG (by omega) (by omega),AO hc,AO (by omega),E_]
   rw[drop_cons hc,drop_cons (l:=m) (by omega)];by_cases he:l[i]=m[i]
   ·rw[AEK (by simp_all),show(((i:Nat):Int)+1)=((i+1:Nat):Int)by omega,jI hl hm n (i+1) (by omega) (by omega)]
    simp only[AFW,he,true_and]
   ·rw[ADW (by simp_all)]
    simp only[AFW,he,false_and,decide_false]
  grind
theorem RO{l m:AAA}(hl:l.length≤2^40)(hm:m.length≤2^40):Ed l m=some ((decide (l=m),()),()):=by
 unfold Ed S4;rw[E_];by_cases h:l.length=m.length
 ·rw[AEK (by simp_all)]
  grind[jI,AL,AH]
 ·rw[ADW (by grind)]
  have:l≠m:=fun e=>h (by rw[e])
  simp[this]
end Go.M
end
section
namespace Go.M
def BQ(x a b:Int):Bool:=decide (a≤x∧x≤b)
theorem Ba(x a b:Int):CF x a b=some ((BQ x a b,()),()):=by
 unfold CF BQ;grind
theorem A_(x a b:Int):BF x a b=some ((BQ x a b,()),()):=Ba x a b
def Ee(x:List Int×Int×Unit):Bool:=BQ (x.1.length:Int) 1 8&&(BQ x.2.1 1 4&&x.1.all fun d=>BQ d 0 7)
theorem Vf{l:AAA}{c:Int}(hl:l.length≤2^40):∀(n i:Nat),i≤l.length→l.length-i<n→Gp n i l c=some (((l.drop i).all fun d=>BQ d 0 7,()),())
 |0,i,_,h=>by omega
 |n+1,i,hi,h=>by
  simp only[Gp,Qa,AA];by_cases hc:i<l.length
  ·rw[ADW (by omega),ADW (by omega),AO hc,Ba,AG (by omega) (by omega),drop_cons hc]
   simp only[ADT,AGV];cases hb:BQ l[i] 0 7 with
   |false=>simp
   |true=>
    simp only[AEl,AEt,AFd];rw[show(((i:Nat):Int)+1)=((i+1:Nat):Int)by omega,Vf hl n (i+1) (by omega) (by omega)]
  grind
theorem Gg{x:List Int×Int×Unit}(hl:x.1.length≤2^40):Eb x=some ((Ee x,()),()):=by
 unfold Eb QP Ee;simp only[Ba,ADT];cases BQ (x.1.length:Int) 1 8 with
 |false=>simp
 |true=>
  cases BQ x.2.1 1 4 with
  |false=>simp
  |true=>
   grind[Vf,AL,AH]
theorem Vk{l:AAA}{c:Int}(hl:l.length≤2^40):∀(n i:Nat),i≤l.length→l.length-i<n→
  Ge n l l.length i l c=some ((((l.drop i).all fun d=>BQ d 0 7)&&(BQ (l.length:Int) 1 8&&BQ c 1 4),()),())
 |0,i,_,h=>by omega
 |n+1,i,hi,h=>by
  simp only[Ge,QT,AA];by_cases hc:i<l.length
  ·rw[ADW (by omega),ADW (by omega),AO hc,A_,AG (by omega) (by omega),drop_cons hc]
   simp only[ADT,AGV];cases hb:BQ l[i] 0 7 with
   |false=>simp
   |true=>
    simp only[AEl,AEt,AFd];rw[show(((i:Nat):Int)+1)=((i+1:Nat):Int)by omega,Vk hl n (i+1) (by omega) (by omega)]
  ·rw[AEK (by omega)]
   have:i=l.length:=by omega
   subst this;simp only[A_,ADT,List.drop_length,List.all_nil,AFd];grind
theorem Ga{x:List Int×Int×Unit}(hl:x.1.length≤2^40):CX x=some ((Ee x,()),()):=by
 unfold CX P4 Ee;have:=Vk (l:=x.1) (c:=x.2.1) hl AL 0 (by omega) (AH (by omega));grind
theorem NT{x:List Int×Int×Unit}(h:Ee x=true):1≤x.1.length∧x.1.length≤8∧1≤x.2.1∧x.2.1≤4∧ ∀d∈x.1,0≤d∧d≤7:=by
 simp only[Ee,BQ,AEE,AEe,AGT]at h;grind
end Go.M
end
section
namespace Go.M
abbrev iy:Go.Fw.Ty:= .cons (.sl (.int .i64)) (.cons (.int .i64) .unit)
end Go.M
end
section
namespace Go.M
def Bytes(b:AAA):Prop:= ∀c∈b,0≤c∧c<256
end Go.M
end
section
namespace Go.M
theorem wf_i64{c:Int}(h:(Go.Lit.int .i64 c).wf=true): -9223372036854775808≤c∧c<9223372036854775808:=by
 simp only[Go.Lit.wf,AEE,AEe]at h;have h1:Go.IntKind.min .i64= -9223372036854775808:=rfl;simp_all;omega
end Go.M
end
section
namespace Go.M
abbrev Ev:Type:=Int×Int×List UInt8×Unit
def mJ:Nat→Nat→List UInt8→List UInt8
 |0,_,acc=>acc
 |r+1,m,acc=>if 0<m then mJ r (m/10) (UInt8.ofNat (48+m%10)::acc)else acc
theorem aL:∀(r n m:Nat) (acc:List UInt8),m<10^r→r<n→m<2^63→acc.length+r<2^30→
  Ei n m acc=some ((109::mJ r m acc,()),())
 |_,0,_,_,_,h,_,_=>by omega
 |0,n+1,m,acc,hm,_,_,hl=>by
  have:m=0:=by omega
  subst this;simp only[Ei,Jx,AA,mJ];rw[AEK (by omega),ADW (by rw[Ay];omega)];rfl
 |r+1,n+1,m,acc,hm,hr,h63,hl=>by
  simp only[Ei,Jx,AA,mJ];by_cases h0:0<m
  ·rw[ADW (by omega),ADW h0]
   have e1:w8 (AX (48+(m:Int).tmod 10))=((48+m%10:Nat):Int):=by
    grind[Int.tmod_eq_emod_of_nonneg,AG,AAh]
   have e2:AX ((m:Int).tdiv 10)=((m/10:Nat):Int):=by
    grind[Int.tdiv_eq_ediv_of_nonneg,AG]
   rw[e1,e2];simp only[AGp,AGn,AFI,AFO,AE7,AGi,AEA];rw[ADW (by rw[Ay];omega)];exact aL r n (m/10) _ (by omega) (by omega) (by omega) (by grind)
  ·rw[AEK (by omega),AEK h0,ADW (by rw[Ay];omega)]
   rfl
theorem Oy{m:Nat}(hm:m<2^62):∃t,Cm m=some ((t,()),()):=by
 unfold Cm P5;rw[AA];split
 ·simp_all
 ·have h19:m<10^19:=by
   omega
  exact⟨_,aL 19 AL m [] h19 (AH (by omega)) (by omega) (by simp)⟩
def mD:List Ev→Nat
 |[]=>0
 |e::l=>e.2.2.1.length+mD l
theorem VV{l:List Ev}(hl:l.length≤2^40)(hd:∀e∈l,e.2.2.1.length≤2^63-1):∀(n i:Nat) (k:Int),i≤l.length→l.length-i<n→0≤k→k≤2^21→
  ∃r:Int,Df n l k i=some ((r,()),())∧(r<0∨(0≤r∧r+mD (l.drop i)≤k))
 |0,_,_,_,h,_,_=>by omega
 |n+1,i,k,hi,h,h0,h1=>by
  simp only[Df,J1,AA];by_cases hc:i<l.length
  ·rw[ADW (by omega),ADW (by omega),AO hc,drop_cons hc]
   have hdl:=hd _ (ADz hc)
   generalize l[i]=e at hdl
   simp only[M5];rw[AG (x:=k-_) (by omega) (by omega)];simp only[AA];by_cases hk:k-(e.2.2.1.length:Int)<0
   ·simp_all
   ·rw[AEK hk]
    simp only[ADT];rw[AEK hk,AG (by omega) (by omega),show((i:Int)+1)=((i+1:Nat):Int)by omega];obtain⟨r,h2,h3⟩:=VV hl hd n (i+1) (k-(e.2.2.1.length:Int)) (by omega) (by omega) (by omega) (by omega);grind[mD]
  ·rw[AEK (by omega)]
   refine⟨k,rfl,.inr ⟨h0,?_⟩⟩;grind[List.drop_eq_nil_of_le,mD]
theorem VX{l:List Ev}(hl:l.length≤2^36):∀(n i:Nat),i≤l.length→l.length-i<n→
  Dh n l i ((l.map id).take i++List.replicate (l.length-i) (0,0,[],()))=some (((),()),(l,()))
 |0,i,_,h=>by omega
 |n+1,i,hi,h=>by
  simp only[Dh,Jq,AA,RG,ADT];by_cases hc:i<l.length
  ·rw[ADW (by omega),ADW (by omega),ADW (by simp_all),AG (by omega) (by omega)]
   rw[show(((i:Nat):Int)+1)=((i+1:Nat):Int)by omega];rw[AO hc,show(((i:Nat):Int)).toNat=i by omega,HL id hc (0,0,[],()) (y:=(l[i].1,l[i].2.1,l[i].2.2.1,())) rfl];exact VX hl n (i+1) (by omega) (by omega)
  ·rw[AEK (by omega)]
   have:i=l.length:=by omega
   simp_all
theorem lN{a b:Ev}:JY a b=some ((decide (a=b),()),()):=by
 obtain⟨a1,a2,a3,⟨⟩⟩:=a;obtain⟨b1,b2,b3,⟨⟩⟩:=b;unfold JY;by_cases h1:a1=b1<;>by_cases h2:a2=b2<;>by_cases h3:a3=b3<;>simp[h1,h2,h3,E_]
theorem VH{l m:List Ev}(hl:l.length≤2^40)(hm:l.length=m.length):∀(n i:Nat),i≤l.length→l.length-i<n→
  Dc n l m i=some ((decide (l.drop i=m.drop i),()),())
 |0,i,_,h=>by omega
 |n+1,i,hi,h=>by
  simp only[Dc,Ju,AA];by_cases hc:i<l.length
  ·rw[ADW (by omega),ADW (by omega),ADW (by omega),AG (by omega) (by omega),AO hc,AO (by omega),lN]
   simp only[ADT];rw[drop_cons hc,drop_cons (l:=m) (by omega)];by_cases he:l[i]=m[i]
   ·rw[show(((i:Nat):Int)+1)=((i+1:Nat):Int)by omega,VH hl hm n (i+1) (by omega) (by omega)]
    have:(l[i].1,l[i].2.1,l[i].2.2.1,())=(m[i].1,m[i].2.1,m[i].2.2.1,()):=by rw[he]
    simp only[this,decide_true,AEl,AEt];simp only[AFW,he,true_and]
   ·have: ¬(l[i].1,l[i].2.1,l[i].2.2.1,())=(m[i].1,m[i].2.1,m[i].2.2.1,()):=he
    simp only[this,decide_false,AGg,AF7];simp only[AFW,he,false_and,decide_false]
  grind
abbrev Rdr:Type:=Int×Int×List Ev×Unit
def Vi(x:Rdr):Bool:=BQ x.1 1 31&&(BQ x.2.1 1 61&&decide ((x.2.2.1.length:Int)≤120))
theorem JP(x:Rdr):Hn x=some ((Vi x,()),()):=by
 grind[Hn,Vi,Ba,BQ]
theorem UW(x:Rdr):Ob x=some ((Vi x,()),()):=JP x
end Go.M
end
section
namespace Go.M.H
open Go.M
def AJ{α:Type}(f:α→Nat):List α→Nat
 |[]=>0
 |x::l=>1+f x+AJ f l
theorem AF{α:Type}{f:α→Nat}:∀{l:List α},l.length≤AJ f l
 |[]=>AF2 _
 |x::l=>by
  have:=AF (f:=f) (l:=l);grind[AJ,List.length_cons]
theorem AM{α:Type}{f:α→Nat}{x:α}:∀{l:List α},x∈l→f x≤AJ f l
 |y::l,h=>by
  simp only[AJ];rcases AGO.1 h with rfl|h
  ·omega
  ·have:=AM (f:=f) h
   omega
theorem Hk{α:Type}{f:α→Nat}{l:List α}{i:Nat}(h:i<l.length):AJ f (l.drop i)=1+f l[i]+AJ f (l.drop (i+1)):=by
 rw[drop_cons h];rfl
theorem J8{α:Type}{f:α→Nat}{l:List α}{i:Nat}(h:l.length≤i):AJ f (l.drop i)=0:=by
 rw[AF1 h];rfl
theorem DM{α:Type}(pre rest:List α)(x y:α):(pre++x::rest).set pre.length y=pre++y::rest:=by simp
theorem Cd{α:Type}(pre rest:List α)(x d:α):(pre++x::rest).getD pre.length d=x:=by simp[List.getD]
theorem FG{α:Type}(pre rest:List α)(x:α):(((pre.length:Nat):Int)<(((pre++x::rest).length:Nat):Int))=True:=eq_true (by grind)
theorem FE{α:Type}(pre rest:List α)(x:α):((0:Int)≤((pre.length:Nat):Int)∧((pre.length:Nat):Int)<(((pre++x::rest).length:Nat):Int))=True:=eq_true (by grind)
theorem FF{α:Type}(pre:List α):(((pre.length:Nat):Int)<(((pre++([]:List α)).length:Nat):Int))=False:=by simp
theorem Cc{m:Nat}(h:m<2^62):AX ((m:Int)+1)=((m+1:Nat):Int):=by grind[AG]
theorem Ce{α:Type}(pre:List α)(y:α):pre.length+1=(pre++[y]).length:=by simp
theorem Lw(m:Nat):((m:Int)<0)=False:=eq_false (by omega)
theorem RS{l:AAA}{k:Int}(hv:Go.Fw.Vd (.sl (.int .i64)) l)(h0:0≤k)(h1:k≤2^21):∃r:Int,EZ l k=some ((r,()),())∧(r<0∨(0≤r∧r+l.length≤k)):=by
 have:l.length≤2^63-1:=hv.1;grind[nn]
abbrev Ua:Type:=List Int
abbrev pw:Go.Fw.Ty:= .sl (.int .i64)
abbrev BT(x:Ua):Nat:=x.length
theorem nL{x:Ua}(hw:BT x≤2^30):EY x=some (((),()),(x,())):=RR (by grind)
theorem nD{x:Ua}(hw:BT x≤2^30):Ed x x=some ((true,()),()):=by
 unfold BT at hw;grind[RO]
theorem f_{l:List Ua}(hl:l.length≤2^40)(hv:∀e∈l,Go.Fw.Vd pw e):∀(n i:Nat) (k:Int),i≤l.length→l.length-i<n→0≤k→k+(l.length-i:Nat)≤2^21→
  ∃r:Int,HN n l k i=some ((r,()),())∧(r<0∨(0≤r∧r+(AJ BT (l.drop i):Nat)≤k+(l.length-i:Nat)))
 |0,_,_,_,h,_,_=>by omega
 |n+1,i,k,hi,h,h0,h1=>by
  simp only[HN,Rj,AA];by_cases hc:i<l.length
  ·rw[ADW (by omega),ADW (by omega),AO hc,Hk hc,show BT l[i]=List.length l[i]from rfl]
   obtain⟨r1,e1,s1⟩:=RS (hv _ (ADz hc)) h0 (by omega);rw[show l[i]=l[i]from rfl,e1];simp only[ADT];by_cases hr:r1<0
   ·simp_all
   ·rw[AEK hr,AG (by omega) (by omega),show((i:Int)+1)=((i+1:Nat):Int)by omega]
    obtain⟨r,e2,s2⟩:=f_ hl hv n (i+1) r1 (by omega) (by omega) (by omega) (by omega);grind
  ·rw[AEK (by omega),J8 (by omega)]
   simp_all
theorem lp{l:List Ua}{k:Int}(hv:Go.Fw.Vd (.sl pw) l)(h0:0≤k)(h1:k≤2^21):∃r:Int,Q5 l k=some ((r,()),())∧(r<0∨(0≤r∧r+AJ BT l≤k)):=by
 have hl:l.length≤2^63-1:=hv.1;unfold Q5 SR;rw[AG (by omega) (by omega)];simp only[AA];split
 ·simp_all
 ·obtain⟨r,e,s⟩:=f_ (l:=l) (by omega) hv.2 AL 0 (k-l.length) (by omega) (AH (by omega)) (by omega) (by omega)
  simp_all
theorem fu{l:List Ua}(hw:AJ BT l≤2^30):∀(n i:Nat),i≤l.length→l.length-i<n→
  HV n l i ((l.map id).take i++List.replicate (l.length-i) [])=some (((),()),(l,()))
 |0,i,_,h=>by omega
 |n+1,i,hi,h=>by
  have hl:=AF (f:=BT) (l:=l);simp only[HV,Rg,AA];by_cases hc:i<l.length
  ·have fE:=AM (f:=BT) (ADz hc)
   rw[ADW (by omega),ADW (by omega),AO hc,show l[i]=l[i]from rfl,nL (by omega)];simp only[ADT];rw[ADW (by simp_all),AG (by omega) (by omega)];rw[show(((i:Nat):Int)+1)=((i+1:Nat):Int)by omega];rw[show(((i:Nat):Int)).toNat=i by omega,HL id hc [] (y:=l[i]) rfl];exact fu hw n (i+1) (by omega) (by omega)
  ·rw[AEK (by omega)]
   have:i=l.length:=by omega
   simp_all
theorem kN{l:List Ua}(hw:AJ BT l≤2^30):Qi l=some (((),()),(l,())):=by
 have hl:=AF (f:=BT) (l:=l);unfold Qi SZ;rw[ADW (by rw[Ay];omega)];have:=fu hw AL 0 (by omega) (AH (by omega));simp_all
theorem fm{l:List Ua}(hw:AJ BT l≤2^30):∀(n i:Nat),i≤l.length→l.length-i<n→Ha n l l i=some ((true,()),())
 |0,i,_,h=>by omega
 |n+1,i,hi,h=>by
  have hl:=AF (f:=BT) (l:=l);simp only[Ha,SB,AA];by_cases hc:i<l.length
  ·have fE:=AM (f:=BT) (ADz hc)
   rw[ADW (by omega),ADW (by omega),ADW (by omega),AO hc,show l[i]=l[i]from rfl,nD (by omega),AG (by omega) (by omega)];simp only[ADT,AEl,AEt];rw[show(((i:Nat):Int)+1)=((i+1:Nat):Int)by omega];exact fm hw n (i+1) (by omega) (by omega)
  grind
theorem kY{l:List Ua}(hw:AJ BT l≤2^30):Qe l l=some ((true,()),()):=by
 have hl:=AF (f:=BT) (l:=l);unfold Qe Ry;rw[E_,AEK (by simp)];grind[fm,AL,AH]
abbrev AK:Type:=Int×Int×Bool×List UInt8×Unit
abbrev Wl:Go.Fw.Ty:= .cons (.int .i64) (.cons (.int .i64) (.cons .bool (.cons .str (.unit))))
def Ag(x:AK):Nat:=x.2.2.2.1.length
theorem lL{x:AK}{k:Int}(hv:Go.Fw.Vd Wl x)(h0:0≤k)(h1:k≤2^21):∃r:Int,Qk x k=some ((r,()),())∧(r<0∨(0≤r∧r+Ag x≤k)):=by
 unfold Qk Ag;have l1:List.length x.2.2.2.1≤2^63-1:=hv.2.2.2.1;simp only[AA,ADT];rw[AG (x:=k-_) (by omega) (by omega)];grind
theorem dv{l:List AK}(hl:l.length≤2^40)(hv:∀e∈l,Go.Fw.Vd Wl e):∀(n i:Nat) (k:Int),i≤l.length→l.length-i<n→0≤k→k+(l.length-i:Nat)≤2^21→
  ∃r:Int,GS n l k i=some ((r,()),())∧(r<0∨(0≤r∧r+(AJ Ag (l.drop i):Nat)≤k+(l.length-i:Nat)))
 |0,_,_,_,h,_,_=>by omega
 |n+1,i,k,hi,h,h0,h1=>by
  simp only[GS,P3,AA];by_cases hc:i<l.length
  ·rw[ADW (by omega),ADW (by omega),AO hc,Hk hc]
   obtain⟨r1,e1,s1⟩:=lL (hv _ (ADz hc)) h0 (by omega);rw[show(l[i].1,l[i].2.1,l[i].2.2.1,l[i].2.2.2.1,())=l[i]from rfl,e1];simp only[ADT];by_cases hr:r1<0
   ·simp_all
   ·rw[AEK hr,AG (by omega) (by omega),show((i:Int)+1)=((i+1:Nat):Int)by omega]
    obtain⟨r,e2,s2⟩:=dv hl hv n (i+1) r1 (by omega) (by omega) (by omega) (by omega);grind
  ·rw[AEK (by omega),J8 (by omega)]
   simp_all
theorem WL{l:List AK}{k:Int}(hv:Go.Fw.Vd (.sl Wl) l)(h0:0≤k)(h1:k≤2^21):∃r:Int,Hf l k=some ((r,()),())∧(r<0∨(0≤r∧r+AJ Ag l≤k)):=by
 have hl:l.length≤2^63-1:=hv.1;unfold Hf P7;rw[AG (by omega) (by omega)];simp only[AA];split
 ·simp_all
 ·obtain⟨r,e,s⟩:=dv (l:=l) (by omega) hv.2 AL 0 (k-l.length) (by omega) (AH (by omega)) (by omega) (by omega)
  simp_all
theorem la{x:AK}(hw:Ag x≤2^30):VD x=some (((x.1,x.2.1,x.2.2.1,x.2.2.2.1,()),()),()):=by
 rfl
theorem eM{l:List AK}(hw:AJ Ag l≤2^30):∀(n i:Nat),i≤l.length→l.length-i<n→
  GW n l i ((l.map id).take i++List.replicate (l.length-i) (0,0,false,[],()))=some (((),()),(l,()))
 |0,i,_,h=>by omega
 |n+1,i,hi,h=>by
  have hl:=AF (f:=Ag) (l:=l);simp only[GW,P6,AA];by_cases hc:i<l.length
  ·have fE:=AM (f:=Ag) (ADz hc)
   rw[ADW (by omega),ADW (by omega),AO hc,show(l[i].1,l[i].2.1,l[i].2.2.1,l[i].2.2.2.1,())=l[i]from rfl,la (by omega)];simp only[ADT];rw[ADW (by simp_all),AG (by omega) (by omega)];rw[show(((i:Nat):Int)+1)=((i+1:Nat):Int)by omega];rw[show(((i:Nat):Int)).toNat=i by omega,HL id hc (0,0,false,[],()) (y:=(l[i].1,l[i].2.1,l[i].2.2.1,l[i].2.2.2.1,())) rfl];exact eM hw n (i+1) (by omega) (by omega)
  ·rw[AEK (by omega)]
   have:i=l.length:=by omega
   simp_all
theorem aU{l:List AK}(hw:AJ Ag l≤2^30):Ho l=some (((),()),(l,())):=by
 have hl:=AF (f:=Ag) (l:=l);unfold Ho P_;rw[ADW (by rw[Ay];omega)];have:=eM hw AL 0 (by omega) (AH (by omega));simp_all
theorem lK{x:AK}(hw:Ag x≤2^30):Qq x x=some ((true,()),()):=by
 grind[Ag,Qq]
theorem bt{l:List AK}(hw:AJ Ag l≤2^30):∀(n i:Nat),i≤l.length→l.length-i<n→GJ n l l i=some ((true,()),())
 |0,i,_,h=>by omega
 |n+1,i,hi,h=>by
  have hl:=AF (f:=Ag) (l:=l);simp only[GJ,QZ,AA];by_cases hc:i<l.length
  ·have fE:=AM (f:=Ag) (ADz hc)
   rw[ADW (by omega),ADW (by omega),ADW (by omega),AO hc,show(l[i].1,l[i].2.1,l[i].2.2.1,l[i].2.2.2.1,())=l[i]from rfl,lK (by omega),AG (by omega) (by omega)];simp only[ADT,AEl,AEt];rw[show(((i:Nat):Int)+1)=((i+1:Nat):Int)by omega];exact bt hw n (i+1) (by omega) (by omega)
  grind
theorem Z9{l:List AK}(hw:AJ Ag l≤2^30):Hi l l=some ((true,()),()):=by
 have hl:=AF (f:=Ag) (l:=l);unfold Hi QY;rw[E_,AEK (by simp)];grind[bt,AL,AH]
abbrev bW:Type:=List Int×Int×Unit
abbrev iy:Go.Fw.Ty:= .cons (.sl (.int .i64)) (.cons (.int .i64) (.unit))
def Q4(x:bW):Nat:=x.1.length
theorem jG{x:bW}{k:Int}(hv:Go.Fw.Vd iy x)(h0:0≤k)(h1:k≤2^21):∃r:Int,OT x k=some ((r,()),())∧(r<0∨(0≤r∧r+Q4 x≤k)):=by
 unfold OT Q4;obtain⟨k1,e1,s1⟩:=RS (l:=x.1) hv.1 (k:=k) (by omega) (by omega);grind
theorem jz{x:bW}(hw:Q4 x≤2^30):OP x=some ((((),x.2.1,()),()),(x.1,())):=by
 grind[Q4,OP,RR]
theorem jo{x:bW}(hw:Q4 x≤2^30):OH x x=some ((true,()),()):=by
 grind[Q4,OH,RO]
abbrev AQ:Type:=List AK×List AK×Int×Unit
abbrev bd:Go.Fw.Ty:= .cons (.sl Wl) (.cons (.sl Wl) (.cons (.int .i64) (.unit)))
def Aa(x:AQ):Nat:=AJ Ag x.1+AJ Ag x.2.1
theorem ke{x:AQ}{k:Int}(hv:Go.Fw.Vd bd x)(h0:0≤k)(h1:k≤2^21):∃r:Int,Qz x k=some ((r,()),())∧(r<0∨(0≤r∧r+Aa x≤k)):=by
 unfold Qz Aa;obtain⟨k1,e1,s1⟩:=WL (l:=x.1) hv.1 (k:=k) (by omega) (by omega);rw[e1];simp only[ADT,AA];by_cases r1:k1<0
 ·simp_all
 rw[AEK r1];obtain⟨k2,e2,s2⟩:=WL (l:=x.2.1) hv.2.1 (k:=k1) (by omega) (by omega);grind
theorem cD{l:List AQ}(hl:l.length≤2^40)(hv:∀e∈l,Go.Fw.Vd bd e):∀(n i:Nat) (k:Int),i≤l.length→l.length-i<n→0≤k→k+(l.length-i:Nat)≤2^21→
  ∃r:Int,GM n l k i=some ((r,()),())∧(r<0∨(0≤r∧r+(AJ Aa (l.drop i):Nat)≤k+(l.length-i:Nat)))
 |0,_,_,_,h,_,_=>by omega
 |n+1,i,k,hi,h,h0,h1=>by
  simp only[GM,QI,AA];by_cases hc:i<l.length
  ·rw[ADW (by omega),ADW (by omega),AO hc,Hk hc]
   obtain⟨r1,e1,s1⟩:=ke (hv _ (ADz hc)) h0 (by omega);rw[show(l[i].1,l[i].2.1,l[i].2.2.1,())=l[i]from rfl,e1];simp only[ADT];by_cases hr:r1<0
   ·simp_all
   ·rw[AEK hr,AG (by omega) (by omega),show((i:Int)+1)=((i+1:Nat):Int)by omega]
    obtain⟨r,e2,s2⟩:=cD hl hv n (i+1) r1 (by omega) (by omega) (by omega) (by omega);grind
  ·rw[AEK (by omega),J8 (by omega)]
   simp_all
theorem jS{l:List AQ}{k:Int}(hv:Go.Fw.Vd (.sl bd) l)(h0:0≤k)(h1:k≤2^21):∃r:Int,N4 l k=some ((r,()),())∧(r<0∨(0≤r∧r+AJ Aa l≤k)):=by
 have hl:l.length≤2^63-1:=hv.1;unfold N4 Qb;rw[AG (by omega) (by omega)];simp only[AA];split
 ·simp_all
 ·obtain⟨r,e,s⟩:=cD (l:=l) (by omega) hv.2 AL 0 (k-l.length) (by omega) (AH (by omega)) (by omega) (by omega)
  simp_all
theorem kq{x:AQ}(hw:Aa x≤2^30):Qy x=some ((((),(),x.2.2.1,()),()),(x.1,x.2.1,())):=by
 grind[Aa,Qy,aU]
theorem dq{l:List AQ}(hw:AJ Aa l≤2^30):∀(n i:Nat),i≤l.length→l.length-i<n→
  GU n l i ((l.map id).take i++List.replicate (l.length-i) ([],[],0,()))=some (((),()),(l,()))
 |0,i,_,h=>by omega
 |n+1,i,hi,h=>by
  have hl:=AF (f:=Aa) (l:=l);simp only[GU,QQ,AA];by_cases hc:i<l.length
  ·have fE:=AM (f:=Aa) (ADz hc)
   rw[ADW (by omega),ADW (by omega),AO hc,show(l[i].1,l[i].2.1,l[i].2.2.1,())=l[i]from rfl,kq (by omega)];simp only[ADT];rw[ADW (by simp_all),AG (by omega) (by omega)];rw[show(((i:Nat):Int)+1)=((i+1:Nat):Int)by omega];rw[show(((i:Nat):Int)).toNat=i by omega,HL id hc ([],[],0,()) (y:=(l[i].1,l[i].2.1,l[i].2.2.1,())) rfl];exact dq hw n (i+1) (by omega) (by omega)
  ·rw[AEK (by omega)]
   have:i=l.length:=by omega
   simp_all
theorem jC{l:List AQ}(hw:AJ Aa l≤2^30):OL l=some (((),()),(l,())):=by
 have hl:=AF (f:=Aa) (l:=l);unfold OL QC;rw[ADW (by rw[Ay];omega)];have:=dq hw AL 0 (by omega) (AH (by omega));simp_all
theorem ld{x:AQ}(hw:Aa x≤2^30):Qf x x=some ((true,()),()):=by
 grind[Aa,Qf,Z9]
theorem cU{l:List AQ}(hw:AJ Aa l≤2^30):∀(n i:Nat),i≤l.length→l.length-i<n→GO n l l i=some ((true,()),())
 |0,i,_,h=>by omega
 |n+1,i,hi,h=>by
  have hl:=AF (f:=Aa) (l:=l);simp only[GO,QH,AA];by_cases hc:i<l.length
  ·have fE:=AM (f:=Aa) (ADz hc)
   rw[ADW (by omega),ADW (by omega),ADW (by omega),AO hc,show(l[i].1,l[i].2.1,l[i].2.2.1,())=l[i]from rfl,ld (by omega),AG (by omega) (by omega)];simp only[ADT,AEl,AEt];rw[show(((i:Nat):Int)+1)=((i+1:Nat):Int)by omega];exact cU hw n (i+1) (by omega) (by omega)
  grind
theorem kD{l:List AQ}(hw:AJ Aa l≤2^30):N8 l l=some ((true,()),()):=by
 have hl:=AF (f:=Aa) (l:=l);unfold N8 P8;rw[E_,AEK (by simp)];grind[cU,AL,AH]
abbrev CN:Type:=List Int×Bool×Int×Unit
abbrev cg:Go.Fw.Ty:= .cons (.sl (.int .i64)) (.cons .bool (.cons (.int .i64) (.unit)))
def BS(x:CN):Nat:=x.1.length
theorem oB{x:CN}{k:Int}(hv:Go.Fw.Vd cg x)(h0:0≤k)(h1:k≤2^21):∃r:Int,U8 x k=some ((r,()),())∧(r<0∨(0≤r∧r+BS x≤k)):=by
 unfold U8 BS;obtain⟨k1,e1,s1⟩:=RS (l:=x.1) hv.1 (k:=k) (by omega) (by omega);grind
theorem j9{l:List CN}(hl:l.length≤2^40)(hv:∀e∈l,Go.Fw.Vd cg e):∀(n i:Nat) (k:Int),i≤l.length→l.length-i<n→0≤k→k+(l.length-i:Nat)≤2^21→
  ∃r:Int,Iq n l k i=some ((r,()),())∧(r<0∨(0≤r∧r+(AJ BS (l.drop i):Nat)≤k+(l.length-i:Nat)))
 |0,_,_,_,h,_,_=>by omega
 |n+1,i,k,hi,h,h0,h1=>by
  simp only[Iq,S3,AA];by_cases hc:i<l.length
  ·rw[ADW (by omega),ADW (by omega),AO hc,Hk hc]
   obtain⟨r1,e1,s1⟩:=oB (hv _ (ADz hc)) h0 (by omega);rw[show(l[i].1,l[i].2.1,l[i].2.2.1,())=l[i]from rfl,e1];simp only[ADT];by_cases hr:r1<0
   ·simp_all
   ·rw[AEK hr,AG (by omega) (by omega),show((i:Int)+1)=((i+1:Nat):Int)by omega]
    obtain⟨r,e2,s2⟩:=j9 hl hv n (i+1) r1 (by omega) (by omega) (by omega) (by omega);grind
  ·rw[AEK (by omega),J8 (by omega)]
   simp_all
theorem nB{l:List CN}{k:Int}(hv:Go.Fw.Vd (.sl cg) l)(h0:0≤k)(h1:k≤2^21):∃r:Int,Th l k=some ((r,()),())∧(r<0∨(0≤r∧r+AJ BS l≤k)):=by
 have hl:l.length≤2^63-1:=hv.1;unfold Th Sx;rw[AG (by omega) (by omega)];simp only[AA];split
 ·simp_all
 ·obtain⟨r,e,s⟩:=j9 (l:=l) (by omega) hv.2 AL 0 (k-l.length) (by omega) (AH (by omega)) (by omega) (by omega)
  simp_all
theorem oG{x:CN}(hw:BS x≤2^30):U4 x=some ((((),x.2.1,x.2.2.1,()),()),(x.1,())):=by
 grind[BS,U4,RR]
theorem i_{l:List CN}(hw:AJ BS l≤2^30):∀(n i:Nat),i≤l.length→l.length-i<n→
  IX n l i ((l.map id).take i++List.replicate (l.length-i) ([],false,0,()))=some (((),()),(l,()))
 |0,i,_,h=>by omega
 |n+1,i,hi,h=>by
  have hl:=AF (f:=BS) (l:=l);simp only[IX,Tq,AA];by_cases hc:i<l.length
  ·have fE:=AM (f:=BS) (ADz hc)
   rw[ADW (by omega),ADW (by omega),AO hc,show(l[i].1,l[i].2.1,l[i].2.2.1,())=l[i]from rfl,oG (by omega)];simp only[ADT];rw[ADW (by simp_all),AG (by omega) (by omega)];rw[show(((i:Nat):Int)+1)=((i+1:Nat):Int)by omega];rw[show(((i:Nat):Int)).toNat=i by omega,HL id hc ([],false,0,()) (y:=(l[i].1,l[i].2.1,l[i].2.2.1,())) rfl];exact i_ hw n (i+1) (by omega) (by omega)
  ·rw[AEK (by omega)]
   have:i=l.length:=by omega
   simp_all
theorem mg{l:List CN}(hw:AJ BS l≤2^30):S6 l=some (((),()),(l,())):=by
 have hl:=AF (f:=BS) (l:=l);unfold S6 TX;rw[ADW (by rw[Ay];omega)];have:=i_ hw AL 0 (by omega) (AH (by omega));simp_all
theorem p7{x:CN}(hw:BS x≤2^30):U5 x x=some ((true,()),()):=by
 grind[BS,U5,RO]
theorem jL{l:List CN}(hw:AJ BS l≤2^30):∀(n i:Nat),i≤l.length→l.length-i<n→I1 n l l i=some ((true,()),())
 |0,i,_,h=>by omega
 |n+1,i,hi,h=>by
  have hl:=AF (f:=BS) (l:=l);simp only[I1,TS,AA];by_cases hc:i<l.length
  ·have fE:=AM (f:=BS) (ADz hc)
   rw[ADW (by omega),ADW (by omega),ADW (by omega),AO hc,show(l[i].1,l[i].2.1,l[i].2.2.1,())=l[i]from rfl,p7 (by omega),AG (by omega) (by omega)];simp only[ADT,AEl,AEt];rw[show(((i:Nat):Int)+1)=((i+1:Nat):Int)by omega];exact jL hw n (i+1) (by omega) (by omega)
  grind
theorem mh{l:List CN}(hw:AJ BS l≤2^30):TV l l=some ((true,()),()):=by
 have hl:=AF (f:=BS) (l:=l);unfold TV Tu;rw[E_,AEK (by simp)];grind[jL,AL,AH]
abbrev AN:Type:=List CN×Int×Unit
abbrev Xr:Go.Fw.Ty:= .cons (.sl cg) (.cons (.int .i64) (.unit))
def CE(x:AN):Nat:=AJ BS x.1
theorem ea{x:AN}{k:Int}(hv:Go.Fw.Vd Xr x)(h0:0≤k)(h1:k≤2^21):∃r:Int,KP x k=some ((r,()),())∧(r<0∨(0≤r∧r+CE x≤k)):=by
 unfold KP CE;obtain⟨k1,e1,s1⟩:=nB (l:=x.1) hv.1 (k:=k) (by omega) (by omega);grind
theorem ey{x:AN}(hw:CE x≤2^30):Kj x=some ((((),x.2.1,()),()),(x.1,())):=by
 grind[CE,Kj,mg]
theorem er{x:AN}(hw:CE x≤2^30):Kq x x=some ((true,()),()):=by
 grind[CE,Kq,mh]
abbrev BE:Type:=List UInt8×List Int×Bool×Unit
abbrev Zg:Go.Fw.Ty:= .cons .str (.cons (.sl (.int .i64)) (.cons .bool (.unit)))
def Aq(x:BE):Nat:=x.1.length+x.2.1.length
theorem mz{x:BE}{k:Int}(hv:Go.Fw.Vd Zg x)(h0:0≤k)(h1:k≤2^21):∃r:Int,S9 x k=some ((r,()),())∧(r<0∨(0≤r∧r+Aq x≤k)):=by
 unfold S9 Aq;have l1:List.length x.1≤2^63-1:=hv.1;simp only[AA,ADT];rw[AG (x:=k-_) (by omega) (by omega)];by_cases r1:k-(List.length x.1:Int)<0
 ·simp_all
 rw[AEK r1];obtain⟨k1,e1⟩:∃k1,k1=k-(List.length x.1:Int):=⟨_,rfl⟩;rw[←e1];obtain⟨k2,e2,s2⟩:=RS (l:=x.2.1) hv.2.1 (k:=k1) (by omega) (by omega);grind
theorem gS{l:List BE}(hl:l.length≤2^40)(hv:∀e∈l,Go.Fw.Vd Zg e):∀(n i:Nat) (k:Int),i≤l.length→l.length-i<n→0≤k→k+(l.length-i:Nat)≤2^21→
  ∃r:Int,HM n l k i=some ((r,()),())∧(r<0∨(0≤r∧r+(AJ Aq (l.drop i):Nat)≤k+(l.length-i:Nat)))
 |0,_,_,_,h,_,_=>by omega
 |n+1,i,k,hi,h,h0,h1=>by
  simp only[HM,Rq,AA];by_cases hc:i<l.length
  ·rw[ADW (by omega),ADW (by omega),AO hc,Hk hc]
   obtain⟨r1,e1,s1⟩:=mz (hv _ (ADz hc)) h0 (by omega);rw[show(l[i].1,l[i].2.1,l[i].2.2.1,())=l[i]from rfl,e1];simp only[ADT];by_cases hr:r1<0
   ·simp_all
   ·rw[AEK hr,AG (by omega) (by omega),show((i:Int)+1)=((i+1:Nat):Int)by omega]
    obtain⟨r,e2,s2⟩:=gS hl hv n (i+1) r1 (by omega) (by omega) (by omega) (by omega);grind
  ·rw[AEK (by omega),J8 (by omega)]
   simp_all
theorem kg{l:List BE}{k:Int}(hv:Go.Fw.Vd (.sl Zg) l)(h0:0≤k)(h1:k≤2^21):∃r:Int,Qh l k=some ((r,()),())∧(r<0∨(0≤r∧r+AJ Aq l≤k)):=by
 have hl:l.length≤2^63-1:=hv.1;unfold Qh Sk;rw[AG (by omega) (by omega)];simp only[AA];split
 ·simp_all
 ·obtain⟨r,e,s⟩:=gS (l:=l) (by omega) hv.2 AL 0 (k-l.length) (by omega) (AH (by omega)) (by omega) (by omega)
  simp_all
theorem nC{x:BE}(hw:Aq x≤2^30):Tl x=some (((x.1,(),x.2.2.1,()),()),(x.2.1,())):=by
 grind[Aq,Tl,RR]
theorem gT{l:List BE}(hw:AJ Aq l≤2^30):∀(n i:Nat),i≤l.length→l.length-i<n→
  HJ n l i ((l.map id).take i++List.replicate (l.length-i) ([],[],false,()))=some (((),()),(l,()))
 |0,i,_,h=>by omega
 |n+1,i,hi,h=>by
  have hl:=AF (f:=Aq) (l:=l);simp only[HJ,Rx,AA];by_cases hc:i<l.length
  ·have fE:=AM (f:=Aq) (ADz hc)
   rw[ADW (by omega),ADW (by omega),AO hc,show(l[i].1,l[i].2.1,l[i].2.2.1,())=l[i]from rfl,nC (by omega)];simp only[ADT];rw[ADW (by simp_all),AG (by omega) (by omega)];rw[show(((i:Nat):Int)+1)=((i+1:Nat):Int)by omega];rw[show(((i:Nat):Int)).toNat=i by omega,HL id hc ([],[],false,()) (y:=(l[i].1,l[i].2.1,l[i].2.2.1,())) rfl];exact gT hw n (i+1) (by omega) (by omega)
  ·rw[AEK (by omega)]
   have:i=l.length:=by omega
   simp_all
theorem lI{l:List BE}(hw:AJ Aq l≤2^30):Qt l=some (((),()),(l,())):=by
 have hl:=AF (f:=Aq) (l:=l);unfold Qt Rn;rw[ADW (by rw[Ay];omega)];have:=gT hw AL 0 (by omega) (AH (by omega));simp_all
theorem ni{x:BE}(hw:Aq x≤2^30):Te x x=some ((true,()),()):=by
 grind[Aq,Te,RO]
theorem gN{l:List BE}(hw:AJ Aq l≤2^30):∀(n i:Nat),i≤l.length→l.length-i<n→HT n l l i=some ((true,()),())
 |0,i,_,h=>by omega
 |n+1,i,hi,h=>by
  have hl:=AF (f:=Aq) (l:=l);simp only[HT,SW,AA];by_cases hc:i<l.length
  ·have fE:=AM (f:=Aq) (ADz hc)
   rw[ADW (by omega),ADW (by omega),ADW (by omega),AO hc,show(l[i].1,l[i].2.1,l[i].2.2.1,())=l[i]from rfl,ni (by omega),AG (by omega) (by omega)];simp only[ADT,AEl,AEt];rw[show(((i:Nat):Int)+1)=((i+1:Nat):Int)by omega];exact gN hw n (i+1) (by omega) (by omega)
  grind
theorem lT{l:List BE}(hw:AJ Aq l≤2^30):Q7 l l=some ((true,()),()):=by
 have hl:=AF (f:=Aq) (l:=l);unfold Q7 SC;rw[E_,AEK (by simp)];grind[gN,AL,AH]
abbrev AR:Type:=Int×List BE×Unit
abbrev Us:Go.Fw.Ty:= .cons (.int .i64) (.cons (.sl Zg) (.unit))
def AS(x:AR):Nat:=AJ Aq x.2.1
theorem ja{x:AR}{k:Int}(hv:Go.Fw.Vd Us x)(h0:0≤k)(h1:k≤2^21):∃r:Int,Of x k=some ((r,()),())∧(r<0∨(0≤r∧r+AS x≤k)):=by
 unfold Of AS;obtain⟨k1,e1,s1⟩:=kg (l:=x.2.1) hv.2.1 (k:=k) (by omega) (by omega);grind
theorem Z7{l:List AR}(hl:l.length≤2^40)(hv:∀e∈l,Go.Fw.Vd Us e):∀(n i:Nat) (k:Int),i≤l.length→l.length-i<n→0≤k→k+(l.length-i:Nat)≤2^21→
  ∃r:Int,FY n l k i=some ((r,()),())∧(r<0∨(0≤r∧r+(AJ AS (l.drop i):Nat)≤k+(l.length-i:Nat)))
 |0,_,_,_,h,_,_=>by omega
 |n+1,i,k,hi,h,h0,h1=>by
  simp only[FY,Ov,AA];by_cases hc:i<l.length
  ·rw[ADW (by omega),ADW (by omega),AO hc,Hk hc]
   obtain⟨r1,e1,s1⟩:=ja (hv _ (ADz hc)) h0 (by omega);rw[show(l[i].1,l[i].2.1,())=l[i]from rfl,e1];simp only[ADT];by_cases hr:r1<0
   ·simp_all
   ·rw[AEK hr,AG (by omega) (by omega),show((i:Int)+1)=((i+1:Nat):Int)by omega]
    obtain⟨r,e2,s2⟩:=Z7 hl hv n (i+1) r1 (by omega) (by omega) (by omega) (by omega);grind
  ·rw[AEK (by omega),J8 (by omega)]
   simp_all
theorem iN{l:List AR}{k:Int}(hv:Go.Fw.Vd (.sl Us) l)(h0:0≤k)(h1:k≤2^21):∃r:Int,Ll l k=some ((r,()),())∧(r<0∨(0≤r∧r+AJ AS l≤k)):=by
 have hl:l.length≤2^63-1:=hv.1;unfold Ll PI;rw[AG (by omega) (by omega)];simp only[AA];split
 ·simp_all
 ·obtain⟨r,e,s⟩:=Z7 (l:=l) (by omega) hv.2 AL 0 (k-l.length) (by omega) (AH (by omega)) (by omega) (by omega)
  simp_all
theorem jt{x:AR}(hw:AS x≤2^30):Oc x=some (((x.1,(),()),()),(x.2.1,())):=by
 grind[AS,Oc,lI]
theorem Z1{l:List AR}(hw:AJ AS l≤2^30):∀(n i:Nat),i≤l.length→l.length-i<n→
  Fe n l i ((l.map id).take i++List.replicate (l.length-i) (0,[],()))=some (((),()),(l,()))
 |0,i,_,h=>by omega
 |n+1,i,hi,h=>by
  have hl:=AF (f:=AS) (l:=l);simp only[Fe,O_,AA];by_cases hc:i<l.length
  ·have fE:=AM (f:=AS) (ADz hc)
   rw[ADW (by omega),ADW (by omega),AO hc,show(l[i].1,l[i].2.1,())=l[i]from rfl,jt (by omega)];simp only[ADT];rw[ADW (by simp_all),AG (by omega) (by omega)];rw[show(((i:Nat):Int)+1)=((i+1:Nat):Int)by omega];rw[show(((i:Nat):Int)).toNat=i by omega,HL id hc (0,[],()) (y:=(l[i].1,l[i].2.1,())) rfl];exact Z1 hw n (i+1) (by omega) (by omega)
  ·rw[AEK (by omega)]
   have:i=l.length:=by omega
   simp_all
theorem gr{l:List AR}(hw:AJ AS l≤2^30):M3 l=some (((),()),(l,())):=by
 have hl:=AF (f:=AS) (l:=l);unfold M3 Ox;rw[ADW (by rw[Ay];omega)];have:=Z1 hw AL 0 (by omega) (AH (by omega));simp_all
theorem jb{x:AR}(hw:AS x≤2^30):OO x x=some ((true,()),()):=by
 grind[AS,OO,lT]
theorem aP{l:List AR}(hw:AJ AS l≤2^30):∀(n i:Nat),i≤l.length→l.length-i<n→FU n l l i=some ((true,()),())
 |0,i,_,h=>by omega
 |n+1,i,hi,h=>by
  have hl:=AF (f:=AS) (l:=l);simp only[FU,O5,AA];by_cases hc:i<l.length
  ·have fE:=AM (f:=AS) (ADz hc)
   rw[ADW (by omega),ADW (by omega),ADW (by omega),AO hc,show(l[i].1,l[i].2.1,())=l[i]from rfl,jb (by omega),AG (by omega) (by omega)];simp only[ADT,AEl,AEt];rw[show(((i:Nat):Int)+1)=((i+1:Nat):Int)by omega];exact aP hw n (i+1) (by omega) (by omega)
  grind
theorem gd{l:List AR}(hw:AJ AS l≤2^30):MU l l=some ((true,()),()):=by
 have hl:=AF (f:=AS) (l:=l);unfold MU PC;rw[E_,AEK (by simp)];grind[aP,AL,AH]
abbrev An:Type:=Int×Int×List Int×List AK×Bool×List AAA×Unit
abbrev iV:Go.Fw.Ty:= .cons (.int .i64) (.cons (.int .i64) (.cons (.sl (.int .i64)) (.cons (.sl Wl) (.cons .bool (.cons (.sl (.sl (.int .i64))) (.unit))))))
def A6(x:An):Nat:=x.2.2.1.length+AJ Ag x.2.2.2.1+AJ BT x.2.2.2.2.2.1
theorem mn{x:An}{k:Int}(hv:Go.Fw.Vd iV x)(h0:0≤k)(h1:k≤2^21):∃r:Int,Tt x k=some ((r,()),())∧(r<0∨(0≤r∧r+A6 x≤k)):=by
 unfold Tt A6;obtain⟨k1,e1,s1⟩:=RS (l:=x.2.2.1) hv.2.2.1 (k:=k) (by omega) (by omega);rw[e1];simp only[ADT,AA];by_cases r1:k1<0
 ·simp_all
 rw[AEK r1];obtain⟨k2,e2,s2⟩:=WL (l:=x.2.2.2.1) hv.2.2.2.1 (k:=k1) (by omega) (by omega);rw[e2];simp only[ADT,AA];by_cases r2:k2<0
 ·simp_all
 rw[AEK r2];obtain⟨k3,e3,s3⟩:=lp (l:=x.2.2.2.2.2.1) hv.2.2.2.2.2.1 (k:=k2) (by omega) (by omega);grind
theorem fq{l:List An}(hl:l.length≤2^40)(hv:∀e∈l,Go.Fw.Vd iV e):∀(n i:Nat) (k:Int),i≤l.length→l.length-i<n→0≤k→k+(l.length-i:Nat)≤2^21→
  ∃r:Int,HQ n l k i=some ((r,()),())∧(r<0∨(0≤r∧r+(AJ A6 (l.drop i):Nat)≤k+(l.length-i:Nat)))
 |0,_,_,_,h,_,_=>by omega
 |n+1,i,k,hi,h,h0,h1=>by
  simp only[HQ,R_,AA];by_cases hc:i<l.length
  ·rw[ADW (by omega),ADW (by omega),AO hc,Hk hc]
   obtain⟨r1,e1,s1⟩:=mn (hv _ (ADz hc)) h0 (by omega);rw[show(l[i].1,l[i].2.1,l[i].2.2.1,l[i].2.2.2.1,l[i].2.2.2.2.1,l[i].2.2.2.2.2.1,())=l[i]from rfl,e1];simp only[ADT];by_cases hr:r1<0
   ·simp_all
   ·rw[AEK hr,AG (by omega) (by omega),show((i:Int)+1)=((i+1:Nat):Int)by omega]
    obtain⟨r,e2,s2⟩:=fq hl hv n (i+1) r1 (by omega) (by omega) (by omega) (by omega);grind
  ·rw[AEK (by omega),J8 (by omega)]
   simp_all
theorem ll{l:List An}{k:Int}(hv:Go.Fw.Vd (.sl iV) l)(h0:0≤k)(h1:k≤2^21):∃r:Int,Q9 l k=some ((r,()),())∧(r<0∨(0≤r∧r+AJ A6 l≤k)):=by
 have hl:l.length≤2^63-1:=hv.1;unfold Q9 SJ;rw[AG (by omega) (by omega)];simp only[AA];split
 ·simp_all
 ·obtain⟨r,e,s⟩:=fq (l:=l) (by omega) hv.2 AL 0 (k-l.length) (by omega) (AH (by omega)) (by omega) (by omega)
  simp_all
theorem nP{x:An}(hw:A6 x≤2^30):Sz x=some (((x.1,x.2.1,(),(),x.2.2.2.2.1,(),()),()),(x.2.2.1,x.2.2.2.1,x.2.2.2.2.2.1,())):=by
 grind[A6,Sz,RR,aU,kN]
theorem gM{l:List An}(hw:AJ A6 l≤2^30):∀(n i:Nat),i≤l.length→l.length-i<n→
  HX n l i ((l.map id).take i++List.replicate (l.length-i) (0,0,[],[],false,[],()))=some (((),()),(l,()))
 |0,i,_,h=>by omega
 |n+1,i,hi,h=>by
  have hl:=AF (f:=A6) (l:=l);simp only[HX,Rw,AA];by_cases hc:i<l.length
  ·have fE:=AM (f:=A6) (ADz hc)
   rw[ADW (by omega),ADW (by omega),AO hc,show(l[i].1,l[i].2.1,l[i].2.2.1,l[i].2.2.2.1,l[i].2.2.2.2.1,l[i].2.2.2.2.2.1,())=l[i]from rfl,nP (by omega)];simp only[ADT];rw[ADW (by simp_all),AG (by omega) (by omega)];rw[show(((i:Nat):Int)+1)=((i+1:Nat):Int)by omega];rw[show(((i:Nat):Int)).toNat=i by omega,HL id hc (0,0,[],[],false,[],()) (y:=(l[i].1,l[i].2.1,l[i].2.2.1,l[i].2.2.2.1,l[i].2.2.2.2.1,l[i].2.2.2.2.2.1,())) rfl];exact gM hw n (i+1) (by omega) (by omega)
  ·rw[AEK (by omega)]
   have:i=l.length:=by omega
   simp_all
theorem kl{l:List An}(hw:AJ A6 l≤2^30):RH l=some (((),()),(l,())):=by
 have hl:=AF (f:=A6) (l:=l);unfold RH SF;rw[ADW (by rw[Ay];omega)];have:=gM hw AL 0 (by omega) (AH (by omega));simp_all
theorem nZ{x:An}(hw:A6 x≤2^30):Tb x x=some ((true,()),()):=by
 grind[A6,Tb,RO,Z9,kY]
theorem ft{l:List An}(hw:AJ A6 l≤2^30):∀(n i:Nat),i≤l.length→l.length-i<n→HO n l l i=some ((true,()),())
 |0,i,_,h=>by omega
 |n+1,i,hi,h=>by
  have hl:=AF (f:=A6) (l:=l);simp only[HO,Ru,AA];by_cases hc:i<l.length
  ·have fE:=AM (f:=A6) (ADz hc)
   rw[ADW (by omega),ADW (by omega),ADW (by omega),AO hc,show(l[i].1,l[i].2.1,l[i].2.2.1,l[i].2.2.2.1,l[i].2.2.2.2.1,l[i].2.2.2.2.2.1,())=l[i]from rfl,nZ (by omega),AG (by omega) (by omega)];simp only[ADT,AEl,AEt];rw[show(((i:Nat):Int)+1)=((i+1:Nat):Int)by omega];exact ft hw n (i+1) (by omega) (by omega)
  grind
theorem lA{l:List An}(hw:AJ A6 l≤2^30):Q0 l l=some ((true,()),()):=by
 have hl:=AF (f:=A6) (l:=l);unfold Q0 Rl;rw[E_,AEK (by simp)];grind[ft,AL,AH]
abbrev Az:Type:=Int×Int×List UInt8×Unit
abbrev bZ:Go.Fw.Ty:= .cons (.int .i64) (.cons (.int .i64) (.cons .str (.unit)))
def Av(x:Az):Nat:=x.2.2.1.length
theorem lJ{x:Az}{k:Int}(hv:Go.Fw.Vd bZ x)(h0:0≤k)(h1:k≤2^21):∃r:Int,M5 x k=some ((r,()),())∧(r<0∨(0≤r∧r+Av x≤k)):=by
 unfold M5 Av;have l1:List.length x.2.2.1≤2^63-1:=hv.2.2.1;simp only[AA,ADT];rw[AG (x:=k-_) (by omega) (by omega)];grind
theorem VV{l:List Az}(hl:l.length≤2^40)(hv:∀e∈l,Go.Fw.Vd bZ e):∀(n i:Nat) (k:Int),i≤l.length→l.length-i<n→0≤k→k+(l.length-i:Nat)≤2^21→
  ∃r:Int,Df n l k i=some ((r,()),())∧(r<0∨(0≤r∧r+(AJ Av (l.drop i):Nat)≤k+(l.length-i:Nat)))
 |0,_,_,_,h,_,_=>by omega
 |n+1,i,k,hi,h,h0,h1=>by
  simp only[Df,J1,AA];by_cases hc:i<l.length
  ·rw[ADW (by omega),ADW (by omega),AO hc,Hk hc]
   obtain⟨r1,e1,s1⟩:=lJ (hv _ (ADz hc)) h0 (by omega);rw[show(l[i].1,l[i].2.1,l[i].2.2.1,())=l[i]from rfl,e1];simp only[ADT];by_cases hr:r1<0
   ·simp_all
   ·rw[AEK hr,AG (by omega) (by omega),show((i:Int)+1)=((i+1:Nat):Int)by omega]
    obtain⟨r,e2,s2⟩:=VV hl hv n (i+1) r1 (by omega) (by omega) (by omega) (by omega);grind
  ·rw[AEK (by omega),J8 (by omega)]
   simp_all
theorem jM{l:List Az}{k:Int}(hv:Go.Fw.Vd (.sl bZ) l)(h0:0≤k)(h1:k≤2^21):∃r:Int,OZ l k=some ((r,()),())∧(r<0∨(0≤r∧r+AJ Av l≤k)):=by
 have hl:l.length≤2^63-1:=hv.1;unfold OZ QV;rw[AG (by omega) (by omega)];simp only[AA];split
 ·simp_all
 ·obtain⟨r,e,s⟩:=VV (l:=l) (by omega) hv.2 AL 0 (k-l.length) (by omega) (AH (by omega)) (by omega) (by omega)
  simp_all
theorem kz{x:Az}(hw:Av x≤2^30):RG x=some (((x.1,x.2.1,x.2.2.1,()),()),()):=by
 rfl
theorem VX{l:List Az}(hw:AJ Av l≤2^30):∀(n i:Nat),i≤l.length→l.length-i<n→
  Dh n l i ((l.map id).take i++List.replicate (l.length-i) (0,0,[],()))=some (((),()),(l,()))
 |0,i,_,h=>by omega
 |n+1,i,hi,h=>by
  have hl:=AF (f:=Av) (l:=l);simp only[Dh,Jq,AA];by_cases hc:i<l.length
  ·have fE:=AM (f:=Av) (ADz hc)
   rw[ADW (by omega),ADW (by omega),AO hc,show(l[i].1,l[i].2.1,l[i].2.2.1,())=l[i]from rfl,kz (by omega)];simp only[ADT];rw[ADW (by simp_all),AG (by omega) (by omega)];rw[show(((i:Nat):Int)+1)=((i+1:Nat):Int)by omega];rw[show(((i:Nat):Int)).toNat=i by omega,HL id hc (0,0,[],()) (y:=(l[i].1,l[i].2.1,l[i].2.2.1,())) rfl];exact VX hw n (i+1) (by omega) (by omega)
  ·rw[AEK (by omega)]
   have:i=l.length:=by omega
   simp_all
theorem jY{l:List Az}(hw:AJ Av l≤2^30):Og l=some (((),()),(l,())):=by
 have hl:=AF (f:=Av) (l:=l);unfold Og QB;rw[ADW (by rw[Ay];omega)];have:=VX hw AL 0 (by omega) (AH (by omega));simp_all
theorem kZ{x:Az}(hw:Av x≤2^30):JY x x=some ((true,()),()):=by
 grind[Av,JY]
theorem VH{l:List Az}(hw:AJ Av l≤2^30):∀(n i:Nat),i≤l.length→l.length-i<n→Dc n l l i=some ((true,()),())
 |0,i,_,h=>by omega
 |n+1,i,hi,h=>by
  have hl:=AF (f:=Av) (l:=l);simp only[Dc,Ju,AA];by_cases hc:i<l.length
  ·have fE:=AM (f:=Av) (ADz hc)
   rw[ADW (by omega),ADW (by omega),ADW (by omega),AO hc,show(l[i].1,l[i].2.1,l[i].2.2.1,())=l[i]from rfl,kZ (by omega),AG (by omega) (by omega)];simp only[ADT,AEl,AEt];rw[show(((i:Nat):Int)+1)=((i+1:Nat):Int)by omega];exact VH hw n (i+1) (by omega) (by omega)
  grind
theorem jg{l:List Az}(hw:AJ Av l≤2^30):OA l l=some ((true,()),()):=by
 have hl:=AF (f:=Av) (l:=l);unfold OA QK;rw[E_,AEK (by simp)];grind[VH,AL,AH]
abbrev Ab:Type:=Int×Int×List Az×Unit
abbrev Yz:Go.Fw.Ty:= .cons (.int .i64) (.cons (.int .i64) (.cons (.sl bZ) (.unit)))
def AY(x:Ab):Nat:=AJ Av x.2.2.1
theorem j0{x:Ab}{k:Int}(hv:Go.Fw.Vd Yz x)(h0:0≤k)(h1:k≤2^21):∃r:Int,Od x k=some ((r,()),())∧(r<0∨(0≤r∧r+AY x≤k)):=by
 unfold Od AY;obtain⟨k1,e1,s1⟩:=jM (l:=x.2.2.1) hv.2.2.1 (k:=k) (by omega) (by omega);grind
theorem aD{l:List Ab}(hl:l.length≤2^40)(hv:∀e∈l,Go.Fw.Vd Yz e):∀(n i:Nat) (k:Int),i≤l.length→l.length-i<n→0≤k→k+(l.length-i:Nat)≤2^21→
  ∃r:Int,Fu n l k i=some ((r,()),())∧(r<0∨(0≤r∧r+(AJ AY (l.drop i):Nat)≤k+(l.length-i:Nat)))
 |0,_,_,_,h,_,_=>by omega
 |n+1,i,k,hi,h,h0,h1=>by
  simp only[Fu,O0,AA];by_cases hc:i<l.length
  ·rw[ADW (by omega),ADW (by omega),AO hc,Hk hc]
   obtain⟨r1,e1,s1⟩:=j0 (hv _ (ADz hc)) h0 (by omega);rw[show(l[i].1,l[i].2.1,l[i].2.2.1,())=l[i]from rfl,e1];simp only[ADT];by_cases hr:r1<0
   ·simp_all
   ·rw[AEK hr,AG (by omega) (by omega),show((i:Int)+1)=((i+1:Nat):Int)by omega]
    obtain⟨r,e2,s2⟩:=aD hl hv n (i+1) r1 (by omega) (by omega) (by omega) (by omega);grind
  ·rw[AEK (by omega),J8 (by omega)]
   simp_all
theorem iL{l:List Ab}{k:Int}(hv:Go.Fw.Vd (.sl Yz) l)(h0:0≤k)(h1:k≤2^21):∃r:Int,MM l k=some ((r,()),())∧(r<0∨(0≤r∧r+AJ AY l≤k)):=by
 have hl:l.length≤2^63-1:=hv.1;unfold MM PQ;rw[AG (by omega) (by omega)];simp only[AA];split
 ·simp_all
 ·obtain⟨r,e,s⟩:=aD (l:=l) (by omega) hv.2 AL 0 (k-l.length) (by omega) (AH (by omega)) (by omega) (by omega)
  simp_all
theorem jf{x:Ab}(hw:AY x≤2^30):OS x=some (((x.1,x.2.1,(),()),()),(x.2.2.1,())):=by
 grind[AY,OS,jY]
theorem Z6{l:List Ab}(hw:AJ AY l≤2^30):∀(n i:Nat),i≤l.length→l.length-i<n→
  FX n l i ((l.map id).take i++List.replicate (l.length-i) (0,0,[],()))=some (((),()),(l,()))
 |0,i,_,h=>by omega
 |n+1,i,hi,h=>by
  have hl:=AF (f:=AY) (l:=l);simp only[FX,PS,AA];by_cases hc:i<l.length
  ·have fE:=AM (f:=AY) (ADz hc)
   rw[ADW (by omega),ADW (by omega),AO hc,show(l[i].1,l[i].2.1,l[i].2.2.1,())=l[i]from rfl,jf (by omega)];simp only[ADT];rw[ADW (by simp_all),AG (by omega) (by omega)];rw[show(((i:Nat):Int)+1)=((i+1:Nat):Int)by omega];rw[show(((i:Nat):Int)).toNat=i by omega,HL id hc (0,0,[],()) (y:=(l[i].1,l[i].2.1,l[i].2.2.1,())) rfl];exact Z6 hw n (i+1) (by omega) (by omega)
  ·rw[AEK (by omega)]
   have:i=l.length:=by omega
   simp_all
theorem gg{l:List Ab}(hw:AJ AY l≤2^30):Mc l=some (((),()),(l,())):=by
 have hl:=AF (f:=AY) (l:=l);unfold Mc Ou;rw[ADW (by rw[Ay];omega)];have:=Z6 hw AL 0 (by omega) (AH (by omega));simp_all
theorem jv{x:Ab}(hw:AY x≤2^30):OY x x=some ((true,()),()):=by
 grind[AY,OY,jg]
theorem Zx{l:List Ab}(hw:AJ AY l≤2^30):∀(n i:Nat),i≤l.length→l.length-i<n→Fi n l l i=some ((true,()),())
 |0,i,_,h=>by omega
 |n+1,i,hi,h=>by
  have hl:=AF (f:=AY) (l:=l);simp only[Fi,O8,AA];by_cases hc:i<l.length
  ·have fE:=AM (f:=AY) (ADz hc)
   rw[ADW (by omega),ADW (by omega),ADW (by omega),AO hc,show(l[i].1,l[i].2.1,l[i].2.2.1,())=l[i]from rfl,jv (by omega),AG (by omega) (by omega)];simp only[ADT,AEl,AEt];rw[show(((i:Nat):Int)+1)=((i+1:Nat):Int)by omega];exact Zx hw n (i+1) (by omega) (by omega)
  grind
theorem im{l:List Ab}(hw:AJ AY l≤2^30):L4 l l=some ((true,()),()):=by
 have hl:=AF (f:=AY) (l:=l);unfold L4 PB;rw[E_,AEK (by simp)];grind[Zx,AL,AH]
abbrev A0:Type:=Int×Bool×Int×Int×Bool×List UInt8×Unit
abbrev BK:Type:=Int×List UInt8×Bool×Unit
abbrev gv:Go.Fw.Ty:= .cons (.int .i64) (.cons .str (.cons .bool (.unit)))
def Bo(x:BK):Nat:=x.2.1.length
theorem nK{x:BK}{k:Int}(hv:Go.Fw.Vd gv x)(h0:0≤k)(h1:k≤2^21):∃r:Int,Tr x k=some ((r,()),())∧(r<0∨(0≤r∧r+Bo x≤k)):=by
 unfold Tr Bo;have l1:List.length x.2.1≤2^63-1:=hv.2.1;simp only[AA,ADT];rw[AG (x:=k-_) (by omega) (by omega)];grind
theorem fx{l:List BK}(hl:l.length≤2^40)(hv:∀e∈l,Go.Fw.Vd gv e):∀(n i:Nat) (k:Int),i≤l.length→l.length-i<n→0≤k→k+(l.length-i:Nat)≤2^21→
  ∃r:Int,Hc n l k i=some ((r,()),())∧(r<0∨(0≤r∧r+(AJ Bo (l.drop i):Nat)≤k+(l.length-i:Nat)))
 |0,_,_,_,h,_,_=>by omega
 |n+1,i,k,hi,h,h0,h1=>by
  simp only[Hc,SA,AA];by_cases hc:i<l.length
  ·rw[ADW (by omega),ADW (by omega),AO hc,Hk hc]
   obtain⟨r1,e1,s1⟩:=nK (hv _ (ADz hc)) h0 (by omega);rw[show(l[i].1,l[i].2.1,l[i].2.2.1,())=l[i]from rfl,e1];simp only[ADT];by_cases hr:r1<0
   ·simp_all
   ·rw[AEK hr,AG (by omega) (by omega),show((i:Int)+1)=((i+1:Nat):Int)by omega]
    obtain⟨r,e2,s2⟩:=fx hl hv n (i+1) r1 (by omega) (by omega) (by omega) (by omega);grind
  ·rw[AEK (by omega),J8 (by omega)]
   simp_all
theorem kM{l:List BK}{k:Int}(hv:Go.Fw.Vd (.sl gv) l)(h0:0≤k)(h1:k≤2^21):∃r:Int,Qr l k=some ((r,()),())∧(r<0∨(0≤r∧r+AJ Bo l≤k)):=by
 have hl:l.length≤2^63-1:=hv.1;unfold Qr Sd;rw[AG (by omega) (by omega)];simp only[AA];split
 ·simp_all
 ·obtain⟨r,e,s⟩:=fx (l:=l) (by omega) hv.2 AL 0 (k-l.length) (by omega) (AH (by omega)) (by omega) (by omega)
  simp_all
theorem nY{x:BK}(hw:Bo x≤2^30):WK x=some (((x.1,x.2.1,x.2.2.1,()),()),()):=by
 rfl
theorem fo{l:List BK}(hw:AJ Bo l≤2^30):∀(n i:Nat),i≤l.length→l.length-i<n→
  HU n l i ((l.map id).take i++List.replicate (l.length-i) (0,[],false,()))=some (((),()),(l,()))
 |0,i,_,h=>by omega
 |n+1,i,hi,h=>by
  have hl:=AF (f:=Bo) (l:=l);simp only[HU,SG,AA];by_cases hc:i<l.length
  ·have fE:=AM (f:=Bo) (ADz hc)
   rw[ADW (by omega),ADW (by omega),AO hc,show(l[i].1,l[i].2.1,l[i].2.2.1,())=l[i]from rfl,nY (by omega)];simp only[ADT];rw[ADW (by simp_all),AG (by omega) (by omega)];rw[show(((i:Nat):Int)+1)=((i+1:Nat):Int)by omega];rw[show(((i:Nat):Int)).toNat=i by omega,HL id hc (0,[],false,()) (y:=(l[i].1,l[i].2.1,l[i].2.2.1,())) rfl];exact fo hw n (i+1) (by omega) (by omega)
  ·rw[AEK (by omega)]
   have:i=l.length:=by omega
   simp_all
theorem ly{l:List BK}(hw:AJ Bo l≤2^30):RJ l=some (((),()),(l,())):=by
 have hl:=AF (f:=Bo) (l:=l);unfold RJ Rs;rw[ADW (by rw[Ay];omega)];have:=fo hw AL 0 (by omega) (AH (by omega));simp_all
theorem nO{x:BK}(hw:Bo x≤2^30):TP x x=some ((true,()),()):=by
 grind[Bo,TP]
theorem fj{l:List BK}(hw:AJ Bo l≤2^30):∀(n i:Nat),i≤l.length→l.length-i<n→HY n l l i=some ((true,()),())
 |0,i,_,h=>by omega
 |n+1,i,hi,h=>by
  have hl:=AF (f:=Bo) (l:=l);simp only[HY,SU,AA];by_cases hc:i<l.length
  ·have fE:=AM (f:=Bo) (ADz hc)
   rw[ADW (by omega),ADW (by omega),ADW (by omega),AO hc,show(l[i].1,l[i].2.1,l[i].2.2.1,())=l[i]from rfl,nO (by omega),AG (by omega) (by omega)];simp only[ADT,AEl,AEt];rw[show(((i:Nat):Int)+1)=((i+1:Nat):Int)by omega];exact fj hw n (i+1) (by omega) (by omega)
  grind
theorem ki{l:List BK}(hw:AJ Bo l≤2^30):Qs l l=some ((true,()),()):=by
 have hl:=AF (f:=Bo) (l:=l);unfold Qs Rt;rw[E_,AEK (by simp)];grind[fj,AL,AH]
abbrev AE:Type:=List Int×Int×List AQ×List Int×List CN×Int×List AR×List An×List Ab×List BK×Bool×Unit
abbrev VQ:Go.Fw.Ty:= .cons (.sl (.int .i64)) (.cons (.int .i64) (.cons (.sl bd) (.cons (.sl (.int .i64)) (.cons (.sl cg) (.cons (.int .i64) (.cons (.sl Us) (.cons (.sl iV) (.cons (.sl Yz) (.cons (.sl gv) (.cons .bool (.unit)))))))))))
def Bk(x:AE):Nat:=x.1.length+AJ Aa x.2.2.1+x.2.2.2.1.length+AJ BS x.2.2.2.2.1+AJ AS x.2.2.2.2.2.2.1+AJ A6 x.2.2.2.2.2.2.2.1+AJ AY x.2.2.2.2.2.2.2.2.1+AJ Bo x.2.2.2.2.2.2.2.2.2.1
theorem lW{x:AE}{k:Int}(hv:Go.Fw.Vd VQ x)(h0:0≤k)(h1:k≤2^21):∃r:Int,Qm x k=some ((r,()),())∧(r<0∨(0≤r∧r+Bk x≤k)):=by
 unfold Qm Bk;obtain⟨k1,e1,s1⟩:=jG (x:=(x.1,x.2.1,())) ⟨hv.1,hv.2.1,trivial⟩ (k:=k) (by omega) (by omega);rw[e1];simp only[ADT,AA];by_cases r1:k1<0
 ·simp_all
 rw[AEK r1];obtain⟨k2,e2,s2⟩:=jS (l:=x.2.2.1) hv.2.2.1 (k:=k1) (by omega) (by omega);rw[e2];simp only[ADT,AA];by_cases r2:k2<0
 ·simp_all
 rw[AEK r2];obtain⟨k3,e3,s3⟩:=RS (l:=x.2.2.2.1) hv.2.2.2.1 (k:=k2) (by omega) (by omega);rw[e3];simp only[ADT,AA];by_cases r3:k3<0
 ·simp_all
 rw[AEK r3];obtain⟨k4,e4,s4⟩:=ea (x:=(x.2.2.2.2.1,x.2.2.2.2.2.1,())) ⟨hv.2.2.2.2.1,hv.2.2.2.2.2.1,trivial⟩ (k:=k3) (by omega) (by omega);rw[e4];simp only[ADT,AA];by_cases r4:k4<0
 ·simp_all
 rw[AEK r4];obtain⟨k5,e5,s5⟩:=iN (l:=x.2.2.2.2.2.2.1) hv.2.2.2.2.2.2.1 (k:=k4) (by omega) (by omega);rw[e5];simp only[ADT,AA];by_cases r5:k5<0
 ·simp_all
 rw[AEK r5];obtain⟨k6,e6,s6⟩:=ll (l:=x.2.2.2.2.2.2.2.1) hv.2.2.2.2.2.2.2.1 (k:=k5) (by omega) (by omega);rw[e6];simp only[ADT,AA];by_cases r6:k6<0
 ·simp_all
 rw[AEK r6];obtain⟨k7,e7,s7⟩:=iL (l:=x.2.2.2.2.2.2.2.2.1) hv.2.2.2.2.2.2.2.2.1 (k:=k6) (by omega) (by omega);rw[e7];simp only[ADT,AA];by_cases r7:k7<0
 ·simp_all
 rw[AEK r7];obtain⟨k8,e8,s8⟩:=kM (l:=x.2.2.2.2.2.2.2.2.2.1) hv.2.2.2.2.2.2.2.2.2.1 (k:=k7) (by omega) (by omega);rw[e8];simp only[ADT,AA];by_cases r8:k8<0
 ·simp_all
 rw[AEK r8];refine⟨k8,rfl,.inr ⟨by omega,?_⟩⟩;grind[Q4,CE]
theorem ln{x:AE}(hw:Bk x≤2^30):HC x=some ((((),x.2.1,(),(),(),x.2.2.2.2.2.1,(),(),(),(),x.2.2.2.2.2.2.2.2.2.2.1,()),()),(x.1,x.2.2.1,x.2.2.2.1,x.2.2.2.2.1,x.2.2.2.2.2.2.1,x.2.2.2.2.2.2.2.1,x.2.2.2.2.2.2.2.2.1,x.2.2.2.2.2.2.2.2.2.1,())):=by
 unfold Bk at hw;unfold HC;rw[jz (by grind[Q4])];simp only[ADT];rw[jC (by omega)];simp only[ADT];rw[RR (by omega)];simp only[ADT];rw[ey (by grind[CE])];simp only[ADT];grind[gr,kl,gg,ly]
theorem de{x:AE}(hw:Bk x≤2^30):G4 x x=some ((true,()),()):=by
 unfold Bk at hw;unfold G4;grind[jo,Q4,kD,RO,er,CE,gd,lA,im,ki]
abbrev EL:Type:=Int×Int×Int×Int×List UInt8×Unit
end Go.M.H
end
section
namespace Go.M
def CP(p:Nat→Bool)(i:Nat):Nat→Bool
 |0=>true
 |d+1=>p i&&CP p (i+1) d
theorem C0{L:Nat→Int→Option (AAJ×Unit)}{len:Nat}{p:Nat→Bool}{fin:Bool}(h1:∀n (i:Nat),i<len→L (n+1) i=cond (p i) (L n ((i+1:Nat):Int)) (some ((false,()),())))(h2:∀n,L (n+1) (len:Int)=some ((fin,()),())):
  ∀d n i,i+d=len→d<n→L n i=some ((CP p i d&&fin,()),())
 |0,n,i,hd,h=>by
  obtain⟨m,rfl⟩:∃m,n=m+1:=⟨n-1,by omega⟩;have:i=len:=by omega
  subst this;rw[h2];rfl
 |d+1,n,i,hd,h=>by
  obtain⟨m,rfl⟩:∃m,n=m+1:=⟨n-1,by omega⟩;rw[h1 m i (by omega)];simp only[CP];cases p i with
  |false=>rfl
  |true=>rw[AF7,C0 h1 h2 d m (i+1) (by omega) (by omega)];rfl
theorem Mh{p:Nat→Bool}:∀{d i:Nat},CP p i d=true→ ∀j,i≤j→j<i+d→p j=true
 |0,i,_,j,h1,h2=>by omega
 |d+1,i,h,j,h1,h2=>by
  simp only[CP,AEE]at h;by_cases hj:j=i
  ·simp_all
  ·exact Mh h.2 j (by omega) (by omega)
theorem di{p:Nat→Bool}:∀{d i:Nat},(∀j,i≤j→j<i+d→p j=true)→CP p i d=true
 |0,_,_=>rfl
 |d+1,i,h=>by
  simp only[CP,AEE];exact⟨h i (by omega) (by omega),di fun j h1 h2=>h j (by omega) (by omega)⟩
def VU(x:Int):Int:=x.tdiv 4294967296
def BO(x:Int):Bool:=BQ (VU x) 1 30&&BQ (x.tmod 4294967296) 1 60
def Ar(x:Int):Int:=if BO x then VU x else 0
theorem YE{x:Int}(h: -9223372036854775808≤x∧x<9223372036854775808):AX (x.tdiv 4294967296)=VU x:=by
 grind[VU,AG,Int.lt_or_le,Int.neg_tdiv,Int.tdiv_eq_ediv_of_nonneg]
theorem aR{x:Int}(h:BO x=true):0<x∧x<2^40:=by
 simp only[BO,BQ,AEE,AEe]at h;grind[VU,Int.lt_or_le,Int.neg_tdiv,Int.tdiv_eq_ediv_of_nonneg,Int.tmod_eq_emod_of_nonneg]
def Hd(x:Int):Prop:= -9223372036854775808≤x∧x<9223372036854775808
theorem HZ{x:Int}(h:Hd x):Ff x=some ((BO x,()),()):=by
 unfold Ff;rw[YE h,AA];split
 ·grind[Ba,BO,BQ,VU]
 ·rename_i h0
  rcases AE8 (BO x)with hp|hp
  ·exact absurd (aR hp).1 (by omega)
  ·rw[hp]
theorem P0{x:Int}(h:Hd x):CJ x=some ((BO x,()),()):=by
 unfold CJ Dk SN;rw[YE h];grind[A_,BO,BQ,VU]
theorem HW{x:Int}(h:Hd x):Ft x=some ((Ar x,()),()):=by
 unfold Ft Ar;rw[HZ h,YE h];grind
theorem FL{x:Int}(h:Hd x):EU x=some ((Ar x,()),()):=by
 unfold EU Ar;rw[P0 h,YE h];grind
theorem XM{x:Int}:(BO x=true→1≤Ar x∧Ar x≤30)∧(BO x=false→Ar x=0):=by
 constructor
 ·intro h
  rw[Ar,ADW h];simp only[BO,BQ,AEE,AEe]at h;omega
 grind[Ar]
def gq(l:AAA)(hi:Int)(i:Nat):Bool:=BQ (l.getD i 0) 0 hi&&(i==0||decide (l.getD (i-1) 0<l.getD i 0))
def fR(l:AAA)(hi:Int):Bool:=CP (gq l hi) 0 l.length
theorem fB{l:AAA}{hi:Int}(hl:l.length≤2^40):U_ l 0 hi=some ((fR l hi,()),()):=by
 unfold U_ UU fR;rw[←AGX (CP _ _ _)];refine C0 (L:=fun n i=>Hl n l 0 hi i) (len:=l.length) (p:=gq l hi) (fin:=true) (fun n i LH=> ?_) (fun n=> ?_) l.length AL 0 (by omega) (AH (by omega))
 ·simp only[Hl,Nu,AA]
  rw[ADW (by omega),ADW (by omega),Ba,AG (x:=(i:Int)+1) (by omega) (by omega)];simp only[ADT,AEA,gq];cases BQ (l.getD i 0) 0 hi with
  |false=>rfl
  |true=>
   simp only[AEl,AEt,AFd];by_cases h0:i=0
   ·simp_all
   ·rw[ADW (by omega),AG (by omega) (by omega),ADW (by omega),ADW (by omega)]
    have h1:((i:Int)-1).toNat=i-1:=by omega
    have h2:(i==0)=false:=by simp_all
    rw[h1,h2,AGM];grind
 ·simp only[Hl,Nu,AA]
  simp_all
theorem ah{l:AAA}{hi:Int}(hl:l.length≤2^40):RI l hi=some ((fR l hi,()),()):=by
 unfold RI RY fR;rw[←AGX (CP _ _ _)];refine C0 (L:=fun n i=>FQ n l hi l l.length i) (len:=l.length) (p:=gq l hi) (fin:=true) (fun n i LH=> ?_) (fun n=> ?_) l.length AL 0 (by omega) (AH (by omega))
 ·simp only[FQ,Ku,AA]
  rw[ADW (by omega),ADW (by omega),A_,AG (x:=(i:Int)+1) (by omega) (by omega)];simp only[ADT,AEA,gq];cases BQ (l.getD i 0) 0 hi with
  |false=>rfl
  |true=>
   simp only[AEl,AEt,AFd];by_cases h0:i=0
   ·simp_all
   ·rw[ADW (by omega),AG (by omega) (by omega),ADW (by omega)]
    have h1:((i:Int)-1).toNat=i-1:=by omega
    have h2:(i==0)=false:=by simp_all
    rw[h1,h2,AGM];grind
 ·simp only[FQ,Ku,AA]
  simp_all
theorem jW{l:AAA}{hi:Int}(h:fR l hi=true):∀x∈l,0≤x∧x≤hi:=fun x hx=>by
 obtain⟨i,LH,rfl⟩:=AGD hx;have:=Mh h i (by omega) (by omega);simp only[gq,BQ,AEE,AEe]at this;simp_all
theorem mY{l:AAA}{hi:Int}(h:fR l hi=true):∀i,i<l.length→(i:Int)≤l.getD i 0
 |0,hl=>by
  have:=Mh h 0 (by omega) (by omega);simp only[gq,BQ,AEE,AEe]at this;omega
 |i+1,hl=>by
  have h1:=mY h i (by omega);have:=Mh h (i+1) (by omega) (by omega);simp only[gq,AEE,AGH,AEe]at this;grind
theorem pg{l:AAA}{hi:Int}(h:fR l hi=true)(h0:0≤hi+1):(l.length:Int)≤hi+1:=by
 by_cases hl:l.length=0
 ·omega
 ·have h1:=mY h (l.length-1) (by omega)
  have h2:=jW h (l.getD (l.length-1) 0) (by
   grind)
  omega
def Ak(c:List Int×Int×Unit)(l:AAA):Bool:=Ee c&&fR l ((c.1.length:Int)-1)
theorem EJ{c:List Int×Int×Unit}{l:AAA}(hc:c.1.length≤2^40)(hl:l.length≤2^40):Di c l=some ((Ak c l,()),()):=by
 unfold Di Ak;rw[show(c.1,c.2.1,())=c from rfl,Gg hc,AG (by omega) (by omega)];simp only[ADT];cases Ee c with
 |false=>rfl
 |true=>
  rw[AF7,fB hl];rfl
theorem CW{c:List Int×Int×Unit}{l:AAA}(hc:c.1.length≤2^40)(hl:l.length≤2^40):CI c l=some ((Ak c l,()),()):=by
 unfold CI Ak;rw[show(c.1,c.2.1,())=c from rfl,Ga hc,AG (by omega) (by omega)];simp only[ADT];cases Ee c with
 |false=>rfl
 |true=>
  rw[AF7,ah hl];rfl
theorem YN{c:List Int×Int×Unit}{l:AAA}(h:Ak c l=true):Ee c=true∧c.1.length≤8∧l.length≤8∧(∀x∈l,0≤x∧x<c.1.length)∧ ∀d∈c.1,0≤d∧d≤7:=by
 simp only[Ak,AEE]at h;obtain⟨k1,k2,k3,k4,k5⟩:=NT h.1;have h1:=pg h.2 (by omega);exact⟨h.1,k2,by omega,fun x hx=>by have:=jW h.2 x hx;omega,k5⟩
theorem mA{l:AAA}{x:Int}(hl:l.length≤2^40):∀(n i:Nat),i≤l.length→l.length-i<n→(∀y∈l.take i,y≠x)→
  ∃r:Int,Cv n l x l.length i=some ((r,()),())∧decide (r≥0)=l.contains x
 |0,_,_,h,_=>by omega
 |n+1,i,hi,h,hx=>by
  simp only[Cv,I6,AA];by_cases hc:i<l.length
  ·rw[ADW (by omega),ADW (by omega),AO hc,AG (by omega) (by omega)]
   by_cases he:x=l[i]
   ·simp_all
   ·obtain⟨r,e1,e2⟩:=mA hl n (i+1) (by omega) (by omega) (fun y hy=>by
     rw[AGh hc]at hy;rcases AFt.1 hy with hy|hy
     ·exact hx y hy
     grind)
    grind
  ·rw[AEK (by omega)]
   grind
theorem PA{l:AAA}{x:Int}(hl:l.length≤2^40):Bm l x=some ((l.contains x,()),()):=by
 unfold Bm Ie IW;obtain⟨r,e1,e2⟩:=mA (x:=x) hl AL 0 (by omega) (AH (by omega)) (by simp);simp_all
def jk(c:AAA):List Int→List Int→List Int
 |[],acc=>acc
 |n::l,acc=>jk c l (if acc.contains (c.getD n.toNat 0)then acc else acc++[c.getD n.toNat 0])
def ZG(c:AAA)(l:AAA):Nat:=(jk c l []).length
theorem T3{c:AAA}{q:Int}{l:AAA}(hl:l.length≤8)(hm:∀x∈l,0≤x∧x<c.length):∀(n i:Nat) (acc:AAA),i≤l.length→l.length-i<n→acc.length≤i→
  IV n l l.length i c q acc=some ((((jk c (l.drop i) acc).length:Int),()),())
 |0,i,_,_,h,_=>by omega
 |n+1,i,acc,hi,h,ha=>by
  simp only[IV,TY,AA];by_cases hc:i<l.length
  ·have hx:=hm _ (ADz hc)
   rw[ADW (by omega),ADW (by omega),AO hc,drop_cons hc]
   generalize l[i]=x at hx
   rw[ADW (by omega),PA (by omega),AG (by omega) (by omega),show((i:Int)+1)=((i+1:Nat):Int)by omega];simp only[ADT,jk];cases xV:acc.contains (c.getD x.toNat 0)with
   |true=>
    simp only[AEl,AEt,AGF];exact T3 hl hm n (i+1) acc (by omega) (by omega) (by omega)
   |false=>
    simp only[AGg,AF7,AFZ,AFg];rw[ADW (by omega),ADW (by rw[Ay];omega)];exact T3 hl hm n (i+1) _ (by omega) (by omega) (by simp_all)
  ·rw[AEK (by omega)]
   grind[jk]
theorem bg{c:List Int×Int×Unit}{l:AAA}(hc:c.1.length≤2^40)(hl:l.length≤2^40):TB c l=some ((if Ak c l then(ZG c.1 l:Int)else-1,()),()):=by
 unfold TB TW;rw[show(c.1,c.2.1,())=c from rfl,CW hc hl];simp only[ADT];cases h:Ak c l with
 |false=>rfl
 |true=>
  obtain⟨k1,k2,k3,k4,k5⟩:=YN h;grind[T3,AL,AH,ZG]
theorem lD{s:List Bool}{k j:Nat}{b:Bool}(h:k<s.length):(s.set k b).getD j false=if k=j then b else s.getD j false:=by
 grind
theorem T6{c:AAA}{q:Int}{l:AAA}(hl:l.length≤8)(hd:∀d∈c,0≤d∧d≤7)(hm:∀x∈l,0≤x∧x<c.length):∀(n i:Nat) (acc:AAA) (s:List Bool),i≤l.length→l.length-i<n→acc.length≤i→s.length=8→
  (∀j:Nat,j<8→s.getD j false=acc.contains (j:Int))→
  Ip n l acc.length i c q s=some ((((jk c (l.drop i) acc).length:Int),()),())
 |0,i,_,_,_,h,_,_,_=>by omega
 |n+1,i,acc,s,hi,h,ha,hs,hj=>by
  simp only[Ip,S8,AA];by_cases hc:i<l.length
  ·have hx:=hm _ (ADz hc)
   rw[ADW (by omega),ADW (by omega),AO hc,drop_cons hc]
   generalize l[i]=x at hx
   rw[ADW (by omega)];have AEM:0≤c.getD x.toNat 0∧c.getD x.toNat 0≤7:=by
    simp_all
   simp only[jk]
   generalize c.getD x.toNat 0=d at AEM
   rw[ADW (by omega),AG (x:=(i:Int)+1) (by omega) (by omega),show((i:Int)+1)=((i+1:Nat):Int)by omega];have hsd:s.getD d.toNat false=acc.contains d:=by
    grind
   rw[hsd];cases xV:acc.contains d with
   |true=>
    simp only[AEl,AEt,AGF];exact T6 hl hd hm n (i+1) acc s (by omega) (by omega) (by omega) hs hj
   |false=>
    simp only[AGg,AF7,AFZ,AFg];rw[ADW (by omega),AG (by omega) (by omega)];have:=T6 (q:=q) hl hd hm n (i+1) (acc++[d]) (s.set d.toNat true) (by omega) (by omega) (by simp_all) (by simp_all) (fun j hj8=>by
     rw[lD (by omega),hj j hj8];grind)
    simp_all
  ·rw[AEK (by omega)]
   grind[jk]
theorem Wc{c:List Int×Int×Unit}{l:AAA}(h:Ak c l=true):PV c l=some (((ZG c.1 l:Int),()),()):=by
 obtain⟨k1,k2,k3,k4,k5⟩:=YN h;unfold PV TF;have:=T6 (c:=c.1) (q:=c.2.1) k3 k5 k4 AL 0 [] (List.replicate 8 false) (by omega) (AH (by omega)) (by simp) (by simp) (fun j hj=>by
  grind)
 grind[ZG]
def holds(c:List Int×Int×Unit)(l:AAA):Bool:=Ak c l&&decide ((ZG c.1 l:Int)≥c.2.1)
theorem OX{c:List Int×Int×Unit}{l:AAA}(hc:c.1.length≤2^40)(hl:l.length≤2^40):Kz c l=some ((holds c l,()),()):=by
 unfold Kz holds;rw[show(c.1,c.2.1,())=c from rfl,EJ hc hl];simp only[ADT];cases h:Ak c l with
 |false=>rfl
 |true=>
  rw[AF7,Wc h];rfl
theorem J9{c:List Int×Int×Unit}{l:AAA}(hc:c.1.length≤2^40)(hl:l.length≤2^40):Ib c l=some ((holds c l,()),()):=by
 unfold Ib holds;rw[show(c.1,c.2.1,())=c from rfl,CW hc hl,bg hc hl];simp only[ADT];cases h:Ak c l<;>rfl
theorem aJ{c:List Int×Int×Unit}{l:AAA}(h:holds c l=true):Ak c l=true:=by
 simp only[holds,AEE]at h;exact h.1
end Go.M
end
section
namespace Go.M
open Go.M.H (CN AN BE AR AJ AF AM BS Aq CE AS cg Xr Zg Us)
abbrev Cy:Type:=List Int×Int×Unit
def Na:CN:=([],false,0,())
def cE(c:Cy)(e:CN):Bool:=holds c e.1&&(BQ e.2.2.1 0 60&&(e.2.1||e.2.2.1==0))
theorem eU{c:Cy}{e:CN}(hc:c.1.length≤2^40)(hl:e.1.length≤2^40):Ux c e=some ((cE c e,()),()):=by
 unfold Ux cE;rw[show(c.1,c.2.1,())=c from rfl,J9 hc hl];grind[A_,holds,BQ]
def iT(c:Cy)(l:List CN)(i:Nat):Bool:=
 cE c (l.getD i Na)&& !((l.getD i Na).2.1&&(decide (i+1=l.length)||(decide (0<i)&& !(l.getD (i-1) Na).2.1)))
def Xd(r:AN):Bool:=r.2.1==0||(BO r.2.1&&decide (Ar r.2.1≤r.1.length))
def Si(c:Cy)(r:AN):Bool:=Ee c&&(decide (r.1.length≤30)&&(Xd r&&CP (iT c r.1) 0 r.1.length))
theorem Bt{α:Type}{l:List α}{i:Nat}{d:α}(h:i<l.length):l.getD i d∈l:=by
 simp_all
theorem an{c:Cy}{l:List CN}{tr:Int}(hc:c.1.length≤2^40)(hl:AJ BS l≤2^30):F5 AL l.length 0 c.1 c.2.1 l tr=some ((CP (iT c l) 0 l.length,()),()):=by
 have zW:=AF (f:=BS) (l:=l);rw[←AGX (CP _ _ _)];refine C0 (L:=fun n i=>F5 n l.length i c.1 c.2.1 l tr) (len:=l.length) (p:=iT c l) (fin:=true) (fun n i hi=> ?_) (fun n=> ?_) l.length AL 0 (by omega) (AH (by omega))
 ·have hm:=AM (f:=BS) (Bt (d:=Na) hi)
  simp only[BS]at hm;simp only[F5,Nh,AA];rw[ADW (by omega),ADW (by omega),show(c.1,c.2.1,())=c from rfl,AEA,show(([],false,0,()):CN)=Na from rfl,OX hc (by omega),Ba,AG (x:=(i:Int)+1) (by omega) (by omega),
   AG (x:=(l.length:Int)-1) (by omega) (by omega),AG (x:=(i:Int)-1) (by omega) (by omega),show((i:Int)+1)=((i+1:Nat):Int)by omega]
  simp only[ADT,iT,cE];have e1:((i:Int)==(l.length:Int)-1)=decide (i+1=l.length):=by
   grind
  have e2:(((i:Int)-1).toNat)=i-1:=by omega
  grind
 ·simp only[F5,Nh,AA]
  simp_all
theorem W7{c:Cy}{r:AN}(hc:c.1.length≤2^40)(hl:AJ BS r.1≤2^30)(ht:Hd r.2.1):Sh c r=some ((Si c r,()),()):=by
 unfold Sh UT Si Xd;rw[show(c.1,c.2.1,())=c from rfl,Gg hc,an hc hl,HZ ht,HW ht];grind
theorem XE{c:Cy}{r:AN}(hc:c.1.length≤2^40)(hl:AJ BS r.1≤2^30)(ht:Hd r.2.1):RZ c r=some ((Si c r,()),()):=by
 have zW:=AF (f:=BS) (l:=r.1);have oe:Fz AL r.1 r.1.length 0 c.1 c.2.1 r.1 r.2.1=some ((CP (iT c r.1) 0 r.1.length&&(Ee c&&(decide (r.1.length≤30)&&Xd r)),()),()):=by
  refine C0 (L:=fun n i=>Fz n r.1 r.1.length i c.1 c.2.1 r.1 r.2.1) (len:=r.1.length) (p:=iT c r.1) (fin:=Ee c&&(decide (r.1.length≤30)&&Xd r)) (fun n i hi=> ?_) (fun n=> ?_) r.1.length AL 0 (by omega) (AH (by omega))
  ·have hm:=AM (f:=BS) (Bt (d:=Na) hi)
   simp only[BS]at hm;simp only[Fz,N2,AA];rw[ADW (by omega),ADW (by omega),show(c.1,c.2.1,())=c from rfl,AEA,show(([],false,0,()):CN)=Na from rfl];rw[show((r.1.getD i Na).1,(r.1.getD i Na).2.1,(r.1.getD i Na).2.2.1,())=r.1.getD i Na from rfl,eU hc (by omega),AG (x:=(i:Int)+1) (by omega) (by omega),
    AG (x:=(r.1.length:Int)-1) (by omega) (by omega),AG (x:=(i:Int)-1) (by omega) (by omega),show((i:Int)+1)=((i+1:Nat):Int)by omega]
   simp only[ADT,iT];have e1:((i:Int)==(r.1.length:Int)-1)=decide (i+1=r.1.length):=by
    grind
   have e2:(((i:Int)-1).toNat)=i-1:=by omega
   grind
  ·simp only[Fz,N2]
   rw[show decide ((r.1.length:Int)<(r.1.length:Int))=false by simp,show(c.1,c.2.1,())=c from rfl,Ga hc,FL ht];simp only[AEt,ADT,A_,Xd];have e1:decide ((r.1.length:Int)≤30)=decide (r.1.length≤30):=by
    grind
   rw[e1];have e4:BQ (Ar r.2.1) 1 (r.1.length:Int)=(BO r.2.1&&decide (Ar r.2.1≤(r.1.length:Int))):=by
    have hr:=XM (x:=r.2.1);unfold BQ;grind
   grind
 grind[RZ,Uf,Si,Ee,decide,Xd,CP,iT]
def pe(b:Bool):Int:=if b then 1 else 0
theorem a_(b:Bool):U6 b=some ((pe b,()),()):=by cases b<;>rfl
end Go.M
end
section
namespace Go.M
open Go.M.H (CN AN BE AR AJ AF AM BS Aq CE AS cg Xr Zg Us)
def vx:BE:=([],[],false,())
def VS(c:Cy)(e:BE):Bool:=decide (e.1.length≤40)&&(Ak c e.2.1&&(e.2.2.1==holds c e.2.1))
def YG:List BE→Nat
 |[]=>0
 |e::l=>cond e.2.2.1 0 1+YG l
def le6(n:Nat):Bool:=decide (n≤6)
theorem mF(o:Nat):decide ((o:Int)≤6)=le6 o:=by
 grind[le6]
def Fb(c:Cy)(w:AR):Bool:=Ee c&&(BQ w.1 1 30&&(decide (w.2.1.length≤60)&&(w.2.1.all (VS c)&&le6 (YG w.2.1))))
theorem Vp{c:Cy}{ep:Int}{l:List BE}(hc:c.1.length≤2^40)(hl:AJ Aq l≤2^30):∀(n i o:Nat),i≤l.length→l.length-i<n→o≤i→
  GL n o i c.1 c.2.1 ep l=some (((l.drop i).all (VS c)&&le6 (o+YG (l.drop i)),()),())
 |0,i,_,_,h,_=>by omega
 |n+1,i,o,hi,h,ho=>by
  have zW:=AF (f:=Aq) (l:=l);simp only[GL,QM,AA];by_cases hcc:i<l.length
  ·have hm:=AM (f:=Aq) (ADz hcc)
   rw[ADW (by omega),ADW (by omega),AO hcc,drop_cons hcc];have ih:=fun o=>Vp (ep:=ep) hc hl n (i+1) o (by omega) (by omega)
   generalize l[i]=e at hm
   simp only[Aq]at hm;rw[show(c.1,c.2.1,())=c from rfl,EJ hc (by omega),OX hc (by omega),AG (x:=(i:Int)+1) (by omega) (by omega),AG (x:=(o:Int)+1) (by omega) (by omega),show((i:Int)+1)=((i+1:Nat):Int)by omega,show((o:Int)+1)=((o+1:Nat):Int)by omega];simp only[ADT,AGV,VS,YG];by_cases h40:e.1.length≤40
   ·rw[AEK (by omega),AGZ h40,ih o (by omega),ih (o+1) (by omega)]
    cases Ak c e.2.1 with
    |false=>rfl
    |true=>
     cases hd:e.2.2.1 with
     |true=>
      grind
     |false=>
      grind
   grind
  ·rw[AEK (by omega)]
   grind[YG,mF]
theorem ZJ{c:Cy}{w:AR}(hc:c.1.length≤2^40)(hl:AJ Aq w.2.1≤2^30):Oe c w=some ((Fb c w,()),()):=by
 have zW:=AF (f:=Aq) (l:=w.2.1);unfold Oe QO Fb;have h:=Vp (ep:=w.1) hc hl AL 0 0 (by omega) (AH (by omega)) (by omega);rw[show((0:Nat):Int)=0 from rfl]at h;rw[show(c.1,c.2.1,())=c from rfl,Gg hc,Ba,h];grind
theorem Vv{c:Cy}{ep:Int}{l:List BE}(hc:c.1.length≤2^40)(hl:AJ Aq l≤2^30):∀(n i o:Nat),i≤l.length→l.length-i<n→o≤i→
  Gt n o l l.length i c.1 c.2.1 ep l=some (((l.drop i).all (VS c)&&(Ee c&&(BQ ep 1 30&&(decide (l.length≤60)&&le6 (o+YG (l.drop i))))),()),())
 |0,i,_,_,h,_=>by omega
 |n+1,i,o,hi,h,ho=>by
  have zW:=AF (f:=Aq) (l:=l);simp only[Gt,QJ];by_cases hcc:i<l.length
  ·have hm:=AM (f:=Aq) (ADz hcc)
   rw[show decide ((i:Int)<(l.length:Int))=true by simp_all,AF7,ADW (by omega),AO hcc,drop_cons hcc];have ih:=fun o=>Vv (ep:=ep) hc hl n (i+1) o (by omega) (by omega)
   generalize l[i]=e at hm
   simp only[Aq]at hm;rw[show(c.1,c.2.1,())=c from rfl,CW hc (by omega),J9 hc (by omega),a_,AG (x:=(i:Int)+1) (by omega) (by omega),show((i:Int)+1)=((i+1:Nat):Int)by omega];simp only[ADT,AGV,VS,YG,Cz];have e40:decide ((e.1.length:Int)≤40)=decide (e.1.length≤40):=by
    grind
   rw[e40];cases hd:e.2.2.1 with
   |true=>
    rw[show AX ((o:Int)+pe (!true))=(o:Int)by rw[AEl,show pe false=0 from rfl,Int.add_zero,AG (by omega) (by omega)],ih o (by omega)];grind
   |false=>
    rw[show AX ((o:Int)+pe (!false))=((o+1:Nat):Int)by rw[AGg,show pe true=1 from rfl,AG (by omega) (by omega)];omega,ih (o+1) (by omega)];grind
  ·have:i=l.length:=by omega
   subst this;rw[show decide (((l.length:Nat):Int)<(l.length:Int))=false by simp,show(c.1,c.2.1,())=c from rfl,Ga hc];simp only[AEt,ADT,Dk,A_,List.drop_length,List.all_nil,YG,AGo,AFd];grind[decide,mF,Ee,BQ]
theorem ZL{c:Cy}{w:AR}(hc:c.1.length≤2^40)(hl:AJ Aq w.2.1≤2^30):OG c w=some ((Fb c w,()),()):=by
 have zW:=AF (f:=Aq) (l:=w.2.1);unfold OG QN Fb;have h:=Vv (ep:=w.1) hc hl AL 0 0 (by omega) (AH (by omega)) (by omega);grind
theorem e_{c:Cy}{w:AR}(h:Fb c w=true):Ee c=true∧(1≤w.1∧w.1≤30)∧w.2.1.length≤60∧ ∀e∈w.2.1,VS c e=true:=by
 simp only[Fb,BQ,AEE,AEe,AGT]at h;simp_all
end Go.M
end
section
namespace Go.M
open Go.M.H (AK AQ An BK AE CN AN BE AR Ab Az AJ AF AM Ag Aa A6 Bo Bk BS Aq CE AS AY Av)
theorem uy(a b:Int):decide (a≤b)= !decide (b<a):=by
 grind
theorem ACe(n k:Nat):decide ((n:Int)≤(k:Int))=decide (n≤k):=by
 simp_all
theorem mU(n k:Nat):decide ((n:Int)>(k:Int))= !decide (n≤k):=by
 grind
def J7(x:Int):Int:=cond (BO x) (x.tmod 4294967296) 0
theorem XG{x:Int}(h:Hd x):Re x=some ((J7 x,()),()):=by
 grind[Re,J7,HZ,BO]
theorem UO{x:Int}(h:Hd x):Nz x=some ((J7 x,()),()):=by
 grind[Nz,J7,P0,BO]
abbrev B3:AK:=(0,0,false,[],())
def DL(e:AK):Bool:=BO e.1&&(BQ e.2.1 0 30&&((!decide (e.2.1>0)||decide (Ar e.1<e.2.1))&&(decide (e.2.2.2.1.length≤40)&&(!e.2.2.1||(decide (e.2.1>0)&&e.2.2.2.1==[])))))
theorem P1{e:AK}(h:Hd e.1):JW e=some ((DL e,()),()):=by
 unfold JW DL;grind[HZ,Ba,HW,uy,Ar,decide,mU,BO,BQ]
theorem ACt{x:Int}(h:BQ x 0 30=true):(x==0)= !decide (x>0):=by
 simp only[BQ,AEe]at h;grind
theorem Pv{e:AK}(h:Hd e.1):JJ e=some ((DL e,()),()):=by
 unfold JJ DL Cz;rw[P0 h,A_,FL h];simp only[ADT];rw[show decide ((e.2.2.2.1.length:Int)≤40)=decide (e.2.2.2.1.length≤40)from ACe _ 40,show decide (e.2.1>Ar e.1)=decide (Ar e.1<e.2.1)from rfl];rcases AE8 (BQ e.2.1 0 30)with hi|hi
 all_goals grind[ACt,BO,decide,Ar]
def Rf(l:List AK):Bool:=CP (fun i=>DL (l.getD i B3)) 0 l.length
def YW(l:List AK):Bool:=CP (fun i=>i==0||decide ((l.getD (i-1) B3).1<(l.getD i B3).1)) 0 l.length
def mZ(l:List AK):Prop:= ∀e∈l,Hd e.1
theorem mZ.getD{l:List AK}(h:mZ l){i:Nat}(hi:i<l.length):Hd (l.getD i B3).1:=h _ (Bt hi)
theorem V_{l:List AK}{k:Nat}(hl:l.length≤2^40)(h:mZ l):O2 l k=some ((decide (l.length≤k)&&Rf l,()),()):=by
 unfold O2 TH;have:=C0 (L:=fun n i=>Gr n l i) (len:=l.length) (p:=fun i=>DL (l.getD i B3)) (fin:=true) (fun n i hi=>by
  simp only[Gr,MC,AA];rw[ADW (by omega),ADW (by omega),AG (by omega) (by omega),show((i:Int)+1)=((i+1:Nat):Int)by omega];simp only[AEA];rw[show((l.getD i (0,0,false,[],())).1,(l.getD i (0,0,false,[],())).2.1,(l.getD i (0,0,false,[],())).2.2.1,(l.getD i (0,0,false,[],())).2.2.2.1,())=l.getD i B3 from rfl,P1 (h.getD hi)];simp_all) (fun n=>by
  simp only[Gr,MC,AA];simp_all) l.length AL 0 (by omega) (AH (by omega))
 rw[show((0:Nat):Int)=0 from rfl]at this;rw[this,mU,AGX];cases decide (l.length≤k)<;>rfl
theorem XJ{l:List AK}(hl:l.length≤2^40):Ro l=some ((YW l,()),()):=by
 unfold Ro Uk YW;have h1:∀n (i:Nat),0<i→i<l.length→C7 (n+1) l i=cond (i==0||decide ((l.getD (i-1) B3).1<(l.getD i B3).1)) (C7 n l ((i+1:Nat):Int)) (some ((false,()),())):=fun n i h0 hi=>by
  simp only[C7,JR,AA];rw[ADW (by omega),AG (x:=(i:Int)-1) (by omega) (by omega),ADW (by omega),ADW (by omega),AG (by omega) (by omega),show((i:Int)+1)=((i+1:Nat):Int)by omega];have h1:((i:Int)-1).toNat=i-1:=by omega
  have h2:(i==0)=false:=by grind
  rw[h1,h2,AEA,AGM];grind
 cases hlen:l.length with
 |zero=>
  obtain⟨m,hm⟩:∃m,AL=m+1:=⟨AL-1,by have:=YV;omega⟩;rw[hm];simp only[C7,JR,AA];rw[AEK (by omega)];rfl
 |succ k=>
  have:=C0 (L:=fun n i=>if(0:Int)<i then C7 n l i else cond (decide (0<n)) (C7 (n-1) l 1) none) (len:=l.length) (p:=fun i=>i==0||decide ((l.getD (i-1) B3).1<(l.getD i B3).1)) (fin:=true) (fun n i hi=>by
   simp_all) (fun n=>by
   rw[ADW (by omega)];simp only[C7,JR,AA];simp_all) l.length (AL+1) 0 (by omega) (by have:=YV;omega)
  simp_all
theorem Tk{l:List AK}(hl:l.length≤2^40)(h:mZ l):Ix l=some ((Rf l,()),()):=by
 unfold Ix Ol;have:=C0 (L:=fun n i=>D7 n l l.length i) (len:=l.length) (p:=fun i=>DL (l.getD i B3)) (fin:=true) (fun n i hi=>by
  simp only[D7,IU,AA];rw[ADW (by omega),ADW (by omega),AG (by omega) (by omega),show((i:Int)+1)=((i+1:Nat):Int)by omega];simp only[AEA];rw[show((l.getD i (0,0,false,[],())).1,(l.getD i (0,0,false,[],())).2.1,(l.getD i (0,0,false,[],())).2.2.1,(l.getD i (0,0,false,[],())).2.2.2.1,())=l.getD i B3 from rfl,Pv (h.getD hi)];simp_all) (fun n=>by
  simp only[D7,IU,AA];simp_all) l.length AL 0 (by omega) (AH (by omega))
 rw[show((0:Nat):Int)=0 from rfl]at this;rw[this,AGX];rfl
theorem O4{l:List AK}(hl:l.length≤2^40):Fm l=some ((YW l,()),()):=by
 unfold Fm LQ;have:=C0 (L:=fun n i=>Ct n l l l.length i) (len:=l.length) (p:=fun i=>i==0||decide ((l.getD (i-1) B3).1<(l.getD i B3).1)) (fin:=true) (fun n i hi=>by
  simp only[Ct,Gq,AA];rw[ADW (by omega),ADW (by omega),AG (x:=(i:Int)+1) (by omega) (by omega),show((i:Int)+1)=((i+1:Nat):Int)by omega];by_cases h0:i=0
  ·simp_all
  ·rw[ADW (by omega),AG (by omega) (by omega),ADW (by omega)]
   have h1:((i:Int)-1).toNat=i-1:=by omega
   have h2:(i==0)=false:=by simp_all
   rw[h1,h2,AEA,AGM];grind) (fun n=>by
  simp only[Ct,Gq,AA];simp_all) l.length AL 0 (by omega) (AH (by omega))
 rw[show((0:Nat):Int)=0 from rfl]at this;rw[this,AGX];rfl
def DN(s:AQ):Bool:=(decide (s.1.length≤200)&&Rf s.1)&&((decide (s.2.1.length≤20)&&Rf s.2.1)&&(YW s.1&&BQ s.2.2.1 0 30))
def SIn(s:AQ):Prop:=mZ s.1∧mZ s.2.1
theorem ay{s:AQ}(hl:Aa s≤2^30)(h:SIn s):Qw s=some ((DN s,()),()):=by
 have l1:=AF (f:=Ag) (l:=s.1);have l2:=AF (f:=Ag) (l:=s.2.1);unfold Aa at hl;have e1:=V_ (l:=s.1) (k:=200) (by omega) h.1;have e2:=V_ (l:=s.2.1) (k:=20) (by omega) h.2;rw[show((200:Nat):Int)=200 from rfl]at e1;rw[show((20:Nat):Int)=20 from rfl]at e2;grind[Qw,DN,XJ,Ba,decide,Rf,YW]
theorem Vt{s:AQ}(hl:Aa s≤2^30)(h:SIn s):Ld s=some ((DN s,()),()):=by
 have l1:=AF (f:=Ag) (l:=s.1);have l2:=AF (f:=Ag) (l:=s.2.1);unfold Aa at hl;unfold Ld DN;rw[Tk (by omega) h.1,Tk (by omega) h.2,O4 (by omega),A_,show decide ((s.1.length:Int)>200)= !decide (s.1.length≤200)from mU _ 200,show decide ((s.2.1.length:Int)>20)= !decide (s.2.1.length≤20)from mU _ 20];grind
end Go.M
end
section
namespace Go.M
open Go.M.H (AK AQ An BK AE CN AN BE AR Ab Az AJ AF AM Ag Aa A6 Bo Bk BS Aq CE AS AY Av BT)
theorem Zc{L:Nat→Int→Option (AAJ×Unit)}{len N:Nat}{p:Nat→Bool}{fin:Bool}(h1:∀n (i:Nat),i<len→L (n+1) i=cond (p i) (L n ((i+1:Nat):Int)) (some ((false,()),())))(h2:∀n,N≤n→L (n+1) (len:Int)=some ((fin,()),())):
  ∀d n i,i+d=len→d+N<n→L n i=some ((CP p i d&&fin,()),())
 |0,n,i,hd,h=>by
  obtain⟨m,rfl⟩:∃m,n=m+1:=⟨n-1,by omega⟩;have:i=len:=by omega
  subst this;rw[h2 m (by omega)];rfl
 |d+1,n,i,hd,h=>by
  obtain⟨m,rfl⟩:∃m,n=m+1:=⟨n-1,by omega⟩;rw[h1 m i (by omega)];simp only[CP];cases p i with
  |false=>rfl
  |true=>rw[AF7,Zc h1 h2 d m (i+1) (by omega) (by omega)];rfl
def QL(l:List AK):Int:=cond (l.length==0) 0 (J7 (l.getD (l.length-1) B3).1)
theorem cq{m:An}(hl:m.2.2.2.1.length≤2^40)(h:mZ m.2.2.2.1):Tg m=some ((QL m.2.2.2.1,()),()):=by
 unfold Tg QL;by_cases h0:m.2.2.2.1.length=0
 ·simp[h0]
 ·have e1:((m.2.2.2.1.length:Int)==0)=false:=by simp_all
  have e2:(m.2.2.2.1.length==0)=false:=by simp_all
  rw[e1,e2];simp only[AEt];rw[AG (by omega) (by omega),ADW (by omega),show((m.2.2.2.1.length:Int)-1).toNat=m.2.2.2.1.length-1 by omega,XG (h.getD (by omega))];rfl
theorem a8{m:An}(hl:m.2.2.2.1.length≤2^40)(h:mZ m.2.2.2.1):Qp m=some ((QL m.2.2.2.1,()),()):=by
 unfold Qp QL;by_cases h0:m.2.2.2.1.length=0
 ·simp[h0]
 ·have e1:((m.2.2.2.1.length:Int)==0)=false:=by simp_all
  have e2:(m.2.2.2.1.length==0)=false:=by simp_all
  rw[e1,e2];simp only[AEt];rw[AG (by omega) (by omega),ADW (by omega),show((m.2.2.2.1.length:Int)-1).toNat=m.2.2.2.1.length-1 by omega,UO (h.getD (by omega))];rfl
def fw(l:List AK)(ep by_:Int)(i:Nat):Bool:=DL (l.getD i B3)&&((Ar (l.getD i B3).1==ep)&&decide ((l.getD i B3).2.1<by_))
def gY(l:List AK)(ep by_:Int):Bool:=CP (fw l ep by_) 0 l.length
def cT(c:Cy)(l:List AAA):Bool:=CP (fun i=>Ak c (l.getD i [])) 0 l.length
def PZ(c:Cy)(m:An):Bool:=Ee c&&(BQ m.2.1 1 30&&(BQ m.1 (m.2.1+1) 30&&(Ak c m.2.2.1&&(YW m.2.2.2.1&&(gY m.2.2.2.1 m.2.1 m.1&&(cT c m.2.2.2.2.2.1&&((m.2.2.2.2.2.1.length:Int)==cond m.2.2.2.2.1 (QL m.2.2.2.1) 0)))))))
theorem dt{c:Cy}{m:An}(hc:c.1.length≤2^40)(hm:A6 m≤2^30)(h:mZ m.2.2.2.1):Tw c m=some ((PZ c m,()),()):=by
 have l1:=AF (f:=Ag) (l:=m.2.2.2.1);have l2:=AF (f:=BT) (l:=m.2.2.2.2.2.1);unfold A6 at hm;have wr:∀n,m.2.2.2.2.2.1.length+1≤n→Dq n 0 c.1 c.2.1 m.1 m.2.1 m.2.2.1 m.2.2.2.1 m.2.2.2.2.1 m.2.2.2.2.2.1=some ((cT c m.2.2.2.2.2.1&&((m.2.2.2.2.2.1.length:Int)==cond m.2.2.2.2.1 (QL m.2.2.2.1) 0),()),()):=fun n hn=>by
  refine C0 (L:=fun n i=>Dq n i c.1 c.2.1 m.1 m.2.1 m.2.2.1 m.2.2.2.1 m.2.2.2.2.1 m.2.2.2.2.2.1) (len:=m.2.2.2.2.2.1.length) (p:=fun i=>Ak c (m.2.2.2.2.2.1.getD i [])) (fin:=(m.2.2.2.2.2.1.length:Int)==cond m.2.2.2.2.1 (QL m.2.2.2.1) 0) (fun n i hi=> ?_) (fun n=> ?_) m.2.2.2.2.2.1.length n 0 (by omega) (by omega)
  ·have fE:(m.2.2.2.2.2.1.getD i []).length≤AJ BT m.2.2.2.2.2.1:=AM (f:=BT) (Bt (d:=[]) hi)
   simp only[Dq,Lx,AA];rw[ADW (by omega),ADW (by omega),AG (by omega) (by omega),show((i:Int)+1)=((i+1:Nat):Int)by omega,AEA,show(c.1,c.2.1,())=c from rfl,EJ hc (by omega)];simp_all
  ·simp only[Dq,Lx,AA]
   rw[AEK (by omega),show(m.1,m.2.1,m.2.2.1,m.2.2.2.1,m.2.2.2.2.1,m.2.2.2.2.2.1,())=m from rfl,cq (by omega) h];grind
 have se:=Zc (L:=fun n i=>Er n i c.1 c.2.1 m.1 m.2.1 m.2.2.1 m.2.2.2.1 m.2.2.2.2.1 m.2.2.2.2.2.1) (len:=m.2.2.2.1.length) (N:=m.2.2.2.2.2.1.length+1) (p:=fw m.2.2.2.1 m.2.1 m.1) (fin:=cT c m.2.2.2.2.2.1&&((m.2.2.2.2.2.1.length:Int)==cond m.2.2.2.2.1 (QL m.2.2.2.1) 0)) (fun n i hi=>by
   simp only[Er,Ms,AA,fw];have hb:(0:Int)≤(i:Int)∧(i:Int)<(m.2.2.2.1.length:Int):=by omega
   rw[ADW hb.2,AG (by omega) (by omega),show((i:Int)+1)=((i+1:Nat):Int)by omega,AEA];simp only[ADW hb];rw[show((m.2.2.2.1.getD i (0,0,false,[],())).1,(m.2.2.2.1.getD i (0,0,false,[],())).2.1,(m.2.2.2.1.getD i (0,0,false,[],())).2.2.1,(m.2.2.2.1.getD i (0,0,false,[],())).2.2.2.1,())=m.2.2.2.1.getD i B3 from rfl,P1 (h.getD hi),HW (h.getD hi)];grind) (fun n hn=>by
   simp only[Er,Ms,AA];simp_all) m.2.2.2.1.length AL 0 (by omega) (AH (by omega))
 rw[show((0:Nat):Int)=0 from rfl]at se;unfold Tw Tf PZ;rw[show(c.1,c.2.1,())=c from rfl,Gg hc,Ba,Ba,EJ hc (by omega),XJ (by omega),se];simp only[ADT];rcases AE8 (BQ m.2.1 1 30)with hi|hi
 ·have hi2:=hi
  simp only[BQ,AEe]at hi2;rw[AG (by omega) (by omega),hi];cases Ee c<;>cases BQ m.1 (m.2.1+1) 30<;>cases Ak c m.2.2.1<;>cases YW m.2.2.2.1<;>rfl
 simp_all
theorem cn{m:An}(hm:A6 m≤2^30)(h:mZ m.2.2.2.1):Oo m=some ((gY m.2.2.2.1 m.2.1 m.1&&YW m.2.2.2.1,()),()):=by
 have l1:=AF (f:=Ag) (l:=m.2.2.2.1);unfold A6 at hm;unfold Oo TO;exact C0 (L:=fun n i=>Gf n m.2.2.2.1 m.2.2.2.1.length i m.1 m.2.1 m.2.2.1 m.2.2.2.1 m.2.2.2.2.1 m.2.2.2.2.2.1) (len:=m.2.2.2.1.length) (p:=fw m.2.2.2.1 m.2.1 m.1) (fin:=YW m.2.2.2.1) (fun n i hi=>by
  simp only[Gf,MP,AA,fw];rw[ADW (by omega),ADW (by omega),AG (by omega) (by omega),show((i:Int)+1)=((i+1:Nat):Int)by omega,AEA];rw[show((m.2.2.2.1.getD i (0,0,false,[],())).1,(m.2.2.2.1.getD i (0,0,false,[],())).2.1,(m.2.2.2.1.getD i (0,0,false,[],())).2.2.1,(m.2.2.2.1.getD i (0,0,false,[],())).2.2.2.1,())=m.2.2.2.1.getD i B3 from rfl,Pv (h.getD hi),FL (h.getD hi)];grind) (fun n=>by
  simp only[Gf,MP,AA];rw[AEK (by omega),O4 (by omega)];rfl) m.2.2.2.1.length AL 0 (by omega) (AH (by omega))
theorem eD{c:Cy}{m:An}(hc:c.1.length≤2^40)(hm:A6 m≤2^30)(h:mZ m.2.2.2.1):Tn c m=some ((PZ c m,()),()):=by
 have l1:=AF (f:=Ag) (l:=m.2.2.2.1);have l2:=AF (f:=BT) (l:=m.2.2.2.2.2.1);have kK:=hm;unfold A6 at hm;have key:=C0 (L:=fun n i=>GK n m.2.2.2.2.2.1 m.2.2.2.2.2.1.length i c.1 c.2.1 m.1 m.2.1 m.2.2.1 m.2.2.2.1 m.2.2.2.2.1 m.2.2.2.2.2.1) (len:=m.2.2.2.2.2.1.length) (p:=fun i=>Ak c (m.2.2.2.2.2.1.getD i []))
  (fin:=Ee c&&(BQ m.2.1 1 30&&(BQ m.1 (m.2.1+1) 30&&(Ak c m.2.2.1&&((gY m.2.2.2.1 m.2.1 m.1&&YW m.2.2.2.1)&&((m.2.2.2.2.2.1.length:Int)==cond m.2.2.2.2.1 (QL m.2.2.2.1) 0)))))) (fun n i hi=>by
   have fE:(m.2.2.2.2.2.1.getD i []).length≤AJ BT m.2.2.2.2.2.1:=AM (f:=BT) (Bt (d:=[]) hi);simp only[GK,MH,AA];rw[ADW (by omega),ADW (by omega),AG (x:=(i:Int)+1) (by omega) (by omega),show((i:Int)+1)=((i+1:Nat):Int)by omega,AEA,show(c.1,c.2.1,())=c from rfl,CW hc (by omega)];simp_all) (fun n=>by
   simp only[GK,MH,AA];rw[AEK (by omega),show(m.1,m.2.1,m.2.2.1,m.2.2.2.1,m.2.2.2.2.1,m.2.2.2.2.2.1,())=m from rfl,a8 (by omega) h,show(c.1,c.2.1,())=c from rfl,Ga hc,CW hc (by omega),cn kK h];simp only[ADT,Dk,A_];rcases AE8 (BQ m.2.1 1 30)with hi|hi
   ·have hi2:=hi
    simp only[BQ,AEe]at hi2;grind[AG,Ee,BQ,Ak,gY,YW]
   simp_all) m.2.2.2.2.2.1.length AL 0 (by omega) (AH (by omega))
 unfold Tn TK PZ;rw[show((0:Nat):Int)=0 from rfl]at key;grind[cT,CP,Ak,Ee,BQ,gY,YW]
end Go.M
end
section
namespace Go.M
open Go.M.H (AK AQ An BK AE CN AN BE AR Ab Az AJ AF AM Ag Aa A6 Bo Bk BS Aq CE AS AY Av BT)
theorem pO{x:Int}{l:AAA}(hl:l.length≤2^40):∃r,Jd [x] l=some (((),()),(r,()))∧decide ((r.length:Int)>0)=l.contains x:=by
 obtain⟨m,hm⟩:∃m,AL=m+2:=⟨AL-2,by have:=YV;omega⟩;unfold Jd Cp;rw[ADW (by rw[Ay];simp)];simp only[ADT];unfold BC Bq Bj B6;rw[hm];simp only[Ap,Bv,LD,AE7,AGi,AA];rw[ADW (by omega),ADW (by omega)];simp only[Int.toNat_zero,List.getD_cons_zero];rw[PA hl];simp only[ADT];cases l.contains x with
 |true=>
  simp only[AEl,AEt];rw[AG (x:=0+1) (by omega) (by omega),AEK (by omega)];simp_all
 |false=>
  simp only[AGg,AF7,ADT];rw[AG (x:=0+1) (by omega) (by omega)];simp only[Am,Br,AA,AE7,AGi];simp_all
theorem fl{w:AE}{x:Int}(hl:w.2.2.2.1.length≤2^40):FZ w x=some ((w.2.2.2.1.contains x,()),()):=by
 unfold FZ;obtain⟨r,h1,h2⟩:=pO (x:=x) hl;simp_all
theorem Ys{l:AAA}{x:Int}(hl:l.length≤2^40):LA l x=some ((l.contains x,()),()):=by
 have key:∀(n i:Nat),i≤l.length→l.length-i<n→KE n l x i=some (((l.drop i).contains x,()),()):=by
  intro n
  induction n with
  |zero=>omega
  |succ n ih=>
   intro i hi h;simp only[KE,UY,AA];by_cases hc:i<l.length
   ·rw[ADW (by omega),ADW (by omega),AG (by omega) (by omega),show((i:Int)+1)=((i+1:Nat):Int)by omega,AO hc,drop_cons hc,ih (i+1) (by omega) (by omega)]
    simp only[List.contains_cons];by_cases he:l[i]=x
    all_goals grind
   grind
 grind[LA,Ud,AL,AH]
def V8(l:List CN):Nat→Nat→Int
 |_,0=>0
 |i,d+1=>cond (!(l.getD i ([],false,0,())).2.1) ((i:Int)+1) (V8 l (i+1) d)
def FP(l:List CN):Int:=V8 l 0 l.length
theorem YM{r:AN}(hl:r.1.length≤2^40):L9 r=some ((FP r.1,()),()):=by
 have key:∀(d n i:Nat),i+d=r.1.length→d<n→D4 n i r.1 r.2.1=some ((V8 r.1 i d,()),()):=by
  intro d
  induction d with
  |zero=>
   intro n i hi hn;obtain⟨m,rfl⟩:∃m,n=m+1:=⟨n-1,by omega⟩;simp only[D4,Ig,AA,V8];simp_all
  |succ d ih=>
   intro n i hi hn;obtain⟨m,rfl⟩:∃m,n=m+1:=⟨n-1,by omega⟩;simp only[D4,Ig,AA,V8];rw[ADW (by omega),ADW (by omega),AG (by omega) (by omega),show((i:Int)+1)=((i+1:Nat):Int)by omega,ih m (i+1) (by omega) (by omega),AEA];grind
 grind[L9,PT,FP,AL,AH]
theorem Yg{r:AN}(hl:r.1.length≤2^40):Li r=some ((FP r.1,()),()):=by
 have key:∀(d n i:Nat),i+d=r.1.length→d<n→D9 n r.1 r.1.length i=some ((V8 r.1 i d,()),()):=by
  intro d
  induction d with
  |zero=>
   intro n i hi hn;obtain⟨m,rfl⟩:∃m,n=m+1:=⟨n-1,by omega⟩;simp only[D9,Iz,AA,V8];simp_all
  |succ d ih=>
   intro n i hi hn;obtain⟨m,rfl⟩:∃m,n=m+1:=⟨n-1,by omega⟩;simp only[D9,Iz,AA,V8];rw[ADW (by omega),ADW (by omega),AG (by omega) (by omega),show((i:Int)+1)=((i+1:Nat):Int)by omega,ih m (i+1) (by omega) (by omega),AEA];grind
 grind[Li,Oq,FP,AL,AH]
structure dJ (w:AE):Prop where
 weight:Bk w≤2^21
 CA:∀s∈w.2.2.1,SIn s
 trim:Hd w.2.2.2.2.2.1
 Jl:∀m∈w.2.2.2.2.2.2.2.1,mZ m.2.2.2.1
 wq:∀s∈w.2.2.2.2.2.2.2.2.2.1,Hd s.1
abbrev Dx:AQ:=([],[],0,())
abbrev DD:AR:=(0,[],())
abbrev WU:An:=(0,0,[],[],false,[],())
abbrev Dl:Ab:=(0,0,[],())
abbrev H_:BK:=(0,[],false,())
def C3(w:AE):Cy:=(w.1,w.2.1,())
def Su(w:AE):AN:=(w.2.2.2.2.1,w.2.2.2.2.2.1,())
def ZS(w:AE)(i:Nat):Bool:=DN (w.2.2.1.getD i Dx)&&(!w.2.2.2.1.contains (i:Int)||((w.2.2.1.getD i Dx).1.length==0&&((w.2.2.1.getD i Dx).2.1.length==0&&(w.2.2.1.getD i Dx).2.2.1==0)))
def Wo(w:AE)(i:Nat):Bool:=Fb (C3 w) (w.2.2.2.2.2.2.1.getD i DD)&&(decide ((w.2.2.2.2.2.2.1.getD i DD).1≤(w.2.2.2.2.1.length:Int))&&(i==0||decide ((w.2.2.2.2.2.2.1.getD (i-1) DD).1<(w.2.2.2.2.2.2.1.getD i DD).1)))
def fb(w:AE)(i:Nat):Bool:=PZ (C3 w) (w.2.2.2.2.2.2.2.1.getD i WU)&&(((w.2.2.2.2.2.2.2.1.getD i WU).1==(w.2.2.2.2.1.length:Int))&&((w.2.2.2.2.2.2.2.1.getD i WU).2.1==FP w.2.2.2.2.1))
def gC(w:AE)(i:Nat):Bool:=(BO (w.2.2.2.2.2.2.2.2.2.1.getD i H_).1&&decide (Ar (w.2.2.2.2.2.2.2.2.2.1.getD i H_).1≤(w.2.2.2.2.1.length:Int)))&&(decide ((w.2.2.2.2.2.2.2.2.2.1.getD i H_).2.1.length≤40)&&(i==0||decide ((w.2.2.2.2.2.2.2.2.2.1.getD (i-1) H_).1<(w.2.2.2.2.2.2.2.2.2.1.getD i H_).1)))
def Wi(w:AE):Bool:=CP (ZS w) 0 w.2.2.1.length
def Ui(w:AE):Bool:=CP (Wo w) 0 w.2.2.2.2.2.2.1.length
def Xf(w:AE):Bool:=CP (fb w) 0 w.2.2.2.2.2.2.2.1.length
def fZ(w:AE):Bool:=CP (gC w) 0 w.2.2.2.2.2.2.2.2.2.1.length
def WT(w:AE):Bool:=decide (w.2.2.2.2.2.2.2.2.1.length=2)&&(Vi (w.2.2.2.2.2.2.2.2.1.getD 0 Dl)&&Vi (w.2.2.2.2.2.2.2.2.1.getD 1 Dl))
def JM(w:AE):Bool:=Ee (C3 w)&&(decide (w.2.2.1.length=w.1.length)&&(Ak (C3 w) w.2.2.2.1&&((w.2.2.2.2.2.2.2.2.2.2.1|| !holds (C3 w) w.2.2.2.1)&&(Wi w&&(Si (C3 w) (Su w)&&(decide (w.2.2.2.2.2.2.1.length≤4)&&(decide (w.2.2.2.2.2.2.2.1.length≤1)&&(Ui w&&(Xf w&&(WT w&&(decide (w.2.2.2.2.2.2.2.2.2.1.length≤120)&&fZ w)))))))))))
section
variable{w:AE} (h:dJ w)
include h
theorem dJ.lens:w.1.length≤2^21∧AJ Aa w.2.2.1≤2^21∧w.2.2.2.1.length≤2^21∧AJ BS w.2.2.2.2.1≤2^21∧AJ AS w.2.2.2.2.2.2.1≤2^21∧AJ A6 w.2.2.2.2.2.2.2.1≤2^21∧AJ AY w.2.2.2.2.2.2.2.2.1≤2^21∧AJ Bo w.2.2.2.2.2.2.2.2.2.1≤2^21:=by
 have:=h.weight;grind[Bk]
theorem dJ.MK:w.2.2.1.length≤2^21∧w.2.2.2.2.1.length≤2^21∧w.2.2.2.2.2.2.1.length≤2^21∧w.2.2.2.2.2.2.2.1.length≤2^21∧w.2.2.2.2.2.2.2.2.1.length≤2^21∧w.2.2.2.2.2.2.2.2.2.1.length≤2^21:=by
 have k:=h.lens;grind[AF,Aa,BS,AS,A6,AY,Bo]
theorem dJ.cfg:(C3 w).1.length≤2^40:=by
 have:=h.lens
 show w.1.length≤2^40
 omega
theorem jD:GH w=some ((decide (w.2.2.1.length=w.1.length)&&(Ak (C3 w) w.2.2.2.1&&(Wi w&&(w.2.2.2.2.2.2.2.2.2.2.1|| !holds (C3 w) w.2.2.2.1))),()),()):=by
 have k1:=h.lens;have k2:=h.MK;have key:=C0 (L:=fun n i=>CZ n w w.2.2.1 w.2.2.1.length i) (len:=w.2.2.1.length) (p:=ZS w) (fin:=w.2.2.2.2.2.2.2.2.2.2.1|| !holds (C3 w) w.2.2.2.1) (fun n i hi=>by
  have hm:=Bt (d:=Dx) hi;have hw:=AM (f:=Aa) hm;simp only[CZ,FH,AA,ZS];rw[ADW (by omega),ADW (by omega),AG (x:=(i:Int)+1) (by omega) (by omega),show((i:Int)+1)=((i+1:Nat):Int)by omega,AEA,fl (by omega)];rw[show((w.2.2.1.getD i ([],[],0,())).1,(w.2.2.1.getD i ([],[],0,())).2.1,(w.2.2.1.getD i ([],[],0,())).2.2.1,())=w.2.2.1.getD i Dx from rfl,Vt (by omega) (h.CA _ hm)];simp only[ADT]
  show cond (!DN (w.2.2.1.getD i Dx)) _ _=_
  rcases AE8 (DN (w.2.2.1.getD i Dx))with hs|hs
  rotate_left
  ·simp_all
  rw[hs];have zi:=hs;simp only[DN,BQ,AEE,AEe]at zi
  generalize w.2.2.1.getD i Dx=s at hw zi
  cases w.2.2.2.1.contains ((i:Nat):Int)with
  |false=>rfl
  |true=>
   simp only[AEl,AEt,AF7,AFd,AGM];unfold Aa at hw;have q1:=AF (f:=Ag) (l:=s.1);have q2:=AF (f:=Ag) (l:=s.2.1);rw[AG (x:=(s.1.length:Int)+_) (by omega) (by omega),AG (by omega) (by omega)];grind) (fun n=>by
  simp only[CZ,FH,AA];rw[AEK (by omega),show(w.1,w.2.1,())=C3 w from rfl,J9 h.cfg (by omega)];grind) w.2.2.1.length AL 0 (by omega) (AH (by omega))
 rw[show((0:Nat):Int)=0 from rfl]at key;unfold GH Jm Wi;rw[show(w.1,w.2.1,())=C3 w from rfl,CW h.cfg (by omega),key];grind[decide_eq_true,Ak,C3,decide_eq_false]
end
end Go.M
end
section
namespace Go.M
open Go.M.H (AK AQ An BK AE CN AN BE AR Ab Az AJ AF AM Ag Aa A6 Bo Bk BS Aq CE AS AY Av BT)
theorem mW{x lo hi:Int}(h:lo≤x):BQ x lo hi=decide (x≤hi):=by
 grind[BQ,decide_eq_true,decide_eq_false]
theorem od{x lo hi:Int}(h:x<lo):BQ x lo hi=false:=by
 grind[BQ,decide_eq_false]
section
variable{w:AE} (h:dJ w)
include h
theorem ik:Fc w=some ((Ui w&&decide (w.2.2.2.2.2.2.1.length≤4),()),()):=by
 have k1:=h.lens;have k2:=h.MK;have key:=C0 (L:=fun n i=>CM n w w.2.2.2.2.2.2.1 w.2.2.2.2.2.2.1.length i) (len:=w.2.2.2.2.2.2.1.length) (p:=Wo w) (fin:=decide (w.2.2.2.2.2.2.1.length≤4)) (fun n i hi=>by
  have hm:=Bt (d:=DD) hi;have hw:=AM (f:=AS) hm;unfold AS at hw;simp only[CM,E4,AA,Wo,Es,A_];rw[ADW (by omega),ADW (by omega),AG (x:=(i:Int)+1) (by omega) (by omega),show((i:Int)+1)=((i+1:Nat):Int)by omega,AEA];have hw2:AJ Aq (w.2.2.2.2.2.2.1.getD i DD).2.1≤2^30:=by
   have:=k1.2.2.2.2.1;unfold AS at this;omega
  rw[show((w.2.2.2.2.2.2.1.getD i (0,[],())).1,(w.2.2.2.2.2.2.1.getD i (0,[],())).2.1,())=w.2.2.2.2.2.2.1.getD i DD from rfl,show(w.1,w.2.1,())=C3 w from rfl,ZL h.cfg hw2];simp only[ADT];rcases AE8 (Fb (C3 w) (w.2.2.2.2.2.2.1.getD i DD))with hs|hs
  rotate_left
  ·simp_all
  have he:=(e_ hs).2.1;rw[hs,show BQ (w.2.2.2.2.2.2.1.getD i (0,[],())).1 1 (w.2.2.2.2.1.length:Int)=decide ((w.2.2.2.2.2.2.1.getD i DD).1≤(w.2.2.2.2.1.length:Int))from mW he.1];simp only[AEl,AEt,AFd];cases decide ((w.2.2.2.2.2.2.1.getD i DD).1≤(w.2.2.2.2.1.length:Int))with
  |false=>rfl
  |true=>
   simp only[AEl,AEt,AFd];by_cases h0:i=0
   ·simp_all
   ·rw[ADW (by omega),AG (by omega) (by omega),ADW (by omega)]
    have h1:((i:Int)-1).toNat=i-1:=by omega
    have h2:(i==0)=false:=by simp_all
    rw[h1,h2,AGM];grind) (fun n=>by
  simp only[CM,E4,AA];simp_all;omega) w.2.2.2.2.2.2.1.length AL 0 (by omega) (AH (by omega))
 rw[show((0:Nat):Int)=0 from rfl]at key;grind[Fc,I4,Ui]
theorem lq:HI w=some ((Xf w&&decide (w.2.2.2.2.2.2.2.1.length≤1),()),()):=by
 have k1:=h.lens;have k2:=h.MK;have key:=C0 (L:=fun n i=>Cl n w w.2.2.2.2.2.2.2.1 w.2.2.2.2.2.2.2.1.length i) (len:=w.2.2.2.2.2.2.2.1.length) (p:=fb w) (fin:=decide (w.2.2.2.2.2.2.2.1.length≤1)) (fun n i hi=>by
  have hm:=Bt (d:=WU) hi;have hw:=AM (f:=A6) hm;simp only[Cl,Fy,AA,fb];rw[ADW (by omega),ADW (by omega),AG (x:=(i:Int)+1) (by omega) (by omega),show((i:Int)+1)=((i+1:Nat):Int)by omega,AEA];rw[show((w.2.2.2.2.2.2.2.1.getD i (0,0,[],[],false,[],())).1,(w.2.2.2.2.2.2.2.1.getD i (0,0,[],[],false,[],())).2.1,(w.2.2.2.2.2.2.2.1.getD i (0,0,[],[],false,[],())).2.2.1,(w.2.2.2.2.2.2.2.1.getD i (0,0,[],[],false,[],())).2.2.2.1,(w.2.2.2.2.2.2.2.1.getD i (0,0,[],[],false,[],())).2.2.2.2.1,(w.2.2.2.2.2.2.2.1.getD i (0,0,[],[],false,[],())).2.2.2.2.2.1,())=w.2.2.2.2.2.2.2.1.getD i WU from rfl,show(w.1,w.2.1,())=C3 w from rfl,eD h.cfg (by omega) (h.Jl _ hm)];rw[Yg (by grind)];grind) (fun n=>by
  simp only[Cl,Fy,AA];simp_all;omega) w.2.2.2.2.2.2.2.1.length AL 0 (by omega) (AH (by omega))
 rw[show((0:Nat):Int)=0 from rfl]at key;grind[HI,KA,Xf]
theorem iR:Fa w=some ((WT w,()),()):=by
 have k2:=h.MK;have key:=C0 (L:=fun n i=>CL n w w.2.2.2.2.2.2.2.2.1 w.2.2.2.2.2.2.2.2.1.length i) (len:=w.2.2.2.2.2.2.2.2.1.length) (p:=fun i=>Vi (w.2.2.2.2.2.2.2.2.1.getD i Dl)) (fin:=((w.2.2.2.2.2.2.2.2.1.length:Int)==2)) (fun n i hi=>by
  simp only[CL,E9,AA];rw[ADW (by omega),ADW (by omega),AG (x:=(i:Int)+1) (by omega) (by omega),show((i:Int)+1)=((i+1:Nat):Int)by omega,AEA];rw[show((w.2.2.2.2.2.2.2.2.1.getD i (0,0,[],())).1,(w.2.2.2.2.2.2.2.2.1.getD i (0,0,[],())).2.1,(w.2.2.2.2.2.2.2.2.1.getD i (0,0,[],())).2.2.1,())=w.2.2.2.2.2.2.2.2.1.getD i Dl from rfl,UW];simp_all) (fun n=>by
  simp only[CL,E9,AA];simp_all) w.2.2.2.2.2.2.2.2.1.length AL 0 (by omega) (AH (by omega))
 rw[show((0:Nat):Int)=0 from rfl]at key;unfold Fa Is WT;grind[CP,decide_eq_false]
theorem nQ:IA w=some ((fZ w&&decide (w.2.2.2.2.2.2.2.2.2.1.length≤120),()),()):=by
 have k2:=h.MK;have key:=C0 (L:=fun n i=>Cx n w w.2.2.2.2.2.2.2.2.2.1 w.2.2.2.2.2.2.2.2.2.1.length i) (len:=w.2.2.2.2.2.2.2.2.2.1.length) (p:=gC w) (fin:=decide (w.2.2.2.2.2.2.2.2.2.1.length≤120)) (fun n i hi=>by
  have hm:=Bt (d:=H_) hi;have XD:Hd (w.2.2.2.2.2.2.2.2.2.1.getD i (0,[],false,())).1:=h.wq _ hm;simp only[Cx,Gc,AA,gC,Es,A_,Cz];rw[ADW (by omega),ADW (by omega),AG (x:=(i:Int)+1) (by omega) (by omega),show((i:Int)+1)=((i+1:Nat):Int)by omega,AEA,FL XD];simp only[ADT];have e1:BQ (Ar (w.2.2.2.2.2.2.2.2.2.1.getD i (0,[],false,())).1) 1 (w.2.2.2.2.1.length:Int)=(BO (w.2.2.2.2.2.2.2.2.2.1.getD i H_).1&&decide (Ar (w.2.2.2.2.2.2.2.2.2.1.getD i H_).1≤(w.2.2.2.2.1.length:Int))):=by
   show BQ (Ar (w.2.2.2.2.2.2.2.2.2.1.getD i H_).1) 1 (w.2.2.2.2.1.length:Int)=_
   have hr:=XM (x:=(w.2.2.2.2.2.2.2.2.2.1.getD i H_).1);rcases AE8 (BO (w.2.2.2.2.2.2.2.2.2.1.getD i H_).1)with hp|hp
   ·rw[hp,mW (hr.1 hp).1,AFd]
   ·rw[hp,hr.2 hp,od (by omega),AG1]
  rw[e1,show decide ((((w.2.2.2.2.2.2.2.2.2.1.getD i (0,[],false,())).2.1.length:Nat):Int)≤40)=decide ((w.2.2.2.2.2.2.2.2.2.1.getD i H_).2.1.length≤40)from ACe _ 40];cases(BO (w.2.2.2.2.2.2.2.2.2.1.getD i H_).1&&decide (Ar (w.2.2.2.2.2.2.2.2.2.1.getD i H_).1≤(w.2.2.2.2.1.length:Int)))with
  |false=>rfl
  |true=>
   cases decide ((w.2.2.2.2.2.2.2.2.2.1.getD i H_).2.1.length≤40)with
   |false=>rfl
   |true=>
    simp only[AEl,AEt,AFd];by_cases h0:i=0
    ·simp_all
    ·rw[ADW (by omega),AG (by omega) (by omega),ADW (by omega)]
     have h1:((i:Int)-1).toNat=i-1:=by omega
     have h2:(i==0)=false:=by simp_all
     rw[h1,h2,AGM];grind) (fun n=>by
  simp only[Cx,Gc,AA];simp_all;omega) w.2.2.2.2.2.2.2.2.2.1.length AL 0 (by omega) (AH (by omega))
 rw[show((0:Nat):Int)=0 from rfl]at key;grind[IA,LM,fZ]
theorem Ve:Lc w=some ((JM w,()),()):=by
 have k1:=h.lens;unfold Lc JM;rw[show(w.1,w.2.1,w.2.2.1,w.2.2.2.1,w.2.2.2.2.1,w.2.2.2.2.2.1,w.2.2.2.2.2.2.1,w.2.2.2.2.2.2.2.1,w.2.2.2.2.2.2.2.2.1,w.2.2.2.2.2.2.2.2.2.1,w.2.2.2.2.2.2.2.2.2.2.1,())=w from rfl,show(w.1,w.2.1,())=C3 w from rfl,show(w.2.2.2.2.1,w.2.2.2.2.2.1,())=Su w from rfl];rw[Ga h.cfg,jD h,XE h.cfg (by show AJ BS w.2.2.2.2.1≤_;omega) h.trim,ik h,lq h,iR h,nQ h];grind
end
end Go.M
end
section
namespace Go.M
open Go.M.H (AK AQ An BK AE CN AN BE AR Ab Az AJ AF AM Ag Aa A6 Bo Bk BS Aq CE AS AY Av BT)
section
variable{w:AE} (h:dJ w)
include h
theorem ju:N6 w=some ((Ee (C3 w)&&(decide (w.2.2.1.length=w.1.length)&&(Ak (C3 w) w.2.2.2.1&&((w.2.2.2.2.2.2.2.2.2.2.1|| !holds (C3 w) w.2.2.2.1)&&Wi w))),()),()):=by
 have k1:=h.lens;have k2:=h.MK;have key:=C0 (L:=fun n i=>Ek n i w.1 w.2.1 w.2.2.1 w.2.2.2.1 w.2.2.2.2.1 w.2.2.2.2.2.1 w.2.2.2.2.2.2.1 w.2.2.2.2.2.2.2.1 w.2.2.2.2.2.2.2.2.1 w.2.2.2.2.2.2.2.2.2.1 w.2.2.2.2.2.2.2.2.2.2.1) (len:=w.2.2.1.length) (p:=ZS w) (fin:=true) (fun n i hi=>by
  have hm:=Bt (d:=Dx) hi;have hw:=AM (f:=Aa) hm;simp only[Ek,Jv,AA,ZS];have hb:(0:Int)≤(i:Int)∧(i:Int)<(w.2.2.1.length:Int):=by omega
  rw[ADW hb.2,AG (x:=(i:Int)+1) (by omega) (by omega),show((i:Int)+1)=((i+1:Nat):Int)by omega,AEA,Ys (by omega)];simp only[ADW hb];rw[show((w.2.2.1.getD i ([],[],0,())).1,(w.2.2.1.getD i ([],[],0,())).2.1,(w.2.2.1.getD i ([],[],0,())).2.2.1,())=w.2.2.1.getD i Dx from rfl,ay (by omega) (h.CA _ hm)];simp only[ADT]
  show cond (!DN (w.2.2.1.getD i Dx)) _ _=_
  cases DN (w.2.2.1.getD i Dx)with
  |false=>rfl
  |true=>
   cases w.2.2.2.1.contains ((i:Nat):Int)with
   |false=>rfl
   |true=>
    simp only[Uz,AEl,AEt,AF7,AFd,AGM];have e1:∀n:Nat,((n:Int)==0)=(n==0):=fun n=>by
     grind
    grind) (fun n=>by
  simp only[Ek,Jv,AA];simp_all) w.2.2.1.length AL 0 (by omega) (AH (by omega))
 rw[show((0:Nat):Int)=0 from rfl]at key;unfold N6 QX Wi;rw[show(w.1,w.2.1,())=C3 w from rfl,Gg h.cfg,EJ h.cfg (by omega),OX h.cfg (by omega),key];simp only[ADT,AGX];grind[decide_eq_true,Ee,C3,Ak,holds,decide_eq_false]
theorem iI:Md w=some ((Si (C3 w) (Su w)&&(decide (w.2.2.2.2.2.2.1.length≤4)&&(decide (w.2.2.2.2.2.2.2.1.length≤1)&&(Ui w&&Xf w))),()),()):=by
 have k1:=h.lens;have k2:=h.MK;have me:∀n,w.2.2.2.2.2.2.2.1.length+1≤n→CS n (w.2.2.2.2.1.length:Int) 0 w.1 w.2.1 w.2.2.1 w.2.2.2.1 w.2.2.2.2.1 w.2.2.2.2.2.1 w.2.2.2.2.2.2.1 w.2.2.2.2.2.2.2.1 w.2.2.2.2.2.2.2.2.1 w.2.2.2.2.2.2.2.2.2.1 w.2.2.2.2.2.2.2.2.2.2.1=some ((Xf w,()),()):=fun n hn=>by
  have key:=C0 (L:=fun n i=>CS n (w.2.2.2.2.1.length:Int) i w.1 w.2.1 w.2.2.1 w.2.2.2.1 w.2.2.2.2.1 w.2.2.2.2.2.1 w.2.2.2.2.2.2.1 w.2.2.2.2.2.2.2.1 w.2.2.2.2.2.2.2.2.1 w.2.2.2.2.2.2.2.2.2.1 w.2.2.2.2.2.2.2.2.2.2.1) (len:=w.2.2.2.2.2.2.2.1.length) (p:=fb w) (fin:=true) (fun n i hi=>by
   have hm:=Bt (d:=WU) hi;have hw:=AM (f:=A6) hm;simp only[CS,Hw,AA,fb];rw[ADW (by omega),ADW (by omega),AG (x:=(i:Int)+1) (by omega) (by omega),show((i:Int)+1)=((i+1:Nat):Int)by omega,AEA];rw[show((w.2.2.2.2.2.2.2.1.getD i (0,0,[],[],false,[],())).1,(w.2.2.2.2.2.2.2.1.getD i (0,0,[],[],false,[],())).2.1,(w.2.2.2.2.2.2.2.1.getD i (0,0,[],[],false,[],())).2.2.1,(w.2.2.2.2.2.2.2.1.getD i (0,0,[],[],false,[],())).2.2.2.1,(w.2.2.2.2.2.2.2.1.getD i (0,0,[],[],false,[],())).2.2.2.2.1,(w.2.2.2.2.2.2.2.1.getD i (0,0,[],[],false,[],())).2.2.2.2.2.1,())=w.2.2.2.2.2.2.2.1.getD i WU from rfl,show(w.1,w.2.1,())=C3 w from rfl,dt h.cfg (by omega) (h.Jl _ hm)];rw[YM (by grind)];grind) (fun n=>by
   simp only[CS,Hw,AA];simp_all) w.2.2.2.2.2.2.2.1.length n 0 (by omega) (by omega)
  rw[show((0:Nat):Int)=0 from rfl]at key;rw[key,AGX];rfl
 have key:=Zc (L:=fun n i=>DA n (w.2.2.2.2.1.length:Int) i w.1 w.2.1 w.2.2.1 w.2.2.2.1 w.2.2.2.2.1 w.2.2.2.2.2.1 w.2.2.2.2.2.2.1 w.2.2.2.2.2.2.2.1 w.2.2.2.2.2.2.2.2.1 w.2.2.2.2.2.2.2.2.2.1 w.2.2.2.2.2.2.2.2.2.2.1) (len:=w.2.2.2.2.2.2.1.length) (N:=w.2.2.2.2.2.2.2.1.length+1) (p:=Wo w) (fin:=Xf w) (fun n i hi=>by
  have hm:=Bt (d:=DD) hi;have hw:=AM (f:=AS) hm;unfold AS at hw;simp only[DA,IP,AA,Wo];have hb:(0:Int)≤(i:Int)∧(i:Int)<(w.2.2.2.2.2.2.1.length:Int):=by omega
  rw[ADW hb.2,AG (x:=(i:Int)+1) (by omega) (by omega),show((i:Int)+1)=((i+1:Nat):Int)by omega,AEA];simp only[ADW hb];have hw2:AJ Aq (w.2.2.2.2.2.2.1.getD i DD).2.1≤2^30:=by
   have:=k1.2.2.2.2.1;unfold AS at this;omega
  rw[show((w.2.2.2.2.2.2.1.getD i (0,[],())).1,(w.2.2.2.2.2.2.1.getD i (0,[],())).2.1,())=w.2.2.2.2.2.2.1.getD i DD from rfl,show(w.1,w.2.1,())=C3 w from rfl,ZJ h.cfg hw2];simp only[ADT];cases Fb (C3 w) (w.2.2.2.2.2.2.1.getD i DD)with
  |false=>rfl
  |true=>
   simp only[AEl,AEt,AFd];by_cases hle:(w.2.2.2.2.2.2.1.getD i (0,[],())).1≤(w.2.2.2.2.1.length:Int)
   ·rw[AEK (by omega),show decide ((w.2.2.2.2.2.2.1.getD i DD).1≤(w.2.2.2.2.1.length:Int))=true from AGZ hle,AFd]
    by_cases h0:i=0
    ·simp_all
    ·rw[ADW (by omega),AG (by omega) (by omega),ADW (by omega)]
     have h1:((i:Int)-1).toNat=i-1:=by omega
     have h2:(i==0)=false:=by simp_all
     rw[h1,h2,AGM];grind
   grind) (fun n hn=>by
  simp only[DA,IP,AA];simp_all) w.2.2.2.2.2.2.1.length AL 0 (by omega) (AH (by omega))
 rw[show((0:Nat):Int)=0 from rfl]at key;unfold Md PN Ui;rw[show(w.1,w.2.1,())=C3 w from rfl,show(w.2.2.2.2.1,w.2.2.2.2.2.1,())=Su w from rfl,W7 h.cfg (by show AJ BS w.2.2.2.2.1≤_;omega) h.trim,key];grind
theorem k_:RE w=some ((decide (w.2.2.2.2.2.2.2.2.2.1.length≤120)&&fZ w,()),()):=by
 have k2:=h.MK;have key:=C0 (L:=fun n i=>FN n i w.1 w.2.1 w.2.2.1 w.2.2.2.1 w.2.2.2.2.1 w.2.2.2.2.2.1 w.2.2.2.2.2.2.1 w.2.2.2.2.2.2.2.1 w.2.2.2.2.2.2.2.2.1 w.2.2.2.2.2.2.2.2.2.1 w.2.2.2.2.2.2.2.2.2.2.1) (len:=w.2.2.2.2.2.2.2.2.2.1.length) (p:=gC w) (fin:=true) (fun n i hi=>by
  have hm:=Bt (d:=H_) hi;have XD:Hd (w.2.2.2.2.2.2.2.2.2.1.getD i (0,[],false,())).1:=h.wq _ hm;simp only[FN,K9,AA,gC];rw[ADW (by omega),ADW (by omega),AG (x:=(i:Int)+1) (by omega) (by omega),show((i:Int)+1)=((i+1:Nat):Int)by omega,AEA,HZ XD,HW XD];simp only[ADT]
  show cond (!BO (w.2.2.2.2.2.2.2.2.2.1.getD i H_).1) _ _=_
  cases BO (w.2.2.2.2.2.2.2.2.2.1.getD i H_).1 with
  |false=>rfl
  |true=>
   simp only[AEl,AEt,AFd];by_cases hle:Ar (w.2.2.2.2.2.2.2.2.2.1.getD i (0,[],false,())).1≤(w.2.2.2.2.1.length:Int)
   ·rw[AEK (by omega),show decide (Ar (w.2.2.2.2.2.2.2.2.2.1.getD i H_).1≤(w.2.2.2.2.1.length:Int))=true from AGZ hle,AFd]
    by_cases h40:(w.2.2.2.2.2.2.2.2.2.1.getD i (0,[],false,())).2.1.length≤40
    ·rw[AEK (by omega),show decide ((w.2.2.2.2.2.2.2.2.2.1.getD i H_).2.1.length≤40)=true from AGZ h40,AFd]
     by_cases h0:i=0
     ·simp_all
     ·rw[ADW (by omega),AG (by omega) (by omega),ADW (by omega)]
      have h1:((i:Int)-1).toNat=i-1:=by omega
      have h2:(i==0)=false:=by simp_all
      rw[h1,h2,AGM];grind
    grind
   grind) (fun n=>by
  simp only[FN,K9,AA];simp_all) w.2.2.2.2.2.2.2.2.2.1.length AL 0 (by omega) (AH (by omega))
 rw[show((0:Nat):Int)=0 from rfl]at key;unfold RE Ra fZ;grind
theorem Vw:Mg w=some ((JM w,()),()):=by
 unfold Mg JM WT;rw[show(w.1,w.2.1,w.2.2.1,w.2.2.2.1,w.2.2.2.2.1,w.2.2.2.2.2.1,w.2.2.2.2.2.2.1,w.2.2.2.2.2.2.2.1,w.2.2.2.2.2.2.2.2.1,w.2.2.2.2.2.2.2.2.2.1,w.2.2.2.2.2.2.2.2.2.2.1,())=w from rfl];rw[ju h,iI h,k_ h,JP,JP];simp only[ADT];by_cases h2:w.2.2.2.2.2.2.2.2.1.length=2
 all_goals grind
end
end Go.M
end
section
namespace Go.M
open Go.M.H (AK AQ An BK AE CN AN BE AR Ab Az AJ AF AM Ag Aa A6 Bo Bk BS Aq CE AS AY Av BT VQ)
theorem dJ.of{w:AE}(hv:Go.Fw.Vd VQ w)(hw:Bk w≤2^21):dJ w where
 weight:=hw
 CA:=fun s hs=>⟨fun e he=>wf_i64 (((hv.2.2.1.2 s hs).1).2 e he).1,fun e he=>wf_i64 (((hv.2.2.1.2 s hs).2.1).2 e he).1⟩
 trim:=wf_i64 hv.2.2.2.2.2.1
 Jl:=fun m hm e he=>wf_i64 (((hv.2.2.2.2.2.2.2.1.2 m hm).2.2.2.1).2 e he).1
 wq:=fun s hs=>wf_i64 (hv.2.2.2.2.2.2.2.2.2.1.2 s hs).1
section
variable{w:AE} (h:dJ w)
include h
end
end Go.M
end
section
namespace Go.M
open Go.M.H (AK AQ An BK AE CN AN BE AR Ab Az AJ AF AM Ag Aa A6 Bo Bk BS Aq CE AS AY Av BT VQ)
def fnd(p:Int):List BK→List UInt8×Bool
 |[]=>([],false)
 |s::l=>cond (s.1==p) (s.2.1,true) (fnd p l)
section
variable{w:AE} (h:dJ w)
include h
end
end Go.M
end
section
namespace Go.M
open Go.M.H (AK AQ An BK AE CN AN BE AR Ab Az AJ AF AM Ag Aa A6 Bo Bk BS Aq CE AS AY Av BT VQ)
def x_(w:AE):Prop:= ∀r∈w.2.2.2.2.2.2.2.2.1,∀e∈r.2.2.1,Hd e.2.1
theorem x_.of{w:AE}(hv:Go.Fw.Vd VQ w):x_ w:=fun r hr e he=>wf_i64 (((hv.2.2.2.2.2.2.2.2.1.2 r hr).2.2.1).2 e he).2.1
section
variable{w:AE} (h:dJ w) (hev:x_ w)
include h hev
end
end Go.M
end
section
namespace Go.M.H
open Go.M
theorem Lh:∀(rest pre:List AK) (n k:Nat),AJ Ag rest≤2^30→k+64*AJ Ag rest≤2^53→pre.length+rest.length≤2^40→rest.length<n→
  ∃(Bg:List AK) (m:Nat),Bz n k pre.length (pre++rest)=some (((m:Int),()),(pre++Bg,()))∧k≤m∧m≤k+64*AJ Ag rest∧True
 |_,_,0,_,_,_,_,h=>by omega
 |[],pre,n+1,k,hw,hk,hl,hn=>by
  refine⟨[],k,?_,by omega,by omega,trivial⟩
  ·simp only[Bz,DP,AA,FF,AFg]
 |x::rest,pre,n+1,k,hw,hk,hl,hn=>by
  simp only[AE7]at hl hn;simp only[AJ,Ag]at hw hk;obtain⟨t1,Xe⟩:=Oy (m:=k+1+1+1) (by omega);obtain⟨Bg,m,e2,e3,e4,e5⟩:=Lh rest (pre++[(((k:Nat):Int),((k+1:Nat):Int),(((k+1+1:Nat):Int).tmod 3==0),t1,())]) n (k+1+1+1+1) (by omega) (by omega) (by grind) (by omega);refine⟨(((k:Nat):Int),((k+1:Nat):Int),(((k+1+1:Nat):Int).tmod 3==0),t1,())::Bg,m,?_,by omega,by grind[AJ,Ag],trivial⟩
  ·rw[←Ce]at e2
   simp only[AEJ,AFI,AFO]at e2;simp only[Bz,DP];simp(disch:=omega) only[Cc,DM,Cd,FG,FE,AGF,AEA,ADT,AA,Xe];exact e2
theorem Hm{l:List AK}{k:Nat}(hw:AJ Ag l≤2^30)(hk:k≤2^52):∃(l':List AK) (m:Nat),DJ k l=some (((m:Int),()),(l',()))∧True∧k≤m∧m≤k+64*AJ Ag l:=by
 have hl:=AF (f:=Ag) (l:=l);obtain⟨l',m,e2,e3,e4,e5⟩:=Lh l [] AL k hw (by omega) (by grind) (AH (by omega));refine⟨l',m,?_,trivial,e3,e4⟩;grind[DJ,Hz]
theorem MB:∀(rest pre:List AQ) (n k:Nat),AJ Aa rest≤2^30→k+64*AJ Aa rest≤2^51→pre.length+rest.length≤2^40→rest.length<n→
  ∃(Bg:List AQ) (m:Nat),Bw n k pre.length (pre++rest)=some (((m:Int),()),(pre++Bg,()))∧k≤m∧m≤k+64*AJ Aa rest∧True
 |_,_,0,_,_,_,_,h=>by omega
 |[],pre,n+1,k,hw,hk,hl,hn=>by
  refine⟨[],k,?_,by omega,by omega,trivial⟩
  ·simp only[Bw,DU,AA,FF,AFg]
 |x::rest,pre,n+1,k,hw,hk,hl,hn=>by
  simp only[AE7]at hl hn;simp only[AJ,Aa]at hw hk;obtain⟨c1,m1,X5,hh1,ha1,hb1⟩:=Hm (l:=x.1) (k:=k) (by omega) (by omega);obtain⟨c2,m2,kK,hh2,ha2,hb2⟩:=Hm (l:=x.2.1) (k:=m1) (by omega) (by omega);obtain⟨Bg,m,e2,e3,e4,e5⟩:=MB rest (pre++[(c1,c2,((m2:Nat):Int),())]) n (m2+1) (by omega) (by omega) (by grind) (by omega);refine⟨(c1,c2,((m2:Nat):Int),())::Bg,m,?_,by omega,by grind[AJ,Aa],trivial⟩
  ·rw[←Ce]at e2
   simp only[AEJ,AFI,AFO]at e2;simp only[Bw,DU];simp(disch:=omega) only[Cc,DM,Cd,FG,FE,AGF,AEA,ADT,AA,Ae,Bd,Ae,Be,X5,hh1,kK,hh2];exact e2
theorem XH{l:List AQ}{k:Nat}(hw:AJ Aa l≤2^30)(hk:k≤2^50):∃(l':List AQ) (m:Nat),FK k l=some (((m:Int),()),(l',()))∧True∧k≤m∧m≤k+64*AJ Aa l:=by
 have hl:=AF (f:=Aa) (l:=l);obtain⟨l',m,e2,e3,e4,e5⟩:=MB l [] AL k hw (by omega) (by grind) (AH (by omega));refine⟨l',m,?_,trivial,e3,e4⟩;grind[FK,H0]
end Go.M.H
end
section
namespace Go.M
open Go.M.H (AK AQ An BK AE CN AN BE AR Ab Az A0 EL)
def Pe(e o:Int):Int:=4294967296*e+o
def Tv(e o:Int):Int:=if BQ e 1 30&&BQ o 1 60 then Pe e o else 0
def ACd(x:Int):List Int→List Int
 |[]=>[x]
 |y::l=>if x<y then x::y::l else y::ACd x l
def oK(x:Int)(l:AAA):AAA:=if l.contains x then l else ACd x l
def less(l m:AAA):AAA:=l.filter fun x=> !m.contains x
def Pr(c:Cy)(s l:AAA):Bool:=holds c s&&(Ak c l&&(l.all s.contains&& !holds c (less s l)))
def Aj(k:Int):AAA:=if BQ k 0 255 then([0,1,2,3,4,5,6,7]:AAA).filter fun i=>(k/2^i.toNat)%2==1 else[]
def better(a b:AK):AK:=if b.2.1>a.2.1 then b else a
def keep(e:AK):List AK→List AK
 |[]=>[e]
 |x::l=>if x.1=e.1 then better x e::l else if x.1>e.1 then e::x::l else x::keep e l
def bU:List AK→List AK→List AK
 |k,[]=>k
 |k,e::l=>bU (keep e k) l
def iK(k:Int):Nat→List AK→List AK
 |_,[]=>[]
 |i,e::l=>if(k/2^i)%2=1 then e::iK k (i+1) l else iK k (i+1) l
def RC(p:Int)(l:List AK):Option AK:=l.find? fun e=>e.1==p
def takes(s:AQ)(e:AK):Bool:=if e.2.1=0 then decide (Ar e.1>s.2.2.1)else decide (e.2.1>s.2.2.1)
def jF(s:AQ)(e:AK):AQ×Bool:=
 if !DN s then(Dx,false)else if DL e&&(takes s e&&decide (s.2.1.length≠20))then((s.1,s.2.1++[e],s.2.2.1,()),true)else(s,false)
def dw(s:AQ)(k:Int):AQ×Bool:=
 if !DN s then(Dx,false)else
  let q:=bU s.1 (iK k 0 s.2.1)
  if BQ k 0 1048575&&decide (q.length≤200)then((q,[],s.2.2.1,()),true)else(s,false)
def gG(s:AQ):AQ×Bool:=dw s 1048575
def mw(s:AQ)(upto:Int):AQ×Bool:=
 if !DN s then(Dx,false)else
  let o:=gG s
  if o.2&&BQ upto 0 30 then((o.1.1,o.1.2.1,max o.1.2.2.1 upto,()),true)else(s,false)
def eK(s:AQ)(p:Int):Option AK:=if DN s then RC p s.1 else none
def pV(s:AQ)(ep:Int):List AK:=if DN s then s.1.filter fun e=>Ar e.1==ep else[]
def nR(s:AQ)(upto:Int):AQ×Bool:=
 if !DN s then(Dx,false)else if BO upto then((s.1.filter fun e=>decide (e.1>upto),s.2.1,s.2.2.1,()),true)else(s,false)
abbrev ZE:AN:=([],0,())
def Ug(l:List CN)(e:Int):AAA:=if BQ e 1 l.length then(l.getD (e-1).toNat Na).1 else[]
def tA(c:Cy)(r:AN)(ns:AAA):AN×Int×Bool:=
 if !Si c r then(ZE,0,false)else if holds c ns&&decide (r.1.length≠30)then((r.1++[(ns,false,0,())],r.2.1,()),(r.1.length:Int)+1,true)else(r,0,false)
def n0(l:List CN)(i:Nat)(last:Int):List CN:=l.set i ((l.getD i Na).1,true,last,())
def pj(c:Cy)(r:AN)(b last:Int):AN×Bool:=
 if !Si c r then(ZE,false)else
  if decide (b=r.1.length)&&(decide (FP r.1≠0)&&(decide (b≠FP r.1)&&BQ last 0 60))then((n0 r.1 (FP r.1-1).toNat last,r.2.1,()),true)else(r,false)
def vU(c:Cy)(r:AN)(p:Int):AN×Bool:=
 if !Si c r then(ZE,false)else if BO p&&decide (Ar p≤r.1.length)then((r.1,max r.2.1 p,()),true)else(r,false)
def nM(c:Cy)(w:AR)(d:List UInt8):AR×Int×Bool:=
 if !Fb c w then(DD,0,false)else
  if Fb c (w.1,w.2.1++[(d,[],false,())],())then((w.1,w.2.1++[(d,[],false,())],()),(w.2.1.length:Int)+1,true)else(w,0,false)
def rF(c:Cy)(n:Int)(x:BE):BE:=(x.1,oK n x.2.1,holds c (oK n x.2.1),())
def lO(n:Int)(x:BE):BE:=(x.1,if x.2.2.1 then x.2.1 else less x.2.1 [n],x.2.2.1,())
def iJ(c:Cy)(w:AR)(n:Int):AR×Bool:=
 if !Fb c w then(DD,false)else((w.1,w.2.1.map (lO n),()),true)
def Ub:List BE→Nat
 |[]=>0
 |x::l=>if x.2.2.1 then Ub l+1 else 0
def qu(e b:Int):An:=(b,e,[],[],false,[],())
def pc(c:Cy)(m:An)(n:Int)(l:List AK):An×Bool:=
 if !PZ c m then(WU,false)else
  let o:An:=(m.1,m.2.1,oK n m.2.2.1,bU m.2.2.2.1 (l.filter fun e=>Ar e.1==m.2.1),m.2.2.2.2.1,m.2.2.2.2.2.1,())
  if !m.2.2.2.2.1&&PZ c o then(o,true)else(m,false)
def py(c:Cy)(m:An)(s:AAA):An×Bool:=
 if !PZ c m then(WU,false)else
  if !m.2.2.2.2.1&&Pr c s (m.2.2.1.filter s.contains)then((m.1,m.2.1,m.2.2.1,m.2.2.2.1,true,List.replicate (QL m.2.2.2.1).toNat [],()),true)else(m,false)
def gD(m:An)(o:Int):Option AK:=
 if m.2.2.2.2.1&&(BQ m.2.1 1 30&&(BQ o 1 60&&decide (o≤m.2.2.2.2.2.1.length)))then
  match RC (Pe m.2.1 o) m.2.2.2.1 with
  |some x=>some (Pe m.2.1 o,m.1,x.2.2.1,x.2.2.2.1,())
  |none=>some (Pe m.2.1 o,m.1,true,[],())
 else none
def kc(c:Cy)(m:An)(n:Int):An×Bool:=
 if !PZ c m then(WU,false)else((m.1,m.2.1,m.2.2.1,m.2.2.2.1,m.2.2.2.2.1,m.2.2.2.2.2.1.map fun l=>less l [n],()),true)
def ml(c:Cy)(m:An):Bool:=PZ c m&&(m.2.2.2.2.1&&m.2.2.2.2.2.1.all (holds c))
def Q6(a:A0):AK:=(a.2.2.1,a.2.2.2.1,a.2.2.2.2.1,a.2.2.2.2.2.1,())
def ER(s:AAA)(p:Int):Option AK→List A0→Option AK
 |b,[]=>b
 |b,a::l=>if a.2.1&&(s.contains a.1&&(DL (Q6 a)&&(Q6 a).1==p))then
   ER s p (some (match b with|some x=>better x (Q6 a)|none=>Q6 a)) l
  else ER s p b l
def SL(p:Int):Option AK→Az
 |none=>(3,p,[],())
 |some x=>if x.2.2.1 then(2,p,[],())else(1,p,x.2.2.2.1,())
def B7(c:Cy)(g:AN)(sure:Int)(r:Ab)(l:List A0):Ab×Int:=
 if !(Si c g&&(Vi r&&Ak c (l.map fun a=>a.1)))then(Dl,1)else
 if decide (r.1>g.1.length)||decide (r.2.2.1.length=120)then(r,2)else
 let era:=g.1.getD (r.1-1).toNat Na
 let p:=Pe r.1 r.2.1
 if g.2.1≥p then((Ar g.2.1,J7 g.2.1+1,r.2.2.1++[(5,g.2.1,[],())],()),0)else
 if era.2.1&&decide (r.2.1>era.2.2.1)then((r.1+1,1,r.2.2.1++[(4,r.1+1,[],())],()),0)else
 if(!era.2.1&&decide (r.2.1>sure))||decide (r.2.1>60)then(r,2)else
 if !Pr c era.1 ((l.map fun a=>a.1).filter era.1.contains)then(r,3)else
 ((r.1,r.2.1+1,r.2.2.1++[SL p (ER era.1 p none l)],()),0)
def pQ:List AK→List AQ→List AK
 |k,[]=>k
 |k,s::l=>pQ (bU k s.1) l
def others(lost:AAA):Nat→List AQ→List AQ
 |_,[]=>[]
 |i,s::l=>if lost.contains (i:Int)then others lost (i+1) l else s::others lost (i+1) l
def ACE(c:Cy)(ss:List AQ)(lost:AAA)(n upto:Int):AQ×Bool:=
 let s:AQ:=(pQ [] (others lost 0 ss),[],upto,())
 if Ee c&&(decide (ss.length=c.1.length)&&(Ak c lost&&(!holds c lost&&(lost.contains n&&((others lost 0 ss).all DN&&DN s)))))then(s,true)else(Dx,false)
end Go.M
namespace Go.M.H.AE
open Go.M.H (AK AQ An BK AE CN AN BE AR Ab Az)
@[reducible] def CA (w:AE):List AQ:=w.2.2.1
@[reducible] def lost (w:AE):AAA:=w.2.2.2.1
@[reducible] def Nx (w:AE):List CN:=w.2.2.2.2.1
@[reducible] def trim (w:AE):Int:=w.2.2.2.2.2.1
@[reducible] def Al (w:AE):List AR:=w.2.2.2.2.2.2.1
@[reducible] def Jl (w:AE):List An:=w.2.2.2.2.2.2.2.1
@[reducible] def Aw (w:AE):List Ab:=w.2.2.2.2.2.2.2.2.1
@[reducible] def P2 (w:AE):List BK:=w.2.2.2.2.2.2.2.2.2.1
@[reducible] def lf (w:AE):Bool:=w.2.2.2.2.2.2.2.2.2.2.1
@[reducible] def NR (w:AE) (x:List AQ):AE:=(w.1,w.2.1,x,w.2.2.2)
@[reducible] def bf (w:AE) (x:AAA):AE:=(w.1,w.2.1,w.2.2.1,x,w.2.2.2.2)
@[reducible] def bu (w:AE) (x:AN):AE:=(w.1,w.2.1,w.2.2.1,w.2.2.2.1,x.1,x.2.1,w.2.2.2.2.2.2)
@[reducible] def Kv (w:AE) (x:List AR):AE:=(w.1,w.2.1,w.2.2.1,w.2.2.2.1,w.2.2.2.2.1,w.2.2.2.2.2.1,x,w.2.2.2.2.2.2.2)
@[reducible] def Ln (w:AE) (x:List An):AE:=(w.1,w.2.1,w.2.2.1,w.2.2.2.1,w.2.2.2.2.1,w.2.2.2.2.2.1,w.2.2.2.2.2.2.1,x,w.2.2.2.2.2.2.2.2)
@[reducible] def VT (w:AE) (x:List Ab):AE:=(w.1,w.2.1,w.2.2.1,w.2.2.2.1,w.2.2.2.2.1,w.2.2.2.2.2.1,w.2.2.2.2.2.2.1,w.2.2.2.2.2.2.2.1,x,w.2.2.2.2.2.2.2.2.2)
@[reducible] def X_ (w:AE) (x:List BK):AE:=(w.1,w.2.1,w.2.2.1,w.2.2.2.1,w.2.2.2.2.1,w.2.2.2.2.2.1,w.2.2.2.2.2.2.1,w.2.2.2.2.2.2.2.1,w.2.2.2.2.2.2.2.2.1,x,w.2.2.2.2.2.2.2.2.2.2)
@[reducible] def hZ (w:AE) (x:Bool):AE:=(w.1,w.2.1,w.2.2.1,w.2.2.2.1,w.2.2.2.2.1,w.2.2.2.2.2.1,w.2.2.2.2.2.2.1,w.2.2.2.2.2.2.2.1,w.2.2.2.2.2.2.2.2.1,w.2.2.2.2.2.2.2.2.2.1,x,())
end Go.M.H.AE
namespace Go.M
open Go.M.H (AK AQ An BK AE CN AN BE AR Ab Az A0 EL)
def iq:AE:=([],0,[],[],[],0,[],[],[],[],false,())
def Wr(k:Int):Bool×Bool×Bool×Bool:=
 if k=8∨k=10∨k=12 then(false,false,false,false)
 else if k=2 then(true,false,false,true)
 else if k=3 then(true,true,true,false)
 else if k=5∨k=14 then(true,true,false,false)
 else if k=11 then(false,true,true,false)
 else(true,false,false,false)
def WI(d:EL):Bool:=
 BQ d.1 1 16&&(((Wr d.1).1||d.2.1==0)&&(((Wr d.1).2.1||d.2.2.1==0)&&(((Wr d.1).2.2.1||d.2.2.2.1==0)&&(((Wr d.1).2.2.2||d.2.2.2.2.1==[])&&decide (d.2.2.2.2.1.length≤40)))))
abbrev VW:Type:=AE×Int
def Bf(w:AE)(n:Int):Int:=if !BQ n 0 ((w.CA.length:Int)-1)then 2 else if w.lost.contains n then 3 else 0
def zk(w:AE)(a:Int):VW:=
 if w.Al.length=4 then(w,4)else
 let q:=tA (C3 w) (Su w) (Aj a)
 if !q.2.2 then(w,4)else(((w.bu q.1).Kv (w.Al++[(q.2.1,[],())])).Ln [],0)
def AB_(s:BK):List BK→List BK
 |[]=>[s]
 |x::l=>if x.1>s.1 then s::x::l else x::AB_ s l
def doAdd(w:AE)(a:Int)(d:List UInt8):VW:=
 if !BQ a 0 ((w.Al.length:Int)-1)then(w,2)else
 let x:=w.Al.getD a.toNat DD
 let q:=nM (C3 w) x d
 if !q.2.2||(decide (w.P2.length=120)||w.P2.any fun s=>s.1==Pe x.1 q.2.1)then(w,4)else
 ((w.Kv (w.Al.set a.toNat q.1)).X_ (AB_ (Pe x.1 q.2.1,d,false,()) w.P2),0)
def putAt(w:AE)(n:Int)(q:AQ×Bool):VW:=if q.2 then(w.NR (w.CA.set n.toNat q.1),0)else(w,4)
def storeAt(w:AE)(n:Int):AQ:=w.CA.getD n.toNat Dx
def uC(w:AE)(a b n:Int):VW:=
 if !BQ a 0 ((w.Al.length:Int)-1)then(w,2)else
 let x:=w.Al.getD a.toNat DD
 if !BQ b 1 x.2.1.length then(w,2)else
 if Bf w n≠0 then(w,Bf w n)else
 if !(Ug w.Nx x.1).contains n then(w,2)else
 putAt w n (jF (storeAt w n) (Pe x.1 b,0,false,(x.2.1.getD (b-1).toNat vx).1,()))
def xi(s:AQ)(p:Int):Bool:=match RC p s.1 with|some e=>e.2.1==0|none=>false
def gO(c:Cy)(s:AQ)(ep n:Int):Int→List BE→List BE
 |_,[]=>[]
 |o,x::l=>(if !x.2.2.1&&xi s (Pe ep o)then rF c n x else x)::gO c s ep n (o+1) l
def pM(l:List BE)(o:Int):Bool:=BQ o 1 l.length&&(l.getD (o-1).toNat vx).2.2.1
def ABt(all:Bool)(ep:Int)(y_ new:List BE)(s:BK):BK:=
 (s.1,s.2.1,s.2.2.1||(Ar s.1==ep&&(pM new (J7 s.1)&&(all|| !pM y_ (J7 s.1)))),())
def y6(s:AQ)(l:List CN)(n:Int)(x:AR):Bool:=(Ug l x.1).contains n&&decide (s.2.2.1<x.1)
def kv(all:Bool)(c:Cy)(s:AQ)(l:List CN)(n:Int):List AR→List BK→List AR×List BK
 |[],ss=>([],ss)
 |x::ws,ss=>
  if y6 s l n x then
   let new:=gO c s x.1 n 1 x.2.1
   let q:=kv all c s l n ws (ss.map (ABt all x.1 x.2.1 new))
   ((x.1,new,())::q.1,q.2)
  else
   let q:=kv all c s l n ws ss
   (x::q.1,q.2)
def uf(m:An)(s:AQ)(o:Int):Bool:=match gD m o with|some e=>RC e.1 s.1==some e|none=>false
def gE(m:An)(s:AQ)(n:Int):Int→List AAA→List AAA
 |_,[]=>[]
 |o,x::l=>(if uf m s o then oK n x else x)::gE m s n (o+1) l
def ACV(s:AQ)(l:List CN)(n:Int)(m:An):An:=
 if(Ug l m.2.1).contains n then(m.1,m.2.1,m.2.2.1,m.2.2.2.1,m.2.2.2.2.1,gE m s n 1 m.2.2.2.2.2.1,())else m
def xE(all:Bool)(w:AE)(n:Int):VW:=
 if Bf w n≠0 then(w,Bf w n)else
 let q:=gG (storeAt w n)
 if !q.2 then(w,4)else
 let t:=kv all (C3 w) q.1 w.Nx n w.Al w.P2
 ((((w.NR (w.CA.set n.toNat q.1)).Kv t.1).X_ t.2).Ln (w.Jl.map (ACV q.1 w.Nx n)),0)
def rA(w:AE)(n k:Int):VW:=if Bf w n≠0 then(w,Bf w n)else putAt w n (dw (storeAt w n) k)
def xq(w:AE)(n:Int):VW:=
 if Bf w n≠0 then(w,Bf w n)else
 let ls:=oK n w.lost
 (((((w.NR (w.CA.set n.toNat Dx)).bf ls).Kv (w.Al.map fun x=>(iJ (C3 w) x n).1)).Ln (w.Jl.map fun m=>(kc (C3 w) m n).1)).hZ (w.lf||holds (C3 w) ls),0)
def zF(w:AE)(n:Int):VW:=
 if !w.lost.contains n then(w,2)else
 let q:=ACE (C3 w) w.CA w.lost n (max ((w.Nx.length:Int)-1) 0)
 if !q.2 then(w,4)else((w.NR (w.CA.set n.toNat q.1)).bf (less w.lost [n]),0)
def za(w:AE):VW:=
 if decide ((w.Nx.length:Int)<2)||decide (FP w.Nx=w.Nx.length)then(w,2)else
 if w.Jl.length>0 then(w,4)else(w.Ln [qu (FP w.Nx) w.Nx.length],0)
def yw(w:AE)(n:Int):VW:=
 match w.Jl with
 |[]=>(w,2)
 |m::ms=>
  if Bf w n≠0 then(w,Bf w n)else
  if !(Ug w.Nx m.2.1).contains n then(w,2)else
  let q:=mw (storeAt w n) (m.1-1)
  let t:=pc (C3 w) m n (pV q.1 m.2.1)
  if !q.2|| !t.2 then(w,4)else((w.NR (w.CA.set n.toNat q.1)).Ln (t.1::ms),0)
def xh(w:AE):VW:=
 match w.Jl with
 |[]=>(w,2)
 |m::ms=>
  let t:=py (C3 w) m (Ug w.Nx m.2.1)
  if !t.2 then(w,4)else(w.Ln (t.1::ms),0)
def AAs(w:AE)(b n:Int):VW:=
 match w.Jl with
 |[]=>(w,2)
 |m::ms=>
  match gD m b with
  |none=>(w,2)
  |some e=>
   if Bf w n≠0 then(w,Bf w n)else
   if !(Ug w.Nx m.2.1).contains n then(w,2)else putAt w n (jF (storeAt w n) e)
def sC(w:AE):VW:=
 match w.Jl with
 |[]=>(w,2)
 |m::ms=>
  if !ml (C3 w) m then(w,5)else
  let q:=pj (C3 w) (Su w) m.1 m.2.2.2.2.2.1.length
  if !q.2 then(w,4)else((w.bu q.1).Ln [],0)
def wV(w:AE)(a:Int):VW:=
 let q:=vU (C3 w) (Su w) a
 if !q.2 then(w,4)else(w.bu q.1,0)
def answer(w:AE)(p n:Int):A0:=
 match RC p (storeAt w n).1 with
 |some e=>(n,true,e.1,e.2.1,e.2.2.1,e.2.2.2.1,())
 |none=>(n,false,0,0,false,[],())
def answers(w:AE)(p:Int)(ns:AAA):List A0:=(ns.filter fun n=>Bf w n==0).map (answer w p)
def VF(w:AE)(e:Int):Int:=match w.Al.find? (fun x=>x.1==e)with|some x=>Ub x.2.1|none=>0
def A8(w:AE)(a k:Int):VW:=
 if !BQ a 0 1 then(w,2)else
 let r:=w.Aw.getD a.toNat Dl
 let q:=B7 (C3 w) (Su w) (VF w r.1) r (answers w (Pe r.1 r.2.1) (Aj k))
 if q.2≠0 then(w,5)else(w.VT (w.Aw.set a.toNat q.1),0)
def yA(w:AE)(a:Int):VW:=
 if !BQ a 0 ((w.Al.length:Int)-1)then(w,2)else(w.Kv (w.Al.eraseIdx a.toNat),0)
def qh(w:AE)(n:Int):VW:=if Bf w n≠0 then(w,Bf w n)else putAt w n (nR (storeAt w n) w.trim)
def ACA(all:Bool)(w:AE)(d:EL):VW:=
 if d.1=1 then zk w d.2.1 else
 if d.1=2 then doAdd w d.2.1 d.2.2.2.2.1 else
 if d.1=3 then uC w d.2.1 d.2.2.1 d.2.2.2.1 else
 if d.1=4 then xE all w d.2.1 else
 if d.1=5 then rA w d.2.1 d.2.2.1 else
 if d.1=6 then xq w d.2.1 else
 if d.1=7 then zF w d.2.1 else
 if d.1=8 then za w else
 if d.1=9 then yw w d.2.1 else
 if d.1=10 then xh w else
 if d.1=11 then AAs w d.2.2.1 d.2.2.2.1 else
 if d.1=12 then sC w else
 if d.1=13 then wV w d.2.1 else
 if d.1=14 then A8 w d.2.1 d.2.2.1 else
 if d.1=15 then yA w d.2.1 else qh w d.2.1
def YT(all:Bool)(w:AE)(d:EL):VW:=if !JM w|| !WI d then(iq,1)else ACA all w d
end Go.M
end
section
namespace Go.M
open Go.M.H (AK AQ An BK AE CN AN BE AR Ab Az A0 EL)
theorem LG{p:Nat→Bool}{n:Nat}:CP p 0 n=true↔ ∀i,i<n→p i=true:=
 ⟨fun h i hi=>Mh h i (by omega) (by omega),fun h=>di fun j _ hj=>h j (by omega)⟩
theorem jZ{α:Type}{l:List α}{i:Nat}{d:α}(h:i<l.length):l.getD i d=l[i]:=by simp_all
theorem L0{α:Type}{l:List α}{d:α}{P:α→Prop}:(∀i,i<l.length→P (l.getD i d))↔ ∀x∈l,P x:=by
 constructor
 ·intro h x hx
  obtain⟨i,hi,rfl⟩:=AGD hx;simp_all
 simp_all
abbrev mI{α:Type}(f:α→Int)(l:List α):Prop:=l.Pairwise fun a b=>f a<f b
theorem Wq{α:Type}{f:α→Int}{l:List α}{d:α}:(∀i,i<l.length→i=0∨f (l.getD (i-1) d)<f (l.getD i d))↔mI f l:=by
 constructor
 ·intro h
  unfold mI;rw[List.pairwise_iff_getElem];have key:∀(k i:Nat),i+k+1<l.length→f (l.getD i d)<f (l.getD (i+k+1) d):=by
   intro k
   induction k with
   |zero=>
    grind
   |succ k ih=>
    grind
  intro i j hi hj wv;have:=key (j-i-1) i (by omega);grind
 grind[List.pairwise_iff_getElem,jZ]
theorem CR{x a b:Int}:BQ x a b=true↔a≤x∧x≤b:=by simp[BQ]
theorem px{l:AAA}{hi:Int}:fR l hi=true↔(∀x∈l,0≤x∧x≤hi)∧mI id l:=by
 unfold fR;rw[LG,←L0 (d:=(0:Int)) (P:=fun x=>0≤x∧x≤hi),←Wq (d:=(0:Int))];simp only[gq,AEE,CR,AGH,AGd,AEe,id];grind
theorem aG{c:Cy}{l:AAA}:Ak c l=true↔Ee c=true∧(∀x∈l,0≤x∧x<c.1.length)∧mI id l:=by
 unfold Ak;rw[AEE,px];grind
theorem gx{l:List AK}:Rf l=true↔ ∀e∈l,DL e=true:=by
 unfold Rf;rw[LG];exact L0 (P:=fun e=>DL e=true)
theorem jQ{l:List AK}:YW l=true↔mI (fun e:AK=>e.1) l:=by
 unfold YW;rw[LG,←Wq (d:=B3)];simp_all
structure wE (s:AQ):Prop where
 nk:s.1.length≤200
 kept:∀e∈s.1,DL e=true
 nl:s.2.1.length≤20
 late:∀e∈s.2.1,DL e=true
 asc:mI (fun e:AK=>e.1) s.1
 sl:0≤s.2.2.1∧s.2.2.1≤30
theorem WA{s:AQ}:DN s=true↔wE s:=by
 unfold DN;simp only[AEE,AEe,gx,jQ,CR];exact⟨fun⟨⟨a,b⟩,⟨c,d⟩,e,f⟩=>⟨a,b,c,d,e,f⟩,fun h=>⟨⟨h.nk,h.kept⟩,⟨h.nl,h.late⟩,h.asc,h.sl⟩⟩
structure EOk (e:AK):Prop where
 pl:BO e.1=true
 w0:0≤e.2.1∧e.2.1≤30
 w1:0<e.2.1→Ar e.1<e.2.1
 len:e.2.2.2.1.length≤40
 hole:e.2.2.1=true→0<e.2.1∧e.2.2.2.1=[]
theorem Ea{e:AK}:DL e=true↔EOk e:=by
 unfold DL;simp only[AEE,AGH,AGl,AEe,AGz,CR,AGd];constructor
 ·rintro⟨a,b,c,d,e⟩
  refine⟨a,b,fun h=>c.resolve_left fun hn=>hn h,d,fun h=>e.resolve_left fun hn=> ?_⟩;simp_all
 ·intro h
  refine⟨h.pl,h.w0,?_,h.len,?_⟩
  ·by_cases hw:0<e.2.1
   ·exact .inr (h.w1 hw)
   omega
  ·cases hh:e.2.2.1 with
   |false=>simp_all
   |true=>exact .inr (h.hole hh)
structure sy (c:Cy) (m:An):Prop where
 cfg:Ee c=true
 ep:1≤m.2.1∧m.2.1≤30
 b:m.2.1+1≤m.1∧m.1≤30
 sld:Ak c m.2.2.1=true
 asc:mI (fun e:AK=>e.1) m.2.2.2.1
 seen:∀e∈m.2.2.2.1,DL e=true∧Ar e.1=m.2.1∧e.2.1<m.1
 wrote:∀l∈m.2.2.2.2.2.1,Ak c l=true
 n:(m.2.2.2.2.2.1.length:Int)=if m.2.2.2.2.1 then QL m.2.2.2.1 else 0
theorem kQ{c:Cy}{m:An}:PZ c m=true↔sy c m:=by
 unfold PZ gY cT;simp only[AEE,CR,jQ,LG,fw,AGd,AEe];rw[L0 (d:=B3) (P:=fun e=>DL e=true∧Ar e.1=m.2.1∧e.2.1<m.1),L0 (d:=([]:AAA)) (P:=fun l=>Ak c l=true)];have:(m.2.2.2.2.2.1.length:Int)=cond m.2.2.2.2.1 (QL m.2.2.2.1) 0↔(m.2.2.2.2.2.1.length:Int)=if m.2.2.2.2.1 then QL m.2.2.2.1 else 0:=by
  grind
 rw[this];exact⟨fun⟨a,b,c,d,e,f,g,h⟩=>⟨a,b,c,d,e,f,g,h⟩,fun h=>⟨h.cfg,h.ep,h.b,h.sld,h.asc,h.seen,h.wrote,h.n⟩⟩
structure ROk (c:Cy) (r:AN):Prop where
 cfg:Ee c=true
 n:r.1.length≤30
 trim:r.2.1=0∨(BO r.2.1=true∧Ar r.2.1≤r.1.length)
 Nx:∀e∈r.1,holds c e.1=true∧(0≤e.2.2.1∧e.2.2.1≤60)∧(e.2.1=false→e.2.2.1=0)
 down:∀i,i<r.1.length→(r.1.getD i Na).2.1=true→i+1<r.1.length∧ ∀j,j<i→(r.1.getD j Na).2.1=true
theorem Uq{c:Cy}{r:AN}:Si c r=true↔ROk c r:=by
 unfold Si Xd;simp only[AEE,AEe,AGH,AGd,LG,iT,cE,CR,AGl,Bool.and_eq_false_iff,Bool.or_eq_false_iff,AGz,AGs];constructor
 ·rintro⟨a,b,c1,d⟩
  refine⟨a,b,c1,(L0 (d:=Na) (P:=fun e=>holds c e.1=true∧(0≤e.2.2.1∧e.2.2.1≤60)∧(e.2.1=false→e.2.2.1=0))).1 fun i hi=> ?_,fun i hi hc=> ?_⟩
  ·grind
  ·have step:∀k,k<r.1.length→(r.1.getD k Na).2.1=true→k+1<r.1.length∧(0<k→(r.1.getD (k-1) Na).2.1=true):=fun k hk hkc=>by
    rcases(d k hk).2 with h|⟨h1,h2⟩
    ·simp_all
    ·refine⟨by omega,fun h0=> ?_⟩
     simp_all
   refine⟨(step i hi hc).1,?_⟩;clear hi
   induction i with
   |zero=>omega
   |succ i ih=>
    intro j hj;have LH:i+1<r.1.length:=by
     rcases Nat.lt_or_ge (i+1) r.1.length with h|h
     ·omega
     ·simp[List.getD,h]at hc
      cases hc
    grind
 ·intro h
  refine⟨h.cfg,h.n,h.trim,fun i hi=>⟨?_,?_⟩⟩
  ·obtain⟨h1,h2,h3⟩:=h.Nx _ (Bt (d:=Na) hi)
   grind
  ·cases hb:(r.1.getD i Na).2.1 with
   |false=>simp_all
   |true=>
    obtain⟨h1,h2⟩:=h.down i hi hb;grind
structure oO (c:Cy) (w:AR):Prop where
 cfg:Ee c=true
 ep:1≤w.1∧w.1≤30
 n:w.2.1.length≤60
 words:∀x∈w.2.1,x.1.length≤40∧Ak c x.2.1=true∧x.2.2.1=holds c x.2.1
 opn:YG w.2.1≤6
theorem gi{c:Cy}{w:AR}:Fb c w=true↔oO c w:=by
 unfold Fb le6 VS;simp only[AEE,AEe,CR,AGT,AGd];exact⟨fun⟨a,b,c,d,e⟩=>⟨a,b,c,d,e⟩,fun h=>⟨h.cfg,h.ep,h.n,h.words,h.opn⟩⟩
structure sf (r:Ab):Prop where
 ep:1≤r.1∧r.1≤31
 off:1≤r.2.1∧r.2.1≤61
 n:r.2.2.1.length≤120
theorem RN{r:Ab}:Vi r=true↔sf r:=by
 unfold Vi;simp only[AEE,AEe,CR];exact⟨fun⟨a,b,c⟩=>⟨a,b,by omega⟩,fun h=>⟨h.ep,h.off,by have:=h.n;omega⟩⟩
structure Z_ (w:AE):Prop where
 cfg:Ee (C3 w)=true
 wF:w.CA.length=w.1.length
 lost:Ak (C3 w) w.lost=true
 lf:w.lf=true∨holds (C3 w) w.lost=false
 CA:∀i,i<w.CA.length→wE (w.CA.getD i Dx)∧((i:Int)∈w.lost→w.CA.getD i Dx=Dx)
 tc:ROk (C3 w) (Su w)
 xU:w.Al.length≤4
 nmd:w.Jl.length≤1
 Al:∀x∈w.Al,oO (C3 w) x∧x.1≤w.Nx.length
 ABQ:mI (fun x:AR=>x.1) w.Al
 Jl:∀m∈w.Jl,sy (C3 w) m∧m.1=w.Nx.length∧m.2.1=FP w.Nx
 v8:w.Aw.length=2
 Aw:∀r∈w.Aw,sf r
 kG:w.P2.length≤120
 P2:∀s∈w.P2,BO s.1=true∧Ar s.1≤w.Nx.length∧s.2.1.length≤40
 ABU:mI (fun s:BK=>s.1) w.P2
theorem LS{w:AE}:JM w=true↔Z_ w:=by
 unfold JM;simp only[AEE,AEe,Wi,Ui,Xf,fZ,WT,LG,ZS,Wo,fb,gC,AGH,AGl,AGd,WA,Uq,gi,kQ,RN];have hz:∀s:AQ,(s.1.length=0∧s.2.1.length=0∧s.2.2.1=0)↔s=Dx:=fun s=>by
  grind
 simp only[hz];constructor
 ·rintro⟨h1,h2,h3,h4,h5,h6,h7,h8,h9,h10,⟨h11,h12,h13⟩,h14,h15⟩
  refine⟨h1,h2,h3,h4,fun i hi=>⟨(h5 i hi).1,fun hm=>(h5 i hi).2.resolve_left fun hc=> ?_⟩,h6,h7,h8,?_,?_,?_,h11,?_,h14,?_,?_⟩
  ·simp_all
  ·exact(L0 (d:=DD) (P:=fun x:AR=>oO (C3 w) x∧x.1≤w.Nx.length)).1 fun i hi=>⟨(h9 i hi).1,(h9 i hi).2.1⟩
  ·exact(Wq (f:=fun x:AR=>x.1) (d:=DD)).1 fun i hi=>(h9 i hi).2.2
  ·exact(L0 (d:=WU) (P:=fun m:An=>sy (C3 w) m∧m.1=w.Nx.length∧m.2.1=FP w.Nx)).1 h10
  ·refine(L0 (d:=Dl) (P:=sf)).1 fun i hi=> ?_
   rw[h11]at hi;rcases(by omega:i=0∨i=1)with rfl|rfl
   all_goals omega
  ·exact(L0 (d:=H_) (P:=fun s:BK=>BO s.1=true∧Ar s.1≤w.Nx.length∧s.2.1.length≤40)).1 fun i hi=>⟨(h15 i hi).1.1,(h15 i hi).1.2,(h15 i hi).2.1⟩
  ·exact(Wq (f:=fun s:BK=>s.1) (d:=H_)).1 fun i hi=>(h15 i hi).2.2
 ·intro h
  refine⟨h.cfg,h.wF,h.lost,h.lf,fun i hi=>⟨(h.CA i hi).1,?_⟩,h.tc,h.xU,h.nmd,fun i hi=> ?_,fun i hi=>h.Jl _ (Bt hi),⟨h.v8,h.Aw _ (Bt (by rw[h.v8];omega)),h.Aw _ (Bt (by rw[h.v8];omega))⟩,h.kG,fun i hi=> ?_⟩
  ·by_cases hm:(i:Int)∈w.lost
   ·exact .inr ((h.CA i hi).2 hm)
   simp_all
  ·have:=h.Al _ (Bt (d:=DD) hi)
   exact⟨this.1,this.2,(Wq (f:=fun x:AR=>x.1) (d:=DD)).2 h.ABQ i hi⟩
  ·have:=h.P2 _ (Bt (d:=H_) hi)
   exact⟨⟨this.1,this.2.1⟩,this.2.2,(Wq (f:=fun s:BK=>s.1) (d:=H_)).2 h.ABU i hi⟩
end Go.M
end
section
namespace Go.M
open Go.M.H (AK AQ An BK AE CN AN BE AR Ab Az A0 EL)
theorem cm{c:Cy}{l:AAA}(p:Int→Bool)(h:Ak c l=true):Ak c (l.filter p)=true:=by
 grind[aG]
abbrev w9(l:List AK):Prop:=mI (fun e:AK=>e.1) l
theorem fp{p:Int}{l:List AK}{e:AK}(h:RC p l=some e):e∈l∧e.1=p:=by
 grind[RC,List.mem_of_find?_eq_some]
theorem aM{e:AK}:∀{l:List AK},w9 l→e∈l→RC e.1 l=some e
 |x::l,h,he=>by
  simp only[mI,List.pairwise_cons]at h;unfold RC;rw[AG6];rcases AGO.1 he with rfl|he
  ·simp
  ·have:=h.1 e he
   have aB:(x.1==e.1)=false:=by grind
   rw[aB];exact aM h.2 he
end Go.M
end
section
namespace Go.M
open Go.M.H (AK AQ An BK AE CN AN BE AR Ab Az A0 EL)
theorem LP{p:Int}(h:BO p=true):(1≤Ar p∧Ar p≤30)∧(1≤J7 p∧J7 p≤60)∧Pe (Ar p) (J7 p)=p:=by
 have h0:=aR h;have h1:=h;unfold BO at h1;rw[AEE,CR,CR]at h1;have e1:Ar p=VU p:=by unfold Ar;rw[ADW h]
 grind[J7,Pe,VU,Int.tdiv_eq_ediv_of_nonneg,Int.tmod_eq_emod_of_nonneg]
theorem iY{l:List AK}:0≤QL l∧QL l≤60:=by
 unfold QL;cases l.length==0 with
 |true=>simp
 |false=>
  simp only[AEt];rcases AE8 (BO (l.getD (l.length-1) B3).1)with h|h
  ·have:=(LP h).2.1;omega
  grind[J7]
theorem eu{c:Cy}{g:AN}{sure:Int}{r:Ab}{l:List A0}(h:(B7 c g sure r l).2=0):sf (B7 c g sure r l).1:=by
 unfold B7 at*;split at h
 ·omega
 rename_i hs;rw[AEK hs];simp only[AGc,AGs,AEE,Uq,RN]at hs;obtain⟨hg,hr,_⟩:=hs;have r1:=hr.ep;have r2:=hr.off;have r3:=hr.n;split at h
 ·omega
 rename_i h1;rw[AEK h1];simp only[AGH,AEe,not_or]at h1;have hn:=hg.n;simp only at h⊢;split at h
 ·rename_i h2
  rw[ADW h2];have hp:BO g.2.1=true:=by
   rcases hg.trim with ht|ht
   all_goals grind[Pe]
  obtain⟨a1,a2,_⟩:=LP hp;exact⟨by grind,by grind,by grind⟩
 ·rename_i h2
  rw[AEK h2];split at h
  ·rename_i h3
   rw[ADW h3];exact⟨by grind,by simp_all,by simp_all;omega⟩
  ·rename_i h3
   rw[AEK h3];split at h
   ·omega
   rename_i h4;rw[AEK h4];simp only[AGH,AEe,not_or]at h4;split at h
   ·omega
   rename_i h5;rw[AEK h5];exact⟨by omega,by grind,by simp_all;omega⟩
end Go.M
end
section
namespace Go.M
open Go.M.H (AK AQ An BK AE CN AN BE AR Ab Az A0 EL)
theorem AU{α β:Type}(a:α)(f:α→Option β):(some a).bind f=f a:=rfl
theorem UN{l m:AAA}(hl:l.length≤2^30)(hm:m.length≤2^30):∀(n i:Nat) (b:AAA),i≤l.length→l.length-i<n→b.length≤i→
  Ic n l m i b=some (((),()),(b++less (l.drop i) m,()))
 |0,i,b,_,h,_=>by omega
 |n+1,i,b,hi,h,hb=>by
  simp only[Ic,Tz,AA];have c2:b.length+1≤Ej:=by rw[Ay];omega
  by_cases hc:i<l.length
  ·have c1:(0:Int)≤(i:Int)∧(i:Int)<(l.length:Int):=by omega
   rw[ADW c1.2];simp only[ADW c1,ADW c2];rw[AG (by omega) (by omega),show((i:Int)+1)=((i+1:Nat):Int)by omega,AO hc,drop_cons hc,Ys (by omega)];simp only[AU,less,AGe];cases hx:m.contains l[i]with
   |true=>
    simp only[AEl,AEt,AFZ,AFg];exact UN hl hm n (i+1) _ (by omega) (by omega) (by omega)
   |false=>
    simp only[AGg,AF7,AGF];rw[UN hl hm n (i+1) _ (by omega) (by omega) (by simp_all)];simp[less]
  ·rw[AEK (by omega),AF1 (by omega)]
   simp[less]
theorem MN{l m:AAA}(hl:l.length≤2^30)(hm:m.length≤2^30):IQ l m=some (((),()),(less l m,())):=by
 grind[IQ,TN,UN,AL,AH]
theorem Vn{e o:Int}(he: -1000≤e∧e≤1000)(ho: -1000≤o∧o≤1000):Mr e o=some ((Pe e o,()),()):=by
 grind[Mr,Pe,AG]
theorem cI{s:AQ}(h1:s.1.length≤2^30)(h2:s.2.1.length≤2^30):Fv s=some ((((),(),s.2.2.1,()),()),(s.1,s.2.1,())):=by
 unfold Fv;rw[ADW (by rw[Ay];omega),ADW (by rw[Ay];omega)]
theorem WR{a b:AK}:Oi a b=some ((better a b,()),()):=by
 unfold Oi better;grind
theorem XS{s:AQ}(h:H.Aa s≤2^30):s.1.length≤2^30∧s.2.1.length≤2^30:=by
 grind[H.AF,H.Ag,H.Aa]
theorem fP{l:List AK}{p:Int}(hl:l.length≤2^30):VK l p=some ((((RC p l).getD B3,(RC p l).isSome,()),()),()):=by
 have key:∀(n i:Nat),i≤l.length→l.length-i<n→KD n l p i 0 0 false []=some ((((RC p (l.drop i)).getD B3,(RC p (l.drop i)).isSome,()),()),()):=by
  intro n
  induction n with
  |zero=>omega
  |succ n ih=>
   intro i hi h;simp only[KD,Un,AA];by_cases hc:i<l.length
   ·have c1:(0:Int)≤(i:Int)∧(i:Int)<(l.length:Int):=by omega
    rw[ADW c1.2];simp only[ADW c1];rw[AG (by omega) (by omega),show((i:Int)+1)=((i+1:Nat):Int)by omega,AO hc,drop_cons hc,ih (i+1) (by omega) (by omega)];simp only[RC,AG6];cases l[i].1==p<;>rfl
   ·rw[AEK (by omega),AF1 (by omega)]
    rfl
 grind[VK,US,AL,AH]
end Go.M
end
section
namespace Go.M
open Go.M.H (AK AQ An BK AE CN AN BE AR Ab Az A0 EL Aa AJ AF Ag)
theorem pH{k:Int}{i:Nat}(hk:0≤k∧k<2^63)(hi:i≤63):(o8 .i64 (k.fdiv (2^(min i 64))) 1==1)=decide ((k/2^i)%2=1):=by
 obtain⟨m,rfl⟩:∃m:Nat,k=m:=⟨k.toNat,by omega⟩;rw[show min i 64=i by omega];have h1:(m:Int).fdiv (2^i)=((m/2^i:Nat):Int):=by
  grind
 have h2:(m:Int)/2^i=((m/2^i:Nat):Int):=by norm_cast
 have h3:m/2^i<2^63:=Nat.lt_of_le_of_lt (Nat.div_le_self _ _) (by omega);rw[h1,h2,show(1:Int)=((1:Nat):Int)from rfl,o_ h3 (by omega),Nat.and_one_is_mod];rfl
end Go.M
end
section
namespace Go.M
open Go.M.H (AK AQ An BK AE CN AN BE AR Ab Az A0 EL Aa AJ AF AM Ag BS Aq AS CE)
theorem cc{r:AN}(hl:AJ BS r.1≤2^30):FW r=some ((((),r.2.1,()),()),(r.1,())):=by
 have l1:=AF (f:=BS) (l:=r.1);have key:∀(n i:Nat) (b:List CN),i≤r.1.length→r.1.length-i<n→b.length≤i→I5 n i r.1 r.2.1 0 [] r.2.1 b=some ((((),r.2.1,()),()),(b++r.1.drop i,())):=by
  intro n
  induction n with
  |zero=>omega
  |succ n ih=>
   intro i b hi hn hb;simp only[I5,TZ,AA];by_cases hc:i<r.1.length
   ·have c1:(0:Int)≤(i:Int)∧(i:Int)<(r.1.length:Int):=by omega
    have hm:=AM (f:=BS) (ADz hc)
    replace hm:r.1[i].1.length≤AJ BS r.1:=hm
    rw[ADW c1.2,ADW c1,AG (by omega) (by omega),show((i:Int)+1)=((i+1:Nat):Int)by omega,AO hc,ADW (by rw[Ay];omega),ADW (by rw[Ay];omega),drop_cons hc,ih (i+1) _ (by omega) (by omega) (by simp_all),AEJ];rfl
   grind
 grind[FW,TM,AL,AH]
section
variable{c:Cy} {r:AN} (hc:c.1.length≤2^40) (hl:AJ BS r.1≤2^30) (ht:Hd r.2.1)
include hc hl ht
end
theorem eF{w:AR}(hl:AJ Aq w.2.1≤2^30):Fq w=some (((w.1,(),()),()),(w.2.1,())):=by
 have l1:=AF (f:=Aq) (l:=w.2.1);have key:∀(n i:Nat) (b:List BE),i≤w.2.1.length→w.2.1.length-i<n→b.length≤i→I8 n i w.1 w.2.1 0 [] w.1 b=some (((w.1,(),()),()),(b++w.2.1.drop i,())):=by
  intro n
  induction n with
  |zero=>omega
  |succ n ih=>
   intro i b hi hn hb;simp only[I8,S_,AA];by_cases hc:i<w.2.1.length
   ·have c1:(0:Int)≤(i:Int)∧(i:Int)<(w.2.1.length:Int):=by omega
    have hm:w.2.1[i].1.length+w.2.1[i].2.1.length≤AJ Aq w.2.1:=AM (f:=Aq) (ADz hc);rw[ADW c1.2,ADW c1,AG (by omega) (by omega),show((i:Int)+1)=((i+1:Nat):Int)by omega,AO hc,ADW (by rw[Ay];omega),ADW (by rw[Ay];omega),drop_cons hc,ih (i+1) _ (by omega) (by omega) (by simp_all),AEJ];rfl
   grind
 grind[Fq,S2,AL,AH]
section
variable{c:Cy} {w:AR} (hc:c.1.length≤2^40) (hl:AJ Aq w.2.1≤2^21)
include hc hl
end
end Go.M
end
section
namespace Go.M
open Go.M.H (AK AQ An BK AE CN AN BE AR Ab Az A0 EL Aa AJ AF AM Ag BS Aq AS CE A6 BT)
section
variable{m:An} (hm:A6 m≤2^21)
include hm
theorem nV:m.2.2.1.length≤2^21∧m.2.2.2.1.length≤2^21∧m.2.2.2.2.2.1.length≤2^21∧ ∀l∈m.2.2.2.2.2.1,l.length≤2^21:=by
 have l1:=AF (f:=Ag) (l:=m.2.2.2.1);have l2:=AF (f:=BT) (l:=m.2.2.2.2.2.1);have hm':m.2.2.1.length+(AJ Ag m.2.2.2.1+(AJ BT m.2.2.2.2.2.1+0))≤2^21:=by
  grind[A6]
 refine⟨by omega,by omega,by omega,fun l hl=> ?_⟩;have:l.length≤AJ BT m.2.2.2.2.2.1:=AM (f:=BT) hl;omega
theorem cf:Ec m=some (((m.1,m.2.1,(),(),m.2.2.2.2.1,(),()),()),(m.2.2.1,m.2.2.2.1,m.2.2.2.2.2.1,())):=by
 obtain⟨h1,h2,h3,h4⟩:=nV hm;have key:∀(n i:Nat) (b:List AAA),i≤m.2.2.2.2.2.1.length→m.2.2.2.2.2.1.length-i<n→b.length≤i→
   Dw n i m.1 m.2.1 m.2.2.1 m.2.2.2.1 m.2.2.2.2.1 m.2.2.2.2.2.1 0 0 false [] [] [] m.1 m.2.1 m.2.2.2.2.1 m.2.2.1 m.2.2.2.1 b=some (((m.1,m.2.1,(),(),m.2.2.2.2.1,(),()),()),(m.2.2.1,m.2.2.2.1,b++m.2.2.2.2.2.1.drop i,())):=by
  intro n
  induction n with
  |zero=>omega
  |succ n ih=>
   intro i b hi hn hb;simp only[Dw,MF,AA];by_cases hc:i<m.2.2.2.2.2.1.length
   ·have c1:(0:Int)≤(i:Int)∧(i:Int)<(m.2.2.2.2.2.1.length:Int):=by omega
    have hq:=h4 _ (ADz hc);rw[ADW c1.2,ADW c1,AG (by omega) (by omega),show((i:Int)+1)=((i+1:Nat):Int)by omega,AO hc,ADW (by rw[Ay];omega),ADW (by rw[Ay];omega),drop_cons hc,ih (i+1) _ (by omega) (by omega) (by simp_all),AEJ];rfl
   grind
 unfold Ec IK;rw[ADW (by rw[Ay];omega),ADW (by rw[Ay];omega)];grind[AL,AH]
end
theorem eN{l s:AAA}(hl:l.length≤2^21)(hs:s.length≤2^21):Gu l s=some (((),()),(l.filter s.contains,())):=by
 unfold Gu;rw[MN (by omega) (by omega)];simp only[AU];have zW:(less l s).length≤l.length:=AGK _ _;rw[MN (by omega) (by omega)];grind[AU,less,List.filter_congr]
theorem du{c:Cy}{s l:AAA}(hc:c.1.length≤2^40)(hl:l.length≤2^21)(hs:s.length≤2^21):Gv c s l=some ((Pr c s l,()),()):=by
 unfold Gv Pr;rw[show(c.1,c.2.1,())=c from rfl,OX (l:=s) hc (by omega),EJ (l:=l) hc (by omega),MN (l:=l) (m:=s) (by omega) (by omega),MN (l:=s) (m:=l) (by omega) (by omega)];simp only[AU];rcases AE8 (holds c s)with h|h
 rotate_left
 ·simp_all
 rw[h];cases Ak c l with
 |false=>rfl
 |true=>
  simp only[AEl,AEt,AFd];have hn:Ak c (less s l)=true:=cm _ (aJ h);by_cases ha:(less l s).length>0
  ·rw[show decide (((less l s).length:Int)>0)=true by simp_all]
   have:l.all s.contains=false:=by
    rw[Bool.eq_false_iff];grind[List.all_eq_true,less,List.filter_eq_nil_iff]
   grind
  ·rw[AG0 (show¬((less l s).length:Int)>0 by omega)]
   have:l.all s.contains=true:=by
    grind[less,List.length_eq_zero_iff,List.filter_eq_nil_iff,List.all_eq_true]
   rw[this];simp only[AEt,AFd];rw[Wc hn];simp only[AU,holds,hn,AFd];grind[ZG,less,decide_eq_true,decide_eq_false]
section
variable{c:Cy} {m:An} (hc:c.1.length≤2^40) (hm:A6 m≤2^21) (h:mZ m.2.2.2.1)
include hc hm h
end
end Go.M
end
section
namespace Go.M
open Go.M.H (AK AQ An BK AE CN AN BE AR Ab Az A0 EL Aa A6 AJ AF AM Ag BS)
theorem Hg{α:Type}{b:Bool}{x y:α}:cond (!b) x y=cond b y x:=by simp_all
theorem L_{α:Type}{a b:Int}{x y:α}:cond (a !=b) x y=if a=b then y else x:=by
 simp_all
theorem jR{α:Type}{a b:Int}{x y:α}:cond (a==b) x y=if a=b then x else y:=by
 simp_all
theorem ZF{c:Cy}{l:List A0}(hc:c.1.length≤2^40)(hl:l.length≤2^21):
  UB c l=some ((((),Ak c (l.map fun a=>a.1),()),()),(l.map (fun a=>a.1),())):=by
 have key:∀(n i:Nat) (b:AAA),i≤l.length→l.length-i<n→b.length=i→
   Gi n l i c.1 c.2.1 b=some ((((),Ak c (b++(l.drop i).map fun a=>a.1),()),()),(b++(l.drop i).map (fun a=>a.1),())):=by
  intro n
  induction n with
  |zero=>omega
  |succ n ih=>
   intro i b hi h hb;simp only[Gi,QD,AA];by_cases Vy:i<l.length
   ·have c1:(0:Int)≤(i:Int)∧(i:Int)<(l.length:Int):=by omega
    have c2:b.length+1≤Ej:=by rw[Ay];omega
    rw[ADW c1.2,ADW c1,ADW c2,AG (by omega) (by omega),show((i:Int)+1)=((i+1:Nat):Int)by omega,AO Vy,ih (i+1) _ (by omega) (by omega) (by simp_all),drop_cons Vy];grind
   ·rw[AEK (by omega),AF1 (by omega),AGn,AFp,show(c.1,c.2.1,())=c from rfl,EJ hc (by omega)]
    rfl
 have:=key AL 0 [] (by omega) (AH (by omega)) rfl;rw[show((0:Nat):Int)=0 from rfl,AGy,AFO]at this;exact this
theorem Pq{r:Ab}(h:r.2.2.1.length≤2^30):Ax r=some (((r.1,r.2.1,(),()),()),(r.2.2.1,())):=by
 unfold Ax;rw[ADW (by rw[Ay];omega)]
theorem Vu{r:Ab}{e:Az}{x y:Int}(h:r.2.2.1.length≤2^30):ES r e x y=some (((x,y,(),()),()),(r.2.2.1++[e],())):=by
 unfold ES;rw[show(r.1,r.2.1,r.2.2.1,())=r from rfl,Pq h];simp only[AU];rw[ADW (by rw[Ay];omega)]
theorem aY{s:AAA}{p:Int}{l:List A0}(hs:s.length≤2^21)(hl:l.length≤2^21)(XD:∀a∈l,Hd a.2.2.1):
  G1 s p l=some ((SL p (ER s p none l),()),()):=by
 have key:∀(n i:Nat) (b:Option AK),i≤l.length→l.length-i<n→
   He n s p l b.isSome i 0 0 [] (b.getD B3).1 (b.getD B3).2.1 (b.getD B3).2.2.1 (b.getD B3).2.2.2.1=some ((SL p (ER s p b (l.drop i)),()),()):=by
  intro n
  induction n with
  |zero=>omega
  |succ n ih=>
   intro i b hi h;simp only[He,SX,AA,Hg];by_cases Vy:i<l.length
   ·have c1:(0:Int)≤(i:Int)∧(i:Int)<(l.length:Int):=by omega
    rw[ADW c1.2,ADW c1,AG (by omega) (by omega),show((i:Int)+1)=((i+1:Nat):Int)by omega,AO Vy,drop_cons Vy];have ih':=fun b=>ih (i+1) b (by omega) (by omega)
    simp only[ih'];rw[Ys (by omega),show(l[i].2.2.1,l[i].2.2.2.1,l[i].2.2.2.2.1,l[i].2.2.2.2.2.1,())=Q6 l[i]from rfl];rw[P1 (e:=Q6 l[i]) (XD _ (ADz Vy))];simp only[AU,ER];cases h1:l[i].2.1 with
    |false=>simp
    |true=>
     cases h2:s.contains l[i].1 with
     |false=>simp
     |true=>
      cases h3:DL (Q6 l[i])with
      |false=>simp
      |true=>
       simp only[AF7,AFd];by_cases h4:l[i].2.2.1=p
       ·rw[L_,ADW h4,ADW (by show((Q6 l[i]).1==p)=true;rw[AGd];exact h4)]
        cases b with
        |none=>
         simp only[AGS,AEt,WR,AU,Option.getD_none];have:=ih' (some (Q6 l[i]));simp only[AGf,AGq]at this;have hb:better (Q6 l[i]) (Q6 l[i])=Q6 l[i]:=by unfold better;simp_all
         simp_all
        |some x=>
         simp only[AGf,AF7,AGq];rw[show(x.1,x.2.1,x.2.2.1,x.2.2.2.1,())=x from rfl];grind[WR,AU,better,Q6,Option.isSome_some]
       ·rw[L_,AEK h4,AEK (by show¬((Q6 l[i]).1==p)=true;rw[AGd];exact h4)]
   ·rw[AEK (by omega),AF1 (by omega)]
    simp only[ER];cases b with
    |none=>rfl
    |some x=>
     simp only[AGf,AF7,AGq,SL];grind
 exact key AL 0 none (by omega) (AH (by omega))
theorem YQ{x:Int}:0≤J7 x∧J7 x≤60:=by
 cases h:BO x with
 |true=>have:=(LP h).2.1;omega
 |false=>unfold J7;simp_all
def lz(q:Ab×Int):Tj:=((((q.1.1,q.1.2.1,(),()),q.2,()),()),(q.1.2.2.1,()))
theorem Xj{c:Cy}{g:AN}{sure:Int}{r:Ab}{l:List A0}(hc:c.1.length≤2^21)(hg:AJ BS g.1≤2^21)(ht:Hd g.2.1)(hl:l.length≤2^21)(XD:∀a∈l,Hd a.2.2.1):
  Ki c g sure r l=some (lz (B7 c g sure r l)):=by
 unfold Ki B7;rw[show(c.1,c.2.1,())=c from rfl,show(g.1,g.2.1,())=g from rfl,show(r.1,r.2.1,r.2.2.1,())=r from rfl,ZF (by omega) hl,W7 (by omega) (by omega) ht,JP];simp only[AU,Hg,AA];cases h1:Si c g with
 |false=>rfl
 |true=>
 cases h2:Vi r with
 |false=>rfl
 |true=>
 cases h3:Ak c (l.map fun a=>a.1)with
 |false=>rfl
 |true=>
 have hr:=RN.1 h2;have hre:=hr.ep;have hro:=hr.off;have hrn:=hr.n;have hR:=Uq.1 h1;have hRn:=hR.n;simp only[AF7,AFd,AEl,AFZ,AFg];rw[Pq (by omega)];simp only[AU];by_cases h4:r.1>(g.1.length:Int)
 ·rw[ADW h4,AGZ h4];rfl
 rw[AEK h4,AG0 h4];by_cases h5:r.2.2.1.length=120
 ·rw[show(((r.2.2.1.length:Nat):Int)==120)=true by simp_all,AGZ h5];rfl
 rw[show(((r.2.2.1.length:Nat):Int)==120)=false by grind,AG0 h5];simp only[AEt,AGM,AFZ,AFg];rw[AG (x:=r.1-1) (by omega) (by omega),ADW (by omega),Vn (by omega) (by omega),HW ht,XG ht];simp only[AU];have hto:=YQ (x:=g.2.1);rw[AG (x:=J7 g.2.1+1) (by omega) (by omega),AG (x:=r.1+1) (by omega) (by omega),AG (x:=r.2.1+1) (by omega) (by omega)];simp only[Vu (r:=r) (by omega),AU];by_cases h6:g.2.1≥Pe r.1 r.2.1
 ·rw[ADW h6,ADW h6];rfl
 rw[AEK h6,AEK h6]
 generalize pY:g.1.getD (r.1-1).toNat Na=era
 have RF:(r.1-1).toNat<g.1.length:=by omega
 have WQ:era.1.length≤2^21:=by
  have h7:=AM (f:=BS) (Bt (d:=Na) RF);rw[pY]at h7;have:BS era=era.1.length:=rfl;omega
 have tail:((Gu (l.map fun a=>a.1) era.1).bind fun l7=>
   (Gv c era.1 l7.2.1).bind fun wU=>
   cond (wU.1.1)
    ((G1 era.1 (Pe r.1 r.2.1) l).bind fun qD=>
    some ((((r.1,r.2.1+1,(),()),0,()),()),(r.2.2.1++[(qD.1.1.1,qD.1.1.2.1,qD.1.1.2.2.1,())],())))
    (some ((((r.1,r.2.1,(),()),3,()),()),(r.2.2.1,()))))=
   some (lz (if !Pr c era.1 ((l.map fun a=>a.1).filter era.1.contains)then(r,3)else
    ((r.1,r.2.1+1,r.2.2.1++[SL (Pe r.1 r.2.1) (ER era.1 (Pe r.1 r.2.1) none l)],()),0))):=by
  have hf:((l.map fun a=>a.1).filter era.1.contains).length≤2^21:=AGG (AGK _ _) (by simp_all);rw[eN (by simp_all) WQ,aY WQ hl XD];simp only[AU];rw[du (by omega) hf WQ];simp only[AU,Vu (r:=r) (by omega)];cases Pr c era.1 ((l.map fun a=>a.1).filter era.1.contains)<;>rfl
 have hd:g.1.getD (r.1-1).toNat ([],false,0,())=era:=pY;rw[hd];simp only[tail];cases h7:era.2.1 with
 |true=>
  simp only[AF7,AEt,AFd,AEl,AG1,AGM,AEe];by_cases h8:r.2.1>era.2.2.1
  ·rw[ADW h8,ADW h8];rfl
  rw[AEK h8,AEK h8];by_cases h9:r.2.1>60
  ·rw[ADW h9,ADW h9];rfl
  grind
 |false=>
  simp only[AF7,AEt,AFd,AGg,AG1,AFZ,AFg,AGH,AEe];by_cases h8:r.2.1>sure
  ·rw[ADW h8,ADW (.inl h8)];rfl
  rw[AEK h8];by_cases h9:r.2.1>60
  ·rw[ADW h9,ADW (.inr h9)];rfl
  grind
end Go.M
end
section
namespace Go.M
open Go.M.H (AK AQ An BK AE CN AN BE AR Ab Az A0 EL)
theorem T4{w:AE}{n:Int}(h:Bf w n=0):0≤n∧n<w.CA.length∧n∉w.lost:=by
 unfold Bf at h;split at h
 ·omega
 rename_i h1;simp only[AGc,AGs,CR]at h1;grind
section
variable{w:AE} (h:Z_ w)
include h
theorem Z_.node{n:Int}(hn:Bf w n=0):(0≤n∧n<(C3 w).1.length)∧n.toNat<w.CA.length∧n∉w.lost:=by
 obtain⟨a,b,c⟩:=T4 hn;have:=h.wF;exact⟨⟨a,by show n<(w.1.length:Int);omega⟩,by omega,c⟩
theorem Z_.store{n:Int}(hn:Bf w n=0):wE (storeAt w n):=(h.CA _ (h.node hn).2.1).1
end
section
variable{w:AE} (h:Z_ w)
include h
theorem su{a k:Int}(e:(A8 w a k).2=0):Z_ (A8 w a k).1:=by
 unfold A8 at*;split at e
 ·omega
 rename_i h1;rw[AEK h1];simp only at e⊢;split at e
 ·omega
 rename_i h2;rw[AEK h2];simp only[ne_eq,Decidable.not_not]at h2;refine⟨h.cfg,h.wF,h.lost,h.lf,h.CA,h.tc,h.xU,h.nmd,h.Al,h.ABQ,h.Jl,by(try simp only[H.AE.CA,H.AE.lost,H.AE.Nx,H.AE.trim,H.AE.Al,H.AE.Jl,H.AE.Aw,H.AE.P2,H.AE.lf,H.AE.NR,H.AE.bf,H.AE.bu,H.AE.Kv,H.AE.Ln,H.AE.VT,H.AE.X_,H.AE.hZ,Su,C3]at*);simpa using h.v8,fun r hr=> ?_,h.kG,h.P2,h.ABU⟩;rcases List.mem_or_eq_of_mem_set hr with hr|rfl
 ·exact h.Aw r hr
 ·exact eu h2
end
end Go.M
end
section
namespace Go.M
open Go.M.H (AK AQ An BK AE CN AN BE AR Ab Az A0 EL Aa A6 AJ AF AM Ag BS Aq AS AY Bo Av Bk BT)
theorem mB{α:Type}{f:α→Nat}{B:Nat}:∀{l:List α},(∀x∈l,f x≤B)→AJ f l≤l.length*(1+B)
 |[],_=>by simp[AJ]
 |x::l,h=>by
  have h1:=h x (by simp);have h2:=mB (l:=l) fun y hy=>h y (by simp[hy])
  grind[AJ,List.length_cons,Nat.add_mul]
theorem DQ{α:Type}{f:α→Nat}{B N:Nat}{l:List α}(hn:l.length≤N)(h:∀x∈l,f x≤B):AJ f l≤N*(1+B):=
 AGG (mB h) (AGI _ hn)
theorem gk{α:Type}{f:α→Int}{b:Int}:∀{l:List α} {a:Int},mI f l→(∀x∈l,a≤f x∧f x<b)→(l.length:Int)≤max (b-a) 0
 |[],a,_,_=>by grind
 |x::l,a,h,hb=>by
  simp only[mI,List.pairwise_cons]at h;have h1:=hb x (by simp);have h2:=gk (l:=l) (a:=f x+1) h.2 fun y hy=>⟨by grind,(hb y (by simp[hy])).2⟩
  grind
theorem Gx{c:Cy}{l:AAA}(h:Ak c l=true):l.length≤8:=by
 obtain⟨h1,h2,h3⟩:=aG.1 h;have:=(NT h1).2.1;have:=gk (a:=0) (b:=c.1.length) h3 h2;omega
theorem PJ{p:Int}(h:BO p=true):Hd p:=by
 obtain⟨h1,h2,h3⟩:=LP h;grind[Pe,Hd]
theorem wE.w{s:AQ}(h:wE s):Aa s≤10000:=by
 have h1:=DQ (f:=Ag) (B:=40) h.nk fun e he=>(Ea.1 (h.kept e he)).len
 have h2:=DQ (f:=Ag) (B:=40) h.nl fun e he=>(Ea.1 (h.late e he)).len
 unfold Aa;omega
theorem wE.sin{s:AQ}(h:wE s):SIn s:=
 ⟨fun e he=>PJ (Ea.1 (h.kept e he)).pl,fun e he=>PJ (Ea.1 (h.late e he)).pl⟩
theorem sy.AAb{c:Cy}{m:An}(h:sy c m):m.2.2.2.1.length≤60:=by
 have:=gk (f:=fun e:AK=>e.1) (a:=Pe m.2.1 1) (b:=Pe m.2.1 61) h.asc fun e he=>by
  have h1:=h.seen e he;have h2:=LP (Ea.1 h1.1).pl;grind[Pe]
 grind[Pe]
theorem sy.w{c:Cy}{m:An}(h:sy c m):A6 m≤5000:=by
 have h1:=DQ (f:=Ag) (B:=40) h.AAb fun e he=>(Ea.1 (h.seen e he).1).len
 have h2:=Gx h.sld;have h3:m.2.2.2.2.2.1.length≤60:=by
  have:=h.n;have hb:=iY (l:=m.2.2.2.1);omega
 have h4:=DQ (f:=BT) (B:=8) h3 fun l hl=>Gx (h.wrote l hl)
 unfold A6;omega
theorem sy.ein{c:Cy}{m:An}(h:sy c m):mZ m.2.2.2.1:=fun e he=>PJ (Ea.1 (h.seen e he).1).pl
theorem ROk.w{c:Cy}{r:AN}(h:ROk c r):AJ BS r.1≤270:=by
 have:=DQ (f:=BS) (B:=8) h.n fun e he=>Gx (aJ (h.Nx e he).1)
 omega
theorem ROk.tin{c:Cy}{r:AN}(h:ROk c r):Hd r.2.1:=by
 rcases h.trim with h|h
 all_goals grind[Hd,PJ]
theorem oO.w{c:Cy}{w:AR}(h:oO c w):AS w≤3000:=by
 have:=DQ (f:=Aq) (B:=48) h.n fun x hx=>by
  have h1:=h.words x hx;grind[Gx,Aq]
 unfold AS;omega
def RdS(w:AE):Prop:= ∀r∈w.Aw,∀e∈r.2.2.1,e.2.2.1.length≤40
theorem Z_.WX{w:AE}(h:Z_ w){s:AQ}(hs:s∈w.CA):wE s:=by
 obtain⟨i,hi,rfl⟩:=AGD hs;have:=(h.CA i hi).1;simp_all
theorem Z_.win{w:AE}(h:Z_ w)(hr:RdS w):dJ w:=by
 have hc:=(NT h.cfg).2.1;have Vy:w.1.length≤8:=hc;have a1:=DQ (f:=Aa) (B:=10000) (N:=8) (l:=w.CA) (by rw[h.wF];omega) fun s hs=>(h.WX hs).w
 have a2:=Gx h.lost;have a3:=h.tc.w;have a4:=DQ (f:=AS) (B:=3000) h.xU fun x hx=>(h.Al x hx).1.w
 have a5:=DQ (f:=A6) (B:=5000) h.nmd fun x hx=>(h.Jl x hx).1.w
 have a6:=DQ (f:=AY) (B:=5000) (N:=2) (l:=w.Aw) (by rw[h.v8];omega) fun r hx=>by
  have:=DQ (f:=Av) (B:=40) (h.Aw r hx).n (hr r hx);unfold AY;omega
 have a7:=DQ (f:=Bo) (B:=40) h.kG fun s hs=>(h.P2 s hs).2.2
 refine⟨?_,fun s hs=>(h.WX hs).sin,h.tc.tin,fun m hm=>(h.Jl m hm).1.ein,fun s hs=>PJ (h.P2 s hs).1⟩;have a3':AJ BS w.Nx≤270:=a3;grind[Bk]
end Go.M
end
section
set_option maxRecDepth 8000
namespace Go.M
open Go.M.H (AK AQ An BK AE CN AN BE AR Ab Az A0 EL Aa A6 AJ AF AM Ag BS Aq AS AY Bo Av Bk BT)
theorem gF:∀i,i<8→([0,1,2,3,4,5,6,7]:AAA).drop i=(i:Int)::([0,1,2,3,4,5,6,7]:AAA).drop (i+1):=by decide
theorem Yp{k:Int}:Ls k=some (((),()),(Aj k,())):=by
 unfold Ls Ot Aj;rcases AE8 (BQ k 0 255)with hk|hk
 rotate_left
 ·rw[hk]
  obtain⟨m,hm⟩:∃m,AL=m+1:=⟨AL-1,by have:=AH (n:=0) (by omega);omega⟩;rw[hm];simp only[D3,I9,Ba,AU,hk,AA];rfl
 rw[hk,ADW rfl];have hk':=CR.1 hk;have key:∀(n i:Nat) (b:AAA),i≤8→8-i<n→b.length≤i→
   D3 n k i b=some (((),()),(b++(([0,1,2,3,4,5,6,7]:AAA).drop i).filter (fun i=>(k/2^i.toNat)%2==1),())):=by
  intro n
  induction n with
  |zero=>omega
  |succ n ih=>
   intro i b hi h hb;simp only[D3,I9,Ba,AU,hk,AF7,AA];by_cases LH:i<8
   ·have wT:=pH (k:=k) (i:=i) (by omega) (by omega)
    rw[ADW (show(i:Int)<8 by omega),AEK (by omega),AEA,wT,gF i LH,AGe,AEA,AG (by omega) (by omega),show((i:Int)+1)=((i+1:Nat):Int)by omega,AA];have c2:b.length+1≤Ej:=by rw[Ay];omega
    by_cases l8:(k/2^i)%2=1
    ·rw[ADW l8,ADW c2,ADW (by simp_all),ih (i+1) _ (by omega) (by omega) (by simp_all),AEJ]
     rfl
    grind
   ·have:i=8:=by omega
    simp_all
 have:=key AL 0 [] (by omega) (AH (by omega)) (by simp);simp_all
theorem eJ{d:EL}:Tx d=some ((WI d,()),()):=by
 obtain⟨k,a,b,n,t,⟨⟩⟩:=d;unfold Tx WI;rw[Ba];simp only[AU];rcases AE8 (BQ k 1 16)with hk|hk
 rotate_left
 ·simp_all
 have hk':=CR.1 hk;rw[hk];have dl:decide ((t.length:Int)≤40)=decide (t.length≤40):=by
  grind
 have:k=1∨k=2∨k=3∨k=4∨k=5∨k=6∨k=7∨k=8∨k=9∨k=10∨k=11∨k=12∨k=13∨k=14∨k=15∨k=16:=by omega
 rcases this with h|h|h|h|h|h|h|h|h|h|h|h|h|h|h|h<;>subst h<;>simp only[AF7,dl]<;>clear dl hk hk'<;>
  (unfold UJ;simp[Wr];cases a==0<;>cases b==0<;>cases n==0<;>cases t.isEmpty<;>rfl)
theorem Xq{w:AR}(hl:w.2.1.length≤2^21):Pf w=some (((Ub w.2.1:Int),()),()):=by
 have key:∀(n i:Nat),i≤w.2.1.length→w.2.1.length-i<n→
   Ey n i w.1 w.2.1=some ((((i+Ub (w.2.1.drop i):Nat):Int),()),()):=by
  intro n
  induction n with
  |zero=>omega
  |succ n ih=>
   intro i hi h;simp only[Ey,NB,AA];by_cases LH:i<w.2.1.length
   ·have c1:(0:Int)≤(i:Int)∧(i:Int)<(w.2.1.length:Int):=by omega
    rw[ADW c1.2,ADW c1,AO LH,AG (by omega) (by omega),show((i:Int)+1)=((i+1:Nat):Int)by omega,ih (i+1) (by omega) (by omega),drop_cons LH];simp only[Ub];cases w.2.1[i].2.2.1 with
    |false=>simp
    |true=>grind
   ·rw[AEK (by omega),AF1 (by omega)]
    rfl
 have:=key AL 0 (by omega) (AH (by omega));rw[AGm,AGy]at this;exact this
theorem bN{w:AE}{n:Int}(h1:w.CA.length≤2^21)(h2:w.lost.length≤2^21):Q1 w n=some ((Bf w n,()),()):=by
 unfold Q1 Bf
 (try simp only[H.AE.CA,H.AE.lost,H.AE.Nx,H.AE.trim,H.AE.Al,H.AE.Jl,H.AE.Aw,H.AE.P2,H.AE.lf,H.AE.NR,H.AE.bf,H.AE.bu,H.AE.Kv,H.AE.Ln,H.AE.VT,H.AE.X_,H.AE.hZ,Su,C3]at*)
 rw[AG (by omega) (by omega),Ba,Ys (by omega)];grind
theorem dO{w:AE}{e:Int}(hl:AJ AS w.Al≤2^21):WH w e=some ((VF w e,()),()):=by
 have zW:=AF (f:=AS) (l:=w.Al);have key:∀(n i:Nat),i≤w.Al.length→w.Al.length-i<n→
   Iw n e i w.1 w.2.1 w.2.2.1 w.2.2.2.1 w.2.2.2.2.1 w.2.2.2.2.2.1 w.Al w.2.2.2.2.2.2.2.1 w.2.2.2.2.2.2.2.2.1 w.2.2.2.2.2.2.2.2.2.1 w.2.2.2.2.2.2.2.2.2.2.1=
    some (((match(w.Al.drop i).find? (fun x=>x.1==e)with|some x=>(Ub x.2.1:Int)|none=>0),()),()):=by
  intro n
  induction n with
  |zero=>omega
  |succ n ih=>
   intro i hi h;simp only[Iw,Tm,AA];by_cases LH:i<w.Al.length
   ·have c1:(0:Int)≤(i:Int)∧(i:Int)<(w.Al.length:Int):=by omega
    rw[ADW c1.2,ADW c1,ADW c1,AO LH,AG (by omega) (by omega),show((i:Int)+1)=((i+1:Nat):Int)by omega,ih (i+1) (by omega) (by omega),drop_cons LH,AG6,show(w.Al[i].1,w.Al[i].2.1,())=w.Al[i]from rfl];have hm:=AM (f:=AS) (ADz LH);have hw:AS w.Al[i]=AJ Aq w.Al[i].2.1:=rfl;have hlw:=AF (f:=Aq) (l:=w.Al[i].2.1);rw[Xq (by omega)];cases(w.Al[i].1==e)<;>rfl
   grind
 have:=key AL 0 (by omega) (AH (by omega));rw[AGy]at this;exact this
theorem Xx{w:AE}{r:Ab}{k:Int}(h1:AJ Aa w.CA≤2^21)(h2:w.lost.length≤2^21)(hr1: -1000≤r.1∧r.1≤1000)(hr2: -1000≤r.2.1∧r.2.1≤1000):
  Ko w r k=some (((),()),(answers w (Pe r.1 r.2.1) (Aj k),())):=by
 have vo:=AF (f:=Aa) (l:=w.CA);have hml:(Aj k).length≤8:=by
  unfold Aj;split
  ·exact AGG (AGK _ _) (by simp)
  ·simp
 have key:∀(n i:Nat) (b:List A0),i≤(Aj k).length→(Aj k).length-i<n→b.length≤i→
   E6 n i w.1 w.2.1 w.2.2.1 w.2.2.2.1 w.2.2.2.2.1 w.2.2.2.2.2.1 w.2.2.2.2.2.2.1 w.2.2.2.2.2.2.2.1 w.2.2.2.2.2.2.2.2.1 w.2.2.2.2.2.2.2.2.2.1 w.2.2.2.2.2.2.2.2.2.2.1 r.1 r.2.1 r.2.2.1 b (Aj k)=
    some (((),()),(b++answers w (Pe r.1 r.2.1) ((Aj k).drop i),())):=by
  intro n
  induction n with
  |zero=>omega
  |succ n ih=>
   intro i b hi h hb;simp only[E6,NF,AA];by_cases LH:i<(Aj k).length
   ·have c1:(0:Int)≤(i:Int)∧(i:Int)<((Aj k).length:Int):=by omega
    have c2:b.length+1≤Ej:=by rw[Ay];omega
    rw[ADW c1.2,ADW c1,AO LH,show(w.1,w.2.1,w.2.2.1,w.2.2.2.1,w.2.2.2.2.1,w.2.2.2.2.2.1,w.2.2.2.2.2.2.1,w.2.2.2.2.2.2.2.1,w.2.2.2.2.2.2.2.2.1,w.2.2.2.2.2.2.2.2.2.1,w.2.2.2.2.2.2.2.2.2.2.1,())=w from rfl,bN (by omega) h2,AG (by omega) (by omega),show((i:Int)+1)=((i+1:Nat):Int)by omega,drop_cons LH];simp only[AU,L_,answers,AGe];by_cases hn:Bf w (Aj k)[i]=0
    ·obtain⟨n1,n2,n3⟩:=T4 hn
     have vL:((Aj k)[i]).toNat<w.2.2.1.length:=by simp_all
     rw[ADW hn,ADW c1,ADW ⟨n1,n2⟩,Vn hr1 hr2];simp only[AU];have hse:w.2.2.1.getD ((Aj k)[i]).toNat ([],[],0,())=storeAt w (Aj k)[i]:=rfl;have hsm:Aa (storeAt w (Aj k)[i])≤2^21:=AGG (AM (f:=Aa) (Bt (d:=Dx) vL)) h1;rw[hse,fP (XS (by omega)).1];simp only[AU];rw[ADW c1,ADW c2,ih (i+1) _ (by omega) (by omega) (by simp_all),ADW (by simp_all),AGp,AEJ];have:((Aj k)[i],(RC (Pe r.1 r.2.1) (storeAt w (Aj k)[i]).1).isSome,((RC (Pe r.1 r.2.1) (storeAt w (Aj k)[i]).1).getD B3).1,((RC (Pe r.1 r.2.1) (storeAt w (Aj k)[i]).1).getD B3).2.1,((RC (Pe r.1 r.2.1) (storeAt w (Aj k)[i]).1).getD B3).2.2.1,((RC (Pe r.1 r.2.1) (storeAt w (Aj k)[i]).1).getD B3).2.2.2.1,())=answer w (Pe r.1 r.2.1) (Aj k)[i]:=by
      grind[answer,RC,Pe,storeAt,Aj]
     rw[this];rfl
    ·rw[AEK hn,ih (i+1) _ (by omega) (by omega) (by omega),AEK (by simp_all)]
     rfl
   ·rw[AEK (by omega),AF1 (by omega)]
    simp[answers]
 have:=key AL 0 [] (by omega) (AH (by omega)) (by simp);grind[Ko,NA,Yp]
end Go.M
end
section
set_option maxRecDepth 8000
namespace Go.M
open Go.M.H (AK AQ An BK AE CN AN BE AR Ab Az A0 EL Aa A6 AJ AF AM Ag BS Aq AS AY Bo Av Bk BT)
section
variable{w:AE} (h:dJ w)
include h
theorem sn:∀(n i:Nat) (GC:List AQ) (H4:List AR) (J5:List An) (Nw:List Ab),i≤w.2.2.2.2.2.2.2.2.1.length→w.2.2.2.2.2.2.2.2.1.length-i<n→Nw.length≤i→
  A4 n i w.1 w.2.1 w.2.2.1 w.2.2.2.1 w.2.2.2.2.1 w.2.2.2.2.2.1 w.2.2.2.2.2.2.1 w.2.2.2.2.2.2.2.1 w.2.2.2.2.2.2.2.2.1 w.2.2.2.2.2.2.2.2.2.1 w.2.2.2.2.2.2.2.2.2.2.1 0 0 false [] [] [] [] [] [] [] [] w.2.1 w.2.2.2.2.2.1 w.2.2.2.2.2.2.2.2.2.2.1 w.1 GC w.2.2.2.1 w.2.2.2.2.1 H4 J5 Nw w.2.2.2.2.2.2.2.2.2.1=some ((((),w.2.1,(),(),(),w.2.2.2.2.2.1,(),(),(),(),w.2.2.2.2.2.2.2.2.2.2.1,()),()),(w.1,GC,w.2.2.2.1,w.2.2.2.2.1,H4,J5,(Nw++w.2.2.2.2.2.2.2.2.1.drop i),w.2.2.2.2.2.2.2.2.2.1,())):=by
 have kI:=h.MK;have hl:=h.lens;intro n
 induction n with
 |zero=>omega
 |succ n ih=>
  intro i GC H4 J5 Nw hi hn hb;simp only[A4,Js,AA];by_cases LH:i<w.2.2.2.2.2.2.2.2.1.length
  ·have c1:(0:Int)≤(i:Int)∧(i:Int)<(w.2.2.2.2.2.2.2.2.1.length:Int):=by omega
   have c2:Nw.length+1≤Ej:=by rw[Ay];omega
   rw[ADW c1.2,ADW c1,AO LH,AG (by omega) (by omega),show((i:Int)+1)=((i+1:Nat):Int)by omega,drop_cons LH];have hm:=AM (f:=AY) (ADz LH);have hw:AY w.2.2.2.2.2.2.2.2.1[i]=AJ Av w.2.2.2.2.2.2.2.2.1[i].2.2.1:=rfl;have hlw:=AF (f:=Av) (l:=w.2.2.2.2.2.2.2.2.1[i].2.2.1);rw[show(w.2.2.2.2.2.2.2.2.1[i].1,w.2.2.2.2.2.2.2.2.1[i].2.1,w.2.2.2.2.2.2.2.2.1[i].2.2.1,())=w.2.2.2.2.2.2.2.2.1[i]from rfl,Pq (by omega)];simp only[AU];rw[ADW c2,ih (i+1) _ _ _ _ (by omega) (by omega) (by simp_all),AEJ];rfl
  grind
theorem uL:∀(n i:Nat) (GC:List AQ) (H4:List AR) (J5:List An),i≤w.2.2.2.2.2.2.2.1.length→(w.2.2.2.2.2.2.2.1.length-i)+w.2.2.2.2.2.2.2.2.1.length+2≤n→J5.length≤i→
  A3 n i w.1 w.2.1 w.2.2.1 w.2.2.2.1 w.2.2.2.2.1 w.2.2.2.2.2.1 w.2.2.2.2.2.2.1 w.2.2.2.2.2.2.2.1 w.2.2.2.2.2.2.2.2.1 w.2.2.2.2.2.2.2.2.2.1 w.2.2.2.2.2.2.2.2.2.2.1 0 0 false [] [] [] [] [] [] [] [] w.2.1 w.2.2.2.2.2.1 w.2.2.2.2.2.2.2.2.2.2.1 w.1 GC w.2.2.2.1 w.2.2.2.2.1 H4 J5 [] w.2.2.2.2.2.2.2.2.2.1=some ((((),w.2.1,(),(),(),w.2.2.2.2.2.1,(),(),(),(),w.2.2.2.2.2.2.2.2.2.2.1,()),()),(w.1,GC,w.2.2.2.1,w.2.2.2.2.1,H4,(J5++w.2.2.2.2.2.2.2.1.drop i),w.2.2.2.2.2.2.2.2.1,w.2.2.2.2.2.2.2.2.2.1,())):=by
 have kI:=h.MK;have hl:=h.lens;intro n
 induction n with
 |zero=>omega
 |succ n ih=>
  intro i GC H4 J5 hi hn hb;simp only[A3,J2,AA];by_cases LH:i<w.2.2.2.2.2.2.2.1.length
  ·have c1:(0:Int)≤(i:Int)∧(i:Int)<(w.2.2.2.2.2.2.2.1.length:Int):=by omega
   have c2:J5.length+1≤Ej:=by rw[Ay];omega
   rw[ADW c1.2,ADW c1,AO LH,AG (by omega) (by omega),show((i:Int)+1)=((i+1:Nat):Int)by omega,drop_cons LH];have hm:=AM (f:=A6) (ADz LH);rw[show(w.2.2.2.2.2.2.2.1[i].1,w.2.2.2.2.2.2.2.1[i].2.1,w.2.2.2.2.2.2.2.1[i].2.2.1,w.2.2.2.2.2.2.2.1[i].2.2.2.1,w.2.2.2.2.2.2.2.1[i].2.2.2.2.1,w.2.2.2.2.2.2.2.1[i].2.2.2.2.2.1,())=w.2.2.2.2.2.2.2.1[i]from rfl,cf (by omega)];simp only[AU];rw[ADW c2,ih (i+1) _ _ _ (by omega) (by omega) (by simp_all),AEJ];rfl
  ·have:=sn h n 0 GC H4 J5 [] (by omega) (by omega) (by simp)
   grind
theorem yV:∀(n i:Nat) (GC:List AQ) (H4:List AR),i≤w.2.2.2.2.2.2.1.length→(w.2.2.2.2.2.2.1.length-i)+w.2.2.2.2.2.2.2.1.length+w.2.2.2.2.2.2.2.2.1.length+3≤n→H4.length≤i→
  BD n i w.1 w.2.1 w.2.2.1 w.2.2.2.1 w.2.2.2.2.1 w.2.2.2.2.2.1 w.2.2.2.2.2.2.1 w.2.2.2.2.2.2.2.1 w.2.2.2.2.2.2.2.2.1 w.2.2.2.2.2.2.2.2.2.1 w.2.2.2.2.2.2.2.2.2.2.1 0 0 false [] [] [] [] [] [] [] [] w.2.1 w.2.2.2.2.2.1 w.2.2.2.2.2.2.2.2.2.2.1 w.1 GC w.2.2.2.1 w.2.2.2.2.1 H4 [] [] w.2.2.2.2.2.2.2.2.2.1=some ((((),w.2.1,(),(),(),w.2.2.2.2.2.1,(),(),(),(),w.2.2.2.2.2.2.2.2.2.2.1,()),()),(w.1,GC,w.2.2.2.1,w.2.2.2.2.1,(H4++w.2.2.2.2.2.2.1.drop i),w.2.2.2.2.2.2.2.1,w.2.2.2.2.2.2.2.2.1,w.2.2.2.2.2.2.2.2.2.1,())):=by
 have kI:=h.MK;have hl:=h.lens;intro n
 induction n with
 |zero=>omega
 |succ n ih=>
  intro i GC H4 hi hn hb;simp only[BD,Kw,AA];by_cases LH:i<w.2.2.2.2.2.2.1.length
  ·have c1:(0:Int)≤(i:Int)∧(i:Int)<(w.2.2.2.2.2.2.1.length:Int):=by omega
   have c2:H4.length+1≤Ej:=by rw[Ay];omega
   rw[ADW c1.2,ADW c1,AO LH,AG (by omega) (by omega),show((i:Int)+1)=((i+1:Nat):Int)by omega,drop_cons LH];have hm:=AM (f:=AS) (ADz LH);have hw:AS w.2.2.2.2.2.2.1[i]=AJ Aq w.2.2.2.2.2.2.1[i].2.1:=rfl;rw[show(w.2.2.2.2.2.2.1[i].1,w.2.2.2.2.2.2.1[i].2.1,())=w.2.2.2.2.2.2.1[i]from rfl,eF (by omega)];simp only[AU];rw[ADW c2,ih (i+1) _ _ (by omega) (by omega) (by simp_all),AEJ];rfl
  ·have:=uL h n 0 GC H4 [] (by omega) (by omega) (by simp)
   grind
theorem zu:∀(n i:Nat) (GC:List AQ),i≤w.2.2.1.length→(w.2.2.1.length-i)+w.2.2.2.2.2.2.1.length+w.2.2.2.2.2.2.2.1.length+w.2.2.2.2.2.2.2.2.1.length+4≤n→GC.length≤i→
  A7 n i w.1 w.2.1 w.2.2.1 w.2.2.2.1 w.2.2.2.2.1 w.2.2.2.2.2.1 w.2.2.2.2.2.2.1 w.2.2.2.2.2.2.2.1 w.2.2.2.2.2.2.2.2.1 w.2.2.2.2.2.2.2.2.2.1 w.2.2.2.2.2.2.2.2.2.2.1 0 0 false [] [] [] [] [] [] [] [] w.2.1 w.2.2.2.2.2.1 w.2.2.2.2.2.2.2.2.2.2.1 w.1 GC w.2.2.2.1 w.2.2.2.2.1 [] [] [] w.2.2.2.2.2.2.2.2.2.1=some ((((),w.2.1,(),(),(),w.2.2.2.2.2.1,(),(),(),(),w.2.2.2.2.2.2.2.2.2.2.1,()),()),(w.1,(GC++w.2.2.1.drop i),w.2.2.2.1,w.2.2.2.2.1,w.2.2.2.2.2.2.1,w.2.2.2.2.2.2.2.1,w.2.2.2.2.2.2.2.2.1,w.2.2.2.2.2.2.2.2.2.1,())):=by
 have kI:=h.MK;have hl:=h.lens;intro n
 induction n with
 |zero=>omega
 |succ n ih=>
  intro i GC hi hn hb;simp only[A7,Kx,AA];by_cases LH:i<w.2.2.1.length
  ·have c1:(0:Int)≤(i:Int)∧(i:Int)<(w.2.2.1.length:Int):=by omega
   have c2:GC.length+1≤Ej:=by rw[Ay];omega
   rw[ADW c1.2,ADW c1,AO LH,AG (by omega) (by omega),show((i:Int)+1)=((i+1:Nat):Int)by omega,drop_cons LH];have hm:=AM (f:=Aa) (ADz LH);have hw:=XS (s:=w.2.2.1[i]) (by omega);rw[show(w.2.2.1[i].1,w.2.2.1[i].2.1,w.2.2.1[i].2.2.1,())=w.2.2.1[i]from rfl,cI hw.1 hw.2];simp only[AU];rw[ADW c2,ih (i+1) _ (by omega) (by omega) (by simp_all),AEJ];rfl
  ·have:=yV h n 0 GC [] (by omega) (by omega) (by simp)
   grind
theorem Vx:HF w=some ((((),w.2.1,(),(),(),w.2.2.2.2.2.1,(),(),(),(),w.2.2.2.2.2.2.2.2.2.2.1,()),()),(w.1,w.2.2.1,w.2.2.2.1,w.2.2.2.2.1,w.2.2.2.2.2.2.1,w.2.2.2.2.2.2.2.1,w.2.2.2.2.2.2.2.2.1,w.2.2.2.2.2.2.2.2.2.1,())):=by
 have kI:=h.MK;have hl:=h.lens;unfold HF K7;have:=zu h AL 0 [] (by omega) (Nat.le_of_lt (AH (by omega))) (by simp);rw[show((0:Nat):Int)=0 from rfl,AFO,AGy]at this;rw[ADW (by rw[Ay];omega),ADW (by rw[Ay];omega),show(w.2.2.2.2.1,w.2.2.2.2.2.1,())=(Su w)from rfl,cc (by show AJ BS w.2.2.2.2.1≤_;omega)];simp only[AU];rw[ADW (by rw[Ay];omega)];exact this
end
end Go.M
end
section
set_option maxRecDepth 8000
namespace Go.M
open Go.M.H (AK AQ An BK AE CN AN BE AR Ab Az A0 EL Aa A6 AJ AF AM Ag BS Aq AS AY Bo Av Bk BT)
def tJ(q:AE×Int):bB:=(((((),q.1.2.1,(),(),(),q.1.2.2.2.2.2.1,(),(),(),(),q.1.2.2.2.2.2.2.2.2.2.2.1,()),q.2,()),()),(q.1.1,q.1.2.2.1,q.1.2.2.2.1,q.1.2.2.2.2.1,q.1.2.2.2.2.2.2.1,q.1.2.2.2.2.2.2.2.1,q.1.2.2.2.2.2.2.2.2.1,q.1.2.2.2.2.2.2.2.2.2.1,()))
theorem pU{α:Type}{x y:α}:(if(!true)=true then x else y)=y:=rfl
structure AEI (w:AE):Prop where
 c:w.1.length≤8
 st:w.2.2.1.length=w.1.length
 lost:w.2.2.2.1.length≤8
 era:AJ BS w.2.2.2.2.1≤270
 AEq:w.2.2.2.2.1.length≤30
 trim:Hd w.2.2.2.2.2.1
 wr:w.2.2.2.2.2.2.1.length≤4
 md:w.2.2.2.2.2.2.2.1.length≤1
 rd:w.2.2.2.2.2.2.2.2.1.length=2
 se:w.2.2.2.2.2.2.2.2.2.1.length≤120
 ws:AJ Aa w.2.2.1≤80008
 ww:AJ AS w.2.2.2.2.2.2.1≤12004
 wr':w.Al.length≤4
 st':w.CA.length=w.1.length
 og:w.lost.length≤8
theorem Z_.nums{w:AE}(h:Z_ w):AEI w where
 c:=(NT h.cfg).2.1
 st:=h.wF
 lost:=Gx h.lost
 era:=h.tc.w
 AEq:=h.tc.n
 trim:=h.tc.tin
 wr:=h.xU
 md:=h.nmd
 rd:=h.v8
 se:=h.kG
 ws:=by
  have:=DQ (f:=Aa) (B:=10000) (N:=8) (l:=w.CA) (by rw[h.wF];exact(NT h.cfg).2.1) fun s hs=>(h.WX hs).w
  omega
 ww:=by
  have:=DQ (f:=AS) (B:=3000) h.xU fun x hx=>(h.Al x hx).1.w
  omega
 wr':=h.xU
 st':=h.wF
 og:=Gx h.lost
section
variable{w:AE} (h:Z_ w)
include h
end
end Go.M
end
section
set_option maxRecDepth 8000
namespace Go.M
open Go.M.H (AK AQ An BK AE CN AN BE AR Ab Az A0 EL Aa A6 AJ AF AM Ag BS Aq AS AY Bo Av Bk BT)
section
variable{w:AE} (h:Z_ w)
include h
theorem aa{d:EL}:RL w.2.1 w.2.2.2.2.2.1 w.2.2.2.2.2.2.2.2.2.2.1 d w.1 w.2.2.1 w.2.2.2.1 w.2.2.2.2.1 w.2.2.2.2.2.2.1 w.2.2.2.2.2.2.2.1 w.2.2.2.2.2.2.2.2.1 w.2.2.2.2.2.2.2.2.2.1=some (tJ (A8 w d.2.1 d.2.2.1)):=by
 have k:=h.nums;have k1:=k.c;have k2:=k.wr;have k3:=k.lost;have k4:=k.st;have o5:=k.wr';have k3':=k.og;have k4':=k.st';have k5:=k.era;have k6:=k.ws;have k6':AJ Aa w.CA≤80008:=k.ws;have k7:=k.ww;have k8:=k.rd;unfold RL A8;rw[Ba];simp only[AU,Hg,L_];rcases AE8 (BQ d.2.1 0 1)with h1|h1
 rotate_left
 ·rw[h1];rfl
 have h1':=CR.1 h1;have hr:0≤d.2.1∧d.2.1<(w.2.2.2.2.2.2.2.2.1.length:Int):=by omega
 have RF:d.2.1.toNat<w.Aw.length:=by
  simp_all
 have Uu:=h.Aw _ (Bt (d:=Dl) RF);simp only[ADW hr];rw[h1,pU,AF7,show(w.1,w.2.1,w.2.2.1,w.2.2.2.1,w.2.2.2.2.1,w.2.2.2.2.2.1,w.2.2.2.2.2.2.1,w.2.2.2.2.2.2.2.1,w.2.2.2.2.2.2.2.2.1,w.2.2.2.2.2.2.2.2.2.1,w.2.2.2.2.2.2.2.2.2.2.1,())=w from rfl]
 generalize hx:w.Aw.getD d.2.1.toNat Dl=r at*
 have hre:=Uu.ep;have hro:=Uu.off;rw[dO (by grind),show(r.1,r.2.1,r.2.2.1,())=r from rfl,Xx (by omega) (by omega) (by omega) (by omega)];simp only[AU];have ha:∀a∈answers w (Pe r.1 r.2.1) (Aj d.2.2.1),Hd a.2.2.1:=fun a ha=>by
  unfold answers at ha;obtain⟨n,hn,rfl⟩:=List.mem_map.1 ha;have Wy:Bf w n=0:=by simp_all
  unfold answer;split
  ·rename_i e he
   have:=(h.store Wy).kept e (AGx he);exact PJ (Ea.1 this).pl
  ·exact⟨by simp_all,by simp_all⟩
 have nv:(answers w (Pe r.1 r.2.1) (Aj d.2.2.1)).length≤8:=by
  unfold answers;rw[List.length_map];refine AGG (AGK _ _) ?_
  unfold Aj;split
  ·exact AGG (AGK _ _) (by simp)
  ·simp
 rw[show(w.1,w.2.1,())=C3 w from rfl,show(w.2.2.2.2.1,w.2.2.2.2.2.1,())=Su w from rfl,Xj (c:=C3 w) (g:=Su w) (by show w.1.length≤_;omega) (by show AJ BS w.2.2.2.2.1≤_;omega) k.trim (by omega) ha];simp only[AU,lz];by_cases h2:(B7 (C3 w) (Su w) (VF w r.1) r (answers w (Pe r.1 r.2.1) (Aj d.2.2.1))).2=0
 ·rw[ADW h2,AEK (fun hh=>hh h2)];rfl
 ·rw[AEK h2,ADW h2];rfl
end
end Go.M
end
section
set_option maxRecDepth 8000
namespace Go.M
open Go.M.H (AK AQ An BK AE CN AN BE AR Ab Az A0 EL Aa A6 AJ AF AM Ag BS Aq AS AY Bo Av Bk BT)
theorem Zf{s:AAA}{p:Int}:∀{l:List A0} {b:Option AK},(∀x,b=some x→DL x=true)→ ∀x,ER s p b l=some x→DL x=true
 |[],b,hb,x,h=>hb x h
 |a::l,b,hb,x,h=>by
  simp only[ER]at h;split at h
  ·rename_i hc
   simp only[AEE]at hc;refine Zf (l:=l) ?_ x h
   intro z hz;split at hz
   ·rename_i z' hz'
    unfold better at hz;grind
   simp_all
  ·exact Zf (l:=l) hb x h
section
variable{code:AAA} (hc:code.length≤2^30)
include hc
end
end Go.M
end
section
set_option maxRecDepth 8000
namespace Go.M
open Go.M.H (AK AQ An BK AE CN AN BE AR Ab Az A0 EL Aa A6 AJ AF AM Ag BS Aq AS AY Bo Av Bk BT)
theorem De{l:AAA}(h:l.length≤2^30):Cp l=some (((),()),(l,())):=by
 unfold Cp;rw[ADW (by rw[Ay];omega)]
theorem Qc{l:List AK}(h:l.length≤2^30):En l=some (((),()),(l,())):=by
 unfold En;rw[ADW (by rw[Ay];omega)]
theorem RT{r:Ab}(h:r.2.2.1.length≤2^30):Hb r=some (((r.1,r.2.1,(),()),()),(r.2.2.1,())):=by
 unfold Hb;rw[ADW (by rw[Ay];omega)]
theorem Xa{c:Cy}(h:c.1.length≤2^30):KQ c=some ((((),c.2.1,()),()),(c.1,())):=by
 grind[KQ,De]
theorem Yc{s:AQ}(h1:s.1.length≤2^30)(h2:s.2.1.length≤2^30):MW s=some ((((),(),s.2.2.1,()),()),(s.1,s.2.1,())):=by
 grind[MW,Qc]
theorem WG{r:AN}(h:AJ BS r.1≤2^30):H8 r=some ((((),r.2.1,()),()),(r.1,())):=by
 have hl:=AF (f:=BS) (l:=r.1);have key:∀(n i:Nat) (acc:List CN),i≤r.1.length→r.1.length-i<n→acc.length≤i→D1 n r.1 r.1.length i 0 [] r.2.1 acc=some ((((),r.2.1,()),()),(acc++r.1.drop i,())):=by
  intro n
  induction n with
  |zero=>omega
  |succ n ih=>
   intro i acc hi hn ha;simp only[D1,LK,AA];by_cases hc:i<r.1.length
   ·have hm:=AM (f:=BS) (ADz hc)
    have hw:BS r.1[i]=r.1[i].1.length:=rfl;rw[ADW (by omega),ADW (by omega),AO hc,De (by omega),AG (by omega) (by omega),show((i:Int)+1)=((i+1:Nat):Int)by omega];simp only[AU];rw[ADW (by rw[Ay];omega),ih (i+1) _ (by omega) (by omega) (by simp_all),drop_cons hc,AEJ];rfl
   grind
 grind[H8,LO,AL,AH]
theorem Xb{x:AR}(h:AS x≤2^30):KV x=some (((x.1,(),()),()),(x.2.1,())):=by
 have h':AJ Aq x.2.1≤2^30:=h;have hl:=AF (f:=Aq) (l:=x.2.1);have key:∀(n i:Nat) (acc:List BE),i≤x.2.1.length→x.2.1.length-i<n→acc.length≤i→Ew n x.2.1 x.2.1.length i 0 [] x.1 acc=some (((x.1,(),()),()),(acc++x.2.1.drop i,())):=by
  intro n
  induction n with
  |zero=>omega
  |succ n ih=>
   intro i acc hi hn ha;simp only[Ew,NG,AA];by_cases hc:i<x.2.1.length
   ·have hm:=AM (f:=Aq) (ADz hc)
    have hw:Aq x.2.1[i]=x.2.1[i].1.length+x.2.1[i].2.1.length:=rfl;rw[ADW (by omega),ADW (by omega),AO hc,De (by omega),AG (by omega) (by omega),show((i:Int)+1)=((i+1:Nat):Int)by omega];simp only[AU];rw[ADW (by rw[Ay];omega),ih (i+1) _ (by omega) (by omega) (by simp_all),drop_cons hc,AEJ];rfl
   grind
 grind[KV,NM,AL,AH]
theorem Zi{m:An}(h:A6 m≤2^30):OE m=some (((m.1,m.2.1,(),(),m.2.2.2.2.1,(),()),()),(m.2.2.1,m.2.2.2.1,m.2.2.2.2.2.1,())):=by
 have h':m.2.2.1.length+AJ Ag m.2.2.2.1+AJ BT m.2.2.2.2.2.1≤2^30:=h;have hl:=AF (f:=BT) (l:=m.2.2.2.2.2.1);have kI:=AF (f:=Ag) (l:=m.2.2.2.1);have key:∀(n i:Nat) (acc:List AAA),i≤m.2.2.2.2.2.1.length→m.2.2.2.2.2.1.length-i<n→acc.length≤i→GY n m.2.2.2.2.2.1 m.2.2.2.2.2.1.length i 0 0 false [] [] [] m.1 m.2.1 m.2.2.2.2.1 m.2.2.1 m.2.2.2.1 acc=some (((m.1,m.2.1,(),(),m.2.2.2.2.1,(),()),()),(m.2.2.1,m.2.2.2.1,acc++m.2.2.2.2.2.1.drop i,())):=by
  intro n
  induction n with
  |zero=>omega
  |succ n ih=>
   intro i acc hi hn ha;simp only[GY,QG,AA];by_cases hc:i<m.2.2.2.2.2.1.length
   ·have hm:=AM (f:=BT) (ADz hc)
    have hw:BT m.2.2.2.2.2.1[i]=m.2.2.2.2.2.1[i].length:=rfl;rw[ADW (by omega),ADW (by omega),AO hc,De (by omega),AG (by omega) (by omega),show((i:Int)+1)=((i+1:Nat):Int)by omega];simp only[AU];rw[ADW (by rw[Ay];omega),ih (i+1) _ (by omega) (by omega) (by simp_all),drop_cons hc,AEJ];rfl
   grind
 grind[OE,QF,De,Qc,AU,AL,AH]
section
variable{w:AE} (h:dJ w)
include h
theorem oA:∀(n i:Nat) (GC:List AQ) (H4:List AR) (J5:List An) (Nw:List Ab),i≤w.2.2.2.2.2.2.2.2.1.length→w.2.2.2.2.2.2.2.2.1.length-i+1≤n→Nw.length≤i→
  CT n w.2.2.2.2.2.2.2.2.1 w.2.2.2.2.2.2.2.2.1.length i w.1 w.2.1 w.2.2.1 w.2.2.2.1 w.2.2.2.2.1 w.2.2.2.2.2.1 w.2.2.2.2.2.2.1 w.2.2.2.2.2.2.2.1 w.2.2.2.2.2.2.2.2.1 w.2.2.2.2.2.2.2.2.2.1 w.2.2.2.2.2.2.2.2.2.2.1 0 0 false [] [] [] [] [] [] [] [] w.2.1 w.2.2.2.2.2.1 w.2.2.2.2.2.2.2.2.2.2.1 w.1 GC w.2.2.2.1 w.2.2.2.2.1 H4 J5 Nw []=some ((((),w.2.1,(),(),(),w.2.2.2.2.2.1,(),(),(),(),w.2.2.2.2.2.2.2.2.2.2.1,()),()),(w.1,GC,w.2.2.2.1,w.2.2.2.2.1,H4,J5,(Nw++w.2.2.2.2.2.2.2.2.1.drop i),w.2.2.2.2.2.2.2.2.2.1,())):=by
 have kI:=h.MK;have hl:=h.lens;intro n
 induction n with
 |zero=>omega
 |succ n ih=>
  intro i GC H4 J5 Nw hi hn hb;simp only[CT,NH,AA];by_cases LH:i<w.2.2.2.2.2.2.2.2.1.length
  ·have hm:=AM (f:=AY) (ADz LH)
   have hw:AY w.2.2.2.2.2.2.2.2.1[i]=AJ Av w.2.2.2.2.2.2.2.2.1[i].2.2.1:=rfl;have hlw:=AF (f:=Av) (l:=w.2.2.2.2.2.2.2.2.1[i].2.2.1);rw[ADW (by omega),ADW (by omega),AO LH,AG (by omega) (by omega),show((i:Int)+1)=((i+1:Nat):Int)by omega,drop_cons LH];rw[show(w.2.2.2.2.2.2.2.2.1[i].1,w.2.2.2.2.2.2.2.2.1[i].2.1,w.2.2.2.2.2.2.2.2.1[i].2.2.1,())=w.2.2.2.2.2.2.2.2.1[i]from rfl,RT (by omega)];simp only[AU];rw[ADW (by rw[Ay];omega),ih (i+1) _ _ _ _ (by omega) (by omega) (by simp_all),AEJ];rfl
  ·rw[AEK (by omega),ADW (by rw[Ay];omega),AF1 (by omega),AFp]
theorem o9:∀(n i:Nat) (GC:List AQ) (H4:List AR) (J5:List An),i≤w.2.2.2.2.2.2.2.1.length→(w.2.2.2.2.2.2.2.1.length-i)+w.2.2.2.2.2.2.2.2.1.length+2≤n→J5.length≤i→
  CV n w.2.2.2.2.2.2.2.1 w.2.2.2.2.2.2.2.1.length i w.1 w.2.1 w.2.2.1 w.2.2.2.1 w.2.2.2.2.1 w.2.2.2.2.2.1 w.2.2.2.2.2.2.1 w.2.2.2.2.2.2.2.1 w.2.2.2.2.2.2.2.2.1 w.2.2.2.2.2.2.2.2.2.1 w.2.2.2.2.2.2.2.2.2.2.1 0 0 false [] [] [] [] [] [] [] [] w.2.1 w.2.2.2.2.2.1 w.2.2.2.2.2.2.2.2.2.2.1 w.1 GC w.2.2.2.1 w.2.2.2.2.1 H4 J5 [] []=some ((((),w.2.1,(),(),(),w.2.2.2.2.2.1,(),(),(),(),w.2.2.2.2.2.2.2.2.2.2.1,()),()),(w.1,GC,w.2.2.2.1,w.2.2.2.2.1,H4,(J5++w.2.2.2.2.2.2.2.1.drop i),w.2.2.2.2.2.2.2.2.1,w.2.2.2.2.2.2.2.2.2.1,())):=by
 have kI:=h.MK;have hl:=h.lens;intro n
 induction n with
 |zero=>omega
 |succ n ih=>
  intro i GC H4 J5 hi hn hb;simp only[CV,NK,AA];by_cases LH:i<w.2.2.2.2.2.2.2.1.length
  ·have hm:=AM (f:=A6) (ADz LH)
   rw[ADW (by omega),ADW (by omega),AO LH,AG (by omega) (by omega),show((i:Int)+1)=((i+1:Nat):Int)by omega,drop_cons LH];rw[show(w.2.2.2.2.2.2.2.1[i].1,w.2.2.2.2.2.2.2.1[i].2.1,w.2.2.2.2.2.2.2.1[i].2.2.1,w.2.2.2.2.2.2.2.1[i].2.2.2.1,w.2.2.2.2.2.2.2.1[i].2.2.2.2.1,w.2.2.2.2.2.2.2.1[i].2.2.2.2.2.1,())=w.2.2.2.2.2.2.2.1[i]from rfl,Zi (by omega)];simp only[AU];rw[ADW (by rw[Ay];omega),ih (i+1) _ _ _ (by omega) (by omega) (by simp_all),AEJ];rfl
  ·have:=oA h n 0 GC H4 J5 [] (by omega) (by omega) (by simp)
   grind
theorem rO:∀(n i:Nat) (GC:List AQ) (H4:List AR),i≤w.2.2.2.2.2.2.1.length→(w.2.2.2.2.2.2.1.length-i)+w.2.2.2.2.2.2.2.1.length+w.2.2.2.2.2.2.2.2.1.length+3≤n→H4.length≤i→
  Cj n w.2.2.2.2.2.2.1 w.2.2.2.2.2.2.1.length i w.1 w.2.1 w.2.2.1 w.2.2.2.1 w.2.2.2.2.1 w.2.2.2.2.2.1 w.2.2.2.2.2.2.1 w.2.2.2.2.2.2.2.1 w.2.2.2.2.2.2.2.2.1 w.2.2.2.2.2.2.2.2.2.1 w.2.2.2.2.2.2.2.2.2.2.1 0 0 false [] [] [] [] [] [] [] [] w.2.1 w.2.2.2.2.2.1 w.2.2.2.2.2.2.2.2.2.2.1 w.1 GC w.2.2.2.1 w.2.2.2.2.1 H4 [] [] []=some ((((),w.2.1,(),(),(),w.2.2.2.2.2.1,(),(),(),(),w.2.2.2.2.2.2.2.2.2.2.1,()),()),(w.1,GC,w.2.2.2.1,w.2.2.2.2.1,(H4++w.2.2.2.2.2.2.1.drop i),w.2.2.2.2.2.2.2.1,w.2.2.2.2.2.2.2.2.1,w.2.2.2.2.2.2.2.2.2.1,())):=by
 have kI:=h.MK;have hl:=h.lens;intro n
 induction n with
 |zero=>omega
 |succ n ih=>
  intro i GC H4 hi hn hb;simp only[Cj,On,AA];by_cases LH:i<w.2.2.2.2.2.2.1.length
  ·have hm:=AM (f:=AS) (ADz LH)
   rw[ADW (by omega),ADW (by omega),AO LH,AG (by omega) (by omega),show((i:Int)+1)=((i+1:Nat):Int)by omega,drop_cons LH];rw[show(w.2.2.2.2.2.2.1[i].1,w.2.2.2.2.2.2.1[i].2.1,())=w.2.2.2.2.2.2.1[i]from rfl,Xb (by omega)];simp only[AU];rw[ADW (by rw[Ay];omega),ih (i+1) _ _ (by omega) (by omega) (by simp_all),AEJ];rfl
  ·have:=o9 h n 0 GC H4 [] (by omega) (by omega) (by simp)
   grind
theorem tN:∀(n i:Nat) (GC:List AQ),i≤w.2.2.1.length→(w.2.2.1.length-i)+w.2.2.2.2.2.2.1.length+w.2.2.2.2.2.2.2.1.length+w.2.2.2.2.2.2.2.2.1.length+4≤n→GC.length≤i→
  Ch n w.2.2.1 w.2.2.1.length i w.1 w.2.1 w.2.2.1 w.2.2.2.1 w.2.2.2.2.1 w.2.2.2.2.2.1 w.2.2.2.2.2.2.1 w.2.2.2.2.2.2.2.1 w.2.2.2.2.2.2.2.2.1 w.2.2.2.2.2.2.2.2.2.1 w.2.2.2.2.2.2.2.2.2.2.1 0 0 false [] [] [] [] [] [] [] [] w.2.1 w.2.2.2.2.2.1 w.2.2.2.2.2.2.2.2.2.2.1 w.1 GC w.2.2.2.1 w.2.2.2.2.1 [] [] [] []=some ((((),w.2.1,(),(),(),w.2.2.2.2.2.1,(),(),(),(),w.2.2.2.2.2.2.2.2.2.2.1,()),()),(w.1,(GC++w.2.2.1.drop i),w.2.2.2.1,w.2.2.2.2.1,w.2.2.2.2.2.2.1,w.2.2.2.2.2.2.2.1,w.2.2.2.2.2.2.2.2.1,w.2.2.2.2.2.2.2.2.2.1,())):=by
 have kI:=h.MK;have hl:=h.lens;intro n
 induction n with
 |zero=>omega
 |succ n ih=>
  intro i GC hi hn hb;simp only[Ch,PM,AA];by_cases LH:i<w.2.2.1.length
  ·have hm:=AM (f:=Aa) (ADz LH)
   have hw:=XS (s:=w.2.2.1[i]) (by omega);rw[ADW (by omega),ADW (by omega),AO LH,AG (by omega) (by omega),show((i:Int)+1)=((i+1:Nat):Int)by omega,drop_cons LH];rw[show(w.2.2.1[i].1,w.2.2.1[i].2.1,w.2.2.1[i].2.2.1,())=w.2.2.1[i]from rfl,Yc hw.1 hw.2];simp only[AU];rw[ADW (by rw[Ay];omega),ih (i+1) _ (by omega) (by omega) (by simp_all),AEJ];rfl
  ·have:=rO h n 0 GC [] (by omega) (by omega) (by simp)
   grind
theorem TT:GV w=some ((((),w.2.1,(),(),(),w.2.2.2.2.2.1,(),(),(),(),w.2.2.2.2.2.2.2.2.2.2.1,()),()),(w.1,w.2.2.1,w.2.2.2.1,w.2.2.2.2.1,w.2.2.2.2.2.2.1,w.2.2.2.2.2.2.2.1,w.2.2.2.2.2.2.2.2.1,w.2.2.2.2.2.2.2.2.2.1,())):=by
 have kI:=h.MK;have hl:=h.lens;unfold GV PD;have:=tN h AL 0 [] (by omega) (Nat.le_of_lt (AH (by omega))) (by simp);rw[show((0:Nat):Int)=0 from rfl,AFO,AGy]at this;rw[show(w.1,w.2.1,())=C3 w from rfl,Xa (by show w.1.length≤_;omega),De (by omega),show(w.2.2.2.2.1,w.2.2.2.2.2.1,())=(Su w)from rfl,WG (by show AJ BS w.2.2.2.2.1≤_;omega)];simp only[AU];exact this
end
end Go.M
end
section
set_option maxRecDepth 8000
namespace Go.M
open Go.M.H (AK AQ An BK AE CN AN BE AR Ab Az A0 EL Aa A6 AJ AF AM Ag BS Aq AS AY Bo Av Bk BT)
theorem tp{a b:Nat}(h:a+b<2^40):AX ((IntKind.wrap .u64 (AX ((a:Int)+(b:Int)))).fdiv (2^1))=(((a+b)/2:Nat):Int):=by
 grind[AG,IntKind.wrap,IntKind.bits,IntKind.signed,Int.fdiv_eq_ediv_of_nonneg]
structure mP {α:Type} (f:α→Int) (p:Int) (l:List α) (q:Nat):Prop where
 le:q≤l.length
 lt:∀(i:Nat) (h:i<l.length),i<q→f l[i]<p
 ge:∀(i:Nat) (h:i<l.length),q≤i→p≤f l[i]
theorem lb{α:Type}{f:α→Int}{l:List α}(h:mI f l){i j:Nat}(hi:i<l.length)(hj:j<l.length)(wv:i≤j):f l[i]≤f l[j]:=by
 grind[Int.le_of_lt,List.pairwise_iff_getElem]
theorem dh{l:List AK}(ha:w9 l)(hl:l.length≤2^30)(p:Int):∃q,mP (fun e:AK=>e.1) p l q∧
  Q2 l p=some ((((q:Int),(match l[q]? with|some e=>e.1==p|none=>false),()),()),()):=by
 have key:∀(n a b:Nat),a≤b→b≤l.length→b-a<n→(∀(i:Nat) (h:i<l.length),i<a→l[i].1<p)→(∀(i:Nat) (h:i<l.length),b≤i→p≤l[i].1)→
   ∃q,mP (fun e:AK=>e.1) p l q∧AW n l p l.length a b=some ((((q:Int),(match l[q]? with|some e=>e.1==p|none=>false),()),()),()):=by
  intro n
  induction n with
  |zero=>omega
  |succ n ih=>
   intro a b hab hb hn h1 h2;simp only[AW,BH,AA,Mf];by_cases RF:a<b
   ·have hm:(a+b)/2<l.length:=by omega
    rw[ADW (by omega),tp (by omega),ADW (by omega),AO hm];by_cases hc:l[(a+b)/2].1<p
    ·rw[ADW hc]
     simp only[AU];rw[ADW (by omega),AG (by omega) (by omega),show((((a+b)/2:Nat):Int)+1)=(((a+b)/2+1:Nat):Int)by omega];refine ih _ b (by omega) hb (by omega) (fun i h hi=> ?_) h2;exact Int.lt_of_le_of_lt (lb (f:=fun e:AK=>e.1) ha h hm (by omega)) hc
    ·rw[AEK hc]
     have hge:∀(i:Nat) (h:i<l.length),(a+b)/2≤i→p≤l[i].1:=fun i h hi=>Int.le_trans (by omega) (lb (f:=fun e:AK=>e.1) ha hm h hi)
     by_cases hd:l[(a+b)/2].1>p
     ·rw[ADW hd]
      simp only[AU];rw[AEK (by omega)];exact ih a _ (by omega) (by omega) (by omega) h1 hge
     ·rw[AEK hd]
      simp only[AU];rw[AEK (by omega)];exact ih a _ (by omega) (by omega) (by omega) h1 hge
   ·have AD3:a=b:=by omega
    subst AD3;refine⟨a,⟨hb,h1,h2⟩,?_⟩;rw[AEK (by omega)];by_cases z6:a<l.length
    ·have:=h2 a z6 (AF2 _)
     rw[ADW (by omega),ADW (by omega),AO z6,ADU z6,AEK (by omega)];by_cases hd:l[a].1>p
     ·simp_all;omega
     grind
    grind
 obtain⟨q,hq,e⟩:=key AL 0 l.length (by omega) (by omega) (AH (by omega)) (fun i h hi=>by omega) (fun i h hi=>by omega);refine⟨q,hq,?_⟩;unfold Q2 As BI;simp_all
theorem mP.get_eq{p:Int}{l:List AK}{q:Nat}(h:mP (fun e:AK=>e.1) p l q)(ha:w9 l):RC p l=match l[q]? with|some e=>if e.1=p then some e else none|none=>none:=by
 by_cases hq:q<l.length
 ·rw[ADU hq]
  dsimp only;by_cases he:l[q].1=p
  ·rw[ADW he,←he]
   exact aM ha (ADz hq)
  ·rw[AEK he]
   cases hg:RC p l with
   |none=>rfl
   |some x=>
    obtain⟨hm,hx⟩:=fp hg;obtain⟨i,hi,rfl⟩:=AGD hm;exfalso;have h2:=h.ge q hq (AF2 _);rcases Nat.lt_or_ge i q with hiq|hiq
    ·have:=h.lt i hi hiq
     omega
    ·have:=lb (f:=fun e:AK=>e.1) ha hq hi hiq
     omega
 ·rw[List.getElem?_eq_none (by omega)]
  dsimp only;cases hg:RC p l with
  |none=>rfl
  |some x=>
   obtain⟨hm,hx⟩:=fp hg;obtain⟨i,hi,rfl⟩:=AGD hm;have:=h.lt i hi (by omega);omega
theorem Za{s:AQ}(h0:Aa s≤2^30)(h1:SIn s)(p:Int):OB s p=some (((match eK s p with|some e=>(e,true,())|none=>((0,0,false,[],()),false,())),()),()):=by
 unfold OB eK;rw[show(s.1,s.2.1,s.2.2.1,())=s from rfl,Vt h0 h1];simp only[AU];rcases AE8 (DN s)with KZ|KZ
 rotate_left
 ·simp_all
 have hs:=WA.1 KZ;have hn:=hs.nk;obtain⟨q,hq,e⟩:=dh hs.asc (by omega) p;rw[KZ,e,ADW rfl,hq.get_eq hs.asc];grind
theorem TL{e o:Int}:Iy e o=some (((Tv e o,BQ e 1 30&&BQ o 1 60,()),()),()):=by
 unfold Iy Dk SN Tv;rw[A_,A_];simp only[AU];rcases AE8 (BQ e 1 30)with he|he
 rotate_left
 ·simp_all
 rcases AE8 (BQ o 1 60)with ho|ho
 rotate_left
 ·simp_all
 rw[he,ho];have h1:=CR.1 he;have h2:=CR.1 ho;simp only[AEl,AEt,Bool.and_self,AGF];rw[AG (x:=4294967296*e) (by omega) (by omega),AG (by omega) (by omega)];rfl
theorem YD{k:Int}:Lv k=some (((),()),(Aj k,())):=by
 unfold Lv Oj Aj;rw[A_];simp only[AU];rcases AE8 (BQ k 0 255)with hk|hk
 rotate_left
 ·simp_all
 rw[hk,ADW rfl];have hk':=CR.1 hk;have key:∀(n i:Nat) (b:AAA),i≤8→8-i<n→b.length≤i→
   FV n k i b=some (((),()),(b++(([0,1,2,3,4,5,6,7]:AAA).drop i).filter (fun i=>(k/2^i.toNat)%2==1),())):=by
  intro n
  induction n with
  |zero=>omega
  |succ n ih=>
   intro i b hi h hb;simp only[FV,PU,AA];by_cases LH:i<8
   ·have wT:=pH (k:=k) (i:=i) (by omega) (by omega)
    rw[ADW (show(i:Int)<8 by omega),AEK (by omega),AEA,gF i LH,AGe,AEA,AG (by omega) (by omega),show((i:Int)+1)=((i+1:Nat):Int)by omega];rw[wT];simp only[AA];have c2:b.length+1≤Ej:=by rw[Ay];omega
    by_cases l8:(k/2^i)%2=1
    ·rw[ADW l8,ADW c2,ADW (by simp_all),ih (i+1) _ (by omega) (by omega) (by simp_all),AEJ]
     rfl
    grind
   ·have:i=8:=by omega
    simp_all
 have:=key AL 0 [] (by omega) (AH (by omega)) (by simp);simp_all
theorem Xh{x:AR}(h:x.2.1.length≤2^30):Kr x=some (((Ub x.2.1:Int),()),()):=by
 have key:∀(n i:Nat),i≤x.2.1.length→x.2.1.length-i<n→i+Ub (x.2.1.drop i)=Ub x.2.1→Et n x.2.1 x.2.1.length i x.1 x.2.1=some (((Ub x.2.1:Int),()),()):=by
  intro n
  induction n with
  |zero=>omega
  |succ n ih=>
   intro i hi hn hs;simp only[Et,NI,AA];by_cases hc:i<x.2.1.length
   ·rw[drop_cons hc]at hs
    simp only[Ub]at hs;rw[ADW (by omega),ADW (by omega),AO hc,AG (by omega) (by omega),show((i:Int)+1)=((i+1:Nat):Int)by omega];cases hd:x.2.1[i].2.2.1 with
    |true=>
     grind
    |false=>
     simp_all
   ·rw[AF1 (by omega)]at hs
    simp only[Ub]at hs;grind
 grind[Kr,M_,AL,AH]
theorem dL{w:AE}(h:dJ w)(e:Int):TE w e=some ((VF w e,()),()):=by
 have kI:=h.MK;have hl:=h.lens;have key:∀(n i:Nat),i≤w.Al.length→w.Al.length-i<n→Ir n e w.Al w.Al.length i=some (((match(w.Al.drop i).find? (fun x=>x.1==e)with|some x=>(Ub x.2.1:Int)|none=>0),()),()):=by
  intro n
  induction n with
  |zero=>omega
  |succ n ih=>
   intro i hi hn;simp only[Ir,TU,AA];by_cases hc:i<w.Al.length
   ·have Vy:i<w.2.2.2.2.2.2.1.length:=hc
    have hm:AS w.Al[i]≤AJ AS w.2.2.2.2.2.2.1:=AM (f:=AS) (ADz hc);have hw:AS w.Al[i]=AJ Aq w.Al[i].2.1:=rfl;have hlw:=AF (f:=Aq) (l:=w.Al[i].2.1);rw[ADW (by omega),ADW (by omega),AO hc,AG (by omega) (by omega),show((i:Int)+1)=((i+1:Nat):Int)by omega,drop_cons hc,AG6,show(w.Al[i].1,w.Al[i].2.1,())=w.Al[i]from rfl,Xh (by omega),ih (i+1) (by omega) (by omega)];cases w.Al[i].1==e<;>rfl
   grind
 grind[TE,T1,VF,AL,AH]
end Go.M
end
section
set_option maxRecDepth 8000
namespace Go.M
open Go.M.H (AK AQ An BK AE CN AN BE AR Ab Az A0 EL Aa A6 AJ AF AM Ag BS Aq AS AY Bo Av Bk BT)
theorem jd{x:Int}{t:AAP}(h:t.1.length≤2^30):LD x t=some ((!t.1.contains x,()),()):=by
 grind[LD,PA]
theorem ax{t:AAP×Unit}(h:t.1.1.length≤2^30){l:AAA}(hl:l.length≤2^30):BC t l=some (((),()),((),l.filter (fun x=> !(!t.1.1.contains x)),())):=by
 have key:∀(n i j:Nat) (b:AAA),i≤j→j≤b.length→b.length≤2^30→b.length-j<n→Am n t i j b=some (((),()),((),b.take i++(b.drop j).filter (fun x=> !(!t.1.1.contains x)),())):=by
  intro n
  induction n with
  |zero=>omega
  |succ n ih=>
   intro i j b wv hj hb hn;simp only[Am,Br,AA];by_cases hc:j<b.length
   ·rw[ADW (by omega),ADW (by omega),AO hc,jd h]
    simp only[AU];rw[AG (x:=(j:Int)+1) (by omega) (by omega),AG (x:=(i:Int)+1) (by omega) (by omega),show((j:Int)+1)=((j+1:Nat):Int)by omega,show((i:Int)+1)=((i+1:Nat):Int)by omega,drop_cons hc,AGe];have n1:=ih (i+1) (j+1) (b.set i b[j]) (by omega) (by grind) (by simp_all) (by grind);have n2:=ih i (j+1) b (by omega) (by omega) hb (by omega);rw[show(t.1,())=t from rfl,n2];rw[List.drop_set_of_lt (by omega),AGh (by grind),List.take_set_of_le (AF2 _),List.getElem_set_self,AEJ,List.singleton_append]at n1;rw[ADW (by omega),AEA,n1]
    generalize hx:b[j]=x
    cases(!t.1.1.contains x)<;>rfl
   ·rw[AEK (by omega),AF1 (i:=j) (by omega),AEA,AEA]
    simp_all;omega
 have fnd:∀(n i:Nat),i≤l.length→l.length-i<n→ ∃r:Int,Ap n l t l.length i=some ((r,()),())∧((r= -1∧(l.drop i).filter (fun x=> !(!t.1.1.contains x))=l.drop i)∨ ∃q:Nat,r=q∧i≤q∧q<l.length∧((l.take q).drop i).filter (fun x=> !(!t.1.1.contains x))=(l.take q).drop i∧ ∀(h:q<l.length) x,x=l[q]→(!t.1.1.contains x)=true):=by
  intro n
  induction n with
  |zero=>omega
  |succ n ih=>
   intro i hi hn;simp only[Ap,Bv,AA];by_cases hc:i<l.length
   ·rw[ADW (by omega),ADW (by omega),AO hc,jd h]
    simp only[AU];rw[AG (x:=(i:Int)+1) (by omega) (by omega),show((i:Int)+1)=((i+1:Nat):Int)by omega,show(t.1,())=t from rfl];obtain⟨r,e,hr⟩:=ih (i+1) (by omega) (by omega);rw[e]
    generalize hx:l[i]=x
    cases hp:(!t.1.1.contains x)with
    |true=>
     grind
    |false=>
     refine⟨r,rfl,?_⟩;rcases hr with⟨h1,h2⟩|⟨q,h1,h2,h3,h4,h5⟩
     ·grind[drop_cons]
     ·refine .inr ⟨q,h1,by omega,h3,?_,h5⟩
      grind[drop_cons]
   grind
 obtain⟨r,e,hr⟩:=fnd AL 0 (by omega) (AH (by omega));rw[show((0:Nat):Int)=0 from rfl]at e;unfold BC Bq Bj B6;rw[show(t.1,())=t from rfl,e];simp only[AU];rcases hr with⟨h1,h2⟩|⟨q,h1,h2,h3,h4,h5⟩
 ·grind
 ·rw[h1,AGE.2 (by omega),AEt,AG (by omega) (by omega),show((q:Int)+1)=((q+1:Nat):Int)by omega,key AL q (q+1) l (by omega) (by omega) hl (AH (by omega))]
  rw[AGy]at h4;have hd:=h5 h3 _ rfl;grind[List.take_append_drop,drop_cons]
theorem Yv{a b:AAA}(ha:a.length≤2^30)(hb:b.length≤2^30):Jd a b=some (((),()),(a.filter b.contains,())):=by
 unfold Jd;rw[De ha];simp only[AU];rw[ax hb ha];grind
theorem br{d:EL}:TC d=some ((WI d,()),()):=by
 obtain⟨k,a,b,n,t,⟨⟩⟩:=d;obtain⟨m,hm⟩:∃m,AL=m+4:=⟨AL-4,by have:=YV;omega⟩;have fin:∀(a' b' n':Int) (t':List UInt8),(((BF k 1 16).bind fun u4=>cond (u4.1.1) (cond ((((0:Int)==0)&&((a' ==0)&&((b' ==0)&&((n' ==0)&&((t' ==[])&&true))))) ) ((Cz t).bind fun u6=>some ((u6.1.1,()),())) (some ((false,()),()))) (some ((false,()),()))):Option J_)=some ((BQ k 1 16&&((a' ==0)&&((b' ==0)&&((n' ==0)&&((t' ==[])&&decide (t.length≤40))))),()),()):=by
  intro a' b' n' t';rw[A_];simp only[AU,Cz,AGQ,AFd,AGX];have e:decide ((t.length:Int)≤40)=decide (t.length≤40):=by grind
  grind
 unfold TC S7 U2 WI Wr;rw[hm];have h1:((1:Nat):Int)=1:=rfl;have w1:AX (1:Int)=1:=AG (by omega) (by omega);have w2:AX (2:Int)=2:=AG (by omega) (by omega);have w3:AX (3:Int)=3:=AG (by omega) (by omega);have lim:(3:Nat)≤Ej:=by rw[Ay];omega
 have l0:(0:Nat)≤Ej:=by omega
 have l1:(1:Nat)≤Ej:=by omega
 have l2:(2:Nat)≤Ej:=by omega
 dsimp only;by_cases k8:k=8
 ·subst k8
  simpa[Bn,BW]using fin a b n t
 by_cases k10:k=10
 ·subst k10
  simpa[Bn,BW]using fin a b n t
 by_cases k12:k=12
 ·subst k12
  simpa[Bn,BW]using fin a b n t
 by_cases k2:k=2
 ·subst k2
  simpa[Bn,BW,l2,w1,w2]using fin 0 b n []
 by_cases k3:k=3
 ·subst k3
  simpa[Bn,BW,lim,w1,w2,w3]using fin 0 0 0 t
 by_cases k5:k=5
 ·subst k5
  simpa[Bn,BW,l2,w1,w2]using fin 0 0 n t
 by_cases k14:k=14
 ·subst k14
  simpa[Bn,BW,l2,w1,w2]using fin 0 0 n t
 by_cases k11:k=11
 ·subst k11
  simpa[Bn,BW,l2,w1,w2]using fin a 0 0 t
 by_cases k13:k=13
 ·subst k13
  simpa[Bn,BW,l1,w1]using fin 0 b n t
 have e8:(k==8)=false:=AGE.2 k8;have e10:(k==10)=false:=AGE.2 k10;have e12:(k==12)=false:=AGE.2 k12;have e2:(k==2)=false:=AGE.2 k2;have e3:(k==3)=false:=AGE.2 k3;have e5:(k==5)=false:=AGE.2 k5;have e14:(k==14)=false:=AGE.2 k14;have e11:(k==11)=false:=AGE.2 k11;have e13:(k==13)=false:=AGE.2 k13;simpa[k8,k10,k12,k2,k3,k5,k14,k11,k13,e8,e10,e12,e2,e3,e5,e14,e11,e13,Bn,BW,l1,w1]using fin 0 b n t
end Go.M
end
section
set_option maxRecDepth 8000
namespace Go.M
open Go.M.H (AK AQ An BK AE CN AN BE AR Ab Az A0 EL Aa A6 AJ AF AM Ag BS Aq AS AY Bo Av Bk BT)
theorem al{l:List A0}(hl:l.length≤2^21):JE l=some (((),()),(l.map (fun a=>a.1),())):=by
 have key:∀(n i:Nat) (b:AAA),i≤l.length→l.length-i<n→b.length=i→HK n l l.length i b=some (((),()),(b++(l.drop i).map (fun a=>a.1),())):=by
  intro n
  induction n with
  |zero=>omega
  |succ n ih=>
   intro i b hi h hb;simp only[HK,Sj,AA];by_cases Vy:i<l.length
   ·have c1:(0:Int)≤(i:Int)∧(i:Int)<(l.length:Int):=by omega
    have c2:b.length+1≤Ej:=by rw[Ay];omega
    rw[ADW c1.2,ADW c1,ADW c2,AG (by omega) (by omega),show((i:Int)+1)=((i+1:Nat):Int)by omega,AO Vy,ih (i+1) _ (by omega) (by omega) (by simp_all),drop_cons Vy];grind
   grind
 unfold JE SK;have:=key AL 0 [] (by omega) (AH (by omega)) rfl;simp_all
theorem gn{c:Cy}{s l:AAA}(hc:c.1.length≤2^40)(hl:l.length≤2^21)(hs:s.length≤2^21):We c s l=some (((),()),(if Ak c s&&Ak c l then less s l else[],())):=by
 have key:∀(n i:Nat) (b:AAA),i≤s.length→s.length-i<n→b.length≤i→Mb n l s s.length i b=some (((),()),(b++less (s.drop i) l,())):=by
  intro n
  induction n with
  |zero=>omega
  |succ n ih=>
   intro i b hi h hb;simp only[Mb,Vh,AA,Hg];by_cases Vy:i<s.length
   ·have c1:(0:Int)≤(i:Int)∧(i:Int)<(s.length:Int):=by omega
    have c2:b.length+1≤Ej:=by rw[Ay];omega
    rw[ADW c1.2,ADW c1,AO Vy,PA (by omega),AG (by omega) (by omega),show((i:Int)+1)=((i+1:Nat):Int)by omega,drop_cons Vy];simp only[AU,ADW c2];rw[ih (i+1) b (by omega) (by omega) (by omega),ih (i+1) (b++[s[i]]) (by omega) (by omega) (by simp_all)];grind[less]
   ·rw[AEK (by omega),AF1 (by omega)]
    simp[less]
 unfold We Vc;rw[show(c.1,c.2.1,())=c from rfl,CW hc (by omega),CW hc (by omega)];simp only[AU];cases Ak c s with
 |false=>rfl
 |true=>
  cases Ak c l with
  |false=>rfl
  |true=>
   have:=key AL 0 [] (by omega) (AH (by omega)) (by simp);simp_all
theorem filter_all{l:AAA}{p:Int→Bool}:((((l.filter p).length:Nat):Int) !=(l.length:Int))= !l.all p:=by
 rw[Bool.eq_iff_iff];simp only[bne_iff_ne,ne_eq,AGl,Bool.eq_false_iff];grind[List.filter_eq_self,List.all_eq_true,List.length_filter_eq_length_iff]
theorem cv{c:Cy}{s l:AAA}(hc:c.1.length≤2^40)(hl:l.length≤2^21)(hs:s.length≤2^21):Dt c s l=some ((Pr c s l,()),()):=by
 unfold Dt Pr;rw[show(c.1,c.2.1,())=c from rfl,CW hc (by omega),J9 hc (by omega),Yv (by omega) (by omega),gn hc hl hs];simp only[AU,Hg,filter_all];have hh:holds c s=true→Ak c s=true:=fun h=>by
  unfold holds at h;simp_all
 cases h1:Ak c l with
 |false=>simp
 |true=>
  cases h2:holds c s with
  |false=>rfl
  |true=>
   cases h3:l.all s.contains with
   |false=>rfl
   |true=>
    have h4:(less s l).length≤2^21:=AGG (AGK _ _) hs;rw[hh h2];simp only[AF7,Bool.and_self,AGF,AEl,AEt,AFd];grind[J9]
theorem WM{a b:AK}:O9 a b=some ((better a b,()),()):=by
 unfold O9 better;grind
theorem cK{s:AAA}{p:Int}{l:List A0}(hs:s.length≤2^21)(hl:l.length≤2^21)(XD:∀a∈l,Hd a.2.2.1):
  Ts l s p=some (((((ER s p none l).getD B3),(ER s p none l).isSome,()),()),()):=by
 have key:∀(n i:Nat) (b:Option AK),i≤l.length→l.length-i<n→
   IZ n s p b.isSome l l.length i 0 0 false [] (b.getD B3).1 (b.getD B3).2.1 (b.getD B3).2.2.1 (b.getD B3).2.2.2.1=some (((((ER s p b (l.drop i)).getD B3),(ER s p b (l.drop i)).isSome,()),()),()):=by
  intro n
  induction n with
  |zero=>omega
  |succ n ih=>
   intro i b hi h;simp only[IZ,T0,AA,Hg];by_cases Vy:i<l.length
   ·have c1:(0:Int)≤(i:Int)∧(i:Int)<(l.length:Int):=by omega
    rw[ADW c1.2,ADW c1,AG (by omega) (by omega),show((i:Int)+1)=((i+1:Nat):Int)by omega,AO Vy,drop_cons Vy];have ih':=fun b=>ih (i+1) b (by omega) (by omega)
    simp only[ih'];rw[PA (by omega),show(l[i].2.2.1,l[i].2.2.2.1,l[i].2.2.2.2.1,l[i].2.2.2.2.2.1,())=Q6 l[i]from rfl];rw[Pv (e:=Q6 l[i]) (XD _ (ADz Vy))];simp only[AU,ER];cases h1:l[i].2.1 with
    |false=>simp
    |true=>
     cases h2:s.contains l[i].1 with
     |false=>simp
     |true=>
      cases h3:DL (Q6 l[i])with
      |false=>simp
      |true=>
       simp only[AF7,AFd];by_cases h4:l[i].2.2.1=p
       ·rw[L_,ADW h4,ADW (by show((Q6 l[i]).1==p)=true;rw[AGd];exact h4)]
        cases b with
        |none=>
         simp only[AGS,AEt,WM,AU,Option.getD_none];have:=ih' (some (Q6 l[i]));simp only[AGf,AGq]at this;have hb:better (Q6 l[i]) (Q6 l[i])=Q6 l[i]:=by unfold better;simp_all
         simp_all
        |some x=>
         simp only[AGf,AF7,AGq];rw[show(x.1,x.2.1,x.2.2.1,x.2.2.2.1,())=x from rfl];grind[WM,AU,better,Q6,Option.isSome_some]
       ·rw[L_,AEK h4,AEK (by show¬((Q6 l[i]).1==p)=true;rw[AGd];exact h4)]
   ·rw[AEK (by omega),AF1 (by omega)]
    rfl
 unfold Ts Sw;exact key AL 0 none (by omega) (AH (by omega))
theorem VG{s t:AAA}{p:Int}:∀{l:List A0} {b:Option AK},(∀a∈l,s.contains a.1=t.contains a.1)→ER s p b l=ER t p b l
 |[],b,_=>rfl
 |a::l,b,h=>by
  simp only[ER];rw[h a (by simp),VG (fun x hx=>h x (by simp[hx])),VG (fun x hx=>h x (by simp[hx]))]
theorem QR{e:Az}{a b:Int}{l:List Az}(h:l.length≤2^30):Cb e a b l=some (((),()),((a,b,(),()),(),l++[e],())):=by
 unfold Cb;rw[ADW (by rw[Ay];omega)]
theorem Wb{s:AAA}{l:List A0}{a b:Int}{o:List Az}(ha:1≤a∧a≤30)(hb:1≤b∧b≤60)(ho:o.length≤2^21)(hs:s.length≤2^21)(hl:l.length≤2^21)(XD:∀a∈l,Hd a.2.2.1):
  BN l s a b o=some (((),()),((a,b+1,(),()),(),o++[SL (Pe a b) (ER s (Pe a b) none l)],())):=by
 unfold BN;rw[TL];have hp:Tv a b=Pe a b:=by
  unfold Tv;rw[ADW (by rw[AEE,CR,CR];omega)]
 simp only[AU];rw[hp,cK hs hl XD];simp only[AU,QR (AGG ho (by omega))];rw[AG (by omega) (by omega)];cases ER s (Pe a b) none l with
 |none=>rfl
 |some x=>
  simp only[AGf,AEl,AEt,AGq,SL];grind
theorem kX{x e o:Int}(hx:x=0∨BO x=true)(he:1≤e∧e≤31)(ho:1≤o∧o≤61):
  decide (x≥Pe e o)=(decide (x>0)&& !(decide (Ar x<e)||((Ar x==e)&&decide (J7 x<o)))):=by
 rcases hx with rfl|hx
 ·grind[decide_eq_false,Pe]
 ·have h:=LP hx
  rw[Bool.eq_iff_iff];simp only[AEE,AGl,Bool.or_eq_false_iff,AEe,AGz,Bool.and_eq_false_iff,AGE];grind[Pe]
theorem aW{x:Int}{r:Ab}(hx:Hd x):Q8 x r=some ((decide (Ar x<r.1)||((Ar x==r.1)&&decide (J7 x<r.2.1)),()),()):=by
 grind[Q8,FL,UO,AU,decide,Ar]
end Go.M
end
section
set_option maxRecDepth 8000
namespace Go.M
open Go.M.H (AK AQ An BK AE CN AN BE AR Ab Az A0 EL Aa A6 AJ AF AM Ag BS Aq AS AY Bo Av Bk BT)
theorem Xt{c:Cy}{g:AN}{sure:Int}{r:Ab}{l:List A0}(hc:c.1.length≤2^21)(hg:AJ BS g.1≤2^21)(ht:Hd g.2.1)(hl:l.length≤2^21)(XD:∀a∈l,Hd a.2.2.1):
  KI c g sure r l=some (lz (B7 c g sure r l)):=by
 unfold KI B7;rw[show(c.1,c.2.1,())=c from rfl,show(g.1,g.2.1,())=g from rfl,show(r.1,r.2.1,r.2.2.1,())=r from rfl,al hl,XE (by omega) (by omega) ht,UW];simp only[AU,Hg,AA];rw[CW (by omega) (by grind)];simp only[AU];cases h1:Si c g with
 |false=>rfl
 |true=>
 cases h2:Vi r with
 |false=>rfl
 |true=>
 cases h3:Ak c (l.map fun a=>a.1)with
 |false=>rfl
 |true=>
 have hr:=RN.1 h2;have hre:=hr.ep;have hro:=hr.off;have hrn:=hr.n;have hR:=Uq.1 h1;have hRn:=hR.n;simp only[AF7,AFd,AEl,AFZ,AFg];rw[RT (by omega)];simp only[AU];by_cases h4:r.1>(g.1.length:Int)
 ·rw[ADW h4,AGZ h4];rfl
 rw[AEK h4,AG0 h4];by_cases h5:r.2.2.1.length=120
 ·rw[show(((r.2.2.1.length:Nat):Int)==120)=true by simp_all,AGZ h5];rfl
 rw[show(((r.2.2.1.length:Nat):Int)==120)=false by grind,AG0 h5];simp only[AEt,AGM,AFZ,AFg];rw[AG (x:=r.1-1) (by omega) (by omega),aW ht,FL ht,UO ht];simp only[AU];have hto:=YQ (x:=g.2.1);rw[AG (x:=J7 g.2.1+1) (by omega) (by omega),AG (x:=r.1+1) (by omega) (by omega)];simp only[QR (l:=r.2.2.1) (by omega),AU];have hta:=kX (x:=g.2.1) (e:=r.1) (o:=r.2.1) (hR.trim.imp id fun h=>h.1) hre hro
 generalize pY:g.1.getD (r.1-1).toNat Na=era
 have RF:(r.1-1).toNat<g.1.length:=by omega
 have WQ:era.1.length≤2^21:=by
  have h7:=AM (f:=BS) (Bt (d:=Na) RF);rw[pY]at h7;have:BS era=era.1.length:=rfl;omega
 have hd:g.1.getD (r.1-1).toNat ([],false,0,())=era:=pY;rw[hd];have hf:((l.map fun a=>a.1).filter era.1.contains).length≤2^21:=AGG (AGK _ _) (by simp_all);rw[Yv (by grind) (by omega)];simp only[AU];rw[cv (by omega) hf WQ];simp only[AU];have AEp:(0:Int)≤r.1-1∧r.1-1<(g.1.length:Int):=by omega
 simp only[ADW AEp]
 generalize hT:(cond (era.2.1) _ _:Option Lm)=T
 have nu:T=some (lz (if era.2.1&&decide (r.2.1>era.2.2.1)then((r.1+1,1,r.2.2.1++[(4,r.1+1,[],())],()),0)else
   if(!era.2.1&&decide (r.2.1>sure))||decide (r.2.1>60)then(r,2)else
   if !Pr c era.1 ((l.map fun a=>a.1).filter era.1.contains)then(r,3)else
   ((r.1,r.2.1+1,r.2.2.1++[SL (Pe r.1 r.2.1) (ER era.1 (Pe r.1 r.2.1) none l)],()),0))):=by
  rw[←hT];clear hT;have tail:r.2.1≤60→(cond (Pr c era.1 ((l.map fun a=>a.1).filter era.1.contains))
    ((BN l ((l.map fun a=>a.1).filter era.1.contains) r.1 r.2.1 r.2.2.1).bind fun l7=>some ((((l7.2.1.1,l7.2.1.2.1,(),()),0,()),()),(l7.2.2.2.1,())))
    (some ((((r.1,r.2.1,(),()),3,()),()),(r.2.2.1,()))):Option Lm)=some (lz (if !Pr c era.1 ((l.map fun a=>a.1).filter era.1.contains)then(r,3)else
    ((r.1,r.2.1+1,r.2.2.1++[SL (Pe r.1 r.2.1) (ER era.1 (Pe r.1 r.2.1) none l)],()),0))):=by
   intro h60;rw[Wb (by omega) (by omega) (by omega) hf hl XD];rw[VG (s:=(l.map fun a=>a.1).filter era.1.contains) (t:=era.1) (fun a ha=>by
    rw[Bool.eq_iff_iff,AGu,List.mem_filter];exact⟨fun h=>by simp_all,fun h=>⟨List.mem_map_of_mem ha,by omega⟩⟩)]
   cases Pr c era.1 ((l.map fun a=>a.1).filter era.1.contains)<;>rfl
  cases h7:era.2.1 with
  |true=>
   simp only[AF7,AEt,AFd,AEl,AG1,AGM,AEe];by_cases h8:r.2.1>era.2.2.1
   ·rw[ADW h8,ADW h8];rfl
   rw[AEK h8,AEK h8];by_cases h9:r.2.1>60
   ·rw[ADW h9,ADW h9];rfl
   grind
  |false=>
   simp only[AF7,AEt,AFd,AGg,AG1,AFZ,AFg,AGH,AEe];by_cases h8:r.2.1>sure
   ·rw[ADW h8,ADW (.inl h8)];rfl
   rw[AEK h8];by_cases h9:r.2.1>60
   ·rw[ADW h9,ADW (.inr h9)];rfl
   grind
 rw[nu];clear hT nu
 generalize (decide (Ar g.2.1<r.1)||((Ar g.2.1==r.1)&&decide (J7 g.2.1<r.2.1)))=B at hta⊢
 by_cases h6:g.2.1≥Pe r.1 r.2.1
 ·rw[AGZ h6]at hta
  rw[ADW h6];by_cases h0:g.2.1>0
  ·rw[ADW h0]
   cases B with
   |true=>grind
   |false=>rfl
  simp_all
 ·rw[AEK h6]
  simp_all
end Go.M
end
section
set_option maxRecDepth 8000
namespace Go.M
open Go.M.H (AK AQ An BK AE CN AN BE AR Ab Az A0 EL Aa A6 AJ AF AM Ag BS Aq AS AY Bo Av Bk BT)
theorem nA{w:AE}{p n:Int}:(answer w p n).1=n:=by
 grind[answer]
theorem dD{w:AE}{p:Int}{ns:AAA}:(answers w p ns).map (fun a=>a.1)=ns.filter fun n=>Bf w n==0:=by
 unfold answers;rw[AG7]
 conv=>rhs;rw[←List.map_id (ns.filter fun n=>Bf w n==0)]
 grind[List.map_congr_left,nA]
theorem Zm{c:Cy}{g:AN}{s:Int}{r:Ab}{w:AE}{ns:AAA}:
  B7 c g s r (answers w (Tv r.1 r.2.1) ns)=B7 c g s r (answers w (Pe r.1 r.2.1) ns):=by
 unfold B7;rw[dD,dD];cases h1:Si c g with
 |false=>rfl
 |true=>
 cases h2:Vi r with
 |false=>rfl
 |true=>
 have hr:=RN.1 h2;have hre:=hr.ep;have hro:=hr.off;have hRn:=(Uq.1 h1).n;by_cases h3:r.1≤30∧r.2.1≤60
 ·have:Tv r.1 r.2.1=Pe r.1 r.2.1:=by
   unfold Tv;rw[ADW (by rw[AEE,CR,CR];omega)]
  rw[this]
 ·by_cases h4:r.1>(g.1.length:Int)
  ·simp_all
  ·have h5:r.2.1>60:=by omega
   simp_all
theorem sM{k n:Int}(h:n∈Aj k):0≤n∧n≤7:=by
 unfold Aj at h;simp_all;omega
theorem oS{k:Int}:(Aj k).length≤8:=by
 unfold Aj;split
 ·exact AGG (AGK _ _) (by simp)
 ·simp
section
variable{w:AE} (h:Z_ w) (U0:dJ w)
include h U0
omit U0 in
theorem kW{p:Int}{ns:AAA}:∀a∈answers w p ns,Hd a.2.2.1:=fun a ha=>by
 unfold answers at ha;obtain⟨n,hn,rfl⟩:=List.mem_map.1 ha;have Wy:Bf w n=0:=by have:=(List.mem_filter.1 hn).2;rwa [AGd]at this
 unfold answer;split
 ·rename_i e he
  have:=(h.store Wy).kept e (AGx he);exact PJ (Ea.1 this).pl
 ·exact⟨by show-9223372036854775808≤(0:Int);omega,by show(0:Int)<9223372036854775808;omega⟩
end
end Go.M
end
section
set_option maxRecDepth 8000
namespace Go.M
open Go.M.H (AK AQ An BK AE CN AN BE AR Ab Az A0 EL Aa A6 AJ AF AM Ag BS Aq AS AY Bo Av Bk BT)
theorem cR{c:Cy}{g:AN}{sure:Int}{r:Ab}{l:List A0}(h0:(B7 c g sure r l).2=0):
  (∃e:Az,(B7 c g sure r l).1.2.2.1=r.2.2.1++[e]∧e.2.2.1.length≤40)∧r.2.2.1.length<120:=by
 have hf:∀p,(SL p (ER (g.1.getD (r.1-1).toNat Na).1 p none l)).2.2.1.length≤40:=fun p=>by
  cases hb:ER (g.1.getD (r.1-1).toNat Na).1 p none l with
  |none=>show 0≤40;omega
  |some x=>
   have:=(Ea.1 (Zf (b:=none) (fun x hx=>by cases hx) x hb)).len;unfold SL;dsimp only;split
   all_goals simp_all
 revert h0
 unfold B7;dsimp only;split
 ·omega
 rename_i hs;simp only[AGc,AGs,AEE,RN]at hs;have r3:=hs.2.1.n;split
 ·omega
 rename_i h1;simp only[AGH,AEe,not_or]at h1;have RF:r.2.2.1.length<120:=by omega
 split
 ·simp_all
 split
 ·simp_all
 split
 ·omega
 split
 all_goals simp_all
theorem Z_.wW{w:AE}(h:Z_ w)(hr:AJ AY w.Aw≤1900000):dJ w:=by
 have hc:=(NT h.cfg).2.1;have Vy:w.1.length≤8:=hc;have a1:=DQ (f:=Aa) (B:=10000) (N:=8) (l:=w.CA) (by rw[h.wF];omega) fun s hs=>(h.WX hs).w
 have a2:=Gx h.lost;have a3:=h.tc.w;have a4:=DQ (f:=AS) (B:=3000) h.xU fun x hx=>(h.Al x hx).1.w
 have a5:=DQ (f:=A6) (B:=5000) h.nmd fun x hx=>(h.Jl x hx).1.w
 have a7:=DQ (f:=Bo) (B:=40) h.kG fun s hs=>(h.P2 s hs).2.2
 refine⟨?_,fun s hs=>(h.WX hs).sin,h.tc.tin,fun m hm=>(h.Jl m hm).1.ein,fun s hs=>PJ (h.P2 s hs).1⟩;have a3':AJ BS w.Nx≤270:=a3;grind[AJ,AY,Aa,BS,AS,A6,Bo,Bk]
def Uo(w:AE)(a:Int):Nat:=(w.Aw.getD a.toNat Dl).2.2.1.length
theorem fa{α:Type}{f:α→Nat}{x:α}:∀{l:List α} {i:Nat} (h:i<l.length),AJ f (l.set i x)+f l[i]=AJ f l+f x
 |y::l,0,_=>by simp[AJ];omega
 |y::l,i+1,h=>by
  have:=fa (f:=f) (x:=x) (l:=l) (i:=i) (by simp_all);grind[AJ]
theorem fW{α:Type}{f:α→Nat}{x:α}:∀{l:List α},AJ f (l++[x])=AJ f l+(1+f x)
 |[]=>by simp[AJ]
 |y::l=>by
  have:=fW (f:=f) (x:=x) (l:=l);grind[AJ]
theorem Wa{w:AE}{a k:Int}(h:Z_ w)(e:(A8 w a k).2=0):BQ a 0 1=true∧Z_ (A8 w a k).1∧Uo (A8 w a k).1 a=Uo w a+1∧Uo w a<120∧
  Uo (A8 w a k).1 (1-a)=Uo w (1-a)∧AJ AY (A8 w a k).1.Aw≤AJ AY w.Aw+41:=by
 have KZ:=su h e;unfold A8 at e KZ⊢;split at e
 ·omega
 rename_i h1;rw[AEK h1]at KZ;rw[AEK h1];dsimp only at e KZ⊢;split at e
 ·omega
 rename_i h2;rw[AEK h2]at KZ;rw[AEK h2];simp only[ne_eq,Decidable.not_not]at h2;simp only[AGc,AGs]at h1;have h1':=CR.1 h1;have hl:a.toNat<w.Aw.length:=by rw[h.v8];omega
 obtain⟨⟨ev,q1,q2⟩,q3⟩:=cR h2
 generalize hq:(B7 (C3 w) (Su w) (VF w (w.Aw.getD a.toNat Dl).1) (w.Aw.getD a.toNat Dl) (answers w (Pe (w.Aw.getD a.toNat Dl).1 (w.Aw.getD a.toNat Dl).2.1) (Aj k))).1=q at q1 KZ
 have hg:(w.Aw.set a.toNat q).getD a.toNat Dl=q:=by simp_all
 have aB:(1-a).toNat≠a.toNat:=by omega
 refine⟨h1,KZ,?_,q3,?_,?_⟩
 ·show((w.Aw.set a.toNat q).getD a.toNat Dl).2.2.1.length=_
  grind[Uo]
 ·show((w.Aw.set a.toNat q).getD (1-a).toNat Dl).2.2.1.length=_
  simp only[List.getD,AFx (Ne.symm aB)];rfl
 ·show AJ AY (w.Aw.set a.toNat q)≤_
  have:=fa (f:=AY) (x:=q) hl;have e1:AY q=AJ Av q.2.2.1:=rfl;have e2:AY w.Aw[a.toNat]=AJ Av w.Aw[a.toNat].2.2.1:=rfl;rw[q1,fW,jZ hl]at e1;have e3:Av ev=ev.2.2.1.length:=rfl;omega
def It:Nat→AE→Int→AE×Int
 |0,w,_=>(w,0)
 |n+1,w,a=>if(A8 w a 255).2=0 then((It n (A8 w a 255).1 a).1,(It n (A8 w a 255).1 a).2+1)else(w,0)
structure HR (w v:AE) (a m:Int):Prop where
 ok:Z_ v
 win:dJ v
 stop:(A8 v a 255).2≠0
 cnt:0≤m∧m≤120
 len:(Uo v a:Int)=Uo w a+m
 W_:Uo v (1-a)=Uo w (1-a)
theorem jB:∀(n:Nat) {w:AE} {a:Int},Z_ w→120-Uo w a<n→AJ AY w.Aw+41*(120-Uo w a)≤1900000→HR w (It n w a).1 a (It n w a).2
 |0,_,_,_,h,_=>by omega
 |n+1,w,a,h,hn,hw=>by
  simp only[It];by_cases hd:(A8 w a 255).2=0
  ·rw[ADW hd]
   obtain⟨_,k1,k2,k3,k4,k5⟩:=Wa h hd;have ih:=jB n (w:=(A8 w a 255).1) (a:=a) k1 (by omega) (by omega);have hl:=ih.len;have hc:=ih.cnt;have hro:Uo (It n (A8 w a 255).1 a).1 a≤120:=by
    unfold Uo;by_cases RF:a.toNat<(It n (A8 w a 255).1 a).1.Aw.length
    ·exact(ih.ok.Aw _ (Bt (d:=Dl) RF)).n
    simp_all
   exact⟨ih.ok,ih.win,ih.stop,by omega,by grind,ih.W_.trans k4⟩
  ·rw[AEK hd]
   exact⟨h,h.wW (by omega),hd,by omega,by simp,rfl⟩
theorem VN{all:Bool}{w:AE}(h:Z_ w){a k:Int}:YT all w (14,a,k,0,[],())=A8 w a k:=by
 unfold YT;have hd:WI (14,a,k,0,[],())=true:=rfl;rw[LS.2 h,hd];rfl
end Go.M
end
section
set_option maxRecDepth 8000
namespace Go.M
open Go.M.H (AK AQ An BK AE CN AN BE AR Ab Az A0 EL Aa A6 AJ AF AM Ag BS Aq AS AY Bo Av Bk BT)
def pq(q:AE×Int):Dy:=((q.2,()),(((),q.1.2.1,(),(),(),q.1.2.2.2.2.2.1,(),(),(),(),q.1.2.2.2.2.2.2.2.2.2.2.1,()),q.1.1,q.1.2.2.1,q.1.2.2.2.1,q.1.2.2.2.2.1,q.1.2.2.2.2.2.2.1,q.1.2.2.2.2.2.2.2.1,q.1.2.2.2.2.2.2.2.2.1,q.1.2.2.2.2.2.2.2.2.2.1,()))
section
variable{w:AE} (h:Z_ w) (U0:dJ w)
include h U0
theorem V2{a k:Int}:G7 a k w.2.1 w.2.2.2.2.2.1 w.2.2.2.2.2.2.2.2.2.2.1 w.1 w.2.2.1 w.2.2.2.1 w.2.2.2.2.1 w.2.2.2.2.2.2.1 w.2.2.2.2.2.2.2.1 w.2.2.2.2.2.2.2.2.1 w.2.2.2.2.2.2.2.2.2.1=some (pq (A8 w a k)):=by
 have kn:=h.nums;have k1:=kn.c;have k3:=kn.lost;have k4:=kn.st;have k3':=kn.og;have k4':=kn.st';have k5:=kn.era;have k6:=kn.ws;have k6':AJ Aa w.CA≤80008:=kn.ws;have k8:=kn.rd;unfold G7 KG A8;rw[AG (by omega) (by omega),show((w.2.2.2.2.2.2.2.2.1.length:Int)-1)=1 by omega,A_];simp only[AU,Hg];rcases AE8 (BQ a 0 1)with h1|h1
 rotate_left
 ·rw[h1];rfl
 have h1':=CR.1 h1;have hb:0≤a∧a<(w.2.2.2.2.2.2.2.2.1.length:Int):=by omega
 have RF:a.toNat<w.Aw.length:=by
  have:w.Aw.length=2:=h.v8;omega
 have Uu:=h.Aw _ (Bt (d:=Dl) RF);rw[h1,pU,AF7,ADW hb,YD];simp only[show w.2.2.2.2.2.2.2.2.1.getD a.toNat (0,0,[],())=w.Aw.getD a.toNat Dl from rfl]
 generalize hx:w.Aw.getD a.toNat Dl=r at Uu⊢
 have hre:=Uu.ep;have hro:=Uu.off;rw[TL];simp only[AU];have hml:=oS (k:=k);have hmi:=fun n=>sM (k:=k) (n:=n)
 rw[←Zm]
 generalize hp:Tv r.1 r.2.1=p
 have XD:=fun ns=>kW h (p:=p) (ns:=ns)
 generalize Aj k=ms at hml hmi
 have key:∀(n i:Nat) (b:List A0),i≤ms.length→ms.length-i<n→b.length≤i→b=answers w p (ms.take i)→
   DT n a p ms.length i w.2.1 w.2.2.2.2.2.1 w.2.2.2.2.2.2.2.2.2.2.1 w.1 w.2.2.1 w.2.2.2.1 w.2.2.2.2.1 w.2.2.2.2.2.2.1 w.2.2.2.2.2.2.2.1 w.2.2.2.2.2.2.2.2.1 w.2.2.2.2.2.2.2.2.2.1 r.1 r.2.1 a.toNat b ms=
    some (pq (if(B7 (C3 w) (Su w) (VF w r.1) r (answers w p ms)).2≠0 then(w,5)else(w.VT (w.Aw.set a.toNat (B7 (C3 w) (Su w) (VF w r.1) r (answers w p ms)).1),0))):=by
  intro n
  induction n with
  |zero=>intro i b _ h;omega
  |succ n ih=>
   intro i b hi hn l8 he;simp only[DT,KC,AA,Hg];by_cases LH:i<ms.length
   ·have c1:(0:Int)≤(i:Int)∧(i:Int)<(ms.length:Int):=by omega
    have c2:b.length+1≤Ej:=by rw[Ay];omega
    have ht:ms.take (i+1)=ms.take i++[ms[i]]:=AGh LH;rw[ADW c1.2,ADW c1,AO LH,AG (by omega) (by omega),show((i:Int)+1)=((i+1:Nat):Int)by omega,show(w.1,w.2.1,w.2.2.1,w.2.2.2.1,w.2.2.2.2.1,w.2.2.2.2.2.1,w.2.2.2.2.2.2.1,w.2.2.2.2.2.2.2.1,w.2.2.2.2.2.2.2.2.1,w.2.2.2.2.2.2.2.2.2.1,w.2.2.2.2.2.2.2.2.2.2.1,())=w from rfl,fl (by omega)];simp only[AU];have hm:=hmi _ (ADz LH);by_cases yO:Bf w ms[i]=0
    ·obtain⟨n1,n2,n3⟩:=T4 yO
     have n2':ms[i]<(w.2.2.1.length:Int):=n2;have n3':w.2.2.2.1.contains ms[i]=false:=by
      rw[Bool.eq_false_iff,ne_eq,AGu];exact n3
     have vL:(ms[i]).toNat<w.2.2.1.length:=by omega
     have hse:w.2.2.1.getD (ms[i]).toNat ([],[],0,())=storeAt w ms[i]:=rfl;have hsm:Aa (storeAt w ms[i])≤2^30:=AGG (AM (f:=Aa) (Bt (d:=Dx) vL)) (by omega);have AFE:DN (storeAt w ms[i])=true:=WA.2 (h.store yO);rw[ADW n2',n3',AEt,ADW ⟨n1,n2'⟩,hse,show((storeAt w ms[i]).1,(storeAt w ms[i]).2.1,(storeAt w ms[i]).2.2.1,())=storeAt w ms[i]from rfl,Za hsm (h.store yO).sin];simp only[AU];rw[ADW c2];refine ih (i+1) _ (by omega) (by omega) (by simp;omega) ?_
     rw[ht,he];unfold answers;rw[List.filter_append,List.map_append];congr 1;rw[AGe,ADW (by rw[AGd];exact yO),List.filter_nil,AGp,AGn];congr 1;unfold answer eK;rw[ADW AFE];cases RC p (storeAt w ms[i]).1<;>rfl
    ·have n1:=ih (i+1) b (by omega) (by omega) (by omega) (by
      rw[ht,he];unfold answers;rw[List.filter_append,List.map_append,AGe,AEK (by rw[AGd];exact yO),List.filter_nil,AGn,AFp])
     by_cases hl:ms[i]<(w.2.2.1.length:Int)
     ·rw[ADW hl]
      have xV:w.2.2.2.1.contains ms[i]=true:=by
       cases hc:w.2.2.2.1.contains ms[i]with
       |true=>rfl
       |false=>
        exfalso
        apply yO;unfold Bf;have e1:BQ ms[i] 0 ((w.CA.length:Int)-1)=true:=CR.2 (by have:(w.CA.length:Int)=w.2.2.1.length:=rfl;omega);have e2:w.lost.contains ms[i]=false:=hc;rw[e1,e2];rfl
      rw[xV,AF7,n1]
     ·rw[AEK hl,n1]
   ·have e0:ms.take i=ms:=List.take_of_length_le (by omega)
    rw[e0]at he;subst he;have nv:(answers w p ms).length≤8:=by omega
    rw[AEK (by omega),show(w.1,w.2.1,w.2.2.1,w.2.2.2.1,w.2.2.2.2.1,w.2.2.2.2.2.1,w.2.2.2.2.2.2.1,w.2.2.2.2.2.2.2.1,w.2.2.2.2.2.2.2.2.1,w.2.2.2.2.2.2.2.2.2.1,w.2.2.2.2.2.2.2.2.2.2.1,())=w from rfl,dL U0,show w.2.2.2.2.2.2.2.2.1.getD a.toNat (0,0,[],())=r from hx,show(r.1,r.2.1,r.2.2.1,())=r from rfl,show(w.1,w.2.1,())=C3 w from rfl,show(w.2.2.2.2.1,w.2.2.2.2.2.1,())=Su w from rfl];simp only[AU];rw[Xt (c:=C3 w) (g:=Su w) (by show w.1.length≤_;omega) (by show AJ BS w.2.2.2.2.1≤_;omega) kn.trim (by omega) (XD ms)];simp only[AU,lz,L_];by_cases h2:(B7 (C3 w) (Su w) (VF w r.1) r (answers w p ms)).2=0
    ·rw[ADW h2,ADW hb,AEK (fun hh=>hh h2)];rfl
    ·rw[AEK h2,ADW h2];rfl
 exact key AL 0 [] (by omega) (AH (by omega)) (by simp) (by simp[answers])
theorem Xu{d:EL}(hd:d.1=14):Kd w d=some (tJ (YT false w d)):=by
 obtain⟨kd,a,b,n,t,⟨⟩⟩:=d;dsimp only at hd;subst hd;unfold Kd YT;rw[show(w.1,w.2.1,w.2.2.1,w.2.2.2.1,w.2.2.2.2.1,w.2.2.2.2.2.1,w.2.2.2.2.2.2.1,w.2.2.2.2.2.2.2.1,w.2.2.2.2.2.2.2.2.1,w.2.2.2.2.2.2.2.2.2.1,w.2.2.2.2.2.2.2.2.2.2.1,())=w from rfl,Ve U0,br,TT U0,LS.2 h];simp only[AU,AEl,AEt,Hg];cases hdk:WI (14,a,b,n,t,())with
 |false=>rfl
 |true=>
  simp only[AF7,AEl,Bool.or_self,AFZ,AFg];unfold Nq;simp only[jR];rw[AEK (by omega),AEK (by omega),AEK (by omega),AEK (by omega),AEK (by omega),AEK (by omega),AEK (by omega),AEK (by omega),AEK (by omega),AEK (by omega),AEK (by omega),AEK (by omega),AEK (by omega),ADW trivial,V2 h U0];simp only[AU,pq,L_];have hr:ACA false w (14,a,b,n,t,())=A8 w a b:=rfl;rw[hr];by_cases h2:(A8 w a b).2=0
  ·rw[ADW h2]
   generalize A8 w a b=q at h2⊢
   obtain⟨v,co⟩:=q;dsimp only at h2;subst h2;rfl
  ·rw[AEK h2]
   have hw:(A8 w a b).1=w:=by
    unfold A8 at h2⊢;by_cases h3:(!BQ a 0 1)=true
    ·rw[ADW h3]
    ·rw[AEK h3]at h2⊢
     dsimp only at h2⊢;split
     ·rfl
     ·rename_i h4
      rw[AEK h4]at h2;exact absurd rfl h2
   generalize hq:A8 w a b=q at hw h2
   obtain⟨v,co⟩:=q;dsimp only at hw;subst hw;rfl
end
end Go.M
end
section
namespace Go.M.HH
open Go.M Go.M.H
theorem LR{l:AAA}{k:Nat}(hw:l.length≤2^30)(hk:k≤2^54):∃(l':AAA) (m:Nat),Dj k l=some (((m:Int),()),(l',()))∧Dm l' k=some (((m:Int),()),())∧k≤m∧m≤k+64*l.length:=by
 have h1:∀n i,i≤l.length→l.length-i<n→Gh n ((k+i:Nat):Int) i ((List.range i).map (fun j=>((k+j:Nat):Int))++l.drop i)=some ((((k+l.length:Nat):Int),()),((List.range l.length).map (fun j=>((k+j:Nat):Int)),())):=by
  intro n
  induction n with
  |zero=>intro i _ h;omega
  |succ n ih=>
   intro i hi h;simp only[Gh,P9,AA];by_cases hc:i<l.length
   ·rw[ADW (by simp;omega),ADW (by simp;omega),AG (by omega) (by omega),AG (by omega) (by omega)]
    rw[show(((i:Nat):Int)).toNat=i by omega,nz (fun j=>((k+j:Nat):Int)) hc rfl];exact ih (i+1) (by omega) (by omega)
   ·rw[AEK (by simp;omega)]
    have:i=l.length:=by omega
    subst this;simp
 have h2:∀n i,i≤l.length→l.length-i<n→GZ n ((List.range l.length).map (fun j=>((k+j:Nat):Int))) ((k+i:Nat):Int) i=some ((((k+l.length:Nat):Int),()),()):=by
  intro n
  induction n with
  |zero=>intro i _ h;omega
  |succ n ih=>
   intro i hi h;simp only[GZ,QW,AA];by_cases hc:i<l.length
   ·rw[ADW (by simp;omega),ADW (by simp;omega),AG (by omega) (by omega),AG (by omega) (by omega),AO (by simpa using hc),E_,AEK (by simp)]
    exact ih (i+1) (by omega) (by omega)
   ·rw[AEK (by simp;omega)]
    have:i=l.length:=by omega
    subst this;rfl
 refine⟨(List.range l.length).map (fun j=>((k+j:Nat):Int)),k+l.length,?_,?_,by omega,by omega⟩
 ·unfold Dj QE
  have:=h1 AL 0 (by omega) (AH (by omega));simpa using this
 ·unfold Dm QA
  have:=h2 AL 0 (by omega) (AH (by omega));simpa using this
theorem aS:∀(rest pre:List Ua) (n k:Nat),AJ BT rest≤2^30→k+64*AJ BT rest≤2^53→pre.length+rest.length≤2^40→rest.length<n→
  ∃(Bg:List Ua) (m:Nat),EG n k pre.length (pre++rest)=some (((m:Int),()),(pre++Bg,()))∧k≤m∧m≤k+64*AJ BT rest∧ ∀n',rest.length<n'→EC n' (pre++Bg) k pre.length=some (((m:Int),()),())
 |_,_,0,_,_,_,_,h=>by omega
 |[],pre,n+1,k,hw,hk,hl,hn=>by
  refine⟨[],k,?_,by omega,by omega,fun n' Wy=> ?_⟩
  ·simp only[EG,I_,AA,FF,AFg]
  ·obtain⟨n',rfl⟩:∃q,n' =q+1:=⟨n'-1,by omega⟩
   simp only[EC,Iv,AA,FF,AFg]
 |x::rest,pre,n+1,k,hw,hk,hl,hn=>by
  simp only[AE7]at hl hn;simp only[AJ]at hw hk;have hx:BT x=List.length x:=rfl;obtain⟨c1,m1,X5,hh1,ha1,hb1⟩:=LR (l:=x) (k:=k) (by omega) (by omega);obtain⟨Bg,m,e2,e3,e4,e5⟩:=aS rest (pre++[c1]) n m1 (by omega) (by omega) (by simp;omega) (by omega);refine⟨c1::Bg,m,?_,by omega,by simp only[AJ];omega,fun n' Wy=> ?_⟩
  ·rw[←Ce]at e2
   simp only[AEJ,AFI,AFO]at e2;simp only[EG,I_];simp(disch:=omega) only[Cc,DM,Cd,FG,FE,AGF,AEA,ADT,AA,Jw,PE,X5];exact e2
  ·obtain⟨n',rfl⟩:∃q,n' =q+1:=⟨n'-1,by omega⟩
   simp only[AE7]at Wy;have e6:=e5 n' (by omega);rw[←Ce]at e6;simp only[AEJ,AFI,AFO]at e6;simp only[EC,Iv];simp(disch:=omega) only[Cc,DM,Cd,FG,FE,AGF,AEA,ADT,AA,hh1,Lw,AFg];exact e6
theorem hU{l:List Ua}{k:Nat}(hw:AJ BT l≤2^30)(hk:k≤2^52):∃(l':List Ua) (m:Nat),Mq k l=some (((m:Int),()),(l',()))∧Mw l' k=some (((m:Int),()),())∧k≤m∧m≤k+64*AJ BT l:=by
 have hl:=AF (f:=BT) (l:=l);obtain⟨l',m,e2,e3,e4,e5⟩:=aS l [] AL k hw (by omega) (by simp;omega) (AH (by omega));refine⟨l',m,?_,?_,e3,e4⟩
 ·unfold Mq PR
  simpa using e2
 ·unfold Mw PL
  simpa using e5 AL (AH (by omega))
theorem Lh:∀(rest pre:List AK) (n k:Nat),AJ Ag rest≤2^30→k+64*AJ Ag rest≤2^53→pre.length+rest.length≤2^40→rest.length<n→
  ∃(Bg:List AK) (m:Nat),Bz n k pre.length (pre++rest)=some (((m:Int),()),(pre++Bg,()))∧k≤m∧m≤k+64*AJ Ag rest∧ ∀n',rest.length<n'→DW n' (pre++Bg) k pre.length=some (((m:Int),()),())
 |_,_,0,_,_,_,_,h=>by omega
 |[],pre,n+1,k,hw,hk,hl,hn=>by
  refine⟨[],k,?_,by omega,by omega,fun n' Wy=> ?_⟩
  ·simp only[Bz,DP,AA,FF,AFg]
  ·obtain⟨n',rfl⟩:∃q,n' =q+1:=⟨n'-1,by omega⟩
   simp only[DW,Hs,AA,FF,AFg]
 |x::rest,pre,n+1,k,hw,hk,hl,hn=>by
  simp only[AE7]at hl hn;simp only[AJ,Ag]at hw hk;obtain⟨t1,Xe⟩:=Oy (m:=k+1+1+1) (by omega);obtain⟨Bg,m,e2,e3,e4,e5⟩:=Lh rest (pre++[(((k:Nat):Int),((k+1:Nat):Int),(((k+1+1:Nat):Int).tmod 3==0),t1,())]) n (k+1+1+1+1) (by omega) (by omega) (by simp;omega) (by omega);refine⟨(((k:Nat):Int),((k+1:Nat):Int),(((k+1+1:Nat):Int).tmod 3==0),t1,())::Bg,m,?_,by omega,by simp only[AJ,Ag];omega,fun n' Wy=> ?_⟩
  ·rw[←Ce]at e2
   simp only[AEJ,AFI,AFO]at e2;simp only[Bz,DP];simp(disch:=omega) only[Cc,DM,Cd,FG,FE,AGF,AEA,ADT,AA,Xe];exact e2
  ·obtain⟨n',rfl⟩:∃q,n' =q+1:=⟨n'-1,by omega⟩
   simp only[AE7]at Wy;have e6:=e5 n' (by omega);rw[←Ce]at e6;simp only[AEJ,AFI,AFO]at e6;simp only[DW,Hs];simp(disch:=omega) only[Cc,DM,Cd,FG,FE,AGF,AEA,ADT,AA,Xe,AGR,AGQ,AEl,AEt,Lw,AFg];exact e6
theorem Hm{l:List AK}{k:Nat}(hw:AJ Ag l≤2^30)(hk:k≤2^52):∃(l':List AK) (m:Nat),DJ k l=some (((m:Int),()),(l',()))∧FR l' k=some (((m:Int),()),())∧k≤m∧m≤k+64*AJ Ag l:=by
 have hl:=AF (f:=Ag) (l:=l);obtain⟨l',m,e2,e3,e4,e5⟩:=Lh l [] AL k hw (by omega) (by simp;omega) (AH (by omega));refine⟨l',m,?_,?_,e3,e4⟩
 ·unfold DJ Hz
  simpa using e2
 ·unfold FR NC
  simpa using e5 AL (AH (by omega))
theorem MB:∀(rest pre:List AQ) (n k:Nat),AJ Aa rest≤2^30→k+64*AJ Aa rest≤2^51→pre.length+rest.length≤2^40→rest.length<n→
  ∃(Bg:List AQ) (m:Nat),Bw n k pre.length (pre++rest)=some (((m:Int),()),(pre++Bg,()))∧k≤m∧m≤k+64*AJ Aa rest∧ ∀n',rest.length<n'→DY n' (pre++Bg) k pre.length=some (((m:Int),()),())
 |_,_,0,_,_,_,_,h=>by omega
 |[],pre,n+1,k,hw,hk,hl,hn=>by
  refine⟨[],k,?_,by omega,by omega,fun n' Wy=> ?_⟩
  ·simp only[Bw,DU,AA,FF,AFg]
  ·obtain⟨n',rfl⟩:∃q,n' =q+1:=⟨n'-1,by omega⟩
   simp only[DY,H5,AA,FF,AFg]
 |x::rest,pre,n+1,k,hw,hk,hl,hn=>by
  simp only[AE7]at hl hn;simp only[AJ,Aa]at hw hk;obtain⟨c1,m1,X5,hh1,ha1,hb1⟩:=Hm (l:=x.1) (k:=k) (by omega) (by omega);obtain⟨c2,m2,kK,hh2,ha2,hb2⟩:=Hm (l:=x.2.1) (k:=m1) (by omega) (by omega);obtain⟨Bg,m,e2,e3,e4,e5⟩:=MB rest (pre++[(c1,c2,((m2:Nat):Int),())]) n (m2+1) (by omega) (by omega) (by simp;omega) (by omega);refine⟨(c1,c2,((m2:Nat):Int),())::Bg,m,?_,by omega,by simp only[AJ,Aa];omega,fun n' Wy=> ?_⟩
  ·rw[←Ce]at e2
   simp only[AEJ,AFI,AFO]at e2;simp only[Bw,DU];simp(disch:=omega) only[Cc,DM,Cd,FG,FE,AGF,AEA,ADT,AA,Ae,Bd,Ae,Be,X5,hh1,kK,hh2];exact e2
  ·obtain⟨n',rfl⟩:∃q,n' =q+1:=⟨n'-1,by omega⟩
   simp only[AE7]at Wy;have e6:=e5 n' (by omega);rw[←Ce]at e6;simp only[AEJ,AFI,AFO]at e6;simp only[DY,H5];simp(disch:=omega) only[Cc,DM,Cd,FG,FE,AGF,AEA,ADT,AA,Ae,Bd,Ae,Be,X5,hh1,kK,hh2,AGR,AGQ,AEl,AEt,Lw,AFg];exact e6
theorem XH{l:List AQ}{k:Nat}(hw:AJ Aa l≤2^30)(hk:k≤2^50):∃(l':List AQ) (m:Nat),FK k l=some (((m:Int),()),(l',()))∧KO l' k=some (((m:Int),()),())∧k≤m∧m≤k+64*AJ Aa l:=by
 have hl:=AF (f:=Aa) (l:=l);obtain⟨l',m,e2,e3,e4,e5⟩:=MB l [] AL k hw (by omega) (by simp;omega) (AH (by omega));refine⟨l',m,?_,?_,e3,e4⟩
 ·unfold FK H0
  simpa using e2
 ·unfold KO M9
  simpa using e5 AL (AH (by omega))
theorem dH:∀(rest pre:List CN) (n k:Nat),AJ BS rest≤2^30→k+64*AJ BS rest≤2^53→pre.length+rest.length≤2^40→rest.length<n→
  ∃(Bg:List CN) (m:Nat),Ep n k pre.length (pre++rest)=some (((m:Int),()),(pre++Bg,()))∧k≤m∧m≤k+64*AJ BS rest∧ ∀n',rest.length<n'→Eh n' (pre++Bg) k pre.length=some (((m:Int),()),())
 |_,_,0,_,_,_,_,h=>by omega
 |[],pre,n+1,k,hw,hk,hl,hn=>by
  refine⟨[],k,?_,by omega,by omega,fun n' Wy=> ?_⟩
  ·simp only[Ep,J0,AA,FF,AFg]
  ·obtain⟨n',rfl⟩:∃q,n' =q+1:=⟨n'-1,by omega⟩
   simp only[Eh,Jr,AA,FF,AFg]
 |x::rest,pre,n+1,k,hw,hk,hl,hn=>by
  simp only[AE7]at hl hn;simp only[AJ,BS]at hw hk;obtain⟨c1,m1,X5,hh1,ha1,hb1⟩:=LR (l:=x.1) (k:=k) (by omega) (by omega);obtain⟨Bg,m,e2,e3,e4,e5⟩:=dH rest (pre++[(c1,(((m1:Nat):Int).tmod 3==0),((m1+1:Nat):Int),())]) n (m1+1+1) (by omega) (by omega) (by simp;omega) (by omega);refine⟨(c1,(((m1:Nat):Int).tmod 3==0),((m1+1:Nat):Int),())::Bg,m,?_,by omega,by simp only[AJ,BS];omega,fun n' Wy=> ?_⟩
  ·rw[←Ce]at e2
   simp only[AEJ,AFI,AFO]at e2;simp only[Ep,J0];simp(disch:=omega) only[Cc,DM,Cd,FG,FE,AGF,AEA,ADT,AA,D5,F8,X5,hh1];exact e2
  ·obtain⟨n',rfl⟩:∃q,n' =q+1:=⟨n'-1,by omega⟩
   simp only[AE7]at Wy;have e6:=e5 n' (by omega);rw[←Ce]at e6;simp only[AEJ,AFI,AFO]at e6;simp only[Eh,Jr];simp(disch:=omega) only[Cc,DM,Cd,FG,FE,AGF,AEA,ADT,AA,D5,F8,X5,hh1,AGR,AGQ,AEl,AEt,Lw,AFg];exact e6
theorem jO{l:List CN}{k:Nat}(hw:AJ BS l≤2^30)(hk:k≤2^52):∃(l':List CN) (m:Nat),ON k l=some (((m:Int),()),(l',()))∧OK l' k=some (((m:Int),()),())∧k≤m∧m≤k+64*AJ BS l:=by
 have hl:=AF (f:=BS) (l:=l);obtain⟨l',m,e2,e3,e4,e5⟩:=dH l [] AL k hw (by omega) (by simp;omega) (AH (by omega));refine⟨l',m,?_,?_,e3,e4⟩
 ·unfold ON QS
  simpa using e2
 ·unfold OK QU
  simpa using e5 AL (AH (by omega))
theorem Zy:∀(rest pre:List BE) (n k:Nat),AJ Aq rest≤2^30→k+64*AJ Aq rest≤2^53→pre.length+rest.length≤2^40→rest.length<n→
  ∃(Bg:List BE) (m:Nat),D_ n k pre.length (pre++rest)=some (((m:Int),()),(pre++Bg,()))∧k≤m∧m≤k+64*AJ Aq rest∧ ∀n',rest.length<n'→EA n' (pre++Bg) k pre.length=some (((m:Int),()),())
 |_,_,0,_,_,_,_,h=>by omega
 |[],pre,n+1,k,hw,hk,hl,hn=>by
  refine⟨[],k,?_,by omega,by omega,fun n' Wy=> ?_⟩
  ·simp only[D_,Il,AA,FF,AFg]
  ·obtain⟨n',rfl⟩:∃q,n' =q+1:=⟨n'-1,by omega⟩
   simp only[EA,Ia,AA,FF,AFg]
 |x::rest,pre,n+1,k,hw,hk,hl,hn=>by
  simp only[AE7]at hl hn;simp only[AJ,Aq]at hw hk;obtain⟨t1,Xe⟩:=Oy (m:=k) (by omega);obtain⟨c2,m2,kK,hh2,ha2,hb2⟩:=LR (l:=x.2.1) (k:=k+1) (by omega) (by omega);obtain⟨Bg,m,e2,e3,e4,e5⟩:=Zy rest (pre++[(t1,c2,(((m2:Nat):Int).tmod 3==0),())]) n (m2+1) (by omega) (by omega) (by simp;omega) (by omega);refine⟨(t1,c2,(((m2:Nat):Int).tmod 3==0),())::Bg,m,?_,by omega,by simp only[AJ,Aq];omega,fun n' Wy=> ?_⟩
  ·rw[←Ce]at e2
   simp only[AEJ,AFI,AFO]at e2;simp only[D_,Il];simp(disch:=omega) only[Cc,DM,Cd,FG,FE,AGF,AEA,ADT,AA,D6,F7,Xe,kK,hh2];exact e2
  ·obtain⟨n',rfl⟩:∃q,n' =q+1:=⟨n'-1,by omega⟩
   simp only[AE7]at Wy;have e6:=e5 n' (by omega);rw[←Ce]at e6;simp only[AEJ,AFI,AFO]at e6;simp only[EA,Ia];simp(disch:=omega) only[Cc,DM,Cd,FG,FE,AGF,AEA,ADT,AA,D6,F7,Xe,kK,hh2,AGR,AGQ,AEl,AEt,Lw,AFg];exact e6
theorem ir{l:List BE}{k:Nat}(hw:AJ Aq l≤2^30)(hk:k≤2^52):∃(l':List BE) (m:Nat),Lb k l=some (((m:Int),()),(l',()))∧MR l' k=some (((m:Int),()),())∧k≤m∧m≤k+64*AJ Aq l:=by
 have hl:=AF (f:=Aq) (l:=l);obtain⟨l',m,e2,e3,e4,e5⟩:=Zy l [] AL k hw (by omega) (by simp;omega) (AH (by omega));refine⟨l',m,?_,?_,e3,e4⟩
 ·unfold Lb PG
  simpa using e2
 ·unfold MR PK
  simpa using e5 AL (AH (by omega))
theorem XF:∀(rest pre:List AR) (n k:Nat),AJ AS rest≤2^30→k+64*AJ AS rest≤2^51→pre.length+rest.length≤2^40→rest.length<n→
  ∃(Bg:List AR) (m:Nat),DH n k pre.length (pre++rest)=some (((m:Int),()),(pre++Bg,()))∧k≤m∧m≤k+64*AJ AS rest∧ ∀n',rest.length<n'→DG n' (pre++Bg) k pre.length=some (((m:Int),()),())
 |_,_,0,_,_,_,_,h=>by omega
 |[],pre,n+1,k,hw,hk,hl,hn=>by
  refine⟨[],k,?_,by omega,by omega,fun n' Wy=> ?_⟩
  ·simp only[DH,G8,AA,FF,AFg]
  ·obtain⟨n',rfl⟩:∃q,n' =q+1:=⟨n'-1,by omega⟩
   simp only[DG,HG,AA,FF,AFg]
 |x::rest,pre,n+1,k,hw,hk,hl,hn=>by
  simp only[AE7]at hl hn;simp only[AJ,AS]at hw hk;obtain⟨c1,m1,X5,hh1,ha1,hb1⟩:=ir (l:=x.2.1) (k:=k+1) (by omega) (by omega);obtain⟨Bg,m,e2,e3,e4,e5⟩:=XF rest (pre++[(((k:Nat):Int),c1,())]) n (m1) (by omega) (by omega) (by simp;omega) (by omega);refine⟨(((k:Nat):Int),c1,())::Bg,m,?_,by omega,by simp only[AJ,AS];omega,fun n' Wy=> ?_⟩
  ·rw[←Ce]at e2
   simp only[AEJ,AFI,AFO]at e2;simp only[DH,G8];simp(disch:=omega) only[Cc,DM,Cd,FG,FE,AGF,AEA,ADT,AA,Cr,Dp,X5,hh1];exact e2
  ·obtain⟨n',rfl⟩:∃q,n' =q+1:=⟨n'-1,by omega⟩
   simp only[AE7]at Wy;have e6:=e5 n' (by omega);rw[←Ce]at e6;simp only[AEJ,AFI,AFO]at e6;simp only[DG,HG];simp(disch:=omega) only[Cc,DM,Cd,FG,FE,AGF,AEA,ADT,AA,Cr,Dp,X5,hh1,AGR,AGQ,AEl,AEt,Lw,AFg];exact e6
theorem cx{l:List AR}{k:Nat}(hw:AJ AS l≤2^30)(hk:k≤2^50):∃(l':List AR) (m:Nat),Jc k l=some (((m:Int),()),(l',()))∧Ja l' k=some (((m:Int),()),())∧k≤m∧m≤k+64*AJ AS l:=by
 have hl:=AF (f:=AS) (l:=l);obtain⟨l',m,e2,e3,e4,e5⟩:=XF l [] AL k hw (by omega) (by simp;omega) (AH (by omega));refine⟨l',m,?_,?_,e3,e4⟩
 ·unfold Jc M1
  simpa using e2
 ·unfold Ja Lf
  simpa using e5 AL (AH (by omega))
theorem Z3:∀(rest pre:List An) (n k:Nat),AJ A6 rest≤2^30→k+64*AJ A6 rest≤2^51→pre.length+rest.length≤2^40→rest.length<n→
  ∃(Bg:List An) (m:Nat),D8 n k pre.length (pre++rest)=some (((m:Int),()),(pre++Bg,()))∧k≤m∧m≤k+64*AJ A6 rest∧ ∀n',rest.length<n'→EF n' (pre++Bg) k pre.length=some (((m:Int),()),())
 |_,_,0,_,_,_,_,h=>by omega
 |[],pre,n+1,k,hw,hk,hl,hn=>by
  refine⟨[],k,?_,by omega,by omega,fun n' Wy=> ?_⟩
  ·simp only[D8,Ij,AA,FF,AFg]
  ·obtain⟨n',rfl⟩:∃q,n' =q+1:=⟨n'-1,by omega⟩
   simp only[EF,I7,AA,FF,AFg]
 |x::rest,pre,n+1,k,hw,hk,hl,hn=>by
  simp only[AE7]at hl hn;simp only[AJ,A6]at hw hk;obtain⟨c1,m1,X5,hh1,ha1,hb1⟩:=LR (l:=x.2.2.1) (k:=k+1+1) (by omega) (by omega);obtain⟨c2,m2,kK,hh2,ha2,hb2⟩:=Hm (l:=x.2.2.2.1) (k:=m1) (by omega) (by omega);obtain⟨c3,m3,hm3,hh3,ha3,hb3⟩:=hU (l:=x.2.2.2.2.2.1) (k:=m2+1) (by omega) (by omega);obtain⟨Bg,m,e2,e3,e4,e5⟩:=Z3 rest (pre++[(((k:Nat):Int),((k+1:Nat):Int),c1,c2,(((m2:Nat):Int).tmod 3==0),c3,())]) n (m3) (by omega) (by omega) (by simp;omega) (by omega);refine⟨(((k:Nat):Int),((k+1:Nat):Int),c1,c2,(((m2:Nat):Int).tmod 3==0),c3,())::Bg,m,?_,by omega,by simp only[AJ,A6];omega,fun n' Wy=> ?_⟩
  ·rw[←Ce]at e2
   simp only[AEJ,AFI,AFO]at e2;simp only[D8,Ij];simp(disch:=omega) only[Cc,DM,Cd,FG,FE,AGF,AEA,ADT,AA,B8,Cn,Bi,CY,Bp,Cg,X5,hh1,kK,hh2,hm3,hh3];exact e2
  ·obtain⟨n',rfl⟩:∃q,n' =q+1:=⟨n'-1,by omega⟩
   simp only[AE7]at Wy;have e6:=e5 n' (by omega);rw[←Ce]at e6;simp only[AEJ,AFI,AFO]at e6;simp only[EF,I7];simp(disch:=omega) only[Cc,DM,Cd,FG,FE,AGF,AEA,ADT,AA,B8,Cn,Bi,CY,Bp,Cg,X5,hh1,kK,hh2,hm3,hh3,AGR,AGQ,AEl,AEt,Lw,AFg];exact e6
theorem iE{l:List An}{k:Nat}(hw:AJ A6 l≤2^30)(hk:k≤2^50):∃(l':List An) (m:Nat),M6 k l=some (((m:Int),()),(l',()))∧Mm l' k=some (((m:Int),()),())∧k≤m∧m≤k+64*AJ A6 l:=by
 have hl:=AF (f:=A6) (l:=l);obtain⟨l',m,e2,e3,e4,e5⟩:=Z3 l [] AL k hw (by omega) (by simp;omega) (AH (by omega));refine⟨l',m,?_,?_,e3,e4⟩
 ·unfold M6 PH
  simpa using e2
 ·unfold Mm PF
  simpa using e5 AL (AH (by omega))
theorem Yi:∀(rest pre:List Az) (n k:Nat),AJ Av rest≤2^30→k+64*AJ Av rest≤2^53→pre.length+rest.length≤2^40→rest.length<n→
  ∃(Bg:List Az) (m:Nat),Da n k pre.length (pre++rest)=some (((m:Int),()),(pre++Bg,()))∧k≤m∧m≤k+64*AJ Av rest∧ ∀n',rest.length<n'→Dg n' (pre++Bg) k pre.length=some (((m:Int),()),())
 |_,_,0,_,_,_,_,h=>by omega
 |[],pre,n+1,k,hw,hk,hl,hn=>by
  refine⟨[],k,?_,by omega,by omega,fun n' Wy=> ?_⟩
  ·simp only[Da,Hv,AA,FF,AFg]
  ·obtain⟨n',rfl⟩:∃q,n' =q+1:=⟨n'-1,by omega⟩
   simp only[Dg,Ht,AA,FF,AFg]
 |x::rest,pre,n+1,k,hw,hk,hl,hn=>by
  simp only[AE7]at hl hn;simp only[AJ,Av]at hw hk;obtain⟨t1,Xe⟩:=Oy (m:=k+1+1) (by omega);obtain⟨Bg,m,e2,e3,e4,e5⟩:=Yi rest (pre++[(((k:Nat):Int),((k+1:Nat):Int),t1,())]) n (k+1+1+1) (by omega) (by omega) (by simp;omega) (by omega);refine⟨(((k:Nat):Int),((k+1:Nat):Int),t1,())::Bg,m,?_,by omega,by simp only[AJ,Av];omega,fun n' Wy=> ?_⟩
  ·rw[←Ce]at e2
   simp only[AEJ,AFI,AFO]at e2;simp only[Da,Hv];simp(disch:=omega) only[Cc,DM,Cd,FG,FE,AGF,AEA,ADT,AA,Xe];exact e2
  ·obtain⟨n',rfl⟩:∃q,n' =q+1:=⟨n'-1,by omega⟩
   simp only[AE7]at Wy;have e6:=e5 n' (by omega);rw[←Ce]at e6;simp only[AEJ,AFI,AFO]at e6;simp only[Dg,Ht];simp(disch:=omega) only[Cc,DM,Cd,FG,FE,AGF,AEA,ADT,AA,Xe,AGR,AGQ,AEl,AEt,Lw,AFg];exact e6
theorem fN{l:List Az}{k:Nat}(hw:AJ Av l≤2^30)(hk:k≤2^52):∃(l':List Az) (m:Nat),Ka k l=some (((m:Int),()),(l',()))∧Kc l' k=some (((m:Int),()),())∧k≤m∧m≤k+64*AJ Av l:=by
 have hl:=AF (f:=Av) (l:=l);obtain⟨l',m,e2,e3,e4,e5⟩:=Yi l [] AL k hw (by omega) (by simp;omega) (AH (by omega));refine⟨l',m,?_,?_,e3,e4⟩
 ·unfold Ka NL
  simpa using e2
 ·unfold Kc ND
  simpa using e5 AL (AH (by omega))
theorem W8:∀(rest pre:List Ab) (n k:Nat),AJ AY rest≤2^30→k+64*AJ AY rest≤2^51→pre.length+rest.length≤2^40→rest.length<n→
  ∃(Bg:List Ab) (m:Nat),DF n k pre.length (pre++rest)=some (((m:Int),()),(pre++Bg,()))∧k≤m∧m≤k+64*AJ AY rest∧ ∀n',rest.length<n'→DI n' (pre++Bg) k pre.length=some (((m:Int),()),())
 |_,_,0,_,_,_,_,h=>by omega
 |[],pre,n+1,k,hw,hk,hl,hn=>by
  refine⟨[],k,?_,by omega,by omega,fun n' Wy=> ?_⟩
  ·simp only[DF,Gz,AA,FF,AFg]
  ·obtain⟨n',rfl⟩:∃q,n' =q+1:=⟨n'-1,by omega⟩
   simp only[DI,G6,AA,FF,AFg]
 |x::rest,pre,n+1,k,hw,hk,hl,hn=>by
  simp only[AE7]at hl hn;simp only[AJ,AY]at hw hk;obtain⟨c1,m1,X5,hh1,ha1,hb1⟩:=fN (l:=x.2.2.1) (k:=k+1+1) (by omega) (by omega);obtain⟨Bg,m,e2,e3,e4,e5⟩:=W8 rest (pre++[(((k:Nat):Int),((k+1:Nat):Int),c1,())]) n (m1) (by omega) (by omega) (by simp;omega) (by omega);refine⟨(((k:Nat):Int),((k+1:Nat):Int),c1,())::Bg,m,?_,by omega,by simp only[AJ,AY];omega,fun n' Wy=> ?_⟩
  ·rw[←Ce]at e2
   simp only[AEJ,AFI,AFO]at e2;simp only[DF,Gz];simp(disch:=omega) only[Cc,DM,Cd,FG,FE,AGF,AEA,ADT,AA,Ci,Dd,X5,hh1];exact e2
  ·obtain⟨n',rfl⟩:∃q,n' =q+1:=⟨n'-1,by omega⟩
   simp only[AE7]at Wy;have e6:=e5 n' (by omega);rw[←Ce]at e6;simp only[AEJ,AFI,AFO]at e6;simp only[DI,G6];simp(disch:=omega) only[Cc,DM,Cd,FG,FE,AGF,AEA,ADT,AA,Ci,Dd,X5,hh1,AGR,AGQ,AEl,AEt,Lw,AFg];exact e6
theorem dW{l:List Ab}{k:Nat}(hw:AJ AY l≤2^30)(hk:k≤2^50):∃(l':List Ab) (m:Nat),JF k l=some (((m:Int),()),(l',()))∧Ji l' k=some (((m:Int),()),())∧k≤m∧m≤k+64*AJ AY l:=by
 have hl:=AF (f:=AY) (l:=l);obtain⟨l',m,e2,e3,e4,e5⟩:=W8 l [] AL k hw (by omega) (by simp;omega) (AH (by omega));refine⟨l',m,?_,?_,e3,e4⟩
 ·unfold JF Me
  simpa using e2
 ·unfold Ji Lo
  simpa using e5 AL (AH (by omega))
theorem Zz:∀(rest pre:List BK) (n k:Nat),AJ Bo rest≤2^30→k+64*AJ Bo rest≤2^53→pre.length+rest.length≤2^40→rest.length<n→
  ∃(Bg:List BK) (m:Nat),EB n k pre.length (pre++rest)=some (((m:Int),()),(pre++Bg,()))∧k≤m∧m≤k+64*AJ Bo rest∧ ∀n',rest.length<n'→EE n' (pre++Bg) k pre.length=some (((m:Int),()),())
 |_,_,0,_,_,_,_,h=>by omega
 |[],pre,n+1,k,hw,hk,hl,hn=>by
  refine⟨[],k,?_,by omega,by omega,fun n' Wy=> ?_⟩
  ·simp only[EB,Ii,AA,FF,AFg]
  ·obtain⟨n',rfl⟩:∃q,n' =q+1:=⟨n'-1,by omega⟩
   simp only[EE,Ih,AA,FF,AFg]
 |x::rest,pre,n+1,k,hw,hk,hl,hn=>by
  simp only[AE7]at hl hn;simp only[AJ,Bo]at hw hk;obtain⟨t1,Xe⟩:=Oy (m:=k+1) (by omega);obtain⟨Bg,m,e2,e3,e4,e5⟩:=Zz rest (pre++[(((k:Nat):Int),t1,(((k+1+1:Nat):Int).tmod 3==0),())]) n (k+1+1+1) (by omega) (by omega) (by simp;omega) (by omega);refine⟨(((k:Nat):Int),t1,(((k+1+1:Nat):Int).tmod 3==0),())::Bg,m,?_,by omega,by simp only[AJ,Bo];omega,fun n' Wy=> ?_⟩
  ·rw[←Ce]at e2
   simp only[AEJ,AFI,AFO]at e2;simp only[EB,Ii];simp(disch:=omega) only[Cc,DM,Cd,FG,FE,AGF,AEA,ADT,AA,Xe];exact e2
  ·obtain⟨n',rfl⟩:∃q,n' =q+1:=⟨n'-1,by omega⟩
   simp only[AE7]at Wy;have e6:=e5 n' (by omega);rw[←Ce]at e6;simp only[AEJ,AFI,AFO]at e6;simp only[EE,Ih];simp(disch:=omega) only[Cc,DM,Cd,FG,FE,AGF,AEA,ADT,AA,Xe,AGR,AGQ,AEl,AEt,Lw,AFg];exact e6
theorem iW{l:List BK}{k:Nat}(hw:AJ Bo l≤2^30)(hk:k≤2^52):∃(l':List BK) (m:Nat),Mi k l=some (((m:Int),()),(l',()))∧La l' k=some (((m:Int),()),())∧k≤m∧m≤k+64*AJ Bo l:=by
 have hl:=AF (f:=Bo) (l:=l);obtain⟨l',m,e2,e3,e4,e5⟩:=Zz l [] AL k hw (by omega) (by simp;omega) (AH (by omega));refine⟨l',m,?_,?_,e3,e4⟩
 ·unfold Mi Oz
  simpa using e2
 ·unfold La Om
  simpa using e5 AL (AH (by omega))
theorem Yb{x:AE}{k:Nat}(hw:Bk x≤2^30)(hk:k≤2^45):∃(d0:AAA) (d2:List AQ) (d3:AAA) (d4:List CN) (d6:List AR) (d7:List An) (d8:List Ab) (d9:List BK) (m:Nat),I3 x.2.1 x.2.2.2.2.2.1 x.2.2.2.2.2.2.2.2.2.2.1 k x.1 x.2.2.1 x.2.2.2.1 x.2.2.2.2.1 x.2.2.2.2.2.2.1 x.2.2.2.2.2.2.2.1 x.2.2.2.2.2.2.2.2.1 x.2.2.2.2.2.2.2.2.2.1=some (((m:Int),()),(d0,d2,d3,d4,d6,d7,d8,d9,()))∧(∀s1 s5 zA,I0 (d0,s1,d2,d3,d4,s5,d6,d7,d8,d9,zA,()) k=some (((m:Int),()),()))∧k≤m∧m≤k+64*Bk x:=by
 unfold Bk at hw⊢;obtain⟨c1,m1,X5,hh1,ha1,hb1⟩:=LR (l:=x.1) (k:=k) (by omega) (by omega);obtain⟨c2,m2,kK,hh2,ha2,hb2⟩:=XH (l:=x.2.2.1) (k:=m1) (by omega) (by omega);obtain⟨c3,m3,hm3,hh3,ha3,hb3⟩:=LR (l:=x.2.2.2.1) (k:=m2) (by omega) (by omega);obtain⟨c4,m4,hm4,hh4,ha4,hb4⟩:=jO (l:=x.2.2.2.2.1) (k:=m3) (by omega) (by omega);obtain⟨c5,m5,hm5,hh5,ha5,hb5⟩:=cx (l:=x.2.2.2.2.2.2.1) (k:=m4) (by omega) (by omega);obtain⟨c6,m6,hm6,hh6,ha6,hb6⟩:=iE (l:=x.2.2.2.2.2.2.2.1) (k:=m5) (by omega) (by omega);obtain⟨c7,m7,hm7,hh7,ha7,hb7⟩:=dW (l:=x.2.2.2.2.2.2.2.2.1) (k:=m6) (by omega) (by omega);obtain⟨c8,m8,hm8,hh8,ha8,hb8⟩:=iW (l:=x.2.2.2.2.2.2.2.2.2.1) (k:=m7) (by omega) (by omega);refine⟨c1,c2,c3,c4,c5,c6,c7,c8,m8,?_,fun s1 s5 zA=> ?_,by omega,by omega⟩
 ·unfold I3
  simp only[ADT,PY,Ma,X5,hh1,kK,hh2,hm3,hh3,hm4,hh4,hm5,hh5,hm6,hh6,hm7,hh7,hm8,hh8]
 ·unfold I0
  simp only[ADT,AA,Lw,AFg,Pz,MY,X5,hh1,kK,hh2,hm3,hh3,hm4,hh4,hm5,hh5,hm6,hh6,hm7,hh7,hm8,hh8]
end Go.M.HH
end
section
set_option maxRecDepth 8000
namespace Go.M
open Go.M.H (AK AQ An BK AE CN AN BE AR Ab Az A0 EL Aa A6 AJ AF AM Ag BS Aq AS AY Bo Av Bk BT)
def bC(w:AE)(n:Int):Dr:=(((((),w.2.1,(),(),(),w.2.2.2.2.2.1,(),(),(),(),w.2.2.2.2.2.2.2.2.2.2.1,()),n,()),()),(w.1,w.2.2.1,w.2.2.2.1,w.2.2.2.2.1,w.2.2.2.2.2.2.1,w.2.2.2.2.2.2.2.1,w.2.2.2.2.2.2.2.2.1,w.2.2.2.2.2.2.2.2.2.1,()))
theorem o3{w:AE}{a b:Int}(h2: ¬(A8 w a b).2=0):(A8 w a b).1=w:=by
 unfold A8 at h2⊢;by_cases h3:(!BQ a 0 1)=true
 ·rw[ADW h3]
 ·rw[AEK h3]at h2⊢
  dsimp only at h2⊢;split
  ·rfl
  ·rename_i h4
   rw[AEK h4]at h2;exact absurd rfl h2
theorem Xo{w:AE}(h:Z_ w)(U0:dJ w){a:Int}:Kf w (14,a,255,0,[],())=some (tJ (YT true w (14,a,255,0,[],()))):=by
 rw[VN h];unfold Kf;rw[show(w.1,w.2.1,w.2.2.1,w.2.2.2.1,w.2.2.2.2.1,w.2.2.2.2.2.1,w.2.2.2.2.2.2.1,w.2.2.2.2.2.2.2.1,w.2.2.2.2.2.2.2.2.1,w.2.2.2.2.2.2.2.2.2.1,w.2.2.2.2.2.2.2.2.2.2.1,())=w from rfl,Vw U0,eJ,Vx U0,LS.2 h];simp only[AU];rw[AEl,AEt,show WI (14,a,255,0,[],())=true from rfl,AEl,AEt];unfold UH;simp only[jR];rw[AEK (by omega),AEK (by omega),AEK (by omega),AEK (by omega),AEK (by omega),AEK (by omega),AEK (by omega),AEK (by omega),AEK (by omega),AEK (by omega),AEK (by omega),AEK (by omega),ADW trivial,aa h];simp only[AU,L_];by_cases h2:(A8 w a 255).2=0
 ·rw[ADW (show(tJ (A8 w a 255)).1.1.2.1=0 from h2)]
 ·rw[AEK (show¬(tJ (A8 w a 255)).1.1.2.1=0 from h2)]
  have:=o3 h2;rw[show A8 w a 255=(w,(A8 w a 255).2)by rw[←Prod.eta (A8 w a 255)];simp only[this]];rfl
theorem gQ:∀(n:Nat) {w:AE} {a m:Int} {f:Nat},Z_ w→Hd a→120-Uo w a<n→AJ AY w.Aw+41*(120-Uo w a)≤1900000→n<f→0≤m∧m+120-Uo w a≤1000→
  DS f a m 0 0 false [] [] [] [] [] [] [] [] w.2.1 w.2.2.2.2.2.1 w.2.2.2.2.2.2.2.2.2.2.1 w.1 w.2.2.1 w.2.2.2.1 w.2.2.2.2.1 w.2.2.2.2.2.2.1 w.2.2.2.2.2.2.2.1 w.2.2.2.2.2.2.2.2.1 w.2.2.2.2.2.2.2.2.2.1=some (bC (It n w a).1 (m+(It n w a).2))
 |0,_,_,_,_,_,_,h,_,_,_=>by omega
 |n+1,w,a,m,0,_,_,_,_,hf,_=>by omega
 |n+1,w,a,m,f+1,h,ha,hn,hw,hf,hm=>by
  show GA (DS f) _ _ _ _ _ _ _ _ _ _ _ _ _ _ _ _ _ _ _ _ _ _ _ _=_
  unfold GA;rw[show(w.1,w.2.1,w.2.2.1,w.2.2.2.1,w.2.2.2.2.1,w.2.2.2.2.2.1,w.2.2.2.2.2.2.1,w.2.2.2.2.2.2.2.1,w.2.2.2.2.2.2.2.2.1,w.2.2.2.2.2.2.2.2.2.1,w.2.2.2.2.2.2.2.2.2.2.1,())=w from rfl,Xu h (h.wW (by omega)) (d:=(14,a,255,0,[],())) rfl,VN h];simp only[AU,It];by_cases hd:(A8 w a 255).2=0
  ·obtain⟨_,k1,k2,k3,k4,k5⟩:=Wa h hd
   rw[ADW hd,show((tJ (A8 w a 255)).1.1.2.1 !=0)=false by show((A8 w a 255).2 !=0)=false;rw[hd];rfl,AEt,AG (x:=m+1) (by omega) (by omega)];have ih:=gQ n (w:=(A8 w a 255).1) (a:=a) (m:=m+1) (f:=f) k1 ha (by omega) (by rw[k2];omega) (by omega) (by omega);have e:m+1+(It n (A8 w a 255).1 a).2=m+((It n (A8 w a 255).1 a).2+1):=by omega
   rw[←e];exact ih
  ·rw[AEK hd,show((tJ (A8 w a 255)).1.1.2.1 !=0)=true by show((A8 w a 255).2 !=0)=true;simpa using hd,AF7]
   show _=some (bC w (m+0))
   rw[Int.add_zero];rfl
theorem gP:∀(n:Nat) {w:AE} {a m:Int} {f:Nat},Z_ w→Hd a→120-Uo w a<n→AJ AY w.Aw+41*(120-Uo w a)≤1900000→n<f→0≤m∧m+120-Uo w a≤1000→
  DV f a m 0 0 false [] [] [] [] [] [] [] [] w.2.1 w.2.2.2.2.2.1 w.2.2.2.2.2.2.2.2.2.2.1 w.1 w.2.2.1 w.2.2.2.1 w.2.2.2.2.1 w.2.2.2.2.2.2.1 w.2.2.2.2.2.2.2.1 w.2.2.2.2.2.2.2.2.1 w.2.2.2.2.2.2.2.2.2.1=some (bC (It n w a).1 (m+(It n w a).2))
 |0,_,_,_,_,_,_,h,_,_,_=>by omega
 |n+1,w,a,m,0,_,_,_,_,hf,_=>by omega
 |n+1,w,a,m,f+1,h,ha,hn,hw,hf,hm=>by
  show F6 (DV f) _ _ _ _ _ _ _ _ _ _ _ _ _ _ _ _ _ _ _ _ _ _ _ _=_
  unfold F6;rw[show(w.1,w.2.1,w.2.2.1,w.2.2.2.1,w.2.2.2.2.1,w.2.2.2.2.2.1,w.2.2.2.2.2.2.1,w.2.2.2.2.2.2.2.1,w.2.2.2.2.2.2.2.2.1,w.2.2.2.2.2.2.2.2.2.1,w.2.2.2.2.2.2.2.2.2.2.1,())=w from rfl,Xo h (h.wW (by omega)) (a:=a),VN h];simp only[AU,It];by_cases hd:(A8 w a 255).2=0
  ·obtain⟨_,k1,k2,k3,k4,k5⟩:=Wa h hd
   rw[ADW hd,show((tJ (A8 w a 255)).1.1.2.1 !=0)=false by show((A8 w a 255).2 !=0)=false;rw[hd];rfl,AEt,AG (x:=m+1) (by omega) (by omega)];have ih:=gP n (w:=(A8 w a 255).1) (a:=a) (m:=m+1) (f:=f) k1 ha (by omega) (by rw[k2];omega) (by omega) (by omega);have e:m+1+(It n (A8 w a 255).1 a).2=m+((It n (A8 w a 255).1 a).2+1):=by omega
   rw[←e];exact ih
  ·rw[AEK hd,show((tJ (A8 w a 255)).1.1.2.1 !=0)=true by show((A8 w a 255).2 !=0)=true;simpa using hd,AF7]
   show _=some (bC w (m+0))
   rw[Int.add_zero];rfl
theorem Vz{w:AE}{a:Int}(U0:dJ w)(ha:Hd a)(hr:AJ AY w.Aw≤1100000):
  Ez w a=some (if JM w=true then bC (It 200 w a).1 (It 200 w a).2 else bC iq 0):=by
 unfold Ez KF;rw[show(w.1,w.2.1,w.2.2.1,w.2.2.2.1,w.2.2.2.2.1,w.2.2.2.2.2.1,w.2.2.2.2.2.2.1,w.2.2.2.2.2.2.2.1,w.2.2.2.2.2.2.2.2.1,w.2.2.2.2.2.2.2.2.2.1,w.2.2.2.2.2.2.2.2.2.2.1,())=w from rfl,Ve U0];simp only[AU];rcases AE8 (JM w)with hw|hw
 ·rw[hw,TT U0]
  simp only[AEl,AEt,AU,AGF];have:=gQ 200 (m:=0) (f:=AL) (LS.1 hw) ha (by omega) (by omega) (AH (by omega)) (by omega);rw[this,Int.zero_add]
 ·rw[hw];rfl
theorem V0{w:AE}{a:Int}(U0:dJ w)(ha:Hd a)(hr:AJ AY w.Aw≤1100000):
  G_ w a=some (if JM w=true then bC (It 200 w a).1 (It 200 w a).2 else bC iq 0):=by
 unfold G_ KH;rw[show(w.1,w.2.1,w.2.2.1,w.2.2.2.1,w.2.2.2.2.1,w.2.2.2.2.2.1,w.2.2.2.2.2.2.1,w.2.2.2.2.2.2.2.1,w.2.2.2.2.2.2.2.2.1,w.2.2.2.2.2.2.2.2.2.1,w.2.2.2.2.2.2.2.2.2.2.1,())=w from rfl,Vw U0];simp only[AU];rcases AE8 (JM w)with hw|hw
 ·rw[hw,Vx U0]
  simp only[AEl,AEt,AU,AGF];have:=gP 200 (m:=0) (f:=AL) (LS.1 hw) ha (by omega) (by omega) (AH (by omega)) (by omega);rw[this,Int.zero_add]
 ·rw[hw];rfl
theorem U9{w:AE}{a:Int}(hv:Go.Fw.Vd Go.M.H.VQ w)(ha:Go.Fw.Vd (.int .i64) a):DE w a=some ((true,()),()):=by
 unfold DE;rw[show(w.1,w.2.1,w.2.2.1,w.2.2.2.1,w.2.2.2.2.1,w.2.2.2.2.2.1,w.2.2.2.2.2.2.1,w.2.2.2.2.2.2.2.1,w.2.2.2.2.2.2.2.2.1,w.2.2.2.2.2.2.2.2.2.1,w.2.2.2.2.2.2.2.2.2.2.1,())=w from rfl];obtain⟨k1,e1,s1⟩:=H.lW hv (k:=1048576) (by omega) (by omega);rw[e1];simp only[ADT,AA];by_cases n1:k1<0
 ·rw[ADW n1]
 rw[AEK n1];have hw:Bk w≤2^20:=by omega
 have h:=dJ.of hv (by omega);have hr:AJ AY w.Aw≤1100000:=by
  have:AJ AY w.2.2.2.2.2.2.2.2.1≤Bk w:=by unfold Bk;omega
  show AJ AY w.2.2.2.2.2.2.2.2.1≤_
  omega
 have z6:Hd a:=wf_i64 ha;rw[H.ln (by omega)];simp only[ADT];rw[show(w.1,w.2.1,w.2.2.1,w.2.2.2.1,w.2.2.2.2.1,w.2.2.2.2.2.1,w.2.2.2.2.2.2.1,w.2.2.2.2.2.2.2.1,w.2.2.2.2.2.2.2.2.1,w.2.2.2.2.2.2.2.2.2.1,w.2.2.2.2.2.2.2.2.2.2.1,())=w from rfl];rw[V0 h z6 hr,Vz h z6 hr];obtain⟨v,n,hvn,hvw⟩:∃v n,(if JM w=true then bC (It 200 w a).1 (It 200 w a).2 else bC iq 0)=bC v n∧Bk v≤2^22:=by
  by_cases KZ:JM w=true
  ·rw[ADW KZ]
   refine⟨_,_,rfl,?_⟩;have:=(jB 200 (a:=a) (LS.1 KZ) (by omega) (by omega)).win.weight;omega
  ·rw[AEK KZ]
   exact⟨_,_,rfl,by decide⟩
 rw[hvn];simp only[ADT,bC];rw[show(v.1,v.2.1,v.2.2.1,v.2.2.2.1,v.2.2.2.2.1,v.2.2.2.2.2.1,v.2.2.2.2.2.2.1,v.2.2.2.2.2.2.2.1,v.2.2.2.2.2.2.2.2.1,v.2.2.2.2.2.2.2.2.2.1,v.2.2.2.2.2.2.2.2.2.2.1,())=v from rfl,H.de (by omega),H.de (by omega)];obtain⟨d0,d2,d3,d4,d6,d7,d8,d9,m1,g1,g2,g3,g4⟩:=HH.Yb (x:=w) (k:=1) (by omega) (by omega);obtain⟨c0,c2,c3,c4,c6,c7,c8,c9,m2,q1,q2,q3,q4⟩:=HH.Yb (x:=v) (k:=1) (by omega) (by omega);rw[show(1:Int)=((1:Nat):Int)from rfl,g1,q1];simp only[ADT];rw[q2];simp[E_];rw[AEK (by omega),AEK (by omega),AEK (by omega)]
end Go.M
end
