/- Each function computes what was printed: by the kernel. -/
import Derived.Test.YtdkfcaidapdecaaGreatE0
import Derived.Test.YtdkfcaidapdecaaGreatProg
import Derived.KernelRfl
set_option linter.unusedVariables false
set_option linter.unusedSimpArgs false
set_option linter.unusedSectionVars false
namespace Go.Proofs.YtdkfcaidapdecaaGreat.Wk
open Go Go.Fw Go.M Go.Proofs
noncomputable section
def ASx:SQ:=mk Tryz.func218 uT FV SI [ALU] [] []
def AY3:SQ:=mk Tryz.func219 uT Ci Ud [qm,ATF,AI3] [(4,[0,1])] [⟨2,⟨[(1,Jz),(6,Xz),(7,BI),(8,BI)],[wa]⟩,Lx⟩]
def xT:SQ:=mk Tryz.func129 rE Ci Hu [gr,s39,te,AJC,ASx,AY3] [] [⟨2,⟨[(2,Jz),(3,T4),(10,AHj),(11,BI),(12,BI)],ABC⟩,Li⟩]
def AMW:SQ:=mk Tryz.func130 yf FV LP [] [] [⟨2,⟨[(6,.c (.sl false Y3)),(7,BI),(8,BI)],[]⟩,IF⟩]
def s43:SQ:=mk Tryz.func43 uL Ci MT [xT,AMW] [(4,[0])] [⟨2,⟨[(0,uy),(8,.c (.sl false Y7)),(9,BI),(10,BI)],[]⟩,FO⟩]
def AUp:SQ:=mk Tryz.func131 y_ Ci UM [gr] [] []
def s44:SQ:=mk Tryz.func44 uL Ci KU [AUp] [] [⟨2,⟨[(0,uy),(8,.c (.sl false Y9)),(9,BI),(10,BI)],[]⟩,ES⟩]
def s45:SQ:=mk Tryz.func45 uL Ci Nh [s38,qm,ARx] [(4,[0])] [⟨2,⟨[(0,uy),(8,AHP),(9,BI),(10,BI)],[]⟩,GA⟩]
def s15:SQ:=mk Tryz.func15 pN Ci SL [s39,s40,s41,s42,s43,s44,s45] [] []
def s58:SQ:=mk Tryz.func58 y8 ⟨[(0,.agg [.ref 0,.v tI])],sS⟩ QK [s59] [(1,[0])] []
abbrev i60:A5:=yf
abbrev o60:A5:=ABX
def s60:SQ:=mk Tryz.func60 i60 o60 EN [s59] [] [⟨3,⟨[(2,Jz),(3,xP9),(10,.c (.sl false Y3)),(11,BI),(12,BI)],[.mem [.ref 1,.v tI],Qp,.mem [.ref 3,.v tI],Qp]⟩,Hg⟩]
def AUC:SQ:=mk Tryz.func142 yE vI JC [] [] []
def s61:SQ:=mk Tryz.func61 lV ACE C8 [AUC] [(1,[0])] []
abbrev i62:A5:=yd
abbrev o62:A5:=ABU
def s62:SQ:=mk Tryz.func62 i62 o62 Fe [s59] [] [⟨3,⟨[(2,Jz),(3,xP9),(10,AG9),(11,BI),(12,BI)],AKP⟩,JP⟩]
def s63:SQ:=mk Tryz.func63 uT v8 GM [s59,AUC] [(2,[0,1]),(6,[0,1,2,3,5,6])] [⟨4,⟨[(2,Jz),(3,l4),(17,AHj),(18,BI),(19,BI)],AKE⟩,Lg⟩] (hJ:= .cons (fun _=>rfl) (fun n v ω=>by rcases ω with _|⟨_|_,_|⟨_|_,_⟩⟩<;>kernel_rfl) (.nil))
def s64:SQ:=mk Tryz.func64 y_ yr Mo [] [] []
def s25:SQ:=mk Tryz.func25 pN ALF Lb [s58,s59,s60,s61,s62,s63,s64] [(1,[0,1]),(5,[0,1,2,3,4,5,6,7,8,9,11,13,14,15,16,17,18,19]),(10,[0,1,2,3,4,5,6,7,8,9,11,12,13,14,16,17,18,19]),(15,[0,1,2,3,4,5,6,7,8,9,11,12,13,14,15,17,18,19]),(20,[0,1,2,3,4,5,6,7,8,9,11,12,13,14,15,16,18,19])] [⟨3,⟨[(1,Jz),(2,T4),(3,cS),(25,vu),(26,BI),(27,BI)],bf⟩,FK⟩,⟨8,⟨[(1,Jz),(2,T4),(3,cS),(40,.c (.sl false Y6)),(41,BI),(42,BI)],bf⟩,FJ⟩,⟨13,⟨[(1,Jz),(2,T4),(3,cS),(55,.c (.sl false Y7)),(56,BI),(57,BI)],bf⟩,Ee⟩,⟨18,⟨[(1,Jz),(2,T4),(3,cS),(70,.c (.sl false Y9)),(71,BI),(72,BI)],bf⟩,Er⟩] (hJ:= .cons (fun _=>rfl) (fun n v ω=>by rcases ω with _|⟨_|_,_|⟨_|_,_⟩⟩<;>kernel_rfl) (.cons (fun _=>rfl) (fun n v ω=>by rcases ω with _|⟨_|_,_|⟨_|_,_⟩⟩<;>kernel_rfl) (.cons (fun _=>rfl) (fun n v ω=>by rcases ω with _|⟨_|_,_|⟨_|_,_⟩⟩<;>kernel_rfl) (.cons (fun _=>rfl) (fun n v ω=>by rcases ω with _|⟨_|_,_|⟨_|_,_⟩⟩<;>kernel_rfl) (.nil))))) (he:=fun ω v=>by rcases ω with _|⟨_|_,_|⟨_|_,_|⟨_|_,_⟩⟩⟩<;>kernel_rfl)
def s36:SQ:=mk Tryz.func36 FV ⟨[(0,.c (.v .str))],[]⟩ af [] [] []
def s14:SQ:=mk Tryz.func14 AC2 Ci YV [s36,gr,s38] [] [⟨4,⟨[(1,Jz),(3,T4),(11,.c (.ref 2)),(12,BI),(13,BI)],[ACc,ACc,.sl 9 tU]⟩,Db⟩]
abbrev yA:A5:=FV
abbrev AJH:A5:=dz
def AI9:SQ:=mk Tryz.func150 yA AJH Hl [gr] [] [⟨5,⟨[(0,BI),(3,oT),(10,BI)],sS⟩,KX⟩]
abbrev ALx:A5:=ACs
abbrev ASF:A5:=ABX
def AIP:SQ:=mk Tryz.func177 ALx ASF ED [s41,s60] [] []
abbrev s_:A5:=AKV
abbrev AEo:A5:=AK5
def AUA:Pj:=⟨s_,AEo,(s_.un ME)⟩
def AXI:Zg:=⟨T,Pf (SP.l [s41,s59,s60,qX,AIP]),Bz [(4,[0,1,2])]⟩
def ANv:List (Lp AEo):=[]
theorem AXb(g41:AAq→AA5→Option SY)(g59:List Int→Option cN)(g60:AA5→Option IW)(AUF:AAq→List Int→Option iR)(AEK:AAq→AA5→Option cC)(n:Nat)(ω:List Bool)(v:s_.V):Cr ⟨T,Pf [(41,⟨i41,o41,i41.un g41⟩),(59,⟨i59,o59,i59.un g59⟩),(60,⟨i60,o60,i60.un g60⟩),(124,⟨i124,ARH,i124.un AUF⟩),(177,⟨ALx,ASF,ALx.un AEK⟩)],Bz [(4,[0,1,2])]⟩ AUA Tryz.f149 (K5 0 ANv n) ω v=s_.un (fun(p0:AAq) (p1:AA5) (p2:AAM)=>
 (g41 (p0.1,p0.2.1,()) (p1.1,p1.2.1,())).bind fun u1=>
 cond (!u1.1.1)
  ((AEK (p0.1,p0.2.1,()) (p1.1,p1.2.1,())).bind fun u2=>
  some (((((),u2.1.1.2.1,()),0,false,()),()),(u2.2.1,())))
 ((AUF (p0.1,p0.2.1,()) p2).bind fun u3=>
 cond (!u3.1.1)
  ((AEK (p0.1,p0.2.1,()) (p1.1,p1.2.1,())).bind fun u4=>
  some (((((),u4.1.1.2.1,()),0,false,()),()),(u4.2.1,())))
 (cond (((p1.1.length:Int)==30))
  ((AEK (p0.1,p0.2.1,()) (p1.1,p1.2.1,())).bind fun u6=>
  some (((((),u6.1.1.2.1,()),0,false,()),()),(u6.2.1,())))
 ((g60 (p1.1,p1.2.1,())).bind fun u7=>
 (g59 p2).bind fun u8=>
 if u7.2.1.length+1≤Go.M.DA then(
 let x9:AAN:=u7.2.1++[(u8.2.1,false,0,())]
 some (((((),u7.1.1.2.1,()),(x9.length:Int),true,()),()),(x9,())))else none)))) v:=by rcases ω with _|⟨_|_,_|⟨_|_,_|⟨_|_,_|⟨_|_,_⟩⟩⟩⟩<;>kernel_rfl
theorem AYL(n:Nat)(ω:List Bool)(v:s_.V):Cr AXI AUA Tryz.f149 (K5 0 ANv n) ω v=s_.un (ME) v:=AXb Ks DB EN GW ED n ω v
def ATd:SQ:=mk Tryz.func149 s_ AEo ME [s41,s59,s60,qX,AIP] [(4,[0,1,2])] ANv (hJ:= .nil) (he:=AYL AY)
abbrev i83:A5:=rU
abbrev o83:A5:=⟨mA,[.mem [.ref 1,.v tI,.ref 2,.ref 3,.ref 9,.v tI,.ref 10,.ref 11,.ref 7,.ref 8,.v .bool],C5,WW,C5,Ih,Ih,Ih,NM,J0,Lk,Tq,S1]⟩
def c83:Pj:=⟨i83,o83,(i83.un J2)⟩
def C83:Zg:=⟨T,Pf (SP.l [ATd,AI9]),Bz [(3,[0,1,2,3,4,5,6,7,8])]⟩
def L83:List (Lp o83):=[]
theorem b83(AUj:AAq→AA5→List Int→Option ck)(xm:Int→Option HT)(n:Nat)(ω:List Bool)(v:i83.V):Cr ⟨T,Pf [(149,⟨s_,AEo,s_.un AUj⟩),(150,⟨yA,AJH,yA.un xm⟩)],Bz [(3,[0,1,2,3,4,5,6,7,8])]⟩ c83 Tryz.f83 (K5 9 L83 n) ω v=i83.un (fun(p1:Int) (AE:Int) (AZ:Int) (AM:Bool) (b1:AAM) (b2:AAO) (b3:AAM) (b4:AAN) (b5:AAc) (b6:AAi) (b7:AAn) (b8:AAS)=>
 cond (((b5.length:Int)==4))
  (some ((4,()),(((),AE,(),(),(),AZ,(),(),(),(),AM,()),b1,b2,b3,(),(),(),b7,b8,b4,b5,b6,())))
 ((xm p1).bind fun u2=>
 (AUj (b1,AE,()) (b4,AZ,()) u2.2.1).bind fun u3=>
 cond (!u3.1.1.2.2.1)
  (some ((4,()),(((),AE,(),(),(),AZ,(),(),(),(),AM,()),b1,b2,b3,(),(),(),b7,b8,b4,b5,b6,())))
 (if b5.length+1≤Go.M.DA then(
 some ((0,()),(((),AE,(),(),(),u3.1.1.1.2.1,(),(),(),(),AM,()),b1,b2,b3,(),(),(),b7,b8,u3.2.1,(b5++[(u3.1.1.2.1,[],())]),[],())))else none))) v:=by rcases ω with _|⟨_|_,_|⟨_|_,_⟩⟩<;>kernel_rfl
theorem e83(n:Nat)(ω:List Bool)(v:i83.V):Cr C83 c83 Tryz.f83 (K5 9 L83 n) ω v=i83.un (J2) v:=b83 ME Hl n ω v
def s83:SQ:=mk Tryz.func83 i83 o83 J2 [ATd,AI9] [(3,[0,1,2,3,4,5,6,7,8])] L83 (hJ:= .nil) (he:=e83 AY)
abbrev i226:A5:=ABp
abbrev AT5:A5:=ABU
def AMH:SQ:=mk Tryz.func226 i226 AT5 EC [s62,AAC] [] []
abbrev sV:A5:=AJ6
abbrev AGP:A5:=AKU
def ARv:Pj:=⟨sV,AGP,(sV.un JT)⟩
def AVv:Zg:=⟨T,Pf (SP.l [s62,AAC,AMH]),Bz []⟩
def AOY:List (Lp AGP):=[]
theorem AXM(g62:AA8→Option Kb)(ALQ:AAq→AA8→Option Mm)(AML:AAq→AA8→Option XC)(n:Nat)(ω:List Bool)(v:sV.V):Cr ⟨T,Pf [(62,⟨i62,o62,i62.un g62⟩),(127,⟨i127,ASq,i127.un ALQ⟩),(226,⟨i226,AT5,i226.un AML⟩)],Bz []⟩ ARv Tryz.f151 (K5 0 AOY n) ω v=sV.un (fun(p0:AAq) (p1:AA8) (p2:AA7)=>
 (g62 (p1.1,p1.2.1,())).bind fun u1=>
 if u1.2.1.length+1≤Go.M.DA then(
 let x2:AA4:=u1.2.1++[(p2,[],false,())]
 (ALQ (p0.1,p0.2.1,()) (p1.1,p1.2.1,())).bind fun u3=>
 cond (!u3.1.1)
  ((AML (p0.1,p0.2.1,()) (p1.1,p1.2.1,())).bind fun u4=>
  some ((((u4.1.1.1,(),()),0,false,()),()),(u4.2.1,())))
 ((ALQ (p0.1,p0.2.1,()) (u1.1.1.1,x2,())).bind fun u5=>
 cond (!u5.1.1)
  ((AML (p0.1,p0.2.1,()) (p1.1,p1.2.1,())).bind fun u6=>
  some ((((u6.1.1.1,(),()),0,false,()),()),(u6.2.1,())))
 (some ((((u1.1.1.1,(),()),(x2.length:Int),true,()),()),(x2,())))))else none) v:=by rcases ω with _|⟨_|_,_|⟨_|_,_⟩⟩<;>kernel_rfl
theorem AYk(n:Nat)(ω:List Bool)(v:sV.V):Cr AVv ARv Tryz.f151 (K5 0 AOY n) ω v=sV.un (JT) v:=AXM Fe GN EC n ω v
def AU0:SQ:=mk Tryz.func151 sV AGP JT [s62,AAC,AMH] [] AOY (hJ:= .nil) (he:=AYk AY)
abbrev i152:A5:=lZ
abbrev ABY:A5:=oe
def sd:SQ:=mk Tryz.func152 i152 ABY Dg [AJC,AR0] [] []
def AV_:SQ:=mk Tryz.func229 ⟨[(0,.row Y10),(1,BI)],[]⟩ FV K9 [] [] []
def AWO:SQ:=mk Tryz.func228 ⟨[(0,AHP),(1,BI),(2,.c (.fn 229 []))],[]⟩ oe BJ [AV_] [] [⟨3,⟨[(0,AHP),(1,BI),(2,.c (.fn 229 [])),(8,BI),(9,BI),(10,BI)],[]⟩,Ao⟩]
abbrev ALS:A5:=yl
abbrev ATG:A5:=oe
def ALv:SQ:=mk Tryz.func153 ALS ATG IA [AWO] [] []
abbrev i154:A5:=⟨[(0,oT),(1,BI),(2,AHP)],[J0]⟩
abbrev AWt:A5:=⟨AGU,[Ih,J0]⟩
def AT2:SQ:=AOS (ρ:=Jc 154 0 230 231 34 100) (nm:= "slices.Insert[[]loop.example/g00178/impl.Sent,loop.example/g00178/impl.Sent]") (fv:=Tryz.f230) tOk (lW.ins ⟨by kernel_rfl,by kernel_rfl,by kernel_rfl,by kernel_rfl,by kernel_rfl,by kernel_rfl,by kernel_rfl,by kernel_rfl,by kernel_rfl,by kernel_rfl,by kernel_rfl,by kernel_rfl⟩ mx (by kernel_rfl) (by kernel_rfl) (by kernel_rfl) (by kernel_rfl) (by kernel_rfl) (by kernel_rfl) (by kernel_rfl)) (r:=Y10) rfl (by kernel_rfl) (by kernel_rfl) D_ (fun _=>rfl)
abbrev i84:A5:=⟨[(0,Jz),(1,BI),(2,.c (.v .str))],fH⟩
abbrev o84:A5:=⟨mA,[.mem [.ref 1,.v tI,.ref 2,.ref 3,.ref 4,.v tI,.ref 5,.ref 6,.ref 7,.ref 9,.v .bool],C5,WW,C5,Lk,Tq,S1,NM,Ih,J0]⟩
def c84:Pj:=⟨i84,o84,(i84.un LU)⟩
def C84:Zg:=⟨T,Pf (SP.l [gr,AU0,sd,ALv,AT2]),Bz [(3,[0,1,2,3,4,5,6,7,8]),(8,[0,1,2,3,4,6,7,8])]⟩
def L84:List (Lp o84):=[]
theorem b84(yc:Int→Int→Int→Option NC)(ARD:AAq→AA8→List UInt8→Option Zs)(qh:Int→Int→Option Lj)(ASl:AA2→Int→Option Vo)(AS1:Int→AAS→AAS→Option Iu)(n:Nat)(ω:List Bool)(v:i84.V):Cr ⟨T,Pf [(37,⟨i37,o37,i37.un yc⟩),(151,⟨sV,AGP,sV.un ARD⟩),(152,⟨i152,ABY,i152.un qh⟩),(153,⟨ALS,ATG,ALS.un ASl⟩),(154,⟨i154,AWt,i154.un AS1⟩)],Bz [(3,[0,1,2,3,4,5,6,7,8]),(8,[0,1,2,3,4,6,7,8])]⟩ c84 Tryz.f84 (K5 9 L84 n) ω v=i84.un (fun(p1:Int) (p2:AA7) (AE:Int) (AZ:Int) (AM:Bool) (b1:AAM) (b2:AAO) (b3:AAM) (b4:AAN) (b5:AAc) (b6:AAi) (b7:AAn) (b8:AAS)=>
 (yc p1 0 (AS ((b5.length:Int)-1))).bind fun u2=>
 cond (!u2.1.1)
  (some ((2,()),(((),AE,(),(),(),AZ,(),(),(),(),AM,()),b1,b2,b3,b4,b5,b6,b7,(),b8,())))
 (if(0:Int)≤p1∧p1<(b5.length:Int)then(
 (ARD (b1,AE,()) ((b5.getD (p1.toNat) (0,[],())).1,(b5.getD (p1.toNat) (0,[],())).2.1,()) p2).bind fun u3=>
 (qh u3.1.1.1.1 u3.1.1.2.1).bind fun u4=>
 (ASl (b1,AE,b2,b3,b4,AZ,b5,b6,b7,b8,AM,()) u4.1.1.1).bind fun u5=>
 cond (!u3.1.1.2.2.1)
  (some ((4,()),(((),AE,(),(),(),AZ,(),(),(),(),AM,()),b1,b2,b3,b4,b5,b6,b7,(),b8,())))
 (cond (((b8.length:Int)==120))
  (some ((4,()),(((),AE,(),(),(),AZ,(),(),(),(),AM,()),b1,b2,b3,b4,b5,b6,b7,(),b8,())))
 (cond (u5.1.1.2.1)
  (some ((4,()),(((),AE,(),(),(),AZ,(),(),(),(),AM,()),b1,b2,b3,b4,b5,b6,b7,(),b8,())))
 (if(0:Int)≤p1∧p1<(b5.length:Int)then(
 (AS1 u5.1.1.1 [(u4.1.1.1,p2,false,())] b8).bind fun u8=>
 some ((0,()),(((),AE,(),(),(),AZ,(),(),(),(),AM,()),b1,b2,b3,b4,(b5.set (p1.toNat) (u3.1.1.1.1,u3.2.1,())),b6,b7,(),u8.2.2.1,())))else none))))else none)) v:=by rcases ω with _|⟨_|_,_⟩<;>kernel_rfl
theorem e84(n:Nat)(ω:List Bool)(v:i84.V):Cr C84 c84 Tryz.f84 (K5 9 L84 n) ω v=i84.un (LU) v:=b84 Ay JT Dg IA D_ n ω v
def s84:SQ:=mk Tryz.func84 i84 o84 LU [gr,AU0,sd,ALv,AT2] [(3,[0,1,2,3,4,5,6,7,8]),(8,[0,1,2,3,4,6,7,8])] L84 (hJ:= .nil) (he:=e84 AY)
def ACd:SQ:=mk Tryz.func157 yl FV EF [gr,zV] [] []
abbrev i160:A5:=AKT
abbrev ATr:A5:=dz
def AJR:SQ:=mk Tryz.func160 i160 ATr Iz [gr,s59] [] []
abbrev wc:A5:=⟨[(0,uy),(1,BI),(2,BI)],[]⟩
abbrev AHE:A5:=FV
def ADg:SQ:=mk Tryz.func155 wc AHE DW [ACd,wP,AJR] [] []
def AIp:SQ:=mk Tryz.func236 lV ACE Da [s61,s5] [] []
def AXY:SQ:=mk Tryz.func232 ADi q7 T9 [s61,s5,qm,AIp,AI3] [(3,[0,1,2])] []
abbrev i96:A5:=Ci
abbrev o96:A5:=FV
def s96:SQ:=mk Tryz.func96 i96 o96 KF [] [] []
abbrev AMw:A5:=⟨[(0,Jz),(1,BI),(2,.row Y1)],fH⟩
abbrev ATk:A5:=ng
def AP3:SQ:=mk Tryz.func156 AMw ATk LR [s96,AXY] [(1,[0,1,2,3,4,5,6,7,8,9]),(3,[0,1,3,4,5,6,7,8,9])] [] (he:=fun ω v=>by rcases ω with _|⟨_|_,_⟩<;>kernel_rfl)
abbrev i85:A5:=ALE
abbrev o85:A5:=ng
def c85:Pj:=⟨i85,o85,(i85.un I5)⟩
def C85:Zg:=⟨T,Pf (SP.l [gr,sd,ADg,AP3]),Bz [(1,[0,1,2,3,4,5,6,7,8,9]),(3,[0,1,2,3,4,5,6,7,8,9]),(10,[9,10])]⟩
def L85:List (Lp o85):=[]
theorem b85(yc:Int→Int→Int→Option NC)(qh:Int→Int→Option Lj)(tq:AA2→Int→Int→Option H3)(AQ9:Int→ABk→Int→Int→Bool→List Int→AAO→List Int→AAN→AAc→AAi→AAn→AAS→Option aM)(n:Nat)(ω:List Bool)(v:i85.V):Cr ⟨T,Pf [(37,⟨i37,o37,i37.un yc⟩),(152,⟨i152,ABY,i152.un qh⟩),(155,⟨wc,AHE,wc.un tq⟩),(156,⟨AMw,ATk,AMw.un AQ9⟩)],Bz [(1,[0,1,2,3,4,5,6,7,8,9]),(3,[0,1,2,3,4,5,6,7,8,9]),(10,[9,10])]⟩ c85 Tryz.f85 (K5 9 L85 n) ω v=i85.un (fun(p1:ABA) (AE:Int) (AZ:Int) (AM:Bool) (b1:AAM) (b2:AAO) (b3:AAM) (b4:AAN) (b5:AAc) (b6:AAi) (b7:AAn) (b8:AAS)=>
 (yc p1.2.1 0 (AS ((b5.length:Int)-1))).bind fun u2=>
 cond (!u2.1.1)
  (some ((2,()),(((),AE,(),(),(),AZ,(),(),(),(),AM,()),b1,b2,b3,b4,b5,b6,b7,b8,())))
 (if(0:Int)≤p1.2.1∧p1.2.1<(b5.length:Int)then(
 (yc p1.2.2.1 1 (((b5.getD (p1.2.1.toNat) (0,[],())).2.1).length:Int)).bind fun u4=>
 cond (!u4.1.1)
  (some ((2,()),(((),AE,(),(),(),AZ,(),(),(),(),AM,()),b1,b2,b3,b4,b5,b6,b7,b8,())))
 ((tq (b1,AE,b2,b3,b4,AZ,b5,b6,b7,b8,AM,()) p1.2.2.2.1 ((b5.getD (p1.2.1.toNat) (0,[],())).1)).bind fun u6=>
 cond (u6.1.1 !=0)
  (some ((u6.1.1,()),(((),AE,(),(),(),AZ,(),(),(),(),AM,()),b1,b2,b3,b4,b5,b6,b7,b8,())))
 ((qh ((b5.getD (p1.2.1.toNat) (0,[],())).1) p1.2.2.1).bind fun u8=>
 if(0:Int)≤AS (p1.2.2.1-1)∧AS (p1.2.2.1-1)<(((b5.getD (p1.2.1.toNat) (0,[],())).2.1).length:Int)then(
 (AQ9 p1.2.2.2.1 (u8.1.1.1,0,false,((((b5.getD (p1.2.1.toNat) (0,[],())).2.1).getD ((AS (p1.2.2.1-1)).toNat) ([],[],false,())).1),()) AE AZ AM b1 b2 b3 b4 b5 b6 b7 b8).bind fun D1=>
 some ((D1.1.1,()),(((),D1.2.1.2.1,(),(),(),D1.2.1.2.2.2.2.2.1,(),(),(),(),D1.2.1.2.2.2.2.2.2.2.2.2.2.1,()),D1.2.2.1,D1.2.2.2.1,D1.2.2.2.2.1,D1.2.2.2.2.2.1,D1.2.2.2.2.2.2.1,D1.2.2.2.2.2.2.2.1,D1.2.2.2.2.2.2.2.2.1,D1.2.2.2.2.2.2.2.2.2.1,())))else none)))else none)) v:=by kernel_rfl
theorem e85(n:Nat)(ω:List Bool)(v:i85.V):Cr C85 c85 Tryz.f85 (K5 9 L85 n) ω v=i85.un (I5) v:=b85 Ay Dg DW LR n ω v
def s85:SQ:=mk Tryz.func85 i85 o85 I5 [gr,sd,ADg,AP3] [(1,[0,1,2,3,4,5,6,7,8,9]),(3,[0,1,2,3,4,5,6,7,8,9]),(10,[9,10])] L85 (hJ:= .nil) (he:=e85 AY)
def AXu:SQ:=mk Tryz.func279 ⟨[(0,.row Y1),(1,BI)],[]⟩ FV RZ [] [] []
def AYl:SQ:=mk Tryz.func278 ⟨[(0,Xz),(1,BI),(2,.c (.fn 279 []))],[]⟩ oe B3 [AXu] [] [⟨3,⟨[(0,Xz),(1,BI),(2,.c (.fn 279 [])),(8,BI),(9,BI),(10,BI)],[]⟩,Av⟩]
def AUL:SQ:=mk Tryz.func246 ACF oe Rv [AYl] [] []
def AWu:SQ:=AOS (ρ:=Jc 270 0 284 285 84 134) (nm:= "slices.Insert[[]loop.example/g00178/impl.Entry,loop.example/g00178/impl.Entry]") (fv:=Tryz.f284) tOk (lW.ins ⟨by kernel_rfl,by kernel_rfl,by kernel_rfl,by kernel_rfl,by kernel_rfl,by kernel_rfl,by kernel_rfl,by kernel_rfl,by kernel_rfl,by kernel_rfl,by kernel_rfl,by kernel_rfl⟩ mx (by kernel_rfl) (by kernel_rfl) (by kernel_rfl) (by kernel_rfl) (by kernel_rfl) (by kernel_rfl) (by kernel_rfl)) (r:=Y1) rfl (by kernel_rfl) (by kernel_rfl) Dl (fun _=>rfl)
def ASH:SQ:=mk Tryz.func271 AKK AKq Q8 [] [] []
def APk:SQ:=mk Tryz.func237 ⟨[(0,oT),(1,.row Y1)],rY⟩ ALB WY [AUL,AWu,ASH] [(4,[1])] []
def ASN:SQ:=mk Tryz.func163 ig yq Mz [gr,s61,s5,AIp,APk] [] [⟨6,⟨[(1,BI),(2,Jz),(4,T4),(6,l4),(23,Xz),(24,BI),(25,BI)],[AMP,ADM,JO,JO,AGH,.sl 1 Y1,JO]⟩,Jb⟩]
def AR3:SQ:=mk Tryz.func158 lV yq ON [ASN] [] []
abbrev sO:A5:=ig
abbrev ABV:A5:=uJ
def ADK:SQ:=mk Tryz.func178 sO ABV GL [s5,AUL] [] []
def AZC:SQ:=mk Tryz.func286 FV Ci cmp_isNaN_int [] [] []
def AYV:SQ:=mk Tryz.func272 lZ Ci cmp_Less_int [AZC] [] []
def AWX:SQ:=mk Tryz.func273 FV Ci O5 [] [] []
def AXG:SQ:=mk Tryz.func238 lR oe GC [AYV,AWX] [] [⟨3,⟨[(0,bI),(1,BI),(6,BI),(7,BI),(8,BI)],[]⟩,Dc⟩]
def AYh:SQ:=AOS (ρ:=Jc 239 0 274 275 24 3) (nm:= "slices.Insert[[]int,int]") (fv:=Tryz.f274) tOk (lW.ins ⟨by kernel_rfl,by kernel_rfl,by kernel_rfl,by kernel_rfl,by kernel_rfl,by kernel_rfl,by kernel_rfl,by kernel_rfl,by kernel_rfl,by kernel_rfl,by kernel_rfl,by kernel_rfl⟩ mx (by kernel_rfl) (by kernel_rfl) (by kernel_rfl) (by kernel_rfl) (by kernel_rfl) (by kernel_rfl) (by kernel_rfl)) (r:=tI) rfl (by kernel_rfl) (by kernel_rfl) Jp (fun _=>rfl)
def AFY:SQ:=mk Tryz.func164 lR ACx Kv [s59,AXG,AYh] [] []
def AYt:SQ:=mk Tryz.func234 AKG AKx Sg [gr,s62,qX,AAC,AFY,AMH] [(6,[0,1,2,4])] []
def AXZ:SQ:=mk Tryz.func161 yL AKl NO [sd,ALv,ADK,AYt] [(6,[0,1,2,3,4,6,7,8,9])] [⟨1,ABD,Cw⟩]
abbrev AC0:A5:=AKA
abbrev APL:A5:=uJ
def AMs:SQ:=mk Tryz.func174 AC0 APL Jj [sd] [] [⟨5,⟨[(2,Jz),(4,T4),(6,BI),(33,Xz),(34,BI),(35,BI)],[wa,zr]⟩,KL⟩]
def AMh:SQ:=mk Tryz.func244 rE v8 Ef [s63,xT] [] []
abbrev ADp:A5:=AKY
abbrev AMg:A5:=AJ3
def ATi:SQ:=mk Tryz.func235 ADp AMg O1 [gr,s63,xT,AFY,AMh] [(4,[0,1,2,3,4,6])] []
abbrev i162:A5:=yL
abbrev ANN:A5:=AKl
def c162:Pj:=⟨i162,ANN,(i162.un LG)⟩
def ASe:Zg:=⟨T,Pf (SP.l [AMs,ADK,ATi]),Bz [(4,[0,1,2,3,4,5,6,7,8,9]),(6,[0,1,2,3,4,5,7,8,9,10])]⟩
def ADq:List (Lp ANN):=[⟨1,ABD,BO⟩]
abbrev kJ:A5:=ABD
theorem AM8(AIT:AAy→Int→Option I9)(sn:AA6→Int→Option My)(AI_:AAq→AAy→Int→Int→Option W8)(n:Nat)(v:kJ.V)(ω:List Bool):HV ⟨T,Pf [(174,⟨AC0,APL,AC0.un AIT⟩),(178,⟨sO,ABV,sO.un sn⟩),(235,⟨ADp,AMg,ADp.un AI_⟩)],Bz [(4,[0,1,2,3,4,5,6,7,8,9]),(6,[0,1,2,3,4,5,7,8,9,10])]⟩ c162 Tryz.f162 (K5 9 ADq n) 1 ω (kJ.st 81 v)=kJ.un (fun(t1:Int) (t2:Int) (t6:Int) (AE:Int) (AZ:Int) (AM:Bool) (b1:AAM) (b2:AAO) (b3:AAM) (b4:AAN) (b5:AAc) (b6:AAi) (b7:AAn) (b8:AAS)=>
 if(0:Int)≤t1∧t1<(b6.length:Int)then(
 cond (decide (t6≤(((b6.getD (t1.toNat) (0,0,[],[],false,[],())).2.2.2.2.2.1).length:Int)))
  (if(0:Int)≤t1∧t1<(b6.length:Int)then(
  (AIT ((b6.getD (t1.toNat) (0,0,[],[],false,[],())).1,(b6.getD (t1.toNat) (0,0,[],[],false,[],())).2.1,(b6.getD (t1.toNat) (0,0,[],[],false,[],())).2.2.1,(b6.getD (t1.toNat) (0,0,[],[],false,[],())).2.2.2.1,(b6.getD (t1.toNat) (0,0,[],[],false,[],())).2.2.2.2.1,(b6.getD (t1.toNat) (0,0,[],[],false,[],())).2.2.2.2.2.1,()) t6).bind fun u2=>
  if(0:Int)≤t2∧t2<(b2.length:Int)then(
  (sn ((b2.getD (t2.toNat) ([],[],0,())).1,(b2.getD (t2.toNat) ([],[],0,())).2.1,(b2.getD (t2.toNat) ([],[],0,())).2.2.1,()) u2.1.1.1.1).bind fun u3=>
  cond (u2.1.1.2.1)
   (cond (u3.1.1.2.1)
    (cond (((u3.1.1.1.1==u2.1.1.1.1)&&((u3.1.1.1.2.1==u2.1.1.1.2.1)&&((u3.1.1.1.2.2.1==u2.1.1.1.2.2.1)&&((u3.1.1.1.2.2.2.1==u2.1.1.1.2.2.2.1)&&true)))))
     (if(0:Int)≤t1∧t1<(b6.length:Int)then(
     (AI_ (b1,AE,()) ((b6.getD (t1.toNat) (0,0,[],[],false,[],())).1,(b6.getD (t1.toNat) (0,0,[],[],false,[],())).2.1,(b6.getD (t1.toNat) (0,0,[],[],false,[],())).2.2.1,(b6.getD (t1.toNat) (0,0,[],[],false,[],())).2.2.2.1,(b6.getD (t1.toNat) (0,0,[],[],false,[],())).2.2.2.2.1,(b6.getD (t1.toNat) (0,0,[],[],false,[],())).2.2.2.2.2.1,()) t6 t2).bind fun u5=>
     if(0:Int)≤t1∧t1<(b6.length:Int)then(
     (BO n) t1 t2 (AS (t6+1)) AE AZ AM b1 b2 b3 b4 b5 (b6.set (t1.toNat) (u5.1.1.1.1,u5.1.1.1.2.1,u5.2.1,u5.2.2.1,u5.1.1.1.2.2.2.2.1,u5.2.2.2.1,())) b7 b8)else none)else none)
    ((BO n) t1 t2 (AS (t6+1)) AE AZ AM b1 b2 b3 b4 b5 b6 b7 b8))
   ((BO n) t1 t2 (AS (t6+1)) AE AZ AM b1 b2 b3 b4 b5 b6 b7 b8))
  ((BO n) t1 t2 (AS (t6+1)) AE AZ AM b1 b2 b3 b4 b5 b6 b7 b8))else none)else none)
 (some (((()),()),(((),AE,(),(),(),AZ,(),(),(),(),AM,()),b1,b2,b3,b4,b5,b6,b7,b8,()))))else none) v:=by rcases ω with _|⟨_|_,_⟩<;>kernel_rfl
theorem AM0(n:Nat)(v:kJ.V)(ω:List Bool):HV ASe c162 Tryz.f162 (K5 9 ADq n) 1 ω (kJ.st 81 v)=kJ.un (G4 (BO n)) v:=AM8 Jj GL O1 n v ω
theorem AW9(AIT:AAy→Int→Option I9)(sn:AA6→Int→Option My)(AI_:AAq→AAy→Int→Int→Option W8)(n:Nat)(ω:List Bool)(v:i162.V):Cr ⟨T,Pf [(174,⟨AC0,APL,AC0.un AIT⟩),(178,⟨sO,ABV,sO.un sn⟩),(235,⟨ADp,AMg,ADp.un AI_⟩)],Bz [(4,[0,1,2,3,4,5,6,7,8,9]),(6,[0,1,2,3,4,5,7,8,9,10])]⟩ c162 Tryz.f162 (K5 9 ADq n) ω v=i162.un (fun(p1:Int) (p2:Int) (AE:Int) (AZ:Int) (AM:Bool) (b1:AAM) (b2:AAO) (b3:AAM) (b4:AAN) (b5:AAc) (b6:AAi) (b7:AAn) (b8:AAS)=>
 (BO n) p1 p2 1 AE AZ AM b1 b2 b3 b4 b5 b6 b7 b8) v:=by kernel_rfl
theorem AZP(n:Nat)(ω:List Bool)(v:i162.V):Cr ASe c162 Tryz.f162 (K5 9 ADq n) ω v=i162.un (Jy (BO n)) v:=AW9 Jj GL O1 n ω v
def AXo:SQ:=mk Tryz.func162 i162 ANN LG [AMs,ADK,ATi] [(4,[0,1,2,3,4,5,6,7,8,9]),(6,[0,1,2,3,4,5,7,8,9,10])] ADq (hJ:= .cons (fun _=>rfl) AM0 (.nil)) (he:=AZP AY)
def s86:SQ:=mk Tryz.func86 rU ng P1 [ACd,AR3,wP,AJR,AXZ,AXo] [(7,[0,1,3,4,5,6,7,8,11]),(11,[0,1,2,3,4,5,6,7,8,9,10]),(17,[0,1,2,3,4,5,6,7,8,9])] [⟨9,⟨[(0,Jz),(1,BI),(6,dt),(41,.c (.ref 5)),(42,BI),(43,BI)],[uC,C5,WW,C5,Lk,Tq,S1,NM,J0,.mem [.any,.any,.v tI]]⟩,Eb⟩,⟨15,⟨[(0,Jz),(1,BI),(72,.c (.ref 6)),(73,BI),(74,BI)],fH⟩,FH⟩]
def s87:SQ:=mk Tryz.func87 yL ng Ox [s96,ACd,ASN] [(5,[0,1,3,4,5,6,7,8,11])] []
def ATu:SQ:=mk Tryz.func243 ⟨[(0,BI),(1,.c (.mV (.cons tI .unit)))],[]⟩ Ci Mc [] [] []
def APS:SQ:=mk Tryz.func276 ⟨[(0,bI),(1,AD9)],[]⟩ FV Dn [ATu] [] [⟨2,⟨[(0,bI),(1,AD9),(7,BI),(8,BI)],[]⟩,Bm⟩]
def AOI:SQ:=mk Tryz.func242 ⟨[(0,oT),(1,AD9)],[C5]⟩ AK8 Ch [ATu,APS] [] [⟨5,⟨[(0,oT),(1,AD9),(5,BI),(6,BI)],[C5]⟩,Bi⟩]
abbrev i168:A5:=lR
abbrev ARb:A5:=ACx
def AEO:SQ:=mk Tryz.func168 i168 ARb HL [s59,AOI] [] []
def AZA:SQ:=mk Tryz.func165 AKB AKx Nr [s62,AAC,AEO] [(8,[0,1,2,4])] [⟨5,⟨[(2,BI),(6,Jz),(8,xP9),(19,AG9),(20,BI),(21,BI)],[.mem [.v tI,.ref 1],kG,AMd,.sl 2 Y5]⟩,He⟩]
def AXq:SQ:=mk Tryz.func166 ALK AJ3 QH [s63,xT,AEO] [(7,[0,1,2,3,4,5,6])] [⟨5,⟨[(2,BI),(6,Jz),(8,l4),(19,AHj),(20,BI),(21,BI)],[ATn,FN,JO,jL,ARc,FN,JO,.sl 2 (.sl tI)]⟩,JY⟩]
def s88:SQ:=mk Tryz.func88 rU ⟨mA,[AOE,C5,WW,Ih,Lk,Tq,S1,NM,J0,C5]⟩ QC [qX,ACd,AFY,AZA,AXq] [(9,[0,1,2,3,4,6,7,8,9,10]),(14,[0,1,2,3,4,5,7,8,9,10]),(16,[1,2,3,4,5,6,7,8,9])] [⟨7,⟨[(0,Jz),(1,BI),(35,.c (.ref 5)),(36,BI),(37,BI)],AKC⟩,HC⟩,⟨12,⟨[(0,Jz),(1,BI),(62,.c (.ref 6)),(63,BI),(64,BI)],AKC⟩,Gn⟩] (hJ:= .cons (fun _=>rfl) (fun n v ω=>by kernel_rfl) (.cons (fun _=>rfl) (fun n v ω=>by rcases ω with _|⟨_|_,_⟩<;>kernel_rfl) (.nil)))
def AWb:SQ:=mk Tryz.func240 lg Ci YK [te,qX] [] []
def AXJ:SQ:=mk Tryz.func241 ⟨[(0,vu)],[]⟩ ⟨ADX,rY⟩ gC [s5,APk] [] [⟨3,⟨[(3,oT),(9,vu),(10,BI),(11,BI)],rY⟩,NJ⟩,⟨8,⟨[(3,oT),(9,vu),(10,BI),(11,BI),(19,Xz),(20,BI),(21,BI)],rY⟩,M9⟩]
abbrev i167:A5:=AKQ
abbrev AU5:A5:=⟨AS2,[UT,.sl 1 Y1,JO]⟩
def ATo:SQ:=mk Tryz.func167 i167 AU5 Z8 [s5,wP,AWb,AXJ] [] [⟨5,⟨[(2,bI),(4,BI),(10,T4),(12,.c (.ref 4)),(36,oT),(37,BI),(38,BI)],[UT,ADM,JO,JO,UT]⟩,RT⟩]
abbrev i89:A5:=rU
abbrev o89:A5:=⟨mA,[AOE,C5,UT,Ih,Lk,Tq,S1,NM,J0,C5]⟩
def c89:Pj:=⟨i89,o89,(i89.un KA)⟩
def C89:Zg:=⟨T,Pf (SP.l [gr,zV,ATo,AEO]),Bz [(3,[0,1,3,4,5,6,7,8]),(6,[0,1,3,4,5,6,7,8,9])]⟩
def L89:List (Lp o89):=[]
theorem b89(yc:Int→Int→Int→Option NC)(xQ:AA2→Int→Option LF)(AR2:AAq→List Int→Int→Int→AAO→Option Ur)(ASw:List Int→Int→Option Xs)(n:Nat)(ω:List Bool)(v:i89.V):Cr ⟨T,Pf [(37,⟨i37,o37,i37.un yc⟩),(123,⟨wk,AHW,wk.un xQ⟩),(167,⟨i167,AU5,i167.un AR2⟩),(168,⟨i168,ARb,i168.un ASw⟩)],Bz [(3,[0,1,3,4,5,6,7,8]),(6,[0,1,3,4,5,6,7,8,9])]⟩ c89 Tryz.f89 (K5 9 L89 n) ω v=i89.un (fun(p1:Int) (AE:Int) (AZ:Int) (AM:Bool) (b1:AAM) (b2:AAO) (b3:AAM) (b4:AAN) (b5:AAc) (b6:AAi) (b7:AAn) (b8:AAS)=>
 (yc p1 0 (AS ((b2.length:Int)-1))).bind fun u2=>
 cond (!u2.1.1)
  (some ((2,()),(((),AE,(),(),(),AZ,(),(),(),(),AM,()),b1,b2,(),b4,b5,b6,b7,b8,b3,())))
 ((xQ (b1,AE,b2,b3,b4,AZ,b5,b6,b7,b8,AM,()) p1).bind fun u3=>
 cond (!u3.1.1)
  (some ((2,()),(((),AE,(),(),(),AZ,(),(),(),(),AM,()),b1,b2,(),b4,b5,b6,b7,b8,b3,())))
 (let x4:Int:=AS ((b4.length:Int)-1)
 (AR2 (b1,AE,()) b3 p1 (if 0>x4 then 0 else x4) b2).bind fun u6=>
 cond (!u6.1.1.2.1)
  (some ((4,()),(((),AE,(),(),(),AZ,(),(),(),(),AM,()),b1,u6.2.1,(),b4,b5,b6,b7,b8,b3,())))
 (if(0:Int)≤p1∧p1<(u6.2.1.length:Int)then(
 (ASw b3 p1).bind fun u8=>
 some ((0,()),(((),AE,(),(),(),AZ,(),(),(),(),AM,()),b1,(u6.2.1.set (p1.toNat) (u6.2.2.1,u6.2.2.2.1,u6.1.1.1.2.2.1,())),(),b4,b5,b6,b7,b8,u8.2.1,())))else none)))) v:=by rcases ω with _|⟨_|_,_⟩<;>kernel_rfl
theorem e89(n:Nat)(ω:List Bool)(v:i89.V):Cr C89 c89 Tryz.f89 (K5 9 L89 n) ω v=i89.un (KA) v:=b89 Ay Cz Z8 HL n ω v
def s89:SQ:=mk Tryz.func89 i89 o89 KA [gr,zV,ATo,AEO] [(3,[0,1,3,4,5,6,7,8]),(6,[0,1,3,4,5,6,7,8,9])] L89 (hJ:= .nil) (he:=e89 AY)
def AWf:SQ:=mk Tryz.func169 lZ v8 iw [] [] []
def s90:SQ:=mk Tryz.func90 ACy ⟨mA,[.mem [.ref 1,.v tI,.ref 2,.ref 3,.ref 4,.v tI,.ref 5,.ref 9,.ref 7,.ref 8,.v .bool],C5,WW,C5,Lk,Tq,Ih,NM,J0,S1]⟩ P6 [AMW,AWf] [(1,[0,1,2,3,4,5,6,7,8])] []
abbrev AC_:A5:=ig
abbrev ANr:A5:=yq
def ARk:SQ:=mk Tryz.func170 AC_ ANr Oh [gr,AR3,AIp] [] []
abbrev ABw:A5:=ig
abbrev ANH:A5:=vI
def AU4:SQ:=mk Tryz.func172 ABw ANH Pl [s5,qm] [] [⟨5,⟨[(1,BI),(5,oT),(14,Xz),(15,BI),(16,BI)],[JO]⟩,Lw⟩]
abbrev i171:A5:=AKF
abbrev AOF:A5:=⟨AO8,[C5,.sl 1 Y1,jL]⟩
def ATm:SQ:=mk Tryz.func171 i171 AOF Pq [s63,qm,xT,AFY,APk,AMh] [(8,[0,1,2,3,4,5,6,7,8,9,10])] [⟨6,⟨[(4,Jz),(5,T4),(8,xP9),(10,zR),(31,Xz),(32,BI),(33,BI)],[mD,wa,APQ,FN,JO,jL,AMF,C5,.sl 1 Y1,jL]⟩,La⟩]
abbrev i91:A5:=rU
abbrev o91:A5:=⟨mA,[uC,C5,WW,C5,Lk,Tq,.sl 2 Y7,NM,J0]⟩
def c91:Pj:=⟨i91,o91,(i91.un KB)⟩
def C91:Zg:=⟨T,Pf (SP.l [ADg,ARk,ATm,AU4]),Bz [(7,[0,1,2,3,4,5,6,7,8,9]),(8,[0,1,2,3,4,5,6,7,8,9,10,11,12]),(11,[0,1,3,4,5,7,8,9,13])]⟩
def L91:List (Lp o91):=[]
def HY(ω:List Bool):Prop:= ∀(tq:AA2→Int→Int→Option H3) (AAw:AA6→Int→Option Tk) (AAP:AAq→AAy→Int→AAR→Option J4) (AAk:AA6→Int→Option J6) (n:Nat) (v:i91.V),Cr ⟨T,Pf [(155,⟨wc,AHE,wc.un tq⟩),(170,⟨AC_,ANr,AC_.un AAw⟩),(171,⟨i171,AOF,i171.un AAP⟩),(172,⟨ABw,ANH,ABw.un AAk⟩)],Bz [(7,[0,1,2,3,4,5,6,7,8,9]),(8,[0,1,2,3,4,5,6,7,8,9,10,11,12]),(11,[0,1,3,4,5,7,8,9,13])]⟩ c91 Tryz.f91 (K5 9 L91 n) ω v=i91.un (fun(p1:Int) (AE:Int) (AZ:Int) (AM:Bool) (b1:AAM) (b2:AAO) (b3:AAM) (b4:AAN) (b5:AAc) (b6:AAi) (b7:AAn) (b8:AAS)=>
 cond (((b6.length:Int)==0))
  (some ((2,()),(((),AE,(),(),(),AZ,(),(),(),(),AM,()),b1,b2,b3,b4,b5,b6,b7,b8,())))
 (if(0:Int)≤(0:Int)∧(0:Int)<(b6.length:Int)then(
 (tq (b1,AE,b2,b3,b4,AZ,b5,b6,b7,b8,AM,()) p1 ((b6.getD 0 (0,0,[],[],false,[],())).2.1)).bind fun u3=>
 cond (u3.1.1 !=0)
  (some ((u3.1.1,()),(((),AE,(),(),(),AZ,(),(),(),(),AM,()),b1,b2,b3,b4,b5,b6,b7,b8,())))
 (if(0:Int)≤p1∧p1<(b2.length:Int)then(
 (AAw ((b2.getD (p1.toNat) ([],[],0,())).1,(b2.getD (p1.toNat) ([],[],0,())).2.1,(b2.getD (p1.toNat) ([],[],0,())).2.2.1,()) (AS (((b6.getD 0 (0,0,[],[],false,[],())).1)-1))).bind fun u5=>
 (AAk (u5.2.1,u5.2.2.1,u5.1.1.1.2.2.1,()) ((b6.getD 0 (0,0,[],[],false,[],())).2.1)).bind fun u7=>
 (AAP (b1,AE,()) ((b6.getD 0 (0,0,[],[],false,[],())).1,(b6.getD 0 (0,0,[],[],false,[],())).2.1,(b6.getD 0 (0,0,[],[],false,[],())).2.2.1,(b6.getD 0 (0,0,[],[],false,[],())).2.2.2.1,(b6.getD 0 (0,0,[],[],false,[],())).2.2.2.2.1,(b6.getD 0 (0,0,[],[],false,[],())).2.2.2.2.2.1,()) p1 u7.2.1).bind fun u8=>
 cond (!u5.1.1.2.1)
  (some ((4,()),(((),AE,(),(),(),AZ,(),(),(),(),AM,()),b1,b2,b3,b4,b5,b6,b7,b8,())))
 (cond (!u8.1.1.2.1)
  (some ((4,()),(((),AE,(),(),(),AZ,(),(),(),(),AM,()),b1,b2,b3,b4,b5,b6,b7,b8,())))
 (if(0:Int)≤p1∧p1<(b2.length:Int)then(
 if(0:Int)≤(0:Int)∧(0:Int)<(b6.length:Int)then(
 some ((0,()),(((),AE,(),(),(),AZ,(),(),(),(),AM,()),b1,(b2.set (p1.toNat) (u5.2.1,u5.2.2.1,u5.1.1.1.2.2.1,())),b3,b4,b5,(b6.set 0 (u8.1.1.1.1,u8.1.1.1.2.1,u8.2.1,u8.2.2.1,u8.1.1.1.2.2.2.2.1,u8.2.2.2.1,())),b7,b8,())))else none)else none)))else none))else none)) v
theorem ARL:HY []:=by delta HY;intros;kernel_rfl
theorem ARz:HY (false::[]):=by delta HY;intros;kernel_rfl
theorem AS9(ω:List Bool):HY (false::false::ω):=by delta HY;intros;kernel_rfl
theorem ASK:HY (false::true::[]):=by delta HY;intros;kernel_rfl
theorem ASo:HY (false::true::false::[]):=by delta HY;intros;kernel_rfl
theorem AUv(ω:List Bool):HY (false::true::false::false::ω):=by delta HY;intros;kernel_rfl
theorem ASU:HY (false::true::false::true::[]):=by delta HY;intros;kernel_rfl
theorem ASD(ω:List Bool):HY (false::true::false::true::false::ω):=by delta HY;intros;kernel_rfl
theorem AS_(ω:List Bool):HY (false::true::false::true::true::ω):=by delta HY;intros;kernel_rfl
theorem AMU:HY (false::true::true::[]):=by delta HY;intros;kernel_rfl
theorem AMb(ω:List Bool):HY (false::true::true::false::ω):=by delta HY;intros;kernel_rfl
theorem AP8:HY (false::true::true::true::[]):=by delta HY;intros;kernel_rfl
theorem ANd(ω:List Bool):HY (false::true::true::true::false::ω):=by delta HY;intros;kernel_rfl
theorem APm(ω:List Bool):HY (false::true::true::true::true::ω):=by delta HY;intros;kernel_rfl
theorem AN7:HY (true::[]):=by delta HY;intros;kernel_rfl
theorem APh(ω:List Bool):HY (true::false::ω):=by delta HY;intros;kernel_rfl
theorem AOl:HY (true::true::[]):=by delta HY;intros;kernel_rfl
theorem ALs:HY (true::true::false::[]):=by delta HY;intros;kernel_rfl
theorem ANQ(ω:List Bool):HY (true::true::false::false::ω):=by delta HY;intros;kernel_rfl
theorem ANq:HY (true::true::false::true::[]):=by delta HY;intros;kernel_rfl
theorem ANy(ω:List Bool):HY (true::true::false::true::false::ω):=by delta HY;intros;kernel_rfl
theorem AMn(ω:List Bool):HY (true::true::false::true::true::ω):=by delta HY;intros;kernel_rfl
theorem ANg:HY (true::true::true::[]):=by delta HY;intros;kernel_rfl
theorem APJ(ω:List Bool):HY (true::true::true::false::ω):=by delta HY;intros;kernel_rfl
theorem AQC:HY (true::true::true::true::[]):=by delta HY;intros;kernel_rfl
theorem AP9(ω:List Bool):HY (true::true::true::true::false::ω):=by delta HY;intros;kernel_rfl
theorem AMX(ω:List Bool):HY (true::true::true::true::true::ω):=by delta HY;intros;kernel_rfl
theorem b91(tq:AA2→Int→Int→Option H3)(AAw:AA6→Int→Option Tk)(AAP:AAq→AAy→Int→AAR→Option J4)(AAk:AA6→Int→Option J6)(n:Nat)(ω:List Bool)(v:i91.V):Cr ⟨T,Pf [(155,⟨wc,AHE,wc.un tq⟩),(170,⟨AC_,ANr,AC_.un AAw⟩),(171,⟨i171,AOF,i171.un AAP⟩),(172,⟨ABw,ANH,ABw.un AAk⟩)],Bz [(7,[0,1,2,3,4,5,6,7,8,9]),(8,[0,1,2,3,4,5,6,7,8,9,10,11,12]),(11,[0,1,3,4,5,7,8,9,13])]⟩ c91 Tryz.f91 (K5 9 L91 n) ω v=i91.un (fun(p1:Int) (AE:Int) (AZ:Int) (AM:Bool) (b1:AAM) (b2:AAO) (b3:AAM) (b4:AAN) (b5:AAc) (b6:AAi) (b7:AAn) (b8:AAS)=>
 cond (((b6.length:Int)==0))
  (some ((2,()),(((),AE,(),(),(),AZ,(),(),(),(),AM,()),b1,b2,b3,b4,b5,b6,b7,b8,())))
 (if(0:Int)≤(0:Int)∧(0:Int)<(b6.length:Int)then(
 (tq (b1,AE,b2,b3,b4,AZ,b5,b6,b7,b8,AM,()) p1 ((b6.getD 0 (0,0,[],[],false,[],())).2.1)).bind fun u3=>
 cond (u3.1.1 !=0)
  (some ((u3.1.1,()),(((),AE,(),(),(),AZ,(),(),(),(),AM,()),b1,b2,b3,b4,b5,b6,b7,b8,())))
 (if(0:Int)≤p1∧p1<(b2.length:Int)then(
 (AAw ((b2.getD (p1.toNat) ([],[],0,())).1,(b2.getD (p1.toNat) ([],[],0,())).2.1,(b2.getD (p1.toNat) ([],[],0,())).2.2.1,()) (AS (((b6.getD 0 (0,0,[],[],false,[],())).1)-1))).bind fun u5=>
 (AAk (u5.2.1,u5.2.2.1,u5.1.1.1.2.2.1,()) ((b6.getD 0 (0,0,[],[],false,[],())).2.1)).bind fun u7=>
 (AAP (b1,AE,()) ((b6.getD 0 (0,0,[],[],false,[],())).1,(b6.getD 0 (0,0,[],[],false,[],())).2.1,(b6.getD 0 (0,0,[],[],false,[],())).2.2.1,(b6.getD 0 (0,0,[],[],false,[],())).2.2.2.1,(b6.getD 0 (0,0,[],[],false,[],())).2.2.2.2.1,(b6.getD 0 (0,0,[],[],false,[],())).2.2.2.2.2.1,()) p1 u7.2.1).bind fun u8=>
 cond (!u5.1.1.2.1)
  (some ((4,()),(((),AE,(),(),(),AZ,(),(),(),(),AM,()),b1,b2,b3,b4,b5,b6,b7,b8,())))
 (cond (!u8.1.1.2.1)
  (some ((4,()),(((),AE,(),(),(),AZ,(),(),(),(),AM,()),b1,b2,b3,b4,b5,b6,b7,b8,())))
 (if(0:Int)≤p1∧p1<(b2.length:Int)then(
 if(0:Int)≤(0:Int)∧(0:Int)<(b6.length:Int)then(
 some ((0,()),(((),AE,(),(),(),AZ,(),(),(),(),AM,()),b1,(b2.set (p1.toNat) (u5.2.1,u5.2.2.1,u5.1.1.1.2.2.1,())),b3,b4,b5,(b6.set 0 (u8.1.1.1.1,u8.1.1.1.2.1,u8.2.1,u8.2.2.1,u8.1.1.1.2.2.2.2.1,u8.2.2.2.1,())),b7,b8,())))else none)else none)))else none))else none)) v:=(AF ARL (AF ARz AS9 (AF ASK (AF ASo AUv (AF ASU ASD AS_)) (AF AMU AMb (AF AP8 ANd APm)))) (AF AN7 APh (AF AOl (AF ALs ANQ (AF ANq ANy AMn)) (AF ANg APJ (AF AQC AP9 AMX))))) ω tq AAw AAP AAk n v
theorem e91(n:Nat)(ω:List Bool)(v:i91.V):Cr C91 c91 Tryz.f91 (K5 9 L91 n) ω v=i91.un (KB) v:=b91 DW Oh Pq Pl n ω v
def s91:SQ:=mk Tryz.func91 i91 o91 KB [ADg,ARk,ATm,AU4] [(7,[0,1,2,3,4,5,6,7,8,9]),(8,[0,1,2,3,4,5,6,7,8,9,10,11,12]),(11,[0,1,3,4,5,7,8,9,13])] L91 (hJ:= .nil) (he:=e91 AY)
def AXR:SQ:=mk Tryz.func277 ACo dz eM [te,wP] [] [⟨5,⟨[(2,bI),(7,oT),(22,bI),(23,BI),(24,BI)],sS⟩,RY⟩]
def ARN:SQ:=mk Tryz.func245 ACo Ci G1 [te,qX,AGM,AXR] [(3,[0,1])] []
abbrev i173:A5:=ALJ
abbrev AR9:A5:=vy
def AS5:SQ:=mk Tryz.func173 i173 AR9 Pg [s63,xT,AGM,ASx,AMh,ARN] [(1,[0,1,2])] []
abbrev i92:A5:=ACy
abbrev o92:A5:=ng
def c92:Pj:=⟨i92,o92,(i92.un KD)⟩
def C92:Zg:=⟨T,Pf (SP.l [s96,AJR,AS5]),Bz [(3,[0,1,2,3,4,5,6,7,8]),(4,[0,1,2,3,4,5,7,8,9])]⟩
def L92:List (Lp o92):=[]
theorem b92(g96:Bool→Option cr)(ATU:AA5→Int→Option bq)(AUJ:AAq→AAy→List Int→Option bt)(n:Nat)(ω:List Bool)(v:i92.V):Cr ⟨T,Pf [(96,⟨i96,o96,i96.un g96⟩),(160,⟨i160,ATr,i160.un ATU⟩),(173,⟨i173,AR9,i173.un AUJ⟩)],Bz [(3,[0,1,2,3,4,5,6,7,8]),(4,[0,1,2,3,4,5,7,8,9])]⟩ c92 Tryz.f92 (K5 9 L92 n) ω v=i92.un (fun(AE:Int) (AZ:Int) (AM:Bool) (b1:AAM) (b2:AAO) (b3:AAM) (b4:AAN) (b5:AAc) (b6:AAi) (b7:AAn) (b8:AAS)=>
 cond (((b6.length:Int)==0))
  (some ((2,()),(((),AE,(),(),(),AZ,(),(),(),(),AM,()),b1,b2,b3,b4,b5,b6,b7,b8,())))
 (if(0:Int)≤(0:Int)∧(0:Int)<(b6.length:Int)then(
 if(0:Int)≤(0:Int)∧(0:Int)<(b6.length:Int)then(
 (ATU (b4,AZ,()) ((b6.getD 0 (0,0,[],[],false,[],())).2.1)).bind fun u3=>
 (AUJ (b1,AE,()) ((b6.getD 0 (0,0,[],[],false,[],())).1,(b6.getD 0 (0,0,[],[],false,[],())).2.1,(b6.getD 0 (0,0,[],[],false,[],())).2.2.1,(b6.getD 0 (0,0,[],[],false,[],())).2.2.2.1,(b6.getD 0 (0,0,[],[],false,[],())).2.2.2.2.1,(b6.getD 0 (0,0,[],[],false,[],())).2.2.2.2.2.1,()) u3.2.1).bind fun u4=>
 if(0:Int)≤(0:Int)∧(0:Int)<(b6.length:Int)then(
 (g96 u4.1.1.2.1).bind fun u6=>
 some ((u6.1.1,()),(((),AE,(),(),(),AZ,(),(),(),(),AM,()),b1,b2,b3,b4,b5,(b6.set 0 (u4.1.1.1.1,u4.1.1.1.2.1,u4.2.1,u4.2.2.1,u4.1.1.1.2.2.2.2.1,u4.2.2.2.1,())),b7,b8,())))else none)else none)else none)) v:=by rcases ω with _|⟨_|_,_|⟨_|_,_⟩⟩<;>kernel_rfl
theorem e92(n:Nat)(ω:List Bool)(v:i92.V):Cr C92 c92 Tryz.f92 (K5 9 L92 n) ω v=i92.un (KD) v:=b92 KF Iz Pg n ω v
def s92:SQ:=mk Tryz.func92 i92 o92 KD [s96,AJR,AS5] [(3,[0,1,2,3,4,5,6,7,8]),(4,[0,1,2,3,4,5,7,8,9])] L92 (hJ:= .nil) (he:=e92 AY)
def s93:SQ:=mk Tryz.func93 yL ng SR [ADg,AP3,AMs] [] []
abbrev i175:A5:=rE
abbrev ARM:A5:=Ci
def ASh:SQ:=mk Tryz.func175 i175 ARM Ob [qX,xT] [] [⟨4,⟨[(2,Jz),(17,AHj),(18,BI),(19,BI)],APF⟩,Kj⟩]
abbrev AOL:A5:=AKi
abbrev ARo:A5:=yK
def ARl:SQ:=mk Tryz.func176 AOL ARo Pm [gr,s41,s60,AMW,AIP] [(5,[0,1,2,4])] []
abbrev i94:A5:=ACy
abbrev o94:A5:=⟨mA,[.mem [.ref 1,.v tI,.ref 2,.ref 3,.ref 9,.v tI,.ref 5,.ref 10,.ref 7,.ref 8,.v .bool],C5,WW,C5,Ih,Tq,Ih,NM,J0,Lk,S1]⟩
def c94:Pj:=⟨i94,o94,(i94.un I6)⟩
def C94:Zg:=⟨T,Pf (SP.l [s96,ASh,ARl]),Bz [(3,[0,1,2,3,4,5,6,7,8]),(5,[0,1,2,3,4,5,6,7,8])]⟩
def L94:List (Lp o94):=[]
theorem b94(g96:Bool→Option cr)(AUc:AAq→AAy→Option L8)(AUE:AAq→AA5→Int→Int→Option bV)(n:Nat)(ω:List Bool)(v:i94.V):Cr ⟨T,Pf [(96,⟨i96,o96,i96.un g96⟩),(175,⟨i175,ARM,i175.un AUc⟩),(176,⟨AOL,ARo,AOL.un AUE⟩)],Bz [(3,[0,1,2,3,4,5,6,7,8]),(5,[0,1,2,3,4,5,6,7,8])]⟩ c94 Tryz.f94 (K5 9 L94 n) ω v=i94.un (fun(AE:Int) (AZ:Int) (AM:Bool) (b1:AAM) (b2:AAO) (b3:AAM) (b4:AAN) (b5:AAc) (b6:AAi) (b7:AAn) (b8:AAS)=>
 cond (((b6.length:Int)==0))
  (some ((2,()),(((),AE,(),(),(),AZ,(),(),(),(),AM,()),b1,b2,b3,(),b5,(),b7,b8,b4,b6,())))
 (if(0:Int)≤(0:Int)∧(0:Int)<(b6.length:Int)then(
 (AUc (b1,AE,()) ((b6.getD 0 (0,0,[],[],false,[],())).1,(b6.getD 0 (0,0,[],[],false,[],())).2.1,(b6.getD 0 (0,0,[],[],false,[],())).2.2.1,(b6.getD 0 (0,0,[],[],false,[],())).2.2.2.1,(b6.getD 0 (0,0,[],[],false,[],())).2.2.2.2.1,(b6.getD 0 (0,0,[],[],false,[],())).2.2.2.2.2.1,())).bind fun u2=>
 cond (!u2.1.1)
  (some ((5,()),(((),AE,(),(),(),AZ,(),(),(),(),AM,()),b1,b2,b3,(),b5,(),b7,b8,b4,b6,())))
 (if(0:Int)≤(0:Int)∧(0:Int)<(b6.length:Int)then(
 if(0:Int)≤(0:Int)∧(0:Int)<(b6.length:Int)then(
 (AUE (b1,AE,()) (b4,AZ,()) ((b6.getD 0 (0,0,[],[],false,[],())).1) (((b6.getD 0 (0,0,[],[],false,[],())).2.2.2.2.2.1).length:Int)).bind fun u5=>
 cond (u5.1.1.2.1)
  ((g96 u5.1.1.2.1).bind fun u6=>
  some ((u6.1.1,()),(((),AE,(),(),(),u5.1.1.1.2.1,(),(),(),(),AM,()),b1,b2,b3,(),b5,(),b7,b8,u5.2.1,[],())))
 ((g96 u5.1.1.2.1).bind fun u7=>
 some ((u7.1.1,()),(((),AE,(),(),(),AZ,(),(),(),(),AM,()),b1,b2,b3,(),b5,(),b7,b8,b4,b6,()))))else none)else none))else none)) v:=by rcases ω with _|⟨_|_,_⟩<;>kernel_rfl
theorem e94(n:Nat)(ω:List Bool)(v:i94.V):Cr C94 c94 Tryz.f94 (K5 9 L94 n) ω v=i94.un (I6) v:=b94 KF Ob Pm n ω v
def s94:SQ:=mk Tryz.func94 i94 o94 I6 [s96,ASh,ARl] [(3,[0,1,2,3,4,5,6,7,8]),(5,[0,1,2,3,4,5,6,7,8])] L94 (hJ:= .nil) (he:=e94 AY)
def s95:SQ:=mk Tryz.func95 AKI yK V4 [gr,s41,s60,qm,AIP] [(1,[0,1,2])] []
def AYR:SQ:=mk Tryz.func252 yd FV P5 [] [] [⟨2,⟨[(1,Jz),(6,AG9),(7,BI),(8,BI)],[AJ2]⟩,Jd⟩]
abbrev ADk:A5:=ra
abbrev AMN:A5:=FV
def ARQ:SQ:=mk Tryz.func180 ADk AMN Qv [AYR] [] [⟨2,⟨[(1,BI),(8,.c (.sl false Y6)),(9,BI),(10,BI)],[]⟩,N9⟩]
def AYg:SQ:=mk Tryz.func247 ⟨[(0,qj)],[]⟩ dz O7 [] [] [⟨3,⟨[(3,oT),(7,qj),(8,BI),(9,BI)],sS⟩,Mq⟩]
def AXi:SQ:=mk Tryz.func248 ⟨[(0,BI),(1,.row Y9)],[]⟩ Ci WV [qm,ALU] [(2,[0])] []
def AU2:SQ:=mk Tryz.func249 ⟨[(0,Jz),(1,.row Y8)],AKR⟩ AK4 E6 [] [(1,[2])] [] (he:=fun ω v=>by rcases ω with _|⟨_|_,_⟩<;>kernel_rfl)
def AXU:SQ:=mk Tryz.func280 ⟨[(0,qj),(1,bI),(2,BI)],[]⟩ uJ Yo [wP,AI3,ASH] [] [⟨3,⟨[(1,bI),(2,BI),(6,Jz),(8,T4),(9,xP0),(13,qj),(14,BI),(15,BI)],[zr,zr]⟩,OX⟩]
def AV0:SQ:=mk Tryz.func251 ⟨[(0,Jz),(1,qj),(2,bI)],AKR⟩ AK4 C1 [sd,AU2,AXU] [(0,[0,1])] []
abbrev ABt:A5:=AKo
abbrev ANW:A5:=⟨ASr,[.sl 1 Y8]⟩
def ASv:SQ:=mk Tryz.func179 ABt ANW J1 [s41,s64,te,qm,AUp,AGM,ARN,AYg,AXi,AU2,ALU,AV0] [(1,[0,1,2,3]),(8,[0,1,2,3,4,8,9]),(11,[0,1,2,3,4,5,6,7])] []
abbrev i97:A5:=⟨ASQ,AKy⟩
abbrev o97:A5:=⟨mA,AKy⟩
def c97:Pj:=⟨i97,o97,(i97.un Mt)⟩
def C97:Zg:=⟨T,Pf (SP.l [gr,zV,AI9,sd,ADK,ASv,ARQ]),Bz [(13,[0,1,2,3,4,5,6,7,8,9,10,11]),(16,[0,1,2,3,4,5,6,8,9,10,11])]⟩
def L97:List (Lp o97):=[⟨7,⟨[(0,Jz),(1,BI),(7,dt),(8,BI),(10,.c (.ref 10)),(43,.c (.ref 11)),(44,BI),(45,BI)],[uC,C5,WW,C5,Lk,Tq,S1,.sl 1 Y9,J0,.mem [.v tI,.v tI,.sl true Y8],.sl 9 Y14,FN]⟩,C6⟩]
abbrev ry:A5:=⟨[(0,Jz),(1,BI),(7,dt),(8,BI),(10,.c (.ref 10)),(43,.c (.ref 11)),(44,BI),(45,BI)],[uC,C5,WW,C5,Lk,Tq,S1,.sl 1 Y9,J0,.mem [.v tI,.v tI,.sl true Y8],.sl 9 Y14,FN]⟩
theorem ASB(yc:Int→Int→Int→Option NC)(xQ:AA2→Int→Option LF)(xm:Int→Option HT)(qh:Int→Int→Option Lj)(sn:AA6→Int→Option My)(AFn:AAq→AA5→Int→AB6→ABB→Option Ke)(AH5:AA2→Int→Option NI)(n:Nat)(v:ry.V)(ω:List Bool):HV ⟨T,Pf [(37,⟨i37,o37,i37.un yc⟩),(123,⟨wk,AHW,wk.un xQ⟩),(150,⟨yA,AJH,yA.un xm⟩),(152,⟨i152,ABY,i152.un qh⟩),(178,⟨sO,ABV,sO.un sn⟩),(179,⟨ABt,ANW,ABt.un AFn⟩),(180,⟨ADk,AMN,ADk.un AH5⟩)],Bz [(13,[0,1,2,3,4,5,6,7,8,9,10,11]),(16,[0,1,2,3,4,5,6,8,9,10,11])]⟩ c97 Tryz.f97 (K5 9 L97 n) 7 ω (ry.st 111 v)=ry.un (fun(t1:Int) (t8:Int) (t44:Int) (t45:Int) (AE:Int) (AZ:Int) (AM:Bool) (b1:AAM) (b2:AAO) (b3:AAM) (b4:AAN) (b5:AAc) (b6:AAi) (b7:AAn) (b8:AAS) (hO:Int) (Dj:Int) (dr:ACn) (MC:ABB) (Fc:AAM)=>
 cond (decide (t45<t44))
  (if(0:Int)≤t45∧t45<(Fc.length:Int)then(
  let x8:Int:=(Fc.getD (t45.toNat) 0)
  cond ((decide (x8<(b2.length:Int))))
   ((xQ (b1,AE,b2,b3,b4,AZ,b5,b6,b7,b8,AM,()) x8).bind fun D1=>
   cond (!D1.1.1)
    (if(0:Int)≤x8∧x8<(b2.length:Int)then(
    (sn ((b2.getD (x8.toNat) ([],[],0,())).1,(b2.getD (x8.toNat) ([],[],0,())).2.1,(b2.getD (x8.toNat) ([],[],0,())).2.2.1,()) t8).bind fun MO=>
    if MC.length+1≤Go.M.DA then(
    (C6 n) t1 t8 t44 (AS (t45+1)) AE AZ AM b1 b2 b3 b4 b5 b6 b7 b8 hO Dj dr (MC++[(x8,MO.1.1.2.1,MO.1.1.1.1,MO.1.1.1.2.1,MO.1.1.1.2.2.1,MO.1.1.1.2.2.2.1,())]) Fc)else none)else none)
   ((C6 n) t1 t8 t44 (AS (t45+1)) AE AZ AM b1 b2 b3 b4 b5 b6 b7 b8 hO Dj dr MC Fc))
  ((C6 n) t1 t8 t44 (AS (t45+1)) AE AZ AM b1 b2 b3 b4 b5 b6 b7 b8 hO Dj dr MC Fc))else none)
 ((AH5 (b1,AE,b2,b3,b4,AZ,b5,b6,b7,b8,AM,()) hO).bind fun MK=>
 (AFn (b1,AE,()) (b4,AZ,()) MK.1.1 (hO,Dj,dr,()) MC).bind fun KP=>
 cond (KP.1.1.2.1 !=0)
  (some ((5,()),(((),AE,(),(),(),AZ,(),(),(),(),AM,()),b1,b2,b3,b4,b5,b6,b7,b8,())))
 (if(0:Int)≤t1∧t1<(b7.length:Int)then(
 some ((0,()),(((),AE,(),(),(),AZ,(),(),(),(),AM,()),b1,b2,b3,b4,b5,b6,(b7.set (t1.toNat) (KP.1.1.1.1,KP.1.1.1.2.1,KP.2.1,())),b8,())))else none))) v:=by rcases ω with _|⟨_|_,_|⟨_|_,_⟩⟩<;>kernel_rfl
theorem AUg(n:Nat)(v:ry.V)(ω:List Bool):HV C97 c97 Tryz.f97 (K5 9 L97 n) 7 ω (ry.st 111 v)=ry.un (Nb (C6 n)) v:=ASB Ay Cz Hl Dg GL J1 Qv n v ω
theorem b97(yc:Int→Int→Int→Option NC)(xQ:AA2→Int→Option LF)(xm:Int→Option HT)(qh:Int→Int→Option Lj)(sn:AA6→Int→Option My)(AFn:AAq→AA5→Int→AB6→ABB→Option Ke)(AH5:AA2→Int→Option NI)(n:Nat)(ω:List Bool)(v:i97.V):Cr ⟨T,Pf [(37,⟨i37,o37,i37.un yc⟩),(123,⟨wk,AHW,wk.un xQ⟩),(150,⟨yA,AJH,yA.un xm⟩),(152,⟨i152,ABY,i152.un qh⟩),(178,⟨sO,ABV,sO.un sn⟩),(179,⟨ABt,ANW,ABt.un AFn⟩),(180,⟨ADk,AMN,ADk.un AH5⟩)],Bz [(13,[0,1,2,3,4,5,6,7,8,9,10,11]),(16,[0,1,2,3,4,5,6,8,9,10,11])]⟩ c97 Tryz.f97 (K5 9 L97 n) ω v=i97.un (fun(p1:Int) (p2:Int) (AE:Int) (AZ:Int) (AM:Bool) (b1:AAM) (b2:AAO) (b3:AAM) (b4:AAN) (b5:AAc) (b6:AAi) (b7:AAn) (b8:AAS)=>
 (yc p1 0 (AS ((b7.length:Int)-1))).bind fun u2=>
 cond (!u2.1.1)
  (some ((2,()),(((),AE,(),(),(),AZ,(),(),(),(),AM,()),b1,b2,b3,b4,b5,b6,b7,b8,())))
 (if(0:Int)≤p1∧p1<(b7.length:Int)then(
 (qh ((b7.getD (p1.toNat) (0,0,[],())).1) ((b7.getD (p1.toNat) (0,0,[],())).2.1)).bind fun u5=>
 (xm p2).bind fun u6=>
 (C6 n) p1 u5.1.1.1 (u6.2.1.length:Int) 0 AE AZ AM b1 b2 b3 b4 b5 b6 b7 b8 ((b7.getD (p1.toNat) (0,0,[],())).1) ((b7.getD (p1.toNat) (0,0,[],())).2.1) ((b7.getD (p1.toNat) (0,0,[],())).2.2.1) [] u6.2.1)else none)) v:=by kernel_rfl
theorem e97(n:Nat)(ω:List Bool)(v:i97.V):Cr C97 c97 Tryz.f97 (K5 9 L97 n) ω v=i97.un (NX (C6 n)) v:=b97 Ay Cz Hl Dg GL J1 Qv n ω v
def s97:SQ:=mk Tryz.func97 i97 o97 Mt [gr,zV,AI9,sd,ADK,ASv,ARQ] [(13,[0,1,2,3,4,5,6,7,8,9,10,11]),(16,[0,1,2,3,4,5,6,8,9,10,11])] L97 (hJ:= .cons (fun _=>rfl) AUg (.nil)) (he:=e97 AY)
def ARy:SQ:=mk Tryz.func254 ⟨[(0,.row Y1),(1,.c (.mV (.cons tI .unit)))],[]⟩ Ci PH [] [] []
def AZQ:SQ:=mk Tryz.func281 ⟨[(0,Xz),(1,AJF)],[]⟩ FV Cd [ARy] [] [⟨2,⟨[(0,Xz),(1,AJF),(7,BI),(8,BI)],[]⟩,BD⟩]
def AZH:SQ:=mk Tryz.func253 ⟨[(0,oT),(1,AJF)],rY⟩ ALB Bj [ARy,AZQ] [] [⟨5,⟨[(0,oT),(1,AJF),(5,BI),(6,BI)],rY⟩,A_⟩]
def AW3:SQ:=mk Tryz.func181 ig yq Rh [s61,s5,AD6,AIp,AZH] [] []
def s98:SQ:=mk Tryz.func98 rU ng Ot [s96,ACd,AW3] [(4,[0,1,2,3,4,5,6,7,8]),(5,[0,1,3,4,5,6,7,8])] [] (he:=fun ω v=>by rcases ω with _|⟨_|_,_⟩<;>kernel_rfl)
def s99:SQ:=AYD (ρ:=Jc 0 99 0 0 31 91) (nm:= "slices.Delete[[]loop.example/g00178/impl.Writer,loop.example/g00178/impl.Writer]") tOk (lW.del ⟨by kernel_rfl,by kernel_rfl,by kernel_rfl,by kernel_rfl,by kernel_rfl,by kernel_rfl,by kernel_rfl,by kernel_rfl,by kernel_rfl,by kernel_rfl,by kernel_rfl,by kernel_rfl⟩ mx (by kernel_rfl) (by kernel_rfl)) (r:=Y6) 2 rfl (by kernel_rfl) (by kernel_rfl) FA (fun _=>rfl)
def s31:SQ:=mk Tryz.func31 ALE ⟨mA,[.mem [.ref 1,.v tI,.ref 2,.ref 9,.ref 10,.v tI,.ref 11,.ref 12,.ref 7,.ref 13,.v .bool],C5,UT,Ih,Ih,Ih,Ih,.sl 1 Y9,Ih,C5,Lk,Tq,.sl 2 Y7,J0]⟩ UB [gr,s83,s84,s85,s86,s87,s88,s89,s90,s91,s92,s93,s94,s95,s96,s97,s98,s99] [(27,[0,1,2,3,4,5,6,7,8,9]),(34,[0,1,2,3,4,5,6,7,8,9]),(36,[1,2,3,4,6,7,8,9])] [] (he:=fun ω v=>by rcases ω with _|⟨_|_,_⟩<;>kernel_rfl)
def s11:SQ:=mk Tryz.func11 AK9 AKh MV [s14,s15,s25,s31] [] []
def s8:SQ:=mk Tryz.func8 ra AKh P0 [s11,s15,s25] [] [⟨5,⟨ATN,[uC,FN,Zw,FN,Qp,aF,Zo,Zv,ZH,oD,C5,UT,C5,Lk,Tq,.sl 2 Y7,.sl 1 Y9,J0]⟩,JR⟩]
def s9:SQ:=mk Tryz.func9 ra ADb P4 [s10,s13,s26] [] [⟨5,⟨ATN,[uC,FN,Zw,FN,Qp,aF,Zo,Zv,ZH,oD,C5,UT,C5,Lk,cu,oP,NM,J0]⟩,JV⟩]
abbrev i3:A5:=ABv
abbrev o3:A5:=Ci
def s3:SQ:=mk Tryz.func3 i3 o3 KO [s6,s7,s8,s9,s10,s11] [(11,[0,1,2,3,4,5,6,7,8,9,10,11,12,13,14,15,16,17,18,19,20,21,22,23,24,25,26,27,28,29,30,31,32,33,34,35])] []
end
end Go.Proofs.YtdkfcaidapdecaaGreat.Wk
