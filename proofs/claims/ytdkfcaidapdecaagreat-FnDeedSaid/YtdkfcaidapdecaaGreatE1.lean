/- Each function computes what was printed: by the kernel. -/
import Derived.Test.YtdkfcaidapdecaaGreatE0
import Derived.Test.YtdkfcaidapdecaaGreatProg
import Derived.KernelRfl
set_option linter.unusedVariables false
set_option linter.unusedSimpArgs false
set_option linter.unusedSectionVars false
namespace Go.Proofs.YtdkfcaidapdecaaGreat.Wk
open Go Go.Fw Go.M Go.Proofs
noncomputable section
def s42:SQ:=mk Tryz.func42 vp Cn Ka [AAM,ASj] [(4,[0])] [⟨2,⟨[(0,vC),(8,.c (.sl false Y6)),(9,BM),(10,BM)],[]⟩,Ec⟩]
def AQ7:SQ:=mk Tryz.func250 Fe Fe Tj [AGV] [] []
def AS5:SQ:=mk Tryz.func218 vy Fe Se [AQ7] [] []
def AaX:SQ:=mk Tryz.func219 vy Cn Uu [qi,AVD,AK_] [(4,[0,1])] [⟨2,⟨[(1,J5),(6,X8),(7,BM),(8,BM)],[wi]⟩,L2⟩]
def yN:SQ:=mk Tryz.func129 sB Cn Hw [gr,s39,sr,AJt,AS5,AaX] [] [⟨2,⟨[(2,J5),(3,UU),(10,AKl),(11,BM),(12,BM)],AB4⟩,Ls⟩]
def APL:SQ:=mk Tryz.func130 zG Fe Lm [] [] [⟨2,⟨[(6,.c (.sl false Y3)),(7,BM),(8,BM)],[]⟩,IM⟩]
def s43:SQ:=mk Tryz.func43 vp Cn Mq [yN,APL] [(4,[0])] [⟨2,⟨[(0,vC),(8,.c (.sl false Y7)),(9,BM),(10,BM)],[]⟩,FZ⟩]
def AUw:SQ:=mk Tryz.func131 yy Cn UW [gr] [] []
def s44:SQ:=mk Tryz.func44 vp Cn Kr [AUw] [] [⟨2,⟨[(0,vC),(8,.c (.sl false Y9)),(9,BM),(10,BM)],[]⟩,Eb⟩]
def s45:SQ:=mk Tryz.func45 vp Cn OA [s38,qi,ASj] [(4,[0])] [⟨2,⟨[(0,vC),(8,AGB),(9,BM),(10,BM)],[]⟩,GO⟩]
def s15:SQ:=mk Tryz.func15 pJ Cn SY [s39,s40,s41,s42,s43,s44,s45] [] []
def s36:SQ:=mk Tryz.func36 Fe ⟨[(0,.c (.v .str))],[]⟩ aW [] [] []
def s14:SQ:=mk Tryz.func14 ABp Cn VN [s36,gr,s38] [] [⟨4,⟨[(1,J5),(3,UU),(11,.c (.ref 2)),(12,BM),(13,BM)],[ADW,ADW,.sl 9 tU]⟩,Di⟩]
def s58:SQ:=mk Tryz.func58 zF ⟨[(0,.agg [.ref 0,.v tI])],s7⟩ QX [s59] [(1,[0])] []
abbrev i60:BE:=zG
abbrev o60:BE:=ADd
def s60:SQ:=mk Tryz.func60 i60 o60 EW [s59] [] [⟨3,⟨[(2,J5),(3,xP9),(10,.c (.sl false Y3)),(11,BM),(12,BM)],[.mem [.ref 1,.v tI],SE,.mem [.ref 3,.v tI],SE]⟩,H6⟩]
def AUC:SQ:=mk Tryz.func142 yZ uu JK [] [] []
def s61:SQ:=mk Tryz.func61 lO AB1 DA [AUC] [(1,[0])] []
abbrev i62:BE:=yb
abbrev o62:BE:=AEA
def s62:SQ:=mk Tryz.func62 i62 o62 Fz [s59] [] [⟨3,⟨[(2,J5),(3,xP9),(10,AK4),(11,BM),(12,BM)],ALM⟩,Je⟩]
def s63:SQ:=mk Tryz.func63 vy vP GZ [s59,AUC] [(2,[0,1]),(6,[0,1,2,3,5,6])] [⟨4,⟨[(2,J5),(3,mq),(17,AKl),(18,BM),(19,BM)],ALR⟩,Ln⟩] (hJ:= .cons (fun _=>rfl) (fun n v ω=>by rcases ω with _|⟨_|_,_|⟨_|_,_⟩⟩<;>kernel_rfl) (.nil))
def s64:SQ:=mk Tryz.func64 yy yx NI [] [] []
def s25:SQ:=mk Tryz.func25 pJ ALz Oa [s58,s59,s60,s61,s62,s63,s64] [(1,[0,1]),(5,[0,1,2,3,4,5,6,7,8,9,11,13,14,15,16,17,18,19]),(10,[0,1,2,3,4,5,6,7,8,9,11,12,13,14,16,17,18,19]),(15,[0,1,2,3,4,5,6,7,8,9,11,12,13,14,15,17,18,19]),(20,[0,1,2,3,4,5,6,7,8,9,11,12,13,14,15,16,18,19])] [⟨3,⟨[(1,J5),(2,UU),(3,cP),(25,uU),(26,BM),(27,BM)],b_⟩,FV⟩,⟨8,⟨[(1,J5),(2,UU),(3,cP),(40,.c (.sl false Y6)),(41,BM),(42,BM)],b_⟩,FU⟩,⟨13,⟨[(1,J5),(2,UU),(3,cP),(55,.c (.sl false Y7)),(56,BM),(57,BM)],b_⟩,En⟩,⟨18,⟨[(1,J5),(2,UU),(3,cP),(70,.c (.sl false Y9)),(71,BM),(72,BM)],b_⟩,Ef⟩] (hJ:= .cons (fun _=>rfl) (fun n v ω=>by rcases ω with _|⟨_|_,_|⟨_|_,_⟩⟩<;>kernel_rfl) (.cons (fun _=>rfl) (fun n v ω=>by rcases ω with _|⟨_|_,_|⟨_|_,_⟩⟩<;>kernel_rfl) (.cons (fun _=>rfl) (fun n v ω=>by rcases ω with _|⟨_|_,_|⟨_|_,_⟩⟩<;>kernel_rfl) (.cons (fun _=>rfl) (fun n v ω=>by rcases ω with _|⟨_|_,_|⟨_|_,_⟩⟩<;>kernel_rfl) (.nil))))) (he:=fun ω v=>by rcases ω with _|⟨_|_,_|⟨_|_,_|⟨_|_,_⟩⟩⟩<;>kernel_rfl)
abbrev xB:BE:=Fe
abbrev AFZ:BE:=dM
def AKS:SQ:=mk Tryz.func150 xB AFZ Hs [gr] [] [⟨5,⟨[(0,BM),(3,qK),(10,BM)],s7⟩,Kj⟩]
abbrev ANU:BE:=ABq
abbrev ATG:BE:=ADd
def AFm:SQ:=mk Tryz.func177 ANU ATG EI [s41,s60] [] []
abbrev sb:BE:=AMb
abbrev AJv:BE:=ALG
def AUA:QB:=⟨sb,AJv,(sb.un Mj)⟩
def AZh:Zo:=⟨T,Pw (SP.l [s41,s59,s60,qx,AFm]),CD [(4,[0,1,2])]⟩
def ANj:List (Lp AJv):=[]
theorem AYF(g41:ABA→ABZ→Option Rn)(g59:List Int→Option bW)(g60:ABZ→Option Ig)(AUP:ABA→List Int→Option iT)(ALB:ABA→ABZ→Option br)(n:Nat)(ω:List Bool)(v:sb.V):Cy ⟨T,Pw [(41,⟨i41,o41,i41.un g41⟩),(59,⟨i59,o59,i59.un g59⟩),(60,⟨i60,o60,i60.un g60⟩),(124,⟨i124,AVg,i124.un AUP⟩),(177,⟨ANU,ATG,ANU.un ALB⟩)],CD [(4,[0,1,2])]⟩ AUA Tryz.f149 (LN 0 ANj n) ω v=sb.un (fun(p0:ABA) (p1:ABZ) (p2:AAF)=>
 (g41 (p0.1,p0.2.1,()) (p1.1,p1.2.1,())).bind fun u1=>
 cond (!u1.1.1)
  ((ALB (p0.1,p0.2.1,()) (p1.1,p1.2.1,())).bind fun u2=>
  some (((((),u2.1.1.2.1,()),0,false,()),()),(u2.2.1,())))
 ((AUP (p0.1,p0.2.1,()) p2).bind fun u3=>
 cond (!u3.1.1)
  ((ALB (p0.1,p0.2.1,()) (p1.1,p1.2.1,())).bind fun u4=>
  some (((((),u4.1.1.2.1,()),0,false,()),()),(u4.2.1,())))
 (cond (((p1.1.length:Int)==30))
  ((ALB (p0.1,p0.2.1,()) (p1.1,p1.2.1,())).bind fun u6=>
  some (((((),u6.1.1.2.1,()),0,false,()),()),(u6.2.1,())))
 ((g60 (p1.1,p1.2.1,())).bind fun u7=>
 (g59 p2).bind fun u8=>
 if u7.2.1.length+1≤Go.M.DF then(
 let x9:AAP:=u7.2.1++[(u8.2.1,false,0,())]
 some (((((),u7.1.1.2.1,()),(x9.length:Int),true,()),()),(x9,())))else none)))) v:=by rcases ω with _|⟨_|_,_|⟨_|_,_|⟨_|_,_|⟨_|_,_⟩⟩⟩⟩<;>kernel_rfl
theorem AZt(n:Nat)(ω:List Bool)(v:sb.V):Cy AZh AUA Tryz.f149 (LN 0 ANj n) ω v=sb.un (Mj) v:=AYF LB DI EW Gn EI n ω v
def ATN:SQ:=mk Tryz.func149 sb AJv Mj [s41,s59,s60,qx,AFm] [(4,[0,1,2])] ANj (hJ:= .nil) (he:=AZt Ab)
abbrev i83:BE:=rQ
abbrev o83:BE:=⟨mw,[.mem [.ref 1,.v tI,.ref 2,.ref 3,.ref 9,.v tI,.ref 10,.ref 11,.ref 7,.ref 8,.v .bool],DC,Wl,DC,Iw,Iw,Iw,Nk,KB,MW,Tm,TE]⟩
def c83:QB:=⟨i83,o83,(i83.un KO)⟩
def C83:Zo:=⟨T,Pw (SP.l [ATN,AKS]),CD [(3,[0,1,2,3,4,5,6,7,8])]⟩
def L83:List (Lp o83):=[]
theorem b83(ASk:ABA→ABZ→List Int→Option dz)(xR:Int→Option HQ)(n:Nat)(ω:List Bool)(v:i83.V):Cy ⟨T,Pw [(149,⟨sb,AJv,sb.un ASk⟩),(150,⟨xB,AFZ,xB.un xR⟩)],CD [(3,[0,1,2,3,4,5,6,7,8])]⟩ c83 Tryz.f83 (LN 9 L83 n) ω v=i83.un (fun(p1:Int) (AE:Int) (Aa:Int) (AN:Bool) (b1:AAF) (b2:AAT) (b3:AAF) (b4:AAP) (b5:AAj) (b6:AAo) (b7:AAs) (b8:AAa)=>
 cond (((b5.length:Int)==4))
  (some ((4,()),(((),AE,(),(),(),Aa,(),(),(),(),AN,()),b1,b2,b3,(),(),(),b7,b8,b4,b5,b6,())))
 ((xR p1).bind fun u2=>
 (ASk (b1,AE,()) (b4,Aa,()) u2.2.1).bind fun u3=>
 cond (!u3.1.1.2.2.1)
  (some ((4,()),(((),AE,(),(),(),Aa,(),(),(),(),AN,()),b1,b2,b3,(),(),(),b7,b8,b4,b5,b6,())))
 (if b5.length+1≤Go.M.DF then(
 some ((0,()),(((),AE,(),(),(),u3.1.1.1.2.1,(),(),(),(),AN,()),b1,b2,b3,(),(),(),b7,b8,u3.2.1,(b5++[(u3.1.1.2.1,[],())]),[],())))else none))) v:=by rcases ω with _|⟨_|_,_|⟨_|_,_⟩⟩<;>kernel_rfl
theorem e83(n:Nat)(ω:List Bool)(v:i83.V):Cy C83 c83 Tryz.f83 (LN 9 L83 n) ω v=i83.un (KO) v:=b83 Mj Hs n ω v
def s83:SQ:=mk Tryz.func83 i83 o83 KO [ATN,AKS] [(3,[0,1,2,3,4,5,6,7,8])] L83 (hJ:= .nil) (he:=e83 Ab)
abbrev i226:BE:=ADf
abbrev AV4:BE:=AEA
def AMj:SQ:=mk Tryz.func226 i226 AV4 EG [s62,AAM] [] []
abbrev tH:BE:=AMB
abbrev AIO:BE:=ALL
def AT8:QB:=⟨tH,AIO,(tH.un Jh)⟩
def AZJ:Zo:=⟨T,Pw (SP.l [s62,AAM,AMj]),CD []⟩
def AOY:List (Lp AIO):=[]
theorem AXa(g62:ABb→Option Ko)(ARA:ABA→ABb→Option NB)(AQA:ABA→ABb→Option Xg)(n:Nat)(ω:List Bool)(v:tH.V):Cy ⟨T,Pw [(62,⟨i62,o62,i62.un g62⟩),(127,⟨i127,AUU,i127.un ARA⟩),(226,⟨i226,AV4,i226.un AQA⟩)],CD []⟩ AT8 Tryz.f151 (LN 0 AOY n) ω v=tH.un (fun(p0:ABA) (p1:ABb) (p2:ABY)=>
 (g62 (p1.1,p1.2.1,())).bind fun u1=>
 if u1.2.1.length+1≤Go.M.DF then(
 let x2:ABX:=u1.2.1++[(p2,[],false,())]
 (ARA (p0.1,p0.2.1,()) (p1.1,p1.2.1,())).bind fun u3=>
 cond (!u3.1.1)
  ((AQA (p0.1,p0.2.1,()) (p1.1,p1.2.1,())).bind fun u4=>
  some ((((u4.1.1.1,(),()),0,false,()),()),(u4.2.1,())))
 ((ARA (p0.1,p0.2.1,()) (u1.1.1.1,x2,())).bind fun u5=>
 cond (!u5.1.1)
  ((AQA (p0.1,p0.2.1,()) (p1.1,p1.2.1,())).bind fun u6=>
  some ((((u6.1.1.1,(),()),0,false,()),()),(u6.2.1,())))
 (some ((((u1.1.1.1,(),()),(x2.length:Int),true,()),()),(x2,())))))else none) v:=by rcases ω with _|⟨_|_,_|⟨_|_,_⟩⟩<;>kernel_rfl
theorem AZ9(n:Nat)(ω:List Bool)(v:tH.V):Cy AZJ AT8 Tryz.f151 (LN 0 AOY n) ω v=tH.un (Jh) v:=AXa Fz GX EG n ω v
def AU8:SQ:=mk Tryz.func151 tH AIO Jh [s62,AAM,AMj] [] AOY (hJ:= .nil) (he:=AZ9 Ab)
abbrev i152:BE:=lp
abbrev AD2:BE:=o5
def sn:SQ:=mk Tryz.func152 i152 AD2 Dn [AJt,AVM] [] []
def AZm:SQ:=mk Tryz.func229 ⟨[(0,.row Y10),(1,BM)],[]⟩ Fe Lc [] [] []
def AXs:SQ:=mk Tryz.func228 ⟨[(0,AGB),(1,BM),(2,.c (.fn 229 []))],[]⟩ o5 BL [AZm] [] [⟨3,⟨[(0,AGB),(1,BM),(2,.c (.fn 229 [])),(8,BM),(9,BM),(10,BM)],[]⟩,Av⟩]
abbrev AM9:BE:=zU
abbrev AUb:BE:=o5
def ANz:SQ:=mk Tryz.func153 AM9 AUb IU [AXs] [] []
abbrev i154:BE:=⟨[(0,qK),(1,BM),(2,AGB)],[KB]⟩
abbrev AYv:BE:=⟨AH7,[Iw,KB]⟩
def AUZ:SQ:=ANr (ρ:=JT 154 0 230 231 34 100) (nm:= "slices.Insert[[]loop.example/g00178/impl.Sent,loop.example/g00178/impl.Sent]") (fv:=Tryz.f230) tOk (lN.ins ⟨by kernel_rfl,by kernel_rfl,by kernel_rfl,by kernel_rfl,by kernel_rfl,by kernel_rfl,by kernel_rfl,by kernel_rfl,by kernel_rfl,by kernel_rfl,by kernel_rfl,by kernel_rfl⟩ mx (by kernel_rfl) (by kernel_rfl) (by kernel_rfl) (by kernel_rfl) (by kernel_rfl) (by kernel_rfl) (by kernel_rfl)) (r:=Y10) rfl (by kernel_rfl) (by kernel_rfl) EF (fun _=>rfl)
abbrev i84:BE:=⟨[(0,J5),(1,BM),(2,.c (.v .str))],fP⟩
abbrev o84:BE:=⟨mw,[.mem [.ref 1,.v tI,.ref 2,.ref 3,.ref 4,.v tI,.ref 5,.ref 6,.ref 7,.ref 9,.v .bool],DC,Wl,DC,MW,Tm,TE,Nk,Iw,KB]⟩
def c84:QB:=⟨i84,o84,(i84.un MF)⟩
def C84:Zo:=⟨T,Pw (SP.l [gr,AU8,sn,ANz,AUZ]),CD [(3,[0,1,2,3,4,5,6,7,8]),(8,[0,1,2,3,4,6,7,8])]⟩
def L84:List (Lp o84):=[]
theorem b84(y8:Int→Int→Int→Option NU)(ASY:ABA→ABb→List UInt8→Option Zr)(rD:Int→Int→Option MN)(AVF:ABV→Int→Option Vm)(AUp:Int→AAa→AAa→Option I0)(n:Nat)(ω:List Bool)(v:i84.V):Cy ⟨T,Pw [(37,⟨i37,o37,i37.un y8⟩),(151,⟨tH,AIO,tH.un ASY⟩),(152,⟨i152,AD2,i152.un rD⟩),(153,⟨AM9,AUb,AM9.un AVF⟩),(154,⟨i154,AYv,i154.un AUp⟩)],CD [(3,[0,1,2,3,4,5,6,7,8]),(8,[0,1,2,3,4,6,7,8])]⟩ c84 Tryz.f84 (LN 9 L84 n) ω v=i84.un (fun(p1:Int) (p2:ABY) (AE:Int) (Aa:Int) (AN:Bool) (b1:AAF) (b2:AAT) (b3:AAF) (b4:AAP) (b5:AAj) (b6:AAo) (b7:AAs) (b8:AAa)=>
 (y8 p1 0 (AU ((b5.length:Int)-1))).bind fun u2=>
 cond (!u2.1.1)
  (some ((2,()),(((),AE,(),(),(),Aa,(),(),(),(),AN,()),b1,b2,b3,b4,b5,b6,b7,(),b8,())))
 (if(0:Int)≤p1∧p1<(b5.length:Int)then(
 (ASY (b1,AE,()) ((b5.getD (p1.toNat) (0,[],())).1,(b5.getD (p1.toNat) (0,[],())).2.1,()) p2).bind fun u3=>
 (rD u3.1.1.1.1 u3.1.1.2.1).bind fun u4=>
 (AVF (b1,AE,b2,b3,b4,Aa,b5,b6,b7,b8,AN,()) u4.1.1.1).bind fun u5=>
 cond (!u3.1.1.2.2.1)
  (some ((4,()),(((),AE,(),(),(),Aa,(),(),(),(),AN,()),b1,b2,b3,b4,b5,b6,b7,(),b8,())))
 (cond (((b8.length:Int)==120))
  (some ((4,()),(((),AE,(),(),(),Aa,(),(),(),(),AN,()),b1,b2,b3,b4,b5,b6,b7,(),b8,())))
 (cond (u5.1.1.2.1)
  (some ((4,()),(((),AE,(),(),(),Aa,(),(),(),(),AN,()),b1,b2,b3,b4,b5,b6,b7,(),b8,())))
 (if(0:Int)≤p1∧p1<(b5.length:Int)then(
 (AUp u5.1.1.1 [(u4.1.1.1,p2,false,())] b8).bind fun u8=>
 some ((0,()),(((),AE,(),(),(),Aa,(),(),(),(),AN,()),b1,b2,b3,b4,(b5.set (p1.toNat) (u3.1.1.1.1,u3.2.1,())),b6,b7,(),u8.2.2.1,())))else none))))else none)) v:=by rcases ω with _|⟨_|_,_⟩<;>kernel_rfl
theorem e84(n:Nat)(ω:List Bool)(v:i84.V):Cy C84 c84 Tryz.f84 (LN 9 L84 n) ω v=i84.un (MF) v:=b84 A6 Jh Dn IU EF n ω v
def s84:SQ:=mk Tryz.func84 i84 o84 MF [gr,AU8,sn,ANz,AUZ] [(3,[0,1,2,3,4,5,6,7,8]),(8,[0,1,2,3,4,6,7,8])] L84 (hJ:= .nil) (he:=e84 Ab)
def ABo:SQ:=mk Tryz.func157 zU Fe EP [gr,zm] [] []
abbrev i160:BE:=ALp
abbrev AT3:BE:=dM
def AKZ:SQ:=mk Tryz.func160 i160 AT3 I9 [gr,s59] [] []
abbrev yJ:BE:=⟨[(0,vC),(1,BM),(2,BM)],[]⟩
abbrev AEv:BE:=Fe
def AEa:SQ:=mk Tryz.func155 yJ AEv Dc [ABo,xF,AKZ] [] []
def AGP:SQ:=mk Tryz.func236 lO AB1 Df [s61,tD] [] []
def AX3:SQ:=mk Tryz.func232 ACg sH UL [s61,tD,qi,AGP,AK_] [(3,[0,1,2])] []
abbrev i96:BE:=Cn
abbrev o96:BE:=Fe
def s96:SQ:=mk Tryz.func96 i96 o96 KS [] [] []
abbrev ANe:BE:=⟨[(0,J5),(1,BM),(2,.row Y1)],fP⟩
abbrev AUK:BE:=oK
def APe:SQ:=mk Tryz.func156 ANe AUK L5 [s96,AX3] [(1,[0,1,2,3,4,5,6,7,8,9]),(3,[0,1,3,4,5,6,7,8,9])] [] (he:=fun ω v=>by rcases ω with _|⟨_|_,_⟩<;>kernel_rfl)
abbrev i85:BE:=AMH
abbrev o85:BE:=oK
def c85:QB:=⟨i85,o85,(i85.un JC)⟩
def C85:Zo:=⟨T,Pw (SP.l [gr,sn,AEa,APe]),CD [(1,[0,1,2,3,4,5,6,7,8,9]),(3,[0,1,2,3,4,5,6,7,8,9]),(10,[9,10])]⟩
def L85:List (Lp o85):=[]
theorem b85(y8:Int→Int→Int→Option NU)(rD:Int→Int→Option MN)(tG:ABV→Int→Int→Option IG)(AU9:Int→ABh→Int→Int→Bool→List Int→AAT→List Int→AAP→AAj→AAo→AAs→AAa→Option aC)(n:Nat)(ω:List Bool)(v:i85.V):Cy ⟨T,Pw [(37,⟨i37,o37,i37.un y8⟩),(152,⟨i152,AD2,i152.un rD⟩),(155,⟨yJ,AEv,yJ.un tG⟩),(156,⟨ANe,AUK,ANe.un AU9⟩)],CD [(1,[0,1,2,3,4,5,6,7,8,9]),(3,[0,1,2,3,4,5,6,7,8,9]),(10,[9,10])]⟩ c85 Tryz.f85 (LN 9 L85 n) ω v=i85.un (fun(p1:ABe) (AE:Int) (Aa:Int) (AN:Bool) (b1:AAF) (b2:AAT) (b3:AAF) (b4:AAP) (b5:AAj) (b6:AAo) (b7:AAs) (b8:AAa)=>
 (y8 p1.2.1 0 (AU ((b5.length:Int)-1))).bind fun u2=>
 cond (!u2.1.1)
  (some ((2,()),(((),AE,(),(),(),Aa,(),(),(),(),AN,()),b1,b2,b3,b4,b5,b6,b7,b8,())))
 (if(0:Int)≤p1.2.1∧p1.2.1<(b5.length:Int)then(
 (y8 p1.2.2.1 1 (((b5.getD (p1.2.1.toNat) (0,[],())).2.1).length:Int)).bind fun u4=>
 cond (!u4.1.1)
  (some ((2,()),(((),AE,(),(),(),Aa,(),(),(),(),AN,()),b1,b2,b3,b4,b5,b6,b7,b8,())))
 ((tG (b1,AE,b2,b3,b4,Aa,b5,b6,b7,b8,AN,()) p1.2.2.2.1 ((b5.getD (p1.2.1.toNat) (0,[],())).1)).bind fun u6=>
 cond (u6.1.1 !=0)
  (some ((u6.1.1,()),(((),AE,(),(),(),Aa,(),(),(),(),AN,()),b1,b2,b3,b4,b5,b6,b7,b8,())))
 ((rD ((b5.getD (p1.2.1.toNat) (0,[],())).1) p1.2.2.1).bind fun u8=>
 if(0:Int)≤AU (p1.2.2.1-1)∧AU (p1.2.2.1-1)<(((b5.getD (p1.2.1.toNat) (0,[],())).2.1).length:Int)then(
 (AU9 p1.2.2.2.1 (u8.1.1.1,0,false,((((b5.getD (p1.2.1.toNat) (0,[],())).2.1).getD ((AU (p1.2.2.1-1)).toNat) ([],[],false,())).1),()) AE Aa AN b1 b2 b3 b4 b5 b6 b7 b8).bind fun D5=>
 some ((D5.1.1,()),(((),D5.2.1.2.1,(),(),(),D5.2.1.2.2.2.2.2.1,(),(),(),(),D5.2.1.2.2.2.2.2.2.2.2.2.2.1,()),D5.2.2.1,D5.2.2.2.1,D5.2.2.2.2.1,D5.2.2.2.2.2.1,D5.2.2.2.2.2.2.1,D5.2.2.2.2.2.2.2.1,D5.2.2.2.2.2.2.2.2.1,D5.2.2.2.2.2.2.2.2.2.1,())))else none)))else none)) v:=by kernel_rfl
theorem e85(n:Nat)(ω:List Bool)(v:i85.V):Cy C85 c85 Tryz.f85 (LN 9 L85 n) ω v=i85.un (JC) v:=b85 A6 Dn Dc L5 n ω v
def s85:SQ:=mk Tryz.func85 i85 o85 JC [gr,sn,AEa,APe] [(1,[0,1,2,3,4,5,6,7,8,9]),(3,[0,1,2,3,4,5,6,7,8,9]),(10,[9,10])] L85 (hJ:= .nil) (he:=e85 Ab)
def AYo:SQ:=mk Tryz.func279 ⟨[(0,.row Y1),(1,BM)],[]⟩ Fe Sx [] [] []
def AW8:SQ:=mk Tryz.func278 ⟨[(0,X8),(1,BM),(2,.c (.fn 279 []))],[]⟩ o5 CF [AYo] [] [⟨3,⟨[(0,X8),(1,BM),(2,.c (.fn 279 [])),(8,BM),(9,BM),(10,BM)],[]⟩,A3⟩]
def ATM:SQ:=mk Tryz.func246 AD0 o5 SJ [AW8] [] []
def Aab:SQ:=ANr (ρ:=JT 270 0 284 285 84 134) (nm:= "slices.Insert[[]loop.example/g00178/impl.Entry,loop.example/g00178/impl.Entry]") (fv:=Tryz.f284) tOk (lN.ins ⟨by kernel_rfl,by kernel_rfl,by kernel_rfl,by kernel_rfl,by kernel_rfl,by kernel_rfl,by kernel_rfl,by kernel_rfl,by kernel_rfl,by kernel_rfl,by kernel_rfl,by kernel_rfl⟩ mx (by kernel_rfl) (by kernel_rfl) (by kernel_rfl) (by kernel_rfl) (by kernel_rfl) (by kernel_rfl) (by kernel_rfl)) (r:=Y1) rfl (by kernel_rfl) (by kernel_rfl) Dr (fun _=>rfl)
def ASU:SQ:=mk Tryz.func271 AMI AMM RF [] [] []
def AN7:SQ:=mk Tryz.func237 ⟨[(0,qK),(1,.row Y1)],rz⟩ ALQ Wr [ATM,Aab,ASU] [(4,[1])] []
def AUc:SQ:=mk Tryz.func163 jI yc NG [gr,s61,tD,AGP,AN7] [] [⟨6,⟨[(1,BM),(2,J5),(4,UU),(6,mq),(23,X8),(24,BM),(25,BM)],[ARC,ADE,JV,JV,AKJ,.sl 1 Y1,JV]⟩,JX⟩]
def ATS:SQ:=mk Tryz.func158 lO yc Oj [AUc] [] []
abbrev sO:BE:=jI
abbrev ADx:BE:=wO
def ADJ:SQ:=mk Tryz.func178 sO ADx Ga [tD,ATM] [] []
def AZN:SQ:=mk Tryz.func286 Fe Cn cmp_isNaN_int [] [] []
def AXY:SQ:=mk Tryz.func272 lp Cn cmp_Less_int [AZN] [] []
def AYw:SQ:=mk Tryz.func273 Fe Cn PU [] [] []
def AaY:SQ:=mk Tryz.func238 lP o5 GS [AXY,AYw] [] [⟨3,⟨[(0,ae),(1,BM),(6,BM),(7,BM),(8,BM)],[]⟩,Dg⟩]
def AZK:SQ:=ANr (ρ:=JT 239 0 274 275 24 3) (nm:= "slices.Insert[[]int,int]") (fv:=Tryz.f274) tOk (lN.ins ⟨by kernel_rfl,by kernel_rfl,by kernel_rfl,by kernel_rfl,by kernel_rfl,by kernel_rfl,by kernel_rfl,by kernel_rfl,by kernel_rfl,by kernel_rfl,by kernel_rfl,by kernel_rfl⟩ mx (by kernel_rfl) (by kernel_rfl) (by kernel_rfl) (by kernel_rfl) (by kernel_rfl) (by kernel_rfl) (by kernel_rfl)) (r:=tI) rfl (by kernel_rfl) (by kernel_rfl) J4 (fun _=>rfl)
def AG1:SQ:=mk Tryz.func164 lP AEW LH [s59,AaY,AZK] [] []
def AaR:SQ:=mk Tryz.func234 AL0 AL3 S6 [gr,s62,qx,AAM,AG1,AMj] [(6,[0,1,2,4])] []
def AYb:SQ:=mk Tryz.func161 yv AMD Nt [sn,ANz,ADJ,AaR] [(6,[0,1,2,3,4,6,7,8,9])] [⟨1,ACH,C0⟩]
abbrev ACZ:BE:=ALu
abbrev AQg:BE:=wO
def ARR:SQ:=mk Tryz.func174 ACZ AQg Ji [sn] [] [⟨5,⟨[(2,J5),(4,UU),(6,BM),(33,X8),(34,BM),(35,BM)],[wi,AAQ]⟩,K0⟩]
def AMy:SQ:=mk Tryz.func244 sB vP Ez [s63,yN] [] []
abbrev ADb:BE:=AL5
abbrev AOD:BE:=AML
def AT6:SQ:=mk Tryz.func235 ADb AOD PL [gr,s63,yN,AG1,AMy] [(4,[0,1,2,3,4,6])] []
abbrev i162:BE:=yv
abbrev AQK:BE:=AMD
def c162:QB:=⟨i162,AQK,(i162.un La)⟩
def ASl:Zo:=⟨T,Pw (SP.l [ARR,ADJ,AT6]),CD [(4,[0,1,2,3,4,5,6,7,8,9]),(6,[0,1,2,3,4,5,7,8,9,10])]⟩
def ABz:List (Lp AQK):=[⟨1,ACH,BS⟩]
abbrev kH:BE:=ACH
theorem AQT(AIu:ABT→Int→Option JE)(tT:ABa→Int→Option M9)(AG5:ABA→ABT→Int→Int→Option Xl)(n:Nat)(v:kH.V)(ω:List Bool):Hf ⟨T,Pw [(174,⟨ACZ,AQg,ACZ.un AIu⟩),(178,⟨sO,ADx,sO.un tT⟩),(235,⟨ADb,AOD,ADb.un AG5⟩)],CD [(4,[0,1,2,3,4,5,6,7,8,9]),(6,[0,1,2,3,4,5,7,8,9,10])]⟩ c162 Tryz.f162 (LN 9 ABz n) 1 ω (kH.st 81 v)=kH.un (fun(t1:Int) (t2:Int) (t6:Int) (AE:Int) (Aa:Int) (AN:Bool) (b1:AAF) (b2:AAT) (b3:AAF) (b4:AAP) (b5:AAj) (b6:AAo) (b7:AAs) (b8:AAa)=>
 if(0:Int)≤t1∧t1<(b6.length:Int)then(
 cond (decide (t6≤(((b6.getD (t1.toNat) (0,0,[],[],false,[],())).2.2.2.2.2.1).length:Int)))
  (if(0:Int)≤t1∧t1<(b6.length:Int)then(
  (AIu ((b6.getD (t1.toNat) (0,0,[],[],false,[],())).1,(b6.getD (t1.toNat) (0,0,[],[],false,[],())).2.1,(b6.getD (t1.toNat) (0,0,[],[],false,[],())).2.2.1,(b6.getD (t1.toNat) (0,0,[],[],false,[],())).2.2.2.1,(b6.getD (t1.toNat) (0,0,[],[],false,[],())).2.2.2.2.1,(b6.getD (t1.toNat) (0,0,[],[],false,[],())).2.2.2.2.2.1,()) t6).bind fun u2=>
  if(0:Int)≤t2∧t2<(b2.length:Int)then(
  (tT ((b2.getD (t2.toNat) ([],[],0,())).1,(b2.getD (t2.toNat) ([],[],0,())).2.1,(b2.getD (t2.toNat) ([],[],0,())).2.2.1,()) u2.1.1.1.1).bind fun u3=>
  cond (u2.1.1.2.1)
   (cond (u3.1.1.2.1)
    (cond (((u3.1.1.1.1==u2.1.1.1.1)&&((u3.1.1.1.2.1==u2.1.1.1.2.1)&&((u3.1.1.1.2.2.1==u2.1.1.1.2.2.1)&&((u3.1.1.1.2.2.2.1==u2.1.1.1.2.2.2.1)&&true)))))
     (if(0:Int)≤t1∧t1<(b6.length:Int)then(
     (AG5 (b1,AE,()) ((b6.getD (t1.toNat) (0,0,[],[],false,[],())).1,(b6.getD (t1.toNat) (0,0,[],[],false,[],())).2.1,(b6.getD (t1.toNat) (0,0,[],[],false,[],())).2.2.1,(b6.getD (t1.toNat) (0,0,[],[],false,[],())).2.2.2.1,(b6.getD (t1.toNat) (0,0,[],[],false,[],())).2.2.2.2.1,(b6.getD (t1.toNat) (0,0,[],[],false,[],())).2.2.2.2.2.1,()) t6 t2).bind fun u5=>
     if(0:Int)≤t1∧t1<(b6.length:Int)then(
     (BS n) t1 t2 (AU (t6+1)) AE Aa AN b1 b2 b3 b4 b5 (b6.set (t1.toNat) (u5.1.1.1.1,u5.1.1.1.2.1,u5.2.1,u5.2.2.1,u5.1.1.1.2.2.2.2.1,u5.2.2.2.1,())) b7 b8)else none)else none)
    ((BS n) t1 t2 (AU (t6+1)) AE Aa AN b1 b2 b3 b4 b5 b6 b7 b8))
   ((BS n) t1 t2 (AU (t6+1)) AE Aa AN b1 b2 b3 b4 b5 b6 b7 b8))
  ((BS n) t1 t2 (AU (t6+1)) AE Aa AN b1 b2 b3 b4 b5 b6 b7 b8))else none)else none)
 (some (((()),()),(((),AE,(),(),(),Aa,(),(),(),(),AN,()),b1,b2,b3,b4,b5,b6,b7,b8,()))))else none) v:=by rcases ω with _|⟨_|_,_⟩<;>kernel_rfl
theorem AQ1(n:Nat)(v:kH.V)(ω:List Bool):Hf ASl c162 Tryz.f162 (LN 9 ABz n) 1 ω (kH.st 81 v)=kH.un (HF (BS n)) v:=AQT Ji Ga PL n v ω
theorem AaE(AIu:ABT→Int→Option JE)(tT:ABa→Int→Option M9)(AG5:ABA→ABT→Int→Int→Option Xl)(n:Nat)(ω:List Bool)(v:i162.V):Cy ⟨T,Pw [(174,⟨ACZ,AQg,ACZ.un AIu⟩),(178,⟨sO,ADx,sO.un tT⟩),(235,⟨ADb,AOD,ADb.un AG5⟩)],CD [(4,[0,1,2,3,4,5,6,7,8,9]),(6,[0,1,2,3,4,5,7,8,9,10])]⟩ c162 Tryz.f162 (LN 9 ABz n) ω v=i162.un (fun(p1:Int) (p2:Int) (AE:Int) (Aa:Int) (AN:Bool) (b1:AAF) (b2:AAT) (b3:AAF) (b4:AAP) (b5:AAj) (b6:AAo) (b7:AAs) (b8:AAa)=>
 (BS n) p1 p2 1 AE Aa AN b1 b2 b3 b4 b5 b6 b7 b8) v:=by kernel_rfl
theorem AZR(n:Nat)(ω:List Bool)(v:i162.V):Cy ASl c162 Tryz.f162 (LN 9 ABz n) ω v=i162.un (KC (BS n)) v:=AaE Ji Ga PL n ω v
def AYJ:SQ:=mk Tryz.func162 i162 AQK La [ARR,ADJ,AT6] [(4,[0,1,2,3,4,5,6,7,8,9]),(6,[0,1,2,3,4,5,7,8,9,10])] ABz (hJ:= .cons (fun _=>rfl) AQ1 (.nil)) (he:=AZR Ab)
def s86:SQ:=mk Tryz.func86 rQ oK QN [ABo,ATS,xF,AKZ,AYb,AYJ] [(7,[0,1,3,4,5,6,7,8,11]),(11,[0,1,2,3,4,5,6,7,8,9,10]),(17,[0,1,2,3,4,5,6,7,8,9])] [⟨9,⟨[(0,J5),(1,BM),(6,cW),(41,.c (.ref 5)),(42,BM),(43,BM)],[yH,DC,Wl,DC,MW,Tm,TE,Nk,KB,.mem [.any,.any,.v tI]]⟩,Ew⟩,⟨15,⟨[(0,J5),(1,BM),(72,.c (.ref 6)),(73,BM),(74,BM)],fP⟩,FP⟩]
def s87:SQ:=mk Tryz.func87 yv oK PH [s96,ABo,AUc] [(5,[0,1,3,4,5,6,7,8,11])] []
def AS4:SQ:=mk Tryz.func243 ⟨[(0,BM),(1,.c (.mG (.cons tI .unit)))],[]⟩ Cn M5 [] [] []
def AO5:SQ:=mk Tryz.func276 ⟨[(0,ae),(1,AE4)],[]⟩ Fe Dw [AS4] [] [⟨2,⟨[(0,ae),(1,AE4),(7,BM),(8,BM)],[]⟩,B6⟩]
def AOa:SQ:=mk Tryz.func242 ⟨[(0,qK),(1,AE4)],[DC]⟩ ALV Cm [AS4,AO5] [] [⟨5,⟨[(0,qK),(1,AE4),(5,BM),(6,BM)],[DC]⟩,Bv⟩]
abbrev i168:BE:=lP
abbrev AVJ:BE:=AEW
def AFg:SQ:=mk Tryz.func168 i168 AVJ HS [s59,AOa] [] []
def AZC:SQ:=mk Tryz.func165 AMa AL3 N6 [s62,AAM,AFg] [(8,[0,1,2,4])] [⟨5,⟨[(2,BM),(6,J5),(8,xP9),(19,AK4),(20,BM),(21,BM)],[.mem [.v tI,.ref 1],ka,AQP,.sl 2 Y5]⟩,H7⟩]
def Aad:SQ:=mk Tryz.func166 ALf AML QZ [s63,yN,AFg] [(7,[0,1,2,3,4,5,6])] [⟨5,⟨[(2,BM),(6,J5),(8,mq),(19,AKl),(20,BM),(21,BM)],[AUm,GJ,JV,iK,AUE,GJ,JV,.sl 2 (.sl tI)]⟩,JS⟩]
def s88:SQ:=mk Tryz.func88 rQ ⟨mw,[AOe,DC,Wl,Iw,MW,Tm,TE,Nk,KB,DC]⟩ Qa [qx,ABo,AG1,AZC,Aad] [(9,[0,1,2,3,4,6,7,8,9,10]),(14,[0,1,2,3,4,5,7,8,9,10]),(16,[1,2,3,4,5,6,7,8,9])] [⟨7,⟨[(0,J5),(1,BM),(35,.c (.ref 5)),(36,BM),(37,BM)],AL8⟩,HV⟩,⟨12,⟨[(0,J5),(1,BM),(62,.c (.ref 6)),(63,BM),(64,BM)],AL8⟩,G2⟩] (hJ:= .cons (fun _=>rfl) (fun n v ω=>by kernel_rfl) (.cons (fun _=>rfl) (fun n v ω=>by rcases ω with _|⟨_|_,_⟩<;>kernel_rfl) (.nil)))
def AYj:SQ:=mk Tryz.func240 lj Cn Yd [sr,qx] [] []
def AZU:SQ:=mk Tryz.func241 ⟨[(0,uU)],[]⟩ ⟨AD6,rz⟩ gB [tD,AN7] [] [⟨3,⟨[(3,qK),(9,uU),(10,BM),(11,BM)],rz⟩,NY⟩,⟨8,⟨[(3,qK),(9,uU),(10,BM),(11,BM),(19,X8),(20,BM),(21,BM)],rz⟩,NQ⟩]
abbrev i167:BE:=ALc
abbrev AT9:BE:=⟨ATJ,[Ul,.sl 1 Y1,JV]⟩
def AUo:SQ:=mk Tryz.func167 i167 AT9 Zt [tD,xF,AYj,AZU] [] [⟨5,⟨[(2,ae),(4,BM),(10,UU),(12,.c (.ref 4)),(36,qK),(37,BM),(38,BM)],[Ul,ADE,JV,JV,Ul]⟩,SB⟩]
abbrev i89:BE:=rQ
abbrev o89:BE:=⟨mw,[AOe,DC,Ul,Iw,MW,Tm,TE,Nk,KB,DC]⟩
def c89:QB:=⟨i89,o89,(i89.un KF)⟩
def C89:Zo:=⟨T,Pw (SP.l [gr,zm,AUo,AFg]),CD [(3,[0,1,3,4,5,6,7,8]),(6,[0,1,3,4,5,6,7,8,9])]⟩
def L89:List (Lp o89):=[]
theorem b89(y8:Int→Int→Int→Option NU)(yE:ABV→Int→Option Lb)(ATL:ABA→List Int→Int→Int→AAT→Option U4)(AVa:List Int→Int→Option Xm)(n:Nat)(ω:List Bool)(v:i89.V):Cy ⟨T,Pw [(37,⟨i37,o37,i37.un y8⟩),(123,⟨xn,AFT,xn.un yE⟩),(167,⟨i167,AT9,i167.un ATL⟩),(168,⟨i168,AVJ,i168.un AVa⟩)],CD [(3,[0,1,3,4,5,6,7,8]),(6,[0,1,3,4,5,6,7,8,9])]⟩ c89 Tryz.f89 (LN 9 L89 n) ω v=i89.un (fun(p1:Int) (AE:Int) (Aa:Int) (AN:Bool) (b1:AAF) (b2:AAT) (b3:AAF) (b4:AAP) (b5:AAj) (b6:AAo) (b7:AAs) (b8:AAa)=>
 (y8 p1 0 (AU ((b2.length:Int)-1))).bind fun u2=>
 cond (!u2.1.1)
  (some ((2,()),(((),AE,(),(),(),Aa,(),(),(),(),AN,()),b1,b2,(),b4,b5,b6,b7,b8,b3,())))
 ((yE (b1,AE,b2,b3,b4,Aa,b5,b6,b7,b8,AN,()) p1).bind fun u3=>
 cond (!u3.1.1)
  (some ((2,()),(((),AE,(),(),(),Aa,(),(),(),(),AN,()),b1,b2,(),b4,b5,b6,b7,b8,b3,())))
 (let x4:Int:=AU ((b4.length:Int)-1)
 (ATL (b1,AE,()) b3 p1 (if 0>x4 then 0 else x4) b2).bind fun u6=>
 cond (!u6.1.1.2.1)
  (some ((4,()),(((),AE,(),(),(),Aa,(),(),(),(),AN,()),b1,u6.2.1,(),b4,b5,b6,b7,b8,b3,())))
 (if(0:Int)≤p1∧p1<(u6.2.1.length:Int)then(
 (AVa b3 p1).bind fun u8=>
 some ((0,()),(((),AE,(),(),(),Aa,(),(),(),(),AN,()),b1,(u6.2.1.set (p1.toNat) (u6.2.2.1,u6.2.2.2.1,u6.1.1.1.2.2.1,())),(),b4,b5,b6,b7,b8,u8.2.1,())))else none)))) v:=by rcases ω with _|⟨_|_,_⟩<;>kernel_rfl
theorem e89(n:Nat)(ω:List Bool)(v:i89.V):Cy C89 c89 Tryz.f89 (LN 9 L89 n) ω v=i89.un (KF) v:=b89 A6 C3 Zt HS n ω v
def s89:SQ:=mk Tryz.func89 i89 o89 KF [gr,zm,AUo,AFg] [(3,[0,1,3,4,5,6,7,8]),(6,[0,1,3,4,5,6,7,8,9])] L89 (hJ:= .nil) (he:=e89 Ab)
def AZ8:SQ:=mk Tryz.func169 lp vP ie [] [] []
def s90:SQ:=mk Tryz.func90 AD_ ⟨mw,[.mem [.ref 1,.v tI,.ref 2,.ref 3,.ref 4,.v tI,.ref 5,.ref 9,.ref 7,.ref 8,.v .bool],DC,Wl,DC,MW,Tm,Iw,Nk,KB,TE]⟩ QQ [APL,AZ8] [(1,[0,1,2,3,4,5,6,7,8])] []
abbrev ADq:BE:=jI
abbrev AQz:BE:=yc
def ASS:SQ:=mk Tryz.func170 ADq AQz OX [gr,ATS,AGP] [] []
abbrev ADQ:BE:=jI
abbrev ANM:BE:=uu
def AVb:SQ:=mk Tryz.func172 ADQ ANM QA [tD,qi] [] [⟨5,⟨[(1,BM),(5,qK),(14,X8),(15,BM),(16,BM)],[JV]⟩,L3⟩]
abbrev i171:BE:=ALi
abbrev ANc:BE:=⟨AQy,[DC,.sl 1 Y1,iK]⟩
def ATd:SQ:=mk Tryz.func171 i171 ANc Px [s63,qi,yN,AG1,AN7,AMy] [(8,[0,1,2,3,4,5,6,7,8,9,10])] [⟨6,⟨[(4,J5),(5,UU),(8,xP9),(10,AAg),(31,X8),(32,BM),(33,BM)],[l7,wi,AM8,GJ,JV,iK,AQX,DC,.sl 1 Y1,iK]⟩,L6⟩]
abbrev i91:BE:=rQ
abbrev o91:BE:=⟨mw,[yH,DC,Wl,DC,MW,Tm,.sl 2 Y7,Nk,KB]⟩
def c91:QB:=⟨i91,o91,(i91.un KH)⟩
def C91:Zo:=⟨T,Pw (SP.l [AEa,ASS,ATd,AVb]),CD [(7,[0,1,2,3,4,5,6,7,8,9]),(8,[0,1,2,3,4,5,6,7,8,9,10,11,12]),(11,[0,1,3,4,5,7,8,9,13])]⟩
def L91:List (Lp o91):=[]
def Hi(ω:List Bool):Prop:= ∀(tG:ABV→Int→Int→Option IG) (ABI:ABa→Int→Option Tx) (zy:ABA→ABT→Int→AAZ→Option KI) (z7:ABa→Int→Option KG) (n:Nat) (v:i91.V),Cy ⟨T,Pw [(155,⟨yJ,AEv,yJ.un tG⟩),(170,⟨ADq,AQz,ADq.un ABI⟩),(171,⟨i171,ANc,i171.un zy⟩),(172,⟨ADQ,ANM,ADQ.un z7⟩)],CD [(7,[0,1,2,3,4,5,6,7,8,9]),(8,[0,1,2,3,4,5,6,7,8,9,10,11,12]),(11,[0,1,3,4,5,7,8,9,13])]⟩ c91 Tryz.f91 (LN 9 L91 n) ω v=i91.un (fun(p1:Int) (AE:Int) (Aa:Int) (AN:Bool) (b1:AAF) (b2:AAT) (b3:AAF) (b4:AAP) (b5:AAj) (b6:AAo) (b7:AAs) (b8:AAa)=>
 cond (((b6.length:Int)==0))
  (some ((2,()),(((),AE,(),(),(),Aa,(),(),(),(),AN,()),b1,b2,b3,b4,b5,b6,b7,b8,())))
 (if(0:Int)≤(0:Int)∧(0:Int)<(b6.length:Int)then(
 (tG (b1,AE,b2,b3,b4,Aa,b5,b6,b7,b8,AN,()) p1 ((b6.getD 0 (0,0,[],[],false,[],())).2.1)).bind fun u3=>
 cond (u3.1.1 !=0)
  (some ((u3.1.1,()),(((),AE,(),(),(),Aa,(),(),(),(),AN,()),b1,b2,b3,b4,b5,b6,b7,b8,())))
 (if(0:Int)≤p1∧p1<(b2.length:Int)then(
 (ABI ((b2.getD (p1.toNat) ([],[],0,())).1,(b2.getD (p1.toNat) ([],[],0,())).2.1,(b2.getD (p1.toNat) ([],[],0,())).2.2.1,()) (AU (((b6.getD 0 (0,0,[],[],false,[],())).1)-1))).bind fun u5=>
 (z7 (u5.2.1,u5.2.2.1,u5.1.1.1.2.2.1,()) ((b6.getD 0 (0,0,[],[],false,[],())).2.1)).bind fun u7=>
 (zy (b1,AE,()) ((b6.getD 0 (0,0,[],[],false,[],())).1,(b6.getD 0 (0,0,[],[],false,[],())).2.1,(b6.getD 0 (0,0,[],[],false,[],())).2.2.1,(b6.getD 0 (0,0,[],[],false,[],())).2.2.2.1,(b6.getD 0 (0,0,[],[],false,[],())).2.2.2.2.1,(b6.getD 0 (0,0,[],[],false,[],())).2.2.2.2.2.1,()) p1 u7.2.1).bind fun u8=>
 cond (!u5.1.1.2.1)
  (some ((4,()),(((),AE,(),(),(),Aa,(),(),(),(),AN,()),b1,b2,b3,b4,b5,b6,b7,b8,())))
 (cond (!u8.1.1.2.1)
  (some ((4,()),(((),AE,(),(),(),Aa,(),(),(),(),AN,()),b1,b2,b3,b4,b5,b6,b7,b8,())))
 (if(0:Int)≤p1∧p1<(b2.length:Int)then(
 if(0:Int)≤(0:Int)∧(0:Int)<(b6.length:Int)then(
 some ((0,()),(((),AE,(),(),(),Aa,(),(),(),(),AN,()),b1,(b2.set (p1.toNat) (u5.2.1,u5.2.2.1,u5.1.1.1.2.2.1,())),b3,b4,b5,(b6.set 0 (u8.1.1.1.1,u8.1.1.1.2.1,u8.2.1,u8.2.2.1,u8.1.1.1.2.2.2.2.1,u8.2.2.2.1,())),b7,b8,())))else none)else none)))else none))else none)) v
theorem ASc:Hi []:=by delta Hi;intros;kernel_rfl
theorem AUu:Hi (false::[]):=by delta Hi;intros;kernel_rfl
theorem AVQ(ω:List Bool):Hi (false::false::ω):=by delta Hi;intros;kernel_rfl
theorem AVY:Hi (false::true::[]):=by delta Hi;intros;kernel_rfl
theorem ASX:Hi (false::true::false::[]):=by delta Hi;intros;kernel_rfl
theorem AVf(ω:List Bool):Hi (false::true::false::false::ω):=by delta Hi;intros;kernel_rfl
theorem ATg:Hi (false::true::false::true::[]):=by delta Hi;intros;kernel_rfl
theorem AVW(ω:List Bool):Hi (false::true::false::true::false::ω):=by delta Hi;intros;kernel_rfl
theorem AV9(ω:List Bool):Hi (false::true::false::true::true::ω):=by delta Hi;intros;kernel_rfl
theorem AQL:Hi (false::true::true::[]):=by delta Hi;intros;kernel_rfl
theorem AO3(ω:List Bool):Hi (false::true::true::false::ω):=by delta Hi;intros;kernel_rfl
theorem ANn:Hi (false::true::true::true::[]):=by delta Hi;intros;kernel_rfl
theorem ARI(ω:List Bool):Hi (false::true::true::true::false::ω):=by delta Hi;intros;kernel_rfl
theorem APR(ω:List Bool):Hi (false::true::true::true::true::ω):=by delta Hi;intros;kernel_rfl
theorem AOm:Hi (true::[]):=by delta Hi;intros;kernel_rfl
theorem AP6(ω:List Bool):Hi (true::false::ω):=by delta Hi;intros;kernel_rfl
theorem AP5:Hi (true::true::[]):=by delta Hi;intros;kernel_rfl
theorem AQr:Hi (true::true::false::[]):=by delta Hi;intros;kernel_rfl
theorem AOu(ω:List Bool):Hi (true::true::false::false::ω):=by delta Hi;intros;kernel_rfl
theorem APD:Hi (true::true::false::true::[]):=by delta Hi;intros;kernel_rfl
theorem ANO(ω:List Bool):Hi (true::true::false::true::false::ω):=by delta Hi;intros;kernel_rfl
theorem ANx(ω:List Bool):Hi (true::true::false::true::true::ω):=by delta Hi;intros;kernel_rfl
theorem AOU:Hi (true::true::true::[]):=by delta Hi;intros;kernel_rfl
theorem AQk(ω:List Bool):Hi (true::true::true::false::ω):=by delta Hi;intros;kernel_rfl
theorem ANf:Hi (true::true::true::true::[]):=by delta Hi;intros;kernel_rfl
theorem ANh(ω:List Bool):Hi (true::true::true::true::false::ω):=by delta Hi;intros;kernel_rfl
theorem AP0(ω:List Bool):Hi (true::true::true::true::true::ω):=by delta Hi;intros;kernel_rfl
theorem b91(tG:ABV→Int→Int→Option IG)(ABI:ABa→Int→Option Tx)(zy:ABA→ABT→Int→AAZ→Option KI)(z7:ABa→Int→Option KG)(n:Nat)(ω:List Bool)(v:i91.V):Cy ⟨T,Pw [(155,⟨yJ,AEv,yJ.un tG⟩),(170,⟨ADq,AQz,ADq.un ABI⟩),(171,⟨i171,ANc,i171.un zy⟩),(172,⟨ADQ,ANM,ADQ.un z7⟩)],CD [(7,[0,1,2,3,4,5,6,7,8,9]),(8,[0,1,2,3,4,5,6,7,8,9,10,11,12]),(11,[0,1,3,4,5,7,8,9,13])]⟩ c91 Tryz.f91 (LN 9 L91 n) ω v=i91.un (fun(p1:Int) (AE:Int) (Aa:Int) (AN:Bool) (b1:AAF) (b2:AAT) (b3:AAF) (b4:AAP) (b5:AAj) (b6:AAo) (b7:AAs) (b8:AAa)=>
 cond (((b6.length:Int)==0))
  (some ((2,()),(((),AE,(),(),(),Aa,(),(),(),(),AN,()),b1,b2,b3,b4,b5,b6,b7,b8,())))
 (if(0:Int)≤(0:Int)∧(0:Int)<(b6.length:Int)then(
 (tG (b1,AE,b2,b3,b4,Aa,b5,b6,b7,b8,AN,()) p1 ((b6.getD 0 (0,0,[],[],false,[],())).2.1)).bind fun u3=>
 cond (u3.1.1 !=0)
  (some ((u3.1.1,()),(((),AE,(),(),(),Aa,(),(),(),(),AN,()),b1,b2,b3,b4,b5,b6,b7,b8,())))
 (if(0:Int)≤p1∧p1<(b2.length:Int)then(
 (ABI ((b2.getD (p1.toNat) ([],[],0,())).1,(b2.getD (p1.toNat) ([],[],0,())).2.1,(b2.getD (p1.toNat) ([],[],0,())).2.2.1,()) (AU (((b6.getD 0 (0,0,[],[],false,[],())).1)-1))).bind fun u5=>
 (z7 (u5.2.1,u5.2.2.1,u5.1.1.1.2.2.1,()) ((b6.getD 0 (0,0,[],[],false,[],())).2.1)).bind fun u7=>
 (zy (b1,AE,()) ((b6.getD 0 (0,0,[],[],false,[],())).1,(b6.getD 0 (0,0,[],[],false,[],())).2.1,(b6.getD 0 (0,0,[],[],false,[],())).2.2.1,(b6.getD 0 (0,0,[],[],false,[],())).2.2.2.1,(b6.getD 0 (0,0,[],[],false,[],())).2.2.2.2.1,(b6.getD 0 (0,0,[],[],false,[],())).2.2.2.2.2.1,()) p1 u7.2.1).bind fun u8=>
 cond (!u5.1.1.2.1)
  (some ((4,()),(((),AE,(),(),(),Aa,(),(),(),(),AN,()),b1,b2,b3,b4,b5,b6,b7,b8,())))
 (cond (!u8.1.1.2.1)
  (some ((4,()),(((),AE,(),(),(),Aa,(),(),(),(),AN,()),b1,b2,b3,b4,b5,b6,b7,b8,())))
 (if(0:Int)≤p1∧p1<(b2.length:Int)then(
 if(0:Int)≤(0:Int)∧(0:Int)<(b6.length:Int)then(
 some ((0,()),(((),AE,(),(),(),Aa,(),(),(),(),AN,()),b1,(b2.set (p1.toNat) (u5.2.1,u5.2.2.1,u5.1.1.1.2.2.1,())),b3,b4,b5,(b6.set 0 (u8.1.1.1.1,u8.1.1.1.2.1,u8.2.1,u8.2.2.1,u8.1.1.1.2.2.2.2.1,u8.2.2.2.1,())),b7,b8,())))else none)else none)))else none))else none)) v:=(AF ASc (AF AUu AVQ (AF AVY (AF ASX AVf (AF ATg AVW AV9)) (AF AQL AO3 (AF ANn ARI APR)))) (AF AOm AP6 (AF AP5 (AF AQr AOu (AF APD ANO ANx)) (AF AOU AQk (AF ANf ANh AP0))))) ω tG ABI zy z7 n v
theorem e91(n:Nat)(ω:List Bool)(v:i91.V):Cy C91 c91 Tryz.f91 (LN 9 L91 n) ω v=i91.un (KH) v:=b91 Dc OX Px QA n ω v
def s91:SQ:=mk Tryz.func91 i91 o91 KH [AEa,ASS,ATd,AVb] [(7,[0,1,2,3,4,5,6,7,8,9]),(8,[0,1,2,3,4,5,6,7,8,9,10,11,12]),(11,[0,1,3,4,5,7,8,9,13])] L91 (hJ:= .nil) (he:=e91 Ab)
def AXl:SQ:=mk Tryz.func277 AB0 dM eS [sr,xF] [] [⟨5,⟨[(2,ae),(7,qK),(22,ae),(23,BM),(24,BM)],s7⟩,S2⟩]
def AT4:SQ:=mk Tryz.func245 AB0 Cn HD [sr,qx,AE0,AXl] [(3,[0,1])] []
abbrev i173:BE:=ALP
abbrev AWB:BE:=vM
def ATa:SQ:=mk Tryz.func173 i173 AWB P7 [s63,yN,AE0,AS5,AMy,AT4] [(1,[0,1,2])] []
abbrev i92:BE:=AD_
abbrev o92:BE:=oK
def c92:QB:=⟨i92,o92,(i92.un KL)⟩
def C92:Zo:=⟨T,Pw (SP.l [s96,AKZ,ATa]),CD [(3,[0,1,2,3,4,5,6,7,8]),(4,[0,1,2,3,4,5,7,8,9])]⟩
def L92:List (Lp o92):=[]
theorem b92(g96:Bool→Option cm)(ASQ:ABZ→Int→Option cE)(AVs:ABA→ABT→List Int→Option bY)(n:Nat)(ω:List Bool)(v:i92.V):Cy ⟨T,Pw [(96,⟨i96,o96,i96.un g96⟩),(160,⟨i160,AT3,i160.un ASQ⟩),(173,⟨i173,AWB,i173.un AVs⟩)],CD [(3,[0,1,2,3,4,5,6,7,8]),(4,[0,1,2,3,4,5,7,8,9])]⟩ c92 Tryz.f92 (LN 9 L92 n) ω v=i92.un (fun(AE:Int) (Aa:Int) (AN:Bool) (b1:AAF) (b2:AAT) (b3:AAF) (b4:AAP) (b5:AAj) (b6:AAo) (b7:AAs) (b8:AAa)=>
 cond (((b6.length:Int)==0))
  (some ((2,()),(((),AE,(),(),(),Aa,(),(),(),(),AN,()),b1,b2,b3,b4,b5,b6,b7,b8,())))
 (if(0:Int)≤(0:Int)∧(0:Int)<(b6.length:Int)then(
 if(0:Int)≤(0:Int)∧(0:Int)<(b6.length:Int)then(
 (ASQ (b4,Aa,()) ((b6.getD 0 (0,0,[],[],false,[],())).2.1)).bind fun u3=>
 (AVs (b1,AE,()) ((b6.getD 0 (0,0,[],[],false,[],())).1,(b6.getD 0 (0,0,[],[],false,[],())).2.1,(b6.getD 0 (0,0,[],[],false,[],())).2.2.1,(b6.getD 0 (0,0,[],[],false,[],())).2.2.2.1,(b6.getD 0 (0,0,[],[],false,[],())).2.2.2.2.1,(b6.getD 0 (0,0,[],[],false,[],())).2.2.2.2.2.1,()) u3.2.1).bind fun u4=>
 if(0:Int)≤(0:Int)∧(0:Int)<(b6.length:Int)then(
 (g96 u4.1.1.2.1).bind fun u6=>
 some ((u6.1.1,()),(((),AE,(),(),(),Aa,(),(),(),(),AN,()),b1,b2,b3,b4,b5,(b6.set 0 (u4.1.1.1.1,u4.1.1.1.2.1,u4.2.1,u4.2.2.1,u4.1.1.1.2.2.2.2.1,u4.2.2.2.1,())),b7,b8,())))else none)else none)else none)) v:=by rcases ω with _|⟨_|_,_|⟨_|_,_⟩⟩<;>kernel_rfl
theorem e92(n:Nat)(ω:List Bool)(v:i92.V):Cy C92 c92 Tryz.f92 (LN 9 L92 n) ω v=i92.un (KL) v:=b92 KS I9 P7 n ω v
def s92:SQ:=mk Tryz.func92 i92 o92 KL [s96,AKZ,ATa] [(3,[0,1,2,3,4,5,6,7,8]),(4,[0,1,2,3,4,5,7,8,9])] L92 (hJ:= .nil) (he:=e92 Ab)
def s93:SQ:=mk Tryz.func93 yv oK Sq [AEa,APe,ARR] [] []
abbrev i175:BE:=sB
abbrev AU5:BE:=Cn
def AT5:SQ:=mk Tryz.func175 i175 AU5 Og [qx,yN] [] [⟨4,⟨[(2,J5),(17,AKl),(18,BM),(19,BM)],AOs⟩,KY⟩]
abbrev ARX:BE:=ALH
abbrev AUa:BE:=yU
def ATZ:SQ:=mk Tryz.func176 ARX AUa QG [gr,s41,s60,APL,AFm] [(5,[0,1,2,4])] []
abbrev i94:BE:=AD_
abbrev o94:BE:=⟨mw,[.mem [.ref 1,.v tI,.ref 2,.ref 3,.ref 9,.v tI,.ref 5,.ref 10,.ref 7,.ref 8,.v .bool],DC,Wl,DC,Iw,Tm,Iw,Nk,KB,MW,TE]⟩
def c94:QB:=⟨i94,o94,(i94.un JJ)⟩
def C94:Zo:=⟨T,Pw (SP.l [s96,AT5,ATZ]),CD [(3,[0,1,2,3,4,5,6,7,8]),(5,[0,1,2,3,4,5,6,7,8])]⟩
def L94:List (Lp o94):=[]
theorem b94(g96:Bool→Option cm)(AVV:ABA→ABT→Option L8)(ASZ:ABA→ABZ→Int→Int→Option bu)(n:Nat)(ω:List Bool)(v:i94.V):Cy ⟨T,Pw [(96,⟨i96,o96,i96.un g96⟩),(175,⟨i175,AU5,i175.un AVV⟩),(176,⟨ARX,AUa,ARX.un ASZ⟩)],CD [(3,[0,1,2,3,4,5,6,7,8]),(5,[0,1,2,3,4,5,6,7,8])]⟩ c94 Tryz.f94 (LN 9 L94 n) ω v=i94.un (fun(AE:Int) (Aa:Int) (AN:Bool) (b1:AAF) (b2:AAT) (b3:AAF) (b4:AAP) (b5:AAj) (b6:AAo) (b7:AAs) (b8:AAa)=>
 cond (((b6.length:Int)==0))
  (some ((2,()),(((),AE,(),(),(),Aa,(),(),(),(),AN,()),b1,b2,b3,(),b5,(),b7,b8,b4,b6,())))
 (if(0:Int)≤(0:Int)∧(0:Int)<(b6.length:Int)then(
 (AVV (b1,AE,()) ((b6.getD 0 (0,0,[],[],false,[],())).1,(b6.getD 0 (0,0,[],[],false,[],())).2.1,(b6.getD 0 (0,0,[],[],false,[],())).2.2.1,(b6.getD 0 (0,0,[],[],false,[],())).2.2.2.1,(b6.getD 0 (0,0,[],[],false,[],())).2.2.2.2.1,(b6.getD 0 (0,0,[],[],false,[],())).2.2.2.2.2.1,())).bind fun u2=>
 cond (!u2.1.1)
  (some ((5,()),(((),AE,(),(),(),Aa,(),(),(),(),AN,()),b1,b2,b3,(),b5,(),b7,b8,b4,b6,())))
 (if(0:Int)≤(0:Int)∧(0:Int)<(b6.length:Int)then(
 if(0:Int)≤(0:Int)∧(0:Int)<(b6.length:Int)then(
 (ASZ (b1,AE,()) (b4,Aa,()) ((b6.getD 0 (0,0,[],[],false,[],())).1) (((b6.getD 0 (0,0,[],[],false,[],())).2.2.2.2.2.1).length:Int)).bind fun u5=>
 cond (u5.1.1.2.1)
  ((g96 u5.1.1.2.1).bind fun u6=>
  some ((u6.1.1,()),(((),AE,(),(),(),u5.1.1.1.2.1,(),(),(),(),AN,()),b1,b2,b3,(),b5,(),b7,b8,u5.2.1,[],())))
 ((g96 u5.1.1.2.1).bind fun u7=>
 some ((u7.1.1,()),(((),AE,(),(),(),Aa,(),(),(),(),AN,()),b1,b2,b3,(),b5,(),b7,b8,b4,b6,()))))else none)else none))else none)) v:=by rcases ω with _|⟨_|_,_⟩<;>kernel_rfl
theorem e94(n:Nat)(ω:List Bool)(v:i94.V):Cy C94 c94 Tryz.f94 (LN 9 L94 n) ω v=i94.un (JJ) v:=b94 KS Og QG n ω v
def s94:SQ:=mk Tryz.func94 i94 o94 JJ [s96,AT5,ATZ] [(3,[0,1,2,3,4,5,6,7,8]),(5,[0,1,2,3,4,5,6,7,8])] L94 (hJ:= .nil) (he:=e94 Ab)
def s95:SQ:=mk Tryz.func95 ALE yU WN [gr,s41,s60,qi,AFm] [(1,[0,1,2])] []
def AXA:SQ:=mk Tryz.func252 yb Fe Qb [] [] [⟨2,⟨[(1,J5),(6,AK4),(7,BM),(8,BM)],[AIT]⟩,JZ⟩]
abbrev AC4:BE:=yT
abbrev AMr:BE:=Fe
def AVH:SQ:=mk Tryz.func180 AC4 AMr RW [AXA] [] [⟨2,⟨[(1,BM),(8,.c (.sl false Y6)),(9,BM),(10,BM)],[]⟩,Oc⟩]
def AZp:SQ:=mk Tryz.func247 ⟨[(0,q_)],[]⟩ dM PN [] [] [⟨3,⟨[(3,qK),(7,q_),(8,BM),(9,BM)],s7⟩,NH⟩]
def AZ2:SQ:=mk Tryz.func248 ⟨[(0,BM),(1,.row Y9)],[]⟩ Cn We [qi,AQ7] [(2,[0])] []
def AUz:SQ:=mk Tryz.func249 ⟨[(0,J5),(1,.row Y8)],AL6⟩ AL4 FB [] [(1,[2])] [] (he:=fun ω v=>by rcases ω with _|⟨_|_,_⟩<;>kernel_rfl)
def AYR:SQ:=mk Tryz.func280 ⟨[(0,q_),(1,ae),(2,BM)],[]⟩ wO Ye [xF,AK_,ASU] [] [⟨3,⟨[(1,ae),(2,BM),(6,J5),(8,UU),(9,xP0),(13,q_),(14,BM),(15,BM)],[AAQ,AAQ]⟩,Oq⟩]
def AXg:SQ:=mk Tryz.func251 ⟨[(0,J5),(1,q_),(2,ae)],AL6⟩ AL4 C2 [sn,AUz,AYR] [(0,[0,1])] []
abbrev AB8:BE:=ALo
abbrev APm:BE:=⟨AVh,[.sl 1 Y8]⟩
def ASm:SQ:=mk Tryz.func179 AB8 APm KV [s41,s64,sr,qi,AUw,AE0,AT4,AZp,AZ2,AUz,AQ7,AXg] [(1,[0,1,2,3]),(8,[0,1,2,3,4,8,9]),(11,[0,1,2,3,4,5,6,7])] []
abbrev i97:BE:=⟨AVO,AMN⟩
abbrev o97:BE:=⟨mw,AMN⟩
def c97:QB:=⟨i97,o97,(i97.un ND)⟩
def C97:Zo:=⟨T,Pw (SP.l [gr,zm,AKS,sn,ADJ,ASm,AVH]),CD [(13,[0,1,2,3,4,5,6,7,8,9,10,11]),(16,[0,1,2,3,4,5,6,8,9,10,11])]⟩
def L97:List (Lp o97):=[⟨7,⟨[(0,J5),(1,BM),(7,cW),(8,BM),(10,.c (.ref 10)),(43,.c (.ref 11)),(44,BM),(45,BM)],[yH,DC,Wl,DC,MW,Tm,TE,.sl 1 Y9,KB,.mem [.v tI,.v tI,.sl true Y8],.sl 9 Y14,GJ]⟩,DD⟩]
abbrev sA:BE:=⟨[(0,J5),(1,BM),(7,cW),(8,BM),(10,.c (.ref 10)),(43,.c (.ref 11)),(44,BM),(45,BM)],[yH,DC,Wl,DC,MW,Tm,TE,.sl 1 Y9,KB,.mem [.v tI,.v tI,.sl true Y8],.sl 9 Y14,GJ]⟩
theorem ASd(y8:Int→Int→Int→Option NU)(yE:ABV→Int→Option Lb)(xR:Int→Option HQ)(rD:Int→Int→Option MN)(tT:ABa→Int→Option M9)(AHf:ABA→ABZ→Int→ABi→ABf→Option Ke)(AGJ:ABV→Int→Option NZ)(n:Nat)(v:sA.V)(ω:List Bool):Hf ⟨T,Pw [(37,⟨i37,o37,i37.un y8⟩),(123,⟨xn,AFT,xn.un yE⟩),(150,⟨xB,AFZ,xB.un xR⟩),(152,⟨i152,AD2,i152.un rD⟩),(178,⟨sO,ADx,sO.un tT⟩),(179,⟨AB8,APm,AB8.un AHf⟩),(180,⟨AC4,AMr,AC4.un AGJ⟩)],CD [(13,[0,1,2,3,4,5,6,7,8,9,10,11]),(16,[0,1,2,3,4,5,6,8,9,10,11])]⟩ c97 Tryz.f97 (LN 9 L97 n) 7 ω (sA.st 111 v)=sA.un (fun(t1:Int) (t8:Int) (t44:Int) (t45:Int) (AE:Int) (Aa:Int) (AN:Bool) (b1:AAF) (b2:AAT) (b3:AAF) (b4:AAP) (b5:AAj) (b6:AAo) (b7:AAs) (b8:AAa) (hU:Int) (Dp:Int) (dt:ACk) (MV:ABf) (Fl:AAF)=>
 cond (decide (t45<t44))
  (if(0:Int)≤t45∧t45<(Fl.length:Int)then(
  let x8:Int:=(Fl.getD (t45.toNat) 0)
  cond ((decide (x8<(b2.length:Int))))
   ((yE (b1,AE,b2,b3,b4,Aa,b5,b6,b7,b8,AN,()) x8).bind fun D5=>
   cond (!D5.1.1)
    (if(0:Int)≤x8∧x8<(b2.length:Int)then(
    (tT ((b2.getD (x8.toNat) ([],[],0,())).1,(b2.getD (x8.toNat) ([],[],0,())).2.1,(b2.getD (x8.toNat) ([],[],0,())).2.2.1,()) t8).bind fun MZ=>
    if MV.length+1≤Go.M.DF then(
    (DD n) t1 t8 t44 (AU (t45+1)) AE Aa AN b1 b2 b3 b4 b5 b6 b7 b8 hU Dp dt (MV++[(x8,MZ.1.1.2.1,MZ.1.1.1.1,MZ.1.1.1.2.1,MZ.1.1.1.2.2.1,MZ.1.1.1.2.2.2.1,())]) Fl)else none)else none)
   ((DD n) t1 t8 t44 (AU (t45+1)) AE Aa AN b1 b2 b3 b4 b5 b6 b7 b8 hU Dp dt MV Fl))
  ((DD n) t1 t8 t44 (AU (t45+1)) AE Aa AN b1 b2 b3 b4 b5 b6 b7 b8 hU Dp dt MV Fl))else none)
 ((AGJ (b1,AE,b2,b3,b4,Aa,b5,b6,b7,b8,AN,()) hU).bind fun Mi=>
 (AHf (b1,AE,()) (b4,Aa,()) Mi.1.1 (hU,Dp,dt,()) MV).bind fun Kc=>
 cond (Kc.1.1.2.1 !=0)
  (some ((5,()),(((),AE,(),(),(),Aa,(),(),(),(),AN,()),b1,b2,b3,b4,b5,b6,b7,b8,())))
 (if(0:Int)≤t1∧t1<(b7.length:Int)then(
 some ((0,()),(((),AE,(),(),(),Aa,(),(),(),(),AN,()),b1,b2,b3,b4,b5,b6,(b7.set (t1.toNat) (Kc.1.1.1.1,Kc.1.1.1.2.1,Kc.2.1,())),b8,())))else none))) v:=by rcases ω with _|⟨_|_,_|⟨_|_,_⟩⟩<;>kernel_rfl
theorem AVk(n:Nat)(v:sA.V)(ω:List Bool):Hf C97 c97 Tryz.f97 (LN 9 L97 n) 7 ω (sA.st 111 v)=sA.un (Nj (DD n)) v:=ASd A6 C3 Hs Dn Ga KV RW n v ω
theorem b97(y8:Int→Int→Int→Option NU)(yE:ABV→Int→Option Lb)(xR:Int→Option HQ)(rD:Int→Int→Option MN)(tT:ABa→Int→Option M9)(AHf:ABA→ABZ→Int→ABi→ABf→Option Ke)(AGJ:ABV→Int→Option NZ)(n:Nat)(ω:List Bool)(v:i97.V):Cy ⟨T,Pw [(37,⟨i37,o37,i37.un y8⟩),(123,⟨xn,AFT,xn.un yE⟩),(150,⟨xB,AFZ,xB.un xR⟩),(152,⟨i152,AD2,i152.un rD⟩),(178,⟨sO,ADx,sO.un tT⟩),(179,⟨AB8,APm,AB8.un AHf⟩),(180,⟨AC4,AMr,AC4.un AGJ⟩)],CD [(13,[0,1,2,3,4,5,6,7,8,9,10,11]),(16,[0,1,2,3,4,5,6,8,9,10,11])]⟩ c97 Tryz.f97 (LN 9 L97 n) ω v=i97.un (fun(p1:Int) (p2:Int) (AE:Int) (Aa:Int) (AN:Bool) (b1:AAF) (b2:AAT) (b3:AAF) (b4:AAP) (b5:AAj) (b6:AAo) (b7:AAs) (b8:AAa)=>
 (y8 p1 0 (AU ((b7.length:Int)-1))).bind fun u2=>
 cond (!u2.1.1)
  (some ((2,()),(((),AE,(),(),(),Aa,(),(),(),(),AN,()),b1,b2,b3,b4,b5,b6,b7,b8,())))
 (if(0:Int)≤p1∧p1<(b7.length:Int)then(
 (rD ((b7.getD (p1.toNat) (0,0,[],())).1) ((b7.getD (p1.toNat) (0,0,[],())).2.1)).bind fun u5=>
 (xR p2).bind fun u6=>
 (DD n) p1 u5.1.1.1 (u6.2.1.length:Int) 0 AE Aa AN b1 b2 b3 b4 b5 b6 b7 b8 ((b7.getD (p1.toNat) (0,0,[],())).1) ((b7.getD (p1.toNat) (0,0,[],())).2.1) ((b7.getD (p1.toNat) (0,0,[],())).2.2.1) [] u6.2.1)else none)) v:=by kernel_rfl
theorem e97(n:Nat)(ω:List Bool)(v:i97.V):Cy C97 c97 Tryz.f97 (LN 9 L97 n) ω v=i97.un (Ni (DD n)) v:=b97 A6 C3 Hs Dn Ga KV RW n ω v
def s97:SQ:=mk Tryz.func97 i97 o97 ND [gr,zm,AKS,sn,ADJ,ASm,AVH] [(13,[0,1,2,3,4,5,6,7,8,9,10,11]),(16,[0,1,2,3,4,5,6,8,9,10,11])] L97 (hJ:= .cons (fun _=>rfl) AVk (.nil)) (he:=e97 Ab)
def ATP:SQ:=mk Tryz.func254 ⟨[(0,.row Y1),(1,.c (.mG (.cons tI .unit)))],[]⟩ Cn PV [] [] []
def AYA:SQ:=mk Tryz.func281 ⟨[(0,X8),(1,AJ1)],[]⟩ Fe Ck [ATP] [] [⟨2,⟨[(0,X8),(1,AJ1),(7,BM),(8,BM)],[]⟩,BJ⟩]
def AY3:SQ:=mk Tryz.func253 ⟨[(0,qK),(1,AJ1)],rz⟩ ALQ Bw [ATP,AYA] [] [⟨5,⟨[(0,qK),(1,AJ1),(5,BM),(6,BM)],rz⟩,BG⟩]
def AXX:SQ:=mk Tryz.func181 jI yc SA [s61,tD,AGV,AGP,AY3] [] []
def s98:SQ:=mk Tryz.func98 rQ oK O9 [s96,ABo,AXX] [(4,[0,1,2,3,4,5,6,7,8]),(5,[0,1,3,4,5,6,7,8])] [] (he:=fun ω v=>by rcases ω with _|⟨_|_,_⟩<;>kernel_rfl)
def s99:SQ:=AXu (ρ:=JT 0 99 0 0 31 91) (nm:= "slices.Delete[[]loop.example/g00178/impl.Writer,loop.example/g00178/impl.Writer]") tOk (lN.del ⟨by kernel_rfl,by kernel_rfl,by kernel_rfl,by kernel_rfl,by kernel_rfl,by kernel_rfl,by kernel_rfl,by kernel_rfl,by kernel_rfl,by kernel_rfl,by kernel_rfl,by kernel_rfl⟩ mx (by kernel_rfl) (by kernel_rfl)) (r:=Y6) 2 rfl (by kernel_rfl) (by kernel_rfl) FI (fun _=>rfl)
def s31:SQ:=mk Tryz.func31 AMH ⟨mw,[.mem [.ref 1,.v tI,.ref 2,.ref 9,.ref 10,.v tI,.ref 11,.ref 12,.ref 7,.ref 13,.v .bool],DC,Ul,Iw,Iw,Iw,Iw,.sl 1 Y9,Iw,DC,MW,Tm,.sl 2 Y7,KB]⟩ Ue [gr,s83,s84,s85,s86,s87,s88,s89,s90,s91,s92,s93,s94,s95,s96,s97,s98,s99] [(27,[0,1,2,3,4,5,6,7,8,9]),(34,[0,1,2,3,4,5,6,7,8,9]),(36,[1,2,3,4,6,7,8,9])] [] (he:=fun ω v=>by rcases ω with _|⟨_|_,_⟩<;>kernel_rfl)
def s11:SQ:=mk Tryz.func11 AMF ⟨ANd,[DC,Ul,DC,MW,Tm,.sl 2 Y7,.sl 1 Y9,KB]⟩ PB [s14,s15,s25,s31] [] []
abbrev i4:BE:=ABn
abbrev o4:BE:=Cn
def s4:SQ:=mk Tryz.func4 i4 o4 Uj [s6,s10,s11,s12,s13,s14,s15] [(11,[0,1,2,3,4,5,6,7,8,9,10,11,12,13,14,15,16,17,18,19,20,21,22,23,24,25,26,27]),(15,[0,1,2,3,4,5,6,7,8,9,10,11,12,13,14,15,16,17]),(20,[0,1,2,3,4,5,6,7,8,9,10,11,12,13,14,15,16,17])] [⟨13,⟨[(3,J5),(5,cW),(9,BM)],AMT⟩,Fy⟩,⟨18,⟨[(3,J5),(5,cW),(10,BM)],AMT⟩,Fq⟩]
end
end Go.Proofs.YtdkfcaidapdecaaGreat.Wk
